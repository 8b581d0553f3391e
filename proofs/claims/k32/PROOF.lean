import PyProof.Rows.All
import Wide.All
import OpenK.AllK
import Wide.FinOn
import HandS.ForMost
import HandS.Deep
import HandS.Style
import HandS.TupAny
import HandS.Zip
import HandS.Flow
import KE.SortData
import KE.DataMinMax
import KE.DataEq
import KE.DataFind
import KE.DataAny
import KE.DataIsa
import PySem.Challenge.RW_loadwarrant_k32_whole_leases_and_driftin
set_option Elab.async false
set_option linter.all false
set_option maxRecDepth 100000
set_option maxHeartbeats 4000000
/-! A small evaluator of the programs' own language, over trees of data. -/
namespace Q
open PySem

abbrev D := PyData
/-- how a value is held: for ever the same | a new list or dict | a list or dict of a name of the def's own | read only -/
inductive Kd where | sh | fr | pk | ro
  deriving DecidableEq
structure R where
  kd : Kd
  d : D
abbrev M (α : Type) := Nat → Option (α × Nat)
@[reducible] def ret {α : Type} (a : α) : M α := fun t => some (a, t)
@[reducible] def fail {α : Type} : M α := fun _ => none
def bnd {α β : Type} (m : M α) (f : α → M β) : M β := fun t => match m t with
  | none => none
  | some (a, t') => f a t'
def opt {α : Type} (o : Option α) : M α := fun t => match o with
  | none => none
  | some a => some (a, t)
inductive Sl where
  | un | sh (d : D) | ow (d : D) | ro (d : D)
abbrev Env := List Sl
abbrev lim : Nat := 16777216
def shd (d : D) : R := ⟨.sh, d⟩
def getS (ρ : Env) (i : Nat) : Option R := match ρ[i]? with
  | some (.sh d) => some ⟨.sh, d⟩
  | some (.ow d) => some ⟨.pk, d⟩
  | some (.ro d) => some ⟨.ro, d⟩
  | _ => none
/-- as a part of something: nothing of one's own goes in -/
def shared (r : R) : Option D := match r.kd with
  | .sh => some r.d
  | .fr => some r.d
  | _ => none
def isSc : D → Bool
  | .list _ => false
  | .tuple _ => false
  | .dict _ => false
  | _ => true
/-- the list of draws as one token -/
def tapeD : D := .dict [(.none, .none)]

inductive Op where | add | sub | mul | fdiv | mod | pow
  deriving DecidableEq
inductive Cp where | eq | ne | lt | le | gt | ge | inn | nin | iss | isn
  deriving DecidableEq
inductive B where | len | abs | int | max2 | min2 | max1 | min1 | sum | all | any | tuple | list | sorted | range1 | range2
  deriving DecidableEq
inductive Ty where | int | bool | str | tuple | list | dict
  deriving DecidableEq

/-- by natAbs: the kernel can look at it with no end of steps -/
def intB (i : Int) : Bool := decide (i.natAbs < 18446744073709551616)
theorem intB_iff {i : Int} : intB i = true ↔ (-18446744073709551616 < i ∧ i < 18446744073709551616) := by
  unfold intB
  rw [decide_eq_true_eq]
  omega
def okD (d : D) : Bool := d.plain && decide (d.depth ≤ 60)
def opD (op : Op) (x y : R) : Option R := match op, x.d, y.d with
  | .add, .int a, .int b => some (shd (.int (a + b)))
  | .add, .str a, .str b => if a.length + b.length ≤ lim then some (shd (.str (a ++ b))) else none
  | .add, .list a, .list b => if x.kd ≠ .ro ∧ y.kd ≠ .ro ∧ a.length + b.length ≤ lim then some ⟨.fr, .list (a ++ b)⟩ else none
  | .add, .tuple a, .tuple b => if a.length + b.length ≤ lim then some (shd (.tuple (a ++ b))) else none
  | .sub, .int a, .int b => some (shd (.int (a - b)))
  | .mul, .int a, .int b => if intB a || intB b then some (shd (.int (a * b))) else none
  | .mul, .list a, .int b => if x.kd ≠ .ro ∧ b.natAbs < 9223372036854775808 ∧ a.length * b.toNat ≤ lim then some ⟨.fr, .list (List.replicate b.toNat a).flatten⟩ else none
  | .fdiv, .int a, .int b => if 0 < b ∧ b.natAbs < 1073741824 then some (shd (.int (a / b))) else none
  | .mod, .int a, .int b => if 0 < b then some (shd (.int (a % b))) else none
  | .pow, .int a, .int b => if 0 ≤ b ∧ b.natAbs ≤ 1000000 ∧ a.natAbs < 18446744073709551616 then some (shd (.int (a ^ b.toNat))) else none
  | _, _, _ => none
def isD (x y : D) : Option Bool := match x, y with
  | .none, .none => some true
  | _, .none => some false
  | .bool a, .bool b => some (decide (a = b))
  | _, _ => none
def inD (x y : D) : Option Bool := match y with
  | .list ys => if okD x ∧ okD (.list ys) then some (ys.any fun z => PyData.eqv z x) else none
  | .tuple ys => if okD x ∧ okD (.list ys) then some (ys.any fun z => PyData.eqv z x) else none
  | _ => none
def cpD (op : Cp) (x y : D) : Option Bool := match op with
  | .eq => if okD x ∧ okD y then some (PyData.eqv x y) else none
  | .ne => if okD x ∧ okD y then some (!PyData.eqv x y) else none
  | .lt => match x, y with
    | .int a, .int b => some (decide (a < b))
    | _, _ => none
  | .le => match x, y with
    | .int a, .int b => some (decide (a ≤ b))
    | _, _ => none
  | .gt => match x, y with
    | .int a, .int b => some (decide (b < a))
    | _, _ => none
  | .ge => match x, y with
    | .int a, .int b => some (decide (b ≤ a))
    | _, _ => none
  | .inn => inD x y
  | .nin => (inD x y).map (!·)
  | .iss => isD x y
  | .isn => (isD x y).map (!·)
def tru (d : D) : Option Bool := match d with
  | .bool b => some b
  | _ => none
def ixD (x y : D) : Option D := match x, y with
  | .list xs, .int i => L2.atI xs i
  | .tuple xs, .int i => L2.atI xs i
  | _, _ => none
def cut {α : Type} (xs : List α) (lo hi : Option Int) : List α := (xs.drop (HT.sIx xs.length 0 lo)).take (HT.sIx xs.length xs.length hi - HT.sIx xs.length 0 lo)
def slD (x : D) (lo hi : Option Int) : Option R := match x with
  | .list xs => some ⟨.fr, .list (cut xs lo hi)⟩
  | .tuple xs => some (shd (.tuple (cut xs lo hi)))
  | _ => none
def intOf : D → Option Int
  | .int i => some i
  | _ => none
def intsOf : List D → Option (List Int)
  | [] => some []
  | .int i :: r => (intsOf r).map (i :: ·)
  | _ :: _ => none
def boolsOf : List D → Option (List Bool)
  | [] => some []
  | .bool i :: r => (boolsOf r).map (i :: ·)
  | _ :: _ => none
def seqOf : D → Option (List D)
  | .list xs => some xs
  | .tuple xs => some xs
  | _ => none
def isaD (t : Ty) (x : D) : Bool := match t, x with
  | .int, .int _ => true
  | .int, .bool _ => true
  | .bool, .bool _ => true
  | .str, .str _ => true
  | .tuple, .tuple _ => true
  | .list, .list _ => true
  | .dict, .dict _ => true
  | _, _ => false
/-- data of one kind that can be ordered -/
def alk (xs : List D) : Bool := (xs.all fun x => xs.all fun y => PySem.W.alike x y) && PyData.plainAll xs && decide (PyData.depthAll xs ≤ 50)
def nnoD : D → Bool
  | .none => false
  | _ => true
def neT : D → Bool
  | .tuple (_ :: _) => true
  | _ => false
def ntD : D → Bool
  | .none => false
  | .tuple _ => false
  | _ => true
def ordD (xs : List D) : Bool := alk xs && xs.all nnoD
def srtOk (xs : List D) : Bool := alk xs && (xs.all neT || xs.all ntD) && decide (xs.length ≤ lim)
def leD (a b : D) : Bool := !PySem.W.dataLt b a
def sortD (xs : List D) : List D := xs.mergeSort leD
def rangeL (a b : Int) : List D := (List.range (b - a).toNat).map fun (k : Nat) => PyData.int (a + k)
def rngB (a : Int) : Bool := decide (a.natAbs < 4611686018427387904)
def bltD (f : B) (xs : List R) : Option R := match f, xs with
  | .len, [⟨_, .list a⟩] => some (shd (.int (a.length : Nat)))
  | .len, [⟨_, .tuple a⟩] => some (shd (.int (a.length : Nat)))
  | .abs, [⟨_, .int i⟩] => some (shd (.int (if i < 0 then -i else i)))
  | .int, [⟨_, .int i⟩] => some (shd (.int i))
  | .int, [⟨_, .bool b⟩] => some (shd (.int (if b then 1 else 0)))
  | .max2, [⟨_, .int i⟩, ⟨_, .int j⟩] => some (shd (.int (if j > i then j else i)))
  | .min2, [⟨_, .int i⟩, ⟨_, .int j⟩] => some (shd (.int (if j < i then j else i)))
  | .max1, [⟨_, .list (a :: r)⟩] => if ordD (a :: r) then some (shd (PySem.W.maxD a r)) else none
  | .max1, [⟨_, .tuple (a :: r)⟩] => if ordD (a :: r) then some (shd (PySem.W.maxD a r)) else none
  | .min1, [⟨_, .list (a :: r)⟩] => if ordD (a :: r) then some (shd (PySem.W.minD a r)) else none
  | .min1, [⟨_, .tuple (a :: r)⟩] => if ordD (a :: r) then some (shd (PySem.W.minD a r)) else none
  | .sum, [⟨_, .list a⟩] => (intsOf a).map fun ns => shd (.int ns.sum)
  | .all, [⟨_, .list a⟩] => (boolsOf a).map fun bs => shd (.bool (bs.all id))
  | .any, [⟨_, .list a⟩] => (boolsOf a).map fun bs => shd (.bool (bs.any id))
  | .tuple, [⟨_, .list a⟩] => some (shd (.tuple a))
  | .tuple, [⟨k, .tuple a⟩] => some (shd (.tuple a))
  | .list, [⟨_, .list a⟩] => some ⟨.fr, .list a⟩
  | .list, [⟨_, .tuple a⟩] => some ⟨.fr, .list a⟩
  | .sorted, [⟨_, .list a⟩] => if srtOk a then some ⟨.fr, .list (sortD a)⟩ else none
  | _, _ => none

/-- a place that is stored to -/
inductive Tg where
  | nm (i : Nat) | tp (ts : List Tg)
mutual
inductive E where
  | var (i : Nat)
  | cst (d : D)
  | neg (a : E)
  | bin (op : Op) (a b : E)
  | cmp (op : Cp) (a b : E)
  | chn (op op' : Cp) (a b c : E)
  | land (es : EL)
  | lor (es : EL)
  | lnot (a : E)
  | ite (t : T) (a b : E)
  | tup (es : EL)
  | lst (es : EL)
  | call (f : Nat) (es : EL)
  | nxt (w : Nat) (e : E)
  | blt (f : B) (es : EL)
  | isa (t : Ty) (e : E)
  | ix (a b : E)
  | sl (a : E) (lo hi : EO)
  | lc (vs : List Nat) (elt : E) (tg : Tg) (it : It) (cond : TO)
  | lc2 (vs vs1 : List Nat) (elt : E) (tg : Tg) (it : It) (cond : TO) (tg1 : Tg) (it1 : It) (cond1 : TO)
inductive EL where
  | nil | cons (e : E) (es : EL)
inductive EO where
  | no | so (e : E)
inductive T where
  | cmp (op : Cp) (a b : E)
  | chn (op op' : Cp) (a b c : E)
  | and (ts : TL)
  | or (ts : TL)
  | not (a : T)
  | val (e : E)
inductive TL where
  | nil | cons (t : T) (ts : TL)
inductive TO where
  | no | so (t : T)
inductive It where
  | seq (e : E)
  | rng1 (a : E)
  | rng2 (a b : E)
  | zip (a b : E)
end
/-- a place in a row of targets -/
inductive Tt where
  | tg (t : Tg) | put (i : Nat) (k : E)
mutual
inductive S where
  | asg (tg : Tg) (e : E)
  | par (ts : List Tt) (es : EL)
  | aug (i : Nat) (op : Op) (e : E)
  | augp (i : Nat) (op : Op) (k e : E)
  | app (i : Nat) (e : E)
  | ext (i : Nat) (e : E)
  | put (i : Nat) (k e : E)
  | popl (tg : Tg) (i : Nat)
  | popat (tg : Tg) (i : Nat) (k : E)
  | exp (e : E)
  | ret (e : E)
  | retv (i : Nat)
  | retn
  | ite (t : T) (a b : SS)
  | whl (t : T) (b : SS)
  | frr (tg : Tg) (it : It) (b : SS)
  | brk
  | cnt
  | pss
inductive SS where
  | nil | cons (s : S) (r : SS)
  /-- the list in slot i is never changed again -/
  | frz (i : Nat) (r : SS)
end
structure Fn where
  np : Nat
  sl : Nat
  body : SS

/-! ### the evaluator -/
mutual
def bind1 : Tg → D → Env → Option Env
  | .nm i, d, ρ => some (ρ.set i (.sh d))
  | .tp ts, .tuple ds, ρ => bindL ts ds ρ
  | .tp _, _, _ => none
def bindL : List Tg → List D → Env → Option Env
  | [], [], ρ => some ρ
  | t :: ts, d :: ds, ρ => (bind1 t d ρ).bind fun ρ' => bindL ts ds ρ'
  | _, _, _ => none
end
/-- a target takes a result: a new list becomes a name's own -/
def store : Tg → R → Env → Option Env
  | .nm i, ⟨.fr, d⟩, ρ => some (ρ.set i (.ow d))
  | tg, r, ρ => (shared r).bind fun d => bind1 tg d ρ
def wipeE : Env → List Nat → Env
  | ρ, [] => ρ
  | ρ, v :: vs => (wipeE ρ vs).set v .un
/-- the result of a call: what it may hold of its arguments -/
def callKd (args : List R) (r : R) : Option R :=
  if args.all (fun a => decide (a.kd = .sh) || decide (a.kd = .fr)) then some r
  else if args.all (fun a => decide (a.kd ≠ .ro)) && isSc r.d then some (shd r.d) else none
structure Gl where
  /-- the draws -/
  ds : List Int
  call : Nat → List D → M R
def nextD (ds : List Int) (many : Int) : M Int := fun t =>
  if 0 < many then (if t + 1 > ds.length then some (0, t + 1) else (ds[t]?).map fun x => (x % many, t + 1)) else none
def compM (xs : List D) (f : D → M (Option D)) : M (List D) := match xs with
  | [] => ret []
  | x :: r => bnd (f x) fun o => bnd (compM r f) fun ys => ret (match o with | none => ys | some y => y :: ys)
def catM (xs : List D) (f : D → M (List D)) : M (List D) := match xs with
  | [] => ret []
  | x :: r => bnd (f x) fun o => bnd (catM r f) fun ys => ret (o ++ ys)
def isTape : Option R → Bool
  | some ⟨.sh, .dict [(.none, .none)]⟩ => true
  | _ => false
def lstR (xs : List D) : M R := fun t => if xs.length ≤ lim then some (⟨.fr, .list xs⟩, t) else none
def tupR (xs : List D) : M R := fun t => if xs.length ≤ lim then some (⟨.sh, .tuple xs⟩, t) else none
def bol (o : Option Bool) : M R := fun t => match o with
  | none => none
  | some b => some (⟨.sh, .bool b⟩, t)
def zipD : List D → List D → List D
  | a :: as, b :: bs => .tuple [a, b] :: zipD as bs
  | _, _ => []
def safe (k : Kd) : Bool := match k with
  | .sh => true
  | .fr => true
  | _ => false
def seqI (r : R) : Option (Bool × List D) := match r.d with
  | .list xs => some (safe r.kd, xs)
  | .tuple xs => some (true, xs)
  | _ => none
def zipI (x y : R) : Option (Bool × List D) := match x.d, y.d with
  | .list xs, .list ys => some (safe x.kd && safe y.kd, zipD xs ys)
  | .tuple xs, .tuple ys => some (true, zipD xs ys)
  | _, _ => none
mutual
def ev (g : Gl) : E → Env → M R
  | .var i, ρ => opt (getS ρ i)
  | .cst d, ρ => ret (shd d)
  | .neg a, ρ => bnd (ev g a ρ) fun x => opt ((intOf x.d).map fun i => shd (.int (-i)))
  | .bin op a b, ρ => bnd (ev g a ρ) fun x => bnd (ev g b ρ) fun y => opt (opD op x y)
  | .cmp op a b, ρ => bnd (ev g a ρ) fun x => bnd (ev g b ρ) fun y => bol (cpD op x.d y.d)
  | .chn op op' a b c, ρ => bnd (ev g a ρ) fun x => bnd (ev g b ρ) fun y => bnd (opt (cpD op x.d y.d)) fun k =>
      if k then bnd (ev g c ρ) fun z => bol (cpD op' y.d z.d) else ret (shd (.bool false))
  | .land es, ρ => evAnd g es ρ
  | .lor es, ρ => evOr g es ρ
  | .lnot a, ρ => bnd (ev g a ρ) fun x => bnd (opt (tru x.d)) fun k => ret (shd (.bool (!k)))
  | .ite t a b, ρ => bnd (evT g t ρ) fun k => if k then ev g a ρ else ev g b ρ
  | .tup es, ρ => bnd (evL g es ρ) fun rs => bnd (opt (rs.mapM shared)) fun ds => tupR ds
  | .lst es, ρ => bnd (evL g es ρ) fun rs => bnd (opt (rs.mapM shared)) fun ds => lstR ds
  | .call f es, ρ => bnd (evL g es ρ) fun rs => bnd (g.call f (rs.map (·.d))) fun r => opt (callKd rs r)
  | .nxt w e, ρ => bnd (ev g e ρ) fun x => bnd (opt (intOf x.d)) fun m => if isTape (getS ρ w) then bnd (nextD g.ds m) fun i => ret (shd (.int i)) else fail
  | .blt f es, ρ => bnd (evL g es ρ) fun rs => opt (bltD f rs)
  | .isa t e, ρ => bnd (ev g e ρ) fun x => ret (shd (.bool (isaD t x.d)))
  | .ix a b, ρ => bnd (ev g a ρ) fun x => bnd (ev g b ρ) fun y => opt ((ixD x.d y.d).map shd)
  | .sl a lo hi, ρ => bnd (ev g a ρ) fun x => bnd (evO g lo ρ) fun l => bnd (evO g hi ρ) fun h => opt (slD x.d l h)
  | .lc vs elt tg it cond, ρ => bnd (evI g it ρ) fun xs => bnd (compM xs.2 fun d => bnd (opt (bind1 tg d (wipeE ρ vs))) fun ρ2 => bnd (evTO g cond ρ2) fun k =>
      if k then bnd (ev g elt ρ2) fun r => bnd (opt (shared r)) fun y => ret (some y) else ret none) lstR
  | .lc2 vs vs1 elt tg it cond tg1 it1 cond1, ρ => bnd (evI g it ρ) fun xs => bnd (catM xs.2 fun d => bnd (opt (bind1 tg d (wipeE ρ vs))) fun ρ2 => bnd (evTO g cond ρ2) fun k =>
      if k then bnd (evI g it1 ρ2) fun ys => if ys.1 = false then fail else compM ys.2 fun d1 => bnd (opt (bind1 tg1 d1 (wipeE ρ2 vs1))) fun ρ3 => bnd (evTO g cond1 ρ3) fun k1 =>
        if k1 then bnd (ev g elt ρ3) fun r => bnd (opt (shared r)) fun y => ret (some y) else ret none
      else ret []) lstR
def evL (g : Gl) : EL → Env → M (List R)
  | .nil, _ => ret []
  | .cons e es, ρ => bnd (ev g e ρ) fun r => bnd (evL g es ρ) fun rs => ret (r :: rs)
def evAnd (g : Gl) : EL → Env → M R
  | .nil, _ => fail
  | .cons e .nil, ρ => ev g e ρ
  | .cons e es, ρ => bnd (ev g e ρ) fun x => bnd (opt (tru x.d)) fun k => if k then evAnd g es ρ else ret (shd (.bool false))
def evOr (g : Gl) : EL → Env → M R
  | .nil, _ => fail
  | .cons e .nil, ρ => ev g e ρ
  | .cons e es, ρ => bnd (ev g e ρ) fun x => bnd (opt (tru x.d)) fun k => if k then ret (shd (.bool true)) else evOr g es ρ
def evO (g : Gl) : EO → Env → M (Option Int)
  | .no, _ => ret none
  | .so e, ρ => bnd (ev g e ρ) fun r => bnd (opt (intOf r.d)) fun i => ret (some i)
def evT (g : Gl) : T → Env → M Bool
  | .cmp op a b, ρ => bnd (ev g a ρ) fun x => bnd (ev g b ρ) fun y => opt (cpD op x.d y.d)
  | .chn op op' a b c, ρ => bnd (ev g a ρ) fun x => bnd (ev g b ρ) fun y => bnd (opt (cpD op x.d y.d)) fun k =>
      if k then bnd (ev g c ρ) fun z => opt (cpD op' y.d z.d) else ret false
  | .and ts, ρ => evTA g ts ρ
  | .or ts, ρ => evTR g ts ρ
  | .not a, ρ => bnd (evT g a ρ) fun k => ret (!k)
  | .val e, ρ => bnd (ev g e ρ) fun r => opt (tru r.d)
def evTA (g : Gl) : TL → Env → M Bool
  | .nil, _ => fail
  | .cons t .nil, ρ => evT g t ρ
  | .cons t ts, ρ => bnd (evT g t ρ) fun k => if k then evTA g ts ρ else ret false
def evTR (g : Gl) : TL → Env → M Bool
  | .nil, _ => fail
  | .cons t .nil, ρ => evT g t ρ
  | .cons t ts, ρ => bnd (evT g t ρ) fun k => if k then ret true else evTR g ts ρ
def evTO (g : Gl) : TO → Env → M Bool
  | .no, _ => ret true
  | .so t, ρ => evT g t ρ
def evI (g : Gl) : It → Env → M (Bool × List D)
  | .seq e, ρ => bnd (ev g e ρ) fun r => opt (seqI r)
  | .rng1 a, ρ => bnd (ev g a ρ) fun x => bnd (opt (intOf x.d)) fun i => if rngB i then ret (true, rangeL 0 i) else fail
  | .rng2 a b, ρ => bnd (ev g a ρ) fun x => bnd (ev g b ρ) fun y => bnd (opt (intOf x.d)) fun i => bnd (opt (intOf y.d)) fun j => if rngB i && rngB j then ret (true, rangeL i j) else fail
  | .zip a b, ρ => bnd (ev g a ρ) fun x => bnd (ev g b ρ) fun y => opt (zipI x y)
end
inductive Fl where
  | nx (ρ : Env) | rt (r : R) | bk (ρ : Env) | ct (ρ : Env)
def forM (xs : List D) (body : D → Env → M Fl) (ρ : Env) : M Fl := match xs with
  | [] => ret (.nx ρ)
  | x :: r => bnd (body x ρ) fun fl => match fl with
    | .nx ρ' => forM r body ρ'
    | .ct ρ' => forM r body ρ'
    | .bk ρ' => ret (.nx ρ')
    | .rt v => ret (.rt v)
def whileM (n : Nat) (test : Env → M Bool) (body : Env → M Fl) (ρ : Env) : M Fl := match n with
  | 0 => fail
  | n + 1 => bnd (test ρ) fun k => if k then bnd (body ρ) fun fl => match fl with
    | .nx ρ' => whileM n test body ρ'
    | .ct ρ' => whileM n test body ρ'
    | .bk ρ' => ret (.nx ρ')
    | .rt v => ret (.rt v)
    else ret (.nx ρ)
def frzE (ρ : Env) (i : Nat) : Env := match ρ[i]? with
  | some (.ow d) => ρ.set i (.sh d)
  | _ => ρ
def big : Nat := 1000000000
def augD (op : Op) (x y : R) : Option R := match op, x.d, y.d with
  | .add, .int a, .int b => some (shd (.int (a + b)))
  | .sub, .int a, .int b => some (shd (.int (a - b)))
  | .mul, .int a, .int b => if intB a || intB b then some (shd (.int (a * b))) else none
  | .fdiv, .int a, .int b => if 0 < b ∧ b.natAbs < 1073741824 then some (shd (.int (a / b))) else none
  | .mod, .int a, .int b => if 0 < b then some (shd (.int (a % b))) else none
  | _, _, _ => none
def appD (ρ : Env) (i : Nat) (y : D) : Option Env := match ρ[i]? with
  | some (.ow (.list xs)) => if xs.length < lim then some (ρ.set i (.ow (.list (xs ++ [y])))) else none
  | _ => none
def extD (ρ : Env) (i : Nat) (y : R) : Option Env := match ρ[i]?, y.kd, y.d with
  | some (.ow (.list xs)), .sh, .list ys => if xs.length + ys.length ≤ lim then some (ρ.set i (.ow (.list (xs ++ ys)))) else none
  | some (.ow (.list xs)), .fr, .list ys => if xs.length + ys.length ≤ lim then some (ρ.set i (.ow (.list (xs ++ ys)))) else none
  | _, _, _ => none
def putD (ρ : Env) (i : Nat) (k : D) (y : D) : Option Env := match ρ[i]?, k with
  | some (.ow (.list xs)), .int j => (L2.ixN xs.length j).map fun n => ρ.set i (.ow (.list (xs.set n y)))
  | _, _ => none
def popD (ρ : Env) (i : Nat) : Option (D × Env) := match ρ[i]? with
  | some (.ow (.list xs)) => xs[xs.length - 1]?.map fun y => (y, ρ.set i (.ow (.list xs.dropLast)))
  | _ => none
def popAtD (ρ : Env) (i : Nat) (k : D) : Option (D × Env) := match ρ[i]?, k with
  | some (.ow (.list xs)), .int j => if rngB j then (L2.ixN xs.length j).bind fun n => xs[n]?.map fun y => (y, ρ.set i (.ow (.list (xs.eraseIdx n)))) else none
  | _, _ => none
def getP (ρ : Env) (i : Nat) (k : D) : Option R := match ρ[i]?, k with
  | some (.ow (.list xs)), .int j => (L2.atI xs j).map shd
  | _, _ => none
def storesM (g : Gl) : List Tt → List R → Env → M Env
  | [], [], ρ => ret ρ
  | .tg t :: ts, r :: rs, ρ => bnd (opt (store t r ρ)) fun ρ' => storesM g ts rs ρ'
  | .put i k :: ts, r :: rs, ρ => bnd (opt (shared r)) fun y => bnd (ev g k ρ) fun x => bnd (opt (putD ρ i x.d y)) fun ρ' => storesM g ts rs ρ'
  | _, _, _ => fail
def retS : Option Sl → Option R
  | some (.sh d) => some ⟨.sh, d⟩
  | some (.ow d) => some ⟨.fr, d⟩
  | _ => none
/-- the result as the caller has it -/
def backR (r : R) : Option R := match r.kd with
  | .sh => some r
  | .fr => some r
  | _ => none
mutual
def exec (g : Gl) : S → Env → M Fl
  | .asg tg e, ρ => bnd (ev g e ρ) fun r => bnd (opt (store tg r ρ)) fun ρ' => ret (.nx ρ')
  | .par ts es, ρ => bnd (evL g es ρ) fun rs => if (rs.all fun r => (shared r).isSome) = false then fail else bnd (storesM g ts rs ρ) fun ρ' => ret (.nx ρ')
  | .aug i op e, ρ => bnd (opt (getS ρ i)) fun x => bnd (ev g e ρ) fun r => bnd (opt (augD op x r)) fun z => ret (.nx (ρ.set i (.sh z.d)))
  | .augp i op k e, ρ => bnd (ev g k ρ) fun j => bnd (opt (getP ρ i j.d)) fun x => bnd (ev g e ρ) fun r => bnd (opt (augD op x r)) fun z => bnd (opt (putD ρ i j.d z.d)) fun ρ' => ret (.nx ρ')
  | .app i e, ρ => bnd (ev g e ρ) fun r => bnd (opt (shared r)) fun y => bnd (opt (appD ρ i y)) fun ρ' => ret (.nx ρ')
  | .ext i e, ρ => bnd (ev g e ρ) fun r => bnd (opt (extD ρ i r)) fun ρ' => ret (.nx ρ')
  | .put i k e, ρ => bnd (ev g e ρ) fun r => bnd (opt (shared r)) fun y => bnd (ev g k ρ) fun x => bnd (opt (putD ρ i x.d y)) fun ρ' => ret (.nx ρ')
  | .popl tg i, ρ => bnd (opt (popD ρ i)) fun p => bnd (opt (bind1 tg p.1 p.2)) fun ρ' => ret (.nx ρ')
  | .popat tg i k, ρ => bnd (ev g k ρ) fun x => bnd (opt (popAtD ρ i x.d)) fun p => bnd (opt (bind1 tg p.1 p.2)) fun ρ' => ret (.nx ρ')
  | .exp e, ρ => bnd (ev g e ρ) fun _ => ret (.nx ρ)
  | .ret e, ρ => bnd (ev g e ρ) fun r => bnd (opt (backR r)) fun r => ret (.rt r)
  | .retv i, ρ => bnd (opt (retS ρ[i]?)) fun r => ret (.rt r)
  | .retn, ρ => ret (.rt (shd .none))
  | .ite t a b, ρ => bnd (evT g t ρ) fun k => if k then execs g a ρ else execs g b ρ
  | .whl t b, ρ => whileM big (fun ρ => evT g t ρ) (fun ρ => execs g b ρ) ρ
  | .frr tg it b, ρ => bnd (evI g it ρ) fun xs => if xs.1 = false then fail else forM xs.2 (fun d ρ => bnd (opt (bind1 tg d ρ)) fun ρ' => execs g b ρ') ρ
  | .brk, ρ => ret (.bk ρ)
  | .cnt, ρ => ret (.ct ρ)
  | .pss, ρ => ret (.nx ρ)
def execs (g : Gl) : SS → Env → M Fl
  | .nil, ρ => ret (.nx ρ)
  | .cons s r, ρ => bnd (exec g s ρ) fun fl => match fl with
    | .nx ρ' => execs g r ρ'
    | .rt v => ret (.rt v)
    | .bk ρ' => ret (.bk ρ')
    | .ct ρ' => ret (.ct ρ')
  | .frz i r, ρ => execs g r (frzE ρ i)
end
def endR : Fl → Option R
  | .rt r => some r
  | .nx _ => some (shd .none)
  | _ => none
def entry (fn : Fn) (args : List D) : Env := args.map .sh ++ List.replicate (fn.sl - fn.np) .un
def runF (g : Gl) (fn : Fn) (args : List D) : M R := if args.length = fn.np then bnd (execs g fn.body (entry fn args)) fun fl => opt (endR fl) else fail
def callF (fns : Nat → Option Fn) (ds : List Int) : Nat → Nat → List D → M R
  | 0, _, _ => fail
  | k + 1, f, args => match fns f with
    | none => fail
    | some fn => runF ⟨ds, callF fns ds k⟩ fn args
end Q
namespace Q
open PySem L2
def vis (sc : Scope) (x : Str) : Bool := match sc.names.lookup x with
  | some .local => true
  | some .cell => true
  | some .free => true
  | _ => false
def locl (sc : Scope) (x : Str) : Bool := decide (sc.names.lookup x = some .local)
def celd (sc : Scope) (x : Str) : Bool := decide (sc.names.lookup x = some .cell)
def gl (sc : Scope) (x : Str) : Bool := decide (sc.names.lookup x = some .globalImplicit)
def chkN (N : List Str) (sc : Scope) (i : Nat) : PySem.Expr → Bool
  | .Name x _ => decide (N[i]? = some x) && vis sc x && !(x == ("__debug__" : Str)) && !(x == ("__classdict__" : Str))
  | _ => false
def opM (op : Op) (p : Operator) : Bool := match op, p with
  | .add, .Add => true
  | .sub, .Sub => true
  | .mul, .Mult => true
  | .fdiv, .FloorDiv => true
  | .mod, .Mod => true
  | .pow, .Pow => true
  | _, _ => false
def cpM (op : Cp) (p : CmpOp) : Bool := match op, p with
  | .eq, .Eq => true
  | .ne, .NotEq => true
  | .lt, .Lt => true
  | .le, .LtE => true
  | .gt, .Gt => true
  | .ge, .GtE => true
  | .inn, .In => true
  | .nin, .NotIn => true
  | .iss, .Is => true
  | .isn, .IsNot => true
  | _, _ => false
def cstM (d : D) (k : Const) : Bool := match d, k with
  | .none, .none => true
  | .bool a, .bool b => a == b
  | .int a, .int b => a == b
  | .str a, .str b => decide (a = b)
  | _, _ => false
def bnm : B → Str
  | .len => "len"
  | .abs => "abs"
  | .int => "int"
  | .max2 => "max"
  | .min2 => "min"
  | .max1 => "max"
  | .min1 => "min"
  | .sum => "sum"
  | .all => "all"
  | .any => "any"
  | .tuple => "tuple"
  | .list => "list"
  | .sorted => "sorted"
  | .range1 => "range"
  | .range2 => "range"
def tynm : Ty → Str
  | .int => "int"
  | .bool => "bool"
  | .str => "str"
  | .tuple => "tuple"
  | .list => "list"
  | .dict => "dict"
def noStar : PySem.Expr → Bool
  | .Starred _ _ => false
  | _ => true
def noSet : PySem.Expr → Bool
  | .Set _ _ _ => false
  | _ => true
def noSlice : PySem.Expr → Bool
  | .Slice _ _ _ _ => false
  | _ => true
def noComp : PySem.Expr → Bool
  | .ListComp _ _ _ _ => false
  | .SetComp _ _ _ _ => false
  | .DictComp _ _ _ _ _ => false
  | _ => true
/-- what a test of it asks: its value's truth -/
def plainT : PySem.Expr → Bool
  | .UnaryOp .Not _ _ => false
  | .BoolOp _ _ _ => false
  | .IfExp _ _ _ _ => false
  | .Compare _ _ _ _ => false
  | _ => true
mutual
/-- names to store to; f: the names whose cells are the block's own -/
def chkG (N : List Str) (sc : Scope) (f : Str → Bool) : Tg → PySem.Expr → Bool
  | .nm i, .Name x _ => decide (N[i]? = some x) && (locl sc x || (celd sc x && f x))
  | .tp ts, .Tuple es _ _ => chkGs N sc f ts es
  | _, _ => false
def chkGs (N : List Str) (sc : Scope) (f : Str → Bool) : List Tg → List PySem.Expr → Bool
  | [], [] => true
  | t :: ts, e :: es => chkG N sc f t e && noStar e && chkGs N sc f ts es
  | _, _ => false
end
def ownOf (N : List Str) (vs : List Nat) : List (Str × Nat) := vs.map fun i => (N.getD i "", i)
def fnOf (sc : Scope) : Str → Bool := fun x => sc.names.lookup x == some .cell
mutual
def slotsT : Tg → List Nat
  | .nm i => [i]
  | .tp ts => slotsTs ts
def slotsTs : List Tg → List Nat
  | [] => []
  | t :: ts => slotsT t ++ slotsTs ts
end
def subL (a b : List Nat) : Bool := a.all fun x => b.contains x
mutual
def chkE (fs N : List Str) : Scope → E → PySem.Expr → Bool
  | sc, .var i, e => chkN N sc i e
  | _, .cst d, .Constant k _ _ => cstM d k
  | sc, .neg a, .UnaryOp .USub x _ => chkE fs N sc a x
  | sc, .bin op a b, .BinOp x p y _ => opM op p && chkE fs N sc a x && chkE fs N sc b y
  | sc, .cmp op a b, .Compare x [p] [y] _ => cpM op p && chkE fs N sc a x && chkE fs N sc b y && noSet y
  | sc, .chn op op' a b c, .Compare x [p, q] [y, z] _ => cpM op p && cpM op' q && chkE fs N sc a x && chkE fs N sc b y && chkE fs N sc c z && noSet y && noSet z
  | sc, .land es, .BoolOp .And xs _ => chkB fs N sc es xs
  | sc, .lor es, .BoolOp .Or xs _ => chkB fs N sc es xs
  | sc, .lnot a, .UnaryOp .Not x _ => chkE fs N sc a x
  | sc, .ite t a b, .IfExp x y z _ => chkT fs N sc t x && chkE fs N sc a y && chkE fs N sc b z
  | sc, .tup es, .Tuple xs _ _ => chkL fs N sc es xs
  | sc, .lst es, .List xs _ => chkL fs N sc es xs
  | sc, .call f es, .Call (.Name x _) (y :: ys) [] _ => decide (fs[f]? = some x) && gl sc x && chkL fs N sc es (y :: ys)
  | sc, .nxt w e, .Call (.Name x _) [y, z] [] _ => decide (x = ("_law_next" : Str)) && gl sc x && chkN N sc w y && chkE fs N sc e z && noStar z
  | sc, .blt f es, .Call (.Name x _) (y :: ys) [] _ => decide (x = bnm f) && gl sc x && chkL fs N sc es (y :: ys)
  | sc, .isa t e, .Call (.Name x _) [y, .Name z _] [] _ => decide (x = ("isinstance" : Str)) && gl sc x && chkE fs N sc e y && noStar y && decide (z = tynm t) && gl sc z
  | sc, .ix a b, .Subscript x y _ => chkE fs N sc a x && chkE fs N sc b y && noSlice y
  | sc, .sl a lo hi, .Subscript x (.Slice l h .none _) _ => chkE fs N sc a x && chkO fs N sc lo l && chkO fs N sc hi h
  | sc, .lc vs elt tg it cond, .ListComp x [⟨g, i, ifs, 0⟩] sc2 _ => blkC N sc sc2 (ownOf N vs) && chkI fs N sc it g i && noSet i && chkG N (relS sc2 sc) (fnOf sc2) tg g && subL (slotsT tg) vs && chkTO fs N (relS sc2 sc) cond ifs && chkE fs N (relS sc2 sc) elt x
  | sc, .lc2 vs vs1 elt tg it cond tg1 it1 cond1, .ListComp x [⟨g, i, ifs, 0⟩, ⟨g1, i1, ifs1, 0⟩] sc2 _ => blkC N sc sc2 (ownOf N vs) && chkI fs N sc it g i && noSet i && chkG N (relS sc2 sc) (fnOf sc2) tg g && subL (slotsT tg) vs &&
      chkTO fs N (relS sc2 sc) cond ifs && chkI fs N (relS sc2 sc) it1 g1 i1 && noSet i1 && chkG N (relS sc2 sc) (fnOf sc2) tg1 g1 && subL (slotsT tg1) vs1 && subL vs1 vs && chkTO fs N (relS sc2 sc) cond1 ifs1 && chkE fs N (relS sc2 sc) elt x
  | _, _, _ => false
def chkL (fs N : List Str) : Scope → EL → List PySem.Expr → Bool
  | _, .nil, [] => true
  | sc, .cons e es, x :: xs => chkE fs N sc e x && noStar x && chkL fs N sc es xs
  | _, _, _ => false
def chkB (fs N : List Str) : Scope → EL → List PySem.Expr → Bool
  | sc, .cons e .nil, [x] => chkE fs N sc e x
  | sc, .cons e (.cons e2 es), x :: y :: xs => chkE fs N sc e x && chkB fs N sc (.cons e2 es) (y :: xs)
  | _, _, _ => false
def chkO (fs N : List Str) : Scope → EO → Option PySem.Expr → Bool
  | _, .no, none => true
  | sc, .so e, some x => chkE fs N sc e x
  | _, _, _ => false
def chkT (fs N : List Str) : Scope → T → PySem.Expr → Bool
  | sc, .cmp op a b, .Compare x [p] [y] _ => cpM op p && chkE fs N sc a x && chkE fs N sc b y && noSet y
  | sc, .chn op op' a b c, .Compare x [p, q] [y, z] _ => cpM op p && cpM op' q && chkE fs N sc a x && chkE fs N sc b y && chkE fs N sc c z && noSet y && noSet z
  | sc, .and ts, .BoolOp .And xs _ => chkTL fs N sc ts xs
  | sc, .or ts, .BoolOp .Or xs _ => chkTL fs N sc ts xs
  | sc, .not t, .UnaryOp .Not x _ => chkT fs N sc t x
  | sc, .val e, x => plainT x && chkE fs N sc e x
  | _, _, _ => false
def chkTL (fs N : List Str) : Scope → TL → List PySem.Expr → Bool
  | sc, .cons t .nil, [x] => chkT fs N sc t x
  | sc, .cons t (.cons t2 ts), x :: y :: xs => chkT fs N sc t x && chkTL fs N sc (.cons t2 ts) (y :: xs)
  | _, _, _ => false
def chkTO (fs N : List Str) : Scope → TO → List PySem.Expr → Bool
  | _, .no, [] => true
  | sc, .so t, [x] => chkT fs N sc t x
  | _, _, _ => false
/-- g: the target -/
def chkI (fs N : List Str) : Scope → It → PySem.Expr → PySem.Expr → Bool
  | sc, .seq e, _, x => chkE fs N sc e x
  | sc, .rng1 a, _, .Call (.Name x _) [y] [] _ => decide (x = ("range" : Str)) && gl sc x && chkE fs N sc a y && noStar y
  | sc, .rng2 a b, _, .Call (.Name x _) [y, z] [] _ => decide (x = ("range" : Str)) && gl sc x && chkE fs N sc a y && noStar y && chkE fs N sc b z && noStar z
  | sc, .zip a b, .Tuple _ _ _, .Call (.Name x _) [y, z] [] _ => decide (x = ("zip" : Str)) && gl sc x && chkE fs N sc a y && noStar y && chkE fs N sc b z && noStar z
  | _, _, _, _ => false
end
/-- a comprehension that is made by the statement's own road: a name on the same line -/
def lcOwn (sc : Scope) : PySem.Expr → PySem.Expr → Bool
  | .Name x p, .ListComp _ _ sc2 q => locl sc x && (p.line == q.line) && !(sc2.names.any fun (n, k) => n == x && (k == .local || k == .cell))
  | _, _ => false
def isLc : PySem.Expr → Bool
  | .ListComp _ _ _ _ => true
  | _ => false
def isTup : PySem.Expr → Bool
  | .Tuple _ _ _ => true
  | .List _ _ => true
  | _ => false
def isNm : PySem.Expr → Bool
  | .Name _ _ => true
  | _ => false
def nmsOf (sc : Scope) (ts : List PySem.Expr) : List Str := ts.filterMap fun
  | .Name id pos => if sc.names.lookup id == some .local && pos.line == (ts.head?.map (·.pos.line)).getD 0 then some id else none
  | _ => none
/-- are the stores of a row swapped: by the model's own look -/
def swpN (sc : Scope) (ts vs : List PySem.Expr) : Option (List Str) :=
  if !(ts.length == 2 || ts.length == 3) || vs.length != ts.length then none
  else if (nmsOf sc ts).length != ts.length || (nmsOf sc ts).eraseDups.length != (nmsOf sc ts).length then none
  else if vs.all (foldedForSure 8) then none
  else some (nmsOf sc ts)
def parN (sc : Scope) (ts vs : List PySem.Expr) : Bool := match swpN sc ts vs with
  | none => true
  | some ns => !(vs.all (constantsAlone 8)) && decide ns.Nodup
def fewT (ts : List PySem.Expr) : Bool := decide (ts.length ≤ 100)
def chkTt (fs N : List Str) (sc : Scope) : List Tt → List PySem.Expr → Bool
  | [], [] => true
  | .tg t :: ts, e :: es => chkG N sc (fun _ => true) t e && noStar e && chkTt fs N sc ts es
  | .put i k :: ts, .Subscript x y _ :: es => chkN N sc i x && chkE fs N sc k y && noSlice y && chkTt fs N sc ts es
  | _, _ => false
def ipM (op : Op) (p : Operator) : Bool := match op, p with
  | .add, .Add => true
  | .sub, .Sub => true
  | .mul, .Mult => true
  | .fdiv, .FloorDiv => true
  | .mod, .Mod => true
  | _, _ => false
mutual
def chkS (fs N : List Str) (sc : Scope) : S → Stmt → Bool
  | .asg tg e, .Assign [g] x _ => chkG N sc (fun _ => true) tg g && chkE fs N sc e x && (isNm g || (!isTup x))
  | .par ts es, .Assign [.Tuple gs _ _] (.Tuple xs _ _) _ => chkTt fs N sc ts gs && chkL fs N sc es xs && parN sc gs xs && fewT gs
  | .aug i op e, .AugAssign (.Name x p) q y _ => chkG N sc (fun _ => true) (.nm i) (.Name x p) && ipM op q && chkE fs N sc e y
  | .app i e, .Expr (.Call (.Attribute x m ap) [y] [] p) _ => decide (m = ("append" : Str)) && chkN N sc i x && chkE fs N sc e y && noStar y && (ap.endLine == p.line)
  | .ext i e, .Expr (.Call (.Attribute x m ap) [y] [] p) _ => decide (m = ("extend" : Str)) && chkN N sc i x && chkE fs N sc e y && noStar y && (ap.endLine == p.line)
  | .put i k e, .Assign [.Subscript x y _] z _ => chkN N sc i x && chkE fs N sc k y && noSlice y && chkE fs N sc e z
  | .popl tg i, .Assign [g] (.Call (.Attribute x m ap) [] [] p) _ => decide (m = ("pop" : Str)) && chkN N sc i x && chkG N sc (fun _ => true) tg g && (ap.endLine == p.line)
  | .popat tg i k, .Assign [g] (.Call (.Attribute x m ap) [y] [] p) _ => decide (m = ("pop" : Str)) && chkN N sc i x && chkE fs N sc k y && noStar y && chkG N sc (fun _ => true) tg g && (ap.endLine == p.line)
  | .exp e, .Expr x _ => chkE fs N sc e x && noComp x
  | .ret e, .Return (some x) _ => chkE fs N sc e x
  | .retv i, .Return (some x) _ => chkN N sc i x
  | .retn, .Return none _ => true
  | .ite t a b, .If x y z _ => chkT fs N sc t x && chkSs fs N sc a y && chkSs fs N sc b z
  | .whl t b, .While x y [] _ => chkT fs N sc t x && chkSs fs N sc b y
  | .frr tg it b, .For g i y [] _ => chkG N sc (fun _ => true) tg g && chkI fs N sc it g i && noSet i && chkSs fs N sc b y
  | .brk, .Break _ => true
  | .cnt, .Continue _ => true
  | .pss, .Pass _ => true
  | _, _ => false
def chkSs (fs N : List Str) (sc : Scope) : SS → List Stmt → Bool
  | .nil, [] => true
  | .cons s r, x :: xs => chkS fs N sc s x && chkSs fs N sc r xs
  | .frz _ r, xs => chkSs fs N sc r xs
  | _, _ => false
end
end Q
namespace Q
open PySem PySem.Spec PyProof.Rows L2

/-! ### what a value means -/
structure Pm where
  K : PySem.W.Frag
  aw : Option Addr
  ad : Addr
  ds : List Int
def kD : Key → D
  | .inl i => .int i
  | .inr x => .str x
mutual
inductive Rep (c : Pm) (F : Hp) : V → D → Prop
  | non : Rep c F .non .none
  | bl (b : Bool) : Rep c F (.bl b) (.bool b)
  | int (i : Int) : Rep c F (.int i) (.int i)
  | str (x : Str) : Rep c F (.str x) (.str x)
  | lst {a : Addr} {vs : List V} {ds : List D} : F a = some (.lst vs) → RepL c F vs ds → Rep c F (.ref a) (.list ds)
  | tup {a : Addr} {vs : List V} {ds : List D} : SqT c.K F a vs → RepL c F vs ds → Rep c F (.ref a) (.tuple ds)
  | dic {a : Addr} {kvs : List (Key × V)} {kds : List (D × D)} : F a = some (.dK kvs) → RepK c F kvs kds → Rep c F (.ref a) (.dict kds)
  | tape {a : Addr} : c.aw = some a → Rep c F (.ref a) tapeD
inductive RepL (c : Pm) (F : Hp) : List V → List D → Prop
  | nil : RepL c F [] []
  | cons {v : V} {vs : List V} {d : D} {ds : List D} : Rep c F v d → RepL c F vs ds → RepL c F (v :: vs) (d :: ds)
inductive RepK (c : Pm) (F : Hp) : List (Key × V) → List (D × D) → Prop
  | nil : RepK c F [] []
  | cons {k : Key} {v : V} {kvs : List (Key × V)} {d : D} {kds : List (D × D)} : Rep c F v d → RepK c F kvs kds → RepK c F ((k, v) :: kvs) ((kD k, d) :: kds)
end
def Ext (F F' : Hp) : Prop := ∀ a o, F a = some o → F' a = some o
theorem Ext.refl (F : Hp) : Ext F F := fun _ _ h => h
theorem Ext.trans {F G H : Hp} (a : Ext F G) (b : Ext G H) : Ext F H := fun x o h => b x o (a x o h)
theorem Ext.sqt {K : PySem.W.Frag} {F F' : Hp} {a : Addr} {vs : List V} (e : Ext F F') (h : SqT K F a vs) : SqT K F' a vs := by
  rcases h with (h | ⟨o, h⟩) | h
  · exact .inl (.inl (e _ _ h))
  · exact .inl (.inr ⟨o, e _ _ h⟩)
  · exact .inr h
theorem Ext.sql {K : PySem.W.Frag} {F F' : Hp} {a : Addr} {vs : List V} (e : Ext F F') (h : SqL K F a vs) : SqL K F' a vs := by
  rcases h with (h | ⟨o, h⟩) | h
  · exact .inl (.inl (e _ _ h))
  · exact .inl (.inr ⟨o, e _ _ h⟩)
  · exact .inr h
mutual
theorem Rep.mono {c : Pm} {F F' : Hp} (e : Ext F F') : ∀ {v : V} {d : D}, Rep c F v d → Rep c F' v d
  | _, _, .non => .non
  | _, _, .bl b => .bl b
  | _, _, .int i => .int i
  | _, _, .str x => .str x
  | _, _, .lst h r => .lst (e _ _ h) (RepL.mono e r)
  | _, _, .tup h r => .tup (e.sqt h) (RepL.mono e r)
  | _, _, .dic h r => .dic (e _ _ h) (RepK.mono e r)
  | _, _, .tape h => .tape h
theorem RepL.mono {c : Pm} {F F' : Hp} (e : Ext F F') : ∀ {v : List V} {d : List D}, RepL c F v d → RepL c F' v d
  | _, _, .nil => .nil
  | _, _, .cons h r => .cons (Rep.mono e h) (RepL.mono e r)
theorem RepK.mono {c : Pm} {F F' : Hp} (e : Ext F F') : ∀ {v : List (Key × V)} {d : List (D × D)}, RepK c F v d → RepK c F' v d
  | _, _, .nil => .nil
  | _, _, .cons h r => .cons (Rep.mono e h) (RepK.mono e r)
end
section
variable {c : Pm} {F F' : Hp}
theorem RepL.length : ∀ {vs : List V} {ds : List D}, RepL c F vs ds → vs.length = ds.length
  | _, _, .nil => rfl
  | _, _, .cons _ r => by rw [List.length_cons, List.length_cons, RepL.length r]
theorem RepL.app : ∀ {vs : List V} {ds : List D} {ws : List V} {es : List D}, RepL c F vs ds → RepL c F ws es → RepL c F (vs ++ ws) (ds ++ es)
  | _, _, _, _, .nil, s => s
  | _, _, _, _, .cons h r, s => .cons h (RepL.app r s)
theorem RepL.one {v : V} {d : D} (h : Rep c F v d) : RepL c F [v] [d] := .cons h .nil
theorem RepL.get : ∀ {vs : List V} {ds : List D} {i : Nat} {d : D}, RepL c F vs ds → ds[i]? = some d → ∃ v, vs[i]? = some v ∧ Rep c F v d
  | _, _, _, _, .nil, e => by simp at e
  | _, _, 0, _, .cons h r, e => by
    simp at e
    subst e
    exact ⟨_, rfl, h⟩
  | _, _, i + 1, d, .cons h r, e => by
    obtain ⟨v, h1, h2⟩ := RepL.get (i := i) (d := d) r (by simpa using e)
    exact ⟨v, by simpa using h1, h2⟩
theorem RepL.get' : ∀ {vs : List V} {ds : List D} {i : Nat} {v : V}, RepL c F vs ds → vs[i]? = some v → ∃ d, ds[i]? = some d ∧ Rep c F v d
  | _, _, _, _, .nil, e => by simp at e
  | _, _, 0, _, .cons h r, e => by
    simp at e
    subst e
    exact ⟨_, rfl, h⟩
  | _, _, i + 1, d, .cons h r, e => by
    obtain ⟨v, h1, h2⟩ := RepL.get' (i := i) (v := d) r (by simpa using e)
    exact ⟨v, by simpa using h1, h2⟩
theorem RepL.take : ∀ {vs : List V} {ds : List D} (n : Nat), RepL c F vs ds → RepL c F (vs.take n) (ds.take n)
  | _, _, 0, _ => .nil
  | _, _, _ + 1, .nil => .nil
  | _, _, n + 1, .cons r t => .cons r (RepL.take n t)
theorem RepL.drop : ∀ {vs : List V} {ds : List D} (n : Nat), RepL c F vs ds → RepL c F (vs.drop n) (ds.drop n)
  | _, _, 0, r => r
  | _, _, _ + 1, .nil => .nil
  | _, _, n + 1, .cons _ t => RepL.drop n t
theorem RepL.set {v : V} {d : D} (r : Rep c F v d) : ∀ {xs : List V} {us : List D} (i : Nat), RepL c F xs us → RepL c F (xs.set i v) (us.set i d)
  | _, _, _, .nil => .nil
  | _, _, 0, .cons _ t => .cons r t
  | _, _, i + 1, .cons q t => .cons q (RepL.set r i t)
theorem RepL.rep {xs : List V} {us : List D} (h : RepL c F xs us) : ∀ k : Nat, RepL c F (List.replicate k xs).flatten (List.replicate k us).flatten
  | 0 => .nil
  | k + 1 => by
    rw [List.replicate_succ, List.replicate_succ, List.flatten_cons, List.flatten_cons]
    exact h.app (RepL.rep h k)
theorem RepL.nil_iff {vs : List V} {ds : List D} (h : RepL c F vs ds) : vs = [] ↔ ds = [] := by
  cases h <;> simp
mutual
theorem Rep.sc : ∀ {v : V} {d : D}, isSc d = true → Rep c F v d → Rep c F' v d
  | _, _, _, .non => .non
  | _, _, _, .bl b => .bl b
  | _, _, _, .int i => .int i
  | _, _, _, .str x => .str x
  | _, _, e, .lst _ _ => by simp [isSc] at e
  | _, _, e, .tup _ _ => by simp [isSc] at e
  | _, _, e, .dic _ _ => by simp [isSc] at e
  | _, _, e, .tape _ => by simp [isSc, tapeD] at e
end
/-- the top of a list or dict, wherever it stands -/
def Top (c : Pm) (F H : Hp) (a : Addr) (d : D) : Prop := match d with
  | .list ds => ∃ vs, H a = some (.lst vs) ∧ RepL c F vs ds
  | .dict kds => c.aw ≠ some a ∧ ∃ kvs, H a = some (.dK kvs) ∧ RepK c F kvs kds
  | _ => False
def TopR (c : Pm) (F H : Hp) (a : Addr) (d : D) : Prop := match d with
  | .list ds => ∃ vs, SqL c.K H a vs ∧ RepL c F vs ds
  | _ => False
/-- a result: H0 the heap ahead of it -/
def RR (c : Pm) (H0 F H : Hp) (v : V) (r : R) : Prop := match r.kd with
  | .sh => Rep c F v r.d
  | .fr => ∃ a, v = .ref a ∧ H0 a = none ∧ F a = none ∧ Top c F H a r.d
  | .pk => ∃ a, v = .ref a ∧ F a = none ∧ Top c F H a r.d
  | .ro => ∃ a, v = .ref a ∧ TopR c F H a r.d
def Tape (c : Pm) (F H : Hp) (t : Nat) : Prop := match c.aw with
  | none => True
  | some a => H a = some (.dK [(.inr "draws", .ref c.ad), (.inr "at", .int (t : Int))]) ∧ F a = none ∧ F c.ad = some (.lst (c.ds.map V.int))
structure Grow (c : Pm) (F H F' H' : Hp) : Prop where
  ex : Ext F F'
  hx : ∀ a o, c.aw ≠ some a → H a = some o → H' a = some o
  nw : ∀ a, F a = none → F' a ≠ none → H a = none
  sub : Ext F' H'
  aw : ∀ a, c.aw = some a → H a ≠ none
  aw' : ∀ a, c.aw = some a → H' a ≠ none
theorem Grow.refl {H : Hp} (s : Ext F H) (w : ∀ a, c.aw = some a → H a ≠ none) : Grow c F H F H := ⟨Ext.refl _, fun _ _ _ h => h, fun a h h' => absurd h h', s, w, w⟩
theorem Tape.som {H : Hp} {t : Nat} {a : Addr} (h : Tape c F H t) (e : c.aw = some a) : H a = some (.dK [(.inr "draws", .ref c.ad), (.inr "at", .int (t : Int))]) ∧ F a = none ∧ F c.ad = some (.lst (c.ds.map V.int)) := by
  unfold Tape at h
  rw [e] at h
  exact h
theorem Tape.there {H : Hp} {t : Nat} (h : Tape c F H t) : ∀ a, c.aw = some a → H a ≠ none := fun a e => by
  rw [(h.som e).1]
  simp
theorem Grow.trans {H H' F'' H'' : Hp} (g : Grow c F H F' H') (k : Grow c F' H' F'' H'') : Grow c F H F'' H'' := by
  refine ⟨g.ex.trans k.ex, fun a o n h => k.hx a o n (g.hx a o n h), fun a h h' => ?_, k.sub, g.aw, k.aw'⟩
  by_cases e : F' a = none
  · have q := k.nw a e h'
    cases hq : H a with
    | none => rfl
    | some o =>
      by_cases n : c.aw = some a
      · exact absurd q (k.aw a n)
      · rw [g.hx a o n hq] at q
        cases q
  · exact g.nw a h e
/-- what is not caught stays so -/
theorem Grow.free {H H' : Hp} {a : Addr} {o : HO} (g : Grow c F H F' H') (h : F a = none) (hH : H a = some o) : F' a = none := by
  cases q : F' a with
  | none => rfl
  | some u =>
    have := g.nw a h (by rw [q]; simp)
    rw [this] at hH
    cases hH
theorem Tape.of {H H' : Hp} {t t' : Nat} (g : Grow c F H F' H') (h : Tape c F H t) (h' : ∀ a, c.aw = some a → H' a = some (.dK [(.inr "draws", .ref c.ad), (.inr "at", .int (t' : Int))])) : Tape c F' H' t' := by
  unfold Tape at h ⊢
  cases e : c.aw with
  | none => trivial
  | some a =>
    rw [e] at h
    have h : H a = some (.dK [(.inr "draws", .ref c.ad), (.inr "at", .int (t : Int))]) ∧ F a = none ∧ F c.ad = some (.lst (c.ds.map V.int)) := h
    exact ⟨h' a e, g.free h.2.1 h.1, g.ex _ _ h.2.2⟩
theorem Top.ne {H : Hp} {a : Addr} {d : D} {t : Nat} (h : Top c F H a d) (tp : Tape c F H t) : c.aw ≠ some a := fun e => by
  have tp := tp.som e
  unfold Top at h
  split at h
  · obtain ⟨vs, h, _⟩ := h
    rw [h] at tp
    cases tp.1
  · exact h.1 e
  · exact h
theorem Top.at {H : Hp} {a : Addr} {d : D} (h : Top c F H a d) : ∃ o, H a = some o := by
  unfold Top at h
  split at h
  · obtain ⟨vs, h, _⟩ := h
    exact ⟨_, h⟩
  · obtain ⟨_, vs, h, _⟩ := h
    exact ⟨_, h⟩
  · exact h.elim
theorem Top.grow {H H' : Hp} {a : Addr} {d : D} (g : Grow c F H F' H') (h : Top c F H a d) (n : c.aw ≠ some a) : Top c F' H' a d := by
  unfold Top at h ⊢
  split
  · obtain ⟨vs, h, r⟩ := h
    exact ⟨vs, g.hx _ _ n h, r.mono g.ex⟩
  · obtain ⟨_, vs, h, r⟩ := h
    exact ⟨n, vs, g.hx _ _ n h, r.mono g.ex⟩
  · rename_i h1 h2
    cases d <;> first | exact h | (exact absurd rfl (h1 _)) | (exact absurd rfl (h2 _))
theorem TopR.grow {H H' : Hp} {a : Addr} {d : D} {t : Nat} (g : Grow c F H F' H') (tp : Tape c F H t) (h : TopR c F H a d) : TopR c F' H' a d := by
  unfold TopR at h ⊢
  split
  · obtain ⟨vs, h, r⟩ := h
    refine ⟨vs, ?_, r.mono g.ex⟩
    have ne : ∀ u, H a = some u → (∀ kvs, u ≠ .dK kvs) → c.aw ≠ some a := fun u hu hd e => by
      have tp := tp.som e
      rw [tp.1] at hu
      cases hu
      exact hd _ rfl
    rcases h with (h | ⟨o, h⟩) | h
    · exact .inl (.inl (g.hx _ _ (ne _ h (by intro _ z; cases z)) h))
    · exact .inl (.inr ⟨o, g.hx _ _ (ne _ h (by intro _ z; cases z)) h⟩)
    · exact .inr h
  · rename_i h1
    cases d <;> first | exact h | (exact absurd rfl (h1 _))
theorem RR.grow {H0 H H' : Hp} {v : V} {r : R} {t : Nat} (g : Grow c F H F' H') (tp : Tape c F H t) (h : RR c H0 F H v r) : RR c H0 F' H' v r := by
  unfold RR at h ⊢
  split
  · rename_i e
    rw [e] at h
    exact Rep.mono g.ex h
  · rename_i e
    rw [e] at h
    obtain ⟨a, e1, e2, e3, h⟩ := h
    obtain ⟨o, ho⟩ := h.at
    exact ⟨a, e1, e2, g.free e3 ho, h.grow g (h.ne tp)⟩
  · rename_i e
    rw [e] at h
    obtain ⟨a, e1, e3, h⟩ := h
    obtain ⟨o, ho⟩ := h.at
    exact ⟨a, e1, g.free e3 ho, h.grow g (h.ne tp)⟩
  · rename_i e
    rw [e] at h
    obtain ⟨a, e1, h⟩ := h
    exact ⟨a, e1, h.grow g tp⟩
/-- from a heap further back -/
theorem RR.back {H1 H0 H : Hp} {v : V} {r : R} (h : RR c H1 F H v r) (b : ∀ a, H1 a = none → H0 a = none) : RR c H0 F H v r := by
  unfold RR at h ⊢
  split
  · rename_i e
    rw [e] at h
    exact h
  · rename_i e
    rw [e] at h
    obtain ⟨a, e1, e2, e3, h⟩ := h
    exact ⟨a, e1, b a e2, e3, h⟩
  · rename_i e
    rw [e] at h
    exact h
  · rename_i e
    rw [e] at h
    exact h
theorem Grow.back {H H' : Hp} (g : Grow c F H F' H') : ∀ a, H' a = none → H a = none := fun a h => by
  cases q : H a with
  | none => rfl
  | some o =>
    by_cases n : c.aw = some a
    · exact absurd h (g.aw' a n)
    · rw [g.hx a o n q] at h
      cases h
end
end Q
namespace Q
open PySem PySem.Spec PyProof.Rows L2

/-! ### the state of a def's body -/
def SlOk (c : Pm) (H0 F H : Hp) (o : Option (Option V)) : Sl → Prop
  | .un => True
  | .sh d => ∃ v, o = some (some v) ∧ Rep c F v d
  | .ow d => ∃ a, o = some (some (.ref a)) ∧ H0 a = none ∧ F a = none ∧ Top c F H a d
  | .ro d => ∃ a vs ds, o = some (some (.ref a)) ∧ d = .list ds ∧ ((∃ ob, H a = some (.frz ob (.lst vs))) ∨ SqL c.K (fun _ => none) a vs) ∧ RepL c F vs ds
structure SR (c : Pm) (F0 H0 F H : Hp) (σ : L2.St) (ρ : Env) (t : Nat) : Prop where
  g : Grow c F0 H0 F H
  tp : Tape c F H t
  len : ρ.length = σ.length
  sl : ∀ (i : Nat) (s : Sl), ρ[i]? = some s → SlOk c H0 F H σ[i]? s
  ap : ∀ (i j : Nat) (d d' : D), i ≠ j → ρ[i]? = some (.ow d) → ρ[j]? = some (.ow d') → σ[i]? ≠ σ[j]?
section
variable {c : Pm} {F0 H0 F H F' H' : Hp} {σ : L2.St} {ρ : Env} {t t' : Nat}
theorem SlOk.grow {o : Option (Option V)} {s : Sl} (g : Grow c F H F' H') (tp : Tape c F H t) (h : SlOk c H0 F H o s) : SlOk c H0 F' H' o s := by
  cases s with
  | un => trivial
  | sh d =>
    obtain ⟨v, e, r⟩ := h
    exact ⟨v, e, r.mono g.ex⟩
  | ow d =>
    obtain ⟨a, e, n, f, r⟩ := h
    obtain ⟨o, ho⟩ := r.at
    exact ⟨a, e, n, g.free f ho, r.grow g (r.ne tp)⟩
  | ro d =>
    obtain ⟨a, vs, ds, e, e2, q, r⟩ := h
    refine ⟨a, vs, ds, e, e2, ?_, r.mono g.ex⟩
    rcases q with ⟨ob, q⟩ | q
    · refine .inl ⟨ob, g.hx _ _ (fun z => ?_) q⟩
      rw [(tp.som z).1] at q
      cases q
    · exact .inr q
theorem SR.grow (S : SR c F0 H0 F H σ ρ t) (g : Grow c F H F' H') (tp : Tape c F' H' t') : SR c F0 H0 F' H' σ ρ t' :=
  ⟨S.g.trans g, tp, S.len, fun i s e => (S.sl i s e).grow g S.tp, S.ap⟩
theorem SR.refl (S : SR c F0 H0 F H σ ρ t) : Grow c F H F H := Grow.refl S.g.sub S.tp.there
/-- reading a slot -/
theorem SR.get {i : Nat} {r : R} (S : SR c F0 H0 F H σ ρ t) (e : getS ρ i = some r) : ∃ v, σ[i]? = some (some v) ∧ RR c H F H v r := by
  unfold getS at e
  cases q : ρ[i]? with
  | none => rw [q] at e; cases e
  | some s =>
    rw [q] at e
    have h := S.sl i s q
    cases s with
    | un => cases e
    | sh d =>
      cases e
      obtain ⟨v, e1, r1⟩ := h
      exact ⟨v, e1, r1⟩
    | ow d =>
      cases e
      obtain ⟨a, e1, _, f, r1⟩ := h
      exact ⟨_, e1, a, rfl, f, r1⟩
    | ro d =>
      cases e
      obtain ⟨a, vs, ds, e1, rfl, q, r1⟩ := h
      refine ⟨_, e1, a, rfl, vs, ?_, r1⟩
      rcases q with ⟨ob, q⟩ | q | q
      · exact .inl (.inr ⟨ob, q⟩)
      · rcases q with q | ⟨_, q⟩ <;> cases q
      · exact .inr q

/-! ### what is new becomes a part of what stays -/
def frz1 (F H : Hp) (a : Addr) : Hp := fun b => if b = a then H a else F b
theorem frz1_ext {a : Addr} (h : F a = none) : Ext F (frz1 F H a) := fun b o e => by
  have n : b ≠ a := fun z => by rw [z, h] at e; cases e
  unfold frz1
  rw [if_neg n]
  exact e
theorem frz1_sub {a : Addr} (s : Ext F H) : Ext (frz1 F H a) H := fun b o e => by
  unfold frz1 at e
  by_cases n : b = a
  · rw [if_pos n] at e
    rw [n]
    exact e
  · rw [if_neg n] at e
    exact s b o e
theorem Top.rep {a : Addr} {d : D} (h : Top c F H a d) (f : F a = none) : Rep c (frz1 F H a) (.ref a) d := by
  unfold Top at h
  split at h
  · obtain ⟨vs, h, r⟩ := h
    exact .lst (by unfold frz1; rw [if_pos rfl]; exact h) (r.mono (frz1_ext f))
  · obtain ⟨_, vs, h, r⟩ := h
    exact .dic (by unfold frz1; rw [if_pos rfl]; exact h) (r.mono (frz1_ext f))
  · exact h.elim
theorem Tape.frz {a : Addr} (tp : Tape c F H t) (f : F a = none) (n : c.aw ≠ some a) : Tape c (frz1 F H a) H t := by
  unfold Tape
  cases e : c.aw with
  | none => trivial
  | some b =>
    obtain ⟨h1, h2, h3⟩ := tp.som e
    refine ⟨h1, ?_, frz1_ext f _ _ h3⟩
    unfold frz1
    rw [if_neg (fun z => n (by rw [e, z]))]
    exact h2
theorem Grow.frz {a : Addr} (g : Grow c F H F' H') (f : F' a = none) (n : H a = none) : Grow c F H (frz1 F' H' a) H' :=
  ⟨g.ex.trans (frz1_ext f), g.hx, fun b h h' => by
    by_cases e : b = a
    · rw [e]; exact n
    · unfold frz1 at h'
      rw [if_neg e] at h'
      exact g.nw b h h', frz1_sub g.sub, g.aw, g.aw'⟩
theorem shared_sh {r : R} {d : D} (e : shared r = some d) : r.d = d ∧ (r.kd = .sh ∨ r.kd = .fr) := by
  unfold shared at e
  split at e <;> first | (cases e; exact ⟨rfl, by first | exact .inl (by assumption) | exact .inr (by assumption)⟩) | cases e
/-- one result becomes shared -/
theorem RR.share {v : V} {r : R} {d : D} (h : RR c H F' H' v r) (e : shared r = some d) (g : Grow c F H F' H') (tp : Tape c F' H' t) :
    ∃ F2, Grow c F H F2 H' ∧ Tape c F2 H' t ∧ Rep c F2 v d ∧ Ext F' F2 ∧ Grow c F' H' F' H' ∧ (∀ b, F' b = none → F2 b ≠ none → H b = none) := by
  obtain ⟨ed, k⟩ := shared_sh e
  subst ed
  have gg : Grow c F' H' F' H' := Grow.refl g.sub tp.there
  unfold RR at h
  rcases k with k | k <;> rw [k] at h
  · exact ⟨F', g, tp, h, Ext.refl _, gg, fun b q q' => absurd q q'⟩
  · obtain ⟨a, rfl, e1, e2, h⟩ := h
    exact ⟨frz1 F' H' a, g.frz e2 e1, tp.frz e2 (h.ne tp), h.rep e2, frz1_ext e2, gg, fun b q q' => by
      by_cases z : b = a
      · rw [z]; exact e1
      · unfold frz1 at q'
        rw [if_neg z] at q'
        exact absurd q q'⟩
end
/-! ### results one behind another -/
inductive RRL (c : Pm) (H0 F H : Hp) : List V → List R → Prop
  | nil : RRL c H0 F H [] []
  | cons {v : V} {vs : List V} {r : R} {rs : List R} : RR c H0 F H v r → RRL c H0 F H vs rs → (r.kd = .fr → ∀ (i : Nat) (u : V) (q : R), vs[i]? = some u → rs[i]? = some q → q.kd = .fr → u ≠ v) → RRL c H0 F H (v :: vs) (r :: rs)
section
variable {c : Pm} {F0 H0 F H F' H' : Hp} {σ : L2.St} {ρ : Env} {t t' : Nat}
theorem Top.monoF {a : Addr} {d : D} {F2 : Hp} (h : Top c F H a d) (e : Ext F F2) : Top c F2 H a d := by
  cases d <;> first | exact h | skip
  · obtain ⟨vs, h, r⟩ := h
    exact ⟨vs, h, r.mono e⟩
  · obtain ⟨n, vs, h, r⟩ := h
    exact ⟨n, vs, h, r.mono e⟩
/-- the top stands in the part that stays -/
theorem Top.rep' {a : Addr} {d : D} {F2 : Hp} (h : Top c F2 H a d) (f : F2 a = H a) : Rep c F2 (.ref a) d := by
  unfold Top at h
  split at h
  · obtain ⟨vs, h, r⟩ := h
    exact .lst (by rw [f]; exact h) r
  · obtain ⟨_, vs, h, r⟩ := h
    exact .dic (by rw [f]; exact h) r
  · exact h.elim
/-- all of a row become shared -/
theorem RRL.share {t : Nat} : ∀ {vs : List V} {rs : List R} {ds : List D} {F' : Hp}, RRL c H F' H' vs rs → rs.mapM shared = some ds → Grow c F H F' H' → Tape c F' H' t →
    ∃ F2, Grow c F H F2 H' ∧ Tape c F2 H' t ∧ RepL c F2 vs ds ∧ Ext F' F2 ∧ (∀ a, F2 a = F' a ∨ (F' a = none ∧ H a = none ∧ F2 a = H' a))
  | _, _, ds, F', .nil, e, g, tp => by
    have e : some [] = some ds := e
    cases e
    exact ⟨F', g, tp, .nil, Ext.refl _, fun a => .inl rfl⟩
  | _, _, ds, F', .cons (v := v) (r := r) (rs := rs) h hs _, e, g, tp => by
    rw [List.mapM_cons] at e
    cases e1 : shared r with
    | none => rw [e1] at e; cases e
    | some d =>
      rw [e1] at e
      cases e2 : rs.mapM shared with
      | none => rw [e2] at e; cases e
      | some ds' =>
        rw [e2] at e
        have e : some (d :: ds') = some ds := e
        cases e
        obtain ⟨F2, g2, tp2, r2, x2, k2⟩ := RRL.share hs e2 g tp
        obtain ⟨ed, k⟩ := shared_sh e1
        subst ed
        unfold RR at h
        rcases k with k | k <;> rw [k] at h
        · exact ⟨F2, g2, tp2, .cons (Rep.mono x2 h) r2, x2, k2⟩
        · obtain ⟨a, rfl, q1, q2, h⟩ := h
          have hT : Top c F2 H' a r.d := h.monoF x2
          have ne := hT.ne tp2
          by_cases q3 : F2 a = none
          · refine ⟨frz1 F2 H' a, g2.frz q3 q1, tp2.frz q3 ne, .cons (hT.rep q3) (r2.mono (frz1_ext q3)), x2.trans (frz1_ext q3), fun b => ?_⟩
            by_cases z : b = a
            · subst z
              exact .inr ⟨q2, q1, by unfold frz1; rw [if_pos rfl]⟩
            · rcases k2 b with w | w
              · exact .inl (by unfold frz1; rw [if_neg z]; exact w)
              · exact .inr ⟨w.1, w.2.1, by unfold frz1; rw [if_neg z]; exact w.2.2⟩
          · have q4 : F2 a = H' a := by
              rcases k2 a with w | w
              · rw [w] at q3
                exact absurd q2 q3
              · exact w.2.2
            exact ⟨F2, g2, tp2, .cons (hT.rep' q4) r2, x2, k2⟩
theorem RRL.grow {H0 : Hp} {t : Nat} (g : Grow c F H F' H') (tp : Tape c F H t) : ∀ {vs : List V} {rs : List R}, RRL c H0 F H vs rs → RRL c H0 F' H' vs rs
  | _, _, .nil => .nil
  | _, _, .cons h r d => .cons (h.grow g tp) (RRL.grow g tp r) d
theorem RRL.back {H1 H0 H : Hp} (b : ∀ a, H1 a = none → H0 a = none) : ∀ {vs : List V} {rs : List R}, RRL c H1 F H vs rs → RRL c H0 F H vs rs
  | _, _, .nil => .nil
  | _, _, .cons h r d => .cons (h.back b) (RRL.back b r) d
theorem RRL.get {H0 : Hp} : ∀ {vs : List V} {rs : List R} {i : Nat} {u : V} {q : R}, RRL c H0 F H vs rs → vs[i]? = some u → rs[i]? = some q → RR c H0 F H u q
  | _, _, _, _, _, .nil, e, _ => by simp at e
  | _, _, 0, _, _, .cons h r _, e, e2 => by
    simp at e e2
    subst e e2
    exact h
  | _, _, i + 1, _, _, .cons h r _, e, e2 => RRL.get (i := i) r (by simpa using e) (by simpa using e2)
theorem RRL.length {H0 : Hp} : ∀ {vs : List V} {rs : List R}, RRL c H0 F H vs rs → vs.length = rs.length
  | _, _, .nil => rfl
  | _, _, .cons h r _ => by rw [List.length_cons, List.length_cons, RRL.length r]
end

/-! ### readings -/
/-- what is wanted behind an expression -/
def Post (c : Pm) (F H : Hp) (r : R) (t : Nat) (Q : VK) : Prop := ∀ v F' H', Grow c F H F' H' → Tape c F' H' t → RR c H F' H' v r → Q v H'
def PostL (c : Pm) (F H : Hp) (rs : List R) (t : Nat) (Q : List V → Hp → Prop) : Prop := ∀ vs F' H', Grow c F H F' H' → Tape c F' H' t → RRL c H F' H' vs rs → Q vs H'
def PostT (c : Pm) (F H : Hp) (t : Nat) (Q : Hp → Prop) : Prop := ∀ F' H', Grow c F H F' H' → Tape c F' H' t → Q H'
def mE (c : Pm) (m : Env → M R) : TE := fun σ H Q => ∃ F0 H0 F ρ t r t', SR c F0 H0 F H σ ρ t ∧ m ρ t = some (r, t') ∧ Post c F H r t' Q
def mL (c : Pm) (m : Env → M (List R)) : TA := fun σ H Q => ∃ F0 H0 F ρ t r t', SR c F0 H0 F H σ ρ t ∧ m ρ t = some (r, t') ∧ PostL c F H r t' Q
def mT (c : Pm) (m : Env → M Bool) : TT := fun σ H Q => ∃ F0 H0 F ρ t b t', SR c F0 H0 F H σ ρ t ∧ m ρ t = some (b, t') ∧ PostT c F H t' (Q b)
def mO (c : Pm) (m : Env → M (Option Int)) : L2.TO := fun σ H Q => ∃ F0 H0 F ρ t b t', SR c F0 H0 F H σ ρ t ∧ m ρ t = some (b, t') ∧ PostT c F H t' (Q b)
theorem PE.weak {X : Cx} {e : Expr} {te te' : TE} (h : PE X e te) (w : ∀ σ H Q, te' σ H Q → te σ H Q) : PE X e te' := ⟨fun pins s σ H Q I q => h.run pins s σ H Q I (w σ H Q q)⟩
theorem PT.weak {X : Cx} {e : Expr} {te te' : TT} (h : PT X e te) (w : ∀ σ H Q, te' σ H Q → te σ H Q) : PT X e te' := ⟨fun pins s σ H Q I q => h.run pins s σ H Q I (w σ H Q q)⟩
theorem PW.weak {X : Cx} {e : Expr} {te te' : TT} (h : PW X e te) (w : ∀ σ H Q, te' σ H Q → te σ H Q) : PW X e te' := ⟨fun wh pins s σ H Q I q => h.run wh pins s σ H Q I (w σ H Q q)⟩
theorem PA.weak {X : Cx} {e : List Expr} {te te' : TA} (h : PA X e te) (w : ∀ σ H Q, te' σ H Q → te σ H Q) : PA X e te' := ⟨fun p pins s σ H Q I q => h.run p pins s σ H Q I (w σ H Q q)⟩
theorem PS.weak {X : Cx} {e : Stmt} {te te' : TS} (h : PS X e te) (w : ∀ Dn σ H, te' Dn σ H → te Dn σ H) : PS X e te' := ⟨fun pins s σ H Dn I q => h.run pins s σ H Dn I (w Dn σ H q)⟩
theorem PSs.weak {X : Cx} {e : List Stmt} {te te' : TS} (h : PSs X e te) (w : ∀ Dn σ H, te' Dn σ H → te Dn σ H) : PSs X e te' := ⟨fun pins s σ H Dn I q => h.run pins s σ H Dn I (w Dn σ H q)⟩
theorem bnd_some {α β : Type} {m : M α} {f : α → M β} {t : Nat} {r : β × Nat} (h : bnd m f t = some r) : ∃ a t', m t = some (a, t') ∧ f a t' = some r := by
  unfold bnd at h
  cases q : m t with
  | none => rw [q] at h; cases h
  | some p =>
    obtain ⟨a, t'⟩ := p
    rw [q] at h
    exact ⟨a, t', rfl, h⟩
theorem opt_some {α : Type} {o : Option α} {t : Nat} {a : α} {t' : Nat} (h : opt o t = some (a, t')) : o = some a ∧ t' = t := by
  unfold opt at h
  cases o with
  | none => cases h
  | some b =>
    cases h
    exact ⟨rfl, rfl⟩
section
variable {c : Pm} {F0 H0 F H F' H' : Hp} {σ : L2.St} {ρ : Env} {t t1 t2 t' : Nat}
/-- one operand, then K -/
theorem one {m : Env → M R} {x : R} {Q : VK} (S : SR c F0 H0 F H σ ρ t) (e : m ρ t = some (x, t1))
    (k : ∀ v F1 H1, Grow c F H F1 H1 → Tape c F1 H1 t1 → SR c F0 H0 F1 H1 σ ρ t1 → RR c H F1 H1 v x → Q v H1) : mE c m σ H Q :=
  ⟨F0, H0, F, ρ, t, x, t1, S, e, fun v F1 H1 g tp r => k v F1 H1 g tp (S.grow g tp) r⟩
theorem two {m n : Env → M R} {x y : R} {Q : V → V → Hp → Prop} (S : SR c F0 H0 F H σ ρ t) (e : m ρ t = some (x, t1)) (e2 : n ρ t1 = some (y, t2))
    (k : ∀ v u F1 H1, Grow c F H F1 H1 → Tape c F1 H1 t2 → SR c F0 H0 F1 H1 σ ρ t2 → RR c H F1 H1 v x → RR c H F1 H1 u y → Q v u H1) : mE c m σ H (fun v H1 => mE c n σ H1 fun u H2 => Q v u H2) :=
  one S e fun v F1 H1 g tp S1 r => one S1 e2 fun u F2 H2 g2 tp2 S2 r2 => k v u F2 H2 (g.trans g2) tp2 S2 (r.grow g2 tp) (r2.back g.back)
theorem oneT {m : Env → M Bool} {b : Bool} {Q : Bool → Hp → Prop} (S : SR c F0 H0 F H σ ρ t) (e : m ρ t = some (b, t1))
    (k : ∀ F1 H1, Grow c F H F1 H1 → Tape c F1 H1 t1 → SR c F0 H0 F1 H1 σ ρ t1 → Q b H1) : mT c m σ H Q :=
  ⟨F0, H0, F, ρ, t, b, t1, S, e, fun F1 H1 g tp => k F1 H1 g tp (S.grow g tp)⟩
/-- what is wanted, from further on -/
theorem Post.on {r : R} {Q : VK} (p : Post c F H r t Q) (g : Grow c F H F' H') : Post c F' H' r t Q := fun v F2 H2 g2 tp2 r2 => p v F2 H2 (g.trans g2) tp2 (r2.back g.back)
theorem Post.sh {d : D} {Q : VK} {v : V} (p : Post c F H ⟨.sh, d⟩ t Q) (g : Grow c F H F' H') (tp : Tape c F' H' t) (r : Rep c F' v d) : Q v H' := p v F' H' g tp r
/-- a new object is laid -/
theorem Grow.laid {a : Addr} {o : HO} (g : Grow c F H F' H') (n : H' a = none) : Grow c F H F' (upd H' a o) := by
  have hH := g.back a n
  refine ⟨g.ex, fun b u q h => ?_, g.nw, fun b u q => ?_, g.aw, fun b e => ?_⟩
  · have h' := g.hx b u q h
    rw [upd_ne (ne_of_none h' n)]
    exact h'
  · have h' := g.sub b u q
    rw [upd_ne (ne_of_none h' n)]
    exact h'
  · by_cases z : b = a
    · rw [z, upd_same]; simp
    · rw [upd_ne z]; exact g.aw' b e
theorem Tape.laid {a : Addr} {o : HO} (tp : Tape c F H t) (n : H a = none) : Tape c F (upd H a o) t := by
  unfold Tape
  cases e : c.aw with
  | none => trivial
  | some b =>
    obtain ⟨h1, h2, h3⟩ := tp.som e
    refine ⟨?_, h2, h3⟩
    rw [upd_ne (ne_of_none h1 n)]
    exact h1
theorem Grow.noF {a : Addr} (g : Grow c F H F' H') (n : H' a = none) : F' a = none := by
  cases q : F' a with
  | none => rfl
  | some o =>
    have := g.sub a o q
    rw [n] at this
    cases this
/-- a new tuple is laid, and stays -/
theorem Post.tup {ds : List D} {vs : List V} {Q : VK} (p : Post c F H ⟨.sh, .tuple ds⟩ t Q) (g : Grow c F H F' H') (tp : Tape c F' H' t) (r : RepL c F' vs ds) : ∀ a, H' a = none → Q (.ref a) (upd H' a (.tup vs)) := fun a n => by
  have f := g.noF n
  have g' : Grow c F H (frz1 F' (upd H' a (.tup vs)) a) (upd H' a (.tup vs)) := (g.laid n).frz f (g.back a n)
  have ne : c.aw ≠ some a := fun e => absurd n (g.aw' a e)
  refine p _ _ _ g' ((tp.laid n).frz f ne) (Rep.tup (.inl (.inl ?_)) (r.mono (frz1_ext f)))
  unfold frz1
  rw [if_pos rfl, upd_same]
/-- a new list is laid -/
theorem Post.lst {ds : List D} {vs : List V} {Q : VK} (p : Post c F H ⟨.fr, .list ds⟩ t Q) (g : Grow c F H F' H') (tp : Tape c F' H' t) (r : RepL c F' vs ds) : ∀ a, H' a = none → Q (.ref a) (upd H' a (.lst vs)) := fun a n =>
  p _ _ _ (g.laid n) (tp.laid n) ⟨a, rfl, g.back a n, g.noF n, vs, upd_same, r⟩
end
end Q
namespace Q
open PySem PySem.Spec PyProof.Rows L2
theorem lim_eq : lim = sizeLine := by decide
section
variable {c : Pm} {F0 H0 F H F' H' : Hp} {σ : L2.St} {ρ : Env} {t t' : Nat} {v : V} {x : R}
theorem RR.scal (h : RR c H0 F H v x) (e : isSc x.d = true) : Rep c F v x.d := by
  unfold RR at h
  split at h
  · exact h
  · obtain ⟨a, _, _, _, h⟩ := h
    cases q : x.d <;> rw [q] at h e <;> first | exact h.elim | cases e
  · obtain ⟨a, _, _, h⟩ := h
    cases q : x.d <;> rw [q] at h e <;> first | exact h.elim | cases e
  · obtain ⟨a, _, h⟩ := h
    cases q : x.d <;> rw [q] at h e <;> first | exact h.elim | cases e
theorem RR.int {i : Int} (h : RR c H0 F H v x) (e : x.d = .int i) : v = .int i := by
  have q := h.scal (by rw [e]; rfl)
  rw [e] at q
  cases q
  rfl
theorem RR.str {i : Str} (h : RR c H0 F H v x) (e : x.d = .str i) : v = .str i := by
  have q := h.scal (by rw [e]; rfl)
  rw [e] at q
  cases q
  rfl
theorem RR.bool {i : Bool} (h : RR c H0 F H v x) (e : x.d = .bool i) : v = .bl i := by
  have q := h.scal (by rw [e]; rfl)
  rw [e] at q
  cases q
  rfl
theorem RR.tup {ds : List D} (h : RR c H0 F H v x) (e : x.d = .tuple ds) : Rep c F v (.tuple ds) := by
  unfold RR at h
  rw [e] at h
  split at h
  · exact h
  · obtain ⟨a, _, _, _, h⟩ := h; exact h.elim
  · obtain ⟨a, _, _, h⟩ := h; exact h.elim
  · obtain ⟨a, _, h⟩ := h; exact h.elim
theorem Rep.tupE {ds : List D} (h : Rep c F v (.tuple ds)) : ∃ a vs, v = .ref a ∧ SqT c.K F a vs ∧ RepL c F vs ds := by
  cases h with
  | tup h r => exact ⟨_, _, rfl, h, r⟩
theorem Rep.lstE {ds : List D} (h : Rep c F v (.list ds)) : ∃ a vs, v = .ref a ∧ F a = some (.lst vs) ∧ RepL c F vs ds := by
  cases h with
  | lst h r => exact ⟨_, _, rfl, h, r⟩
theorem RR.tupH {ds : List D} (h : RR c H0 F H v x) (e : x.d = .tuple ds) (s : Ext F H) : ∃ a vs, v = .ref a ∧ SqT c.K H a vs ∧ RepL c F vs ds := by
  obtain ⟨a, vs, e1, q, r⟩ := (h.tup e).tupE
  exact ⟨a, vs, e1, s.sqt q, r⟩
theorem RR.lstR {ds : List D} (h : RR c H0 F H v x) (e : x.d = .list ds) (s : Ext F H) : ∃ a vs, v = .ref a ∧ SqL c.K H a vs ∧ RepL c F vs ds := by
  unfold RR at h
  rw [e] at h
  split at h
  · obtain ⟨a, vs, e1, q, r⟩ := Rep.lstE h
    exact ⟨a, vs, e1, .inl (.inl (s _ _ q)), r⟩
  · obtain ⟨a, e1, _, _, vs, q, r⟩ := h
    exact ⟨a, vs, e1, .inl (.inl q), r⟩
  · obtain ⟨a, e1, _, vs, q, r⟩ := h
    exact ⟨a, vs, e1, .inl (.inl q), r⟩
  · obtain ⟨a, e1, vs, q, r⟩ := h
    exact ⟨a, vs, e1, q, r⟩
theorem RR.lst {ds : List D} (h : RR c H0 F H v x) (e : x.d = .list ds) (k : x.kd ≠ .ro) (s : Ext F H) : ∃ a vs, v = .ref a ∧ H a = some (.lst vs) ∧ RepL c F vs ds := by
  unfold RR at h
  rw [e] at h
  split at h
  · obtain ⟨a, vs, e1, q, r⟩ := Rep.lstE h
    exact ⟨a, vs, e1, s _ _ q, r⟩
  · obtain ⟨a, e1, _, _, vs, q, r⟩ := h
    exact ⟨a, vs, e1, q, r⟩
  · obtain ⟨a, e1, _, vs, q, r⟩ := h
    exact ⟨a, vs, e1, q, r⟩
  · rename_i z
    exact absurd z k
/-- all that an operation knows of one operand -/
structure Kn (c : Pm) (Hs F H : Hp) (t : Nat) : Prop where
  g : Grow c F H F H
  back : ∀ a, H a = none → Hs a = none
  tp : Tape c F H t
/-- what an operation gives -/
def rOp (c : Pm) (f : R → R → Option R) : R2 := fun v u H Q => ∃ Hs F x y r t, Kn c Hs F H t ∧ RR c Hs F H v x ∧ RR c Hs F H u y ∧ f x y = some r ∧ Post c F H r t Q
theorem Post.sc {r : R} {Q : VK} (p : Post c F H r t Q) (g : Grow c F H F H) (tp : Tape c F H t) (e : r = ⟨.sh, x.d⟩) (h : Rep c F v x.d) : Q v H := by
  subst e
  exact p v F H g tp h
theorem op_all {X : Cx} (hK : X.K = c.K) (op : Op) {pop : Operator}
    (hp : opM op pop = true) : OpR X (binaryOp pop) (rOp c (opD op)) := by
  intro pins s σ H v u vv uu Q I rv ru h
  obtain ⟨Hs, F, x, y, r, t, kn, rx, ry, e, p⟩ := h
  have sub := kn.g.sub
  unfold opD at e
  split at e
  · rename_i a b ea eb
    cases pop <;> first | cases hp | skip
    cases e
    exact op_add pins s σ H v u vv uu Q I rv ru ⟨a, b, rx.int ea, ry.int eb, p _ F H kn.g kn.tp (Rep.int _)⟩
  · rename_i a b ea eb
    cases pop <;> first | cases hp | skip
    split at e
    · cases e
      exact op_add_str pins s σ H v u vv uu Q I rv ru ⟨a, b, rx.str ea, ry.str eb, by rw [← lim_eq]; assumption, p _ F H kn.g kn.tp (Rep.str _)⟩
    · cases e
  · rename_i a b ea eb
    cases pop <;> first | cases hp | skip
    split at e
    · rename_i q
      cases e
      obtain ⟨l, xs, e1, h1, r1⟩ := rx.lst ea q.1 sub
      obtain ⟨l2, ys, e2, h2, r2⟩ := ry.lst eb q.2.1 sub
      exact op_cat pins s σ H v u vv uu Q I rv ru ⟨l, l2, xs, ys, e1, e2, h1, h2, by rw [r1.length, r2.length, ← lim_eq]; exact q.2.2, p.lst kn.g kn.tp (r1.app r2)⟩
    · cases e
  · rename_i a b ea eb
    cases pop <;> first | cases hp | skip
    split at e
    · rename_i q
      cases e
      obtain ⟨l, xs, e1, h1, r1⟩ := rx.tupH ea sub
      obtain ⟨l2, ys, e2, h2, r2⟩ := ry.tupH eb sub
      refine op_catA pins s σ H v u vv uu Q I rv ru ⟨l, l2, xs, ys, e1, e2, by rw [hK]; exact h1, by rw [hK]; exact h2, by rw [r1.length, r2.length, ← lim_eq]; exact q, fun z => ?_, fun z z2 => ?_, fun z z2 => p.tup kn.g kn.tp (r1.app r2)⟩
      · have za := r1.nil_iff.mp z
        subst za
        have := ry.tup eb
        rw [e2] at this
        exact p _ F H kn.g kn.tp (by show Rep c F _ (.tuple ([] ++ b)); rw [List.nil_append]; exact this)
      · have za := r2.nil_iff.mp z2
        subst za
        have := rx.tup ea
        rw [e1] at this
        exact p _ F H kn.g kn.tp (by show Rep c F _ (.tuple (a ++ [])); rw [List.append_nil]; exact this)
    · cases e
  · rename_i a b ea eb
    cases pop <;> first | cases hp | skip
    cases e
    exact op_sub pins s σ H v u vv uu Q I rv ru ⟨a, b, rx.int ea, ry.int eb, p _ F H kn.g kn.tp (Rep.int _)⟩
  · rename_i a b ea eb
    cases pop <;> first | cases hp | skip
    split at e
    · rename_i q
      cases e
      refine op_mul pins s σ H v u vv uu Q I rv ru ⟨a, b, rx.int ea, ry.int eb, ?_, p _ F H kn.g kn.tp (Rep.int _)⟩
      simp only [Bool.or_eq_true, intB_iff] at q
      exact q
    · cases e
  · rename_i a b ea eb
    cases pop <;> first | cases hp | skip
    split at e
    · rename_i q
      cases e
      obtain ⟨l, xs, e1, h1, r1⟩ := rx.lst ea q.1 sub
      exact op_rep pins s σ H v u vv uu Q I rv ru ⟨l, b, xs, e1, ry.int eb, h1, by have := q.2.1; omega, by have := q.2.1; omega, by rw [r1.length, ← lim_eq]; exact q.2.2, p.lst kn.g kn.tp (r1.rep _)⟩
    · cases e
  · rename_i a b ea eb
    cases pop <;> first | cases hp | skip
    split at e
    · rename_i q
      cases e
      exact op_fdiv pins s σ H v u vv uu Q I rv ru ⟨a, b, rx.int ea, ry.int eb, ⟨q.1, by have := q.2; omega⟩, p _ F H kn.g kn.tp (Rep.int _)⟩
    · cases e
  · rename_i a b ea eb
    cases pop <;> first | cases hp | skip
    split at e
    · rename_i q
      cases e
      exact op_mod pins s σ H v u vv uu Q I rv ru ⟨a, b, rx.int ea, ry.int eb, q, p _ F H kn.g kn.tp (Rep.int _)⟩
    · cases e
  · rename_i a b ea eb
    cases pop <;> first | cases hp | skip
    split at e
    · rename_i q
      cases e
      exact op_pow pins s σ H v u vv uu Q I rv ru ⟨a, b, rx.int ea, ry.int eb, ⟨q.1, by have := q.2.1; omega, q.2.2⟩, p _ F H kn.g kn.tp (Rep.int _)⟩
    · cases e
  · cases e
end
end Q
namespace Q
open PySem PySem.Spec PyProof.Rows L2
section
variable {c : Pm} {F0 H0 F H F' H' : Hp} {σ : L2.St} {ρ : Env} {t t' : Nat} {v : V} {x : R}
mutual
theorem Rep.dp (e : Ext F H) : ∀ {d : D} {v : V}, d.plain = true → Rep c F v d → Dp c.K H v d
  | _, _, _, .non => .non
  | _, _, _, .bl b => .bl b
  | _, _, _, .int i => .int i
  | _, _, _, .str i => .str i
  | _, _, p, .lst h r => .lst (.inl (.inl (e _ _ h))) (RepL.dp e (by simpa only [PyData.plain] using p) r)
  | _, _, p, .tup h r => .tup (e.sqt h) (RepL.dp e (by simpa only [PyData.plain] using p) r)
  | _, _, p, .dic h r => by simp [PyData.plain] at p
  | _, _, p, .tape h => by simp [PyData.plain, tapeD] at p
theorem RepL.dp (e : Ext F H) : ∀ {d : List D} {v : List V}, PyData.plainAll d = true → RepL c F v d → DpAll c.K H v d
  | _, _, _, .nil => .nil
  | _, _, p, .cons h r => by
    simp only [PyData.plainAll, Bool.and_eq_true] at p
    exact .cons (Rep.dp e p.1 h) (RepL.dp e p.2 r)
end
theorem RR.dp (h : RR c H0 F H v x) (p : x.d.plain = true) (e : Ext F H) : Dp c.K H v x.d := by
  cases q : x.d with
  | list ds =>
    obtain ⟨a, vs, e1, h1, r⟩ := h.lstR q e
    rw [q] at p
    rw [e1]
    exact .lst h1 (r.dp e (by simpa only [PyData.plain] using p))
  | tuple ds =>
    obtain ⟨a, vs, e1, h1, r⟩ := h.tupH q e
    rw [q] at p
    rw [e1]
    exact .tup h1 (r.dp e (by simpa only [PyData.plain] using p))
  | dict kvs => rw [q] at p; simp [PyData.plain] at p
  | _ =>
    have h1 := h.scal (by rw [q]; rfl)
    rw [q] at h1 p
    exact h1.dp e p
theorem RR.reads {X : Cx} {pins : List (Addr × Obj)} {s : Shared} {u : Value} (I : Inv X pins σ H s) (hK : X.K = c.K) (h : RR c H0 F H v x) (p : x.d.plain = true) (e : Ext F H) (r : RelV v u) : ∃ as, Reads s.heap u x.d as :=
  Dp.reads I x.d v u (by rw [hK]; exact h.dp p e) r
theorem okD_and {d : D} (h : okD d = true) : d.plain = true ∧ d.depth ≤ 60 := by
  simpa [okD] using h
/-- a comparison -/
def rCp (c : Pm) (op : Cp) : R2 := fun v u H Q => ∃ Hs F x y b t, Kn c Hs F H t ∧ RR c Hs F H v x ∧ RR c Hs F H u y ∧ cpD op x.d y.d = some b ∧ Q (.bl b) H
theorem RR.none (h : RR c H0 F H v x) (e : x.d = .none) : v = .non := by
  have q := h.scal (by rw [e]; rfl)
  rw [e] at q
  cases q
  rfl
theorem RR.nnone (h : RR c H0 F H v x) (e : x.d ≠ .none) : v ≠ .non := by
  intro z
  subst z
  by_cases q : isSc x.d = true
  · have r := h.scal q
    cases r' : x.d with
    | none => exact e r'
    | _ =>
      rw [r'] at r
      cases r
  · cases r' : x.d with
    | list ds =>
      unfold RR at h
      rw [r'] at h
      split at h
      · cases h
      · obtain ⟨_, z, _⟩ := h; cases z
      · obtain ⟨_, z, _⟩ := h; cases z
      · obtain ⟨_, z, _⟩ := h; cases z
    | tuple ds =>
      have r := h.tup r'
      cases r
    | dict ds =>
      unfold RR at h
      rw [r'] at h
      split at h
      · cases h
      · obtain ⟨_, z, _⟩ := h; cases z
      · obtain ⟨_, z, _⟩ := h; cases z
      · obtain ⟨_, z, _⟩ := h; cases z
    | _ => rw [r'] at q; exact absurd rfl q
theorem is_all {X : Cx} {Hs : Hp} {y : R} {u : V} {b : Bool} {t : Nat} (kn : Kn c Hs F H t) (rx : RR c Hs F H v x) (ry : RR c Hs F H u y) (e : isD x.d y.d = some b) {pins : List (Addr × Obj)} {s : Shared} {vv uu : Value} (Q : VK) (I : Inv X pins σ H s) (rv : RelV v vv) (ru : RelV u uu) :
    (Q (.bl b) H → wpAny (model X.prog X.w) X.A (compareOp .Is vv uu) (EP X pins σ Q) X.xe s) ∧ (Q (.bl (!b)) H → wpAny (model X.prog X.w) X.A (compareOp .IsNot vv uu) (EP X pins σ Q) X.xe s) := by
  unfold isD at e
  split at e
  · rename_i ea eb
    cases e
    have e1 := rx.none ea
    have e2 := ry.none eb
    subst e1 e2
    exact ⟨fun q => op_isN pins s σ H _ _ vv uu Q I rv ru ⟨rfl, by simpa using q⟩, fun q => op_notN pins s σ H _ _ vv uu Q I rv ru ⟨rfl, by simpa using q⟩⟩
  · rename_i eb hne
    cases e
    have e2 := ry.none eb
    subst e2
    have n : v ≠ .non := rx.nnone (fun z => hne z)
    exact ⟨fun q => op_isN pins s σ H _ _ vv uu Q I rv ru ⟨rfl, by rw [decide_eq_false n]; exact q⟩, fun q => op_notN pins s σ H _ _ vv uu Q I rv ru ⟨rfl, by rw [decide_eq_false n]; exact q⟩⟩
  · rename_i a b' ea eb
    cases e
    exact ⟨fun q => op_isBl pins s σ H _ _ vv uu Q I rv ru ⟨a, b', rx.bool ea, ry.bool eb, q⟩, fun q => op_notBl pins s σ H _ _ vv uu Q I rv ru ⟨a, b', rx.bool ea, ry.bool eb, q⟩⟩
  · cases e
theorem in_all {X : Cx} {Hs : Hp} {y : R} {u : V} {b : Bool} {t : Nat} (hK : X.K = c.K) (hu : X.A.units + 200 < cLine) (kn : Kn c Hs F H t) (rx : RR c Hs F H v x) (ry : RR c Hs F H u y) (e : inD x.d y.d = some b) {pins : List (Addr × Obj)} {s : Shared} {vv uu : Value} (Q : VK) (I : Inv X pins σ H s) (rv : RelV v vv) (ru : RelV u uu) :
    (Q (.bl b) H → wpAny (model X.prog X.w) X.A (compareOp .In vv uu) (EP X pins σ Q) X.xe s) ∧ (Q (.bl (!b)) H → wpAny (model X.prog X.w) X.A (compareOp .NotIn vv uu) (EP X pins σ Q) X.xe s) := by
  have sub := kn.g.sub
  unfold inD at e
  split at e
  · rename_i ys ey
    split at e
    · rename_i q
      cases e
      obtain ⟨p1, d1⟩ := okD_and q.1
      obtain ⟨p2, d2⟩ := okD_and q.2
      obtain ⟨as, r1⟩ := rx.reads I hK p1 sub rv
      obtain ⟨bs, r2⟩ := ry.reads I hK (by rw [ey]; exact p2) sub ru
      rw [ey] at r2
      have room : X.A.units + 1 + min (PyData.depthAll ys) x.d.depth < cLine := by
        have := Nat.min_le_right (PyData.depthAll ys) x.d.depth
        omega
      have pl : PyData.plainAll ys = true := by simpa only [PyData.plain] using p2
      exact ⟨fun q => SeqAt.in_list_data r2 r1 pl p1 room ⟨.bl _, H, I, rfl, q⟩, fun q => SeqAt.notIn_list_data r2 r1 pl p1 room ⟨.bl _, H, I, rfl, q⟩⟩
    · cases e
  · rename_i ys ey
    split at e
    · rename_i q
      cases e
      obtain ⟨p1, d1⟩ := okD_and q.1
      obtain ⟨p2, d2⟩ := okD_and q.2
      obtain ⟨as, r1⟩ := rx.reads I hK p1 sub rv
      have pl : PyData.plainAll ys = true := by simpa only [PyData.plain] using p2
      obtain ⟨bs, r2⟩ := ry.reads I hK (by rw [ey]; simpa only [PyData.plain] using pl) sub ru
      rw [ey] at r2
      have room : X.A.units + 1 + min (PyData.depthAll ys) x.d.depth < cLine := by
        have := Nat.min_le_right (PyData.depthAll ys) x.d.depth
        omega
      exact ⟨fun q => SeqAt.in_tuple_data r2 r1 pl p1 room ⟨.bl _, H, I, rfl, q⟩, fun q => SeqAt.notIn_tuple_data r2 r1 pl p1 room ⟨.bl _, H, I, rfl, q⟩⟩
    · cases e
  · cases e
theorem map_not {o : Option Bool} {b : Bool} (h : o.map (!·) = some b) : o = some (!b) := by
  cases o with
  | none => cases h
  | some a =>
    cases h
    simp
theorem cp_all {X : Cx} (hK : X.K = c.K) (hu : X.A.units + 200 < cLine) (op : Cp) {p : CmpOp} (hp : cpM op p = true) : OpR X (compareOp p) (rCp c op) := by
  intro pins s σ H v u vv uu Q I rv ru h
  obtain ⟨Hs, F, x, y, b, t, kn, rx, ry, e, q⟩ := h
  have sub := kn.g.sub
  cases op <;> cases p <;> first | cases hp | skip
  · unfold cpD at e
    simp only at e
    split at e
    · rename_i k
      cases e
      obtain ⟨p1, d1⟩ := okD_and k.1
      obtain ⟨p2, d2⟩ := okD_and k.2
      obtain ⟨as, r1⟩ := rx.reads I hK p1 sub rv
      obtain ⟨bs, r2⟩ := ry.reads I hK p2 sub ru
      exact SeqAt.eq_plain r1 r2 p1 p2 (by have := Nat.min_le_right x.d.depth y.d.depth; omega) ⟨.bl _, H, I, rfl, q⟩
    · cases e
  · unfold cpD at e
    simp only at e
    split at e
    · rename_i k
      cases e
      obtain ⟨p1, d1⟩ := okD_and k.1
      obtain ⟨p2, d2⟩ := okD_and k.2
      obtain ⟨as, r1⟩ := rx.reads I hK p1 sub rv
      obtain ⟨bs, r2⟩ := ry.reads I hK p2 sub ru
      exact SeqAt.ne_plain r1 r2 p1 p2 (by have := Nat.min_le_right x.d.depth y.d.depth; omega) ⟨.bl _, H, I, rfl, q⟩
    · cases e
  · unfold cpD at e
    simp only at e
    split at e
    · rename_i a b ea eb
      cases e
      exact op_lt pins s σ H v u vv uu Q I rv ru ⟨a, b, rx.int ea, ry.int eb, q⟩
    · cases e
  · unfold cpD at e
    simp only at e
    split at e
    · rename_i a b ea eb
      cases e
      exact op_le pins s σ H v u vv uu Q I rv ru ⟨a, b, rx.int ea, ry.int eb, q⟩
    · cases e
  · unfold cpD at e
    simp only at e
    split at e
    · rename_i a b ea eb
      cases e
      exact op_gt pins s σ H v u vv uu Q I rv ru ⟨a, b, rx.int ea, ry.int eb, q⟩
    · cases e
  · unfold cpD at e
    simp only at e
    split at e
    · rename_i a b ea eb
      cases e
      exact op_ge pins s σ H v u vv uu Q I rv ru ⟨a, b, rx.int ea, ry.int eb, q⟩
    · cases e
  · exact (in_all hK hu kn rx ry e Q I rv ru).1 q
  · exact (in_all hK hu kn rx ry (map_not e) Q I rv ru).2 (by simpa using q)
  · exact (is_all kn rx ry e Q I rv ru).1 q
  · exact (is_all kn rx ry (map_not e) Q I rv ru).2 (by simpa using q)
end
end Q
namespace Q
open PySem PySem.Spec PyProof.Rows L2
section
variable {c : Pm} {F0 H0 F H F' H' Hs : Hp} {σ : L2.St} {ρ : Env} {t t' : Nat} {v : V} {x : R}
def rBlt (c : Pm) (f : B) : List V → Hp → VK → Prop := fun vs H Q => ∃ Hs F rs r t, Kn c Hs F H t ∧ RRL c Hs F H vs rs ∧ bltD f rs = some r ∧ Post c F H r t Q
theorem RRL.one {vs : List V} {r : R} (h : RRL c Hs F H vs [r]) : ∃ v, vs = [v] ∧ RR c Hs F H v r := by
  cases h with
  | cons h q _ =>
    cases q
    exact ⟨_, rfl, h⟩
theorem RRL.two {vs : List V} {r r2 : R} (h : RRL c Hs F H vs [r, r2]) : ∃ v v2, vs = [v, v2] ∧ RR c Hs F H v r ∧ RR c Hs F H v2 r2 := by
  cases h with
  | cons h q _ =>
    obtain ⟨v2, e, q2⟩ := q.one
    subst e
    exact ⟨_, _, rfl, h, q2⟩
theorem RepL.ints : ∀ {vs : List V} {ds : List D} {ns : List Int}, RepL c F vs ds → intsOf ds = some ns → vs = ns.map V.int
  | _, _, ns, .nil, e => by
    cases e
    rfl
  | _, _, ns, .cons (d := d) (ds := ds) (vs := vs) h r, e => by
    cases d <;> first | (simp [intsOf] at e; done) | skip
    rename_i i
    simp only [intsOf] at e
    cases q : intsOf ds with
    | none => rw [q] at e; cases e
    | some ms =>
      rw [q] at e
      cases e
      cases h
      rw [RepL.ints r q]
      rfl
theorem RepL.bools : ∀ {vs : List V} {ds : List D} {ns : List Bool}, RepL c F vs ds → boolsOf ds = some ns → vs = ns.map V.bl
  | _, _, ns, .nil, e => by
    cases e
    rfl
  | _, _, ns, .cons (d := d) (ds := ds) (vs := vs) h r, e => by
    cases d <;> first | (simp [boolsOf] at e; done) | skip
    rename_i i
    simp only [boolsOf] at e
    cases q : boolsOf ds with
    | none => rw [q] at e; cases e
    | some ms =>
      rw [q] at e
      cases e
      cases h
      rw [RepL.bools r q]
      rfl
theorem alk_of {xs : List D} (h : alk xs = true) : (∀ x ∈ xs, ∀ y ∈ xs, PySem.W.alike x y = true) ∧ PyData.plainAll xs = true ∧ PyData.depthAll xs ≤ 50 := by
  simp only [alk, Bool.and_eq_true, List.all_eq_true, decide_eq_true_eq] at h
  exact ⟨h.1.1, h.1.2, h.2⟩
theorem ord_of {xs : List D} (h : ordD xs = true) : PySem.W.AlikeAll xs ∧ PyData.plainAll xs = true ∧ PyData.depthAll xs ≤ 50 := by
  simp only [ordD, Bool.and_eq_true] at h
  obtain ⟨h1, h2, h3⟩ := alk_of h.1
  exact ⟨⟨h1, fun x hx z => by
    have := List.all_eq_true.mp h.2 x hx
    rw [z] at this
    cases this⟩, h2, h3⟩
theorem plain_at : ∀ {xs : List D} {x : D}, PyData.plainAll xs = true → x ∈ xs → x.plain = true
  | y :: ys, x, h, hx => by
    simp only [PyData.plainAll, Bool.and_eq_true] at h
    rcases List.mem_cons.mp hx with rfl | hx
    · exact h.1
    · exact plain_at h.2 hx
theorem depth_at : ∀ {xs : List D} {x : D}, x ∈ xs → x.depth ≤ PyData.depthAll xs
  | y :: ys, x, hx => by
    simp only [PyData.depthAll]
    rcases List.mem_cons.mp hx with rfl | hx
    · exact Nat.le_max_left _ _
    · exact Nat.le_trans (depth_at hx) (Nat.le_max_right _ _)
/-- the item that reads as d -/
theorem item_is {X : Cx} {pins : List (Addr × Obj)} {s : Shared} (I : Inv X pins σ H s) (hK : X.K = c.K) (sub : Ext F H) {vs : List V} {ds : List D} {its : List Value} (rv : Vals vs its) (r : RepL c F vs ds) (pl : PyData.plainAll ds = true)
    {i : Nat} {u : Value} {d : D} {bs : List Addr} {h' : Heap} (hi : its[i]? = some u) (hr : Reads h' u d bs) (k : ∀ b o, s.heap.get? b = some o → h'.get? b = some o) : ∃ v, RelV v u ∧ Rep c F v d := by
  have hl := rv.length
  have hi2 := (List.getElem?_eq_some_iff.mp hi).1
  obtain ⟨v, hv⟩ : ∃ v, vs[i]? = some v := ⟨_, List.getElem?_eq_getElem (by omega)⟩
  obtain ⟨u', hu, ru⟩ := rv.get hv
  rw [hi] at hu
  cases hu
  obtain ⟨e, he, re⟩ := r.get' hv
  have pe : e.plain = true := plain_at pl (List.mem_of_getElem? he)
  obtain ⟨as, q⟩ := Dp.reads I e v u (by rw [hK]; exact re.dp sub pe) ru
  have := SeqAt.plain_unique e d u as bs pe (PyProof.Rows.Reads.keeps k q) hr
  subst this
  exact ⟨v, ru, re⟩
theorem Post.scal {d : D} {Q : VK} (p : Post c F H ⟨.sh, d⟩ t Q) (kn : Kn c Hs F H t) (r : Rep c F v d) : Q v H := p v F H kn.g kn.tp r
def fval : B → Value
  | .len => .builtin "len"
  | .abs => .builtin "abs"
  | .int => .type "int"
  | .max2 => .builtin "max"
  | .min2 => .builtin "min"
  | .max1 => .builtin "max"
  | .min1 => .builtin "min"
  | .sum => .builtin "sum"
  | .all => .builtin "all"
  | .any => .builtin "any"
  | .tuple => .type "tuple"
  | .list => .type "list"
  | .sorted => .builtin "sorted"
  | .range1 => .type "range"
  | .range2 => .type "range"
section
variable {X : Cx}
theorem blt_len (hK : X.K = c.K) : CallR X (fval .len) (rBlt c .len) := by
  intro pins s σ H vs us Q I r h
  obtain ⟨Hs, F, rs, z, t, kn, rr, e, p⟩ := h
  have sub := kn.g.sub
  unfold bltD at e
  split at e <;> rename_i e1 <;> first | (cases e1; done) | skip
  · cases e
    obtain ⟨v, rfl, q⟩ := rr.one
    obtain ⟨a, ws, rfl, h1, r1⟩ := q.lstR rfl sub
    exact call_len_seq pins s σ H _ us Q I r ⟨a, ws, rfl, .inl (by rw [hK]; exact h1), by rw [r1.length]; exact p.scal kn (.int _)⟩
  · cases e
    obtain ⟨v, rfl, q⟩ := rr.one
    obtain ⟨a, ws, rfl, h1, r1⟩ := q.tupH rfl sub
    exact call_len_seq pins s σ H _ us Q I r ⟨a, ws, rfl, .inr (by rw [hK]; exact h1), by rw [r1.length]; exact p.scal kn (.int _)⟩
  · cases e
theorem blt_abs : CallR X (fval .abs) (rBlt c .abs) := by
  intro pins s σ H vs us Q I r h
  obtain ⟨Hs, F, rs, z, t, kn, rr, e, p⟩ := h
  unfold bltD at e
  split at e <;> rename_i e1 <;> first | (cases e1; done) | skip
  · cases e
    obtain ⟨v, rfl, q⟩ := rr.one
    rw [q.int rfl] at r
    exact call_abs pins s σ H _ us Q I r ⟨_, rfl, p.scal kn (.int _)⟩
  · cases e
theorem blt_int : CallR X (fval .int) (rBlt c .int) := by
  intro pins s σ H vs us Q I r h
  obtain ⟨Hs, F, rs, z, t, kn, rr, e, p⟩ := h
  unfold bltD at e
  split at e <;> rename_i e1 <;> first | (cases e1; done) | skip
  · cases e
    obtain ⟨v, rfl, q⟩ := rr.one
    rw [q.int rfl] at r
    exact call_int1 pins s σ H _ us Q I r (.inl ⟨_, rfl, p.scal kn (.int _)⟩)
  · cases e
    obtain ⟨v, rfl, q⟩ := rr.one
    rw [q.bool rfl] at r
    exact call_int1 pins s σ H _ us Q I r (.inr ⟨_, rfl, p.scal kn (.int _)⟩)
  · cases e
theorem blt_max2 (hc : X.calm = true) : CallR X (fval .max2) (rBlt c .max2) := by
  intro pins s σ H vs us Q I r h
  obtain ⟨Hs, F, rs, z, t, kn, rr, e, p⟩ := h
  unfold bltD at e
  split at e <;> rename_i e1 <;> first | (cases e1; done) | skip
  · cases e
    obtain ⟨v, v2, rfl, q, q2⟩ := rr.two
    rw [q.int rfl, q2.int rfl] at r
    exact call_max2 hc pins s σ H _ us Q I r ⟨_, _, rfl, p.scal kn (.int _)⟩
  · cases e
theorem blt_min2 (hc : X.calm = true) : CallR X (fval .min2) (rBlt c .min2) := by
  intro pins s σ H vs us Q I r h
  obtain ⟨Hs, F, rs, z, t, kn, rr, e, p⟩ := h
  unfold bltD at e
  split at e <;> rename_i e1 <;> first | (cases e1; done) | skip
  · cases e
    obtain ⟨v, v2, rfl, q, q2⟩ := rr.two
    rw [q.int rfl, q2.int rfl] at r
    exact call_min2 hc pins s σ H _ us Q I r ⟨_, _, rfl, p.scal kn (.int _)⟩
  · cases e
theorem blt_sum (hc : X.calm = true) (hK : X.K = c.K) : CallR X (fval .sum) (rBlt c .sum) := by
  intro pins s σ H vs us Q I r h
  obtain ⟨Hs, F, rs, z, t, kn, rr, e, p⟩ := h
  have sub := kn.g.sub
  unfold bltD at e
  split at e <;> rename_i e1 <;> first | (cases e1; done) | skip
  · obtain ⟨v, rfl, q⟩ := rr.one
    obtain ⟨ns, hn, e⟩ := Option.map_eq_some_iff.mp e
    subst e
    obtain ⟨a, ws, rfl, h1, r1⟩ := q.lstR rfl sub
    rw [r1.ints hn] at h1
    exact cr_sum hc pins s σ H _ us Q I r ⟨a, ns, rfl, by rw [hK]; exact h1, p.scal kn (.int _)⟩
  · cases e
theorem blt_all (hc : X.calm = true) (hK : X.K = c.K) : CallR X (fval .all) (rBlt c .all) := by
  intro pins s σ H vs us Q I r h
  obtain ⟨Hs, F, rs, z, t, kn, rr, e, p⟩ := h
  have sub := kn.g.sub
  unfold bltD at e
  split at e <;> rename_i e1 <;> first | (cases e1; done) | skip
  · obtain ⟨v, rfl, q⟩ := rr.one
    obtain ⟨ns, hn, e⟩ := Option.map_eq_some_iff.mp e
    subst e
    obtain ⟨a, ws, rfl, h1, r1⟩ := q.lstR rfl sub
    rw [r1.bools hn] at h1
    exact cr_all hc pins s σ H _ us Q I r ⟨a, ns, rfl, by rw [hK]; exact h1, p.scal kn (.bl _)⟩
  · cases e
theorem blt_any (hc : X.calm = true) (hK : X.K = c.K) : CallR X (fval .any) (rBlt c .any) := by
  intro pins s σ H vs us Q I r h
  obtain ⟨Hs, F, rs, z, t, kn, rr, e, p⟩ := h
  have sub := kn.g.sub
  unfold bltD at e
  split at e <;> rename_i e1 <;> first | (cases e1; done) | skip
  · obtain ⟨v, rfl, q⟩ := rr.one
    obtain ⟨ns, hn, e⟩ := Option.map_eq_some_iff.mp e
    subst e
    obtain ⟨a, ws, rfl, h1, r1⟩ := q.lstR rfl sub
    rw [r1.bools hn] at h1
    exact cr_any hc pins s σ H _ us Q I r ⟨a, ns, rfl, by rw [hK]; exact h1, p.scal kn (.bl _)⟩
  · cases e
theorem blt_tuple (hK : X.K = c.K) : CallR X (fval .tuple) (rBlt c .tuple) := by
  intro pins s σ H vs us Q I r h
  obtain ⟨Hs, F, rs, z, t, kn, rr, e, p⟩ := h
  have sub := kn.g.sub
  unfold bltD at e
  split at e <;> rename_i e1 <;> first | (cases e1; done) | skip
  · cases e
    obtain ⟨v, rfl, q⟩ := rr.one
    obtain ⟨a, ws, rfl, h1, r1⟩ := q.lstR rfl sub
    exact call_tuple_of pins s σ H _ us Q I r ⟨a, ws, rfl, .inl ⟨by rw [hK]; exact h1, p.tup kn.g kn.tp r1⟩⟩
  · cases e
    obtain ⟨v, rfl, q⟩ := rr.one
    obtain ⟨a, ws, rfl, h1, r1⟩ := q.tupH rfl sub
    exact call_tuple_of pins s σ H _ us Q I r ⟨a, ws, rfl, .inr ⟨by rw [hK]; exact h1, p.scal kn (q.tup rfl)⟩⟩
  · cases e
theorem blt_list (hK : X.K = c.K) : CallR X (fval .list) (rBlt c .list) := by
  intro pins s σ H vs us Q I r h
  obtain ⟨Hs, F, rs, z, t, kn, rr, e, p⟩ := h
  have sub := kn.g.sub
  unfold bltD at e
  split at e <;> rename_i e1 <;> first | (cases e1; done) | skip
  · cases e
    obtain ⟨v, rfl, q⟩ := rr.one
    obtain ⟨a, ws, rfl, h1, r1⟩ := q.lstR rfl sub
    exact call_list_of pins s σ H _ us Q I r ⟨a, ws, rfl, .inl (by rw [hK]; exact h1), p.lst kn.g kn.tp r1⟩
  · cases e
    obtain ⟨v, rfl, q⟩ := rr.one
    obtain ⟨a, ws, rfl, h1, r1⟩ := q.tupH rfl sub
    exact call_list_of pins s σ H _ us Q I r ⟨a, ws, rfl, .inr (by rw [hK]; exact h1), p.lst kn.g kn.tp r1⟩
  · cases e
theorem readsAll_of {pins : List (Addr × Obj)} {s : Shared} (I : Inv X pins σ H s) (hK : X.K = c.K) (sub : Ext F H) {vs : List V} {ds : List D} {its : List Value} (rv : Vals vs its) (r : RepL c F vs ds) (pl : PyData.plainAll ds = true) : ∃ as, ReadsAll s.heap its ds as :=
  Dp.readsAll I ds vs its (by rw [hK]; exact r.dp sub pl) rv
theorem blt_min1 (hc : X.calm = true) (hK : X.K = c.K) (hu : X.A.units + 200 < cLine) : CallR X (fval .min1) (rBlt c .min1) := by
  intro pins s σ H vs us Q I r h
  obtain ⟨Hs, F, rs, z, t, kn, rr, e, p⟩ := h
  have sub := kn.g.sub
  unfold bltD at e
  split at e <;> rename_i e1 <;> first | (cases e1; done) | skip
  · obtain ⟨v, rfl, q⟩ := rr.one
    split at e
    · rename_i ok
      cases e
      obtain ⟨o1, o2, o3⟩ := ord_of ok
      obtain ⟨a, ws, rfl, h1, r1⟩ := q.lstR rfl sub
      obtain ⟨its, rv, hl, hz⟩ := I.list (by rw [hK]; exact h1)
      obtain ⟨as, ra⟩ := readsAll_of I hK sub rv r1 o2
      rw [Vals.ref1 r]
      refine PySem.W.min_list_data (I.ok.hd hc) hl.isList (by simpa using ra) o1 (by omega) fun i u h' tk bs hi hr k => ?_
      obtain ⟨w, rw1, rep⟩ := item_is I hK sub rv r1 o2 (by simpa using hi) hr k
      exact ⟨w, H, I.kept k, rw1, p.scal kn rep⟩
    · cases e
  · obtain ⟨v, rfl, q⟩ := rr.one
    split at e
    · rename_i ok
      cases e
      obtain ⟨o1, o2, o3⟩ := ord_of ok
      obtain ⟨a, ws, rfl, h1, r1⟩ := q.tupH rfl sub
      obtain ⟨its, rv, hl, hz⟩ := I.tuple (by rw [hK]; exact h1)
      obtain ⟨as, ra⟩ := readsAll_of I hK sub rv r1 o2
      rw [Vals.ref1 r]
      refine PySem.W.min_tuple_data (I.ok.hd hc) hl (by simpa using ra) o1 (by omega) fun i u h' tk bs hi hr k => ?_
      obtain ⟨w, rw1, rep⟩ := item_is I hK sub rv r1 o2 (by simpa using hi) hr k
      exact ⟨w, H, I.kept k, rw1, p.scal kn rep⟩
    · cases e
  · cases e
theorem blt_max1 (hc : X.calm = true) (hK : X.K = c.K) (hu : X.A.units + 200 < cLine) : CallR X (fval .max1) (rBlt c .max1) := by
  intro pins s σ H vs us Q I r h
  obtain ⟨Hs, F, rs, z, t, kn, rr, e, p⟩ := h
  have sub := kn.g.sub
  unfold bltD at e
  split at e <;> rename_i e1 <;> first | (cases e1; done) | skip
  · obtain ⟨v, rfl, q⟩ := rr.one
    split at e
    · rename_i ok
      cases e
      obtain ⟨o1, o2, o3⟩ := ord_of ok
      obtain ⟨a, ws, rfl, h1, r1⟩ := q.lstR rfl sub
      obtain ⟨its, rv, hl, hz⟩ := I.list (by rw [hK]; exact h1)
      obtain ⟨as, ra⟩ := readsAll_of I hK sub rv r1 o2
      rw [Vals.ref1 r]
      refine PySem.W.max_list_data (I.ok.hd hc) hl.isList (by simpa using ra) o1 (by omega) fun i u h' tk bs hi hr k => ?_
      obtain ⟨w, rw1, rep⟩ := item_is I hK sub rv r1 o2 (by simpa using hi) hr k
      exact ⟨w, H, I.kept k, rw1, p.scal kn rep⟩
    · cases e
  · obtain ⟨v, rfl, q⟩ := rr.one
    split at e
    · rename_i ok
      cases e
      obtain ⟨o1, o2, o3⟩ := ord_of ok
      obtain ⟨a, ws, rfl, h1, r1⟩ := q.tupH rfl sub
      obtain ⟨its, rv, hl, hz⟩ := I.tuple (by rw [hK]; exact h1)
      obtain ⟨as, ra⟩ := readsAll_of I hK sub rv r1 o2
      rw [Vals.ref1 r]
      refine PySem.W.max_tuple_data (I.ok.hd hc) hl (by simpa using ra) o1 (by omega) fun i u h' tk bs hi hr k => ?_
      obtain ⟨w, rw1, rep⟩ := item_is I hK sub rv r1 o2 (by simpa using hi) hr k
      exact ⟨w, H, I.kept k, rw1, p.scal kn rep⟩
    · cases e
  · cases e
open PySem.W in
theorem each_of : ∀ {vs : List V} {ds : List D} {its : List Value}, Vals vs its → RepL c F vs ds → EachIs (fun (u : Value) (b : V × D) => RelV b.1 u ∧ Rep c F b.1 b.2) its (vs.zip ds)
  | _, _, _, .nil, .nil => .nil
  | _, _, _, .cons r t, .cons h q => .cons ⟨r, h⟩ (each_of t q)
open PySem.W in
theorem of_each : ∀ {us : List Value} {bs : List (V × D)}, EachIs (fun (u : Value) (b : V × D) => RelV b.1 u ∧ Rep c F b.1 b.2) us bs → Vals (bs.map (·.1)) us ∧ RepL c F (bs.map (·.1)) (bs.map (·.2))
  | _, _, .nil => ⟨.nil, .nil⟩
  | _, _, .cons h t => ⟨.cons h.1 (of_each t).1, .cons h.2 (of_each t).2⟩
theorem zip_fst : ∀ {vs : List V} {ds : List D}, RepL c F vs ds → (vs.zip ds).map (·.2) = ds
  | _, _, .nil => rfl
  | _, _, .cons h r => by
    rw [List.zip_cons_cons, List.map_cons, zip_fst r]
open PySem.W in
theorem blt_sorted (hK : X.K = c.K) (hu : X.A.units + 200 < cLine) : CallR X (fval .sorted) (rBlt c .sorted) := by
  intro pins s σ H vs us Q I r h
  obtain ⟨Hs, F, rs, z, t, kn, rr, e, p⟩ := h
  have sub := kn.g.sub
  unfold bltD at e
  split at e <;> rename_i e1 <;> first | (cases e1; done) | skip
  · rename_i kd0 ds0
    obtain ⟨v, rfl, q⟩ := rr.one
    split at e
    · rename_i ok
      cases e
      simp only [srtOk, Bool.and_eq_true, Bool.or_eq_true, List.all_eq_true, decide_eq_true_eq] at ok
      obtain ⟨⟨ok1, ok2⟩, ok3⟩ := ok
      obtain ⟨o1, o2, o3⟩ := alk_of ok1
      obtain ⟨a, ws, rfl, h1, r1⟩ := q.lstR rfl sub
      obtain ⟨its, rv, hl, hz⟩ := I.list (by rw [hK]; exact h1)
      rw [Vals.ref1 r]
      have zl := zip_fst r1
      have hlen : (ws.zip ds0).length = ds0.length := by
        have := congrArg List.length zl
        rw [List.length_map] at this
        exact this
      have eE := each_of rv r1
      have memz : ∀ b, b ∈ ws.zip ds0 → b.2 ∈ ds0 := fun b hb => by
        rw [← zl]
        exact List.mem_map.mpr ⟨b, hb, rfl⟩
      refine sorted_data (enc := fun b : V × D => b.2) hl.isList eE (?er) ?hal ?hk (by rw [hlen]; exact ok3) (fun b hb => ?_) fun out h1 h2 => ?_
      case er =>
        have : ∀ {us : List Value} {bs : List (V × D)}, EachIs (fun (u : Value) (b : V × D) => RelV b.1 u ∧ Rep c F b.1 b.2) us bs → PyData.plainAll (bs.map (·.2)) = true → EachIs (fun v b => ∃ as, Reads s.heap v b.2 as) us bs := by
          intro us bs h
          induction h with
          | nil => intro _; exact .nil
          | cons h t ih =>
            intro pl
            rw [List.map_cons] at pl
            simp only [PyData.plainAll, Bool.and_eq_true] at pl
            exact .cons (Dp.reads I _ _ _ (by rw [hK]; exact h.2.dp sub pl.1) h.1) (ih pl.2)
        exact this eE (by rw [zl]; exact o2)
      case hal =>
        rw [zl]
        exact o1
      case hk =>
        rw [zl]
        rcases ok2 with z | z
        · left
          intro d hd
          have := z d hd
          cases d <;> first | cases this | skip
          rename_i l
          cases l <;> first | exact ⟨_, _, rfl⟩ | cases this
        · right
          intro d hd
          have := z d hd
          refine ⟨fun e => ?_, fun xs e => ?_⟩
          · rw [e] at this; cases this
          · rw [e] at this; cases this
      · have := depth_at (memz b hb)
        show X.A.units + 2 + PyData.depth b.2 < cLine
        omega
      · obtain ⟨k1, k2⟩ := of_each h2
        have em : ((ws.zip ds0).mergeSort (dataLe false fun b : V × D => b.2)).map (·.2) = sortD ds0 := by
          have hd : (dataLe false fun b : V × D => b.2) = fun a b => leD a.2 b.2 := rfl
          rw [hd, List.map_mergeSort (r := fun a b : V × D => leD a.2 b.2) (s := leD) (f := fun x : V × D => x.2) (fun a _ b _ => rfl), zl]
          rfl
        rw [em] at k2
        obtain ⟨ep, he'⟩ := PyProof.Rows.sortedAll_at s.heap its out.toArray
        have hlen' : (((ws.zip ds0).mergeSort (dataLe false fun b : V × D => b.2)).map (·.1)).length ≤ sizeLine := by
          rw [List.length_map, List.length_mergeSort, hlen, ← lim_eq]
          exact ok3
        exact ⟨.ref _, upd H (s.heap.objs.size + 1) (.lst _), I.laid (t' := s.toks) (fun _ _ => PyProof.Rows.sortedAll_old) (Nat.le_succ _) ⟨hlen', out, ep, k1, he'⟩, rfl, p.lst kn.g kn.tp k2 _ (I.hok.fresh (Nat.le_succ _))⟩
    · cases e
  · cases e
end
end
end Q
namespace Q
open PySem PySem.Spec PyProof.Rows L2

/-! ### where one stands -/
def bnames : List Str := ["len", "abs", "int", "max", "min", "sum", "all", "any", "tuple", "list", "sorted", "range", "zip", "isinstance", "bool", "str", "dict"]
/-- a call of a def of the program -/
def spF (c : Pm) (m : List D → M R) : Sp := fun vs H Q _ => ∃ F t ds r t', Ext F H ∧ Tape c F H t ∧ RepL c F vs ds ∧ m ds t = some (r, t') ∧ Post c F H r t' Q
/-- the next draw -/
def spN (c : Pm) : Sp := fun vs H Q _ => ∃ F t a m i t', vs = [.ref a, .int m] ∧ c.aw = some a ∧ Ext F H ∧ Tape c F H t ∧ nextD c.ds m t = some (i, t') ∧ Post c F H (shd (.int i)) t' Q
structure Def (X : Cx) (k : Nat) (x : Str) (sp : Sp) : Prop where
  ex : ∃ a fd ps, X.mg x = some (.ref a) ∧ PySem.W.keepIn X.K (.ref a) = true ∧ Binds X.K fd ps [] ∧ FnOk X.prog X.w X.K X.mg X.base CX0 k a fd ps sp
structure Good (X : Cx) (c : Pm) (g : Gl) (fs : List Str) : Prop where
  calm : X.calm = true
  nd : X.N.Nodup
  hK : X.K = c.K
  xe : X.xe = fun _ _ => False
  hu : X.A.units + 200 < cLine
  ds : g.ds = c.ds
  bn : ∀ x, x ∈ bnames → X.mg x = none
  db : X.mg "__debug__" = none
  fn : ∃ k, Room k X.A ∧ (∀ f x, fs[f]? = some x → Def X k x (spF c (g.call f))) ∧ (c.aw ≠ none → Def X k "_law_next" (spN c))
end Q
namespace Q
open PySem PySem.Spec PyProof.Rows L2
theorem Good.blk {X : Cx} {c : Pm} {g : Gl} {fs : List Str} (G : Good X c g fs) (s : Shared) (H : Hp) (sc : Scope) (env : PySem.Env) (fp : List Addr) : Good (X.blk s H sc env fp) c g fs := by
  obtain ⟨k, hr, h1, h2⟩ := G.fn
  exact ⟨G.calm, G.nd, G.hK, rfl, G.hu, G.ds, G.bn, G.db, k, hr, fun f x e => ⟨(h1 f x e).ex⟩, fun n => ⟨(h2 n).ex⟩⟩

theorem star_cons {e : PySem.Expr} {es : List PySem.Expr} {env : PySem.Env} (h : noStar e = true) : starEach (e :: es) env = (false, eval e env) :: starEach es env := by
  cases e <;> first | rfl | cases h
theorem star_all : ∀ {es : List PySem.Expr} {env : PySem.Env}, es.all noStar = true → (starEach es env).any (·.1) = false
  | [], _, _ => rfl
  | e :: es, env, h => by
    simp only [List.all_cons, Bool.and_eq_true] at h
    rw [star_cons h.1, List.any_cons, star_all h.2]
    rfl
theorem back_any (pos : Pos) (l : List (Bool × Sem Value)) : (backTo pos l).any (·.1) = l.any (·.1) := by
  unfold backTo
  rw [List.any_map]
  rfl
theorem mark_no {op : CmpOp} {e : PySem.Expr} (h : noSet e = true) : behindInMarks op e = false := by
  cases e <;> first | rfl | cases h
theorem ix_plain {b : PySem.Expr} (h : noSlice b = true) : PlainIx b := by
  intro o i
  cases b <;> first | rfl | cases h
theorem set_plain {iter : PySem.Expr} (env : PySem.Env) (x : Value) (h : noSet iter = true) : foldedSetIterable iter env x = pure x := by
  cases iter <;> first | rfl | cases h
section
variable {X : Cx} {c : Pm} {g : Gl} {fs : List Str}
variable {F0 H0 F H F' H' Hs : Hp} {σ : L2.St} {ρ : Env} {t t' : Nat} {v : V} {x : R}
theorem SR.kn (S : SR c F0 H0 F H σ ρ t) (b : ∀ a, H a = none → Hs a = none) : Kn c Hs F H t := ⟨S.refl, b, S.tp⟩
theorem r_var {i : Nat} {e : PySem.Expr} (h : chkN X.N X.env.scope i e = true) : PE X e (mE c fun ρ => opt (getS ρ i)) := by
  cases e <;> first | cases h | skip
  rename_i x pos
  simp only [chkN, Bool.and_eq_true, decide_eq_true_eq, Bool.not_eq_true'] at h
  obtain ⟨⟨⟨h1, h2⟩, h3⟩, h4⟩ := h
  have hv : Vis X.env.scope x := by
    unfold vis at h2
    unfold Vis
    split at h2
    · rename_i q; exact .inl q
    · rename_i q; exact .inr (.inl q)
    · rename_i q; exact .inr (.inr q)
    · cases h2
  refine PE.weak (pe_var h1 hv h3 h4) fun σ H Q q => ?_
  obtain ⟨F0, H0, F, ρ, t, r, t', S, e, p⟩ := q
  obtain ⟨e', rfl⟩ := opt_some e
  obtain ⟨v, ev, rr⟩ := S.get e'
  exact ⟨v, ev, p v F H S.refl S.tp rr⟩
theorem r_cst {d : D} {k : Const} {j : Nat} {pos : Pos} (h : cstM d k = true) : PE X (.Constant k j pos) (mE c fun ρ => ret (shd d)) := by
  have fin : ∀ {σ : L2.St} {H : Hp} {Q : VK} {w : V}, (∀ F, Rep c F w d) → mE c (fun ρ => ret (shd d)) σ H Q → Q w H := fun {σ H Q w} hw q => by
    obtain ⟨F0, H0, F, ρ, t, r, t', S, e, p⟩ := q
    cases e
    exact p w F H S.refl S.tp (hw F)
  cases d <;> cases k <;> first | cases h | skip
  · exact PE.weak pe_non fun σ H Q q => fin (fun _ => .non) q
  · have e := beq_iff_eq.mp h
    subst e
    exact PE.weak pe_bl fun σ H Q q => fin (fun _ => .bl _) q
  · have e := beq_iff_eq.mp h
    subst e
    exact PE.weak pe_int fun σ H Q q => fin (fun _ => .int _) q
  · have e := of_decide_eq_true h
    subst e
    exact PE.weak pe_str fun σ H Q q => fin (fun _ => .str _) q
theorem intOf_some {d : D} {i : Int} (h : intOf d = some i) : d = .int i := by
  cases d <;> first | cases h | skip
  rfl
theorem tru_some {d : D} {i : Bool} (h : tru d = some i) : d = .bool i := by
  cases d <;> first | cases h | skip
  rfl
variable {a b e : PySem.Expr} {ma mb : Env → M R} {pos : Pos}
theorem r_neg (ha : PE X a (mE c ma)) : PE X (.UnaryOp .USub a pos) (mE c fun ρ => bnd (ma ρ) fun x => opt ((intOf x.d).map fun i => shd (.int (-i)))) := by
  refine PE.weak (pe_un un_neg ha) fun σ H Q q => ?_
  obtain ⟨F0, H0, F, ρ, t, r, t', S, e, p⟩ := q
  obtain ⟨x, t1, e1, e⟩ := bnd_some e
  obtain ⟨e', rfl⟩ := opt_some e
  obtain ⟨i, hi, rfl⟩ := Option.map_eq_some_iff.mp e'
  exact one S e1 fun v F1 H1 gr tp S1 rr => ⟨i, rr.int (intOf_some hi), p _ F1 H1 gr tp (Rep.int _)⟩
theorem r_bin (G : Good X c g fs) {op : Op} {pop : Operator} (ho : opM op pop = true) (ha : PE X a (mE c ma)) (hb : PE X b (mE c mb)) :
    PE X (.BinOp a pop b pos) (mE c fun ρ => bnd (ma ρ) fun x => bnd (mb ρ) fun y => opt (opD op x y)) := by
  refine PE.weak (pe_op (op_all G.hK op ho) ha hb) fun σ H Q q => ?_
  obtain ⟨F0, H0, F, ρ, t, r, t', S, e, p⟩ := q
  obtain ⟨x, t1, e1, e⟩ := bnd_some e
  obtain ⟨y, t2, e2, e⟩ := bnd_some e
  obtain ⟨e', rfl⟩ := opt_some e
  exact two S e1 e2 fun v u F1 H1 gr tp S1 r1 r2 => ⟨H, F1, x, y, r, _, S1.kn gr.back, r1, r2, e', p.on gr⟩
theorem bol_some {o : Option Bool} {t t' : Nat} {r : R} (h : bol o t = some (r, t')) : ∃ b, o = some b ∧ r = shd (.bool b) ∧ t' = t := by
  unfold bol at h
  cases o with
  | none => cases h
  | some b =>
    cases h
    exact ⟨b, rfl, rfl, rfl⟩
theorem r_cmp (G : Good X c g fs) {op : Cp} {pop : CmpOp} (ho : cpM op pop = true) (ha : PE X a (mE c ma)) (hb : PE X b (mE c mb)) (hs : noSet b = true) :
    PE X (.Compare a [pop] [b] pos) (mE c fun ρ => bnd (ma ρ) fun x => bnd (mb ρ) fun y => bol (cpD op x.d y.d)) := by
  refine PE.weak (pe_cmpR (cp_all G.hK G.hu op ho) ha hb (mark_no hs)) fun σ H Q q => ?_
  obtain ⟨F0, H0, F, ρ, t, r, t', S, e, p⟩ := q
  obtain ⟨x, t1, e1, e⟩ := bnd_some e
  obtain ⟨y, t2, e2, e⟩ := bnd_some e
  obtain ⟨k, e', rfl, rfl⟩ := bol_some e
  exact two S e1 e2 fun v u F1 H1 gr tp S1 r1 r2 => ⟨H, F1, x, y, k, _, S1.kn gr.back, r1, r2, e', p _ F1 H1 gr tp (Rep.bl _)⟩
theorem rt_cmp (G : Good X c g fs) {op : Cp} {pop : CmpOp} (ho : cpM op pop = true) (ha : PE X a (mE c ma)) (hb : PE X b (mE c mb)) (hs : noSet b = true) :
    PT X (.Compare a [pop] [b] pos) (mT c fun ρ => bnd (ma ρ) fun x => bnd (mb ρ) fun y => opt (cpD op x.d y.d)) := by
  refine PT.weak (pt_cmpR (cp_all G.hK G.hu op ho) ha hb (mark_no hs)) fun σ H Q q => ?_
  obtain ⟨F0, H0, F, ρ, t, r, t', S, e, p⟩ := q
  obtain ⟨x, t1, e1, e⟩ := bnd_some e
  obtain ⟨y, t2, e2, e⟩ := bnd_some e
  obtain ⟨e', rfl⟩ := opt_some e
  exact two (Q := fun v u H1 => rCp c op v u H1 fun z H2 => ∃ k, z = .bl k ∧ Q k H2) S e1 e2 fun v u F1 H1 gr tp S1 r1 r2 => ⟨H, F1, x, y, r, _, S1.kn gr.back, r1, r2, e', r, rfl, p F1 H1 gr tp⟩
theorem last_no {op op' : CmpOp} {b d : PySem.Expr} (h2 : noSet d = true) : lastMarks [op, op'] [b, d] = false := mark_no h2
variable {d : PySem.Expr} {md : Env → M R}
theorem r_chn (G : Good X c g fs) {op op' : Cp} {pop pop' : CmpOp} (ho : cpM op pop = true) (ho' : cpM op' pop' = true) (ha : PE X a (mE c ma)) (hb : PE X b (mE c mb)) (hd : PE X d (mE c md)) (hs : noSet d = true) :
    PE X (.Compare a [pop, pop'] [b, d] pos) (mE c fun ρ => bnd (ma ρ) fun x => bnd (mb ρ) fun y => bnd (opt (cpD op x.d y.d)) fun k => if k then bnd (md ρ) fun z => bol (cpD op' y.d z.d) else ret (shd (.bool false))) := by
  refine PE.weak (pe_chain (cp_all G.hK G.hu op ho) (cp_all G.hK G.hu op' ho') ha hb hd (last_no hs)) fun σ H Q q => ?_
  obtain ⟨F0, H0, F, ρ, t, r, t', S, e, p⟩ := q
  obtain ⟨x, t1, e1, e⟩ := bnd_some e
  obtain ⟨y, t2, e2, e⟩ := bnd_some e
  obtain ⟨k, t3, e3, e⟩ := bnd_some e
  obtain ⟨e3', rfl⟩ := opt_some e3
  refine two S e1 e2 fun v u F1 H1 gr tp S1 r1 r2 => ⟨H, F1, x, y, k, _, S1.kn gr.back, r1, r2, e3', k, rfl, ?_⟩
  cases k with
  | true =>
    rw [if_pos rfl] at e ⊢
    obtain ⟨z, t4, e4, e⟩ := bnd_some e
    obtain ⟨k', e', rfl, rfl⟩ := bol_some e
    exact one S1 e4 fun w F2 H2 gr2 tp2 S2 r3 => ⟨H, F2, y, z, k', _, S2.kn (gr.trans gr2).back, r2.grow gr2 tp, r3.back gr.back, e', p _ F2 H2 (gr.trans gr2) tp2 (Rep.bl _)⟩
  | false =>
    rw [if_neg (by decide)] at e ⊢
    cases e
    exact p _ F1 H1 gr tp (Rep.bl _)
end
end Q
namespace Q
open PySem PySem.Spec PyProof.Rows L2
theorem opt_bnd {α β : Type} {o : Option α} {f : α → M β} {t : Nat} {r : β × Nat} (h : bnd (opt o) f t = some r) : ∃ a, o = some a ∧ f a t = some r := by
  cases o with
  | none => cases h
  | some a => exact ⟨a, rfl, h⟩
section
variable {X : Cx} {c : Pm} {g : Gl} {fs : List Str}
variable {F0 H0 F H F' H' Hs : Hp} {σ : L2.St} {ρ : Env} {t t' t1 t2 : Nat} {v : V} {x : R}
variable {a b d : PySem.Expr} {ma mb md : Env → M R} {pos : Pos} {rest : List PySem.Expr}
theorem oneL {m : Env → M (List R)} {xs : List R} {Q : List V → Hp → Prop} (S : SR c F0 H0 F H σ ρ t) (e : m ρ t = some (xs, t1))
    (k : ∀ vs F1 H1, Grow c F H F1 H1 → Tape c F1 H1 t1 → SR c F0 H0 F1 H1 σ ρ t1 → RRL c H F1 H1 vs xs → Q vs H1) : mL c m σ H Q :=
  ⟨F0, H0, F, ρ, t, xs, t1, S, e, fun v F1 H1 g tp r => k v F1 H1 g tp (S.grow g tp) r⟩
theorem oneO {m : Env → M (Option Int)} {b : Option Int} {Q : Option Int → Hp → Prop} (S : SR c F0 H0 F H σ ρ t) (e : m ρ t = some (b, t1))
    (k : ∀ F1 H1, Grow c F H F1 H1 → Tape c F1 H1 t1 → SR c F0 H0 F1 H1 σ ρ t1 → Q b H1) : mO c m σ H Q :=
  ⟨F0, H0, F, ρ, t, b, t1, S, e, fun F1 H1 g tp => k F1 H1 g tp (S.grow g tp)⟩
theorem rt_chn (G : Good X c g fs) {op op' : Cp} {pop pop' : CmpOp} (ho : cpM op pop = true) (ho' : cpM op' pop' = true) (ha : PE X a (mE c ma)) (hb : PE X b (mE c mb)) (hd : PE X d (mE c md)) (hs : noSet d = true) :
    PT X (.Compare a [pop, pop'] [b, d] pos) (mT c fun ρ => bnd (ma ρ) fun x => bnd (mb ρ) fun y => bnd (opt (cpD op x.d y.d)) fun k => if k then bnd (md ρ) fun z => opt (cpD op' y.d z.d) else ret false) := by
  refine PT.weak (pt_chain (cp_all G.hK G.hu op ho) (cp_all G.hK G.hu op' ho') ha hb hd (last_no hs)) fun σ H Q q => ?_
  obtain ⟨F0, H0, F, ρ, t, r, t', S, e, p⟩ := q
  obtain ⟨x, t1, e1, e⟩ := bnd_some e
  obtain ⟨y, t2, e2, e⟩ := bnd_some e
  obtain ⟨k, e3', e⟩ := opt_bnd e
  refine two (Q := fun v u H1 => rCp c op v u H1 fun z H3 => ∃ k, z = .bl k ∧ (if k = true then mE c md σ H3 fun w' H4 => rCp c op' u w' H4 (fun z H5 => ∃ k, z = .bl k ∧ Q k H5) else ∃ k, V.bl false = .bl k ∧ Q k H3)) S e1 e2 fun v u F1 H1 gr tp S1 r1 r2 => ⟨H, F1, x, y, k, _, S1.kn gr.back, r1, r2, e3', k, rfl, ?_⟩
  cases k with
  | true =>
    rw [if_pos rfl] at e ⊢
    obtain ⟨z, t4, e4, e⟩ := bnd_some e
    obtain ⟨e', rfl⟩ := opt_some e
    exact one S1 e4 fun w F2 H2 gr2 tp2 S2 r3 => ⟨H, F2, y, z, r, _, S2.kn (gr.trans gr2).back, r2.grow gr2 tp, r3.back gr.back, e', r, rfl, p F2 H2 (gr.trans gr2) tp2⟩
  | false =>
    rw [if_neg (by decide)] at e ⊢
    cases e
    exact ⟨false, rfl, p F1 H1 gr tp⟩
theorem r_one {op : BoolOp} (ha : PE X a (mE c ma)) : PE X (.BoolOp op [a] pos) (mE c ma) := pe_one ha
theorem r_and (ha : PE X a (mE c ma)) (hb : PE X (.BoolOp .And (b :: rest) pos) (mE c mb)) : PE X (.BoolOp .And (a :: b :: rest) pos) (mE c fun ρ => bnd (ma ρ) fun x => bnd (opt (tru x.d)) fun k => if k then mb ρ else ret (shd (.bool false))) := by
  refine PE.weak (pe_and ha hb) fun σ H Q q => ?_
  obtain ⟨F0, H0, F, ρ, t, r, t', S, e, p⟩ := q
  obtain ⟨x, t1, e1, e⟩ := bnd_some e
  obtain ⟨k, e2', e⟩ := opt_bnd e
  refine one S e1 fun v F1 H1 gr tp S1 r1 => ⟨k, r1.bool (tru_some e2'), ?_⟩
  cases k with
  | true =>
    rw [if_pos rfl] at e ⊢
    exact ⟨F0, H0, F1, ρ, _, r, t', S1, e, p.on gr⟩
  | false =>
    rw [if_neg (by decide)] at e ⊢
    cases e
    exact p _ F1 H1 gr tp (Rep.bl _)
theorem r_or (ha : PE X a (mE c ma)) (hb : PE X (.BoolOp .Or (b :: rest) pos) (mE c mb)) : PE X (.BoolOp .Or (a :: b :: rest) pos) (mE c fun ρ => bnd (ma ρ) fun x => bnd (opt (tru x.d)) fun k => if k then ret (shd (.bool true)) else mb ρ) := by
  refine PE.weak (pe_or ha hb) fun σ H Q q => ?_
  obtain ⟨F0, H0, F, ρ, t, r, t', S, e, p⟩ := q
  obtain ⟨x, t1, e1, e⟩ := bnd_some e
  obtain ⟨k, e2', e⟩ := opt_bnd e
  refine one S e1 fun v F1 H1 gr tp S1 r1 => ⟨k, r1.bool (tru_some e2'), ?_⟩
  cases k with
  | true =>
    rw [if_pos rfl] at e ⊢
    cases e
    exact p _ F1 H1 gr tp (Rep.bl _)
  | false =>
    rw [if_neg (by decide)] at e ⊢
    exact ⟨F0, H0, F1, ρ, _, r, t', S1, e, p.on gr⟩
theorem r_not (ha : PE X a (mE c ma)) : PE X (.UnaryOp .Not a pos) (mE c fun ρ => bnd (ma ρ) fun x => bnd (opt (tru x.d)) fun k => ret (shd (.bool (!k)))) := by
  refine PE.weak (pe_not ha) fun σ H Q q => ?_
  obtain ⟨F0, H0, F, ρ, t, r, t', S, e, p⟩ := q
  obtain ⟨x, t1, e1, e⟩ := bnd_some e
  obtain ⟨k, e2', e⟩ := opt_bnd e
  cases e
  exact one S e1 fun v F1 H1 gr tp S1 r1 => ⟨k, r1.bool (tru_some e2'), p _ F1 H1 gr tp (Rep.bl _)⟩
theorem PostT.on {t : Nat} {Q : Hp → Prop} (p : PostT c F H t Q) (g : Grow c F H F' H') : PostT c F' H' t Q := fun F2 H2 g2 tp2 => p F2 H2 (g.trans g2) tp2
variable {mt ms : Env → M Bool}
theorem rt_one (ha : PT X a (mT c mt)) : PW X (.BoolOp .And [a] pos) (mT c mt) := pw_and1 ha
theorem rt_oneO (ha : PT X a (mT c mt)) : PW X (.BoolOp .Or [a] pos) (mT c mt) := pw_or1 ha
theorem rt_and (ha : PT X a (mT c mt)) (hb : PW X (.BoolOp .And (b :: rest) pos) (mT c ms)) : PW X (.BoolOp .And (a :: b :: rest) pos) (mT c fun ρ => bnd (mt ρ) fun k => if k then ms ρ else ret false) := by
  refine PW.weak (pw_and ha hb) fun σ H Q q => ?_
  obtain ⟨F0, H0, F, ρ, t, r, t', S, e, p⟩ := q
  obtain ⟨k, t1, e1, e⟩ := bnd_some e
  refine oneT S e1 fun F1 H1 gr tp S1 => ?_
  cases k with
  | true =>
    rw [if_pos rfl] at e ⊢
    exact ⟨F0, H0, F1, ρ, _, r, t', S1, e, p.on gr⟩
  | false =>
    rw [if_neg (by decide)] at e ⊢
    cases e
    exact p F1 H1 gr tp
theorem rt_or (ha : PT X a (mT c mt)) (hb : PW X (.BoolOp .Or (b :: rest) pos) (mT c ms)) : PW X (.BoolOp .Or (a :: b :: rest) pos) (mT c fun ρ => bnd (mt ρ) fun k => if k then ret true else ms ρ) := by
  refine PW.weak (pw_or ha hb) fun σ H Q q => ?_
  obtain ⟨F0, H0, F, ρ, t, r, t', S, e, p⟩ := q
  obtain ⟨k, t1, e1, e⟩ := bnd_some e
  refine oneT S e1 fun F1 H1 gr tp S1 => ?_
  cases k with
  | true =>
    rw [if_pos rfl] at e ⊢
    cases e
    exact p F1 H1 gr tp
  | false =>
    rw [if_neg (by decide)] at e ⊢
    exact ⟨F0, H0, F1, ρ, _, r, t', S1, e, p.on gr⟩
theorem rt_not (ha : PT X a (mT c mt)) : PT X (.UnaryOp .Not a pos) (mT c fun ρ => bnd (mt ρ) fun k => ret (!k)) := by
  refine PT.weak (pt_not ha) fun σ H Q q => ?_
  obtain ⟨F0, H0, F, ρ, t, r, t', S, e, p⟩ := q
  obtain ⟨k, t1, e1, e⟩ := bnd_some e
  cases e
  exact oneT S e1 fun F1 H1 gr tp S1 => p F1 H1 gr tp
theorem rt_val (ha : PE X a (mE c ma)) (h : plainT a = true) : PT X a (mT c fun ρ => bnd (ma ρ) fun r => opt (tru r.d)) := by
  refine PT.weak (pt_val ha ?_) fun σ H Q q => ?_
  · intro wh
    cases a <;> first | rfl | cases h | skip
    rename_i op x p
    cases op <;> first | rfl | cases h
  · obtain ⟨F0, H0, F, ρ, t, r, t', S, e, p⟩ := q
    obtain ⟨x, t1, e1, e⟩ := bnd_some e
    obtain ⟨e', rfl⟩ := opt_some e
    exact one S e1 fun v F1 H1 gr tp S1 r1 => ⟨r, r1.bool (tru_some e'), p F1 H1 gr tp⟩
theorem r_ite (ht : PT X d (mT c mt)) (ha : PE X a (mE c ma)) (hb : PE X b (mE c mb)) : PE X (.IfExp d a b pos) (mE c fun ρ => bnd (mt ρ) fun k => if k then ma ρ else mb ρ) := by
  refine PE.weak (pe_ifExp ht ha hb) fun σ H Q q => ?_
  obtain ⟨F0, H0, F, ρ, t, r, t', S, e, p⟩ := q
  obtain ⟨k, t1, e1, e⟩ := bnd_some e
  refine oneT S e1 fun F1 H1 gr tp S1 => ?_
  cases k with
  | true =>
    rw [if_pos rfl] at e ⊢
    exact ⟨F0, H0, F1, ρ, _, r, t', S1, e, p.on gr⟩
  | false =>
    rw [if_neg (by decide)] at e ⊢
    exact ⟨F0, H0, F1, ρ, _, r, t', S1, e, p.on gr⟩
variable {es : List PySem.Expr} {ml : Env → M (List R)}
theorem r_nil : PA X [] (mL c fun ρ => ret []) := by
  refine PA.weak pa_nil fun σ H Q q => ?_
  obtain ⟨F0, H0, F, ρ, t, r, t', S, e, p⟩ := q
  cases e
  exact p [] F H S.refl S.tp .nil
theorem r_consL (ha : PE X a (mE c ma)) (hr : PA X es (mL c ml)) (hs : noStar a = true) : PA X (a :: es) (mL c fun ρ => bnd (ma ρ) fun r => bnd (ml ρ) fun rs => ret (r :: rs)) := by
  refine PA.weak (pa_cons ha hr (star_cons hs)) fun σ H Q q => ?_
  obtain ⟨F0, H0, F, ρ, t, r, t', S, e, p⟩ := q
  obtain ⟨x, t1, e1, e⟩ := bnd_some e
  obtain ⟨xs, t2, e2, e⟩ := bnd_some e
  cases e
  exact one S e1 fun v F1 H1 gr tp S1 r1 => oneL S1 e2 fun vs F2 H2 gr2 tp2 S2 r2 => p _ F2 H2 (gr.trans gr2) tp2 (.cons (r1.grow gr2 tp) (r2.back gr.back) fun hk i u q e3 e4 hq z => by
    have r3 := r2.get e3 e4
    unfold RR at r1 r3
    rw [hk] at r1
    rw [hq] at r3
    obtain ⟨a1, z1, _, _, h1⟩ := r1
    obtain ⟨a2, z2, h2, _⟩ := r3
    obtain ⟨o, ho⟩ := h1.at
    have : a2 = a1 := by
      have z3 := z2.symm.trans (z.trans z1)
      cases z3
      rfl
    rw [this, ho] at h2
    cases h2)
theorem tupR_some {xs : List D} {t t' : Nat} {r : R} (h : tupR xs t = some (r, t')) : xs.length ≤ lim ∧ r = ⟨.sh, .tuple xs⟩ ∧ t' = t := by
  unfold tupR at h
  split at h
  · rename_i q
    cases h
    exact ⟨q, rfl, rfl⟩
  · cases h
theorem lstR_some {xs : List D} {t t' : Nat} {r : R} (h : lstR xs t = some (r, t')) : xs.length ≤ lim ∧ r = ⟨.fr, .list xs⟩ ∧ t' = t := by
  unfold lstR at h
  split at h
  · rename_i q
    cases h
    exact ⟨q, rfl, rfl⟩
  · cases h
theorem r_tup {k : Nat} (ha : PA X es (mL c ml)) : PE X (.Tuple es k pos) (mE c fun ρ => bnd (ml ρ) fun rs => bnd (opt (rs.mapM shared)) fun ds => tupR ds) := by
  refine PE.weak (pe_tup ha) fun σ H Q q => ?_
  obtain ⟨F0, H0, F, ρ, t, r, t', S, e, p⟩ := q
  obtain ⟨rs, t1, e1, e⟩ := bnd_some e
  obtain ⟨ds, e2', e⟩ := opt_bnd e
  obtain ⟨hl, rfl, rfl⟩ := tupR_some e
  refine oneL S e1 fun vs F1 H1 gr tp S1 r1 => ?_
  obtain ⟨F2, g2, tp2, r2, x2, k2⟩ := RRL.share r1 e2' gr tp
  exact ⟨by rw [r2.length, ← lim_eq]; exact hl, p.tup g2 tp2 r2⟩
theorem r_lst (ha : PA X es (mL c ml)) : PE X (.List es pos) (mE c fun ρ => bnd (ml ρ) fun rs => bnd (opt (rs.mapM shared)) fun ds => lstR ds) := by
  refine PE.weak (pe_lst ha) fun σ H Q q => ?_
  obtain ⟨F0, H0, F, ρ, t, r, t', S, e, p⟩ := q
  obtain ⟨rs, t1, e1, e⟩ := bnd_some e
  obtain ⟨ds, e2', e⟩ := opt_bnd e
  obtain ⟨hl, rfl, rfl⟩ := lstR_some e
  refine oneL S e1 fun vs F1 H1 gr tp S1 r1 => ?_
  obtain ⟨F2, g2, tp2, r2, x2, k2⟩ := RRL.share r1 e2' gr tp
  exact ⟨by rw [r2.length, ← lim_eq]; exact hl, p.lst g2 tp2 r2⟩
/-- all that are not read only, made to stay: for a call that gives back a plain value -/
theorem RRL.lend {t : Nat} : ∀ {vs : List V} {rs : List R} {F' : Hp}, RRL c H F' H' vs rs → (rs.all fun a => decide (a.kd ≠ .ro)) = true → Ext F' H' → Tape c F' H' t →
    ∃ F2, Ext F' F2 ∧ Ext F2 H' ∧ Tape c F2 H' t ∧ RepL c F2 vs (rs.map (·.d)) ∧ ∀ a, F2 a = F' a ∨ (F' a = none ∧ F2 a = H' a)
  | _, _, F', .nil, _, s, tp => ⟨F', Ext.refl _, s, tp, .nil, fun a => .inl rfl⟩
  | _, _, F', .cons (v := v) (r := r) (rs := rs) h hs _, e, s, tp => by
    simp only [List.all_cons, Bool.and_eq_true, decide_eq_true_eq] at e
    obtain ⟨F2, x2, s2, tp2, r2, k2⟩ := RRL.lend hs (by simpa using e.2) s tp
    have byTop : ∀ a, v = .ref a → F' a = none → Top c F' H' a r.d → ∃ F2, Ext F' F2 ∧ Ext F2 H' ∧ Tape c F2 H' t ∧ RepL c F2 (v :: _) ((r :: rs).map (·.d)) ∧ ∀ a, F2 a = F' a ∨ (F' a = none ∧ F2 a = H' a) := fun a e1 f hT => by
      have hT2 := hT.monoF x2
      have ne := hT.ne tp
      subst e1
      by_cases q3 : F2 a = none
      · refine ⟨frz1 F2 H' a, x2.trans (frz1_ext q3), frz1_sub s2, tp2.frz q3 ne, .cons (hT2.rep q3) (r2.mono (frz1_ext q3)), fun b => ?_⟩
        by_cases z : b = a
        · subst z
          exact .inr ⟨f, by unfold frz1; rw [if_pos rfl]⟩
        · rcases k2 b with w | w
          · exact .inl (by unfold frz1; rw [if_neg z]; exact w)
          · exact .inr ⟨w.1, by unfold frz1; rw [if_neg z]; exact w.2⟩
      · have q4 : F2 a = H' a := by
          rcases k2 a with w | w
          · rw [w] at q3
            exact absurd f q3
          · exact w.2
        exact ⟨F2, x2, s2, tp2, .cons (hT2.rep' q4) r2, k2⟩
    unfold RR at h
    split at h
    · exact ⟨F2, x2, s2, tp2, .cons (Rep.mono x2 h) r2, k2⟩
    · obtain ⟨a, e1, _, f, hT⟩ := h
      exact byTop a e1 f hT
    · obtain ⟨a, e1, f, hT⟩ := h
      exact byTop a e1 f hT
    · rename_i z
      exact absurd z e.1
theorem mapM_shared : ∀ {rs : List R}, (rs.all fun a => decide (a.kd = .sh) || decide (a.kd = .fr)) = true → rs.mapM shared = some (rs.map (·.d))
  | [], _ => rfl
  | r :: rs, h => by
    simp only [List.all_cons, Bool.and_eq_true, Bool.or_eq_true, decide_eq_true_eq] at h
    have e1 : shared r = some r.d := by
      unfold shared
      rcases h.1 with q | q <;> rw [q]
    rw [List.mapM_cons, e1, mapM_shared (by simpa using h.2)]
    rfl
theorem gl_of {x : Str} (h : gl X.env.scope x = true) : L2.Gl X x := by
  simp only [gl, decide_eq_true_eq] at h
  exact h
theorem r_call (G : Good X c g fs) {f : Nat} {x : Str} {p : Pos} (hf : fs[f]? = some x) (hx : gl X.env.scope x = true) (ha : PA X (a :: es) (mL c ml)) (h1 : noStar a = true) (h2 : es.all noStar = true) (hdb : (x == ("__debug__" : Str)) = false) :
    PE X (.Call (.Name x p) (a :: es) [] pos) (mE c fun ρ => bnd (ml ρ) fun rs => bnd (g.call f (rs.map (·.d))) fun r => opt (callKd rs r)) := by
  obtain ⟨k, hr, hd, _⟩ := G.fn
  obtain ⟨fa, fd, ps, e1, e2, e3, e4⟩ := (hd f x hf).ex
  refine PE.weak (pe_call e4 hr (gl_of hx) e1 e2 e3 .nil pass0 ha hdb (star_cons h1) (by rw [back_any]; exact star_all h2)) fun σ H Q q => ?_
  obtain ⟨F0, H0, F, ρ, t, r, t', S, e, p⟩ := q
  obtain ⟨rs, t1, e1, e⟩ := bnd_some e
  obtain ⟨r0, t2, e2, e⟩ := bnd_some e
  obtain ⟨e', rfl⟩ := opt_some e
  refine oneL S e1 fun vs F1 H1 gr tp S1 r1 => ?_
  show spF c (g.call f) (vs ++ []) H1 Q E0
  rw [List.append_nil]
  unfold callKd at e'
  split at e'
  · rename_i hall
    have er := Option.some.inj e'
    subst er
    obtain ⟨F2, g2, tp2, r2, x2, k2⟩ := RRL.share r1 (mapM_shared hall) gr tp
    exact ⟨F2, t1, _, r0, _, g2.sub, tp2, r2, e2, p.on g2⟩
  · split at e'
    · rename_i hall
      cases e'
      simp only [Bool.and_eq_true] at hall
      obtain ⟨F2, x2, s2, tp2, r2, k2⟩ := RRL.lend r1 hall.1 gr.sub tp
      refine ⟨F2, t1, _, r0, _, s2, tp2, r2, e2, fun v F3 H3 g3 tp3 r3 => ?_⟩
      have g4 : Grow c F1 H1 F1 H3 := ⟨Ext.refl _, g3.hx, fun a q q' => absurd q q', x2.trans (g3.ex.trans g3.sub), g3.aw, g3.aw'⟩
      have tp4 : Tape c F1 H3 _ := tp.of g4 fun a e => (tp3.som e).1
      exact p _ F1 H3 (gr.trans g4) tp4 (Rep.sc hall.2 (r3.scal hall.2))
    · cases e'
theorem no_tape {kvs : List (Key × V)} (h : RepK c F kvs [(.none, .none)]) : False := by
  generalize hq : [((PyData.none : D), (PyData.none : D))] = l at h
  cases h with
  | nil => cases hq
  | cons h r =>
    rename_i k _ _ _ _
    cases k <;> cases hq
theorem r_nxt (G : Good X c g fs) {w : Nat} {p : Pos} {y : PySem.Expr} (hx : gl X.env.scope "_law_next" = true) (hw : chkN X.N X.env.scope w y = true) (ha : PE X a (mE c ma)) (h1 : noStar a = true) :
    PE X (.Call (.Name "_law_next" p) [y, a] [] pos) (mE c fun ρ => bnd (ma ρ) fun x => bnd (opt (intOf x.d)) fun m => if isTape (getS ρ w) then bnd (nextD g.ds m) fun i => ret (shd (.int i)) else fail) := by
  by_cases haw : c.aw = none
  · refine ⟨fun pins s σ H Q I q => ?_⟩
    exfalso
    obtain ⟨F0, H0, F, ρ, t, r, t', S, e, p⟩ := q
    obtain ⟨x, t1, e1, e⟩ := bnd_some e
    obtain ⟨m, t2, e2, e⟩ := bnd_some e
    split at e
    · rename_i hT
      unfold isTape at hT
      split at hT
      · rename_i hg
        obtain ⟨v, _, rr⟩ := S.get hg
        cases rr with
        | dic h1 h2 => exact no_tape h2
        | tape h => rw [haw] at h; cases h
      · cases hT
    · cases e
  · obtain ⟨k, hr, _, hn⟩ := G.fn
    obtain ⟨fa, fd, ps, e1, e2, e3, e4⟩ := (hn haw).ex
    have hy : noStar y = true := by
      cases y <;> first | rfl | cases hw
    refine PE.weak (pe_call e4 hr (gl_of hx) e1 e2 e3 .nil pass0 (pa_cons (r_var (c := c) hw) (pa_cons ha pa_nil (star_cons h1)) (star_cons hy)) (by decide) (star_cons hy) (by rw [back_any]; exact star_all (by simp [h1]))) fun σ H Q q => ?_
    obtain ⟨F0, H0, F, ρ, t, r, t', S, e, p⟩ := q
    obtain ⟨x, t1, e1, e⟩ := bnd_some e
    obtain ⟨m, e2', e⟩ := opt_bnd e
    split at e
    · rename_i hT
      obtain ⟨i, t3, e3, e⟩ := bnd_some e
      cases e
      unfold isTape at hT
      split at hT
      · rename_i hg
        have ev : (fun ρ => opt (getS ρ w)) ρ t = some (⟨.sh, tapeD⟩, t) := by
          show opt (getS ρ w) t = _
          rw [hg]
          rfl
        refine one S ev fun v F1 H1 gr tp S1 rv => one S1 e1 fun u F2 H2 gr2 tp2 S2 r2 => ?_
        show spN c [v, u] H2 Q E0
        have rv : Rep c F1 v tapeD := rv
        obtain ⟨b, rfl, hb⟩ : ∃ b, v = .ref b ∧ c.aw = some b := by
          cases rv with
          | dic h1 h2 => exact (no_tape h2).elim
          | tape h => exact ⟨_, rfl, h⟩
        have := r2.int (intOf_some e2')
        subst this
        exact ⟨F2, _, b, m, i, _, rfl, hb, S2.g.sub, tp2, by rw [← G.ds]; exact e3, p.on (gr.trans gr2)⟩
      · cases hT
    · cases e
theorem r_ix (G : Good X c g fs) (ha : PE X a (mE c ma)) (hb : PE X b (mE c mb)) (hs : noSlice b = true) : PE X (.Subscript a b pos) (mE c fun ρ => bnd (ma ρ) fun x => bnd (mb ρ) fun y => opt ((ixD x.d y.d).map shd)) := by
  refine PE.weak (pe_ix ix_seq ha hb (ix_plain hs)) fun σ H Q q => ?_
  obtain ⟨F0, H0, F, ρ, t, r, t', S, e, p⟩ := q
  obtain ⟨x, t1, e1, e⟩ := bnd_some e
  obtain ⟨y, t2, e2, e⟩ := bnd_some e
  obtain ⟨e', rfl⟩ := opt_some e
  obtain ⟨d, hd, rfl⟩ := Option.map_eq_some_iff.mp e'
  refine two S e1 e2 fun v u F1 H1 gr tp S1 r1 r2 => ?_
  unfold ixD at hd
  split at hd
  · rename_i xs i ex ey
    obtain ⟨l, ws, rfl, h1, rl⟩ := r1.lstR ex S1.g.sub
    obtain ⟨j, q1, q2, q3, q4⟩ := atI_get hd
    obtain ⟨w, hw, rw'⟩ := rl.get q2
    refine .inl ⟨l, ws, i, w, rfl, r2.int ey, by rw [G.hK]; exact h1, ?_, p _ F1 H1 gr tp rw'⟩
    unfold atI at hd ⊢
    rw [rl.length]
    cases hq : ixN xs.length i with
    | none => rw [hq] at hd; cases hd
    | some j' =>
      rw [hq] at hd
      show ws[j']? = some w
      have hd : xs[j']? = some d := hd
      have : j' = j := by
        obtain ⟨z, _⟩ := ixN_seq hq
        rw [q1] at z
        cases z
        rfl
      rw [this]
      exact hw
  · rename_i xs i ex ey
    obtain ⟨l, ws, rfl, h1, rl⟩ := r1.tupH ex S1.g.sub
    obtain ⟨j, q1, q2, q3, q4⟩ := atI_get hd
    obtain ⟨w, hw, rw'⟩ := rl.get q2
    refine .inr (.inl ⟨l, ws, i, w, rfl, r2.int ey, by rw [G.hK]; exact h1, ?_, p _ F1 H1 gr tp rw'⟩)
    unfold atI at hd ⊢
    rw [rl.length]
    cases hq : ixN xs.length i with
    | none => rw [hq] at hd; cases hd
    | some j' =>
      rw [hq] at hd
      show ws[j']? = some w
      have : j' = j := by
        obtain ⟨z, _⟩ := ixN_seq hq
        rw [q1] at z
        cases z
        rfl
      rw [this]
      exact hw
  · cases hd
theorem ro_no : PO X none (mO c fun ρ => ret none) := by
  refine ⟨fun pins s σ H Q I q => po_none.run pins s σ H Q I ?_⟩
  obtain ⟨F0, H0, F, ρ, t, r, t', S, e, p⟩ := q
  cases e
  exact p F H S.refl S.tp
theorem ro_so (ha : PE X a (mE c ma)) : PO X (some a) (mO c fun ρ => bnd (ma ρ) fun r => bnd (opt (intOf r.d)) fun i => ret (some i)) := by
  refine ⟨fun pins s σ H Q I q => (po_some ha).run pins s σ H Q I ?_⟩
  obtain ⟨F0, H0, F, ρ, t, r, t', S, e, p⟩ := q
  obtain ⟨x, t1, e1, e⟩ := bnd_some e
  obtain ⟨i, e2', e⟩ := opt_bnd e
  cases e
  exact one S e1 fun v F1 H1 gr tp S1 r1 => ⟨i, r1.int (intOf_some e2'), p F1 H1 gr tp⟩
variable {lo hi : Option PySem.Expr} {mlo mhi : Env → M (Option Int)}
theorem RepL.cut {vs : List V} {ds : List D} (h : RepL c F vs ds) (lo hi : Option Int) : RepL c F (cutV vs lo hi) (cut ds lo hi) := by
  unfold cutV Q.cut
  rw [h.length]
  exact (h.drop _).take _
theorem r_sl (G : Good X c g fs) {p2 : Pos} (ha : PE X a (mE c ma)) (hl : PO X lo (mO c mlo)) (hh : PO X hi (mO c mhi)) : PE X (.Subscript a (.Slice lo hi none p2) pos) (mE c fun ρ => bnd (ma ρ) fun x => bnd (mlo ρ) fun l => bnd (mhi ρ) fun h => opt (slD x.d l h)) := by
  refine PE.weak (pe_slice (sl_list.or sl_tupA) ha hl hh) fun σ H Q q => ?_
  obtain ⟨F0, H0, F, ρ, t, r, t', S, e, p⟩ := q
  obtain ⟨x, t1, e1, e⟩ := bnd_some e
  obtain ⟨l, t2, e2, e⟩ := bnd_some e
  obtain ⟨h, t3, e3, e⟩ := bnd_some e
  obtain ⟨e', rfl⟩ := opt_some e
  refine one S e1 fun v F1 H1 gr tp S1 r1 => oneO S1 e2 fun F2 H2 gr2 tp2 S2 => oneO S2 e3 fun F3 H3 gr3 tp3 S3 => ?_
  have g4 := gr2.trans gr3
  have r4 := r1.grow g4 tp
  unfold slD at e'
  split at e'
  · rename_i xs ex
    cases e'
    obtain ⟨a, ws, rfl, h1, rl⟩ := r4.lstR ex S3.g.sub
    exact .inl ⟨a, ws, rfl, by rw [G.hK]; exact h1, p.lst (gr.trans g4) tp3 (rl.cut l h)⟩
  · rename_i xs ex
    cases e'
    obtain ⟨a, ws, rfl, h1, rl⟩ := r4.tupH ex S3.g.sub
    refine .inr ⟨a, ws, rfl, by rw [G.hK]; exact h1, fun z => ?_, fun _ => p.tup (gr.trans g4) tp3 (rl.cut l h)⟩
    refine p _ F3 H3 (gr.trans g4) tp3 ?_
    have e5 : cut xs l h = xs := by
      unfold cut
      rw [← rl.length, z.1, z.2, List.drop_zero, Nat.sub_zero, rl.length, List.take_length]
    show Rep c F3 _ (.tuple (cut xs l h))
    rw [e5]
    exact r4.tup ex
  · cases e'
end
end Q
namespace Q
open PySem PySem.Spec PyProof.Rows L2
section
variable {X : Cx} {c : Pm} {g : Gl} {fs : List Str}
variable {F0 H0 F H F' H' Hs : Hp} {σ : L2.St} {ρ : Env} {t t' t1 t2 : Nat} {v : V} {x : R}
variable {a b d : PySem.Expr} {ma mb md : Env → M R} {pos : Pos} {es : List PySem.Expr} {ml : Env → M (List R)}
def isTyB : B → Bool
  | .int => true
  | .tuple => true
  | .list => true
  | .range1 => true
  | .range2 => true
  | _ => false
theorem blt_ok (G : Good X c g fs) (f : B) (h1 : f ≠ .range1) (h2 : f ≠ .range2) : CallR X (fval f) (rBlt c f) := by
  cases f
  · exact blt_len G.hK
  · exact blt_abs
  · exact blt_int
  · exact blt_max2 G.calm
  · exact blt_min2 G.calm
  · exact blt_max1 G.calm G.hK G.hu
  · exact blt_min1 G.calm G.hK G.hu
  · exact blt_sum G.calm G.hK
  · exact blt_all G.calm G.hK
  · exact blt_any G.calm G.hK
  · exact blt_tuple G.hK
  · exact blt_list G.hK
  · exact blt_sorted G.hK G.hu
  · exact absurd rfl h1
  · exact absurd rfl h2
theorem blt_no {f : B} {rs : List R} (h : f = .range1 ∨ f = .range2) : bltD f rs = none := by
  rcases h with rfl | rfl <;> (unfold bltD; split <;> first | rfl | (rename_i q; cases q) | (rename_i q _; cases q))
theorem r_blt (G : Good X c g fs) {f : B} {p : Pos} (hx : gl X.env.scope (bnm f) = true) (ha : PA X (a :: es) (mL c ml)) (h1 : noStar a = true) (h2 : es.all noStar = true) :
    PE X (.Call (.Name (bnm f) p) (a :: es) [] pos) (mE c fun ρ => bnd (ml ρ) fun rs => opt (bltD f rs)) := by
  by_cases hr : f = .range1 ∨ f = .range2
  · refine ⟨fun pins s σ H Q I q => ?_⟩
    exfalso
    obtain ⟨F0, H0, F, ρ, t, r, t', S, e, p⟩ := q
    obtain ⟨rs, t1, e1, e⟩ := bnd_some e
    rw [blt_no hr] at e
    cases e
  · have hr1 : f ≠ .range1 := fun z => hr (.inl z)
    have hr2 : f ≠ .range2 := fun z => hr (.inr z)
    have wk : ∀ {σ : L2.St} {H : Hp} {Q : VK}, mE c (fun ρ => bnd (ml ρ) fun rs => opt (bltD f rs)) σ H Q → tCB (rBlt c f) (mL c ml) σ H Q := fun {σ H Q} q => by
      obtain ⟨F0, H0, F, ρ, t, r, t', S, e, p⟩ := q
      obtain ⟨rs, t1, e1, e⟩ := bnd_some e
      obtain ⟨e', rfl⟩ := opt_some e
      exact oneL S e1 fun vs F1 H1 gr tp S1 r1 => ⟨H, F1, rs, r, _, S1.kn gr.back, r1, e', p.on gr⟩
    have hc := blt_ok G f hr1 hr2
    have hst := star_cons (es := es) (env := X.env) h1
    have hpl : (backTo pos (starEach es X.env)).any (·.1) = false := by rw [back_any]; exact star_all h2
    have hg := gl_of hx
    have hm : X.mg (bnm f) = none := G.bn _ (by cases f <;> decide)
    cases f <;> first
      | exact absurd rfl hr1
      | exact absurd rfl hr2
      | exact PE.weak (pe_callB hc hg hm PySem.boot_len ha (by decide) (by decide) hst hpl) fun σ H Q q => wk q
      | exact PE.weak (pe_callB hc hg hm PyProof.Rows.boot_abs ha (by decide) (by decide) hst hpl) fun σ H Q q => wk q
      | exact PE.weak (pe_callTy hc hg hm PyProof.Rows.boot_int ha (by decide) (by decide) hst hpl) fun σ H Q q => wk q
      | exact PE.weak (pe_callB hc hg hm PyProof.Rows.boot_max ha (by decide) (by decide) hst hpl) fun σ H Q q => wk q
      | exact PE.weak (pe_callB hc hg hm PyProof.Rows.boot_min ha (by decide) (by decide) hst hpl) fun σ H Q q => wk q
      | exact PE.weak (pe_callB hc hg hm PyProof.Rows.boot_sum ha (by decide) (by decide) hst hpl) fun σ H Q q => wk q
      | exact PE.weak (pe_callB hc hg hm PyProof.Rows.boot_all ha (by decide) (by decide) hst hpl) fun σ H Q q => wk q
      | exact PE.weak (pe_callB hc hg hm PyProof.Rows.boot_any ha (by decide) (by decide) hst hpl) fun σ H Q q => wk q
      | exact PE.weak (pe_callTy hc hg hm PyProof.Rows.boot_tuple ha (by decide) (by decide) hst hpl) fun σ H Q q => wk q
      | exact PE.weak (pe_callTy hc hg hm PyProof.Rows.boot_list ha (by decide) (by decide) hst hpl) fun σ H Q q => wk q
      | exact PE.weak (pe_callB hc hg hm PyProof.Rows.boot_sorted ha (by decide) (by decide) hst hpl) fun σ H Q q => wk q
/-! ### isinstance -/
def tyStr : Ty → String
  | .int => "int"
  | .bool => "bool"
  | .str => "str"
  | .tuple => "tuple"
  | .list => "list"
  | .dict => "dict"
def rIsa (c : Pm) (ty : Ty) : List V → Hp → VK → Prop := fun vs H Q => ∃ Hs F x v t, vs = [v, .ty (tyStr ty)] ∧ Kn c Hs F H t ∧ RR c Hs F H v x ∧ Q (.bl (isaD ty x.d)) H
theorem dict_obj {pins : List (Addr × Obj)} {s : Shared} (I : Inv X pins σ H s) {a : Addr} {kvs : List (Key × V)} (h : H a = some (.dK kvs)) : ∃ o, s.heap.get? a = some o ∧ o.cls = .type "dict" := by
  obtain ⟨_, _, vs, _, o, es, ep, ho, hd, _⟩ := I.hok a _ h
  exact ⟨o, ho, hd.1⟩
theorem isa_ok (G : Good X c g fs) (ty : Ty) : CallR X (.builtin "isinstance") (rIsa c ty) := by
  intro pins s σ H vs us Q I r h
  obtain ⟨Hs, F, x, v, t, rfl, kn, rx, q⟩ := h
  obtain ⟨u, w, rfl, rv, rt⟩ := vals2 r
  have ew : w = .type (tyStr ty) := rt
  subst ew
  have fin : ∀ {k : Bool} {tk : Nat}, k = isaD ty x.d → EP X pins σ Q (.bool k) { s with toks := tk } := fun {k tk} e => ⟨.bl k, H, I.tok _, rfl, by rw [e]; exact q⟩
  have sub := kn.g.sub
  cases hd : x.d with
  | list ds =>
    obtain ⟨a, ws, rfl, h1, _⟩ := rx.lstR hd sub
    obtain ⟨its, _, ⟨o, n, ho, hcl, _⟩, _⟩ := I.list (by rw [G.hK]; exact h1)
    cases rv
    rw [hd] at fin
    cases ty
    · exact IsiPair.list_int ho hcl (fin rfl)
    · exact IsiPair.list_bool ho hcl (fin rfl)
    · exact IsiPair.list_str ho hcl (fin rfl)
    · exact IsiPair.list_tuple ho hcl (fin rfl)
    · exact IsiPair.list_list ho hcl (fin (tk := s.toks) rfl)
    · exact IsiPair.list_dict ho hcl (fin rfl)
  | tuple ds =>
    obtain ⟨a, ws, rfl, h1, _⟩ := rx.tupH hd sub
    obtain ⟨its, _, ⟨o, ho, hcl, _⟩, _⟩ := I.tuple (by rw [G.hK]; exact h1)
    cases rv
    rw [hd] at fin
    cases ty
    · exact IsiPair.tuple_int ho hcl (fin rfl)
    · exact IsiPair.tuple_bool ho hcl (fin rfl)
    · exact IsiPair.tuple_str ho hcl (fin rfl)
    · exact IsiPair.tuple_tuple ho hcl (fin (tk := s.toks) rfl)
    · exact IsiPair.tuple_list ho hcl (fin rfl)
    · exact IsiPair.tuple_dict ho hcl (fin rfl)
  | dict ds =>
    have hob : ∃ a o, v = .ref a ∧ s.heap.get? a = some o ∧ o.cls = .type "dict" := by
      unfold RR at rx
      rw [hd] at rx
      split at rx
      · cases rx with
        | dic h1 h2 =>
          obtain ⟨o, ho⟩ := dict_obj I (sub _ _ h1)
          exact ⟨_, o, rfl, ho⟩
        | tape h1 =>
          obtain ⟨o, ho⟩ := dict_obj I (kn.tp.som h1).1
          exact ⟨_, o, rfl, ho⟩
      · obtain ⟨a, e1, _, _, _, kvs, h1, _⟩ := rx
        obtain ⟨o, ho⟩ := dict_obj I h1
        exact ⟨a, o, e1, ho⟩
      · obtain ⟨a, e1, _, _, kvs, h1, _⟩ := rx
        obtain ⟨o, ho⟩ := dict_obj I h1
        exact ⟨a, o, e1, ho⟩
      · obtain ⟨a, _, h1⟩ := rx
        exact h1.elim
    obtain ⟨a, o, rfl, ho, hcl⟩ := hob
    cases rv
    rw [hd] at fin
    cases ty
    · exact IsiPair.dict_int ho hcl (fin rfl)
    · exact IsiPair.dict_bool ho hcl (fin rfl)
    · exact IsiPair.dict_str ho hcl (fin rfl)
    · exact IsiPair.dict_tuple ho hcl (fin rfl)
    · exact IsiPair.dict_list ho hcl (fin rfl)
    · exact IsiPair.dict_dict ho hcl (fin (tk := s.toks) rfl)
  | _ =>
    obtain ⟨as, rd⟩ := rx.reads I G.hK (by rw [hd]; rfl) sub rv
    rw [hd] at rd fin
    cases ty
    · exact PySem.W.isinstance_int_data rd fun tk _ => fin rfl
    · exact PySem.W.isinstance_bool_data rd fun tk _ => fin rfl
    · exact PySem.W.isinstance_str_data rd fun tk _ => fin rfl
    · exact PySem.W.isinstance_tuple_data rd fun tk _ => fin rfl
    · exact PySem.W.isinstance_list_data rd fun tk _ => fin rfl
    · exact PySem.W.isinstance_dict_data rd fun tk _ => fin rfl
theorem r_isa (G : Good X c g fs) {ty : Ty} {p p2 : Pos} (hx : gl X.env.scope "isinstance" = true) (hz : gl X.env.scope (tynm ty) = true) (ha : PE X a (mE c ma)) (h1 : noStar a = true) :
    PE X (.Call (.Name "isinstance" p) [a, .Name (tynm ty) p2] [] pos) (mE c fun ρ => bnd (ma ρ) fun x => ret (shd (.bool (isaD ty x.d)))) := by
  have hm : X.mg "isinstance" = none := G.bn _ (by decide)
  have hmt : X.mg (tynm ty) = none := G.bn _ (by cases ty <;> decide)
  have pt : PE X (.Name (tynm ty) p2) (tC (.ty (tyStr ty))) := by
    cases ty
    · exact pe_bltn (gl_of hz) hmt PyProof.Rows.boot_int rfl (by decide) (by decide)
    · exact pe_bltn (gl_of hz) hmt PyProof.Rows.boot_bool rfl (by decide) (by decide)
    · exact pe_bltn (gl_of hz) hmt PyProof.Rows.boot_str rfl (by decide) (by decide)
    · exact pe_bltn (gl_of hz) hmt PyProof.Rows.boot_tuple rfl (by decide) (by decide)
    · exact pe_bltn (gl_of hz) hmt PyProof.Rows.boot_list rfl (by decide) (by decide)
    · exact pe_bltn (gl_of hz) hmt PyProof.Rows.boot_dict rfl (by decide) (by decide)
  refine PE.weak (pe_callB (isa_ok G ty) (gl_of hx) hm PyProof.Rows.boot_isinstance (pa_cons ha (pa_cons pt pa_nil rfl) (star_cons h1)) (by decide) (by decide) (star_cons h1) rfl) fun σ H Q q => ?_
  obtain ⟨F0, H0, F, ρ, t, r, t', S, e, p⟩ := q
  obtain ⟨x, t1, e1, e⟩ := bnd_some e
  cases e
  exact one S e1 fun v F1 H1 gr tp S1 r1 => ⟨H, F1, x, v, _, rfl, S1.kn gr.back, r1, p _ F1 H1 gr tp (Rep.bl _)⟩
end
end Q
namespace Q
open PySem PySem.Spec PyProof.Rows L2 RZ
section
variable {X : Cx} {c : Pm} {g : Gl} {fs : List Str}
variable {F0 H0 F H F' H' Hs F1 H1 : Hp} {σ : L2.St} {ρ : Env} {t t' t1 t2 : Nat} {v : V} {x : R}
variable {a b d : PySem.Expr} {ma mb md : Env → M R} {pos : Pos} {es : List PySem.Expr} {ml : Env → M (List R)}
/-! ### what is walked -/
def Yl (c : Pm) (F H : Hp) (v : V) (H' : Hp) (d : D) : Prop := (H' = H ∧ Rep c F v d) ∨ ∃ T vs ds, v = .ref T ∧ H T = none ∧ H' = upd H T (.tup vs) ∧ RepL c F vs ds ∧ d = .tuple ds
def ItAt (c : Pm) (J : L2.It) (F H : Hp) (xs : List D) : Prop := ∀ i, (∀ d, xs[i]? = some d → J.go i H ∧ ∀ v H', J.yld i H v H' → Yl c F H v H' d) ∧ (xs.length ≤ i → J.stop i H)
structure ItOk (c : Pm) (J : L2.It) (F1 H1 : Hp) (r : Bool × List D) : Prop where
  grow : ∀ F H, Grow c F1 H1 F H → ItAt c J F H r.2
  far : r.1 = true → ∀ F H, Ext F1 F → Ext F H → ItAt c J F H r.2
def mI (c : Pm) (m : Env → M (Bool × List D)) : TI := fun σ H R => ∃ F0 H0 F ρ t r t', SR c F0 H0 F H σ ρ t ∧ m ρ t = some (r, t') ∧ ∀ J F' H', Grow c F H F' H' → Tape c F' H' t' → ItOk c J F' H' r → R J H'
theorem PI.weak {X : Cx} {tg e : PySem.Expr} {te te' : TI} (h : PI X tg e te) (w : ∀ σ H Q, te' σ H Q → te σ H Q) : PI X tg e te' := ⟨fun pins s σ H Q I q => h.run pins s σ H Q I (w σ H Q q)⟩
theorem Yl.rep {d : D} {v : V} (y : Yl c F H v H' d) (s : Ext F H) (tp : Tape c F H t) : ∃ F', Grow c F H F' H' ∧ Tape c F' H' t ∧ Rep c F' v d := by
  have gr : Grow c F H F H := Grow.refl s tp.there
  rcases y with ⟨rfl, r⟩ | ⟨T, vs, ds, rfl, n, rfl, r, rfl⟩
  · exact ⟨F, gr, tp, r⟩
  · have f := gr.noF n
    have ne : c.aw ≠ some T := fun e => absurd n (tp.there T e)
    refine ⟨frz1 F (upd H T (.tup vs)) T, (gr.laid n).frz f n, (tp.laid n).frz f ne, .tup (.inl (.inl ?_)) (r.mono (frz1_ext f))⟩
    unfold frz1
    rw [if_pos rfl, upd_same]
/-- a list or a tuple -/
def iSeq (K : PySem.W.Frag) (tl : TE) : TI := fun σ H R => tl σ H fun x H1 => ∃ a, x = .ref a ∧ (((∃ xs, SqL K H1 a xs) ∧ R (Itl K a) H1) ∨ ((∃ xs, SqT K H1 a xs) ∧ R (Itt K a) H1))
theorem pi_seq {tg l : PySem.Expr} {tl : TE} (hl : PE X l tl) : PI X tg l (iSeq X.K tl) := by
  refine ⟨fun pins s σ H R I h => ?_⟩
  refine thn (hl.run pins s σ H _ I h) fun v s1 ⟨x, H1, I1, r1, q1⟩ => ?_
  obtain ⟨a, e, q⟩ := q1
  subst e
  cases r1
  rcases q with ⟨⟨xs, hq⟩, q⟩ | ⟨⟨xs, hq⟩, q⟩
  · obtain ⟨its, rv, p, hz⟩ := I1.list hq
    refine wpAny_pyIter_list p.isList ?_
    refine ⟨s1.heap.objs.size, [s1.heap.objs.size], _, _, H1, rfl, I1.kept (t' := s1.toks) fun b o e => Heap.get?_push_of_some _ e, turn_list a _, ⟨_, Heap.get?_push_size _ rfl, rfl, rfl⟩, fun b hb => ?_, q⟩
    have e : b = s1.heap.objs.size := by simpa using hb
    subst e
    exact I1.fpOk (Nat.le_refl _) (I1.hok.fresh (Nat.le_refl _))
  · obtain ⟨its, rv, p, hz⟩ := I1.tuple hq
    refine wpAny_pyIter_tuple (show s1.heap.IsTuple a its.toArray from p) ?_
    refine ⟨s1.heap.objs.size, [s1.heap.objs.size], _, _, H1, rfl, I1.kept (t' := s1.toks) fun b o e => Heap.get?_push_of_some _ e, turn_tuple a _, ⟨_, Heap.get?_push_size _ rfl, rfl, rfl⟩, fun b hb => ?_, q⟩
    have e : b = s1.heap.objs.size := by simpa using hb
    subst e
    exact I1.fpOk (Nat.le_refl _) (I1.hok.fresh (Nat.le_refl _))
theorem itl_at {a : Addr} {vs : List V} {xs : List D} (h : SqL c.K H a vs) (r : RepL c F vs xs) : ItAt c (Itl c.K a) F H xs := fun i => by
  refine ⟨fun d hd => ?_, fun hl => ?_⟩
  · obtain ⟨w, hw, rw'⟩ := r.get hd
    refine ⟨⟨vs, w, h, hw⟩, fun v H' ⟨e, q⟩ => ?_⟩
    have := q vs h
    rw [hw] at this
    cases this
    exact .inl ⟨e, rw'⟩
  · exact ⟨vs, h, by rw [r.length]; exact hl⟩
theorem itt_at {a : Addr} {vs : List V} {xs : List D} (h : SqT c.K H a vs) (r : RepL c F vs xs) : ItAt c (Itt c.K a) F H xs := fun i => by
  refine ⟨fun d hd => ?_, fun hl => ?_⟩
  · obtain ⟨w, hw, rw'⟩ := r.get hd
    refine ⟨⟨vs, w, h, hw⟩, fun v H' ⟨e, q⟩ => ?_⟩
    have := q vs h
    rw [hw] at this
    cases this
    exact .inl ⟨e, rw'⟩
  · exact ⟨vs, h, by rw [r.length]; exact hl⟩
theorem SqL.grow {a : Addr} {vs : List V} (g : Grow c F H F' H') (tp : Tape c F H t) (h : SqL c.K H a vs) : SqL c.K H' a vs := by
  have ne : ∀ u, H a = some u → (∀ kvs, u ≠ .dK kvs) → c.aw ≠ some a := fun u hu hd e => by
    have tp := tp.som e
    rw [tp.1] at hu
    cases hu
    exact hd _ rfl
  rcases h with (h | ⟨o, h⟩) | h
  · exact .inl (.inl (g.hx _ _ (ne _ h (by intro _ z; cases z)) h))
  · exact .inl (.inr ⟨o, g.hx _ _ (ne _ h (by intro _ z; cases z)) h⟩)
  · exact .inr h
/-- the list of a result, made to stay where it is new; F2: some others were made so before -/
theorem RR.walk {F2 : Hp} {ds : List D} (h : RR c Hs F H v x) (e : x.d = .list ds) (g : Grow c Hs' Hs F2 H) (tp : Tape c F2 H t) (x2 : Ext F F2) (k2 : ∀ a, F2 a = F a ∨ F2 a = H a) :
    ∃ a vs F3, v = .ref a ∧ SqL c.K H a vs ∧ RepL c F3 vs ds ∧ Grow c Hs' Hs F3 H ∧ Tape c F3 H t ∧ Ext F2 F3 ∧ (safe x.kd = true → F3 a = some (.lst vs)) ∧ (∀ a, F3 a = F a ∨ F3 a = H a) := by
  unfold RR at h
  rw [e] at h
  split at h
  · obtain ⟨a, vs, e1, q, r⟩ := Rep.lstE h
    exact ⟨a, vs, F2, e1, .inl (.inl (g.sub _ _ (x2 _ _ q))), r.mono x2, g, tp, Ext.refl _, fun _ => x2 _ _ q, k2⟩
  · obtain ⟨a, e1, n, f, vs, q, r⟩ := h
    have hT : Top c F2 H a (.list ds) := ⟨vs, q, r.mono x2⟩
    by_cases q3 : F2 a = Option.none
    · refine ⟨a, vs, frz1 F2 H a, e1, .inl (.inl q), (r.mono x2).mono (frz1_ext q3), g.frz q3 n, tp.frz q3 (hT.ne tp), frz1_ext q3, fun _ => ?_, fun b => ?_⟩
      · unfold frz1
        rw [if_pos rfl]
        exact q
      · by_cases z : b = a
        · exact .inr (by unfold frz1; rw [if_pos z, z])
        · unfold frz1
          rw [if_neg z]
          exact k2 b
    · have q4 : F2 a = H a := by
        rcases k2 a with w | w
        · rw [w] at q3
          exact absurd f q3
        · exact w
      exact ⟨a, vs, F2, e1, .inl (.inl q), r.mono x2, g, tp, Ext.refl _, fun _ => by rw [q4]; exact q, k2⟩
  · rename_i z
    obtain ⟨a, e1, f, vs, q, r⟩ := h
    exact ⟨a, vs, F2, e1, .inl (.inl q), r.mono x2, g, tp, Ext.refl _, (fun s => by rw [z] at s; cases s), k2⟩
  · rename_i z
    obtain ⟨a, e1, vs, q, r⟩ := h
    exact ⟨a, vs, F2, e1, q, r.mono x2, g, tp, Ext.refl _, (fun s => by rw [z] at s; cases s), k2⟩
theorem RR.walkT {ds : List D} (h : RR c Hs F H v x) (e : x.d = .tuple ds) : ∃ a vs, v = .ref a ∧ SqT c.K F a vs ∧ RepL c F vs ds := (h.tup e).tupE
theorem seqI_some {r : R} {o : Bool × List D} (h : seqI r = some o) : (∃ xs, r.d = .list xs ∧ o = (safe r.kd, xs)) ∨ ∃ xs, r.d = .tuple xs ∧ o = (true, xs) := by
  unfold seqI at h
  split at h
  · cases h
    exact .inl ⟨_, by assumption, rfl⟩
  · cases h
    exact .inr ⟨_, by assumption, rfl⟩
  · cases h
theorem ItOk.list {a : Addr} {vs : List V} {xs : List D} {s : Bool} (h : SqL c.K H a vs) (r : RepL c F vs xs) (tp : Tape c F H t) (k : s = true → F a = some (.lst vs)) : ItOk c (Itl c.K a) F H (s, xs) :=
  ⟨fun F' H' g => itl_at (SqL.grow g tp h) (r.mono g.ex), fun z F' H' e s' => itl_at (.inl (.inl (s' _ _ (e _ _ (k z))))) (r.mono e)⟩
theorem ItOk.tuple {a : Addr} {vs : List V} {xs : List D} {s : Bool} (h : SqT c.K F a vs) (r : RepL c F vs xs) : ItOk c (Itt c.K a) F H (s, xs) :=
  ⟨fun F' H' g => itt_at (g.sub.sqt (g.ex.sqt h)) (r.mono g.ex), fun z F' H' e s' => itt_at (s'.sqt (e.sqt h)) (r.mono e)⟩
theorem r_seq (G : Good X c g fs) {tg : PySem.Expr} (ha : PE X a (mE c ma)) : PI X tg a (mI c fun ρ => bnd (ma ρ) fun r => opt (seqI r)) := by
  refine PI.weak (pi_seq ha) fun σ H R q => ?_
  obtain ⟨F0, H0, F, ρ, t, r, t', S, e, p⟩ := q
  obtain ⟨x, t1, e1, e⟩ := bnd_some e
  obtain ⟨e', rfl⟩ := opt_some e
  refine one S e1 fun v F1 H1 gr tp S1 r1 => ?_
  rcases seqI_some e' with ⟨xs, ex, rfl⟩ | ⟨xs, ex, rfl⟩
  · obtain ⟨b, vs, F2, rfl, q1, q2, q3, q4, q5, q6, _⟩ := r1.walk ex gr tp (Ext.refl _) fun _ => .inl rfl
    exact ⟨b, rfl, .inl ⟨⟨vs, by rw [G.hK]; exact q1⟩, by rw [G.hK]; exact p _ F2 H1 q3 q4 (ItOk.list q1 q2 q4 q6)⟩⟩
  · obtain ⟨b, vs, rfl, q1, q2⟩ := r1.walkT ex
    exact ⟨b, rfl, .inr ⟨⟨vs, by rw [G.hK]; exact S1.g.sub.sqt q1⟩, by rw [G.hK]; exact p _ F1 H1 gr tp (ItOk.tuple q1 q2)⟩⟩
theorem itr_at {lo : Int} {n : Nat} {hi : Int} (hn : n = (hi - lo).toNat) : ItAt c (Itr lo n) F H (rangeL lo hi) := fun i => by
  unfold rangeL
  rw [List.length_map, List.length_range, ← hn]
  refine ⟨fun d hd => ?_, fun h => h⟩
  rw [List.getElem?_map] at hd
  by_cases hi : i < n
  · rw [List.getElem?_range hi] at hd
    cases hd
    exact ⟨hi, fun v H' ⟨e, q⟩ => .inl ⟨e, by rw [q]; exact .int _⟩⟩
  · rw [List.getElem?_eq_none (by rw [List.length_range]; omega)] at hd
    cases hd
theorem rngB_of {i : Int} (h : rngB i = true) : -(2 ^ 62) ≤ i ∧ i < 2 ^ 62 := by
  simp only [rngB, decide_eq_true_eq] at h
  omega
theorem r_rng1 (G : Good X c g fs) {tg : PySem.Expr} {p : Pos} (hx : gl X.env.scope "range" = true) (ha : PE X a (mE c ma)) (h1 : noStar a = true) :
    PI X tg (.Call (.Name "range" p) [a] [] pos) (mI c fun ρ => bnd (ma ρ) fun x => bnd (opt (intOf x.d)) fun i => if rngB i then ret (true, rangeL 0 i) else fail) := by
  refine PI.weak (pi_range1 (gl_of hx) (G.bn _ (by decide)) (pa_cons ha pa_nil (star_cons h1)) (star_cons h1)) fun σ H R q => ?_
  obtain ⟨F0, H0, F, ρ, t, r, t', S, e, p⟩ := q
  obtain ⟨x, t1, e1, e⟩ := bnd_some e
  obtain ⟨i, e2, e⟩ := opt_bnd e
  split at e
  · rename_i hb
    cases e
    have hb := rngB_of hb
    exact one S e1 fun v F1 H1 gr tp S1 r1 => ⟨i, by rw [r1.int (intOf_some e2)], hb.1, hb.2, p _ F1 H1 gr tp ⟨fun F H _ => itr_at (by rw [Int.sub_zero]), fun _ F H _ _ => itr_at (by rw [Int.sub_zero])⟩⟩
  · cases e
theorem r_rng2 (G : Good X c g fs) {tg : PySem.Expr} {p : Pos} (hx : gl X.env.scope "range" = true) (ha : PE X a (mE c ma)) (h1 : noStar a = true) (hb : PE X b (mE c mb)) (h2 : noStar b = true) :
    PI X tg (.Call (.Name "range" p) [a, b] [] pos) (mI c fun ρ => bnd (ma ρ) fun x => bnd (mb ρ) fun y => bnd (opt (intOf x.d)) fun i => bnd (opt (intOf y.d)) fun j => if rngB i && rngB j then ret (true, rangeL i j) else fail) := by
  refine PI.weak (pi_range2 (gl_of hx) (G.bn _ (by decide)) (pa_cons ha (pa_cons hb pa_nil (star_cons h2)) (star_cons h1)) (by rw [star_cons h1, star_cons h2]; rfl) (star_cons h2)) fun σ H R q => ?_
  obtain ⟨F0, H0, F, ρ, t, r, t', S, e, p⟩ := q
  obtain ⟨x, t1, e1, e⟩ := bnd_some e
  obtain ⟨y, t2, e2, e⟩ := bnd_some e
  obtain ⟨i, e3, e⟩ := opt_bnd e
  obtain ⟨j, e4, e⟩ := opt_bnd e
  split at e
  · rename_i hb
    cases e
    simp only [Bool.and_eq_true] at hb
    have hb1 := rngB_of hb.1
    have hb2 := rngB_of hb.2
    exact two (Q := fun v u H2 => ∃ i j : Int, [v, u] = [.int i, .int j] ∧ (-(2 ^ 62) ≤ i ∧ i < 2 ^ 62 ∧ -(2 ^ 62) ≤ j ∧ j < 2 ^ 62) ∧ R (Itr i (j - i).toNat) H2) S e1 e2 fun v u F1 H1 gr tp S1 r1 r2 => ⟨i, j, by rw [r1.int (intOf_some e3), r2.int (intOf_some e4)], ⟨hb1.1, hb1.2, hb2.1, hb2.2⟩, p _ F1 H1 gr tp ⟨fun F H _ => itr_at rfl, fun _ F H _ _ => itr_at rfl⟩⟩
  · cases e
theorem zipD_get : ∀ {xs ys : List D} {i : Nat} {d : D}, (zipD xs ys)[i]? = some d → ∃ x y, xs[i]? = some x ∧ ys[i]? = some y ∧ d = .tuple [x, y]
  | [], _, _, _, h => by simp [zipD] at h
  | _ :: _, [], _, _, h => by simp [zipD] at h
  | x :: xs, y :: ys, 0, d, h => by
    simp [zipD] at h
    exact ⟨x, y, rfl, rfl, h.symm⟩
  | x :: xs, y :: ys, i + 1, d, h => by
    have h' : (zipD xs ys)[i]? = some d := by simpa [zipD] using h
    obtain ⟨p, q, h1, h2, h3⟩ := zipD_get h'
    exact ⟨p, q, by simpa using h1, by simpa using h2, h3⟩
theorem zipD_len : ∀ {xs ys : List D} {i : Nat}, (zipD xs ys).length ≤ i → xs.length ≤ i ∨ ys.length ≤ i
  | [], _, _, _ => .inl (Nat.zero_le _)
  | _ :: _, [], _, _ => .inr (Nat.zero_le _)
  | x :: xs, y :: ys, 0, h => by simp [zipD] at h
  | x :: xs, y :: ys, i + 1, h => by
    rcases zipD_len (xs := xs) (ys := ys) (i := i) (by simpa [zipD] using h) with q | q
    · exact .inl (by simpa using q)
    · exact .inr (by simpa using q)
theorem itz_at {a b : Addr} {vs ws : List V} {xs ys : List D} (h : SqL c.K H a vs) (h2 : SqL c.K H b ws) (r : RepL c F vs xs) (r2 : RepL c F ws ys) : ItAt c (Itz c.K a b) F H (zipD xs ys) := fun i => by
  refine ⟨fun d hd => ?_, fun hl => ?_⟩
  · obtain ⟨x, y, hx, hy, rfl⟩ := zipD_get hd
    obtain ⟨w, hw, rw1⟩ := r.get hx
    obtain ⟨u, hu, ru⟩ := r2.get hy
    refine ⟨⟨vs, ws, w, u, h, h2, hw, hu⟩, fun v H' hy => ?_⟩
    obtain ⟨T, x', y', e1, e2, e3, q1, q2⟩ := hy
    have z1 := q1 vs h
    rw [hw] at z1
    cases z1
    have z2 := q2 ws h2
    rw [hu] at z2
    cases z2
    exact .inr ⟨T, _, _, e1, e2, e3, .cons rw1 (.cons ru .nil), rfl⟩
  · refine ⟨vs, ws, h, h2, ?_⟩
    rcases zipD_len hl with q | q
    · exact .inl (by rw [r.length]; exact q)
    · exact .inr (by rw [r2.length]; exact q)
theorem itzT_at {a b : Addr} {vs ws : List V} {xs ys : List D} (h : SqT c.K H a vs) (h2 : SqT c.K H b ws) (r : RepL c F vs xs) (r2 : RepL c F ws ys) : ItAt c (ItzT c.K a b) F H (zipD xs ys) := fun i => by
  refine ⟨fun d hd => ?_, fun hl => ?_⟩
  · obtain ⟨x, y, hx, hy, rfl⟩ := zipD_get hd
    obtain ⟨w, hw, rw1⟩ := r.get hx
    obtain ⟨u, hu, ru⟩ := r2.get hy
    refine ⟨⟨vs, ws, w, u, h, h2, hw, hu⟩, fun v H' hy => ?_⟩
    obtain ⟨T, x', y', e1, e2, e3, q1, q2⟩ := hy
    have z1 := q1 vs h
    rw [hw] at z1
    cases z1
    have z2 := q2 ws h2
    rw [hu] at z2
    cases z2
    exact .inr ⟨T, _, _, e1, e2, e3, .cons rw1 (.cons ru .nil), rfl⟩
  · refine ⟨vs, ws, h, h2, ?_⟩
    rcases zipD_len hl with q | q
    · exact .inl (by rw [r.length]; exact q)
    · exact .inr (by rw [r2.length]; exact q)
theorem zipI_some {x y : R} {o : Bool × List D} (h : zipI x y = some o) : (∃ xs ys, x.d = .list xs ∧ y.d = .list ys ∧ o = (safe x.kd && safe y.kd, zipD xs ys)) ∨ ∃ xs ys, x.d = .tuple xs ∧ y.d = .tuple ys ∧ o = (true, zipD xs ys) := by
  unfold zipI at h
  split at h
  · cases h
    exact .inl ⟨_, _, by assumption, by assumption, rfl⟩
  · cases h
    exact .inr ⟨_, _, by assumption, by assumption, rfl⟩
  · cases h
theorem r_zip (G : Good X c g fs) {elts : List PySem.Expr} {kk : Nat} {tpos p : Pos} (hx : gl X.env.scope "zip" = true) (ha : PE X a (mE c ma)) (h1 : noStar a = true) (hb : PE X b (mE c mb)) (h2 : noStar b = true) :
    PI X (.Tuple elts kk tpos) (.Call (.Name "zip" p) [a, b] [] pos) (mI c fun ρ => bnd (ma ρ) fun x => bnd (mb ρ) fun y => opt (zipI x y)) := by
  refine PI.weak (pi_zipA (gl_of hx) (G.bn _ (by decide)) (pa_cons ha (pa_cons hb pa_nil (star_cons h2)) (star_cons h1)) (star_cons h1) (by rw [back_any]; exact star_all (by simp [h2]))) fun σ H R q => ?_
  obtain ⟨F0, H0, F, ρ, t, r, t', S, e, p⟩ := q
  obtain ⟨x, t1, e1, e⟩ := bnd_some e
  obtain ⟨y, t2, e2, e⟩ := bnd_some e
  obtain ⟨e', rfl⟩ := opt_some e
  refine two (Q := fun v u H1 => ∃ a b xs ys, [v, u] = [.ref a, .ref b] ∧ ((SqL X.K H1 a xs ∧ SqL X.K H1 b ys ∧ R (Itz X.K a b) H1) ∨ (SqT X.K H1 a xs ∧ SqT X.K H1 b ys ∧ R (ItzT X.K a b) H1))) S e1 e2 fun v u F1 H1 gr tp S1 r1 r2 => ?_
  rcases zipI_some e' with ⟨xs, ys, ex, ey, rfl⟩ | ⟨xs, ys, ex, ey, rfl⟩
  · obtain ⟨l, vs, F2, rfl, q1, q2, q3, q4, q5, q6, q7⟩ := r1.walk ex gr tp (Ext.refl _) fun _ => .inl rfl
    obtain ⟨l2, ws, F3, rfl, p1, p2, p3, p4, p5, p6, p7⟩ := r2.walk ey q3 q4 q5 q7
    refine ⟨l, l2, vs, ws, rfl, .inl ⟨by rw [G.hK]; exact q1, by rw [G.hK]; exact p1, by
      rw [G.hK]
      refine p _ F3 H1 p3 p4 ⟨fun F' H' g => itz_at (SqL.grow g p4 q1) (SqL.grow g p4 p1) ((q2.mono p5).mono g.ex) (p2.mono g.ex), fun z F' H' e s' => ?_⟩
      simp only [Bool.and_eq_true] at z
      exact itz_at (.inl (.inl (s' _ _ (e _ _ (p5 _ _ (q6 z.1)))))) (.inl (.inl (s' _ _ (e _ _ (p6 z.2))))) ((q2.mono p5).mono e) (p2.mono e)⟩⟩
  · obtain ⟨l, vs, rfl, q1, q2⟩ := r1.walkT ex
    obtain ⟨l2, ws, rfl, q3, q4⟩ := r2.walkT ey
    exact ⟨l, l2, vs, ws, rfl, .inr ⟨by rw [G.hK]; exact S1.g.sub.sqt q1, by rw [G.hK]; exact S1.g.sub.sqt q3, by rw [G.hK]; exact p _ F1 H1 gr tp ⟨fun F' H' g => itzT_at (g.sub.sqt (g.ex.sqt q1)) (g.sub.sqt (g.ex.sqt q3)) (q2.mono g.ex) (q4.mono g.ex), fun z F' H' e s' => itzT_at (s'.sqt (e.sqt q1)) (s'.sqt (e.sqt q3)) (q2.mono e) (q4.mono e)⟩⟩⟩
end
end Q
namespace Q
open PySem PySem.Spec PyProof.Rows L2 RZ
section
variable {X : Cx} {c : Pm} {g : Gl} {fs : List Str}
variable {F0 H0 F H F' H' Hs F1 H1 : Hp} {σ : L2.St} {ρ : Env} {t t' t1 t2 : Nat} {v : V} {x : R}
/-! ### targets -/
/-- slots outside is are as they were -/
def Off (is : List Nat) (σ σ' : L2.St) : Prop := σ'.length = σ.length ∧ ∀ i, i ∉ is → σ'[i]? = σ[i]?
theorem Off.refl (is : List Nat) (σ : L2.St) : Off is σ σ := ⟨rfl, fun _ _ => rfl⟩
theorem Off.trans {is js : List Nat} {σ σ1 σ2 : L2.St} (a : Off is σ σ1) (b : Off js σ1 σ2) : Off (is ++ js) σ σ2 := ⟨b.1.trans a.1, fun i h => by
  rw [b.2 i fun m => h (List.mem_append_right _ m), a.2 i fun m => h (List.mem_append_left _ m)]⟩
def mG (c : Pm) (tg : Tg) : TG := fun v σ H Q => ∃ F0 H0 F ρ t d ρ', SR c F0 H0 F H σ ρ t ∧ Rep c F v d ∧ bind1 tg d ρ = some ρ' ∧ ∀ σ', SR c F0 H0 F H σ' ρ' t → Off (slotsT tg) σ σ' → Q σ' H
def mGs (c : Pm) (tgs : List Tg) : TGs := fun vs σ H Q => ∃ F0 H0 F ρ t ds ρ', SR c F0 H0 F H σ ρ t ∧ RepL c F vs ds ∧ bindL tgs ds ρ = some ρ' ∧ ∀ σ', SR c F0 H0 F H σ' ρ' t → Off (slotsTs tgs) σ σ' → Q σ' H
theorem PG.weak {X : Cx} {tg : PySem.Expr} {te te' : TG} (h : PG X tg te) (w : ∀ v σ H Q, te' v σ H Q → te v σ H Q) : PG X tg te' := ⟨fun pins s σ H v u Q I r q => h.run pins s σ H v u Q I r (w v σ H Q q)⟩
theorem PGs.weak {X : Cx} {tg : List PySem.Expr} {te te' : TGs} (h : PGs X tg te) (w : ∀ v σ H Q, te' v σ H Q → te v σ H Q) : PGs X tg te' := ⟨fun pins s σ H v u Q I r q => h.run pins s σ H v u Q I r (w v σ H Q q)⟩
/-- a slot is stored to -/
theorem SR.set {i : Nat} {s : Sl} (S : SR c F0 H0 F H σ ρ t) (h : SlOk c H0 F H (some (some v)) s) (ow : ∀ d, s = .ow d → ∀ j d', j ≠ i → ρ[j]? = some (.ow d') → σ[j]? ≠ some (some v)) : SR c F0 H0 F H (σ.set i (some v)) (ρ.set i s) t := by
  refine ⟨S.g, S.tp, by rw [List.length_set, List.length_set]; exact S.len, fun j s' e => ?_, fun j k d d' n e1 e2 => ?_⟩
  · by_cases z : i = j
    · subst z
      have hl : i < ρ.length := by
        have := (List.getElem?_eq_some_iff.mp e).1
        rw [List.length_set] at this
        exact this
      rw [List.getElem?_set_self hl] at e
      cases e
      rw [List.getElem?_set_self (by rw [← S.len]; exact hl)]
      exact h
    · rw [List.getElem?_set_ne z] at e ⊢
      exact S.sl j s' e
  · by_cases z1 : i = j
    · subst z1
      have hl : i < ρ.length := by
        have := (List.getElem?_eq_some_iff.mp e1).1
        rw [List.length_set] at this
        exact this
      rw [List.getElem?_set_self hl] at e1
      cases e1
      rw [List.getElem?_set_ne n] at e2 ⊢
      rw [List.getElem?_set_self (by rw [← S.len]; exact hl)]
      exact fun q => ow d rfl k d' (Ne.symm n) e2 q.symm
    · by_cases z2 : i = k
      · subst z2
        have hl : i < ρ.length := by
          have := (List.getElem?_eq_some_iff.mp e2).1
          rw [List.length_set] at this
          exact this
        rw [List.getElem?_set_self hl] at e2
        cases e2
        rw [List.getElem?_set_ne z1] at e1 ⊢
        rw [List.getElem?_set_self (by rw [← S.len]; exact hl)]
        exact ow d' rfl j d n e1
      · rw [List.getElem?_set_ne z1] at e1 ⊢
        rw [List.getElem?_set_ne z2] at e2 ⊢
        exact S.ap j k d d' n e1 e2
theorem SR.setSh {i : Nat} {d : D} (S : SR c F0 H0 F H σ ρ t) (h : Rep c F v d) : SR c F0 H0 F H (σ.set i (some v)) (ρ.set i (.sh d)) t := S.set ⟨v, rfl, h⟩ fun d e => by cases e
theorem off_set {i : Nat} {o : Option V} : Off [i] σ (σ.set i o) := ⟨List.length_set, fun j h => List.getElem?_set_ne fun z => h (by rw [z]; exact List.mem_singleton_self _)⟩
theorem g_nm {i : Nat} {x : Str} {pos : Pos} (hN : X.N.Nodup) (h1 : X.N[i]? = some x) (h2 : (locl X.env.scope x || (celd X.env.scope x && X.fn x)) = true) : PG X (.Name x pos) (mG c (.nm i)) := by
  have hl : Loc X.env.scope x ∧ (X.fn x = true ∨ X.env.scope.names.lookup x = some .local) := by
    simp only [Bool.or_eq_true, Bool.and_eq_true, locl, celd, decide_eq_true_eq] at h2
    rcases h2 with z | z
    · exact ⟨.inl z, .inr z⟩
    · exact ⟨.inr z.1, .inl z.2⟩
  refine PG.weak (pg_name hN h1 hl.1 hl.2) fun v σ H Q q => ?_
  obtain ⟨F0, H0, F, ρ, t, d, ρ', S, r, e, p⟩ := q
  simp only [bind1, Option.some.injEq] at e
  subst e
  exact p _ (S.setSh r) off_set
theorem assign_cons {e : PySem.Expr} {es : List PySem.Expr} {env : PySem.Env} (h : noStar e = true) : assignEach (e :: es) env = (false, assign e env) :: assignEach es env := by
  cases e <;> first | rfl | cases h
mutual
theorem sound_g (hN : X.N.Nodup) : ∀ (tg : Tg) (e : PySem.Expr), X.calm = true → X.K = c.K → chkG X.N X.env.scope X.fn tg e = true → PG X e (mG c tg)
  | .nm i, e, _, _, h => by
    cases e <;> first | (simp [chkG] at h; done) | skip
    rename_i x pos
    simp only [chkG, Bool.and_eq_true, decide_eq_true_eq] at h
    exact g_nm hN h.1 h.2
  | .tp ts, e, hc, hK, h => by
    cases e <;> first | (simp [chkG] at h; done) | skip
    rename_i es k pos
    simp only [chkG] at h
    obtain ⟨hg, h1, h2⟩ := sound_gs hN ts es hc hK h
    refine PG.weak (pg_tup (n := ts.length) hc hg h1 h2) fun v σ H Q q => ?_
    obtain ⟨F0, H0, F, ρ, t, d, ρ', S, r, e, p⟩ := q
    cases d <;> first | (simp [bind1] at e; done) | skip
    rename_i ds
    simp only [bind1] at e
    obtain ⟨a, vs, rfl, q1, q2⟩ := r.tupE
    refine ⟨a, vs, rfl, by rw [hK]; exact S.g.sub.sqt q1, ?_, F0, H0, F, ρ, t, ds, ρ', S, q2, e, fun σ' S' o => p σ' S' (by simpa only [slotsT] using o)⟩
    rw [q2.length]
    exact bindL_len ts ds ρ ρ' e
theorem sound_gs (hN : X.N.Nodup) : ∀ (ts : List Tg) (es : List PySem.Expr), X.calm = true → X.K = c.K → chkGs X.N X.env.scope X.fn ts es = true → PGs X es (mGs c ts) ∧ (assignEach es X.env).length = ts.length ∧ (assignEach es X.env).findIdx? (·.1) = none
  | [], es, _, _, h => by
    cases es <;> first | (simp [chkGs] at h; done) | skip
    refine ⟨PGs.weak pgs_nil fun v σ H Q q => ?_, rfl, rfl⟩
    obtain ⟨F0, H0, F, ρ, t, d, ρ', S, r, e, p⟩ := q
    cases r with
    | nil =>
      simp only [bindL, Option.some.injEq] at e
      subst e
      exact ⟨rfl, p _ S (Off.refl _ _)⟩
    | cons _ _ => simp [bindL] at e
  | tg :: ts, es, hc, hK, h => by
    cases es <;> first | (simp [chkGs] at h; done) | skip
    rename_i e es
    simp only [chkGs, Bool.and_eq_true] at h
    have h1 := sound_g hN tg e hc hK h.1.1
    obtain ⟨h2, h3, h4⟩ := sound_gs hN ts es hc hK h.2
    refine ⟨PGs.weak (pgs_cons h1 h2 (by rw [assign_cons h.1.2]; rfl)) fun v σ H Q q => ?_, by rw [assign_cons h.1.2, List.length_cons, List.length_cons, h3], ?_⟩
    · obtain ⟨F0, H0, F, ρ, t, d, ρ', S, r, e, p⟩ := q
      cases r with
      | nil => simp [bindL] at e
      | cons r rr =>
        simp only [bindL] at e
        obtain ⟨ρ1, e1, e2⟩ := Option.bind_eq_some_iff.mp e
        refine ⟨_, _, rfl, F0, H0, F, ρ, t, _, ρ1, S, r, e1, fun σ1 S1 o1 => ⟨F0, H0, F, ρ1, t, _, ρ', S1, rr, e2, fun σ2 S2 o2 => p σ2 S2 ?_⟩⟩
        simp only [slotsTs]
        exact o1.trans o2
    · rw [assign_cons h.1.2, List.findIdx?_cons]
      simp only [Bool.false_eq_true, if_false, h4, Option.map_none]
theorem bindL_len : ∀ (ts : List Tg) (ds : List D) (ρ ρ' : Env), bindL ts ds ρ = some ρ' → ds.length = ts.length
  | [], [], _, _, _ => rfl
  | [], _ :: _, _, _, h => by simp [bindL] at h
  | _ :: _, [], _, _, h => by simp [bindL] at h
  | t :: ts, d :: ds, ρ, ρ', h => by
    simp only [bindL] at h
    obtain ⟨ρ1, e1, e2⟩ := Option.bind_eq_some_iff.mp h
    rw [List.length_cons, List.length_cons, bindL_len ts ds ρ1 ρ' e2]
end
/-! ### wiping -/
theorem SR.wipe (S : SR c F0 H0 F H σ ρ t) : ∀ vs : List Nat, SR c F0 H0 F H (L2.wipe σ vs) (wipeE ρ vs) t
  | [] => S
  | v :: vs => by
    have S := SR.wipe S vs
    unfold L2.wipe wipeE
    refine ⟨S.g, S.tp, by rw [List.length_set, List.length_set]; exact S.len, fun j s' e => ?_, fun j k d d' n e1 e2 => ?_⟩
    · by_cases z : v = j
      · subst z
        have hl : v < (wipeE ρ vs).length := by
          have := (List.getElem?_eq_some_iff.mp e).1
          rw [List.length_set] at this
          exact this
        rw [List.getElem?_set_self hl] at e
        cases e
        trivial
      · rw [List.getElem?_set_ne z] at e ⊢
        exact S.sl j s' e
    · have z1 : v ≠ j := fun z => by
        subst z
        have hl : v < (wipeE ρ vs).length := by
          have := (List.getElem?_eq_some_iff.mp e1).1
          rw [List.length_set] at this
          exact this
        rw [List.getElem?_set_self hl] at e1
        cases e1
      have z2 : v ≠ k := fun z => by
        subst z
        have hl : v < (wipeE ρ vs).length := by
          have := (List.getElem?_eq_some_iff.mp e2).1
          rw [List.length_set] at this
          exact this
        rw [List.getElem?_set_self hl] at e2
        cases e2
      rw [List.getElem?_set_ne z1] at e1 ⊢
      rw [List.getElem?_set_ne z2] at e2 ⊢
      exact S.ap j k d d' n e1 e2
theorem wipe_in {i : Nat} : ∀ {vs : List Nat} {σ : L2.St}, i ∈ vs → i < σ.length → (L2.wipe σ vs)[i]? = some none
  | v :: vs, σ, h, hl => by
    unfold L2.wipe
    by_cases z : v = i
    · subst z
      rw [List.getElem?_set_self (by rw [wipe_length]; exact hl)]
    · rw [List.getElem?_set_ne z]
      rcases List.mem_cons.mp h with q | q
      · exact absurd q.symm z
      · exact wipe_in q hl
theorem wipe_off {vs is : List Nat} {σ2 : L2.St} (o : Off is σ σ2) (s : ∀ i ∈ is, i ∈ vs) : L2.wipe σ2 vs = L2.wipe σ vs := by
  refine List.ext_getElem? fun i => ?_
  by_cases hi : i ∈ vs
  · by_cases hl : i < σ.length
    · rw [wipe_in hi hl, wipe_in hi (by rw [o.1]; exact hl)]
    · rw [List.getElem?_eq_none (by rw [wipe_length, o.1]; omega), List.getElem?_eq_none (by rw [wipe_length]; omega)]
  · rw [wipe_out hi, wipe_out hi]
    exact o.2 i fun m => hi (s i m)
theorem wipe_wipe (vs : List Nat) : L2.wipe (L2.wipe σ vs) vs = L2.wipe σ vs := by
  refine List.ext_getElem? fun i => ?_
  by_cases hi : i ∈ vs
  · by_cases hl : i < σ.length
    · rw [wipe_in hi (by rw [wipe_length]; exact hl), wipe_in hi hl]
    · rw [List.getElem?_eq_none (by rw [wipe_length, wipe_length]; omega), List.getElem?_eq_none (by rw [wipe_length]; omega)]
  · rw [wipe_out hi]
theorem subL_of {a b : List Nat} (h : subL a b = true) : ∀ i ∈ a, i ∈ b := fun i hi => by
  have := List.all_eq_true.mp h i hi
  simpa using this
/-! ### a list that grows -/
theorem Grow.mut {a : Addr} {o : HO} (g : Grow c F H F' H') (n : H a = none) (f : F' a = none) : Grow c F H F' (upd H' a o) := by
  have ne : c.aw ≠ some a := fun e => absurd n (g.aw a e)
  refine ⟨g.ex, fun b u q h => ?_, g.nw, fun b u q => ?_, g.aw, fun b e => ?_⟩
  · have : b ≠ a := fun z => by rw [z, n] at h; cases h
    rw [upd_ne this]
    exact g.hx b u q h
  · have : b ≠ a := fun z => by rw [z, f] at q; cases q
    rw [upd_ne this]
    exact g.sub b u q
  · have : b ≠ a := fun z => by rw [z] at e; exact ne e
    rw [upd_ne this]
    exact g.aw' b e
theorem Tape.mut {a : Addr} {o : HO} (tp : Tape c F H t) (n : c.aw ≠ some a) : Tape c F (upd H a o) t := by
  unfold Tape
  cases e : c.aw with
  | none => trivial
  | some b =>
    obtain ⟨h1, h2, h3⟩ := tp.som e
    refine ⟨?_, h2, h3⟩
    rw [upd_ne (fun z => n (by rw [e, z]))]
    exact h1
end
end Q
namespace Q
open PySem PySem.Spec PyProof.Rows L2 RZ
def addO (acc : List D) : Option D → List D
  | none => acc
  | some y => acc ++ [y]
theorem own_snd (N : List Str) (vs : List Nat) : (ownOf N vs).map (·.2) = vs := by
  unfold ownOf
  rw [List.map_map]
  exact List.map_id' _
theorem env_scope (scope : Scope) (cl : List (Str × Addr)) (C : Addr) (env : PySem.Env) : (compEnvC scope cl C env).scope = relS scope env.scope := rfl
theorem PTs.weak {X : Cx} {e : List PySem.Expr} {te te' : TT} (h : PTs X e te) (w : ∀ σ H Q, te' σ H Q → te σ H Q) : PTs X e te' := ⟨fun pins s σ H Q I q => h.run pins s σ H Q I (w σ H Q q)⟩
theorem compM_at {xs : List D} {f : D → M (Option D)} {i : Nat} {d : D} (h : xs[i]? = some d) {t t2 : Nat} {zs : List D} (e : compM (xs.drop i) f t = some (zs, t2)) :
    ∃ o t1 ys, f d t = some (o, t1) ∧ compM (xs.drop (i + 1)) f t1 = some (ys, t2) ∧ zs = (match o with | none => ys | some y => y :: ys) := by
  have hl := (List.getElem?_eq_some_iff.mp h)
  obtain ⟨hi, hd⟩ := hl
  rw [List.drop_eq_getElem_cons hi, hd] at e
  unfold compM at e
  obtain ⟨o, t1, e1, e⟩ := bnd_some e
  obtain ⟨ys, t3, e2, e⟩ := bnd_some e
  cases e
  exact ⟨o, t1, ys, e1, e2, rfl⟩
theorem catM_at {xs : List D} {f : D → M (List D)} {i : Nat} {d : D} (h : xs[i]? = some d) {t t2 : Nat} {zs : List D} (e : catM (xs.drop i) f t = some (zs, t2)) :
    ∃ o t1 ys, f d t = some (o, t1) ∧ catM (xs.drop (i + 1)) f t1 = some (ys, t2) ∧ zs = o ++ ys := by
  have hl := (List.getElem?_eq_some_iff.mp h)
  obtain ⟨hi, hd⟩ := hl
  rw [List.drop_eq_getElem_cons hi, hd] at e
  unfold catM at e
  obtain ⟨o, t1, e1, e⟩ := bnd_some e
  obtain ⟨ys, t3, e2, e⟩ := bnd_some e
  cases e
  exact ⟨o, t1, ys, e1, e2, rfl⟩
section
variable {X : Cx} {c : Pm} {g : Gl} {fs : List Str}
variable {F0 H0 F H F' H' Hs F1 H1 : Hp} {σ : L2.St} {ρ : Env} {t t' t1 t2 : Nat} {v : V} {x : R}
/-- the list at D holds acc, all of it stays -/
structure Acc (c : Pm) (F1 H1 F H : Hp) (t : Nat) (D : Addr) (acc : List Q.D) : Prop where
  g : Grow c F1 H1 F H
  tp : Tape c F H t
  n : H1 D = none
  f : F D = none
  at_ : ∃ vs, H D = some (.lst vs) ∧ RepL c F vs acc
theorem Acc.ne {D : Addr} {acc : List Q.D} (A : Acc c F1 H1 F H t D acc) : c.aw ≠ some D := fun e => absurd A.n (A.g.aw D e)
theorem Acc.grow {D : Addr} {acc : List Q.D} (A : Acc c F1 H1 F H t D acc) (g : Grow c F H F' H') (tp : Tape c F' H' t') : Acc c F1 H1 F' H' t' D acc := by
  obtain ⟨vs, h, r⟩ := A.at_
  exact ⟨A.g.trans g, tp, A.n, g.free A.f h, vs, g.hx _ _ A.ne h, r.mono g.ex⟩
theorem Acc.push {D : Addr} {acc : List Q.D} {v : V} {d : Q.D} (A : Acc c F1 H1 F H t D acc) (r : Rep c F v d) : ∃ vs, H D = some (.lst vs) ∧ vs.length = acc.length ∧ Acc c F1 H1 F (upd H D (.lst (vs ++ [v]))) t D (acc ++ [d]) := by
  obtain ⟨vs, h, q⟩ := A.at_
  exact ⟨vs, h, q.length, A.g.mut A.n A.f, A.tp.mut A.ne, A.n, A.f, vs ++ [v], upd_same, q.app (.one r)⟩
/-- the body of a clause, from a state in which the list stands -/
theorem bodyI {mt : Env → M Bool} {me : Env → M R} {D : Addr} {acc : List Q.D} {ρ2 : Env} {σ2 : L2.St} {o : Option Q.D} {Nx : Hp → Prop} {k : Nat}
    (S : SR c F0 H0 F H σ2 ρ2 t) (A : Acc c F1 H1 F H t D acc)
    (e : (bnd (mt ρ2) fun k => if k then bnd (me ρ2) fun r => bnd (opt (shared r)) fun y => ret (some y) else ret none) t = some (o, t2))
    (hk : acc.length < lim ∨ o = none)
    (nx : ∀ F' H', Acc c F1 H1 F' H' t2 D (addO acc o) → Ext F F' → Nx H') :
    mT c mt σ2 H fun b H3 => if b = true then mE c me σ2 H3 fun y H4 => ∃ acc, H4 D = some (.lst acc) ∧ acc.length < sizeLine ∧ Nx (upd H4 D (.lst (acc ++ [y]))) else Nx H3 := by
  obtain ⟨b, t3, e1, e⟩ := bnd_some e
  refine oneT S e1 fun F3 H3 gr tp S3 => ?_
  cases b with
  | true =>
    rw [if_pos rfl] at e ⊢
    obtain ⟨r, t4, e2, e⟩ := bnd_some e
    obtain ⟨y, e3, e⟩ := opt_bnd e
    cases e
    refine one S3 e2 fun v F4 H4 gr4 tp4 S4 rr => ?_
    obtain ⟨F5, g5, tp5, r5, x5, _, k5⟩ := rr.share e3 gr4 tp4
    obtain ⟨vs, h, hl, A'⟩ := ((A.grow gr tp).grow g5 tp5).push r5
    refine ⟨vs, h, ?_, nx _ _ A' ((gr.ex.trans gr4.ex).trans x5)⟩
    rw [hl, ← lim_eq]
    rcases hk with z | z
    · exact z
    · cases z
  | false =>
    rw [if_neg (by decide)] at e ⊢
    cases e
    exact nx _ _ (A.grow gr tp) gr.ex
mutual
theorem bind1_off : ∀ (tg : Tg) (d : PyData) (ρ ρ' : Env), bind1 tg d ρ = some ρ' → ρ'.length = ρ.length ∧ (∀ i, i ∉ slotsT tg → ρ'[i]? = ρ[i]?) ∧ ∀ i ∈ slotsT tg, ∀ s, ρ'[i]? = some s → ∃ d, s = .sh d
  | .nm i, d, ρ, ρ', h => by
    simp only [bind1, Option.some.injEq] at h
    subst h
    refine ⟨List.length_set, fun j hj => List.getElem?_set_ne fun z => hj (by rw [z]; simp [slotsT]), fun j hj s e => ?_⟩
    have : j = i := by simpa [slotsT] using hj
    subst this
    have hl : j < ρ.length := by
      have := (List.getElem?_eq_some_iff.mp e).1
      rw [List.length_set] at this
      exact this
    rw [List.getElem?_set_self hl] at e
    exact ⟨d, (Option.some.inj e).symm⟩
  | .tp ts, d, ρ, ρ', h => by
    cases d <;> first | (simp [bind1] at h; done) | skip
    rename_i ds
    simp only [bind1] at h
    have := bindL_off ts ds ρ ρ' h
    simpa only [slotsT] using this
theorem bindL_off : ∀ (ts : List Tg) (ds : List PyData) (ρ ρ' : Env), bindL ts ds ρ = some ρ' → ρ'.length = ρ.length ∧ (∀ i, i ∉ slotsTs ts → ρ'[i]? = ρ[i]?) ∧ ∀ i ∈ slotsTs ts, ∀ s, ρ'[i]? = some s → ∃ d, s = .sh d
  | [], [], ρ, ρ', h => by
    simp only [bindL, Option.some.injEq] at h
    subst h
    exact ⟨rfl, fun _ _ => rfl, fun i hi => by simp [slotsTs] at hi⟩
  | [], _ :: _, _, _, h => by simp [bindL] at h
  | _ :: _, [], _, _, h => by simp [bindL] at h
  | t :: ts, d :: ds, ρ, ρ', h => by
    simp only [bindL] at h
    obtain ⟨ρ1, e1, e2⟩ := Option.bind_eq_some_iff.mp h
    obtain ⟨a1, a2, a3⟩ := bind1_off t d ρ ρ1 e1
    obtain ⟨b1, b2, b3⟩ := bindL_off ts ds ρ1 ρ' e2
    refine ⟨b1.trans a1, fun i hi => ?_, fun i hi s e => ?_⟩
    · simp only [slotsTs, List.mem_append, not_or] at hi
      rw [b2 i hi.2, a2 i hi.1]
    · by_cases z : i ∈ slotsTs ts
      · exact b3 i z s e
      · rw [b2 i z] at e
        simp only [slotsTs, List.mem_append] at hi
        exact a3 i (hi.resolve_right z) s e
end
/-- the names bound once, further on -/
theorem SR.again {F3 H3 F6 H6 : Hp} {σ2 σw : L2.St} {ρ2 ρw : Env} {t3 t6 : Nat} {tg : Tg} {d : PyData} (S2 : SR c F0 H0 F3 H3 σ2 ρ2 t3) (Sw : SR c F0 H0 F6 H6 σw ρw t6) (x : Ext F3 F6) (b : bind1 tg d ρw = some ρ2) (o : Off (slotsT tg) σw σ2) : SR c F0 H0 F6 H6 σ2 ρ2 t6 := by
  obtain ⟨b1, b2, b3⟩ := bind1_off tg d ρw ρ2 b
  refine ⟨Sw.g, Sw.tp, S2.len, fun i s e => ?_, fun i j d d' n e1 e2 => ?_⟩
  · by_cases z : i ∈ slotsT tg
    · obtain ⟨d', rfl⟩ := b3 i z s e
      obtain ⟨v, e1, r⟩ := S2.sl i _ e
      exact ⟨v, e1, r.mono x⟩
    · rw [b2 i z] at e
      rw [o.2 i z]
      exact Sw.sl i s e
  · have z1 : i ∉ slotsT tg := fun z => by
      obtain ⟨_, q⟩ := b3 i z _ e1
      cases q
    have z2 : j ∉ slotsT tg := fun z => by
      obtain ⟨_, q⟩ := b3 j z _ e2
      cases q
    rw [b2 i z1] at e1
    rw [b2 j z2] at e2
    rw [o.2 i z1, o.2 j z2]
    exact Sw.ap i j d d' n e1 e2
theorem lc_w {vs : List Nat} {tg' : Tg} {mi : Env → M (Bool × List PyData)} {mt : Env → M Bool} {me : Env → M R} (hsub : subL (slotsT tg') vs = true) (σ : L2.St) (H : Hp) (Q : VK)
    (q : mE c (fun ρ => bnd (mi ρ) fun xs => bnd (compM xs.2 fun d => bnd (opt (bind1 tg' d (wipeE ρ vs))) fun ρ2 => bnd (mt ρ2) fun k => if k then bnd (me ρ2) fun r => bnd (opt (shared r)) fun y => ret (some y) else ret none) lstR) σ H Q) : tLc (mI c mi) (mG c tg') (mT c mt) (mE c me) vs σ H Q := by
  obtain ⟨F0, H0, F, ρ, t, r, t', S, e, p⟩ := q
  obtain ⟨xs, t1, e1, e⟩ := bnd_some e
  obtain ⟨ys, t2, e2, e⟩ := bnd_some e
  obtain ⟨hl, rfl, rfl⟩ := lstR_some e
  refine ⟨F0, H0, F, ρ, t, xs, t1, S, e1, fun J F1 H1 gr tp it => ?_⟩
  intro D nD
  have S1 := S.grow gr tp
  let f : PyData → M (Option PyData) := fun d => bnd (opt (bind1 tg' d (wipeE ρ vs))) fun ρ2 => bnd (mt ρ2) fun k => if k then bnd (me ρ2) fun r => bnd (opt (shared r)) fun y => ret (some y) else ret none
  refine ⟨fun i m H => m = xs.2.length - i ∧ i ≤ xs.2.length ∧ ∃ F t acc zs, Acc c F1 H1 F H t D acc ∧ compM (xs.2.drop i) f t = some (zs, t') ∧ acc ++ zs = ys, ⟨xs.2.length, rfl, Nat.zero_le _, F1, t1, [], ys, ?_, e2, rfl⟩, ?_⟩
  · exact ⟨S1.refl.laid nD, tp.laid nD, nD, gr.noF nD, [], upd_same, .nil⟩
  rintro i m H2 ⟨rfl, hi, F2, t2', acc, zs, A, e3, e4⟩
  have at_ := it.grow F2 H2 A.g i
  by_cases hlt : i < xs.2.length
  · have hd := List.getElem?_eq_getElem hlt
    obtain ⟨hgo, hy⟩ := at_.1 _ hd
    obtain ⟨o, t3, ys', q1, q2, q3⟩ := compM_at hd e3
    refine .inr ⟨hgo, fun H' => ∃ F, Acc c F1 H1 F H' t3 D (addO acc o), fun H' ⟨F3, A3⟩ => ⟨xs.2.length - (i + 1), by omega, rfl, hlt, F3, t3, _, ys', A3, q2, ?_⟩, fun v H3 hv => ?_⟩
    · rw [← e4, q3]
      cases o with
      | none => rfl
      | some y => simp [addO]
    · obtain ⟨F3, g3, tp3, r3⟩ := (hy v H3 hv).rep A.g.sub A.tp
      have A3 := A.grow g3 tp3
      obtain ⟨ρ2, q4, q5⟩ := opt_bnd q1
      have Sw := ((S1.grow A.g A.tp).grow g3 tp3).wipe vs
      refine ⟨F0, H0, F3, _, _, _, ρ2, Sw, r3, q4, fun σ2 S2 o2 => ⟨?_, bodyI (Nx := fun H' => ∃ F, Acc c F1 H1 F H' t3 D (addO acc o)) (k := 0) S2 A3 q5 ?_ fun F' H' A' _ => ⟨F', A'⟩⟩⟩
      · rw [wipe_off o2 (subL_of hsub), wipe_wipe]
      · cases o with
        | none => exact .inr rfl
        | some y =>
          left
          rw [← e4, q3] at hl
          simp only [List.length_append, List.length_cons] at hl
          omega
  · have e5 : i = xs.2.length := by omega
    subst e5
    rw [List.drop_length] at e3
    have e3 : some (([] : List PyData), t2') = some (zs, t') := e3
    cases e3
    rw [List.append_nil] at e4
    subst e4
    obtain ⟨ws, h, r⟩ := A.at_
    exact .inl ⟨at_.2 (Nat.le_refl _), p (.ref D) F2 H2 (gr.trans A.g) A.tp ⟨D, rfl, gr.back D nD, A.f, ws, h, r⟩⟩
theorem r_lc (G : Good X c g fs) {scope : Scope} {pos : Pos} {elt tg iter : PySem.Expr} {ifs : List PySem.Expr} {vs : List Nat} {tg' : Tg} {mi : Env → M (Bool × List PyData)} {mt : Env → M Bool} {me : Env → M R}
    (hi : PI X tg iter (mI c mi)) (hs : noSet iter = true) (ok : blkC X.N X.env.scope scope (ownOf X.N vs) = true) (hsub : subL (slotsT tg') vs = true)
    (hg : ∀ (s : Shared) (H : Hp) (C : Addr) (cl : List (Str × Addr)) (fp : List Addr), PG (X.blk s H scope (compEnvC scope cl C X.env) fp) tg (mG c tg'))
    (ht : ∀ (s : Shared) (H : Hp) (C : Addr) (cl : List (Str × Addr)) (fp : List Addr), PTs (X.blk s H scope (compEnvC scope cl C X.env) fp) ifs (mT c mt))
    (he : ∀ (s : Shared) (H : Hp) (C : Addr) (cl : List (Str × Addr)) (fp : List Addr), PE (X.blk s H scope (compEnvC scope cl C X.env) fp) elt (mE c me)) :
    PE X (.ListComp elt [⟨tg, iter, ifs, 0⟩] scope pos) (mE c fun ρ => bnd (mi ρ) fun xs => bnd (compM xs.2 fun d => bnd (opt (bind1 tg' d (wipeE ρ vs))) fun ρ2 => bnd (mt ρ2) fun k => if k then bnd (me ρ2) fun r => bnd (opt (shared r)) fun y => ret (some y) else ret none) lstR) := by
  refine PE.weak (pe_lc G.calm G.nd hi (blkOk_by ok) hg ht he fun x => set_plain _ x hs) fun σ H Q q => ?_
  rw [own_snd]
  exact lc_w hsub σ H Q q
theorem off_wipe {vs is : List Nat} {σ2 : L2.St} (o : Off is (L2.wipe σ vs) σ2) (s : ∀ i ∈ is, i ∈ vs) : L2.wipe σ2 vs = L2.wipe σ vs := by
  rw [wipe_off o s, wipe_wipe]
/-- one turn of the first clause -/
def turn2 (vs1 : List Nat) (tg1 : Tg) (mi1 : Env → M (Bool × List D)) (mt1 : Env → M Bool) (me : Env → M R) (ρ2 : Env) : M (List D) :=
  bnd (mi1 ρ2) fun ys => if ys.1 = false then fail else compM ys.2 fun d1 => bnd (opt (bind1 tg1 d1 (wipeE ρ2 vs1))) fun ρ3 => bnd (mt1 ρ3) fun k1 => if k1 then bnd (me ρ3) fun r => bnd (opt (shared r)) fun y => ret (some y) else ret none
theorem lc2_w {vs vs1 : List Nat} {tg' tg1' : Tg} {mi mi1 : Env → M (Bool × List D)} {mt mt1 : Env → M Bool} {me : Env → M R} (hsub : subL (slotsT tg') vs = true) (hsub1 : subL (slotsT tg1') vs1 = true) (σ : L2.St) (H : Hp) (Q : VK)
    (q : mE c (fun ρ => bnd (mi ρ) fun xs => bnd (catM xs.2 fun d => bnd (opt (bind1 tg' d (wipeE ρ vs))) fun ρ2 => bnd (mt ρ2) fun k => if k then turn2 vs1 tg1' mi1 mt1 me ρ2 else ret []) lstR) σ H Q) : tLc2 (mI c mi) (mG c tg') (mT c mt) (mI c mi1) (mG c tg1') (mT c mt1) (mE c me) vs vs1 σ H Q := by
  obtain ⟨F0, H0, F, ρ, t, r, t', S, e, p⟩ := q
  obtain ⟨xs, t1, e1, e⟩ := bnd_some e
  obtain ⟨ys, t2, e2, e⟩ := bnd_some e
  obtain ⟨hl, rfl, rfl⟩ := lstR_some e
  refine ⟨F0, H0, F, ρ, t, xs, t1, S, e1, fun J F1 H1 gr tp it => ?_⟩
  intro D nD
  have S1 := S.grow gr tp
  let f : PyData → M (List PyData) := fun d => bnd (opt (bind1 tg' d (wipeE ρ vs))) fun ρ2 => bnd (mt ρ2) fun k => if k then turn2 vs1 tg1' mi1 mt1 me ρ2 else ret []
  refine ⟨fun i m H => m = xs.2.length - i ∧ i ≤ xs.2.length ∧ ∃ F t acc zs, Acc c F1 H1 F H t D acc ∧ catM (xs.2.drop i) f t = some (zs, t') ∧ acc ++ zs = ys, ⟨xs.2.length, rfl, Nat.zero_le _, F1, t1, [], ys, ?_, e2, rfl⟩, ?_⟩
  · exact ⟨S1.refl.laid nD, tp.laid nD, nD, gr.noF nD, [], upd_same, .nil⟩
  rintro i m H2 ⟨rfl, hi, F2, t2', acc, zs, A, e3, e4⟩
  have at_ := it.grow F2 H2 A.g i
  by_cases hlt : i < xs.2.length
  · have hd := List.getElem?_eq_getElem hlt
    obtain ⟨hgo, hy⟩ := at_.1 _ hd
    obtain ⟨o, t3, ys', q1, q2, q3⟩ := catM_at hd e3
    refine .inr ⟨hgo, fun H' => ∃ F, Acc c F1 H1 F H' t3 D (acc ++ o), fun H' ⟨F3, A3⟩ => ⟨xs.2.length - (i + 1), by omega, rfl, hlt, F3, t3, _, ys', A3, q2, by rw [← e4, q3, List.append_assoc]⟩, fun v H3 hv => ?_⟩
    obtain ⟨F3, g3, tp3, r3⟩ := (hy v H3 hv).rep A.g.sub A.tp
    have A3 := A.grow g3 tp3
    obtain ⟨ρ2, q4, q5⟩ := opt_bnd q1
    have Sw := ((S1.grow A.g A.tp).grow g3 tp3).wipe vs
    refine ⟨F0, H0, F3, _, _, _, ρ2, Sw, r3, q4, fun σ2 S2 o2 => ⟨off_wipe o2 (subL_of hsub), ?_⟩⟩
    obtain ⟨b, t4, q6, q7⟩ := bnd_some q5
    refine oneT S2 q6 fun F4 H4 gr4 tp4 S4 => ?_
    have A4 := A3.grow gr4 tp4
    cases b with
    | false =>
      rw [if_neg (by decide)] at q7 ⊢
      cases q7
      exact ⟨F4, by rw [List.append_nil]; exact A4⟩
    | true =>
      rw [if_pos rfl] at q7 ⊢
      unfold turn2 at q7
      obtain ⟨us, t5, q8, q9⟩ := bnd_some q7
      cases hus : us.1 with
      | false => rw [hus, if_pos rfl] at q9; cases q9
      | true =>
        rw [hus, if_neg (by decide)] at q9
        refine ⟨F0, H0, F4, ρ2, t4, us, t5, S4, q8, fun J1 F5 H5 gr5 tp5 it1 => ?_⟩
        have A5 := A4.grow gr5 tp5
        have S5 := S4.grow gr5 tp5
        let f1 : PyData → M (Option PyData) := fun d1 => bnd (opt (bind1 tg1' d1 (wipeE ρ2 vs1))) fun ρ3 => bnd (mt1 ρ3) fun k1 => if k1 then bnd (me ρ3) fun r => bnd (opt (shared r)) fun y => ret (some y) else ret none
        refine ⟨fun j k H => k = us.2.length - j ∧ j ≤ us.2.length ∧ ∃ F t acc1 zs1, Acc c F1 H1 F H t D (acc ++ acc1) ∧ Ext F5 F ∧ compM (us.2.drop j) f1 t = some (zs1, t3) ∧ acc1 ++ zs1 = o, ⟨us.2.length, rfl, Nat.zero_le _, F5, t5, [], o, by rw [List.append_nil]; exact A5, Ext.refl _, q9, rfl⟩, ?_⟩
        rintro j k H6 ⟨rfl, hj, F6, t6, acc1, zs1, A6, x6, p3, p4⟩
        have at1 := it1.far hus F6 H6 x6 A6.g.sub j
        by_cases hjt : j < us.2.length
        · have hd1 := List.getElem?_eq_getElem hjt
          obtain ⟨hgo1, hy1⟩ := at1.1 _ hd1
          obtain ⟨o1, t7, ys1, w1, w2, w3⟩ := compM_at hd1 p3
          refine .inr ⟨hgo1, fun H' => ∃ F, Acc c F1 H1 F H' t7 D (addO (acc ++ acc1) o1) ∧ Ext F5 F, fun H' ⟨F7, A7, x7⟩ => ⟨us.2.length - (j + 1), by omega, rfl, hjt, F7, t7, addO acc1 o1, ys1, ?_, x7, w2, ?_⟩, fun v H7 hv => ?_⟩
          · cases o1 with
            | none => exact A7
            | some y => simp only [addO, List.append_assoc] at A7 ⊢; exact A7
          · rw [← p4, w3]
            cases o1 with
            | none => rfl
            | some y => simp [addO]
          · obtain ⟨F7, g7, tp7, r7⟩ := (hy1 v H7 hv).rep A6.g.sub A6.tp
            have A7 := A6.grow g7 tp7
            obtain ⟨ρ3, w4, w5⟩ := opt_bnd w1
            have S6 := S2.again (((S1.grow A6.g A6.tp).grow g7 tp7).wipe vs) (((gr4.ex.trans gr5.ex).trans x6).trans g7.ex) q4 o2
            have Sw1 := S6.wipe vs1
            refine ⟨F0, H0, F7, _, _, _, ρ3, Sw1, r7, w4, fun σ3 S3 o3 => ⟨off_wipe o3 (subL_of hsub1), ?_⟩⟩
            refine bodyI (k := 0) (Nx := fun H' => ∃ F, Acc c F1 H1 F H' t7 D (addO (acc ++ acc1) o1) ∧ Ext F5 F) S3 A7 w5 ?_ fun F' H' A' x' => ⟨F', A', (x6.trans g7.ex).trans x'⟩
            cases o1 with
            | none => exact .inr rfl
            | some y =>
              left
              rw [← e4, q3, ← p4, w3] at hl
              simp only [List.length_append, List.length_cons] at hl ⊢
              omega
        · have e5 : j = us.2.length := by omega
          subst e5
          rw [List.drop_length] at p3
          have p3 : some (([] : List PyData), t6) = some (zs1, t3) := p3
          cases p3
          rw [List.append_nil] at p4
          subst p4
          exact .inl ⟨at1.2 (Nat.le_refl _), F6, A6⟩
  · have e5 : i = xs.2.length := by omega
    subst e5
    rw [List.drop_length] at e3
    have e3 : some (([] : List PyData), t2') = some (zs, t') := e3
    cases e3
    rw [List.append_nil] at e4
    subst e4
    obtain ⟨ws, h, r⟩ := A.at_
    exact .inl ⟨at_.2 (Nat.le_refl _), p (.ref D) F2 H2 (gr.trans A.g) A.tp ⟨D, rfl, gr.back D nD, A.f, ws, h, r⟩⟩
theorem r_lc2 (G : Good X c g fs) {scope : Scope} {pos : Pos} {elt tg iter tg1 iter1 : PySem.Expr} {ifs ifs1 : List PySem.Expr} {vs vs1 : List Nat} {tg' tg1' : Tg} {mi mi1 : Env → M (Bool × List D)} {mt mt1 : Env → M Bool} {me : Env → M R}
    (hi : PI X tg iter (mI c mi)) (hs : noSet iter = true) (hs1 : noSet iter1 = true) (ok : blkC X.N X.env.scope scope (ownOf X.N vs) = true) (hsub : subL (slotsT tg') vs = true) (hsub1 : subL (slotsT tg1') vs1 = true) (hsub2 : subL vs1 vs = true)
    (hg : ∀ (s : Shared) (H : Hp) (C : Addr) (cl : List (Str × Addr)) (fp : List Addr), PG (X.blk s H scope (compEnvC scope cl C X.env) fp) tg (mG c tg'))
    (ht : ∀ (s : Shared) (H : Hp) (C : Addr) (cl : List (Str × Addr)) (fp : List Addr), PTs (X.blk s H scope (compEnvC scope cl C X.env) fp) ifs (mT c mt))
    (hi1 : ∀ (s : Shared) (H : Hp) (C : Addr) (cl : List (Str × Addr)) (fp : List Addr), PI (X.blk s H scope (compEnvC scope cl C X.env) fp) tg1 iter1 (mI c mi1))
    (hg1 : ∀ (s : Shared) (H : Hp) (C : Addr) (cl : List (Str × Addr)) (fp : List Addr), PG (X.blk s H scope (compEnvC scope cl C X.env) fp) tg1 (mG c tg1'))
    (ht1 : ∀ (s : Shared) (H : Hp) (C : Addr) (cl : List (Str × Addr)) (fp : List Addr), PTs (X.blk s H scope (compEnvC scope cl C X.env) fp) ifs1 (mT c mt1))
    (he : ∀ (s : Shared) (H : Hp) (C : Addr) (cl : List (Str × Addr)) (fp : List Addr), PE (X.blk s H scope (compEnvC scope cl C X.env) fp) elt (mE c me)) :
    PE X (.ListComp elt [⟨tg, iter, ifs, 0⟩, ⟨tg1, iter1, ifs1, 0⟩] scope pos) (mE c fun ρ => bnd (mi ρ) fun xs => bnd (catM xs.2 fun d => bnd (opt (bind1 tg' d (wipeE ρ vs))) fun ρ2 => bnd (mt ρ2) fun k => if k then turn2 vs1 tg1' mi1 mt1 me ρ2 else ret []) lstR) := by
  refine PE.weak (pe_lc2 (vs1 := vs1) G.calm G.nd hi (blkOk_by ok) (by rw [own_snd]; exact subL_of hsub2) hg ht hi1 hg1 ht1 he (fun x => set_plain _ x hs) fun env x => set_plain env x hs1) fun σ H Q q => ?_
  rw [own_snd]
  exact lc2_w hsub hsub1 σ H Q q
end
end Q
namespace Q
open PySem PySem.Spec PyProof.Rows L2 RZ
theorem chkL_star {fs N : List Str} {sc : Scope} : ∀ {es : EL} {xs : List PySem.Expr}, chkL fs N sc es xs = true → xs.all noStar = true
  | .nil, xs, h => by
    cases xs with
    | nil => rfl
    | cons _ _ => simp [chkL] at h
  | .cons e es, xs, h => by
    cases xs with
    | nil => simp [chkL] at h
    | cons x xs =>
      simp only [chkL, Bool.and_eq_true] at h
      rw [List.all_cons, h.1.2, chkL_star h.2]
      rfl
section
variable {fs N : List Str} {sc : Scope} {py : PySem.Expr}
theorem inv_cst {d : D} (h : chkE fs N sc (.cst d) py = true) : ∃ k j p, py = .Constant k j p ∧ cstM d k = true := by
  unfold chkE at h
  split at h <;> rename_i q <;> first | (cases h; done) | (cases q; done) | skip
  injection q with q1
  subst q1
  have h1 := h
  exact ⟨_, _, _, rfl, h1⟩

theorem inv_neg {a : E} (h : chkE fs N sc (.neg a) py = true) : ∃ x p, py = .UnaryOp .USub x p ∧ chkE fs N sc a x = true := by
  unfold chkE at h
  split at h <;> rename_i q <;> first | (cases h; done) | (cases q; done) | skip
  injection q with q1
  subst q1
  have h1 := h
  exact ⟨_, _, rfl, h1⟩

theorem inv_bin {op : Op} {a b : E} (h : chkE fs N sc (.bin op a b) py = true) : ∃ x q y p, py = .BinOp x q y p ∧ opM op q = true ∧ chkE fs N sc a x = true ∧ chkE fs N sc b y = true := by
  unfold chkE at h
  split at h <;> rename_i q <;> first | (cases h; done) | (cases q; done) | skip
  injection q with q1 q2 q3
  subst q1 q2 q3
  simp only [Bool.and_eq_true, decide_eq_true_eq] at h
  obtain ⟨⟨h1, h2⟩, h3⟩ := h
  exact ⟨_, _, _, _, rfl, h1, h2, h3⟩

theorem inv_cmp {op : Cp} {a b : E} (h : chkE fs N sc (.cmp op a b) py = true) : ∃ x q y p, py = .Compare x [q] [y] p ∧ cpM op q = true ∧ chkE fs N sc a x = true ∧ chkE fs N sc b y = true ∧ noSet y = true := by
  unfold chkE at h
  split at h <;> rename_i q <;> first | (cases h; done) | (cases q; done) | skip
  injection q with q1 q2 q3
  subst q1 q2 q3
  simp only [Bool.and_eq_true, decide_eq_true_eq] at h
  obtain ⟨⟨⟨h1, h2⟩, h3⟩, h4⟩ := h
  exact ⟨_, _, _, _, rfl, h1, h2, h3, h4⟩

theorem inv_chn {op op2 : Cp} {a b d : E} (h : chkE fs N sc (.chn op op2 a b d) py = true) : ∃ x q q2 y z p, py = .Compare x [q, q2] [y, z] p ∧ cpM op q = true ∧ cpM op2 q2 = true ∧ chkE fs N sc a x = true ∧ chkE fs N sc b y = true ∧ chkE fs N sc d z = true ∧ noSet y = true ∧ noSet z = true := by
  unfold chkE at h
  split at h <;> rename_i q <;> first | (cases h; done) | (cases q; done) | skip
  injection q with q1 q2 q3 q4 q5
  subst q1 q2 q3 q4 q5
  simp only [Bool.and_eq_true, decide_eq_true_eq] at h
  obtain ⟨⟨⟨⟨⟨⟨h1, h2⟩, h3⟩, h4⟩, h5⟩, h6⟩, h7⟩ := h
  exact ⟨_, _, _, _, _, _, rfl, h1, h2, h3, h4, h5, h6, h7⟩

theorem inv_land {es : EL} (h : chkE fs N sc (.land es) py = true) : ∃ xs p, py = .BoolOp .And xs p ∧ chkB fs N sc es xs = true := by
  unfold chkE at h
  split at h <;> rename_i q <;> first | (cases h; done) | (cases q; done) | skip
  injection q with q1
  subst q1
  have h1 := h
  exact ⟨_, _, rfl, h1⟩

theorem inv_lor {es : EL} (h : chkE fs N sc (.lor es) py = true) : ∃ xs p, py = .BoolOp .Or xs p ∧ chkB fs N sc es xs = true := by
  unfold chkE at h
  split at h <;> rename_i q <;> first | (cases h; done) | (cases q; done) | skip
  injection q with q1
  subst q1
  have h1 := h
  exact ⟨_, _, rfl, h1⟩

theorem inv_lnot {a : E} (h : chkE fs N sc (.lnot a) py = true) : ∃ x p, py = .UnaryOp .Not x p ∧ chkE fs N sc a x = true := by
  unfold chkE at h
  split at h <;> rename_i q <;> first | (cases h; done) | (cases q; done) | skip
  injection q with q1
  subst q1
  have h1 := h
  exact ⟨_, _, rfl, h1⟩

theorem inv_ite {t : T} {a b : E} (h : chkE fs N sc (.ite t a b) py = true) : ∃ x y z p, py = .IfExp x y z p ∧ chkT fs N sc t x = true ∧ chkE fs N sc a y = true ∧ chkE fs N sc b z = true := by
  unfold chkE at h
  split at h <;> rename_i q <;> first | (cases h; done) | (cases q; done) | skip
  injection q with q1 q2 q3
  subst q1 q2 q3
  simp only [Bool.and_eq_true, decide_eq_true_eq] at h
  obtain ⟨⟨h1, h2⟩, h3⟩ := h
  exact ⟨_, _, _, _, rfl, h1, h2, h3⟩

theorem inv_tup {es : EL} (h : chkE fs N sc (.tup es) py = true) : ∃ xs k p, py = .Tuple xs k p ∧ chkL fs N sc es xs = true := by
  unfold chkE at h
  split at h <;> rename_i q <;> first | (cases h; done) | (cases q; done) | skip
  injection q with q1
  subst q1
  have h1 := h
  exact ⟨_, _, _, rfl, h1⟩

theorem inv_lst {es : EL} (h : chkE fs N sc (.lst es) py = true) : ∃ xs p, py = .List xs p ∧ chkL fs N sc es xs = true := by
  unfold chkE at h
  split at h <;> rename_i q <;> first | (cases h; done) | (cases q; done) | skip
  injection q with q1
  subst q1
  have h1 := h
  exact ⟨_, _, rfl, h1⟩

theorem inv_call {f : Nat} {es : EL} (h : chkE fs N sc (.call f es) py = true) : ∃ x p2 y ys p, py = .Call (.Name x p2) (y :: ys) [] p ∧ fs[f]? = some x ∧ gl sc x = true ∧ chkL fs N sc es (y :: ys) = true := by
  unfold chkE at h
  split at h <;> rename_i q <;> first | (cases h; done) | (cases q; done) | skip
  injection q with q1 q2
  subst q1 q2
  simp only [Bool.and_eq_true, decide_eq_true_eq] at h
  obtain ⟨⟨h1, h2⟩, h3⟩ := h
  exact ⟨_, _, _, _, _, rfl, h1, h2, h3⟩

theorem inv_nxt {w : Nat} {e : E} (h : chkE fs N sc (.nxt w e) py = true) : ∃ x p2 y z p, py = .Call (.Name x p2) [y, z] [] p ∧ x = ("_law_next" : Str) ∧ gl sc x = true ∧ chkN N sc w y = true ∧ chkE fs N sc e z = true ∧ noStar z = true := by
  unfold chkE at h
  split at h <;> rename_i q <;> first | (cases h; done) | (cases q; done) | skip
  injection q with q1 q2
  subst q1 q2
  simp only [Bool.and_eq_true, decide_eq_true_eq] at h
  obtain ⟨⟨⟨⟨h1, h2⟩, h3⟩, h4⟩, h5⟩ := h
  exact ⟨_, _, _, _, _, rfl, h1, h2, h3, h4, h5⟩

theorem inv_blt {f : B} {es : EL} (h : chkE fs N sc (.blt f es) py = true) : ∃ x p2 y ys p, py = .Call (.Name x p2) (y :: ys) [] p ∧ x = bnm f ∧ gl sc x = true ∧ chkL fs N sc es (y :: ys) = true := by
  unfold chkE at h
  split at h <;> rename_i q <;> first | (cases h; done) | (cases q; done) | skip
  injection q with q1 q2
  subst q1 q2
  simp only [Bool.and_eq_true, decide_eq_true_eq] at h
  obtain ⟨⟨h1, h2⟩, h3⟩ := h
  exact ⟨_, _, _, _, _, rfl, h1, h2, h3⟩

theorem inv_isa {t : Ty} {e : E} (h : chkE fs N sc (.isa t e) py = true) : ∃ x p2 y z p3 p, py = .Call (.Name x p2) [y, .Name z p3] [] p ∧ x = ("isinstance" : Str) ∧ gl sc x = true ∧ chkE fs N sc e y = true ∧ noStar y = true ∧ z = tynm t ∧ gl sc z = true := by
  unfold chkE at h
  split at h <;> rename_i q <;> first | (cases h; done) | (cases q; done) | skip
  injection q with q1 q2
  subst q1 q2
  simp only [Bool.and_eq_true, decide_eq_true_eq] at h
  obtain ⟨⟨⟨⟨⟨h1, h2⟩, h3⟩, h4⟩, h5⟩, h6⟩ := h
  exact ⟨_, _, _, _, _, _, rfl, h1, h2, h3, h4, h5, h6⟩

theorem inv_ix {a b : E} (h : chkE fs N sc (.ix a b) py = true) : ∃ x y p, py = .Subscript x y p ∧ chkE fs N sc a x = true ∧ chkE fs N sc b y = true ∧ noSlice y = true := by
  unfold chkE at h
  split at h <;> rename_i q <;> first | (cases h; done) | (cases q; done) | skip
  injection q with q1 q2
  subst q1 q2
  simp only [Bool.and_eq_true, decide_eq_true_eq] at h
  obtain ⟨⟨h1, h2⟩, h3⟩ := h
  exact ⟨_, _, _, rfl, h1, h2, h3⟩

theorem inv_sl {a : E} {lo hi : EO} (h : chkE fs N sc (.sl a lo hi) py = true) : ∃ x l h2 p2 p, py = .Subscript x (.Slice l h2 .none p2) p ∧ chkE fs N sc a x = true ∧ chkO fs N sc lo l = true ∧ chkO fs N sc hi h2 = true := by
  unfold chkE at h
  split at h <;> rename_i q <;> first | (cases h; done) | (cases q; done) | skip
  injection q with q1 q2 q3
  subst q1 q2 q3
  simp only [Bool.and_eq_true, decide_eq_true_eq] at h
  obtain ⟨⟨h1, h2⟩, h3⟩ := h
  exact ⟨_, _, _, _, _, rfl, h1, h2, h3⟩

theorem inv_lc {vs : List Nat} {elt : E} {tg : Tg} {it : It} {cond : TO} (h : chkE fs N sc (.lc vs elt tg it cond) py = true) : ∃ x gg i ifs sc2 p, py = .ListComp x [⟨gg, i, ifs, 0⟩] sc2 p ∧ blkC N sc sc2 (ownOf N vs) = true ∧ chkI fs N sc it gg i = true ∧ noSet i = true ∧ chkG N (relS sc2 sc) (fnOf sc2) tg gg = true ∧ subL (slotsT tg) vs = true ∧ chkTO fs N (relS sc2 sc) cond ifs = true ∧ chkE fs N (relS sc2 sc) elt x = true := by
  unfold chkE at h
  split at h <;> rename_i q <;> first | (cases h; done) | (cases q; done) | skip
  injection q with q1 q2 q3 q4 q5
  subst q1 q2 q3 q4 q5
  simp only [Bool.and_eq_true, decide_eq_true_eq] at h
  obtain ⟨⟨⟨⟨⟨⟨h1, h2⟩, h3⟩, h4⟩, h5⟩, h6⟩, h7⟩ := h
  exact ⟨_, _, _, _, _, _, rfl, h1, h2, h3, h4, h5, h6, h7⟩

theorem inv_lc2 {vs vs1 : List Nat} {elt : E} {tg : Tg} {it : It} {cond : TO} {tg1 : Tg} {it1 : It} {cond1 : TO} (h : chkE fs N sc (.lc2 vs vs1 elt tg it cond tg1 it1 cond1) py = true) : ∃ x gg i ifs g1 i1 ifs1 sc2 p, py = .ListComp x [⟨gg, i, ifs, 0⟩, ⟨g1, i1, ifs1, 0⟩] sc2 p ∧ blkC N sc sc2 (ownOf N vs) = true ∧ chkI fs N sc it gg i = true ∧ noSet i = true ∧ chkG N (relS sc2 sc) (fnOf sc2) tg gg = true ∧ subL (slotsT tg) vs = true ∧ chkTO fs N (relS sc2 sc) cond ifs = true ∧ chkI fs N (relS sc2 sc) it1 g1 i1 = true ∧ noSet i1 = true ∧ chkG N (relS sc2 sc) (fnOf sc2) tg1 g1 = true ∧ subL (slotsT tg1) vs1 = true ∧ subL vs1 vs = true ∧ chkTO fs N (relS sc2 sc) cond1 ifs1 = true ∧ chkE fs N (relS sc2 sc) elt x = true := by
  unfold chkE at h
  split at h <;> rename_i q <;> first | (cases h; done) | (cases q; done) | skip
  injection q with q1 q2 q3 q4 q5 q6 q7 q8 q9
  subst q1 q2 q3 q4 q5 q6 q7 q8 q9
  simp only [Bool.and_eq_true, decide_eq_true_eq] at h
  obtain ⟨⟨⟨⟨⟨⟨⟨⟨⟨⟨⟨⟨h1, h2⟩, h3⟩, h4⟩, h5⟩, h6⟩, h7⟩, h8⟩, h9⟩, h10⟩, h11⟩, h12⟩, h13⟩ := h
  exact ⟨_, _, _, _, _, _, _, _, _, rfl, h1, h2, h3, h4, h5, h6, h7, h8, h9, h10, h11, h12, h13⟩

theorem inv_tcmp {op : Cp} {a b : E} (h : chkT fs N sc (.cmp op a b) py = true) : ∃ x q y p, py = .Compare x [q] [y] p ∧ cpM op q = true ∧ chkE fs N sc a x = true ∧ chkE fs N sc b y = true ∧ noSet y = true := by
  unfold chkT at h
  split at h <;> rename_i q <;> first | (cases h; done) | (cases q; done) | skip
  injection q with q1 q2 q3
  subst q1 q2 q3
  simp only [Bool.and_eq_true, decide_eq_true_eq] at h
  obtain ⟨⟨⟨h1, h2⟩, h3⟩, h4⟩ := h
  exact ⟨_, _, _, _, rfl, h1, h2, h3, h4⟩

theorem inv_tchn {op op2 : Cp} {a b d : E} (h : chkT fs N sc (.chn op op2 a b d) py = true) : ∃ x q q2 y z p, py = .Compare x [q, q2] [y, z] p ∧ cpM op q = true ∧ cpM op2 q2 = true ∧ chkE fs N sc a x = true ∧ chkE fs N sc b y = true ∧ chkE fs N sc d z = true ∧ noSet y = true ∧ noSet z = true := by
  unfold chkT at h
  split at h <;> rename_i q <;> first | (cases h; done) | (cases q; done) | skip
  injection q with q1 q2 q3 q4 q5
  subst q1 q2 q3 q4 q5
  simp only [Bool.and_eq_true, decide_eq_true_eq] at h
  obtain ⟨⟨⟨⟨⟨⟨h1, h2⟩, h3⟩, h4⟩, h5⟩, h6⟩, h7⟩ := h
  exact ⟨_, _, _, _, _, _, rfl, h1, h2, h3, h4, h5, h6, h7⟩

theorem inv_tand {ts : TL} (h : chkT fs N sc (.and ts) py = true) : ∃ xs p, py = .BoolOp .And xs p ∧ chkTL fs N sc ts xs = true := by
  unfold chkT at h
  split at h <;> rename_i q <;> first | (cases h; done) | (cases q; done) | skip
  injection q with q1
  subst q1
  have h1 := h
  exact ⟨_, _, rfl, h1⟩

theorem inv_tor {ts : TL} (h : chkT fs N sc (.or ts) py = true) : ∃ xs p, py = .BoolOp .Or xs p ∧ chkTL fs N sc ts xs = true := by
  unfold chkT at h
  split at h <;> rename_i q <;> first | (cases h; done) | (cases q; done) | skip
  injection q with q1
  subst q1
  have h1 := h
  exact ⟨_, _, rfl, h1⟩

theorem inv_tnot {t : T} (h : chkT fs N sc (.not t) py = true) : ∃ x p, py = .UnaryOp .Not x p ∧ chkT fs N sc t x = true := by
  unfold chkT at h
  split at h <;> rename_i q <;> first | (cases h; done) | (cases q; done) | skip
  injection q with q1
  subst q1
  have h1 := h
  exact ⟨_, _, rfl, h1⟩
theorem inv_val {e : E} (h : chkT fs N sc (.val e) py = true) : plainT py = true ∧ chkE fs N sc e py = true := by
  simpa only [chkT, Bool.and_eq_true] using h
end
section
variable {c : Pm} {g : Gl} {fs : List Str}
mutual
theorem sound_e : ∀ (e : E) (X : Cx) (py : PySem.Expr), Good X c g fs → chkE fs X.N X.env.scope e py = true → PE X py (mE c fun ρ => ev g e ρ)
  | .var i, X, py, G, h => r_var (by simpa only [chkE] using h)
  | .cst d, X, py, G, h => by
    obtain ⟨k, j, p, rfl, h1⟩ := inv_cst h
    exact r_cst h1
  | .neg a, X, py, G, h => by
    obtain ⟨x, p, rfl, h1⟩ := inv_neg h
    exact r_neg (sound_e a X x G h1)
  | .bin op a b, X, py, G, h => by
    obtain ⟨x, q, y, p, rfl, h1, h2, h3⟩ := inv_bin h
    exact r_bin G h1 (sound_e a X x G h2) (sound_e b X y G h3)
  | .cmp op a b, X, py, G, h => by
    obtain ⟨x, q, y, p, rfl, h1, h2, h3, h4⟩ := inv_cmp h
    exact r_cmp G h1 (sound_e a X x G h2) (sound_e b X y G h3) h4
  | .chn op op2 a b d, X, py, G, h => by
    obtain ⟨x, q, q2, y, z, p, rfl, h1, h2, h3, h4, h5, h6, h7⟩ := inv_chn h
    exact r_chn G h1 h2 (sound_e a X x G h3) (sound_e b X y G h4) (sound_e d X z G h5) h7
  | .land es, X, py, G, h => by
    obtain ⟨xs, p, rfl, h1⟩ := inv_land h
    exact sound_and es X xs p G h1
  | .lor es, X, py, G, h => by
    obtain ⟨xs, p, rfl, h1⟩ := inv_lor h
    exact sound_or es X xs p G h1
  | .lnot a, X, py, G, h => by
    obtain ⟨x, p, rfl, h1⟩ := inv_lnot h
    exact r_not (sound_e a X x G h1)
  | .ite t a b, X, py, G, h => by
    obtain ⟨x, y, z, p, rfl, h1, h2, h3⟩ := inv_ite h
    exact r_ite (sound_t t X x G h1) (sound_e a X y G h2) (sound_e b X z G h3)
  | .tup es, X, py, G, h => by
    obtain ⟨xs, k, p, rfl, h1⟩ := inv_tup h
    exact r_tup (sound_l es X xs G h1)
  | .lst es, X, py, G, h => by
    obtain ⟨xs, p, rfl, h1⟩ := inv_lst h
    exact r_lst (sound_l es X xs G h1)
  | .call f es, X, py, G, h => by
    obtain ⟨x, p2, y, ys, p, rfl, h1, h2, h3⟩ := inv_call h
    have hs := chkL_star h3
    rw [List.all_cons, Bool.and_eq_true] at hs
    have hdb : (x == ("__debug__" : Str)) = false := by
      cases q : (x == ("__debug__" : Str)) with
      | false => rfl
      | true =>
        exfalso
        obtain ⟨k, _, hd, _⟩ := G.fn
        obtain ⟨a, fd, ps, e1, _⟩ := (hd f x h1).ex
        have := beq_iff_eq.mp q
        subst this
        rw [G.db] at e1
        cases e1
    exact r_call G h1 h2 (sound_l es X (y :: ys) G h3) hs.1 hs.2 hdb
  | .nxt w e, X, py, G, h => by
    obtain ⟨x, p2, y, z, p, rfl, rfl, h1, h2, h3, h4⟩ := inv_nxt h
    exact r_nxt G h1 h2 (sound_e e X z G h3) h4
  | .blt f es, X, py, G, h => by
    obtain ⟨x, p2, y, ys, p, rfl, rfl, h2, h3⟩ := inv_blt h
    have hs := chkL_star h3
    rw [List.all_cons, Bool.and_eq_true] at hs
    exact r_blt G h2 (sound_l es X (y :: ys) G h3) hs.1 hs.2
  | .isa t e, X, py, G, h => by
    obtain ⟨x, p2, y, z, p3, p, rfl, rfl, h2, h3, h4, rfl, h6⟩ := inv_isa h
    exact r_isa G h2 h6 (sound_e e X y G h3) h4
  | .ix a b, X, py, G, h => by
    obtain ⟨x, y, p, rfl, h1, h2, h3⟩ := inv_ix h
    exact r_ix G (sound_e a X x G h1) (sound_e b X y G h2) h3
  | .sl a lo hi, X, py, G, h => by
    obtain ⟨x, l, h2, p2, p, rfl, q1, q2, q3⟩ := inv_sl h
    exact r_sl G (sound_e a X x G q1) (sound_o lo X l G q2) (sound_o hi X h2 G q3)
  | .lc vs elt tg it cond, X, py, G, h => by
    obtain ⟨x, gg, i, ifs, sc2, p, rfl, h1, h2, h3, h4, h5, h6, h7⟩ := inv_lc h
    exact r_lc G (sound_i it X gg i G h2) h3 h1 h5 (fun s H C cl fp => sound_g (X := X.blk s H sc2 (compEnvC sc2 cl C X.env) fp) G.nd tg gg G.calm G.hK h4)
      (fun s H C cl fp => sound_to cond _ ifs (G.blk s H sc2 _ fp) h6) fun s H C cl fp => sound_e elt _ x (G.blk s H sc2 _ fp) h7
  | .lc2 vs vs1 elt tg it cond tg1 it1 cond1, X, py, G, h => by
    obtain ⟨x, gg, i, ifs, g1, i1, ifs1, sc2, p, rfl, h1, h2, h3, h4, h5, h6, h7, h8, h9, h10, h11, h12, h13⟩ := inv_lc2 h
    exact r_lc2 G (sound_i it X gg i G h2) h3 h8 h1 h5 h10 h11 (fun s H C cl fp => sound_g (X := X.blk s H sc2 (compEnvC sc2 cl C X.env) fp) G.nd tg gg G.calm G.hK h4)
      (fun s H C cl fp => sound_to cond _ ifs (G.blk s H sc2 _ fp) h6) (fun s H C cl fp => sound_i it1 _ g1 i1 (G.blk s H sc2 _ fp) h7)
      (fun s H C cl fp => sound_g (X := X.blk s H sc2 (compEnvC sc2 cl C X.env) fp) G.nd tg1 g1 G.calm G.hK h9) (fun s H C cl fp => sound_to cond1 _ ifs1 (G.blk s H sc2 _ fp) h12) fun s H C cl fp => sound_e elt _ x (G.blk s H sc2 _ fp) h13
theorem sound_l : ∀ (es : EL) (X : Cx) (xs : List PySem.Expr), Good X c g fs → chkL fs X.N X.env.scope es xs = true → PA X xs (mL c fun ρ => evL g es ρ)
  | .nil, X, xs, G, h => by
    cases xs with
    | nil => exact r_nil
    | cons _ _ => simp [chkL] at h
  | .cons e es, X, xs, G, h => by
    cases xs with
    | nil => simp [chkL] at h
    | cons x xs =>
      simp only [chkL, Bool.and_eq_true] at h
      exact r_consL (sound_e e X x G h.1.1) (sound_l es X xs G h.2) h.1.2
theorem sound_and : ∀ (es : EL) (X : Cx) (xs : List PySem.Expr) (p : Pos), Good X c g fs → chkB fs X.N X.env.scope es xs = true → PE X (.BoolOp .And xs p) (mE c fun ρ => evAnd g es ρ)
  | .nil, X, xs, p, G, h => by simp [chkB] at h
  | .cons e .nil, X, xs, p, G, h => by
    cases xs with
    | nil => simp [chkB] at h
    | cons x xs =>
      cases xs with
      | nil =>
        simp only [chkB] at h
        exact r_one (sound_e e X x G h)
      | cons _ _ => simp [chkB] at h
  | .cons e (.cons e2 es), X, xs, p, G, h => by
    cases xs with
    | nil => simp [chkB] at h
    | cons x xs =>
      cases xs with
      | nil => simp [chkB] at h
      | cons y ys =>
        simp only [chkB, Bool.and_eq_true] at h
        exact r_and (sound_e e X x G h.1) (sound_and (.cons e2 es) X (y :: ys) p G h.2)
theorem sound_or : ∀ (es : EL) (X : Cx) (xs : List PySem.Expr) (p : Pos), Good X c g fs → chkB fs X.N X.env.scope es xs = true → PE X (.BoolOp .Or xs p) (mE c fun ρ => evOr g es ρ)
  | .nil, X, xs, p, G, h => by simp [chkB] at h
  | .cons e .nil, X, xs, p, G, h => by
    cases xs with
    | nil => simp [chkB] at h
    | cons x xs =>
      cases xs with
      | nil =>
        simp only [chkB] at h
        exact r_one (sound_e e X x G h)
      | cons _ _ => simp [chkB] at h
  | .cons e (.cons e2 es), X, xs, p, G, h => by
    cases xs with
    | nil => simp [chkB] at h
    | cons x xs =>
      cases xs with
      | nil => simp [chkB] at h
      | cons y ys =>
        simp only [chkB, Bool.and_eq_true] at h
        exact r_or (sound_e e X x G h.1) (sound_or (.cons e2 es) X (y :: ys) p G h.2)
theorem sound_o : ∀ (e : EO) (X : Cx) (x : Option PySem.Expr), Good X c g fs → chkO fs X.N X.env.scope e x = true → PO X x (mO c fun ρ => evO g e ρ)
  | .no, X, x, G, h => by
    cases x with
    | none => exact ro_no
    | some _ => simp [chkO] at h
  | .so e, X, x, G, h => by
    cases x with
    | none => simp [chkO] at h
    | some x =>
      simp only [chkO] at h
      exact ro_so (sound_e e X x G h)
theorem sound_t : ∀ (t : T) (X : Cx) (py : PySem.Expr), Good X c g fs → chkT fs X.N X.env.scope t py = true → PT X py (mT c fun ρ => evT g t ρ)
  | .cmp op a b, X, py, G, h => by
    obtain ⟨x, q, y, p, rfl, h1, h2, h3, h4⟩ := inv_tcmp h
    exact rt_cmp G h1 (sound_e a X x G h2) (sound_e b X y G h3) h4
  | .chn op op2 a b d, X, py, G, h => by
    obtain ⟨x, q, q2, y, z, p, rfl, h1, h2, h3, h4, h5, h6, h7⟩ := inv_tchn h
    exact rt_chn G h1 h2 (sound_e a X x G h3) (sound_e b X y G h4) (sound_e d X z G h5) h7
  | .and ts, X, py, G, h => by
    obtain ⟨xs, p, rfl, h1⟩ := inv_tand h
    exact (sound_ta ts X xs p G h1).pt
  | .or ts, X, py, G, h => by
    obtain ⟨xs, p, rfl, h1⟩ := inv_tor h
    exact (sound_tr ts X xs p G h1).pt
  | .not t, X, py, G, h => by
    obtain ⟨x, p, rfl, h1⟩ := inv_tnot h
    exact rt_not (sound_t t X x G h1)
  | .val e, X, py, G, h => by
    obtain ⟨h1, h2⟩ := inv_val h
    exact rt_val (sound_e e X py G h2) h1
theorem sound_ta : ∀ (ts : TL) (X : Cx) (xs : List PySem.Expr) (p : Pos), Good X c g fs → chkTL fs X.N X.env.scope ts xs = true → PW X (.BoolOp .And xs p) (mT c fun ρ => evTA g ts ρ)
  | .nil, X, xs, p, G, h => by simp [chkTL] at h
  | .cons e .nil, X, xs, p, G, h => by
    cases xs with
    | nil => simp [chkTL] at h
    | cons x xs =>
      cases xs with
      | nil =>
        simp only [chkTL] at h
        exact rt_one (sound_t e X x G h)
      | cons _ _ => simp [chkTL] at h
  | .cons e (.cons e2 es), X, xs, p, G, h => by
    cases xs with
    | nil => simp [chkTL] at h
    | cons x xs =>
      cases xs with
      | nil => simp [chkTL] at h
      | cons y ys =>
        simp only [chkTL, Bool.and_eq_true] at h
        exact rt_and (sound_t e X x G h.1) (sound_ta (.cons e2 es) X (y :: ys) p G h.2)
theorem sound_tr : ∀ (ts : TL) (X : Cx) (xs : List PySem.Expr) (p : Pos), Good X c g fs → chkTL fs X.N X.env.scope ts xs = true → PW X (.BoolOp .Or xs p) (mT c fun ρ => evTR g ts ρ)
  | .nil, X, xs, p, G, h => by simp [chkTL] at h
  | .cons e .nil, X, xs, p, G, h => by
    cases xs with
    | nil => simp [chkTL] at h
    | cons x xs =>
      cases xs with
      | nil =>
        simp only [chkTL] at h
        exact rt_oneO (sound_t e X x G h)
      | cons _ _ => simp [chkTL] at h
  | .cons e (.cons e2 es), X, xs, p, G, h => by
    cases xs with
    | nil => simp [chkTL] at h
    | cons x xs =>
      cases xs with
      | nil => simp [chkTL] at h
      | cons y ys =>
        simp only [chkTL, Bool.and_eq_true] at h
        exact rt_or (sound_t e X x G h.1) (sound_tr (.cons e2 es) X (y :: ys) p G h.2)
theorem sound_to : ∀ (t : TO) (X : Cx) (xs : List PySem.Expr), Good X c g fs → chkTO fs X.N X.env.scope t xs = true → PTs X xs (mT c fun ρ => evTO g t ρ)
  | .no, X, xs, G, h => by
    cases xs with
    | nil =>
      refine PTs.weak pts_nil fun σ H Q q => ?_
      obtain ⟨F0, H0, F, ρ, t, r, t', S, e, p⟩ := q
      cases e
      exact p F H S.refl S.tp
    | cons _ _ => simp [chkTO] at h
  | .so t, X, xs, G, h => by
    cases xs with
    | nil => simp [chkTO] at h
    | cons x xs =>
      cases xs with
      | nil =>
        simp only [chkTO] at h
        exact pts_one (sound_t t X x G h)
      | cons _ _ => simp [chkTO] at h
theorem sound_i : ∀ (it : It) (X : Cx) (tg py : PySem.Expr), Good X c g fs → chkI fs X.N X.env.scope it tg py = true → PI X tg py (mI c fun ρ => evI g it ρ)
  | .seq e, X, tg, py, G, h => by
    simp only [chkI] at h
    exact r_seq G (sound_e e X py G h)
  | .rng1 a, X, tg, py, G, h => by
    unfold chkI at h
    split at h <;> rename_i q <;> first | (cases h; done) | (cases q; done) | skip
    injection q with q1
    subst q1
    simp only [Bool.and_eq_true, decide_eq_true_eq] at h
    obtain ⟨⟨⟨rfl, h2⟩, h3⟩, h4⟩ := h
    exact r_rng1 G h2 (sound_e a X _ G h3) h4
  | .rng2 a b, X, tg, py, G, h => by
    unfold chkI at h
    split at h <;> rename_i q <;> first | (cases h; done) | (cases q; done) | skip
    injection q with q1 q2
    subst q1 q2
    simp only [Bool.and_eq_true, decide_eq_true_eq] at h
    obtain ⟨⟨⟨⟨⟨rfl, h2⟩, h3⟩, h4⟩, h5⟩, h6⟩ := h
    exact r_rng2 G h2 (sound_e a X _ G h3) h4 (sound_e b X _ G h5) h6
  | .zip a b, X, tg, py, G, h => by
    unfold chkI at h
    split at h <;> rename_i q <;> first | (cases h; done) | (cases q; done) | skip
    injection q with q1 q2
    subst q1 q2
    simp only [Bool.and_eq_true, decide_eq_true_eq] at h
    obtain ⟨⟨⟨⟨⟨rfl, h2⟩, h3⟩, h4⟩, h5⟩, h6⟩ := h
    exact r_zip G h2 (sound_e a X _ G h3) h4 (sound_e b X _ G h5) h6
end
end
end Q
namespace Q
open PySem PySem.Spec PyProof.Rows L2 RZ
/-! ### statements -/
def PostS (c : Pm) (F0 H0 F : Hp) (Dn : Ends) (fl : Fl) (t : Nat) : Prop := match fl with
  | .nx ρ' => ∀ σ' F' H', Ext F F' → SR c F0 H0 F' H' σ' ρ' t → Dn.nx σ' H'
  | .bk ρ' => ∀ σ' F' H', Ext F F' → SR c F0 H0 F' H' σ' ρ' t → Dn.bk σ' H'
  | .ct ρ' => ∀ σ' F' H', Ext F F' → SR c F0 H0 F' H' σ' ρ' t → Dn.ct σ' H'
  | .rt r => ∀ v F' H', Ext F F' → Grow c F0 H0 F' H' → Tape c F' H' t → RR c H0 F' H' v r → Dn.rt v H'
def mS (c : Pm) (m : Env → M Fl) : TS := fun Dn σ H => ∃ F0 H0 F ρ t fl t', SR c F0 H0 F H σ ρ t ∧ m ρ t = some (fl, t') ∧ PostS c F0 H0 F Dn fl t'
theorem PostS.on {c : Pm} {F0 H0 F F' : Hp} {Dn : Ends} {fl : Fl} {t : Nat} (p : PostS c F0 H0 F Dn fl t) (x : Ext F F') : PostS c F0 H0 F' Dn fl t := by
  cases fl with
  | nx ρ => exact fun σ' F2 H2 x2 S => p σ' F2 H2 (x.trans x2) S
  | bk ρ => exact fun σ' F2 H2 x2 S => p σ' F2 H2 (x.trans x2) S
  | ct ρ => exact fun σ' F2 H2 x2 S => p σ' F2 H2 (x.trans x2) S
  | rt r => exact fun v F2 H2 x2 g tp rr => p v F2 H2 (x.trans x2) g tp rr
structure GoodS (X : Cx) (c : Pm) (g : Gl) (fs : List Str) : Prop extends Good X c g fs where
  hfn : X.fn = fun _ => true
  kd : X.env.scope.kind = .function
section
variable {X : Cx} {c : Pm} {g : Gl} {fs : List Str}
variable {F0 H0 F H F' H' Hs F1 H1 : Hp} {σ : L2.St} {ρ : Env} {t t' t1 t2 : Nat} {v : V} {x : R}
variable {a b d : PySem.Expr} {ma mb md : Env → M R} {pos : Pos} {es : List PySem.Expr} {ml : Env → M (List R)} {mt : Env → M Bool}
/-- a list of one's own is changed -/
theorem SR.own {i : Nat} {xs : List D} (S : SR c F0 H0 F H σ ρ t) (e : ρ[i]? = some (.ow (.list xs))) : ∃ a vs, σ[i]? = some (some (.ref a)) ∧ H a = some (.lst vs) ∧ RepL c F vs xs ∧ H0 a = none ∧ F a = none ∧
    ∀ vs' xs', RepL c F vs' xs' → SR c F0 H0 F (upd H a (.lst vs')) σ (ρ.set i (.ow (.list xs'))) t := by
  obtain ⟨a, e1, n, f, vs, h, r⟩ := S.sl i _ e
  refine ⟨a, vs, e1, h, r, n, f, fun vs' xs' r' => ?_⟩
  have hT : Top c F H a (.list xs) := ⟨vs, h, r⟩
  have hl : i < ρ.length := (List.getElem?_eq_some_iff.mp e).1
  refine ⟨S.g.mut n f, S.tp.mut (hT.ne S.tp), by rw [List.length_set]; exact S.len, fun j s e2 => ?_, fun j k d d' nn e2 e3 => ?_⟩
  · by_cases z : i = j
    · subst z
      rw [List.getElem?_set_self hl] at e2
      cases e2
      exact ⟨a, e1, n, f, vs', upd_same, r'⟩
    · rw [List.getElem?_set_ne z] at e2
      have h2 := S.sl j s e2
      cases s with
      | un => trivial
      | sh d => exact h2
      | ow d =>
        obtain ⟨a2, q1, q2, q3, q4⟩ := h2
        have na : a2 ≠ a := fun w => S.ap i j _ _ z e e2 (by rw [e1, q1, w])
        refine ⟨a2, q1, q2, q3, ?_⟩
        cases d <;> first | exact q4 | skip
        · obtain ⟨ws, w1, w2⟩ := q4
          exact ⟨ws, by rw [upd_ne na]; exact w1, w2⟩
        · obtain ⟨m, ws, w1, w2⟩ := q4
          exact ⟨m, ws, by rw [upd_ne na]; exact w1, w2⟩
      | ro d =>
        obtain ⟨a2, ws, ds, q1, q2, q3, q4⟩ := h2
        refine ⟨a2, ws, ds, q1, q2, ?_, q4⟩
        rcases q3 with ⟨ob, q3⟩ | q3
        · refine .inl ⟨ob, ?_⟩
          have na : a2 ≠ a := fun w => by
            rw [w, h] at q3
            cases q3
          rw [upd_ne na]
          exact q3
        · exact .inr q3
  · have ow_of : ∀ (j : Nat) (d : D), (ρ.set i (.ow (.list xs')))[j]? = some (.ow d) → ∃ d', ρ[j]? = some (.ow d') := fun j d e => by
      by_cases z : i = j
      · subst z
        exact ⟨_, ‹ρ[i]? = some (.ow (.list xs))›⟩
      · rw [List.getElem?_set_ne z] at e
        exact ⟨_, e⟩
    obtain ⟨_, w1⟩ := ow_of j d e2
    obtain ⟨_, w2⟩ := ow_of k d' e3
    exact S.ap j k _ _ nn w1 w2
theorem SR.frz {i : Nat} (S : SR c F0 H0 F H σ ρ t) : ∃ F', Ext F F' ∧ SR c F0 H0 F' H σ (frzE ρ i) t := by
  unfold frzE
  split
  · rename_i d e
    obtain ⟨a, e1, n, f, r⟩ := S.sl i _ e
    have hl : i < ρ.length := (List.getElem?_eq_some_iff.mp e).1
    have x := frz1_ext (H := H) f
    refine ⟨frz1 F H a, x, S.g.frz f n, S.tp.frz f (r.ne S.tp), by rw [List.length_set]; exact S.len, fun j s e2 => ?_, fun j k d d' nn e2 e3 => ?_⟩
    · by_cases z : i = j
      · subst z
        rw [List.getElem?_set_self hl] at e2
        cases e2
        exact ⟨_, e1, r.rep f⟩
      · rw [List.getElem?_set_ne z] at e2
        have h2 := S.sl j s e2
        cases s with
        | un => trivial
        | sh d =>
          obtain ⟨v, q1, q2⟩ := h2
          exact ⟨v, q1, q2.mono x⟩
        | ow d =>
          obtain ⟨a2, q1, q2, q3, q4⟩ := h2
          have na : a2 ≠ a := fun w => S.ap i j _ _ z e e2 (by rw [e1, q1, w])
          refine ⟨a2, q1, q2, ?_, q4.monoF x⟩
          unfold frz1
          rw [if_neg na]
          exact q3
        | ro d =>
          obtain ⟨a2, ws, ds, q1, q2, q3, q4⟩ := h2
          exact ⟨a2, ws, ds, q1, q2, q3, q4.mono x⟩
    · have n1 : i ≠ j := fun z => by
        subst z
        rw [List.getElem?_set_self hl] at e2
        cases e2
      have n2 : i ≠ k := fun z => by
        subst z
        rw [List.getElem?_set_self hl] at e3
        cases e3
      rw [List.getElem?_set_ne n1] at e2
      rw [List.getElem?_set_ne n2] at e3
      exact S.ap j k d d' nn e2 e3
  · exact ⟨F, Ext.refl _, S⟩
/-- a result is stored to a name -/
theorem SR.setR {i : Nat} {r : R} {ρ' : Env} (S : SR c F0 H0 F H σ ρ t) (h : RR c Hs F H v r) (b : ∀ a, Hs a = none → H0 a = none) (ow : ∀ (j : Nat) (d : D) (a : Addr), ρ[j]? = some (Sl.ow d) → σ[j]? = some (some (V.ref a)) → r.kd = .fr → v ≠ .ref a)
    (e : store (.nm i) r ρ = some ρ') : SR c F0 H0 F H (σ.set i (some v)) ρ' t := by
  obtain ⟨kd, d⟩ := r
  cases kd
  · have e : some (ρ.set i (.sh d)) = some ρ' := e
    cases e
    exact S.setSh h
  · have e : some (ρ.set i (.ow d)) = some ρ' := e
    cases e
    obtain ⟨a, rfl, n, f, hT⟩ := h
    exact S.set ⟨a, rfl, b a n, f, hT⟩ fun d' _ j d'' nj ej q => ow j d'' a ej q rfl rfl
  · cases e
  · cases e
/-- one's own lists are older than what is new -/
theorem SR.older (S : SR c F0 H0 F1 H1 σ ρ t) (S2 : SR c F0 H0 F H σ ρ t') (h : RR c H1 F H v x) : ∀ (j : Nat) (d : D) (a : Addr), ρ[j]? = some (Sl.ow d) → σ[j]? = some (some (V.ref a)) → x.kd = .fr → v ≠ .ref a := fun j d a e1 e2 k z => by
  unfold RR at h
  rw [k] at h
  obtain ⟨a', e3, n, _⟩ := h
  obtain ⟨a2, q1, _, _, q4⟩ := S.sl j _ e1
  obtain ⟨o, ho⟩ := q4.at
  rw [q1] at e2
  cases e2
  rw [z] at e3
  cases e3
  rw [n] at ho
  cases ho
theorem swaps_no {e : PySem.Expr} {tg : Option PySem.Expr} {l : Nat} {env : PySem.Env} (h : noComp e = true) : swapsWith e tg l env = pure false := by
  cases e <;> first | rfl | cases h
theorem swaps_notName {e tg : PySem.Expr} {l : Nat} {env : PySem.Env} (h : isNm tg = false) : swapsWith e (some tg) l env = pure false := by
  cases e <;> first | rfl | (cases tg <;> first | rfl | cases h)
theorem stores_no {tg e : PySem.Expr} {env : PySem.Env} (h : (isNm tg || !isTup e) = true) : swappedStores [tg] e env = pure none := by
  cases tg <;> first | rfl | (cases e <;> first | rfl | cases h)
theorem block_fn (G : GoodS X c g fs) : X.env.blockKind = .function := by
  unfold PySem.Env.blockKind
  rw [G.kd]
  rfl
theorem r_asg (G : GoodS X c g fs) {tg : Tg} {pg e : PySem.Expr} (hg : chkG X.N X.env.scope (fun _ => true) tg pg = true) (he : PE X e (mE c ma)) (hn : (isNm pg || !isTup e) = true) (hs : swapsWith e (some pg) pos.line X.env = pure false) :
    PS X (.Assign [pg] e pos) (mS c fun ρ => bnd (ma ρ) fun r => bnd (opt (store tg r ρ)) fun ρ' => ret (.nx ρ')) := by
  have hfn := G.hfn
  cases tg with
  | nm i =>
    cases pg <;> first | (simp [chkG] at hg; done) | skip
    rename_i x p
    simp only [chkG, Bool.and_eq_true, Bool.or_eq_true, decide_eq_true_eq, locl, celd, and_true] at hg
    refine PS.weak (ps_set G.nd hg.1 (show Loc X.env.scope x from hg.2) he hs (.inl (by rw [hfn]))) fun Dn σ H q => ?_
    obtain ⟨F0, H0, F, ρ, t, r, t', S, e, p⟩ := q
    obtain ⟨x, t1, e1, e⟩ := bnd_some e
    obtain ⟨ρ', e2, e⟩ := opt_bnd e
    cases e
    exact one S e1 fun v F1 H1 gr tp S1 r1 => p _ F1 H1 gr.ex (S1.setR r1 (fun a n => S.g.back a n) (S.older S1 r1) e2)
  | tp ts =>
    cases pg <;> first | (simp [chkG] at hg; done) | skip
    rename_i es k p
    refine PS.weak (ps_asg he (sound_g (X := X) (c := c) G.nd (.tp ts) _ G.calm G.hK (by rw [hfn]; exact hg)) hs (stores_no hn)) fun Dn σ H q => ?_
    obtain ⟨F0, H0, F, ρ, t, r, t', S, e, p⟩ := q
    obtain ⟨x, t1, e1, e⟩ := bnd_some e
    obtain ⟨ρ', e2, e⟩ := opt_bnd e
    cases e
    refine one S e1 fun v F1 H1 gr tp S1 r1 => ?_
    obtain ⟨d, e3, e4⟩ : ∃ d, shared x = some d ∧ bind1 (.tp ts) d ρ = some ρ' := by
      unfold store at e2
      exact Option.bind_eq_some_iff.mp e2
    obtain ⟨F2, g2, tp2, r2, x2, _, k2⟩ := r1.share e3 gr tp
    have S2 := S.grow g2 tp2
    exact ⟨F0, H0, F2, ρ, _, d, ρ', S2, r2, e4, fun σ' S' _ => p σ' F2 H1 g2.ex S'⟩
theorem r_asgLc (G : GoodS X c g fs) {i : Nat} {y : Str} {py : Pos} {scope : Scope} {pos spos : Pos} {elt tg iter : PySem.Expr} {ifs : List PySem.Expr} {te : TE}
    (hr : ∀ (_ : X.N[i]? = some y) (_ : X.env.scope.names.lookup y = some .local), PS X (.Assign [.Name y py] (.ListComp elt [⟨tg, iter, ifs, 0⟩] scope pos) spos) (tAsg te (gName i)))
    (wk : ∀ σ H Q, mE c ma σ H Q → te σ H Q) (hy : X.N[i]? = some y) (hyl : X.env.scope.names.lookup y = some .local) :
    PS X (.Assign [.Name y py] (.ListComp elt [⟨tg, iter, ifs, 0⟩] scope pos) spos) (mS c fun ρ => bnd (ma ρ) fun r => bnd (opt (store (.nm i) r ρ)) fun ρ' => ret (.nx ρ')) := by
  refine PS.weak (hr hy hyl) fun Dn σ H q => ?_
  obtain ⟨F0, H0, F, ρ, t, r, t', S, e, p⟩ := q
  obtain ⟨x, t1, e1, e⟩ := bnd_some e
  obtain ⟨ρ', e2, e⟩ := opt_bnd e
  cases e
  exact wk _ _ _ (one S e1 fun v F1 H1 gr tp S1 r1 => p _ F1 H1 gr.ex (S1.setR r1 (fun a n => S.g.back a n) (S.older S1 r1) e2))
end
end Q
namespace Q
open PySem PySem.Spec PyProof.Rows L2 RZ
section
variable {X : Cx} {c : Pm} {g : Gl} {fs : List Str}
variable {F0 H0 F H F' H' Hs F1 H1 : Hp} {σ : L2.St} {ρ : Env} {t t' t1 t2 : Nat} {v : V} {x : R}
variable {a b d : PySem.Expr} {ma mb md : Env → M R} {pos : Pos} {es : List PySem.Expr} {ml : Env → M (List R)} {mt : Env → M Bool}
theorem pe_slot {i : Nat} {e : PySem.Expr} (h : chkN X.N X.env.scope i e = true) : PE X e (tVar i) := by
  cases e <;> first | cases h | skip
  rename_i x pos
  simp only [chkN, Bool.and_eq_true, decide_eq_true_eq, Bool.not_eq_true'] at h
  obtain ⟨⟨⟨h1, h2⟩, h3⟩, h4⟩ := h
  have hv : Vis X.env.scope x := by
    unfold vis at h2
    unfold Vis
    split at h2
    · rename_i q; exact .inl q
    · rename_i q; exact .inr (.inl q)
    · rename_i q; exact .inr (.inr q)
    · cases h2
  exact pe_var h1 hv h3 h4
theorem assign_sub {o i : PySem.Expr} {p : Pos} {env : PySem.Env} {v : Value} (h : noSlice i = true) : assign (.Subscript o i p) env v = (do
    let ov ← holding [v] (eval o env)
    let iv ← holding [v, ov] (eval i env)
    standAt p
    holding [v, ov, iv] (setItem ov iv v)
    release [v, ov, iv] []) := by
  cases i <;> first | rfl | cases h
/-- new ones are none of the names' own -/
def Apart (σ : L2.St) (ρ : Env) (vs : List V) (rs : List R) : Prop := ∀ (j : Nat) (d : D) (a : Addr), ρ[j]? = some (Sl.ow d) → σ[j]? = some (some (V.ref a)) → ∀ (i : Nat) (u : V) (q : R), vs[i]? = some u → rs[i]? = some q → q.kd = .fr → u ≠ .ref a
theorem Apart.tail {v : V} {vs : List V} {r : R} {rs : List R} (h : Apart σ ρ (v :: vs) (r :: rs)) : Apart σ ρ vs rs := fun j d a e1 e2 i u q e3 e4 k => h j d a e1 e2 (i + 1) u q (by simpa using e3) (by simpa using e4) k
theorem RRL.apart (S : SR c F0 H0 F1 H1 σ ρ t) {vs : List V} {rs : List R} (h : RRL c H1 F H vs rs) : Apart σ ρ vs rs := fun j d a e1 e2 i u q e3 e4 k z => by
  have r := h.get e3 e4
  unfold RR at r
  rw [k] at r
  obtain ⟨a', e5, n, _⟩ := r
  obtain ⟨a2, q1, _, _, q4⟩ := S.sl j _ e1
  obtain ⟨o, ho⟩ := q4.at
  rw [q1] at e2
  cases e2
  rw [z] at e5
  cases e5
  rw [n] at ho
  cases ho
/-- rows of results that may be stored -/
theorem RRL.frz {a : Addr} (f : F a = none) : ∀ {vs : List V} {rs : List R}, RRL c Hs F H vs rs → (∀ (i : Nat) (u : V) (q : R), vs[i]? = some u → rs[i]? = some q → q.kd = .fr → u ≠ .ref a) → (∀ r ∈ rs, (shared r).isSome = true) → RRL c Hs (frz1 F H a) H vs rs
  | _, _, .nil, _, _ => .nil
  | v :: vs, r :: rs, .cons h hs hd, k, sh => by
    refine .cons ?_ (RRL.frz f hs (fun i u q e1 e2 e3 => k (i + 1) u q (by simpa using e1) (by simpa using e2) e3) fun r hr => sh r (List.mem_cons_of_mem _ hr)) hd
    obtain ⟨d, hd'⟩ := Option.isSome_iff_exists.mp (sh r List.mem_cons_self)
    obtain ⟨_, kk⟩ := shared_sh hd'
    unfold RR at h ⊢
    rcases kk with kk | kk <;> rw [kk] at h ⊢
    · exact Rep.mono (frz1_ext f) h
    · obtain ⟨a', e1, n, f', hT⟩ := h
      have na : a' ≠ a := fun z => k 0 v r rfl rfl kk (by rw [e1, z])
      refine ⟨a', e1, n, ?_, hT.monoF (frz1_ext f)⟩
      unfold frz1
      rw [if_neg na]
      exact f'
theorem RRL.mutd {a : Addr} {o : HO} (f : F a = none) : ∀ {vs : List V} {rs : List R}, RRL c Hs F H vs rs → (∀ (i : Nat) (u : V) (q : R), vs[i]? = some u → rs[i]? = some q → q.kd = .fr → u ≠ .ref a) → (∀ r ∈ rs, (shared r).isSome = true) → RRL c Hs F (upd H a o) vs rs
  | _, _, .nil, _, _ => .nil
  | v :: vs, r :: rs, .cons h hs hd, k, sh => by
    refine .cons ?_ (RRL.mutd f hs (fun i u q e1 e2 e3 => k (i + 1) u q (by simpa using e1) (by simpa using e2) e3) fun r hr => sh r (List.mem_cons_of_mem _ hr)) hd
    obtain ⟨d, hd'⟩ := Option.isSome_iff_exists.mp (sh r List.mem_cons_self)
    obtain ⟨_, kk⟩ := shared_sh hd'
    unfold RR at h ⊢
    rcases kk with kk | kk <;> rw [kk] at h ⊢
    · exact h
    · obtain ⟨a', e1, n, f', hT⟩ := h
      have na : a' ≠ a := fun z => k 0 v r rfl rfl kk (by rw [e1, z])
      refine ⟨a', e1, n, f', ?_⟩
      cases hr : r.d <;> rw [hr] at hT <;> first | exact hT | skip
      · obtain ⟨ws, w1, w2⟩ := hT
        exact ⟨ws, by rw [upd_ne na]; exact w1, w2⟩
      · obtain ⟨m, ws, w1, w2⟩ := hT
        exact ⟨m, ws, by rw [upd_ne na]; exact w1, w2⟩
theorem putD_some {i : Nat} {k y : D} {ρ' : Env} (h : putD ρ i k y = some ρ') : ∃ xs j n, ρ[i]? = some (.ow (.list xs)) ∧ k = .int j ∧ ixN xs.length j = some n ∧ ρ' = ρ.set i (.ow (.list (xs.set n y))) := by
  unfold putD at h
  split at h
  · rename_i xs j e1
    obtain ⟨n, e2, e3⟩ := Option.map_eq_some_iff.mp h
    exact ⟨xs, j, n, e1, rfl, e2, e3.symm⟩
  · cases h
theorem getS_ow {i : Nat} {d : D} (h : ρ[i]? = some (.ow d)) : getS ρ i = some ⟨.pk, d⟩ := by
  unfold getS
  rw [h]
def mTs (c : Pm) (g : Gl) (ts : List Tt) : TGs := fun vs σ H Q => ∃ F0 H0 F Hs ρ t rs ρ' t', SR c F0 H0 F H σ ρ t ∧ RRL c Hs F H vs rs ∧ (∀ a, H a = none → Hs a = none) ∧ (∀ a, Hs a = none → H0 a = none) ∧ Apart σ ρ vs rs ∧ (∀ r ∈ rs, (shared r).isSome = true) ∧ storesM g ts rs ρ t = some (ρ', t') ∧
  ∀ σ' F' H', Ext F F' → SR c F0 H0 F' H' σ' ρ' t' → Q σ' H'
theorem store_tp {ts : List Tg} {r : R} {ρ' : Env} (h : RR c Hs F H v r) (e : store (.tp ts) r ρ = some ρ') : Rep c F v r.d ∧ bind1 (.tp ts) r.d ρ = some ρ' := by
  unfold store at e
  obtain ⟨d, e1, e2⟩ := Option.bind_eq_some_iff.mp e
  obtain ⟨ed, k⟩ := shared_sh e1
  subst ed
  refine ⟨?_, e2⟩
  cases hd : r.d <;> rw [hd] at e2 <;> first | (simp [bind1] at e2; done) | skip
  exact h.tup hd
theorem Apart.grow {vs : List V} {rs : List R} {σ' : L2.St} {ρ' : Env} (h : Apart σ ρ vs rs) (k : ∀ (j : Nat) (d : D) (a : Addr), ρ'[j]? = some (Sl.ow d) → σ'[j]? = some (some (V.ref a)) → (∃ d', ρ[j]? = some (Sl.ow d') ∧ σ[j]? = some (some (V.ref a))) ∨ ∀ (i : Nat) (u : V) (q : R), vs[i]? = some u → rs[i]? = some q → q.kd = .fr → u ≠ .ref a) : Apart σ' ρ' vs rs := fun j d a e1 e2 => by
  rcases k j d a e1 e2 with ⟨d', w1, w2⟩ | w
  · exact h j d' a w1 w2
  · exact w
theorem tt_nil {vs : List V} {Q : L2.St → Hp → Prop} (q : mTs c g [] vs σ H Q) : vs = [] ∧ Q σ H := by
  obtain ⟨F0, H0, F, Hs, ρ, t, rs, ρ', t', S, r, b1, b2, ap, sh, e, p⟩ := q
  cases r with
  | nil =>
    have e : some (ρ, t) = some (ρ', t') := e
    cases e
    exact ⟨rfl, p _ F _ (Ext.refl _) S⟩
  | cons _ _ _ => cases e
theorem tt_nm {i : Nat} {ts : List Tt} {vs : List V} {Q : L2.St → Hp → Prop} (q : mTs c g (.tg (.nm i) :: ts) vs σ H Q) : ∃ v r, vs = v :: r ∧ mTs c g ts r (σ.set i (some v)) H Q := by
  obtain ⟨F0, H0, F, Hs, ρ, t, rs, ρ', t', S, r, b1, b2, ap, sh, e, p⟩ := q
  cases r with
  | nil => cases e
  | cons r rr hd =>
    rename_i v vs r1 rs
    obtain ⟨ρ1, e1, e⟩ := opt_bnd e
    have S1 := S.setR r b2 (fun j d a w1 w2 k => ap j d a w1 w2 0 v r1 rfl rfl k) e1
    refine ⟨_, _, rfl, F0, H0, F, Hs, ρ1, t, rs, ρ', t', S1, rr, b1, b2, ap.tail.grow fun j d a w1 w2 => ?_, fun r hr => sh r (List.mem_cons_of_mem _ hr), e, p⟩
    by_cases z : i = j
    · subst z
      obtain ⟨kd, dd⟩ := r1
      have hl : i < ρ1.length := (List.getElem?_eq_some_iff.mp w1).1
      cases kd
      · have e1 : some (ρ.set i (.sh dd)) = some ρ1 := e1
        cases e1
        rw [List.length_set] at hl
        rw [List.getElem?_set_self hl] at w1
        cases w1
      · have e1 : some (ρ.set i (.ow dd)) = some ρ1 := e1
        cases e1
        rw [List.length_set] at hl
        rw [List.getElem?_set_self (by rw [← S.len]; exact hl)] at w2
        have w2 : v = .ref a := by simpa using w2
        subst w2
        exact .inr (hd rfl)
      · cases e1
      · cases e1
    · left
      rw [List.getElem?_set_ne z] at w2
      obtain ⟨kd, dd⟩ := r1
      cases kd
      · have e1 : some (ρ.set i (.sh dd)) = some ρ1 := e1
        cases e1
        rw [List.getElem?_set_ne z] at w1
        exact ⟨d, w1, w2⟩
      · have e1 : some (ρ.set i (.ow dd)) = some ρ1 := e1
        cases e1
        rw [List.getElem?_set_ne z] at w1
        exact ⟨d, w1, w2⟩
      · cases e1
      · cases e1
theorem sound_tt (G : GoodS X c g fs) : ∀ (ts : List Tt) (es : List PySem.Expr), chkTt fs X.N X.env.scope ts es = true → PGs X es (mTs c g ts) ∧ (assignEach es X.env).length = ts.length ∧ (assignEach es X.env).findIdx? (·.1) = none
  | [], es, h => by
    cases es <;> first | (simp [chkTt] at h; done) | skip
    exact ⟨PGs.weak pgs_nil fun v σ H Q q => tt_nil q, rfl, rfl⟩
  | .tg (.nm i) :: ts, es, h => by
    cases es <;> first | (simp [chkTt] at h; done) | skip
    rename_i pe es
    simp only [chkTt, Bool.and_eq_true] at h
    obtain ⟨h2, h3, h4⟩ := sound_tt G ts es h.2
    have hg := h.1.1
    cases pe <;> first | (simp [chkG] at hg; done) | skip
    rename_i x p0
    simp only [chkG, Bool.and_eq_true, Bool.or_eq_true, decide_eq_true_eq, locl, celd, and_true] at hg
    refine ⟨PGs.weak (pgs_cons (pg_name G.nd hg.1 (show Loc X.env.scope x from hg.2) (.inl (by rw [G.hfn]))) h2 (by rw [assign_cons h.1.2]; rfl)) fun v σ H Q q => tt_nm q, by rw [assign_cons h.1.2, List.length_cons, List.length_cons, h3], ?_⟩
    rw [assign_cons h.1.2, List.findIdx?_cons]
    simp only [Bool.false_eq_true, if_false, h4, Option.map_none]
  | .tg (.tp tp) :: ts, es, h => by
    cases es <;> first | (simp [chkTt] at h; done) | skip
    rename_i pe es
    simp only [chkTt, Bool.and_eq_true] at h
    obtain ⟨h2, h3, h4⟩ := sound_tt G ts es h.2
    have hg := sound_g (X := X) (c := c) G.nd (.tp tp) pe G.calm G.hK (by rw [G.hfn]; exact h.1.1)
    refine ⟨PGs.weak (pgs_cons hg h2 (by rw [assign_cons h.1.2]; rfl)) fun v σ H Q q => ?_, by rw [assign_cons h.1.2, List.length_cons, List.length_cons, h3], ?_⟩
    · obtain ⟨F0, H0, F, Hs, ρ, t, rs, ρ', t', S, r, b1, b2, ap, sh, e, p⟩ := q
      cases r with
      | nil => cases e
      | cons r rr hd =>
        rename_i v vs r1 rs
        obtain ⟨ρ1, e1, e⟩ := opt_bnd e
        obtain ⟨q1, q2⟩ := store_tp r e1
        refine ⟨_, _, rfl, F0, H0, F, ρ, t, _, ρ1, S, q1, q2, fun σ1 S1 o1 => ⟨F0, H0, F, Hs, ρ1, t, rs, ρ', t', S1, rr, b1, b2, ap.tail.grow fun j d a w1 w2 => ?_, fun r hr => sh r (List.mem_cons_of_mem _ hr), e, p⟩⟩
        obtain ⟨z1, z2, z3⟩ := bind1_off _ _ _ _ q2
        have nj : j ∉ slotsT (.tp tp) := fun z => by
          obtain ⟨_, w⟩ := z3 j z _ w1
          cases w
        rw [z2 j nj] at w1
        rw [o1.2 j nj] at w2
        exact .inl ⟨d, w1, w2⟩
    · rw [assign_cons h.1.2, List.findIdx?_cons]
      simp only [Bool.false_eq_true, if_false, h4, Option.map_none]
  | .put i k :: ts, es, h => by
    cases es <;> first | (simp [chkTt] at h; done) | skip
    rename_i pe es
    cases pe <;> first | (simp [chkTt] at h; done) | skip
    rename_i px py pp
    simp only [chkTt, Bool.and_eq_true] at h
    obtain ⟨h2, h3, h4⟩ := sound_tt G ts es h.2
    have hs : noStar (.Subscript px py pp) = true := rfl
    refine ⟨PGs.weak (pgs_cons (pg_sub (pe_slot h.1.1.1) (sound_e k X py G.toGood h.1.1.2) set_list fun v => assign_sub h.1.2) h2 (by rw [assign_cons hs]; rfl)) fun v σ H Q q => ?_, by rw [assign_cons hs, List.length_cons, List.length_cons, h3], ?_⟩
    · obtain ⟨F0, H0, F, Hs, ρ, t, rs, ρ', t', S, r, b1, b2, ap, sh, e, p⟩ := q
      cases r with
      | nil => cases e
      | cons r rr hd =>
        rename_i v vs r1 rs
        obtain ⟨y, e1, e⟩ := opt_bnd e
        obtain ⟨x, t1, e2, e⟩ := bnd_some e
        obtain ⟨ρ1, e3, e⟩ := opt_bnd e
        obtain ⟨xs, j, n, e4, e5, e6, rfl⟩ := putD_some e3
        have shr : ∀ r ∈ rs, (shared r).isSome = true := fun r hr => sh r (List.mem_cons_of_mem _ hr)
        -- the value is made to stay
        obtain ⟨F2, x2, S2, rr2, r2⟩ : ∃ F2, Ext F F2 ∧ SR c F0 H0 F2 H σ ρ t ∧ RRL c Hs F2 H vs rs ∧ Rep c F2 v y := by
          obtain ⟨ed, kk⟩ := shared_sh e1
          subst ed
          unfold RR at r
          rcases kk with kk | kk <;> rw [kk] at r
          · exact ⟨F, Ext.refl _, S, rr, r⟩
          · obtain ⟨a', ea, n', f', hT⟩ := r
            have hne := hd kk
            subst ea
            have S2 : SR c F0 H0 (frz1 F H a') H σ ρ t := by
              refine ⟨S.g.frz f' (b2 a' n'), S.tp.frz f' (hT.ne S.tp), S.len, fun j s w => ?_, S.ap⟩
              have hsl := S.sl j s w
              have x := frz1_ext (H := H) f'
              cases s with
              | un => trivial
              | sh d =>
                obtain ⟨v, q1, q2⟩ := hsl
                exact ⟨v, q1, q2.mono x⟩
              | ow d =>
                obtain ⟨a2, q1, q2, q3, q4⟩ := hsl
                have na : a2 ≠ a' := fun z => ap j d a2 w q1 0 _ r1 rfl rfl kk (by rw [z])
                refine ⟨a2, q1, q2, ?_, q4.monoF x⟩
                unfold frz1
                rw [if_neg na]
                exact q3
              | ro d =>
                obtain ⟨a2, ws, ds, q1, q2, q3, q4⟩ := hsl
                exact ⟨a2, ws, ds, q1, q2, q3, q4.mono x⟩
            exact ⟨_, frz1_ext f', S2, rr.frz f' hne shr, hT.rep f'⟩
        obtain ⟨a0, _, w0, _⟩ := S2.own e4
        refine ⟨_, _, rfl, .ref a0, w0, ?_⟩
        refine one (Q := fun k H3 => rSetL (.ref a0) k v H3 fun H4 => mTs c g ts vs σ H4 Q) S2 e2 fun k F3 H3 gr tp S3 rk => ?_
        obtain ⟨a1, ws, w1, w2, w3, w4, w5, w6⟩ := S3.own e4
        rw [w0] at w1
        cases w1
        refine ⟨a0, ws, j, n, rfl, rk.int e5, w2, by rw [w3.length]; exact e6, ?_⟩
        have S4 := w6 (ws.set n v) (xs.set n y) (w3.set (r2.mono gr.ex) n)
        have rr3 := RRL.grow gr S2.tp rr2
        refine ⟨F0, H0, F3, Hs, _, _, rs, ρ', t', S4, rr3.mutd w5 (fun i' u q z1 z2 z3 => ap.tail i _ a0 e4 w0 i' u q z1 z2 z3) shr, fun b hb => ?_, b2, ap.tail.grow fun j' d a z1 z2 => ?_, shr, e, fun σ' F' H' x' S' => p σ' F' H' ((x2.trans gr.ex).trans x') S'⟩
        · by_cases z : b = a0
          · subst z
            rw [upd_same] at hb
            cases hb
          · rw [upd_ne z] at hb
            exact b1 b (gr.back b hb)
        · left
          by_cases z : i = j'
          · subst z
            exact ⟨_, e4, z2⟩
          · rw [List.getElem?_set_ne z] at z1
            exact ⟨d, z1, z2⟩
    · rw [assign_cons hs, List.findIdx?_cons]
      simp only [Bool.false_eq_true, if_false, h4, Option.map_none]
end
end Q
namespace Q
open PySem PySem.Spec PyProof.Rows L2 RZ
section
variable {X : Cx} {c : Pm} {g : Gl} {fs : List Str}
variable {F0 H0 F H F' H' Hs F1 H1 : Hp} {σ : L2.St} {ρ : Env} {t t' t1 t2 : Nat} {v : V} {x : R}
variable {a b d : PySem.Expr} {ma mb md : Env → M R} {pos : Pos} {es : List PySem.Expr} {ml : Env → M (List R)} {mt : Env → M Bool}
theorem nostar_any {vs : List PySem.Expr} (h : vs.all noStar = true) : (vs.any fun | .Starred .. => true | _ => false) = false := by
  induction vs with
  | nil => rfl
  | cons e es ih =>
    rw [List.all_cons, Bool.and_eq_true] at h
    rw [List.any_cons, ih h.2]
    have h1 := h.1
    cases e <;> first | rfl | cases h1
theorem swp_eq {ts vs : List PySem.Expr} {k k2 : Nat} {p p2 : Pos} {env : PySem.Env} (hb : env.blockKind = .function) (hst : (vs.any fun | .Starred .. => true | _ => false) = false) (hp : parN env.scope ts vs = true) :
    swappedStores [.Tuple ts k p] (.Tuple vs k2 p2) env = pure (swpN env.scope ts vs) := by
  unfold swappedStores
  simp only [hst, hb, bne_self_eq_false, Bool.or_false, Bool.false_eq_true, if_false]
  unfold parN at hp
  unfold swpN at hp ⊢
  by_cases h1 : (!(ts.length == 2 || ts.length == 3) || vs.length != ts.length) = true
  · rw [if_pos h1]; rw [if_pos h1]
  · rw [if_neg h1] at hp ⊢
    rw [if_neg h1]
    refine Eq.trans (if_neg (fun z => Bool.false_ne_true (hst.symm.trans z))) ?_
    change (if ((nmsOf env.scope ts).length != ts.length || (nmsOf env.scope ts).eraseDups.length != (nmsOf env.scope ts).length) = true then pure none else if vs.all (foldedForSure 8) = true then pure none else
      if vs.all (constantsAlone 8) = true then (do unsupported "assign.tuple-of-constant-expressions:order-of-the-stores"; pure (some (nmsOf env.scope ts))) else pure (some (nmsOf env.scope ts))) = _
    by_cases h2 : ((nmsOf env.scope ts).length != ts.length || (nmsOf env.scope ts).eraseDups.length != (nmsOf env.scope ts).length) = true
    · rw [if_pos h2, if_pos h2]
    · rw [if_neg h2] at hp ⊢
      rw [if_neg h2]
      by_cases h3 : vs.all (foldedForSure 8) = true
      · rw [if_pos h3, if_pos h3]
      · rw [if_neg h3] at hp ⊢
        rw [if_neg h3]
        have hp : (!vs.all (constantsAlone 8) && decide (nmsOf env.scope ts).Nodup) = true := hp
        rw [Bool.and_eq_true] at hp
        have h4 : vs.all (constantsAlone 8) = false := by simpa using hp.1
        rw [h4, if_neg (by decide)]
theorem nms_cons {sc : Scope} {l : Nat} {g : PySem.Expr} {gs : List PySem.Expr} (f : PySem.Expr → Option Str) (h : ((g :: gs).filterMap f).length = (g :: gs).length) : ∃ x, f g = some x ∧ (gs.filterMap f).length = gs.length := by
  cases q : f g with
  | none =>
    rw [List.filterMap_cons_none q] at h
    have := List.length_filterMap_le f gs
    rw [List.length_cons] at h
    omega
  | some x =>
    rw [List.filterMap_cons_some q] at h
    exact ⟨x, rfl, by simpa using h⟩
def nmF (sc : Scope) (l : Nat) : PySem.Expr → Option Str := fun
  | .Name id pos => if sc.names.lookup id == some .local && pos.line == l then some id else none
  | _ => none
theorem nmF_some {sc : Scope} {l : Nat} {g : PySem.Expr} {x : Str} (h : nmF sc l g = some x) : ∃ p, g = .Name x p ∧ sc.names.lookup x = some .local := by
  cases g <;> first | (simp [nmF] at h; done) | skip
  rename_i id p
  simp only [nmF] at h
  split at h
  · rename_i q
    cases h
    simp only [Bool.and_eq_true, beq_iff_eq] at q
    exact ⟨p, rfl, q.1⟩
  · cases h
theorem chkTt_nm {x : Str} {p : Pos} {ts : List Tt} {gs : List PySem.Expr} (h : chkTt fs X.N X.env.scope ts (.Name x p :: gs) = true) : ∃ i r, ts = .tg (.nm i) :: r ∧ X.N[i]? = some x ∧ chkTt fs X.N X.env.scope r gs = true := by
  cases ts with
  | nil => simp [chkTt] at h
  | cons t r =>
    cases t with
    | put i k => simp [chkTt] at h
    | tg t =>
      cases t with
      | tp ts => simp [chkTt, chkG] at h
      | nm i =>
        simp only [chkTt, chkG, Bool.and_eq_true, decide_eq_true_eq] at h
        exact ⟨i, r, rfl, h.1.1.1, h.2⟩
theorem slot_ne {i j : Nat} {x y : Str} (h1 : X.N[i]? = some x) (h2 : X.N[j]? = some y) (n : x ≠ y) : i ≠ j := fun z => by
  rw [z, h2] at h1
  cases h1
  exact n rfl
theorem storesM_len : ∀ {ts : List Tt} {rs : List R} {ρ : Env} {t : Nat} {r : Env × Nat}, storesM g ts rs ρ t = some r → rs.length = ts.length
  | [], [], _, _, _, _ => rfl
  | [], _ :: _, _, _, _, h => by cases h
  | .tg _ :: _, [], _, _, _, h => by cases h
  | .put _ _ :: _, [], _, _, _, h => by cases h
  | .tg tg :: ts, x :: rs, ρ, t, r, h => by
    obtain ⟨ρ1, _, e⟩ := opt_bnd h
    rw [List.length_cons, List.length_cons, storesM_len e]
  | .put i k :: ts, x :: rs, ρ, t, r, h => by
    obtain ⟨y, _, e⟩ := opt_bnd h
    obtain ⟨z, _, _, e⟩ := bnd_some e
    obtain ⟨ρ1, _, e⟩ := opt_bnd e
    rw [List.length_cons, List.length_cons, storesM_len e]
theorem tts_len {ts : List Tt} {vs : List V} {Q : L2.St → Hp → Prop} (q : mTs c g ts vs σ H Q) : vs.length = ts.length := by
  obtain ⟨F0, H0, F, Hs, ρ, t, rs, ρ', t', S, r, b1, b2, ap, sh, e, p⟩ := q
  rw [r.length, storesM_len e]
theorem mTs.laid {ts : List Tt} {vs : List V} {Q : L2.St → Hp → Prop} (q : mTs c g ts vs σ H Q) {a : Addr} {o : HO} (n : H a = none) : mTs c g ts vs σ (upd H a o) Q := by
  obtain ⟨F0, H0, F, Hs, ρ, t, rs, ρ', t', S, r, b1, b2, ap, sh, e, p⟩ := q
  have gr := S.refl.laid (o := o) n
  exact ⟨F0, H0, F, Hs, ρ, t, rs, ρ', t', S.grow gr (S.tp.laid n), RRL.grow gr S.tp r, fun b hb => b1 b (gr.back b hb), b2, ap, sh, e, p⟩
theorem chkTt_len : ∀ {ts : List Tt} {gs : List PySem.Expr}, chkTt fs X.N X.env.scope ts gs = true → ts.length = gs.length
  | [], [], _ => rfl
  | [], _ :: _, h => by simp [chkTt] at h
  | .tg _ :: _, [], h => by simp [chkTt] at h
  | .put _ _ :: _, [], h => by simp [chkTt] at h
  | .tg t :: ts, e :: es, h => by
    simp only [chkTt, Bool.and_eq_true] at h
    rw [List.length_cons, List.length_cons, chkTt_len h.2]
  | .put i k :: ts, e :: es, h => by
    cases e <;> first | (simp [chkTt] at h; done) | skip
    simp only [chkTt, Bool.and_eq_true] at h
    rw [List.length_cons, List.length_cons, chkTt_len h.2]
theorem r_par (G : GoodS X c g fs) {ts : List Tt} {gs xs : List PySem.Expr} {k k2 : Nat} {p p2 : Pos} (ht : chkTt fs X.N X.env.scope ts gs = true) (hx : PA X xs (mL c ml)) (hst : xs.all noStar = true) (hp : parN X.env.scope gs xs = true) (hf : fewT gs = true) :
    PS X (.Assign [.Tuple gs k p] (.Tuple xs k2 p2) pos) (mS c fun ρ => bnd (ml ρ) fun rs => if (rs.all fun r => (shared r).isSome) = false then fail else bnd (storesM g ts rs ρ) fun ρ' => ret (.nx ρ')) := by
  have wk : ∀ {σ : L2.St} {H : Hp} {Dn : Ends}, mS c (fun ρ => bnd (ml ρ) fun rs => if (rs.all fun r => (shared r).isSome) = false then fail else bnd (storesM g ts rs ρ) fun ρ' => ret (.nx ρ')) Dn σ H →
      mL c ml σ H fun vs H1 => mTs c g ts vs σ H1 Dn.nx := fun {σ H Dn} q => by
    obtain ⟨F0, H0, F, ρ, t, r, t', S, e, p⟩ := q
    obtain ⟨rs, t1, e1, e⟩ := bnd_some e
    split at e
    · cases e
    · rename_i hall
      obtain ⟨ρ', t2, e2, e⟩ := bnd_some e
      cases e
      exact oneL S e1 fun vs F1 H1 gr tp S1 r1 => ⟨F0, H0, F1, H, ρ, t1, rs, ρ', _, S1, r1, gr.back, S.g.back, RRL.apart S r1, List.all_eq_true.mp (by cases q : rs.all fun r => (shared r).isSome with | true => rfl | false => exact absurd q hall), e2, fun σ' F' H' x S' => p σ' F' H' (gr.ex.trans x) S'⟩
  have hw := swp_eq (k := k) (k2 := k2) (p := p) (p2 := p2) (block_fn G) (nostar_any hst) hp
  cases hsw : swpN X.env.scope gs xs with
  | none =>
    rw [hsw] at hw
    obtain ⟨h2, h3, h4⟩ := sound_tt (c := c) (g := g) G ts gs ht
    refine PS.weak (ps_asg (pe_tup hx) (pg_tup (n := ts.length) G.calm h2 h3 h4) (hw := hw)) fun Dn σ H q => ?_
    have q := wk q
    obtain ⟨F0, H0, F, ρ, t, r, t', S, e, pp⟩ := q
    refine oneL S e fun vs F1 H1 gr tp S1 r1 => ?_
    have pq := pp vs F1 H1 gr tp r1
    have hl : vs.length = ts.length := tts_len pq
    refine ⟨?_, fun a n => ⟨a, vs, rfl, .inl (.inl upd_same), hl, pq.laid n⟩⟩
    rw [hl, chkTt_len ht]
    exact Nat.le_trans (of_decide_eq_true hf) (by decide)
  | some names =>
    rw [hsw] at hw
    have hnd : names.Nodup := by
      unfold parN at hp
      rw [hsw] at hp
      simp only [Bool.and_eq_true, decide_eq_true_eq] at hp
      exact hp.2
    have e1 : ¬ (!(gs.length == 2 || gs.length == 3) || xs.length != gs.length) = true := fun z => by
      unfold swpN at hsw
      rw [if_pos z] at hsw
      cases hsw
    have e2 : ¬ ((nmsOf X.env.scope gs).length != gs.length || (nmsOf X.env.scope gs).eraseDups.length != (nmsOf X.env.scope gs).length) = true := fun z => by
      unfold swpN at hsw
      rw [if_neg e1, if_pos z] at hsw
      cases hsw
    have e3 : nmsOf X.env.scope gs = names := by
      unfold swpN at hsw
      rw [if_neg e1, if_neg e2] at hsw
      split at hsw
      · cases hsw
      · exact Option.some.inj hsw
    simp only [Bool.or_eq_true, Bool.not_eq_true', Bool.or_eq_false_iff, bne_iff_ne, ne_eq, beq_eq_false_iff_ne, not_or, not_and, Decidable.not_not] at e1 e2
    obtain ⟨e1a, e1b⟩ := e1
    obtain ⟨e2a, e2b⟩ := e2
    have hN : ((gs.filterMap (nmF X.env.scope ((gs.head?.map (·.pos.line)).getD 0))).length) = gs.length := e2a
    cases gs with
    | nil => simp at e1a
    | cons g1 gs =>
      cases gs with
      | nil => simp at e1a
      | cons g2 gs =>
        obtain ⟨n1, f1, hN⟩ := nms_cons (sc := X.env.scope) (l := 0) _ hN
        obtain ⟨n2, f2, hN⟩ := nms_cons (sc := X.env.scope) (l := 0) _ hN
        obtain ⟨p1, rfl, l1⟩ := nmF_some f1
        obtain ⟨p3, rfl, l2⟩ := nmF_some f2
        obtain ⟨i, r1, rfl, i1, ht⟩ := chkTt_nm ht
        obtain ⟨j, r2, rfl, j1, ht⟩ := chkTt_nm ht
        cases gs with
        | nil =>
          have er : r2 = [] := by
            cases r2 with
            | nil => rfl
            | cons t r => cases t <;> simp [chkTt] at ht
          subst er
          have en : names = [n1, n2] := by
            rw [← e3]
            show List.filterMap (nmF X.env.scope _) _ = _
            rw [List.filterMap_cons_some f1, List.filterMap_cons_some f2]
            rfl
          subst en
          have nn : n1 ≠ n2 := fun z => by
            subst z
            simp at hnd
          cases xs with
          | nil => simp at e1b
          | cons x1 xs =>
            cases xs with
            | nil => simp at e1b
            | cons x2 xs =>
              cases xs with
              | cons _ _ => simp at e1b
              | nil =>
                refine PS.weak (ps_par G.calm G.nd i1 j1 (slot_ne i1 j1 nn) l1 l2 hx hw) fun Dn σ H q => ?_
                have q := wk q
                obtain ⟨F0, H0, F, ρ, t, r, t', S, e, pp⟩ := q
                refine oneL S e fun vs F1 H1 gr tp S1 r1 => ?_
                obtain ⟨v, vs1, rfl, q1⟩ := tt_nm (pp vs F1 H1 gr tp r1)
                obtain ⟨w, vs2, rfl, q2⟩ := tt_nm q1
                obtain ⟨rfl, q3⟩ := tt_nil q2
                exact ⟨v, w, rfl, q3⟩
        | cons g3 gs =>
          obtain ⟨n3, f3, hN⟩ := nms_cons (sc := X.env.scope) (l := 0) _ hN
          obtain ⟨p4, rfl, l3⟩ := nmF_some f3
          obtain ⟨l, r3, rfl, k1, ht⟩ := chkTt_nm ht
          cases gs with
          | cons _ _ => simp at e1a
          | nil =>
            have er : r3 = [] := by
              cases r3 with
              | nil => rfl
              | cons t r => cases t <;> simp [chkTt] at ht
            subst er
            have en : names = [n1, n2, n3] := by
              rw [← e3]
              show List.filterMap (nmF X.env.scope _) _ = _
              rw [List.filterMap_cons_some f1, List.filterMap_cons_some f2, List.filterMap_cons_some f3]
              rfl
            subst en
            have n12 : n1 ≠ n2 := fun z => by
              subst z
              simp at hnd
            have n13 : n1 ≠ n3 := fun z => by
              subst z
              simp at hnd
            have n23 : n2 ≠ n3 := fun z => by
              subst z
              simp at hnd
            cases xs with
            | nil => simp at e1b
            | cons x1 xs =>
              cases xs with
              | nil => simp at e1b
              | cons x2 xs =>
                cases xs with
                | nil => simp at e1b
                | cons x3 xs =>
                  cases xs with
                  | cons _ _ => simp at e1b
                  | nil =>
                    refine PS.weak (ps_par3 G.calm G.nd i1 j1 k1 (slot_ne i1 j1 n12) (slot_ne i1 k1 n13) (slot_ne j1 k1 n23) l1 l2 l3 hx hw) fun Dn σ H q => ?_
                    have q := wk q
                    obtain ⟨F0, H0, F, ρ, t, r, t', S, e, pp⟩ := q
                    refine oneL S e fun vs F1 H1 gr tp S1 r1 => ?_
                    obtain ⟨v, vs1, rfl, q1⟩ := tt_nm (pp vs F1 H1 gr tp r1)
                    obtain ⟨w, vs2, rfl, q2⟩ := tt_nm q1
                    obtain ⟨u, vs3, rfl, q3⟩ := tt_nm q2
                    obtain ⟨rfl, q4⟩ := tt_nil q3
                    exact ⟨v, w, u, rfl, q4⟩
end
end Q
namespace Q
open PySem PySem.Spec PyProof.Rows L2 RZ
section
variable {X : Cx} {c : Pm} {g : Gl} {fs : List Str}
variable {F0 H0 F H F' H' Hs F1 H1 : Hp} {σ : L2.St} {ρ : Env} {t t' t1 t2 : Nat} {v : V} {x : R}
variable {a b d : PySem.Expr} {ma mb md : Env → M R} {pos : Pos} {es : List PySem.Expr} {ml : Env → M (List R)} {mt : Env → M Bool}
def rIp (c : Pm) (f : R → R → Option R) : TIp := fun v u H Q => ∃ x y z F Hs, RR c Hs F H v x ∧ RR c Hs F H u y ∧ f x y = some z ∧ (∀ i, z.d = .int i → Q (.int i) H)
theorem augD_int {op : Op} {x y z : R} (h : augD op x y = some z) : ∃ i j k, x.d = .int i ∧ y.d = .int j ∧ z = shd (.int k) := by
  unfold augD at h
  split at h
  · cases h
    exact ⟨_, _, _, by assumption, by assumption, rfl⟩
  · cases h
    exact ⟨_, _, _, by assumption, by assumption, rfl⟩
  · split at h
    · cases h
      exact ⟨_, _, _, by assumption, by assumption, rfl⟩
    · cases h
  · split at h
    · cases h
      exact ⟨_, _, _, by assumption, by assumption, rfl⟩
    · cases h
  · split at h
    · cases h
      exact ⟨_, _, _, by assumption, by assumption, rfl⟩
    · cases h
  · cases h
theorem ip_all {op : Op} {pop : Operator} (ho : ipM op pop = true) : PIp X pop (rIp c (augD op)) := by
  intro pins s σ H v u vv uu Q I rv ru h
  obtain ⟨x, y, z, F, Hs, r1, r2, e, q⟩ := h
  unfold augD at e
  split at e
  · rename_i i j e1 e2
    cases pop <;> first | cases ho | skip
    cases e
    exact iop_add pins s σ H v u vv uu Q I rv ru ⟨i, j, r1.int e1, r2.int e2, q _ rfl⟩
  · rename_i i j e1 e2
    cases pop <;> first | cases ho | skip
    cases e
    exact iop_sub pins s σ H v u vv uu Q I rv ru ⟨i, j, r1.int e1, r2.int e2, q _ rfl⟩
  · rename_i i j e1 e2
    cases pop <;> first | cases ho | skip
    split at e
    · rename_i hb
      cases e
      refine iop_mul pins s σ H v u vv uu Q I rv ru ⟨i, j, r1.int e1, r2.int e2, ?_, q _ rfl⟩
      simp only [Bool.or_eq_true, intB_iff] at hb
      exact hb
    · cases e
  · rename_i i j e1 e2
    cases pop <;> first | cases ho | skip
    split at e
    · rename_i hb
      cases e
      exact iop_fdiv pins s σ H v u vv uu Q I rv ru ⟨i, j, r1.int e1, r2.int e2, ⟨hb.1, by omega⟩, q _ rfl⟩
    · cases e
  · rename_i i j e1 e2
    cases pop <;> first | cases ho | skip
    split at e
    · rename_i hb
      cases e
      exact iop_mod pins s σ H v u vv uu Q I rv ru ⟨i, j, r1.int e1, r2.int e2, hb, q _ rfl⟩
    · cases e
  · cases e
theorem r_aug (G : GoodS X c g fs) {i : Nat} {x : Str} {p : Pos} {op : Op} {pop : Operator} {e : PySem.Expr} (hx : chkG X.N X.env.scope (fun _ => true) (.nm i) (.Name x p) = true) (ho : ipM op pop = true) (he : PE X e (mE c ma)) :
    PS X (.AugAssign (.Name x p) pop e pos) (mS c fun ρ => bnd (opt (getS ρ i)) fun x => bnd (ma ρ) fun r => bnd (opt (augD op x r)) fun z => ret (.nx (ρ.set i (.sh z.d)))) := by
  simp only [chkG, Bool.and_eq_true, Bool.or_eq_true, decide_eq_true_eq, locl, celd, and_true] at hx
  refine PS.weak (ps_aug G.nd hx.1 (show Loc X.env.scope x from hx.2) he (ip_all (c := c) ho) (.inl (by rw [G.hfn]))) fun Dn σ H q => ?_
  obtain ⟨F0, H0, F, ρ, t, r, t', S, e, p⟩ := q
  obtain ⟨x, e1, e⟩ := opt_bnd e
  obtain ⟨y, t1, e2, e⟩ := bnd_some e
  obtain ⟨z, e3, e⟩ := opt_bnd e
  cases e
  obtain ⟨w, ew, rw1⟩ := S.get e1
  refine ⟨w, ew, one S e2 fun u F1 H1 gr tp S1 r1 => ?_⟩
  obtain ⟨i1, j1, k1, q1, q2, rfl⟩ := augD_int e3
  exact ⟨x, y, _, F1, H, rw1.grow gr S.tp, r1, e3, fun k ek => p _ F1 H1 gr.ex (S1.setSh (by cases ek; exact .int _))⟩
theorem meth_few {e : PySem.Expr} {env : PySem.Env} {cpos : Pos} (h : noStar e = true) : ((backTo cpos (starEach [e] env)).all (fun x => !x.1) && (backToKw cpos (keywordEach [] env)).all (fun x => x.1.isSome)
      && decide ([e].length + ([] : List Keyword).length + (if ([] : List Keyword).isEmpty then 0 else 1) < 30)) = true := by
  rw [star_cons h]
  rfl
theorem name_base {i : Nat} {o : PySem.Expr} {nm : Str} (h : chkN X.N X.env.scope i o = true) : attributeBase o nm X.env (eval o X.env) = eval o X.env := by
  cases o <;> first | rfl | cases h
/-- x.append(e), x.extend(e) -/
theorem r_app (G : GoodS X c g fs) {i : Nat} {o e : PySem.Expr} {ap cp : Pos} (ho : chkN X.N X.env.scope i o = true) (he : PE X e (mE c ma)) (hs : noStar e = true) (hl : (ap.endLine == cp.line) = true) :
    PS X (.Expr (.Call (.Attribute o "append" ap) [e] [] cp) pos) (mS c fun ρ => bnd (ma ρ) fun r => bnd (opt (shared r)) fun y => bnd (opt (appD ρ i y)) fun ρ' => ret (.nx ρ')) := by
  refine PS.weak (ps_expr (pe_bm PySem.F.plainAttrs_list PySem.F.slot_list_append PySem.F.type_list_append mt_append (pe_slot ho) (pa_cons he pa_nil (star_cons hs)) (name_base ho) (meth_few hs) hl (star_cons hs) rfl) rfl) fun Dn σ H q => ?_
  obtain ⟨F0, H0, F, ρ, t, r, t', S, e, p⟩ := q
  obtain ⟨r, t1, e1, e⟩ := bnd_some e
  obtain ⟨y, e2, e⟩ := opt_bnd e
  obtain ⟨ρ', e3, e⟩ := opt_bnd e
  cases e
  unfold appD at e3
  split at e3
  · rename_i xs ei
    split at e3
    · rename_i hlt
      cases e3
      obtain ⟨a0, ws, w1, w2, w3, w4, w5, w6⟩ := S.own ei
      refine ⟨.ref a0, w1, .inl ⟨rfl, ws, .inl (.inl w2)⟩, one S e1 fun v F1 H1 gr tp S1 r1 => ?_⟩
      obtain ⟨F2, g2, tp2, r2, x2, _, k2⟩ := r1.share e2 gr tp
      have S2 := S.grow g2 tp2
      obtain ⟨a1, ws1, v1, v2, v3, v4, v5, v6⟩ := S2.own ei
      rw [w1] at v1
      cases v1
      exact ⟨a0, ws1, v, rfl, rfl, v2, by rw [v3.length, ← lim_eq]; exact hlt, p σ F2 _ g2.ex (v6 _ _ (v3.app (.one r2)))⟩
    · cases e3
  · cases e3
theorem r_ext (G : GoodS X c g fs) {i : Nat} {o e : PySem.Expr} {ap cp : Pos} (ho : chkN X.N X.env.scope i o = true) (he : PE X e (mE c ma)) (hs : noStar e = true) (hl : (ap.endLine == cp.line) = true) :
    PS X (.Expr (.Call (.Attribute o "extend" ap) [e] [] cp) pos) (mS c fun ρ => bnd (ma ρ) fun r => bnd (opt (extD ρ i r)) fun ρ' => ret (.nx ρ')) := by
  refine PS.weak (ps_expr (pe_bm PySem.F.plainAttrs_list PySem.F.slot_list_extend PySem.F.type_list_extend mt_extend (pe_slot ho) (pa_cons he pa_nil (star_cons hs)) (name_base ho) (meth_few hs) hl (star_cons hs) rfl) rfl) fun Dn σ H q => ?_
  obtain ⟨F0, H0, F, ρ, t, r, t', S, e, p⟩ := q
  obtain ⟨r, t1, e1, e⟩ := bnd_some e
  obtain ⟨ρ', e3, e⟩ := opt_bnd e
  cases e
  have hr : r.kd ≠ .ro ∧ ∃ xs ys, ρ[i]? = some (.ow (.list xs)) ∧ r.d = .list ys ∧ xs.length + ys.length ≤ lim ∧ ρ' = ρ.set i (.ow (.list (xs ++ ys))) := by
    unfold extD at e3
    split at e3
    · rename_i xs ys ei ek ed
      split at e3
      · rename_i hlt
        cases e3
        exact ⟨by rw [ek]; decide, xs, ys, ei, ed, hlt, rfl⟩
      · cases e3
    · rename_i xs ys ei ek ed
      split at e3
      · rename_i hlt
        cases e3
        exact ⟨by rw [ek]; decide, xs, ys, ei, ed, hlt, rfl⟩
      · cases e3
    · cases e3
  obtain ⟨hk, xs, ys, ei, ed, hlt, rfl⟩ := hr
  obtain ⟨a0, ws, w1, w2, w3, w4, w5, w6⟩ := S.own ei
  refine ⟨.ref a0, w1, .inl ⟨rfl, ws, .inl (.inl w2)⟩, one S e1 fun v F1 H1 gr tp S1 r1 => ?_⟩
  obtain ⟨a1, ws1, v1, v2, v3, v4, v5, v6⟩ := S1.own ei
  rw [w1] at v1
  cases v1
  obtain ⟨b, us, rfl, u2, u3⟩ := r1.lst ed hk S1.g.sub
  exact ⟨a0, b, ws1, us, rfl, rfl, v2, u2, by rw [v3.length, u3.length, ← lim_eq]; exact hlt, p σ F1 _ gr.ex (v6 _ _ (v3.app u3))⟩
theorem r_put (G : GoodS X c g fs) {i : Nat} {o k e : PySem.Expr} {p2 : Pos} (ho : chkN X.N X.env.scope i o = true) (hk : PE X k (mE c mb)) (hs : noSlice k = true) (he : PE X e (mE c ma)) :
    PS X (.Assign [.Subscript o k p2] e pos) (mS c fun ρ => bnd (ma ρ) fun r => bnd (opt (shared r)) fun y => bnd (mb ρ) fun x => bnd (opt (putD ρ i x.d y)) fun ρ' => ret (.nx ρ')) := by
  have hsw : swapsWith e (some (.Subscript o k p2)) pos.line X.env = pure false := swaps_notName rfl
  refine PS.weak (ps_asg he (pg_sub (pe_slot ho) hk set_list fun v => assign_sub hs) hsw rfl) fun Dn σ H q => ?_
  obtain ⟨F0, H0, F, ρ, t, r, t', S, e, p⟩ := q
  obtain ⟨r, t1, e1, e⟩ := bnd_some e
  obtain ⟨y, e2, e⟩ := opt_bnd e
  obtain ⟨x, t2, e3, e⟩ := bnd_some e
  obtain ⟨ρ', e4, e⟩ := opt_bnd e
  cases e
  obtain ⟨xs, j, n, q1, q2, q3, rfl⟩ := putD_some e4
  refine one S e1 fun v F1 H1 gr tp S1 r1 => ?_
  obtain ⟨F2, g2, tp2, r2, x2, _, k2⟩ := r1.share e2 gr tp
  have S2 := S.grow g2 tp2
  obtain ⟨a0, ws, w1, w2, w3, w4, w5, w6⟩ := S2.own q1
  refine ⟨.ref a0, w1, one (Q := fun k H3 => rSetL (.ref a0) k v H3 fun H4 => Dn.nx σ H4) S2 e3 fun u F3 H3 gr3 tp3 S3 r3 => ?_⟩
  obtain ⟨a1, ws1, v1, v2, v3, v4, v5, v6⟩ := S3.own q1
  rw [w1] at v1
  cases v1
  exact ⟨a0, ws1, j, n, rfl, r3.int q2, v2, by rw [v3.length]; exact q3, p σ F3 _ (g2.ex.trans gr3.ex) (v6 _ _ (v3.set (r2.mono gr3.ex) n))⟩
theorem RepL.dropLast : ∀ {vs : List V} {ds : List D}, RepL c F vs ds → RepL c F vs.dropLast ds.dropLast := fun {vs ds} h => by
  rw [List.dropLast_eq_take, List.dropLast_eq_take, h.length]
  exact h.take _
theorem RepL.eraseIdx : ∀ {vs : List V} {ds : List D} (i : Nat), RepL c F vs ds → RepL c F (vs.eraseIdx i) (ds.eraseIdx i)
  | _, _, _, .nil => .nil
  | _, _, 0, .cons _ t => t
  | _, _, i + 1, .cons h t => .cons h (RepL.eraseIdx i t)
theorem asg_one {N : List Str} {sc : Scope} {f : Str → Bool} {tg : Tg} {pg : PySem.Expr} {env : PySem.Env} (h : chkG N sc f tg pg = true) : (assignEach [pg] env).map (·.2) = [assign pg env] := by
  cases pg <;> first | rfl | (cases tg <;> simp [chkG] at h)
theorem r_bind (G : GoodS X c g fs) {tg : Tg} {pg : PySem.Expr} {d : D} {ρ' : Env} {Qn : L2.St → Hp → Prop} {tgr : TG} (S : SR c F0 H0 F H σ ρ t) (r : Rep c F v d) (e : bind1 tg d ρ = some ρ') (k : ∀ σ', SR c F0 H0 F H σ' ρ' t → Qn σ' H) : mG c tg v σ H Qn :=
  ⟨F0, H0, F, ρ, t, d, ρ', S, r, e, fun σ' S' _ => k σ' S'⟩
theorem r_popl (G : GoodS X c g fs) {i : Nat} {tg : Tg} {pg o : PySem.Expr} {ap cp : Pos} (ho : chkN X.N X.env.scope i o = true) (hg : chkG X.N X.env.scope (fun _ => true) tg pg = true) (hl : (ap.endLine == cp.line) = true) :
    PS X (.Assign [pg] (.Call (.Attribute o "pop" ap) [] [] cp) pos) (mS c fun ρ => bnd (opt (popD ρ i)) fun p => bnd (opt (bind1 tg p.1 p.2)) fun ρ' => ret (.nx ρ')) := by
  have hG := sound_g (X := X) (c := c) G.nd tg pg G.calm G.hK (by rw [G.hfn]; exact hg)
  refine PS.weak (ps_asg (pe_bm0 PySem.F.plainAttrs_list PySem.F.slot_list_pop PySem.F.type_list_pop mt_pop (pe_slot ho) (name_base ho) hl) hG rfl (by cases pg <;> rfl) (asg_one hg)) fun Dn σ H q => ?_
  obtain ⟨F0, H0, F, ρ, t, r, t', S, e, p⟩ := q
  obtain ⟨⟨y, ρ1⟩, e1, e⟩ := opt_bnd e
  obtain ⟨ρ', e2, e⟩ := opt_bnd e
  cases e
  unfold popD at e1
  split at e1
  · rename_i xs ei
    obtain ⟨y', ey, e1⟩ := Option.map_eq_some_iff.mp e1
    cases e1
    obtain ⟨a0, ws, w1, w2, w3, w4, w5, w6⟩ := S.own ei
    obtain ⟨u, hu, ru⟩ := w3.get ey
    exact ⟨.ref a0, w1, .inl ⟨rfl, ws, .inl (.inl w2)⟩, a0, ws, u, rfl, rfl, w2, by rw [w3.length]; exact hu, r_bind (pg := pg) (tgr := mG c tg) G (w6 _ _ w3.dropLast) ru e2 fun σ' S' => p σ' F _ (Ext.refl _) S'⟩
  · cases e1
theorem r_popat (G : GoodS X c g fs) {i : Nat} {tg : Tg} {pg o k : PySem.Expr} {ap cp : Pos} (ho : chkN X.N X.env.scope i o = true) (hk : PE X k (mE c mb)) (hs : noStar k = true) (hg : chkG X.N X.env.scope (fun _ => true) tg pg = true) (hl : (ap.endLine == cp.line) = true) :
    PS X (.Assign [pg] (.Call (.Attribute o "pop" ap) [k] [] cp) pos) (mS c fun ρ => bnd (mb ρ) fun x => bnd (opt (popAtD ρ i x.d)) fun p => bnd (opt (bind1 tg p.1 p.2)) fun ρ' => ret (.nx ρ')) := by
  have hG := sound_g (X := X) (c := c) G.nd tg pg G.calm G.hK (by rw [G.hfn]; exact hg)
  refine PS.weak (ps_asg (pe_bm PySem.F.plainAttrs_list PySem.F.slot_list_pop PySem.F.type_list_pop mt_popAt (pe_slot ho) (pa_cons hk pa_nil (star_cons hs)) (name_base ho) (meth_few hs) hl (star_cons hs) rfl) hG rfl (by cases pg <;> rfl) (asg_one hg)) fun Dn σ H q => ?_
  obtain ⟨F0, H0, F, ρ, t, r, t', S, e, p⟩ := q
  obtain ⟨x, t1, e0, e⟩ := bnd_some e
  obtain ⟨⟨y, ρ1⟩, e1, e⟩ := opt_bnd e
  obtain ⟨ρ', e2, e⟩ := opt_bnd e
  cases e
  unfold popAtD at e1
  split at e1
  · rename_i xs j ei ej
    split at e1 <;> first | (cases e1; done) | skip
    rename_i hrng
    have hrng := rngB_of hrng
    obtain ⟨n, en, e1⟩ := Option.bind_eq_some_iff.mp e1
    obtain ⟨y', ey, e1⟩ := Option.map_eq_some_iff.mp e1
    cases e1
    obtain ⟨a0, ws, w1, w2, w3, w4, w5, w6⟩ := S.own ei
    refine ⟨.ref a0, w1, .inl ⟨rfl, ws, .inl (.inl w2)⟩, one S e0 fun v F1 H1 gr tp S1 r1 => ?_⟩
    obtain ⟨a1, ws1, v1, v2, v3, v4, v5, v6⟩ := S1.own ei
    rw [w1] at v1
    cases v1
    obtain ⟨u, hu, ru⟩ := v3.get ey
    obtain ⟨z1, z2, z3, z4⟩ := ixN_seq en
    refine ⟨a0, ws1, j, n, u, rfl, by rw [r1.int ej], v2, by omega, by omega, by rw [v3.length]; exact z1, hu, r_bind (pg := pg) (tgr := mG c tg) G (v6 _ _ (v3.eraseIdx n)) ru e2 fun σ' S' => p σ' F1 _ gr.ex S'⟩
  · cases e1
theorem r_exp (G : GoodS X c g fs) {e : PySem.Expr} (he : PE X e (mE c ma)) (hn : noComp e = true) : PS X (.Expr e pos) (mS c fun ρ => bnd (ma ρ) fun _ => ret (.nx ρ)) := by
  refine PS.weak (ps_expr he (swaps_no hn)) fun Dn σ H q => ?_
  obtain ⟨F0, H0, F, ρ, t, r, t', S, e, p⟩ := q
  obtain ⟨r, t1, e1, e⟩ := bnd_some e
  cases e
  exact one S e1 fun v F1 H1 gr tp S1 r1 => p σ F1 H1 gr.ex S1
theorem r_ret (G : GoodS X c g fs) {e : PySem.Expr} (he : PE X e (mE c ma)) : PS X (.Return (some e) pos) (mS c fun ρ => bnd (ma ρ) fun r => bnd (opt (backR r)) fun r => ret (.rt r)) := by
  refine PS.weak (ps_ret he) fun Dn σ H q => ?_
  obtain ⟨F0, H0, F, ρ, t, r, t', S, e, p⟩ := q
  obtain ⟨r, t1, e1, e⟩ := bnd_some e
  obtain ⟨r', e2, e⟩ := opt_bnd e
  cases e
  have er : r' = r := by
    unfold backR at e2
    split at e2 <;> first | (cases e2; rfl) | cases e2
  subst er
  exact one S e1 fun v F1 H1 gr tp S1 r1 => p v F1 H1 gr.ex S1.g tp (r1.back S.g.back)
theorem r_retv (G : GoodS X c g fs) {i : Nat} {e : PySem.Expr} (he : chkN X.N X.env.scope i e = true) : PS X (.Return (some e) pos) (mS c fun ρ => bnd (opt (retS ρ[i]?)) fun r => ret (.rt r)) := by
  refine PS.weak (ps_ret (pe_slot he)) fun Dn σ H q => ?_
  obtain ⟨F0, H0, F, ρ, t, r, t', S, e, p⟩ := q
  obtain ⟨r, e1, e⟩ := opt_bnd e
  cases e
  unfold retS at e1
  split at e1
  · rename_i d ed
    cases e1
    obtain ⟨v, ev, rv⟩ := S.sl i _ ed
    exact ⟨v, ev, p v F H (Ext.refl _) S.g S.tp rv⟩
  · rename_i d ed
    cases e1
    obtain ⟨a, ev, n, f, hT⟩ := S.sl i _ ed
    exact ⟨_, ev, p _ F H (Ext.refl _) S.g S.tp ⟨a, rfl, n, f, hT⟩⟩
  · cases e1
theorem r_retn : PS X (.Return none pos) (mS c fun ρ => ret (.rt (shd .none))) := by
  refine PS.weak ps_retN fun Dn σ H q => ?_
  obtain ⟨F0, H0, F, ρ, t, r, t', S, e, p⟩ := q
  cases e
  exact p .non F H (Ext.refl _) S.g S.tp .non
theorem r_brk : PS X (.Break pos) (mS c fun ρ => ret (.bk ρ)) := by
  refine PS.weak ps_break fun Dn σ H q => ?_
  obtain ⟨F0, H0, F, ρ, t, r, t', S, e, p⟩ := q
  cases e
  exact p σ F H (Ext.refl _) S
theorem r_cnt : PS X (.Continue pos) (mS c fun ρ => ret (.ct ρ)) := by
  refine PS.weak ps_continue fun Dn σ H q => ?_
  obtain ⟨F0, H0, F, ρ, t, r, t', S, e, p⟩ := q
  cases e
  exact p σ F H (Ext.refl _) S
theorem r_pss : PS X (.Pass pos) (mS c fun ρ => ret (.nx ρ)) := by
  refine PS.weak ps_pass fun Dn σ H q => ?_
  obtain ⟨F0, H0, F, ρ, t, r, t', S, e, p⟩ := q
  cases e
  exact p σ F H (Ext.refl _) S
variable {m1 m2 : Env → M Fl} {s1 s2 : List Stmt}
theorem rs_nil : PSs X [] (mS c fun ρ => ret (.nx ρ)) := by
  refine PSs.weak pss_nil fun Dn σ H q => ?_
  obtain ⟨F0, H0, F, ρ, t, r, t', S, e, p⟩ := q
  cases e
  exact p σ F H (Ext.refl _) S
theorem rs_cons {st : Stmt} (h1 : PS X st (mS c m1)) (h2 : PSs X s2 (mS c m2)) : PSs X (st :: s2) (mS c fun ρ => bnd (m1 ρ) fun fl => match fl with
    | .nx ρ' => m2 ρ'
    | .rt v => ret (.rt v)
    | .bk ρ' => ret (.bk ρ')
    | .ct ρ' => ret (.ct ρ')) := by
  refine PSs.weak (pss_cons h1 h2) fun Dn σ H q => ?_
  obtain ⟨F0, H0, F, ρ, t, r, t', S, e, p⟩ := q
  obtain ⟨fl, t1, e1, e⟩ := bnd_some e
  refine ⟨F0, H0, F, ρ, t, fl, t1, S, e1, ?_⟩
  cases fl with
  | nx ρ' => exact fun σ' F' H' x S' => ⟨F0, H0, F', ρ', t1, r, t', S', e, p.on x⟩
  | rt v => cases e; exact p
  | bk ρ' => cases e; exact p
  | ct ρ' => cases e; exact p
theorem rs_frz {i : Nat} (h2 : PSs X s2 (mS c m2)) : PSs X s2 (mS c fun ρ => m2 (frzE ρ i)) := by
  refine PSs.weak h2 fun Dn σ H q => ?_
  obtain ⟨F0, H0, F, ρ, t, r, t', S, e, p⟩ := q
  obtain ⟨F', x, S'⟩ := S.frz (i := i)
  exact ⟨F0, H0, F', _, t, r, t', S', e, p.on x⟩
theorem r_if {e : PySem.Expr} (ht : PT X e (mT c mt)) (h1 : PSs X s1 (mS c m1)) (h2 : PSs X s2 (mS c m2)) : PS X (.If e s1 s2 pos) (mS c fun ρ => bnd (mt ρ) fun k => if k then m1 ρ else m2 ρ) := by
  refine PS.weak (ps_if ht h1 h2) fun Dn σ H q => ?_
  obtain ⟨F0, H0, F, ρ, t, r, t', S, e, p⟩ := q
  obtain ⟨k, t1, e1, e⟩ := bnd_some e
  refine oneT S e1 fun F1 H1 gr tp S1 => ?_
  cases k with
  | true =>
    rw [if_pos rfl] at e ⊢
    exact ⟨F0, H0, F1, ρ, t1, r, t', S1, e, p.on gr.ex⟩
  | false =>
    rw [if_neg (by decide)] at e ⊢
    exact ⟨F0, H0, F1, ρ, t1, r, t', S1, e, p.on gr.ex⟩
theorem r_whl (G : GoodS X c g fs) {e : PySem.Expr} (ht : PT X e (mT c mt)) (h1 : PSs X s1 (mS c m1)) : PS X (.While e s1 [] pos) (mS c fun ρ => whileM big mt m1 ρ) := by
  refine PS.weak (ps_while (by rw [G.xe]; exact PassesOwn.never) ht h1) fun Dn σ H q => ?_
  obtain ⟨F0, H0, F, ρ, t, fl, t', S, e, p⟩ := q
  refine ⟨fun m σ H => ∃ F1 ρ t, Ext F F1 ∧ SR c F0 H0 F1 H σ ρ t ∧ whileM m mt m1 ρ t = some (fl, t'), ⟨big, F, ρ, t, Ext.refl _, S, e⟩, ?_⟩
  rintro m σ H ⟨F1, ρ, t, x, S, e⟩
  cases m with
  | zero => cases e
  | succ n =>
    unfold whileM at e
    obtain ⟨k, t1, e1, e⟩ := bnd_some e
    refine oneT S e1 fun F2 H2 gr tp S2 => ?_
    cases k with
    | false =>
      rw [if_neg (by decide)] at e ⊢
      cases e
      exact p σ F2 H2 (x.trans gr.ex) S2
    | true =>
      rw [if_pos rfl] at e ⊢
      obtain ⟨f1, t2, e2, e⟩ := bnd_some e
      refine ⟨fun σ' H' => ∃ F3 ρ3 t3, Ext F F3 ∧ SR c F0 H0 F3 H' σ' ρ3 t3 ∧ whileM n mt m1 ρ3 t3 = some (fl, t'), fun σ' H' h => ⟨n, Nat.lt_succ_self _, h⟩, F0, H0, F2, ρ, t1, f1, t2, S2, e2, ?_⟩
      cases f1 with
      | nx ρ' => exact fun σ' F3 H3 x3 S3 => ⟨F3, ρ', t2, (x.trans gr.ex).trans x3, S3, e⟩
      | ct ρ' => exact fun σ' F3 H3 x3 S3 => ⟨F3, ρ', t2, (x.trans gr.ex).trans x3, S3, e⟩
      | bk ρ' => cases e; exact fun σ' F3 H3 x3 S3 => p σ' F3 H3 ((x.trans gr.ex).trans x3) S3
      | rt v => cases e; exact fun v F3 H3 x3 g3 tp3 r3 => p v F3 H3 ((x.trans gr.ex).trans x3) g3 tp3 r3
theorem forM_at {xs : List D} {body : D → Env → M Fl} {i : Nat} {d : D} (h : xs[i]? = some d) {ρ : Env} {t : Nat} {r : Fl × Nat} (e : forM (xs.drop i) body ρ t = some r) :
    ∃ fl t1, body d ρ t = some (fl, t1) ∧ (match fl with
      | .nx ρ' => forM (xs.drop (i + 1)) body ρ'
      | .ct ρ' => forM (xs.drop (i + 1)) body ρ'
      | .bk ρ' => ret (.nx ρ')
      | .rt v => ret (.rt v)) t1 = some r := by
  obtain ⟨hi, hd⟩ := List.getElem?_eq_some_iff.mp h
  rw [List.drop_eq_getElem_cons hi, hd] at e
  unfold forM at e
  exact bnd_some e
theorem r_for (G : GoodS X c g fs) {tg : Tg} {pg pi : PySem.Expr} {mi : Env → M (Bool × List D)} (hi : PI X pg pi (mI c mi)) (hg : chkG X.N X.env.scope (fun _ => true) tg pg = true) (hs : noSet pi = true) (h1 : PSs X s1 (mS c m1)) :
    PS X (.For pg pi s1 [] pos) (mS c fun ρ => bnd (mi ρ) fun xs => if xs.1 = false then fail else forM xs.2 (fun d ρ => bnd (opt (bind1 tg d ρ)) fun ρ' => m1 ρ') ρ) := by
  have hG := sound_g (X := X) (c := c) G.nd tg pg G.calm G.hK (by rw [G.hfn]; exact hg)
  refine PS.weak (ps_for (by rw [G.xe]; exact PassesOwn.never) G.calm hi hG h1 (fun x => set_plain _ x hs)) fun Dn σ H q => ?_
  obtain ⟨F0, H0, F, ρ, t, fl, t', S, e, p⟩ := q
  obtain ⟨xs, t1, e1, e⟩ := bnd_some e
  split at e
  · cases e
  · rename_i hsf
    have hsf : xs.1 = true := by
      cases q : xs.1 with
      | true => rfl
      | false => exact absurd q hsf
    refine ⟨F0, H0, F, ρ, t, xs, t1, S, e1, fun J F1 H1 gr tp it => ?_⟩
    refine ⟨fun i m σ H => m = xs.2.length - i ∧ i ≤ xs.2.length ∧ ∃ F2 ρ t, Ext F1 F2 ∧ SR c F0 H0 F2 H σ ρ t ∧ forM (xs.2.drop i) (fun d ρ => bnd (opt (bind1 tg d ρ)) fun ρ' => m1 ρ') ρ t = some (fl, t'), ⟨xs.2.length, rfl, Nat.zero_le _, F1, ρ, t1, Ext.refl _, S.grow gr tp, e⟩, ?_⟩
    rintro i m σ H ⟨rfl, hi, F2, ρ, t, x2, S2, e2⟩
    have at_ := it.far hsf F2 H x2 S2.g.sub i
    by_cases hlt : i < xs.2.length
    · have hd := List.getElem?_eq_getElem hlt
      obtain ⟨hgo, hy⟩ := at_.1 _ hd
      obtain ⟨f1, t3, e3, e4⟩ := forM_at hd e2
      refine .inr ⟨hgo, fun σ' H' => ∃ F3 ρ3 t3, Ext F1 F3 ∧ SR c F0 H0 F3 H' σ' ρ3 t3 ∧ forM (xs.2.drop (i + 1)) (fun d ρ => bnd (opt (bind1 tg d ρ)) fun ρ' => m1 ρ') ρ3 t3 = some (fl, t'), fun σ' H' h => ⟨xs.2.length - (i + 1), by omega, rfl, hlt, h⟩, fun v H3 hv => ?_⟩
      obtain ⟨F3, g3, tp3, r3⟩ := (hy v H3 hv).rep S2.g.sub S2.tp
      obtain ⟨ρ2, q4, q5⟩ := opt_bnd e3
      refine ⟨F0, H0, F3, ρ, t, _, ρ2, S2.grow g3 tp3, r3, q4, fun σ2 S3 o2 => ⟨F0, H0, F3, ρ2, t, f1, t3, S3, q5, ?_⟩⟩
      have x3 := x2.trans g3.ex
      cases f1 with
      | nx ρ' => exact fun σ' F4 H4 x4 S4 => ⟨F4, ρ', t3, x3.trans x4, S4, e4⟩
      | ct ρ' => exact fun σ' F4 H4 x4 S4 => ⟨F4, ρ', t3, x3.trans x4, S4, e4⟩
      | bk ρ' => cases e4; exact fun σ' F4 H4 x4 S4 => p σ' F4 H4 (gr.ex.trans (x3.trans x4)) S4
      | rt v => cases e4; exact fun v F4 H4 x4 g4 tp4 r4 => p v F4 H4 (gr.ex.trans (x3.trans x4)) g4 tp4 r4
    · have e5 : i = xs.2.length := by omega
      subst e5
      rw [List.drop_length] at e2
      have e2 : some (Fl.nx ρ, t) = some (fl, t') := e2
      cases e2
      exact .inl ⟨at_.2 (Nat.le_refl _), p σ F2 H (gr.ex.trans x2) S2⟩
end
end Q
namespace Q
open PySem PySem.Spec PyProof.Rows L2 RZ
section
variable {fs N : List Str} {sc : Scope} {py : PySem.Stmt}
theorem inv_asg {tg : Tg} {e : E} (h : chkS fs N sc (.asg tg e) py = true) : ∃ gg x p, py = .Assign [gg] x p ∧ chkG N sc (fun _ => true) tg gg = true ∧ chkE fs N sc e x = true ∧ (isNm gg || !isTup x) = true := by
  unfold chkS at h
  split at h <;> rename_i q <;> first | (cases h; done) | (cases q; done) | skip
  injection q with q1 q2
  subst q1 q2
  simp only [Bool.and_eq_true, decide_eq_true_eq] at h
  obtain ⟨⟨h1, h2⟩, h3⟩ := h
  exact ⟨_, _, _, rfl, h1, h2, h3⟩

theorem inv_par {ts : List Tt} {es : EL} (h : chkS fs N sc (.par ts es) py = true) : ∃ gs k p1 xs k2 p2 p, py = .Assign [.Tuple gs k p1] (.Tuple xs k2 p2) p ∧ chkTt fs N sc ts gs = true ∧ chkL fs N sc es xs = true ∧ parN sc gs xs = true ∧ fewT gs = true := by
  unfold chkS at h
  split at h <;> rename_i q <;> first | (cases h; done) | (cases q; done) | skip
  injection q with q1 q2
  subst q1 q2
  simp only [Bool.and_eq_true, decide_eq_true_eq] at h
  obtain ⟨⟨⟨h1, h2⟩, h3⟩, h4⟩ := h
  exact ⟨_, _, _, _, _, _, _, rfl, h1, h2, h3, h4⟩

theorem inv_aug {i : Nat} {op : Op} {e : E} (h : chkS fs N sc (.aug i op e) py = true) : ∃ x p1 q y p, py = .AugAssign (.Name x p1) q y p ∧ chkG N sc (fun _ => true) (.nm i) (.Name x p1) = true ∧ ipM op q = true ∧ chkE fs N sc e y = true := by
  unfold chkS at h
  split at h <;> rename_i q <;> first | (cases h; done) | (cases q; done) | skip
  injection q with q1 q2 q3
  subst q1 q2 q3
  simp only [Bool.and_eq_true, decide_eq_true_eq] at h
  obtain ⟨⟨h1, h2⟩, h3⟩ := h
  exact ⟨_, _, _, _, _, rfl, h1, h2, h3⟩

theorem inv_app {i : Nat} {e : E} (h : chkS fs N sc (.app i e) py = true) : ∃ x m ap y cp p, py = .Expr (.Call (.Attribute x m ap) [y] [] cp) p ∧ m = ("append" : Str) ∧ chkN N sc i x = true ∧ chkE fs N sc e y = true ∧ noStar y = true ∧ (ap.endLine == cp.line) = true := by
  unfold chkS at h
  split at h <;> rename_i q <;> first | (cases h; done) | (cases q; done) | skip
  injection q with q1 q2
  subst q1 q2
  simp only [Bool.and_eq_true, decide_eq_true_eq] at h
  obtain ⟨⟨⟨⟨h1, h2⟩, h3⟩, h4⟩, h5⟩ := h
  exact ⟨_, _, _, _, _, _, rfl, h1, h2, h3, h4, h5⟩

theorem inv_ext {i : Nat} {e : E} (h : chkS fs N sc (.ext i e) py = true) : ∃ x m ap y cp p, py = .Expr (.Call (.Attribute x m ap) [y] [] cp) p ∧ m = ("extend" : Str) ∧ chkN N sc i x = true ∧ chkE fs N sc e y = true ∧ noStar y = true ∧ (ap.endLine == cp.line) = true := by
  unfold chkS at h
  split at h <;> rename_i q <;> first | (cases h; done) | (cases q; done) | skip
  injection q with q1 q2
  subst q1 q2
  simp only [Bool.and_eq_true, decide_eq_true_eq] at h
  obtain ⟨⟨⟨⟨h1, h2⟩, h3⟩, h4⟩, h5⟩ := h
  exact ⟨_, _, _, _, _, _, rfl, h1, h2, h3, h4, h5⟩

theorem inv_put {i : Nat} {k e : E} (h : chkS fs N sc (.put i k e) py = true) : ∃ x y p1 z p, py = .Assign [.Subscript x y p1] z p ∧ chkN N sc i x = true ∧ chkE fs N sc k y = true ∧ noSlice y = true ∧ chkE fs N sc e z = true := by
  unfold chkS at h
  split at h <;> rename_i q <;> first | (cases h; done) | (cases q; done) | skip
  injection q with q1 q2 q3
  subst q1 q2 q3
  simp only [Bool.and_eq_true, decide_eq_true_eq] at h
  obtain ⟨⟨⟨h1, h2⟩, h3⟩, h4⟩ := h
  exact ⟨_, _, _, _, _, rfl, h1, h2, h3, h4⟩

theorem inv_popl {tg : Tg} {i : Nat} (h : chkS fs N sc (.popl tg i) py = true) : ∃ gg x m ap cp p, py = .Assign [gg] (.Call (.Attribute x m ap) [] [] cp) p ∧ m = ("pop" : Str) ∧ chkN N sc i x = true ∧ chkG N sc (fun _ => true) tg gg = true ∧ (ap.endLine == cp.line) = true := by
  unfold chkS at h
  split at h <;> rename_i q <;> first | (cases h; done) | (cases q; done) | skip
  injection q with q1 q2
  subst q1 q2
  simp only [Bool.and_eq_true, decide_eq_true_eq] at h
  obtain ⟨⟨⟨h1, h2⟩, h3⟩, h4⟩ := h
  exact ⟨_, _, _, _, _, _, rfl, h1, h2, h3, h4⟩

theorem inv_popat {tg : Tg} {i : Nat} {k : E} (h : chkS fs N sc (.popat tg i k) py = true) : ∃ gg x m ap y cp p, py = .Assign [gg] (.Call (.Attribute x m ap) [y] [] cp) p ∧ m = ("pop" : Str) ∧ chkN N sc i x = true ∧ chkE fs N sc k y = true ∧ noStar y = true ∧ chkG N sc (fun _ => true) tg gg = true ∧ (ap.endLine == cp.line) = true := by
  unfold chkS at h
  split at h <;> rename_i q <;> first | (cases h; done) | (cases q; done) | skip
  injection q with q1 q2 q3
  subst q1 q2 q3
  simp only [Bool.and_eq_true, decide_eq_true_eq] at h
  obtain ⟨⟨⟨⟨⟨h1, h2⟩, h3⟩, h4⟩, h5⟩, h6⟩ := h
  exact ⟨_, _, _, _, _, _, _, rfl, h1, h2, h3, h4, h5, h6⟩

theorem inv_exp {e : E} (h : chkS fs N sc (.exp e) py = true) : ∃ x p, py = .Expr x p ∧ chkE fs N sc e x = true ∧ noComp x = true := by
  unfold chkS at h
  split at h <;> rename_i q <;> first | (cases h; done) | (cases q; done) | skip
  injection q with q1
  subst q1
  simp only [Bool.and_eq_true, decide_eq_true_eq] at h
  obtain ⟨h1, h2⟩ := h
  exact ⟨_, _, rfl, h1, h2⟩

theorem inv_ret {e : E} (h : chkS fs N sc (.ret e) py = true) : ∃ x p, py = .Return (some x) p ∧ chkE fs N sc e x = true := by
  unfold chkS at h
  split at h <;> rename_i q <;> first | (cases h; done) | (cases q; done) | skip
  injection q with q1
  subst q1
  have h1 := h
  exact ⟨_, _, rfl, h1⟩

theorem inv_retv {i : Nat} (h : chkS fs N sc (.retv i) py = true) : ∃ x p, py = .Return (some x) p ∧ chkN N sc i x = true := by
  unfold chkS at h
  split at h <;> rename_i q <;> first | (cases h; done) | (cases q; done) | skip
  injection q with q1
  subst q1
  have h1 := h
  exact ⟨_, _, rfl, h1⟩

theorem inv_sif {t : T} {a b : SS} (h : chkS fs N sc (.ite t a b) py = true) : ∃ x y z p, py = .If x y z p ∧ chkT fs N sc t x = true ∧ chkSs fs N sc a y = true ∧ chkSs fs N sc b z = true := by
  unfold chkS at h
  split at h <;> rename_i q <;> first | (cases h; done) | (cases q; done) | skip
  injection q with q1 q2 q3
  subst q1 q2 q3
  simp only [Bool.and_eq_true, decide_eq_true_eq] at h
  obtain ⟨⟨h1, h2⟩, h3⟩ := h
  exact ⟨_, _, _, _, rfl, h1, h2, h3⟩

theorem inv_whl {t : T} {b : SS} (h : chkS fs N sc (.whl t b) py = true) : ∃ x y p, py = .While x y [] p ∧ chkT fs N sc t x = true ∧ chkSs fs N sc b y = true := by
  unfold chkS at h
  split at h <;> rename_i q <;> first | (cases h; done) | (cases q; done) | skip
  injection q with q1 q2
  subst q1 q2
  simp only [Bool.and_eq_true, decide_eq_true_eq] at h
  obtain ⟨h1, h2⟩ := h
  exact ⟨_, _, _, rfl, h1, h2⟩

theorem inv_frr {tg : Tg} {it : It} {b : SS} (h : chkS fs N sc (.frr tg it b) py = true) : ∃ gg i y p, py = .For gg i y [] p ∧ chkG N sc (fun _ => true) tg gg = true ∧ chkI fs N sc it gg i = true ∧ noSet i = true ∧ chkSs fs N sc b y = true := by
  unfold chkS at h
  split at h <;> rename_i q <;> first | (cases h; done) | (cases q; done) | skip
  injection q with q1 q2 q3
  subst q1 q2 q3
  simp only [Bool.and_eq_true, decide_eq_true_eq] at h
  obtain ⟨⟨⟨h1, h2⟩, h3⟩, h4⟩ := h
  exact ⟨_, _, _, _, rfl, h1, h2, h3, h4⟩
theorem inv_retn (h : chkS fs N sc .retn py = true) : ∃ p, py = .Return none p := by
  unfold chkS at h
  split at h <;> rename_i q <;> first | (cases h; done) | (cases q; done) | skip
  exact ⟨_, rfl⟩
theorem inv_brk (h : chkS fs N sc .brk py = true) : ∃ p, py = .Break p := by
  unfold chkS at h
  split at h <;> rename_i q <;> first | (cases h; done) | (cases q; done) | skip
  exact ⟨_, rfl⟩
theorem inv_cnt (h : chkS fs N sc .cnt py = true) : ∃ p, py = .Continue p := by
  unfold chkS at h
  split at h <;> rename_i q <;> first | (cases h; done) | (cases q; done) | skip
  exact ⟨_, rfl⟩
theorem inv_pss (h : chkS fs N sc .pss py = true) : ∃ p, py = .Pass p := by
  unfold chkS at h
  split at h <;> rename_i q <;> first | (cases h; done) | (cases q; done) | skip
  exact ⟨_, rfl⟩
/-- only these comprehensions are read -/
theorem chkE_comp {e : E} {x : PySem.Expr} (h : chkE fs N sc e x = true) : noComp x = true ∨ (∃ vs elt tg it cond y gg i ifs sc2 p, e = .lc vs elt tg it cond ∧ x = .ListComp y [⟨gg, i, ifs, 0⟩] sc2 p) ∨
    ∃ vs vs1 elt tg it cond tg1 it1 cond1 y gg i ifs g1 i1 ifs1 sc2 p, e = .lc2 vs vs1 elt tg it cond tg1 it1 cond1 ∧ x = .ListComp y [⟨gg, i, ifs, 0⟩, ⟨g1, i1, ifs1, 0⟩] sc2 p := by
  cases x <;> first | exact .inl rfl | skip
  all_goals (cases e <;> first | (simp [chkE, chkN] at h; done) | skip)
  · obtain ⟨_, _, _, _, _, _, e1, _⟩ := inv_lc h
    exact .inr (.inl ⟨_, _, _, _, _, _, _, _, _, _, _, rfl, e1⟩)
  · obtain ⟨_, _, _, _, _, _, _, _, _, e1, _⟩ := inv_lc2 h
    exact .inr (.inr ⟨_, _, _, _, _, _, _, _, _, _, _, _, _, _, _, _, _, _, rfl, e1⟩)
end
section
variable {X : Cx} {c : Pm} {g : Gl} {fs : List Str}
theorem swaps_lc {elt : PySem.Expr} {gs : List Comprehension} {sc2 : Scope} {q p : Pos} {x : Str} {l : Nat} {env : PySem.Env} (hb : env.blockKind = .function) : swapsWith (.ListComp elt gs sc2 q) (some (.Name x p)) l env = pure (lcOwn env.scope (.Name x p) (.ListComp elt gs sc2 q)) := by
  unfold swapsWith lcOwn locl
  simp only [hb, Expr.pos, PySem.Env.kindOf]
  have e1 : (ScopeKind.function == ScopeKind.function) = true := rfl
  rw [e1, Bool.true_and]
  congr 3
  cases q : env.scope.names.lookup x with
  | none => rfl
  | some k => cases k <;> rfl
theorem sound_asg (G : GoodS X c g fs) {tg : Tg} {e : E} {gg x : PySem.Expr} {p : Pos} (h1 : chkG X.N X.env.scope (fun _ => true) tg gg = true) (h2 : chkE fs X.N X.env.scope e x = true) (h3 : (isNm gg || !isTup x) = true) :
    PS X (.Assign [gg] x p) (mS c fun ρ => bnd (ev g e ρ) fun r => bnd (opt (store tg r ρ)) fun ρ' => ret (.nx ρ')) := by
  by_cases hsw : lcOwn X.env.scope gg x = true
  · cases gg <;> first | (simp [lcOwn] at hsw; done) | skip
    rename_i y py
    cases tg with
    | tp ts => simp [chkG] at h1
    | nm i =>
      simp only [chkG, Bool.and_eq_true, decide_eq_true_eq] at h1
      rcases chkE_comp h2 with hn | ⟨vs, elt, tg, it, cond, z, g1, i1, ifs, sc2, p2, rfl, rfl⟩ | ⟨vs, vs1, elt, tg, it, cond, tg1, it1, cond1, z, g0, i0, ifs, g1, i1, ifs1, sc2, p2, rfl, rfl⟩
      · cases x <;> first | (simp [lcOwn] at hsw; done) | cases hn
      · have hyl : X.env.scope.names.lookup y = some .local := by
          simp only [lcOwn, Bool.and_eq_true, locl, decide_eq_true_eq] at hsw
          exact hsw.1.1
        obtain ⟨_, _, _, _, _, _, e1, q1, q2, q3, q4, q5, q6, q7⟩ := inv_lc h2
        cases e1
        exact r_asgLc G (fun hy hyl => ps_setLc G.calm G.nd hy hyl (by rw [swaps_lc (block_fn G), hsw]) (sound_i it X _ _ G.toGood q2) (blkOk_by q1)
          (fun s H C cl fp => sound_g (X := X.blk s H sc2 (compEnvC sc2 cl C X.env) fp) G.nd tg _ G.calm G.hK q4) (fun s H C cl fp => sound_to cond _ _ (G.toGood.blk s H sc2 _ fp) q6) (fun s H C cl fp => sound_e elt _ _ (G.toGood.blk s H sc2 _ fp) q7) fun x => set_plain _ x q3)
          (fun σ H Q q => by rw [own_snd]; exact lc_w q5 σ H Q q) h1.1 hyl
      · have hyl : X.env.scope.names.lookup y = some .local := by
          simp only [lcOwn, Bool.and_eq_true, locl, decide_eq_true_eq] at hsw
          exact hsw.1.1
        obtain ⟨_, _, _, _, _, _, _, _, _, e1, q1, q2, q3, q4, q5, q6, q7, q8, q9, q10, q11, q12, q13⟩ := inv_lc2 h2
        cases e1
        refine PS.weak (ps_setLc2 (vs1 := vs1) G.calm G.nd h1.1 hyl (by rw [swaps_lc (block_fn G), hsw]) (sound_i it X _ _ G.toGood q2) (blkOk_by q1) (by rw [own_snd]; exact subL_of q11)
          (fun s H C cl fp => sound_g (X := X.blk s H sc2 (compEnvC sc2 cl C X.env) fp) G.nd tg _ G.calm G.hK q4) (fun s H C cl fp => sound_to cond _ _ (G.toGood.blk s H sc2 _ fp) q6)
          (fun s H C cl fp => sound_i it1 _ _ _ (G.toGood.blk s H sc2 _ fp) q7) (fun s H C cl fp => sound_g (X := X.blk s H sc2 (compEnvC sc2 cl C X.env) fp) G.nd tg1 _ G.calm G.hK q9)
          (fun s H C cl fp => sound_to cond1 _ _ (G.toGood.blk s H sc2 _ fp) q12) (fun s H C cl fp => sound_e elt _ _ (G.toGood.blk s H sc2 _ fp) q13) (fun x => set_plain _ x q3) fun env x => set_plain env x q8) fun Dn σ H q => ?_
        obtain ⟨F0, H0, F, ρ, t, r, t', S, e, pp⟩ := q
        obtain ⟨x, t1, e1, e⟩ := bnd_some e
        obtain ⟨ρ', e2, e⟩ := opt_bnd e
        cases e
        rw [own_snd]
        exact lc2_w q5 q10 _ _ _ (one S e1 fun v F1 H1 gr tp S1 r1 => pp _ F1 H1 gr.ex (S1.setR r1 (fun a n => S.g.back a n) (S.older S1 r1) e2))
  · refine r_asg G h1 (sound_e e X x G.toGood h2) h3 ?_
    rcases chkE_comp h2 with hn | ⟨vs, elt, tg', it, cond, z, g1, i1, ifs, sc2, p2, rfl, rfl⟩ | ⟨vs, vs1, elt, tg', it, cond, tg1, it1, cond1, z, g0, i0, ifs, g1, i1, ifs1, sc2, p2, rfl, rfl⟩
    · exact swaps_no hn
    · cases hnm : isNm gg with
      | false => exact swaps_notName hnm
      | true =>
        cases gg <;> first | cases hnm | skip
        rw [swaps_lc (block_fn G)]
        cases q : lcOwn X.env.scope _ _ with
        | true => exact absurd q hsw
        | false => rfl
    · cases hnm : isNm gg with
      | false => exact swaps_notName hnm
      | true =>
        cases gg <;> first | cases hnm | skip
        rw [swaps_lc (block_fn G)]
        cases q : lcOwn X.env.scope _ _ with
        | true => exact absurd q hsw
        | false => rfl
mutual
theorem sound_s (G : GoodS X c g fs) : ∀ (s : S) (py : Stmt), chkS fs X.N X.env.scope s py = true → PS X py (mS c fun ρ => exec g s ρ)
  | .asg tg e, py, h => by
    obtain ⟨gg, x, p, rfl, h1, h2, h3⟩ := inv_asg h
    exact sound_asg G h1 h2 h3
  | .par ts es, py, h => by
    obtain ⟨gs, k, p1, xs, k2, p2, p, rfl, h1, h2, h3, h4⟩ := inv_par h
    exact r_par G h1 (sound_l es X xs G.toGood h2) (chkL_star h2) h3 h4
  | .aug i op e, py, h => by
    obtain ⟨x, p1, q, y, p, rfl, h1, h2, h3⟩ := inv_aug h
    exact r_aug G h1 h2 (sound_e e X y G.toGood h3)
  | .augp i op k e, py, h => by
    simp [chkS] at h
  | .app i e, py, h => by
    obtain ⟨x, m, ap, y, cp, p, rfl, rfl, h2, h3, h4, h5⟩ := inv_app h
    exact r_app G h2 (sound_e e X y G.toGood h3) h4 h5
  | .ext i e, py, h => by
    obtain ⟨x, m, ap, y, cp, p, rfl, rfl, h2, h3, h4, h5⟩ := inv_ext h
    exact r_ext G h2 (sound_e e X y G.toGood h3) h4 h5
  | .put i k e, py, h => by
    obtain ⟨x, y, p1, z, p, rfl, h1, h2, h3, h4⟩ := inv_put h
    exact r_put G h1 (sound_e k X y G.toGood h2) h3 (sound_e e X z G.toGood h4)
  | .popl tg i, py, h => by
    obtain ⟨gg, x, m, ap, cp, p, rfl, rfl, h2, h3, h4⟩ := inv_popl h
    exact r_popl G h2 h3 h4
  | .popat tg i k, py, h => by
    obtain ⟨gg, x, m, ap, y, cp, p, rfl, rfl, h2, h3, h4, h5, h6⟩ := inv_popat h
    exact r_popat G h2 (sound_e k X y G.toGood h3) h4 h5 h6
  | .exp e, py, h => by
    obtain ⟨x, p, rfl, h1, h2⟩ := inv_exp h
    exact r_exp G (sound_e e X x G.toGood h1) h2
  | .ret e, py, h => by
    obtain ⟨x, p, rfl, h1⟩ := inv_ret h
    exact r_ret G (sound_e e X x G.toGood h1)
  | .retv i, py, h => by
    obtain ⟨x, p, rfl, h1⟩ := inv_retv h
    exact r_retv G h1
  | .retn, py, h => by
    obtain ⟨p, rfl⟩ := inv_retn h
    exact r_retn
  | .ite t a b, py, h => by
    obtain ⟨x, y, z, p, rfl, h1, h2, h3⟩ := inv_sif h
    exact r_if (sound_t t X x G.toGood h1) (sound_ss G a y h2) (sound_ss G b z h3)
  | .whl t b, py, h => by
    obtain ⟨x, y, p, rfl, h1, h2⟩ := inv_whl h
    exact r_whl G (sound_t t X x G.toGood h1) (sound_ss G b y h2)
  | .frr tg it b, py, h => by
    obtain ⟨gg, i, y, p, rfl, h1, h2, h3, h4⟩ := inv_frr h
    exact r_for G (sound_i it X gg i G.toGood h2) h1 h3 (sound_ss G b y h4)
  | .brk, py, h => by
    obtain ⟨p, rfl⟩ := inv_brk h
    exact r_brk
  | .cnt, py, h => by
    obtain ⟨p, rfl⟩ := inv_cnt h
    exact r_cnt
  | .pss, py, h => by
    obtain ⟨p, rfl⟩ := inv_pss h
    exact r_pss
theorem sound_ss (G : GoodS X c g fs) : ∀ (s : SS) (xs : List Stmt), chkSs fs X.N X.env.scope s xs = true → PSs X xs (mS c fun ρ => execs g s ρ)
  | .nil, xs, h => by
    cases xs with
    | nil => exact rs_nil
    | cons _ _ => simp [chkSs] at h
  | .cons s r, xs, h => by
    cases xs with
    | nil => simp [chkSs] at h
    | cons x xs =>
      simp only [chkSs, Bool.and_eq_true] at h
      exact rs_cons (sound_s G s x h.1) (sound_ss G r xs h.2)
  | .frz i r, xs, h => by
    simp only [chkSs] at h
    exact rs_frz (sound_ss G r xs h)
end
end
end Q
namespace Q
open PySem PySem.Spec PyProof.Rows L2 RZ
section
variable {P : Program} {w : World} {K : PySem.W.Frag} {mg : Str → Option Value} {base : Heap}
/-- a def of the text, known as a call -/
structure DefAt (P : Program) (w : World) (K : PySem.W.Frag) (mg : Str → Option Value) (base : Heap) (k : Nat) (x : Str) (sp : Sp) : Prop where
  ex : ∃ a fd ps, mg x = some (.ref a) ∧ PySem.W.keepIn K (.ref a) = true ∧ Binds K fd ps [] ∧ FnOk P w K mg base CX0 k a fd ps sp
structure Mods (mg : Str → Option Value) : Prop where
  bn : ∀ x, x ∈ bnames → mg x = none
  db : mg "__debug__" = none
/-- what stands behind a def's first row -/
theorem entry_SR {c : Pm} {F H : Hp} {vs : List V} {ds : List D} {t n sl np : Nat} {N : List Str} (e : Ext F H) (tp : Tape c F H t) (r : RepL c F vs ds) (hn : N.length = sl) (hl : ds.length = np) (hs : np ≤ sl) :
    SR c F H F H (L2.start N vs) (ds.map .sh ++ List.replicate (sl - np) .un) t := by
  have rl := r.length
  refine ⟨Grow.refl e tp.there, tp, ?_, fun i s q => ?_, fun i j d d' _ q _ => ?_⟩
  · simp only [L2.start, List.length_append, List.length_map, List.length_replicate]
    omega
  · by_cases hi : i < ds.length
    · rw [List.getElem?_append_left (by rw [List.length_map]; exact hi), List.getElem?_map] at q
      obtain ⟨d, hd, rfl⟩ := Option.map_eq_some_iff.mp q
      obtain ⟨v, hv, rv⟩ := r.get hd
      refine ⟨v, ?_, rv⟩
      unfold L2.start
      rw [List.getElem?_append_left (by rw [List.length_map, rl]; exact hi), List.getElem?_map, hv]
      rfl
    · rw [List.getElem?_append_right (by rw [List.length_map]; omega)] at q
      have := List.mem_of_getElem? q
      rw [List.mem_replicate] at this
      rw [this.2]
      trivial
  · by_cases hi : i < ds.length
    · rw [List.getElem?_append_left (by rw [List.length_map]; exact hi), List.getElem?_map] at q
      obtain ⟨d, hd, z⟩ := Option.map_eq_some_iff.mp q
      cases z
    · rw [List.getElem?_append_right (by rw [List.length_map]; omega)] at q
      have := List.mem_of_getElem? q
      rw [List.mem_replicate] at this
      cases this.2
theorem goodS_of {c : Pm} {fs : List Str} {g : Gl} {N ps : List Str} {x : Str} {sc : Scope} {f : Addr} {cdv : Value} {A : Around} {outer : List PySem.Env} {s : Shared} {H : Hp} {E : XK} {k : Nat} (hK : c.K = K) (S : FnScope N ps sc) (M : Mods mg) (hds : g.ds = c.ds)
    (hr : Room k (A.deeper (envOfC x sc s.heap.objs.size f cdv)))
    (calls : ∀ i y, fs[i]? = some y → DefAt P w K mg base k y (spF c (g.call i))) (nx : c.aw ≠ none → DefAt P w K mg base k "_law_next" (spN c)) :
    GoodS (cxOf CX0 P w K mg base N x sc f cdv A outer s H E).nox c g fs where
  calm := rfl
  nd := S.nd
  hK := hK.symm
  xe := rfl
  hu := by
    have := hr.un
    show (A.deeper (envOfC x sc s.heap.objs.size f cdv)).units + 200 < cLine
    omega
  ds := hds
  bn := M.bn
  db := M.db
  fn := ⟨k, hr, fun i y e => ⟨(calls i y e).ex⟩, fun n => ⟨(nx n).ex⟩⟩
  hfn := rfl
  kd := S.kind
theorem fn_ok {c : Pm} (hK : c.K = K) {fs : List Str} {x : Str} {st : Stmt} {f : Addr} {fd : FuncData} {N ps : List Str} {fn : Fn} {g : Gl} {k : Nat} (F : L2.Fun K x x st f fd) (S : FnScope N ps (defScope st)) (hn : N.length = fn.sl) (hp : ps.length = fn.np)
    (hc : chkSs fs N (defScope st) fn.body (defBody st) = true) (M : Mods mg) (hds : g.ds = c.ds) (calls : ∀ i y, fs[i]? = some y → DefAt P w K mg base k y (spF c (g.call i))) (nx : c.aw ≠ none → DefAt P w K mg base k "_law_next" (spN c)) :
    FnOk P w K mg base CX0 (k + 1) f fd ps (spF c (fun ds => runF g fn ds)) := by
  have hle : fn.np ≤ fn.sl := by
    have := S.pre
    rw [← hn, ← hp, ← this, List.length_take]
    exact Nat.min_le_right _ _
  refine F.ok S (fun vs H Q E h => ?_) (fun cdv A outer s H vs Q E hr h => ?_)
  · obtain ⟨F, t, ds, r, t', _, _, rr, e, _⟩ := h
    have e : runF g fn ds t = some (r, t') := e
    unfold runF at e
    split at e
    · rename_i hl
      rw [rr.length, hl, hp]
    · cases e
  · obtain ⟨F, t, ds, r, t', he, tp, rr, e, p⟩ := h
    have e : runF g fn ds t = some (r, t') := e
    unfold runF at e
    split at e
    · rename_i hl
      obtain ⟨fl, t1, e1, e⟩ := bnd_some e
      obtain ⟨e2, rfl⟩ := opt_some e
      have G := goodS_of (P := P) (w := w) (base := base) (outer := outer) (H := H) (E := E) hK S M hds hr calls nx
      have sd := sound_ss G fn.body (defBody st) hc
      refine ⟨_, sd, F, H, F, entry fn ds, t, fl, _, entry_SR (n := 0) he tp rr hn hl hle, e1, ?_⟩
      cases fl with
      | nx ρ' =>
        cases e2
        exact fun σ' F' H' x S' => p _ F' H' S'.g S'.tp .non
      | rt r' =>
        cases e2
        exact fun v F' H' x g tp rr => p v F' H' g tp rr
      | bk ρ' => cases e2
      | ct ρ' => cases e2
    · cases e
/-- the defs of a program -/
structure Row (K : PySem.W.Frag) (mg : Str → Option Value) (fs : List Str) (fns : Nat → Option Fn) (i : Nat) (x : Str) : Prop where
  ex : ∃ st f fd N ps fn, fns i = some fn ∧ mg x = some (.ref f) ∧ L2.Fun K x x st f fd ∧ FnScope N ps (defScope st) ∧ N.length = fn.sl ∧ ps.length = fn.np ∧ chkSs fs N (defScope st) fn.body (defBody st) = true ∧ Binds K fd ps []
theorem all_ok {c : Pm} (hK : c.K = K) {fs : List Str} {fns : Nat → Option Fn} (M : Mods mg) (rows : ∀ i x, fs[i]? = some x → Row K mg fs fns i x) (nx : c.aw ≠ none → DefAt P w K mg base 1 "_law_next" (spN c)) :
    ∀ (k i : Nat) (x : Str), fs[i]? = some x → DefAt P w K mg base (k + 1) x (spF c (callF fns c.ds k i))
  | 0, i, x, h => by
    obtain ⟨st, f, fd, N, ps, fn, h1, h2, h3, h4, h5, h6, h7, h8⟩ := (rows i x h).ex
    refine ⟨f, fd, ps, h2, h3.kp, h8, ⟨fun vs H Q E q => ?_, fun A outer s H args us vs Q E hr e0 hb hv q => ?_⟩⟩
    · obtain ⟨_, _, _, _, _, _, _, _, e, _⟩ := q
      cases e
    · obtain ⟨_, _, _, _, _, _, _, _, e, _⟩ := q
      cases e
  | k + 1, i, x, h => by
    obtain ⟨st, f, fd, N, ps, fn, h1, h2, h3, h4, h5, h6, h7, h8⟩ := (rows i x h).ex
    refine ⟨f, fd, ps, h2, h3.kp, h8, ?_⟩
    have q := fn_ok (P := P) (w := w) (base := base) (k := k + 1) hK h3 h4 h5 h6 h7 M (g := ⟨c.ds, callF fns c.ds k⟩) rfl (all_ok hK M rows nx k) fun n => by
      obtain ⟨a, fd, ps, q1, q2, q3, q4⟩ := (nx n).ex
      exact ⟨a, fd, ps, q1, q2, q3, q4.mono (by omega)⟩
    refine q.imp fun vs H Q E z => ?_
    obtain ⟨F, t, ds, r, t', z1, z2, z3, z4, z5⟩ := z
    refine ⟨F, t, ds, r, t', z1, z2, z3, ?_, z5⟩
    unfold callF at z4
    rw [h1] at z4
    exact z4
/-! ### the next draw -/
theorem next_ok {c : Pm} (hK : c.K = K) {st : Stmt} {f : Addr} {fd : FuncData} (F : L2.Fun K "_law_next" "_law_next" st f fd) (S : FnScope ["w", "many"] ["w", "many"] (defScope st)) (M : Mods mg)
    {p1 p2 p3 p4 p5 p6 p7 p8 p9 p10 p11 p12 p13 p14 p15 p16 p17 p18 p19 p20 p21 p22 p23 p24 p25 p26 p27 p28 p29 p30 p31 : Pos} {j1 j2 j3 j4 j5 j6 j7 j8 : Nat}
    (hg1 : gl (defScope st) "len" = true) (hg2 : gl (defScope st) "int" = true) (hv : vis (defScope st) "w" = true) (hv2 : vis (defScope st) "many" = true)
    (hb : defBody st = [.AugAssign (.Subscript (.Name "w" p1) (.Constant (.str "at") j1 p2) p3) .Add (.Constant (.int 1) j2 p4) p5,
      .If (.Compare (.Subscript (.Name "w" p6) (.Constant (.str "at") j3 p7) p8) [.Gt] [.Call (.Name "len" p9) [.Subscript (.Name "w" p10) (.Constant (.str "draws") j4 p11) p12] [] p13] p14) [.Return (some (.Constant (.int 0) j5 p15)) p16] [] p17,
      .Return (some (.BinOp (.Call (.Name "int" p18) [.Subscript (.Subscript (.Name "w" p19) (.Constant (.str "draws") j6 p20) p21) (.BinOp (.Subscript (.Name "w" p22) (.Constant (.str "at") j7 p23) p24) .Sub (.Constant (.int 1) j8 p25) p26) p27] [] p28) .Mod (.Name "many" p29) p30)) p31]) :
    FnOk P w K mg base CX0 1 f fd ["w", "many"] (spN c) := by
  refine F.ok S (fun vs H Q E h => ?_) (fun cdv A outer s H vs Q E hr h => ?_)
  · obtain ⟨F, t, a, m, i, t', rfl, _⟩ := h
    rfl
  · obtain ⟨F, t, a, m, i, t', rfl, haw, he, tp, e, p⟩ := h
    have hu := hu_of hr
    obtain ⟨t1, t2, t3⟩ := tp.som haw
    rw [hb]
    have V0 : ∀ pos, PE (cxOf CX0 P w K mg base ["w", "many"] "_law_next" (defScope st) f cdv A outer s H E).nox (.Name "w" pos) (tVar 0) := fun pos => pe_slot (X := (cxOf CX0 P w K mg base ["w", "many"] "_law_next" (defScope st) f cdv A outer s H E).nox) (by
      show chkN ["w", "many"] (defScope st) 0 (.Name "w" pos) = true
      simp only [chkN, hv]
      rfl)
    have V1 : ∀ pos, PE (cxOf CX0 P w K mg base ["w", "many"] "_law_next" (defScope st) f cdv A outer s H E).nox (.Name "many" pos) (tVar 1) := fun pos => pe_slot (X := (cxOf CX0 P w K mg base ["w", "many"] "_law_next" (defScope st) f cdv A outer s H E).nox) (by
      show chkN ["w", "many"] (defScope st) 1 (.Name "many" pos) = true
      simp only [chkN, hv2]
      rfl)
    have g1 : L2.Gl (cxOf CX0 P w K mg base ["w", "many"] "_law_next" (defScope st) f cdv A outer s H E).nox "len" := gl_of hg1
    have g2 : L2.Gl (cxOf CX0 P w K mg base ["w", "many"] "_law_next" (defScope st) f cdv A outer s H E).nox "int" := gl_of hg2
    have W : ∀ {k : Str} {j : Nat} {q1 q2 q3 : Pos}, PE (cxOf CX0 P w K mg base ["w", "many"] "_law_next" (defScope st) f cdv A outer s H E).nox (.Subscript (.Name "w" q1) (.Constant (.str k) j q2) q3) (tDGet (tVar 0) (tC (.str k))) := fun {k j q1 q2 q3} => pe_dget hu (V0 _) pe_str (fun _ _ => rfl)
    refine ⟨_, pss_cons (ps_daug hu (V0 _) pe_str pe_int in_add fun _ _ _ => rfl)
      (pss_cons (ps_if (pt_cmpR op_gt W (pe_callB call_len_seq g1 (M.bn _ (by decide)) PySem.boot_len (pa_cons W pa_nil)) (nomark _)) (pss_one (ps_ret pe_int)) pss_nil)
      (pss_one (ps_ret (pe_op op_mod (pe_callTy call_int1 g2 (M.bn _ (by decide)) PyProof.Rows.boot_int (pa_cons (pe_ix ix_list W (pe_op op_sub W pe_int) (fun _ _ => rfl)) pa_nil)) (V1 _))))), ?_⟩
    -- w['at'] += 1
    refine ⟨.ref a, rfl, a, .int t, rfl, ?_, t, 1, rfl, rfl, ?_⟩
    · have := DGet.k (k := .inr "at") t1
      exact this
    have hput := DPut.k (k := .inr "at") (v := V.int (t + 1)) t1 (by show 2 < sizeLine; decide)
    refine ⟨_, hput, ?_⟩
    generalize hH2 : upd H a (HO.dK (putK [(Sum.inr (Str.ofString "draws"), V.ref c.ad), (Sum.inr (Str.ofString "at"), V.int (t : Int))] (Sum.inr "at") (V.int (t + 1)))) = H2
    have t1' : H2 a = some (.dK [(.inr "draws", .ref c.ad), (.inr "at", .int ((t + 1 : Nat) : Int))]) := by
      rw [← hH2, upd_same]
      rfl
    have nad : c.ad ≠ a := fun z => by
      rw [z] at t3
      rw [t3] at t2
      cases t2
    have h3 : H2 c.ad = some (.lst (c.ds.map V.int)) := by
      rw [← hH2, upd_ne nad]
      exact he _ _ t3
    have gr : Grow c F H F H2 := by
      refine ⟨Ext.refl _, fun b o n q => ?_, fun b q q' => absurd q q', fun b o q => ?_, tp.there, fun b q => ?_⟩
      · rw [← hH2, upd_ne (fun z => n (by rw [z]; exact haw))]
        exact q
      · rw [← hH2, upd_ne (fun z => by rw [z, t2] at q; cases q)]
        exact he b o q
      · rw [haw] at q
        cases q
        rw [t1']
        simp
    have tp2 : Tape c F H2 (t + 1) := tp.of gr fun b q => by
      rw [haw] at q
      cases q
      exact t1'
    have gAt : DGet H2 a (.str "at") (some (.int ((t + 1 : Nat) : Int))) := DGet.k (k := .inr "at") t1'
    have gDr : DGet H2 a (.str "draws") (some (.ref c.ad)) := DGet.k (k := .inr "draws") t1'
    -- if w['at'] > len(w['draws'])
    unfold nextD at e
    split at e
    · rename_i hm
      refine ⟨.ref a, rfl, a, _, rfl, gAt, .ref a, rfl, a, _, rfl, gDr, c.ad, _, rfl, .inl (.inl (.inl h3)), _, _, rfl, rfl, _, rfl, ite2 (fun q => ?_) (fun q => ?_)⟩
      · rw [List.length_map] at q
        have q := of_decide_eq_true q
        split at e
        · cases e
          exact p _ F H2 gr tp2 (Rep.int _)
        · rename_i hn
          exact absurd (by omega) hn
      · rw [List.length_map] at q
        have q : ¬ ((c.ds.length : Int) < ((t + 1 : Nat) : Int)) := fun z => q (decide_eq_true z)
        split at e
        · rename_i hn
          exact absurd (by omega) q
        · obtain ⟨x, hx, e⟩ := Option.map_eq_some_iff.mp e
          cases e
          refine ⟨.ref a, rfl, a, _, rfl, gDr, .ref a, rfl, a, _, rfl, gAt, _, _, rfl, rfl, c.ad, _, _, .int x, rfl, rfl, .inl (.inl h3), ?_, .inl ⟨x, rfl, .int m, rfl, x, m, rfl, rfl, hm, p _ F H2 gr tp2 (Rep.int _)⟩⟩
          have e1 : (((t + 1 : Nat) : Int) - 1) = ((t : Nat) : Int) := by omega
          rw [e1]
          refine atI_nat ?_
          rw [List.getElem?_map, hx]
          rfl
    · cases e
end
end Q
namespace Q
open PySem
/-! ### what a run comes to -/
structure Yes {α : Type} (m : M α) (t : Nat) (P : α → Nat → Prop) : Prop where
  get : ∃ a t', m t = some (a, t') ∧ P a t'
theorem Yes.of {α : Type} {m : M α} {t : Nat} {P : α → Nat → Prop} {a : α} {t' : Nat} (e : m t = some (a, t')) (h : P a t') : Yes m t P := ⟨a, t', e, h⟩
theorem Yes.mono {α : Type} {m : M α} {t : Nat} {P P' : α → Nat → Prop} (h : Yes m t P) (i : ∀ a t', P a t' → P' a t') : Yes m t P' := by
  obtain ⟨a, t', e, p⟩ := h.get
  exact .of e (i _ _ p)
theorem Yes.eq {α : Type} {m : M α} {t : Nat} {a : α} {t' : Nat} (h : Yes m t fun b u => b = a ∧ u = t') : m t = some (a, t') := by
  obtain ⟨b, u, e, rfl, rfl⟩ := h.get
  exact e
theorem yes_bnd {α β : Type} {m : M α} {f : α → M β} {t : Nat} {P : β → Nat → Prop} : Yes (bnd m f) t P = Yes m t fun a t' => Yes (f a) t' P := by
  refine propext ⟨fun h => ?_, fun h => ?_⟩
  · obtain ⟨b, u, e, p⟩ := h.get
    unfold bnd at e
    split at e
    · cases e
    · rename_i a t' e1
      exact .of e1 (.of e p)
  · obtain ⟨a, t', e, h⟩ := h.get
    obtain ⟨b, u, e2, p⟩ := h.get
    refine .of (a := b) (t' := u) ?_ p
    unfold bnd
    rw [e]
    exact e2
theorem bnd_ap {α β : Type} (m : M α) (f : α → M β) (t : Nat) : bnd m f t = match m t with
  | none => none
  | some (a, t') => f a t' := rfl
theorem opt_ap {α : Type} (o : Option α) (t : Nat) : opt o t = match o with
  | none => none
  | some a => some (a, t) := rfl
theorem bol_ap (o : Option Bool) (t : Nat) : bol o t = match o with
  | none => none
  | some b => some (⟨.sh, .bool b⟩, t) := rfl
theorem lstR_ap (xs : List D) (t : Nat) : lstR xs t = if xs.length ≤ lim then some (⟨.fr, .list xs⟩, t) else none := rfl
theorem tupR_ap (xs : List D) (t : Nat) : tupR xs t = if xs.length ≤ lim then some (⟨.sh, .tuple xs⟩, t) else none := rfl
theorem ite_ap {α : Type} (c : Prop) [Decidable c] (m n : M α) (t : Nat) : (if c then m else n) t = if c then m t else n t := by
  split <;> rfl
/-- what the rest of a block comes to, once a statement has ended so -/
structure Cont (g : Gl) (r : SS) (P : Fl → Nat → Prop) (fl : Fl) (t : Nat) : Prop where
  get : Yes (match fl with
    | .nx ρ' => execs g r ρ'
    | .rt v => ret (.rt v)
    | .bk ρ' => ret (.bk ρ')
    | .ct ρ' => ret (.ct ρ')) t P
theorem cont_nx {g : Gl} {r : SS} {P : Fl → Nat → Prop} {ρ : Env} {t : Nat} (h : Yes (execs g r ρ) t P) : Cont g r P (.nx ρ) t := ⟨h⟩
theorem cont_rt {g : Gl} {r : SS} {P : Fl → Nat → Prop} {v : R} {t : Nat} (h : P (.rt v) t) : Cont g r P (.rt v) t := ⟨.of rfl h⟩
theorem cont_bk {g : Gl} {r : SS} {P : Fl → Nat → Prop} {ρ : Env} {t : Nat} (h : P (.bk ρ) t) : Cont g r P (.bk ρ) t := ⟨.of rfl h⟩
theorem cont_ct {g : Gl} {r : SS} {P : Fl → Nat → Prop} {ρ : Env} {t : Nat} (h : P (.ct ρ) t) : Cont g r P (.ct ρ) t := ⟨.of rfl h⟩
section
variable {g : Gl} {s : S} {r x y b : SS} {ρ ρ' : Env} {t t' : Nat} {P : Fl → Nat → Prop} {c : T} {tg : Tg} {it : It}
theorem yes_cons (h : Yes (exec g s ρ) t (Cont g r P)) : Yes (execs g (.cons s r) ρ) t P := by
  rw [show execs g (.cons s r) ρ = bnd (exec g s ρ) fun fl => match fl with
    | .nx ρ' => execs g r ρ'
    | .rt v => ret (.rt v)
    | .bk ρ' => ret (.bk ρ')
    | .ct ρ' => ret (.ct ρ') by rw [execs] <;> rfl, yes_bnd]
  exact h.mono fun fl u q => q.get
theorem step (e : exec g s ρ t = some (.nx ρ', t')) (k : Yes (execs g r ρ') t' P) : Yes (execs g (.cons s r) ρ) t P := yes_cons (.of e (cont_nx k))
theorem step_rt {v : R} (e : exec g s ρ t = some (.rt v, t')) (k : P (.rt v) t') : Yes (execs g (.cons s r) ρ) t P := yes_cons (.of e (cont_rt k))
theorem step_bk (e : exec g s ρ t = some (.bk ρ', t')) (k : P (.bk ρ') t') : Yes (execs g (.cons s r) ρ) t P := yes_cons (.of e (cont_bk k))
theorem step_ct (e : exec g s ρ t = some (.ct ρ', t')) (k : P (.ct ρ') t') : Yes (execs g (.cons s r) ρ) t P := yes_cons (.of e (cont_ct k))
theorem step_frz {i : Nat} (k : Yes (execs g r (frzE ρ i)) t P) : Yes (execs g (.frz i r) ρ) t P := by
  rw [execs]
  exact k
theorem step_nil (k : P (.nx ρ) t) : Yes (execs g .nil ρ) t P := by
  rw [execs]
  exact .of rfl k
theorem step_ite {k : Bool} (e : evT g c ρ t = some (k, t')) (h1 : k = true → Yes (execs g x ρ) t' (Cont g r P)) (h2 : k = false → Yes (execs g y ρ) t' (Cont g r P)) : Yes (execs g (.cons (.ite c x y) r) ρ) t P := by
  refine yes_cons ?_
  rw [exec, yes_bnd]
  refine .of e ?_
  cases k with
  | true => exact h1 rfl
  | false => exact h2 rfl
/-- what a turn of a loop must come to -/
structure Turn (I : Env → Nat → Prop) (K : Env → Nat → Prop) (P : Fl → Nat → Prop) (fl : Fl) (t : Nat) : Prop where
  get : match fl with
    | .nx ρ' => I ρ' t
    | .ct ρ' => I ρ' t
    | .bk ρ' => K ρ' t
    | .rt v => P (.rt v) t
theorem turn_nx {I K : Env → Nat → Prop} (h : I ρ t) : Turn I K P (.nx ρ) t := ⟨h⟩
theorem turn_ct {I K : Env → Nat → Prop} (h : I ρ t) : Turn I K P (.ct ρ) t := ⟨h⟩
theorem turn_bk {I K : Env → Nat → Prop} (h : K ρ t) : Turn I K P (.bk ρ) t := ⟨h⟩
theorem turn_rt {I K : Env → Nat → Prop} {v : R} (h : P (.rt v) t) : Turn I K P (.rt v) t := ⟨h⟩
theorem step_for {xs : List D} (e : evI g it ρ t = some ((true, xs), t')) (I : Nat → Env → Nat → Prop) (h0 : I 0 ρ t')
    (hs : ∀ i d ρ t, xs[i]? = some d → I i ρ t → ∃ ρ1, bind1 tg d ρ = some ρ1 ∧ Yes (execs g b ρ1) t (Turn (I (i + 1)) (fun ρ t => Yes (execs g r ρ) t P) P))
    (he : ∀ ρ t, I xs.length ρ t → Yes (execs g r ρ) t P) : Yes (execs g (.cons (.frr tg it b) r) ρ) t P := by
  refine yes_cons ?_
  rw [exec, yes_bnd]
  refine .of e ?_
  show Yes (forM xs _ ρ) t' _
  clear e
  induction xs generalizing ρ t' I with
  | nil => exact .of rfl (cont_nx (he _ _ h0))
  | cons d xs ih =>
    unfold forM
    rw [yes_bnd, yes_bnd]
    obtain ⟨ρ1, e1, h1⟩ := hs 0 d ρ t' rfl h0
    rw [e1]
    refine .of rfl (h1.mono fun fl t' q => ?_)
    have q := q.get
    cases fl with
    | nx ρ' => exact ih (fun i => I (i + 1)) q (fun i x ρ t e => hs (i + 1) x ρ t e) he
    | ct ρ' => exact ih (fun i => I (i + 1)) q (fun i x ρ t e => hs (i + 1) x ρ t e) he
    | bk ρ' => exact .of rfl (cont_nx q)
    | rt v => exact .of rfl (cont_rt q)
end
/-! ### the operators by their cases -/
section
variable {k k' : Kd} {a b : Int} {x y : D} {xs ys : List D}
theorem op_add : opD .add ⟨k, .int a⟩ ⟨k', .int b⟩ = some ⟨.sh, .int (a + b)⟩ := rfl
theorem op_sub : opD .sub ⟨k, .int a⟩ ⟨k', .int b⟩ = some ⟨.sh, .int (a - b)⟩ := rfl
theorem op_mulR (h : intB b = true) : opD .mul ⟨k, .int a⟩ ⟨k', .int b⟩ = some ⟨.sh, .int (a * b)⟩ := by
  show (if (intB a || intB b) = true then _ else _) = _
  rw [h, Bool.or_true]
  rfl
theorem op_mulL (h : intB a = true) : opD .mul ⟨k, .int a⟩ ⟨k', .int b⟩ = some ⟨.sh, .int (a * b)⟩ := by
  show (if (intB a || intB b) = true then _ else _) = _
  rw [h, Bool.true_or]
  rfl
theorem op_fdiv (h : 0 < b) (h2 : b < 1073741824) : opD .fdiv ⟨k, .int a⟩ ⟨k', .int b⟩ = some ⟨.sh, .int (a / b)⟩ := if_pos ⟨h, by omega⟩
theorem op_mod (h : 0 < b) : opD .mod ⟨k, .int a⟩ ⟨k', .int b⟩ = some ⟨.sh, .int (a % b)⟩ := if_pos h
theorem op_mulRi (h1 : -18446744073709551616 < b) (h2 : b < 18446744073709551616) : opD .mul ⟨k, .int a⟩ ⟨k', .int b⟩ = some ⟨.sh, .int (a * b)⟩ := op_mulR (intB_iff.mpr ⟨h1, h2⟩)
theorem op_mulLi (h1 : -18446744073709551616 < a) (h2 : a < 18446744073709551616) : opD .mul ⟨k, .int a⟩ ⟨k', .int b⟩ = some ⟨.sh, .int (a * b)⟩ := op_mulL (intB_iff.mpr ⟨h1, h2⟩)
theorem cp_lt : cpD .lt (.int a) (.int b) = some (decide (a < b)) := rfl
theorem cp_le : cpD .le (.int a) (.int b) = some (decide (a ≤ b)) := rfl
theorem cp_gt : cpD .gt (.int a) (.int b) = some (decide (b < a)) := rfl
theorem cp_ge : cpD .ge (.int a) (.int b) = some (decide (b ≤ a)) := rfl
theorem int_small (h1 : -18446744073709551616 < a) (h2 : a < 18446744073709551616) : intB a = true := intB_iff.mpr ⟨h1, h2⟩
end
/-! ### the draws -/
def drawsB : SS :=
  (.cons (.asg (.nm 2) (.lst .nil)) (.cons (.asg (.nm 3) (.cst (.int 7))) (.cons (.frr (.nm 4) (.rng1 (.blt .len (.cons (.var 0) .nil))) (.cons (.asg (.nm 5) (.blt .abs (.cons (.blt .int (.cons (.ix (.var 0) (.var 4)) .nil)) .nil))) (.cons (.asg (.nm 3) (.bin .mod (.blt .int (.cons (.bin .add (.bin .add (.bin .mul (.var 3) (.cst (.int 48271))) (.bin .mod (.var 5) (.cst (.int 1000003)))) (.var 4)) .nil)) (.cst (.int 65537)))) (.cons (.asg (.nm 6) (.cst (.int 0))) (.cons (.ite (.cmp .ge (.var 5) (.bin .pow (.cst (.int 10)) (.cst (.int 18)))) (.cons (.asg (.nm 6) (.var 5)) .nil) (.cons (.app 2 (.bin .mod (.blt .int (.cons (.var 5) .nil)) (.cst (.int 997)))) (.cons (.app 2 (.bin .mod (.bin .mod (.blt .int (.cons (.bin .add (.bin .mul (.var 3) (.cst (.int 69621))) (.cst (.int 5))) .nil)) (.cst (.int 65521))) (.cst (.int 997)))) .nil))) (.cons (.frr (.nm 7) (.rng1 (.cst (.int 60))) (.cons (.ite (.cmp .gt (.var 6) (.cst (.int 0))) (.cons (.app 2 (.bin .mod (.blt .int (.cons (.var 6) .nil)) (.cst (.int 997)))) (.cons (.asg (.nm 6) (.bin .fdiv (.var 6) (.cst (.int 997)))) .nil)) .nil) .nil)) .nil)))))) (.cons (.frr (.nm 4) (.rng1 (.var 1)) (.cons (.asg (.nm 3) (.bin .mod (.blt .int (.cons (.bin .add (.bin .add (.bin .mul (.var 3) (.cst (.int 16807))) (.var 4)) (.cst (.int 1))) .nil)) (.cst (.int 65537)))) (.cons (.app 2 (.bin .mod (.blt .int (.cons (.var 3) .nil)) (.cst (.int 997)))) .nil))) (.cons (.ret (.sl (.var 2) .no (.so (.var 1)))) .nil)))))
def IsDraws (l : List D) : Prop := ∃ ds : List Int, l = ds.map .int ∧ ∀ d ∈ ds, 0 ≤ d ∧ d < 997
theorem IsDraws.nil : IsDraws [] := ⟨[], rfl, fun _ h => nomatch h⟩
theorem IsDraws.snoc {l : List D} {x : Int} (h : IsDraws l) (h1 : 0 ≤ x) (h2 : x < 997) : IsDraws (l ++ [.int x]) := by
  obtain ⟨ds, rfl, q⟩ := h
  refine ⟨ds ++ [x], by rw [List.map_append]; rfl, fun d hd => ?_⟩
  rcases List.mem_append.mp hd with hd | hd
  · exact q d hd
  · cases List.mem_singleton.mp hd
    exact ⟨h1, h2⟩
theorem IsDraws.mod {l : List D} {x : Int} (h : IsDraws l) : IsDraws (l ++ [.int (x % 997)]) := h.snoc (Int.emod_nonneg _ (by decide)) (Int.emod_lt_of_pos _ (by decide))
theorem rangeL_get {a b : Int} {i : Nat} {x : D} (h : (rangeL a b)[i]? = some x) : x = .int (a + i) ∧ i < (b - a).toNat := by
  unfold rangeL at h
  rw [List.getElem?_map] at h
  obtain ⟨j, h1, h2⟩ := Option.map_eq_some_iff.mp h
  obtain ⟨h3, h4⟩ := List.getElem?_eq_some_iff.mp h1
  rw [List.length_range] at h3
  rw [List.getElem_range] at h4
  subst h4
  exact ⟨h2.symm, h3⟩
theorem rangeL_len {a b : Int} : (rangeL a b).length = (b - a).toNat := by simp [rangeL]
theorem it_rng1 {g : Gl} {a : E} {i : Int} {k : Kd} {ρ : Env} {t t' : Nat} (e : ev g a ρ t = some (⟨k, .int i⟩, t')) (h : rngB i = true) : evI g (.rng1 a) ρ t = some ((true, rangeL 0 i), t') := by
  rw [evI, bnd_ap, e]
  show ((if rngB i = true then ret (true, rangeL 0 i) else fail : M (Bool × List D)) t') = _
  rw [if_pos h]
theorem it_rng2 {g : Gl} {a b : E} {i j : Int} {k k' : Kd} {ρ : Env} {t t' t2 : Nat} (e : ev g a ρ t = some (⟨k, .int i⟩, t')) (e2 : ev g b ρ t' = some (⟨k', .int j⟩, t2)) (h : rngB i = true) (h2 : rngB j = true) :
    evI g (.rng2 a b) ρ t = some ((true, rangeL i j), t2) := by
  rw [evI, bnd_ap, e]
  show bnd (ev g b ρ) _ t' = _
  rw [bnd_ap, e2]
  show ((if (rngB i && rngB j) = true then ret (true, rangeL i j) else fail : M (Bool × List D)) t2) = _
  rw [h, h2]
  rfl
theorem rng_ok {i : Int} (h1 : -4611686018427387904 < i) (h2 : i < 4611686018427387904) : rngB i = true := by
  have : i.natAbs < 4611686018427387904 := by omega
  exact decide_eq_true this
/-- the state of the loop over the script -/
def DI (ns : List Int) (n : Int) (top : Nat) (ρ : Env) : Prop := ∃ l m s4 s5 s6 s7, ρ = [.ro (.list (ns.map .int)), .sh (.int n), .ow (.list l), .sh (.int m), s4, s5, s6, s7] ∧ IsDraws l ∧ l.length ≤ top
theorem app_ok {ρ : Env} {i : Nat} {y : D} {xs : List D} (e : ρ[i]? = some (.ow (.list xs))) (h : xs.length < lim) : appD ρ i y = some (ρ.set i (.ow (.list (xs ++ [y])))) := by
  unfold appD
  rw [e]
  exact if_pos h
theorem step_app {g : Gl} {i : Nat} {e : E} {r : SS} {ρ : Env} {t t' : Nat} {P : Fl → Nat → Prop} {y : D} {xs : List D} (he : ev g e ρ t = some (⟨.sh, y⟩, t')) (hi : ρ[i]? = some (.ow (.list xs))) (h : xs.length < lim)
    (k : Yes (execs g r (ρ.set i (.ow (.list (xs ++ [y]))))) t' P) : Yes (execs g (.cons (.app i e) r) ρ) t P := by
  refine step (ρ' := ρ.set i (.ow (.list (xs ++ [y])))) (t' := t') ?_ k
  rw [exec, bnd_ap, he]
  show bnd (opt (some y)) _ t' = _
  rw [bnd_ap, opt_ap]
  show bnd (opt (appD ρ i y)) _ t' = _
  rw [app_ok hi h]
  rfl
theorem pow_1018 {k k' : Kd} : opD .pow ⟨k, .int 10⟩ ⟨k', .int 18⟩ = some ⟨.sh, .int 1000000000000000000⟩ := by
  show (if (0 : Int) ≤ 18 ∧ (18 : Int).natAbs ≤ 1000000 ∧ (10 : Int).natAbs < 18446744073709551616 then some (shd (.int (10 ^ (18 : Int).toNat))) else none) = _
  rw [if_pos (by decide)]
  have : (10 : Int) ^ (18 : Int).toNat = 1000000000000000000 := by decide
  rw [this]
  rfl
theorem draws_run (g : Gl) (ns : List Int) (n : Nat) (hn : n ≤ 1000) (hl : ns.length ≤ 63) (t : Nat) :
    ∃ ds : List Int, ds.length = n ∧ (∀ d ∈ ds, 0 ≤ d ∧ d < 997) ∧ execs g drawsB [.ro (.list (ns.map .int)), .sh (.int n), .un, .un, .un, .un, .un, .un] t = some (.rt ⟨.fr, .list (ds.map .int)⟩, t) := by
  have key : Yes (execs g drawsB [.ro (.list (ns.map .int)), .sh (.int n), .un, .un, .un, .un, .un, .un]) t fun fl t' => t' = t ∧ ∃ ds : List Int, ds.length = n ∧ (∀ d ∈ ds, 0 ≤ d ∧ d < 997) ∧ fl = .rt ⟨.fr, .list (ds.map .int)⟩ := by
    unfold drawsB
    have hr60 : rngB 60 = true := by decide
    have hpow : ∀ k k' : Kd, opD .pow ⟨k, .int 10⟩ ⟨k', .int 18⟩ = some ⟨.sh, .int 1000000000000000000⟩ := fun _ _ => pow_1018
    refine step (by simp only [↓Q.exec, ↓ev, ↓evL, ↓evT, ↓evO, ↓evI, ↓bnd_ap, ↓opt_ap, ↓bol_ap, ↓ite_ap, ↓lstR_ap, ↓tupR_ap, Q.ret, getS, List.getElem?_cons_succ, List.getElem?_cons_zero, op_add, op_sub, op_mod, op_fdiv, Int.reduceLT, shd, bltD, store, shared, Q.bind1, Q.bindL, Option.bind_some, List.set_cons_succ, List.set_cons_zero, Bool.or_true, Bool.true_or, Bool.and_self, decide_true, op_mulRi, op_mulLi, op_mulR, op_mulL, Int.reduceNeg, List.mapM_nil, List.mapM_cons, Option.pure_def, Option.bind_eq_bind, List.length_nil, lim, Nat.zero_le, ↓reduceIte, List.length_cons, Nat.reduceAdd, Nat.reduceLeDiff]; rfl) ?_
    refine step (by simp only [↓Q.exec, ↓ev, ↓evL, ↓evT, ↓evO, ↓evI, ↓bnd_ap, ↓opt_ap, ↓bol_ap, ↓ite_ap, ↓lstR_ap, ↓tupR_ap, Q.ret, getS, List.getElem?_cons_succ, List.getElem?_cons_zero, op_add, op_sub, op_mod, op_fdiv, Int.reduceLT, shd, bltD, store, shared, Q.bind1, Q.bindL, Option.bind_some, List.set_cons_succ, List.set_cons_zero, Bool.or_true, Bool.true_or, Bool.and_self, decide_true, op_mulRi, op_mulLi, op_mulR, op_mulL, Int.reduceNeg, List.mapM_nil, List.mapM_cons, Option.pure_def, Option.bind_eq_bind, List.length_nil, lim, Nat.zero_le, ↓reduceIte, List.length_cons, Nat.reduceAdd, Nat.reduceLeDiff]; rfl) ?_
    have hlen : (ns.map PyData.int).length = ns.length := List.length_map ..
    have hr : rngB (ns.map PyData.int).length = true := by
      rw [hlen]
      exact rng_ok (by omega) (by omega)
    refine step_for (xs := rangeL 0 ((ns.map PyData.int).length : Nat)) (t' := t) ?_ (fun i ρ t' => t' = t ∧ DI ns n (60 * i) ρ) ⟨rfl, [], 7, .un, .un, .un, .un, rfl, .nil, Nat.le_refl _⟩ ?_ ?_
    · rw [evI, bnd_ap]
      show (bnd (opt (some (((ns.map PyData.int).length : Nat) : Int))) _ t) = _
      rw [bnd_ap, opt_ap]
      show ((if rngB (ns.map PyData.int).length = true then ret (true, rangeL 0 ((ns.map PyData.int).length : Nat)) else fail : M (Bool × List D)) t) = _
      rw [if_pos hr]
    · rintro i d ρ u hd ⟨rfl, l, m, s4, s5, s6, s7, rfl, hI, hle⟩
      obtain ⟨rfl, hi⟩ := rangeL_get hd
      have hi' : i < ns.length := by rw [hlen] at hi; omega
      refine ⟨_, rfl, ?_⟩
      have hx : L2.atI (ns.map PyData.int) ((0 : Int) + (i : Nat)) = some (.int ns[i]) := by
        rw [Int.zero_add]
        refine L2.atI_nat ?_
        rw [List.getElem?_map, List.getElem?_eq_getElem hi']
        rfl
      refine step (ρ' := [.ro (.list (ns.map .int)), .sh (.int n), .ow (.list l), .sh (.int m), .sh (.int (0 + (i : Nat))), .sh (.int (if ns[i] < 0 then -ns[i] else ns[i])), s6, s7]) (t' := u) ?_ ?_
      · simp only [↓Q.exec, ↓ev, ↓evL, ↓evT, ↓evO, ↓evI, ↓bnd_ap, ↓opt_ap, ↓bol_ap, ↓ite_ap, ↓lstR_ap, ↓tupR_ap, Q.ret, getS, List.getElem?_cons_succ, List.getElem?_cons_zero, op_add, op_sub, op_mod, op_fdiv, Int.reduceLT, shd, bltD, store, shared, Q.bind1, Q.bindL, Option.bind_some, List.set_cons_succ, List.set_cons_zero, Bool.or_true, Bool.true_or, Bool.and_self, decide_true, op_mulRi, op_mulLi, op_mulR, op_mulL, Int.reduceNeg, List.mapM_nil, List.mapM_cons, Option.pure_def, Option.bind_eq_bind, List.length_nil, lim, Nat.zero_le, ↓reduceIte, List.length_cons, Nat.reduceAdd, Nat.reduceLeDiff, ixD, hx, Option.map_some]
      refine step (by simp only [↓Q.exec, ↓ev, ↓evL, ↓evT, ↓evO, ↓evI, ↓bnd_ap, ↓opt_ap, ↓bol_ap, ↓ite_ap, ↓lstR_ap, ↓tupR_ap, Q.ret, getS, List.getElem?_cons_succ, List.getElem?_cons_zero, op_add, op_sub, op_mod, op_fdiv, Int.reduceLT, shd, bltD, store, shared, Q.bind1, Q.bindL, Option.bind_some, List.set_cons_succ, List.set_cons_zero, Bool.or_true, Bool.true_or, Bool.and_self, decide_true, op_mulRi, op_mulLi, op_mulR, op_mulL, Int.reduceNeg, List.mapM_nil, List.mapM_cons, Option.pure_def, Option.bind_eq_bind, List.length_nil, lim, Nat.zero_le, ↓reduceIte, List.length_cons, Nat.reduceAdd, Nat.reduceLeDiff]; rfl) ?_
      refine step (by simp only [↓Q.exec, ↓ev, ↓evL, ↓evT, ↓evO, ↓evI, ↓bnd_ap, ↓opt_ap, ↓bol_ap, ↓ite_ap, ↓lstR_ap, ↓tupR_ap, Q.ret, getS, List.getElem?_cons_succ, List.getElem?_cons_zero, op_add, op_sub, op_mod, op_fdiv, Int.reduceLT, shd, bltD, store, shared, Q.bind1, Q.bindL, Option.bind_some, List.set_cons_succ, List.set_cons_zero, Bool.or_true, Bool.true_or, Bool.and_self, decide_true, op_mulRi, op_mulLi, op_mulR, op_mulL, Int.reduceNeg, List.mapM_nil, List.mapM_cons, Option.pure_def, Option.bind_eq_bind, List.length_nil, lim, Nat.zero_le, ↓reduceIte, List.length_cons, Nat.reduceAdd, Nat.reduceLeDiff]; rfl) ?_
      generalize (if ns[i] < 0 then -ns[i] else ns[i]) = cell
      refine step_ite (k := decide ((1000000000000000000 : Int) ≤ cell)) (t' := u) (by simp only [↓Q.exec, ↓ev, ↓evL, ↓evT, ↓evO, ↓evI, ↓bnd_ap, ↓opt_ap, ↓bol_ap, ↓ite_ap, ↓lstR_ap, ↓tupR_ap, Q.ret, getS, List.getElem?_cons_succ, List.getElem?_cons_zero, op_add, op_sub, op_mod, op_fdiv, Int.reduceLT, shd, bltD, store, shared, Q.bind1, Q.bindL, Option.bind_some, List.set_cons_succ, List.set_cons_zero, Bool.or_true, Bool.true_or, Bool.and_self, decide_true, op_mulRi, op_mulLi, op_mulR, op_mulL, Int.reduceNeg, List.mapM_nil, List.mapM_cons, Option.pure_def, Option.bind_eq_bind, List.length_nil, lim, Nat.zero_le, ↓reduceIte, List.length_cons, Nat.reduceAdd, Nat.reduceLeDiff, hpow, cp_ge]) (fun _ => ?_) (fun _ => ?_)
      · refine step (by simp only [↓Q.exec, ↓ev, ↓evL, ↓evT, ↓evO, ↓evI, ↓bnd_ap, ↓opt_ap, ↓bol_ap, ↓ite_ap, ↓lstR_ap, ↓tupR_ap, Q.ret, getS, List.getElem?_cons_succ, List.getElem?_cons_zero, op_add, op_sub, op_mod, op_fdiv, Int.reduceLT, shd, bltD, store, shared, Q.bind1, Q.bindL, Option.bind_some, List.set_cons_succ, List.set_cons_zero, Bool.or_true, Bool.true_or, Bool.and_self, decide_true, op_mulRi, op_mulLi, op_mulR, op_mulL, Int.reduceNeg, List.mapM_nil, List.mapM_cons, Option.pure_def, Option.bind_eq_bind, List.length_nil, lim, Nat.zero_le, ↓reduceIte, List.length_cons, Nat.reduceAdd, Nat.reduceLeDiff]; rfl) ?_
        refine step_nil (cont_nx ?_)
        refine step_for (xs := rangeL 0 60) (t' := u) (by simp only [↓Q.exec, ↓ev, ↓evL, ↓evT, ↓evO, ↓evI, ↓bnd_ap, ↓opt_ap, ↓bol_ap, ↓ite_ap, ↓lstR_ap, ↓tupR_ap, Q.ret, getS, List.getElem?_cons_succ, List.getElem?_cons_zero, op_add, op_sub, op_mod, op_fdiv, Int.reduceLT, shd, bltD, store, shared, Q.bind1, Q.bindL, Option.bind_some, List.set_cons_succ, List.set_cons_zero, Bool.or_true, Bool.true_or, Bool.and_self, decide_true, op_mulRi, op_mulLi, op_mulR, op_mulL, Int.reduceNeg, List.mapM_nil, List.mapM_cons, Option.pure_def, Option.bind_eq_bind, List.length_nil, lim, Nat.zero_le, ↓reduceIte, List.length_cons, Nat.reduceAdd, Nat.reduceLeDiff, intOf, hr60]) (fun j ρ t' => t' = u ∧ ∃ l m s4 s5 z s7, ρ = [.ro (.list (ns.map .int)), .sh (.int n), .ow (.list l), .sh (.int m), s4, s5, .sh (.int z), s7] ∧ IsDraws l ∧ l.length ≤ 60 * i + j) ⟨rfl, l, _, _, _, _, _, rfl, hI, hle⟩ ?_ ?_
        · rintro j d ρ u' hd' ⟨rfl, l, m, s4, s5, z, s7, rfl, hI, hle⟩
          obtain ⟨rfl, hj⟩ := rangeL_get hd'
          refine ⟨_, rfl, ?_⟩
          refine step_ite (k := decide ((0 : Int) < z)) (t' := u') (by simp only [↓Q.exec, ↓ev, ↓evL, ↓evT, ↓evO, ↓evI, ↓bnd_ap, ↓opt_ap, ↓bol_ap, ↓ite_ap, ↓lstR_ap, ↓tupR_ap, Q.ret, getS, List.getElem?_cons_succ, List.getElem?_cons_zero, op_add, op_sub, op_mod, op_fdiv, Int.reduceLT, shd, bltD, store, shared, Q.bind1, Q.bindL, Option.bind_some, List.set_cons_succ, List.set_cons_zero, Bool.or_true, Bool.true_or, Bool.and_self, decide_true, op_mulRi, op_mulLi, op_mulR, op_mulL, Int.reduceNeg, List.mapM_nil, List.mapM_cons, Option.pure_def, Option.bind_eq_bind, List.length_nil, lim, Nat.zero_le, ↓reduceIte, List.length_cons, Nat.reduceAdd, Nat.reduceLeDiff, cp_gt]) (fun _ => ?_) (fun _ => ?_)
          · refine step_app (y := .int (z % 997)) (xs := l) (by simp only [↓Q.exec, ↓ev, ↓evL, ↓evT, ↓evO, ↓evI, ↓bnd_ap, ↓opt_ap, ↓bol_ap, ↓ite_ap, ↓lstR_ap, ↓tupR_ap, Q.ret, getS, List.getElem?_cons_succ, List.getElem?_cons_zero, op_add, op_sub, op_mod, op_fdiv, Int.reduceLT, shd, bltD, store, shared, Q.bind1, Q.bindL, Option.bind_some, List.set_cons_succ, List.set_cons_zero, Bool.or_true, Bool.true_or, Bool.and_self, decide_true, op_mulRi, op_mulLi, op_mulR, op_mulL, Int.reduceNeg, List.mapM_nil, List.mapM_cons, Option.pure_def, Option.bind_eq_bind, List.length_nil, lim, Nat.zero_le, ↓reduceIte, List.length_cons, Nat.reduceAdd, Nat.reduceLeDiff]; rfl) rfl ?_ ?_
            · have : lim = 16777216 := rfl
              omega
            refine step (by simp only [↓Q.exec, ↓ev, ↓evL, ↓evT, ↓evO, ↓evI, ↓bnd_ap, ↓opt_ap, ↓bol_ap, ↓ite_ap, ↓lstR_ap, ↓tupR_ap, Q.ret, getS, List.getElem?_cons_succ, List.getElem?_cons_zero, op_add, op_sub, op_mod, op_fdiv, Int.reduceLT, shd, bltD, store, shared, Q.bind1, Q.bindL, Option.bind_some, List.set_cons_succ, List.set_cons_zero, Bool.or_true, Bool.true_or, Bool.and_self, decide_true, op_mulRi, op_mulLi, op_mulR, op_mulL, Int.reduceNeg, List.mapM_nil, List.mapM_cons, Option.pure_def, Option.bind_eq_bind, List.length_nil, lim, Nat.zero_le, ↓reduceIte, List.length_cons, Nat.reduceAdd, Nat.reduceLeDiff]; rfl) ?_
            refine step_nil (cont_nx ?_)
            refine step_nil (turn_nx ?_)
            exact ⟨rfl, _, _, _, _, _, _, rfl, hI.mod, by rw [List.length_append]; show l.length + 1 ≤ _; omega⟩
          · refine step_nil (cont_nx ?_)
            refine step_nil (turn_nx ?_)
            exact ⟨rfl, _, _, _, _, _, _, rfl, hI, by omega⟩
        · rintro ρ u' ⟨rfl, l, m, s4, s5, z, s7, rfl, hI, hle⟩
          refine step_nil (turn_nx ?_)
          refine ⟨rfl, _, _, _, _, _, _, rfl, hI, ?_⟩
          have : (rangeL 0 60).length = 60 := rangeL_len
          omega
      · have hlm : lim = 16777216 := rfl
        refine step_app (y := .int (cell % 997)) (xs := l) (by simp only [↓Q.exec, ↓ev, ↓evL, ↓evT, ↓evO, ↓evI, ↓bnd_ap, ↓opt_ap, ↓bol_ap, ↓ite_ap, ↓lstR_ap, ↓tupR_ap, Q.ret, getS, List.getElem?_cons_succ, List.getElem?_cons_zero, op_add, op_sub, op_mod, op_fdiv, Int.reduceLT, shd, bltD, store, shared, Q.bind1, Q.bindL, Option.bind_some, List.set_cons_succ, List.set_cons_zero, Bool.or_true, Bool.true_or, Bool.and_self, decide_true, op_mulRi, op_mulLi, op_mulR, op_mulL, Int.reduceNeg, List.mapM_nil, List.mapM_cons, Option.pure_def, Option.bind_eq_bind, List.length_nil, lim, Nat.zero_le, ↓reduceIte, List.length_cons, Nat.reduceAdd, Nat.reduceLeDiff]; rfl) rfl (by omega) ?_
        refine step_app (y := .int (_ % 65521 % 997)) (xs := l ++ [.int (cell % 997)]) (by simp only [↓Q.exec, ↓ev, ↓evL, ↓evT, ↓evO, ↓evI, ↓bnd_ap, ↓opt_ap, ↓bol_ap, ↓ite_ap, ↓lstR_ap, ↓tupR_ap, Q.ret, getS, List.getElem?_cons_succ, List.getElem?_cons_zero, op_add, op_sub, op_mod, op_fdiv, Int.reduceLT, shd, bltD, store, shared, Q.bind1, Q.bindL, Option.bind_some, List.set_cons_succ, List.set_cons_zero, Bool.or_true, Bool.true_or, Bool.and_self, decide_true, op_mulRi, op_mulLi, op_mulR, op_mulL, Int.reduceNeg, List.mapM_nil, List.mapM_cons, Option.pure_def, Option.bind_eq_bind, List.length_nil, lim, Nat.zero_le, ↓reduceIte, List.length_cons, Nat.reduceAdd, Nat.reduceLeDiff]; rfl) rfl (by rw [List.length_append]; show l.length + 1 < _; omega) ?_
        refine step_nil (cont_nx ?_)
        refine step_for (xs := rangeL 0 60) (t' := u) (by simp only [↓Q.exec, ↓ev, ↓evL, ↓evT, ↓evO, ↓evI, ↓bnd_ap, ↓opt_ap, ↓bol_ap, ↓ite_ap, ↓lstR_ap, ↓tupR_ap, Q.ret, getS, List.getElem?_cons_succ, List.getElem?_cons_zero, op_add, op_sub, op_mod, op_fdiv, Int.reduceLT, shd, bltD, store, shared, Q.bind1, Q.bindL, Option.bind_some, List.set_cons_succ, List.set_cons_zero, Bool.or_true, Bool.true_or, Bool.and_self, decide_true, op_mulRi, op_mulLi, op_mulR, op_mulL, Int.reduceNeg, List.mapM_nil, List.mapM_cons, Option.pure_def, Option.bind_eq_bind, List.length_nil, lim, Nat.zero_le, ↓reduceIte, List.length_cons, Nat.reduceAdd, Nat.reduceLeDiff, intOf, hr60]) (fun j ρ t' => t' = u ∧ ∃ l m s4 s5 s7, ρ = [.ro (.list (ns.map .int)), .sh (.int n), .ow (.list l), .sh (.int m), s4, s5, .sh (.int 0), s7] ∧ IsDraws l ∧ l.length ≤ 60 * i + 2) ⟨rfl, _, _, _, _, _, rfl, hI.mod.mod, by rw [List.length_append, List.length_append]; show l.length + 1 + 1 ≤ _; omega⟩ ?_ ?_
        · rintro j d ρ u' hd' ⟨rfl, l, m, s4, s5, s7, rfl, hI, hle⟩
          refine ⟨_, rfl, ?_⟩
          refine step_ite (k := false) (t' := u') (by simp only [↓Q.exec, ↓ev, ↓evL, ↓evT, ↓evO, ↓evI, ↓bnd_ap, ↓opt_ap, ↓bol_ap, ↓ite_ap, ↓lstR_ap, ↓tupR_ap, Q.ret, getS, List.getElem?_cons_succ, List.getElem?_cons_zero, op_add, op_sub, op_mod, op_fdiv, Int.reduceLT, shd, bltD, store, shared, Q.bind1, Q.bindL, Option.bind_some, List.set_cons_succ, List.set_cons_zero, Bool.or_true, Bool.true_or, Bool.and_self, decide_true, op_mulRi, op_mulLi, op_mulR, op_mulL, Int.reduceNeg, List.mapM_nil, List.mapM_cons, Option.pure_def, Option.bind_eq_bind, List.length_nil, lim, Nat.zero_le, ↓reduceIte, List.length_cons, Nat.reduceAdd, Nat.reduceLeDiff, cp_gt, Int.lt_irrefl, decide_false]) (fun h => nomatch h) (fun _ => ?_)
          refine step_nil (cont_nx ?_)
          refine step_nil (turn_nx ?_)
          exact ⟨rfl, _, _, _, _, _, rfl, hI, by omega⟩
        · rintro ρ u' ⟨rfl, l, m, s4, s5, s7, rfl, hI, hle⟩
          refine step_nil (turn_nx ?_)
          exact ⟨rfl, _, _, _, _, _, _, rfl, hI, by omega⟩
    · rintro ρ u ⟨rfl, l, m, s4, s5, s6, s7, rfl, hI, hle⟩
      rw [rangeL_len] at hle
      have hle : l.length ≤ 3780 := by omega
      have hlm : lim = 16777216 := rfl
      have hr2 : rngB (n : Nat) = true := by
        exact rng_ok (by omega) (by omega)
      refine step_for (xs := rangeL 0 (n : Nat)) (t' := u) ?_ (fun j ρ t' => t' = u ∧ ∃ l m s4 s5 s6 s7, ρ = [.ro (.list (ns.map .int)), .sh (.int n), .ow (.list l), .sh (.int m), s4, s5, s6, s7] ∧ IsDraws l ∧ l.length ≤ 3780 + j ∧ j ≤ l.length) ⟨rfl, l, _, _, _, _, _, rfl, hI, hle, Nat.zero_le _⟩ ?_ ?_
      · exact it_rng1 (by simp only [↓Q.exec, ↓ev, ↓evL, ↓evT, ↓evO, ↓evI, ↓bnd_ap, ↓opt_ap, ↓bol_ap, ↓ite_ap, ↓lstR_ap, ↓tupR_ap, Q.ret, getS, List.getElem?_cons_succ, List.getElem?_cons_zero, op_add, op_sub, op_mod, op_fdiv, Int.reduceLT, shd, bltD, store, shared, Q.bind1, Q.bindL, Option.bind_some, List.set_cons_succ, List.set_cons_zero, Bool.or_true, Bool.true_or, Bool.and_self, decide_true, op_mulRi, op_mulLi, op_mulR, op_mulL, Int.reduceNeg, List.mapM_nil, List.mapM_cons, Option.pure_def, Option.bind_eq_bind, List.length_nil, lim, Nat.zero_le, ↓reduceIte, List.length_cons, Nat.reduceAdd, Nat.reduceLeDiff]; rfl) hr2
      · rintro j d ρ u' hd' ⟨rfl, l, m, s4, s5, s6, s7, rfl, hI, hle, hge⟩
        obtain ⟨rfl, hj⟩ := rangeL_get hd'
        refine ⟨_, rfl, ?_⟩
        refine step (by simp only [↓Q.exec, ↓ev, ↓evL, ↓evT, ↓evO, ↓evI, ↓bnd_ap, ↓opt_ap, ↓bol_ap, ↓ite_ap, ↓lstR_ap, ↓tupR_ap, Q.ret, getS, List.getElem?_cons_succ, List.getElem?_cons_zero, op_add, op_sub, op_mod, op_fdiv, Int.reduceLT, shd, bltD, store, shared, Q.bind1, Q.bindL, Option.bind_some, List.set_cons_succ, List.set_cons_zero, Bool.or_true, Bool.true_or, Bool.and_self, decide_true, op_mulRi, op_mulLi, op_mulR, op_mulL, Int.reduceNeg, List.mapM_nil, List.mapM_cons, Option.pure_def, Option.bind_eq_bind, List.length_nil, lim, Nat.zero_le, ↓reduceIte, List.length_cons, Nat.reduceAdd, Nat.reduceLeDiff]; rfl) ?_
        refine step_app (y := .int (_ % 997)) (xs := l) (by simp only [↓Q.exec, ↓ev, ↓evL, ↓evT, ↓evO, ↓evI, ↓bnd_ap, ↓opt_ap, ↓bol_ap, ↓ite_ap, ↓lstR_ap, ↓tupR_ap, Q.ret, getS, List.getElem?_cons_succ, List.getElem?_cons_zero, op_add, op_sub, op_mod, op_fdiv, Int.reduceLT, shd, bltD, store, shared, Q.bind1, Q.bindL, Option.bind_some, List.set_cons_succ, List.set_cons_zero, Bool.or_true, Bool.true_or, Bool.and_self, decide_true, op_mulRi, op_mulLi, op_mulR, op_mulL, Int.reduceNeg, List.mapM_nil, List.mapM_cons, Option.pure_def, Option.bind_eq_bind, List.length_nil, lim, Nat.zero_le, ↓reduceIte, List.length_cons, Nat.reduceAdd, Nat.reduceLeDiff]; rfl) rfl (by omega) ?_
        refine step_nil (turn_nx ?_)
        refine ⟨rfl, _, _, _, _, _, _, rfl, hI.mod, ?_, ?_⟩
        · rw [List.length_append]; show l.length + 1 ≤ _; omega
        · rw [List.length_append]; show _ ≤ l.length + 1; omega
      · rintro ρ u' ⟨rfl, l, m, s4, s5, s6, s7, rfl, ⟨ds, rfl, hd⟩, hle, hge⟩
        rw [rangeL_len] at hge
        rw [List.length_map] at hge
        have hn' : n ≤ ds.length := by omega
        refine step_rt (v := ⟨.fr, .list ((ds.take n).map .int)⟩) (t' := u') ?_ ⟨rfl, ds.take n, by rw [List.length_take]; omega, fun d h => hd d (List.mem_of_mem_take h), rfl⟩
        have : cut (ds.map PyData.int) none (some (n : Nat)) = (ds.take n).map .int := by
          unfold cut
          rw [HT.sIx_none, HT.sIx_nat, List.length_map, Nat.min_eq_left hn', Nat.sub_zero, List.drop_zero, List.map_take]
        simp only [↓Q.exec, ↓ev, ↓evL, ↓evT, ↓evO, ↓evI, ↓bnd_ap, ↓opt_ap, ↓bol_ap, ↓ite_ap, ↓lstR_ap, ↓tupR_ap, Q.ret, getS, List.getElem?_cons_succ, List.getElem?_cons_zero, op_add, op_sub, op_mod, op_fdiv, Int.reduceLT, shd, bltD, store, shared, Q.bind1, Q.bindL, Option.bind_some, List.set_cons_succ, List.set_cons_zero, Bool.or_true, Bool.true_or, Bool.and_self, decide_true, op_mulRi, op_mulLi, op_mulR, op_mulL, Int.reduceNeg, List.mapM_nil, List.mapM_cons, Option.pure_def, Option.bind_eq_bind, List.length_nil, lim, Nat.zero_le, ↓reduceIte, List.length_cons, Nat.reduceAdd, Nat.reduceLeDiff, slD, intOf, this, backR]
  obtain ⟨a, t', e, rfl, ds, h1, h2, rfl⟩ := key.get
  exact ⟨ds, h1, h2, e⟩
end Q
namespace Q
open PySem PySem.Spec PyProof.Rows L2 RZ
section
variable {P : Program} {w : World} {K : PySem.W.Frag} {mg : Str → Option Value} {base : Heap}
/-- a list that nobody changes -/
def RoL (K : PySem.W.Frag) (H : Hp) (a : Addr) (vs : List V) : Prop := (∃ ob, H a = some (.frz ob (.lst vs))) ∨ SqL K (fun _ => none) a vs
theorem RoL.mono {H H' : Hp} {a : Addr} {vs : List V} (h : RoL K H a vs) (e : ∀ b o, H b = some o → H' b = some o) : RoL K H' a vs := by
  rcases h with ⟨ob, h⟩ | h
  · exact .inl ⟨ob, e _ _ h⟩
  · exact .inr h
def spD (K : PySem.W.Frag) : Sp := fun vs H Q _ => ∃ (a : Addr) (ns : List Int) (n : Nat), vs = [.ref a, .int n] ∧ RoL K H a (ns.map V.int) ∧ ns.length ≤ 63 ∧ n ≤ 1000 ∧
  ∀ ds : List Int, ds.length = n → (∀ d ∈ ds, 0 ≤ d ∧ d < 997) → ∀ H' p, (∀ b o, H b = some o → H' b = some o) → H p = none → H' p = some (.lst (ds.map V.int)) → Q (.ref p) H'
def cD (K : PySem.W.Frag) : Pm := ⟨K, none, 0, []⟩
def repInts {c : Pm} {F : Hp} : ∀ ns : List Int, RepL c F (ns.map V.int) (ns.map PyData.int)
  | [] => .nil
  | n :: ns => .cons (.int n) (repInts ns)
theorem repInts_inv {c : Pm} {F : Hp} : ∀ {ns : List Int} {vs : List V}, RepL c F vs (ns.map PyData.int) → vs = ns.map V.int
  | [], _, .nil => rfl
  | n :: ns, _, .cons h r => by
    cases h
    rw [repInts_inv r]
    rfl
theorem draws_ok {st : Stmt} {f : Addr} {fd : FuncData} {k : Nat} (F : L2.Fun K "_law_draws" "_law_draws" st f fd) (S : FnScope ["script", "many", "draws", "mixed", "k", "cell", "rest", "turn"] ["script", "many"] (defScope st))
    (hc : chkSs [] ["script", "many", "draws", "mixed", "k", "cell", "rest", "turn"] (defScope st) drawsB (defBody st) = true) (M : Mods mg) :
    FnOk P w K mg base CX0 (k + 1) f fd ["script", "many"] (spD K) := by
  refine F.ok S (fun vs H Q E h => ?_) (fun cdv A outer s H vs Q E hr h => ?_)
  · obtain ⟨a, ns, n, rfl, _⟩ := h
    rfl
  · obtain ⟨a, ns, n, rfl, ha, hl, hn, p⟩ := h
    have G := goodS_of (P := P) (w := w) (base := base) (outer := outer) (H := H) (E := E) (c := cD K) (fs := []) (g := ⟨[], fun _ _ => fail⟩) rfl S M rfl hr (fun i y e => by simp at e) (fun n => absurd rfl n)
    refine ⟨_, sound_ss G drawsB (defBody st) hc, fun _ => none, H, fun _ => none, [.ro (.list (ns.map .int)), .sh (.int n), .un, .un, .un, .un, .un, .un], 0, ?_⟩
    obtain ⟨ds, h1, h2, e⟩ := draws_run ⟨[], fun _ _ => fail⟩ ns n hn hl 0
    refine ⟨_, _, ?_, e, ?_⟩
    · refine ⟨Grow.refl (fun _ _ q => nomatch q) (fun _ q => nomatch q), trivial, rfl, fun i s q => ?_, fun i j d d' _ q => ?_⟩
      · match i, q with
        | 0, q =>
          cases q
          exact ⟨a, ns.map V.int, ns.map .int, rfl, rfl, ha, repInts ns⟩
        | 1, q =>
          cases q
          exact ⟨.int n, rfl, .int n⟩
        | 2, q => cases q; trivial
        | 3, q => cases q; trivial
        | 4, q => cases q; trivial
        | 5, q => cases q; trivial
        | 6, q => cases q; trivial
        | 7, q => cases q; trivial
        | i + 8, q => cases q
      · match i, q with
        | 0, q => cases q
        | 1, q => cases q
        | 2, q => cases q
        | 3, q => cases q
        | 4, q => cases q
        | 5, q => cases q
        | 6, q => cases q
        | 7, q => cases q
        | i + 8, q => cases q
    · intro v F' H' x gr tp rr
      obtain ⟨b, rfl, e1, e2, vs, e3, r3⟩ := rr
      rw [repInts_inv r3] at e3
      exact p ds h1 h2 H' b (fun b o q => gr.hx b o (fun z => nomatch z) q) e1 e3
theorem DefAt.mono {k k' : Nat} {x : Str} {sp : Sp} (h : DefAt P w K mg base k x sp) (e : k ≤ k') : DefAt P w K mg base k' x sp := by
  obtain ⟨a, fd, ps, q1, q2, q3, q4⟩ := h.ex
  exact ⟨a, fd, ps, q1, q2, q3, q4.mono e⟩
theorem pss_ex {X : Cx} {xs : List Stmt} {α : Type} {t : α → TS} (h : ∀ c, PSs X xs (t c)) : PSs X xs fun D σ H => ∃ c, t c D σ H :=
  ⟨fun pins s σ H D I ⟨c, q⟩ => (h c).run pins s σ H D I q⟩
/-! ### the law -/
def spLaw (K : PySem.W.Frag) : Sp := fun vs H Q _ => ∃ (a : Addr) (ns : List Int), vs = [.ref a] ∧ RoL K H a (ns.map V.int) ∧ ns.length ≤ 63 ∧ ∀ H', Q (.bl true) H'
theorem spLaw_of {H : Hp} {a : Addr} {ns : List Int} (hl : ns.length ≤ 63) (hO : Only H) (hS : SqL K H a (ns.map V.int)) : spLaw K [.ref a] H (fun v _ => v = .bl true) fun _ _ _ => False := by
  refine ⟨a, ns, rfl, ?_, hl, fun _ => rfl⟩
  rcases hS with (h | h) | h
  · rcases hO a with q | ⟨o, xs, q⟩
    · rw [q] at h
      cases h
    · rw [q] at h
      cases h
  · exact .inl h
  · exact .inr (.inr h)
/-- the entry of the rest of the law: script, the draws' token, nothing else -/
def lawEnv (ns : List Int) (sl : Nat) : Env := .ro (.list (ns.map .int)) :: .sh tapeD :: List.replicate (sl - 2) .un
theorem lawEnv_len {ns : List Int} {sl : Nat} (h : 2 ≤ sl) : (lawEnv ns sl).length = sl := by
  unfold lawEnv
  rw [List.length_cons, List.length_cons, List.length_replicate]
  omega
theorem law_ok {k m : Nat} {fs : List Str} {fns : Nat → Option Fn} {st std : Stmt} {f fD : Addr} {fd fdD : FuncData} {N : List Str} {rest : SS} {rs : List Stmt}
    {p1 p2 p3 p4 p5 p6 p7 p8 p9 p10 : Pos} {j1 j2 j3 j4 : Nat}
    (F : L2.Fun K "law" "law" st f fd) (S : FnScope N ["script"] (defScope st)) (hN1 : N[1]? = some ("w" : Str)) (hm : m ≤ 1000)
    (hb : defBody st = .Assign [.Name "w" p1] (.Dict [some (.Constant (.str "draws") j1 p2), some (.Constant (.str "at") j2 p3)] [.Call (.Name "_law_draws" p4) [.Name "script" p5, .Constant (.int m) j3 p6] [] p7, .Constant (.int 0) j4 p8] p9) p10 :: rs)
    (hc : chkSs fs N (defScope st) rest rs = true)
    (hw : (defScope st).names.lookup ("w" : Str) = some NameKind.local) (hsc : vis (defScope st) "script" = true) (hgd : gl (defScope st) "_law_draws" = true)
    (M : Mods mg) (rows : ∀ i x, fs[i]? = some x → Row K mg fs fns i x)
    (FD : L2.Fun K "_law_draws" "_law_draws" std fD fdD) (SD : FnScope ["script", "many", "draws", "mixed", "k", "cell", "rest", "turn"] ["script", "many"] (defScope std))
    (hcD : chkSs [] ["script", "many", "draws", "mixed", "k", "cell", "rest", "turn"] (defScope std) drawsB (defBody std) = true) (bD : Binds K fdD ["script", "many"] []) (gD : mg "_law_draws" = some (.ref fD))
    (nx : ∀ c : Pm, c.K = K → DefAt P w K mg base 1 "_law_next" (spN c))
    (run : ∀ (ns ds : List Int), ns.length ≤ 63 → ds.length = m → (∀ d ∈ ds, 0 ≤ d ∧ d < 997) → Yes (execs ⟨ds, callF fns ds (k + 1)⟩ rest (lawEnv ns N.length)) 0 fun fl _ => fl = .rt ⟨.sh, .bool true⟩) :
    FnOk P w K mg base CX0 (k + 3) f fd ["script"] (spLaw K) := by
  have hpre : N.take 1 = [("script" : Str)] := S.pre
  have hN0 : N[0]? = some ("script" : Str) := by
    have := congrArg (fun l => l[0]?) hpre
    simpa using this
  have hlen2 : 2 ≤ N.length := (List.getElem?_eq_some_iff.mp hN1).1
  refine F.ok S (fun vs H Q E h => ?_) (fun cdv A outer s H vs Q E hr h => ?_)
  · obtain ⟨a, ns, rfl, _⟩ := h
    rfl
  · obtain ⟨a, ns, rfl, ha, hl, q⟩ := h
    rw [hb]
    have hu := hu_of hr
    have GD : FnOk P w K mg base CX0 (k + 2) fD fdD ["script", "many"] (spD K) := draws_ok FD SD hcD M
    have V0 : PE (cxOf CX0 P w K mg base N "law" (defScope st) f cdv A outer s H E).nox (.Name "script" p5) (tVar 0) := pe_slot (X := (cxOf CX0 P w K mg base N "law" (defScope st) f cdv A outer s H E).nox) (by
      show chkN N (defScope st) 0 (.Name "script" p5) = true
      simp only [chkN, hsc, hN0]
      rfl)
    have hdb : mg "__debug__" = none := M.db
    have G : ∀ c : Pm, c.K = K → GoodS (cxOf CX0 P w K mg base N "law" (defScope st) f cdv A outer s H E).nox c ⟨c.ds, callF fns c.ds (k + 1)⟩ fs := fun c hK =>
      goodS_of hK S M rfl hr (all_ok hK M rows (fun _ => nx c hK) (k + 1)) fun _ => (nx c hK).mono (by omega)
    refine ⟨_, pss_cons (ps_set (i := 1) S.nd hN1 (.inl hw) (pe_disp (pps_cons pe_str (pe_call GD hr (gl_of hgd) gD FD.kp bD .nil pass0 (pa_cons V0 (pa_cons pe_int pa_nil))) (pps_cons pe_str pe_int pps_nil)) rfl rfl (by simp) (by simp)))
      (pss_ex fun c : { c : Pm // c.K = K } => sound_ss (G c.1 c.2) rest rs hc), ?_⟩
    refine fun pd hpd => ?_
    have hup : ∀ b o, H b = some o → upd H pd (HO.dK []) b = some o := fun b o e => by
      have n : b ≠ pd := fun z => by
        rw [z, hpd] at e
        cases e
      rw [upd_ne n]
      exact e
    refine ⟨.ref a, rfl, a, ns, m, rfl, ha.mono hup, hl, hm, fun ds h1 h2 H2 p x e1 e2 => ?_⟩
    have hpd2 : H2 pd = some (.dK []) := x _ _ upd_same
    have npd : p ≠ pd := fun z => by
      rw [z, upd_same] at e1
      cases e1
    refine ⟨hpd2, [(.inr "draws", .ref p), (.inr "at", .int 0)], rfl, by show 2 ≤ 15; decide, ?_⟩
    generalize hH3 : upd H2 pd (HO.dK (mergeK [] [(Sum.inr "draws", V.ref p), (Sum.inr "at", V.int 0)])) = H3
    have h3pd : H3 pd = some (.dK [(.inr "draws", .ref p), (.inr "at", .int ((0 : Nat) : Int))]) := by
      rw [← hH3, upd_same]
      rfl
    have h3p : H3 p = some (.lst (ds.map V.int)) := by
      rw [← hH3, upd_ne npd]
      exact e2
    have h3 : ∀ b o, H b = some o → H3 b = some o := fun b o e => by
      have n : b ≠ pd := fun z => by
        rw [z, hpd] at e
        cases e
      rw [← hH3, upd_ne n]
      exact x _ _ (hup _ _ e)
    let c : Pm := ⟨K, some pd, p, ds⟩
    let F : Hp := fun b => if b = p then some (.lst (ds.map V.int)) else none
    have hFp : F p = some (.lst (ds.map V.int)) := if_pos rfl
    have hFd : F pd = none := if_neg fun z => npd z.symm
    have hext : Ext F H3 := fun b o e => by
      by_cases z : b = p
      · subst z
        rw [hFp] at e
        rw [← e]
        exact h3p
      · rw [show F b = none from if_neg z] at e
        cases e
    have tp : Tape c F H3 0 := ⟨h3pd, hFd, hFp⟩
    refine ⟨⟨c, rfl⟩, F, H3, F, lawEnv ns N.length, 0, ?_⟩
    obtain ⟨fl, t', e, rfl⟩ := (run ns ds hl h1 h2).get
    refine ⟨_, _, ⟨Grow.refl hext tp.there, tp, ?_, fun i s q => ?_, fun i j d d' _ q => ?_⟩, e, ?_⟩
    · rw [lawEnv_len hlen2, List.length_set]
      show N.length = (L2.start N [V.ref a]).length
      simp only [L2.start, List.length_append, List.length_map, List.length_cons, List.length_nil, List.length_replicate]
      omega
    · match i, q with
      | 0, q =>
        cases q
        refine ⟨a, ns.map V.int, ns.map .int, rfl, rfl, ?_, repInts ns⟩
        rcases ha with ⟨ob, ha⟩ | ha
        · exact .inl ⟨ob, h3 _ _ ha⟩
        · exact .inr ha
      | 1, q =>
        cases q
        refine ⟨.ref pd, ?_, .tape rfl⟩
        rw [List.getElem?_set_self]
        simp only [L2.start, List.length_append, List.length_map, List.length_cons, List.length_nil, List.length_replicate]
        omega
      | i + 2, q =>
        have q : (List.replicate (N.length - 2) Sl.un)[i]? = some s := q
        have := List.mem_of_getElem? q
        rw [List.mem_replicate] at this
        rw [this.2]
        trivial
    · match i, q with
      | 0, q => cases q
      | 1, q => cases q
      | i + 2, q =>
        have q : (List.replicate (N.length - 2) Sl.un)[i]? = some (.ow d) := q
        have := List.mem_of_getElem? q
        rw [List.mem_replicate] at this
        cases this.2
    · intro v F' H' x gr tp rr
      cases rr
      exact q H'
end
end Q
namespace Q
open PySem
/-! ### words for the plain laws -/
section
variable {fns : Nat → Option Fn} {ds : List Int} {k i : Nat} {fn : Fn} {args : List D} {t t' : Nat} {r : R}
theorem callF_fn (h : fns i = some fn) (hl : args.length = fn.np) : callF fns ds (k + 1) i args t = bnd (execs ⟨ds, callF fns ds k⟩ fn.body (entry fn args)) (fun fl => opt (endR fl)) t := by
  rw [callF, h]
  show runF _ fn args t = _
  unfold runF
  rw [if_pos hl]
theorem call_yes (h : fns i = some fn) (hl : args.length = fn.np) (y : Yes (execs ⟨ds, callF fns ds k⟩ fn.body (entry fn args)) t fun fl u => endR fl = some r ∧ u = t') : callF fns ds (k + 1) i args t = some (r, t') := by
  rw [callF_fn h hl]
  obtain ⟨fl, u, e, e2, rfl⟩ := y.get
  rw [bnd_ap, e]
  show opt (endR fl) u = _
  rw [opt_ap, e2]
theorem callKd_nil : callKd [] r = some r := rfl
theorem callKd_sh {d : D} {as : List R} : callKd (⟨.sh, d⟩ :: as) r = callKd as r := by
  simp [callKd]
theorem callKd_fr {d : D} {as : List R} : callKd (⟨.fr, d⟩ :: as) r = callKd as r := by
  simp [callKd]
end
section
variable {a b : Int} {x : D} {p q : Bool}
theorem eqv_int : PyData.eqv (.int a) (.int b) = decide (a = b) := by
  show (a == b) = decide (a = b)
  rw [Bool.eq_iff_iff]
  simp
theorem okD_int : okD (.int a) = true := rfl
theorem cp_eqI : cpD .eq (.int a) (.int b) = some (decide (a = b)) := by
  simp [cpD, okD_int, eqv_int]
theorem cp_neI : cpD .ne (.int a) (.int b) = some (!decide (a = b)) := by
  simp [cpD, okD_int, eqv_int]
theorem eqv_self (h : okD x = true) : PyData.eqv x x = true := by
  simp only [okD, Bool.and_eq_true] at h
  exact PySem.SeqAt.eqv_refl_plain x h.1
theorem cp_eq_self (h : okD x = true) : cpD .eq x x = some true := by
  simp [cpD, h, eqv_self h]
theorem cp_ne_self (h : okD x = true) : cpD .ne x x = some false := by
  simp [cpD, h, eqv_self h]
theorem cp_isB : cpD .iss (.bool p) (.bool q) = some (decide (p = q)) := rfl
end
section
variable {a b c d : D} {xs : List D}
theorem atI_0 : L2.atI (a :: xs) 0 = some a := L2.atI_nat rfl
theorem atI_1 : L2.atI (a :: b :: xs) 1 = some b := L2.atI_nat rfl
theorem atI_2 : L2.atI (a :: b :: c :: xs) 2 = some c := L2.atI_nat rfl
theorem atI_3 : L2.atI (a :: b :: c :: d :: xs) 3 = some d := L2.atI_nat rfl
end
theorem step_frz' {g : Gl} {i : Nat} {r : SS} {ρ ρ' : Env} {t : Nat} {P : Fl → Nat → Prop} (e : frzE ρ i = ρ') (k : Yes (execs g r ρ') t P) : Yes (execs g (.frz i r) ρ) t P := by
  subst e
  exact step_frz k
/-! ### rows of ints -/
def irange (a b : Int) : List Int := (List.range (b - a).toNat).map fun (k : Nat) => a + k
theorem rangeL_eq {a b : Int} : rangeL a b = (irange a b).map .int := by
  unfold rangeL irange
  rw [List.map_map]
  rfl
theorem mem_irange {a b x : Int} : x ∈ irange a b ↔ a ≤ x ∧ x < b := by
  unfold irange
  simp only [List.mem_map, List.mem_range]
  constructor
  · rintro ⟨k, h, rfl⟩
    omega
  · rintro ⟨h1, h2⟩
    exact ⟨(x - a).toNat, by omega, by omega⟩
theorem irange_len {a b : Int} : (irange a b).length = (b - a).toNat := by simp [irange]
theorem irange_split {a b c : Int} (h1 : a ≤ b) (h2 : b ≤ c) : irange a c = irange a b ++ irange b c := by
  unfold irange
  rw [show (c - a).toNat = (b - a).toNat + (c - b).toNat by omega, List.range_add, List.map_append, List.map_map]
  congr 1
  refine List.map_congr_left fun k _ => ?_
  show a + (((b - a).toNat + k : Nat) : Int) = b + k
  omega
theorem plain_ints : ∀ ns : List Int, PyData.plainAll (ns.map .int) = true
  | [] => rfl
  | n :: ns => by
    rw [List.map_cons, PyData.plainAll, plain_ints ns]
    rfl
theorem depth_ints : ∀ ns : List Int, PyData.depthAll (ns.map .int) = 0
  | [] => rfl
  | n :: ns => by
    rw [List.map_cons, PyData.depthAll, depth_ints ns]
    rfl
theorem okD_ints {ns : List Int} : okD (.list (ns.map .int)) = true := by
  simp only [okD, PyData.plain, plain_ints, PyData.depth, depth_ints]
  decide
theorem alike_ints {ns : List Int} : ((ns.map PyData.int).all fun x => (ns.map PyData.int).all fun y => PySem.W.alike x y) = true := by
  simp [List.all_eq_true, PySem.W.alike]
theorem ordD_ints {ns : List Int} : ordD (ns.map .int) = true := by
  simp only [ordD, alk, alike_ints, plain_ints, depth_ints, Bool.and_eq_true, decide_eq_true_eq]
  refine ⟨⟨⟨trivial, trivial⟩, by omega⟩, ?_⟩
  simp [List.all_eq_true, nnoD]
theorem max1_ints {k : Kd} {n : Int} {ns : List Int} : bltD .max1 [⟨k, .list ((n :: ns).map .int)⟩] = some ⟨.sh, .int (ns.foldl max n)⟩ := by
  show (if ordD ((n :: ns).map .int) then some (shd (PySem.W.maxD (.int n) (ns.map .int))) else none) = _
  rw [ordD_ints, if_pos rfl, PySem.W.maxD_ints]
  rfl
theorem min1_ints {k : Kd} {n : Int} {ns : List Int} : bltD .min1 [⟨k, .list ((n :: ns).map .int)⟩] = some ⟨.sh, .int (ns.foldl min n)⟩ := by
  show (if ordD ((n :: ns).map .int) then some (shd (PySem.W.minD (.int n) (ns.map .int))) else none) = _
  rw [ordD_ints, if_pos rfl, PySem.W.minD_ints]
  rfl
theorem eqv_nil {xs : List D} : PyData.eqv (.list xs) (.list []) = xs.isEmpty := by
  cases xs with
  | nil => rfl
  | cons x r => simp [PyData.eqv, PyData.eqvAll]
theorem cp_ne_nil {xs : List D} (h : okD (.list xs) = true) : cpD .ne (.list xs) (.list []) = some (!xs.isEmpty) := by
  simp only [cpD, h, eqv_nil]
  rfl
theorem cp_eq_nil {xs : List D} (h : okD (.list xs) = true) : cpD .eq (.list xs) (.list []) = some xs.isEmpty := by
  simp only [cpD, h, eqv_nil]
  rfl
theorem atI_neg1 {xs : List D} {d : D} (h : xs.getLast? = some d) : L2.atI xs (-1) = some d := by
  cases xs with
  | nil => cases h
  | cons x r =>
    have := List.dropLast_concat_getLast (List.cons_ne_nil x r)
    rw [← this, L2.atI_last]
    rw [List.getLast?_eq_getLast (List.cons_ne_nil x r)] at h
    exact h
/-! ### comprehensions -/
theorem compM_pure {xs : List D} {f : D → M (Option D)} {t : Nat} (h : D → Option D) (e : ∀ d, d ∈ xs → f d t = some (h d, t)) : compM xs f t = some (xs.filterMap h, t) := by
  induction xs with
  | nil => rfl
  | cons x r ih =>
    unfold compM
    rw [bnd_ap, e x List.mem_cons_self]
    show bnd (compM r f) _ t = _
    rw [bnd_ap, ih fun d hd => e d (List.mem_cons_of_mem _ hd)]
    cases hx : h x with
    | none => rw [List.filterMap_cons_none hx]
    | some y => rw [List.filterMap_cons_some hx]
def lcB (g : Gl) (vs : List Nat) (elt : E) (tg : Tg) (cond : TO) (ρ : Env) (d : D) : M (Option D) :=
  bnd (opt (bind1 tg d (wipeE ρ vs))) fun ρ2 => bnd (evTO g cond ρ2) fun k => if k then bnd (ev g elt ρ2) fun r => bnd (opt (shared r)) fun y => ret (some y) else ret none
theorem ev_lc {g : Gl} {vs : List Nat} {elt : E} {tg : Tg} {it : It} {cond : TO} {ρ : Env} {t t' : Nat} {b : Bool} {xs : List D} (e : evI g it ρ t = some ((b, xs), t')) (h : D → Option D)
    (hh : ∀ d, d ∈ xs → lcB g vs elt tg cond ρ d t' = some (h d, t')) (hl : xs.length ≤ lim) : ev g (.lc vs elt tg it cond) ρ t = some (⟨.fr, .list (xs.filterMap h)⟩, t') := by
  rw [ev, bnd_ap, e]
  show bnd (compM xs (lcB g vs elt tg cond ρ)) lstR t' = _
  rw [bnd_ap, compM_pure h hh]
  show lstR _ t' = _
  rw [lstR_ap, if_pos (Nat.le_trans (List.length_filterMap_le h xs) hl)]
/-- over a row of ints, to a row of ints -/
theorem ev_lcI {g : Gl} {vs : List Nat} {elt : E} {tg : Tg} {it : It} {cond : TO} {ρ : Env} {t t' : Nat} {b : Bool} {ns : List Int} (e : evI g it ρ t = some ((b, ns.map .int), t')) (p : Int → Bool) (f : Int → D)
    (hh : ∀ n, n ∈ ns → lcB g vs elt tg cond ρ (.int n) t' = some (if p n then some (f n) else none, t')) (hl : ns.length ≤ lim) : ev g (.lc vs elt tg it cond) ρ t = some (⟨.fr, .list ((ns.filter p).map f)⟩, t') := by
  have := ev_lc (g := g) (vs := vs) (elt := elt) (tg := tg) (cond := cond) e (fun d => match d with | .int n => if p n then some (f n) else none | _ => none) (fun d hd => by
    obtain ⟨n, hn, rfl⟩ := List.mem_map.mp hd
    exact hh n hn) (by rw [List.length_map]; exact hl)
  rw [this]
  congr 4
  clear this hh e hl
  induction ns with
  | nil => rfl
  | cons n ns ih =>
    rw [List.map_cons, List.filter_cons, List.filterMap_cons]
    cases hp : p n with
    | true => simp [hp, ih]
    | false => simp [hp, ih]
theorem next_ok' {ds : List Int} (hd : ∀ d ∈ ds, 0 ≤ d ∧ d < 997) {m : Int} (hm : 0 < m) (t : Nat) : ∃ x, nextD ds m t = some (x, t + 1) ∧ 0 ≤ x ∧ x < m := by
  unfold nextD
  rw [if_pos hm]
  split
  · exact ⟨0, rfl, Int.le_refl _, hm⟩
  · rename_i h
    have h : t < ds.length := by omega
    rw [List.getElem?_eq_getElem h]
    exact ⟨_, rfl, Int.emod_nonneg _ (by omega), Int.emod_lt_of_pos _ hm⟩
theorem ev_nxt {ds : List Int} {c : Nat → List D → M R} {w : Nat} {e : E} {ρ : Env} {t t' t2 : Nat} {m x : Int} {k : Kd} (he : ev ⟨ds, c⟩ e ρ t = some (⟨k, .int m⟩, t')) (hw : ρ[w]? = some (.sh tapeD)) (hn : nextD ds m t' = some (x, t2)) :
    ev ⟨ds, c⟩ (.nxt w e) ρ t = some (⟨.sh, .int x⟩, t2) := by
  rw [ev, bnd_ap, he]
  show bnd (opt (some m)) _ t' = _
  rw [bnd_ap, opt_ap]
  have : isTape (getS ρ w) = true := by
    unfold getS
    rw [hw]
    rfl
  show (if isTape (getS ρ w) = true then bnd (nextD ds m) _ else fail : M R) t' = _
  rw [if_pos this, bnd_ap, hn]
  rfl
/-! ### while -/
theorem step_whl {g : Gl} {c : T} {b r : SS} {ρ : Env} {t : Nat} {P : Fl → Nat → Prop} (I : Nat → Env → Nat → Prop) (n : Nat) (hn : n < big) (h0 : I n ρ t)
    (hs : ∀ n ρ t, I n ρ t → ∃ k, evT g c ρ t = some (k, t) ∧ (k = false → Yes (execs g r ρ) t P) ∧ (k = true → 0 < n ∧ Yes (execs g b ρ) t (Turn (I (n - 1)) (fun ρ t => Yes (execs g r ρ) t P) P))) :
    Yes (execs g (.cons (.whl c b) r) ρ) t P := by
  refine yes_cons ?_
  rw [exec]
  have : ∀ m n ρ t, n < m → I n ρ t → Yes (whileM m (fun ρ => evT g c ρ) (fun ρ => execs g b ρ) ρ) t (Cont g r P) := by
    intro m
    induction m with
    | zero => intro n ρ t h; omega
    | succ m ih =>
      intro n ρ t h hI
      obtain ⟨k, e, h1, h2⟩ := hs n ρ t hI
      unfold whileM
      rw [yes_bnd]
      refine .of e ?_
      cases k with
      | false => exact .of rfl (cont_nx (h1 rfl))
      | true =>
        obtain ⟨hp, h2⟩ := h2 rfl
        rw [if_pos rfl, yes_bnd]
        refine h2.mono fun fl u q => ?_
        have q := q.get
        cases fl with
        | nx ρ' => exact ih (n - 1) ρ' u (by omega) q
        | ct ρ' => exact ih (n - 1) ρ' u (by omega) q
        | bk ρ' => exact .of rfl (cont_nx q)
        | rt v => exact .of rfl (cont_rt q)
  exact this _ n ρ t hn h0
end Q
namespace K32
open PySem PySem.Spec L2 Q
def topS (i : Nat) : Stmt := PySem.Challenge.pw_loadwarrant_k32_whole_leases_and_driftin.main.body.getD i (.Pass ⟨0, 0, 0, 0⟩)
def fs : List Str := ["divisor", "fraction", "plus", "minus", "is_less", "longest_held", "shortest_wait", "never_two", "greatest_less", "longest_gap", "holds_on", "_law_is_bit", "_law_common", "_law_frac", "_law_less", "_law_below", "_law_true", "_law_safe"]
/-- divisor: 0=a 1=b -/
def b0 : SS := (.cons (.whl (.cmp .ne (.var 1) (.cst (.int 0))) (.cons (.par [.tg (.nm 0), .tg (.nm 1)] (.cons (.var 1) (.cons (.bin .mod (.var 0) (.var 1)) .nil))) .nil)) (.cons (.ret (.ite (.cmp .ne (.var 0) (.cst (.int 0))) (.var 0) (.cst (.int 1)))) .nil))
def f0 : Fn := ⟨2, 2, b0⟩
/-- fraction: 0=a 1=b 2=common -/
def b1 : SS := (.cons (.asg (.nm 2) (.bin .mul (.call 0 (.cons (.blt .abs (.cons (.var 0) .nil)) (.cons (.blt .abs (.cons (.var 1) .nil)) .nil))) (.ite (.cmp .gt (.var 1) (.cst (.int 0))) (.cst (.int 1)) (.neg (.cst (.int 1)))))) (.cons (.ret (.tup (.cons (.bin .fdiv (.var 0) (.var 2)) (.cons (.bin .fdiv (.var 1) (.var 2)) .nil)))) .nil))
def f1 : Fn := ⟨2, 3, b1⟩
/-- plus: 0=one 1=other -/
def b2 : SS := (.cons (.ret (.call 1 (.cons (.bin .add (.bin .mul (.ix (.var 0) (.cst (.int 0))) (.ix (.var 1) (.cst (.int 1)))) (.bin .mul (.ix (.var 1) (.cst (.int 0))) (.ix (.var 0) (.cst (.int 1))))) (.cons (.bin .mul (.ix (.var 0) (.cst (.int 1))) (.ix (.var 1) (.cst (.int 1)))) .nil)))) .nil)
def f2 : Fn := ⟨2, 2, b2⟩
/-- minus: 0=one 1=other -/
def b3 : SS := (.cons (.ret (.call 2 (.cons (.var 0) (.cons (.tup (.cons (.neg (.ix (.var 1) (.cst (.int 0)))) (.cons (.ix (.var 1) (.cst (.int 1))) .nil))) .nil)))) .nil)
def f3 : Fn := ⟨2, 2, b3⟩
/-- is_less: 0=one 1=other -/
def b4 : SS := (.cons (.ret (.cmp .lt (.bin .mul (.ix (.var 0) (.cst (.int 0))) (.ix (.var 1) (.cst (.int 1)))) (.bin .mul (.ix (.var 1) (.cst (.int 0))) (.ix (.var 0) (.cst (.int 1)))))) .nil)
def f4 : Fn := ⟨2, 2, b4⟩
/-- longest_held: 0=drift 1=less 2=slow 3=_ 4=of -/
def b5 : SS := (.cons (.asg (.tp [(.nm 2), (.nm 3), (.nm 4)]) (.var 0)) (.cons (.ret (.call 1 (.cons (.bin .mul (.var 1) (.var 4)) (.cons (.bin .sub (.var 4) (.var 2)) .nil)))) .nil))
def f5 : Fn := ⟨2, 5, b5⟩
/-- shortest_wait: 0=drift 1=long 2=_ 3=fast 4=of -/
def b6 : SS := (.cons (.asg (.tp [(.nm 2), (.nm 3), (.nm 4)]) (.var 0)) (.cons (.ret (.call 1 (.cons (.bin .mul (.var 1) (.var 4)) (.cons (.bin .add (.var 4) (.var 3)) .nil)))) .nil))
def f6 : Fn := ⟨2, 5, b6⟩
/-- never_two: 0=drift 1=long 2=less -/
def b7 : SS := (.cons (.ret (.lnot (.call 4 (.cons (.call 6 (.cons (.var 0) (.cons (.var 1) .nil))) (.cons (.call 5 (.cons (.var 0) (.cons (.var 2) .nil))) .nil))))) .nil)
def f7 : Fn := ⟨3, 3, b7⟩
/-- greatest_less: 0=drift 1=long 2=able 3=less -/
def b8 : SS := (.cons (.asg (.nm 2) (.lc [3] (.var 3) (.nm 3) (.rng2 (.cst (.int 1)) (.bin .add (.var 1) (.cst (.int 1)))) (.so (.val (.call 7 (.cons (.var 0) (.cons (.var 1) (.cons (.var 3) .nil)))))))) (.cons (.ret (.ite (.cmp .ne (.var 2) (.lst .nil)) (.ix (.var 2) (.neg (.cst (.int 1)))) (.cst (.int 0)))) .nil))
def f8 : Fn := ⟨2, 4, b8⟩
/-- longest_gap: 0=drift 1=long 2=less 3=slow 4=fast 5=of -/
def b9 : SS := (.cons (.asg (.tp [(.nm 3), (.nm 4), (.nm 5)]) (.var 0)) (.cons (.ret (.call 3 (.cons (.call 1 (.cons (.bin .mul (.var 1) (.var 5)) (.cons (.bin .sub (.var 5) (.var 3)) .nil))) (.cons (.call 1 (.cons (.bin .mul (.var 2) (.var 5)) (.cons (.bin .add (.var 5) (.var 4)) .nil))) .nil)))) .nil))
def f9 : Fn := ⟨3, 6, b9⟩
/-- holds_on: 0=less 1=every 2=lost -/
def b10 : SS := (.cons (.ret (.cmp .lt (.bin .mul (.var 1) (.bin .add (.var 2) (.cst (.int 1)))) (.var 0))) .nil)
def f10 : Fn := ⟨3, 3, b10⟩
/-- _law_is_bit: 0=said 1=due -/
def b11 : SS := (.cons (.ret (.lor (.cons (.land (.cons (.var 1) (.cons (.cmp .iss (.var 0) (.cst (.bool true))) .nil))) (.cons (.land (.cons (.lnot (.var 1)) (.cons (.cmp .iss (.var 0) (.cst (.bool false))) .nil))) .nil)))) .nil)
def f11 : Fn := ⟨2, 2, b11⟩
/-- _law_common: 0=a 1=b 2=turn -/
def b12 : SS := (.cons (.frr (.nm 2) (.rng1 (.cst (.int 400))) (.cons (.ite (.cmp .eq (.var 1) (.cst (.int 0))) (.cons .brk .nil) .nil) (.cons (.par [.tg (.nm 0), .tg (.nm 1)] (.cons (.var 1) (.cons (.bin .mod (.var 0) (.var 1)) .nil))) .nil))) (.cons (.ret (.blt .abs (.cons (.var 0) .nil))) .nil))
def f12 : Fn := ⟨2, 3, b12⟩
/-- _law_frac: 0=a 1=b 2=by -/
def b13 : SS := (.cons (.asg (.nm 2) (.call 12 (.cons (.var 0) (.cons (.var 1) .nil)))) (.cons (.ite (.cmp .lt (.var 1) (.cst (.int 0))) (.cons (.asg (.nm 2) (.neg (.var 2))) .nil) .nil) (.cons (.ret (.tup (.cons (.bin .fdiv (.var 0) (.var 2)) (.cons (.bin .fdiv (.var 1) (.var 2)) .nil)))) .nil)))
def f13 : Fn := ⟨2, 3, b13⟩
/-- _law_less: 0=one 1=other -/
def b14 : SS := (.cons (.ret (.call 13 (.cons (.bin .sub (.bin .mul (.ix (.var 0) (.cst (.int 0))) (.ix (.var 1) (.cst (.int 1)))) (.bin .mul (.ix (.var 1) (.cst (.int 0))) (.ix (.var 0) (.cst (.int 1))))) (.cons (.bin .mul (.ix (.var 0) (.cst (.int 1))) (.ix (.var 1) (.cst (.int 1)))) .nil)))) .nil)
def f14 : Fn := ⟨2, 2, b14⟩
/-- _law_below: 0=one 1=other -/
def b15 : SS := (.cons (.ret (.cmp .lt (.bin .mul (.ix (.var 0) (.cst (.int 0))) (.ix (.var 1) (.cst (.int 1)))) (.bin .mul (.ix (.var 1) (.cst (.int 0))) (.ix (.var 0) (.cst (.int 1)))))) .nil)
def f15 : Fn := ⟨2, 2, b15⟩
/-- _law_true: 0=told 1=rate -/
def b16 : SS := (.cons (.ret (.call 13 (.cons (.bin .mul (.var 0) (.ix (.var 1) (.cst (.int 1)))) (.cons (.ix (.var 1) (.cst (.int 0))) .nil)))) .nil)
def f16 : Fn := ⟨2, 2, b16⟩
/-- _law_safe: 0=held 1=waits 2=one 3=other -/
def b17 : SS := (.cons (.frr (.nm 2) (.seq (.var 0)) (.cons (.ite (.cmp .ne (.lc [3] (.var 3) (.nm 3) (.seq (.var 1)) (.so (.val (.call 15 (.cons (.var 3) (.cons (.var 2) .nil)))))) (.lst .nil)) (.cons (.ret (.cst (.bool false))) .nil) .nil) .nil)) (.cons (.ret (.cst (.bool true))) .nil))
def f17 : Fn := ⟨2, 4, b17⟩
/-- law: 0=script 1=w 2=turn 3=of 4=slow 5=fast 6=drift 7=long 8=less 9=ends 10=held 11=waits 12=able 13=every 14=lost 15=asks 16=n 17=k 18=rate -/
def bL : SS := (.cons (.frr (.nm 2) (.rng1 (.cst (.int 8))) (.cons (.asg (.nm 3) (.bin .add (.cst (.int 1)) (.nxt 1 (.cst (.int 12))))) (.cons (.par [.tg (.nm 4), .tg (.nm 5)] (.cons (.nxt 1 (.var 3)) (.cons (.nxt 1 (.cst (.int 8))) .nil))) (.cons (.par [.tg (.nm 6), .tg (.nm 7), .tg (.nm 8)] (.cons (.tup (.cons (.var 4) (.cons (.var 5) (.cons (.var 3) .nil)))) (.cons (.bin .add (.cst (.int 1)) (.nxt 1 (.cst (.int 30)))) (.cons (.bin .add (.cst (.int 1)) (.nxt 1 (.cst (.int 30)))) .nil)))) (.cons (.asg (.nm 9) (.lst (.cons (.call 13 (.cons (.bin .sub (.var 3) (.var 4)) (.cons (.var 3) .nil))) (.cons (.call 13 (.cons (.bin .add (.var 3) (.var 5)) (.cons (.var 3) .nil))) .nil)))) (.frz 9 (.cons (.par [.tg (.nm 10), .tg (.nm 11)] (.cons (.lc [18] (.call 16 (.cons (.var 8) (.cons (.var 18) .nil))) (.nm 18) (.seq (.var 9)) .no) (.cons (.lc [18] (.call 16 (.cons (.var 7) (.cons (.var 18) .nil))) (.nm 18) (.seq (.var 9)) .no) .nil))) (.cons (.ite (.or (.cons (.cmp .ne (.call 5 (.cons (.var 6) (.cons (.var 8) .nil))) (.ix (.var 10) (.cst (.int 0)))) (.cons (.cmp .ne (.call 6 (.cons (.var 6) (.cons (.var 7) .nil))) (.ix (.var 11) (.cst (.int 1)))) .nil))) (.cons (.ret (.cst (.bool false))) .nil) .nil) (.frz 11 (.frz 10 (.cons (.ite (.not (.val (.call 11 (.cons (.call 7 (.cons (.var 6) (.cons (.var 7) (.cons (.var 8) .nil)))) (.cons (.call 17 (.cons (.var 10) (.cons (.var 11) .nil))) .nil))))) (.cons (.ret (.cst (.bool false))) .nil) .nil) (.frz 11 (.frz 9 (.cons (.asg (.nm 12) (.lc [16] (.var 16) (.nm 16) (.rng2 (.cst (.int 1)) (.bin .add (.var 7) (.cst (.int 40)))) (.so (.val (.call 17 (.cons (.lc [18] (.call 16 (.cons (.var 16) (.cons (.var 18) .nil))) (.nm 18) (.seq (.var 9)) .no) (.cons (.var 11) .nil))))))) (.cons (.ite (.cmp .ne (.call 8 (.cons (.var 6) (.cons (.var 7) .nil))) (.ite (.cmp .ne (.var 12) (.lst .nil)) (.blt .max1 (.cons (.var 12) .nil)) (.cst (.int 0)))) (.cons (.ret (.cst (.bool false))) .nil) .nil) (.cons (.ite (.cmp .ne (.call 9 (.cons (.var 6) (.cons (.var 7) (.cons (.var 8) .nil)))) (.call 14 (.cons (.ix (.var 11) (.cst (.int 0))) (.cons (.ix (.var 10) (.cst (.int 1))) .nil)))) (.cons (.ret (.cst (.bool false))) .nil) .nil) (.cons (.par [.tg (.nm 13), .tg (.nm 14)] (.cons (.bin .add (.cst (.int 1)) (.nxt 1 (.cst (.int 9)))) (.cons (.nxt 1 (.cst (.int 4))) .nil))) (.cons (.asg (.nm 15) (.lc [17] (.bin .mul (.var 13) (.var 17)) (.nm 17) (.rng2 (.cst (.int 1)) (.bin .add (.var 14) (.cst (.int 2)))) .no)) (.cons (.ite (.not (.val (.call 11 (.cons (.call 10 (.cons (.var 8) (.cons (.var 13) (.cons (.var 14) .nil)))) (.cons (.cmp .lt (.ix (.var 15) (.neg (.cst (.int 1)))) (.var 8)) .nil))))) (.cons (.ret (.cst (.bool false))) .nil) .nil) .nil))))))))))))))))))) (.cons (.ret (.cst (.bool true))) .nil))
def fns : Nat → Option Fn
  | 0 => some f0
  | 1 => some f1
  | 2 => some f2
  | 3 => some f3
  | 4 => some f4
  | 5 => some f5
  | 6 => some f6
  | 7 => some f7
  | 8 => some f8
  | 9 => some f9
  | 10 => some f10
  | 11 => some f11
  | 12 => some f12
  | 13 => some f13
  | 14 => some f14
  | 15 => some f15
  | 16 => some f16
  | 17 => some f17
  | _ => none
end K32
namespace K32
open Q
abbrev tp (a b : Int) : D := .tuple [.int a, .int b]
def nrm (a b : Int) : D := tp (a / (Int.gcd a b : Nat)) (b / (Int.gcd a b : Nat))
/-! ### fractions -/
theorem gcd_step (a b : Nat) : Nat.gcd b (a % b) = Nat.gcd a b := by
  rw [Nat.gcd_comm b, ← Nat.gcd_rec, Nat.gcd_comm]
theorem modC (a b : Nat) : ((a : Int) % (b : Int)) = ((a % b : Nat) : Int) := by omega
theorem gcd_mod (x y : Int) : Int.gcd y (x % y) = Int.gcd x y := by
  rw [Int.gcd_comm]
  have h : x = x % y + y * (x / y) := (Int.emod_add_mul_ediv x y).symm
  conv => rhs; rw [h]
  exact (Int.gcd_add_mul_left_left y _ _).symm
section
variable {ds : List Int} {k t : Nat} {a b c d : Int} {e f : D}
theorem s4 (ha : intB a = true) (hc : intB c = true) : callF fns ds (k + 1) 4 [tp a b, tp c d] t = some (⟨.sh, .bool (decide (a * d < c * b))⟩, t) := by
  rw [callF_fn (fn := f4) rfl rfl]
  simp only [f4, b4, ↓Q.exec, ↓ev, ↓evL, ↓evT, ↓evO, ↓evI, ↓bnd_ap, ↓opt_ap, ↓bol_ap, ↓ite_ap, ↓lstR_ap, ↓tupR_ap, Q.ret, getS, List.getElem?_cons_succ, List.getElem?_cons_zero, op_add, op_sub, op_mod, op_fdiv, Int.reduceLT, shd, bltD, store, shared, Q.bind1, Q.bindL, Option.bind_some, List.set_cons_succ, List.set_cons_zero, Bool.or_true, Bool.true_or, Bool.and_self, decide_true, op_mulRi, op_mulLi, op_mulR, op_mulL, Int.reduceNeg, List.mapM_nil, List.mapM_cons, Option.pure_def, Option.bind_eq_bind, List.length_nil, lim, Nat.zero_le, ↓reduceIte, List.length_cons, Nat.reduceAdd, Nat.reduceLeDiff, ↓Q.execs, ↓evAnd, ↓evOr, ↓evTA, ↓evTR, ↓evTO, callKd_nil, callKd_sh, callKd_fr, cp_lt, cp_le, cp_gt, cp_ge, cp_eqI, cp_neI, cp_isB, tru, entry, endR, backR, List.map_cons, List.map_nil, List.replicate, List.cons_append, List.nil_append, Nat.reduceSub, ixD, atI_0, atI_1, atI_2, atI_3, Option.map_some, intOf, Nat.sub_self, retS, storesM, List.all_cons, List.all_nil, Option.isSome_some, Bool.and_true, Bool.true_and, reduceCtorEq, ↓callKd_nil, backR, List.all_cons, op_sub, List.mapM_cons, Bool.not_true, Bool.not_false, Bool.false_eq_true, Bool.true_eq_false, decide_false, eq_self, ha, hc]
theorem s15 (ha : intB a = true) (hc : intB c = true) : callF fns ds (k + 1) 15 [tp a b, tp c d] t = some (⟨.sh, .bool (decide (a * d < c * b))⟩, t) := by
  rw [callF_fn (fn := f15) rfl rfl]
  simp only [f15, b15, ↓Q.exec, ↓ev, ↓evL, ↓evT, ↓evO, ↓evI, ↓bnd_ap, ↓opt_ap, ↓bol_ap, ↓ite_ap, ↓lstR_ap, ↓tupR_ap, Q.ret, getS, List.getElem?_cons_succ, List.getElem?_cons_zero, op_add, op_sub, op_mod, op_fdiv, Int.reduceLT, shd, bltD, store, shared, Q.bind1, Q.bindL, Option.bind_some, List.set_cons_succ, List.set_cons_zero, Bool.or_true, Bool.true_or, Bool.and_self, decide_true, op_mulRi, op_mulLi, op_mulR, op_mulL, Int.reduceNeg, List.mapM_nil, List.mapM_cons, Option.pure_def, Option.bind_eq_bind, List.length_nil, lim, Nat.zero_le, ↓reduceIte, List.length_cons, Nat.reduceAdd, Nat.reduceLeDiff, ↓Q.execs, ↓evAnd, ↓evOr, ↓evTA, ↓evTR, ↓evTO, callKd_nil, callKd_sh, callKd_fr, cp_lt, cp_le, cp_gt, cp_ge, cp_eqI, cp_neI, cp_isB, tru, entry, endR, backR, List.map_cons, List.map_nil, List.replicate, List.cons_append, List.nil_append, Nat.reduceSub, ixD, atI_0, atI_1, atI_2, atI_3, Option.map_some, intOf, Nat.sub_self, retS, storesM, List.all_cons, List.all_nil, Option.isSome_some, Bool.and_true, Bool.true_and, reduceCtorEq, ↓callKd_nil, backR, List.all_cons, op_sub, List.mapM_cons, Bool.not_true, Bool.not_false, Bool.false_eq_true, Bool.true_eq_false, decide_false, eq_self, ha, hc]
theorem s0 {a b : Nat} (hb : b < 1000000000) (hg : Nat.gcd a b ≠ 0) : callF fns ds (k + 1) 0 [.int a, .int b] t = some (⟨.sh, .int (Nat.gcd a b : Nat)⟩, t) := by
  refine call_yes (fn := f0) rfl rfl ?_
  unfold f0 b0
  refine step_whl (fun n ρ u => u = t ∧ ∃ x y : Nat, ρ = [.sh (.int x), .sh (.int y)] ∧ y ≤ n ∧ Nat.gcd x y = Nat.gcd a b) b hb ⟨rfl, a, b, rfl, Nat.le_refl _, rfl⟩ ?_
  rintro n ρ u ⟨rfl, x, y, rfl, hy, hxy⟩
  refine ⟨!decide ((y : Int) = 0), by simp only [↓Q.exec, ↓ev, ↓evL, ↓evT, ↓evO, ↓evI, ↓bnd_ap, ↓opt_ap, ↓bol_ap, ↓ite_ap, ↓lstR_ap, ↓tupR_ap, Q.ret, getS, List.getElem?_cons_succ, List.getElem?_cons_zero, op_add, op_sub, op_mod, op_fdiv, Int.reduceLT, shd, bltD, store, shared, Q.bind1, Q.bindL, Option.bind_some, List.set_cons_succ, List.set_cons_zero, Bool.or_true, Bool.true_or, Bool.and_self, decide_true, op_mulRi, op_mulLi, op_mulR, op_mulL, Int.reduceNeg, List.mapM_nil, List.mapM_cons, Option.pure_def, Option.bind_eq_bind, List.length_nil, lim, Nat.zero_le, ↓reduceIte, List.length_cons, Nat.reduceAdd, Nat.reduceLeDiff, ↓Q.execs, ↓evAnd, ↓evOr, ↓evTA, ↓evTR, ↓evTO, callKd_nil, callKd_sh, callKd_fr, cp_lt, cp_le, cp_gt, cp_ge, cp_eqI, cp_neI, cp_isB, tru, entry, endR, backR, List.map_cons, List.map_nil, List.replicate, List.cons_append, List.nil_append, Nat.reduceSub, ixD, atI_0, atI_1, atI_2, atI_3, Option.map_some, intOf, Nat.sub_self, retS, storesM, List.all_cons, List.all_nil, Option.isSome_some, Bool.and_true, Bool.true_and, reduceCtorEq, ↓callKd_nil, backR, List.all_cons, op_sub, List.mapM_cons, Bool.not_true, Bool.not_false, Bool.false_eq_true, Bool.true_eq_false, decide_false, eq_self], fun h => ?_, fun h => ?_⟩
  · have h0 : y = 0 := by simpa using h
    subst h0
    rw [Nat.gcd_zero_right] at hxy
    have hx : ((x : Int) = 0) = False := by
      simp only [eq_iff_iff, iff_false]
      omega
    refine step_rt (v := ⟨.sh, .int x⟩) (t' := u) (by simp only [↓Q.exec, ↓ev, ↓evL, ↓evT, ↓evO, ↓evI, ↓bnd_ap, ↓opt_ap, ↓bol_ap, ↓ite_ap, ↓lstR_ap, ↓tupR_ap, Q.ret, getS, List.getElem?_cons_succ, List.getElem?_cons_zero, op_add, op_sub, op_mod, op_fdiv, Int.reduceLT, shd, bltD, store, shared, Q.bind1, Q.bindL, Option.bind_some, List.set_cons_succ, List.set_cons_zero, Bool.or_true, Bool.true_or, Bool.and_self, decide_true, op_mulRi, op_mulLi, op_mulR, op_mulL, Int.reduceNeg, List.mapM_nil, List.mapM_cons, Option.pure_def, Option.bind_eq_bind, List.length_nil, lim, Nat.zero_le, ↓reduceIte, List.length_cons, Nat.reduceAdd, Nat.reduceLeDiff, ↓Q.execs, ↓evAnd, ↓evOr, ↓evTA, ↓evTR, ↓evTO, callKd_nil, callKd_sh, callKd_fr, cp_lt, cp_le, cp_gt, cp_ge, cp_eqI, cp_neI, cp_isB, tru, entry, endR, backR, List.map_cons, List.map_nil, List.replicate, List.cons_append, List.nil_append, Nat.reduceSub, ixD, atI_0, atI_1, atI_2, atI_3, Option.map_some, intOf, Nat.sub_self, retS, storesM, List.all_cons, List.all_nil, Option.isSome_some, Bool.and_true, Bool.true_and, reduceCtorEq, ↓callKd_nil, backR, List.all_cons, op_sub, List.mapM_cons, Bool.not_true, Bool.not_false, Bool.false_eq_true, Bool.true_eq_false, decide_false, eq_self, hx, decide_false, Bool.not_false]) ?_
    rw [hxy]
    exact ⟨rfl, rfl⟩
  · have h0 : y ≠ 0 := by simpa using h
    refine ⟨by omega, ?_⟩
    have hp : (0 : Int) < (y : Int) := by omega
    refine step (ρ' := [.sh (.int y), .sh (.int ((x % y : Nat) : Int))]) (t' := u) (by simp only [↓Q.exec, ↓ev, ↓evL, ↓evT, ↓evO, ↓evI, ↓bnd_ap, ↓opt_ap, ↓bol_ap, ↓ite_ap, ↓lstR_ap, ↓tupR_ap, Q.ret, getS, List.getElem?_cons_succ, List.getElem?_cons_zero, op_add, op_sub, op_mod, op_fdiv, Int.reduceLT, shd, bltD, store, shared, Q.bind1, Q.bindL, Option.bind_some, List.set_cons_succ, List.set_cons_zero, Bool.or_true, Bool.true_or, Bool.and_self, decide_true, op_mulRi, op_mulLi, op_mulR, op_mulL, Int.reduceNeg, List.mapM_nil, List.mapM_cons, Option.pure_def, Option.bind_eq_bind, List.length_nil, lim, Nat.zero_le, ↓reduceIte, List.length_cons, Nat.reduceAdd, Nat.reduceLeDiff, ↓Q.execs, ↓evAnd, ↓evOr, ↓evTA, ↓evTR, ↓evTO, callKd_nil, callKd_sh, callKd_fr, cp_lt, cp_le, cp_gt, cp_ge, cp_eqI, cp_neI, cp_isB, tru, entry, endR, backR, List.map_cons, List.map_nil, List.replicate, List.cons_append, List.nil_append, Nat.reduceSub, ixD, atI_0, atI_1, atI_2, atI_3, Option.map_some, intOf, Nat.sub_self, retS, storesM, List.all_cons, List.all_nil, Option.isSome_some, Bool.and_true, Bool.true_and, reduceCtorEq, ↓callKd_nil, backR, List.all_cons, op_sub, List.mapM_cons, Bool.not_true, Bool.not_false, Bool.false_eq_true, Bool.true_eq_false, decide_false, eq_self, hp, modC]) ?_
    refine step_nil (turn_nx ?_)
    have := Nat.mod_lt x (Nat.pos_of_ne_zero h0)
    exact ⟨rfl, y, x % y, rfl, by omega, by rw [gcd_step]; exact hxy⟩

/-- the greatest common divisor is above 0 -/
theorem gpos {a b : Int} (hb : 0 < b) : 0 < Int.gcd a b ∧ (Int.gcd a b : Int) ≤ b := by
  have h1 : (Int.gcd a b : Int) ∣ b := Int.gcd_dvd_right ..
  have h2 : 0 < Int.gcd a b := Int.gcd_pos_of_ne_zero_right a (by omega)
  exact ⟨h2, Int.le_of_dvd hb h1⟩
theorem abs_cast (a : Int) : (if a < 0 then -a else a) = ((a.natAbs : Nat) : Int) := by
  split <;> omega
theorem s1 (hb : 0 < b) (hb2 : b < 1000000000) : callF fns ds (k + 2) 1 [.int a, .int b] t = some (⟨.sh, nrm a b⟩, t) := by
  obtain ⟨g1, g2⟩ := gpos (a := a) hb
  have e0 : callF fns ds (k + 1) 0 [.int (a.natAbs : Nat), .int (b.natAbs : Nat)] t = some (⟨.sh, .int (Int.gcd a b : Nat)⟩, t) := s0 (by omega) (by
    have : Nat.gcd a.natAbs b.natAbs = Int.gcd a b := rfl
    omega)
  have p1 : (0 : Int) < (Int.gcd a b : Nat) := by omega
  have p2 : ((Int.gcd a b : Nat) : Int) < 1073741824 := by omega
  rw [callF_fn (fn := f1) rfl rfl]
  simp only [f1, b1, ↓Q.exec, ↓ev, ↓evL, ↓evT, ↓evO, ↓evI, ↓bnd_ap, ↓opt_ap, ↓bol_ap, ↓ite_ap, ↓lstR_ap, ↓tupR_ap, Q.ret, getS, List.getElem?_cons_succ, List.getElem?_cons_zero, op_add, op_sub, op_mod, op_fdiv, Int.reduceLT, shd, bltD, store, shared, Q.bind1, Q.bindL, Option.bind_some, List.set_cons_succ, List.set_cons_zero, Bool.or_true, Bool.true_or, Bool.and_self, decide_true, op_mulRi, op_mulLi, op_mulR, op_mulL, Int.reduceNeg, List.mapM_nil, List.mapM_cons, Option.pure_def, Option.bind_eq_bind, List.length_nil, lim, Nat.zero_le, ↓reduceIte, List.length_cons, Nat.reduceAdd, Nat.reduceLeDiff, ↓Q.execs, ↓evAnd, ↓evOr, ↓evTA, ↓evTR, ↓evTO, callKd_nil, callKd_sh, callKd_fr, cp_lt, cp_le, cp_gt, cp_ge, cp_eqI, cp_neI, cp_isB, tru, entry, endR, backR, List.map_cons, List.map_nil, List.replicate, List.cons_append, List.nil_append, Nat.reduceSub, ixD, atI_0, atI_1, atI_2, atI_3, Option.map_some, intOf, Nat.sub_self, retS, storesM, List.all_cons, List.all_nil, Option.isSome_some, Bool.and_true, Bool.true_and, reduceCtorEq, ↓callKd_nil, backR, List.all_cons, op_sub, List.mapM_cons, Bool.not_true, Bool.not_false, Bool.false_eq_true, Bool.true_eq_false, decide_false, eq_self, abs_cast, e0, hb, Int.mul_one, p1, p2, nrm]
theorem s12 (hb : 0 ≤ b) (hb2 : b < 400) : callF fns ds (k + 1) 12 [.int a, .int b] t = some (⟨.sh, .int (Int.gcd a b : Nat)⟩, t) := by
  refine call_yes (fn := f12) rfl rfl ?_
  unfold f12 b12
  refine step_for (xs := rangeL 0 400) (t' := t) (it_rng1 (by simp only [↓Q.exec, ↓ev, ↓evL, ↓evT, ↓evO, ↓evI, ↓bnd_ap, ↓opt_ap, ↓bol_ap, ↓ite_ap, ↓lstR_ap, ↓tupR_ap, Q.ret, getS, List.getElem?_cons_succ, List.getElem?_cons_zero, op_add, op_sub, op_mod, op_fdiv, Int.reduceLT, shd, bltD, store, shared, Q.bind1, Q.bindL, Option.bind_some, List.set_cons_succ, List.set_cons_zero, Bool.or_true, Bool.true_or, Bool.and_self, decide_true, op_mulRi, op_mulLi, op_mulR, op_mulL, Int.reduceNeg, List.mapM_nil, List.mapM_cons, Option.pure_def, Option.bind_eq_bind, List.length_nil, lim, Nat.zero_le, ↓reduceIte, List.length_cons, Nat.reduceAdd, Nat.reduceLeDiff, ↓Q.execs, ↓evAnd, ↓evOr, ↓evTA, ↓evTR, ↓evTO, callKd_nil, callKd_sh, callKd_fr, cp_lt, cp_le, cp_gt, cp_ge, cp_eqI, cp_neI, cp_isB, tru, entry, endR, backR, List.map_cons, List.map_nil, List.replicate, List.cons_append, List.nil_append, Nat.reduceSub, ixD, atI_0, atI_1, atI_2, atI_3, Option.map_some, intOf, Nat.sub_self, retS, storesM, List.all_cons, List.all_nil, Option.isSome_some, Bool.and_true, Bool.true_and, reduceCtorEq, ↓callKd_nil, backR, List.all_cons, op_sub, List.mapM_cons, Bool.not_true, Bool.not_false, Bool.false_eq_true, Bool.true_eq_false, decide_false, eq_self]; rfl) (by decide)) (fun i ρ u => u = t ∧ ∃ (x y : Int) (s : Sl), ρ = [.sh (.int x), .sh (.int y), s] ∧ 0 ≤ y ∧ y ≤ 400 - i ∧ Int.gcd x y = Int.gcd a b) ⟨rfl, a, b, _, rfl, hb, by omega, rfl⟩ ?_ ?_
  · rintro i d ρ u hd ⟨rfl, x, y, s, rfl, hy, hle, hg⟩
    refine ⟨_, rfl, ?_⟩
    refine step_ite (k := decide (y = 0)) (t' := u) (by simp only [↓Q.exec, ↓ev, ↓evL, ↓evT, ↓evO, ↓evI, ↓bnd_ap, ↓opt_ap, ↓bol_ap, ↓ite_ap, ↓lstR_ap, ↓tupR_ap, Q.ret, getS, List.getElem?_cons_succ, List.getElem?_cons_zero, op_add, op_sub, op_mod, op_fdiv, Int.reduceLT, shd, bltD, store, shared, Q.bind1, Q.bindL, Option.bind_some, List.set_cons_succ, List.set_cons_zero, Bool.or_true, Bool.true_or, Bool.and_self, decide_true, op_mulRi, op_mulLi, op_mulR, op_mulL, Int.reduceNeg, List.mapM_nil, List.mapM_cons, Option.pure_def, Option.bind_eq_bind, List.length_nil, lim, Nat.zero_le, ↓reduceIte, List.length_cons, Nat.reduceAdd, Nat.reduceLeDiff, ↓Q.execs, ↓evAnd, ↓evOr, ↓evTA, ↓evTR, ↓evTO, callKd_nil, callKd_sh, callKd_fr, cp_lt, cp_le, cp_gt, cp_ge, cp_eqI, cp_neI, cp_isB, tru, entry, endR, backR, List.map_cons, List.map_nil, List.replicate, List.cons_append, List.nil_append, Nat.reduceSub, ixD, atI_0, atI_1, atI_2, atI_3, Option.map_some, intOf, Nat.sub_self, retS, storesM, List.all_cons, List.all_nil, Option.isSome_some, Bool.and_true, Bool.true_and, reduceCtorEq, ↓callKd_nil, backR, List.all_cons, op_sub, List.mapM_cons, Bool.not_true, Bool.not_false, Bool.false_eq_true, Bool.true_eq_false, decide_false, eq_self]) (fun h => ?_) (fun h => ?_)
    · refine step_bk (t' := u) (by simp only [↓Q.exec, ↓ev, ↓evL, ↓evT, ↓evO, ↓evI, ↓bnd_ap, ↓opt_ap, ↓bol_ap, ↓ite_ap, ↓lstR_ap, ↓tupR_ap, Q.ret, getS, List.getElem?_cons_succ, List.getElem?_cons_zero, op_add, op_sub, op_mod, op_fdiv, Int.reduceLT, shd, bltD, store, shared, Q.bind1, Q.bindL, Option.bind_some, List.set_cons_succ, List.set_cons_zero, Bool.or_true, Bool.true_or, Bool.and_self, decide_true, op_mulRi, op_mulLi, op_mulR, op_mulL, Int.reduceNeg, List.mapM_nil, List.mapM_cons, Option.pure_def, Option.bind_eq_bind, List.length_nil, lim, Nat.zero_le, ↓reduceIte, List.length_cons, Nat.reduceAdd, Nat.reduceLeDiff, ↓Q.execs, ↓evAnd, ↓evOr, ↓evTA, ↓evTR, ↓evTO, callKd_nil, callKd_sh, callKd_fr, cp_lt, cp_le, cp_gt, cp_ge, cp_eqI, cp_neI, cp_isB, tru, entry, endR, backR, List.map_cons, List.map_nil, List.replicate, List.cons_append, List.nil_append, Nat.reduceSub, ixD, atI_0, atI_1, atI_2, atI_3, Option.map_some, intOf, Nat.sub_self, retS, storesM, List.all_cons, List.all_nil, Option.isSome_some, Bool.and_true, Bool.true_and, reduceCtorEq, ↓callKd_nil, backR, List.all_cons, op_sub, List.mapM_cons, Bool.not_true, Bool.not_false, Bool.false_eq_true, Bool.true_eq_false, decide_false, eq_self]; rfl) (cont_bk (turn_bk ?_))
      have h0 : y = 0 := by simpa using h
      subst h0
      refine step_rt (v := ⟨.sh, .int (Int.gcd a b : Nat)⟩) (t' := u) ?_ ⟨rfl, rfl⟩
      simp only [↓Q.exec, ↓ev, ↓evL, ↓evT, ↓evO, ↓evI, ↓bnd_ap, ↓opt_ap, ↓bol_ap, ↓ite_ap, ↓lstR_ap, ↓tupR_ap, Q.ret, getS, List.getElem?_cons_succ, List.getElem?_cons_zero, op_add, op_sub, op_mod, op_fdiv, Int.reduceLT, shd, bltD, store, shared, Q.bind1, Q.bindL, Option.bind_some, List.set_cons_succ, List.set_cons_zero, Bool.or_true, Bool.true_or, Bool.and_self, decide_true, op_mulRi, op_mulLi, op_mulR, op_mulL, Int.reduceNeg, List.mapM_nil, List.mapM_cons, Option.pure_def, Option.bind_eq_bind, List.length_nil, lim, Nat.zero_le, ↓reduceIte, List.length_cons, Nat.reduceAdd, Nat.reduceLeDiff, ↓Q.execs, ↓evAnd, ↓evOr, ↓evTA, ↓evTR, ↓evTO, callKd_nil, callKd_sh, callKd_fr, cp_lt, cp_le, cp_gt, cp_ge, cp_eqI, cp_neI, cp_isB, tru, entry, endR, backR, List.map_cons, List.map_nil, List.replicate, List.cons_append, List.nil_append, Nat.reduceSub, ixD, atI_0, atI_1, atI_2, atI_3, Option.map_some, intOf, Nat.sub_self, retS, storesM, List.all_cons, List.all_nil, Option.isSome_some, Bool.and_true, Bool.true_and, reduceCtorEq, ↓callKd_nil, backR, List.all_cons, op_sub, List.mapM_cons, Bool.not_true, Bool.not_false, Bool.false_eq_true, Bool.true_eq_false, decide_false, eq_self, abs_cast, ← hg, Int.gcd_zero_right]
    · have h0 : y ≠ 0 := by simpa using h
      have hp : 0 < y := by omega
      refine step_nil (cont_nx ?_)
      refine step (ρ' := [.sh (.int y), .sh (.int (x % y)), .sh d]) (t' := u) (by simp only [↓Q.exec, ↓ev, ↓evL, ↓evT, ↓evO, ↓evI, ↓bnd_ap, ↓opt_ap, ↓bol_ap, ↓ite_ap, ↓lstR_ap, ↓tupR_ap, Q.ret, getS, List.getElem?_cons_succ, List.getElem?_cons_zero, op_add, op_sub, op_mod, op_fdiv, Int.reduceLT, shd, bltD, store, shared, Q.bind1, Q.bindL, Option.bind_some, List.set_cons_succ, List.set_cons_zero, Bool.or_true, Bool.true_or, Bool.and_self, decide_true, op_mulRi, op_mulLi, op_mulR, op_mulL, Int.reduceNeg, List.mapM_nil, List.mapM_cons, Option.pure_def, Option.bind_eq_bind, List.length_nil, lim, Nat.zero_le, ↓reduceIte, List.length_cons, Nat.reduceAdd, Nat.reduceLeDiff, ↓Q.execs, ↓evAnd, ↓evOr, ↓evTA, ↓evTR, ↓evTO, callKd_nil, callKd_sh, callKd_fr, cp_lt, cp_le, cp_gt, cp_ge, cp_eqI, cp_neI, cp_isB, tru, entry, endR, backR, List.map_cons, List.map_nil, List.replicate, List.cons_append, List.nil_append, Nat.reduceSub, ixD, atI_0, atI_1, atI_2, atI_3, Option.map_some, intOf, Nat.sub_self, retS, storesM, List.all_cons, List.all_nil, Option.isSome_some, Bool.and_true, Bool.true_and, reduceCtorEq, ↓callKd_nil, backR, List.all_cons, op_sub, List.mapM_cons, Bool.not_true, Bool.not_false, Bool.false_eq_true, Bool.true_eq_false, decide_false, eq_self, hp]) ?_
      refine step_nil (turn_nx ?_)
      have m1 := Int.emod_nonneg x h0
      have m2 := Int.emod_lt_of_pos x hp
      refine ⟨rfl, y, x % y, _, rfl, m1, by omega, ?_⟩
      rw [← hg, gcd_mod]
  · rintro ρ u ⟨rfl, x, y, s, rfl, hy, hle, hg⟩
    rw [rangeL_len] at hle
    have h0 : y = 0 := by omega
    subst h0
    refine step_rt (v := ⟨.sh, .int (Int.gcd a b : Nat)⟩) (t' := u) ?_ ⟨rfl, rfl⟩
    simp only [↓Q.exec, ↓ev, ↓evL, ↓evT, ↓evO, ↓evI, ↓bnd_ap, ↓opt_ap, ↓bol_ap, ↓ite_ap, ↓lstR_ap, ↓tupR_ap, Q.ret, getS, List.getElem?_cons_succ, List.getElem?_cons_zero, op_add, op_sub, op_mod, op_fdiv, Int.reduceLT, shd, bltD, store, shared, Q.bind1, Q.bindL, Option.bind_some, List.set_cons_succ, List.set_cons_zero, Bool.or_true, Bool.true_or, Bool.and_self, decide_true, op_mulRi, op_mulLi, op_mulR, op_mulL, Int.reduceNeg, List.mapM_nil, List.mapM_cons, Option.pure_def, Option.bind_eq_bind, List.length_nil, lim, Nat.zero_le, ↓reduceIte, List.length_cons, Nat.reduceAdd, Nat.reduceLeDiff, ↓Q.execs, ↓evAnd, ↓evOr, ↓evTA, ↓evTR, ↓evTO, callKd_nil, callKd_sh, callKd_fr, cp_lt, cp_le, cp_gt, cp_ge, cp_eqI, cp_neI, cp_isB, tru, entry, endR, backR, List.map_cons, List.map_nil, List.replicate, List.cons_append, List.nil_append, Nat.reduceSub, ixD, atI_0, atI_1, atI_2, atI_3, Option.map_some, intOf, Nat.sub_self, retS, storesM, List.all_cons, List.all_nil, Option.isSome_some, Bool.and_true, Bool.true_and, reduceCtorEq, ↓callKd_nil, backR, List.all_cons, op_sub, List.mapM_cons, Bool.not_true, Bool.not_false, Bool.false_eq_true, Bool.true_eq_false, decide_false, eq_self, abs_cast, ← hg, Int.gcd_zero_right]
theorem s13 (hb : 0 < b) (hb2 : b < 400) : callF fns ds (k + 2) 13 [.int a, .int b] t = some (⟨.sh, nrm a b⟩, t) := by
  obtain ⟨g1, g2⟩ := gpos (a := a) hb
  have e0 : callF fns ds (k + 1) 12 [.int a, .int b] t = some (⟨.sh, .int (Int.gcd a b : Nat)⟩, t) := s12 (by omega) hb2
  have p1 : (0 : Int) < (Int.gcd a b : Nat) := by omega
  have p2 : ((Int.gcd a b : Nat) : Int) < 1073741824 := by omega
  have p3 : ¬ (b < 0) := by omega
  rw [callF_fn (fn := f13) rfl rfl]
  simp only [f13, b13, ↓Q.exec, ↓ev, ↓evL, ↓evT, ↓evO, ↓evI, ↓bnd_ap, ↓opt_ap, ↓bol_ap, ↓ite_ap, ↓lstR_ap, ↓tupR_ap, Q.ret, getS, List.getElem?_cons_succ, List.getElem?_cons_zero, op_add, op_sub, op_mod, op_fdiv, Int.reduceLT, shd, bltD, store, shared, Q.bind1, Q.bindL, Option.bind_some, List.set_cons_succ, List.set_cons_zero, Bool.or_true, Bool.true_or, Bool.and_self, decide_true, op_mulRi, op_mulLi, op_mulR, op_mulL, Int.reduceNeg, List.mapM_nil, List.mapM_cons, Option.pure_def, Option.bind_eq_bind, List.length_nil, lim, Nat.zero_le, ↓reduceIte, List.length_cons, Nat.reduceAdd, Nat.reduceLeDiff, ↓Q.execs, ↓evAnd, ↓evOr, ↓evTA, ↓evTR, ↓evTO, callKd_nil, callKd_sh, callKd_fr, cp_lt, cp_le, cp_gt, cp_ge, cp_eqI, cp_neI, cp_isB, tru, entry, endR, backR, List.map_cons, List.map_nil, List.replicate, List.cons_append, List.nil_append, Nat.reduceSub, ixD, atI_0, atI_1, atI_2, atI_3, Option.map_some, intOf, Nat.sub_self, retS, storesM, List.all_cons, List.all_nil, Option.isSome_some, Bool.and_true, Bool.true_and, reduceCtorEq, ↓callKd_nil, backR, List.all_cons, op_sub, List.mapM_cons, Bool.not_true, Bool.not_false, Bool.false_eq_true, Bool.true_eq_false, decide_false, eq_self, e0, p1, p2, p3, nrm]
/-! ### leases -/
abbrev drift (slow fast of : Int) : D := .tuple [.int slow, .int fast, .int of]
variable {slow fast of less long : Int}
theorem s5 (h1 : 0 < of - slow) (h2 : of - slow < 1000) (h3 : intB of = true) : callF fns ds (k + 3) 5 [drift slow fast of, .int less] t = some (⟨.sh, nrm (less * of) (of - slow)⟩, t) := by
  rw [callF_fn (fn := f5) rfl rfl]
  simp only [f5, b5, ↓Q.exec, ↓ev, ↓evL, ↓evT, ↓evO, ↓evI, ↓bnd_ap, ↓opt_ap, ↓bol_ap, ↓ite_ap, ↓lstR_ap, ↓tupR_ap, Q.ret, getS, List.getElem?_cons_succ, List.getElem?_cons_zero, op_add, op_sub, op_mod, op_fdiv, Int.reduceLT, shd, bltD, store, shared, Q.bind1, Q.bindL, Option.bind_some, List.set_cons_succ, List.set_cons_zero, Bool.or_true, Bool.true_or, Bool.and_self, decide_true, op_mulRi, op_mulLi, op_mulR, op_mulL, Int.reduceNeg, List.mapM_nil, List.mapM_cons, Option.pure_def, Option.bind_eq_bind, List.length_nil, lim, Nat.zero_le, ↓reduceIte, List.length_cons, Nat.reduceAdd, Nat.reduceLeDiff, ↓Q.execs, ↓evAnd, ↓evOr, ↓evTA, ↓evTR, ↓evTO, callKd_nil, callKd_sh, callKd_fr, cp_lt, cp_le, cp_gt, cp_ge, cp_eqI, cp_neI, cp_isB, tru, entry, endR, backR, List.map_cons, List.map_nil, List.replicate, List.cons_append, List.nil_append, Nat.reduceSub, ixD, atI_0, atI_1, atI_2, atI_3, Option.map_some, intOf, Nat.sub_self, retS, storesM, List.all_cons, List.all_nil, Option.isSome_some, Bool.and_true, Bool.true_and, reduceCtorEq, ↓callKd_nil, backR, List.all_cons, op_sub, List.mapM_cons, Bool.not_true, Bool.not_false, Bool.false_eq_true, Bool.true_eq_false, decide_false, eq_self, s1 h1 (show of - slow < 1000000000 by omega), h3]
theorem s6 (h1 : 0 < of + fast) (h2 : of + fast < 1000) (h3 : intB of = true) : callF fns ds (k + 3) 6 [drift slow fast of, .int long] t = some (⟨.sh, nrm (long * of) (of + fast)⟩, t) := by
  rw [callF_fn (fn := f6) rfl rfl]
  simp only [f6, b6, ↓Q.exec, ↓ev, ↓evL, ↓evT, ↓evO, ↓evI, ↓bnd_ap, ↓opt_ap, ↓bol_ap, ↓ite_ap, ↓lstR_ap, ↓tupR_ap, Q.ret, getS, List.getElem?_cons_succ, List.getElem?_cons_zero, op_add, op_sub, op_mod, op_fdiv, Int.reduceLT, shd, bltD, store, shared, Q.bind1, Q.bindL, Option.bind_some, List.set_cons_succ, List.set_cons_zero, Bool.or_true, Bool.true_or, Bool.and_self, decide_true, op_mulRi, op_mulLi, op_mulR, op_mulL, Int.reduceNeg, List.mapM_nil, List.mapM_cons, Option.pure_def, Option.bind_eq_bind, List.length_nil, lim, Nat.zero_le, ↓reduceIte, List.length_cons, Nat.reduceAdd, Nat.reduceLeDiff, ↓Q.execs, ↓evAnd, ↓evOr, ↓evTA, ↓evTR, ↓evTO, callKd_nil, callKd_sh, callKd_fr, cp_lt, cp_le, cp_gt, cp_ge, cp_eqI, cp_neI, cp_isB, tru, entry, endR, backR, List.map_cons, List.map_nil, List.replicate, List.cons_append, List.nil_append, Nat.reduceSub, ixD, atI_0, atI_1, atI_2, atI_3, Option.map_some, intOf, Nat.sub_self, retS, storesM, List.all_cons, List.all_nil, Option.isSome_some, Bool.and_true, Bool.true_and, reduceCtorEq, ↓callKd_nil, backR, List.all_cons, op_sub, List.mapM_cons, Bool.not_true, Bool.not_false, Bool.false_eq_true, Bool.true_eq_false, decide_false, eq_self, s1 h1 (show of + fast < 1000000000 by omega), h3]
theorem nrm_scale (hg : 0 < c) : nrm (a * c) (b * c) = nrm a b := by
  have h : ((Int.gcd (a * c) (b * c) : Nat) : Int) = (Int.gcd a b : Nat) * c := by
    rw [Int.gcd_mul_right, Int.natCast_mul]
    congr 1
    omega
  unfold nrm
  rw [h, Int.mul_ediv_mul_of_pos_left _ _ hg, Int.mul_ediv_mul_of_pos_left _ _ hg]
theorem nrm_parts (a : Int) {b : Int} (hb : 0 < b) : ∃ p q g : Int, nrm a b = tp p q ∧ a = p * g ∧ b = q * g ∧ 0 < g ∧ 0 < q := by
  obtain ⟨g1, g2⟩ := gpos (a := a) hb
  have e1 := Int.ediv_mul_cancel (Int.gcd_dvd_left a b)
  have e2 := Int.ediv_mul_cancel (Int.gcd_dvd_right a b)
  refine ⟨_, _, (Int.gcd a b : Nat), rfl, e1.symm, e2.symm, by omega, ?_⟩
  by_cases h : 0 < b / (Int.gcd a b : Nat)
  · exact h
  · have : b / (Int.gcd a b : Nat) * (Int.gcd a b : Nat) ≤ 0 := Int.mul_nonpos_of_nonpos_of_nonneg (by omega) (by omega)
    omega
theorem part_le {a p g : Int} (h : a = p * g) (hg : 0 < g) (ha : 0 ≤ a) : 0 ≤ p ∧ p ≤ a := by
  have hp : 0 ≤ p := by
    by_cases q : 0 ≤ p
    · exact q
    · have : p * g < 0 := Int.mul_neg_of_neg_of_pos (by omega) hg
      omega
  refine ⟨hp, ?_⟩
  rw [h]
  have := Int.mul_le_mul_of_nonneg_left (show 1 ≤ g by omega) hp
  omega
theorem less_iff {a b c d p q p' q' g h : Int} (ea : a = p * g) (eb : b = q * g) (ec : c = p' * h) (ed : d = q' * h) (hg : 0 < g) (hh : 0 < h) : (p * q' < p' * q) ↔ (a * d < c * b) := by
  subst ea eb ec ed
  rw [show p * g * (q' * h) = p * q' * (g * h) by ac_rfl, show p' * h * (q * g) = p' * q * (g * h) by ac_rfl]
  exact (Int.mul_lt_mul_right (Int.mul_pos hg hh)).symm
theorem s4n (ha : 0 ≤ a) (ha2 : a < 1000000) (hb : 0 < b) (hc : 0 ≤ c) (hc2 : c < 1000000) (hd : 0 < d) : callF fns ds (k + 1) 4 [nrm a b, nrm c d] t = some (⟨.sh, .bool (decide (a * d < c * b))⟩, t) := by
  obtain ⟨p, q, g, e1, e2, e3, e4, e5⟩ := nrm_parts a hb
  obtain ⟨p', q', h, f1, f2, f3, f4, f5⟩ := nrm_parts c hd
  have l1 := part_le e2 e4 ha
  have l2 := part_le f2 f4 hc
  rw [e1, f1, s4 (int_small (by omega) (by omega)) (int_small (by omega) (by omega)), decide_eq_decide.mpr (less_iff e2 e3 f2 f3 e4 f4)]
theorem s15n (ha : 0 ≤ a) (ha2 : a < 1000000) (hb : 0 < b) (hc : 0 ≤ c) (hc2 : c < 1000000) (hd : 0 < d) : callF fns ds (k + 1) 15 [nrm a b, nrm c d] t = some (⟨.sh, .bool (decide (a * d < c * b))⟩, t) := by
  obtain ⟨p, q, g, e1, e2, e3, e4, e5⟩ := nrm_parts a hb
  obtain ⟨p', q', h, f1, f2, f3, f4, f5⟩ := nrm_parts c hd
  have l1 := part_le e2 e4 ha
  have l2 := part_le f2 f4 hc
  rw [e1, f1, s15 (int_small (by omega) (by omega)) (int_small (by omega) (by omega)), decide_eq_decide.mpr (less_iff e2 e3 f2 f3 e4 f4)]
theorem s16 (h1 : 0 < a) (h2 : a < 400) (h3 : 0 < b) (h4 : intB c = true) : callF fns ds (k + 3) 16 [.int c, nrm a b] t = some (⟨.sh, nrm (c * b) a⟩, t) := by
  obtain ⟨p, q, g, e1, e2, e3, e4, e5⟩ := nrm_parts a h3
  have l1 := part_le e2 e4 (by omega)
  have hp : 0 < p := by
    by_cases z : p = 0
    · subst z
      omega
    · omega
  rw [e1, callF_fn (fn := f16) rfl rfl]
  simp only [f16, b16, ↓Q.exec, ↓ev, ↓evL, ↓evT, ↓evO, ↓evI, ↓bnd_ap, ↓opt_ap, ↓bol_ap, ↓ite_ap, ↓lstR_ap, ↓tupR_ap, Q.ret, getS, List.getElem?_cons_succ, List.getElem?_cons_zero, op_add, op_sub, op_mod, op_fdiv, Int.reduceLT, shd, bltD, store, shared, Q.bind1, Q.bindL, Option.bind_some, List.set_cons_succ, List.set_cons_zero, Bool.or_true, Bool.true_or, Bool.and_self, decide_true, op_mulRi, op_mulLi, op_mulR, op_mulL, Int.reduceNeg, List.mapM_nil, List.mapM_cons, Option.pure_def, Option.bind_eq_bind, List.length_nil, lim, Nat.zero_le, ↓reduceIte, List.length_cons, Nat.reduceAdd, Nat.reduceLeDiff, ↓Q.execs, ↓evAnd, ↓evOr, ↓evTA, ↓evTR, ↓evTO, callKd_nil, callKd_sh, callKd_fr, cp_lt, cp_le, cp_gt, cp_ge, cp_eqI, cp_neI, cp_isB, tru, entry, endR, backR, List.map_cons, List.map_nil, List.replicate, List.cons_append, List.nil_append, Nat.reduceSub, ixD, atI_0, atI_1, atI_2, atI_3, Option.map_some, intOf, Nat.sub_self, retS, storesM, List.all_cons, List.all_nil, Option.isSome_some, Bool.and_true, Bool.true_and, reduceCtorEq, ↓callKd_nil, backR, List.all_cons, op_sub, List.mapM_cons, Bool.not_true, Bool.not_false, Bool.false_eq_true, Bool.true_eq_false, decide_false, eq_self, h4, s13 hp (show p < 400 by omega)]
  rw [show c * b = c * q * g by rw [e3]; ac_rfl, show nrm (c * q * g) a = nrm (c * q * g) (p * g) by rw [← e2], nrm_scale e4]
/-- the lesser and the greater of two rates -/
theorem s17 {H0 H1 W0 W1 : D} {b00 b10 b01 b11 : Bool} (e00 : ∀ t, callF fns ds k 15 [W0, H0] t = some (⟨.sh, .bool b00⟩, t)) (e10 : ∀ t, callF fns ds k 15 [W1, H0] t = some (⟨.sh, .bool b10⟩, t))
    (e01 : ∀ t, callF fns ds k 15 [W0, H1] t = some (⟨.sh, .bool b01⟩, t)) (e11 : ∀ t, callF fns ds k 15 [W1, H1] t = some (⟨.sh, .bool b11⟩, t)) (o0 : okD (.list [W0]) = true) (o1 : okD (.list [W1]) = true) (o2 : okD (.list [W0, W1]) = true) :
    callF fns ds (k + 1) 17 [.list [H0, H1], .list [W0, W1]] t = some (⟨.sh, .bool (!b00 && !b10 && !b01 && !b11)⟩, t) := by
  rw [callF_fn (fn := f17) rfl rfl]
  have n0 : cpD .ne (.list []) (.list []) = some false := rfl
  have n1 : ∀ x : D, okD (.list [x]) = true → cpD .ne (.list [x]) (.list []) = some true := fun x h => by
    rw [cp_ne_nil h]
    rfl
  have n2 : ∀ x y : D, okD (.list [x, y]) = true → cpD .ne (.list [x, y]) (.list []) = some true := fun x y h => by
    rw [cp_ne_nil h]
    rfl
  cases b00 <;> cases b10 <;> cases b01 <;> cases b11 <;>
    simp only [f17, b17, ↓Q.exec, ↓ev, ↓evL, ↓evT, ↓evO, ↓evI, ↓bnd_ap, ↓opt_ap, ↓bol_ap, ↓ite_ap, ↓lstR_ap, ↓tupR_ap, Q.ret, getS, List.getElem?_cons_succ, List.getElem?_cons_zero, op_add, op_sub, op_mod, op_fdiv, Int.reduceLT, shd, bltD, store, shared, Q.bind1, Q.bindL, Option.bind_some, List.set_cons_succ, List.set_cons_zero, Bool.or_true, Bool.true_or, Bool.and_self, decide_true, op_mulRi, op_mulLi, op_mulR, op_mulL, Int.reduceNeg, List.mapM_nil, List.mapM_cons, Option.pure_def, Option.bind_eq_bind, List.length_nil, lim, Nat.zero_le, ↓reduceIte, List.length_cons, Nat.reduceAdd, Nat.reduceLeDiff, ↓Q.execs, ↓evAnd, ↓evOr, ↓evTA, ↓evTR, ↓evTO, callKd_nil, callKd_sh, callKd_fr, cp_lt, cp_le, cp_gt, cp_ge, cp_eqI, cp_neI, cp_isB, tru, entry, endR, backR, List.map_cons, List.map_nil, List.replicate, List.cons_append, List.nil_append, Nat.reduceSub, ixD, atI_0, atI_1, atI_2, atI_3, Option.map_some, intOf, Nat.sub_self, retS, storesM, List.all_cons, List.all_nil, Option.isSome_some, Bool.and_true, Bool.true_and, reduceCtorEq, ↓callKd_nil, backR, List.all_cons, op_sub, List.mapM_cons, Bool.not_true, Bool.not_false, Bool.false_eq_true, Bool.true_eq_false, decide_false, eq_self, seqI, safe, Q.forM, Q.compM, wipeE, e00, e10, e01, e11, n0, n1 _ o0, n1 _ o1, n2 _ _ o2]
theorem s7 (h1 : 0 < of - slow) (h2 : of ≤ 100) (h3 : 0 ≤ slow) (h4 : 0 ≤ fast) (h5 : fast ≤ 100) (h6 : 0 ≤ long) (h7 : long ≤ 100) (h8 : 0 ≤ less) (h9 : less ≤ 100) :
    callF fns ds (k + 4) 7 [drift slow fast of, .int long, .int less] t = some (⟨.sh, .bool (!decide (long * of * (of - slow) < less * of * (of + fast)))⟩, t) := by
  have ho : intB of = true := int_small (by omega) (by omega)
  have m1 : 0 ≤ long * of := Int.mul_nonneg h6 (by omega)
  have m2 : 0 ≤ less * of := Int.mul_nonneg h8 (by omega)
  have m3 : long * of ≤ 100 * 100 := Int.mul_le_mul h7 h2 (by omega) (by omega)
  have m4 : less * of ≤ 100 * 100 := Int.mul_le_mul h9 h2 (by omega) (by omega)
  have e5 : ∀ t, callF fns ds (k + 3) 5 [drift slow fast of, .int less] t = some (⟨.sh, nrm (less * of) (of - slow)⟩, t) := fun _ => s5 h1 (by omega) ho
  have e6 : ∀ t, callF fns ds (k + 3) 6 [drift slow fast of, .int long] t = some (⟨.sh, nrm (long * of) (of + fast)⟩, t) := fun _ => s6 (by omega) (by omega) ho
  have e4 : ∀ t, callF fns ds (k + 3) 4 [nrm (long * of) (of + fast), nrm (less * of) (of - slow)] t = some (⟨.sh, .bool (decide (long * of * (of - slow) < less * of * (of + fast)))⟩, t) := fun _ => s4n m1 (by omega) (by omega) m2 (by omega) (by omega)
  rw [callF_fn (fn := f7) rfl rfl]
  simp only [f7, b7, ↓Q.exec, ↓ev, ↓evL, ↓evT, ↓evO, ↓evI, ↓bnd_ap, ↓opt_ap, ↓bol_ap, ↓ite_ap, ↓lstR_ap, ↓tupR_ap, Q.ret, getS, List.getElem?_cons_succ, List.getElem?_cons_zero, op_add, op_sub, op_mod, op_fdiv, Int.reduceLT, shd, bltD, store, shared, Q.bind1, Q.bindL, Option.bind_some, List.set_cons_succ, List.set_cons_zero, Bool.or_true, Bool.true_or, Bool.and_self, decide_true, op_mulRi, op_mulLi, op_mulR, op_mulL, Int.reduceNeg, List.mapM_nil, List.mapM_cons, Option.pure_def, Option.bind_eq_bind, List.length_nil, lim, Nat.zero_le, ↓reduceIte, List.length_cons, Nat.reduceAdd, Nat.reduceLeDiff, ↓Q.execs, ↓evAnd, ↓evOr, ↓evTA, ↓evTR, ↓evTO, callKd_nil, callKd_sh, callKd_fr, cp_lt, cp_le, cp_gt, cp_ge, cp_eqI, cp_neI, cp_isB, tru, entry, endR, backR, List.map_cons, List.map_nil, List.replicate, List.cons_append, List.nil_append, Nat.reduceSub, ixD, atI_0, atI_1, atI_2, atI_3, Option.map_some, intOf, Nat.sub_self, retS, storesM, List.all_cons, List.all_nil, Option.isSome_some, Bool.and_true, Bool.true_and, reduceCtorEq, ↓callKd_nil, backR, List.all_cons, op_sub, List.mapM_cons, Bool.not_true, Bool.not_false, Bool.false_eq_true, Bool.true_eq_false, decide_false, eq_self, e5, e6, e4]
/-- the last of a row, or 0 -/
def last0 (ns : List Int) : Int := ns.getLast?.getD 0
theorem s8 (p : Int → Bool) (h0 : 0 ≤ long) (h1 : long ≤ 1000) (e7 : ∀ n t, 1 ≤ n → n < long + 1 → callF fns ds k 7 [drift slow fast of, .int long, .int n] t = some (⟨.sh, .bool (p n)⟩, t)) :
    callF fns ds (k + 1) 8 [drift slow fast of, .int long] t = some (⟨.sh, .int (last0 ((irange 1 (long + 1)).filter p))⟩, t) := by
  refine call_yes (fn := f8) rfl rfl ?_
  unfold f8 b8
  have hi : evI ⟨ds, callF fns ds k⟩ (.rng2 (.cst (.int 1)) (.bin .add (.var 1) (.cst (.int 1)))) [.sh (drift slow fast of), .sh (.int long), .un, .un] t = some ((true, (irange 1 (long + 1)).map .int), t) := by
    rw [← rangeL_eq]
    exact it_rng2 (by simp only [↓Q.exec, ↓ev, ↓evL, ↓evT, ↓evO, ↓evI, ↓bnd_ap, ↓opt_ap, ↓bol_ap, ↓ite_ap, ↓lstR_ap, ↓tupR_ap, Q.ret, getS, List.getElem?_cons_succ, List.getElem?_cons_zero, op_add, op_sub, op_mod, op_fdiv, Int.reduceLT, shd, bltD, store, shared, Q.bind1, Q.bindL, Option.bind_some, List.set_cons_succ, List.set_cons_zero, Bool.or_true, Bool.true_or, Bool.and_self, decide_true, op_mulRi, op_mulLi, op_mulR, op_mulL, Int.reduceNeg, List.mapM_nil, List.mapM_cons, Option.pure_def, Option.bind_eq_bind, List.length_nil, lim, Nat.zero_le, ↓reduceIte, List.length_cons, Nat.reduceAdd, Nat.reduceLeDiff, ↓Q.execs, ↓evAnd, ↓evOr, ↓evTA, ↓evTR, ↓evTO, callKd_nil, callKd_sh, callKd_fr, cp_lt, cp_le, cp_gt, cp_ge, cp_eqI, cp_neI, cp_isB, tru, entry, endR, backR, List.map_cons, List.map_nil, List.replicate, List.cons_append, List.nil_append, Nat.reduceSub, ixD, atI_0, atI_1, atI_2, atI_3, Option.map_some, intOf, Nat.sub_self, retS, storesM, List.all_cons, List.all_nil, Option.isSome_some, Bool.and_true, Bool.true_and, reduceCtorEq, ↓callKd_nil, backR, List.all_cons, op_sub, List.mapM_cons, Bool.not_true, Bool.not_false, Bool.false_eq_true, Bool.true_eq_false, decide_false, eq_self]; rfl) (by simp only [↓Q.exec, ↓ev, ↓evL, ↓evT, ↓evO, ↓evI, ↓bnd_ap, ↓opt_ap, ↓bol_ap, ↓ite_ap, ↓lstR_ap, ↓tupR_ap, Q.ret, getS, List.getElem?_cons_succ, List.getElem?_cons_zero, op_add, op_sub, op_mod, op_fdiv, Int.reduceLT, shd, bltD, store, shared, Q.bind1, Q.bindL, Option.bind_some, List.set_cons_succ, List.set_cons_zero, Bool.or_true, Bool.true_or, Bool.and_self, decide_true, op_mulRi, op_mulLi, op_mulR, op_mulL, Int.reduceNeg, List.mapM_nil, List.mapM_cons, Option.pure_def, Option.bind_eq_bind, List.length_nil, lim, Nat.zero_le, ↓reduceIte, List.length_cons, Nat.reduceAdd, Nat.reduceLeDiff, ↓Q.execs, ↓evAnd, ↓evOr, ↓evTA, ↓evTR, ↓evTO, callKd_nil, callKd_sh, callKd_fr, cp_lt, cp_le, cp_gt, cp_ge, cp_eqI, cp_neI, cp_isB, tru, entry, endR, backR, List.map_cons, List.map_nil, List.replicate, List.cons_append, List.nil_append, Nat.reduceSub, ixD, atI_0, atI_1, atI_2, atI_3, Option.map_some, intOf, Nat.sub_self, retS, storesM, List.all_cons, List.all_nil, Option.isSome_some, Bool.and_true, Bool.true_and, reduceCtorEq, ↓callKd_nil, backR, List.all_cons, op_sub, List.mapM_cons, Bool.not_true, Bool.not_false, Bool.false_eq_true, Bool.true_eq_false, decide_false, eq_self]; rfl) (by decide) (rng_ok (by omega) (by omega))
  refine step (ρ' := [.sh (drift slow fast of), .sh (.int long), .ow (.list (((irange 1 (long + 1)).filter p).map .int)), .un]) (t' := t) ?_ ?_
  · have hlc := ev_lcI (vs := [3]) (elt := .var 3) (tg := .nm 3) (cond := .so (.val (.call 7 (.cons (.var 0) (.cons (.var 1) (.cons (.var 3) .nil)))))) hi p .int (fun n hn => by
      obtain ⟨n1, n2⟩ := mem_irange.mp hn
      simp only [lcB, wipeE, ↓Q.exec, ↓ev, ↓evL, ↓evT, ↓evO, ↓evI, ↓bnd_ap, ↓opt_ap, ↓bol_ap, ↓ite_ap, ↓lstR_ap, ↓tupR_ap, Q.ret, getS, List.getElem?_cons_succ, List.getElem?_cons_zero, op_add, op_sub, op_mod, op_fdiv, Int.reduceLT, shd, bltD, store, shared, Q.bind1, Q.bindL, Option.bind_some, List.set_cons_succ, List.set_cons_zero, Bool.or_true, Bool.true_or, Bool.and_self, decide_true, op_mulRi, op_mulLi, op_mulR, op_mulL, Int.reduceNeg, List.mapM_nil, List.mapM_cons, Option.pure_def, Option.bind_eq_bind, List.length_nil, lim, Nat.zero_le, ↓reduceIte, List.length_cons, Nat.reduceAdd, Nat.reduceLeDiff, ↓Q.execs, ↓evAnd, ↓evOr, ↓evTA, ↓evTR, ↓evTO, callKd_nil, callKd_sh, callKd_fr, cp_lt, cp_le, cp_gt, cp_ge, cp_eqI, cp_neI, cp_isB, tru, entry, endR, backR, List.map_cons, List.map_nil, List.replicate, List.cons_append, List.nil_append, Nat.reduceSub, ixD, atI_0, atI_1, atI_2, atI_3, Option.map_some, intOf, Nat.sub_self, retS, storesM, List.all_cons, List.all_nil, Option.isSome_some, Bool.and_true, Bool.true_and, reduceCtorEq, ↓callKd_nil, backR, List.all_cons, op_sub, List.mapM_cons, Bool.not_true, Bool.not_false, Bool.false_eq_true, Bool.true_eq_false, decide_false, eq_self, e7 n _ n1 n2]
      cases p n <;> simp only [↓Q.exec, ↓ev, ↓evL, ↓evT, ↓evO, ↓evI, ↓bnd_ap, ↓opt_ap, ↓bol_ap, ↓ite_ap, ↓lstR_ap, ↓tupR_ap, Q.ret, getS, List.getElem?_cons_succ, List.getElem?_cons_zero, op_add, op_sub, op_mod, op_fdiv, Int.reduceLT, shd, bltD, store, shared, Q.bind1, Q.bindL, Option.bind_some, List.set_cons_succ, List.set_cons_zero, Bool.or_true, Bool.true_or, Bool.and_self, decide_true, op_mulRi, op_mulLi, op_mulR, op_mulL, Int.reduceNeg, List.mapM_nil, List.mapM_cons, Option.pure_def, Option.bind_eq_bind, List.length_nil, lim, Nat.zero_le, ↓reduceIte, List.length_cons, Nat.reduceAdd, Nat.reduceLeDiff, ↓Q.execs, ↓evAnd, ↓evOr, ↓evTA, ↓evTR, ↓evTO, callKd_nil, callKd_sh, callKd_fr, cp_lt, cp_le, cp_gt, cp_ge, cp_eqI, cp_neI, cp_isB, tru, entry, endR, backR, List.map_cons, List.map_nil, List.replicate, List.cons_append, List.nil_append, Nat.reduceSub, ixD, atI_0, atI_1, atI_2, atI_3, Option.map_some, intOf, Nat.sub_self, retS, storesM, List.all_cons, List.all_nil, Option.isSome_some, Bool.and_true, Bool.true_and, reduceCtorEq, ↓callKd_nil, backR, List.all_cons, op_sub, List.mapM_cons, Bool.not_true, Bool.not_false, Bool.false_eq_true, Bool.true_eq_false, decide_false, eq_self]) (by
      rw [irange_len]
      have : lim = 16777216 := rfl
      omega)
    rw [show entry _ _ = [.sh (drift slow fast of), .sh (.int long), .un, .un] from rfl, Q.exec, bnd_ap, hlc]
    simp only [↓Q.exec, ↓ev, ↓evL, ↓evT, ↓evO, ↓evI, ↓bnd_ap, ↓opt_ap, ↓bol_ap, ↓ite_ap, ↓lstR_ap, ↓tupR_ap, Q.ret, getS, List.getElem?_cons_succ, List.getElem?_cons_zero, op_add, op_sub, op_mod, op_fdiv, Int.reduceLT, shd, bltD, store, shared, Q.bind1, Q.bindL, Option.bind_some, List.set_cons_succ, List.set_cons_zero, Bool.or_true, Bool.true_or, Bool.and_self, decide_true, op_mulRi, op_mulLi, op_mulR, op_mulL, Int.reduceNeg, List.mapM_nil, List.mapM_cons, Option.pure_def, Option.bind_eq_bind, List.length_nil, lim, Nat.zero_le, ↓reduceIte, List.length_cons, Nat.reduceAdd, Nat.reduceLeDiff, ↓Q.execs, ↓evAnd, ↓evOr, ↓evTA, ↓evTR, ↓evTO, callKd_nil, callKd_sh, callKd_fr, cp_lt, cp_le, cp_gt, cp_ge, cp_eqI, cp_neI, cp_isB, tru, entry, endR, backR, List.map_cons, List.map_nil, List.replicate, List.cons_append, List.nil_append, Nat.reduceSub, ixD, atI_0, atI_1, atI_2, atI_3, Option.map_some, intOf, Nat.sub_self, retS, storesM, List.all_cons, List.all_nil, Option.isSome_some, Bool.and_true, Bool.true_and, reduceCtorEq, ↓callKd_nil, backR, List.all_cons, op_sub, List.mapM_cons, Bool.not_true, Bool.not_false, Bool.false_eq_true, Bool.true_eq_false, decide_false, eq_self]
  · have hne := cp_ne_nil (xs := ((irange 1 (long + 1)).filter p).map .int) okD_ints
    refine step_rt (v := ⟨.sh, .int (last0 ((irange 1 (long + 1)).filter p))⟩) (t' := t) ?_ ⟨rfl, rfl⟩
    generalize (irange 1 (long + 1)).filter p = l at hne ⊢
    cases hl : l.getLast? with
    | none =>
      rw [List.getLast?_eq_none_iff] at hl
      subst hl
      have n0 : cpD .ne (.list []) (.list []) = some false := rfl
      simp only [↓Q.exec, ↓ev, ↓evL, ↓evT, ↓evO, ↓evI, ↓bnd_ap, ↓opt_ap, ↓bol_ap, ↓ite_ap, ↓lstR_ap, ↓tupR_ap, Q.ret, getS, List.getElem?_cons_succ, List.getElem?_cons_zero, op_add, op_sub, op_mod, op_fdiv, Int.reduceLT, shd, bltD, store, shared, Q.bind1, Q.bindL, Option.bind_some, List.set_cons_succ, List.set_cons_zero, Bool.or_true, Bool.true_or, Bool.and_self, decide_true, op_mulRi, op_mulLi, op_mulR, op_mulL, Int.reduceNeg, List.mapM_nil, List.mapM_cons, Option.pure_def, Option.bind_eq_bind, List.length_nil, lim, Nat.zero_le, ↓reduceIte, List.length_cons, Nat.reduceAdd, Nat.reduceLeDiff, ↓Q.execs, ↓evAnd, ↓evOr, ↓evTA, ↓evTR, ↓evTO, callKd_nil, callKd_sh, callKd_fr, cp_lt, cp_le, cp_gt, cp_ge, cp_eqI, cp_neI, cp_isB, tru, entry, endR, backR, List.map_cons, List.map_nil, List.replicate, List.cons_append, List.nil_append, Nat.reduceSub, ixD, atI_0, atI_1, atI_2, atI_3, Option.map_some, intOf, Nat.sub_self, retS, storesM, List.all_cons, List.all_nil, Option.isSome_some, Bool.and_true, Bool.true_and, reduceCtorEq, ↓callKd_nil, backR, List.all_cons, op_sub, List.mapM_cons, Bool.not_true, Bool.not_false, Bool.false_eq_true, Bool.true_eq_false, decide_false, eq_self, n0, last0, List.getLast?_nil, Option.getD_none]
    | some z =>
      have hn : l ≠ [] := fun h => by
        subst h
        cases hl
      have ha : L2.atI (l.map PySem.PyData.int) (-1) = some (.int z) := atI_neg1 (by rw [List.getLast?_map, hl]; rfl)
      have he : (l.map PySem.PyData.int).isEmpty = false := by simp [hn]
      simp only [↓Q.exec, ↓ev, ↓evL, ↓evT, ↓evO, ↓evI, ↓bnd_ap, ↓opt_ap, ↓bol_ap, ↓ite_ap, ↓lstR_ap, ↓tupR_ap, Q.ret, getS, List.getElem?_cons_succ, List.getElem?_cons_zero, op_add, op_sub, op_mod, op_fdiv, Int.reduceLT, shd, bltD, store, shared, Q.bind1, Q.bindL, Option.bind_some, List.set_cons_succ, List.set_cons_zero, Bool.or_true, Bool.true_or, Bool.and_self, decide_true, op_mulRi, op_mulLi, op_mulR, op_mulL, Int.reduceNeg, List.mapM_nil, List.mapM_cons, Option.pure_def, Option.bind_eq_bind, List.length_nil, lim, Nat.zero_le, ↓reduceIte, List.length_cons, Nat.reduceAdd, Nat.reduceLeDiff, ↓Q.execs, ↓evAnd, ↓evOr, ↓evTA, ↓evTR, ↓evTO, callKd_nil, callKd_sh, callKd_fr, cp_lt, cp_le, cp_gt, cp_ge, cp_eqI, cp_neI, cp_isB, tru, entry, endR, backR, List.map_cons, List.map_nil, List.replicate, List.cons_append, List.nil_append, Nat.reduceSub, ixD, atI_0, atI_1, atI_2, atI_3, Option.map_some, intOf, Nat.sub_self, retS, storesM, List.all_cons, List.all_nil, Option.isSome_some, Bool.and_true, Bool.true_and, reduceCtorEq, ↓callKd_nil, backR, List.all_cons, op_sub, List.mapM_cons, Bool.not_true, Bool.not_false, Bool.false_eq_true, Bool.true_eq_false, decide_false, eq_self, hne, he, last0, hl, Option.getD_some, ha]
theorem s10 (h : intB (c + 1) = true) : callF fns ds (k + 1) 10 [.int a, .int b, .int c] t = some (⟨.sh, .bool (decide (b * (c + 1) < a))⟩, t) := by
  rw [callF_fn (fn := f10) rfl rfl]
  simp only [f10, b10, ↓Q.exec, ↓ev, ↓evL, ↓evT, ↓evO, ↓evI, ↓bnd_ap, ↓opt_ap, ↓bol_ap, ↓ite_ap, ↓lstR_ap, ↓tupR_ap, Q.ret, getS, List.getElem?_cons_succ, List.getElem?_cons_zero, op_add, op_sub, op_mod, op_fdiv, Int.reduceLT, shd, bltD, store, shared, Q.bind1, Q.bindL, Option.bind_some, List.set_cons_succ, List.set_cons_zero, Bool.or_true, Bool.true_or, Bool.and_self, decide_true, op_mulRi, op_mulLi, op_mulR, op_mulL, Int.reduceNeg, List.mapM_nil, List.mapM_cons, Option.pure_def, Option.bind_eq_bind, List.length_nil, lim, Nat.zero_le, ↓reduceIte, List.length_cons, Nat.reduceAdd, Nat.reduceLeDiff, ↓Q.execs, ↓evAnd, ↓evOr, ↓evTA, ↓evTR, ↓evTO, callKd_nil, callKd_sh, callKd_fr, cp_lt, cp_le, cp_gt, cp_ge, cp_eqI, cp_neI, cp_isB, tru, entry, endR, backR, List.map_cons, List.map_nil, List.replicate, List.cons_append, List.nil_append, Nat.reduceSub, ixD, atI_0, atI_1, atI_2, atI_3, Option.map_some, intOf, Nat.sub_self, retS, storesM, List.all_cons, List.all_nil, Option.isSome_some, Bool.and_true, Bool.true_and, reduceCtorEq, ↓callKd_nil, backR, List.all_cons, op_sub, List.mapM_cons, Bool.not_true, Bool.not_false, Bool.false_eq_true, Bool.true_eq_false, decide_false, eq_self, h]
theorem s11 {p : Bool} : callF fns ds (k + 1) 11 [.bool p, .bool p] t = some (⟨.sh, .bool true⟩, t) := by
  rw [callF_fn (fn := f11) rfl rfl]
  cases p <;> simp only [f11, b11, ↓Q.exec, ↓ev, ↓evL, ↓evT, ↓evO, ↓evI, ↓bnd_ap, ↓opt_ap, ↓bol_ap, ↓ite_ap, ↓lstR_ap, ↓tupR_ap, Q.ret, getS, List.getElem?_cons_succ, List.getElem?_cons_zero, op_add, op_sub, op_mod, op_fdiv, Int.reduceLT, shd, bltD, store, shared, Q.bind1, Q.bindL, Option.bind_some, List.set_cons_succ, List.set_cons_zero, Bool.or_true, Bool.true_or, Bool.and_self, decide_true, op_mulRi, op_mulLi, op_mulR, op_mulL, Int.reduceNeg, List.mapM_nil, List.mapM_cons, Option.pure_def, Option.bind_eq_bind, List.length_nil, lim, Nat.zero_le, ↓reduceIte, List.length_cons, Nat.reduceAdd, Nat.reduceLeDiff, ↓Q.execs, ↓evAnd, ↓evOr, ↓evTA, ↓evTR, ↓evTO, callKd_nil, callKd_sh, callKd_fr, cp_lt, cp_le, cp_gt, cp_ge, cp_eqI, cp_neI, cp_isB, tru, entry, endR, backR, List.map_cons, List.map_nil, List.replicate, List.cons_append, List.nil_append, Nat.reduceSub, ixD, atI_0, atI_1, atI_2, atI_3, Option.map_some, intOf, Nat.sub_self, retS, storesM, List.all_cons, List.all_nil, Option.isSome_some, Bool.and_true, Bool.true_and, reduceCtorEq, ↓callKd_nil, backR, List.all_cons, op_sub, List.mapM_cons, Bool.not_true, Bool.not_false, Bool.false_eq_true, Bool.true_eq_false, decide_false, eq_self]
theorem okn {a b : Int} : okD (nrm a b) = true := rfl
theorem okn1 {a b : Int} : okD (.list [nrm a b]) = true := rfl
theorem okn2 {a b c d : Int} : okD (.list [nrm a b, nrm c d]) = true := rfl
theorem isTape_t : isTape (some ⟨.sh, tapeD⟩) = true := rfl
theorem s9 (h1 : 0 < of - slow) (h2 : of ≤ 12) (h3 : 0 ≤ slow) (h4 : 0 ≤ fast) (h5 : fast ≤ 8) (h6 : 0 ≤ long) (h7 : long ≤ 100) (h8 : 0 ≤ less) (h9 : less ≤ 100) :
    ∃ x y : Int, (∀ t, callF fns ds (k + 5) 9 [drift slow fast of, .int long, .int less] t = some (⟨.sh, nrm x y⟩, t)) ∧ ∀ t, callF fns ds (k + 5) 14 [nrm (long * of) (of - slow), nrm (less * of) (of + fast)] t = some (⟨.sh, nrm x y⟩, t) := by
  have ho : intB of = true := int_small (by omega) (by omega)
  have m1 : 0 ≤ long * of := Int.mul_nonneg h6 (by omega)
  have m2 : 0 ≤ less * of := Int.mul_nonneg h8 (by omega)
  have m3 : long * of ≤ 100 * 12 := Int.mul_le_mul h7 h2 (by omega) (by omega)
  have m4 : less * of ≤ 100 * 12 := Int.mul_le_mul h9 h2 (by omega) (by omega)
  obtain ⟨p, q, g, e1, e2, e3, e4, e5⟩ := nrm_parts (long * of) h1
  obtain ⟨p', q', h, r1, r2, r3, r4, r5⟩ := nrm_parts (less * of) (show 0 < of + fast by omega)
  have l1 := part_le e2 e4 m1
  have l2 := part_le r2 r4 m2
  have l3 := part_le e3 e4 (by omega)
  have l4 := part_le r3 r4 (by omega)
  have w1 : 0 < q * q' := Int.mul_pos e5 r5
  have w2 : q * q' ≤ 12 * 20 := Int.mul_le_mul (by omega) (by omega) (by omega) (by omega)
  have i1 : intB p = true := int_small (by omega) (by omega)
  have i2 : intB q = true := int_small (by omega) (by omega)
  have i3 : intB p' = true := int_small (by omega) (by omega)
  have i3' : intB (-p') = true := int_small (by omega) (by omega)
  have i4 : intB q' = true := int_small (by omega) (by omega)
  have a1 : ∀ t, callF fns ds (k + 4) 1 [.int (long * of), .int (of - slow)] t = some (⟨.sh, tp p q⟩, t) := fun t => by rw [← e1]; exact s1 h1 (by omega)
  have a2 : ∀ t, callF fns ds (k + 4) 1 [.int (less * of), .int (of + fast)] t = some (⟨.sh, tp p' q'⟩, t) := fun t => by rw [← r1]; exact s1 (by omega) (by omega)
  have a3 : ∀ t, callF fns ds (k + 2) 1 [.int (p * q' + -p' * q), .int (q * q')] t = some (⟨.sh, nrm (p * q' + -p' * q) (q * q')⟩, t) := fun t => s1 w1 (by omega)
  have a4 : ∀ t, callF fns ds (k + 3) 2 [tp p q, tp (-p') q'] t = some (⟨.sh, nrm (p * q' + -p' * q) (q * q')⟩, t) := fun t => by
    rw [callF_fn (fn := f2) rfl rfl]
    simp only [f2, b2, ↓Q.exec, ↓ev, ↓evL, ↓evT, ↓evO, ↓evI, ↓bnd_ap, ↓opt_ap, ↓bol_ap, ↓ite_ap, ↓lstR_ap, ↓tupR_ap, Q.ret, getS, List.getElem?_cons_succ, List.getElem?_cons_zero, op_add, op_sub, op_mod, op_fdiv, Int.reduceLT, shd, bltD, store, shared, Q.bind1, Q.bindL, Option.bind_some, List.set_cons_succ, List.set_cons_zero, Bool.or_true, Bool.true_or, Bool.and_self, decide_true, op_mulRi, op_mulLi, op_mulR, op_mulL, Int.reduceNeg, List.mapM_nil, List.mapM_cons, Option.pure_def, Option.bind_eq_bind, List.length_nil, lim, Nat.zero_le, ↓reduceIte, List.length_cons, Nat.reduceAdd, Nat.reduceLeDiff, ↓Q.execs, ↓evAnd, ↓evOr, ↓evTA, ↓evTR, ↓evTO, callKd_nil, callKd_sh, callKd_fr, cp_lt, cp_le, cp_gt, cp_ge, cp_eqI, cp_neI, cp_isB, tru, entry, endR, backR, List.map_cons, List.map_nil, List.replicate, List.cons_append, List.nil_append, Nat.reduceSub, ixD, atI_0, atI_1, atI_2, atI_3, Option.map_some, intOf, Nat.sub_self, retS, storesM, List.all_cons, List.all_nil, Option.isSome_some, Bool.and_true, Bool.true_and, reduceCtorEq, ↓callKd_nil, backR, List.all_cons, op_sub, List.mapM_cons, Bool.not_true, Bool.not_false, Bool.false_eq_true, Bool.true_eq_false, decide_false, eq_self, i1, i2, i3', i4, a3]
  have a5 : ∀ t, callF fns ds (k + 4) 3 [tp p q, tp p' q'] t = some (⟨.sh, nrm (p * q' + -p' * q) (q * q')⟩, t) := fun t => by
    rw [callF_fn (fn := f3) rfl rfl]
    simp only [f3, b3, ↓Q.exec, ↓ev, ↓evL, ↓evT, ↓evO, ↓evI, ↓bnd_ap, ↓opt_ap, ↓bol_ap, ↓ite_ap, ↓lstR_ap, ↓tupR_ap, Q.ret, getS, List.getElem?_cons_succ, List.getElem?_cons_zero, op_add, op_sub, op_mod, op_fdiv, Int.reduceLT, shd, bltD, store, shared, Q.bind1, Q.bindL, Option.bind_some, List.set_cons_succ, List.set_cons_zero, Bool.or_true, Bool.true_or, Bool.and_self, decide_true, op_mulRi, op_mulLi, op_mulR, op_mulL, Int.reduceNeg, List.mapM_nil, List.mapM_cons, Option.pure_def, Option.bind_eq_bind, List.length_nil, lim, Nat.zero_le, ↓reduceIte, List.length_cons, Nat.reduceAdd, Nat.reduceLeDiff, ↓Q.execs, ↓evAnd, ↓evOr, ↓evTA, ↓evTR, ↓evTO, callKd_nil, callKd_sh, callKd_fr, cp_lt, cp_le, cp_gt, cp_ge, cp_eqI, cp_neI, cp_isB, tru, entry, endR, backR, List.map_cons, List.map_nil, List.replicate, List.cons_append, List.nil_append, Nat.reduceSub, ixD, atI_0, atI_1, atI_2, atI_3, Option.map_some, intOf, Nat.sub_self, retS, storesM, List.all_cons, List.all_nil, Option.isSome_some, Bool.and_true, Bool.true_and, reduceCtorEq, ↓callKd_nil, backR, List.all_cons, op_sub, List.mapM_cons, Bool.not_true, Bool.not_false, Bool.false_eq_true, Bool.true_eq_false, decide_false, eq_self, a4]
  refine ⟨p * q' + -p' * q, q * q', fun t => ?_, fun t => ?_⟩
  · rw [callF_fn (fn := f9) rfl rfl]
    simp only [f9, b9, ↓Q.exec, ↓ev, ↓evL, ↓evT, ↓evO, ↓evI, ↓bnd_ap, ↓opt_ap, ↓bol_ap, ↓ite_ap, ↓lstR_ap, ↓tupR_ap, Q.ret, getS, List.getElem?_cons_succ, List.getElem?_cons_zero, op_add, op_sub, op_mod, op_fdiv, Int.reduceLT, shd, bltD, store, shared, Q.bind1, Q.bindL, Option.bind_some, List.set_cons_succ, List.set_cons_zero, Bool.or_true, Bool.true_or, Bool.and_self, decide_true, op_mulRi, op_mulLi, op_mulR, op_mulL, Int.reduceNeg, List.mapM_nil, List.mapM_cons, Option.pure_def, Option.bind_eq_bind, List.length_nil, lim, Nat.zero_le, ↓reduceIte, List.length_cons, Nat.reduceAdd, Nat.reduceLeDiff, ↓Q.execs, ↓evAnd, ↓evOr, ↓evTA, ↓evTR, ↓evTO, callKd_nil, callKd_sh, callKd_fr, cp_lt, cp_le, cp_gt, cp_ge, cp_eqI, cp_neI, cp_isB, tru, entry, endR, backR, List.map_cons, List.map_nil, List.replicate, List.cons_append, List.nil_append, Nat.reduceSub, ixD, atI_0, atI_1, atI_2, atI_3, Option.map_some, intOf, Nat.sub_self, retS, storesM, List.all_cons, List.all_nil, Option.isSome_some, Bool.and_true, Bool.true_and, reduceCtorEq, ↓callKd_nil, backR, List.all_cons, op_sub, List.mapM_cons, Bool.not_true, Bool.not_false, Bool.false_eq_true, Bool.true_eq_false, decide_false, eq_self, ho, a1, a2, a5]
  · have a6 : ∀ t, callF fns ds (k + 4) 13 [.int (p * q' - p' * q), .int (q * q')] t = some (⟨.sh, nrm (p * q' - p' * q) (q * q')⟩, t) := fun t => s13 w1 (by omega)
    rw [e1, r1, callF_fn (fn := f14) rfl rfl]
    simp only [f14, b14, ↓Q.exec, ↓ev, ↓evL, ↓evT, ↓evO, ↓evI, ↓bnd_ap, ↓opt_ap, ↓bol_ap, ↓ite_ap, ↓lstR_ap, ↓tupR_ap, Q.ret, getS, List.getElem?_cons_succ, List.getElem?_cons_zero, op_add, op_sub, op_mod, op_fdiv, Int.reduceLT, shd, bltD, store, shared, Q.bind1, Q.bindL, Option.bind_some, List.set_cons_succ, List.set_cons_zero, Bool.or_true, Bool.true_or, Bool.and_self, decide_true, op_mulRi, op_mulLi, op_mulR, op_mulL, Int.reduceNeg, List.mapM_nil, List.mapM_cons, Option.pure_def, Option.bind_eq_bind, List.length_nil, lim, Nat.zero_le, ↓reduceIte, List.length_cons, Nat.reduceAdd, Nat.reduceLeDiff, ↓Q.execs, ↓evAnd, ↓evOr, ↓evTA, ↓evTR, ↓evTO, callKd_nil, callKd_sh, callKd_fr, cp_lt, cp_le, cp_gt, cp_ge, cp_eqI, cp_neI, cp_isB, tru, entry, endR, backR, List.map_cons, List.map_nil, List.replicate, List.cons_append, List.nil_append, Nat.reduceSub, ixD, atI_0, atI_1, atI_2, atI_3, Option.map_some, intOf, Nat.sub_self, retS, storesM, List.all_cons, List.all_nil, Option.isSome_some, Bool.and_true, Bool.true_and, reduceCtorEq, ↓callKd_nil, backR, List.all_cons, op_sub, List.mapM_cons, Bool.not_true, Bool.not_false, Bool.false_eq_true, Bool.true_eq_false, decide_false, eq_self, i1, i2, i3, i4, a6]
    rw [show p * q' + -p' * q = p * q' - p' * q by rw [Int.neg_mul]; omega]
theorem safe_eq {s f X Y : Int} (hsf : s ≤ f) (hX : 0 ≤ X) (hY : 0 ≤ Y) : (!decide (X * s < Y * s) && !decide (X * s < Y * f) && !decide (X * f < Y * s) && !decide (X * f < Y * f)) = !decide (X * s < Y * f) := by
  have m1 : X * s ≤ X * f := Int.mul_le_mul_of_nonneg_left hsf hX
  have m2 : Y * s ≤ Y * f := Int.mul_le_mul_of_nonneg_left hsf hY
  by_cases h : X * s < Y * f
  · simp [h]
  · have a1 : ¬ X * s < Y * s := by omega
    have a2 : ¬ X * f < Y * s := by omega
    have a3 : ¬ X * f < Y * f := by omega
    simp [h, a1, a2, a3]
def max0 : List Int → Int
  | [] => 0
  | n :: ns => ns.foldl max n
theorem max_last : ∀ l : List Int, l.Pairwise (· < ·) → max0 l = last0 l
  | [], _ => rfl
  | [n], _ => rfl
  | n :: m :: r, h => by
    have h1 : n < m := (List.pairwise_cons.mp h).1 m List.mem_cons_self
    have ih := max_last (m :: r) (List.pairwise_cons.mp h).2
    show (m :: r).foldl max n = _
    rw [List.foldl_cons, Int.max_eq_right (by omega)]
    show max0 (m :: r) = _
    rw [ih]
    unfold last0
    rw [List.getLast?_cons_cons]
theorem irange_asc {a b : Int} : (irange a b).Pairwise (· < ·) := by
  unfold irange
  rw [List.pairwise_map]
  exact List.pairwise_lt_range.imp fun h => by omega
theorem irange_one {a : Int} : irange a (a + 1) = [a] := by
  unfold irange
  rw [show (a + 1 - a).toNat = 1 by omega]
  simp [List.range_succ]
theorem able_eq {L o s f : Int} (ho : 0 < o) (hs : 0 < s) (hsf : s ≤ f) (hL : 0 ≤ L) : (irange 1 (L + 40)).filter (fun n => !decide (L * o * s < n * o * f)) = (irange 1 (L + 1)).filter fun n => !decide (L * o * s < n * o * f) := by
  rw [irange_split (a := 1) (b := L + 1) (c := L + 40) (by omega) (by omega), List.filter_append]
  have : (irange (L + 1) (L + 40)).filter (fun n => !decide (L * o * s < n * o * f)) = [] := by
    rw [List.filter_eq_nil_iff]
    intro n hn
    obtain ⟨h1, h2⟩ := mem_irange.mp hn
    have q1 : L * o ≤ n * o := Int.mul_le_mul_of_nonneg_right (by omega) (by omega)
    have q2 : L * o < n * o := Int.mul_lt_mul_of_pos_right (by omega) ho
    have q3 : L * o * s ≤ L * o * f := Int.mul_le_mul_of_nonneg_left hsf (Int.mul_nonneg hL (by omega))
    have q4 : L * o * f < n * o * f := Int.mul_lt_mul_of_pos_right q2 (by omega)
    have : L * o * s < n * o * f := by omega
    simp [this]
  rw [this, List.append_nil]
end
theorem run : ∀ (ns ds : List Int), ns.length ≤ 63 → ds.length = 300 → (∀ d ∈ ds, 0 ≤ d ∧ d < 997) → Yes (execs ⟨ds, callF fns ds 9⟩ bL (lawEnv ns 19)) 0 fun fl _ => fl = .rt ⟨.sh, .bool true⟩ := by
  intro ns ds _ _ hd
  unfold bL
  refine step_for (xs := rangeL 0 8) (t' := 0) (it_rng1 (by simp only [↓Q.exec, ↓ev, ↓evL, ↓evT, ↓evO, ↓evI, ↓bnd_ap, ↓opt_ap, ↓bol_ap, ↓ite_ap, ↓lstR_ap, ↓tupR_ap, Q.ret, getS, List.getElem?_cons_succ, List.getElem?_cons_zero, op_add, op_sub, op_mod, op_fdiv, Int.reduceLT, shd, bltD, store, shared, Q.bind1, Q.bindL, Option.bind_some, List.set_cons_succ, List.set_cons_zero, Bool.or_true, Bool.true_or, Bool.and_self, decide_true, op_mulRi, op_mulLi, op_mulR, op_mulL, Int.reduceNeg, List.mapM_nil, List.mapM_cons, Option.pure_def, Option.bind_eq_bind, List.length_nil, lim, Nat.zero_le, ↓reduceIte, List.length_cons, Nat.reduceAdd, Nat.reduceLeDiff, ↓Q.execs, ↓evAnd, ↓evOr, ↓evTA, ↓evTR, ↓evTO, callKd_nil, callKd_sh, callKd_fr, cp_lt, cp_le, cp_gt, cp_ge, cp_eqI, cp_neI, cp_isB, tru, entry, endR, backR, List.map_cons, List.map_nil, List.replicate, List.cons_append, List.nil_append, Nat.reduceSub, ixD, atI_0, atI_1, atI_2, atI_3, Option.map_some, intOf, Nat.sub_self, retS, storesM, List.all_cons, List.all_nil, Option.isSome_some, Bool.and_true, Bool.true_and, reduceCtorEq, ↓callKd_nil, backR, List.all_cons, op_sub, List.mapM_cons, Bool.not_true, Bool.not_false, Bool.false_eq_true, Bool.true_eq_false, decide_false, eq_self]; rfl) (by decide)) (fun i ρ u => ∃ q2 q3 q4 q5 q6 q7 q8 q9 q10 q11 q12 q13 q14 q15 q16 q17 q18, ρ = [.ro (.list (ns.map .int)), .sh tapeD, q2, q3, q4, q5, q6, q7, q8, q9, q10, q11, q12, q13, q14, q15, q16, q17, q18]) ⟨_, _, _, _, _, _, _, _, _, _, _, _, _, _, _, _, _, rfl⟩ ?_ ?_
  · rintro i d ρ u hdd ⟨q2, q3, q4, q5, q6, q7, q8, q9, q10, q11, q12, q13, q14, q15, q16, q17, q18, rfl⟩
    refine ⟨_, rfl, ?_⟩
    obtain ⟨x1, n1, l1, u1⟩ := next_ok' hd (show (0 : Int) < 12 by decide) u
    refine step (by simp only [↓Q.exec, ↓ev, ↓evL, ↓evT, ↓evO, ↓evI, ↓bnd_ap, ↓opt_ap, ↓bol_ap, ↓ite_ap, ↓lstR_ap, ↓tupR_ap, Q.ret, getS, List.getElem?_cons_succ, List.getElem?_cons_zero, op_add, op_sub, op_mod, op_fdiv, Int.reduceLT, shd, bltD, store, shared, Q.bind1, Q.bindL, Option.bind_some, List.set_cons_succ, List.set_cons_zero, Bool.or_true, Bool.true_or, Bool.and_self, decide_true, op_mulRi, op_mulLi, op_mulR, op_mulL, Int.reduceNeg, List.mapM_nil, List.mapM_cons, Option.pure_def, Option.bind_eq_bind, List.length_nil, lim, Nat.zero_le, ↓reduceIte, List.length_cons, Nat.reduceAdd, Nat.reduceLeDiff, ↓Q.execs, ↓evAnd, ↓evOr, ↓evTA, ↓evTR, ↓evTO, callKd_nil, callKd_sh, callKd_fr, cp_lt, cp_le, cp_gt, cp_ge, cp_eqI, cp_neI, cp_isB, tru, entry, endR, backR, List.map_cons, List.map_nil, List.replicate, List.cons_append, List.nil_append, Nat.reduceSub, ixD, atI_0, atI_1, atI_2, atI_3, Option.map_some, intOf, Nat.sub_self, retS, storesM, List.all_cons, List.all_nil, Option.isSome_some, Bool.and_true, Bool.true_and, reduceCtorEq, ↓callKd_nil, backR, List.all_cons, op_sub, List.mapM_cons, Bool.not_true, Bool.not_false, Bool.false_eq_true, Bool.true_eq_false, decide_false, eq_self, isTape_t, n1]; rfl) ?_
    obtain ⟨slow, n2, l2, u2⟩ := next_ok' hd (show (0 : Int) < 1 + x1 by omega) (u + 1)
    obtain ⟨fast, n3, l3, u3⟩ := next_ok' hd (show (0 : Int) < 8 by decide) (u + 1 + 1)
    generalize ho : 1 + x1 = of at *
    refine step (by simp only [↓Q.exec, ↓ev, ↓evL, ↓evT, ↓evO, ↓evI, ↓bnd_ap, ↓opt_ap, ↓bol_ap, ↓ite_ap, ↓lstR_ap, ↓tupR_ap, Q.ret, getS, List.getElem?_cons_succ, List.getElem?_cons_zero, op_add, op_sub, op_mod, op_fdiv, Int.reduceLT, shd, bltD, store, shared, Q.bind1, Q.bindL, Option.bind_some, List.set_cons_succ, List.set_cons_zero, Bool.or_true, Bool.true_or, Bool.and_self, decide_true, op_mulRi, op_mulLi, op_mulR, op_mulL, Int.reduceNeg, List.mapM_nil, List.mapM_cons, Option.pure_def, Option.bind_eq_bind, List.length_nil, lim, Nat.zero_le, ↓reduceIte, List.length_cons, Nat.reduceAdd, Nat.reduceLeDiff, ↓Q.execs, ↓evAnd, ↓evOr, ↓evTA, ↓evTR, ↓evTO, callKd_nil, callKd_sh, callKd_fr, cp_lt, cp_le, cp_gt, cp_ge, cp_eqI, cp_neI, cp_isB, tru, entry, endR, backR, List.map_cons, List.map_nil, List.replicate, List.cons_append, List.nil_append, Nat.reduceSub, ixD, atI_0, atI_1, atI_2, atI_3, Option.map_some, intOf, Nat.sub_self, retS, storesM, List.all_cons, List.all_nil, Option.isSome_some, Bool.and_true, Bool.true_and, reduceCtorEq, ↓callKd_nil, backR, List.all_cons, op_sub, List.mapM_cons, Bool.not_true, Bool.not_false, Bool.false_eq_true, Bool.true_eq_false, decide_false, eq_self, isTape_t, n2, n3]; rfl) ?_
    obtain ⟨x4, n4, l4, u4⟩ := next_ok' hd (show (0 : Int) < 30 by decide) (u + 1 + 1 + 1)
    obtain ⟨x5, n5, l5, u5⟩ := next_ok' hd (show (0 : Int) < 30 by decide) (u + 1 + 1 + 1 + 1)
    refine step (by simp only [↓Q.exec, ↓ev, ↓evL, ↓evT, ↓evO, ↓evI, ↓bnd_ap, ↓opt_ap, ↓bol_ap, ↓ite_ap, ↓lstR_ap, ↓tupR_ap, Q.ret, getS, List.getElem?_cons_succ, List.getElem?_cons_zero, op_add, op_sub, op_mod, op_fdiv, Int.reduceLT, shd, bltD, store, shared, Q.bind1, Q.bindL, Option.bind_some, List.set_cons_succ, List.set_cons_zero, Bool.or_true, Bool.true_or, Bool.and_self, decide_true, op_mulRi, op_mulLi, op_mulR, op_mulL, Int.reduceNeg, List.mapM_nil, List.mapM_cons, Option.pure_def, Option.bind_eq_bind, List.length_nil, lim, Nat.zero_le, ↓reduceIte, List.length_cons, Nat.reduceAdd, Nat.reduceLeDiff, ↓Q.execs, ↓evAnd, ↓evOr, ↓evTA, ↓evTR, ↓evTO, callKd_nil, callKd_sh, callKd_fr, cp_lt, cp_le, cp_gt, cp_ge, cp_eqI, cp_neI, cp_isB, tru, entry, endR, backR, List.map_cons, List.map_nil, List.replicate, List.cons_append, List.nil_append, Nat.reduceSub, ixD, atI_0, atI_1, atI_2, atI_3, Option.map_some, intOf, Nat.sub_self, retS, storesM, List.all_cons, List.all_nil, Option.isSome_some, Bool.and_true, Bool.true_and, reduceCtorEq, ↓callKd_nil, backR, List.all_cons, op_sub, List.mapM_cons, Bool.not_true, Bool.not_false, Bool.false_eq_true, Bool.true_eq_false, decide_false, eq_self, isTape_t, n4, n5]; rfl) ?_
    generalize hlo : 1 + x4 = long at *
    generalize hle : 1 + x5 = less at *
    have io : intB of = true := int_small (by omega) (by omega)
    have ile : intB less = true := int_small (by omega) (by omega)
    have ilo : intB long = true := int_small (by omega) (by omega)
    have ps : 0 < of - slow := by omega
    have pf : 0 < of + fast := by omega
    have e13a : ∀ t, callF fns ds 9 13 [.int (of - slow), .int of] t = some (⟨.sh, nrm (of - slow) of⟩, t) := fun t => s13 (k := 7) (by omega) (by omega)
    have e13b : ∀ t, callF fns ds 9 13 [.int (of + fast), .int of] t = some (⟨.sh, nrm (of + fast) of⟩, t) := fun t => s13 (k := 7) (by omega) (by omega)
    refine step (by simp only [↓Q.exec, ↓ev, ↓evL, ↓evT, ↓evO, ↓evI, ↓bnd_ap, ↓opt_ap, ↓bol_ap, ↓ite_ap, ↓lstR_ap, ↓tupR_ap, Q.ret, getS, List.getElem?_cons_succ, List.getElem?_cons_zero, op_add, op_sub, op_mod, op_fdiv, Int.reduceLT, shd, bltD, store, shared, Q.bind1, Q.bindL, Option.bind_some, List.set_cons_succ, List.set_cons_zero, Bool.or_true, Bool.true_or, Bool.and_self, decide_true, op_mulRi, op_mulLi, op_mulR, op_mulL, Int.reduceNeg, List.mapM_nil, List.mapM_cons, Option.pure_def, Option.bind_eq_bind, List.length_nil, lim, Nat.zero_le, ↓reduceIte, List.length_cons, Nat.reduceAdd, Nat.reduceLeDiff, ↓Q.execs, ↓evAnd, ↓evOr, ↓evTA, ↓evTR, ↓evTO, callKd_nil, callKd_sh, callKd_fr, cp_lt, cp_le, cp_gt, cp_ge, cp_eqI, cp_neI, cp_isB, tru, entry, endR, backR, List.map_cons, List.map_nil, List.replicate, List.cons_append, List.nil_append, Nat.reduceSub, ixD, atI_0, atI_1, atI_2, atI_3, Option.map_some, intOf, Nat.sub_self, retS, storesM, List.all_cons, List.all_nil, Option.isSome_some, Bool.and_true, Bool.true_and, reduceCtorEq, ↓callKd_nil, backR, List.all_cons, op_sub, List.mapM_cons, Bool.not_true, Bool.not_false, Bool.false_eq_true, Bool.true_eq_false, decide_false, eq_self, e13a, e13b]; rfl) ?_
    refine step_frz' (by simp only [frzE, List.getElem?_cons_succ, List.getElem?_cons_zero, List.set_cons_succ, List.set_cons_zero]; rfl) ?_
    have e16a : ∀ c t, intB c = true → callF fns ds 9 16 [.int c, nrm (of - slow) of] t = some (⟨.sh, nrm (c * of) (of - slow)⟩, t) := fun c t h => s16 (k := 6) (by omega) (by omega) (by omega) h
    have e16b : ∀ c t, intB c = true → callF fns ds 9 16 [.int c, nrm (of + fast) of] t = some (⟨.sh, nrm (c * of) (of + fast)⟩, t) := fun c t h => s16 (k := 6) (by omega) (by omega) (by omega) h
    refine step (by simp only [↓Q.exec, ↓ev, ↓evL, ↓evT, ↓evO, ↓evI, ↓bnd_ap, ↓opt_ap, ↓bol_ap, ↓ite_ap, ↓lstR_ap, ↓tupR_ap, Q.ret, getS, List.getElem?_cons_succ, List.getElem?_cons_zero, op_add, op_sub, op_mod, op_fdiv, Int.reduceLT, shd, bltD, store, shared, Q.bind1, Q.bindL, Option.bind_some, List.set_cons_succ, List.set_cons_zero, Bool.or_true, Bool.true_or, Bool.and_self, decide_true, op_mulRi, op_mulLi, op_mulR, op_mulL, Int.reduceNeg, List.mapM_nil, List.mapM_cons, Option.pure_def, Option.bind_eq_bind, List.length_nil, lim, Nat.zero_le, ↓reduceIte, List.length_cons, Nat.reduceAdd, Nat.reduceLeDiff, ↓Q.execs, ↓evAnd, ↓evOr, ↓evTA, ↓evTR, ↓evTO, callKd_nil, callKd_sh, callKd_fr, cp_lt, cp_le, cp_gt, cp_ge, cp_eqI, cp_neI, cp_isB, tru, entry, endR, backR, List.map_cons, List.map_nil, List.replicate, List.cons_append, List.nil_append, Nat.reduceSub, ixD, atI_0, atI_1, atI_2, atI_3, Option.map_some, intOf, Nat.sub_self, retS, storesM, List.all_cons, List.all_nil, Option.isSome_some, Bool.and_true, Bool.true_and, reduceCtorEq, ↓callKd_nil, backR, List.all_cons, op_sub, List.mapM_cons, Bool.not_true, Bool.not_false, Bool.false_eq_true, Bool.true_eq_false, decide_false, eq_self, frzE, seqI, safe, Q.compM, wipeE, e16a _ _ ile, e16b _ _ ile, e16a _ _ ilo, e16b _ _ ilo]; rfl) ?_
    have e5 : ∀ t, callF fns ds 9 5 [drift slow fast of, .int less] t = some (⟨.sh, nrm (less * of) (of - slow)⟩, t) := fun t => s5 (k := 6) ps (by omega) io
    have e6 : ∀ t, callF fns ds 9 6 [drift slow fast of, .int long] t = some (⟨.sh, nrm (long * of) (of + fast)⟩, t) := fun t => s6 (k := 6) pf (by omega) io
    refine step_ite (k := false) (by simp only [↓Q.exec, ↓ev, ↓evL, ↓evT, ↓evO, ↓evI, ↓bnd_ap, ↓opt_ap, ↓bol_ap, ↓ite_ap, ↓lstR_ap, ↓tupR_ap, Q.ret, getS, List.getElem?_cons_succ, List.getElem?_cons_zero, op_add, op_sub, op_mod, op_fdiv, Int.reduceLT, shd, bltD, store, shared, Q.bind1, Q.bindL, Option.bind_some, List.set_cons_succ, List.set_cons_zero, Bool.or_true, Bool.true_or, Bool.and_self, decide_true, op_mulRi, op_mulLi, op_mulR, op_mulL, Int.reduceNeg, List.mapM_nil, List.mapM_cons, Option.pure_def, Option.bind_eq_bind, List.length_nil, lim, Nat.zero_le, ↓reduceIte, List.length_cons, Nat.reduceAdd, Nat.reduceLeDiff, ↓Q.execs, ↓evAnd, ↓evOr, ↓evTA, ↓evTR, ↓evTO, callKd_nil, callKd_sh, callKd_fr, cp_lt, cp_le, cp_gt, cp_ge, cp_eqI, cp_neI, cp_isB, tru, entry, endR, backR, List.map_cons, List.map_nil, List.replicate, List.cons_append, List.nil_append, Nat.reduceSub, ixD, atI_0, atI_1, atI_2, atI_3, Option.map_some, intOf, Nat.sub_self, retS, storesM, List.all_cons, List.all_nil, Option.isSome_some, Bool.and_true, Bool.true_and, reduceCtorEq, ↓callKd_nil, backR, List.all_cons, op_sub, List.mapM_cons, Bool.not_true, Bool.not_false, Bool.false_eq_true, Bool.true_eq_false, decide_false, eq_self, e5, e6, cp_ne_self okn]; rfl) (fun h => nomatch h) (fun _ => step_nil (cont_nx ?_))
    refine step_frz' (by simp only [frzE, List.getElem?_cons_succ, List.getElem?_cons_zero, List.set_cons_succ, List.set_cons_zero]; rfl) ?_
    refine step_frz' (by simp only [frzE, List.getElem?_cons_succ, List.getElem?_cons_zero, List.set_cons_succ, List.set_cons_zero]; rfl) ?_
    have e7 : ∀ n t, 0 ≤ n → n ≤ 100 → ∀ k, callF fns ds (k + 4) 7 [drift slow fast of, .int long, .int n] t = some (⟨.sh, .bool (!decide (long * of * (of - slow) < n * of * (of + fast)))⟩, t) := fun n t a b k =>
      s7 (k := k) ps (by omega) l2 l3 (by omega) (by omega) (by omega) a b
    have eS : ∀ n t, 0 ≤ n → n ≤ 100 → callF fns ds 9 17 [.list [nrm (n * of) (of - slow), nrm (n * of) (of + fast)], .list [nrm (long * of) (of - slow), nrm (long * of) (of + fast)]] t = some (⟨.sh, .bool (!decide (long * of * (of - slow) < n * of * (of + fast)))⟩, t) := by
      intro n t a b
      have m1 : 0 ≤ long * of := Int.mul_nonneg (by omega) (by omega)
      have m2 : 0 ≤ n * of := Int.mul_nonneg a (by omega)
      have m3 : long * of ≤ 100 * 12 := Int.mul_le_mul (by omega) (by omega) (by omega) (by omega)
      have m4 : n * of ≤ 100 * 12 := Int.mul_le_mul b (by omega) (by omega) (by omega)
      rw [s17 (k := 8) (fun t => s15n (k := 7) m1 (by omega) ps m2 (by omega) ps) (fun t => s15n (k := 7) m1 (by omega) pf m2 (by omega) ps) (fun t => s15n (k := 7) m1 (by omega) ps m2 (by omega) pf) (fun t => s15n (k := 7) m1 (by omega) pf m2 (by omega) pf) okn1 okn1 okn2,
        safe_eq (by omega) m1 m2]
    refine step_ite (k := false) (by simp only [↓Q.exec, ↓ev, ↓evL, ↓evT, ↓evO, ↓evI, ↓bnd_ap, ↓opt_ap, ↓bol_ap, ↓ite_ap, ↓lstR_ap, ↓tupR_ap, Q.ret, getS, List.getElem?_cons_succ, List.getElem?_cons_zero, op_add, op_sub, op_mod, op_fdiv, Int.reduceLT, shd, bltD, store, shared, Q.bind1, Q.bindL, Option.bind_some, List.set_cons_succ, List.set_cons_zero, Bool.or_true, Bool.true_or, Bool.and_self, decide_true, op_mulRi, op_mulLi, op_mulR, op_mulL, Int.reduceNeg, List.mapM_nil, List.mapM_cons, Option.pure_def, Option.bind_eq_bind, List.length_nil, lim, Nat.zero_le, ↓reduceIte, List.length_cons, Nat.reduceAdd, Nat.reduceLeDiff, ↓Q.execs, ↓evAnd, ↓evOr, ↓evTA, ↓evTR, ↓evTO, callKd_nil, callKd_sh, callKd_fr, cp_lt, cp_le, cp_gt, cp_ge, cp_eqI, cp_neI, cp_isB, tru, entry, endR, backR, List.map_cons, List.map_nil, List.replicate, List.cons_append, List.nil_append, Nat.reduceSub, ixD, atI_0, atI_1, atI_2, atI_3, Option.map_some, intOf, Nat.sub_self, retS, storesM, List.all_cons, List.all_nil, Option.isSome_some, Bool.and_true, Bool.true_and, reduceCtorEq, ↓callKd_nil, backR, List.all_cons, op_sub, List.mapM_cons, Bool.not_true, Bool.not_false, Bool.false_eq_true, Bool.true_eq_false, decide_false, eq_self, frzE, e7 less _ (by omega) (by omega) 5, eS less _ (by omega) (by omega), s11 (k := 8)]; rfl) (fun h => nomatch h) (fun _ => step_nil (cont_nx ?_))
    refine step_frz' (by simp only [frzE, List.getElem?_cons_succ, List.getElem?_cons_zero, List.set_cons_succ, List.set_cons_zero]; rfl) ?_
    refine step_frz' (by simp only [frzE, List.getElem?_cons_succ, List.getElem?_cons_zero, List.set_cons_succ, List.set_cons_zero]; rfl) ?_
    have hi : evI ⟨ds, callF fns ds 9⟩ (.rng2 (.cst (.int 1)) (.bin .add (.var 7) (.cst (.int 40)))) [.ro (.list (ns.map .int)), .sh tapeD, .sh d, .sh (.int of), .sh (.int slow), .sh (.int fast), .sh (drift slow fast of), .sh (.int long), .sh (.int less), .sh (.list [nrm (of - slow) of, nrm (of + fast) of]), .sh (.list [nrm (less * of) (of - slow), nrm (less * of) (of + fast)]), .sh (.list [nrm (long * of) (of - slow), nrm (long * of) (of + fast)]), q12, q13, q14, q15, q16, q17, q18] (u + 1 + 1 + 1 + 1 + 1) = some ((true, (irange 1 (long + 40)).map .int), u + 1 + 1 + 1 + 1 + 1) := by
      rw [← rangeL_eq]
      exact it_rng2 (by simp only [↓Q.exec, ↓ev, ↓evL, ↓evT, ↓evO, ↓evI, ↓bnd_ap, ↓opt_ap, ↓bol_ap, ↓ite_ap, ↓lstR_ap, ↓tupR_ap, Q.ret, getS, List.getElem?_cons_succ, List.getElem?_cons_zero, op_add, op_sub, op_mod, op_fdiv, Int.reduceLT, shd, bltD, store, shared, Q.bind1, Q.bindL, Option.bind_some, List.set_cons_succ, List.set_cons_zero, Bool.or_true, Bool.true_or, Bool.and_self, decide_true, op_mulRi, op_mulLi, op_mulR, op_mulL, Int.reduceNeg, List.mapM_nil, List.mapM_cons, Option.pure_def, Option.bind_eq_bind, List.length_nil, lim, Nat.zero_le, ↓reduceIte, List.length_cons, Nat.reduceAdd, Nat.reduceLeDiff, ↓Q.execs, ↓evAnd, ↓evOr, ↓evTA, ↓evTR, ↓evTO, callKd_nil, callKd_sh, callKd_fr, cp_lt, cp_le, cp_gt, cp_ge, cp_eqI, cp_neI, cp_isB, tru, entry, endR, backR, List.map_cons, List.map_nil, List.replicate, List.cons_append, List.nil_append, Nat.reduceSub, ixD, atI_0, atI_1, atI_2, atI_3, Option.map_some, intOf, Nat.sub_self, retS, storesM, List.all_cons, List.all_nil, Option.isSome_some, Bool.and_true, Bool.true_and, reduceCtorEq, ↓callKd_nil, backR, List.all_cons, op_sub, List.mapM_cons, Bool.not_true, Bool.not_false, Bool.false_eq_true, Bool.true_eq_false, decide_false, eq_self]; rfl) (by simp only [↓Q.exec, ↓ev, ↓evL, ↓evT, ↓evO, ↓evI, ↓bnd_ap, ↓opt_ap, ↓bol_ap, ↓ite_ap, ↓lstR_ap, ↓tupR_ap, Q.ret, getS, List.getElem?_cons_succ, List.getElem?_cons_zero, op_add, op_sub, op_mod, op_fdiv, Int.reduceLT, shd, bltD, store, shared, Q.bind1, Q.bindL, Option.bind_some, List.set_cons_succ, List.set_cons_zero, Bool.or_true, Bool.true_or, Bool.and_self, decide_true, op_mulRi, op_mulLi, op_mulR, op_mulL, Int.reduceNeg, List.mapM_nil, List.mapM_cons, Option.pure_def, Option.bind_eq_bind, List.length_nil, lim, Nat.zero_le, ↓reduceIte, List.length_cons, Nat.reduceAdd, Nat.reduceLeDiff, ↓Q.execs, ↓evAnd, ↓evOr, ↓evTA, ↓evTR, ↓evTO, callKd_nil, callKd_sh, callKd_fr, cp_lt, cp_le, cp_gt, cp_ge, cp_eqI, cp_neI, cp_isB, tru, entry, endR, backR, List.map_cons, List.map_nil, List.replicate, List.cons_append, List.nil_append, Nat.reduceSub, ixD, atI_0, atI_1, atI_2, atI_3, Option.map_some, intOf, Nat.sub_self, retS, storesM, List.all_cons, List.all_nil, Option.isSome_some, Bool.and_true, Bool.true_and, reduceCtorEq, ↓callKd_nil, backR, List.all_cons, op_sub, List.mapM_cons, Bool.not_true, Bool.not_false, Bool.false_eq_true, Bool.true_eq_false, decide_false, eq_self]; rfl) (by decide) (rng_ok (by omega) (by omega))
    have hlc := ev_lcI (vs := [16]) (elt := .var 16) (tg := .nm 16) (cond := .so (.val (.call 17 (.cons (.lc [18] (.call 16 (.cons (.var 16) (.cons (.var 18) .nil))) (.nm 18) (.seq (.var 9)) .no) (.cons (.var 11) .nil))))) hi (fun n => !decide (long * of * (of - slow) < n * of * (of + fast))) .int (fun n hn => by
      obtain ⟨z1, z2⟩ := mem_irange.mp hn
      have hin : intB n = true := int_small (by omega) (by omega)
      simp only [lcB, wipeE, ↓Q.exec, ↓ev, ↓evL, ↓evT, ↓evO, ↓evI, ↓bnd_ap, ↓opt_ap, ↓bol_ap, ↓ite_ap, ↓lstR_ap, ↓tupR_ap, Q.ret, getS, List.getElem?_cons_succ, List.getElem?_cons_zero, op_add, op_sub, op_mod, op_fdiv, Int.reduceLT, shd, bltD, store, shared, Q.bind1, Q.bindL, Option.bind_some, List.set_cons_succ, List.set_cons_zero, Bool.or_true, Bool.true_or, Bool.and_self, decide_true, op_mulRi, op_mulLi, op_mulR, op_mulL, Int.reduceNeg, List.mapM_nil, List.mapM_cons, Option.pure_def, Option.bind_eq_bind, List.length_nil, lim, Nat.zero_le, ↓reduceIte, List.length_cons, Nat.reduceAdd, Nat.reduceLeDiff, ↓Q.execs, ↓evAnd, ↓evOr, ↓evTA, ↓evTR, ↓evTO, callKd_nil, callKd_sh, callKd_fr, cp_lt, cp_le, cp_gt, cp_ge, cp_eqI, cp_neI, cp_isB, tru, entry, endR, backR, List.map_cons, List.map_nil, List.replicate, List.cons_append, List.nil_append, Nat.reduceSub, ixD, atI_0, atI_1, atI_2, atI_3, Option.map_some, intOf, Nat.sub_self, retS, storesM, List.all_cons, List.all_nil, Option.isSome_some, Bool.and_true, Bool.true_and, reduceCtorEq, ↓callKd_nil, backR, List.all_cons, op_sub, List.mapM_cons, Bool.not_true, Bool.not_false, Bool.false_eq_true, Bool.true_eq_false, decide_false, eq_self, seqI, safe, Q.compM, e16a _ _ hin, e16b _ _ hin, eS n _ (by omega) (by omega)]
      cases decide (long * of * (of - slow) < n * of * (of + fast)) <;> simp only [↓Q.exec, ↓ev, ↓evL, ↓evT, ↓evO, ↓evI, ↓bnd_ap, ↓opt_ap, ↓bol_ap, ↓ite_ap, ↓lstR_ap, ↓tupR_ap, Q.ret, getS, List.getElem?_cons_succ, List.getElem?_cons_zero, op_add, op_sub, op_mod, op_fdiv, Int.reduceLT, shd, bltD, store, shared, Q.bind1, Q.bindL, Option.bind_some, List.set_cons_succ, List.set_cons_zero, Bool.or_true, Bool.true_or, Bool.and_self, decide_true, op_mulRi, op_mulLi, op_mulR, op_mulL, Int.reduceNeg, List.mapM_nil, List.mapM_cons, Option.pure_def, Option.bind_eq_bind, List.length_nil, lim, Nat.zero_le, ↓reduceIte, List.length_cons, Nat.reduceAdd, Nat.reduceLeDiff, ↓Q.execs, ↓evAnd, ↓evOr, ↓evTA, ↓evTR, ↓evTO, callKd_nil, callKd_sh, callKd_fr, cp_lt, cp_le, cp_gt, cp_ge, cp_eqI, cp_neI, cp_isB, tru, entry, endR, backR, List.map_cons, List.map_nil, List.replicate, List.cons_append, List.nil_append, Nat.reduceSub, ixD, atI_0, atI_1, atI_2, atI_3, Option.map_some, intOf, Nat.sub_self, retS, storesM, List.all_cons, List.all_nil, Option.isSome_some, Bool.and_true, Bool.true_and, reduceCtorEq, ↓callKd_nil, backR, List.all_cons, op_sub, List.mapM_cons, Bool.not_true, Bool.not_false, Bool.false_eq_true, Bool.true_eq_false, decide_false, eq_self]) (by
      rw [irange_len]
      have : lim = 16777216 := rfl
      omega)
    rw [able_eq (by omega) ps (by omega) (by omega)] at hlc
    refine step (by
      rw [Q.exec, bnd_ap]
      rw [hlc]
      simp only [↓Q.exec, ↓ev, ↓evL, ↓evT, ↓evO, ↓evI, ↓bnd_ap, ↓opt_ap, ↓bol_ap, ↓ite_ap, ↓lstR_ap, ↓tupR_ap, Q.ret, getS, List.getElem?_cons_succ, List.getElem?_cons_zero, op_add, op_sub, op_mod, op_fdiv, Int.reduceLT, shd, bltD, store, shared, Q.bind1, Q.bindL, Option.bind_some, List.set_cons_succ, List.set_cons_zero, Bool.or_true, Bool.true_or, Bool.and_self, decide_true, op_mulRi, op_mulLi, op_mulR, op_mulL, Int.reduceNeg, List.mapM_nil, List.mapM_cons, Option.pure_def, Option.bind_eq_bind, List.length_nil, lim, Nat.zero_le, ↓reduceIte, List.length_cons, Nat.reduceAdd, Nat.reduceLeDiff, ↓Q.execs, ↓evAnd, ↓evOr, ↓evTA, ↓evTR, ↓evTO, callKd_nil, callKd_sh, callKd_fr, cp_lt, cp_le, cp_gt, cp_ge, cp_eqI, cp_neI, cp_isB, tru, entry, endR, backR, List.map_cons, List.map_nil, List.replicate, List.cons_append, List.nil_append, Nat.reduceSub, ixD, atI_0, atI_1, atI_2, atI_3, Option.map_some, intOf, Nat.sub_self, retS, storesM, List.all_cons, List.all_nil, Option.isSome_some, Bool.and_true, Bool.true_and, reduceCtorEq, ↓callKd_nil, backR, List.all_cons, op_sub, List.mapM_cons, Bool.not_true, Bool.not_false, Bool.false_eq_true, Bool.true_eq_false, decide_false, eq_self]
      rfl) ?_
    have e8 : ∀ t, callF fns ds 9 8 [drift slow fast of, .int long] t = some (⟨.sh, .int (last0 ((irange 1 (long + 1)).filter fun n => !decide (long * of * (of - slow) < n * of * (of + fast))))⟩, t) := fun t =>
      s8 (k := 8) _ (by omega) (by omega) fun n t z1 z2 => e7 n t (by omega) (by omega) 4
    have hml := max_last _ ((irange_asc (a := 1) (b := long + 1)).filter fun n => !decide (long * of * (of - slow) < n * of * (of + fast)))
    generalize (irange 1 (long + 1)).filter (fun n => !decide (long * of * (of - slow) < n * of * (of + fast))) = able at e8 hml ⊢
    refine step_ite (k := false) (t' := u + 1 + 1 + 1 + 1 + 1) (by
      have n0 : cpD .ne (.list []) (.list []) = some false := rfl
      cases able with
      | nil => simp only [↓Q.exec, ↓ev, ↓evL, ↓evT, ↓evO, ↓evI, ↓bnd_ap, ↓opt_ap, ↓bol_ap, ↓ite_ap, ↓lstR_ap, ↓tupR_ap, Q.ret, getS, List.getElem?_cons_succ, List.getElem?_cons_zero, op_add, op_sub, op_mod, op_fdiv, Int.reduceLT, shd, bltD, store, shared, Q.bind1, Q.bindL, Option.bind_some, List.set_cons_succ, List.set_cons_zero, Bool.or_true, Bool.true_or, Bool.and_self, decide_true, op_mulRi, op_mulLi, op_mulR, op_mulL, Int.reduceNeg, List.mapM_nil, List.mapM_cons, Option.pure_def, Option.bind_eq_bind, List.length_nil, lim, Nat.zero_le, ↓reduceIte, List.length_cons, Nat.reduceAdd, Nat.reduceLeDiff, ↓Q.execs, ↓evAnd, ↓evOr, ↓evTA, ↓evTR, ↓evTO, callKd_nil, callKd_sh, callKd_fr, cp_lt, cp_le, cp_gt, cp_ge, cp_eqI, cp_neI, cp_isB, tru, entry, endR, backR, List.map_cons, List.map_nil, List.replicate, List.cons_append, List.nil_append, Nat.reduceSub, ixD, atI_0, atI_1, atI_2, atI_3, Option.map_some, intOf, Nat.sub_self, retS, storesM, List.all_cons, List.all_nil, Option.isSome_some, Bool.and_true, Bool.true_and, reduceCtorEq, ↓callKd_nil, backR, List.all_cons, op_sub, List.mapM_cons, Bool.not_true, Bool.not_false, Bool.false_eq_true, Bool.true_eq_false, decide_false, eq_self, e8, n0, last0, List.getLast?_nil, Option.getD_none]
      | cons z r =>
        have hne := cp_ne_nil (xs := (z :: r).map .int) okD_ints
        have hmx : ∀ k, bltD .max1 [⟨k, .list ((z :: r).map .int)⟩] = some ⟨.sh, .int (r.foldl max z)⟩ := fun k => max1_ints
        have hml : r.foldl max z = last0 (z :: r) := hml
        rw [List.map_cons] at hne hmx ⊢
        simp only [↓Q.exec, ↓ev, ↓evL, ↓evT, ↓evO, ↓evI, ↓bnd_ap, ↓opt_ap, ↓bol_ap, ↓ite_ap, ↓lstR_ap, ↓tupR_ap, Q.ret, getS, List.getElem?_cons_succ, List.getElem?_cons_zero, op_add, op_sub, op_mod, op_fdiv, Int.reduceLT, shd, bltD, store, shared, Q.bind1, Q.bindL, Option.bind_some, List.set_cons_succ, List.set_cons_zero, Bool.or_true, Bool.true_or, Bool.and_self, decide_true, op_mulRi, op_mulLi, op_mulR, op_mulL, Int.reduceNeg, List.mapM_nil, List.mapM_cons, Option.pure_def, Option.bind_eq_bind, List.length_nil, lim, Nat.zero_le, ↓reduceIte, List.length_cons, Nat.reduceAdd, Nat.reduceLeDiff, ↓Q.execs, ↓evAnd, ↓evOr, ↓evTA, ↓evTR, ↓evTO, callKd_nil, callKd_sh, callKd_fr, cp_lt, cp_le, cp_gt, cp_ge, cp_eqI, cp_neI, cp_isB, tru, entry, endR, backR, List.map_cons, List.map_nil, List.replicate, List.cons_append, List.nil_append, Nat.reduceSub, ixD, atI_0, atI_1, atI_2, atI_3, Option.map_some, intOf, Nat.sub_self, retS, storesM, List.all_cons, List.all_nil, Option.isSome_some, Bool.and_true, Bool.true_and, reduceCtorEq, ↓callKd_nil, backR, List.all_cons, op_sub, List.mapM_cons, Bool.not_true, Bool.not_false, Bool.false_eq_true, Bool.true_eq_false, decide_false, eq_self, e8, hne, ↓hmx, hml, List.isEmpty_cons]) (fun h => nomatch h) (fun _ => step_nil (cont_nx ?_))
    obtain ⟨gx, gy, g9, g14⟩ := s9 (ds := ds) (k := 4) (less := less) (long := long) ps (by omega) l2 l3 (by omega) (by omega) (by omega) (by omega) (by omega)
    refine step_ite (k := false) (t' := u + 1 + 1 + 1 + 1 + 1) (by simp only [↓Q.exec, ↓ev, ↓evL, ↓evT, ↓evO, ↓evI, ↓bnd_ap, ↓opt_ap, ↓bol_ap, ↓ite_ap, ↓lstR_ap, ↓tupR_ap, Q.ret, getS, List.getElem?_cons_succ, List.getElem?_cons_zero, op_add, op_sub, op_mod, op_fdiv, Int.reduceLT, shd, bltD, store, shared, Q.bind1, Q.bindL, Option.bind_some, List.set_cons_succ, List.set_cons_zero, Bool.or_true, Bool.true_or, Bool.and_self, decide_true, op_mulRi, op_mulLi, op_mulR, op_mulL, Int.reduceNeg, List.mapM_nil, List.mapM_cons, Option.pure_def, Option.bind_eq_bind, List.length_nil, lim, Nat.zero_le, ↓reduceIte, List.length_cons, Nat.reduceAdd, Nat.reduceLeDiff, ↓Q.execs, ↓evAnd, ↓evOr, ↓evTA, ↓evTR, ↓evTO, callKd_nil, callKd_sh, callKd_fr, cp_lt, cp_le, cp_gt, cp_ge, cp_eqI, cp_neI, cp_isB, tru, entry, endR, backR, List.map_cons, List.map_nil, List.replicate, List.cons_append, List.nil_append, Nat.reduceSub, ixD, atI_0, atI_1, atI_2, atI_3, Option.map_some, intOf, Nat.sub_self, retS, storesM, List.all_cons, List.all_nil, Option.isSome_some, Bool.and_true, Bool.true_and, reduceCtorEq, ↓callKd_nil, backR, List.all_cons, op_sub, List.mapM_cons, Bool.not_true, Bool.not_false, Bool.false_eq_true, Bool.true_eq_false, decide_false, eq_self, g9, g14, cp_ne_self okn]) (fun h => nomatch h) (fun _ => step_nil (cont_nx ?_))
    obtain ⟨x6, n6, l6, u6⟩ := next_ok' hd (show (0 : Int) < 9 by decide) (u + 1 + 1 + 1 + 1 + 1)
    obtain ⟨lost, n7, l7, u7⟩ := next_ok' hd (show (0 : Int) < 4 by decide) (u + 1 + 1 + 1 + 1 + 1 + 1)
    refine step (by simp only [↓Q.exec, ↓ev, ↓evL, ↓evT, ↓evO, ↓evI, ↓bnd_ap, ↓opt_ap, ↓bol_ap, ↓ite_ap, ↓lstR_ap, ↓tupR_ap, Q.ret, getS, List.getElem?_cons_succ, List.getElem?_cons_zero, op_add, op_sub, op_mod, op_fdiv, Int.reduceLT, shd, bltD, store, shared, Q.bind1, Q.bindL, Option.bind_some, List.set_cons_succ, List.set_cons_zero, Bool.or_true, Bool.true_or, Bool.and_self, decide_true, op_mulRi, op_mulLi, op_mulR, op_mulL, Int.reduceNeg, List.mapM_nil, List.mapM_cons, Option.pure_def, Option.bind_eq_bind, List.length_nil, lim, Nat.zero_le, ↓reduceIte, List.length_cons, Nat.reduceAdd, Nat.reduceLeDiff, ↓Q.execs, ↓evAnd, ↓evOr, ↓evTA, ↓evTR, ↓evTO, callKd_nil, callKd_sh, callKd_fr, cp_lt, cp_le, cp_gt, cp_ge, cp_eqI, cp_neI, cp_isB, tru, entry, endR, backR, List.map_cons, List.map_nil, List.replicate, List.cons_append, List.nil_append, Nat.reduceSub, ixD, atI_0, atI_1, atI_2, atI_3, Option.map_some, intOf, Nat.sub_self, retS, storesM, List.all_cons, List.all_nil, Option.isSome_some, Bool.and_true, Bool.true_and, reduceCtorEq, ↓callKd_nil, backR, List.all_cons, op_sub, List.mapM_cons, Bool.not_true, Bool.not_false, Bool.false_eq_true, Bool.true_eq_false, decide_false, eq_self, isTape_t, n6, n7]; rfl) ?_
    generalize hev : 1 + x6 = every at *
    have hlc2 : ∀ ρ : Q.Env, ρ[13]? = some (.sh (.int every)) → ρ[14]? = some (.sh (.int lost)) → ρ.length = 19 → ∀ t, ev ⟨ds, callF fns ds 9⟩ (.lc [17] (.bin .mul (.var 13) (.var 17)) (.nm 17) (.rng2 (.cst (.int 1)) (.bin .add (.var 14) (.cst (.int 2)))) .no) ρ t = some (⟨.fr, .list ((irange 1 (lost + 2)).map fun n => .int (every * n))⟩, t) := by
      intro ρ h13 h14 hlen t
      have hi : evI ⟨ds, callF fns ds 9⟩ (.rng2 (.cst (.int 1)) (.bin .add (.var 14) (.cst (.int 2)))) ρ t = some ((true, (irange 1 (lost + 2)).map .int), t) := by
        rw [← rangeL_eq]
        exact it_rng2 (by simp only [↓Q.exec, ↓ev, ↓evL, ↓evT, ↓evO, ↓evI, ↓bnd_ap, ↓opt_ap, ↓bol_ap, ↓ite_ap, ↓lstR_ap, ↓tupR_ap, Q.ret, getS, List.getElem?_cons_succ, List.getElem?_cons_zero, op_add, op_sub, op_mod, op_fdiv, Int.reduceLT, shd, bltD, store, shared, Q.bind1, Q.bindL, Option.bind_some, List.set_cons_succ, List.set_cons_zero, Bool.or_true, Bool.true_or, Bool.and_self, decide_true, op_mulRi, op_mulLi, op_mulR, op_mulL, Int.reduceNeg, List.mapM_nil, List.mapM_cons, Option.pure_def, Option.bind_eq_bind, List.length_nil, lim, Nat.zero_le, ↓reduceIte, List.length_cons, Nat.reduceAdd, Nat.reduceLeDiff, ↓Q.execs, ↓evAnd, ↓evOr, ↓evTA, ↓evTR, ↓evTO, callKd_nil, callKd_sh, callKd_fr, cp_lt, cp_le, cp_gt, cp_ge, cp_eqI, cp_neI, cp_isB, tru, entry, endR, backR, List.map_cons, List.map_nil, List.replicate, List.cons_append, List.nil_append, Nat.reduceSub, ixD, atI_0, atI_1, atI_2, atI_3, Option.map_some, intOf, Nat.sub_self, retS, storesM, List.all_cons, List.all_nil, Option.isSome_some, Bool.and_true, Bool.true_and, reduceCtorEq, ↓callKd_nil, backR, List.all_cons, op_sub, List.mapM_cons, Bool.not_true, Bool.not_false, Bool.false_eq_true, Bool.true_eq_false, decide_false, eq_self]; rfl) (by simp only [↓Q.exec, ↓ev, ↓evL, ↓evT, ↓evO, ↓evI, ↓bnd_ap, ↓opt_ap, ↓bol_ap, ↓ite_ap, ↓lstR_ap, ↓tupR_ap, Q.ret, getS, List.getElem?_cons_succ, List.getElem?_cons_zero, op_add, op_sub, op_mod, op_fdiv, Int.reduceLT, shd, bltD, store, shared, Q.bind1, Q.bindL, Option.bind_some, List.set_cons_succ, List.set_cons_zero, Bool.or_true, Bool.true_or, Bool.and_self, decide_true, op_mulRi, op_mulLi, op_mulR, op_mulL, Int.reduceNeg, List.mapM_nil, List.mapM_cons, Option.pure_def, Option.bind_eq_bind, List.length_nil, lim, Nat.zero_le, ↓reduceIte, List.length_cons, Nat.reduceAdd, Nat.reduceLeDiff, ↓Q.execs, ↓evAnd, ↓evOr, ↓evTA, ↓evTR, ↓evTO, callKd_nil, callKd_sh, callKd_fr, cp_lt, cp_le, cp_gt, cp_ge, cp_eqI, cp_neI, cp_isB, tru, entry, endR, backR, List.map_cons, List.map_nil, List.replicate, List.cons_append, List.nil_append, Nat.reduceSub, ixD, atI_0, atI_1, atI_2, atI_3, Option.map_some, intOf, Nat.sub_self, retS, storesM, List.all_cons, List.all_nil, Option.isSome_some, Bool.and_true, Bool.true_and, reduceCtorEq, ↓callKd_nil, backR, List.all_cons, op_sub, List.mapM_cons, Bool.not_true, Bool.not_false, Bool.false_eq_true, Bool.true_eq_false, decide_false, eq_self, h14]; rfl) (by decide) (rng_ok (by omega) (by omega))
      have := ev_lcI (vs := [17]) (elt := .bin .mul (.var 13) (.var 17)) (tg := .nm 17) (cond := .no) hi (fun _ => true) (fun n => .int (every * n)) (fun n hn => by
        obtain ⟨z1, z2⟩ := mem_irange.mp hn
        have hin : intB n = true := int_small (by omega) (by omega)
        have g1 : ((ρ.set 17 .un).set 17 (Sl.sh (.int n)))[13]? = some (.sh (.int every)) := by
          rw [List.getElem?_set_ne (by decide), List.getElem?_set_ne (by decide), h13]
        have g2 : ((ρ.set 17 .un).set 17 (Sl.sh (.int n)))[17]? = some (.sh (.int n)) := by
          rw [List.getElem?_set_self (by rw [List.length_set]; omega)]
        simp only [lcB, wipeE, ↓Q.exec, ↓ev, ↓evL, ↓evT, ↓evO, ↓evI, ↓bnd_ap, ↓opt_ap, ↓bol_ap, ↓ite_ap, ↓lstR_ap, ↓tupR_ap, Q.ret, getS, List.getElem?_cons_succ, List.getElem?_cons_zero, op_add, op_sub, op_mod, op_fdiv, Int.reduceLT, shd, bltD, store, shared, Q.bind1, Q.bindL, Option.bind_some, List.set_cons_succ, List.set_cons_zero, Bool.or_true, Bool.true_or, Bool.and_self, decide_true, op_mulRi, op_mulLi, op_mulR, op_mulL, Int.reduceNeg, List.mapM_nil, List.mapM_cons, Option.pure_def, Option.bind_eq_bind, List.length_nil, lim, Nat.zero_le, ↓reduceIte, List.length_cons, Nat.reduceAdd, Nat.reduceLeDiff, ↓Q.execs, ↓evAnd, ↓evOr, ↓evTA, ↓evTR, ↓evTO, callKd_nil, callKd_sh, callKd_fr, cp_lt, cp_le, cp_gt, cp_ge, cp_eqI, cp_neI, cp_isB, tru, entry, endR, backR, List.map_cons, List.map_nil, List.replicate, List.cons_append, List.nil_append, Nat.reduceSub, ixD, atI_0, atI_1, atI_2, atI_3, Option.map_some, intOf, Nat.sub_self, retS, storesM, List.all_cons, List.all_nil, Option.isSome_some, Bool.and_true, Bool.true_and, reduceCtorEq, ↓callKd_nil, backR, List.all_cons, op_sub, List.mapM_cons, Bool.not_true, Bool.not_false, Bool.false_eq_true, Bool.true_eq_false, decide_false, eq_self, ↓evTO, g1, g2, hin]) (by
        rw [irange_len]
        have : lim = 16777216 := rfl
        omega)
      rw [this, List.filter_eq_self.mpr fun _ _ => rfl]
    refine step (by
      rw [Q.exec, bnd_ap, hlc2 _ rfl rfl rfl]
      simp only [↓Q.exec, ↓ev, ↓evL, ↓evT, ↓evO, ↓evI, ↓bnd_ap, ↓opt_ap, ↓bol_ap, ↓ite_ap, ↓lstR_ap, ↓tupR_ap, Q.ret, getS, List.getElem?_cons_succ, List.getElem?_cons_zero, op_add, op_sub, op_mod, op_fdiv, Int.reduceLT, shd, bltD, store, shared, Q.bind1, Q.bindL, Option.bind_some, List.set_cons_succ, List.set_cons_zero, Bool.or_true, Bool.true_or, Bool.and_self, decide_true, op_mulRi, op_mulLi, op_mulR, op_mulL, Int.reduceNeg, List.mapM_nil, List.mapM_cons, Option.pure_def, Option.bind_eq_bind, List.length_nil, lim, Nat.zero_le, ↓reduceIte, List.length_cons, Nat.reduceAdd, Nat.reduceLeDiff, ↓Q.execs, ↓evAnd, ↓evOr, ↓evTA, ↓evTR, ↓evTO, callKd_nil, callKd_sh, callKd_fr, cp_lt, cp_le, cp_gt, cp_ge, cp_eqI, cp_neI, cp_isB, tru, entry, endR, backR, List.map_cons, List.map_nil, List.replicate, List.cons_append, List.nil_append, Nat.reduceSub, ixD, atI_0, atI_1, atI_2, atI_3, Option.map_some, intOf, Nat.sub_self, retS, storesM, List.all_cons, List.all_nil, Option.isSome_some, Bool.and_true, Bool.true_and, reduceCtorEq, ↓callKd_nil, backR, List.all_cons, op_sub, List.mapM_cons, Bool.not_true, Bool.not_false, Bool.false_eq_true, Bool.true_eq_false, decide_false, eq_self]
      rfl) ?_
    have hlast : L2.atI ((irange 1 (lost + 2)).map fun n => PySem.PyData.int (every * n)) (-1) = some (.int (every * (lost + 1))) := by
      refine atI_neg1 ?_
      rw [show lost + 2 = lost + 1 + 1 by omega, irange_split (a := 1) (b := lost + 1) (c := lost + 1 + 1) (by omega) (by omega), irange_one, List.map_append]
      simp
    have e10 : ∀ t, callF fns ds 9 10 [.int less, .int every, .int lost] t = some (⟨.sh, .bool (decide (every * (lost + 1) < less))⟩, t) := fun t => s10 (k := 8) (int_small (by omega) (by omega))
    refine step_ite (k := false) (t' := u + 1 + 1 + 1 + 1 + 1 + 1 + 1) (by simp only [↓Q.exec, ↓ev, ↓evL, ↓evT, ↓evO, ↓evI, ↓bnd_ap, ↓opt_ap, ↓bol_ap, ↓ite_ap, ↓lstR_ap, ↓tupR_ap, Q.ret, getS, List.getElem?_cons_succ, List.getElem?_cons_zero, op_add, op_sub, op_mod, op_fdiv, Int.reduceLT, shd, bltD, store, shared, Q.bind1, Q.bindL, Option.bind_some, List.set_cons_succ, List.set_cons_zero, Bool.or_true, Bool.true_or, Bool.and_self, decide_true, op_mulRi, op_mulLi, op_mulR, op_mulL, Int.reduceNeg, List.mapM_nil, List.mapM_cons, Option.pure_def, Option.bind_eq_bind, List.length_nil, lim, Nat.zero_le, ↓reduceIte, List.length_cons, Nat.reduceAdd, Nat.reduceLeDiff, ↓Q.execs, ↓evAnd, ↓evOr, ↓evTA, ↓evTR, ↓evTO, callKd_nil, callKd_sh, callKd_fr, cp_lt, cp_le, cp_gt, cp_ge, cp_eqI, cp_neI, cp_isB, tru, entry, endR, backR, List.map_cons, List.map_nil, List.replicate, List.cons_append, List.nil_append, Nat.reduceSub, ixD, atI_0, atI_1, atI_2, atI_3, Option.map_some, intOf, Nat.sub_self, retS, storesM, List.all_cons, List.all_nil, Option.isSome_some, Bool.and_true, Bool.true_and, reduceCtorEq, ↓callKd_nil, backR, List.all_cons, op_sub, List.mapM_cons, Bool.not_true, Bool.not_false, Bool.false_eq_true, Bool.true_eq_false, decide_false, eq_self, e10, hlast, s11 (k := 8)]) (fun h => nomatch h) (fun _ => step_nil (cont_nx ?_))
    refine step_nil (turn_nx ?_)
    exact ⟨_, _, _, _, _, _, _, _, _, _, _, _, _, _, _, _, _, rfl⟩
  · rintro ρ u ⟨q2, q3, q4, q5, q6, q7, q8, q9, q10, q11, q12, q13, q14, q15, q16, q17, q18, rfl⟩
    exact step_rt (by simp only [↓Q.exec, ↓ev, ↓evL, ↓evT, ↓evO, ↓evI, ↓bnd_ap, ↓opt_ap, ↓bol_ap, ↓ite_ap, ↓lstR_ap, ↓tupR_ap, Q.ret, getS, List.getElem?_cons_succ, List.getElem?_cons_zero, op_add, op_sub, op_mod, op_fdiv, Int.reduceLT, shd, bltD, store, shared, Q.bind1, Q.bindL, Option.bind_some, List.set_cons_succ, List.set_cons_zero, Bool.or_true, Bool.true_or, Bool.and_self, decide_true, op_mulRi, op_mulLi, op_mulR, op_mulL, Int.reduceNeg, List.mapM_nil, List.mapM_cons, Option.pure_def, Option.bind_eq_bind, List.length_nil, lim, Nat.zero_le, ↓reduceIte, List.length_cons, Nat.reduceAdd, Nat.reduceLeDiff, ↓Q.execs, ↓evAnd, ↓evOr, ↓evTA, ↓evTR, ↓evTO, callKd_nil, callKd_sh, callKd_fr, cp_lt, cp_le, cp_gt, cp_ge, cp_eqI, cp_neI, cp_isB, tru, entry, endR, backR, List.map_cons, List.map_nil, List.replicate, List.cons_append, List.nil_append, Nat.reduceSub, ixD, atI_0, atI_1, atI_2, atI_3, Option.map_some, intOf, Nat.sub_self, retS, storesM, List.all_cons, List.all_nil, Option.isSome_some, Bool.and_true, Bool.true_and, reduceCtorEq, ↓callKd_nil, backR, List.all_cons, op_sub, List.mapM_cons, Bool.not_true, Bool.not_false, Bool.false_eq_true, Bool.true_eq_false, decide_false, eq_self]; rfl) rfl
end K32
namespace K32
open PySem PySem.Spec L2 Q
theorem sc0 : FnScope ["a", "b"] ["a", "b"] (defScope (topS 1)) := ⟨rfl, rfl, rfl, by decide +kernel, rfl, by decide +kernel, by decide +kernel⟩
theorem ck0 : chkSs fs ["a", "b"] (defScope (topS 1)) f0.body (defBody (topS 1)) = true := by decide +kernel
theorem sc1 : FnScope ["a", "b", "common"] ["a", "b"] (defScope (topS 2)) := ⟨rfl, rfl, rfl, by decide +kernel, rfl, by decide +kernel, by decide +kernel⟩
theorem ck1 : chkSs fs ["a", "b", "common"] (defScope (topS 2)) f1.body (defBody (topS 2)) = true := by decide +kernel
theorem sc2 : FnScope ["one", "other"] ["one", "other"] (defScope (topS 3)) := ⟨rfl, rfl, rfl, by decide +kernel, rfl, by decide +kernel, by decide +kernel⟩
theorem ck2 : chkSs fs ["one", "other"] (defScope (topS 3)) f2.body (defBody (topS 3)) = true := by decide +kernel
theorem sc3 : FnScope ["one", "other"] ["one", "other"] (defScope (topS 4)) := ⟨rfl, rfl, rfl, by decide +kernel, rfl, by decide +kernel, by decide +kernel⟩
theorem ck3 : chkSs fs ["one", "other"] (defScope (topS 4)) f3.body (defBody (topS 4)) = true := by decide +kernel
theorem sc4 : FnScope ["one", "other"] ["one", "other"] (defScope (topS 5)) := ⟨rfl, rfl, rfl, by decide +kernel, rfl, by decide +kernel, by decide +kernel⟩
theorem ck4 : chkSs fs ["one", "other"] (defScope (topS 5)) f4.body (defBody (topS 5)) = true := by decide +kernel
theorem sc5 : FnScope ["drift", "less", "slow", "_", "of"] ["drift", "less"] (defScope (topS 7)) := ⟨rfl, rfl, rfl, by decide +kernel, rfl, by decide +kernel, by decide +kernel⟩
theorem ck5 : chkSs fs ["drift", "less", "slow", "_", "of"] (defScope (topS 7)) f5.body (defBody (topS 7)) = true := by decide +kernel
theorem sc6 : FnScope ["drift", "long", "_", "fast", "of"] ["drift", "long"] (defScope (topS 8)) := ⟨rfl, rfl, rfl, by decide +kernel, rfl, by decide +kernel, by decide +kernel⟩
theorem ck6 : chkSs fs ["drift", "long", "_", "fast", "of"] (defScope (topS 8)) f6.body (defBody (topS 8)) = true := by decide +kernel
theorem sc7 : FnScope ["drift", "long", "less"] ["drift", "long", "less"] (defScope (topS 9)) := ⟨rfl, rfl, rfl, by decide +kernel, rfl, by decide +kernel, by decide +kernel⟩
theorem ck7 : chkSs fs ["drift", "long", "less"] (defScope (topS 9)) f7.body (defBody (topS 9)) = true := by decide +kernel
theorem sc8 : FnScope ["drift", "long", "able", "less"] ["drift", "long"] (defScope (topS 10)) := ⟨rfl, rfl, rfl, by decide +kernel, rfl, by decide +kernel, by decide +kernel⟩
theorem ck8 : chkSs fs ["drift", "long", "able", "less"] (defScope (topS 10)) f8.body (defBody (topS 10)) = true := by decide +kernel
theorem sc9 : FnScope ["drift", "long", "less", "slow", "fast", "of"] ["drift", "long", "less"] (defScope (topS 11)) := ⟨rfl, rfl, rfl, by decide +kernel, rfl, by decide +kernel, by decide +kernel⟩
theorem ck9 : chkSs fs ["drift", "long", "less", "slow", "fast", "of"] (defScope (topS 11)) f9.body (defBody (topS 11)) = true := by decide +kernel
theorem sc10 : FnScope ["less", "every", "lost"] ["less", "every", "lost"] (defScope (topS 12)) := ⟨rfl, rfl, rfl, by decide +kernel, rfl, by decide +kernel, by decide +kernel⟩
theorem ck10 : chkSs fs ["less", "every", "lost"] (defScope (topS 12)) f10.body (defBody (topS 12)) = true := by decide +kernel
theorem sc11 : FnScope ["said", "due"] ["said", "due"] (defScope (topS 16)) := ⟨rfl, rfl, rfl, by decide +kernel, rfl, by decide +kernel, by decide +kernel⟩
theorem ck11 : chkSs fs ["said", "due"] (defScope (topS 16)) f11.body (defBody (topS 16)) = true := by decide +kernel
theorem sc12 : FnScope ["a", "b", "turn"] ["a", "b"] (defScope (topS 17)) := ⟨rfl, rfl, rfl, by decide +kernel, rfl, by decide +kernel, by decide +kernel⟩
theorem ck12 : chkSs fs ["a", "b", "turn"] (defScope (topS 17)) f12.body (defBody (topS 17)) = true := by decide +kernel
theorem sc13 : FnScope ["a", "b", "by"] ["a", "b"] (defScope (topS 18)) := ⟨rfl, rfl, rfl, by decide +kernel, rfl, by decide +kernel, by decide +kernel⟩
theorem ck13 : chkSs fs ["a", "b", "by"] (defScope (topS 18)) f13.body (defBody (topS 18)) = true := by decide +kernel
theorem sc14 : FnScope ["one", "other"] ["one", "other"] (defScope (topS 19)) := ⟨rfl, rfl, rfl, by decide +kernel, rfl, by decide +kernel, by decide +kernel⟩
theorem ck14 : chkSs fs ["one", "other"] (defScope (topS 19)) f14.body (defBody (topS 19)) = true := by decide +kernel
theorem sc15 : FnScope ["one", "other"] ["one", "other"] (defScope (topS 20)) := ⟨rfl, rfl, rfl, by decide +kernel, rfl, by decide +kernel, by decide +kernel⟩
theorem ck15 : chkSs fs ["one", "other"] (defScope (topS 20)) f15.body (defBody (topS 20)) = true := by decide +kernel
theorem sc16 : FnScope ["told", "rate"] ["told", "rate"] (defScope (topS 21)) := ⟨rfl, rfl, rfl, by decide +kernel, rfl, by decide +kernel, by decide +kernel⟩
theorem ck16 : chkSs fs ["told", "rate"] (defScope (topS 21)) f16.body (defBody (topS 21)) = true := by decide +kernel
theorem sc17 : FnScope ["held", "waits", "one", "other"] ["held", "waits"] (defScope (topS 22)) := ⟨rfl, rfl, rfl, by decide +kernel, rfl, by decide +kernel, by decide +kernel⟩
theorem ck17 : chkSs fs ["held", "waits", "one", "other"] (defScope (topS 22)) f17.body (defBody (topS 22)) = true := by decide +kernel
theorem scL : FnScope ["script", "w", "turn", "of", "slow", "fast", "drift", "long", "less", "ends", "held", "waits", "able", "every", "lost", "asks", "n", "k", "rate"] ["script"] (defScope (topS 23)) := ⟨rfl, rfl, rfl, by decide +kernel, rfl, by decide +kernel, by decide +kernel⟩
theorem ckL : chkSs fs ["script", "w", "turn", "of", "slow", "fast", "drift", "long", "less", "ends", "held", "waits", "able", "every", "lost", "asks", "n", "k", "rate"] (defScope (topS 23)) bL (defBody (topS 23)).tail = true := by decide +kernel
theorem scD : FnScope ["script", "many", "draws", "mixed", "k", "cell", "rest", "turn"] ["script", "many"] (defScope (topS 14)) := ⟨rfl, rfl, rfl, by decide +kernel, rfl, by decide +kernel, by decide +kernel⟩
theorem ckD : chkSs [] ["script", "many", "draws", "mixed", "k", "cell", "rest", "turn"] (defScope (topS 14)) drawsB (defBody (topS 14)) = true := by decide +kernel
theorem scN : FnScope ["w", "many"] ["w", "many"] (defScope (topS 15)) := ⟨rfl, rfl, rfl, by decide +kernel, rfl, by decide +kernel, by decide +kernel⟩
section
variable {K : PySem.W.Frag} {mg : Str → Option Value}
theorem rows {a0 a1 a2 a3 a4 a5 a6 a7 a8 a9 a10 a11 a12 a13 a14 a15 a16 a17 : Addr} {d0 d1 d2 d3 d4 d5 d6 d7 d8 d9 d10 d11 d12 d13 d14 d15 d16 d17 : FuncData}
    (g0 : mg "divisor" = some (.ref a0)) (F0 : L2.Fun K "divisor" "divisor" (topS 1) a0 d0) (B0 : Binds K d0 ["a", "b"] [])
    (g1 : mg "fraction" = some (.ref a1)) (F1 : L2.Fun K "fraction" "fraction" (topS 2) a1 d1) (B1 : Binds K d1 ["a", "b"] [])
    (g2 : mg "plus" = some (.ref a2)) (F2 : L2.Fun K "plus" "plus" (topS 3) a2 d2) (B2 : Binds K d2 ["one", "other"] [])
    (g3 : mg "minus" = some (.ref a3)) (F3 : L2.Fun K "minus" "minus" (topS 4) a3 d3) (B3 : Binds K d3 ["one", "other"] [])
    (g4 : mg "is_less" = some (.ref a4)) (F4 : L2.Fun K "is_less" "is_less" (topS 5) a4 d4) (B4 : Binds K d4 ["one", "other"] [])
    (g5 : mg "longest_held" = some (.ref a5)) (F5 : L2.Fun K "longest_held" "longest_held" (topS 7) a5 d5) (B5 : Binds K d5 ["drift", "less"] [])
    (g6 : mg "shortest_wait" = some (.ref a6)) (F6 : L2.Fun K "shortest_wait" "shortest_wait" (topS 8) a6 d6) (B6 : Binds K d6 ["drift", "long"] [])
    (g7 : mg "never_two" = some (.ref a7)) (F7 : L2.Fun K "never_two" "never_two" (topS 9) a7 d7) (B7 : Binds K d7 ["drift", "long", "less"] [])
    (g8 : mg "greatest_less" = some (.ref a8)) (F8 : L2.Fun K "greatest_less" "greatest_less" (topS 10) a8 d8) (B8 : Binds K d8 ["drift", "long"] [])
    (g9 : mg "longest_gap" = some (.ref a9)) (F9 : L2.Fun K "longest_gap" "longest_gap" (topS 11) a9 d9) (B9 : Binds K d9 ["drift", "long", "less"] [])
    (g10 : mg "holds_on" = some (.ref a10)) (F10 : L2.Fun K "holds_on" "holds_on" (topS 12) a10 d10) (B10 : Binds K d10 ["less", "every", "lost"] [])
    (g11 : mg "_law_is_bit" = some (.ref a11)) (F11 : L2.Fun K "_law_is_bit" "_law_is_bit" (topS 16) a11 d11) (B11 : Binds K d11 ["said", "due"] [])
    (g12 : mg "_law_common" = some (.ref a12)) (F12 : L2.Fun K "_law_common" "_law_common" (topS 17) a12 d12) (B12 : Binds K d12 ["a", "b"] [])
    (g13 : mg "_law_frac" = some (.ref a13)) (F13 : L2.Fun K "_law_frac" "_law_frac" (topS 18) a13 d13) (B13 : Binds K d13 ["a", "b"] [])
    (g14 : mg "_law_less" = some (.ref a14)) (F14 : L2.Fun K "_law_less" "_law_less" (topS 19) a14 d14) (B14 : Binds K d14 ["one", "other"] [])
    (g15 : mg "_law_below" = some (.ref a15)) (F15 : L2.Fun K "_law_below" "_law_below" (topS 20) a15 d15) (B15 : Binds K d15 ["one", "other"] [])
    (g16 : mg "_law_true" = some (.ref a16)) (F16 : L2.Fun K "_law_true" "_law_true" (topS 21) a16 d16) (B16 : Binds K d16 ["told", "rate"] [])
    (g17 : mg "_law_safe" = some (.ref a17)) (F17 : L2.Fun K "_law_safe" "_law_safe" (topS 22) a17 d17) (B17 : Binds K d17 ["held", "waits"] [])
    : ∀ i x, fs[i]? = some x → Row K mg fs fns i x
  | 0, _, h => by cases h; exact ⟨_, _, _, _, _, _, rfl, g0, F0, sc0, rfl, rfl, ck0, B0⟩
  | 1, _, h => by cases h; exact ⟨_, _, _, _, _, _, rfl, g1, F1, sc1, rfl, rfl, ck1, B1⟩
  | 2, _, h => by cases h; exact ⟨_, _, _, _, _, _, rfl, g2, F2, sc2, rfl, rfl, ck2, B2⟩
  | 3, _, h => by cases h; exact ⟨_, _, _, _, _, _, rfl, g3, F3, sc3, rfl, rfl, ck3, B3⟩
  | 4, _, h => by cases h; exact ⟨_, _, _, _, _, _, rfl, g4, F4, sc4, rfl, rfl, ck4, B4⟩
  | 5, _, h => by cases h; exact ⟨_, _, _, _, _, _, rfl, g5, F5, sc5, rfl, rfl, ck5, B5⟩
  | 6, _, h => by cases h; exact ⟨_, _, _, _, _, _, rfl, g6, F6, sc6, rfl, rfl, ck6, B6⟩
  | 7, _, h => by cases h; exact ⟨_, _, _, _, _, _, rfl, g7, F7, sc7, rfl, rfl, ck7, B7⟩
  | 8, _, h => by cases h; exact ⟨_, _, _, _, _, _, rfl, g8, F8, sc8, rfl, rfl, ck8, B8⟩
  | 9, _, h => by cases h; exact ⟨_, _, _, _, _, _, rfl, g9, F9, sc9, rfl, rfl, ck9, B9⟩
  | 10, _, h => by cases h; exact ⟨_, _, _, _, _, _, rfl, g10, F10, sc10, rfl, rfl, ck10, B10⟩
  | 11, _, h => by cases h; exact ⟨_, _, _, _, _, _, rfl, g11, F11, sc11, rfl, rfl, ck11, B11⟩
  | 12, _, h => by cases h; exact ⟨_, _, _, _, _, _, rfl, g12, F12, sc12, rfl, rfl, ck12, B12⟩
  | 13, _, h => by cases h; exact ⟨_, _, _, _, _, _, rfl, g13, F13, sc13, rfl, rfl, ck13, B13⟩
  | 14, _, h => by cases h; exact ⟨_, _, _, _, _, _, rfl, g14, F14, sc14, rfl, rfl, ck14, B14⟩
  | 15, _, h => by cases h; exact ⟨_, _, _, _, _, _, rfl, g15, F15, sc15, rfl, rfl, ck15, B15⟩
  | 16, _, h => by cases h; exact ⟨_, _, _, _, _, _, rfl, g16, F16, sc16, rfl, rfl, ck16, B16⟩
  | 17, _, h => by cases h; exact ⟨_, _, _, _, _, _, rfl, g17, F17, sc17, rfl, rfl, ck17, B17⟩
  | n + 18, _, h => nomatch h
end
theorem all_mk {l : PySem.W.OpenLaw} {w : World} {K : PySem.W.Frag} {h : Heap} {mg : Str → Option Value} {fa e0 e1 e2 e3 e4 e5 e6 e7 e8 e9 e10 e11 e12 e13 e14 e15 e16 e17 e18 e19 e20 : Addr} (X : K.In h) (G : h.Ns mainGlobals mg) (hfa : mg "law" = some (.ref fa))
    {od0 an0 : Option Addr} {sl0 : Array (Option Value)} {oc0 kV0 dc0 pm0 cd0 ct0 : Value}
    (a0 : PySem.W.nsIn K mainGlobals "divisor" = some (some (.ref e0))) (l0 : K.lookup e0 = some ⟨oc0, od0, .func (PySem.W.fnOf "divisor" "divisor" (defArgs (topS 1)) (defBody (topS 1)) (defScope (topS 1)) .none kV0 dc0 pm0 an0 cd0 ct0), sl0⟩) (c0 : PySem.W.codeIn K cd0 "divisor" = true) (k0 : PySem.W.keepIn K (.ref e0) = true)
    {od1 an1 : Option Addr} {sl1 : Array (Option Value)} {oc1 kV1 dc1 pm1 cd1 ct1 : Value}
    (a1 : PySem.W.nsIn K mainGlobals "fraction" = some (some (.ref e1))) (l1 : K.lookup e1 = some ⟨oc1, od1, .func (PySem.W.fnOf "fraction" "fraction" (defArgs (topS 2)) (defBody (topS 2)) (defScope (topS 2)) .none kV1 dc1 pm1 an1 cd1 ct1), sl1⟩) (c1 : PySem.W.codeIn K cd1 "fraction" = true) (k1 : PySem.W.keepIn K (.ref e1) = true)
    {od2 an2 : Option Addr} {sl2 : Array (Option Value)} {oc2 kV2 dc2 pm2 cd2 ct2 : Value}
    (a2 : PySem.W.nsIn K mainGlobals "plus" = some (some (.ref e2))) (l2 : K.lookup e2 = some ⟨oc2, od2, .func (PySem.W.fnOf "plus" "plus" (defArgs (topS 3)) (defBody (topS 3)) (defScope (topS 3)) .none kV2 dc2 pm2 an2 cd2 ct2), sl2⟩) (c2 : PySem.W.codeIn K cd2 "plus" = true) (k2 : PySem.W.keepIn K (.ref e2) = true)
    {od3 an3 : Option Addr} {sl3 : Array (Option Value)} {oc3 kV3 dc3 pm3 cd3 ct3 : Value}
    (a3 : PySem.W.nsIn K mainGlobals "minus" = some (some (.ref e3))) (l3 : K.lookup e3 = some ⟨oc3, od3, .func (PySem.W.fnOf "minus" "minus" (defArgs (topS 4)) (defBody (topS 4)) (defScope (topS 4)) .none kV3 dc3 pm3 an3 cd3 ct3), sl3⟩) (c3 : PySem.W.codeIn K cd3 "minus" = true) (k3 : PySem.W.keepIn K (.ref e3) = true)
    {od4 an4 : Option Addr} {sl4 : Array (Option Value)} {oc4 kV4 dc4 pm4 cd4 ct4 : Value}
    (a4 : PySem.W.nsIn K mainGlobals "is_less" = some (some (.ref e4))) (l4 : K.lookup e4 = some ⟨oc4, od4, .func (PySem.W.fnOf "is_less" "is_less" (defArgs (topS 5)) (defBody (topS 5)) (defScope (topS 5)) .none kV4 dc4 pm4 an4 cd4 ct4), sl4⟩) (c4 : PySem.W.codeIn K cd4 "is_less" = true) (k4 : PySem.W.keepIn K (.ref e4) = true)
    {od5 an5 : Option Addr} {sl5 : Array (Option Value)} {oc5 kV5 dc5 pm5 cd5 ct5 : Value}
    (a5 : PySem.W.nsIn K mainGlobals "longest_held" = some (some (.ref e5))) (l5 : K.lookup e5 = some ⟨oc5, od5, .func (PySem.W.fnOf "longest_held" "longest_held" (defArgs (topS 7)) (defBody (topS 7)) (defScope (topS 7)) .none kV5 dc5 pm5 an5 cd5 ct5), sl5⟩) (c5 : PySem.W.codeIn K cd5 "longest_held" = true) (k5 : PySem.W.keepIn K (.ref e5) = true)
    {od6 an6 : Option Addr} {sl6 : Array (Option Value)} {oc6 kV6 dc6 pm6 cd6 ct6 : Value}
    (a6 : PySem.W.nsIn K mainGlobals "shortest_wait" = some (some (.ref e6))) (l6 : K.lookup e6 = some ⟨oc6, od6, .func (PySem.W.fnOf "shortest_wait" "shortest_wait" (defArgs (topS 8)) (defBody (topS 8)) (defScope (topS 8)) .none kV6 dc6 pm6 an6 cd6 ct6), sl6⟩) (c6 : PySem.W.codeIn K cd6 "shortest_wait" = true) (k6 : PySem.W.keepIn K (.ref e6) = true)
    {od7 an7 : Option Addr} {sl7 : Array (Option Value)} {oc7 kV7 dc7 pm7 cd7 ct7 : Value}
    (a7 : PySem.W.nsIn K mainGlobals "never_two" = some (some (.ref e7))) (l7 : K.lookup e7 = some ⟨oc7, od7, .func (PySem.W.fnOf "never_two" "never_two" (defArgs (topS 9)) (defBody (topS 9)) (defScope (topS 9)) .none kV7 dc7 pm7 an7 cd7 ct7), sl7⟩) (c7 : PySem.W.codeIn K cd7 "never_two" = true) (k7 : PySem.W.keepIn K (.ref e7) = true)
    {od8 an8 : Option Addr} {sl8 : Array (Option Value)} {oc8 kV8 dc8 pm8 cd8 ct8 : Value}
    (a8 : PySem.W.nsIn K mainGlobals "greatest_less" = some (some (.ref e8))) (l8 : K.lookup e8 = some ⟨oc8, od8, .func (PySem.W.fnOf "greatest_less" "greatest_less" (defArgs (topS 10)) (defBody (topS 10)) (defScope (topS 10)) .none kV8 dc8 pm8 an8 cd8 ct8), sl8⟩) (c8 : PySem.W.codeIn K cd8 "greatest_less" = true) (k8 : PySem.W.keepIn K (.ref e8) = true)
    {od9 an9 : Option Addr} {sl9 : Array (Option Value)} {oc9 kV9 dc9 pm9 cd9 ct9 : Value}
    (a9 : PySem.W.nsIn K mainGlobals "longest_gap" = some (some (.ref e9))) (l9 : K.lookup e9 = some ⟨oc9, od9, .func (PySem.W.fnOf "longest_gap" "longest_gap" (defArgs (topS 11)) (defBody (topS 11)) (defScope (topS 11)) .none kV9 dc9 pm9 an9 cd9 ct9), sl9⟩) (c9 : PySem.W.codeIn K cd9 "longest_gap" = true) (k9 : PySem.W.keepIn K (.ref e9) = true)
    {od10 an10 : Option Addr} {sl10 : Array (Option Value)} {oc10 kV10 dc10 pm10 cd10 ct10 : Value}
    (a10 : PySem.W.nsIn K mainGlobals "holds_on" = some (some (.ref e10))) (l10 : K.lookup e10 = some ⟨oc10, od10, .func (PySem.W.fnOf "holds_on" "holds_on" (defArgs (topS 12)) (defBody (topS 12)) (defScope (topS 12)) .none kV10 dc10 pm10 an10 cd10 ct10), sl10⟩) (c10 : PySem.W.codeIn K cd10 "holds_on" = true) (k10 : PySem.W.keepIn K (.ref e10) = true)
    {od11 an11 : Option Addr} {sl11 : Array (Option Value)} {oc11 kV11 dc11 pm11 cd11 ct11 : Value}
    (a11 : PySem.W.nsIn K mainGlobals "_law_is_bit" = some (some (.ref e11))) (l11 : K.lookup e11 = some ⟨oc11, od11, .func (PySem.W.fnOf "_law_is_bit" "_law_is_bit" (defArgs (topS 16)) (defBody (topS 16)) (defScope (topS 16)) .none kV11 dc11 pm11 an11 cd11 ct11), sl11⟩) (c11 : PySem.W.codeIn K cd11 "_law_is_bit" = true) (k11 : PySem.W.keepIn K (.ref e11) = true)
    {od12 an12 : Option Addr} {sl12 : Array (Option Value)} {oc12 kV12 dc12 pm12 cd12 ct12 : Value}
    (a12 : PySem.W.nsIn K mainGlobals "_law_common" = some (some (.ref e12))) (l12 : K.lookup e12 = some ⟨oc12, od12, .func (PySem.W.fnOf "_law_common" "_law_common" (defArgs (topS 17)) (defBody (topS 17)) (defScope (topS 17)) .none kV12 dc12 pm12 an12 cd12 ct12), sl12⟩) (c12 : PySem.W.codeIn K cd12 "_law_common" = true) (k12 : PySem.W.keepIn K (.ref e12) = true)
    {od13 an13 : Option Addr} {sl13 : Array (Option Value)} {oc13 kV13 dc13 pm13 cd13 ct13 : Value}
    (a13 : PySem.W.nsIn K mainGlobals "_law_frac" = some (some (.ref e13))) (l13 : K.lookup e13 = some ⟨oc13, od13, .func (PySem.W.fnOf "_law_frac" "_law_frac" (defArgs (topS 18)) (defBody (topS 18)) (defScope (topS 18)) .none kV13 dc13 pm13 an13 cd13 ct13), sl13⟩) (c13 : PySem.W.codeIn K cd13 "_law_frac" = true) (k13 : PySem.W.keepIn K (.ref e13) = true)
    {od14 an14 : Option Addr} {sl14 : Array (Option Value)} {oc14 kV14 dc14 pm14 cd14 ct14 : Value}
    (a14 : PySem.W.nsIn K mainGlobals "_law_less" = some (some (.ref e14))) (l14 : K.lookup e14 = some ⟨oc14, od14, .func (PySem.W.fnOf "_law_less" "_law_less" (defArgs (topS 19)) (defBody (topS 19)) (defScope (topS 19)) .none kV14 dc14 pm14 an14 cd14 ct14), sl14⟩) (c14 : PySem.W.codeIn K cd14 "_law_less" = true) (k14 : PySem.W.keepIn K (.ref e14) = true)
    {od15 an15 : Option Addr} {sl15 : Array (Option Value)} {oc15 kV15 dc15 pm15 cd15 ct15 : Value}
    (a15 : PySem.W.nsIn K mainGlobals "_law_below" = some (some (.ref e15))) (l15 : K.lookup e15 = some ⟨oc15, od15, .func (PySem.W.fnOf "_law_below" "_law_below" (defArgs (topS 20)) (defBody (topS 20)) (defScope (topS 20)) .none kV15 dc15 pm15 an15 cd15 ct15), sl15⟩) (c15 : PySem.W.codeIn K cd15 "_law_below" = true) (k15 : PySem.W.keepIn K (.ref e15) = true)
    {od16 an16 : Option Addr} {sl16 : Array (Option Value)} {oc16 kV16 dc16 pm16 cd16 ct16 : Value}
    (a16 : PySem.W.nsIn K mainGlobals "_law_true" = some (some (.ref e16))) (l16 : K.lookup e16 = some ⟨oc16, od16, .func (PySem.W.fnOf "_law_true" "_law_true" (defArgs (topS 21)) (defBody (topS 21)) (defScope (topS 21)) .none kV16 dc16 pm16 an16 cd16 ct16), sl16⟩) (c16 : PySem.W.codeIn K cd16 "_law_true" = true) (k16 : PySem.W.keepIn K (.ref e16) = true)
    {od17 an17 : Option Addr} {sl17 : Array (Option Value)} {oc17 kV17 dc17 pm17 cd17 ct17 : Value}
    (a17 : PySem.W.nsIn K mainGlobals "_law_safe" = some (some (.ref e17))) (l17 : K.lookup e17 = some ⟨oc17, od17, .func (PySem.W.fnOf "_law_safe" "_law_safe" (defArgs (topS 22)) (defBody (topS 22)) (defScope (topS 22)) .none kV17 dc17 pm17 an17 cd17 ct17), sl17⟩) (c17 : PySem.W.codeIn K cd17 "_law_safe" = true) (k17 : PySem.W.keepIn K (.ref e17) = true)
    {od18 an18 : Option Addr} {sl18 : Array (Option Value)} {oc18 kV18 dc18 pm18 cd18 ct18 : Value}
    (a18 : PySem.W.nsIn K mainGlobals "_law_draws" = some (some (.ref e18))) (l18 : K.lookup e18 = some ⟨oc18, od18, .func (PySem.W.fnOf "_law_draws" "_law_draws" (defArgs (topS 14)) (defBody (topS 14)) (defScope (topS 14)) .none kV18 dc18 pm18 an18 cd18 ct18), sl18⟩) (c18 : PySem.W.codeIn K cd18 "_law_draws" = true) (k18 : PySem.W.keepIn K (.ref e18) = true)
    {od19 an19 : Option Addr} {sl19 : Array (Option Value)} {oc19 kV19 dc19 pm19 cd19 ct19 : Value}
    (a19 : PySem.W.nsIn K mainGlobals "_law_next" = some (some (.ref e19))) (l19 : K.lookup e19 = some ⟨oc19, od19, .func (PySem.W.fnOf "_law_next" "_law_next" (defArgs (topS 15)) (defBody (topS 15)) (defScope (topS 15)) .none kV19 dc19 pm19 an19 cd19 ct19), sl19⟩) (c19 : PySem.W.codeIn K cd19 "_law_next" = true) (k19 : PySem.W.keepIn K (.ref e19) = true)
    {od20 an20 : Option Addr} {sl20 : Array (Option Value)} {oc20 kV20 dc20 pm20 cd20 ct20 : Value}
    (a20 : PySem.W.nsIn K mainGlobals "law" = some (some (.ref e20))) (l20 : K.lookup e20 = some ⟨oc20, od20, .func (PySem.W.fnOf "law" "law" (defArgs (topS 23)) (defBody (topS 23)) (defScope (topS 23)) .none kV20 dc20 pm20 an20 cd20 ct20), sl20⟩) (c20 : PySem.W.codeIn K cd20 "law" = true) (k20 : PySem.W.keepIn K (.ref e20) = true)
    (z0 : PySem.W.nsIn K mainGlobals "len" = some none)
    (z1 : PySem.W.nsIn K mainGlobals "abs" = some none)
    (z2 : PySem.W.nsIn K mainGlobals "int" = some none)
    (z3 : PySem.W.nsIn K mainGlobals "max" = some none)
    (z4 : PySem.W.nsIn K mainGlobals "min" = some none)
    (z5 : PySem.W.nsIn K mainGlobals "sum" = some none)
    (z6 : PySem.W.nsIn K mainGlobals "all" = some none)
    (z7 : PySem.W.nsIn K mainGlobals "any" = some none)
    (z8 : PySem.W.nsIn K mainGlobals "tuple" = some none)
    (z9 : PySem.W.nsIn K mainGlobals "list" = some none)
    (z10 : PySem.W.nsIn K mainGlobals "sorted" = some none)
    (z11 : PySem.W.nsIn K mainGlobals "range" = some none)
    (z12 : PySem.W.nsIn K mainGlobals "zip" = some none)
    (z13 : PySem.W.nsIn K mainGlobals "isinstance" = some none)
    (z14 : PySem.W.nsIn K mainGlobals "bool" = some none)
    (z15 : PySem.W.nsIn K mainGlobals "str" = some none)
    (z16 : PySem.W.nsIn K mainGlobals "dict" = some none)
    (z17 : PySem.W.nsIn K mainGlobals "__debug__" = some none)
    : ∃ fd : FuncData, (∀ (s : Shared) (v : Value), BindsTo s fd ⟨[v], []⟩ [("script", v)]) ∧ ∀ base : Heap, K.In base → base.Ns mainGlobals mg → FnOk l.prog w K mg base CX0 11 fa fd ["script"] (spLaw K) := by
  have e := hfa.symm.trans (PySem.W.mg_of X G a20)
  cases e
  have F0 := fun_mk (st := topS 1) l0 c0 k0
  have F1 := fun_mk (st := topS 2) l1 c1 k1
  have F2 := fun_mk (st := topS 3) l2 c2 k2
  have F3 := fun_mk (st := topS 4) l3 c3 k3
  have F4 := fun_mk (st := topS 5) l4 c4 k4
  have F5 := fun_mk (st := topS 7) l5 c5 k5
  have F6 := fun_mk (st := topS 8) l6 c6 k6
  have F7 := fun_mk (st := topS 9) l7 c7 k7
  have F8 := fun_mk (st := topS 10) l8 c8 k8
  have F9 := fun_mk (st := topS 11) l9 c9 k9
  have F10 := fun_mk (st := topS 12) l10 c10 k10
  have F11 := fun_mk (st := topS 16) l11 c11 k11
  have F12 := fun_mk (st := topS 17) l12 c12 k12
  have F13 := fun_mk (st := topS 18) l13 c13 k13
  have F14 := fun_mk (st := topS 19) l14 c14 k14
  have F15 := fun_mk (st := topS 20) l15 c15 k15
  have F16 := fun_mk (st := topS 21) l16 c16 k16
  have F17 := fun_mk (st := topS 22) l17 c17 k17
  have F18 := fun_mk (st := topS 14) l18 c18 k18
  have F19 := fun_mk (st := topS 15) l19 c19 k19
  have F20 := fun_mk (st := topS 23) l20 c20 k20
  have B0 := F0.binds (ps := ["a", "b"]) fun _ _ _ _ _ _ us hl => match us, hl with | [_, _], _ => rfl
  have B1 := F1.binds (ps := ["a", "b"]) fun _ _ _ _ _ _ us hl => match us, hl with | [_, _], _ => rfl
  have B2 := F2.binds (ps := ["one", "other"]) fun _ _ _ _ _ _ us hl => match us, hl with | [_, _], _ => rfl
  have B3 := F3.binds (ps := ["one", "other"]) fun _ _ _ _ _ _ us hl => match us, hl with | [_, _], _ => rfl
  have B4 := F4.binds (ps := ["one", "other"]) fun _ _ _ _ _ _ us hl => match us, hl with | [_, _], _ => rfl
  have B5 := F5.binds (ps := ["drift", "less"]) fun _ _ _ _ _ _ us hl => match us, hl with | [_, _], _ => rfl
  have B6 := F6.binds (ps := ["drift", "long"]) fun _ _ _ _ _ _ us hl => match us, hl with | [_, _], _ => rfl
  have B7 := F7.binds (ps := ["drift", "long", "less"]) fun _ _ _ _ _ _ us hl => match us, hl with | [_, _, _], _ => rfl
  have B8 := F8.binds (ps := ["drift", "long"]) fun _ _ _ _ _ _ us hl => match us, hl with | [_, _], _ => rfl
  have B9 := F9.binds (ps := ["drift", "long", "less"]) fun _ _ _ _ _ _ us hl => match us, hl with | [_, _, _], _ => rfl
  have B10 := F10.binds (ps := ["less", "every", "lost"]) fun _ _ _ _ _ _ us hl => match us, hl with | [_, _, _], _ => rfl
  have B11 := F11.binds (ps := ["said", "due"]) fun _ _ _ _ _ _ us hl => match us, hl with | [_, _], _ => rfl
  have B12 := F12.binds (ps := ["a", "b"]) fun _ _ _ _ _ _ us hl => match us, hl with | [_, _], _ => rfl
  have B13 := F13.binds (ps := ["a", "b"]) fun _ _ _ _ _ _ us hl => match us, hl with | [_, _], _ => rfl
  have B14 := F14.binds (ps := ["one", "other"]) fun _ _ _ _ _ _ us hl => match us, hl with | [_, _], _ => rfl
  have B15 := F15.binds (ps := ["one", "other"]) fun _ _ _ _ _ _ us hl => match us, hl with | [_, _], _ => rfl
  have B16 := F16.binds (ps := ["told", "rate"]) fun _ _ _ _ _ _ us hl => match us, hl with | [_, _], _ => rfl
  have B17 := F17.binds (ps := ["held", "waits"]) fun _ _ _ _ _ _ us hl => match us, hl with | [_, _], _ => rfl
  have B18 := F18.binds (ps := ["script", "many"]) fun _ _ _ _ _ _ us hl => match us, hl with | [_, _], _ => rfl
  have B19 := F19.binds (ps := ["w", "many"]) fun _ _ _ _ _ _ us hl => match us, hl with | [_, _], _ => rfl
  have M : Mods mg := ⟨fun x hx => ?_, PySem.W.mg_none_of X G z17⟩
  · refine ⟨PySem.W.fnOf "law" "law" (defArgs (topS 23)) (defBody (topS 23)) (defScope (topS 23)) .none kV20 dc20 pm20 an20 cd20 ct20, fun s v => .of_eq rfl, fun base _ _ => ?_⟩
    refine law_ok (k := 8) (m := 300) (fs := fs) (fns := fns) (rest := bL) (rs := (defBody (topS 23)).tail) F20 scL rfl (by decide) rfl ckL rfl rfl rfl M (rows (PySem.W.mg_of X G a0) F0 B0 (PySem.W.mg_of X G a1) F1 B1 (PySem.W.mg_of X G a2) F2 B2 (PySem.W.mg_of X G a3) F3 B3 (PySem.W.mg_of X G a4) F4 B4 (PySem.W.mg_of X G a5) F5 B5 (PySem.W.mg_of X G a6) F6 B6 (PySem.W.mg_of X G a7) F7 B7 (PySem.W.mg_of X G a8) F8 B8 (PySem.W.mg_of X G a9) F9 B9 (PySem.W.mg_of X G a10) F10 B10 (PySem.W.mg_of X G a11) F11 B11 (PySem.W.mg_of X G a12) F12 B12 (PySem.W.mg_of X G a13) F13 B13 (PySem.W.mg_of X G a14) F14 B14 (PySem.W.mg_of X G a15) F15 B15 (PySem.W.mg_of X G a16) F16 B16 (PySem.W.mg_of X G a17) F17 B17) F18 scD ckD B18 (PySem.W.mg_of X G a18) (fun c hc => ?_) run
    exact ⟨_, _, _, PySem.W.mg_of X G a19, k19, B19, next_ok hc F19 scN M rfl rfl rfl rfl rfl⟩
  · simp only [bnames, List.mem_cons, List.not_mem_nil, or_false] at hx
    rcases hx with rfl | rfl | rfl | rfl | rfl | rfl | rfl | rfl | rfl | rfl | rfl | rfl | rfl | rfl | rfl | rfl | rfl
    · exact PySem.W.mg_none_of X G z0
    · exact PySem.W.mg_none_of X G z1
    · exact PySem.W.mg_none_of X G z2
    · exact PySem.W.mg_none_of X G z3
    · exact PySem.W.mg_none_of X G z4
    · exact PySem.W.mg_none_of X G z5
    · exact PySem.W.mg_none_of X G z6
    · exact PySem.W.mg_none_of X G z7
    · exact PySem.W.mg_none_of X G z8
    · exact PySem.W.mg_none_of X G z9
    · exact PySem.W.mg_none_of X G z10
    · exact PySem.W.mg_none_of X G z11
    · exact PySem.W.mg_none_of X G z12
    · exact PySem.W.mg_none_of X G z13
    · exact PySem.W.mg_none_of X G z14
    · exact PySem.W.mg_none_of X G z15
    · exact PySem.W.mg_none_of X G z16
end K32
open PySem PySem.W PyProof.Rows
set_option maxHeartbeats 0 in
theorem PySem.Challenge.cw_loadwarrant_k32_whole_leases_and_driftin_holds : PySem.Challenge.rw_loadwarrant_k32_whole_leases_and_driftin.Holds := by
  w_on; o_law; k_head; (case hw => w_witness2)
  k_fill
  refine L2.walk_of (l := PySem.Challenge.rw_loadwarrant_k32_whole_leases_and_driftin) (n := 63) (k := 11) (x := "script") (CX := fun _ => L2.CX0) (sp := fun w => Q.spLaw _) rfl (by decide) rfl ⟨rfl, by decide, by decide⟩ (fun w h Y => PySem.W.kIn_of Y) ?F (fun _ _ a ns hl hO hS => Q.spLaw_of hl hO hS) (fun _ _ _ _ _ h => h)
  case F =>
    intro w mg fa h KX G hmg
    refine' K32.all_mk KX G hmg ?a0 ?l0 ?c0 ?k0 ?a1 ?l1 ?c1 ?k1 ?a2 ?l2 ?c2 ?k2 ?a3 ?l3 ?c3 ?k3 ?a4 ?l4 ?c4 ?k4 ?a5 ?l5 ?c5 ?k5 ?a6 ?l6 ?c6 ?k6 ?a7 ?l7 ?c7 ?k7 ?a8 ?l8 ?c8 ?k8 ?a9 ?l9 ?c9 ?k9 ?a10 ?l10 ?c10 ?k10 ?a11 ?l11 ?c11 ?k11 ?a12 ?l12 ?c12 ?k12 ?a13 ?l13 ?c13 ?k13 ?a14 ?l14 ?c14 ?k14 ?a15 ?l15 ?c15 ?k15 ?a16 ?l16 ?c16 ?k16 ?a17 ?l17 ?c17 ?k17 ?a18 ?l18 ?c18 ?k18 ?a19 ?l19 ?c19 ?k19 ?a20 ?l20 ?c20 ?k20 ?z0 ?z1 ?z2 ?z3 ?z4 ?z5 ?z6 ?z7 ?z8 ?z9 ?z10 ?z11 ?z12 ?z13 ?z14 ?z15 ?z16 ?z17
    (case a0 => k_is); (case l0 => k_is); (case c0 => k_is); (case k0 => k_is); (case a1 => k_is); (case l1 => k_is); (case c1 => k_is); (case k1 => k_is); (case a2 => k_is); (case l2 => k_is); (case c2 => k_is); (case k2 => k_is); (case a3 => k_is); (case l3 => k_is); (case c3 => k_is); (case k3 => k_is); (case a4 => k_is); (case l4 => k_is); (case c4 => k_is); (case k4 => k_is); (case a5 => k_is); (case l5 => k_is); (case c5 => k_is); (case k5 => k_is); (case a6 => k_is); (case l6 => k_is); (case c6 => k_is); (case k6 => k_is); (case a7 => k_is); (case l7 => k_is); (case c7 => k_is); (case k7 => k_is); (case a8 => k_is); (case l8 => k_is); (case c8 => k_is); (case k8 => k_is); (case a9 => k_is); (case l9 => k_is); (case c9 => k_is); (case k9 => k_is); (case a10 => k_is); (case l10 => k_is); (case c10 => k_is); (case k10 => k_is); (case a11 => k_is); (case l11 => k_is); (case c11 => k_is); (case k11 => k_is); (case a12 => k_is); (case l12 => k_is); (case c12 => k_is); (case k12 => k_is); (case a13 => k_is); (case l13 => k_is); (case c13 => k_is); (case k13 => k_is); (case a14 => k_is); (case l14 => k_is); (case c14 => k_is); (case k14 => k_is); (case a15 => k_is); (case l15 => k_is); (case c15 => k_is); (case k15 => k_is); (case a16 => k_is); (case l16 => k_is); (case c16 => k_is); (case k16 => k_is); (case a17 => k_is); (case l17 => k_is); (case c17 => k_is); (case k17 => k_is); (case a18 => k_is); (case l18 => k_is); (case c18 => k_is); (case k18 => k_is); (case a19 => k_is); (case l19 => k_is); (case c19 => k_is); (case k19 => k_is); (case a20 => k_is); (case l20 => k_is); (case c20 => k_is); (case k20 => k_is); (case z0 => k_is); (case z1 => k_is); (case z2 => k_is); (case z3 => k_is); (case z4 => k_is); (case z5 => k_is); (case z6 => k_is); (case z7 => k_is); (case z8 => k_is); (case z9 => k_is); (case z10 => k_is); (case z11 => k_is); (case z12 => k_is); (case z13 => k_is); (case z14 => k_is); (case z15 => k_is); (case z16 => k_is); (case z17 => k_is)
