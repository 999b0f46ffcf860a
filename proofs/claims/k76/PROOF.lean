import PyProof.Rows.All
import Wide.All
import OpenK.AllK
import Wide.FinOn
import PySem.Challenge.RW_underway_k76_whole_texts_of_procedures_a
import PyProof.EqLayable
import HandS.ForMost
import HandS.ForExc
import HandS.Flow
import HandS.TupAny
import HandS.TupLe
import HandS.Zip
import HandS.Deep
import HandS.IsInst
import HandS.TryOnly
import HandS.More
import HandS.WordsExc
import HandS.Head0
import HandS.Head1
import HandS.Head2
import HandS.HeadEnd
import HandS.HeadHook1
import HandS.HeadHook2
import HandS.HeadHook3
import HandS.HeadHook4
import HandS.Codes
set_option Elab.async false
set_option linter.all false
set_option maxRecDepth 100000
set_option maxHeartbeats 0
namespace MP
open PySem

/-- values: tuples as they are, lists, dicts and instances by their place in the own heap; frl: a list that is read only -/
inductive IV where
  | non | bl (b : Bool) | int (i : Int) | str (x : List Nat) | tup (xs : List IV) | loc (n : Nat) | frl (xs : List IV)
  deriving Repr, Inhabited

/-- what stands in the own heap -/
inductive IO where
  | lst (xs : List IV)
  | dct (kvs : List (List Nat × IV))
  | ins (c : Nat) (fs : List (Nat × IV))
  deriving Repr, Inhabited

abbrev IH := List IO
abbrev Sg := List (Option IV)

inductive Res (α : Type) where
  | ok (a : α) (h : IH)
  | exc (c : Nat) (vs : List IV) (h : IH)
  | bad
  deriving Repr, Inhabited

def Res.bind {α β : Type} (r : Res α) (f : α → IH → Res β) : Res β :=
  match r with
  | .ok a h => f a h
  | .exc c vs h => .exc c vs h
  | .bad => .bad
def Res.ofO {α : Type} (o : Option α) (h : IH) : Res α :=
  match o with
  | some a => .ok a h
  | none => .bad

mutual
def IV.eqb : IV → IV → Bool
  | .non, .non => true
  | .bl a, .bl b => a == b
  | .int a, .int b => a == b
  | .str a, .str b => a == b
  | .tup xs, .tup ys => IV.eqbs xs ys
  | .loc a, .loc b => a == b
  | .frl xs, .frl ys => IV.eqbs xs ys
  | _, _ => false
def IV.eqbs : List IV → List IV → Bool
  | [], [] => true
  | x :: xs, y :: ys => IV.eqb x y && IV.eqbs xs ys
  | _, _ => false
end

/-! ### syntax -/
inductive Bop where | add | sub | mul | fdiv | mod | pow
  deriving Repr, DecidableEq
inductive Cop where | eq | ne | lt | le | gt | ge | isIn | notIn | is | isNot
  deriving Repr, DecidableEq
inductive Ty where | int | bool | str | tuple | list | dict | cls (c : Nat)
  deriving Repr, DecidableEq
/-- built-in functions of one sequence -/
inductive Bs where | sum | all | any | tuple | list
  deriving Repr, DecidableEq
/-- built-in functions of one value -/
inductive Bv where | len | abs | int
  deriving Repr, DecidableEq
/-- targets of a loop -/
inductive Tg where
  | nm (i : Nat)
  | tp (is : List Nat)
  deriving Repr, DecidableEq

mutual
inductive Ex where
  | var (i : Nat)
  | con (v : IV)                        -- a constant written in the text
  | glo (x : Str) (v : IV)              -- a module's constant
  | tup (es : Exs)
  | lst (es : Exs)
  | bin (op : Bop) (a b : Ex)
  | neg (a : Ex)
  | cmp (op : Cop) (a b : Ex)
  | chain (op op' : Cop) (a b c : Ex)
  | and (a b : Ex)
  | or (a b : Ex)
  | not (a : Ex)
  | ite (c a b : Ex)
  | call (f : Nat) (es : Exs)
  | meth (c m f : Nat) (o : Ex) (es : Exs)      -- a method: the class, the name's number, the def
  | new (c f : Nat) (es : Exs)           -- an instance, by its __init__
  | bs (b : Bs) (s : Sx)
  | bv (b : Bv) (e : Ex)
  | join (sep : Ex) (s : Sx)
  | split (o sep : Ex)
  | app (o e : Ex)                       -- list.append
  | isi (e : Ex) (ts : List Ty) (one : Bool)
  | sub (a i : Ex)
  | kdx (x : Str) (kvs : List (List Nat × IV)) (i : Ex)     -- a module's dict, read
  | ddx (kvs : List (List Nat × IV)) (i : Ex)             -- a dict display of constants, read at once
  | slc (a : Ex) (lo hi : Ox)
  | att (o : Ex) (f : Nat)
  | mk (s : Sx)                          -- a list made by a comprehension, kept
inductive Exs where
  | nil
  | cons (e : Ex) (es : Exs)
inductive Ox where
  | none
  | some (e : Ex)
inductive Sx where
  | ex (e : Ex)
  | lc (elt : Ex) (tg : Tg) (own : List Nat) (it : It)
inductive It where
  | sq (s : Ex)
  | rng (e : Ex)
  | rng2 (a b : Ex)
  | enum (e : Ex)
  | zip (a b : Ex)
end

inductive Tgt where
  | nm (i : Nat)
  | tp (is : List Nat)
  | sub (o i : Ex)
  | att (o : Ex) (f : Nat)

mutual
inductive St where
  | expr (e : Ex)
  | asg (t : Tgt) (e : Ex)
  | augn (i : Nat) (op : Bop) (e : Ex)
  | auga (o : Ex) (f : Nat) (op : Bop) (e : Ex)
  | cond (c : Ex) (a b : Sts)
  | forr (tg : Tg) (it : It) (body : Sts)
  | whil (c : Ex) (body : Sts)
  | ret (e : Ex)
  | raise (c : Nat) (es : Exs)
  | pass | brk | cont
inductive Sts where
  | nil
  | cons (s : St) (r : Sts)
end

structure Def where
  nm : Str
  ps : List Str
  N : List Str
  body : Sts

inductive Fl where
  | next | brk | cont
  | ret (v : IV)
  | rse (c : Nat) (vs : List IV)
  deriving Repr, Inhabited

/-! ### operations -/
def big : Nat := 16777216
def flat : IV → Bool
  | .non => true
  | .bl _ => true
  | .int _ => true
  | .str _ => true
  | _ => false
def eqF : IV → IV → Bool
  | .non, .non => true
  | .bl a, .bl b => a == b
  | .bl a, .int b => (if a then 1 else 0) == b
  | .int a, .bl b => a == (if b then 1 else 0)
  | .int a, .int b => a == b
  | .str a, .str b => a == b
  | _, _ => false
def toD (h : IH) : Nat → IV → Option PyData
  | _, .non => some .none
  | _, .bl b => some (.bool b)
  | _, .int i => some (.int i)
  | _, .str x => if x.all (· < 0x110000) then some (.str ⟨x.toArray⟩) else none
  | n + 1, .tup xs => (xs.mapM (toD h n)).map .tuple
  | n + 1, .loc l => match h[l]? with
    | some (.lst xs) => (xs.mapM (toD h n)).map .list
    | _ => none
  | _, _ => none
/-- x == y -/
def eqI (h : IH) (x y : IV) : Option Bool :=
  if flat x && flat y then some (eqF x y) else
    match toD h 60 x, toD h 60 y with
    | some a, some b => some (PyData.eqv a b)
    | _, _ => none
/-- a list, a tuple: its items -/
def items (h : IH) : IV → Option (List IV)
  | .tup xs => some xs
  | .frl xs => some xs
  | .loc n => match h[n]? with
    | some (.lst xs) => some xs
    | _ => none
  | _ => none
/-- a list alone -/
def litems (h : IH) : IV → Option (List IV)
  | .frl xs => some xs
  | .loc n => match h[n]? with
    | some (.lst xs) => some xs
    | _ => none
  | _ => none
def truth (h : IH) : IV → Option Bool
  | .non => some false
  | .bl b => some b
  | .int i => some (i != 0)
  | .str x => if x.length ≤ big then some (!x.isEmpty) else none
  | .tup xs => some (!xs.isEmpty)
  | .frl xs => some (!xs.isEmpty)
  | .loc n => match h[n]? with
    | some (.lst xs) => some (!xs.isEmpty)
    | some (.dct kvs) => some (!kvs.isEmpty)
    | _ => none
def ofB (o : Option Bool) (h : IH) : Res IV :=
  match o with
  | some b => .ok (.bl b) h
  | none => .bad
def binI (op : Bop) (x y : IV) (h : IH) : Res IV :=
  match op, x, y with
  | .add, .int i, .int j => .ok (.int (i + j)) h
  | .add, .str a, .str b => if a.length + b.length ≤ big then .ok (.str (a ++ b)) h else .bad
  | .add, .tup a, .tup b => if a.length + b.length ≤ big then .ok (.tup (a ++ b)) h else .bad
  | .sub, .int i, .int j => .ok (.int (i - j)) h
  | .mul, .int i, .int j => if (-(2 ^ 64) < i ∧ i < 2 ^ 64) ∨ (-(2 ^ 64) < j ∧ j < 2 ^ 64) then .ok (.int (i * j)) h else .bad
  | .fdiv, .int i, .int j => if 0 < j ∧ j < 1073741824 then .ok (.int (i / j)) h else .bad
  | .mod, .int i, .int j => if 0 < j then .ok (.int (i % j)) h else .bad
  | .pow, .int i, .int j => if 0 ≤ j ∧ j ≤ 1000000 ∧ i.natAbs < 2 ^ 64 then .ok (.int (i ^ j.toNat)) h else .bad
  | _, _, _ => .bad
/-- += and its like -/
def iopI (op : Bop) (x y : IV) (h : IH) : Res IV :=
  match op, x, y with
  | .add, .int i, .int j => .ok (.int (i + j)) h
  | .add, .str a, .str b => if a.length + b.length ≤ big then .ok (.str (a ++ b)) h else .bad
  | .sub, .int i, .int j => .ok (.int (i - j)) h
  | _, _, _ => .bad
def cmpI (op : Cop) (x y : IV) (h : IH) : Res IV :=
  match op with
  | .eq => ofB (eqI h x y) h
  | .ne => ofB ((eqI h x y).map (!·)) h
  | .lt => match x, y with
    | .int i, .int j => .ok (.bl (decide (i < j))) h
    | _, _ => .bad
  | .le => match x, y with
    | .int i, .int j => .ok (.bl (decide (i ≤ j))) h
    | _, _ => .bad
  | .gt => match x, y with
    | .int i, .int j => .ok (.bl (decide (j < i))) h
    | _, _ => .bad
  | .ge => match x, y with
    | .int i, .int j => .ok (.bl (decide (j ≤ i))) h
    | _, _ => .bad
  | .isIn => match x, y with
    | .str [c], .str l => .ok (.bl (decide (c ∈ l))) h
    | _, _ => match items h y with
      | some xs => if flat x && xs.all flat then .ok (.bl (xs.any fun z => eqF z x)) h else .bad
      | none => .bad
  | .notIn => match items h y with
      | some xs => if flat x && xs.all flat then .ok (.bl (!xs.any fun z => eqF z x)) h else .bad
      | none => .bad
  | .is => match x, y with
    | .bl a, .bl b => .ok (.bl (decide (a = b))) h
    | _, .non => .ok (.bl (match x with | .non => true | _ => false)) h
    | _, _ => .bad
  | .isNot => match x, y with
    | .bl a, .bl b => .ok (.bl (!decide (a = b))) h
    | _, .non => .ok (.bl (match x with | .non => false | _ => true)) h
    | _, _ => .bad
def ixN (n : Nat) (i : Int) : Option Nat := if 0 ≤ i then (if i < n then some i.toNat else none) else if -(n : Int) ≤ i then some (i + n).toNat else none
def atI {α : Type} (xs : List α) (i : Int) : Option α := (ixN xs.length i).bind fun j => xs[j]?
def sIx (n d : Nat) : Option Int → Nat
  | none => d
  | some v => if v < 0 then (v + (n : Int)).toNat else min v.toNat n
def cut {α : Type} (xs : List α) (lo hi : Option Int) : List α := (xs.drop (sIx xs.length 0 lo)).take (sIx xs.length xs.length hi - sIx xs.length 0 lo)
def subI (x y : IV) (h : IH) : Res IV :=
  match y with
  | .int i => match x with
    | .str l => if l.length ≤ big then Res.ofO ((atI l i).map fun c => .str [c]) h else .bad
    | _ => match items h x with
      | some xs => Res.ofO (atI xs i) h
      | none => .bad
  | _ => .bad
def slcI (x : IV) (lo hi : Option Int) (h : IH) : Res IV :=
  match x with
  | .str l => if l.length ≤ big then .ok (.str (cut l lo hi)) h else .bad
  | .tup xs => .ok (.tup (cut xs lo hi)) h
  | _ => match litems h x with
    | some xs => .ok (.loc h.length) (h ++ [.lst (cut xs lo hi)])
    | none => .bad
/-- the kinds of a value -/
def isTy (h : IH) : IV → Ty → Option Bool
  | .non, .cls _ => none
  | .non, _ => some false
  | .bl _, .bool => some true
  | .bl _, .int => some true
  | .bl _, .cls _ => none
  | .bl _, _ => some false
  | .int _, .int => some true
  | .int _, .cls _ => none
  | .int _, _ => some false
  | .str _, .str => some true
  | .str _, .cls _ => none
  | .str _, _ => some false
  | .tup _, .tuple => some true
  | .tup _, .cls _ => none
  | .tup _, _ => some false
  | .frl _, _ => none
  | .loc n, t => match h[n]?, t with
    | some (.lst _), .list => some true
    | some (.lst _), .cls _ => none
    | some (.lst _), _ => some false
    | some (.dct _), .dict => some true
    | some (.dct _), .cls _ => none
    | some (.dct _), _ => some false
    | _, _ => none
def isTys (h : IH) (v : IV) : List Ty → Option Bool
  | [] => some false
  | t :: ts => match isTy h v t with
    | some true => some true
    | some false => isTys h v ts
    | none => none
def lenI (h : IH) : IV → Option Nat
  | .str l => if l.length ≤ big then some l.length else none
  | .tup xs => some xs.length
  | .frl xs => some xs.length
  | .loc n => match h[n]? with
    | some (.lst xs) => some xs.length
    | some (.dct kvs) => some kvs.length
    | _ => none
  | _ => none
def asInts : List IV → Option (List Int)
  | [] => some []
  | .int i :: r => (asInts r).map (i :: ·)
  | _ => none
def asBools : List IV → Option (List Bool)
  | [] => some []
  | .bl i :: r => (asBools r).map (i :: ·)
  | _ => none
def asStrs : List IV → Option (List (List Nat))
  | [] => some []
  | .str i :: r => (asStrs r).map (i :: ·)
  | _ => none
def bvI (b : Bv) (v : IV) (h : IH) : Res IV :=
  match b with
  | .len => Res.ofO ((lenI h v).map fun n => .int n) h
  | .abs => match v with
    | .int i => .ok (.int (if i < 0 then -i else i)) h
    | _ => .bad
  | .int => match v with
    | .int i => .ok (.int i) h
    | .bl k => .ok (.int (if k then 1 else 0)) h
    | _ => .bad
/-- of a sequence (tu: a tuple) -/
def bsI (b : Bs) (tu : Bool) (xs : List IV) (h : IH) : Res IV :=
  match b with
  | .sum => if tu then .bad else Res.ofO ((asInts xs).map fun ns => .int ns.sum) h
  | .all => if tu then .bad else Res.ofO ((asBools xs).map fun ns => .bl (ns.all id)) h
  | .any => if tu then .bad else Res.ofO ((asBools xs).map fun ns => .bl (ns.any id)) h
  | .tuple => .ok (.tup xs) h
  | .list => .ok (.loc h.length) (h ++ [.lst xs])
def joinL (sep : List Nat) : List (List Nat) → List Nat
  | [] => []
  | [x] => x
  | x :: y :: r => x ++ (sep ++ joinL sep (y :: r))
def joinI (s : List Nat) (xs : List IV) (h : IH) : Res IV :=
  match asStrs xs with
  | some ys => if (ys.map (·.length)).sum + ys.length * s.length ≤ big then .ok (.str (joinL s ys)) h else .bad
  | none => .bad
/-- the words between a sign -/
def splitL (c : Nat) : List Nat → List (List Nat)
  | [] => [[]]
  | x :: r => if x = c then [] :: splitL c r else
    match splitL c r with
    | [] => [[x]]
    | w :: ws => (x :: w) :: ws
def splitI (l : List Nat) (sep : IV) (h : IH) : Res IV :=
  match sep with
  | .str [c] => if c < 256 ∧ l.length + 2 ≤ big then .ok (.loc h.length) (h ++ [.lst ((splitL c l).map .str)]) else .bad
  | _ => .bad
def appI (o v : IV) (h : IH) : Res IV :=
  match o with
  | .loc n => match h[n]? with
    | some (.lst xs) => if xs.length < big then .ok .non (h.set n (.lst (xs ++ [v]))) else .bad
    | _ => .bad
  | _ => .bad
def setI (o i v : IV) (h : IH) : Res Unit :=
  match o, i with
  | .loc n, .int k => match h[n]? with
    | some (.lst xs) => match ixN xs.length k with
      | some j => .ok () (h.set n (.lst (xs.set j v)))
      | none => .bad
    | _ => .bad
  | _, _ => .bad
def look {α : Type} (f : Str) : List (Str × α) → Option α
  | [] => none
  | (g, v) :: r => if f = g then some v else look f r
def lookN (f : Nat) : List (Nat × IV) → Option IV
  | [] => none
  | (g, v) :: r => if f = g then some v else lookN f r
def lookK (k : List Nat) : List (List Nat × IV) → Option IV
  | [] => none
  | (g, v) :: r => if k = g then some v else lookK k r
def putN (f : Nat) (v : IV) : List (Nat × IV) → List (Nat × IV)
  | [] => [(f, v)]
  | (g, w) :: r => if f = g then (g, v) :: r else (g, w) :: putN f v r

/-! ### the evaluator -/
abbrev Callee := Nat → List IV → IH → Res IV
abbrev Guard := List (Nat × List IV)
def grd (g : Guard) (h : IH) : Bool := g.all fun p => match h[p.1]? with
  | some (.lst xs) => IV.eqbs xs p.2
  | _ => false
def setAll : List Nat → List IV → Sg → Sg
  | i :: is, v :: vs, σ => setAll is vs (σ.set i (some v))
  | _, _, σ => σ
def wip (σ : Sg) : List Nat → Sg
  | [] => σ
  | i :: r => wip (σ.set i none) r
def unpack : IV → Option (List IV)
  | .tup xs => some xs
  | .str l => some (l.map fun c => .str [c])
  | _ => none
def Tg.slots : Tg → List Nat
  | .nm i => [i]
  | .tp is => is
def setTg (t : Tg) (v : IV) (σ : Sg) : Option Sg :=
  match t with
  | .nm i => some (σ.set i (some v))
  | .tp is => match v with
    | .tup xs => if xs.length = is.length then some (setAll is xs σ) else none
    | _ => none
/-- a comprehension's turns -/
def lcL (g : Guard) (f : IV → IH → Res IV) : List IV → IH → Res (List IV)
  | [], h => if grd g h then .ok [] h else .bad
  | x :: xs, h => if grd g h then (match f x h with
      | .ok y h => (match lcL g f xs h with
        | .ok ys h => .ok (y :: ys) h
        | _ => .bad)
      | _ => .bad) else .bad
/-- where a list is walked: what must stay as it is -/
def guardOf (v : IV) (xs : List IV) : Guard :=
  match v with
  | .loc n => [(n, xs)]
  | _ => []
def rngL (lo hi : Int) : List IV := (List.range (hi - lo).toNat).map fun k => .int (lo + (k : Nat))
def enumL : Nat → List IV → List IV
  | _, [] => []
  | n, x :: xs => .tup [.int n, x] :: enumL (n + 1) xs
def zipL : List IV → List IV → List IV
  | x :: xs, y :: ys => .tup [x, y] :: zipL xs ys
  | _, _ => []
def small (i : Int) : Bool := decide (-(2 ^ 62) ≤ i) && decide (i < 2 ^ 62)

mutual
def evE (C : Callee) : Ex → Sg → IH → Res IV
  | .var i, σ, h => match σ[i]? with
    | some (some v) => .ok v h
    | _ => .bad
  | .con v, _, h => .ok v h
  | .glo _ v, _, h => .ok v h
  | .tup es, σ, h => (evEs C es σ h).bind fun vs h => if vs.length ≤ big then .ok (.tup vs) h else .bad
  | .lst es, σ, h => (evEs C es σ h).bind fun vs h => if vs.length ≤ big then .ok (.loc h.length) (h ++ [.lst vs]) else .bad
  | .bin op a b, σ, h => (evE C a σ h).bind fun x h => (evE C b σ h).bind fun y h => binI op x y h
  | .neg a, σ, h => (evE C a σ h).bind fun x h => match x with
    | .int i => .ok (.int (-i)) h
    | _ => .bad
  | .cmp op a b, σ, h => (evE C a σ h).bind fun x h => (evE C b σ h).bind fun y h => cmpI op x y h
  | .chain op op' a b c, σ, h => (evE C a σ h).bind fun x h => (evE C b σ h).bind fun y h => (cmpI op x y h).bind fun k h => match k with
    | .bl true => (evE C c σ h).bind fun z h => cmpI op' y z h
    | .bl false => .ok (.bl false) h
    | _ => .bad
  | .and a b, σ, h => (evE C a σ h).bind fun x h => match truth h x with
    | some true => evE C b σ h
    | some false => .ok x h
    | none => .bad
  | .or a b, σ, h => (evE C a σ h).bind fun x h => match truth h x with
    | some true => .ok x h
    | some false => evE C b σ h
    | none => .bad
  | .not a, σ, h => (evE C a σ h).bind fun x h => match truth h x with
    | some b => .ok (.bl (!b)) h
    | none => .bad
  | .ite c a b, σ, h => (evE C c σ h).bind fun x h => match truth h x with
    | some true => evE C a σ h
    | some false => evE C b σ h
    | none => .bad
  | .call f es, σ, h => (evEs C es σ h).bind fun vs h => C f vs h
  | .meth c _ f o es, σ, h => (evE C o σ h).bind fun x h => match x with
    | .loc n => match h[n]? with
      | some (.ins c' _) => if c' = c then (evEs C es σ h).bind fun vs h => C f (.loc n :: vs) h else .bad
      | _ => .bad
    | _ => .bad
  | .new c f es, σ, h => (evEs C es σ h).bind fun vs h => (C f (.loc h.length :: vs) (h ++ [.ins c []])).bind fun v h' => match v with
    | .non => .ok (.loc h.length) h'
    | _ => .bad
  | .bs b s, σ, h => (evS C s σ h).bind fun p h => bsI b p.1 p.2 h
  | .bv b e, σ, h => (evE C e σ h).bind fun v h => bvI b v h
  | .join sep s, σ, h => (evE C sep σ h).bind fun v h => match v with
    | .str z => (evS C s σ h).bind fun p h => joinI z p.2 h
    | _ => .bad
  | .split o sep, σ, h => (evE C o σ h).bind fun v h => match v with
    | .str z => (evE C sep σ h).bind fun w h => splitI z w h
    | _ => .bad
  | .app o e, σ, h => (evE C o σ h).bind fun v h => match litems h v with
    | some _ => (evE C e σ h).bind fun w h => appI v w h
    | none => .bad
  | .isi e ts _, σ, h => (evE C e σ h).bind fun v h => ofB (isTys h v ts) h
  | .sub a i, σ, h => (evE C a σ h).bind fun x h => (evE C i σ h).bind fun y h => subI x y h
  | .kdx _ kvs i, σ, h => (evE C i σ h).bind fun y h => match y with
    | .str k => Res.ofO (lookK k kvs) h
    | _ => .bad
  | .ddx kvs i, σ, h => (evE C i σ h).bind fun y h => match y with
    | .str k => Res.ofO (lookK k kvs) h
    | _ => .bad
  | .slc a lo hi, σ, h => (evE C a σ h).bind fun x h => (evO C lo σ h).bind fun l h => (evO C hi σ h).bind fun r h => slcI x l r h
  | .att o f, σ, h => (evE C o σ h).bind fun x h => match x with
    | .loc n => match h[n]? with
      | some (.ins _ fs) => Res.ofO (lookN f fs) h
      | _ => .bad
    | _ => .bad
  | .mk s, σ, h => (evS C s σ h).bind fun p h => .ok (.loc h.length) (h ++ [.lst p.2])
def evEs (C : Callee) : Exs → Sg → IH → Res (List IV)
  | .nil, _, h => .ok [] h
  | .cons e es, σ, h => (evE C e σ h).bind fun v h => (evEs C es σ h).bind fun vs h => .ok (v :: vs) h
def evO (C : Callee) : Ox → Sg → IH → Res (Option Int)
  | .none, _, h => .ok none h
  | .some e, σ, h => (evE C e σ h).bind fun v h => match v with
    | .int i => .ok (some i) h
    | _ => .bad
/-- a sequence's items; whether it is a tuple -/
def evS (C : Callee) : Sx → Sg → IH → Res (Bool × List IV)
  | .ex e, σ, h => (evE C e σ h).bind fun v h => match v with
    | .tup xs => .ok (true, xs) h
    | v => Res.ofO ((litems h v).map fun xs => (false, xs)) h
  | .lc elt tg own it, σ, h => (evIt C it σ h).bind fun p h => if p.1.length ≤ big then
      (lcL p.2 (fun x h => match setTg tg x (wip σ own) with
        | some σ' => evE C elt σ' h
        | none => .bad) p.1 h).bind fun ys h => .ok (false, ys) h else .bad
def evIt (C : Callee) : It → Sg → IH → Res (List IV × Guard)
  | .sq e, σ, h => (evE C e σ h).bind fun v h => match v with
    | .str l => .ok (l.map fun c => .str [c], []) h
    | v => Res.ofO ((items h v).map fun xs => (xs, guardOf v xs)) h
  | .rng e, σ, h => (evE C e σ h).bind fun v h => match v with
    | .int j => if small j then .ok (rngL 0 j, []) h else .bad
    | _ => .bad
  | .rng2 a b, σ, h => (evE C a σ h).bind fun v h => (evE C b σ h).bind fun w h => match v, w with
    | .int i, .int j => if small i && small j then .ok (rngL i j, []) h else .bad
    | _, _ => .bad
  | .enum e, σ, h => (evE C e σ h).bind fun v h => Res.ofO ((litems h v).map fun xs => (enumL 0 xs, guardOf v xs)) h
  | .zip a b, σ, h => (evE C a σ h).bind fun v h => (evE C b σ h).bind fun w h => match v, w with
    | .tup xs, .tup ys => .ok (zipL xs ys, []) h
    | v, w => match litems h v, litems h w with
      | some xs, some ys => .ok (zipL xs ys, guardOf v xs ++ guardOf w ys) h
      | _, _ => .bad
end

/-! ### statements -/
/-- an expression's result within a statement: what it raises is a flow -/
def Res.st {α : Type} (r : Res α) (σ : Sg) (f : α → IH → Res (Fl × Sg)) : Res (Fl × Sg) :=
  match r with
  | .ok a h => f a h
  | .exc c vs h => .ok (.rse c vs, σ) h
  | .bad => .bad
def asT (C : Callee) (t : Tgt) (v : IV) (σ : Sg) (h : IH) : Res Sg :=
  match t with
  | .nm i => .ok (σ.set i (some v)) h
  | .tp is => match unpack v with
    | some xs => if xs.length = is.length then .ok (setAll is xs σ) h else .bad
    | none => .bad
  | .sub o i => (evE C o σ h).bind fun x h => (evE C i σ h).bind fun y h => (setI x y v h).bind fun _ h => .ok σ h
  | .att o f => (evE C o σ h).bind fun x h => match x with
    | .loc n => match h[n]? with
      | some (.ins c fs) => if fs.length < 1000 then .ok σ (h.set n (.ins c (putN f v fs))) else .bad
      | _ => .bad
    | _ => .bad
def forL (g : Guard) (tg : Tg) (body : Sg → IH → Res (Fl × Sg)) : List IV → Sg → IH → Res (Fl × Sg)
  | [], σ, h => if grd g h then .ok (.next, σ) h else .bad
  | x :: xs, σ, h => if grd g h then
      (match setTg tg x σ with
      | some σ => (body σ h).bind fun p h => match p.1 with
        | .next => forL g tg body xs p.2 h
        | .cont => forL g tg body xs p.2 h
        | .brk => .ok (.next, p.2) h
        | f => .ok (f, p.2) h
      | none => .bad) else .bad
def whlL (c : Sg → IH → Res Bool) (body : Sg → IH → Res (Fl × Sg)) : Nat → Sg → IH → Res (Fl × Sg)
  | 0, _, _ => .bad
  | n + 1, σ, h => (c σ h).st σ fun b h => if b then
      (body σ h).bind fun p h => match p.1 with
        | .next => whlL c body n p.2 h
        | .cont => whlL c body n p.2 h
        | .brk => .ok (.next, p.2) h
        | f => .ok (f, p.2) h
      else .ok (.next, σ) h
def evT (C : Callee) (e : Ex) (σ : Sg) (h : IH) : Res Bool := (evE C e σ h).bind fun v h => Res.ofO (truth h v) h
mutual
def exS (C : Callee) (W : Nat) : St → Sg → IH → Res (Fl × Sg)
  | .expr e, σ, h => (evE C e σ h).st σ fun _ h => .ok (.next, σ) h
  | .asg t e, σ, h => (evE C e σ h).st σ fun v h => (asT C t v σ h).st σ fun σ h => .ok (.next, σ) h
  | .augn i op e, σ, h => match σ[i]? with
    | some (some x) => (evE C e σ h).st σ fun y h => (iopI op x y h).st σ fun z h => .ok (.next, σ.set i (some z)) h
    | _ => .bad
  | .auga o f op e, σ, h => (evE C o σ h).st σ fun x h => match x with
    | .loc n => match h[n]? with
      | some (.ins c fs) => match lookN f fs with
        | some y => (evE C e σ h).st σ fun z h => (iopI op y z h).st σ fun w h => match h[n]? with
          | some (.ins c' fs') => if c' = c ∧ fs'.length < 1000 then .ok (.next, σ) (h.set n (.ins c' (putN f w fs'))) else .bad
          | _ => .bad
        | none => .bad
      | _ => .bad
    | _ => .bad
  | .cond c a b, σ, h => (evT C c σ h).st σ fun k h => if k then exSs C W a σ h else exSs C W b σ h
  | .forr tg it body, σ, h => (evIt C it σ h).st σ fun p h => forL p.2 tg (fun σ h => exSs C W body σ h) p.1 σ h
  | .whil c body, σ, h => whlL (fun σ h => evT C c σ h) (fun σ h => exSs C W body σ h) W σ h
  | .ret e, σ, h => (evE C e σ h).st σ fun v h => .ok (.ret v, σ) h
  | .raise _ _, _, _ => .bad
  | .pass, σ, h => .ok (.next, σ) h
  | .brk, σ, h => .ok (.brk, σ) h
  | .cont, σ, h => .ok (.cont, σ) h
def exSs (C : Callee) (W : Nat) : Sts → Sg → IH → Res (Fl × Sg)
  | .nil, σ, h => .ok (.next, σ) h
  | .cons s r, σ, h => (exS C W s σ h).bind fun p h => match p.1 with
    | .next => exSs C W r p.2 h
    | f => .ok (f, p.2) h
end
/-- a def is called: k levels of calls, loops of fewer than W turns -/
def callF (D : List Def) (W : Nat) : Nat → Callee
  | 0, _, _, _ => .bad
  | k + 1, f, vs, h => match D[f]? with
    | none => .bad
    | some d => if vs.length = d.ps.length then
        (match exSs (callF D W k) W d.body (vs.map some ++ List.replicate (d.N.length - vs.length) none) h with
          | .ok p h => (match p.1 with
            | .next => .ok .non h
            | .ret v => .ok v h
            | .rse c ws => .exc c ws h
            | _ => .bad)
          | _ => .bad)
      else .bad
end MP
namespace MP
open PySem PySem.Spec PyProof.Rows L2

theorem big_eq : big = sizeLine := rfl

/-- the classes' addresses, the attributes' names -/
structure RC where
  K : PySem.W.Frag
  ca : Nat → Option Addr
  attrs : List Str
  nd : attrs.Nodup

def Frz (K : PySem.W.Frag) (H : Hp) (a : Addr) (vs : List V) : Prop := (∃ o, H a = some (.frz o (.lst vs))) ∨
    ∃ (o : Obj) (its : Array Value) (n : Nat), K.lookup a = some o ∧ o.cls = .type "list" ∧ o.dict = none ∧ o.data = .seq its n ∧ its.size ≤ sizeLine ∧ Vals vs its.toList
theorem Frz.seq {K : PySem.W.Frag} {H : Hp} {a : Addr} {vs : List V} (h : Frz K H a vs) : SqL K H a vs := h.elim (fun ⟨o, e⟩ => .inl (.inr ⟨o, e⟩)) .inr

mutual
inductive RV (K : PySem.W.Frag) (m : List Addr) (H : Hp) : IV → V → Prop
  | non : RV K m H .non .non
  | bl (b : Bool) : RV K m H (.bl b) (.bl b)
  | int (i : Int) : RV K m H (.int i) (.int i)
  | str (x : List Nat) : RV K m H (.str x) (.str ⟨x.toArray⟩)
  | tup {xs : List IV} {a : Addr} {vs : List V} : SqT K H a vs → RVs K m H xs vs → RV K m H (.tup xs) (.ref a)
  | frl {xs : List IV} {a : Addr} {vs : List V} : Frz K H a vs → RVs K m H xs vs → RV K m H (.frl xs) (.ref a)
  | loc {n : Nat} {a : Addr} : m[n]? = some a → RV K m H (.loc n) (.ref a)
inductive RVs (K : PySem.W.Frag) (m : List Addr) (H : Hp) : List IV → List V → Prop
  | nil : RVs K m H [] []
  | cons {x : IV} {v : V} {xs : List IV} {vs : List V} : RV K m H x v → RVs K m H xs vs → RVs K m H (x :: xs) (v :: vs)
end

def RK (K : PySem.W.Frag) (m : List Addr) (H : Hp) : List (List Nat × IV) → List (Key × V) → Prop :=
  Paired fun p q => q.1 = Sum.inr ⟨p.1.toArray⟩ ∧ RV K m H p.2 q.2
def RF (R : RC) (m : List Addr) (H : Hp) : List (Nat × IV) → List (Str × V) → Prop :=
  Paired fun p q => R.attrs[p.1]? = some q.1 ∧ RV R.K m H p.2 q.2
inductive RO (R : RC) (m : List Addr) (H : Hp) : IO → HO → Prop
  | lst {xs : List IV} {vs : List V} : RVs R.K m H xs vs → RO R m H (.lst xs) (.lst vs)
  | dct {kvs : List (List Nat × IV)} {ks : List (Key × V)} : RK R.K m H kvs ks → RO R m H (.dct kvs) (.dK ks)
  | ins {c : Nat} {C dx : Addr} {fs : List (Nat × IV)} {gs : List (Str × V)} : R.ca c = some C → RF R m H fs gs → RO R m H (.ins c fs) (.ins C dx gs)

structure RH (R : RC) (m : List Addr) (H : Hp) (h : IH) : Prop where
  len : m.length = h.length
  nd : m.Nodup
  at_ : ∀ (n : Nat) (o : IO), h[n]? = some o → ∃ a ho, m[n]? = some a ∧ H a = some ho ∧ RO R m H o ho

structure Ext (m : List Addr) (H : Hp) (m' : List Addr) (H' : Hp) : Prop where
  pre : ∃ t, m' = m ++ t ∧ ∀ a ∈ t, H a = none
  keep : ∀ a o, a ∉ m → H a = some o → H' a = some o
  live : ∀ a ∈ m', H' a ≠ none

section
variable {R : RC} {m m1 m2 m' : List Addr} {H H1 H2 H' : Hp} {h h' : IH}

theorem RH.there (r : RH R m H h) {a : Addr} (ha : a ∈ m) : ∃ (n : Nat) (o : IO) (ho : HO), h[n]? = some o ∧ m[n]? = some a ∧ H a = some ho ∧ RO R m H o ho := by
  obtain ⟨n, hn⟩ := List.mem_iff_getElem?.mp ha
  have hl : n < m.length := (List.getElem?_eq_some_iff.mp hn).1
  have hl2 : n < h.length := by rw [← r.len]; exact hl
  obtain ⟨a', ho, e1, e2, e3⟩ := r.at_ n h[n] (List.getElem?_eq_getElem hl2)
  have e : a' = a := Option.some.inj (e1.symm.trans hn)
  subst e
  exact ⟨n, h[n], ho, List.getElem?_eq_getElem hl2, e1, e2, e3⟩
theorem RH.live (r : RH R m H h) : ∀ a ∈ m, H a ≠ none := fun a ha e => by
  obtain ⟨_, _, _, _, _, e2, _⟩ := r.there ha
  rw [e2] at e; cases e
theorem RH.notTup (r : RH R m H h) {a : Addr} {vs : List V} (e : H a = some (.tup vs)) : a ∉ m := fun ha => by
  obtain ⟨_, _, _, _, _, e2, e3⟩ := r.there ha
  rw [e] at e2; cases e2; cases e3
theorem RH.notFrz (r : RH R m H h) {a : Addr} {o : Obj} {u : HO} (e : H a = some (.frz o u)) : a ∉ m := fun ha => by
  obtain ⟨_, _, _, _, _, e2, e3⟩ := r.there ha
  rw [e] at e2; cases e2; cases e3
theorem RH.at' (r : RH R m H h) {n : Nat} {a : Addr} (e : m[n]? = some a) : ∃ o ho, h[n]? = some o ∧ H a = some ho ∧ RO R m H o ho := by
  have hl : n < m.length := (List.getElem?_eq_some_iff.mp e).1
  have hl2 : n < h.length := by rw [← r.len]; exact hl
  obtain ⟨a', ho, e1, e2, e3⟩ := r.at_ n h[n] (List.getElem?_eq_getElem hl2)
  have q : a' = a := Option.some.inj (e1.symm.trans e)
  subst q
  exact ⟨_, ho, List.getElem?_eq_getElem hl2, e2, e3⟩

theorem Ext.refl (hl : ∀ a ∈ m, H a ≠ none) : Ext m H m H := ⟨⟨[], by simp⟩, fun _ _ _ e => e, hl⟩
theorem RH.ext (r : RH R m H h) : Ext m H m H := Ext.refl r.live
theorem Ext.mem (e : Ext m H m1 H1) {a : Addr} (ha : a ∈ m) : a ∈ m1 := by
  obtain ⟨t, rfl, _⟩ := e.pre
  exact List.mem_append_left _ ha
theorem Ext.get (e : Ext m H m1 H1) {n : Nat} {a : Addr} (hn : m[n]? = some a) : m1[n]? = some a := by
  obtain ⟨t, rfl, _⟩ := e.pre
  rw [List.getElem?_append_left (List.getElem?_eq_some_iff.mp hn).1]
  exact hn
theorem Ext.out (e : Ext m H m1 H1) {a : Addr} {o : HO} (ha : a ∉ m) (q : H a = some o) : a ∉ m1 := by
  obtain ⟨t, rfl, f⟩ := e.pre
  intro z
  rcases List.mem_append.mp z with z | z
  · exact ha z
  · rw [f a z] at q; cases q
theorem Ext.trans (e : Ext m H m1 H1) (f : Ext m1 H1 m2 H2) : Ext m H m2 H2 where
  pre := by
    obtain ⟨t, ht, g⟩ := e.pre
    obtain ⟨u, hu, k⟩ := f.pre
    subst ht; subst hu
    refine ⟨t ++ u, by rw [List.append_assoc], fun a ha => ?_⟩
    rcases List.mem_append.mp ha with ha | ha
    · exact g a ha
    · cases q : H a with
      | none => rfl
      | some o =>
        by_cases hm : a ∈ m
        · have := e.live a (List.mem_append_left _ hm)
          exact absurd (k a ha) this
        · have := e.keep a o hm q
          rw [k a ha] at this; cases this
  keep := fun a o ha q => f.keep a o (e.out ha q) (e.keep a o ha q)
  live := f.live

theorem seqT_mono {K : PySem.W.Frag} {a : Addr} {vs : List V} (r : RH R m H h) (e : Ext m H m' H') (q : SqT K H a vs) : SqT K H' a vs := by
  rcases q with (q | ⟨o, q⟩) | q
  · exact .inl (.inl (e.keep _ _ (r.notTup q) q))
  · exact .inl (.inr ⟨o, e.keep _ _ (r.notFrz q) q⟩)
  · exact .inr q
theorem frz_mono {K : PySem.W.Frag} {a : Addr} {vs : List V} (r : RH R m H h) (e : Ext m H m' H') (q : Frz K H a vs) : Frz K H' a vs :=
  q.elim (fun ⟨o, z⟩ => .inl ⟨o, e.keep _ _ (r.notFrz z) z⟩) .inr
mutual
theorem RV.mono {K : PySem.W.Frag} (r : RH R m H h) (e : Ext m H m' H') : ∀ {x : IV} {v : V}, RV K m H x v → RV K m' H' x v
  | _, _, .non => .non
  | _, _, .bl b => .bl b
  | _, _, .int i => .int i
  | _, _, .str x => .str x
  | _, _, .tup q rs => .tup (seqT_mono r e q) (RVs.mono r e rs)
  | _, _, .frl q rs => .frl (frz_mono (K := K) r e q) (RVs.mono r e rs)
  | _, _, .loc q => .loc (e.get q)
theorem RVs.mono {K : PySem.W.Frag} (r : RH R m H h) (e : Ext m H m' H') : ∀ {xs : List IV} {vs : List V}, RVs K m H xs vs → RVs K m' H' xs vs
  | _, _, .nil => .nil
  | _, _, .cons a b => .cons (RV.mono r e a) (RVs.mono r e b)
end
theorem RK.mono {K : PySem.W.Frag} (r : RH R m H h) (e : Ext m H m' H') {ks : List (List Nat × IV)} {vs : List (Key × V)} (q : RK K m H ks vs) : RK K m' H' ks vs :=
  Paired.mapP q fun _ _ z => ⟨z.1, z.2.mono r e⟩
theorem RF.mono (r : RH R m H h) (e : Ext m H m' H') {ks : List (Nat × IV)} {vs : List (Str × V)} (q : RF R m H ks vs) : RF R m' H' ks vs :=
  Paired.mapP q fun _ _ z => ⟨z.1, z.2.mono r e⟩
theorem RO.mono (r : RH R m H h) (e : Ext m H m' H') {o : IO} {ho : HO} (q : RO R m H o ho) : RO R m' H' o ho := by
  cases q with
  | lst q => exact .lst (q.mono r e)
  | dct q => exact .dct (q.mono r e)
  | ins c q => exact .ins c (q.mono r e)

theorem RVs.length {K : PySem.W.Frag} : ∀ {xs : List IV} {vs : List V}, RVs K m H xs vs → xs.length = vs.length
  | _, _, .nil => rfl
  | _, _, .cons _ b => by rw [List.length_cons, List.length_cons, RVs.length b]
theorem RVs.get {K : PySem.W.Frag} : ∀ {xs : List IV} {vs : List V} {i : Nat} {x : IV}, RVs K m H xs vs → xs[i]? = some x → ∃ v, vs[i]? = some v ∧ RV K m H x v
  | _, _, _, _, .nil, e => by simp at e
  | _, _, 0, _, .cons r _, e => by simp at e; subst e; exact ⟨_, rfl, r⟩
  | _, _, i + 1, x, .cons _ t, e => by
    obtain ⟨v, h1, h2⟩ := RVs.get (i := i) (x := x) t (by simpa using e)
    exact ⟨v, by simpa using h1, h2⟩
theorem RVs.append {K : PySem.W.Frag} : ∀ {xs ys : List IV} {vs ws : List V}, RVs K m H xs vs → RVs K m H ys ws → RVs K m H (xs ++ ys) (vs ++ ws)
  | _, _, _, _, .nil, s => s
  | _, _, _, _, .cons r t, s => .cons r (RVs.append t s)
theorem RVs.take {K : PySem.W.Frag} : ∀ {xs : List IV} {vs : List V} (n : Nat), RVs K m H xs vs → RVs K m H (xs.take n) (vs.take n)
  | _, _, 0, _ => by simp; exact .nil
  | _, _, _ + 1, .nil => .nil
  | _, _, n + 1, .cons r t => .cons r (RVs.take n t)
theorem RVs.drop {K : PySem.W.Frag} : ∀ {xs : List IV} {vs : List V} (n : Nat), RVs K m H xs vs → RVs K m H (xs.drop n) (vs.drop n)
  | _, _, 0, r => r
  | _, _, _ + 1, .nil => .nil
  | _, _, n + 1, .cons _ t => RVs.drop n t
theorem RVs.set {K : PySem.W.Frag} {x : IV} {v : V} (r : RV K m H x v) : ∀ {xs : List IV} {vs : List V} (i : Nat), RVs K m H xs vs → RVs K m H (xs.set i x) (vs.set i v)
  | _, _, _, .nil => .nil
  | _, _, 0, .cons _ t => .cons r t
  | _, _, i + 1, .cons q t => .cons q (RVs.set r i t)

/-- a new object is laid -/
theorem RH.alloc (r : RH R m H h) {p : Addr} {o : IO} {ho : HO} (hp : H p = none) (q : RO R m H o ho) : RH R (m ++ [p]) (upd H p ho) (h ++ [o]) ∧ Ext m H (m ++ [p]) (upd H p ho) := by
  have hpm : p ∉ m := fun z => r.live p z hp
  have e : Ext m H (m ++ [p]) (upd H p ho) := by
    refine ⟨⟨[p], rfl, fun a ha => by rw [List.mem_singleton.mp ha]; exact hp⟩, fun a o' ha z => ?_, fun a ha => ?_⟩
    · rw [upd_ne (ne_of_none z hp)]; exact z
    · by_cases z : a = p
      · subst z; rw [upd_same]; exact fun z => nomatch z
      · rw [upd_ne z]
        rcases List.mem_append.mp ha with ha | ha
        · exact r.live a ha
        · exact absurd (List.mem_singleton.mp ha) z
  refine ⟨⟨by simp [r.len], ?_, fun n o' hn => ?_⟩, e⟩
  · refine List.nodup_append.mpr ⟨r.nd, by simp, fun a ha b hb z => ?_⟩
    rw [List.mem_singleton.mp hb] at z
    subst z
    exact hpm ha
  · by_cases hl : n < h.length
    · rw [List.getElem?_append_left hl] at hn
      obtain ⟨a, ho', e1, e2, e3⟩ := r.at_ n o' hn
      refine ⟨a, ho', e.get e1, ?_, e3.mono r e⟩
      rw [upd_ne (ne_of_none e2 hp)]; exact e2
    · have hn' : n = h.length := by
        have := (List.getElem?_eq_some_iff.mp hn).1
        rw [List.length_append, List.length_singleton] at this
        omega
      subst hn'
      rw [List.getElem?_append_right (Nat.le_refl _), Nat.sub_self] at hn
      have eo : o = o' := by simpa using hn
      subst eo
      refine ⟨p, ho, ?_, upd_same, q.mono r e⟩
      rw [← r.len, List.getElem?_append_right (Nat.le_refl _), Nat.sub_self]
      rfl
/-- an object that is in the own heap is written -/
theorem RH.write (r : RH R m H h) {n : Nat} {p : Addr} {o : IO} {ho : HO} (hn : m[n]? = some p) (q : RO R m H o ho) : RH R m (upd H p ho) (h.set n o) ∧ Ext m H m (upd H p ho) := by
  have hpm : p ∈ m := List.mem_of_getElem? hn
  have e : Ext m H m (upd H p ho) := by
    refine ⟨⟨[], by simp⟩, fun a o' ha z => ?_, fun a ha => ?_⟩
    · rw [upd_ne (fun w => ha (by rw [w]; exact hpm))]; exact z
    · by_cases z : a = p
      · subst z; rw [upd_same]; exact fun z => nomatch z
      · rw [upd_ne z]; exact r.live a ha
  refine ⟨⟨by simp [r.len], r.nd, fun k o' hk => ?_⟩, e⟩
  have hl : n < h.length := by rw [← r.len]; exact (List.getElem?_eq_some_iff.mp hn).1
  by_cases hkn : k = n
  · subst hkn
    rw [List.getElem?_set_self hl] at hk
    cases hk
    exact ⟨p, ho, hn, upd_same, q.mono r e⟩
  · rw [List.getElem?_set_ne (Ne.symm hkn)] at hk
    obtain ⟨a, ho', e1, e2, e3⟩ := r.at_ k o' hk
    refine ⟨a, ho', e1, ?_, e3.mono r e⟩
    rw [upd_ne (fun z => ?_)]
    · exact e2
    · subst z
      obtain ⟨h1, g1⟩ := List.getElem?_eq_some_iff.mp e1
      obtain ⟨h2, g2⟩ := List.getElem?_eq_some_iff.mp hn
      exact hkn ((List.getElem_inj r.nd).mp (g1.trans g2.symm))
/-- a new tuple is laid: the own heap is as it was -/
theorem RH.tuple (r : RH R m H h) {p : Addr} {ho : HO} (hp : H p = none) : RH R m (upd H p ho) h ∧ Ext m H m (upd H p ho) := by
  have hpm : p ∉ m := fun z => r.live p z hp
  have e : Ext m H m (upd H p ho) := by
    refine ⟨⟨[], by simp⟩, fun a o' ha z => ?_, fun a ha => ?_⟩
    · rw [upd_ne (ne_of_none z hp)]; exact z
    · rw [upd_ne (fun z => hpm (by rw [← z]; exact ha))]; exact r.live a ha
  refine ⟨⟨r.len, r.nd, fun k o' hk => ?_⟩, e⟩
  obtain ⟨a, ho', e1, e2, e3⟩ := r.at_ k o' hk
  exact ⟨a, ho', e1, by rw [upd_ne (ne_of_none e2 hp)]; exact e2, e3.mono r e⟩
end

/-! ### slots -/
def ROp (K : PySem.W.Frag) (m : List Addr) (H : Hp) (x : Option IV) (v : Option V) : Prop :=
  match x, v with
  | some x, some v => RV K m H x v
  | none, _ => True
  | some _, none => False
abbrev RSg (K : PySem.W.Frag) (m : List Addr) (H : Hp) : Sg → L2.St → Prop := Paired (ROp K m H)
section
variable {R : RC} {K : PySem.W.Frag} {m m' : List Addr} {H H' : Hp} {h : IH} {sg : Sg} {σ : L2.St}
theorem RSg.mono (r : RH R m H h) (e : Ext m H m' H') (q : RSg K m H sg σ) : RSg K m' H' sg σ :=
  Paired.mapP q fun x v z => by
    cases x with
    | none => trivial
    | some x =>
      cases v with
      | none => exact z
      | some v => exact RV.mono r e (show RV K m H x v from z)
theorem RSg.get : ∀ {sg : Sg} {σ : L2.St} {i : Nat} {x : IV}, RSg K m H sg σ → sg[i]? = some (some x) → ∃ v, σ[i]? = some (some v) ∧ RV K m H x v
  | _, _, _, _, .nil, e => by simp at e
  | _, _, 0, x, .cons (b := b) r _, e => by
    simp at e; subst e
    cases b with
    | none => exact r.elim
    | some v => exact ⟨v, rfl, r⟩
  | _, _, i + 1, x, .cons _ t, e => by
    obtain ⟨v, h1, h2⟩ := RSg.get (i := i) (x := x) t (by simpa using e)
    exact ⟨v, by simpa using h1, h2⟩
theorem RSg.set {x : IV} {v : V} (r : RV K m H x v) : ∀ {sg : Sg} {σ : L2.St} (i : Nat), RSg K m H sg σ → RSg K m H (sg.set i (some x)) (σ.set i (some v))
  | _, _, _, .nil => .nil
  | _, _, 0, .cons _ t => .cons r t
  | _, _, i + 1, .cons q t => .cons q (RSg.set r i t)
theorem RSg.setN : ∀ {sg : Sg} {σ : L2.St} (i : Nat), RSg K m H sg σ → RSg K m H (sg.set i none) (σ.set i none)
  | _, _, _, .nil => .nil
  | _, _, 0, .cons _ t => .cons trivial t
  | _, _, i + 1, .cons q t => .cons q (RSg.setN i t)
theorem RSg.start {xs : List IV} {vs : List V} (n : Nat) (r : RVs K m H xs vs) : RSg K m H (xs.map some ++ List.replicate n none) (vs.map some ++ List.replicate n none) := by
  have h2 : ∀ n : Nat, RSg K m H (List.replicate n none) (List.replicate n none) := fun n => by
    induction n with
    | zero => exact .nil
    | succ n ih => exact .cons trivial ih
  have h1 : ∀ {xs : List IV} {vs : List V}, RVs K m H xs vs → RSg K m H (xs.map some ++ List.replicate n none) (vs.map some ++ List.replicate n none) := fun {xs} => by
    induction xs with
    | nil => intro vs r; cases r; exact h2 n
    | cons x xs ih =>
      intro vs r
      cases r with
      | cons a b => exact .cons a (ih b)
  exact h1 r
end

/-! ### what is wanted of a result -/
abbrev XW := Nat → List IV → IH → List Addr → Hp → Prop
def Post {α β : Type} (R : RC) (W : XW) (RA : List Addr → Hp → α → β → Prop) (m : List Addr) (H : Hp) (r : Res α) (Q : β → Hp → Prop) : Prop :=
  match r with
  | .ok a h' => ∀ b m' H', RH R m' H' h' → Ext m H m' H' → RA m' H' a b → Q b H'
  | .exc c vs h' => ∀ m' H', RH R m' H' h' → Ext m H m' H' → W c vs h' m' H'
  | .bad => False
section
variable {α β γ δ : Type} {R : RC} {W : XW} {RA : List Addr → Hp → α → β → Prop} {RB : List Addr → Hp → γ → δ → Prop} {m m' : List Addr} {H H' : Hp} {h h' : IH}
theorem Post.mono {r : Res α} {Q Q' : β → Hp → Prop} (p : Post R W RA m H r Q) (i : ∀ b H', Q b H' → Q' b H') : Post R W RA m H r Q' := by
  cases r with
  | ok a h => exact fun b m' H' x y z => i b H' (p b m' H' x y z)
  | exc c vs h => exact p
  | bad => exact p
theorem Post.ext {r : Res α} {Q : β → Hp → Prop} (p : Post R W RA m H r Q) (e : Ext m H m' H') : Post R W RA m' H' r Q := by
  cases r with
  | ok a h => exact fun b m2 H2 x y z => p b m2 H2 x (e.trans y) z
  | exc c vs h => exact fun m2 H2 x y => p m2 H2 x (e.trans y)
  | bad => exact p
/-- one behind another -/
theorem Post.bind {r : Res α} {f : α → IH → Res γ} {Q : δ → Hp → Prop} {Q1 : β → Hp → Prop} (p : Post R W RB m H (r.bind f) Q)
    (i : ∀ a b h1 m1 H1, RA m1 H1 a b → RH R m1 H1 h1 → Ext m H m1 H1 → Post R W RB m1 H1 (f a h1) Q → Q1 b H1) : Post R W RA m H r Q1 := by
  cases r with
  | ok a h => exact fun b m1 H1 x y z => i a b h m1 H1 z x y (Post.ext (show Post R W RB m H (f a h) Q from p) y)
  | exc c vs h => exact p
  | bad => exact p
theorem Post.same {a : α} {b : β} {Q : β → Hp → Prop} (p : Post R W RA m H (.ok a h) Q) (r : RH R m H h) (q : RA m H a b) : Q b H := p b m H r r.ext q
end
abbrev PostV (R : RC) (W : XW) := Post (α := IV) (β := V) R W (RV R.K)
section
variable {R : RC} {W : XW} {m : List Addr} {H : Hp} {h : IH} {Q : V → Hp → Prop}
theorem PostV.newTup {xs : List IV} {vs : List V} {p : Addr} (w : PostV R W m H (.ok (.tup xs) h) Q) (r : RH R m H h) (q : RVs R.K m H xs vs) (hp : H p = none) : Q (.ref p) (upd H p (.tup vs)) := by
  obtain ⟨r', e⟩ := r.tuple (ho := .tup vs) hp
  exact w _ m _ r' e (.tup (.inl (.inl upd_same)) (q.mono r e))
theorem PostV.newObj {o : IO} {ho : HO} {p : Addr} (w : PostV R W m H (.ok (.loc h.length) (h ++ [o])) Q) (r : RH R m H h) (q : RO R m H o ho) (hp : H p = none) : Q (.ref p) (upd H p ho) := by
  obtain ⟨r', e⟩ := r.alloc hp q
  refine w _ _ _ r' e (.loc ?_)
  rw [← r.len, List.getElem?_append_right (Nat.le_refl _), Nat.sub_self]
  rfl
end

/-- an expression's reading, by the evaluator -/
abbrev Ev := Sg → IH → Res IV
abbrev SW := L2.St → XW
def tE (R : RC) (W : SW) (ev : Ev) : TE := fun σ H Q => ∃ m sg h, RSg R.K m H sg σ ∧ RH R m H h ∧ PostV R (W σ) m H (ev sg h) Q
abbrev PostVs (R : RC) (W : XW) := Post (α := List IV) (β := List V) R W (RVs R.K)
def tA (R : RC) (W : SW) (ev : Sg → IH → Res (List IV)) : TA := fun σ H Q => ∃ m sg h, RSg R.K m H sg σ ∧ RH R m H h ∧ PostVs R (W σ) m H (ev sg h) Q
abbrev PostB (R : RC) (W : XW) := Post (α := Bool) (β := Bool) R W (fun _ _ a b => a = b)
def tT (R : RC) (W : SW) (ev : Sg → IH → Res Bool) : TT := fun σ H Q => ∃ m sg h, RSg R.K m H sg σ ∧ RH R m H h ∧ PostB R (W σ) m H (ev sg h) Q
def FlP (R : RC) (W : SW) (D : Ends) (fl : Fl) (m : List Addr) (H : Hp) (h : IH) (σ : L2.St) : Prop :=
  match fl with
  | .next => D.nx σ H
  | .brk => D.bk σ H
  | .cont => D.ct σ H
  | .ret x => ∀ v, RV R.K m H x v → D.rt v H
  | .rse c vs => W σ c vs h m H
def PostS (R : RC) (W : SW) (m : List Addr) (H : Hp) (r : Res (Fl × Sg)) (D : Ends) : Prop :=
  match r with
  | .ok p h' => ∀ m' H' σ', RH R m' H' h' → Ext m H m' H' → RSg R.K m' H' p.2 σ' → FlP R W D p.1 m' H' h' σ'
  | .exc _ _ _ => False
  | .bad => False
def tS (R : RC) (W : SW) (ev : Sg → IH → Res (Fl × Sg)) : TS := fun D σ H => ∃ m sg h, RSg R.K m H sg σ ∧ RH R m H h ∧ PostS R W m H (ev sg h) D
theorem PostS.ext {R : RC} {W : SW} {m m' : List Addr} {H H' : Hp} {r : Res (Fl × Sg)} {D : Ends} (p : PostS R W m H r D) (e : Ext m H m' H') : PostS R W m' H' r D := by
  cases r with
  | ok a h => exact fun m2 H2 σ2 x y z => p m2 H2 σ2 x (e.trans y) z
  | exc c vs h => exact p
  | bad => exact p
/-- an expression within a statement -/
theorem PostS.st {α β : Type} {R : RC} {W : SW} {RA : List Addr → Hp → α → β → Prop} {m : List Addr} {H : Hp} {h : IH} {r : Res α} {sg : Sg} {σ : L2.St} {f : α → IH → Res (Fl × Sg)} {D : Ends} {Q1 : β → Hp → Prop}
    (p : PostS R W m H (r.st sg f) D) (rh : RH R m H h) (rs : RSg R.K m H sg σ)
    (i : ∀ a b h1 m1 H1, RA m1 H1 a b → RH R m1 H1 h1 → Ext m H m1 H1 → RSg R.K m1 H1 sg σ → PostS R W m1 H1 (f a h1) D → Q1 b H1) : Post R (W σ) RA m H r Q1 := by
  cases r with
  | ok a h => exact fun b m1 H1 x y z => i a b h m1 H1 z x y (rs.mono rh y) (PostS.ext (show PostS R W m H (f a h) D from p) y)
  | exc c vs h => exact fun m1 H1 x y => (show PostS R W m H (.ok (.rse c vs, sg) h) D from p) m1 H1 σ x y (rs.mono rh y)
  | bad => exact p
/-- two statements -/
theorem PostS.seq {R : RC} {W : SW} {m : List Addr} {H : Hp} {r : Res (Fl × Sg)} {f : Sg → IH → Res (Fl × Sg)} {D D' : Ends}
    (p : PostS R W m H (r.bind fun p h => match p.1 with
      | .next => f p.2 h
      | fl => .ok (fl, p.2) h) D) (e1 : D'.rt = D.rt) (e2 : D'.bk = D.bk) (e3 : D'.ct = D.ct)
    (i : ∀ sg1 h1 m1 H1 σ1, RH R m1 H1 h1 → Ext m H m1 H1 → RSg R.K m1 H1 sg1 σ1 → PostS R W m1 H1 (f sg1 h1) D → D'.nx σ1 H1) : PostS R W m H r D' := by
  cases r with
  | ok a h =>
    obtain ⟨fl, sg⟩ := a
    intro m1 H1 σ1 x y z
    cases fl with
    | next => exact i sg h m1 H1 σ1 x y z (PostS.ext (show PostS R W m H (f sg h) D from p) y)
    | brk => show D'.bk σ1 H1; rw [e2]; exact (show PostS R W m H (.ok (.brk, sg) h) D from p) m1 H1 σ1 x y z
    | cont => show D'.ct σ1 H1; rw [e3]; exact (show PostS R W m H (.ok (.cont, sg) h) D from p) m1 H1 σ1 x y z
    | ret v => show ∀ w, RV R.K m1 H1 v w → D'.rt w H1; rw [e1]; exact (show PostS R W m H (.ok (.ret v, sg) h) D from p) m1 H1 σ1 x y z
    | rse c vs => exact (show PostS R W m H (.ok (.rse c vs, sg) h) D from p) m1 H1 σ1 x y z
  | exc c vs h => exact p
  | bad => exact p
theorem PE.weak {X : Cx} {e : Expr} {t t' : TE} (p : PE X e t) (i : ∀ σ H Q, t' σ H Q → t σ H Q) : PE X e t' := ⟨fun pins s σ H Q I q => p.run pins s σ H Q I (i σ H Q q)⟩
theorem PT.weak {X : Cx} {e : Expr} {t t' : TT} (p : PT X e t) (i : ∀ σ H Q, t' σ H Q → t σ H Q) : PT X e t' := ⟨fun pins s σ H Q I q => p.run pins s σ H Q I (i σ H Q q)⟩
theorem PW.weak {X : Cx} {e : Expr} {t t' : TT} (p : PW X e t) (i : ∀ σ H Q, t' σ H Q → t σ H Q) : PW X e t' := ⟨fun wh pins s σ H Q I q => p.run wh pins s σ H Q I (i σ H Q q)⟩
theorem PA.weak {X : Cx} {e : List Expr} {t t' : TA} (p : PA X e t) (i : ∀ σ H Q, t' σ H Q → t σ H Q) : PA X e t' := ⟨fun pos pins s σ H Q I q => p.run pos pins s σ H Q I (i σ H Q q)⟩
theorem PI.weak {X : Cx} {tg iter : Expr} {t t' : TI} (p : PI X tg iter t) (i : ∀ σ H Q, t' σ H Q → t σ H Q) : PI X tg iter t' := ⟨fun pins s σ H Q I q => p.run pins s σ H Q I (i σ H Q q)⟩
theorem PS.weak {X : Cx} {e : Stmt} {t t' : TS} (p : PS X e t) (i : ∀ D σ H, t' D σ H → t D σ H) : PS X e t' := ⟨fun pins s σ H D I q => p.run pins s σ H D I (i D σ H q)⟩
theorem PSs.weak {X : Cx} {e : List Stmt} {t t' : TS} (p : PSs X e t) (i : ∀ D σ H, t' D σ H → t D σ H) : PSs X e t' := ⟨fun pins s σ H D I q => p.run pins s σ H D I (i D σ H q)⟩
theorem PG.weak {X : Cx} {e : Expr} {t t' : TG} (p : PG X e t) (i : ∀ v σ H Q, t' v σ H Q → t v σ H Q) : PG X e t' := ⟨fun pins s σ H v u Q I r q => p.run pins s σ H v u Q I r (i v σ H Q q)⟩
end MP
namespace MP
open PySem PySem.Spec PyProof.Rows L2

structure Tb where
  ca : Nat → Option Addr
  attrs : List Str
  nd : attrs.Nodup
abbrev Tb.rc (T : Tb) (K : PySem.W.Frag) : RC := ⟨K, T.ca, T.attrs, T.nd⟩

section
variable {X : Cx} {T : Tb}
def rS (X : Cx) (T : Tb) (W : XW) (g : IV → IV → IH → Res IV) : R2 := fun x y H Q =>
  ∃ m ix iy h, RV X.K m H ix x ∧ RV X.K m H iy y ∧ RH (T.rc X.K) m H h ∧ PostV (T.rc X.K) W m H (g ix iy h) Q
def OpS (X : Cx) (T : Tb) (f : Value → Value → Sem Value) (g : IV → IV → IH → Res IV) : Prop := ∀ W, OpR X f (rS X T W g)

theorem items_of {m : List Addr} {H : Hp} {h : IH} {x : IV} {v : V} {xs : List IV} (r : RH (T.rc X.K) m H h) (q : RV X.K m H x v) (e : items h x = some xs) :
    ∃ a vs, v = .ref a ∧ (SqL X.K H a vs ∨ SqT X.K H a vs) ∧ RVs X.K m H xs vs := by
  cases q with
  | tup q rs => cases e; exact ⟨_, _, rfl, .inr q, rs⟩
  | frl q rs => cases e; exact ⟨_, _, rfl, .inl q.seq, rs⟩
  | loc q =>
    obtain ⟨o, ho, e1, e2, e3⟩ := r.at' q
    unfold items at e
    simp only [e1] at e
    cases e3 with
    | lst rs => cases e; exact ⟨_, _, rfl, .inl (.inl (.inl e2)), rs⟩
    | dct _ => cases e
    | ins _ _ => cases e
  | non => cases e
  | bl _ => cases e
  | int _ => cases e
  | str _ => cases e
theorem litems_of {m : List Addr} {H : Hp} {h : IH} {x : IV} {v : V} {xs : List IV} (r : RH (T.rc X.K) m H h) (q : RV X.K m H x v) (e : litems h x = some xs) :
    ∃ a vs, v = .ref a ∧ SqL X.K H a vs ∧ RVs X.K m H xs vs := by
  cases q with
  | frl q rs => cases e; exact ⟨_, _, rfl, q.seq, rs⟩
  | loc q =>
    obtain ⟨o, ho, e1, e2, e3⟩ := r.at' q
    unfold litems at e
    simp only [e1] at e
    cases e3 with
    | lst rs => cases e; exact ⟨_, _, rfl, .inl (.inl e2), rs⟩
    | dct _ => cases e
    | ins _ _ => cases e
  | tup q rs => cases e
  | non => cases e
  | bl _ => cases e
  | int _ => cases e
  | str _ => cases e

/-! ### binary operators -/
theorem str_append (a b : List Nat) : (⟨a.toArray⟩ : Str) ++ ⟨b.toArray⟩ = ⟨(a ++ b).toArray⟩ := by
  show Str.append ⟨a.toArray⟩ ⟨b.toArray⟩ = _
  unfold Str.append
  simp
theorem str_len (a : List Nat) : (⟨a.toArray⟩ : Str).length = a.length := by
  show a.toArray.size = a.length
  simp
theorem s_add : OpS X T (binaryOp .Add) (binI .add) := by
  intro W pins s σ H x y v u Q I rx ry hh
  obtain ⟨m, ix, iy, h, qx, qy, r, p⟩ := hh
  cases qx with
  | int i =>
    cases qy with
    | int j => exact op_add pins s σ H _ _ v u Q I rx ry ⟨i, j, rfl, rfl, p.same r (.int _)⟩
    | _ => exact p.elim
  | str a =>
    cases qy with
    | str b =>
      unfold binI at p
      simp only at p
      split at p
      · rename_i hl
        refine op_add_str pins s σ H _ _ v u Q I rx ry ⟨_, _, rfl, rfl, ?_, ?_⟩
        · rw [str_len, str_len]; exact hl
        · rw [str_append]; exact p.same r (.str _)
      · exact p.elim
    | _ => exact p.elim
  | tup qa ra =>
    cases qy with
    | tup qb rb =>
      unfold binI at p
      simp only at p
      split at p
      · rename_i hl
        have hl' := hl
        rw [ra.length, rb.length] at hl'
        refine op_catA pins s σ H _ _ v u Q I rx ry ⟨_, _, _, _, rfl, rfl, qa, qb, hl', fun e => ?_, fun e1 e2 => ?_, fun e1 e2 p' hp' => ?_⟩
        · subst e
          cases ra
          exact p.same r (.tup qb rb)
        · subst e2
          cases rb
          rw [List.append_nil] at p
          exact p.same r (.tup qa ra)
        · exact p.newTup r (ra.append rb) hp'
      · exact p.elim
    | _ => exact p.elim
  | _ => exact p.elim
theorem s_sub : OpS X T (binaryOp .Sub) (binI .sub) := by
  intro W pins s σ H x y v u Q I rx ry hh
  obtain ⟨m, ix, iy, h, qx, qy, r, p⟩ := hh
  cases qx with
  | int i =>
    cases qy with
    | int j => exact op_sub pins s σ H _ _ v u Q I rx ry ⟨i, j, rfl, rfl, p.same r (.int _)⟩
    | _ => exact p.elim
  | _ => exact p.elim
theorem s_mul : OpS X T (binaryOp .Mult) (binI .mul) := by
  intro W pins s σ H x y v u Q I rx ry hh
  obtain ⟨m, ix, iy, h, qx, qy, r, p⟩ := hh
  cases qx with
  | int i =>
    cases qy with
    | int j =>
      unfold binI at p
      simp only at p
      split at p
      · rename_i hc
        exact op_mul pins s σ H _ _ v u Q I rx ry ⟨i, j, rfl, rfl, hc, p.same r (.int _)⟩
      · exact p.elim
    | _ => exact p.elim
  | _ => exact p.elim
theorem s_fdiv : OpS X T (binaryOp .FloorDiv) (binI .fdiv) := by
  intro W pins s σ H x y v u Q I rx ry hh
  obtain ⟨m, ix, iy, h, qx, qy, r, p⟩ := hh
  cases qx with
  | int i =>
    cases qy with
    | int j =>
      unfold binI at p
      simp only at p
      split at p
      · rename_i hc
        exact op_fdiv pins s σ H _ _ v u Q I rx ry ⟨i, j, rfl, rfl, hc, p.same r (.int _)⟩
      · exact p.elim
    | _ => exact p.elim
  | _ => exact p.elim
theorem s_mod : OpS X T (binaryOp .Mod) (binI .mod) := by
  intro W pins s σ H x y v u Q I rx ry hh
  obtain ⟨m, ix, iy, h, qx, qy, r, p⟩ := hh
  cases qx with
  | int i =>
    cases qy with
    | int j =>
      unfold binI at p
      simp only at p
      split at p
      · rename_i hc
        exact op_mod pins s σ H _ _ v u Q I rx ry ⟨i, j, rfl, rfl, hc, p.same r (.int _)⟩
      · exact p.elim
    | _ => exact p.elim
  | _ => exact p.elim
theorem s_pow : OpS X T (binaryOp .Pow) (binI .pow) := by
  intro W pins s σ H x y v u Q I rx ry hh
  obtain ⟨m, ix, iy, h, qx, qy, r, p⟩ := hh
  cases qx with
  | int i =>
    cases qy with
    | int j =>
      unfold binI at p
      simp only at p
      split at p
      · rename_i hc
        exact op_pow pins s σ H _ _ v u Q I rx ry ⟨i, j, rfl, rfl, hc, p.same r (.int _)⟩
      · exact p.elim
    | _ => exact p.elim
  | _ => exact p.elim
def bopOf : Bop → Operator
  | .add => .Add
  | .sub => .Sub
  | .mul => .Mult
  | .fdiv => .FloorDiv
  | .mod => .Mod
  | .pow => .Pow
theorem s_bop (op : Bop) : OpS X T (binaryOp (bopOf op)) (binI op) := by
  cases op with
  | add => exact s_add
  | sub => exact s_sub
  | mul => exact s_mul
  | fdiv => exact s_fdiv
  | mod => exact s_mod
  | pow => exact s_pow
theorem s_iop (op : Bop) : OpS X T (inplaceOp (bopOf op)) (iopI op) := by
  intro W pins s σ H x y v u Q I rx ry hh
  obtain ⟨m, ix, iy, h, qx, qy, r, p⟩ := hh
  cases op with
  | add =>
    cases qx with
    | int i =>
      cases qy with
      | int j => exact iop_add pins s σ H _ _ v u Q I rx ry ⟨i, j, rfl, rfl, p.same r (.int _)⟩
      | _ => exact p.elim
    | str a =>
      cases qy with
      | str b =>
        unfold iopI at p
        simp only at p
        split at p
        · rename_i hl
          refine iop_add_str pins s σ H _ _ v u Q I rx ry ⟨_, _, rfl, rfl, ?_, ?_⟩
          · rw [str_len, str_len]; exact hl
          · rw [str_append]; exact p.same r (.str _)
        · exact p.elim
      | _ => exact p.elim
    | _ => exact p.elim
  | sub =>
    cases qx with
    | int i =>
      cases qy with
      | int j => exact iop_sub pins s σ H _ _ v u Q I rx ry ⟨i, j, rfl, rfl, p.same r (.int _)⟩
      | _ => exact p.elim
    | _ => exact p.elim
  | _ => cases qx <;> cases qy <;> exact p.elim

/-! ### comparisons -/
theorem vstr_eq (a b : List Nat) : decide (V.str (⟨a.toArray⟩ : Str) = V.str ⟨b.toArray⟩) = (a == b) := by
  by_cases e : a = b
  · subst e; simp
  · rw [beq_eq_false_iff_ne.mpr e]
    refine decide_eq_false fun q => e ?_
    have q1 : (⟨a.toArray⟩ : Str) = ⟨b.toArray⟩ := V.str.inj q
    have q2 : a.toArray = b.toArray := Str.mk.inj q1
    simpa using q2
mutual
theorem toD_ok {m : List Addr} {H : Hp} {h : IH} (r : RH (T.rc X.K) m H h) : ∀ (n : Nat) {x : IV} {v : V} {d : PyData}, RV X.K m H x v → toD h n x = some d → Dp X.K H v d ∧ d.depth ≤ n ∧ d.canLay0 = true
  | n, _, _, _, .non, e => by
    have : toD h n .non = some PyData.none := by unfold toD; rfl
    rw [this] at e; cases e
    exact ⟨.non, Nat.zero_le _, rfl⟩
  | n, _, _, _, .bl b, e => by
    have : toD h n (.bl b) = some (PyData.bool b) := by unfold toD; rfl
    rw [this] at e; cases e
    exact ⟨.bl b, Nat.zero_le _, rfl⟩
  | n, _, _, _, .int i, e => by
    have : toD h n (.int i) = some (PyData.int i) := by unfold toD; rfl
    rw [this] at e; cases e
    exact ⟨.int i, Nat.zero_le _, rfl⟩
  | n, _, _, _, .str x, e => by
    have q : toD h n (.str x) = if x.all (· < 0x110000) then some (.str ⟨x.toArray⟩) else none := by unfold toD; rfl
    rw [q] at e
    split at e
    · rename_i hx
      cases e
      refine ⟨.str _, Nat.zero_le _, ?_⟩
      show PyData.strOk ⟨x.toArray⟩ = true
      unfold PyData.strOk
      simpa using hx
    · cases e
  | 0, _, _, _, .tup q rs, e => by unfold toD at e; cases e
  | 0, _, _, _, .loc q, e => by unfold toD at e; cases e
  | n, _, _, _, .frl q rs, e => by cases n <;> (unfold toD at e; cases e)
  | n + 1, .tup xs, _, d, .tup q rs, e => by
    have q' : toD h (n + 1) (.tup xs) = (xs.mapM (toD h n)).map .tuple := by rfl
    rw [q'] at e
    cases z : xs.mapM (toD h n) with
    | none => rw [z] at e; cases e
    | some ds =>
      rw [z] at e
      cases e
      obtain ⟨a, b, c⟩ := toDs_ok r n rs z
      exact ⟨.tup q a, Nat.succ_le_succ b, c⟩
  | n + 1, .loc l, _, d, .loc q, e => by
    obtain ⟨o, ho, e1, e2, e3⟩ := r.at' q
    cases e3 with
    | lst rs =>
      rename_i xs vs
      have q' : toD h (n + 1) (.loc l) = (xs.mapM (toD h n)).map .list := by
        show (match h[l]? with | some (.lst xs) => (xs.mapM (toD h n)).map PyData.list | _ => none) = _
        rw [e1]
      rw [q'] at e
      cases z : xs.mapM (toD h n) with
      | none => rw [z] at e; cases e
      | some ds =>
        rw [z] at e
        cases e
        obtain ⟨a, b, c⟩ := toDs_ok r n rs z
        exact ⟨.lst (.inl (.inl e2)) a, Nat.succ_le_succ b, c⟩
    | dct _ =>
      have q' : toD h (n + 1) (.loc l) = none := by
        show (match h[l]? with | some (.lst xs) => (xs.mapM (toD h n)).map PyData.list | _ => none) = _
        rw [e1]
      rw [q'] at e; cases e
    | ins _ _ =>
      have q' : toD h (n + 1) (.loc l) = none := by
        show (match h[l]? with | some (.lst xs) => (xs.mapM (toD h n)).map PyData.list | _ => none) = _
        rw [e1]
      rw [q'] at e; cases e
theorem toDs_ok {m : List Addr} {H : Hp} {h : IH} (r : RH (T.rc X.K) m H h) : ∀ (n : Nat) {xs : List IV} {vs : List V} {ds : List PyData}, RVs X.K m H xs vs → xs.mapM (toD h n) = some ds → DpAll X.K H vs ds ∧ PyData.depthAll ds ≤ n ∧ PyData.canLayAll0 ds = true
  | n, [], _, ds, .nil, e => by
    have : ds = [] := by simpa using e.symm
    subst this
    exact ⟨.nil, Nat.zero_le _, rfl⟩
  | n, x :: xs, _, ds, .cons q rs, e => by
    rw [List.mapM_cons] at e
    cases z : toD h n x with
    | none => rw [z] at e; cases e
    | some d =>
      rw [z] at e
      cases z2 : xs.mapM (toD h n) with
      | none =>
        rw [z2] at e
        cases e
      | some ds' =>
        rw [z2] at e
        have e' : d :: ds' = ds := Option.some.inj e
        subst e'
        obtain ⟨a1, b1, c1⟩ := toD_ok r n q z
        obtain ⟨a2, b2, c2⟩ := toDs_ok r n rs z2
        refine ⟨.cons a1 a2, Nat.max_le.mpr ⟨b1, b2⟩, ?_⟩
        show (PyData.canLay0 d && PyData.canLayAll0 ds') = true
        rw [c1, c2]
        rfl
end
theorem shaped_of {d : PyData} (a : d.depth ≤ 60) (b : d.canLay0 = true) : SeqAt.shaped d = true := by
  unfold SeqAt.shaped
  rw [b, Bool.true_and]
  exact decide_eq_true (Nat.le_trans a (by decide))
/-- == by the evaluator -/
theorem eq_any {m : List Addr} {H : Hp} {h : IH} (r : RH (T.rc X.K) m H h) {ix iy : IV} {x y : V} {b : Bool} (qx : RV X.K m H ix x) (qy : RV X.K m H iy y) (e : eqI h ix iy = some b) :
    (scal x y = true ∧ decide (x = y) = b) ∨ ∃ d d', Dp X.K H x d ∧ Dp X.K H y d' ∧ SeqAt.shaped d = true ∧ SeqAt.shaped d' = true ∧ PyData.eqv d d' = b := by
  unfold eqI at e
  split at e
  · rename_i hf
    have e' := Option.some.inj e
    subst e'
    cases qx with
    | non => cases qy with
      | non => exact .inl ⟨rfl, rfl⟩
      | bl j => exact .inl ⟨rfl, rfl⟩
      | int j => exact .inl ⟨rfl, rfl⟩
      | str j => exact .inl ⟨rfl, rfl⟩
      | _ => simp [flat] at hf
    | bl i => cases qy with
      | non => exact .inl ⟨rfl, rfl⟩
      | bl j => exact .inl ⟨rfl, by show _ = (i == j); rw [dec_bl]⟩
      | int j => exact .inr ⟨_, _, .bl i, .int j, rfl, rfl, rfl⟩
      | str j => exact .inl ⟨rfl, rfl⟩
      | _ => simp [flat] at hf
    | int i => cases qy with
      | non => exact .inl ⟨rfl, rfl⟩
      | bl j => exact .inr ⟨_, _, .int i, .bl j, rfl, rfl, rfl⟩
      | int j => exact .inl ⟨rfl, by show _ = (i == j); rw [dec_int]⟩
      | str j => exact .inl ⟨rfl, rfl⟩
      | _ => simp [flat] at hf
    | str i => cases qy with
      | non => exact .inl ⟨rfl, rfl⟩
      | bl j => exact .inl ⟨rfl, rfl⟩
      | int j => exact .inl ⟨rfl, rfl⟩
      | str j => exact .inl ⟨rfl, vstr_eq i j⟩
      | _ => simp [flat] at hf
    | _ => simp [flat] at hf
  · cases z : toD h 60 ix with
    | none => rw [z] at e; cases e
    | some d =>
      cases z' : toD h 60 iy with
      | none => rw [z, z'] at e; cases e
      | some d' =>
        rw [z, z'] at e
        obtain ⟨a1, b1, c1⟩ := toD_ok r 60 qx z
        obtain ⟨a2, b2, c2⟩ := toD_ok r 60 qy z'
        exact .inr ⟨d, d', a1, a2, shaped_of b1 c1, shaped_of b2 c2, Option.some.inj e⟩
theorem s_eq (hu : X.A.units + 64 < cLine) : OpS X T (compareOp .Eq) (cmpI .eq) := by
  intro W pins s σ H x y v u Q I rx ry hh
  obtain ⟨m, ix, iy, h, qx, qy, r, p⟩ := hh
  have p : PostV (T.rc X.K) W m H (ofB (eqI h ix iy) h) Q := p
  cases e : eqI h ix iy with
  | none => rw [e] at p; exact p.elim
  | some b =>
    rw [e] at p
    have q : Q (.bl b) H := p.same r (.bl b)
    rcases eq_any r qx qy e with ⟨h1, h2⟩ | ⟨d, d', h1, h2, h3, h4, h5⟩
    · exact op_eq pins s σ H _ _ v u Q I rx ry ⟨h1, by rw [h2]; exact q⟩
    · exact op_eqD hu pins s σ H _ _ v u Q I rx ry ⟨d, d', h1, h2, h3, h4, by rw [h5]; exact q⟩
theorem s_ne (hu : X.A.units + 64 < cLine) : OpS X T (compareOp .NotEq) (cmpI .ne) := by
  intro W pins s σ H x y v u Q I rx ry hh
  obtain ⟨m, ix, iy, h, qx, qy, r, p⟩ := hh
  have p : PostV (T.rc X.K) W m H (ofB ((eqI h ix iy).map (!·)) h) Q := p
  cases e : eqI h ix iy with
  | none => rw [e] at p; exact p.elim
  | some b =>
    rw [e] at p
    have q : Q (.bl (!b)) H := p.same r (.bl _)
    rcases eq_any r qx qy e with ⟨h1, h2⟩ | ⟨d, d', h1, h2, h3, h4, h5⟩
    · exact op_ne pins s σ H _ _ v u Q I rx ry ⟨h1, by rw [h2]; exact q⟩
    · exact op_neD hu pins s σ H _ _ v u Q I rx ry ⟨d, d', h1, h2, h3, h4, by rw [h5]; exact q⟩
theorem s_lt : OpS X T (compareOp .Lt) (cmpI .lt) := by
  intro W pins s σ H x y v u Q I rx ry hh
  obtain ⟨m, ix, iy, h, qx, qy, r, p⟩ := hh
  cases qx with
  | int i => cases qy with
    | int j => exact op_lt pins s σ H _ _ v u Q I rx ry ⟨i, j, rfl, rfl, p.same r (.bl _)⟩
    | _ => exact p.elim
  | _ => exact p.elim
theorem s_le : OpS X T (compareOp .LtE) (cmpI .le) := by
  intro W pins s σ H x y v u Q I rx ry hh
  obtain ⟨m, ix, iy, h, qx, qy, r, p⟩ := hh
  cases qx with
  | int i => cases qy with
    | int j => exact op_le pins s σ H _ _ v u Q I rx ry ⟨i, j, rfl, rfl, p.same r (.bl _)⟩
    | _ => exact p.elim
  | _ => exact p.elim
theorem s_gt : OpS X T (compareOp .Gt) (cmpI .gt) := by
  intro W pins s σ H x y v u Q I rx ry hh
  obtain ⟨m, ix, iy, h, qx, qy, r, p⟩ := hh
  cases qx with
  | int i => cases qy with
    | int j => exact op_gt pins s σ H _ _ v u Q I rx ry ⟨i, j, rfl, rfl, p.same r (.bl _)⟩
    | _ => exact p.elim
  | _ => exact p.elim
theorem s_ge : OpS X T (compareOp .GtE) (cmpI .ge) := by
  intro W pins s σ H x y v u Q I rx ry hh
  obtain ⟨m, ix, iy, h, qx, qy, r, p⟩ := hh
  cases qx with
  | int i => cases qy with
    | int j => exact op_ge pins s σ H _ _ v u Q I rx ry ⟨i, j, rfl, rfl, p.same r (.bl _)⟩
    | _ => exact p.elim
  | _ => exact p.elim
theorem flat_V {m : List Addr} {H : Hp} {x : IV} {v : V} (q : RV X.K m H x v) (f : flat x = true) : flatV v = true := by
  cases q <;> first | rfl | cases f
theorem flat_Vs {m : List Addr} {H : Hp} : ∀ {xs : List IV} {vs : List V}, RVs X.K m H xs vs → xs.all flat = true → vs.all flatV = true
  | _, _, .nil, _ => rfl
  | _, _, .cons q rs, f => by
    rw [List.all_cons, Bool.and_eq_true] at f
    rw [List.all_cons, flat_V q f.1, flat_Vs rs f.2]
    rfl
theorem eqF_V {m : List Addr} {H : Hp} {x y : IV} {v w : V} (q : RV X.K m H x v) (q' : RV X.K m H y w) (f : flat x = true) (f' : flat y = true) : eqV v w = eqF x y := by
  cases q with
  | non => cases q' <;> first | rfl | cases f'
  | bl i => cases q' <;> first | rfl | cases f'
  | int i => cases q' <;> first | rfl | cases f'
  | str a =>
    cases q' with
    | str b =>
      show ((⟨a.toArray⟩ : Str) == ⟨b.toArray⟩) = (a == b)
      rw [← vstr_eq, dec_str]
    | _ => first | rfl | cases f'
  | _ => cases f
theorem inF_V {m : List Addr} {H : Hp} {x : IV} {v : V} (q : RV X.K m H x v) (f : flat x = true) : ∀ {xs : List IV} {vs : List V}, RVs X.K m H xs vs → xs.all flat = true → inV v vs = xs.any fun z => eqF z x
  | _, _, .nil, _ => rfl
  | _, _, .cons qy rs, g => by
    rw [List.all_cons, Bool.and_eq_true] at g
    have ih := inF_V q f rs g.2
    unfold inV at ih ⊢
    rw [List.any_cons, List.any_cons, ih, eqF_V qy q g.1 f]
theorem s_in : OpS X T (compareOp .In) (cmpI .isIn) := by
  intro W pins s σ H x y v u Q I rx ry hh
  obtain ⟨m, ix, iy, h, qx, qy, r, p⟩ := hh
  have seq : PostV (T.rc X.K) W m H (match items h iy with
      | some xs => if flat ix && xs.all flat then .ok (.bl (xs.any fun z => eqF z ix)) h else .bad
      | none => .bad) Q → wpAny (model X.prog X.w) X.A (compareOp .In v u) (EP X pins σ Q) X.xe s := fun p => by
    cases e : items h iy with
    | none => rw [e] at p; exact p.elim
    | some xs =>
      rw [e] at p
      simp only at p
      split at p
      · rename_i hf
        rw [Bool.and_eq_true] at hf
        obtain ⟨a, vs, ey, hq, rs⟩ := items_of r qy e
        subst ey
        refine op_in_seq pins s σ H _ _ v u Q I rx ry ⟨a, vs, rfl, hq, flat_V qx hf.1, flat_Vs rs hf.2, ?_⟩
        rw [if_neg Bool.false_ne_true, inF_V qx hf.1 rs hf.2]
        exact p.same r (.bl _)
      · exact p.elim
  unfold cmpI at p
  simp only at p
  split at p
  · rename_i c l
    cases qx
    cases qy
    refine op_in_sign pins s σ H _ _ v u Q I rx ry ⟨c, ⟨l.toArray⟩, rfl, rfl, ?_⟩
    rw [show (⟨l.toArray⟩ : Str).cps.toList = l by simp]
    exact p.same r (.bl _)
  · exact seq p
theorem s_notIn : OpS X T (compareOp .NotIn) (cmpI .notIn) := by
  intro W pins s σ H x y v u Q I rx ry hh
  obtain ⟨m, ix, iy, h, qx, qy, r, p⟩ := hh
  unfold cmpI at p
  simp only at p
  cases e : items h iy with
  | none => rw [e] at p; exact p.elim
  | some xs =>
    rw [e] at p
    simp only at p
    split at p
    · rename_i hf
      rw [Bool.and_eq_true] at hf
      obtain ⟨a, vs, ey, hq, rs⟩ := items_of r qy e
      subst ey
      refine op_notIn_seq pins s σ H _ _ v u Q I rx ry ⟨a, vs, rfl, hq, flat_V qx hf.1, flat_Vs rs hf.2, ?_⟩
      rw [if_pos rfl, inF_V qx hf.1 rs hf.2]
      exact p.same r (.bl _)
    · exact p.elim
theorem isnon_V {m : List Addr} {H : Hp} {x : IV} {v : V} (q : RV X.K m H x v) : decide (v = .non) = (match x with | .non => true | _ => false) := by
  cases q <;> rfl
theorem s_is : OpS X T (compareOp .Is) (cmpI .is) := by
  intro W pins s σ H x y v u Q I rx ry hh
  obtain ⟨m, ix, iy, h, qx, qy, r, p⟩ := hh
  cases qy with
  | non =>
    have q : Q (.bl (decide (x = .non))) H := by
      rw [isnon_V qx]
      cases qx <;> exact p.same r (.bl _)
    exact op_isN pins s σ H _ _ v u Q I rx ry ⟨rfl, q⟩
  | bl j => cases qx with
    | bl i => exact op_is_bl pins s σ H _ _ v u Q I rx ry ⟨i, j, rfl, rfl, p.same r (.bl _)⟩
    | _ => exact p.elim
  | _ => cases qx <;> exact p.elim
theorem s_isNot : OpS X T (compareOp .IsNot) (cmpI .isNot) := by
  intro W pins s σ H x y v u Q I rx ry hh
  obtain ⟨m, ix, iy, h, qx, qy, r, p⟩ := hh
  cases qy with
  | non =>
    have q : Q (.bl (!decide (x = .non))) H := by
      rw [isnon_V qx]
      cases qx <;> exact p.same r (.bl _)
    exact op_notN pins s σ H _ _ v u Q I rx ry ⟨rfl, q⟩
  | bl j => cases qx with
    | bl i => exact op_isnot_bl pins s σ H _ _ v u Q I rx ry ⟨i, j, rfl, rfl, p.same r (.bl _)⟩
    | _ => exact p.elim
  | _ => cases qx <;> exact p.elim
def copOf : Cop → CmpOp
  | .eq => .Eq
  | .ne => .NotEq
  | .lt => .Lt
  | .le => .LtE
  | .gt => .Gt
  | .ge => .GtE
  | .isIn => .In
  | .notIn => .NotIn
  | .is => .Is
  | .isNot => .IsNot
theorem s_cop (hu : X.A.units + 64 < cLine) (op : Cop) : OpS X T (compareOp (copOf op)) (cmpI op) := by
  cases op with
  | eq => exact s_eq hu
  | ne => exact s_ne hu
  | lt => exact s_lt
  | le => exact s_le
  | gt => exact s_gt
  | ge => exact s_ge
  | isIn => exact s_in
  | notIn => exact s_notIn
  | is => exact s_is
  | isNot => exact s_isNot

/-! ### truth, items, slices -/
theorem RVs.isEmpty {K : PySem.W.Frag} {m : List Addr} {H : Hp} {xs : List IV} {vs : List V} (r : RVs K m H xs vs) : vs.isEmpty = xs.isEmpty := by
  cases r <;> rfl
theorem truth_V {m : List Addr} {H : Hp} {h : IH} (r : RH (T.rc X.K) m H h) {x : IV} {v : V} {b : Bool} (q : RV X.K m H x v) (e : truth h x = some b) : TruV X.K v H b := by
  cases q with
  | non => cases e; rfl
  | bl i => cases e; rfl
  | int i => cases e; rfl
  | str x =>
    unfold truth at e
    simp only at e
    split at e
    · rename_i hl
      cases e
      refine ⟨by rw [str_len]; exact hl, ?_⟩
      rw [str_len]
      cases x with
      | nil => rfl
      | cons a t =>
        show (!false) = _
        simp
        omega
    · cases e
  | tup q rs => cases e; exact .inr (.inl ⟨_, q, by rw [rs.isEmpty]⟩)
  | frl q rs => cases e; exact .inl ⟨_, q.seq, by rw [rs.isEmpty]⟩
  | loc q =>
    obtain ⟨o, ho, e1, e2, e3⟩ := r.at' q
    unfold truth at e
    simp only [e1] at e
    cases e3 with
    | lst rs => cases e; exact .inl ⟨_, .inl (.inl e2), by rw [rs.isEmpty]⟩
    | dct rk =>
      cases e
      refine .inr (.inr ⟨_, e2, ?_⟩)
      cases rk <;> rfl
    | ins _ _ => cases e
theorem ixN_eq : MP.ixN = L2.ixN := rfl
theorem sIx_eq (n d : Nat) (o : Option Int) : MP.sIx n d o = HT.sIx n d o := by cases o <;> rfl
theorem atI_RVs {m : List Addr} {H : Hp} {xs : List IV} {vs : List V} {i : Int} {x : IV} (rs : RVs X.K m H xs vs) (e : MP.atI xs i = some x) : ∃ v, L2.atI vs i = some v ∧ RV X.K m H x v := by
  unfold MP.atI at e
  unfold L2.atI
  rw [← rs.length]
  cases z : MP.ixN xs.length i with
  | none => rw [z] at e; cases e
  | some j =>
    rw [z] at e
    obtain ⟨v, h1, h2⟩ := rs.get (show xs[j]? = some x from e)
    refine ⟨v, ?_, h2⟩
    rw [show L2.ixN xs.length i = some j from z]
    exact h1
theorem s_sub_ix : ∀ W, IxR X (rS X T W subI) := by
  intro W value slice pins s σ H x y v u Q I rx ry hh hs
  obtain ⟨m, ix, iy, h, qx, qy, r, p⟩ := hh
  cases qy with
  | int i =>
    have seq : PostV (T.rc X.K) W m H (match items h ix with
      | some xs => Res.ofO (MP.atI xs i) h
      | none => .bad) Q → wpAny (model X.prog X.w) X.A (subscriptTail value slice v u) (EP X pins σ Q) X.xe s := fun p => by
      cases e : items h ix with
      | none => rw [e] at p; exact p.elim
      | some xs =>
        rw [e] at p
        simp only at p
        cases e2 : MP.atI xs i with
        | none => rw [e2] at p; exact p.elim
        | some z =>
          rw [e2] at p
          obtain ⟨a, vs, ey, hq, rs⟩ := items_of r qx e
          subst ey
          obtain ⟨w', h1, h2⟩ := atI_RVs rs e2
          refine ix_seq value slice pins s σ H _ _ v u Q I rx ry ?_ hs
          rcases hq with hq | hq
          · exact .inl ⟨a, vs, i, w', rfl, rfl, hq, h1, p.same r h2⟩
          · exact .inr (.inl ⟨a, vs, i, w', rfl, rfl, hq, h1, p.same r h2⟩)
    cases qx with
    | str l =>
      unfold subI at p
      simp only at p
      split at p
      · rename_i hl
        cases e : MP.atI l i with
        | none => rw [e] at p; exact p.elim
        | some c =>
          rw [e] at p
          refine ix_seq value slice pins s σ H _ _ v u Q I rx ry (.inr (.inr ⟨⟨l.toArray⟩, i, c, rfl, rfl, by rw [str_len]; exact hl, ?_, p.same r (.str [c])⟩)) hs
          rw [show (⟨l.toArray⟩ : Str).cps.toList = l by simp]
          exact e
      · exact p.elim
    | tup q rs => exact seq p
    | frl q rs => exact seq p
    | loc q => exact seq p
    | _ => exact p.elim
  | _ => exact p.elim
theorem cut_RVs {m : List Addr} {H : Hp} {xs : List IV} {vs : List V} (lo hi : Option Int) (rs : RVs X.K m H xs vs) : RVs X.K m H (cut xs lo hi) (cutV vs lo hi) := by
  unfold cut cutV
  rw [sIx_eq, sIx_eq, rs.length]
  exact (rs.drop _).take _
theorem cut_whole {α : Type} {xs : List α} {lo hi : Option Int} (h : HT.sIx xs.length 0 lo = 0 ∧ HT.sIx xs.length xs.length hi = xs.length) : cut xs lo hi = xs := by
  unfold cut
  rw [sIx_eq, sIx_eq, h.1, h.2]
  simp
def rSl (X : Cx) (T : Tb) (W : XW) : V → Option Int → Option Int → Hp → VK → Prop := fun x lo hi H Q =>
  ∃ m ix h, RV X.K m H ix x ∧ RH (T.rc X.K) m H h ∧ PostV (T.rc X.K) W m H (slcI ix lo hi h) Q
theorem s_slc : ∀ W, SlR X (rSl X T W) := by
  intro W pins s σ H x v vl vu lo hi sl Q I rx hsl pl pu hh
  obtain ⟨m, ix, h, qx, r, p⟩ := hh
  have seq : PostV (T.rc X.K) W m H (match litems h ix with
    | some xs => .ok (.loc h.length) (h ++ [.lst (cut xs lo hi)])
    | none => .bad) Q → ∃ T id, typeLookup (Value.type T) (Str.ofString "__getitem__") = pure (some (Value.builtin id)) ∧ Shared.TypeIs s v T ∧ wpAny (model X.prog X.w) X.A (getItem v (Value.ref sl)) (EP X pins σ Q) X.xe s := fun p => by
    cases e : litems h ix with
    | none => rw [e] at p; exact p.elim
    | some xs =>
      rw [e] at p
      obtain ⟨a, vs, ey, hq, rs⟩ := litems_of r qx e
      subst ey
      exact sl_list pins s σ H _ v vl vu lo hi sl Q I rx hsl pl pu ⟨a, vs, rfl, hq, fun p' hp' => PostV.newObj p r (.lst (cut_RVs lo hi rs)) hp'⟩
  cases qx with
  | str l =>
    unfold slcI at p
    simp only at p
    split at p
    · rename_i hl
      refine sl_str pins s σ H _ v vl vu lo hi sl Q I rx hsl pl pu ⟨⟨l.toArray⟩, rfl, by rw [str_len]; exact hl, ?_⟩
      have e : cutS ⟨l.toArray⟩ lo hi = ⟨(cut l lo hi).toArray⟩ := by
        unfold cutS cut
        rw [str_len, sIx_eq, sIx_eq]
      rw [e]
      exact p.same r (.str _)
    · exact p.elim
  | tup q rs =>
    refine sl_tupA pins s σ H _ v vl vu lo hi sl Q I rx hsl pl pu ⟨_, _, rfl, q, fun hw => ?_, fun hw p' hp' => ?_⟩
    · rw [← rs.length] at hw
      have p : PostV (T.rc X.K) W m H (.ok (.tup (cut _ lo hi)) h) Q := p
      rw [cut_whole hw] at p
      exact p.same r (.tup q rs)
    · exact PostV.newTup p r (cut_RVs lo hi rs) hp'
  | frl q rs => exact seq p
  | loc q => exact seq p
  | _ => exact p.elim
end
end MP
namespace MP
open PySem PySem.Spec PyProof.Rows L2

/-! ### forms -/
def notStar : Expr → Bool
  | .Starred _ _ => false
  | _ => true
theorem star_cons {e : Expr} {es : List Expr} {env : Env} (h : notStar e = true) : starEach (e :: es) env = (false, eval e env) :: starEach es env := by
  cases e <;> first | rfl | cases h
theorem star_any {pos : Pos} {env : Env} : ∀ {es : List Expr}, es.all notStar = true → (List.any (backTo pos (starEach es env)) fun x => x.fst) = false
  | [], _ => rfl
  | e :: es, h => by
    rw [List.all_cons, Bool.and_eq_true] at h
    rw [star_cons h.1]
    have ih := star_any (pos := pos) (env := env) h.2
    unfold backTo at ih ⊢
    rw [List.map_cons, List.any_cons, ih]
    rfl
theorem star_all {pos : Pos} {env : Env} : ∀ {es : List Expr}, es.all notStar = true → (List.all (backTo pos (starEach es env)) fun x => !x.fst) = true
  | [], _ => rfl
  | e :: es, h => by
    rw [List.all_cons, Bool.and_eq_true] at h
    rw [star_cons h.1]
    have ih := star_all (pos := pos) (env := env) h.2
    unfold backTo at ih ⊢
    rw [List.map_cons, List.all_cons, ih]
    rfl
def notSl : Expr → Bool
  | .Slice _ _ _ _ => false
  | _ => true
theorem plainIx {b : Expr} (h : notSl b = true) : PlainIx b := fun o i => by
  cases b <;> first | rfl | cases h
/-- no call of super() ahead of a dot -/
def notCall : Expr → Bool
  | .Call _ _ _ _ => false
  | _ => true
theorem attBase {o : Expr} {f : Str} {env : Env} (h : notCall o = true) : attributeBase o f env (eval o env) = eval o env := by
  cases o <;> first | rfl | cases h
/-- a test that is asked by its value -/
def plainT : Expr → Bool
  | .UnaryOp .Not _ _ => false
  | .BoolOp _ _ _ => false
  | .IfExp _ _ _ _ => false
  | .Compare _ _ _ _ => false
  | _ => true
theorem plain_test {e : Expr} {env : Env} (h : plainT e = true) : ∀ whole, PySem.isTrue e env whole = (do let v ← whole; standAt e.pos; holding [v] (truthy v)) := by
  intro whole
  cases e <;> first | rfl | (rename_i op _ _; cases op <;> first | rfl | cases h) | cases h
theorem behind_of {op : CmpOp} {b : Expr} (h : (match b with | .Set _ _ _ => false | _ => true) = true) : behindInMarks op b = false := by
  cases b <;> first | rfl | cases h
def notSet : Expr → Bool
  | .Set _ _ _ => false
  | _ => true
theorem behind_ok {op : CmpOp} {b : Expr} (h : notSet b = true) : behindInMarks op b = false := by
  cases b <;> first | rfl | cases h

section
variable {X : Cx} {T : Tb} {W : SW} {C : Callee} {pos : Pos}
abbrev Rx (X : Cx) (T : Tb) : RC := T.rc X.K
abbrev PEe (X : Cx) (T : Tb) (W : SW) (C : Callee) (e : Expr) (x : Ex) : Prop := PE X e (tE (Rx X T) W (evE C x))
abbrev PAe (X : Cx) (T : Tb) (W : SW) (C : Callee) (es : List Expr) (x : Exs) : Prop := PA X es (tA (Rx X T) W (evEs C x))

/-! ### names, constants -/
theorem r_var {i : Nat} {x : Str} (hN : X.N[i]? = some x) (hv : Vis X.env.scope x) (hd : (x == ("__debug__" : Str)) = false) (hcd : (x == ("__classdict__" : Str)) = false) : PEe X T W C (.Name x pos) (.var i) := by
  refine PE.weak (pe_var hN hv hd hcd) fun σ H Q h => ?_
  obtain ⟨m, sg, h, rs, rh, p⟩ := h
  rw [evE] at p
  split at p
  · rename_i v e
    obtain ⟨w', h1, h2⟩ := rs.get e
    exact ⟨w', h1, p.same rh h2⟩
  · exact p.elim
/-- what stands still -/
theorem r_still {e : Expr} {v : V} {iv : IV} {x : Ex} (pe : PE X e (tC v)) (he : ∀ σ h, evE C x σ h = .ok iv h) (q : ∀ m H, RV X.K m H iv v) : PEe X T W C e x := by
  refine PE.weak pe fun σ H Q h => ?_
  obtain ⟨m, sg, h, rs, rh, p⟩ := h
  rw [he] at p
  exact p.same rh (q m H)
theorem r_int {i : Int} {j : Nat} : PEe X T W C (.Constant (.int i) j pos) (.con (.int i)) := r_still pe_int (fun _ _ => by rw [evE]) fun _ _ => .int i
theorem r_bl {b : Bool} {j : Nat} : PEe X T W C (.Constant (.bool b) j pos) (.con (.bl b)) := r_still pe_bl (fun _ _ => by rw [evE]) fun _ _ => .bl b
theorem r_non {j : Nat} : PEe X T W C (.Constant .none j pos) (.con .non) := r_still pe_non (fun _ _ => by rw [evE]) fun _ _ => .non
theorem r_str {z : Str} {j : Nat} : PEe X T W C (.Constant (.str z) j pos) (.con (.str z.cps.toList)) := r_still pe_str (fun _ _ => by rw [evE]) fun _ _ => by
  have : z = ⟨z.cps.toList.toArray⟩ := by cases z; simp
  have q := RV.str (K := X.K) (m := ‹_›) (H := ‹_›) z.cps.toList
  rw [← this] at q
  exact q
/-- a module's constant: what it is, wherever one stands -/
def GlV (X : Cx) (x : Str) (v : IV) : Prop := ∃ (u : Value) (w : V), X.mg x = some u ∧ RelV w u ∧ ∀ m H, RV X.K m H v w
theorem r_glo {x : Str} {v : IV} (hg : Gl X x) (hm : GlV X x v) (hd : (x == ("__debug__" : Str)) = false) : PEe X T W C (.Name x pos) (.glo x v) := by
  obtain ⟨u, w, h1, h2, h3⟩ := hm
  exact r_still (pe_glob hg h1 h2 hd) (fun _ _ => by rw [evE]) h3

/-! ### lists of expressions -/
theorem r_nil : PAe X T W C [] .nil := by
  refine PA.weak pa_nil fun σ H Q h => ?_
  obtain ⟨m, sg, h, rs, rh, p⟩ := h
  rw [evEs] at p
  exact p.same rh .nil
theorem r_cons {e : Expr} {es : List Expr} {x : Ex} {xs : Exs} (ha : PEe X T W C e x) (hr : PAe X T W C es xs) (hs : notStar e = true) : PAe X T W C (e :: es) (.cons x xs) := by
  refine PA.weak (pa_cons ha hr (star_cons hs)) fun σ H Q h => ?_
  obtain ⟨m, sg, h, rs, rh, p⟩ := h
  rw [evEs] at p
  refine ⟨m, sg, h, rs, rh, Post.bind p fun a b h1 m1 H1 ra rh1 e1 p1 => ?_⟩
  refine ⟨m1, sg, h1, rs.mono rh e1, rh1, Post.bind p1 fun a2 b2 h2 m2 H2 ra2 rh2 e2 p2 => ?_⟩
  exact p2.same rh2 (.cons (ra.mono rh1 e2) ra2)
theorem r_tup {es : List Expr} {xs : Exs} {k : Nat} (h : PAe X T W C es xs) : PEe X T W C (.Tuple es k pos) (.tup xs) := by
  refine PE.weak (pe_tup h) fun σ H Q h => ?_
  obtain ⟨m, sg, h, rs, rh, p⟩ := h
  rw [evE] at p
  refine ⟨m, sg, h, rs, rh, Post.bind p fun a b h1 m1 H1 ra rh1 e1 p1 => ?_⟩
  split at p1
  · rename_i hl
    exact ⟨by rw [← ra.length]; exact hl, fun p' hp' => PostV.newTup p1 rh1 ra hp'⟩
  · exact p1.elim
theorem r_lst {es : List Expr} {xs : Exs} (h : PAe X T W C es xs) : PEe X T W C (.List es pos) (.lst xs) := by
  refine PE.weak (pe_lst h) fun σ H Q h => ?_
  obtain ⟨m, sg, h, rs, rh, p⟩ := h
  rw [evE] at p
  refine ⟨m, sg, h, rs, rh, Post.bind p fun a b h1 m1 H1 ra rh1 e1 p1 => ?_⟩
  split at p1
  · rename_i hl
    exact ⟨by rw [← ra.length]; exact hl, fun p' hp' => PostV.newObj p1 rh1 (.lst ra) hp'⟩
  · exact p1.elim

/-! ### operators -/
theorem two {a b : Ex} {g : IV → IV → IH → Res IV} {σ : L2.St} {H : Hp} {Q : VK} {ex : Ex} (he : ∀ sg h, evE C ex sg h = (evE C a sg h).bind fun x h => (evE C b sg h).bind fun y h => g x y h)
    (h : tE (Rx X T) W (evE C ex) σ H Q) : tOp (rS X T (W σ) g) (tE (Rx X T) W (evE C a)) (tE (Rx X T) W (evE C b)) σ H Q := by
  obtain ⟨m, sg, h, rs, rh, p⟩ := h
  rw [he] at p
  refine ⟨m, sg, h, rs, rh, Post.bind p fun x vx h1 m1 H1 rx rh1 e1 p1 => ?_⟩
  refine ⟨m1, sg, h1, rs.mono rh e1, rh1, Post.bind p1 fun y vy h2 m2 H2 ry rh2 e2 p2 => ?_⟩
  exact ⟨m2, x, y, h2, rx.mono rh1 e2, ry, rh2, p2⟩
theorem OpS.opR {f : Value → Value → Sem Value} {g : IV → IV → IH → Res IV} (h : OpS X T f g) : OpR X f (fun x y H Q => ∃ W, rS X T W g x y H Q) := fun pins s σ H x y v u Q I rx ry ⟨W, q⟩ => h W pins s σ H x y v u Q I rx ry q
theorem tOp_W {g : IV → IV → IH → Res IV} {ta tb : TE} {σ : L2.St} {H : Hp} {Q : VK} {W0 : XW} (ma : ∀ Q Q' : VK, (∀ v H, Q v H → Q' v H) → ta σ H Q → ta σ H Q') (mb : ∀ H (Q Q' : VK), (∀ v H, Q v H → Q' v H) → tb σ H Q → tb σ H Q')
    (h : tOp (rS X T W0 g) ta tb σ H Q) : tOp (fun x y H Q => ∃ W, rS X T W g x y H Q) ta tb σ H Q :=
  ma _ _ (fun _ _ q => mb _ _ _ (fun _ _ z => ⟨W0, z⟩) q) h
theorem tE_mono {R : RC} {ev : Ev} {σ : L2.St} {H : Hp} {Q Q' : VK} (i : ∀ v H, Q v H → Q' v H) (h : tE R W ev σ H Q) : tE R W ev σ H Q' := by
  obtain ⟨m, sg, h, rs, rh, p⟩ := h
  exact ⟨m, sg, h, rs, rh, p.mono i⟩
theorem r_bin {a b : Expr} {x y : Ex} {op : Bop} (ha : PEe X T W C a x) (hb : PEe X T W C b y) : PEe X T W C (.BinOp a (bopOf op) b pos) (.bin op x y) :=
  PE.weak (pe_op (s_bop (T := T) op).opR ha hb) fun σ H Q h => tOp_W (fun _ _ i => tE_mono i) (fun _ _ _ i => tE_mono i) (two (g := binI op) (fun _ _ => by rw [evE]) h)
theorem r_cmp {a b : Expr} {x y : Ex} {op : Cop} (hu : X.A.units + 64 < cLine) (ha : PEe X T W C a x) (hb : PEe X T W C b y) (hn : notSet b = true) : PEe X T W C (.Compare a [copOf op] [b] pos) (.cmp op x y) :=
  PE.weak (pe_cmpR (s_cop (T := T) hu op).opR ha hb (behind_ok hn)) fun σ H Q h => tOp_W (fun _ _ i => tE_mono i) (fun _ _ _ i => tE_mono i) (two (g := cmpI op) (fun _ _ => by rw [evE]) h)
theorem lastM {op op' : CmpOp} {b c : Expr} (h : notSet c = true) : lastMarks [op, op'] [b, c] = false := behind_ok h
theorem bl_of {m : List Addr} {H : Hp} {k : IV} {z : V} {b : Bool} (h : RV X.K m H k z) (e : k = .bl b) : z = .bl b := by
  subst e; cases h; rfl
theorem r_chain {a b c : Expr} {x y z : Ex} {op op' : Cop} (hu : X.A.units + 64 < cLine) (ha : PEe X T W C a x) (hb : PEe X T W C b y) (hc : PEe X T W C c z) (hn : notSet c = true) :
    PEe X T W C (.Compare a [copOf op, copOf op'] [b, c] pos) (.chain op op' x y z) := by
  refine PE.weak (pe_chain (s_cop (T := T) hu op).opR (s_cop (T := T) hu op').opR ha hb hc (lastM hn)) fun σ H Q h => ?_
  obtain ⟨m, sg, h, rs, rh, p⟩ := h
  rw [evE] at p
  refine ⟨m, sg, h, rs, rh, Post.bind p fun x vx h1 m1 H1 rx rh1 e1 p1 => ?_⟩
  refine ⟨m1, sg, h1, rs.mono rh e1, rh1, Post.bind p1 fun y vy h2 m2 H2 ry rh2 e2 p2 => ?_⟩
  refine ⟨W σ, m2, x, y, h2, rx.mono rh1 e2, ry, rh2, Post.bind p2 fun k vk h3 m3 H3 rk rh3 e3 p3 => ?_⟩
  cases rk with
  | bl b =>
    refine ⟨b, rfl, ?_⟩
    cases b with
    | true =>
      rw [if_pos rfl]
      refine ⟨m3, sg, h3, ((rs.mono rh e1).mono rh1 e2).mono rh2 e3, rh3, Post.bind p3 fun z vz h4 m4 H4 rz rh4 e4 p4 => ?_⟩
      exact ⟨W σ, m4, y, z, h4, (ry.mono rh2 e3).mono rh3 e4, rz, rh4, p4⟩
    | false =>
      rw [if_neg Bool.false_ne_true]
      exact p3.same rh3 (.bl false)
  | _ => exact p3.elim
theorem r_neg {a : Expr} {x : Ex} (ha : PEe X T W C a x) : PEe X T W C (.UnaryOp .USub a pos) (.neg x) := by
  refine PE.weak (pe_un un_neg ha) fun σ H Q h => ?_
  obtain ⟨m, sg, h, rs, rh, p⟩ := h
  rw [evE] at p
  refine ⟨m, sg, h, rs, rh, Post.bind p fun x vx h1 m1 H1 rx rh1 e1 p1 => ?_⟩
  cases rx with
  | int i => exact ⟨i, rfl, p1.same rh1 (.int _)⟩
  | _ => exact p1.elim
theorem r_not {a : Expr} {x : Ex} (ha : PEe X T W C a x) : PEe X T W C (.UnaryOp .Not a pos) (.not x) := by
  refine PE.weak (pe_notT ha) fun σ H Q h => ?_
  obtain ⟨m, sg, h, rs, rh, p⟩ := h
  rw [evE] at p
  refine ⟨m, sg, h, rs, rh, Post.bind p fun x vx h1 m1 H1 rx rh1 e1 p1 => ?_⟩
  cases e : truth h1 x with
  | none => rw [e] at p1; exact p1.elim
  | some b =>
    rw [e] at p1
    exact ⟨b, truth_V rh1 rx e, p1.same rh1 (.bl _)⟩
theorem r_and {a b : Expr} {rest : List Expr} {x y : Ex} (ha : PEe X T W C a x) (hb : PEe X T W C (.BoolOp .And (b :: rest) pos) y) : PEe X T W C (.BoolOp .And (a :: b :: rest) pos) (.and x y) := by
  refine PE.weak (pe_andT ha hb) fun σ H Q h => ?_
  obtain ⟨m, sg, h, rs, rh, p⟩ := h
  rw [evE] at p
  refine ⟨m, sg, h, rs, rh, Post.bind p fun x vx h1 m1 H1 rx rh1 e1 p1 => ?_⟩
  cases e : truth h1 x with
  | none => rw [e] at p1; exact p1.elim
  | some b =>
    rw [e] at p1
    refine ⟨b, truth_V rh1 rx e, ?_⟩
    cases b with
    | true => exact ⟨m1, sg, h1, rs.mono rh e1, rh1, p1⟩
    | false => exact p1.same rh1 rx
theorem r_or {a b : Expr} {rest : List Expr} {x y : Ex} (ha : PEe X T W C a x) (hb : PEe X T W C (.BoolOp .Or (b :: rest) pos) y) : PEe X T W C (.BoolOp .Or (a :: b :: rest) pos) (.or x y) := by
  refine PE.weak (pe_orT ha hb) fun σ H Q h => ?_
  obtain ⟨m, sg, h, rs, rh, p⟩ := h
  rw [evE] at p
  refine ⟨m, sg, h, rs, rh, Post.bind p fun x vx h1 m1 H1 rx rh1 e1 p1 => ?_⟩
  cases e : truth h1 x with
  | none => rw [e] at p1; exact p1.elim
  | some b =>
    rw [e] at p1
    refine ⟨b, truth_V rh1 rx e, ?_⟩
    cases b with
    | true => exact p1.same rh1 rx
    | false => exact ⟨m1, sg, h1, rs.mono rh e1, rh1, p1⟩
theorem r_one {op : BoolOp} {a : Expr} {x : Ex} (ha : PEe X T W C a x) : PEe X T W C (.BoolOp op [a] pos) x := pe_one ha
abbrev PTe (X : Cx) (T : Tb) (W : SW) (C : Callee) (e : Expr) (x : Ex) : Prop := PT X e (tT (Rx X T) W (evT C x))
abbrev PWe (X : Cx) (T : Tb) (W : SW) (C : Callee) (e : Expr) (x : Ex) : Prop := PW X e (tT (Rx X T) W (evT C x))
theorem evE_ite {c a b : Ex} {sg : Sg} {h : IH} : evE C (.ite c a b) sg h = (evT C c sg h).bind fun k h => if k = true then evE C a sg h else evE C b sg h := by
  rw [evE]
  show _ = Res.bind ((evE C c sg h).bind fun v h => Res.ofO (truth h v) h) _
  cases evE C c sg h with
  | ok v h1 =>
    show (match truth h1 v with
      | some true => evE C a sg h1
      | some false => evE C b sg h1
      | none => Res.bad) = Res.bind (Res.ofO (truth h1 v) h1) fun k h => if k = true then evE C a sg h else evE C b sg h
    cases truth h1 v with
    | none => rfl
    | some k => cases k <;> rfl
  | exc _ _ _ => rfl
  | bad => rfl
theorem r_ite {c a b : Expr} {z x y : Ex} (hc : PTe X T W C c z) (ha : PEe X T W C a x) (hb : PEe X T W C b y) : PEe X T W C (.IfExp c a b pos) (.ite z x y) := by
  refine PE.weak (pe_ifExp hc ha hb) fun σ H Q h => ?_
  obtain ⟨m, sg, h, rs, rh, p⟩ := h
  rw [evE_ite] at p
  refine ⟨m, sg, h, rs, rh, Post.bind p fun k vk h1 m1 H1 rk rh1 e1 p1 => ?_⟩
  subst rk
  cases k with
  | true => exact ⟨m1, sg, h1, rs.mono rh e1, rh1, p1⟩
  | false => exact ⟨m1, sg, h1, rs.mono rh e1, rh1, p1⟩

/-! ### tests -/
theorem evT_val {x : Ex} {sg : Sg} {h : IH} : evT C x sg h = (evE C x sg h).bind fun v h => Res.ofO (truth h v) h := rfl
theorem t_val {e : Expr} {x : Ex} (he : PEe X T W C e x) (hp : plainT e = true) : PTe X T W C e x := by
  refine PT.weak (pt_truth he (plain_test hp)) fun σ H Q h => ?_
  obtain ⟨m, sg, h, rs, rh, p⟩ := h
  refine ⟨m, sg, h, rs, rh, Post.bind (show PostB _ _ m H ((evE C x sg h).bind fun v h => Res.ofO (truth h v) h) Q from p) fun v vv h1 m1 H1 rv rh1 e1 p1 => ?_⟩
  cases e : truth h1 v with
  | none => rw [e] at p1; exact p1.elim
  | some b =>
    rw [e] at p1
    exact ⟨b, truth_V rh1 rv e, p1.same rh1 rfl⟩
theorem evT_not {x : Ex} {sg : Sg} {h : IH} : evT C (.not x) sg h = (evT C x sg h).bind fun k h => .ok (!k) h := by
  show (evE C (.not x) sg h).bind _ = Res.bind ((evE C x sg h).bind fun v h => Res.ofO (truth h v) h) _
  rw [evE]
  cases evE C x sg h with
  | ok v h1 =>
    show Res.bind (match truth h1 v with | some b => Res.ok (IV.bl (!b)) h1 | none => .bad) _ = Res.bind (Res.ofO (truth h1 v) h1) _
    cases truth h1 v <;> rfl
  | exc _ _ _ => rfl
  | bad => rfl
theorem t_not {a : Expr} {x : Ex} (ha : PTe X T W C a x) : PTe X T W C (.UnaryOp .Not a pos) (.not x) := by
  refine PT.weak (pt_not ha) fun σ H Q h => ?_
  obtain ⟨m, sg, h, rs, rh, p⟩ := h
  rw [evT_not] at p
  refine ⟨m, sg, h, rs, rh, Post.bind p fun k vk h1 m1 H1 rk rh1 e1 p1 => ?_⟩
  subst rk
  exact p1.same rh1 rfl
theorem evT_and {x y : Ex} {sg : Sg} {h : IH} : evT C (.and x y) sg h = (evT C x sg h).bind fun k h => if k = true then evT C y sg h else .ok false h := by
  show (evE C (.and x y) sg h).bind _ = Res.bind ((evE C x sg h).bind fun v h => Res.ofO (truth h v) h) _
  rw [evE]
  cases evE C x sg h with
  | ok v h1 =>
    show Res.bind (match truth h1 v with | some true => evE C y sg h1 | some false => .ok v h1 | none => .bad) _ = Res.bind (Res.ofO (truth h1 v) h1) _
    cases e : truth h1 v with
    | none => rfl
    | some b =>
      cases b with
      | true => rfl
      | false =>
        show Res.ofO (truth h1 v) h1 = Res.ok false h1
        rw [e]; rfl
  | exc _ _ _ => rfl
  | bad => rfl
theorem evT_or {x y : Ex} {sg : Sg} {h : IH} : evT C (.or x y) sg h = (evT C x sg h).bind fun k h => if k = true then .ok true h else evT C y sg h := by
  show (evE C (.or x y) sg h).bind _ = Res.bind ((evE C x sg h).bind fun v h => Res.ofO (truth h v) h) _
  rw [evE]
  cases evE C x sg h with
  | ok v h1 =>
    show Res.bind (match truth h1 v with | some true => .ok v h1 | some false => evE C y sg h1 | none => .bad) _ = Res.bind (Res.ofO (truth h1 v) h1) _
    cases e : truth h1 v with
    | none => rfl
    | some b =>
      cases b with
      | false => rfl
      | true =>
        show Res.ofO (truth h1 v) h1 = Res.ok true h1
        rw [e]; rfl
  | exc _ _ _ => rfl
  | bad => rfl
theorem w_one_and {a : Expr} {x : Ex} (ha : PTe X T W C a x) : PWe X T W C (.BoolOp .And [a] pos) x := pw_and1 ha
theorem w_one_or {a : Expr} {x : Ex} (ha : PTe X T W C a x) : PWe X T W C (.BoolOp .Or [a] pos) x := pw_or1 ha
theorem w_and {a b : Expr} {rest : List Expr} {x y : Ex} (ha : PTe X T W C a x) (hb : PWe X T W C (.BoolOp .And (b :: rest) pos) y) : PWe X T W C (.BoolOp .And (a :: b :: rest) pos) (.and x y) := by
  refine PW.weak (pw_and ha hb) fun σ H Q h => ?_
  obtain ⟨m, sg, h, rs, rh, p⟩ := h
  rw [evT_and] at p
  refine ⟨m, sg, h, rs, rh, Post.bind p fun k vk h1 m1 H1 rk rh1 e1 p1 => ?_⟩
  subst rk
  cases k with
  | true => exact ⟨m1, sg, h1, rs.mono rh e1, rh1, p1⟩
  | false => exact p1.same rh1 rfl
theorem w_or {a b : Expr} {rest : List Expr} {x y : Ex} (ha : PTe X T W C a x) (hb : PWe X T W C (.BoolOp .Or (b :: rest) pos) y) : PWe X T W C (.BoolOp .Or (a :: b :: rest) pos) (.or x y) := by
  refine PW.weak (pw_or ha hb) fun σ H Q h => ?_
  obtain ⟨m, sg, h, rs, rh, p⟩ := h
  rw [evT_or] at p
  refine ⟨m, sg, h, rs, rh, Post.bind p fun k vk h1 m1 H1 rk rh1 e1 p1 => ?_⟩
  subst rk
  cases k with
  | true => exact p1.same rh1 rfl
  | false => exact ⟨m1, sg, h1, rs.mono rh e1, rh1, p1⟩
/-- a comparison's value is a flag -/
def isB : Res IV → Prop
  | .ok (.bl _) _ => True
  | .ok _ _ => False
  | _ => True
theorem ofB_bl (o : Option Bool) (h : IH) : isB (ofB o h) := by cases o <;> trivial
theorem cmpI_bl (op : Cop) (x y : IV) (h : IH) : isB (cmpI op x y h) := by
  cases op
  case eq => exact ofB_bl _ _
  case ne => exact ofB_bl _ _
  case isIn =>
    unfold cmpI; simp only
    split
    · trivial
    · cases items h y with
      | none => trivial
      | some xs => simp only; split <;> trivial
  case notIn =>
    unfold cmpI; simp only
    cases items h y with
    | none => trivial
    | some xs => simp only; split <;> trivial
  all_goals (cases x <;> cases y <;> trivial)
theorem b_test {X : Cx} {T : Tb} {W : SW} {σ : L2.St} {m : List Addr} {H : Hp} {r : Res IV} {Q : Bool → Hp → Prop} (hb : isB r) (p : PostB (Rx X T) (W σ) m H (r.bind fun v h => Res.ofO (truth h v) h) Q) :
    PostV (Rx X T) (W σ) m H r (fun x H' => ∃ k, x = .bl k ∧ Q k H') := by
  cases r with
  | ok v h =>
    cases v with
    | bl b =>
      intro w m' H' x y z
      cases z
      exact ⟨b, rfl, (show PostB (Rx X T) (W σ) m H (.ok b h) Q from p) b m' H' x y rfl⟩
    | _ => exact hb.elim
  | exc c vs h => exact p
  | bad => exact p
theorem bind_assoc {α β γ : Type} (r : Res α) (f : α → IH → Res β) (g : β → IH → Res γ) : (r.bind f).bind g = r.bind fun a h => (f a h).bind g := by
  cases r <;> rfl
theorem t_cmp {a b : Expr} {x y : Ex} {op : Cop} (hu : X.A.units + 64 < cLine) (ha : PEe X T W C a x) (hb : PEe X T W C b y) (hn : notSet b = true) : PTe X T W C (.Compare a [copOf op] [b] pos) (.cmp op x y) := by
  refine PT.weak (pt_cmpR (s_cop (T := T) hu op).opR ha hb (behind_ok hn)) fun σ H Q h => ?_
  obtain ⟨m, sg, h, rs, rh, p⟩ := h
  have q : evT C (.cmp op x y) sg h = (evE C x sg h).bind fun v h => (evE C y sg h).bind fun w h => (cmpI op v w h).bind fun z h => Res.ofO (truth h z) h := by
    show (evE C (.cmp op x y) sg h).bind _ = _
    rw [evE, bind_assoc]
    congr 1
    funext v h
    rw [bind_assoc]
  rw [q] at p
  refine ⟨m, sg, h, rs, rh, Post.bind p fun x vx h1 m1 H1 rx rh1 e1 p1 => ?_⟩
  refine ⟨m1, sg, h1, rs.mono rh e1, rh1, Post.bind p1 fun y vy h2 m2 H2 ry rh2 e2 p2 => ?_⟩
  exact ⟨W σ, m2, x, y, h2, rx.mono rh1 e2, ry, rh2, b_test (cmpI_bl op x y h2) p2⟩
theorem t_chain {a b c : Expr} {x y z : Ex} {op op' : Cop} (hu : X.A.units + 64 < cLine) (ha : PEe X T W C a x) (hb : PEe X T W C b y) (hc : PEe X T W C c z) (hn : notSet c = true) :
    PTe X T W C (.Compare a [copOf op, copOf op'] [b, c] pos) (.chain op op' x y z) := by
  refine PT.weak (pt_chain (s_cop (T := T) hu op).opR (s_cop (T := T) hu op').opR ha hb hc (lastM hn)) fun σ H Q h => ?_
  obtain ⟨m, sg, h, rs, rh, p⟩ := h
  have p : PostB (Rx X T) (W σ) m H ((evE C (.chain op op' x y z) sg h).bind fun v h => Res.ofO (truth h v) h) Q := p
  rw [evE, bind_assoc] at p
  refine ⟨m, sg, h, rs, rh, Post.bind p fun x vx h1 m1 H1 rx rh1 e1 p1 => ?_⟩
  rw [bind_assoc] at p1
  refine ⟨m1, sg, h1, rs.mono rh e1, rh1, Post.bind p1 fun y vy h2 m2 H2 ry rh2 e2 p2 => ?_⟩
  rw [bind_assoc] at p2
  refine ⟨W σ, m2, x, y, h2, rx.mono rh1 e2, ry, rh2, Post.bind p2 fun k vk h3 m3 H3 rk rh3 e3 p3 => ?_⟩
  cases rk with
  | bl b =>
    refine ⟨b, rfl, ?_⟩
    cases b with
    | true =>
      rw [if_pos rfl]
      rw [bind_assoc] at p3
      refine ⟨m3, sg, h3, ((rs.mono rh e1).mono rh1 e2).mono rh2 e3, rh3, Post.bind p3 fun z vz h4 m4 H4 rz rh4 e4 p4 => ?_⟩
      exact ⟨W σ, m4, y, z, h4, (ry.mono rh2 e3).mono rh3 e4, rz, rh4, b_test (cmpI_bl op' y z h4) p4⟩
    | false =>
      rw [if_neg Bool.false_ne_true]
      exact ⟨false, rfl, p3.same rh3 rfl⟩
  | _ => exact p3.elim
end
end MP
namespace MP
open PySem PySem.Spec PyProof.Rows L2
section
variable {X : Cx} {T : Tb} {W : SW} {C : Callee} {pos : Pos}

theorem ixR_W {g : IV → IV → IH → Res IV} (h : ∀ W, IxR X (rS X T W g)) : IxR X (fun x y H Q => ∃ W, rS X T W g x y H Q) := fun va sl pins s σ H x y v u Q I rx ry ⟨W, q⟩ hs => h W va sl pins s σ H x y v u Q I rx ry q hs
theorem r_sub {a b : Expr} {x y : Ex} (ha : PEe X T W C a x) (hb : PEe X T W C b y) (hn : notSl b = true) : PEe X T W C (.Subscript a b pos) (.sub x y) :=
  PE.weak (pe_ix (ixR_W (T := T) s_sub_ix) ha hb (plainIx hn)) fun σ H Q h => tOp_W (fun _ _ i => tE_mono i) (fun _ _ _ i => tE_mono i) (two (g := subI) (fun _ _ => by rw [evE]) h)
abbrev POe (X : Cx) (T : Tb) (W : SW) (C : Callee) (e : Option Expr) (x : Ox) : Prop := PO X e (fun σ H Q => ∃ m sg h, RSg X.K m H sg σ ∧ RH (Rx X T) m H h ∧ Post (Rx X T) (W σ) (fun _ _ a b => a = b) m H (evO C x sg h) Q)
theorem PO.weak {e : Option Expr} {t t' : TO} (p : PO X e t) (i : ∀ σ H Q, t' σ H Q → t σ H Q) : PO X e t' := ⟨fun pins s σ H Q I q => p.run pins s σ H Q I (i σ H Q q)⟩
theorem o_none : POe X T W C none .none := by
  refine PO.weak po_none fun σ H Q h => ?_
  obtain ⟨m, sg, h, rs, rh, p⟩ := h
  rw [evO] at p
  exact p.same rh rfl
theorem o_some {e : Expr} {x : Ex} (he : PEe X T W C e x) : POe X T W C (some e) (.some x) := by
  refine PO.weak (po_some he) fun σ H Q h => ?_
  obtain ⟨m, sg, h, rs, rh, p⟩ := h
  rw [evO] at p
  refine ⟨m, sg, h, rs, rh, Post.bind p fun v vv h1 m1 H1 rv rh1 e1 p1 => ?_⟩
  cases rv with
  | int i => exact ⟨i, rfl, p1.same rh1 rfl⟩
  | _ => exact p1.elim
theorem r_slc {e : Expr} {x : Ex} {lo hi : Option Expr} {l u : Ox} {p2 : Pos} (he : PEe X T W C e x) (hl : POe X T W C lo l) (hh : POe X T W C hi u) : PEe X T W C (.Subscript e (.Slice lo hi none p2) pos) (.slc x l u) := by
  have hsl : SlR X (fun x lo hi H Q => ∃ W, rSl X T W x lo hi H Q) := fun pins s σ H x v vl vu lo hi sl Q I rx a b c ⟨W, q⟩ => s_slc W pins s σ H x v vl vu lo hi sl Q I rx a b c q
  refine PE.weak (pe_slice hsl he hl hh) fun σ H Q h => ?_
  obtain ⟨m, sg, h, rs, rh, p⟩ := h
  rw [evE] at p
  refine ⟨m, sg, h, rs, rh, Post.bind p fun x vx h1 m1 H1 rx rh1 e1 p1 => ?_⟩
  refine ⟨m1, sg, h1, rs.mono rh e1, rh1, Post.bind p1 fun l l' h2 m2 H2 el rh2 e2 p2 => ?_⟩
  subst el
  refine ⟨m2, sg, h2, (rs.mono rh e1).mono rh1 e2, rh2, Post.bind p2 fun u u' h3 m3 H3 eu rh3 e3 p3 => ?_⟩
  subst eu
  exact ⟨W σ, m3, x, h3, (rx.mono rh1 e2).mono rh2 e3, rh3, p3⟩

/-! ### fields -/
structure ClOk (X : Cx) (T : Tb) : Prop where
  cls : ∀ c C, T.ca c = some C → Cls X.K C
  no : ∀ c C (i : Nat) f, T.ca c = some C → T.attrs[i]? = some f → NoAttr X.K C f
theorem attr_ne {T : Tb} {i j : Nat} {f g : Str} (a : T.attrs[i]? = some f) (b : T.attrs[j]? = some g) (h : i ≠ j) : f ≠ g := fun e => by
  subst e
  obtain ⟨h1, e1⟩ := List.getElem?_eq_some_iff.mp a
  obtain ⟨h2, e2⟩ := List.getElem?_eq_some_iff.mp b
  exact h ((List.getElem_inj T.nd).mp (e1.trans e2.symm))
theorem lookN_RF {m : List Addr} {H : Hp} {i : Nat} {f : Str} {x : IV} (hi : T.attrs[i]? = some f) : ∀ {fs : List (Nat × IV)} {gs : List (Str × V)}, RF (Rx X T) m H fs gs → lookN i fs = some x → ∃ v, gs.lookup f = some v ∧ RV X.K m H x v
  | _, _, .nil, e => by cases e
  | (j, w) :: fs, (g, v) :: gs, .cons q r, e => by
    unfold lookN at e
    by_cases h : i = j
    · subst h
      rw [if_pos rfl] at e
      cases e
      have : f = g := Option.some.inj (hi.symm.trans q.1)
      subst this
      exact ⟨v, by simp [List.lookup], q.2⟩
    · rw [if_neg h] at e
      obtain ⟨v', h1, h2⟩ := lookN_RF hi r e
      refine ⟨v', ?_, h2⟩
      have ne : f ≠ g := attr_ne hi q.1 h
      show (match f == g with | true => some v | false => gs.lookup f) = some v'
      rw [beq_eq_false_iff_ne.mpr ne]
      exact h1
theorem putN_RF {m : List Addr} {H : Hp} {i : Nat} {f : Str} {x : IV} {v : V} (hi : T.attrs[i]? = some f) (rx : RV X.K m H x v) : ∀ {fs : List (Nat × IV)} {gs : List (Str × V)}, RF (Rx X T) m H fs gs → RF (Rx X T) m H (putN i x fs) (putF f v gs)
  | _, _, .nil => .cons ⟨hi, rx⟩ .nil
  | (j, w) :: fs, (g, u) :: gs, .cons q r => by
    unfold putN putF
    by_cases h : i = j
    · subst h
      have : f = g := Option.some.inj (hi.symm.trans q.1)
      subst this
      rw [if_pos rfl, if_pos rfl]
      exact .cons ⟨hi, rx⟩ r
    · have ne : f ≠ g := attr_ne hi q.1 h
      rw [if_neg h, if_neg (fun z => ne z.symm)]
      exact .cons q (putN_RF hi rx r)
theorem RF.len {m : List Addr} {H : Hp} {fs : List (Nat × IV)} {gs : List (Str × V)} (r : RF (Rx X T) m H fs gs) : fs.length = gs.length := Paired.length r
theorem r_att {o : Expr} {x : Ex} {i : Nat} {f : Str} (co : ClOk X T) (he : PEe X T W C o x) (hn : notCall o = true) (hi : T.attrs[i]? = some f) : PEe X T W C (.Attribute o f pos) (.att x i) := by
  refine PE.weak (pe_fld he (attBase hn)) fun σ H Q h => ?_
  obtain ⟨m, sg, h, rs, rh, p⟩ := h
  rw [evE] at p
  refine ⟨m, sg, h, rs, rh, Post.bind p fun x vx h1 m1 H1 rx rh1 e1 p1 => ?_⟩
  cases rx with
  | loc q =>
    obtain ⟨o, ho, e1, e2, e3⟩ := rh1.at' q
    simp only [e1] at p1
    cases e3 with
    | ins hc rf =>
      simp only at p1
      rename_i fs gs
      cases e4 : lookN i fs with
      | none => rw [e4] at p1; exact p1.elim
      | some w =>
        rw [e4] at p1
        obtain ⟨v, h2, h3⟩ := lookN_RF hi rf e4
        exact ⟨_, _, _, _, v, rfl, e2, co.cls _ _ hc, co.no _ _ i f hc hi, h2, p1.same rh1 h3⟩
    | _ => exact p1.elim
  | _ => exact p1.elim

/-! ### sequences -/
def RQ (K : PySem.W.Frag) (m : List Addr) (H : Hp) (p : Bool × List IV) (v : V) : Prop := ∃ a vs, v = .ref a ∧ (if p.1 = true then SqT K H a vs else SqL K H a vs) ∧ RVs K m H p.2 vs
abbrev PQe (X : Cx) (T : Tb) (W : SW) (C : Callee) (e : Expr) (s : Sx) : Prop := PE X e (fun σ H Q => ∃ m sg h, RSg X.K m H sg σ ∧ RH (Rx X T) m H h ∧ Post (Rx X T) (W σ) (RQ X.K) m H (evS C s sg h) Q)
theorem q_ex {e : Expr} {x : Ex} (he : PEe X T W C e x) : PQe X T W C e (.ex x) := by
  refine PE.weak he fun σ H Q h => ?_
  obtain ⟨m, sg, h, rs, rh, p⟩ := h
  rw [evS] at p
  refine ⟨m, sg, h, rs, rh, Post.bind p fun v vv h1 m1 H1 rv rh1 e1 p1 => ?_⟩
  have other : Post (Rx X T) (W σ) (RQ X.K) m1 H1 (Res.ofO ((litems h1 v).map fun xs => (false, xs)) h1) Q → Q vv H1 := fun p1 => by
    cases e : litems h1 v with
    | none => rw [e] at p1; exact p1.elim
    | some xs =>
      rw [e] at p1
      obtain ⟨a, vs, e1, e2, e3⟩ := litems_of rh1 rv e
      exact p1.same rh1 ⟨a, vs, e1, by rw [if_neg Bool.false_ne_true]; exact e2, e3⟩
  cases rv with
  | tup q r => exact p1.same rh1 ⟨_, _, rfl, by rw [if_pos rfl]; exact q, r⟩
  | _ => exact other p1
theorem pa1 {e : Expr} {t : TE} (h : PE X e t) (hs : notStar e = true) : PA X [e] (tCons t tNil) := pa_cons h pa_nil (star_cons hs)
theorem ints_of {m : List Addr} {H : Hp} : ∀ {xs : List IV} {vs : List V} {ns : List Int}, RVs X.K m H xs vs → asInts xs = some ns → vs = ns.map V.int
  | _, _, _, .nil, e => by cases e; rfl
  | .int i :: xs, _, ns, .cons q r, e => by
    unfold asInts at e
    cases z : asInts xs with
    | none => rw [z] at e; cases e
    | some ms =>
      rw [z] at e; cases e
      cases q
      rw [ints_of r z]
      rfl
  | .non :: xs, _, ns, .cons q r, e => by cases e
  | .bl _ :: xs, _, ns, .cons q r, e => by cases e
  | .str _ :: xs, _, ns, .cons q r, e => by cases e
  | .tup _ :: xs, _, ns, .cons q r, e => by cases e
  | .loc _ :: xs, _, ns, .cons q r, e => by cases e
  | .frl _ :: xs, _, ns, .cons q r, e => by cases e
theorem bools_of {m : List Addr} {H : Hp} : ∀ {xs : List IV} {vs : List V} {ns : List Bool}, RVs X.K m H xs vs → asBools xs = some ns → vs = ns.map V.bl
  | _, _, _, .nil, e => by cases e; rfl
  | .bl i :: xs, _, ns, .cons q r, e => by
    unfold asBools at e
    cases z : asBools xs with
    | none => rw [z] at e; cases e
    | some ms =>
      rw [z] at e; cases e
      cases q
      rw [bools_of r z]
      rfl
  | .non :: xs, _, ns, .cons q r, e => by cases e
  | .int _ :: xs, _, ns, .cons q r, e => by cases e
  | .str _ :: xs, _, ns, .cons q r, e => by cases e
  | .tup _ :: xs, _, ns, .cons q r, e => by cases e
  | .loc _ :: xs, _, ns, .cons q r, e => by cases e
  | .frl _ :: xs, _, ns, .cons q r, e => by cases e
def toS (l : List Nat) : Str := ⟨l.toArray⟩
theorem strs_of {m : List Addr} {H : Hp} : ∀ {xs : List IV} {vs : List V} {ns : List (List Nat)}, RVs X.K m H xs vs → asStrs xs = some ns → vs = (ns.map toS).map V.str
  | _, _, _, .nil, e => by cases e; rfl
  | .str i :: xs, _, ns, .cons q r, e => by
    unfold asStrs at e
    cases z : asStrs xs with
    | none => rw [z] at e; cases e
    | some ms =>
      rw [z] at e; cases e
      cases q
      rw [strs_of r z]
      rfl
  | .non :: xs, _, ns, .cons q r, e => by cases e
  | .int _ :: xs, _, ns, .cons q r, e => by cases e
  | .bl _ :: xs, _, ns, .cons q r, e => by cases e
  | .tup _ :: xs, _, ns, .cons q r, e => by cases e
  | .loc _ :: xs, _, ns, .cons q r, e => by cases e
  | .frl _ :: xs, _, ns, .cons q r, e => by cases e
/-- a built-in name that nobody has bound -/
def Bn (X : Cx) (x : Str) : Prop := Gl X x ∧ X.mg x = none
theorem bs_start {σ : L2.St} {H : Hp} {Q : VK} {b : Bs} {s : Sx} {t : List V → Hp → VK → Prop} (h : tE (Rx X T) W (evE C (.bs b s)) σ H Q)
    (i : ∀ tu xs a vs h1 m1 H1, (if tu = true then SqT X.K H1 a vs else SqL X.K H1 a vs) → RVs X.K m1 H1 xs vs → RH (Rx X T) m1 H1 h1 → PostV (Rx X T) (W σ) m1 H1 (bsI b tu xs h1) Q → t [.ref a] H1 Q) :
    tCB t (tCons (fun σ H Q => ∃ m sg h, RSg X.K m H sg σ ∧ RH (Rx X T) m H h ∧ Post (Rx X T) (W σ) (RQ X.K) m H (evS C s sg h) Q) tNil) σ H Q := by
  obtain ⟨m, sg, h, rs, rh, p⟩ := h
  rw [evE] at p
  refine ⟨m, sg, h, rs, rh, Post.bind p fun q v h1 m1 H1 rq rh1 e1 p1 => ?_⟩
  obtain ⟨a, vs, ev, hq, rv⟩ := rq
  subst ev
  exact i q.1 q.2 a vs h1 m1 H1 hq rv rh1 p1
theorem r_sum {e : Expr} {s : Sx} {p0 : Pos} (hc : X.calm = true) (hb : Bn X "sum") (he : PQe X T W C e s) (hs : notStar e = true) : PEe X T W C (.Call (.Name "sum" p0) [e] [] pos) (.bs .sum s) := by
  refine PE.weak (pe_callB (cr_sum hc) hb.1 hb.2 (by decide +kernel) (pa1 he hs) (by decide +kernel) (by decide +kernel) (star_cons hs) rfl) fun σ H Q h => bs_start h fun tu xs a vs h1 m1 H1 hq rv rh1 p => ?_
  unfold bsI at p
  cases tu with
  | true => exact p.elim
  | false =>
    simp only at p
    cases e : asInts xs with
    | none => rw [e] at p; exact p.elim
    | some ns =>
      rw [e] at p
      exact ⟨a, ns, rfl, by rw [← ints_of rv e]; exact hq, p.same rh1 (.int _)⟩
theorem r_all {e : Expr} {s : Sx} {p0 : Pos} (hc : X.calm = true) (hb : Bn X "all") (he : PQe X T W C e s) (hs : notStar e = true) : PEe X T W C (.Call (.Name "all" p0) [e] [] pos) (.bs .all s) := by
  refine PE.weak (pe_callB (cr_all hc) hb.1 hb.2 (by decide +kernel) (pa1 he hs) (by decide +kernel) (by decide +kernel) (star_cons hs) rfl) fun σ H Q h => bs_start h fun tu xs a vs h1 m1 H1 hq rv rh1 p => ?_
  unfold bsI at p
  cases tu with
  | true => exact p.elim
  | false =>
    simp only at p
    cases e : asBools xs with
    | none => rw [e] at p; exact p.elim
    | some ns =>
      rw [e] at p
      exact ⟨a, ns, rfl, by rw [← bools_of rv e]; exact hq, p.same rh1 (.bl _)⟩
theorem r_any {e : Expr} {s : Sx} {p0 : Pos} (hc : X.calm = true) (hb : Bn X "any") (he : PQe X T W C e s) (hs : notStar e = true) : PEe X T W C (.Call (.Name "any" p0) [e] [] pos) (.bs .any s) := by
  refine PE.weak (pe_callB (cr_any hc) hb.1 hb.2 (by decide +kernel) (pa1 he hs) (by decide +kernel) (by decide +kernel) (star_cons hs) rfl) fun σ H Q h => bs_start h fun tu xs a vs h1 m1 H1 hq rv rh1 p => ?_
  unfold bsI at p
  cases tu with
  | true => exact p.elim
  | false =>
    simp only at p
    cases e : asBools xs with
    | none => rw [e] at p; exact p.elim
    | some ns =>
      rw [e] at p
      exact ⟨a, ns, rfl, by rw [← bools_of rv e]; exact hq, p.same rh1 (.bl _)⟩
theorem r_tuple {e : Expr} {s : Sx} {p0 : Pos} (hb : Bn X "tuple") (he : PQe X T W C e s) (hs : notStar e = true) : PEe X T W C (.Call (.Name "tuple" p0) [e] [] pos) (.bs .tuple s) := by
  refine PE.weak (pe_callTy call_tuple_of hb.1 hb.2 (by decide +kernel) (pa1 he hs) (by decide +kernel) (by decide +kernel) (star_cons hs) rfl) fun σ H Q h => bs_start h fun tu xs a vs h1 m1 H1 hq rv rh1 p => ?_
  cases tu with
  | true => exact ⟨a, vs, rfl, .inr ⟨hq, p.same rh1 (.tup hq rv)⟩⟩
  | false => exact ⟨a, vs, rfl, .inl ⟨hq, fun p' hp' => PostV.newTup p rh1 rv hp'⟩⟩
theorem r_list {e : Expr} {s : Sx} {p0 : Pos} (hb : Bn X "list") (he : PQe X T W C e s) (hs : notStar e = true) : PEe X T W C (.Call (.Name "list" p0) [e] [] pos) (.bs .list s) := by
  refine PE.weak (pe_callTy call_list_of hb.1 hb.2 (by decide +kernel) (pa1 he hs) (by decide +kernel) (by decide +kernel) (star_cons hs) rfl) fun σ H Q h => bs_start h fun tu xs a vs h1 m1 H1 hq rv rh1 p => ?_
  refine ⟨a, vs, rfl, ?_, fun p' hp' => PostV.newObj p rh1 (.lst rv) hp'⟩
  cases tu with
  | true => exact .inr hq
  | false => exact .inl hq

/-! ### functions of one value -/
theorem v_start {σ : L2.St} {H : Hp} {Q : VK} {b : Bv} {x : Ex} {t : List V → Hp → VK → Prop} (h : tE (Rx X T) W (evE C (.bv b x)) σ H Q)
    (i : ∀ y v h1 m1 H1, RV X.K m1 H1 y v → RH (Rx X T) m1 H1 h1 → PostV (Rx X T) (W σ) m1 H1 (bvI b y h1) Q → t [v] H1 Q) :
    tCB t (tCons (tE (Rx X T) W (evE C x)) tNil) σ H Q := by
  obtain ⟨m, sg, h, rs, rh, p⟩ := h
  rw [evE] at p
  exact ⟨m, sg, h, rs, rh, Post.bind p fun q v h1 m1 H1 rq rh1 e1 p1 => i q v h1 m1 H1 rq rh1 p1⟩
theorem CallR.or {f : Value} {r r' : List V → Hp → VK → Prop} (a : CallR X f r) (b : CallR X f r') : CallR X f (fun xs H Q => r xs H Q ∨ r' xs H Q) := fun pins s σ H xs us Q I rr h => h.elim (a pins s σ H xs us Q I rr) (b pins s σ H xs us Q I rr)
theorem r_len {e : Expr} {x : Ex} {p0 : Pos} (hb : Bn X "len") (he : PEe X T W C e x) (hs : notStar e = true) : PEe X T W C (.Call (.Name "len" p0) [e] [] pos) (.bv .len x) := by
  refine PE.weak (pe_callB (CallR.or call_len call_lenD) hb.1 hb.2 (by decide +kernel) (pa1 he hs) (by decide +kernel) (by decide +kernel) (star_cons hs) rfl) fun σ H Q h => v_start h fun y v h1 m1 H1 ry rh1 p => ?_
  have p : PostV (Rx X T) (W σ) m1 H1 (Res.ofO ((lenI h1 y).map fun n => .int n) h1) Q := p
  cases e : lenI h1 y with
  | none => rw [e] at p; exact p.elim
  | some n =>
    rw [e] at p
    have q : Q (.int n) H1 := p.same rh1 (.int _)
    cases ry with
    | str l =>
      unfold lenI at e
      simp only at e
      split at e
      · rename_i hl
        cases e
        exact .inl ⟨_, _, rfl, ⟨by rw [str_len]; exact hl, (str_len l).symm⟩, q⟩
      · cases e
    | tup a r => cases e; exact .inl ⟨_, _, rfl, .inr ⟨_, a, r.length⟩, q⟩
    | frl a r => cases e; exact .inl ⟨_, _, rfl, .inl ⟨_, a.seq, r.length⟩, q⟩
    | loc a =>
      obtain ⟨o, ho, e1, e2, e3⟩ := rh1.at' a
      unfold lenI at e
      simp only [e1] at e
      cases e3 with
      | lst r => cases e; exact .inl ⟨_, _, rfl, .inl ⟨_, .inl (.inl e2), r.length⟩, q⟩
      | dct r =>
        cases e
        refine .inr ⟨_, _, rfl, e2, ?_⟩
        rw [← show _ = _ from Paired.length r]
        exact q
      | ins _ _ => cases e
    | _ => cases e
theorem r_abs {e : Expr} {x : Ex} {p0 : Pos} (hb : Bn X "abs") (he : PEe X T W C e x) (hs : notStar e = true) : PEe X T W C (.Call (.Name "abs" p0) [e] [] pos) (.bv .abs x) := by
  refine PE.weak (pe_callB call_abs hb.1 hb.2 (by decide +kernel) (pa1 he hs) (by decide +kernel) (by decide +kernel) (star_cons hs) rfl) fun σ H Q h => v_start h fun y v h1 m1 H1 ry rh1 p => ?_
  cases ry with
  | int i => exact ⟨i, rfl, p.same rh1 (.int _)⟩
  | _ => exact p.elim
theorem r_intf {e : Expr} {x : Ex} {p0 : Pos} (hb : Bn X "int") (he : PEe X T W C e x) (hs : notStar e = true) : PEe X T W C (.Call (.Name "int" p0) [e] [] pos) (.bv .int x) := by
  refine PE.weak (pe_callTy call_int1 hb.1 hb.2 (by decide +kernel) (pa1 he hs) (by decide +kernel) (by decide +kernel) (star_cons hs) rfl) fun σ H Q h => v_start h fun y v h1 m1 H1 ry rh1 p => ?_
  cases ry with
  | int i => exact .inl ⟨i, rfl, p.same rh1 (.int _)⟩
  | bl k => exact .inr ⟨k, rfl, p.same rh1 (.int _)⟩
  | _ => exact p.elim
end
end MP
namespace MP
open PySem PySem.Builtin PySem.Builtin.Str PySem.StrLaws

def occs (c : Nat) : Nat → List Nat → List Nat
  | _, [] => []
  | a, x :: r => if x = c then a :: occs c (a + 1) r else occs c (a + 1) r
theorem subAt_one (l : List Nat) (c i : Nat) : subAt (toS l) (toS [c]) i = decide (l[i]? = some c) := by
  unfold subAt toS
  have e1 : (⟨[c].toArray⟩ : Str).length = 1 := rfl
  rw [e1]
  by_cases h : i < l.length
  · have : (l.toArray.extract i (i + 1)) = [l[i]].toArray := by
      apply Array.toList_inj.mp
      simp only [Array.toList_extract, List.extract_eq_take_drop, List.toList_toArray]
      rw [show i + 1 - i = 1 by omega, List.drop_eq_getElem_cons h]
      rfl
    show (l.toArray.extract i (i + 1) == [c].toArray) = _
    rw [this, List.getElem?_eq_getElem h]
    by_cases e : l[i] = c
    · subst e; simp
    · rw [decide_eq_false (fun z => e (Option.some.inj z))]
      refine beq_eq_false_iff_ne.mpr fun z => e ?_
      have := congrArg Array.toList z
      simpa using this
  · have : (l.toArray.extract i (i + 1)) = #[] := by
      apply Array.toList_inj.mp
      simp only [Array.toList_extract, List.extract_eq_take_drop, List.toList_toArray]
      rw [List.drop_eq_nil_of_le (by omega), List.take_nil]
    show (l.toArray.extract i (i + 1) == [c].toArray) = _
    rw [this, List.getElem?_eq_none (by omega)]
    rfl
theorem occ_loop (l : List Nat) (c : Nat) : ∀ (n a : Nat) (acc : Array Nat) (free : Nat), l.length = a + n → free ≤ a → acc.size ≤ a →
    (forIn (List.range' a (n + 1)) (acc, free) (occBody (toS l) (toS [c]) l.length (l.length + 1))).run.fst.toList = acc.toList ++ occs c a (l.drop a) := by
  intro n
  induction n with
  | zero =>
    intro a acc free hl hf hs
    rw [List.drop_eq_nil_of_le (by omega), List.range'_succ, List.range'_zero, List.forIn_cons]
    unfold occBody
    rw [if_neg (by
      have : (toS [c]).length = 1 := rfl
      omega)]
    simp [occs]
  | succ n ih =>
    intro a acc free hl hf hs
    have ha : a < l.length := by omega
    rw [List.range'_succ, List.forIn_cons]
    rw [List.drop_eq_getElem_cons ha, occs]
    unfold occBody
    rw [subAt_one, List.getElem?_eq_getElem ha]
    by_cases e : l[a] = c
    · rw [if_pos e, if_pos ⟨⟨⟨by show acc.size < l.length + 1; omega, hf⟩, by show a + (toS [c]).length ≤ _; show a + 1 ≤ l.length; omega⟩, by rw [e]; simp⟩]
      have := ih (a + 1) (acc.push a) (a + (toS [c]).length) (by omega) (by show a + 1 ≤ a + 1; omega) (by rw [Array.size_push]; omega)
      unfold occBody at this
      rw [show (pure (ForInStep.yield (acc.push a, a + (toS [c]).length)) : Id _) >>= _ = _ from rfl]
      refine Eq.trans this ?_
      rw [Array.toList_push, List.append_assoc]
      rfl
    · rw [if_neg e, if_neg (by
        rintro ⟨_, z⟩
        rw [decide_eq_true_eq] at z
        exact e (Option.some.inj z))]
      have := ih (a + 1) acc free (by omega) (by omega) (by omega)
      unfold occBody at this
      exact this
theorem occ_one (l : List Nat) (c : Nat) : occurrences (toS l) (toS [c]) 0 (toS l).length ((toS l).length + 1) = occs c 0 l := by
  rw [occ_eq]
  have e : (toS l).length = l.length := str_len l
  rw [e]
  have := occ_loop l c l.length 0 #[] 0 (by omega) (by omega) (by simp)
  simpa using this
theorem strSub_toS (l : List Nat) (a b : Nat) : strSub (toS l) a b = toS ((l.drop a).take (b - a)) := by
  unfold strSub toS
  congr 1
  apply Array.toList_inj.mp
  simp [Array.toList_extract, List.extract_eq_take_drop]
theorem splitL_cons (c : Nat) (l : List Nat) : ∃ w ws, splitL c l = w :: ws := by
  cases l with
  | nil => exact ⟨_, _, rfl⟩
  | cons x r =>
    unfold splitL
    by_cases e : x = c
    · rw [if_pos e]; exact ⟨_, _, rfl⟩
    · rw [if_neg e]
      cases splitL c r <;> exact ⟨_, _, rfl⟩
theorem parts_one (l : List Nat) (c : Nat) : ∀ (n a st : Nat), l.length = a + n → st ≤ a → ∀ w ws, splitL c (l.drop a) = w :: ws →
    partsFrom (toS l) 1 st (occs c a (l.drop a)) = toS (((l.drop st).take (a - st)) ++ w) :: ws.map toS := by
  intro n
  induction n with
  | zero =>
    intro a st hl hst w ws e
    rw [List.drop_eq_nil_of_le (by omega)] at e ⊢
    cases e
    show [strSub (toS l) st (toS l).length] = _
    rw [strSub_toS, show (toS l).length = l.length from str_len l, List.append_nil, hl]
    rfl
  | succ n ih =>
    intro a st hl hst w ws e
    have ha : a < l.length := by omega
    rw [List.drop_eq_getElem_cons ha] at e ⊢
    unfold occs
    unfold splitL at e
    by_cases h : l[a] = c
    · rw [if_pos h] at e ⊢
      cases e
      obtain ⟨w, ws, e2⟩ := splitL_cons c (l.drop (a + 1))
      have := ih (a + 1) (a + 1) (by omega) (Nat.le_refl _) w ws e2
      show strSub (toS l) st a :: partsFrom (toS l) 1 (a + 1) (occs c (a + 1) (l.drop (a + 1))) = _
      rw [this, strSub_toS, e2, List.append_nil]
      simp
    · rw [if_neg h] at e ⊢
      obtain ⟨w2, ws2, e2⟩ := splitL_cons c (l.drop (a + 1))
      rw [e2] at e
      simp only at e
      cases e
      have := ih (a + 1) st (by omega) (by omega) w2 ws e2
      rw [this]
      congr 2
      rw [show a + 1 - st = (a - st) + 1 by omega, List.take_add_one]
      have g : (l.drop st)[a - st]? = some l[a] := by
        rw [List.getElem?_drop, show st + (a - st) = a by omega, List.getElem?_eq_getElem ha]
      rw [g]
      simp
theorem split_one (l : List Nat) (c : Nat) (hc : c < 256) : Txt.split (toS l) (toS [c]) = (splitL c l).map toS := by
  have hk : Str.strKind (toS [c]) = 1 := by
    unfold Str.strKind
    rw [if_pos]
    show ([c].toArray).all (· < 256) = true
    simpa using hc
  have hk2 : 1 ≤ Str.strKind (toS l) := by
    unfold Str.strKind
    split
    · exact Nat.le_refl _
    · split <;> decide
  cases l with
  | nil =>
    unfold Txt.split
    rw [if_pos (by
      show (decide ((toS []).length < (toS [c]).length) || _) = true
      rfl)]
    rfl
  | cons x r =>
    unfold Txt.split
    rw [if_neg (by
      rw [hk, decide_eq_false (show ¬ (toS (x :: r)).length < (toS [c]).length by show ¬ (r.length + 1 < 1); omega), decide_eq_false (show ¬ Str.strKind (toS (x :: r)) < 1 by omega)]
      exact Bool.false_ne_true)]
    rw [occ_one, partsBetween_eq]
    have hl : (toS [c]).length = 1 := rfl
    rw [hl]
    obtain ⟨w, ws, e⟩ := splitL_cons c (x :: r)
    have p := parts_one (x :: r) c (x :: r).length 0 0 (by omega) (Nat.le_refl _) w ws e
    rw [List.drop_zero] at p
    rw [p, e]
    simp only [Nat.sub_self, List.take_zero, List.nil_append, List.map_cons]
    split
    · rename_i h0
      have o0 : occs c 0 (x :: r) = [] := List.isEmpty_iff.mp h0
      rw [o0] at p
      have p2 : [strSub (toS (x :: r)) 0 (toS (x :: r)).length] = toS ([] ++ w) :: ws.map toS := p
      rw [strSub_toS] at p2
      have : (toS (x :: r)).length = (x :: r).length := str_len _
      rw [this] at p2
      simpa using p2
    · rfl
end MP
namespace MP
open PySem PySem.Spec PyProof.Rows L2
section
variable {X : Cx} {T : Tb} {W : SW} {C : Callee} {pos : Pos}

/-! ### texts -/
theorem glued_fold (s : List Nat) : ∀ (ys : List (List Nat)) (x : List Nat), ((ys.map toS).foldl (fun acc (p : Str) => acc ++ (toS s).cps ++ p.cps) x.toArray) = (joinL s (x :: ys)).toArray
  | [], x => rfl
  | y :: ys, x => by
    rw [List.map_cons, List.foldl_cons]
    have e : (x.toArray ++ (toS s).cps ++ (toS y).cps) = (x ++ (s ++ y)).toArray := by
      apply Array.toList_inj.mp
      simp [toS]
    rw [e, glued_fold s ys (x ++ (s ++ y))]
    congr 1
    cases ys with
    | nil => simp [joinL]
    | cons z r => simp [joinL, List.append_assoc]
theorem join_toS (s : List Nat) (ys : List (List Nat)) : Txt.join (toS s) (ys.map toS) = toS (joinL s ys) := by
  cases ys with
  | nil => rfl
  | cons y r =>
    show Builtin.Str.glued (toS s) (toS y :: r.map toS) = _
    unfold Builtin.Str.glued
    show (⟨((r.map toS).foldl (fun acc (p : Str) => acc ++ (toS s).cps ++ p.cps) y.toArray)⟩ : Str) = _
    rw [glued_fold]
    rfl
theorem r_join {o e : Expr} {x : Ex} {s : Sx} {apos : Pos} (ho : PEe X T W C o x) (he : PQe X T W C e s) (hs : notStar e = true) (hn : notCall o = true) (hl : (apos.endLine == pos.line) = true) :
    PEe X T W C (.Call (.Attribute o "join" apos) [e] [] pos) (.join x s) := by
  refine PE.weak (pe_bm PySem.F.plainAttrs_str PySem.F.slot_str_join PySem.F.type_str_join mt_join ho (pa1 he hs) (attBase hn) (by rw [star_all (by simp [hs])]; rfl) hl (star_cons hs) rfl) fun σ H Q h => ?_
  obtain ⟨m, sg, h, rs, rh, p⟩ := h
  rw [evE] at p
  refine ⟨m, sg, h, rs, rh, Post.bind p fun v vv h1 m1 H1 rv rh1 e1 p1 => ?_⟩
  cases rv with
  | str z =>
    refine ⟨rfl, m1, sg, h1, rs.mono rh e1, rh1, Post.bind p1 fun q w h2 m2 H2 rq rh2 e2 p2 => ?_⟩
    obtain ⟨a, vs, ew, hq, rv⟩ := rq
    subst ew
    unfold joinI at p2
    cases e3 : asStrs q.2 with
    | none => rw [e3] at p2; exact p2.elim
    | some ys =>
      rw [e3] at p2
      simp only at p2
      split at p2
      · rename_i hl
        refine ⟨toS z, a, ys.map toS, rfl, rfl, ?_, ?_, ?_⟩
        · rw [← strs_of rv e3]
          cases z : q.1 with
          | true => rw [z] at hq; exact .inr hq
          | false => rw [z] at hq; exact .inl hq
        · rw [List.map_map, List.length_map, show (toS z).length = z.length from str_len z]
          rw [show ((fun x => Str.length x) ∘ toS) = fun l : List Nat => l.length from funext fun l => str_len l]
          exact hl
        · rw [join_toS]
          exact p2.same rh2 (.str _)
      · exact p2.elim
  | _ => exact p1.elim
theorem r_split {o e : Expr} {x y : Ex} {apos : Pos} (ho : PEe X T W C o x) (he : PEe X T W C e y) (hs : notStar e = true) (hn : notCall o = true) (hl : (apos.endLine == pos.line) = true) :
    PEe X T W C (.Call (.Attribute o "split" apos) [e] [] pos) (.split x y) := by
  refine PE.weak (pe_bm PySem.F.plainAttrs_str PySem.F.slot_str_split PySem.F.type_str_split mt_split ho (pa1 he hs) (attBase hn) (by rw [star_all (by simp [hs])]; rfl) hl (star_cons hs) rfl) fun σ H Q h => ?_
  obtain ⟨m, sg, h, rs, rh, p⟩ := h
  rw [evE] at p
  refine ⟨m, sg, h, rs, rh, Post.bind p fun v vv h1 m1 H1 rv rh1 e1 p1 => ?_⟩
  cases rv with
  | str z =>
    refine ⟨rfl, m1, sg, h1, rs.mono rh e1, rh1, Post.bind p1 fun q w h2 m2 H2 rq rh2 e2 p2 => ?_⟩
    unfold splitI at p2
    split at p2
    · rename_i c
      split at p2
      · rename_i hc
        cases rq
        refine ⟨toS z, toS [c], rfl, rfl, rfl, by rw [show (toS z).length = z.length from str_len z]; exact hc.2, fun p' hp' => ?_⟩
        rw [split_one z c hc.1]
        refine PostV.newObj p2 rh2 (.lst ?_) hp'
        have all : ∀ ls : List (List Nat), RVs X.K m2 H2 (ls.map .str) ((ls.map toS).map V.str) := fun ls => by
          induction ls with
          | nil => exact .nil
          | cons l ls ih => exact .cons (.str l) ih
        exact all _
      · exact p2.elim
    · exact p2.elim
  | _ => exact p1.elim
theorem r_app {o e : Expr} {x y : Ex} {apos : Pos} (ho : PEe X T W C o x) (he : PEe X T W C e y) (hs : notStar e = true) (hn : notCall o = true) (hl : (apos.endLine == pos.line) = true) :
    PEe X T W C (.Call (.Attribute o "append" apos) [e] [] pos) (.app x y) := by
  refine PE.weak (pe_bm PySem.F.plainAttrs_list PySem.F.slot_list_append PySem.F.type_list_append mt_append ho (pa1 he hs) (attBase hn) (by rw [star_all (by simp [hs])]; rfl) hl (star_cons hs) rfl) fun σ H Q h => ?_
  obtain ⟨m, sg, h, rs, rh, p⟩ := h
  rw [evE] at p
  refine ⟨m, sg, h, rs, rh, Post.bind p fun v vv h1 m1 H1 rv rh1 e1 p1 => ?_⟩
  cases e0 : litems h1 v with
  | none => simp only [e0] at p1; exact p1.elim
  | some xs0 =>
    simp only [e0] at p1
    obtain ⟨a, vs, ev, hq, _⟩ := litems_of rh1 rv e0
    refine ⟨?_, m1, sg, h1, rs.mono rh e1, rh1, Post.bind p1 fun q w h2 m2 H2 rq rh2 e2 p2 => ?_⟩
    · subst ev
      exact .inl ⟨rfl, vs, hq⟩
    · have rv2 := rv.mono rh1 e2
      cases rv2 with
      | loc q2 =>
        unfold appI at p2
        obtain ⟨o, ho, f1, f2, f3⟩ := rh2.at' q2
        simp only [f1] at p2
        cases f3 with
        | lst rl =>
          simp only at p2
          split at p2
          · rename_i hz
            refine ⟨_, _, _, rfl, rfl, f2, by rw [← rl.length]; exact hz, ?_⟩
            obtain ⟨r', e'⟩ := rh2.write q2 (.lst (rl.append (.cons rq .nil)))
            exact p2 _ _ _ r' e' .non
          · exact p2.elim
        | _ => exact p2.elim
      | _ => exact p2.elim

/-! ### kinds -/
def tyN : Ty → Option String
  | .int => some "int"
  | .bool => some "bool"
  | .str => some "str"
  | .tuple => some "tuple"
  | .list => some "list"
  | .dict => some "dict"
  | .cls _ => none
/-- a value's kind as the model names it -/
def valK (h : IH) : IV → Option String
  | .non => some "NoneType"
  | .bl _ => some "bool"
  | .int _ => some "int"
  | .str _ => some "str"
  | .tup _ => some "tuple"
  | .frl _ => none
  | .loc n => match h[n]? with
    | some (.lst _) => some "list"
    | some (.dct _) => some "dict"
    | _ => none
theorem valK_ty {m : List Addr} {H : Hp} {h : IH} (r : RH (Rx X T) m H h) {x : IV} {v : V} {k : String} (q : RV X.K m H x v) (e : valK h x = some k) : TyX X.K H v (.type k) := by
  cases q with
  | non => cases e; exact .base .non
  | bl i => cases e; exact .base (.bl i)
  | int i => cases e; exact .base (.int i)
  | str i => cases e; exact .base (.str _)
  | frl _ _ => cases e
  | tup a rs =>
    cases e
    rcases a with (a | ⟨o, a⟩) | ⟨o, its, n, h1, h2, _⟩
    · exact .base (.tup a)
    · exact .fTuple a
    · exact .kTuple h1 h2
  | loc a =>
    obtain ⟨o, ho, f1, f2, f3⟩ := r.at' a
    unfold valK at e
    simp only [f1] at e
    cases f3 with
    | lst rl => cases e; exact .base (.lst f2)
    | dct rl => cases e; exact .base (.dK f2)
    | ins _ _ => cases e
theorem isTy_kit {h : IH} {x : IV} {t : Ty} {b : Bool} (e : isTy h x t = some b) : ∃ k n, valK h x = some k ∧ tyN t = some n ∧ kitB k n = some b := by
  cases x with
  | non => cases t <;> first | cases e | skip
           all_goals exact ⟨"NoneType", _, rfl, rfl, by decide +kernel⟩
  | bl i => cases t <;> first | cases e | skip
            all_goals exact ⟨"bool", _, rfl, rfl, by decide +kernel⟩
  | int i => cases t <;> first | cases e | skip
             all_goals exact ⟨"int", _, rfl, rfl, by decide +kernel⟩
  | str i => cases t <;> first | cases e | skip
             all_goals exact ⟨"str", _, rfl, rfl, by decide +kernel⟩
  | tup i => cases t <;> first | cases e | skip
             all_goals exact ⟨"tuple", _, rfl, rfl, by decide +kernel⟩
  | frl _ => cases e
  | loc n =>
    unfold isTy at e
    unfold valK
    cases z : h[n]? with
    | none => simp only [z] at e; cases t <;> cases e
    | some o =>
      cases o with
      | lst _ =>
        simp only [z] at e ⊢
        cases t <;> first | cases e | skip
        all_goals exact ⟨"list", _, rfl, rfl, by decide +kernel⟩
      | dct _ =>
        simp only [z] at e ⊢
        cases t <;> first | cases e | skip
        all_goals exact ⟨"dict", _, rfl, rfl, by decide +kernel⟩
      | ins _ _ => simp only [z] at e; cases t <;> cases e
/-- the names of kinds, written as they are -/
def tyS : Ty → Option Str
  | .int => some "int"
  | .bool => some "bool"
  | .str => some "str"
  | .tuple => some "tuple"
  | .list => some "list"
  | .dict => some "dict"
  | .cls _ => none
theorem ty_boot {t : Ty} {x : Str} (h : tyS t = some x) : ∃ n, tyN t = some n ∧ bootBuiltins x = some (.type n) ∧ (x ≠ "__name__") ∧ (x == ("__debug__" : Str)) = false := by
  cases t <;> cases h
  all_goals exact ⟨_, rfl, by decide +kernel, by decide +kernel, by decide +kernel⟩
theorem pe_ty {t : Ty} {x : Str} {n : String} {p : Pos} (hb : Bn X x) (h : tyS t = some x) (hn : tyN t = some n) : PE X (.Name x p) (tC (.ty n)) := by
  obtain ⟨n', h1, h2, h3, h4⟩ := ty_boot h
  rw [hn] at h1; cases h1
  exact pe_bltn hb.1 hb.2 h2 rfl h3 h4
theorem r_isi1 {e : Expr} {x : Ex} {t : Ty} {z : Str} {p0 p1 : Pos} (hb : Bn X "isinstance") (hz : Bn X z) (ht : tyS t = some z) (he : PEe X T W C e x) (hs : notStar e = true) :
    PEe X T W C (.Call (.Name "isinstance" p0) [e, .Name z p1] [] pos) (.isi x [t] true) := by
  obtain ⟨n, hn, _⟩ := ty_boot ht
  refine PE.weak (pe_callB call_isi hb.1 hb.2 (by decide +kernel) (pa_cons he (pa1 (pe_ty hz ht hn) rfl) (star_cons hs)) (by decide +kernel) (by decide +kernel) (star_cons hs) (star_any (by simp [notStar]))) fun σ H Q h => ?_
  obtain ⟨m, sg, h, rs, rh, p⟩ := h
  rw [evE] at p
  refine ⟨m, sg, h, rs, rh, Post.bind p fun v vv h1 m1 H1 rv rh1 e1 p1 => ?_⟩
  unfold isTys at p1
  cases e2 : isTy h1 v t with
  | none => rw [e2] at p1; exact p1.elim
  | some b =>
    obtain ⟨k, n', hv, hn', hk⟩ := isTy_kit e2
    rw [hn] at hn'; cases hn'
    refine ⟨vv, .ty n, .type k, .type n, b, rfl, .ty n, valK_ty rh1 rv hv, kit_ty hk, ?_⟩
    rw [e2] at p1
    cases b with
    | true => exact p1.same rh1 (.bl _)
    | false => exact p1.same rh1 (.bl _)
/-- the kinds in a tuple -/
inductive TyEs (X : Cx) : List Expr → List Ty → Prop
  | nil : TyEs X [] []
  | cons {t : Ty} {z : Str} {p : Pos} {es : List Expr} {ts : List Ty} : Bn X z → tyS t = some z → TyEs X es ts → TyEs X (.Name z p :: es) (t :: ts)
theorem TyEs.star {es : List Expr} {ts : List Ty} (h : TyEs X es ts) : es.all notStar = true := by
  induction h with
  | nil => rfl
  | cons _ _ _ ih => rw [List.all_cons, ih]; rfl
theorem TyEs.pa {es : List Expr} {ts : List Ty} (h : TyEs X es ts) : ∃ cs us, Paired ClsV cs us ∧ cs.length = ts.length ∧ PA X es (fun _ H Q => Q cs H) ∧
    ∀ (g : IH) (x : IV) (k : String) (b : Bool), valK g x = some k → isTys g x ts = some b → PySem.W.kitAny X.K (.type k) us = some b := by
  induction h with
  | nil => exact ⟨[], [], .nil, rfl, PA.weak pa_nil fun σ H Q h => h, fun g x k b _ e => by cases e; rfl⟩
  | @cons t z p es ts hb ht _ ih =>
    obtain ⟨cs, us, h1, h2, h3, h4⟩ := ih
    obtain ⟨n, hn, _⟩ := ty_boot ht
    refine ⟨.ty n :: cs, .type n :: us, .cons (.ty n) h1, by rw [List.length_cons, List.length_cons, h2], PA.weak (pa_cons (pe_ty hb ht hn) h3 (star_cons rfl)) fun σ H Q h => h, fun g x k b hv e => ?_⟩
    unfold isTys at e
    cases e2 : isTy g x t with
    | none => rw [e2] at e; cases e
    | some b2 =>
      obtain ⟨k', n', hv', hn', hk⟩ := isTy_kit e2
      rw [hn] at hn'; cases hn'
      rw [hv] at hv'; cases hv'
      rw [e2] at e
      cases b2 with
      | true => cases e; exact kitAny_cons (kit_ty hk) (fun z => nomatch z) fun _ => rfl
      | false => exact kitAny_cons (kit_ty hk) (fun _ => h4 g x k b hv e) fun z => nomatch z
theorem r_isi {e : Expr} {es : List Expr} {x : Ex} {t : Ty} {ts : List Ty} {p0 p1 : Pos} {kk : Nat} (hb : Bn X "isinstance") (ht : TyEs X es (t :: ts)) (he : PEe X T W C e x) (hs : notStar e = true) (hl : (t :: ts).length ≤ 100) :
    PEe X T W C (.Call (.Name "isinstance" p0) [e, .Tuple es kk p1] [] pos) (.isi x (t :: ts) false) := by
  obtain ⟨cs, us, h1, h2, h3, h4⟩ := TyEs.pa ht
  refine PE.weak (pe_callB call_isiT hb.1 hb.2 (by decide +kernel) (pa_cons he (pa1 (pe_tup h3) rfl) (star_cons hs)) (by decide +kernel) (by decide +kernel) (star_cons hs) (star_any (by simp [notStar]))) fun σ H Q h => ?_
  obtain ⟨m, sg, h, rs, rh, p⟩ := h
  rw [evE] at p
  refine ⟨m, sg, h, rs, rh, Post.bind p fun v vv h1' m1 H1 rv rh1 e1 p1 => ?_⟩
  refine ⟨by rw [h2]; exact Nat.le_trans hl (by decide), fun tp htp => ?_⟩
  cases e2 : isTys h1' v (t :: ts) with
  | none => rw [e2] at p1; exact p1.elim
  | some b =>
    rw [e2] at p1
    have hv : ∃ k, valK h1' v = some k := by
      unfold isTys at e2
      cases e3 : isTy h1' v t with
      | none => rw [e3] at e2; cases e2
      | some b3 =>
        obtain ⟨k, _, hv, _⟩ := isTy_kit e3
        exact ⟨k, hv⟩
    obtain ⟨k, hv⟩ := hv
    obtain ⟨r', e'⟩ := rh1.tuple (ho := .tup cs) htp
    exact ⟨vv, tp, cs, .type k, us, b, rfl, upd_same, h1, valK_ty r' (rv.mono rh1 e') hv, h4 h1' v k b hv e2, p1 _ _ _ r' e' (.bl _)⟩

/-! ### dicts of constants -/
/-- a module's dict, by its texts -/
def GlD (X : Cx) (x : Str) (kvs : List (List Nat × IV)) : Prop := ∃ a, X.mg x = some (.ref a) ∧ ∀ k v, lookK k kvs = some v → ∃ w, KDct X.K X.w a (toS k) w ∧ ∀ m H, RV X.K m H v w
theorem r_kdx {x : Str} {kvs : List (List Nat × IV)} {i : Expr} {y : Ex} {p0 : Pos} (hg : Gl X x) (hd : GlD X x kvs) (hx : (x == ("__debug__" : Str)) = false) (hi : PEe X T W C i y) (hn : notSl i = true) :
    PEe X T W C (.Subscript (.Name x p0) i pos) (.kdx x kvs y) := by
  obtain ⟨a, h1, h2⟩ := hd
  refine PE.weak (pe_ix ix_kdict (pe_glob (v := .ref a) hg h1 rfl hx) hi (plainIx hn)) fun σ H Q h => ?_
  obtain ⟨m, sg, h, rs, rh, p⟩ := h
  rw [evE] at p
  refine ⟨m, sg, h, rs, rh, Post.bind p fun v vv h1' m1 H1 rv rh1 e1 p1 => ?_⟩
  cases rv with
  | str k =>
    simp only at p1
    cases e : lookK k kvs with
    | none => rw [e] at p1; exact p1.elim
    | some v =>
      rw [e] at p1
      obtain ⟨w', h3, h4⟩ := h2 k v e
      exact ⟨a, toS k, w', rfl, rfl, h3, p1.same rh1 (h4 _ _)⟩
  | _ => exact p1.elim
/-- the pairs of a display of constants -/
inductive DdE : List (Option Expr) → List Expr → List (List Nat × IV) → List (Key × V) → Prop
  | nil : DdE [] [] [] []
  | str {z y : Str} {j j' : Nat} {p p' : Pos} {ks : List (Option Expr)} {vs : List Expr} {kvs : List (List Nat × IV)} {r : List (Key × V)} : DdE ks vs kvs r →
      DdE (some (.Constant (.str z) j p) :: ks) (.Constant (.str y) j' p' :: vs) ((z.cps.toList, .str y.cps.toList) :: kvs) ((Sum.inr z, .str y) :: r)
  | int {z : Str} {i : Int} {j j' : Nat} {p p' : Pos} {ks : List (Option Expr)} {vs : List Expr} {kvs : List (List Nat × IV)} {r : List (Key × V)} : DdE ks vs kvs r →
      DdE (some (.Constant (.str z) j p) :: ks) (.Constant (.int i) j' p' :: vs) ((z.cps.toList, .int i) :: kvs) ((Sum.inr z, .int i) :: r)
def ddT : List (Key × V) → List (TE × TE) := List.map fun p => (tC (kV p.1), tC p.2)
theorem DdE.pps {ks : List (Option Expr)} {vs : List Expr} {kvs : List (List Nat × IV)} {r : List (Key × V)} (h : DdE ks vs kvs r) : PPs X pos ks vs (ddT r) := by
  induction h with
  | nil => exact pps_nil
  | str _ ih => exact pps_cons pe_str pe_str ih
  | int _ ih => exact pps_cons pe_str pe_int ih
theorem dd_pairs {σ : L2.St} {H : Hp} : ∀ {r : List (Key × V)} {Q : List (V × V) → Hp → Prop}, Q (r.map fun kv => (kV kv.1, kv.2)) H → tPairs (ddT r) σ H Q
  | [], Q, h => h
  | (k, v) :: r, Q, h => dd_pairs (r := r) (Q := fun ps H => Q ((kV k, v) :: ps) H) h
theorem toS_of (z : Str) : toS z.cps.toList = z := by
  unfold toS
  cases z
  simp
theorem DdE.look {ks : List (Option Expr)} {vs : List Expr} {kvs : List (List Nat × IV)} {r : List (Key × V)} (h : DdE ks vs kvs r) {m : List Addr} {H : Hp} : ∀ {k : List Nat} {v : IV}, lookK k kvs = some v → ∃ w, valV r (Sum.inr (toS k)) = some w ∧ RV X.K m H v w := by
  induction h with
  | nil => intro k v e; cases e
  | @str z y j j' p p' ks vs kvs r _ ih =>
    intro k v e
    unfold lookK at e
    by_cases c : k = z.cps.toList
    · rw [if_pos c] at e
      cases e
      refine ⟨.str y, valV_pos (p := (Sum.inr z, V.str y)) (by rw [c, toS_of]), ?_⟩
      have q := RV.str (K := X.K) (m := m) (H := H) y.cps.toList
      rw [show (⟨y.cps.toList.toArray⟩ : Str) = y from toS_of y] at q
      exact q
    · rw [if_neg c] at e
      obtain ⟨w', h1, h2⟩ := ih e
      refine ⟨w', ?_, h2⟩
      rw [valV_neg (fun z' => c ?_)]
      · exact h1
      · have := Sum.inr.inj z'
        rw [this]
        show k = (toS k).cps.toList
        simp [toS]
  | @int z i j j' p p' ks vs kvs r _ ih =>
    intro k v e
    unfold lookK at e
    by_cases c : k = z.cps.toList
    · rw [if_pos c] at e
      cases e
      exact ⟨.int i, valV_pos (p := (Sum.inr z, V.int i)) (by rw [c, toS_of]), .int i⟩
    · rw [if_neg c] at e
      obtain ⟨w', h1, h2⟩ := ih e
      refine ⟨w', ?_, h2⟩
      rw [valV_neg (fun z' => c ?_)]
      · exact h1
      · have := Sum.inr.inj z'
        rw [this]
        show k = (toS k).cps.toList
        simp [toS]
theorem merge_nodup : ∀ (r acc : List (Key × V)), (acc ++ r).map (·.1) |>.Nodup → mergeK acc r = acc ++ r
  | [], acc, _ => by simp [mergeK]
  | (k, v) :: r, acc, h => by
    have hk : valV acc k = none := by
      cases e : valV acc k with
      | none => rfl
      | some w =>
        have a := valV_any k acc
        rw [e, Option.isSome_some, List.any_eq_true] at a
        obtain ⟨p, hp, q⟩ := a
        have q := of_decide_eq_true q
        rw [List.map_append, List.nodup_append] at h
        exact absurd q (h.2.2 _ (List.mem_map_of_mem hp) _ (by simp))
    show mergeK (putK acc k v) r = _
    rw [putK_new v hk, merge_nodup r (acc ++ [(k, v)]) (by simpa using h)]
    simp
theorem r_ddx {ks : List (Option Expr)} {vs : List Expr} {kvs : List (List Nat × IV)} {r : List (Key × V)} {i : Expr} {y : Ex} {p0 : Pos} (hu : X.A.units + 1 < cLine) (d : DdE ks vs kvs r) (hall : (ks.all fun x => x.isSome) = true) (hlen : ks.length = vs.length) (h0 : ks ≠ []) (h15 : ks.length ≤ 15)
    (hr : r.length ≤ 15) (hnd : (r.map (·.1)).Nodup) (hi : PEe X T W C i y) (hn : notSl i = true) : PEe X T W C (.Subscript (.Dict ks vs p0) i pos) (.ddx kvs y) := by
  refine PE.weak (pe_dget hu (pe_disp d.pps hall hlen h0 h15) hi (plainIx hn)) fun σ H Q h => ?_
  obtain ⟨m, sg, h, rs, rh, p⟩ := h
  rw [evE] at p
  intro dp hdp
  refine dd_pairs ⟨upd_same, r, rfl, hr, ?_⟩
  rw [upd_upd, merge_nodup r [] hnd, List.nil_append]
  obtain ⟨r', e'⟩ := rh.tuple (ho := .dK r) hdp
  have p := Post.ext p e'
  refine ⟨m, sg, h, rs.mono rh e', r', Post.bind p fun v vv h1' m1 H1 rv rh1 e1 p1 => ?_⟩
  cases rv with
  | str k =>
    simp only at p1
    cases e : lookK k kvs with
    | none => rw [e] at p1; exact p1.elim
    | some v =>
      rw [e] at p1
      obtain ⟨w', h3, h4⟩ := d.look (m := m1) (H := H1) e
      refine ⟨dp, w', rfl, .inl ⟨r, Sum.inr (toS k), .inl ?_, rfl, h3.symm⟩, p1.same rh1 h4⟩
      exact e1.keep _ _ (fun z => rh.live _ z hdp) upd_same
  | _ => exact p1.elim
end
end MP
namespace MP
open PySem PySem.Spec PyProof.Rows L2

/-! ### equality of values, as the guard asks it -/
mutual
theorem eqb_eq : ∀ {x y : IV}, IV.eqb x y = true → x = y
  | .non, y, h => by cases y <;> first | rfl | (simp [IV.eqb] at h)
  | .bl a, y, h => by cases y <;> first | (simp [IV.eqb] at h; subst h; rfl) | (simp [IV.eqb] at h)
  | .int a, y, h => by cases y <;> first | (simp [IV.eqb] at h; subst h; rfl) | (simp [IV.eqb] at h)
  | .str a, y, h => by cases y <;> first | (simp [IV.eqb] at h; subst h; rfl) | (simp [IV.eqb] at h)
  | .loc a, y, h => by cases y <;> first | (simp [IV.eqb] at h; subst h; rfl) | (simp [IV.eqb] at h)
  | .tup xs, y, h => by
    cases y with
    | tup ys => simp only [IV.eqb] at h; rw [eqbs_eq h]
    | _ => simp [IV.eqb] at h
  | .frl xs, y, h => by
    cases y with
    | frl ys => simp only [IV.eqb] at h; rw [eqbs_eq h]
    | _ => simp [IV.eqb] at h
theorem eqbs_eq : ∀ {xs ys : List IV}, IV.eqbs xs ys = true → xs = ys
  | [], ys, h => by cases ys <;> first | rfl | (simp [IV.eqbs] at h)
  | x :: xs, ys, h => by
    cases ys with
    | nil => simp [IV.eqbs] at h
    | cons y ys =>
      simp only [IV.eqbs, Bool.and_eq_true] at h
      rw [eqb_eq h.1, eqbs_eq h.2]
end
theorem grd_at {n : Nat} {xs : List IV} {g : Guard} {h : IH} (hm : (n, xs) ∈ g) (e : grd g h = true) : h[n]? = some (.lst xs) := by
  unfold grd at e
  rw [List.all_eq_true] at e
  have q := e _ hm
  simp only at q
  split at q
  · rename_i ys z
    rw [z, eqbs_eq q]
  · cases q

section
variable {X : Cx} {T : Tb} {W : SW} {C : Callee} {pos : Pos}
/-- J walks the items xs -/
def WJ (X : Cx) (T : Tb) (J : L2.It) (m1 : List Addr) (H1 : Hp) (xs : List IV) (g : Guard) : Prop :=
  ∀ m2 H2 h2 i, Ext m1 H1 m2 H2 → RH (Rx X T) m2 H2 h2 → grd g h2 = true →
    (∀ iv, xs[i]? = some iv → J.go i H2 ∧ ∀ x H', J.yld i H2 x H' → RH (Rx X T) m2 H' h2 ∧ Ext m2 H2 m2 H' ∧ RV X.K m2 H' iv x) ∧ (xs.length ≤ i → J.stop i H2)
def tI (X : Cx) (T : Tb) (W : SW) (ev : Sg → IH → Res (List IV × Guard)) : TI := fun σ H R => ∃ m sg h, RSg X.K m H sg σ ∧ RH (Rx X T) m H h ∧
  (match ev sg h with
  | .ok p h1 => ∀ m1 H1, RH (Rx X T) m1 H1 h1 → Ext m H m1 H1 → ∀ J, WJ X T J m1 H1 p.1 p.2 → R J H1
  | .exc c vs h' => ∀ m' H', RH (Rx X T) m' H' h' → Ext m H m' H' → W σ c vs h' m' H'
  | .bad => False)
abbrev PIe (X : Cx) (T : Tb) (W : SW) (C : Callee) (tg iter : Expr) (it : It) : Prop := PI X tg iter (tI X T W (evIt C it))

theorem wj_tup {a : Addr} {vs : List V} {xs : List IV} {m1 : List Addr} {H1 : Hp} {h1 : IH} (r : RH (Rx X T) m1 H1 h1) (q : SqT X.K H1 a vs) (rv : RVs X.K m1 H1 xs vs) : WJ X T (Itt X.K a) m1 H1 xs [] := by
  intro m2 H2 h2 i e r2 _
  have q2 := seqT_mono r e q
  have rv2 := rv.mono r e
  refine ⟨fun iv hi => ?_, fun hl => ⟨vs, q2, by rw [← rv.length]; exact hl⟩⟩
  obtain ⟨v, g1, g2⟩ := rv2.get hi
  refine ⟨⟨vs, v, q2, g1⟩, fun x H' y => ?_⟩
  obtain ⟨eh, y⟩ := y
  subst eh
  have ev := (y vs q2).symm.trans g1
  cases ev
  exact ⟨r2, r2.ext, g2⟩
theorem lst_at {n : Nat} {a : Addr} {xs : List IV} {m : List Addr} {H : Hp} {h : IH} (r : RH (Rx X T) m H h) (e : m[n]? = some a) (eh : h[n]? = some (.lst xs)) : ∃ vs, SqL X.K H a vs ∧ RVs X.K m H xs vs := by
  obtain ⟨o, ho, f1, f2, f3⟩ := r.at' e
  rw [eh] at f1; cases f1
  cases f3 with
  | lst rv => exact ⟨_, .inl (.inl f2), rv⟩
/-- a list, where it stands: its items at each turn -/
theorem lst_now {x : IV} {v : V} {xs : List IV} {m1 m2 : List Addr} {H1 H2 : Hp} {h1 h2 : IH} {g : Guard} (r : RH (Rx X T) m1 H1 h1) (q : RV X.K m1 H1 x v) (e : litems h1 x = some xs) (hg : ∀ p ∈ guardOf x xs, p ∈ g)
    (ex : Ext m1 H1 m2 H2) (r2 : RH (Rx X T) m2 H2 h2) (eg : grd g h2 = true) : ∃ a vs, v = .ref a ∧ SqL X.K H2 a vs ∧ RVs X.K m2 H2 xs vs := by
  cases q with
  | frl q rs =>
    cases e
    exact ⟨_, _, rfl, (frz_mono (K := X.K) r ex q).seq, rs.mono r ex⟩
  | loc q =>
    rename_i n a0
    obtain ⟨vs, h3, h4⟩ := lst_at r2 (ex.get q) (grd_at (hg (n, xs) (by simp [guardOf])) eg)
    exact ⟨_, vs, rfl, h3, h4⟩
  | _ => cases e
theorem wj_list {x : IV} {a : Addr} {xs : List IV} {m1 : List Addr} {H1 : Hp} {h1 : IH} (r : RH (Rx X T) m1 H1 h1) (q : RV X.K m1 H1 x (.ref a)) (e : litems h1 x = some xs) : WJ X T (Itl X.K a) m1 H1 xs (guardOf x xs) := by
  intro m2 H2 h2 i ex r2 eg
  obtain ⟨a', vs, ea, q2, rv2⟩ := lst_now r q e (fun _ z => z) ex r2 eg
  cases ea
  refine ⟨fun iv hi => ?_, fun hl => ⟨vs, q2, by rw [← rv2.length]; exact hl⟩⟩
  obtain ⟨v, g1, g2⟩ := rv2.get hi
  refine ⟨⟨vs, v, q2, g1⟩, fun x H' y => ?_⟩
  obtain ⟨eh, y⟩ := y
  subst eh
  have ev := (y vs q2).symm.trans g1
  cases ev
  exact ⟨r2, r2.ext, g2⟩
theorem enumL_get : ∀ (xs : List IV) (n i : Nat), (enumL n xs)[i]? = xs[i]?.map fun x => .tup [.int ((n + i : Nat) : Int), x]
  | [], n, i => by simp [enumL]
  | x :: xs, n, 0 => by simp [enumL]
  | x :: xs, n, i + 1 => by
    show (enumL (n + 1) xs)[i]? = xs[i]?.map _
    rw [enumL_get xs (n + 1) i]
    rw [show n + 1 + i = n + (i + 1) by omega]
theorem enumL_len : ∀ (xs : List IV) (n : Nat), (enumL n xs).length = xs.length
  | [], _ => rfl
  | x :: xs, n => by show (enumL (n + 1) xs).length + 1 = xs.length + 1; rw [enumL_len xs (n + 1)]
theorem zipL_get : ∀ (xs ys : List IV) (i : Nat), (zipL xs ys)[i]? = match xs[i]?, ys[i]? with
    | some x, some y => some (.tup [x, y])
    | _, _ => none
  | [], ys, i => by simp [zipL]
  | x :: xs, [], i => by
    simp only [zipL, List.getElem?_nil]
    cases (x :: xs)[i]? <;> rfl
  | x :: xs, y :: ys, 0 => by simp [zipL]
  | x :: xs, y :: ys, i + 1 => zipL_get xs ys i
theorem zipL_len : ∀ (xs ys : List IV), (zipL xs ys).length = min xs.length ys.length
  | [], ys => by simp [zipL]
  | x :: xs, [] => by simp [zipL]
  | x :: xs, y :: ys => by
    show (zipL xs ys).length + 1 = min (xs.length + 1) (ys.length + 1)
    rw [zipL_len xs ys]
    omega
/-- a turn's new pair -/
theorem pair_new {m2 : List Addr} {H2 : Hp} {h2 : IH} {x y : IV} {u v : V} {p : Addr} (r2 : RH (Rx X T) m2 H2 h2) (hp : H2 p = none) (rx : RV X.K m2 H2 x u) (ry : RV X.K m2 H2 y v) :
    RH (Rx X T) m2 (upd H2 p (.tup [u, v])) h2 ∧ Ext m2 H2 m2 (upd H2 p (.tup [u, v])) ∧ RV X.K m2 (upd H2 p (.tup [u, v])) (.tup [x, y]) (.ref p) := by
  obtain ⟨r', e'⟩ := r2.tuple (ho := .tup [u, v]) hp
  exact ⟨r', e', .tup (.inl (.inl upd_same)) (.cons (rx.mono r2 e') (.cons (ry.mono r2 e') .nil))⟩
theorem wj_enum {x : IV} {a : Addr} {xs : List IV} {m1 : List Addr} {H1 : Hp} {h1 : IH} (r : RH (Rx X T) m1 H1 h1) (q : RV X.K m1 H1 x (.ref a)) (e : litems h1 x = some xs) : WJ X T (L2.Ite X.K a) m1 H1 (enumL 0 xs) (guardOf x xs) := by
  intro m2 H2 h2 i ex r2 eg
  obtain ⟨a', vs, ea, q2, rv2⟩ := lst_now r q e (fun _ z => z) ex r2 eg
  cases ea
  refine ⟨fun iv hi => ?_, fun hl => ⟨vs, q2, by rw [← rv2.length]; rw [enumL_len] at hl; exact hl⟩⟩
  rw [enumL_get] at hi
  cases hx : xs[i]? with
  | none => rw [hx] at hi; cases hi
  | some y =>
    rw [hx] at hi
    obtain ⟨v, g1, g2⟩ := rv2.get hx
    refine ⟨⟨vs, v, q2, g1⟩, fun x H' yy => ?_⟩
    obtain ⟨p, v', ev, hp, eH, f⟩ := yy
    subst ev; subst eH
    have ev := (f vs q2).symm.trans g1
    cases ev
    cases hi
    have := pair_new (x := .int (i : Nat)) r2 hp (.int _) g2
    rw [Nat.zero_add]
    exact this
theorem wj_zipL {x y : IV} {a b : Addr} {xs ys : List IV} {m1 : List Addr} {H1 : Hp} {h1 : IH} (r : RH (Rx X T) m1 H1 h1) (q : RV X.K m1 H1 x (.ref a)) (e : litems h1 x = some xs) (q' : RV X.K m1 H1 y (.ref b)) (e' : litems h1 y = some ys) :
    WJ X T (Itz X.K a b) m1 H1 (zipL xs ys) (guardOf x xs ++ guardOf y ys) := by
  intro m2 H2 h2 i ex r2 eg
  obtain ⟨a', vs, ea, q2, rv2⟩ := lst_now r q e (fun _ z => List.mem_append_left _ z) ex r2 eg
  obtain ⟨b', ws, eb, q3, rv3⟩ := lst_now r q' e' (fun _ z => List.mem_append_right _ z) ex r2 eg
  cases ea
  cases eb
  refine ⟨fun iv hi => ?_, fun hl => ⟨vs, ws, q2, q3, by rw [← rv2.length, ← rv3.length]; rw [zipL_len] at hl; omega⟩⟩
  rw [zipL_get] at hi
  cases hx : xs[i]? with
  | none => rw [hx] at hi; cases hi
  | some z =>
    cases hy : ys[i]? with
    | none => rw [hx, hy] at hi; cases hi
    | some z' =>
      rw [hx, hy] at hi
      cases hi
      obtain ⟨v, g1, g2⟩ := rv2.get hx
      obtain ⟨v', g3, g4⟩ := rv3.get hy
      refine ⟨⟨vs, ws, v, v', q2, q3, g1, g3⟩, fun x H' yy => ?_⟩
      obtain ⟨p, u, u', ev, hp, eH, f, f'⟩ := yy
      subst ev; subst eH
      have e1 := (f vs q2).symm.trans g1
      have e2 := (f' ws q3).symm.trans g3
      cases e1; cases e2
      exact pair_new r2 hp g2 g4
theorem wj_zipT {a b : Addr} {vs ws : List V} {xs ys : List IV} {m1 : List Addr} {H1 : Hp} {h1 : IH} (r : RH (Rx X T) m1 H1 h1) (q : SqT X.K H1 a vs) (rv : RVs X.K m1 H1 xs vs) (q' : SqT X.K H1 b ws) (rw' : RVs X.K m1 H1 ys ws) :
    WJ X T (RZ.ItzT X.K a b) m1 H1 (zipL xs ys) [] := by
  intro m2 H2 h2 i ex r2 eg
  have q2 := seqT_mono r ex q
  have q3 := seqT_mono r ex q'
  have rv2 := rv.mono r ex
  have rv3 := rw'.mono r ex
  refine ⟨fun iv hi => ?_, fun hl => ⟨vs, ws, q2, q3, by rw [← rv2.length, ← rv3.length]; rw [zipL_len] at hl; omega⟩⟩
  rw [zipL_get] at hi
  cases hx : xs[i]? with
  | none => rw [hx] at hi; cases hi
  | some z =>
    cases hy : ys[i]? with
    | none => rw [hx, hy] at hi; cases hi
    | some z' =>
      rw [hx, hy] at hi
      cases hi
      obtain ⟨v, g1, g2⟩ := rv2.get hx
      obtain ⟨v', g3, g4⟩ := rv3.get hy
      refine ⟨⟨vs, ws, v, v', q2, q3, g1, g3⟩, fun x H' yy => ?_⟩
      obtain ⟨p, u, u', ev, hp, eH, f, f'⟩ := yy
      subst ev; subst eH
      have e1 := (f vs q2).symm.trans g1
      have e2 := (f' ws q3).symm.trans g3
      cases e1; cases e2
      exact pair_new r2 hp g2 g4
theorem rngL_get (lo hi : Int) (i : Nat) : (rngL lo hi)[i]? = if i < (hi - lo).toNat then some (.int (lo + (i : Nat))) else none := by
  unfold rngL
  rw [List.getElem?_map]
  by_cases h : i < (hi - lo).toNat
  · rw [if_pos h, List.getElem?_range h]; rfl
  · rw [if_neg h, List.getElem?_eq_none (by simpa using h)]; rfl
theorem rngL_len (lo hi : Int) : (rngL lo hi).length = (hi - lo).toNat := by simp [rngL]
theorem wj_rng {lo hi : Int} {m1 : List Addr} {H1 : Hp} : WJ X T (Itr lo (hi - lo).toNat) m1 H1 (rngL lo hi) [] := by
  intro m2 H2 h2 i ex r2 _
  refine ⟨fun iv h => ?_, fun hl => by rw [rngL_len] at hl; exact hl⟩
  rw [rngL_get] at h
  split at h
  · rename_i hlt
    cases h
    refine ⟨hlt, fun x H' y => ?_⟩
    obtain ⟨e1, e2⟩ := y
    subst e1; subst e2
    exact ⟨r2, r2.ext, .int _⟩
  · cases h
theorem wj_str {l : List Nat} {m1 : List Addr} {H1 : Hp} : WJ X T (Its (toS l)) m1 H1 (l.map fun c => .str [c]) [] := by
  intro m2 H2 h2 i ex r2 _
  refine ⟨fun iv h => ?_, fun hl => by rw [List.length_map] at hl; show (toS l).cps.size ≤ i; simpa [toS] using hl⟩
  rw [List.getElem?_map] at h
  cases e : l[i]? with
  | none => rw [e] at h; cases h
  | some c =>
    rw [e] at h
    cases h
    refine ⟨by show i < (toS l).cps.size; simpa [toS] using (List.getElem?_eq_some_iff.mp e).1, fun x H' y => ?_⟩
    obtain ⟨e1, c', e2, e3⟩ := y
    subst e1; subst e3
    have e2 : l[i]? = some c' := by simpa [toS] using e2
    rw [e] at e2
    cases e2
    exact ⟨r2, r2.ext, .str [c]⟩

/-- a result that is no value: any wish holds of it -/
theorem Post.noval {α β : Type} {R : RC} {W : XW} {RA : List Addr → Hp → α → β → Prop} {m : List Addr} {H : Hp} {c : Nat} {vs : List IV} {h' : IH} {Q : β → Hp → Prop} (p : ∀ m' H', RH R m' H' h' → Ext m H m' H' → W c vs h' m' H') : Post R W RA m H (.exc c vs h') Q := p
theorem i_sq {tg e : Expr} {x : Ex} (he : PEe X T W C e x) : PIe X T W C tg e (.sq x) := by
  refine ⟨fun pins s σ H R I h => ?_⟩
  obtain ⟨m, sg, h, rs, rh, p⟩ := h
  rw [evIt] at p
  cases ev : evE C x sg h with
  | bad => rw [ev] at p; exact p.elim
  | exc c vs h' =>
    rw [ev] at p
    exact (pi_tup he).run pins s σ H R I ⟨m, sg, h, rs, rh, by rw [ev]; exact p⟩
  | ok v h1 =>
    rw [ev] at p
    have other : (match Res.ofO ((items h1 v).map fun xs => (xs, guardOf v xs)) h1 with
      | .ok p h1 => ∀ m1 H1, RH (Rx X T) m1 H1 h1 → Ext m H m1 H1 → ∀ J, WJ X T J m1 H1 p.1 p.2 → R J H1
      | .exc c vs h' => ∀ m' H', RH (Rx X T) m' H' h' → Ext m H m' H' → W σ c vs h' m' H'
      | .bad => False) → (∀ xs, v ≠ .tup xs) → wpAny (model X.prog X.w) X.A (eval e X.env) (fun v s1 => wpAny (model X.prog X.w) X.A (pyIter v) (PIE X pins σ tg R) X.xe s1) X.xe s := fun p hv => by
      have hl : items h1 v = litems h1 v := by
        cases v <;> first | rfl | exact absurd rfl (hv _)
      rw [hl] at p
      cases e2 : litems h1 v with
      | none => rw [e2] at p; exact p.elim
      | some xs =>
        rw [e2] at p
        refine (pi_list he).run pins s σ H R I ⟨m, sg, h, rs, rh, ?_⟩
        rw [ev]
        intro w' m1 H1 r1 e1 rv
        obtain ⟨a, vs, ew, q, _⟩ := litems_of r1 rv e2
        subst ew
        exact ⟨a, rfl, ⟨vs, q⟩, p m1 H1 r1 e1 _ (wj_list r1 rv e2)⟩
    cases v with
    | tup xs =>
      refine (pi_tup he).run pins s σ H R I ⟨m, sg, h, rs, rh, ?_⟩
      rw [ev]
      intro w' m1 H1 r1 e1 rv
      cases rv with
      | tup q r => exact ⟨_, rfl, ⟨_, q⟩, p m1 H1 r1 e1 _ (wj_tup r1 q r)⟩
    | str l =>
      refine (pi_str he).run pins s σ H R I ⟨m, sg, h, rs, rh, ?_⟩
      rw [ev]
      intro w' m1 H1 r1 e1 rv
      cases rv
      exact ⟨_, rfl, p m1 H1 r1 e1 _ wj_str⟩
    | non => exact other p fun _ z => nomatch z
    | bl _ => exact other p fun _ z => nomatch z
    | int _ => exact other p fun _ z => nomatch z
    | loc _ => exact other p fun _ z => nomatch z
    | frl _ => exact other p fun _ z => nomatch z
theorem i_rng {tg a : Expr} {x : Ex} {p0 : Pos} (hb : Bn X "range") (ha : PEe X T W C a x) (hs : notStar a = true) : PIe X T W C tg (.Call (.Name "range" p0) [a] [] pos) (.rng x) := by
  refine PI.weak (pi_range1 hb.1 hb.2 (pa1 ha hs) (star_cons hs)) fun σ H Q h => ?_
  obtain ⟨m, sg, h, rs, rh, p⟩ := h
  rw [evIt] at p
  cases ev : evE C x sg h with
  | bad => rw [ev] at p; exact p.elim
  | exc c vs h' => rw [ev] at p; exact ⟨m, sg, h, rs, rh, by rw [ev]; exact p⟩
  | ok v h1 =>
    rw [ev] at p
    refine ⟨m, sg, h, rs, rh, ?_⟩
    rw [ev]
    intro w' m1 H1 r1 e1 rv
    cases rv with
    | int j =>
      have p : (match (if small j = true then Res.ok (rngL 0 j, []) h1 else .bad : Res (List IV × Guard)) with
        | .ok p h1 => ∀ m1 H1, RH (Rx X T) m1 H1 h1 → Ext m H m1 H1 → ∀ J, WJ X T J m1 H1 p.1 p.2 → Q J H1
        | .exc c vs h' => ∀ m' H', RH (Rx X T) m' H' h' → Ext m H m' H' → W σ c vs h' m' H'
        | .bad => False) := p
      split at p
      · rename_i e2
        split at e2
        · rename_i hsm
          cases e2
          unfold small at hsm
          rw [Bool.and_eq_true, decide_eq_true_eq, decide_eq_true_eq] at hsm
          have wj := wj_rng (X := X) (T := T) (lo := 0) (hi := j) (m1 := m1) (H1 := H1)
          rw [Int.sub_zero] at wj
          exact ⟨j, rfl, hsm.1, hsm.2, p m1 H1 r1 e1 _ wj⟩
        · cases e2
      · rename_i e2; split at e2 <;> cases e2
      · exact p.elim
    | _ => exact p.elim
theorem i_rng2 {tg a b : Expr} {x y : Ex} {p0 : Pos} (hb : Bn X "range") (ha : PEe X T W C a x) (hbb : PEe X T W C b y) (hs : notStar a = true) (hs2 : notStar b = true) : PIe X T W C tg (.Call (.Name "range" p0) [a, b] [] pos) (.rng2 x y) := by
  refine PI.weak (pi_range2 hb.1 hb.2 (pa_cons ha (pa1 hbb hs2) (star_cons hs)) (by rw [star_cons hs, star_cons hs2]; rfl) (star_cons hs2)) fun σ H Q h => ?_
  obtain ⟨m, sg, h, rs, rh, p⟩ := h
  rw [evIt] at p
  cases ev : evE C x sg h with
  | bad => rw [ev] at p; exact p.elim
  | exc c vs h' => rw [ev] at p; exact ⟨m, sg, h, rs, rh, by rw [ev]; exact p⟩
  | ok v h1 =>
    rw [ev] at p
    refine ⟨m, sg, h, rs, rh, ?_⟩
    rw [ev]
    intro w' m1 H1 r1 e1 rv
    refine ⟨m1, sg, h1, rs.mono rh e1, r1, ?_⟩
    cases ev2 : evE C y sg h1 with
    | bad => simp only [Res.bind, ev2] at p
    | exc c vs h' =>
      simp only [Res.bind, ev2] at p
      exact fun m' H' z1 z2 => p m' H' z1 (e1.trans z2)
    | ok v2 h2 =>
      simp only [Res.bind, ev2] at p
      intro w2 m2 H2 r2 e2 rv2
      cases rv2 with
      | int j =>
        cases rv with
        | int i =>
          by_cases hsm : (small i && small j) = true
          · simp only [if_pos hsm] at p
            unfold small at hsm
            rw [Bool.and_eq_true, Bool.and_eq_true, Bool.and_eq_true, decide_eq_true_eq, decide_eq_true_eq, decide_eq_true_eq, decide_eq_true_eq] at hsm
            exact ⟨i, j, rfl, ⟨hsm.1.1, hsm.1.2, hsm.2.1, hsm.2.2⟩, p m2 H2 r2 (e1.trans e2) _ wj_rng⟩
          · simp only [if_neg hsm] at p
        | _ => exact p.elim
      | _ => cases rv <;> exact p.elim
theorem i_enum {e : Expr} {x : Ex} {p0 tpos : Pos} {elts : List Expr} {kk : Nat} (hb : Bn X "enumerate") (ha : PEe X T W C e x) (hs : notStar e = true) : PIe X T W C (.Tuple elts kk tpos) (.Call (.Name "enumerate" p0) [e] [] pos) (.enum x) := by
  refine PI.weak (pi_enum hb.1 hb.2 (pa1 ha hs) (star_cons hs)) fun σ H Q h => ?_
  obtain ⟨m, sg, h, rs, rh, p⟩ := h
  rw [evIt] at p
  cases ev : evE C x sg h with
  | bad => rw [ev] at p; exact p.elim
  | exc c vs h' => rw [ev] at p; exact ⟨m, sg, h, rs, rh, by rw [ev]; exact p⟩
  | ok v h1 =>
    rw [ev] at p
    refine ⟨m, sg, h, rs, rh, ?_⟩
    rw [ev]
    intro w' m1 H1 r1 e1 rv
    simp only [Res.bind] at p
    cases e2 : litems h1 v with
    | none => simp only [e2, Option.map_none, Res.ofO] at p
    | some xs =>
      simp only [e2, Option.map_some, Res.ofO] at p
      obtain ⟨a, vs, ew, q, _⟩ := litems_of r1 rv e2
      subst ew
      exact ⟨a, vs, rfl, q, p m1 H1 r1 e1 _ (wj_enum r1 rv e2)⟩
theorem i_zip {e e2 : Expr} {x y : Ex} {p0 tpos : Pos} {elts : List Expr} {kk : Nat} (hb : Bn X "zip") (ha : PEe X T W C e x) (hbb : PEe X T W C e2 y) (hs : notStar e = true) (hs2 : notStar e2 = true) :
    PIe X T W C (.Tuple elts kk tpos) (.Call (.Name "zip" p0) [e, e2] [] pos) (.zip x y) := by
  refine PI.weak (RZ.pi_zipA hb.1 hb.2 (pa_cons ha (pa1 hbb hs2) (star_cons hs)) (star_cons hs) (star_any (by simp [hs2]))) fun σ H Q h => ?_
  obtain ⟨m, sg, h, rs, rh, p⟩ := h
  rw [evIt] at p
  cases ev : evE C x sg h with
  | bad => rw [ev] at p; exact p.elim
  | exc c vs h' => rw [ev] at p; exact ⟨m, sg, h, rs, rh, by rw [ev]; exact p⟩
  | ok v h1 =>
    rw [ev] at p
    refine ⟨m, sg, h, rs, rh, ?_⟩
    rw [ev]
    intro w' m1 H1 r1 e1 rv
    refine ⟨m1, sg, h1, rs.mono rh e1, r1, ?_⟩
    cases ev2 : evE C y sg h1 with
    | bad => simp only [Res.bind, ev2] at p
    | exc c vs h' =>
      simp only [Res.bind, ev2] at p
      exact fun m' H' z1 z2 => p m' H' z1 (e1.trans z2)
    | ok v2 h2 =>
      simp only [Res.bind, ev2] at p
      intro w2 m2 H2 r2 e2 rv2
      have rv := rv.mono r1 e2
      have lists : ∀ xs ys, litems h2 v = some xs → litems h2 v2 = some ys → (∀ m1 H1, RH (Rx X T) m1 H1 h2 → Ext m H m1 H1 → ∀ J, WJ X T J m1 H1 (zipL xs ys) (guardOf v xs ++ guardOf v2 ys) → Q J H1) →
          ∃ a b xs ys, [w', w2] = [V.ref a, V.ref b] ∧ ((SqL X.K H2 a xs ∧ SqL X.K H2 b ys ∧ Q (Itz X.K a b) H2) ∨ (SqT X.K H2 a xs ∧ SqT X.K H2 b ys ∧ Q (RZ.ItzT X.K a b) H2)) := fun xs ys f1 f2 p => by
        obtain ⟨a, vs, ea, q, _⟩ := litems_of r2 rv f1
        obtain ⟨b, ws, eb, q', _⟩ := litems_of r2 rv2 f2
        subst ea; subst eb
        exact ⟨a, b, vs, ws, rfl, .inl ⟨q, q', p m2 H2 r2 (e1.trans e2) _ (wj_zipL r2 rv f1 rv2 f2)⟩⟩
      have go : (match (match litems h2 v, litems h2 v2 with
        | some xs, some ys => .ok (zipL xs ys, guardOf v xs ++ guardOf v2 ys) h2
        | _, _ => .bad : Res (List IV × Guard)) with
        | .ok p h1 => ∀ m1 H1, RH (Rx X T) m1 H1 h1 → Ext m H m1 H1 → ∀ J, WJ X T J m1 H1 p.1 p.2 → Q J H1
        | .exc c vs h' => ∀ m' H', RH (Rx X T) m' H' h' → Ext m H m' H' → W σ c vs h' m' H'
        | .bad => False) → ∃ a b xs ys, [w', w2] = [V.ref a, V.ref b] ∧ ((SqL X.K H2 a xs ∧ SqL X.K H2 b ys ∧ Q (Itz X.K a b) H2) ∨ (SqT X.K H2 a xs ∧ SqT X.K H2 b ys ∧ Q (RZ.ItzT X.K a b) H2)) := fun p => by
        cases f1 : litems h2 v with
        | none => simp only [f1] at p
        | some xs =>
          cases f2 : litems h2 v2 with
          | none => simp only [f1, f2] at p
          | some ys => simp only [f1, f2] at p; exact lists xs ys f1 f2 p
      cases rv with
      | tup q rs1 =>
        cases rv2 with
        | tup q' rs2 => exact ⟨_, _, _, _, rfl, .inr ⟨q, q', p m2 H2 r2 (e1.trans e2) _ (wj_zipT r2 q rs1 q' rs2)⟩⟩
        | _ => exact go p
      | _ => cases rv2 <;> exact go p
end
end MP
namespace MP
open PySem PySem.Spec PyProof.Rows L2

def Off (is : List Nat) (σ' σ : L2.St) : Prop := σ'.length = σ.length ∧ ∀ j, j ∉ is → σ'[j]? = σ[j]?
theorem Off.set {i : Nat} {is : List Nat} {σ : L2.St} {v : Option V} (h : i ∈ is) : Off is (σ.set i v) σ :=
  ⟨by simp, fun j hj => by rw [List.getElem?_set_ne (fun e => hj (by rw [← e]; exact h))]⟩
theorem Off.trans {is : List Nat} {σ1 σ2 σ3 : L2.St} (a : Off is σ1 σ2) (b : Off is σ2 σ3) : Off is σ1 σ3 := ⟨a.1.trans b.1, fun j hj => (a.2 j hj).trans (b.2 j hj)⟩
theorem Off.mono {is js : List Nat} {σ1 σ2 : L2.St} (a : Off is σ1 σ2) (h : ∀ i ∈ is, i ∈ js) : Off js σ1 σ2 := ⟨a.1, fun j hj => a.2 j fun z => hj (h j z)⟩
theorem wipe_get {σ : L2.St} {j : Nat} : ∀ {vs : List Nat}, (wipe σ vs)[j]? = if j ∈ vs then σ[j]?.map (fun _ => none) else σ[j]?
  | [] => by simp [wipe]
  | i :: r => by
    by_cases hj : j ∈ i :: r
    · rw [if_pos hj]
      cases e : (wipe σ (i :: r))[j]? with
      | none =>
        have hl := wipe_length σ (i :: r)
        have := List.getElem?_eq_none_iff.mp e
        rw [hl] at this
        rw [List.getElem?_eq_none this]
        rfl
      | some o =>
        cases o with
        | some x => exact absurd hj (wipe_some e).2
        | none =>
          have hl := wipe_length σ (i :: r)
          have h1 := (List.getElem?_eq_some_iff.mp e).1
          rw [hl] at h1
          rw [List.getElem?_eq_getElem h1]
          rfl
    · rw [if_neg hj]
      exact wipe_out hj
theorem wipe_off {vs : List Nat} {σ' σ : L2.St} (o : Off vs σ' σ) : wipe σ' vs = wipe σ vs := by
  apply List.ext_getElem?
  intro j
  rw [wipe_get, wipe_get]
  by_cases hj : j ∈ vs
  · rw [if_pos hj, if_pos hj]
    by_cases hl : j < σ.length
    · rw [List.getElem?_eq_getElem hl, List.getElem?_eq_getElem (by rw [o.1]; exact hl)]; rfl
    · have a : σ'[j]? = none := List.getElem?_eq_none (by rw [o.1]; omega)
      have b : σ[j]? = none := List.getElem?_eq_none (by omega)
      rw [a, b]
  · rw [if_neg hj, if_neg hj]; exact o.2 j hj
theorem wipe_wipe (σ : L2.St) (vs : List Nat) : wipe (wipe σ vs) vs = wipe σ vs := wipe_off ⟨wipe_length σ vs, fun j hj => by rw [wipe_get, if_neg hj]⟩

def setAllV : List Nat → List V → L2.St → L2.St
  | i :: is, v :: vs, σ => setAllV is vs (σ.set i (some v))
  | _, _, σ => σ
theorem setAllV_off : ∀ (is : List Nat) (vs : List V) (σ : L2.St) (js : List Nat), (∀ i ∈ is, i ∈ js) → Off js (setAllV is vs σ) σ
  | [], vs, σ, js, _ => by
    show Off js (setAllV [] vs σ) σ
    have : setAllV [] vs σ = σ := by cases vs <;> rfl
    rw [this]; exact ⟨rfl, fun _ _ => rfl⟩
  | i :: is, [], σ, js, _ => ⟨rfl, fun _ _ => rfl⟩
  | i :: is, v :: vs, σ, js, h => (setAllV_off is vs (σ.set i (some v)) js fun k hk => h k (List.mem_cons_of_mem _ hk)).trans (Off.set (h i List.mem_cons_self))
theorem setAll_RSg {K : PySem.W.Frag} {m : List Addr} {H : Hp} : ∀ (is : List Nat) {xs : List IV} {vs : List V} {sg : Sg} {σ : L2.St}, RVs K m H xs vs → RSg K m H sg σ → RSg K m H (setAll is xs sg) (setAllV is vs σ)
  | [], xs, vs, sg, σ, _, r => by
    have a : setAll [] xs sg = sg := by cases xs <;> rfl
    have b : setAllV [] vs σ = σ := by cases vs <;> rfl
    rw [a, b]; exact r
  | i :: is, _, _, sg, σ, .nil, r => r
  | i :: is, _, _, sg, σ, .cons q rs, r => setAll_RSg is rs (r.set q i)
def gNs : List Nat → TGs
  | [] => gNil
  | i :: r => gCons (gName i) (gNs r)
theorem gNs_of : ∀ (is : List Nat) {vs : List V} {σ : L2.St} {H : Hp} {Q : L2.St → Hp → Prop}, vs.length = is.length → Q (setAllV is vs σ) H → gNs is vs σ H Q
  | [], vs, σ, H, Q, hl, q => by
    cases vs with
    | nil => exact ⟨rfl, q⟩
    | cons v r => cases hl
  | i :: is, vs, σ, H, Q, hl, q => by
    cases vs with
    | nil => cases hl
    | cons v r => exact ⟨v, r, rfl, gNs_of is (Nat.succ.inj hl) q⟩
section
variable {X : Cx} {T : Tb} {W : SW} {C : Callee} {pos : Pos}
/-- a name that may be stored -/
structure NmOk (X : Cx) (x : Str) (i : Nat) : Prop where
  at_ : X.N[i]? = some x
  loc : Loc X.env.scope x
  fn : X.fn x = true ∨ X.env.scope.names.lookup x = some .local
inductive NmEs (X : Cx) : List Expr → List Nat → Prop
  | nil : NmEs X [] []
  | cons {x : Str} {p : Pos} {i : Nat} {es : List Expr} {is : List Nat} : NmOk X x i → NmEs X es is → NmEs X (.Name x p :: es) (i :: is)
theorem NmEs.pgs {es : List Expr} {is : List Nat} (hN : X.N.Nodup) (h : NmEs X es is) : PGs X es (gNs is) ∧ (assignEach es X.env).length = is.length ∧ (assignEach es X.env).findIdx? (·.1) = none := by
  induction h with
  | nil => exact ⟨pgs_nil, rfl, rfl⟩
  | @cons x p i es is n _ ih =>
    obtain ⟨a, b, c⟩ := ih
    refine ⟨pgs_cons (pg_name hN n.at_ n.loc n.fn) a rfl, ?_, ?_⟩
    · show (assignEach es X.env).length + 1 = is.length + 1
      rw [b]
    · show List.findIdx? (·.1) ((false, _) :: assignEach es X.env) = none
      rw [List.findIdx?_cons, c]
      rfl
def tG (X : Cx) (T : Tb) (t : Tg) : TG := fun v σ H Q => ∃ m sg h iv sg', RSg X.K m H sg σ ∧ RH (Rx X T) m H h ∧ RV X.K m H iv v ∧ setTg t iv sg = some sg' ∧ ∀ σ', RSg X.K m H sg' σ' → Off t.slots σ' σ → Q σ' H
theorem g_nm {x : Str} {p : Pos} {i : Nat} (hN : X.N.Nodup) (n : NmOk X x i) : PG X (.Name x p) (tG X T (.nm i)) := by
  refine PG.weak (pg_name hN n.at_ n.loc n.fn) fun v σ H Q h => ?_
  obtain ⟨m, sg, h, iv, sg', rs, rh, rv, e, q⟩ := h
  cases e
  exact q _ (rs.set rv i) (Off.set (by simp [Tg.slots]))
theorem g_tp {es : List Expr} {is : List Nat} {k : Nat} {p : Pos} (hc : X.calm = true) (hN : X.N.Nodup) (n : NmEs X es is) : PG X (.Tuple es k p) (tG X T (.tp is)) := by
  obtain ⟨a, b, c⟩ := n.pgs hN
  refine PG.weak (pg_tup hc a b c) fun v σ H Q h => ?_
  obtain ⟨m, sg, h, iv, sg', rs, rh, rv, e, q⟩ := h
  unfold setTg at e
  cases rv with
  | tup qt rvs =>
    simp only at e
    split at e
    · rename_i hl
      cases e
      refine ⟨_, _, rfl, qt, by rw [← rvs.length]; exact hl, gNs_of is (by rw [← rvs.length]; exact hl) (q _ (setAll_RSg is rvs rs) (setAllV_off is _ σ _ fun _ z => z))⟩
    · cases e
  | _ => cases e

/-! ### comprehensions -/
theorem RV.off {K : PySem.W.Frag} {m : List Addr} {H : Hp} {D : Addr} {l l' : List V} (hD : H D = some (.lst l)) : ∀ {x : IV} {v : V}, RV K m H x v → RV K m (upd H D (.lst l')) x v := by
  have hT : ∀ {a : Addr} {vs : List V}, SqT K H a vs → SqT K (upd H D (.lst l')) a vs := fun {a vs} q => by
    rcases q with (q | ⟨o, q⟩) | q
    · exact .inl (.inl (by rw [upd_ne (fun e => by rw [e, hD] at q; cases q)]; exact q))
    · exact .inl (.inr ⟨o, by rw [upd_ne (fun e => by rw [e, hD] at q; cases q)]; exact q⟩)
    · exact .inr q
  have hF : ∀ {a : Addr} {vs : List V}, Frz K H a vs → Frz K (upd H D (.lst l')) a vs := fun {a vs} q => by
    rcases q with ⟨o, q⟩ | q
    · exact .inl ⟨o, by rw [upd_ne (fun e => by rw [e, hD] at q; cases q)]; exact q⟩
    · exact .inr q
  intro x v h
  refine RV.rec (motive_1 := fun x v _ => RV K m (upd H D (.lst l')) x v) (motive_2 := fun x v _ => RVs K m (upd H D (.lst l')) x v) .non .bl .int .str (fun q _ ih => .tup (hT q) ih) (fun q _ ih => .frl (hF q) ih) .loc .nil (fun _ _ a b => .cons a b) h
theorem RVs.off {K : PySem.W.Frag} {m : List Addr} {H : Hp} {D : Addr} {l l' : List V} (hD : H D = some (.lst l)) : ∀ {xs : List IV} {vs : List V}, RVs K m H xs vs → RVs K m (upd H D (.lst l')) xs vs
  | _, _, .nil => .nil
  | _, _, .cons a b => .cons (a.off hD) (RVs.off hD b)
theorem RH.off {R : RC} {m : List Addr} {H : Hp} {h : IH} {D : Addr} {l l' : List V} (hD : H D = some (.lst l)) (hm : D ∉ m) (r : RH R m H h) : RH R m (upd H D (.lst l')) h := by
  refine ⟨r.len, r.nd, fun n o e => ?_⟩
  obtain ⟨a, ho, e1, e2, e3⟩ := r.at_ n o e
  refine ⟨a, ho, e1, by rw [upd_ne (fun z => hm (by rw [← z]; exact List.mem_of_getElem? e1))]; exact e2, ?_⟩
  cases e3 with
  | lst q => exact .lst (q.off hD)
  | dct q => exact .dct (Paired.mapP q fun _ _ z => ⟨z.1, z.2.off hD⟩)
  | ins c q => exact .ins c (Paired.mapP q fun _ _ z => ⟨z.1, z.2.off hD⟩)
theorem Ext.off {m m' : List Addr} {H H' : Hp} {D : Addr} {o : HO} (e : Ext m H m' H') (hD : H D = none) : Ext m H m' (upd H' D o) := by
  refine ⟨e.pre, fun a o' ha z => ?_, fun a ha => ?_⟩
  · rw [upd_ne (ne_of_none z hD)]; exact e.keep a o' ha z
  · by_cases z : a = D
    · subst z; rw [upd_same]; exact fun z => nomatch z
    · rw [upd_ne z]; exact e.live a ha
theorem wip_RSg {K : PySem.W.Frag} {m : List Addr} {H : Hp} : ∀ (vs : List Nat) {sg : Sg} {σ : L2.St}, RSg K m H sg σ → RSg K m H (wip sg vs) (wipe σ vs) := by
  intro vs sg σ r
  have hlen : sg.length = σ.length := Paired.length r
  have hw : ∀ (vs : List Nat) (sg : Sg), (wip sg vs).length = sg.length := fun vs => by
    induction vs with
    | nil => intro sg; rfl
    | cons i r ih => intro sg; show (wip (sg.set i none) r).length = _; rw [ih]; simp
  have hg : ∀ (vs : List Nat) (sg : Sg) (j : Nat), (wip sg vs)[j]? = if j ∈ vs then sg[j]?.map (fun _ => none) else sg[j]? := fun vs => by
    induction vs with
    | nil => intro sg j; simp [wip]
    | cons i r ih =>
      intro sg j
      show (wip (sg.set i none) r)[j]? = _
      rw [ih]
      by_cases hi : j = i
      · subst hi
        rw [if_pos (List.mem_cons_self (a := j) (l := r))]
        by_cases hl : j < sg.length
        · rw [List.getElem?_set_self hl, List.getElem?_eq_getElem hl]
          split <;> rfl
        · have h1 : sg[j]? = none := List.getElem?_eq_none (by omega)
          have h2 : (sg.set j none)[j]? = none := List.getElem?_eq_none (by simp; omega)
          rw [h1, h2]; split <;> rfl
      · rw [List.getElem?_set_ne (Ne.symm hi)]
        by_cases hr : j ∈ r
        · rw [if_pos hr, if_pos (List.mem_cons_of_mem _ hr)]
        · rw [if_neg hr, if_neg (fun z => (List.mem_cons.mp z).elim hi hr)]
  have ofGet : ∀ {a : Sg} {b : L2.St}, a.length = b.length → (∀ (j : Nat) x y, a[j]? = some x → b[j]? = some y → ROp K m H x y) → RSg K m H a b := fun {a} => by
    induction a with
    | nil => intro b hl _; cases b with
      | nil => exact .nil
      | cons y b => cases hl
    | cons x a ih =>
      intro b hl f
      cases b with
      | nil => cases hl
      | cons y b => exact .cons (f 0 x y rfl rfl) (ih (Nat.succ.inj hl) fun j x y p q => f (j + 1) x y p q)
  have get2 : ∀ {a : Sg} {b : L2.St}, RSg K m H a b → ∀ (j : Nat) x y, a[j]? = some x → b[j]? = some y → ROp K m H x y := fun {a b} r => by
    induction r with
    | nil => intro j x y p; simp at p
    | cons q _ ih =>
      intro j x y p p'
      cases j with
      | zero => simp at p p'; subst p; subst p'; exact q
      | succ j => exact ih j x y (by simpa using p) (by simpa using p')
  refine ofGet (by rw [hw, wipe_length]; exact hlen) fun j x y p q => ?_
  rw [hg] at p
  rw [wipe_get] at q
  by_cases hj : j ∈ vs
  · rw [if_pos hj] at p q
    cases e : sg[j]? with
    | none => rw [e] at p; cases p
    | some z => rw [e] at p; cases p; trivial
  · rw [if_neg hj] at p q
    exact get2 r j x y p q
theorem yes_of {σ : L2.St} {H : Hp} {f : Bool → Hp → Prop} (h : f true H) : tYes σ H f := h
/-- no exception -/
def W0 : SW := fun _ _ _ _ _ _ => False
theorem lc_core {own : List (Str × Nat)} {x : Ex} {t : Tg} {it : It} {σ : L2.St} {H : Hp} {Q : VK} {m : List Addr} {sg : Sg} {h : IH}
    (hsl : ∀ i ∈ t.slots, i ∈ own.map (·.2)) (rs : RSg X.K m H sg σ) (rh : RH (Rx X T) m H h)
    (hev : match evIt C it sg h with
      | .ok p h1 => p.1.length ≤ big ∧ ∃ ys h2, lcL p.2 (fun v h => match setTg t v (wip sg (own.map (·.2))) with
          | some σ' => evE C x σ' h
          | none => .bad) p.1 h1 = .ok ys h2 ∧ ∀ D vs m2 H2, RH (Rx X T) m2 H2 h2 → Ext m H m2 H2 → H D = none → D ∉ m2 → H2 D = some (.lst vs) → RVs X.K m2 H2 ys vs → Q (.ref D) H2
      | .exc c vs h' => ∀ m' H', RH (Rx X T) m' H' h' → Ext m H m' H' → W σ c vs h' m' H'
      | .bad => False) :
    tLc (tI X T W (evIt C it)) (tG X T t) tYes (tE (Rx X T) W0 (evE C x)) (own.map (·.2)) σ H Q := by
  refine ⟨m, sg, h, rs, rh, ?_⟩
  cases ev : evIt C it sg h with
  | bad => rw [ev] at hev; exact hev
  | exc c vs h' => rw [ev] at hev; exact hev
  | ok p h1 =>
    obtain ⟨xs, g⟩ := p
    rw [ev] at hev
    obtain ⟨hlen, ys, h2, hl, fin⟩ := hev
    simp only at hlen hl
    intro m1 H1 r1 e1 J wj D hD
    have hHD : H D = none := by
      cases z : H D with
      | none => rfl
      | some o =>
        by_cases hm : D ∈ m
        · exact absurd hD (r1.live D (e1.mem hm))
        · have := e1.keep D o hm z
          rw [hD] at this; cases this
    let f : IV → IH → Res IV := fun v h => match setTg t v (wip sg (own.map (·.2))) with
      | some σ' => evE C x σ' h
      | none => .bad
    refine ⟨fun i k Hh => ∃ m2 h2' done acc, RH (Rx X T) m2 Hh h2' ∧ Ext m1 H1 m2 Hh ∧ Hh D = some (.lst acc) ∧ D ∉ m2 ∧ RVs X.K m2 Hh done acc ∧ done.length = i ∧ i ≤ xs.length ∧ k = xs.length - i ∧
        ∃ zs, lcL g f (xs.drop i) h2' = .ok zs h2 ∧ ys = done ++ zs, ⟨xs.length, ?_⟩, fun i k Hh hw => ?_⟩
    · obtain ⟨r1', e1'⟩ := r1.tuple (ho := .lst []) hD
      exact ⟨m1, h1, [], [], r1', e1', upd_same, fun z => r1.live D z hD, .nil, rfl, Nat.zero_le _, by simp, ys, by simpa using hl, rfl⟩
    · obtain ⟨m2, h2', done, acc, r2, e2, hDl, hDm, rd, hd, hi, hk, zs, hz, hy⟩ := hw
      by_cases hlt : i < xs.length
      · rw [List.drop_eq_getElem_cons hlt] at hz
        unfold lcL at hz
        split at hz
        · rename_i hg
          obtain ⟨w1, _⟩ := wj m2 Hh h2' i e2 r2 hg
          obtain ⟨go, st⟩ := w1 xs[i] (List.getElem?_eq_getElem hlt)
          refine .inr ⟨go, fun H' => ∃ m2 h2' done acc, RH (Rx X T) m2 H' h2' ∧ Ext m1 H1 m2 H' ∧ H' D = some (.lst acc) ∧ D ∉ m2 ∧ RVs X.K m2 H' done acc ∧ done.length = i + 1 ∧
            ∃ zs, lcL g f (xs.drop (i + 1)) h2' = .ok zs h2 ∧ ys = done ++ zs, fun H' hn => ?_, fun xv H' hy' => ?_⟩
          · obtain ⟨m3, h3, done', acc', a1, a2, a3, a4, a5, a6, a7⟩ := hn
            exact ⟨xs.length - (i + 1), by omega, m3, h3, done', acc', a1, a2, a3, a4, a5, a6, by omega, rfl, a7⟩
          · obtain ⟨r3, e3, rxv⟩ := st xv H' hy'
            split at hz
            · rename_i y h4 hf
              split at hz
              · rename_i ys' h5 hrec
                cases hz
                have hf' : (match setTg t xs[i] (wip sg (own.map (·.2))) with
                  | some σ' => evE C x σ' h2'
                  | none => .bad) = Res.ok y h4 := hf
                cases es : setTg t xs[i] (wip sg (own.map (·.2))) with
                | none => rw [es] at hf'; cases hf'
                | some sg' =>
                  rw [es] at hf'
                  have hf' : evE C x sg' h2' = Res.ok y h4 := hf'
                  have rsw : RSg X.K m2 H' (wip sg (own.map (·.2))) (wipe σ (own.map (·.2))) := wip_RSg _ ((((rs.mono rh e1).mono r1 e2)).mono r2 e3)
                  refine ⟨m2, _, h2', xs[i], sg', rsw, r3, rxv, es, fun σ' rs' off => ⟨?_, ?_⟩⟩
                  · rw [wipe_off (off.mono hsl), wipe_wipe]
                  · refine yes_of ?_
                    rw [if_pos rfl]
                    refine ⟨m2, sg', h2', rs', r3, ?_⟩
                    rw [hf']
                    intro v m4 H4 r4 e4 rv
                    have hD3 : H' D = some (.lst acc) := e3.keep D _ hDm hDl
                    have hD4 : H4 D = some (.lst acc) := e4.keep D _ hDm hD3
                    have hDm4 : D ∉ m4 := e4.out hDm hD3
                    refine ⟨acc, hD4, by rw [← rd.length, hd]; exact Nat.lt_of_lt_of_le hlt hlen, m4, h4, done ++ [y], acc ++ [v], RH.off hD4 hDm4 r4, ((e2.trans e3).trans e4).off hD, upd_same, hDm4, ?_, by simp [hd], ys', hrec, by rw [hy]; simp⟩
                    exact ((RVs.mono r3 e4 (RVs.mono r2 e3 rd)).append (.cons rv .nil)).off hD4
              · cases hz
            · cases hz
        · cases hz
      · have hi' : i = xs.length := by omega
        subst hi'
        rw [List.drop_eq_nil_of_le (Nat.le_refl _)] at hz
        unfold lcL at hz
        split at hz
        · rename_i hg
          cases hz
          rw [List.append_nil] at hy
          subst hy
          obtain ⟨_, w2⟩ := wj m2 Hh _ xs.length e2 r2 hg
          exact .inl ⟨w2 (Nat.le_refl _), fin D acc m2 Hh r2 (e1.trans e2) hHD hDm hDl rd⟩
        · cases hz
end
end MP
namespace MP
open PySem PySem.Spec PyProof.Rows L2
section
variable {prog : Program} {w : World} {A : Around} {E : Value → Shared → Prop}
def Rows1 (P : Nat → Value → Prop) : Nat → List Value → Prop
  | _, [] => True
  | i, v :: r => P i v ∧ Rows1 P (i + 1) r
theorem draw_by {it : Addr} {fp wr : List Addr} {n : Nat} {P : Nat → Value → Prop} {St : Nat → Heap → Prop} (Wk : Walks prog w A it fp wr n P St) :
    ∀ (k i : Nat) (s : Shared) (Q : List Value → Shared → Prop), St i s.heap → i + k ≤ n →
      (∀ vs h' tk, vs.length = k → Rows1 P i vs → St (i + k) h' → (∀ b o, b ∉ wr → s.heap.get? b = some o → h'.get? b = some o) → Q vs { s with heap := h', toks := tk }) →
      wpAny (model prog w) A (draw (.ref it) k) Q E s
  | 0, i, s, Q, st, _, q => by
    unfold draw
    exact wpAny_pure (q [] s.heap s.toks rfl trivial st fun _ _ _ e => e)
  | k + 1, i, s, Q, st, hl, q => by
    unfold draw
    refine wpAny_bind (Wk.item i s _ _ (by omega) st fun v h' tk hv st' keep => ?_)
    refine wpAny_bind (wpAny_holding (draw_by Wk k (i + 1) { s with heap := h', toks := tk } _ st' (by omega) fun vs h2 tk2 hn hr st2 keep2 => wpAny_pure ?_))
    refine q (v :: vs) h2 tk2 (by simp [hn]) ⟨hv, hr⟩ (by rw [show i + (k + 1) = i + 1 + k by omega]; exact st2) fun b o hb e => keep2 b o hb (keep b o hb e)
theorem unpack_by {v : Value} {T id : String} {s s1 : Shared} {it : Addr} {fp wr : List Addr} {n : Nat} {P : Nat → Value → Prop} {St : Nat → Heap → Prop} {Q : List Value → Shared → Prop}
    (hT : s.TypeIs v T) (hs : Slot T "__iter__" id) (hi : ∀ Q' E', Q' (.ref it) s1 → wpAny (model prog w) A (pyIter v) Q' E' s) (Wk : Walks prog w A it fp wr n P St) (st : St 0 s1.heap)
    (q : ∀ vs h' tk, vs.length = n → Rows1 P 0 vs → (∀ b o, b ∉ wr → s1.heap.get? b = some o → h'.get? b = some o) → Q vs { s1 with heap := h', toks := tk }) :
    wpAny (model prog w) A (unpackItems v n none) Q E s := by
  unfold unpackItems
  refine wpAny_bind ?_
  unfold notIterableAtAll
  refine wpAny_bind (wpAny_specialOf hT hs.lookup (wpAny_pure ?_))
  simp only [Bool.false_eq_true, if_false]
  refine wpAny_bind (wpAny_holding (hi _ _ ?_))
  refine wpAny_bind (wpAny_holding (draw_by Wk n 0 s1 _ st (by omega) fun vs h' tk hn hr st' keep => ?_))
  rw [if_neg (by omega)]
  refine wpAny_bind (wpAny_holding (Wk.done _ _ _ (by simpa using st') fun h2 tk2 keep2 => ?_))
  simp only [Option.isSome_none, Bool.false_eq_true, if_false]
  exact wpAny_pure (q vs h2 tk2 hn hr fun b o hb e => keep2 b o hb (keep b o hb e))
end
section
variable {X : Cx} {T : Tb} {W : SW} {C : Callee} {pos : Pos}
theorem rows_vals {x : Str} : ∀ {us : List Value} {i : Nat}, Rows1 (SignAt x) i us → us.length + i ≤ x.cps.size → Vals (((x.cps.toList.drop i).take us.length).map fun c => V.str ⟨#[c]⟩) us
  | [], i, _, _ => .nil
  | u :: us, i, h, hl => by
    obtain ⟨⟨c, t, hc, e⟩, hr⟩ := h
    subst e
    have hi : i < x.cps.toList.length := by
      rw [List.length_cons] at hl
      simp only [Array.length_toList]
      omega
    have ih := rows_vals hr (by rw [List.length_cons] at hl; omega)
    rw [List.drop_eq_getElem_cons hi, List.length_cons, List.take_succ_cons, List.map_cons]
    refine .cons ⟨t, ?_⟩ ih
    have : x.cps.toList[i] = c := by
      have := Array.getElem?_toList (xs := x.cps) (i := i)
      rw [hc, List.getElem?_eq_getElem hi] at this
      exact Option.some.inj this
    rw [this]
/-- (a, b, ..) = a text of that length -/
def gTxt (n : Nat) (t : TGs) : TG := fun v σ H Q => ∃ x : Str, v = .str x ∧ x.cps.size = n ∧ t (x.cps.toList.map fun c => V.str ⟨#[c]⟩) σ H Q
theorem iter_txt {x : Str} {t : Tok} {pins : List (Addr × Obj)} {σ : L2.St} {H : Hp} {s : Shared} (I : Inv X pins σ H s) : ∃ (it : Addr) (ty : String) (s1 : Shared), (∀ Q' E', Q' (.ref it) s1 → wpAny (model X.prog X.w) X.A (pyIter (.str x t)) Q' E' s) ∧
    (ty = "str_ascii_iterator" ∨ ty = "str_iterator") ∧ s1.heap.IsStrIter it ty x t 0 ∧ it = s.heap.objs.size ∧ (∀ b o, s.heap.get? b = some o → s1.heap.get? b = some o) ∧ s1.toks = s.toks ∧ s1 = { s with heap := s1.heap } := by
  cases ha : x.cps.all (· < 128)
  · refine ⟨s.heap.objs.size, "str_iterator", _, fun Q' E' q => wpAny_pyIter_wide ha q, .inr rfl, ⟨_, Heap.get?_push_size _ rfl, rfl, rfl⟩, rfl, fun b o e => Heap.get?_push_of_some _ e, rfl, rfl⟩
  · refine ⟨s.heap.objs.size, "str_ascii_iterator", _, fun Q' E' q => wpAny_pyIter_ascii ha q, .inl rfl, ⟨_, Heap.get?_push_size _ rfl, rfl, rfl⟩, rfl, fun b o e => Heap.get?_push_of_some _ e, rfl, rfl⟩
theorem pg_txt {es : List Expr} {k : Nat} {t : TGs} {n : Nat} (hc : X.calm = true) (h : PGs X es t) (hn : (assignEach es X.env).length = n) (hst : (assignEach es X.env).findIdx? (·.1) = none) : PG X (.Tuple es k pos) (gTxt n t) := by
  refine ⟨fun pins s σ H v u Q I r hw => ?_⟩
  obtain ⟨x, e1, hl, hw⟩ := hw
  subst e1
  obtain ⟨tk, rfl⟩ := r
  rw [assign_Tuple]
  refine wpAny_bind (wpAny_standAt ?_)
  unfold PySem.unpack
  rw [hn, hst]
  obtain ⟨it, ty, s1, hi, hty, st, eit, keep, _, es1⟩ := iter_txt (x := x) (t := tk) I
  subst eit
  have Wk : Walks X.prog X.w X.A s.heap.objs.size [s.heap.objs.size] [s.heap.objs.size] x.cps.size (SignAt x) (fun i h => h.IsStrIter s.heap.objs.size ty x tk i) := by
    rcases hty with e | e
    · rw [e]; exact Walks.strAscii (I.ok.hd hc) _ x tk
    · rw [e]; exact Walks.strWide (I.ok.hd hc) _ x tk
  rw [← hl]
  refine wpAny_bind (wpAny_holding (unpack_by (typeIs_str _ _ _) PySem.F.slot_str_iter hi Wk st fun vs h' tk' hlen hr kp => ?_))
  have I1 : Inv X pins σ H { s1 with heap := h', toks := tk' } := by
    rw [es1]
    refine I.kept (h' := h') (t' := tk') fun b o e => kp b o (fun z => ?_) (keep b o e)
    have := List.mem_singleton.mp z
    rw [this] at e
    exact absurd (Heap.lt_size e) (Nat.lt_irrefl _)
  have rv := rows_vals hr (by rw [hlen]; omega)
  rw [List.drop_zero, hlen, show x.cps.size = x.cps.toList.length from Array.length_toList.symm, List.take_length] at rv
  exact h.run pins _ σ H _ _ Q I1 rv hw
end
end MP
namespace MP
open PySem PySem.Spec PyProof.Rows L2
section
variable {X : Cx} {T : Tb} {W : SW} {C : Callee} {pos : Pos}
theorem lcL_not_exc (g : Guard) (f : IV → IH → Res IV) (xs : List IV) (h : IH) (c : Nat) (vs : List IV) (h' : IH) : lcL g f xs h ≠ .exc c vs h' := by
  intro e
  cases xs with
  | nil => unfold lcL at e; split at e <;> cases e
  | cons x xs =>
    unfold lcL at e
    split at e
    · split at e
      · split at e <;> cases e
      · cases e
    · cases e
/-- the block of a comprehension: what is needed of it -/
structure LcOk (X : Cx) (T : Tb) (C : Callee) (elt tg : Expr) (scope : Scope) (x : Ex) (t : Tg) (own : List Nat) : Prop where
  blk : ∃ o, BlkOk X.N X.env.scope scope o ∧ o.map (·.2) = own
  slots : ∀ i ∈ t.slots, i ∈ own
  pg : ∀ (s : Shared) (H : Hp) (C' : Addr) (cl : List (Str × Addr)) (fp : List Addr), PG (X.blk s H scope (compEnvC scope cl C' X.env) fp) tg (tG X T t)
  pe : ∀ (s : Shared) (H : Hp) (C' : Addr) (cl : List (Str × Addr)) (fp : List Addr), PE (X.blk s H scope (compEnvC scope cl C' X.env) fp) elt (tE (Rx X T) W0 (evE C x))
def notSetE (e : Expr) : Bool := notSet e
theorem folded_ok {iter : Expr} {env : Env} (h : notSet iter = true) : ∀ x, foldedSetIterable iter env x = pure x := by
  intro x
  cases iter <;> first | rfl | cases h
theorem lc_hev {it : It} {x : Ex} {t : Tg} {own : List Nat} {σ : L2.St} {H : Hp} {Q : VK} {m : List Addr} {sg : Sg} {h : IH} {β : Type} {RB : List Addr → Hp → β → V → Prop} {k : Bool × List IV → IH → Res β}
    (p : Post (Rx X T) (W σ) RB m H ((evS C (.lc x t own it) sg h).bind k) Q)
    (fin : ∀ ys h2 D vs m2 H2, RH (Rx X T) m2 H2 h2 → Ext m H m2 H2 → H D = none → D ∉ m2 → H2 D = some (.lst vs) → RVs X.K m2 H2 ys vs → Post (Rx X T) (W σ) RB m H (k (false, ys) h2) Q → Q (.ref D) H2) :
    match evIt C it sg h with
      | .ok p h1 => p.1.length ≤ big ∧ ∃ ys h2, lcL p.2 (fun v h => match setTg t v (wip sg own) with
          | some σ' => evE C x σ' h
          | none => .bad) p.1 h1 = .ok ys h2 ∧ ∀ D vs m2 H2, RH (Rx X T) m2 H2 h2 → Ext m H m2 H2 → H D = none → D ∉ m2 → H2 D = some (.lst vs) → RVs X.K m2 H2 ys vs → Q (.ref D) H2
      | .exc c vs h' => ∀ m' H', RH (Rx X T) m' H' h' → Ext m H m' H' → W σ c vs h' m' H'
      | .bad => False := by
  rw [evS, bind_assoc] at p
  cases ev : evIt C it sg h with
  | bad => rw [ev] at p; exact p
  | exc c vs h' => rw [ev] at p; exact p
  | ok q h1 =>
    rw [ev] at p
    have p : Post (Rx X T) (W σ) RB m H ((if q.1.length ≤ big then (lcL q.2 (fun v h => match setTg t v (wip sg own) with
          | some σ' => evE C x σ' h
          | none => .bad) q.1 h1).bind fun ys h => .ok (false, ys) h else .bad).bind k) Q := p
    show q.1.length ≤ big ∧ _
    by_cases hl : q.1.length ≤ big
    · refine ⟨hl, ?_⟩
      rw [if_pos hl, bind_assoc] at p
      cases e : lcL q.2 (fun v h => match setTg t v (wip sg own) with
          | some σ' => evE C x σ' h
          | none => .bad) q.1 h1 with
      | ok ys h2 =>
        rw [e] at p
        exact ⟨ys, h2, rfl, fun D vs m2 H2 a b c d f g => fin ys h2 D vs m2 H2 a b c d f g p⟩
      | exc c vs h' => exact absurd e (lcL_not_exc _ _ _ _ _ _ _)
      | bad => rw [e] at p; exact p.elim
    · rw [if_neg hl] at p
      exact p.elim
theorem q_lc {elt tg iter : Expr} {scope : Scope} {x : Ex} {t : Tg} {own : List Nat} {it : It} (hc : X.calm = true) (hN : X.N.Nodup) (hi : PIe X T W C tg iter it) (ok : LcOk X T C elt tg scope x t own) (hs : notSet iter = true) :
    PQe X T W C (.ListComp elt [⟨tg, iter, [], 0⟩] scope pos) (.lc x t own it) := by
  obtain ⟨o, hb, eo⟩ := ok.blk
  subst eo
  refine PE.weak (pe_lc hc hN hi hb ok.pg (fun _ _ _ _ _ => pts_nil) ok.pe (folded_ok hs)) fun σ H Q h => ?_
  obtain ⟨m, sg, h, rs, rh, p⟩ := h
  refine lc_core ok.slots rs rh (lc_hev (k := fun q h => .ok q h) (RB := RQ X.K) ?_ fun ys h2 D vs m2 H2 r2 e2 _ _ hD rv p => ?_)
  · have : ((evS C (.lc x t (o.map (·.2)) it) sg h).bind fun q h => .ok q h) = evS C (.lc x t (o.map (·.2)) it) sg h := by cases evS C (.lc x t (o.map (·.2)) it) sg h <;> rfl
    rw [this]
    exact p
  · exact p _ _ _ r2 e2 ⟨D, vs, rfl, by rw [if_neg Bool.false_ne_true]; exact .inl (.inl hD), rv⟩
theorem lc_fin {σ : L2.St} {H H2 : Hp} {Q : VK} {m m2 : List Addr} {ys : List IV} {h2 : IH} {D : Addr} {vs : List V} (r2 : RH (Rx X T) m2 H2 h2) (e2 : Ext m H m2 H2) (hH : H D = none) (hm : D ∉ m2) (hD : H2 D = some (.lst vs)) (rv : RVs X.K m2 H2 ys vs)
    (p : PostV (Rx X T) (W σ) m H (.ok (.loc h2.length) (h2 ++ [.lst ys])) Q) : Q (.ref D) H2 := by
  have ex : Ext m2 H2 (m2 ++ [D]) H2 → Ext m H (m2 ++ [D]) H2 := fun _ => by
    obtain ⟨t, ht, hf⟩ := e2.pre
    refine ⟨⟨t ++ [D], by rw [ht, List.append_assoc], fun a ha => ?_⟩, e2.keep, fun a ha => ?_⟩
    · rcases List.mem_append.mp ha with ha | ha
      · exact hf a ha
      · rw [List.mem_singleton.mp ha]; exact hH
    · rcases List.mem_append.mp ha with ha | ha
      · exact e2.live a ha
      · rw [List.mem_singleton.mp ha, hD]; exact fun z => nomatch z
  have ex' : Ext m H (m2 ++ [D]) H2 := by
    obtain ⟨t, ht, hf⟩ := e2.pre
    refine ⟨⟨t ++ [D], by rw [ht, List.append_assoc], fun a ha => ?_⟩, e2.keep, fun a ha => ?_⟩
    · rcases List.mem_append.mp ha with ha | ha
      · exact hf a ha
      · rw [List.mem_singleton.mp ha]; exact hH
    · rcases List.mem_append.mp ha with ha | ha
      · exact e2.live a ha
      · rw [List.mem_singleton.mp ha, hD]; exact fun z => nomatch z
  have mono : ∀ {x : IV} {v : V}, RV X.K m2 H2 x v → RV X.K (m2 ++ [D]) H2 x v := fun {x v} h => by
    refine RV.rec (motive_1 := fun x v _ => RV X.K (m2 ++ [D]) H2 x v) (motive_2 := fun x v _ => RVs X.K (m2 ++ [D]) H2 x v) .non .bl .int .str (fun q _ ih => .tup q ih) (fun q _ ih => .frl q ih) (fun q => .loc ?_) .nil (fun _ _ a b => .cons a b) h
    rw [List.getElem?_append_left (List.getElem?_eq_some_iff.mp q).1]
    exact q
  have monos : ∀ {xs : List IV} {vs : List V}, RVs X.K m2 H2 xs vs → RVs X.K (m2 ++ [D]) H2 xs vs := fun {xs} => by
    induction xs with
    | nil => intro vs r; cases r; exact .nil
    | cons x xs ih => intro vs r; cases r with
      | cons a b => exact .cons (mono a) (ih b)
  have r3 : RH (Rx X T) (m2 ++ [D]) H2 (h2 ++ [.lst ys]) := by
    refine ⟨by simp [r2.len], ?_, fun n o hn => ?_⟩
    · refine List.nodup_append.mpr ⟨r2.nd, by simp, fun a ha b hb z => ?_⟩
      rw [List.mem_singleton.mp hb] at z
      subst z
      exact hm ha
    · by_cases hl : n < h2.length
      · rw [List.getElem?_append_left hl] at hn
        obtain ⟨a, ho, f1, f2, f3⟩ := r2.at_ n o hn
        refine ⟨a, ho, by rw [List.getElem?_append_left (List.getElem?_eq_some_iff.mp f1).1]; exact f1, f2, ?_⟩
        cases f3 with
        | lst q => exact .lst (monos q)
        | dct q => exact .dct (Paired.mapP q fun _ _ z => ⟨z.1, mono z.2⟩)
        | ins c q => exact .ins c (Paired.mapP q fun _ _ z => ⟨z.1, mono z.2⟩)
      · have hn' : n = h2.length := by
          have := (List.getElem?_eq_some_iff.mp hn).1
          rw [List.length_append, List.length_singleton] at this
          omega
        subst hn'
        rw [List.getElem?_append_right (Nat.le_refl _), Nat.sub_self] at hn
        have eo : IO.lst ys = o := by simpa using hn
        subst eo
        refine ⟨D, _, ?_, hD, .lst (monos rv)⟩
        rw [← r2.len, List.getElem?_append_right (Nat.le_refl _), Nat.sub_self]
        rfl
  refine p _ _ _ r3 ex' (.loc ?_)
  rw [← r2.len, List.getElem?_append_right (Nat.le_refl _), Nat.sub_self]
  rfl
theorem r_mk {elt tg iter : Expr} {scope : Scope} {x : Ex} {t : Tg} {own : List Nat} {it : It} (hc : X.calm = true) (hN : X.N.Nodup) (hi : PIe X T W C tg iter it) (ok : LcOk X T C elt tg scope x t own) (hs : notSet iter = true) :
    PEe X T W C (.ListComp elt [⟨tg, iter, [], 0⟩] scope pos) (.mk (.lc x t own it)) := by
  obtain ⟨o, hb, eo⟩ := ok.blk
  subst eo
  refine PE.weak (pe_lc hc hN hi hb ok.pg (fun _ _ _ _ _ => pts_nil) ok.pe (folded_ok hs)) fun σ H Q h => ?_
  obtain ⟨m, sg, h, rs, rh, p⟩ := h
  rw [evE] at p
  exact lc_core ok.slots rs rh (lc_hev p fun ys h2 D vs m2 H2 r2 e2 hH hm hD rv p => lc_fin r2 e2 hH hm hD rv p)

/-! ### statements -/
abbrev PSe (X : Cx) (T : Tb) (W : SW) (C : Callee) (B : Nat) (s : Stmt) (x : St) : Prop := PS X s (tS (Rx X T) W (exS C B x))
abbrev PSse (X : Cx) (T : Tb) (W : SW) (C : Callee) (B : Nat) (s : List Stmt) (x : Sts) : Prop := PSs X s (tS (Rx X T) W (exSs C B x))
variable {B : Nat}
def notComp : Expr → Bool
  | .ListComp _ _ _ _ => false
  | .SetComp _ _ _ _ => false
  | .DictComp _ _ _ _ _ => false
  | _ => true
theorem swaps_no {e : Expr} {t : Option Expr} {l : Nat} {env : Env} (h : notComp e = true) : swapsWith e t l env = pure false := by
  cases e <;> first | rfl | cases h
theorem swaps_other {e tg : Expr} {l : Nat} {env : Env} (h : (match tg with | .Name _ _ => false | _ => true) = true) : swapsWith e (some tg) l env = pure false := by
  cases tg with
  | Name _ _ => cases h
  | _ => cases e <;> rfl
theorem PostS.same {sg : Sg} {σ : L2.St} {fl : Fl} {m : List Addr} {H : Hp} {h : IH} {D : Ends} (p : PostS (Rx X T) W m H (.ok (fl, sg) h) D) (rh : RH (Rx X T) m H h) (rs : RSg X.K m H sg σ) : FlP (Rx X T) W D fl m H h σ := p m H σ rh rh.ext rs
theorem st_expr {e : Expr} {x : Ex} (he : PEe X T W C e x) (hn : notComp e = true) : PSe X T W C B (.Expr e pos) (.expr x) := by
  refine PS.weak (ps_expr he (swaps_no hn)) fun D σ H h => ?_
  obtain ⟨m, sg, h, rs, rh, p⟩ := h
  rw [exS] at p
  exact ⟨m, sg, h, rs, rh, PostS.st p rh rs fun a b h1 m1 H1 _ rh1 e1 rs1 p1 => PostS.same p1 rh1 rs1⟩
theorem asg_nm {i : Nat} {x : Ex} {sg : Sg} {h : IH} : exS C B (.asg (.nm i) x) sg h = (evE C x sg h).st sg fun v h => .ok (.next, sg.set i (some v)) h := by
  rw [exS]
  rfl
theorem st_set {i : Nat} {y : Str} {e : Expr} {x : Ex} {p' : Pos} (hN : X.N.Nodup) (n : NmOk X y i) (he : PEe X T W C e x) (hn : notComp e = true) : PSe X T W C B (.Assign [.Name y p'] e pos) (.asg (.nm i) x) := by
  refine PS.weak (ps_set hN n.at_ n.loc he (swaps_no hn) n.fn) fun D σ H h => ?_
  obtain ⟨m, sg, h, rs, rh, p⟩ := h
  rw [asg_nm] at p
  exact ⟨m, sg, h, rs, rh, PostS.st p rh rs fun a b h1 m1 H1 ra rh1 e1 rs1 p1 => PostS.same p1 rh1 (rs1.set ra i)⟩
theorem st_setLc {i : Nat} {y : Str} {py : Pos} {elt tg iter : Expr} {scope : Scope} {x : Ex} {t : Tg} {own : List Nat} {it : It} {spos : Pos} (hc : X.calm = true) (hN : X.N.Nodup) (hk : X.env.scope.kind = .function)
    (hi' : X.N[i]? = some y) (hl : X.env.scope.names.lookup y = some .local) (hln : (py.line == pos.line) = true) (ha : (scope.names.any fun x => match x with | (n, k) => n == y && (k == .local || k == .cell)) = false)
    (hi : PIe X T W C tg iter it) (ok : LcOk X T C elt tg scope x t own) (hs : notSet iter = true) :
    PSe X T W C B (.Assign [.Name y py] (.ListComp elt [⟨tg, iter, [], 0⟩] scope pos) spos) (.asg (.nm i) (.mk (.lc x t own it))) := by
  obtain ⟨o, hb, eo⟩ := ok.blk
  subst eo
  refine PS.weak (ps_setLc hc hN hi' hl (sw_true hk hl hln ha) hi hb ok.pg (fun _ _ _ _ _ => pts_nil) ok.pe (folded_ok hs)) fun D σ H h => ?_
  obtain ⟨m, sg, h, rs, rh, p⟩ := h
  rw [asg_nm, evE] at p
  have q : Post (Rx X T) (W σ) (RV X.K) m H ((evS C (.lc x t (o.map (·.2)) it) sg h).bind fun p h => .ok (.loc h.length) (h ++ [.lst p.2])) (fun v H' => D.nx (σ.set i (some v)) H') :=
    PostS.st p rh rs fun a b h1 m1 H1 ra rh1 e1 rs1 p1 => PostS.same p1 rh1 (rs1.set ra i)
  exact lc_core ok.slots rs rh (lc_hev q fun ys h2 D vs m2 H2 r2 e2 hH hm hD rv p => lc_fin r2 e2 hH hm hD rv p)
def notTupE : Expr → Bool
  | .Tuple _ _ _ => false
  | _ => true
theorem stores_no {tg e : Expr} {env : Env} (h : (match tg with | .Tuple _ _ _ => notTupE e | .List _ _ => notTupE e | _ => true) = true) : swappedStores [tg] e env = pure none := by
  cases tg <;> first | rfl | (cases e <;> first | rfl | cases h)
theorem st_tp {es : List Expr} {is : List Nat} {k : Nat} {tp : Pos} {e : Expr} {x : Ex} (hc : X.calm = true) (hN : X.N.Nodup) (n : NmEs X es is) (he : PEe X T W C e x) (ht : notTupE e = true) : PSe X T W C B (.Assign [.Tuple es k tp] e pos) (.asg (.tp is) x) := by
  obtain ⟨a, b, c⟩ := n.pgs hN
  have hg : PG X (.Tuple es k tp) (fun v σ H Q => gTup X.K is.length (gNs is) v σ H Q ∨ gTxt is.length (gNs is) v σ H Q) :=
    ⟨fun pins s σ H v u Q I r h => h.elim (fun z => (pg_tup hc a b c).run pins s σ H v u Q I r z) fun z => (pg_txt hc a b c).run pins s σ H v u Q I r z⟩
  refine PS.weak (ps_asg he hg (swaps_other (tg := .Tuple es k tp) (e := e) (l := pos.line) (env := X.env) rfl) (stores_no ht) rfl) fun D σ H h => ?_
  obtain ⟨m, sg, h, rs, rh, p⟩ := h
  rw [exS] at p
  refine ⟨m, sg, h, rs, rh, PostS.st p rh rs fun v vv h1 m1 H1 rv rh1 e1 rs1 p1 => ?_⟩
  unfold asT at p1
  cases rv with
  | tup q r =>
    simp only [unpack] at p1
    split at p1
    · rename_i hl
      exact .inl ⟨_, _, rfl, q, by rw [← r.length]; exact hl, gNs_of is (by rw [← r.length]; exact hl) (PostS.same p1 rh1 (setAll_RSg is r rs1))⟩
    · exact p1.elim
  | str l =>
    simp only [unpack] at p1
    split at p1
    · rename_i hl
      rw [List.length_map] at hl
      have all : ∀ l : List Nat, RVs X.K m1 H1 (l.map fun c => .str [c]) (l.map fun c => V.str ⟨#[c]⟩) := fun l => by
        induction l with
        | nil => exact .nil
        | cons c l ih => exact .cons (.str [c]) ih
      have ht : (⟨l.toArray⟩ : Str).cps.toList = l := by simp
      refine .inr ⟨⟨l.toArray⟩, rfl, by simpa using hl, ?_⟩
      rw [ht]
      exact gNs_of is (by rw [List.length_map]; exact hl) (PostS.same p1 rh1 (setAll_RSg is (all l) rs1))
    · exact p1.elim
  | _ => exact p1.elim
theorem assign_sub {o i : Expr} {tp : Pos} {env : Env} (h : notSl i = true) : ∀ v, assign (.Subscript o i tp) env v = (do
      let ov ← holding [v] (eval o env)
      let iv ← holding [v, ov] (eval i env)
      standAt tp
      holding [v, ov, iv] (setItem ov iv v)
      release [v, ov, iv] []) := by
  intro v
  cases i <;> first | rfl | cases h
theorem st_sub {o i e : Expr} {x y z : Ex} {tp : Pos} (ho : PEe X T W C o x) (hi : PEe X T W C i y) (he : PEe X T W C e z) (hn : notSl i = true) : PSe X T W C B (.Assign [.Subscript o i tp] e pos) (.asg (.sub x y) z) := by
  refine PS.weak (ps_asg he (pg_sub ho hi set_list (assign_sub hn)) (swaps_other (tg := .Subscript o i tp) (e := e) (l := pos.line) (env := X.env) rfl) (stores_no rfl) rfl) fun D σ H h => ?_
  obtain ⟨m, sg, h, rs, rh, p⟩ := h
  rw [exS] at p
  refine ⟨m, sg, h, rs, rh, PostS.st p rh rs fun v vv h1 m1 H1 rv rh1 e1 rs1 p1 => ?_⟩
  unfold asT at p1
  have p2 : Post (Rx X T) (W σ) (fun _ _ a b => a = b) m1 H1 ((evE C x sg h1).bind fun x h => (evE C y sg h).bind fun y h => (setI x y v h).bind fun _ h => .ok sg h) (fun (s : Sg) H' => s = sg → D.nx σ H') := by
    refine PostS.st p1 rh1 rs1 fun a b h2 m2 H2 ra rh2 e2 rs2 p3 eb => ?_
    subst ra; subst eb
    exact PostS.same p3 rh2 rs2
  refine ⟨m1, sg, h1, rs1, rh1, Post.bind p2 fun ov ovv h2 m2 H2 ro rh2 e2 p3 => ?_⟩
  refine ⟨m2, sg, h2, rs1.mono rh1 e2, rh2, Post.bind p3 fun iv ivv h3 m3 H3 ri rh3 e3 p4 => ?_⟩
  have rv3 := (rv.mono rh1 e2).mono rh2 e3
  have ro3 := ro.mono rh2 e3
  cases ro3 with
  | loc q =>
    cases ri with
    | int kk =>
      unfold setI at p4
      obtain ⟨ob, ho', f1, f2, f3⟩ := rh3.at' q
      simp only [f1] at p4
      cases f3 with
      | lst rl =>
        simp only at p4
        rename_i xs vs
        cases hx : MP.ixN xs.length kk with
        | none => simp only [hx, Res.bind] at p4; exact p4.elim
        | some j =>
          simp only [hx, Res.bind] at p4
          obtain ⟨r4, e4⟩ := rh3.write q (.lst (rl.set rv3 j))
          exact ⟨_, _, kk, j, rfl, rfl, f2, by rw [← rl.length]; exact hx, p4 _ _ _ r4 e4 rfl rfl⟩
      | _ => exact p4.elim
    | _ => exact p4.elim
  | _ => cases ri <;> exact p4.elim
theorem st_att {o e : Expr} {x z : Ex} {i : Nat} {f : Str} {tp : Pos} (co : ClOk X T) (hi : T.attrs[i]? = some f) (ho : PEe X T W C o x) (he : PEe X T W C e z) : PSe X T W C B (.Assign [.Attribute o f tp] e pos) (.asg (.att x i) z) := by
  refine PS.weak (ps_fld ho he (swaps_other rfl)) fun D σ H h => ?_
  obtain ⟨m, sg, h, rs, rh, p⟩ := h
  rw [exS] at p
  refine ⟨m, sg, h, rs, rh, PostS.st p rh rs fun v vv h1 m1 H1 rv rh1 e1 rs1 p1 => ?_⟩
  unfold asT at p1
  have p2 := PostS.st (RA := fun _ _ a b => a = b) (Q1 := fun (s : Sg) H' => s = sg → D.nx σ H') p1 rh1 rs1 (fun a b h2 m2 H2 ra rh2 e2 rs2 p3 eb => by
    subst ra; subst eb
    exact PostS.same p3 rh2 rs2)
  refine ⟨m1, sg, h1, rs1, rh1, Post.bind p2 fun ov ovv h2 m2 H2 ro rh2 e2 p3 => ?_⟩
  have rv2 := rv.mono rh1 e2
  cases ro with
  | loc q =>
    obtain ⟨ob, ho', f1, f2, f3⟩ := rh2.at' q
    simp only [f1] at p3
    cases f3 with
    | ins hc rf =>
      simp only at p3
      split at p3
      · rename_i hl
        obtain ⟨r4, e4⟩ := rh2.write q (.ins hc (putN_RF hi rv2 rf))
        exact ⟨_, _, _, _, rfl, f2, co.cls _ _ hc, co.no _ _ i f hc hi, by rw [← RF.len rf]; exact hl, p3 _ _ _ r4 e4 rfl rfl⟩
      · exact p3.elim
    | _ => exact p3.elim
  | _ => exact p3.elim
theorem st_augn {i : Nat} {y : Str} {op : Bop} {e : Expr} {x : Ex} {p' : Pos} (hN : X.N.Nodup) (n : NmOk X y i) (he : PEe X T W C e x) : PSe X T W C B (.AugAssign (.Name y p') (bopOf op) e pos) (.augn i op x) := by
  refine PS.weak (ps_aug hN n.at_ n.loc he ((s_iop (T := T) op).opR) n.fn) fun D σ H h => ?_
  obtain ⟨m, sg, h, rs, rh, p⟩ := h
  rw [exS] at p
  split at p
  · rename_i v e
    obtain ⟨w', h1, h2⟩ := rs.get e
    refine ⟨w', h1, m, sg, h, rs, rh, PostS.st p rh rs fun a b h1 m1 H1 ra rh1 e1 rs1 p1 => ?_⟩
    refine ⟨W σ, m1, v, a, h1, h2.mono rh e1, ra, rh1, PostS.st p1 rh1 rs1 fun c d h3 m3 H3 rc rh3 e3 rs3 p3 => ?_⟩
    exact PostS.same p3 rh3 (rs3.set rc i)
  · exact p.elim
theorem st_auga {o e : Expr} {x z : Ex} {i : Nat} {f : Str} {op : Bop} {tp : Pos} (co : ClOk X T) (hi : T.attrs[i]? = some f) (ho : PEe X T W C o x) (he : PEe X T W C e z) : PSe X T W C B (.AugAssign (.Attribute o f tp) (bopOf op) e pos) (.auga x i op z) := by
  refine PS.weak (ps_fldaug ho he ((s_iop (T := T) op).opR)) fun D σ H h => ?_
  obtain ⟨m, sg, h, rs, rh, p⟩ := h
  rw [exS] at p
  refine ⟨m, sg, h, rs, rh, PostS.st p rh rs fun v vv h1 m1 H1 rv rh1 e1 rs1 p1 => ?_⟩
  cases rv with
  | loc q =>
    rename_i n a0
    obtain ⟨ob, ho', f1, f2, f3⟩ := rh1.at' q
    simp only [f1] at p1
    cases f3 with
    | ins hc rf =>
      simp only at p1
      rename_i c C' dx fs gs
      cases e4 : lookN i fs with
      | none => simp only [e4] at p1; exact p1.elim
      | some y =>
        simp only [e4] at p1
        obtain ⟨v, g1, g2⟩ := lookN_RF hi rf e4
        refine ⟨_, _, _, _, v, rfl, f2, co.cls _ _ hc, co.no _ _ i f hc hi, g1, m1, sg, h1, rs1, rh1, PostS.st p1 rh1 rs1 fun a b h2 m2 H2 ra rh2 e2 rs2 p2 => ?_⟩
        refine ⟨W σ, m2, y, a, h2, g2.mono rh1 e2, ra, rh2, PostS.st p2 rh2 rs2 fun w' wv h3 m3 H3 rw' rh3 e3 rs3 p3 => ?_⟩
        have q3 := e3.get (e2.get q)
        obtain ⟨ob', ho3, k1, k2, k3⟩ := rh3.at' q3
        simp only [k1] at p3
        cases k3 with
        | ins hc' rf' =>
          simp only at p3
          split at p3
          · rename_i hcl
            obtain ⟨hcc, hl⟩ := hcl
            subst hcc
            rw [hc] at hc'
            cases hc'
            obtain ⟨r4, e4⟩ := rh3.write q3 (.ins hc (putN_RF hi rw' rf'))
            exact ⟨_, _, k2, by rw [← RF.len rf']; exact hl, p3 m3 _ σ r4 e4 (rs3.mono rh3 e4)⟩
          · exact p3.elim
        | _ => exact p3.elim
    | _ => exact p1.elim
  | _ => exact p1.elim
theorem st_cond {c : Expr} {a b : List Stmt} {x : Ex} {y z : Sts} (hc : PTe X T W C c x) (ha : PSse X T W C B a y) (hb : PSse X T W C B b z) : PSe X T W C B (.If c a b pos) (.cond x y z) := by
  refine PS.weak (ps_if hc ha hb) fun D σ H h => ?_
  obtain ⟨m, sg, h, rs, rh, p⟩ := h
  rw [exS] at p
  refine ⟨m, sg, h, rs, rh, PostS.st p rh rs fun k k' h1 m1 H1 rk rh1 e1 rs1 p1 => ?_⟩
  subst rk
  cases k with
  | true => exact ⟨m1, sg, h1, rs1, rh1, p1⟩
  | false => exact ⟨m1, sg, h1, rs1, rh1, p1⟩
theorem st_ret {e : Expr} {x : Ex} (he : PEe X T W C e x) : PSe X T W C B (.Return (some e) pos) (.ret x) := by
  refine PS.weak (ps_ret he) fun D σ H h => ?_
  obtain ⟨m, sg, h, rs, rh, p⟩ := h
  rw [exS] at p
  exact ⟨m, sg, h, rs, rh, PostS.st p rh rs fun a b h1 m1 H1 ra rh1 e1 rs1 p1 => PostS.same p1 rh1 rs1 b ra⟩
theorem st_pass : PSe X T W C B (.Pass pos) .pass := by
  refine PS.weak ps_pass fun D σ H h => ?_
  obtain ⟨m, sg, h, rs, rh, p⟩ := h
  rw [exS] at p
  exact PostS.same p rh rs
theorem st_brk : PSe X T W C B (.Break pos) .brk := by
  refine PS.weak ps_break fun D σ H h => ?_
  obtain ⟨m, sg, h, rs, rh, p⟩ := h
  rw [exS] at p
  exact PostS.same p rh rs
theorem st_cont : PSe X T W C B (.Continue pos) .cont := by
  refine PS.weak ps_continue fun D σ H h => ?_
  obtain ⟨m, sg, h, rs, rh, p⟩ := h
  rw [exS] at p
  exact PostS.same p rh rs
theorem ss_nil : PSse X T W C B [] .nil := by
  refine PSs.weak pss_nil fun D σ H h => ?_
  obtain ⟨m, sg, h, rs, rh, p⟩ := h
  rw [exSs] at p
  exact PostS.same p rh rs
theorem ss_cons {s : Stmt} {r : List Stmt} {x : St} {y : Sts} (h1 : PSe X T W C B s x) (h2 : PSse X T W C B r y) : PSse X T W C B (s :: r) (.cons x y) := by
  refine PSs.weak (pss_cons h1 h2) fun D σ H h => ?_
  obtain ⟨m, sg, h, rs, rh, p⟩ := h
  rw [exSs] at p
  refine ⟨m, sg, h, rs, rh, PostS.seq (D := D) (f := exSs C B y) ?_ rfl rfl rfl fun sg1 h1 m1 H1 σ1 rh1 e1 rs1 p1 => ⟨m1, sg1, h1, rs1, rh1, p1⟩⟩
  exact p
theorem st_for {tg iter : Expr} {body : List Stmt} {t : Tg} {it : It} {y : Sts} (hp : PassesOwn (model X.prog X.w) X.A X.env X.xe) (hc : X.calm = true) (hi : PIe X T W C tg iter it) (hg : PG X tg (tG X T t)) (hb : PSse X T W C B body y) (hs : notSet iter = true) :
    PSe X T W C B (.For tg iter body [] pos) (.forr t it y) := by
  refine PS.weak (ps_for hp hc hi hg hb (folded_ok hs)) fun D σ H h => ?_
  obtain ⟨m, sg, h, rs, rh, p⟩ := h
  rw [exS] at p
  refine ⟨m, sg, h, rs, rh, ?_⟩
  cases ev : evIt C it sg h with
  | bad => rw [ev] at p; exact p
  | exc c vs h' =>
    rw [ev] at p
    exact fun m1 H1 r1 e1 => p m1 H1 σ r1 e1 (rs.mono rh e1)
  | ok q h1 =>
    obtain ⟨xs, g⟩ := q
    rw [ev] at p
    have p : PostS (Rx X T) W m H (forL g t (fun σ h => exSs C B y σ h) xs sg h1) D := p
    intro m1 H1 r1 e1 J wj
    refine ⟨fun i k σ' Hh => ∃ m2 h2 sg2, RH (Rx X T) m2 Hh h2 ∧ Ext m1 H1 m2 Hh ∧ RSg X.K m2 Hh sg2 σ' ∧ i ≤ xs.length ∧ k = xs.length - i ∧ PostS (Rx X T) W m2 Hh (forL g t (fun σ h => exSs C B y σ h) (xs.drop i) sg2 h2) D, ⟨xs.length, m1, h1, sg, r1, r1.ext, rs.mono rh e1, Nat.zero_le _, by simp, by rw [List.drop_zero]; exact p.ext e1⟩, fun i k σ' Hh hw => ?_⟩
    obtain ⟨m2, h2, sg2, r2, e2, rs2, hi, hk, p2⟩ := hw
    by_cases hlt : i < xs.length
    · rw [List.drop_eq_getElem_cons hlt] at p2
      unfold forL at p2
      split at p2
      · rename_i hg
        obtain ⟨w1, _⟩ := wj m2 Hh h2 i e2 r2 hg
        obtain ⟨go, stp⟩ := w1 xs[i] (List.getElem?_eq_getElem hlt)
        refine .inr ⟨go, fun σ3 H3 => ∃ m3 h3 sg3, RH (Rx X T) m3 H3 h3 ∧ Ext m1 H1 m3 H3 ∧ RSg X.K m3 H3 sg3 σ3 ∧ PostS (Rx X T) W m3 H3 (forL g t (fun σ h => exSs C B y σ h) (xs.drop (i + 1)) sg3 h3) D, fun σ3 H3 hn => ?_, fun xv H' hy => ?_⟩
        · obtain ⟨m3, h3, sg3, a1, a2, a3, a4⟩ := hn
          exact ⟨xs.length - (i + 1), by omega, m3, h3, sg3, a1, a2, a3, by omega, rfl, a4⟩
        · obtain ⟨r3, e3, rx⟩ := stp xv H' hy
          cases es : setTg t xs[i] sg2 with
          | none => simp only [es] at p2; exact p2.elim
          | some sg3 =>
            simp only [es] at p2
            refine ⟨m2, sg2, h2, xs[i], sg3, rs2.mono r2 e3, r3, rx, es, fun σ4 rs4 _ => ?_⟩
            refine ⟨m2, sg3, h2, rs4, r3, ?_⟩
            have p3 := p2.ext e3
            cases eb : exSs C B y sg3 h2 with
            | bad => rw [eb] at p3; exact p3
            | exc c vs h' => rw [eb] at p3; exact p3
            | ok q h5 =>
              obtain ⟨fl, sg5⟩ := q
              rw [eb] at p3
              intro m5 H5 σ5 r5 e5 rs5
              cases fl with
              | next => exact ⟨m5, h5, sg5, r5, (e2.trans e3).trans e5, rs5, PostS.ext (show PostS (Rx X T) W m2 H' (forL g t (fun σ h => exSs C B y σ h) (xs.drop (i + 1)) sg5 h5) D from p3) e5⟩
              | cont => exact ⟨m5, h5, sg5, r5, (e2.trans e3).trans e5, rs5, PostS.ext (show PostS (Rx X T) W m2 H' (forL g t (fun σ h => exSs C B y σ h) (xs.drop (i + 1)) sg5 h5) D from p3) e5⟩
              | brk => exact (show PostS (Rx X T) W m2 H' (.ok (.next, sg5) h5) D from p3) m5 H5 σ5 r5 e5 rs5
              | ret v => exact (show PostS (Rx X T) W m2 H' (.ok (.ret v, sg5) h5) D from p3) m5 H5 σ5 r5 e5 rs5
              | rse c vs => exact (show PostS (Rx X T) W m2 H' (.ok (.rse c vs, sg5) h5) D from p3) m5 H5 σ5 r5 e5 rs5
      · exact p2.elim
    · have hi' : i = xs.length := by omega
      subst hi'
      rw [List.drop_eq_nil_of_le (Nat.le_refl _)] at p2
      unfold forL at p2
      split at p2
      · rename_i hg
        obtain ⟨_, w2⟩ := wj m2 Hh h2 xs.length e2 r2 hg
        exact .inl ⟨w2 (Nat.le_refl _), PostS.same p2 r2 rs2⟩
      · exact p2.elim
theorem st_while {c : Expr} {body : List Stmt} {x : Ex} {y : Sts} (hp : PassesOwn (model X.prog X.w) X.A X.env X.xe) (hc : PTe X T W C c x) (hb : PSse X T W C B body y) : PSe X T W C B (.While c body [] pos) (.whil x y) := by
  refine PS.weak (ps_while hp hc hb) fun D σ H h => ?_
  obtain ⟨m, sg, h, rs, rh, p⟩ := h
  rw [exS] at p
  refine ⟨fun k σ' Hh => ∃ m2 h2 sg2, RH (Rx X T) m2 Hh h2 ∧ RSg X.K m2 Hh sg2 σ' ∧ PostS (Rx X T) W m2 Hh (whlL (fun σ h => evT C x σ h) (fun σ h => exSs C B y σ h) k sg2 h2) D, ⟨B, m, h, sg, rh, rs, p⟩, fun k σ' Hh hw => ?_⟩
  obtain ⟨m2, h2, sg2, r2, rs2, p2⟩ := hw
  cases k with
  | zero => unfold whlL at p2; exact p2.elim
  | succ k =>
    unfold whlL at p2
    refine ⟨m2, sg2, h2, rs2, r2, PostS.st p2 r2 rs2 fun b b' h3 m3 H3 rb r3 e3 rs3 p3 => ?_⟩
    subst rb
    cases b with
    | false => exact PostS.same p3 r3 rs3
    | true =>
      rw [if_pos rfl]
      simp only [if_true] at p3
      refine ⟨fun σ5 H5 => ∃ m5 h5 sg5, RH (Rx X T) m5 H5 h5 ∧ RSg X.K m5 H5 sg5 σ5 ∧ PostS (Rx X T) W m5 H5 (whlL (fun σ h => evT C x σ h) (fun σ h => exSs C B y σ h) k sg5 h5) D, fun σ5 H5 hn => ?_, m3, sg2, h3, rs3, r3, ?_⟩
      · obtain ⟨m5, h5, sg5, a1, a2, a3⟩ := hn
        exact ⟨k, Nat.lt_succ_self _, m5, h5, sg5, a1, a2, a3⟩
      · cases eb : exSs C B y sg2 h3 with
        | bad => rw [eb] at p3; exact p3
        | exc c vs h' => rw [eb] at p3; exact p3
        | ok q h5 =>
          obtain ⟨fl, sg5⟩ := q
          rw [eb] at p3
          intro m5 H5 σ5 r5 e5 rs5
          cases fl with
          | next => exact ⟨m5, h5, sg5, r5, rs5, PostS.ext (show PostS (Rx X T) W m3 H3 (whlL (fun σ h => evT C x σ h) (fun σ h => exSs C B y σ h) k sg5 h5) D from p3) e5⟩
          | cont => exact ⟨m5, h5, sg5, r5, rs5, PostS.ext (show PostS (Rx X T) W m3 H3 (whlL (fun σ h => evT C x σ h) (fun σ h => exSs C B y σ h) k sg5 h5) D from p3) e5⟩
          | brk => exact (show PostS (Rx X T) W m3 H3 (.ok (.next, sg5) h5) D from p3) m5 H5 σ5 r5 e5 rs5
          | ret v => exact (show PostS (Rx X T) W m3 H3 (.ok (.ret v, sg5) h5) D from p3) m5 H5 σ5 r5 e5 rs5
          | rse c vs => exact (show PostS (Rx X T) W m3 H3 (.ok (.rse c vs, sg5) h5) D from p3) m5 H5 σ5 r5 e5 rs5
end
end MP
namespace MP
open PySem PySem.Spec PyProof.Rows L2
section
variable {X : Cx} {T : Tb} {C : Callee} {pos : Pos}
/-- a def's promise -/
def spC (R : RC) (g : List IV → IH → Res IV) (n : Nat) : Sp := fun vs H Q _ => vs.length = n ∧ ∃ m h ivs, RH R m H h ∧ RVs R.K m H ivs vs ∧ PostV R (fun _ _ _ _ _ => False) m H (g ivs h) Q
/-- a def that keeps its promise -/
structure FnA (X : Cx) (T : Tb) (C : Callee) (k : Nat) (a : Addr) (f : Nat) : Prop where
  ex : ∃ fd ps, FnOk X.prog X.w X.K X.mg X.base L2.CX0 k a fd ps (spC (Rx X T) (C f) ps.length) ∧ Binds X.K fd ps [] ∧ ∀ ivs h, C f ivs h ≠ .bad → ivs.length = ps.length
/-- .. by its name -/
structure FnH (X : Cx) (T : Tb) (C : Callee) (k : Nat) (x : Str) (f : Nat) : Prop where
  ex : ∃ a, X.mg x = some (.ref a) ∧ PySem.W.keepIn X.K (.ref a) = true ∧ FnA X T C k a f
theorem post_bad {R : RC} {W : XW} {m : List Addr} {H : Hp} {r : Res IV} {Q : VK} (p : PostV R W m H r Q) : r ≠ .bad := fun e => by rw [e] at p; exact p
theorem r_call0 {k : Nat} {x : Str} {f : Nat} {p : Pos} (F : FnH X T C k x f) (hr : Room k X.A) (hg : Gl X x) (hd : (x == ("__debug__" : Str)) = false) :
    PEe X T W0 C (.Call (.Name x p) [] [] pos) (.call f .nil) := by
  obtain ⟨a, hm, hk, fd, ps, G, hb, hl⟩ := F.ex
  refine PE.weak (pe_call0 (dvs := []) G hr hg hm hk hb .nil (pass0 (X := X)) hd) fun σ H Q h => ?_
  obtain ⟨m, sg, h, rs, rh, p⟩ := h
  rw [evE, evEs] at p
  exact ⟨hl [] h (post_bad p), m, h, [], rh, .nil, p⟩
theorem r_call {k : Nat} {x : Str} {f : Nat} {p : Pos} {e : Expr} {es : List Expr} {xs : Exs} (F : FnH X T C k x f) (hr : Room k X.A) (hg : Gl X x) (hd : (x == ("__debug__" : Str)) = false)
    (ha : PAe X T W0 C (e :: es) xs) (hs : (e :: es).all notStar = true) : PEe X T W0 C (.Call (.Name x p) (e :: es) [] pos) (.call f xs) := by
  obtain ⟨a, hm, hk, fd, ps, G, hb, hl⟩ := F.ex
  rw [List.all_cons, Bool.and_eq_true] at hs
  refine PE.weak (pe_call (dvs := []) G hr hg hm hk hb .nil (pass0 (X := X)) ha hd (star_cons hs.1) (star_any hs.2)) fun σ H Q h => ?_
  obtain ⟨m, sg, h, rs, rh, p⟩ := h
  rw [evE] at p
  refine ⟨m, sg, h, rs, rh, Post.bind p fun ivs vs h1 m1 H1 rv rh1 e1 p1 => ?_⟩
  rw [List.append_nil]
  exact ⟨by rw [← rv.length]; exact hl _ _ (post_bad p1), m1, h1, ivs, rh1, rv, p1⟩
/-! ### instances -/
structure MkH (X : Cx) (T : Tb) (C : Callee) (k : Nat) (x : Str) (c f : Nat) : Prop where
  ex : ∃ (A a : Addr), X.mg x = some (.ref A) ∧ T.ca c = some A ∧ Mk X.K A a ∧ FnA X T C k a f
theorem new_fin {c f : Nat} {A : Addr} {fd : FuncData} {ps : List Str} {H1 : Hp} {Q : VK} {m1 : List Addr} {h1 : IH} {ivs : List IV} {vs : List V} (hc : T.ca c = some A) (hl : ∀ ivs h, C f ivs h ≠ .bad → ivs.length = ps.length) (rh1 : RH (Rx X T) m1 H1 h1) (rv : RVs X.K m1 H1 ivs vs)
    (p1 : PostV (Rx X T) (fun _ _ _ _ _ => False) m1 H1 ((C f (.loc h1.length :: ivs) (h1 ++ [.ins c []])).bind fun v h' => match v with
      | .non => .ok (.loc h1.length) h'
      | _ => .bad) Q) : ∀ x dx, H1 x = none → H1 dx = none → dx ≠ x →
  spC (Rx X T) (C f) ps.length (.ref x :: (vs ++ [])) (upd (upd H1 dx (.own x)) x (.ins A dx [])) (fun v H2 => v = .non ∧ Q (.ref x) H2) L2.E0 := by
  intro x dx hx hdx hne
  rw [List.append_nil]
  obtain ⟨r2, e2⟩ := rh1.tuple (ho := .own x) hdx
  have hx2 : upd H1 dx (.own x) x = none := by rw [upd_ne (Ne.symm hne)]; exact hx
  obtain ⟨r3, e3⟩ := r2.alloc hx2 (o := .ins c []) (ho := .ins A dx []) (.ins hc .nil)
  have e23 := e2.trans e3
  have rl : RV X.K (m1 ++ [x]) (upd (upd H1 dx (.own x)) x (.ins A dx [])) (.loc h1.length) (.ref x) := .loc (by
    rw [← rh1.len, List.getElem?_append_right (Nat.le_refl _), Nat.sub_self]
    rfl)
  have rv3 := rv.mono rh1 e23
  have p2 := Post.ext p1 e23
  refine ⟨?_, m1 ++ [x], _, .loc h1.length :: ivs, r3, .cons rl rv3, ?_⟩
  · have : (IV.loc h1.length :: ivs).length = ps.length := hl _ (h1 ++ [.ins c []]) fun e => by rw [e] at p1; exact p1
    rw [← this]
    simp [rv.length]
  · refine Post.bind p2 fun v vv h4 m4 H4 rv4 rh4 e4 p4 => ?_
    cases rv4 with
    | non => exact ⟨rfl, Post.same p4 rh4 (rl.mono r3 e4)⟩
    | _ => exact p4.elim
theorem r_new {k c : Nat} {x : Str} {f : Nat} {p : Pos} {e : Expr} {es : List Expr} {xs : Exs} (F : MkH X T C k x c f) (hr : Room (k + 1) X.A) (hg : Gl X x) (hd : (x == ("__debug__" : Str)) = false)
    (ha : PAe X T W0 C (e :: es) xs) (hs : (e :: es).all notStar = true) : PEe X T W0 C (.Call (.Name x p) (e :: es) [] pos) (.new c f xs) := by
  obtain ⟨A, a, hm, hc, mk, fd, ps, G, hb, hl⟩ := F.ex
  rw [List.all_cons, Bool.and_eq_true] at hs
  refine PE.weak (pe_make (dvs := []) mk G hr hg hm hb .nil (pass0 (X := X)) ha hd (star_cons hs.1) (star_any hs.2)) fun σ H Q h => ?_
  obtain ⟨m, sg, h, rs, rh, p⟩ := h
  rw [evE] at p
  refine ⟨m, sg, h, rs, rh, Post.bind p fun ivs vs h1 m1 H1 rv rh1 e1 p1 => ?_⟩
  exact new_fin (fd := fd) hc hl rh1 rv p1
theorem r_new0 {k c : Nat} {x : Str} {f : Nat} {p : Pos} (F : MkH X T C k x c f) (hr : Room (k + 1) X.A) (hg : Gl X x) (hd : (x == ("__debug__" : Str)) = false) :
    PEe X T W0 C (.Call (.Name x p) [] [] pos) (.new c f .nil) := by
  obtain ⟨A, a, hm, hc, mk, fd, ps, G, hb, hl⟩ := F.ex
  refine PE.weak (pe_make0 (dvs := []) mk G hr hg hm hb .nil (pass0 (X := X)) hd) fun σ H Q h => ?_
  obtain ⟨m, sg, h, rs, rh, p⟩ := h
  rw [evE, evEs] at p
  exact new_fin (fd := fd) hc hl rh .nil p
/-! ### methods -/
structure MtH (X : Cx) (T : Tb) (C : Callee) (k : Nat) (c : Nat) (m : Str) (f : Nat) : Prop where
  ex : ∃ (A a : Addr), T.ca c = some A ∧ Cls X.K A ∧ Meth X.K A m a ∧ FnA X T C k a f
  inj : ∀ c' A, T.ca c = some A → T.ca c' = some A → c' = c
  no : m ∉ T.attrs
theorem look_none {m : List Addr} {H : Hp} {x : Str} (hx : x ∉ T.attrs) : ∀ {fs : List (Nat × IV)} {gs : List (Str × V)}, RF (Rx X T) m H fs gs → gs.lookup x = none
  | _, _, .nil => rfl
  | _, _, .cons (b := (g, v)) r t => by
    rw [List.lookup_cons]
    cases e : x == g with
    | true =>
      have e2 : x = g := by simpa using e
      subst e2
      exact absurd (List.mem_of_getElem? r.1) hx
    | false => exact look_none hx t
theorem meth_eq {o : Expr} {mt : Str} {apos : Pos} {es : List Expr} {env : Env} (ho : notCall o = true) (hs : es.all notStar = true) (hlen : es.length < 30) (hl : (apos.endLine == pos.line) = true) :
    eval (.Call (.Attribute o mt apos) es [] pos) env = (do
      let ov ← eval o env
      standAt apos.atName
      let (f, first) ← holding [ov] (getMethod ov mt (do return (← importBound o env).getD true))
      callWith pos f first (backTo pos (starEach es env)) (backToKw pos (keywordEach [] env))) := by
  have e : eval (.Call (.Attribute o mt apos) es [] pos) env = (do
      let ov ← attributeBase o mt env (eval o env)
      standAt apos.atName
      methodCall o mt apos pos env ov (es.length + ([] : List Keyword).length) (backTo pos (starEach es env)) (backToKw pos (keywordEach [] env))) := by rw [eval]
  have hf : methodCallForm (es.length + ([] : List Keyword).length) (backTo pos (starEach es env)) (backToKw pos (keywordEach [] env)) = true := by
    unfold methodCallForm
    rw [star_all hs]
    show (true && true && decide (es.length + 0 + 0 < 30)) = true
    simpa using hlen
  rw [e, attBase ho]
  unfold methodCall
  rw [hf]
  unfold calleeOf methodCallPos
  rw [hl]
  simp only [Bool.not_true, Bool.false_or, if_true, pure_bind, ite_true]
theorem meth_fin {m1 : List Addr} {H1 : Hp} {h1 : IH} {iv : IV} {v : V} {c f : Nat} {A : Addr} {mt : Str} {t : TA} {σ : L2.St} {Q : VK} {fd : FuncData} {ps : List Str} {g : IH → Res (List IV)} (hc : T.ca c = some A) (inj : ∀ c' A, T.ca c = some A → T.ca c' = some A → c' = c) (no : mt ∉ T.attrs) (hl : ∀ ivs h, C f ivs h ≠ .bad → ivs.length = ps.length)
    (rh : RH (Rx X T) m1 H1 h1) (p : PostV (Rx X T) (W0 σ) m1 H1 (match iv with
      | .loc n => match h1[n]? with
        | some (.ins c' _) => if c' = c then (g h1).bind fun vs h => C f (.loc n :: vs) h else .bad
        | _ => .bad
      | _ => .bad) Q) (rv : RV X.K m1 H1 iv v) (ht : ∀ Q' : List V → Hp → Prop, PostVs (Rx X T) (W0 σ) m1 H1 (g h1) Q' → t σ H1 Q') :
    ∃ a dx fs, v = .ref a ∧ H1 a = some (.ins A dx fs) ∧ fs.lookup mt = none ∧ t σ H1 fun vs H2 => spC (Rx X T) (C f) ps.length (v :: (vs ++ [])) H2 Q L2.E0 := by
  cases rv with
  | loc q =>
    rename_i n a
    obtain ⟨o, ho, e1, e2, e3⟩ := rh.at' q
    simp only [e1] at p
    cases e3 with
    | ins hc' rf =>
      rename_i c' C' dx fs gs
      by_cases ec : c' = c
      · replace p : PostV (Rx X T) (W0 σ) m1 H1 (if c' = c then (g h1).bind fun vs h => C f (.loc n :: vs) h else .bad) Q := p
        rw [if_pos ec] at p
        have p' := p
        clear p
        subst ec
        have : C' = A := Option.some.inj (hc'.symm.trans hc)
        subst this
        refine ⟨a, dx, gs, rfl, e2, look_none no rf, ht _ (Post.bind p' fun ivs vs h2 m2 H2 rv2 rh2 e p2 => ?_)⟩
        rw [List.append_nil]
        have rl : RV X.K m2 H2 (.loc n) (.ref a) := .loc (e.get q)
        refine ⟨?_, m2, h2, .loc n :: ivs, rh2, .cons rl rv2, p2⟩
        have := hl _ _ (post_bad p2)
        rw [← this]
        simp [rv2.length]
      · replace p : PostV (Rx X T) (W0 σ) m1 H1 (if c' = c then (g h1).bind fun vs h => C f (.loc n :: vs) h else .bad) Q := p
        rw [if_neg ec] at p
        exact False.elim p
    | _ => exact False.elim p
  | _ => exact p.elim
theorem r_meth {k c m : Nat} {o : Expr} {mt : Str} {apos : Pos} {f : Nat} {x : Ex} {e : Expr} {es : List Expr} {xs : Exs} (F : MtH X T C k c mt f) (hr : Room k X.A) (ho : PEe X T W0 C o x) (hn : notCall o = true) (hlen : (e :: es).length < 30) (hli : (apos.endLine == pos.line) = true)
    (ha : PAe X T W0 C (e :: es) xs) (hs : (e :: es).all notStar = true) : PEe X T W0 C (.Call (.Attribute o mt apos) (e :: es) [] pos) (.meth c m f x xs) := by
  obtain ⟨A, a, hc, cl, me, fd, ps, G, hb, hl⟩ := F.ex
  have ht := meth_eq (pos := pos) (mt := mt) (apos := apos) (env := X.env) hn hs hlen hli
  rw [List.all_cons, Bool.and_eq_true] at hs
  refine PE.weak (pe_meth (dvs := []) ho cl me G hr hb .nil (pass0 (X := X)) ha (star_cons hs.1) (star_any hs.2) ht) fun σ H Q h => ?_
  obtain ⟨m, sg, h, rs, rh, p⟩ := h
  rw [evE] at p
  refine ⟨m, sg, h, rs, rh, Post.bind p fun iv v h1 m1 H1 rv rh1 e1 p1 => ?_⟩
  exact meth_fin (fd := fd) hc F.inj F.no hl rh1 p1 rv fun Q' z => ⟨m1, sg, h1, rs.mono rh e1, rh1, z⟩
theorem r_meth0 {k c m : Nat} {o : Expr} {mt : Str} {apos : Pos} {f : Nat} {x : Ex} (F : MtH X T C k c mt f) (hr : Room k X.A) (ho : PEe X T W0 C o x) (hn : notCall o = true) (hli : (apos.endLine == pos.line) = true) :
    PEe X T W0 C (.Call (.Attribute o mt apos) [] [] pos) (.meth c m f x .nil) := by
  obtain ⟨A, a, hc, cl, me, fd, ps, G, hb, hl⟩ := F.ex
  refine PE.weak (pe_meth0 (dvs := []) ho cl me G hr hb .nil (pass0 (X := X)) (meth_eq hn rfl (by decide) hli)) fun σ H Q h => ?_
  obtain ⟨m, sg, h, rs, rh, p⟩ := h
  rw [evE] at p
  refine ⟨m, sg, h, rs, rh, Post.bind p fun iv v h1 m1 H1 rv rh1 e1 p1 => ?_⟩
  exact meth_fin (fd := fd) (g := fun h => evEs C .nil sg h) hc F.inj F.no hl rh1 p1 rv fun Q' z => by
    simp only [evEs] at z
    exact z.same rh1 .nil
end
end MP
namespace MP
open PySem PySem.Spec PyProof.Rows L2
/-- what the module's names are -/
structure Glb where
  fns : List (Str × Nat)
  cls : List (Str × (Nat × Nat))
  cons : List (Str × IV)
  dcts : List (Str × List (List Nat × IV))
  attrs : List Str
  meths : List (Nat × Str × Nat)
  bn : List Str
structure Gam where
  G : Glb
  N : List Str
  sc : Scope
  fnc : Str → Bool
def Gam.blk (Γ : Gam) (scope : Scope) : Gam := ⟨Γ.G, Γ.N, relS scope Γ.sc, fun x => scope.names.lookup x == some .cell⟩

def eqbK : List (List Nat × IV) → List (List Nat × IV) → Bool
  | [], [] => true
  | (k, v) :: r, (k', v') :: r' => k == k' && IV.eqb v v' && eqbK r r'
  | _, _ => false
theorem eqbK_eq : ∀ (a b : List (List Nat × IV)), eqbK a b = true → a = b
  | [], [], _ => rfl
  | (k, v) :: r, (k', v') :: r', h => by
    unfold eqbK at h
    rw [Bool.and_eq_true, Bool.and_eq_true] at h
    rw [eqb_eq h.1.2, eqbK_eq _ _ h.2, beq_iff_eq.mp h.1.1]
  | [], _ :: _, h => by simp [eqbK] at h
  | _ :: _, [], h => by simp [eqbK] at h

/-! ### names -/
def isVis : Option NameKind → Bool
  | some .local => true
  | some .cell => true
  | some .free => true
  | _ => false
def isGlob : Option NameKind → Bool
  | some .globalImplicit => true
  | _ => false
def isLoc : Option NameKind → Bool
  | some .local => true
  | _ => false
def isCell : Option NameKind → Bool
  | some .cell => true
  | _ => false
def dbg : Str := "__debug__"
def cdc : Str := "__classdict__"
def lk (Γ : Gam) (y : Str) : Option NameKind := Γ.sc.names.lookup y
def varC (Γ : Gam) (i : Nat) (y : Str) : Bool := decide (Γ.N[i]? = some y) && isVis (lk Γ y) && !(y == dbg) && !(y == cdc)
def nmC (Γ : Gam) (i : Nat) (y : Str) : Bool := decide (Γ.N[i]? = some y) && (isLoc (lk Γ y) || (isCell (lk Γ y) && Γ.fnc y))
def nmsC (Γ : Gam) : List Nat → List Expr → Bool
  | [], [] => true
  | i :: is, e :: es => (match e with
    | .Name y _ => nmC Γ i y
    | _ => false) && nmsC Γ is es
  | _, _ => false
def glC (Γ : Gam) (y : Str) : Bool := isGlob (lk Γ y) && !(y == dbg)
def bnC (Γ : Gam) (y : Str) : Bool := isGlob (lk Γ y) && decide (y ∈ Γ.G.bn)
def tgC (Γ : Gam) (t : Tg) (e : Expr) : Bool := match t with
  | .nm i => match e with
    | .Name y _ => nmC Γ i y
    | _ => false
  | .tp is => match e with
    | .Tuple es _ _ => nmsC Γ is es
    | _ => false
def tysC (Γ : Gam) : List Ty → List Expr → Bool
  | [], [] => true
  | t :: ts, e :: es => (match e with
    | .Name z _ => bnC Γ z && decide (tyS t = some z)
    | _ => false) && tysC Γ ts es
  | _, _ => false
def ddC : List (List Nat × IV) → List (Option Expr) → List Expr → Bool
  | [], [], [] => true
  | (k, v) :: r, some (.Constant (.str z) _ _) :: ks, .Constant c _ _ :: vs => decide (z.cps.toList = k) && (match v with
    | .str y => (match c with
      | .str z' => decide (z'.cps.toList = y)
      | _ => false)
    | .int i => (match c with
      | .int i' => decide (i = i')
      | _ => false)
    | _ => false) && ddC r ks vs
  | _, _, _ => false
def ddR : List (List Nat × IV) → List (Key × V)
  | [] => []
  | (k, v) :: r => (Sum.inr (toS k), match v with
    | .str y => .str (toS y)
    | .int i => .int i
    | _ => .non) :: ddR r
def ownP (N : List Str) (own : List Nat) : List (Str × Nat) := own.map fun i => (N.getD i dbg, i)
theorem ownP_snd (N : List Str) (own : List Nat) : (ownP N own).map (·.2) = own := by
  unfold ownP
  rw [List.map_map]
  exact List.map_id' _ |>.symm ▸ by simp
def slotsC (t : Tg) (own : List Nat) : Bool := t.slots.all fun i => decide (i ∈ own)

/-- the recursive parts -/
structure Rec where
  E : Gam → Ex → Expr → Bool
  B : Gam → Bool → Ex → List Expr → Bool
  T : Gam → Ex → Expr → Bool
  W : Gam → Bool → Ex → List Expr → Bool
  A : Gam → Exs → List Expr → Bool
  O : Gam → Ox → Option Expr → Bool
  S : Gam → Sx → Expr → Bool
  I : Gam → It → Expr → Expr → Bool
  St : Gam → St → Stmt → Bool
  Ss : Gam → Sts → List Stmt → Bool
def rec0 : Rec := ⟨fun _ _ _ => false, fun _ _ _ _ => false, fun _ _ _ => false, fun _ _ _ _ => false, fun _ _ _ => false, fun _ _ _ => false, fun _ _ _ => false, fun _ _ _ _ => false, fun _ _ _ => false, fun _ _ _ => false⟩
def argsC (r : Rec) (Γ : Gam) (xs : Exs) (es : List Expr) : Bool := match es with
  | [] => (match xs with
    | .nil => true
    | _ => false)
  | e :: es => (e :: es).all notStar && r.A Γ xs (e :: es)
def lcC (r : Rec) (Γ : Gam) (elt : Ex) (tg : Tg) (own : List Nat) (it : It) (e : Expr) : Bool := match e with
  | .ListComp elt' [⟨tg', iter, [], 0⟩] scope _ => r.I Γ it tg' iter && notSet iter && blkC Γ.N Γ.sc scope (ownP Γ.N own) && slotsC tg own && tgC (Γ.blk scope) tg tg' && r.E (Γ.blk scope) elt elt'
  | _ => false
def one (r : Rec) (Γ : Gam) (z : Str) (a : Ex) (e : Expr) : Bool := match e with
  | .Call (.Name x _) [e1] [] _ => decide (x = z) && bnC Γ x && notStar e1 && r.E Γ a e1
  | _ => false
def oneS (r : Rec) (Γ : Gam) (z : Str) (a : Sx) (e : Expr) : Bool := match e with
  | .Call (.Name x _) [e1] [] _ => decide (x = z) && bnC Γ x && notStar e1 && r.S Γ a e1
  | _ => false
def bsN : Bs → Str
  | .sum => "sum"
  | .all => "all"
  | .any => "any"
  | .tuple => "tuple"
  | .list => "list"
def bvN : Bv → Str
  | .len => "len"
  | .abs => "abs"
  | .int => "int"
def stepE (r : Rec) (Γ : Gam) (x : Ex) (e : Expr) : Bool := match x with
  | .var i => (match e with
    | .Name y _ => varC Γ i y
    | _ => false)
  | .con v => (match e with
    | .Constant c _ _ => (match c with
      | .int i => (match v with
        | .int j => decide (i = j)
        | _ => false)
      | .bool b => (match v with
        | .bl b' => decide (b = b')
        | _ => false)
      | .none => (match v with
        | .non => true
        | _ => false)
      | .str z => (match v with
        | .str l => decide (z.cps.toList = l)
        | _ => false)
      | _ => false)
    | _ => false)
  | .glo x v => (match e with
    | .Name y _ => decide (y = x) && glC Γ y && (match look y Γ.G.cons with
      | some w => IV.eqb w v
      | none => false)
    | _ => false)
  | .tup xs => (match e with
    | .Tuple es _ _ => r.A Γ xs es
    | _ => false)
  | .lst xs => (match e with
    | .List es _ => r.A Γ xs es
    | _ => false)
  | .bin op a b => (match e with
    | .BinOp a' o b' _ => decide (o = bopOf op) && r.E Γ a a' && r.E Γ b b'
    | _ => false)
  | .neg a => (match e with
    | .UnaryOp .USub a' _ => r.E Γ a a'
    | _ => false)
  | .cmp op a b => (match e with
    | .Compare a' [o] [b'] _ => decide (o = copOf op) && notSet b' && r.E Γ a a' && r.E Γ b b'
    | _ => false)
  | .chain op op' a b c => (match e with
    | .Compare a' [o, o'] [b', c'] _ => decide (o = copOf op) && decide (o' = copOf op') && notSet c' && r.E Γ a a' && r.E Γ b b' && r.E Γ c c'
    | _ => false)
  | .and a b => (match e with
    | .BoolOp .And (e1 :: e2 :: es) _ => r.E Γ a e1 && r.B Γ true b (e2 :: es)
    | _ => false)
  | .or a b => (match e with
    | .BoolOp .Or (e1 :: e2 :: es) _ => r.E Γ a e1 && r.B Γ false b (e2 :: es)
    | _ => false)
  | .not a => (match e with
    | .UnaryOp .Not a' _ => r.E Γ a a'
    | _ => false)
  | .ite c a b => (match e with
    | .IfExp c' a' b' _ => r.T Γ c c' && r.E Γ a a' && r.E Γ b b'
    | _ => false)
  | .call f xs => (match e with
    | .Call (.Name y _) es [] _ => glC Γ y && decide (look y Γ.G.fns = some f) && argsC r Γ xs es
    | _ => false)
  | .meth c _ f o xs => (match e with
    | .Call (.Attribute o' mt apos) es [] pos => decide ((c, mt, f) ∈ Γ.G.meths) && notCall o' && decide (es.length < 30) && (apos.endLine == pos.line) && r.E Γ o o' && argsC r Γ xs es
    | _ => false)
  | .new c f xs => (match e with
    | .Call (.Name y _) es [] _ => glC Γ y && decide (look y Γ.G.cls = some (c, f)) && argsC r Γ xs es
    | _ => false)
  | .bs b s => oneS r Γ (bsN b) s e
  | .bv b a => one r Γ (bvN b) a e
  | .join o s => (match e with
    | .Call (.Attribute o' mt apos) [e1] [] pos => decide (mt = ("join" : Str)) && notCall o' && (apos.endLine == pos.line) && notStar e1 && r.E Γ o o' && r.S Γ s e1
    | _ => false)
  | .split o a => (match e with
    | .Call (.Attribute o' mt apos) [e1] [] pos => decide (mt = ("split" : Str)) && notCall o' && (apos.endLine == pos.line) && notStar e1 && r.E Γ o o' && r.E Γ a e1
    | _ => false)
  | .app o a => (match e with
    | .Call (.Attribute o' mt apos) [e1] [] pos => decide (mt = ("append" : Str)) && notCall o' && (apos.endLine == pos.line) && notStar e1 && r.E Γ o o' && r.E Γ a e1
    | _ => false)
  | .isi a ts o => (match e with
    | .Call (.Name x _) [e1, e2] [] _ => decide (x = ("isinstance" : Str)) && bnC Γ x && notStar e1 && r.E Γ a e1 && (match o with
      | true => (match ts, e2 with
        | [t], .Name z _ => bnC Γ z && decide (tyS t = some z)
        | _, _ => false)
      | false => (match ts, e2 with
        | t :: ts, .Tuple es _ _ => tysC Γ (t :: ts) es && decide ((t :: ts).length ≤ 100)
        | _, _ => false))
    | _ => false)
  | .sub a i => (match e with
    | .Subscript a' i' _ => notSl i' && r.E Γ a a' && r.E Γ i i'
    | _ => false)
  | .kdx x kvs i => (match e with
    | .Subscript (.Name y _) i' _ => decide (y = x) && glC Γ y && notSl i' && r.E Γ i i' && (match look y Γ.G.dcts with
      | some w => eqbK w kvs
      | none => false)
    | _ => false)
  | .ddx kvs i => (match e with
    | .Subscript (.Dict ks vs _) i' _ => notSl i' && r.E Γ i i' && ddC kvs ks vs && (ks.all fun x => x.isSome) && decide (ks.length = vs.length) && decide (0 < ks.length) && decide (ks.length ≤ 15) && decide (kvs.length ≤ 15) && decide (kvs.map (·.1)).Nodup
    | _ => false)
  | .slc a lo hi => (match e with
    | .Subscript a' (.Slice lo' hi' none _) _ => r.E Γ a a' && r.O Γ lo lo' && r.O Γ hi hi'
    | _ => false)
  | .att o i => (match e with
    | .Attribute o' f _ => notCall o' && decide (Γ.G.attrs[i]? = some f) && r.E Γ o o'
    | _ => false)
  | .mk s => (match s with
    | .lc elt tg own it => lcC r Γ elt tg own it e
    | .ex _ => false)
def stepB (r : Rec) (Γ : Gam) (k : Bool) (x : Ex) (es : List Expr) : Bool := match es with
  | [] => false
  | [e] => r.E Γ x e
  | e1 :: e2 :: es => (match k, x with
    | true, .and a b => r.E Γ a e1 && r.B Γ true b (e2 :: es)
    | false, .or a b => r.E Γ a e1 && r.B Γ false b (e2 :: es)
    | _, _ => false)
def stepW (r : Rec) (Γ : Gam) (k : Bool) (x : Ex) (es : List Expr) : Bool := match es with
  | [] => false
  | [e] => r.T Γ x e
  | e1 :: e2 :: es => (match k, x with
    | true, .and a b => r.T Γ a e1 && r.W Γ true b (e2 :: es)
    | false, .or a b => r.T Γ a e1 && r.W Γ false b (e2 :: es)
    | _, _ => false)
def stepT (r : Rec) (Γ : Gam) (x : Ex) (e : Expr) : Bool := match x with
  | .not a => (match e with
    | .UnaryOp .Not a' _ => r.T Γ a a'
    | _ => false)
  | .cmp op a b => (match e with
    | .Compare a' [o] [b'] _ => decide (o = copOf op) && notSet b' && r.E Γ a a' && r.E Γ b b'
    | _ => false)
  | .chain op op' a b c => (match e with
    | .Compare a' [o, o'] [b', c'] _ => decide (o = copOf op) && decide (o' = copOf op') && notSet c' && r.E Γ a a' && r.E Γ b b' && r.E Γ c c'
    | _ => false)
  | .and a b => (match e with
    | .BoolOp .And (e1 :: e2 :: es) _ => r.T Γ a e1 && r.W Γ true b (e2 :: es)
    | _ => false)
  | .or a b => (match e with
    | .BoolOp .Or (e1 :: e2 :: es) _ => r.T Γ a e1 && r.W Γ false b (e2 :: es)
    | _ => false)
  | x => plainT e && r.E Γ x e
def stepA (r : Rec) (Γ : Gam) (xs : Exs) (es : List Expr) : Bool := match xs, es with
  | .nil, [] => true
  | .cons x xs, e :: es => notStar e && r.E Γ x e && r.A Γ xs es
  | _, _ => false
def stepO (r : Rec) (Γ : Gam) (x : Ox) (e : Option Expr) : Bool := match x, e with
  | .none, none => true
  | .some x, some e => r.E Γ x e
  | _, _ => false
def stepSx (r : Rec) (Γ : Gam) (s : Sx) (e : Expr) : Bool := match s with
  | .ex x => r.E Γ x e
  | .lc elt tg own it => lcC r Γ elt tg own it e
def two2 (r : Rec) (Γ : Gam) (z : Str) (a b : Ex) (e : Expr) : Bool := match e with
  | .Call (.Name x _) [e1, e2] [] _ => decide (x = z) && bnC Γ x && notStar e1 && notStar e2 && r.E Γ a e1 && r.E Γ b e2
  | _ => false
def isTupE : Expr → Bool
  | .Tuple _ _ _ => true
  | _ => false
def stepI (r : Rec) (Γ : Gam) (it : It) (tg : Expr) (e : Expr) : Bool := match it with
  | .sq x => r.E Γ x e
  | .rng x => one r Γ "range" x e
  | .rng2 a b => two2 r Γ "range" a b e
  | .enum x => isTupE tg && one r Γ "enumerate" x e
  | .zip a b => isTupE tg && two2 r Γ "zip" a b e
def stepSt (r : Rec) (Γ : Gam) (x : St) (s : Stmt) : Bool := match x with
  | .expr a => (match s with
    | .Expr e _ => notComp e && r.E Γ a e
    | _ => false)
  | .asg t a => (match s with
    | .Assign [tg] e _ => (match t with
      | .nm i => (match tg with
        | .Name y py => nmC Γ i y && ((notComp e && r.E Γ a e) || (match a with
          | .mk (.lc elt t own it) => isLoc (lk Γ y) && lcC r Γ elt t own it e && (match e with
            | .ListComp _ _ scope pos => (py.line == pos.line) && !(scope.names.any fun x => match x with | (n, k) => n == y && (k == .local || k == .cell))
            | _ => false)
          | _ => false))
        | _ => false)
      | .tp is => (match tg with
        | .Tuple es _ _ => nmsC Γ is es && notTupE e && r.E Γ a e
        | _ => false)
      | .sub o i => (match tg with
        | .Subscript o' i' _ => notSl i' && r.E Γ o o' && r.E Γ i i' && r.E Γ a e
        | _ => false)
      | .att o f => (match tg with
        | .Attribute o' g _ => decide (Γ.G.attrs[f]? = some g) && r.E Γ o o' && r.E Γ a e
        | _ => false))
    | _ => false)
  | .augn i op a => (match s with
    | .AugAssign (.Name y _) o e _ => nmC Γ i y && decide (o = bopOf op) && r.E Γ a e
    | _ => false)
  | .auga o f op a => (match s with
    | .AugAssign (.Attribute o' g _) o2 e _ => decide (Γ.G.attrs[f]? = some g) && decide (o2 = bopOf op) && r.E Γ o o' && r.E Γ a e
    | _ => false)
  | .cond c a b => (match s with
    | .If c' a' b' _ => r.T Γ c c' && r.Ss Γ a a' && r.Ss Γ b b'
    | _ => false)
  | .forr t it b => (match s with
    | .For tg iter b' [] _ => r.I Γ it tg iter && tgC Γ t tg && notSet iter && r.Ss Γ b b'
    | _ => false)
  | .whil c b => (match s with
    | .While c' b' [] _ => r.T Γ c c' && r.Ss Γ b b'
    | _ => false)
  | .ret a => (match s with
    | .Return (some e) _ => r.E Γ a e
    | .Return none _ => (match a with
      | .con .non => true
      | _ => false)
    | _ => false)
  | .raise _ _ => (match s with
    | .Raise _ _ _ => true
    | _ => false)
  | .pass => (match s with
    | .Pass _ => true
    | _ => false)
  | .brk => (match s with
    | .Break _ => true
    | _ => false)
  | .cont => (match s with
    | .Continue _ => true
    | _ => false)
def stepSs (r : Rec) (Γ : Gam) (xs : Sts) (ss : List Stmt) : Bool := match xs, ss with
  | .nil, [] => true
  | .cons x xs, s :: ss => r.St Γ x s && r.Ss Γ xs ss
  | _, _ => false
def chk : Nat → Rec
  | 0 => rec0
  | n + 1 => ⟨stepE (chk n), stepB (chk n), stepT (chk n), stepW (chk n), stepA (chk n), stepO (chk n), stepSx (chk n), stepI (chk n), stepSt (chk n), stepSs (chk n)⟩
end MP
namespace MP
open PySem PySem.Spec PyProof.Rows L2
structure GoodG (X : Cx) (T : Tb) (C : Callee) (k : Nat) (G : Glb) : Prop where
  fns : ∀ x f, look x G.fns = some f → FnH X T C k x f
  cls : ∀ x c f, look x G.cls = some (c, f) → MkH X T C k x c f
  cons : ∀ x v, look x G.cons = some v → GlV X x v
  dcts : ∀ x d, look x G.dcts = some d → GlD X x d
  meths : ∀ c m f, (c, m, f) ∈ G.meths → MtH X T C k c m f
  bn : ∀ x ∈ G.bn, X.mg x = none
  attrs : T.attrs = G.attrs
  cl : ClOk X T
structure Good (X : Cx) (T : Tb) (C : Callee) (k : Nat) (Γ : Gam) : Prop where
  g : GoodG X T C k Γ.G
  N : X.N = Γ.N
  nd : X.N.Nodup
  sc : X.env.scope = Γ.sc
  fnc : X.fn = Γ.fnc
  kind : X.env.scope.kind = .function
  calm : X.calm = true
  room : Room (k + 1) X.A
  ps : PassesOwn (model X.prog X.w) X.A X.env X.xe
section
variable {X : Cx} {T : Tb} {C : Callee} {k : Nat} {Γ : Gam}
theorem FnA.blk {s : Shared} {H : Hp} {scope : Scope} {cenv : Env} {fp : List Addr} {a f : Nat} (h : FnA X T C k a f) : FnA (X.blk s H scope cenv fp) T C k a f := ⟨h.ex⟩
theorem GoodG.blk {G : Glb} {s : Shared} {H : Hp} {scope : Scope} {cenv : Env} {fp : List Addr} (h : GoodG X T C k G) : GoodG (X.blk s H scope cenv fp) T C k G where
  fns := fun x f e => by
    obtain ⟨a, h1, h2, h3⟩ := (h.fns x f e).ex
    exact ⟨a, h1, h2, h3.blk⟩
  cls := fun x c f e => by
    obtain ⟨A, a, h1, h2, h3, h4⟩ := (h.cls x c f e).ex
    exact ⟨A, a, h1, h2, h3, h4.blk⟩
  cons := h.cons
  dcts := h.dcts
  meths := fun c m f e => by
    have q := h.meths c m f e
    obtain ⟨A, a, h1, h2, h3, h4⟩ := q.ex
    exact ⟨⟨A, a, h1, h2, h3, h4.blk⟩, q.inj, q.no⟩
  bn := h.bn
  attrs := h.attrs
  cl := ⟨h.cl.cls, h.cl.no⟩
theorem Good.blk {s : Shared} {H : Hp} {scope : Scope} {cl : List (Str × Addr)} {C' : Addr} {fp : List Addr} (h : Good X T C k Γ) (hk : scope.kind = .function) : Good (X.blk s H scope (compEnvC scope cl C' X.env) fp) T C k (Γ.blk scope) where
  g := h.g.blk
  N := h.N
  nd := h.nd
  sc := by
    show relabel scope X.env = relS scope Γ.sc
    rw [← h.sc]
    rfl
  fnc := rfl
  kind := hk
  calm := h.calm
  room := h.room
  ps := PassesOwn.never
theorem Good.var {i : Nat} {y : Str} (g : Good X T C k Γ) (h : varC Γ i y = true) : X.N[i]? = some y ∧ Vis X.env.scope y ∧ (y == ("__debug__" : Str)) = false ∧ (y == ("__classdict__" : Str)) = false := by
  unfold varC at h
  simp only [Bool.and_eq_true, decide_eq_true_eq, Bool.not_eq_true'] at h
  obtain ⟨⟨⟨h1, h2⟩, h3⟩, h4⟩ := h
  refine ⟨by rw [g.N]; exact h1, ?_, h3, h4⟩
  unfold lk at h2
  rw [← g.sc] at h2
  unfold isVis at h2
  split at h2
  · exact .inl (by assumption)
  · exact .inr (.inl (by assumption))
  · exact .inr (.inr (by assumption))
  · cases h2
theorem Good.nm {i : Nat} {y : Str} (g : Good X T C k Γ) (h : nmC Γ i y = true) : NmOk X y i := by
  unfold nmC at h
  simp only [Bool.and_eq_true, decide_eq_true_eq, Bool.or_eq_true] at h
  obtain ⟨h1, h2⟩ := h
  unfold lk at h2
  rw [← g.sc] at h2
  rcases h2 with h2 | ⟨h2, h3⟩
  · have e : X.env.scope.names.lookup y = some .local := by
      unfold isLoc at h2
      split at h2
      · assumption
      · cases h2
    exact ⟨by rw [g.N]; exact h1, .inl e, .inr e⟩
  · have e : X.env.scope.names.lookup y = some .cell := by
      unfold isCell at h2
      split at h2
      · assumption
      · cases h2
    exact ⟨by rw [g.N]; exact h1, .inr e, .inl (by rw [g.fnc]; exact h3)⟩
theorem Good.nms (g : Good X T C k Γ) : ∀ {is : List Nat} {es : List Expr}, nmsC Γ is es = true → NmEs X es is
  | [], [], _ => .nil
  | i :: is, e :: es, h => by
    unfold nmsC at h
    rw [Bool.and_eq_true] at h
    obtain ⟨h1, h2⟩ := h
    split at h1
    · exact .cons (g.nm h1) (g.nms h2)
    · cases h1
  | [], _ :: _, h => by simp [nmsC] at h
  | _ :: _, [], h => by simp [nmsC] at h
theorem Good.gl {y : Str} (g : Good X T C k Γ) (h : glC Γ y = true) : Gl X y ∧ (y == ("__debug__" : Str)) = false := by
  unfold glC at h
  simp only [Bool.and_eq_true, Bool.not_eq_true'] at h
  refine ⟨?_, h.2⟩
  have h1 := h.1
  unfold lk at h1
  rw [← g.sc] at h1
  unfold isGlob at h1
  split at h1
  · assumption
  · cases h1
theorem Good.bn {y : Str} (g : Good X T C k Γ) (h : bnC Γ y = true) : Bn X y := by
  unfold bnC at h
  simp only [Bool.and_eq_true, decide_eq_true_eq] at h
  refine ⟨?_, g.g.bn y h.2⟩
  have h1 := h.1
  unfold lk at h1
  rw [← g.sc] at h1
  unfold isGlob at h1
  split at h1
  · assumption
  · cases h1
theorem Good.tg {t : Tg} {e : Expr} (g : Good X T C k Γ) (h : tgC Γ t e = true) : PG X e (tG X T t) := by
  cases t with
  | nm i =>
    unfold tgC at h
    simp only at h
    split at h
    · exact g_nm g.nd (g.nm h)
    · cases h
  | tp is =>
    unfold tgC at h
    simp only at h
    split at h
    · exact g_tp g.calm g.nd (g.nms h)
    · cases h
theorem Good.tys (g : Good X T C k Γ) : ∀ {ts : List Ty} {es : List Expr}, tysC Γ ts es = true → TyEs X es ts
  | [], [], _ => .nil
  | t :: ts, e :: es, h => by
    unfold tysC at h
    rw [Bool.and_eq_true] at h
    obtain ⟨h1, h2⟩ := h
    split at h1
    · rw [Bool.and_eq_true, decide_eq_true_eq] at h1
      exact .cons (g.bn h1.1) h1.2 (g.tys h2)
    · cases h1
  | [], _ :: _, h => by simp [tysC] at h
  | _ :: _, [], h => by simp [tysC] at h
theorem str_toL (z : Str) : toS z.cps.toList = z := by cases z; simp [toS]
theorem ddC_dd : ∀ {kvs : List (List Nat × IV)} {ks : List (Option Expr)} {vs : List Expr}, ddC kvs ks vs = true → DdE ks vs kvs (ddR kvs)
  | [], ks, vs, h => by
    unfold ddC at h
    split at h
    · exact .nil
    · rename_i e
      cases e
    · cases h
  | (k, v) :: r, ks, vs, h => by
    unfold ddC at h
    split at h
    · rename_i e
      cases e
    · rename_i k' v' r' z _ _ ks' c _ _ vs' e
      cases e
      simp only [Bool.and_eq_true, decide_eq_true_eq] at h
      obtain ⟨⟨h1, h2⟩, h3⟩ := h
      have ih := ddC_dd h3
      subst h1
      split at h2
      · split at h2
        · rename_i y _ z'
          simp only [decide_eq_true_eq] at h2
          subst h2
          unfold ddR
          simp only [str_toL]
          exact .str ih
        · cases h2
      · split at h2
        · simp only [decide_eq_true_eq] at h2
          subst h2
          unfold ddR
          simp only [str_toL]
          exact .int ih
        · cases h2
      · cases h2
    · cases h
theorem ddR_len : ∀ {kvs : List (List Nat × IV)}, (ddR kvs).length = kvs.length
  | [] => rfl
  | _ :: r => by unfold ddR; rw [List.length_cons, List.length_cons, ddR_len]
theorem ddR_keys : ∀ {kvs : List (List Nat × IV)}, (ddR kvs).map (·.1) = kvs.map fun p => (Sum.inr (toS p.1) : Key)
  | [] => rfl
  | _ :: r => by unfold ddR; rw [List.map_cons, List.map_cons, ddR_keys]
theorem toS_inj {a b : List Nat} (h : toS a = toS b) : a = b := by
  unfold toS at h
  injection h with h
  simpa using h
theorem ddR_nd {kvs : List (List Nat × IV)} (h : (kvs.map (·.1)).Nodup) : ((ddR kvs).map (·.1)).Nodup := by
  rw [ddR_keys]
  have : (kvs.map fun p => (Sum.inr (toS p.1) : Key)) = (kvs.map (·.1)).map fun a => (Sum.inr (toS a) : Key) := by rw [List.map_map]; rfl
  rw [this]
  refine List.Pairwise.map _ (fun a b hab => ?_) h
  intro e
  injection e with e
  exact hab (toS_inj e)
theorem ownP_of {N : List Str} {own : List Nat} : (ownP N own).map (·.2) = own := ownP_snd N own
end
/-- the recursive parts do what they should -/
structure Snd (T : Tb) (C : Callee) (k B : Nat) (r : Rec) : Prop where
  e : ∀ {X : Cx} {Γ : Gam} {x : Ex} {e : Expr}, Good X T C k Γ → r.E Γ x e = true → PEe X T W0 C e x
  b : ∀ {X : Cx} {Γ : Gam} {b : Bool} {x : Ex} {es : List Expr} {pos : Pos}, Good X T C k Γ → r.B Γ b x es = true → PEe X T W0 C (.BoolOp (if b = true then .And else .Or) es pos) x
  t : ∀ {X : Cx} {Γ : Gam} {x : Ex} {e : Expr}, Good X T C k Γ → r.T Γ x e = true → PTe X T W0 C e x
  w : ∀ {X : Cx} {Γ : Gam} {b : Bool} {x : Ex} {es : List Expr} {pos : Pos}, Good X T C k Γ → r.W Γ b x es = true → PWe X T W0 C (.BoolOp (if b = true then .And else .Or) es pos) x
  a : ∀ {X : Cx} {Γ : Gam} {x : Exs} {e : List Expr}, Good X T C k Γ → r.A Γ x e = true → PAe X T W0 C e x
  o : ∀ {X : Cx} {Γ : Gam} {x : Ox} {e : Option Expr}, Good X T C k Γ → r.O Γ x e = true → POe X T W0 C e x
  s : ∀ {X : Cx} {Γ : Gam} {x : Sx} {e : Expr}, Good X T C k Γ → r.S Γ x e = true → PQe X T W0 C e x
  i : ∀ {X : Cx} {Γ : Gam} {x : It} {tg e : Expr}, Good X T C k Γ → r.I Γ x tg e = true → PIe X T W0 C tg e x
  st : ∀ {X : Cx} {Γ : Gam} {x : St} {e : Stmt}, Good X T C k Γ → r.St Γ x e = true → PSe X T W0 C B e x
  ss : ∀ {X : Cx} {Γ : Gam} {x : Sts} {e : List Stmt}, Good X T C k Γ → r.Ss Γ x e = true → PSse X T W0 C B e x
section
variable {X : Cx} {T : Tb} {C : Callee} {k B : Nat} {Γ : Gam} {r : Rec}
theorem lc_ok {elt : Ex} {tg : Tg} {own : List Nat} {it : It} {e : Expr} (g : Good X T C k Γ) (S : Snd T C k B r) (h : lcC r Γ elt tg own it e = true) :
    ∃ elt' tg' iter scope pos, e = .ListComp elt' [⟨tg', iter, [], 0⟩] scope pos ∧ PIe X T W0 C tg' iter it ∧ LcOk X T C elt' tg' scope elt tg own ∧ notSet iter = true := by
  unfold lcC at h
  split at h
  · rename_i elt' tg' iter scope pos
    simp only [Bool.and_eq_true] at h
    obtain ⟨⟨⟨⟨⟨h1, h2⟩, h3⟩, h4⟩, h5⟩, h6⟩ := h
    have hb := blkOk_by h3
    rw [← g.N, ← g.sc] at hb
    have hk : scope.kind = .function := hb.kind
    refine ⟨elt', tg', iter, scope, pos, rfl, S.i g h1, ⟨⟨_, hb, ownP_snd _ _⟩, ?_, fun s H C' cl fp => ?_, fun s H C' cl fp => ?_⟩, h2⟩
    · intro i hi
      unfold slotsC at h4
      exact of_decide_eq_true (List.all_eq_true.mp h4 i hi)
    · exact (g.blk hk).tg h5
    · exact S.e (g.blk hk) h6
  · cases h
theorem one_ok {z : Str} {a : Ex} {e : Expr} (g : Good X T C k Γ) (S : Snd T C k B r) (h : one r Γ z a e = true) : ∃ p e1 pos, e = .Call (.Name z p) [e1] [] pos ∧ Bn X z ∧ notStar e1 = true ∧ PEe X T W0 C e1 a := by
  unfold one at h
  split at h
  · simp only [Bool.and_eq_true, decide_eq_true_eq] at h
    obtain ⟨⟨⟨rfl, h2⟩, h3⟩, h4⟩ := h
    exact ⟨_, _, _, rfl, g.bn h2, h3, S.e g h4⟩
  · cases h
theorem oneS_ok {z : Str} {a : Sx} {e : Expr} (g : Good X T C k Γ) (S : Snd T C k B r) (h : oneS r Γ z a e = true) : ∃ p e1 pos, e = .Call (.Name z p) [e1] [] pos ∧ Bn X z ∧ notStar e1 = true ∧ PQe X T W0 C e1 a := by
  unfold oneS at h
  split at h
  · simp only [Bool.and_eq_true, decide_eq_true_eq] at h
    obtain ⟨⟨⟨rfl, h2⟩, h3⟩, h4⟩ := h
    exact ⟨_, _, _, rfl, g.bn h2, h3, S.s g h4⟩
  · cases h
theorem two_ok {z : Str} {a b : Ex} {e : Expr} (g : Good X T C k Γ) (S : Snd T C k B r) (h : two2 r Γ z a b e = true) : ∃ p e1 e2 pos, e = .Call (.Name z p) [e1, e2] [] pos ∧ Bn X z ∧ notStar e1 = true ∧ notStar e2 = true ∧ PEe X T W0 C e1 a ∧ PEe X T W0 C e2 b := by
  unfold two2 at h
  split at h
  · simp only [Bool.and_eq_true, decide_eq_true_eq] at h
    obtain ⟨⟨⟨⟨⟨rfl, h2⟩, h3⟩, h4⟩, h5⟩, h6⟩ := h
    exact ⟨_, _, _, _, rfl, g.bn h2, h3, h4, S.e g h5, S.e g h6⟩
  · cases h
theorem s_call {f : Nat} {xs : Exs} {y : Str} {p pos : Pos} {es : List Expr} (g : Good X T C k Γ) (S : Snd T C k B r) (h1 : glC Γ y = true) (h2 : look y Γ.G.fns = some f) (h3 : argsC r Γ xs es = true) : PEe X T W0 C (.Call (.Name y p) es [] pos) (.call f xs) := by
  obtain ⟨a, b⟩ := g.gl h1
  unfold argsC at h3
  cases es with
  | nil =>
    simp only at h3
    split at h3
    · exact r_call0 (g.g.fns y f h2) (g.room.mono (Nat.le_succ _)) a b
    · cases h3
  | cons e es =>
    simp only [Bool.and_eq_true] at h3
    exact r_call (g.g.fns y f h2) (g.room.mono (Nat.le_succ _)) a b (S.a g h3.2) h3.1
theorem s_new {c f : Nat} {xs : Exs} {y : Str} {p pos : Pos} {es : List Expr} (g : Good X T C k Γ) (S : Snd T C k B r) (h1 : glC Γ y = true) (h2 : look y Γ.G.cls = some (c, f)) (h3 : argsC r Γ xs es = true) : PEe X T W0 C (.Call (.Name y p) es [] pos) (.new c f xs) := by
  obtain ⟨a, b⟩ := g.gl h1
  unfold argsC at h3
  cases es with
  | nil =>
    simp only at h3
    split at h3
    · exact r_new0 (g.g.cls y c f h2) g.room a b
    · cases h3
  | cons e es =>
    simp only [Bool.and_eq_true] at h3
    exact r_new (g.g.cls y c f h2) g.room a b (S.a g h3.2) h3.1
theorem s_meth {c m f : Nat} {x : Ex} {xs : Exs} {mt : Str} {o : Expr} {apos pos : Pos} {es : List Expr} (g : Good X T C k Γ) (S : Snd T C k B r) (h1 : (c, mt, f) ∈ Γ.G.meths) (h2 : notCall o = true) (h3 : es.length < 30) (h4 : (apos.endLine == pos.line) = true) (h5 : r.E Γ x o = true) (h6 : argsC r Γ xs es = true) :
    PEe X T W0 C (.Call (.Attribute o mt apos) es [] pos) (.meth c m f x xs) := by
  unfold argsC at h6
  cases es with
  | nil =>
    simp only at h6
    split at h6
    · exact r_meth0 (g.g.meths c mt f h1) (g.room.mono (Nat.le_succ _)) (S.e g h5) h2 h4
    · cases h6
  | cons e es =>
    simp only [Bool.and_eq_true] at h6
    exact r_meth (g.g.meths c mt f h1) (g.room.mono (Nat.le_succ _)) (S.e g h5) h2 h3 h4 (S.a g h6.2) h6.1
end
end MP
namespace MP
open PySem PySem.Spec PyProof.Rows L2
section
variable {X : Cx} {T : Tb} {C : Callee} {k B : Nat} {Γ : Gam} {r : Rec}
theorem snd_con {v : IV} {e : Expr} (h : stepE r Γ (.con v) e = true) : PEe X T W0 C e (.con v) := by
  simp only [stepE] at h
  split at h
  · split at h
    · split at h
      · rw [decide_eq_true_eq] at h; subst h; exact r_int
      · cases h
    · split at h
      · rw [decide_eq_true_eq] at h; subst h; exact r_bl
      · cases h
    · split at h
      · exact r_non
      · cases h
    · split at h
      · rw [decide_eq_true_eq] at h; subst h; exact r_str
      · cases h
    · cases h
  · cases h
theorem snd_cmp {op : Cop} {a b : Ex} {e : Expr} (g : Good X T C k Γ) (S : Snd T C k B r) (h : stepE r Γ (.cmp op a b) e = true) : PEe X T W0 C e (.cmp op a b) := by
  simp only [stepE] at h
  split at h
  · simp only [Bool.and_eq_true, decide_eq_true_eq] at h
    obtain ⟨⟨⟨rfl, h2⟩, h3⟩, h4⟩ := h
    exact r_cmp (g.room.units) (S.e g h3) (S.e g h4) h2
  · cases h
theorem snd_chain {op op' : Cop} {a b c : Ex} {e : Expr} (g : Good X T C k Γ) (S : Snd T C k B r) (h : stepE r Γ (.chain op op' a b c) e = true) : PEe X T W0 C e (.chain op op' a b c) := by
  simp only [stepE] at h
  split at h
  · simp only [Bool.and_eq_true, decide_eq_true_eq] at h
    obtain ⟨⟨⟨⟨⟨rfl, rfl⟩, h2⟩, h3⟩, h4⟩, h5⟩ := h
    exact r_chain (g.room.units) (S.e g h3) (S.e g h4) (S.e g h5) h2
  · cases h
theorem snd_isi {a : Ex} {ts : List Ty} {o : Bool} {e : Expr} (g : Good X T C k Γ) (S : Snd T C k B r) (h : stepE r Γ (.isi a ts o) e = true) : PEe X T W0 C e (.isi a ts o) := by
  simp only [stepE] at h
  split at h
  · simp only [Bool.and_eq_true, decide_eq_true_eq] at h
    obtain ⟨⟨⟨⟨rfl, h2⟩, h3⟩, h4⟩, h5⟩ := h
    split at h5
    · split at h5
      · simp only [Bool.and_eq_true, decide_eq_true_eq] at h5
        exact r_isi1 (g.bn h2) (g.bn h5.1) h5.2 (S.e g h4) h3
      · cases h5
    · split at h5
      · simp only [Bool.and_eq_true, decide_eq_true_eq] at h5
        exact r_isi (g.bn h2) (g.tys h5.1) (S.e g h4) h3 h5.2
      · cases h5
  · cases h
theorem snd_kdx {x : Str} {kvs : List (List Nat × IV)} {i : Ex} {e : Expr} (g : Good X T C k Γ) (S : Snd T C k B r) (h : stepE r Γ (.kdx x kvs i) e = true) : PEe X T W0 C e (.kdx x kvs i) := by
  simp only [stepE] at h
  split at h
  · simp only [Bool.and_eq_true, decide_eq_true_eq] at h
    obtain ⟨⟨⟨⟨rfl, h2⟩, h3⟩, h4⟩, h5⟩ := h
    split at h5
    · rename_i w hw
      rw [← eqbK_eq _ _ h5]
      exact r_kdx (g.gl h2).1 (g.g.dcts _ _ hw) (g.gl h2).2 (S.e g h4) h3
    · cases h5
  · cases h
theorem snd_ddx {kvs : List (List Nat × IV)} {i : Ex} {e : Expr} (g : Good X T C k Γ) (S : Snd T C k B r) (h : stepE r Γ (.ddx kvs i) e = true) : PEe X T W0 C e (.ddx kvs i) := by
  simp only [stepE] at h
  split at h
  · simp only [Bool.and_eq_true, decide_eq_true_eq] at h
    obtain ⟨⟨⟨⟨⟨⟨⟨⟨h1, h2⟩, h3⟩, h4⟩, h5⟩, h6⟩, h7⟩, h8⟩, h9⟩ := h
    refine r_ddx (Nat.lt_of_le_of_lt (by omega) g.room.units) (ddC_dd h3) h4 h5 (fun e => ?_) h7 (by rw [ddR_len]; exact h8) (ddR_nd h9) (S.e g h2) h1
    rw [e] at h6
    cases h6
  · cases h
theorem snd_glo {x : Str} {v : IV} {e : Expr} (g : Good X T C k Γ) (h : stepE r Γ (.glo x v) e = true) : PEe X T W0 C e (.glo x v) := by
  simp only [stepE] at h
  split at h
  · simp only [Bool.and_eq_true, decide_eq_true_eq] at h
    obtain ⟨⟨rfl, h2⟩, h5⟩ := h
    split at h5
    · rename_i w hw
      rw [← eqb_eq h5]
      exact r_glo (g.gl h2).1 (g.g.cons _ _ hw) (g.gl h2).2
    · cases h5
  · cases h
theorem snd_bs {b : Bs} {s : Sx} {e : Expr} (g : Good X T C k Γ) (S : Snd T C k B r) (h : stepE r Γ (.bs b s) e = true) : PEe X T W0 C e (.bs b s) := by
  simp only [stepE] at h
  obtain ⟨p, e1, pos, rfl, h1, h2, h3⟩ := oneS_ok g S h
  cases b with
  | sum => exact r_sum g.calm h1 h3 h2
  | all => exact r_all g.calm h1 h3 h2
  | any => exact r_any g.calm h1 h3 h2
  | tuple => exact r_tuple h1 h3 h2
  | list => exact r_list h1 h3 h2
theorem snd_bv {b : Bv} {s : Ex} {e : Expr} (g : Good X T C k Γ) (S : Snd T C k B r) (h : stepE r Γ (.bv b s) e = true) : PEe X T W0 C e (.bv b s) := by
  simp only [stepE] at h
  obtain ⟨p, e1, pos, rfl, h1, h2, h3⟩ := one_ok g S h
  cases b with
  | len => exact r_len h1 h3 h2
  | abs => exact r_abs h1 h3 h2
  | int => exact r_intf h1 h3 h2
theorem snd_E {x : Ex} {e : Expr} (g : Good X T C k Γ) (S : Snd T C k B r) (h : stepE r Γ x e = true) : PEe X T W0 C e x := by
  cases x with
  | con v => exact snd_con h
  | cmp op a b => exact snd_cmp g S h
  | chain op op' a b c => exact snd_chain g S h
  | isi a ts o => exact snd_isi g S h
  | kdx x kvs i => exact snd_kdx g S h
  | ddx kvs i => exact snd_ddx g S h
  | glo x v => exact snd_glo g h
  | bs b s => exact snd_bs g S h
  | bv b s => exact snd_bv g S h
  | var i =>
    simp only [stepE] at h
    split at h
    · obtain ⟨h1, h2, h3, h4⟩ := g.var h
      exact r_var h1 h2 h3 h4
    · cases h
  | tup xs =>
    simp only [stepE] at h
    split at h
    · exact r_tup (S.a g h)
    · cases h
  | lst xs =>
    simp only [stepE] at h
    split at h
    · exact r_lst (S.a g h)
    · cases h
  | bin op a b =>
    simp only [stepE] at h
    split at h
    · simp only [Bool.and_eq_true, decide_eq_true_eq] at h
      obtain ⟨⟨rfl, h2⟩, h3⟩ := h
      exact r_bin (S.e g h2) (S.e g h3)
    · cases h
  | neg a =>
    simp only [stepE] at h
    split at h
    · exact r_neg (S.e g h)
    · cases h
  | and a b =>
    simp only [stepE] at h
    split at h
    · rw [Bool.and_eq_true] at h
      exact r_and (S.e g h.1) (S.b g h.2)
    · cases h
  | or a b =>
    simp only [stepE] at h
    split at h
    · rw [Bool.and_eq_true] at h
      exact r_or (S.e g h.1) (S.b g h.2)
    · cases h
  | not a =>
    simp only [stepE] at h
    split at h
    · exact r_not (S.e g h)
    · cases h
  | ite c a b =>
    simp only [stepE] at h
    split at h
    · simp only [Bool.and_eq_true] at h
      exact r_ite (S.t g h.1.1) (S.e g h.1.2) (S.e g h.2)
    · cases h
  | call f xs =>
    simp only [stepE] at h
    split at h
    · simp only [Bool.and_eq_true, decide_eq_true_eq] at h
      exact s_call g S h.1.1 h.1.2 h.2
    · cases h
  | meth c m f o xs =>
    simp only [stepE] at h
    split at h
    · simp only [Bool.and_eq_true, decide_eq_true_eq] at h
      obtain ⟨⟨⟨⟨⟨h1, h2⟩, h3⟩, h4⟩, h5⟩, h6⟩ := h
      exact s_meth g S h1 h2 h3 h4 h5 h6
    · cases h
  | new c f xs =>
    simp only [stepE] at h
    split at h
    · simp only [Bool.and_eq_true, decide_eq_true_eq] at h
      exact s_new g S h.1.1 h.1.2 h.2
    · cases h
  | join o s =>
    simp only [stepE] at h
    split at h
    · simp only [Bool.and_eq_true, decide_eq_true_eq] at h
      obtain ⟨⟨⟨⟨⟨rfl, h2⟩, h3⟩, h4⟩, h5⟩, h6⟩ := h
      exact r_join (S.e g h5) (S.s g h6) h4 h2 h3
    · cases h
  | split o a =>
    simp only [stepE] at h
    split at h
    · simp only [Bool.and_eq_true, decide_eq_true_eq] at h
      obtain ⟨⟨⟨⟨⟨rfl, h2⟩, h3⟩, h4⟩, h5⟩, h6⟩ := h
      exact r_split (S.e g h5) (S.e g h6) h4 h2 h3
    · cases h
  | app o a =>
    simp only [stepE] at h
    split at h
    · simp only [Bool.and_eq_true, decide_eq_true_eq] at h
      obtain ⟨⟨⟨⟨⟨rfl, h2⟩, h3⟩, h4⟩, h5⟩, h6⟩ := h
      exact r_app (S.e g h5) (S.e g h6) h4 h2 h3
    · cases h
  | sub a i =>
    simp only [stepE] at h
    split at h
    · simp only [Bool.and_eq_true] at h
      exact r_sub (S.e g h.1.2) (S.e g h.2) h.1.1
    · cases h
  | slc a lo hi =>
    simp only [stepE] at h
    split at h
    · simp only [Bool.and_eq_true] at h
      exact r_slc (S.e g h.1.1) (S.o g h.1.2) (S.o g h.2)
    · cases h
  | att o i =>
    simp only [stepE] at h
    split at h
    · simp only [Bool.and_eq_true, decide_eq_true_eq] at h
      exact r_att g.g.cl (S.e g h.2) h.1.1 (by rw [g.g.attrs]; exact h.1.2)
    · cases h
  | mk s =>
    simp only [stepE] at h
    split at h
    · obtain ⟨elt', tg', iter, scope, pos, rfl, h1, h2, h3⟩ := lc_ok g S h
      exact r_mk g.calm g.nd h1 h2 h3
    · cases h
theorem snd_B {b : Bool} {x : Ex} {es : List Expr} {pos : Pos} (g : Good X T C k Γ) (S : Snd T C k B r) (h : stepB r Γ b x es = true) : PEe X T W0 C (.BoolOp (if b = true then .And else .Or) es pos) x := by
  unfold stepB at h
  split at h
  · cases h
  · exact r_one (S.e g h)
  · split at h
    · rw [Bool.and_eq_true] at h
      exact r_and (S.e g h.1) (S.b (b := true) g h.2)
    · rw [Bool.and_eq_true] at h
      exact r_or (S.e g h.1) (S.b (b := false) g h.2)
    · cases h
theorem snd_W {b : Bool} {x : Ex} {es : List Expr} {pos : Pos} (g : Good X T C k Γ) (S : Snd T C k B r) (h : stepW r Γ b x es = true) : PWe X T W0 C (.BoolOp (if b = true then .And else .Or) es pos) x := by
  unfold stepW at h
  split at h
  · cases h
  · cases b with
    | true => exact w_one_and (S.t g h)
    | false => exact w_one_or (S.t g h)
  · split at h
    · rw [Bool.and_eq_true] at h
      exact w_and (S.t g h.1) (S.w (b := true) g h.2)
    · rw [Bool.and_eq_true] at h
      exact w_or (S.t g h.1) (S.w (b := false) g h.2)
    · cases h
theorem snd_T {x : Ex} {e : Expr} (g : Good X T C k Γ) (S : Snd T C k B r) (h : stepT r Γ x e = true) : PTe X T W0 C e x := by
  unfold stepT at h
  split at h
  · split at h
    · exact t_not (S.t g h)
    · cases h
  · split at h
    · simp only [Bool.and_eq_true, decide_eq_true_eq] at h
      obtain ⟨⟨⟨rfl, h2⟩, h3⟩, h4⟩ := h
      exact t_cmp (g.room.units) (S.e g h3) (S.e g h4) h2
    · cases h
  · split at h
    · simp only [Bool.and_eq_true, decide_eq_true_eq] at h
      obtain ⟨⟨⟨⟨⟨rfl, rfl⟩, h2⟩, h3⟩, h4⟩, h5⟩ := h
      exact t_chain (g.room.units) (S.e g h3) (S.e g h4) (S.e g h5) h2
    · cases h
  · split at h
    · rw [Bool.and_eq_true] at h
      exact PW.pt (w_and (S.t g h.1) (S.w (b := true) g h.2))
    · cases h
  · split at h
    · rw [Bool.and_eq_true] at h
      exact PW.pt (w_or (S.t g h.1) (S.w (b := false) g h.2))
    · cases h
  · rw [Bool.and_eq_true] at h
    exact t_val (S.e g h.2) h.1
theorem snd_A {x : Exs} {es : List Expr} (g : Good X T C k Γ) (S : Snd T C k B r) (h : stepA r Γ x es = true) : PAe X T W0 C es x := by
  unfold stepA at h
  split at h
  · exact r_nil
  · simp only [Bool.and_eq_true] at h
    exact r_cons (S.e g h.1.2) (S.a g h.2) h.1.1
  · cases h
theorem snd_O {x : Ox} {e : Option Expr} (g : Good X T C k Γ) (S : Snd T C k B r) (h : stepO r Γ x e = true) : POe X T W0 C e x := by
  unfold stepO at h
  split at h
  · exact o_none
  · exact o_some (S.e g h)
  · cases h
theorem snd_S {x : Sx} {e : Expr} (g : Good X T C k Γ) (S : Snd T C k B r) (h : stepSx r Γ x e = true) : PQe X T W0 C e x := by
  unfold stepSx at h
  split at h
  · exact q_ex (S.e g h)
  · obtain ⟨elt', tg', iter, scope, pos, rfl, h1, h2, h3⟩ := lc_ok g S h
    exact q_lc g.calm g.nd h1 h2 h3
theorem snd_I {x : It} {tg e : Expr} (g : Good X T C k Γ) (S : Snd T C k B r) (h : stepI r Γ x tg e = true) : PIe X T W0 C tg e x := by
  unfold stepI at h
  split at h
  · exact i_sq (S.e g h)
  · obtain ⟨p, e1, pos, rfl, h1, h2, h3⟩ := one_ok g S h
    exact i_rng h1 h3 h2
  · obtain ⟨p, e1, e2, pos, rfl, h1, h2, h3, h4, h5⟩ := two_ok g S h
    exact i_rng2 h1 h4 h5 h2 h3
  · rw [Bool.and_eq_true] at h
    obtain ⟨p, e1, pos, rfl, h1, h2, h3⟩ := one_ok g S h.2
    have h0 := h.1
    unfold isTupE at h0
    split at h0
    · exact i_enum h1 h3 h2
    · cases h0
  · rw [Bool.and_eq_true] at h
    obtain ⟨p, e1, e2, pos, rfl, h1, h2, h3, h4, h5⟩ := two_ok g S h.2
    have h0 := h.1
    unfold isTupE at h0
    split at h0
    · exact i_zip h1 h4 h5 h2 h3
    · cases h0
theorem st_raise {c : Nat} {es : Exs} {a b : Option Expr} {pos : Pos} : PSe X T W0 C B (.Raise a b pos) (.raise c es) := ⟨fun pins s σ H D I h => by
  obtain ⟨m, sg, h, rs, rh, p⟩ := h
  rw [exS] at p
  exact p.elim⟩
theorem st_retN {pos : Pos} : PSe X T W0 C B (.Return none pos) (.ret (.con .non)) := by
  refine PS.weak ps_retN fun D σ H h => ?_
  obtain ⟨m, sg, h, rs, rh, p⟩ := h
  rw [exS, evE] at p
  exact (PostS.same (fl := .ret .non) p rh rs) .non .non
theorem isLoc_eq {o : Option NameKind} (h : isLoc o = true) : o = some .local := by
  unfold isLoc at h
  split at h
  · rfl
  · cases h
theorem snd_St {x : St} {s : Stmt} (g : Good X T C k Γ) (S : Snd T C k B r) (h : stepSt r Γ x s = true) : PSe X T W0 C B s x := by
  cases x with
  | expr a =>
    simp only [stepSt] at h
    split at h
    · rw [Bool.and_eq_true] at h
      exact st_expr (S.e g h.2) h.1
    · cases h
  | asg t a =>
    simp only [stepSt] at h
    split at h
    · split at h
      · split at h
        · simp only [Bool.and_eq_true, Bool.or_eq_true] at h
          obtain ⟨h1, h2⟩ := h
          rcases h2 with h2 | h2
          · exact st_set g.nd (g.nm h1) (S.e g h2.2) h2.1
          · split at h2
            · simp only [Bool.and_eq_true] at h2
              obtain ⟨⟨h3, h5⟩, h6⟩ := h2
              obtain ⟨elt', tg', iter, scope, pos', rfl, q1, q2, q3⟩ := lc_ok g S h5
              simp only [Bool.and_eq_true, Bool.not_eq_true'] at h6
              exact st_setLc g.calm g.nd g.kind (g.nm h1).at_ (by rw [g.sc]; exact isLoc_eq h3) h6.1 h6.2 q1 q2 q3
            · cases h2
        · cases h
      · split at h
        · simp only [Bool.and_eq_true] at h
          exact st_tp g.calm g.nd (g.nms h.1.1) (S.e g h.2) h.1.2
        · cases h
      · split at h
        · simp only [Bool.and_eq_true] at h
          exact st_sub (S.e g h.1.1.2) (S.e g h.1.2) (S.e g h.2) h.1.1.1
        · cases h
      · split at h
        · simp only [Bool.and_eq_true, decide_eq_true_eq] at h
          exact st_att g.g.cl (by rw [g.g.attrs]; exact h.1.1) (S.e g h.1.2) (S.e g h.2)
        · cases h
    · cases h
  | augn i op a =>
    simp only [stepSt] at h
    split at h
    · simp only [Bool.and_eq_true, decide_eq_true_eq] at h
      obtain ⟨⟨h1, rfl⟩, h2⟩ := h
      exact st_augn g.nd (g.nm h1) (S.e g h2)
    · cases h
  | auga o f op a =>
    simp only [stepSt] at h
    split at h
    · simp only [Bool.and_eq_true, decide_eq_true_eq] at h
      obtain ⟨⟨⟨h1, rfl⟩, h2⟩, h3⟩ := h
      exact st_auga g.g.cl (by rw [g.g.attrs]; exact h1) (S.e g h2) (S.e g h3)
    · cases h
  | cond c a b =>
    simp only [stepSt] at h
    split at h
    · simp only [Bool.and_eq_true] at h
      exact st_cond (S.t g h.1.1) (S.ss g h.1.2) (S.ss g h.2)
    · cases h
  | forr t it b =>
    simp only [stepSt] at h
    split at h
    · simp only [Bool.and_eq_true] at h
      exact st_for g.ps g.calm (S.i g h.1.1.1) (g.tg h.1.1.2) (S.ss g h.2) h.1.2
    · cases h
  | whil c b =>
    simp only [stepSt] at h
    split at h
    · simp only [Bool.and_eq_true] at h
      exact st_while g.ps (S.t g h.1) (S.ss g h.2)
    · cases h
  | ret a =>
    simp only [stepSt] at h
    split at h
    · exact st_ret (S.e g h)
    · split at h
      · exact st_retN
      · cases h
    · cases h
  | raise c es =>
    simp only [stepSt] at h
    split at h
    · exact st_raise
    · cases h
  | pass =>
    simp only [stepSt] at h
    split at h
    · exact st_pass
    · cases h
  | brk =>
    simp only [stepSt] at h
    split at h
    · exact st_brk
    · cases h
  | cont =>
    simp only [stepSt] at h
    split at h
    · exact st_cont
    · cases h
theorem snd_Ss {x : Sts} {s : List Stmt} (g : Good X T C k Γ) (S : Snd T C k B r) (h : stepSs r Γ x s = true) : PSse X T W0 C B s x := by
  unfold stepSs at h
  split at h
  · exact ss_nil
  · rw [Bool.and_eq_true] at h
    exact ss_cons (S.st g h.1) (S.ss g h.2)
  · cases h
end
theorem snd {T : Tb} {C : Callee} {k B : Nat} : ∀ n : Nat, Snd T C k B (chk n)
  | 0 => ⟨fun _ h => (nomatch h), fun _ h => (nomatch h), fun _ h => (nomatch h), fun _ h => (nomatch h), fun _ h => (nomatch h), fun _ h => (nomatch h), fun _ h => (nomatch h), fun _ h => (nomatch h), fun _ h => (nomatch h), fun _ h => (nomatch h)⟩
  | n + 1 => ⟨fun g h => snd_E g (snd (B := B) n) h, fun g h => snd_B g (snd (B := B) n) h, fun g h => snd_T g (snd (B := B) n) h, fun g h => snd_W g (snd (B := B) n) h, fun g h => snd_A g (snd (B := B) n) h, fun g h => snd_O g (snd (B := B) n) h, fun g h => snd_S g (snd (B := B) n) h,
    fun g h => snd_I g (snd (B := B) n) h, fun g h => snd_St g (snd (B := B) n) h, fun g h => snd_Ss g (snd (B := B) n) h⟩
end MP
namespace MP
open PySem PySem.Spec PyProof.Rows L2
theorem lookup_zip {α : Type} : ∀ {ps : List Str} {us : List α} {n : Str}, us.length = ps.length → n ∈ ps → ((ps.zip us).lookup n).isNone = false
  | [], _, _, _, h => by cases h
  | p :: ps, [], _, h, _ => by cases h
  | p :: ps, u :: us, n, h, hn => by
    rw [List.zip_cons_cons, List.lookup_cons]
    cases e : n == p with
    | true => rfl
    | false =>
      rcases List.mem_cons.mp hn with rfl | hn
      · simp at e
      · exact lookup_zip (Nat.succ.inj h) hn
theorem lookup_notin {α : Type} : ∀ {ps : List Str} {us : List α} {n : Str}, n ∉ ps → (ps.zip us).lookup n = none
  | [], _, _, _ => by simp
  | p :: ps, [], _, _ => by simp
  | p :: ps, u :: us, n, h => by
    rw [List.zip_cons_cons, List.lookup_cons]
    have h1 : n ≠ p := fun e => h (by rw [e]; exact List.mem_cons_self ..)
    have h2 : (n == p) = false := by simpa using h1
    rw [h2]
    exact lookup_notin fun z => h (List.mem_cons_of_mem _ z)
theorem filterMap_zip {α : Type} : ∀ {ps : List Str} {us : List α}, ps.Nodup → us.length = ps.length → ps.filterMap (fun n => ((ps.zip us).lookup n).map fun v => (n, v)) = ps.zip us
  | [], us, _, h => by simp
  | p :: ps, [], _, h => by cases h
  | p :: ps, u :: us, nd, h => by
    have ⟨h1, h2⟩ := List.nodup_cons.mp nd
    rw [List.filterMap_cons]
    have e : ((p :: ps).zip (u :: us)).lookup p = some u := by rw [List.zip_cons_cons, List.lookup_cons]; simp
    rw [e]
    show (p, u) :: _ = _
    rw [List.zip_cons_cons]
    congr 1
    refine Eq.trans ?_ (filterMap_zip (us := us) h2 (Nat.succ.inj h))
    have key : ∀ qs : List Str, (∀ n ∈ qs, n ≠ p) → qs.filterMap (fun n => (((p, u) :: ps.zip us).lookup n).map fun v => (n, v)) = qs.filterMap (fun n => ((ps.zip us).lookup n).map fun v => (n, v)) := fun qs => by
      induction qs with
      | nil => intro _; rfl
      | cons n qs ih =>
        intro hq
        rw [List.filterMap_cons, List.filterMap_cons, ih fun n hn => hq n (List.mem_cons_of_mem _ hn), List.lookup_cons]
        have hne : (n == p) = false := by simpa using hq n (List.mem_cons_self ..)
        rw [hne]
    exact key ps fun n hn e => h1 (by rw [← e]; exact hn)
structure PlainA (a : Arguments) (ps : List Str) : Prop where
  pos : a.posonlyargs = []
  args : a.args.map (·.arg) = ps
  va : a.vararg = none
  kwo : a.kwonlyargs = []
  kwa : a.kwarg = none
theorem bind_plain {x qual : Str} {params : Arguments} {body : List Stmt} {scope : Scope} {kV doc pm : Value} {an : Option Addr} {cdv ct : Value} {us : List Value} {ps : List Str} (P : PlainA params ps) (nd : ps.Nodup) (hl : us.length = ps.length) :
    bindArgs (PySem.W.fnOf x qual params body scope .none kV doc pm an cdv ct) ⟨us, []⟩ = pure (ps.zip us) := by
  have hmiss : ∀ k, (ps.take k).filter (fun n => ((ps.zip us).lookup n).isNone) = [] := fun k => by
    rw [List.filter_eq_nil_iff]
    intro n hn
    rw [lookup_zip hl (List.mem_of_mem_take hn)]
    simp
  have hna : notAStandIn Value.none = pure () := rfl
  have hlt : ¬ ps.length < us.length := by omega
  have hfm := filterMap_zip (us := us) nd hl
  unfold bindArgs PySem.W.fnOf
  simp only [P.pos, P.args, P.va, P.kwo, P.kwa, List.map_nil, List.nil_append, List.append_nil, List.forIn_nil, pure_bind]
  simp [seqItems?, hna, hlt, hmiss]
  exact congrArg pure hfm
end MP
namespace MP
open PySem PySem.Spec PyProof.Rows L2
structure Ent where
  d : Def
  at_ : Str × Option Str
  qual : Str
  st : Stmt
structure Mdl where
  G : Glb
  cn : List (Nat × Str)
  ds : List Ent
def Mdl.defs (M : Mdl) : List Def := M.ds.map (·.d)
def Mdl.dd (M : Mdl) : List He.DefD := M.ds.map fun e => ⟨e.at_, e.d.nm, e.qual, defArgs e.st, defBody e.st, defScope e.st, [], []⟩
def conF (x : Str) (v : IV) : He.Fa := match v with
  | .int i => .int x i
  | .str l => .str x (toS l)
  | _ => .free x
def scal : IV → Bool
  | .int _ => true
  | .str _ => true
  | _ => false
def dvOf : IV → He.Dv
  | .int i => .int i
  | .str l => .str (toS l)
  | _ => .non
def vOf : IV → V
  | .int i => .int i
  | .str l => .str (toS l)
  | _ => .non
def faFns (M : Mdl) : List He.Fa := M.G.fns.map fun p => .glo p.1
def faBn (M : Mdl) : List He.Fa := M.G.bn.map .free
def faCon (M : Mdl) : List He.Fa := M.G.cons.map fun p => conF p.1 p.2
def faDct (M : Mdl) : List He.Fa := M.G.dcts.map fun p => .glo p.1
def faCn (M : Mdl) : List He.Fa := M.cn.flatMap fun p => .glo p.2 :: .cls p.2 :: M.G.attrs.map fun f => .noat p.2 f
def faMk (M : Mdl) : List He.Fa := M.G.cls.map fun p => .mkr p.1
def faMt (M : Mdl) : List He.Fa := M.G.meths.map fun q => .meth ((M.cn.lookup q.1).getD dbg) q.2.1
def Mdl.fa (M : Mdl) : List He.Fa := faFns M ++ (faBn M ++ (faCon M ++ (faDct M ++ (faCn M ++ (faMk M ++ faMt M)))))
def Mdl.ts (M : Mdl) : List He.Tab := M.G.dcts.map fun p => (fun K => He.ga K p.1, p.2.map fun q => toS q.1)
def Mdl.ex (M : Mdl) (K : PySem.W.Frag) : Bool := (M.G.dcts.all fun p => He.valsB K (He.ga K p.1) (p.2.map fun q => (toS q.1, dvOf q.2))) && M.cn.all fun p => M.cn.all fun q => (p.1 == q.1) || !(He.ga K p.2 == He.ga K q.2)
def initS : Str := "__init__"
def Mdl.ok (M : Mdl) : Bool :=
  (M.G.fns.all fun p => match M.ds[p.2]? with
    | some e => decide (e.at_ = (p.1, none))
    | none => false) &&
  ((M.G.cls.all fun p => decide (M.cn.lookup p.2.1 = some p.1) && match M.ds[p.2.2]? with
    | some e => decide (e.at_ = (p.1, some initS))
    | none => false) &&
  ((M.G.meths.all fun q => decide (q.2.1 ∉ M.G.attrs) && match M.cn.lookup q.1 with
    | some x => (match M.ds[q.2.2]? with
      | some e => decide (e.at_ = (x, some q.2.1))
      | none => false)
    | none => false) &&
  ((M.G.cons.all fun p => scal p.2) && (M.G.dcts.all fun p => p.2.all fun q => scal q.2))))
def plainAB (a : Arguments) (ps : List Str) : Bool := a.posonlyargs.isEmpty && decide (a.args.map (·.arg) = ps) && a.vararg.isNone && a.kwonlyargs.isEmpty && a.kwarg.isNone
theorem plainA_of {a : Arguments} {ps : List Str} (h : plainAB a ps = true) : PlainA a ps := by
  unfold plainAB at h
  simp only [Bool.and_eq_true, decide_eq_true_eq, List.isEmpty_iff, Option.isNone_iff_eq_none] at h
  obtain ⟨⟨⟨⟨h1, h2⟩, h3⟩, h4⟩, h5⟩ := h
  exact ⟨h1, h2, h3, h4, h5⟩
def Ent.ok (G : Glb) (n : Nat) (e : Ent) : Bool := C8.scC e.d.N e.d.ps (defScope e.st) && (plainAB (defArgs e.st) e.d.ps && (chk n).Ss ⟨G, e.d.N, defScope e.st, fun _ => true⟩ e.d.body (defBody e.st))
def Mdl.tb (M : Mdl) (nd : M.G.attrs.Nodup) (K : PySem.W.Frag) : Tb := ⟨fun c => (M.cn.lookup c).map (He.ga K), M.G.attrs, nd⟩

theorem look_mem {α : Type} {x : Str} {v : α} : ∀ {l : List (Str × α)}, look x l = some v → (x, v) ∈ l
  | [], h => by cases h
  | (g, w) :: r, h => by
    unfold look at h
    split at h
    · rename_i e
      cases h
      rw [e]
      exact List.mem_cons_self ..
    · exact List.mem_cons_of_mem _ (look_mem h)
theorem lookup_mem {α : Type} {x : Nat} {v : α} : ∀ {l : List (Nat × α)}, l.lookup x = some v → (x, v) ∈ l
  | [], h => by cases h
  | (g, w) :: r, h => by
    rw [List.lookup_cons] at h
    cases e : x == g with
    | true =>
      rw [e] at h
      cases h
      rw [beq_iff_eq.mp e]
      exact List.mem_cons_self ..
    | false =>
      rw [e] at h
      exact List.mem_cons_of_mem _ (lookup_mem h)
theorem rv_scal {K : PySem.W.Frag} {m : List Addr} {H : Hp} {v : IV} (h : scal v = true) : RV K m H v (vOf v) := by
  cases v with
  | int i => exact .int i
  | str l => exact .str l
  | _ => cases h
theorem dv_scal {K : PySem.W.Frag} {v : IV} (h : scal v = true) : He.Dv.v K (dvOf v) = vOf v := by
  cases v with
  | int i => rfl
  | str l => rfl
  | _ => cases h
theorem lookK_mem {k : List Nat} {v : IV} : ∀ {l : List (List Nat × IV)}, lookK k l = some v → (k, v) ∈ l
  | [], h => by cases h
  | (g, w) :: r, h => by
    unfold lookK at h
    split at h
    · rename_i e
      cases h
      rw [e]
      exact List.mem_cons_self ..
    · exact List.mem_cons_of_mem _ (lookK_mem h)
/-- what the end leans on -/
structure Facts (M : Mdl) (w : World) (K : PySem.W.Frag) (mg : Str → Option Value) (h : Heap) : Prop where
  kin : K.In h
  ns : h.Ns mainGlobals mg
  says : He.SaysX M.fa M.dd M.ts [] M.ex w h K
section
variable {M : Mdl} {w : World} {K : PySem.W.Frag} {mg : Str → Option Value} {h : Heap} (c : Facts M w K mg h)
theorem Facts.fact {f : He.Fa} (c : Facts M w K mg h) (hf : f ∈ M.fa) : f.ok K = true := c.says.t.d.facts hf
theorem Facts.fun_ (c : Facts M w K mg h) {e : Ent} (he : e ∈ M.ds) : ∃ fd, FunD K e.d.nm e.qual (defArgs e.st) (defBody e.st) (defScope e.st) [] [] (He.fAd K e.at_) fd :=
  c.says.t.d.defs (List.mem_map.mpr ⟨e, he, rfl⟩)
theorem Facts.glo {x : Str} (c : Facts M w K mg h) (hf : He.Fa.glo x ∈ M.fa) : mg x = some (.ref (He.ga K x)) := He.glo_ok c.kin c.ns (c.fact hf)
end
section
variable {M : Mdl} {X : Cx} {C : Callee} {k : Nat} {h : Heap}
theorem mem1 {f : He.Fa} (z : f ∈ faFns M) : f ∈ M.fa := by unfold Mdl.fa; simp [z]
theorem mem2 {f : He.Fa} (z : f ∈ faBn M) : f ∈ M.fa := by unfold Mdl.fa; simp [z]
theorem mem3 {f : He.Fa} (z : f ∈ faCon M) : f ∈ M.fa := by unfold Mdl.fa; simp [z]
theorem mem4 {f : He.Fa} (z : f ∈ faDct M) : f ∈ M.fa := by unfold Mdl.fa; simp [z]
theorem mem5 {f : He.Fa} (z : f ∈ faCn M) : f ∈ M.fa := by unfold Mdl.fa; simp [z]
theorem mem6 {f : He.Fa} (z : f ∈ faMk M) : f ∈ M.fa := by unfold Mdl.fa; simp [z]
theorem mem7 {f : He.Fa} (z : f ∈ faMt M) : f ∈ M.fa := by unfold Mdl.fa; simp [z]
theorem cn_fact {f : He.Fa} {p : Nat × Str} (hp : p ∈ M.cn) (z : f = .glo p.2 ∨ f = .cls p.2 ∨ ∃ a ∈ M.G.attrs, f = .noat p.2 a) : f ∈ M.fa := by
  refine mem5 (List.mem_flatMap.mpr ⟨p, hp, ?_⟩)
  rcases z with rfl | rfl | ⟨a, ha, rfl⟩
  · exact List.mem_cons_self ..
  · exact List.mem_cons_of_mem _ (List.mem_cons_self ..)
  · exact List.mem_cons_of_mem _ (List.mem_cons_of_mem _ (List.mem_map.mpr ⟨a, ha, rfl⟩))
theorem ca_of {nd : M.G.attrs.Nodup} {c : Nat} {A : Addr} (e : (M.tb nd X.K).ca c = some A) : ∃ x, (c, x) ∈ M.cn ∧ A = He.ga X.K x := by
  have e : (M.cn.lookup c).map (He.ga X.K) = some A := e
  cases q : M.cn.lookup c with
  | none => rw [q] at e; cases e
  | some x =>
    rw [q] at e
    cases e
    exact ⟨x, lookup_mem q, rfl⟩
theorem goodG {nd : M.G.attrs.Nodup} (hM : M.ok = true) (c : Facts M X.w X.K X.mg h) (hC : ∀ f e, M.ds[f]? = some e → FnA X (M.tb nd X.K) C k (He.fAd X.K e.at_) f) : GoodG X (M.tb nd X.K) C k M.G := by
  unfold Mdl.ok at hM
  simp only [Bool.and_eq_true] at hM
  obtain ⟨h1, h2, h3, h4, h5⟩ := hM
  have hx := c.says.more
  unfold Mdl.ex at hx
  rw [Bool.and_eq_true] at hx
  obtain ⟨hv, hi⟩ := hx
  refine ⟨fun x f e => ?_, fun x c' f e => ?_, fun x v e => ?_, fun x d e => ?_, fun c' m f e => ?_, fun x hx => ?_, rfl, ⟨fun c' A e => ?_, fun c' A i f e ef => ?_⟩⟩
  · have hm := look_mem e
    have q := List.all_eq_true.mp h1 _ hm
    simp only at q
    split at q
    · rename_i en hen
      have ea : en.at_ = (x, none) := of_decide_eq_true q
      obtain ⟨fd, F⟩ := c.fun_ (List.mem_of_getElem? hen)
      have g := hC f en hen
      have kp := F.kp
      rw [ea] at g kp
      exact ⟨He.ga X.K x, c.glo (mem1 (List.mem_map.mpr ⟨_, hm, rfl⟩)), kp, g⟩
    · cases q
  · have hm := look_mem e
    have q := List.all_eq_true.mp h2 _ hm
    simp only [Bool.and_eq_true, decide_eq_true_eq] at q
    obtain ⟨q1, q2⟩ := q
    split at q2
    · rename_i en hen
      have ea : en.at_ = (x, some initS) := of_decide_eq_true q2
      have g := hC f en hen
      rw [ea] at g
      have hcn := lookup_mem q1
      refine ⟨He.ga X.K x, He.fAd X.K (x, some initS), c.glo (cn_fact hcn (.inl rfl)), ?_, He.mkr_ok (c.fact (mem6 (List.mem_map.mpr ⟨_, hm, rfl⟩))), g⟩
      show (M.cn.lookup c').map (He.ga X.K) = _
      rw [q1]
      rfl
    · cases q2
  · have hm := look_mem e
    have q := List.all_eq_true.mp h4 _ hm
    have f0 := c.fact (mem3 (List.mem_map.mpr ⟨_, hm, rfl⟩))
    simp only at q f0
    cases v with
    | int i =>
      obtain ⟨t, ht⟩ := He.int_ok c.kin c.ns f0
      exact ⟨_, .int i, ht, ⟨t, rfl⟩, fun m H => .int i⟩
    | str l =>
      obtain ⟨t, ht⟩ := He.str_ok c.kin c.ns f0
      exact ⟨_, .str (toS l), ht, ⟨t, rfl⟩, fun m H => .str l⟩
    | _ => cases q
  · have hm := look_mem e
    refine ⟨He.ga X.K x, c.glo (mem4 (List.mem_map.mpr ⟨_, hm, rfl⟩)), fun kk v hk => ?_⟩
    have hkm := lookK_mem hk
    have q := List.all_eq_true.mp (List.all_eq_true.mp h5 _ hm) _ hkm
    have q2 := List.all_eq_true.mp hv _ hm
    simp only at q q2
    obtain ⟨i, hil, hie⟩ := List.mem_iff_getElem.mp hm
    obtain ⟨es, n, D⟩ := c.says.t.tab i (t := (fun K => He.ga K x, d.map fun q => toS q.1)) (by
      unfold Mdl.ts
      rw [List.getElem?_map, List.getElem?_eq_getElem hil, hie]
      rfl)
    obtain ⟨u, hu1, hu2⟩ := He.valsB_ok q2 (q := (toS kk, dvOf v)) (List.mem_map.mpr ⟨_, hkm, rfl⟩)
    rw [dv_scal q] at hu2
    exact ⟨vOf v, ⟨es, n, u, D.at_, D.lit, hu1, hu2⟩, fun m H => rv_scal q⟩
  · have q := List.all_eq_true.mp h3 _ e
    simp only [Bool.and_eq_true, decide_eq_true_eq] at q
    obtain ⟨q1, q2⟩ := q
    split at q2
    · rename_i x hx
      split at q2
      · rename_i en hen
        have ea : en.at_ = (x, some m) := of_decide_eq_true q2
        have g := hC f en hen
        rw [ea] at g
        have hcn := lookup_mem hx
        have fm := c.fact (mem7 (List.mem_map.mpr ⟨_, e, rfl⟩))
        simp only [hx, Option.getD_some] at fm
        refine ⟨⟨He.ga X.K x, He.fAd X.K (x, some m), ?_, He.cls_ok (c.fact (cn_fact hcn (.inr (.inl rfl)))), He.meth_ok fm, g⟩, fun c2 A e1 e2 => ?_, q1⟩
        · show (M.cn.lookup c').map (He.ga X.K) = _
          rw [hx]
          rfl
        · obtain ⟨x1, m1, rfl⟩ := ca_of e1
          obtain ⟨x2, m2, e3⟩ := ca_of e2
          have z := List.all_eq_true.mp (List.all_eq_true.mp hi _ m1) _ m2
          simp only [Bool.or_eq_true, Bool.not_eq_true', beq_eq_false_iff_ne, beq_iff_eq] at z
          rcases z with z | z
          · exact z.symm
          · exact absurd e3 z
      · cases q2
    · cases q2
  · exact He.free_ok c.kin c.ns (c.fact (mem2 (List.mem_map.mpr ⟨x, hx, rfl⟩)))
  · obtain ⟨x, hx, rfl⟩ := ca_of e
    exact He.cls_ok (c.fact (cn_fact hx (.inr (.inl rfl))))
  · obtain ⟨x, hx, rfl⟩ := ca_of e
    exact He.noat_ok (c.fact (cn_fact hx (.inr (.inr ⟨f, List.mem_of_getElem? ef, rfl⟩))))
end
/-! ### every def keeps its promise -/
structure FnK (P : Program) (w : World) (K : PySem.W.Frag) (mg : Str → Option Value) (base : Heap) (T : Tb) (C : Callee) (k : Nat) (a : Addr) (f : Nat) (fd : FuncData) (ps : List Str) : Prop where
  ok : FnOk P w K mg base L2.CX0 k a fd ps (spC (T.rc K) (C f) ps.length)
  bi : Binds K fd ps []
  len : ∀ ivs h, C f ivs h ≠ .bad → ivs.length = ps.length
section
variable {M : Mdl} {P : Program} {w : World} {K : PySem.W.Frag} {mg : Str → Option Value} {base h : Heap} {nd : M.G.attrs.Nodup} {n B : Nat}
theorem defs_get {M : Mdl} {f : Nat} {e : Ent} (he : M.ds[f]? = some e) : M.defs[f]? = some e.d := by
  unfold Mdl.defs
  rw [List.getElem?_map, he]
  rfl
theorem callF_len {D : List Def} {W k f : Nat} {d : Def} (hd : D[f]? = some d) : ∀ ivs h, callF D W k f ivs h ≠ .bad → ivs.length = d.ps.length := by
  intro ivs h hne
  cases k with
  | zero => exact absurd (by rw [callF]) hne
  | succ k =>
    by_cases hl : ivs.length = d.ps.length
    · exact hl
    · refine absurd ?_ hne
      rw [callF]
      simp only [hd, if_neg hl]
theorem mdl_fn (hM : M.ok = true) (hd : M.ds.all (Ent.ok M.G n) = true) (c : Facts M w K mg h) : ∀ (k f : Nat) (e : Ent), M.ds[f]? = some e → ∃ fd, FunD K e.d.nm e.qual (defArgs e.st) (defBody e.st) (defScope e.st) [] [] (He.fAd K e.at_) fd ∧
    FnK P w K mg base (M.tb nd K) (callF M.defs B k) (2 * k) (He.fAd K e.at_) f fd e.d.ps := by
  intro k
  induction k with
  | zero =>
    intro f e he
    obtain ⟨fd, F⟩ := c.fun_ (List.mem_of_getElem? he)
    have hok := List.all_eq_true.mp hd e (List.mem_of_getElem? he)
    unfold Ent.ok at hok
    simp only [Bool.and_eq_true] at hok
    obtain ⟨h1, h2, h3⟩ := hok
    have S := C8.fnScope_by h1
    have ndp : e.d.ps.Nodup := by
      have := S.pre
      rw [← this]
      exact S.nd.sublist (List.take_sublist ..)
    refine ⟨fd, F, ⟨⟨fun vs H Q E q => q.1, fun A outer s H args us vs Q E _ _ _ _ q => ?_⟩, FunD.bindsN F fun _ _ _ _ _ _ us hl => bind_plain (plainA_of h2) ndp hl, callF_len (defs_get he)⟩⟩
    obtain ⟨_, m, h0, ivs, _, _, p⟩ := q
    rw [callF] at p
    exact p.elim
  | succ k ih =>
    intro f e he
    obtain ⟨fd, F⟩ := c.fun_ (List.mem_of_getElem? he)
    have hok := List.all_eq_true.mp hd e (List.mem_of_getElem? he)
    unfold Ent.ok at hok
    simp only [Bool.and_eq_true] at hok
    obtain ⟨h1, h2, h3⟩ := hok
    have S := C8.fnScope_by h1
    have ndp : e.d.ps.Nodup := by
      have := S.pre
      rw [← this]
      exact S.nd.sublist (List.take_sublist ..)
    refine ⟨fd, F, ⟨?_, FunD.bindsN F fun _ _ _ _ _ _ us hl => bind_plain (plainA_of h2) ndp hl, callF_len (defs_get he)⟩⟩
    refine F.ok S (fun vs H Q E q => q.1) fun cdv A outer s H vs Q E hr q => ?_
    let X : Cx := (cxOf L2.CX0 P w K mg base e.d.N e.qual (defScope e.st) (He.fAd K e.at_) cdv A outer s H E).nox
    have g : Good X (M.tb nd K) (callF M.defs B k) (2 * k) ⟨M.G, e.d.N, defScope e.st, fun _ => true⟩ := by
      refine ⟨goodG (X := X) hM c fun f' e' he' => ?_, rfl, S.nd, rfl, rfl, S.kind, rfl, hr, PassesOwn.never⟩
      obtain ⟨fd', _, q'⟩ := ih f' e' he'
      exact ⟨fd', e'.d.ps, q'.ok, q'.bi, q'.len⟩
    refine ⟨_, PSs.nox ((snd (B := B) n).ss g h3), ?_⟩
    obtain ⟨hl, m, h0, ivs, rh, rv, p⟩ := q
    have hl2 : ivs.length = e.d.ps.length := by rw [rv.length]; exact hl
    rw [callF] at p
    simp only [defs_get he, if_pos hl2] at p
    refine ⟨m, _, h0, RSg.start (e.d.N.length - vs.length) rv, rh, ?_⟩
    rw [hl, ← hl2]
    revert p
    cases exSs (callF M.defs B k) B e.d.body (ivs.map some ++ List.replicate (e.d.N.length - ivs.length) none) h0 with
    | bad => exact fun p => p
    | exc c vs h => exact fun p => p
    | ok r h' =>
      obtain ⟨fl, sg⟩ := r
      intro p m' H' σ' r' e' _
      cases fl with
      | next => exact p .non m' H' r' e' .non
      | ret v => exact fun u ru => p u m' H' r' e' ru
      | rse c vs => exact p m' H' r' e'
      | brk => exact p.elim
      | cont => exact p.elim
end
end MP
namespace MP
open PySem PySem.Spec PyProof.Rows L2
theorem frz_of {K : PySem.W.Frag} {H : Hp} {a : Addr} {vs : List V} (hO : Only H) (hS : SqL K H a vs) : Frz K H a vs := by
  rcases hS with (q | q) | q
  · rcases hO a with e | ⟨o, xs, e⟩
    · rw [e] at q; cases q
    · rw [e] at q; cases q
  · exact .inl q
  · exact .inr q
theorem ints_rv {K : PySem.W.Frag} {m : List Addr} {H : Hp} : ∀ ns : List Int, RVs K m H (ns.map .int) (ns.map V.int)
  | [] => .nil
  | n :: ns => .cons (.int n) (ints_rv ns)
/-- the law's promise -/
def spTop (K : PySem.W.Frag) (T : Tb) (g : List IV → IH → Res IV) : Sp := spC (T.rc K) g 1
theorem top_sp {K : PySem.W.Frag} {T : Tb} {g : List IV → IH → Res IV} {H : Hp} {a : Addr} {ns : List Int} (hO : Only H) (hS : SqL K H a (ns.map V.int)) (hg : ∃ h', g [.frl (ns.map .int)] [] = .ok (.bl true) h') :
    spTop K T g [.ref a] H (fun v _ => v = .bl true) fun _ _ _ => False := by
  obtain ⟨h', e⟩ := hg
  refine ⟨rfl, [], [], [.frl (ns.map .int)], ⟨rfl, List.nodup_nil, fun n o z => by simp at z⟩, .cons (.frl (frz_of hO hS) (ints_rv ns)) .nil, ?_⟩
  rw [e]
  intro b m' H' _ _ rb
  cases rb
  rfl
/-- what a law leans on, from its module and its place -/
theorem top_F {M : Mdl} {n B k f : Nat} {e : Ent} {P : Program} {w : World} {K : PySem.W.Frag} {mg : Str → Option Value} {h : Heap} {fa : Addr} {x : Str} (nd : M.G.attrs.Nodup) (hM : M.ok = true) (hd : M.ds.all (Ent.ok M.G n) = true) (he : M.ds[f]? = some e)
    (hps : e.d.ps = [x]) (hat : e.at_ = (e.d.nm, none)) (hg0 : (look e.d.nm M.G.fns).isSome = true) (hsay : He.SaysX M.fa M.dd M.ts [] M.ex w h K) (KX : K.In h) (Gn : h.Ns mainGlobals mg) (hfa : mg e.d.nm = some (.ref fa)) {N : Nat}
    (law : ∀ ns : List Int, ns.length ≤ N → ∃ h', callF M.defs B k f [.frl (ns.map .int)] [] = .ok (.bl true) h') :
    ∃ (K : PySem.W.Frag) (fd : FuncData) (sp : Sp), K.In h ∧ (∀ (s : Shared) (u : Value), BindsTo s fd ⟨[u], []⟩ [(x, u)]) ∧
        (∀ (H : Hp) (a : Addr) (ns : List Int), ns.length ≤ N → Only H → SqL K H a (ns.map V.int) → sp [.ref a] H (fun v _ => v = .bl true) fun _ _ _ => False) ∧
        ∀ base : Heap, K.In base → base.Ns mainGlobals mg → FnOk P w K mg base L2.CX0 (2 * k) fa fd [x] sp := by
  have c : Facts M w K mg h := ⟨KX, Gn, hsay⟩
  have hg : He.Fa.glo e.d.nm ∈ M.fa := by
    obtain ⟨f', hf'⟩ := Option.isSome_iff_exists.mp hg0
    exact mem1 (List.mem_map.mpr ⟨_, look_mem hf', rfl⟩)
  have ea : fa = He.fAd K e.at_ := by
    have := hfa.symm.trans (c.glo hg)
    rw [hat]
    cases this
    rfl
  obtain ⟨fd, F, q⟩ := mdl_fn (P := P) (mg := mg) (base := h) (nd := nd) (B := B) hM hd c k f e he
  have hok := List.all_eq_true.mp hd e (List.mem_of_getElem? he)
  unfold Ent.ok at hok
  simp only [Bool.and_eq_true] at hok
  obtain ⟨h1, h2, h3⟩ := hok
  have pa := plainA_of h2
  rw [hps] at pa
  refine ⟨K, fd, spTop K (M.tb nd K) (callF M.defs B k f), KX, fun s u => ?_, fun H a ns hl hO hS => top_sp hO hS (law ns hl), fun base _ _ => ?_⟩
  · exact FunD.bindsA (ps := [x]) F (fun _ _ _ _ _ _ us hl => bind_plain pa (by simp) hl) s [u] rfl
  · obtain ⟨fd', F', q'⟩ := mdl_fn (P := P) (mg := mg) (base := base) (nd := nd) (B := B) hM hd c k f e he
    have efd : fd' = fd := by
      obtain ⟨oc, od, dV, kV, doc, pm, an, cdv, ct, osl, e1, l1, _⟩ := F.ex
      obtain ⟨oc', od', dV', kV', doc', pm', an', cdv', ct', osl', e2, l2, _⟩ := F'.ex
      rw [l1] at l2
      injection l2 with l3
      injection l3 with _ _ l4 _
      injection l4 with l5
      exact l5.symm
    subst efd
    rw [ea]
    have z := q'.ok
    rw [hps] at z
    exact z
end MP
namespace MP
section
variable {α β : Type} {h h' : IH} {σ : Sg} {C : Callee}
theorem bind_ok (a : α) (f : α → IH → Res β) : (Res.ok a h).bind f = f a h := rfl
theorem st_ok (a : α) (f : α → IH → Res (Fl × Sg)) : (Res.ok a h).st σ f = f a h := rfl
theorem ofO_some (a : α) : Res.ofO (some a) h = .ok a h := rfl
theorem ofB_some (b : Bool) : ofB (some b) h = .ok (.bl b) h := rfl
theorem tr_non : truth h .non = some false := rfl
theorem tr_bl (b : Bool) : truth h (.bl b) = some b := rfl
theorem tr_int (i : Int) : truth h (.int i) = some (i != 0) := rfl
theorem tr_tup (xs : List IV) : truth h (.tup xs) = some (!xs.isEmpty) := rfl
theorem c_lt (i j : Int) : cmpI .lt (.int i) (.int j) h = .ok (.bl (decide (i < j))) h := rfl
theorem c_le (i j : Int) : cmpI .le (.int i) (.int j) h = .ok (.bl (decide (i ≤ j))) h := rfl
theorem c_gt (i j : Int) : cmpI .gt (.int i) (.int j) h = .ok (.bl (decide (j < i))) h := rfl
theorem c_ge (i j : Int) : cmpI .ge (.int i) (.int j) h = .ok (.bl (decide (j ≤ i))) h := rfl
theorem c_eqi (i j : Int) : cmpI .eq (.int i) (.int j) h = .ok (.bl (i == j)) h := rfl
theorem c_nei (i j : Int) : cmpI .ne (.int i) (.int j) h = .ok (.bl (!(i == j))) h := rfl
theorem c_eqs (a b : List Nat) : cmpI .eq (.str a) (.str b) h = .ok (.bl (a == b)) h := rfl
theorem c_nes (a b : List Nat) : cmpI .ne (.str a) (.str b) h = .ok (.bl (!(a == b))) h := rfl
theorem c_eqb (a b : Bool) : cmpI .eq (.bl a) (.bl b) h = .ok (.bl (a == b)) h := rfl
theorem c_neb (a b : Bool) : cmpI .ne (.bl a) (.bl b) h = .ok (.bl (!(a == b))) h := rfl
theorem c_isb (a b : Bool) : cmpI .is (.bl a) (.bl b) h = .ok (.bl (decide (a = b))) h := rfl
theorem c_isnb (a b : Bool) : cmpI .isNot (.bl a) (.bl b) h = .ok (.bl (!decide (a = b))) h := rfl
theorem c_isn_non (x : IV) : cmpI .is x .non h = .ok (.bl (match x with | .non => true | _ => false)) h := by cases x <;> rfl
theorem c_isnn_non (x : IV) : cmpI .isNot x .non h = .ok (.bl (match x with | .non => false | _ => true)) h := by cases x <;> rfl
theorem c_ins (c : Nat) (l : List Nat) : cmpI .isIn (.str [c]) (.str l) h = .ok (.bl (decide (c ∈ l))) h := rfl
theorem c_int (x : IV) (xs : List IV) : cmpI .isIn x (.tup xs) h = if flat x && xs.all flat then .ok (.bl (xs.any fun z => eqF z x)) h else .bad := by
  cases x <;> first | rfl | (rename_i l; rcases l with _ | ⟨c, _ | ⟨d, l⟩⟩ <;> rfl)
theorem c_nint (x : IV) (xs : List IV) : cmpI .notIn x (.tup xs) h = if flat x && xs.all flat then .ok (.bl (!xs.any fun z => eqF z x)) h else .bad := rfl
theorem c_inl (x : IV) (n : Nat) (xs : List IV) (e : h[n]? = some (.lst xs)) : cmpI .isIn x (.loc n) h = if flat x && xs.all flat then .ok (.bl (xs.any fun z => eqF z x)) h else .bad := by
  have : items h (.loc n) = some xs := by simp [items, e]
  cases x <;> first | (simp [cmpI, this]) | (rename_i l; rcases l with _ | ⟨c, _ | ⟨d, l⟩⟩ <;> simp [cmpI, this])
theorem b_addi (i j : Int) : binI .add (.int i) (.int j) h = .ok (.int (i + j)) h := rfl
theorem b_subi (i j : Int) : binI .sub (.int i) (.int j) h = .ok (.int (i - j)) h := rfl
theorem b_adds (a b : List Nat) (hl : a.length + b.length ≤ big) : binI .add (.str a) (.str b) h = .ok (.str (a ++ b)) h := if_pos hl
theorem b_mod (i j : Int) (hj : 0 < j) : binI .mod (.int i) (.int j) h = .ok (.int (i % j)) h := if_pos hj
theorem b_div (i j : Int) (hj : 0 < j ∧ j < 1073741824) : binI .fdiv (.int i) (.int j) h = .ok (.int (i / j)) h := if_pos hj
theorem b_mulr (i j : Int) (hj : -(2 ^ 64) < j ∧ j < 2 ^ 64) : binI .mul (.int i) (.int j) h = .ok (.int (i * j)) h := if_pos (.inr hj)
theorem b_mull (i j : Int) (hi : -(2 ^ 64) < i ∧ i < 2 ^ 64) : binI .mul (.int i) (.int j) h = .ok (.int (i * j)) h := if_pos (.inl hi)
theorem i_addi (i j : Int) : iopI .add (.int i) (.int j) h = .ok (.int (i + j)) h := rfl
theorem v_lens (l : List Nat) (hl : l.length ≤ big) : bvI .len (.str l) h = .ok (.int l.length) h := by
  have e : lenI h (.str l) = some l.length := if_pos hl
  simp [bvI, e, Res.ofO]
theorem v_lent (xs : List IV) : bvI .len (.tup xs) h = .ok (.int xs.length) h := rfl
theorem v_lenf (xs : List IV) : bvI .len (.frl xs) h = .ok (.int xs.length) h := rfl
theorem v_lenl (n : Nat) (xs : List IV) (e : h[n]? = some (.lst xs)) : bvI .len (.loc n) h = .ok (.int xs.length) h := by
  show Res.ofO ((lenI h (.loc n)).map fun n => IV.int n) h = _
  simp [lenI, e, Res.ofO]
theorem v_inti (i : Int) : bvI .int (.int i) h = .ok (.int i) h := rfl
theorem v_absi (i : Int) : bvI .abs (.int i) h = .ok (.int (if i < 0 then -i else i)) h := rfl
theorem s_tup0 (x : IV) (xs : List IV) : subI (.tup (x :: xs)) (.int 0) h = .ok x h := by
  simp [subI, items, atI, ixN, Res.ofO]
theorem s_tup1 (x y : IV) (xs : List IV) : subI (.tup (x :: y :: xs)) (.int 1) h = .ok y h := by
  have : (1 : Int) < (xs.length : Int) + 1 + 1 := by omega
  simp [subI, items, atI, ixN, Res.ofO, this]
theorem s_loc (n : Nat) (xs : List IV) (i : Int) (v : IV) (e : h[n]? = some (.lst xs)) (hv : atI xs i = some v) : subI (.loc n) (.int i) h = .ok v h := by
  simp [subI, items, e, hv, Res.ofO]
theorem s_tup (xs : List IV) (i : Int) (v : IV) (hv : atI xs i = some v) : subI (.tup xs) (.int i) h = .ok v h := by
  simp [subI, items, hv, Res.ofO]
theorem at_nat {α : Type} (xs : List α) (n : Nat) (hn : n < xs.length) : atI xs (n : Int) = xs[n]? := by
  simp [atI, ixN, hn]
theorem at_int {α : Type} (xs : List α) (i : Int) (h0 : 0 ≤ i) (hn : i < xs.length) : atI xs i = xs[i.toNat]? := by
  obtain ⟨n, rfl⟩ := Int.eq_ofNat_of_zero_le h0
  exact at_nat xs n (by exact_mod_cast hn)
theorem y_tup (xs : List IV) : isTy h (.tup xs) .tuple = some true := rfl
theorem y_str (l : List Nat) : isTy h (.str l) .str = some true := rfl
theorem ys_one (v : IV) (t : Ty) (b : Bool) (e : isTy h v t = some b) : isTys h v [t] = some b := by
  unfold isTys isTys
  rw [e]
  cases b <;> rfl
theorem all_bs (xs : List IV) (bs : List Bool) (e : asBools xs = some bs) : bsI .all false xs h = .ok (.bl (bs.all id)) h := by simp [bsI, e, Res.ofO]
theorem any_bs (xs : List IV) (bs : List Bool) (e : asBools xs = some bs) : bsI .any false xs h = .ok (.bl (bs.any id)) h := by simp [bsI, e, Res.ofO]
theorem sum_bs (xs : List IV) (bs : List Int) (e : asInts xs = some bs) : bsI .sum false xs h = .ok (.int bs.sum) h := by simp [bsI, e, Res.ofO]
theorem tup_bs (b : Bool) (xs : List IV) : bsI .tuple b xs h = .ok (.tup xs) h := rfl
theorem lst_bs (b : Bool) (xs : List IV) : bsI .list b xs h = .ok (.loc h.length) (h ++ [.lst xs]) := rfl
theorem nb_cons (x : Nat) (xs : List Nat) : (([] : List Nat) == x :: xs) = false := rfl
theorem cb_nil (x : Nat) (xs : List Nat) : (x :: xs == ([] : List Nat)) = false := rfl
theorem grd_nil (h : IH) : grd [] h = true := rfl
/-- a comprehension that leaves the heap -/
theorem lcL_map {f : IV → IH → Res IV} {h : IH} {g : IV → IV} {gd : Guard} (hg : grd gd h = true) : ∀ xs : List IV, (∀ x ∈ xs, f x h = .ok (g x) h) → lcL gd f xs h = .ok (xs.map g) h
  | [], _ => by simp [lcL, hg]
  | x :: xs, hf => by
    simp [lcL, hg, hf x (List.mem_cons_self ..), lcL_map hg xs fun y hy => hf y (List.mem_cons_of_mem _ hy)]
theorem asBools_map {α : Type} (f : α → Bool) : ∀ l : List α, asBools (l.map fun c => IV.bl (f c)) = some (l.map f)
  | [] => rfl
  | x :: l => by simp [asBools, asBools_map f l]
theorem asInts_map {α : Type} (f : α → Int) : ∀ l : List α, asInts (l.map fun c => IV.int (f c)) = some (l.map f)
  | [] => rfl
  | x :: l => by simp [asInts, asInts_map f l]
theorem asStrs_map {α : Type} (f : α → List Nat) : ∀ l : List α, asStrs (l.map fun c => IV.str (f c)) = some (l.map f)
  | [] => rfl
  | x :: l => by simp [asStrs, asStrs_map f l]
/-- the items of a sequence, walked -/
theorem it_tup (xs : List IV) : (match IV.tup xs with
    | .str l => (Res.ok (l.map fun c => IV.str [c], ([] : Guard)) h : Res (List IV × Guard))
    | v => Res.ofO ((items h v).map fun xs => (xs, guardOf v xs)) h) = .ok (xs, []) h := rfl
def finR (r : Res (Fl × Sg)) : Res IV := match r with
          | .ok p h => (match p.1 with
            | .next => .ok .non h
            | .ret v => .ok v h
            | .rse c ws => .exc c ws h
            | _ => .bad)
          | _ => .bad
theorem fin_ret (v : IV) : finR (.ok (.ret v, σ) h) = .ok v h := rfl
theorem fin_next : finR (.ok (.next, σ) h) = .ok .non h := rfl
def lpC (C : Callee) (c : Ex) : Sg → IH → Res Bool := fun σ h => evT C c σ h
def lpB (C : Callee) (W : Nat) (b : Sts) : Sg → IH → Res (Fl × Sg) := fun σ h => exSs C W b σ h
theorem lpC_ap (c : Ex) : lpC C c σ h = evT C c σ h := rfl
theorem lpB_ap {W : Nat} (b : Sts) : lpB C W b σ h = exSs C W b σ h := rfl
theorem x_whil {W : Nat} (c : Ex) (b : Sts) : exS C W (.whil c b) σ h = whlL (lpC C c) (lpB C W b) W σ h := by rw [exS]; rfl
theorem x_forr {W : Nat} (tg : Tg) (it : It) (b : Sts) : exS C W (.forr tg it b) σ h = (evIt C it σ h).st σ fun p h => forL p.2 tg (lpB C W b) p.1 σ h := by rw [exS]; rfl
theorem li_loc {n : Nat} {xs : List IV} (e : h[n]? = some (.lst xs)) : litems h (.loc n) = some xs := by simp [litems, e]
theorem it_loc {n : Nat} {xs : List IV} (e : h[n]? = some (.lst xs)) : items h (.loc n) = some xs := by simp [items, e]
def lcF (C : Callee) (elt : Ex) (tg : Tg) (own : List Nat) (σ : Sg) : IV → IH → Res IV := fun x h => match setTg tg x (wip σ own) with
        | some σ' => evE C elt σ' h
        | none => .bad
theorem evS_lc (elt : Ex) (tg : Tg) (own : List Nat) (it : It) : evS C (.lc elt tg own it) σ h = (evIt C it σ h).bind fun p h => if p.1.length ≤ big then (lcL p.2 (lcF C elt tg own σ) p.1 h).bind fun ys h => .ok (false, ys) h else .bad := by rw [evS]; rfl
theorem lcF_nm (elt : Ex) (i : Nat) (own : List Nat) (x : IV) : lcF C elt (.nm i) own σ x h = evE C elt ((wip σ own).set i (some x)) h := rfl
theorem set_get {o o' : IO} {n : Nat} (e : h[n]? = some o) : (h.set n o')[n]? = some o' := List.getElem?_set_self (List.getElem?_eq_some_iff.mp e).1
theorem set_ne {o' : IO} {n m : Nat} (e : n ≠ m) : (h.set n o')[m]? = h[m]? := List.getElem?_set_ne e
/-- call of the def d at k + 1 -/
theorem cf_eq {D : List Def} {W k f : Nat} (d : Def) {vs : List IV} {h : IH} (hd : D[f]? = some d) (hl : vs.length = d.ps.length) {sg : Sg} (hs : vs.map some ++ List.replicate (d.N.length - vs.length) none = sg) : callF D W (k + 1) f vs h = finR (exSs (callF D W k) W d.body sg h) := by
  rw [callF]
  simp only [hd, if_pos hl, hs]
  rfl
end
end MP
namespace K76
open MP
def d_is_sized : Def :=
  ⟨"is_sized", ["thing", "low", "high"], ["thing", "low", "high"],
    (.cons (.ret (.and (.isi (.var 0) [.tuple] true) (.chain .le .le (.var 1) (.bv .len (.var 0)) (.var 2))))
    .nil)⟩
def d_is_name : Def :=
  ⟨"is_name", ["thing"], ["thing", "sign"],
    (.cons (.ret (.and (.isi (.var 0) [.str] true) (.and (.chain .le .le (.con (.int 1)) (.bv .len (.var 0)) (.con (.int 8))) (.bs .all (.lc (.cmp .isIn (.var 1) (.glo "LETTERS" (.str [97, 98, 99, 100, 101, 102, 103, 104, 105, 106, 107, 108, 109, 110, 111, 112, 113, 114, 115, 116, 117, 118, 119, 120, 121, 122]))) (.nm 1) [1] (.sq (.var 0)))))))
    .nil)⟩
def d_is_row : Def :=
  ⟨"is_row", ["thing"], ["thing", "one"],
    (.cons (.ret (.and (.call 0 (.cons (.var 0) (.cons (.con (.int 0)) (.cons (.glo "MOST_ROW" (.int 200)) .nil)))) (.bs .all (.lc (.call 1 (.cons (.var 1) .nil)) (.nm 1) [1] (.sq (.var 0))))))
    .nil)⟩
def d_BadText_init : Def :=
  ⟨"__init__", ["self", "place"], ["self", "place"],
    (.cons (.asg (.att (.var 0) 0) (.var 1))
    .nil)⟩
def d_parts_of : Def :=
  ⟨"parts_of", ["procedure"], ["procedure"],
    (.cons (.cond (.cmp .eq (.sub (.var 0) (.con (.int 0))) (.glo "AGAIN" (.str [97, 103, 97, 105, 110])))
    (.cons (.ret (.slc (.var 0) (.some (.con (.int 1))) .none))
    .nil)
    .nil)
    (.cons (.ret (.ite (.cmp .isIn (.sub (.var 0) (.con (.int 0))) (.tup (.cons (.glo "ROW" (.str [114, 111, 119])) (.cons (.glo "PICK" (.str [112, 105, 99, 107])) (.cons (.glo "SIDES" (.str [115, 105, 100, 101, 115])) .nil))))) (.sub (.var 0) (.con (.int 1))) (.tup .nil)))
    .nil))⟩
def d_size_of : Def :=
  ⟨"size_of", ["thing", "deep"], ["thing", "deep", "sizes", "part"],
    (.cons (.cond (.or (.cmp .eq (.var 1) (.con (.int 0))) (.or (.not (.call 0 (.cons (.var 0) (.cons (.con (.int 1)) (.cons (.con (.int 2)) .nil))))) (.not (.isi (.sub (.var 0) (.con (.int 0))) [.str] true))))
    (.cons (.ret (.con .non))
    .nil)
    .nil)
    (.cons (.cond (.cmp .eq (.bv .len (.var 0)) (.con (.int 1)))
    (.cons (.ret (.ite (.cmp .eq (.sub (.var 0) (.con (.int 0))) (.glo "SKIP" (.str [115, 107, 105, 112]))) (.con (.int 0)) (.con .non)))
    .nil)
    .nil)
    (.cons (.cond (.cmp .eq (.sub (.var 0) (.con (.int 0))) (.glo "DO" (.str [100, 111])))
    (.cons (.ret (.ite (.call 1 (.cons (.sub (.var 0) (.con (.int 1))) .nil)) (.con (.int 1)) (.con .non)))
    .nil)
    .nil)
    (.cons (.cond (.cmp .notIn (.sub (.var 0) (.con (.int 0))) (.tup (.cons (.glo "AGAIN" (.str [97, 103, 97, 105, 110])) (.cons (.glo "ROW" (.str [114, 111, 119])) (.cons (.glo "PICK" (.str [112, 105, 99, 107])) (.cons (.glo "SIDES" (.str [115, 105, 100, 101, 115])) .nil))))))
    (.cons (.ret (.con .non))
    .nil)
    .nil)
    (.cons (.cond (.and (.cmp .ne (.sub (.var 0) (.con (.int 0))) (.glo "AGAIN" (.str [97, 103, 97, 105, 110]))) (.not (.call 0 (.cons (.sub (.var 0) (.con (.int 1))) (.cons (.con (.int 2)) (.cons (.glo "MOST_PARTS_trees" (.int 6)) .nil))))))
    (.cons (.ret (.con .non))
    .nil)
    .nil)
    (.cons (.asg (.nm 2) (.mk (.lc (.call 5 (.cons (.var 3) (.cons (.bin .sub (.var 1) (.con (.int 1))) .nil))) (.nm 3) [3] (.sq (.call 4 (.cons (.var 0) .nil))))))
    (.cons (.ret (.ite (.cmp .isIn (.con .non) (.var 2)) (.con .non) (.bs .sum (.ex (.var 2)))))
    .nil)))))))⟩
def d_is_procedure : Def :=
  ⟨"is_procedure", ["thing"], ["thing", "size"],
    (.cons (.asg (.nm 1) (.call 5 (.cons (.var 0) (.cons (.glo "MOST_DEEP_trees" (.int 8)) .nil))))
    (.cons (.ret (.and (.cmp .isNot (.var 1) (.con .non)) (.cmp .le (.var 1) (.glo "MOST_DO_trees" (.int 12)))))
    .nil))⟩
def d_check_procedure : Def :=
  ⟨"check_procedure", ["thing"], ["thing"],
    (.cons (.cond (.not (.call 6 (.cons (.var 0) .nil)))
    (.cons (.raise 2 .nil)
    .nil)
    .nil)
    .nil)⟩
def d_told : Def :=
  ⟨"told", ["procedure"], ["procedure", "word", "part"],
    (.cons (.asg (.nm 1) (.sub (.var 0) (.con (.int 0))))
    (.cons (.cond (.cmp .eq (.var 1) (.con (.str [100, 111])))
    (.cons (.ret (.sub (.var 0) (.con (.int 1))))
    .nil)
    .nil)
    (.cons (.cond (.cmp .eq (.var 1) (.con (.str [115, 107, 105, 112])))
    (.cons (.ret (.con (.str [46])))
    .nil)
    .nil)
    (.cons (.cond (.cmp .eq (.var 1) (.con (.str [97, 103, 97, 105, 110])))
    (.cons (.ret (.bin .add (.con (.str [42])) (.call 8 (.cons (.sub (.var 0) (.con (.int 1))) .nil))))
    .nil)
    .nil)
    (.cons (.ret (.bin .add (.bin .add (.kdx "BEGINS" [([114, 111, 119], (.str [40])), ([112, 105, 99, 107], (.str [91])), ([115, 105, 100, 101, 115], (.str [123]))] (.var 1)) (.join (.con (.str [32])) (.lc (.call 8 (.cons (.var 2) .nil)) (.nm 2) [2] (.sq (.sub (.var 0) (.con (.int 1))))))) (.kdx "CLOSES" [([114, 111, 119], (.str [41])), ([112, 105, 99, 107], (.str [93])), ([115, 105, 100, 101, 115], (.str [125]))] (.var 1))))
    .nil)))))⟩
def d_procedure_text : Def :=
  ⟨"procedure_text", ["procedure"], ["procedure"],
    (.cons (.expr (.call 7 (.cons (.var 0) .nil)))
    (.cons (.ret (.call 8 (.cons (.var 0) .nil)))
    .nil))⟩
def d_Reader_init : Def :=
  ⟨"__init__", ["self", "text"], ["self", "text"],
    (.cons (.asg (.att (.var 0) 1) (.var 1))
    (.cons (.asg (.att (.var 0) 2) (.con (.int 0)))
    (.cons (.asg (.att (.var 0) 3) (.con (.int 0)))
    .nil)))⟩
def d_Reader_sign : Def :=
  ⟨"sign", ["self"], ["self"],
    (.cons (.ret (.slc (.att (.var 0) 1) (.some (.att (.var 0) 2)) (.some (.bin .add (.att (.var 0) 2) (.con (.int 1))))))
    .nil)⟩
def d_Reader_part : Def :=
  ⟨"part", ["self", "deep"], ["self", "deep", "sign"],
    (.cons (.asg (.nm 2) (.meth 4 0 11 (.var 0) .nil))
    (.cons (.cond (.and (.cmp .ne (.var 2) (.con (.str []))) (.and (.cmp .isIn (.var 2) (.glo "LETTERS" (.str [97, 98, 99, 100, 101, 102, 103, 104, 105, 106, 107, 108, 109, 110, 111, 112, 113, 114, 115, 116, 117, 118, 119, 120, 121, 122]))) (.cmp .lt (.att (.var 0) 3) (.glo "MOST_DO_texts" (.int 12)))))
    (.cons (.ret (.meth 4 0 13 (.var 0) .nil))
    .nil)
    .nil)
    (.cons (.cond (.cmp .eq (.var 2) (.con (.str [46])))
    (.cons (.auga (.var 0) 2 .add (.con (.int 1)))
    (.cons (.ret (.tup (.cons (.con (.str [115, 107, 105, 112])) .nil)))
    .nil))
    .nil)
    (.cons (.cond (.or (.cmp .eq (.var 1) (.glo "MOST_DEEP_texts" (.int 8))) (.cmp .notIn (.var 2) (.tup (.cons (.con (.str [42])) (.cons (.con (.str [40])) (.cons (.con (.str [91])) (.cons (.con (.str [123])) .nil)))))))
    (.cons (.raise 1 (.cons (.att (.var 0) 2) .nil))
    .nil)
    .nil)
    (.cons (.auga (.var 0) 2 .add (.con (.int 1)))
    (.cons (.cond (.cmp .eq (.var 2) (.con (.str [42])))
    (.cons (.ret (.tup (.cons (.con (.str [97, 103, 97, 105, 110])) (.cons (.meth 4 0 12 (.var 0) (.cons (.bin .add (.var 1) (.con (.int 1))) .nil)) .nil))))
    .nil)
    .nil)
    (.cons (.ret (.meth 4 0 14 (.var 0) (.cons (.kdx "OPENS" [([40], (.str [114, 111, 119])), ([91], (.str [112, 105, 99, 107])), ([123], (.str [115, 105, 100, 101, 115]))] (.var 2)) (.cons (.bin .add (.var 1) (.con (.int 1))) .nil))))
    .nil)))))))⟩
def d_Reader_name : Def :=
  ⟨"name", ["self"], ["self", "begin"],
    (.cons (.asg (.nm 1) (.att (.var 0) 2))
    (.cons (.whil (.and (.cmp .lt (.bin .sub (.att (.var 0) 2) (.var 1)) (.con (.int 8))) (.and (.cmp .ne (.meth 4 0 11 (.var 0) .nil) (.con (.str []))) (.cmp .isIn (.meth 4 0 11 (.var 0) .nil) (.glo "LETTERS" (.str [97, 98, 99, 100, 101, 102, 103, 104, 105, 106, 107, 108, 109, 110, 111, 112, 113, 114, 115, 116, 117, 118, 119, 120, 121, 122])))))
    (.cons (.auga (.var 0) 2 .add (.con (.int 1)))
    .nil))
    (.cons (.auga (.var 0) 3 .add (.con (.int 1)))
    (.cons (.ret (.tup (.cons (.con (.str [100, 111])) (.cons (.slc (.att (.var 0) 1) (.some (.var 1)) (.some (.att (.var 0) 2))) .nil))))
    .nil))))⟩
def d_Reader_parts : Def :=
  ⟨"parts", ["self", "word", "deep"], ["self", "word", "deep", "found", "sign"],
    (.cons (.asg (.nm 3) (.lst (.cons (.meth 4 0 12 (.var 0) (.cons (.var 2) .nil)) .nil)))
    (.cons (.whil (.con (.bl true))
    (.cons (.asg (.nm 4) (.meth 4 0 11 (.var 0) .nil))
    (.cons (.cond (.and (.cmp .eq (.var 4) (.kdx "CLOSES" [([114, 111, 119], (.str [41])), ([112, 105, 99, 107], (.str [93])), ([115, 105, 100, 101, 115], (.str [125]))] (.var 1))) (.cmp .gt (.bv .len (.var 3)) (.con (.int 1))))
    (.cons (.auga (.var 0) 2 .add (.con (.int 1)))
    (.cons (.ret (.tup (.cons (.var 1) (.cons (.bs .tuple (.ex (.var 3))) .nil))))
    .nil))
    .nil)
    (.cons (.cond (.or (.cmp .ne (.var 4) (.con (.str [32]))) (.cmp .eq (.bv .len (.var 3)) (.glo "MOST_PARTS_texts" (.int 6))))
    (.cons (.raise 1 (.cons (.att (.var 0) 2) .nil))
    .nil)
    .nil)
    (.cons (.auga (.var 0) 2 .add (.con (.int 1)))
    (.cons (.expr (.app (.var 3) (.meth 4 0 12 (.var 0) (.cons (.var 2) .nil))))
    .nil))))))
    .nil))⟩
def d_procedure_in : Def :=
  ⟨"procedure_in", ["text"], ["text", "reader", "found"],
    (.cons (.asg (.nm 1) (.new 4 10 (.cons (.var 0) .nil)))
    (.cons (.asg (.nm 2) (.meth 4 0 12 (.var 1) (.cons (.con (.int 1)) .nil)))
    (.cons (.cond (.cmp .lt (.att (.var 1) 2) (.bv .len (.var 0)))
    (.cons (.raise 1 (.cons (.att (.var 1) 2) .nil))
    .nil)
    .nil)
    (.cons (.ret (.var 2))
    .nil))))⟩
def d_read_procedure : Def :=
  ⟨"read_procedure", ["text"], ["text"],
    (.cons (.cond (.not (.isi (.var 0) [.str] true))
    (.cons (.raise 1 (.cons (.con (.int 0)) .nil))
    .nil)
    .nil)
    (.cons (.ret (.call 15 (.cons (.var 0) .nil)))
    .nil))⟩
def d_row_text : Def :=
  ⟨"row_text", ["row"], ["row"],
    (.cons (.cond (.not (.call 2 (.cons (.var 0) .nil)))
    (.cons (.raise 3 .nil)
    .nil)
    .nil)
    (.cons (.ret (.ite (.cmp .gt (.bv .len (.var 0)) (.con (.int 0))) (.join (.con (.str [32])) (.ex (.var 0))) (.glo "NOTHING" (.str [45]))))
    .nil))⟩
def d_read_row : Def :=
  ⟨"read_row", ["text"], ["text", "words", "place", "word"],
    (.cons (.cond (.not (.isi (.var 0) [.str] true))
    (.cons (.raise 1 (.cons (.con (.int 0)) .nil))
    .nil)
    .nil)
    (.cons (.cond (.cmp .eq (.var 0) (.glo "NOTHING" (.str [45])))
    (.cons (.ret (.tup .nil))
    .nil)
    .nil)
    (.cons (.asg (.nm 1) (.split (.var 0) (.con (.str [32]))))
    (.cons (.forr (.tp [2, 3]) (.enum (.var 1))
    (.cons (.cond (.or (.not (.call 1 (.cons (.var 3) .nil))) (.cmp .eq (.var 2) (.glo "MOST_ROW" (.int 200))))
    (.cons (.raise 1 (.cons (.var 2) .nil))
    .nil)
    .nil)
    .nil))
    (.cons (.ret (.bs .tuple (.ex (.var 1))))
    .nil)))))⟩
def d_law_hand : Def :=
  ⟨"_law_hand", ["script"], ["script", "cells", "cell"],
    (.cons (.asg (.nm 1) (.mk (.lc (.bv .abs (.bv .int (.var 2))) (.nm 2) [2] (.sq (.slc (.var 0) .none (.some (.con (.int 63))))))))
    (.cons (.ret (.lst (.cons (.var 1) (.cons (.con (.int 0)) (.cons (.con (.int 0)) (.cons (.bin .add (.con (.int 97)) (.bin .mul (.con (.int 5)) (.bv .len (.var 1)))) (.cons (.con (.int 0)) .nil)))))))
    .nil))⟩
def d_law_draw : Def :=
  ⟨"_law_draw", ["hand", "many"], ["hand", "many", "cell", "figure", "number"],
    (.cons (.cond (.and (.cmp .eq (.sub (.var 0) (.con (.int 2))) (.con (.int 0))) (.cmp .lt (.sub (.var 0) (.con (.int 1))) (.bv .len (.sub (.var 0) (.con (.int 0))))))
    (.cons (.asg (.nm 2) (.sub (.sub (.var 0) (.con (.int 0))) (.sub (.var 0) (.con (.int 1)))))
    (.cons (.asg (.sub (.var 0) (.con (.int 1))) (.bin .add (.sub (.var 0) (.con (.int 1))) (.con (.int 1))))
    (.cons (.asg (.sub (.var 0) (.con (.int 3))) (.bin .mod (.bv .int (.bin .add (.bin .add (.bin .mul (.sub (.var 0) (.con (.int 3))) (.con (.int 48271))) (.var 2)) (.con (.int 31)))) (.con (.int 2147483647))))
    (.cons (.cond (.cmp .ge (.var 2) (.bin .pow (.con (.int 10)) (.con (.int 18))))
    (.cons (.asg (.sub (.var 0) (.con (.int 2))) (.var 2))
    .nil)
    .nil)
    .nil))))
    .nil)
    (.cons (.cond (.cmp .gt (.sub (.var 0) (.con (.int 2))) (.con (.int 0)))
    (.cons (.asg (.nm 3) (.bin .mod (.bv .int (.sub (.var 0) (.con (.int 2)))) (.var 1)))
    (.cons (.asg (.sub (.var 0) (.con (.int 2))) (.bin .fdiv (.sub (.var 0) (.con (.int 2))) (.var 1)))
    (.cons (.ret (.var 3))
    .nil)))
    .nil)
    (.cons (.asg (.sub (.var 0) (.con (.int 4))) (.bin .add (.sub (.var 0) (.con (.int 4))) (.con (.int 1))))
    (.cons (.asg (.nm 4) (.bin .mod (.bv .int (.bin .mul (.bv .int (.bin .add (.sub (.var 0) (.con (.int 3))) (.bin .mul (.con (.int 6151)) (.sub (.var 0) (.con (.int 4)))))) (.con (.int 40692)))) (.con (.int 2147483399))))
    (.cons (.asg (.nm 4) (.bin .mod (.bv .int (.bin .mul (.var 4) (.bin .add (.bin .fdiv (.var 4) (.con (.int 1223))) (.con (.int 52027))))) (.con (.int 2147483629))))
    (.cons (.asg (.nm 4) (.bin .mod (.bv .int (.bin .mul (.var 4) (.bin .add (.bin .fdiv (.var 4) (.con (.int 2671))) (.con (.int 69621))))) (.con (.int 2147483647))))
    (.cons (.ret (.bin .mod (.bv .int (.bin .fdiv (.var 4) (.con (.int 32)))) (.var 1)))
    .nil)))))))⟩
def d_law_some : Def :=
  ⟨"_law_some", ["hand", "things"], ["hand", "things"],
    (.cons (.ret (.sub (.var 1) (.call 20 (.cons (.var 0) (.cons (.bv .len (.var 1)) .nil)))))
    .nil)⟩
def d_law_tree : Def :=
  ⟨"_law_tree", ["hand", "deep", "names"], ["hand", "deep", "names", "kind", "parts", "turn"],
    (.cons (.asg (.nm 3) (.ite (.cmp .gt (.var 1) (.con (.int 1))) (.call 20 (.cons (.var 0) (.cons (.con (.int 10)) .nil))) (.call 20 (.cons (.var 0) (.cons (.con (.int 5)) .nil)))))
    (.cons (.cond (.cmp .lt (.var 3) (.con (.int 4)))
    (.cons (.ret (.tup (.cons (.con (.str [100, 111])) (.cons (.call 21 (.cons (.var 0) (.cons (.var 2) .nil))) .nil))))
    .nil)
    .nil)
    (.cons (.cond (.cmp .eq (.var 3) (.con (.int 4)))
    (.cons (.ret (.tup (.cons (.con (.str [115, 107, 105, 112])) .nil)))
    .nil)
    .nil)
    (.cons (.cond (.cmp .eq (.var 3) (.con (.int 5)))
    (.cons (.ret (.tup (.cons (.con (.str [97, 103, 97, 105, 110])) (.cons (.call 22 (.cons (.var 0) (.cons (.bin .sub (.var 1) (.con (.int 1))) (.cons (.var 2) .nil)))) .nil))))
    .nil)
    .nil)
    (.cons (.asg (.nm 4) (.bs .tuple (.lc (.call 22 (.cons (.var 0) (.cons (.bin .sub (.var 1) (.con (.int 1))) (.cons (.var 2) .nil)))) (.nm 5) [5] (.rng (.bin .add (.con (.int 2)) (.call 20 (.cons (.var 0) (.cons (.con (.int 2)) .nil))))))))
    (.cons (.ret (.tup (.cons (.sub (.lst (.cons (.con (.str [114, 111, 119])) (.cons (.con (.str [114, 111, 119])) (.cons (.con (.str [112, 105, 99, 107])) (.cons (.con (.str [115, 105, 100, 101, 115])) .nil))))) (.bin .sub (.var 3) (.con (.int 6)))) (.cons (.var 4) .nil))))
    .nil))))))⟩
def d_law_steps_in : Def :=
  ⟨"_law_steps_in", ["tree"], ["tree", "parts", "part"],
    (.cons (.cond (.cmp .eq (.sub (.var 0) (.con (.int 0))) (.con (.str [100, 111])))
    (.cons (.ret (.con (.int 1)))
    .nil)
    .nil)
    (.cons (.cond (.cmp .eq (.sub (.var 0) (.con (.int 0))) (.con (.str [115, 107, 105, 112])))
    (.cons (.ret (.con (.int 0)))
    .nil)
    .nil)
    (.cons (.asg (.nm 1) (.ite (.cmp .eq (.sub (.var 0) (.con (.int 0))) (.con (.str [97, 103, 97, 105, 110]))) (.tup (.cons (.sub (.var 0) (.con (.int 1))) .nil)) (.sub (.var 0) (.con (.int 1)))))
    (.cons (.ret (.bs .sum (.lc (.call 23 (.cons (.var 2) .nil)) (.nm 2) [2] (.sq (.var 1)))))
    .nil))))⟩
def d_law_procedure : Def :=
  ⟨"_law_procedure", ["hand", "deep", "names", "most"], ["hand", "deep", "names", "most", "turn", "tree"],
    (.cons (.forr (.nm 4) (.rng (.con (.int 20)))
    (.cons (.asg (.nm 5) (.call 22 (.cons (.var 0) (.cons (.var 1) (.cons (.var 2) .nil)))))
    (.cons (.cond (.chain .lt .le (.con (.int 0)) (.call 23 (.cons (.var 5) .nil)) (.var 3))
    (.cons (.ret (.var 5))
    .nil)
    .nil)
    .nil)))
    (.cons (.ret (.tup (.cons (.con (.str [114, 111, 119])) (.cons (.tup (.cons (.tup (.cons (.con (.str [100, 111])) (.cons (.sub (.var 2) (.con (.int 0))) .nil))) (.cons (.tup (.cons (.con (.str [100, 111])) (.cons (.sub (.var 2) (.neg (.con (.int 1)))) .nil))) .nil))) .nil))))
    .nil))⟩
def d_law_text : Def :=
  ⟨"_law_text", ["tree"], ["tree", "first", "last", "part"],
    (.cons (.cond (.cmp .eq (.sub (.var 0) (.con (.int 0))) (.con (.str [100, 111])))
    (.cons (.ret (.sub (.var 0) (.con (.int 1))))
    .nil)
    .nil)
    (.cons (.cond (.cmp .eq (.sub (.var 0) (.con (.int 0))) (.con (.str [115, 107, 105, 112])))
    (.cons (.ret (.con (.str [46])))
    .nil)
    .nil)
    (.cons (.cond (.cmp .eq (.sub (.var 0) (.con (.int 0))) (.con (.str [97, 103, 97, 105, 110])))
    (.cons (.ret (.bin .add (.con (.str [42])) (.call 25 (.cons (.sub (.var 0) (.con (.int 1))) .nil))))
    .nil)
    .nil)
    (.cons (.asg (.tp [1, 2]) (.ddx [([114, 111, 119], (.str [40, 41])), ([112, 105, 99, 107], (.str [91, 93])), ([115, 105, 100, 101, 115], (.str [123, 125]))] (.sub (.var 0) (.con (.int 0)))))
    (.cons (.ret (.bin .add (.bin .add (.var 1) (.join (.con (.str [32])) (.lc (.call 25 (.cons (.var 3) .nil)) (.nm 3) [3] (.sq (.sub (.var 0) (.con (.int 1))))))) (.var 2)))
    .nil)))))⟩
def d_law_is : Def :=
  ⟨"_law_is", ["told_v", "due"], ["told_v", "due", "one", "two"],
    (.cons (.cond (.isi (.var 1) [.tuple, .list] false)
    (.cons (.cond (.or (.cmp .ne (.isi (.var 0) [.tuple] true) (.isi (.var 1) [.tuple] true)) (.not (.isi (.var 0) [.tuple, .list] false)))
    (.cons (.ret (.con (.bl false)))
    .nil)
    .nil)
    (.cons (.ret (.and (.cmp .eq (.bv .len (.var 0)) (.bv .len (.var 1))) (.bs .all (.lc (.call 26 (.cons (.var 2) (.cons (.var 3) .nil))) (.tp [2, 3]) [2, 3] (.zip (.var 0) (.var 1))))))
    .nil))
    .nil)
    (.cons (.cond (.or (.isi (.var 1) [.str] true) (.cmp .is (.var 1) (.con .non)))
    (.cons (.ret (.and (.cmp .eq (.isi (.var 0) [.str] true) (.isi (.var 1) [.str] true)) (.cmp .eq (.var 0) (.var 1))))
    .nil)
    .nil)
    (.cons (.ret (.and (.isi (.var 0) [.int] true) (.and (.cmp .eq (.isi (.var 0) [.bool] true) (.isi (.var 1) [.bool] true)) (.cmp .eq (.var 0) (.var 1)))))
    .nil)))⟩
def d_law_wide : Def :=
  ⟨"_law_wide", ["hand", "names"], ["hand", "names", "parts", "turn", "found", "pair"],
    (.cons (.cond (.cmp .eq (.call 20 (.cons (.var 0) (.cons (.con (.int 2)) .nil))) (.con (.int 0)))
    (.cons (.asg (.nm 2) (.bs .tuple (.lc (.tup (.cons (.con (.str [112, 105, 99, 107])) (.cons (.tup (.cons (.tup (.cons (.con (.str [100, 111])) (.cons (.call 21 (.cons (.var 0) (.cons (.var 1) .nil))) .nil))) (.cons (.tup (.cons (.con (.str [100, 111])) (.cons (.call 21 (.cons (.var 0) (.cons (.var 1) .nil))) .nil))) .nil))) .nil))) (.nm 3) [3] (.rng (.con (.int 6))))))
    (.cons (.ret (.tup (.cons (.call 21 (.cons (.var 0) (.cons (.lst (.cons (.con (.str [114, 111, 119])) (.cons (.con (.str [112, 105, 99, 107])) (.cons (.con (.str [115, 105, 100, 101, 115])) .nil)))) .nil))) (.cons (.var 2) .nil))))
    .nil))
    .nil)
    (.cons (.asg (.nm 4) (.tup (.cons (.con (.str [100, 111])) (.cons (.call 21 (.cons (.var 0) (.cons (.var 1) .nil))) .nil))))
    (.cons (.forr (.nm 3) (.rng (.con (.int 7)))
    (.cons (.asg (.nm 5) (.ite (.cmp .eq (.call 20 (.cons (.var 0) (.cons (.con (.int 2)) .nil))) (.con (.int 0))) (.tup (.cons (.var 4) (.cons (.tup (.cons (.con (.str [115, 107, 105, 112])) .nil)) .nil))) (.tup (.cons (.tup (.cons (.con (.str [100, 111])) (.cons (.con (.str [113])) .nil))) (.cons (.var 4) .nil)))))
    (.cons (.asg (.nm 4) (.ite (.cmp .eq (.call 20 (.cons (.var 0) (.cons (.con (.int 3)) .nil))) (.con (.int 0))) (.tup (.cons (.con (.str [97, 103, 97, 105, 110])) (.cons (.var 4) .nil))) (.tup (.cons (.call 21 (.cons (.var 0) (.cons (.lst (.cons (.con (.str [114, 111, 119])) (.cons (.con (.str [112, 105, 99, 107])) (.cons (.con (.str [115, 105, 100, 101, 115])) .nil)))) .nil))) (.cons (.var 5) .nil)))))
    .nil)))
    (.cons (.ret (.var 4))
    .nil))))⟩
def d_law : Def :=
  ⟨"law", ["script"], ["script", "hand", "names", "turn", "one", "other", "text", "row", "at", "signs"],
    (.cons (.asg (.nm 1) (.call 19 (.cons (.var 0) .nil)))
    (.cons (.asg (.nm 2) (.lst (.cons (.con (.str [97])) (.cons (.con (.str [98])) (.cons (.con (.str [122, 122])) (.cons (.con (.str [97, 98, 99, 100, 101, 102, 103, 104])) (.cons (.con (.str [99, 104, 101, 99, 107, 101, 100])) (.cons (.con (.str [120])) (.cons (.con (.str [113, 97])) (.cons (.con (.str [109])) .nil))))))))))
    (.cons (.forr (.nm 3) (.rng (.con (.int 4)))
    (.cons (.asg (.nm 4) (.ite (.cmp .eq (.call 20 (.cons (.var 1) (.cons (.con (.int 3)) .nil))) (.con (.int 0))) (.call 27 (.cons (.var 1) (.cons (.var 2) .nil))) (.call 24 (.cons (.var 1) (.cons (.con (.int 5)) (.cons (.var 2) (.cons (.con (.int 12)) .nil)))))))
    (.cons (.asg (.nm 5) (.call 24 (.cons (.var 1) (.cons (.con (.int 4)) (.cons (.var 2) (.cons (.con (.int 12)) .nil))))))
    (.cons (.asg (.nm 6) (.call 25 (.cons (.var 4) .nil)))
    (.cons (.cond (.or (.not (.call 26 (.cons (.call 9 (.cons (.var 4) .nil)) (.cons (.var 6) .nil)))) (.not (.call 26 (.cons (.call 16 (.cons (.var 6) .nil)) (.cons (.var 4) .nil)))))
    (.cons (.ret (.con (.bl false)))
    .nil)
    .nil)
    (.cons (.cond (.or (.cmp .isNot (.call 6 (.cons (.var 4) .nil)) (.con (.bl true))) (.not (.call 26 (.cons (.call 16 (.cons (.call 9 (.cons (.var 5) .nil)) .nil)) (.cons (.var 5) .nil)))))
    (.cons (.ret (.con (.bl false)))
    .nil)
    .nil)
    (.cons (.cond (.cmp .ne (.cmp .eq (.call 9 (.cons (.var 5) .nil)) (.var 6)) (.cmp .eq (.var 5) (.var 4)))
    (.cons (.ret (.con (.bl false)))
    .nil)
    .nil)
    (.cons (.asg (.nm 7) (.bs .tuple (.lc (.call 21 (.cons (.var 1) (.cons (.var 2) .nil))) (.nm 8) [8] (.rng (.call 21 (.cons (.var 1) (.cons (.lst (.cons (.con (.int 0)) (.cons (.con (.int 1)) (.cons (.con (.int 3)) (.cons (.con (.int 60)) (.cons (.con (.int 200)) .nil)))))) .nil)))))))
    (.cons (.asg (.nm 9) (.ite (.cmp .gt (.bv .len (.var 7)) (.con (.int 0))) (.join (.con (.str [32])) (.ex (.var 7))) (.con (.str [45]))))
    (.cons (.cond (.or (.not (.call 26 (.cons (.call 17 (.cons (.var 7) .nil)) (.cons (.var 9) .nil)))) (.not (.call 26 (.cons (.call 18 (.cons (.var 9) .nil)) (.cons (.var 7) .nil)))))
    (.cons (.ret (.con (.bl false)))
    .nil)
    .nil)
    .nil))))))))))
    (.cons (.ret (.con (.bl true)))
    .nil))))⟩
def D : List Def := [d_is_sized, d_is_name, d_is_row, d_BadText_init, d_parts_of, d_size_of, d_is_procedure, d_check_procedure, d_told, d_procedure_text, d_Reader_init, d_Reader_sign, d_Reader_part, d_Reader_name, d_Reader_parts, d_procedure_in, d_read_procedure, d_row_text, d_read_row, d_law_hand, d_law_draw, d_law_some, d_law_tree, d_law_steps_in, d_law_procedure, d_law_text, d_law_is, d_law_wide, d_law]
end K76
namespace K76
open MP
variable {W k : Nat} {h : IH}
theorem is_sized_tup (xs : List IV) (lo hi : Int) : callF D W (k + 1) 0 [.tup xs, .int lo, .int hi] h = .ok (.bl (decide (lo ≤ (xs.length : Int)) && decide ((xs.length : Int) ≤ hi))) h := by
  rw [cf_eq d_is_sized rfl rfl rfl]
  by_cases h1 : lo ≤ (xs.length : Int)
  · simp only [d_is_sized, exSs, exS.eq_1, exS.eq_2, exS.eq_3, exS.eq_4, exS.eq_5, exS.eq_8, exS.eq_9, exS.eq_10, exS.eq_11, exS.eq_12, x_whil, x_forr, lpC_ap, lpB_ap, evE, evEs, evO, evS, evIt, evT, asT, bind_ok, st_ok, ofO_some, ofB_some, tr_non, tr_bl, tr_int, tr_tup, c_lt, c_le, c_gt, c_ge, c_eqi, c_nei, c_eqs, c_nes, c_eqb, c_neb, c_isb, c_isnb, c_isn_non, c_isnn_non, c_ins, b_addi, b_subi, i_addi, v_lent, v_lenf, v_inti, v_absi, s_tup0, s_tup1, y_tup, y_str, fin_ret, fin_next, List.map, List.replicate, List.length_cons, List.length_nil, List.getElem?_cons_zero, List.getElem?_cons_succ, List.cons_append, List.nil_append, List.append_nil, List.set_cons_zero, List.set_cons_succ, Bool.not_true, Bool.not_false, wip, setTg, setAll, if_true, if_false, reduceIte, Bool.false_eq_true, tup_bs, lst_bs, Option.map_some, Bool.and_true, Bool.true_and, Bool.and_false, Bool.false_and, Bool.or_true, Bool.true_or, Bool.or_false, Bool.false_or, List.cons_beq_cons, nb_cons, cb_nil, Nat.reduceBEq, beq_self_eq_true, Int.reduceBEq, and_self, and_true, true_and, ys_one _ _ _ (y_tup _), h1, decide_true]
  · simp only [d_is_sized, exSs, exS.eq_1, exS.eq_2, exS.eq_3, exS.eq_4, exS.eq_5, exS.eq_8, exS.eq_9, exS.eq_10, exS.eq_11, exS.eq_12, x_whil, x_forr, lpC_ap, lpB_ap, evE, evEs, evO, evS, evIt, evT, asT, bind_ok, st_ok, ofO_some, ofB_some, tr_non, tr_bl, tr_int, tr_tup, c_lt, c_le, c_gt, c_ge, c_eqi, c_nei, c_eqs, c_nes, c_eqb, c_neb, c_isb, c_isnb, c_isn_non, c_isnn_non, c_ins, b_addi, b_subi, i_addi, v_lent, v_lenf, v_inti, v_absi, s_tup0, s_tup1, y_tup, y_str, fin_ret, fin_next, List.map, List.replicate, List.length_cons, List.length_nil, List.getElem?_cons_zero, List.getElem?_cons_succ, List.cons_append, List.nil_append, List.append_nil, List.set_cons_zero, List.set_cons_succ, Bool.not_true, Bool.not_false, wip, setTg, setAll, if_true, if_false, reduceIte, Bool.false_eq_true, tup_bs, lst_bs, Option.map_some, Bool.and_true, Bool.true_and, Bool.and_false, Bool.false_and, Bool.or_true, Bool.true_or, Bool.or_false, Bool.false_or, List.cons_beq_cons, nb_cons, cb_nil, Nat.reduceBEq, beq_self_eq_true, Int.reduceBEq, and_self, and_true, true_and, ys_one _ _ _ (y_tup _), h1, decide_false]
def isLet (c : Nat) : Bool := decide (97 ≤ c) && decide (c ≤ 122)
def okName (l : List Nat) : Bool := decide (1 ≤ l.length) && (decide (l.length ≤ 8) && l.all isLet)
def letters : List Nat := [97, 98, 99, 100, 101, 102, 103, 104, 105, 106, 107, 108, 109, 110, 111, 112, 113, 114, 115, 116, 117, 118, 119, 120, 121, 122]
theorem mem_letters (c : Nat) : decide (c ∈ [97, 98, 99, 100, 101, 102, 103, 104, 105, 106, 107, 108, 109, 110, 111, 112, 113, 114, 115, 116, 117, 118, 119, 120, 121, 122]) = isLet c := by
  unfold isLet
  by_cases h : 97 ≤ c ∧ c ≤ 122
  · have : c = 97 ∨ c = 98 ∨ c = 99 ∨ c = 100 ∨ c = 101 ∨ c = 102 ∨ c = 103 ∨ c = 104 ∨ c = 105 ∨ c = 106 ∨ c = 107 ∨ c = 108 ∨ c = 109 ∨ c = 110 ∨ c = 111 ∨ c = 112 ∨ c = 113 ∨ c = 114 ∨ c = 115 ∨ c = 116 ∨ c = 117 ∨ c = 118 ∨ c = 119 ∨ c = 120 ∨ c = 121 ∨ c = 122 := by omega
    rcases this with rfl | rfl | rfl | rfl | rfl | rfl | rfl | rfl | rfl | rfl | rfl | rfl | rfl | rfl | rfl | rfl | rfl | rfl | rfl | rfl | rfl | rfl | rfl | rfl | rfl | rfl <;> rfl
  · have h1 : c ∉ [97, 98, 99, 100, 101, 102, 103, 104, 105, 106, 107, 108, 109, 110, 111, 112, 113, 114, 115, 116, 117, 118, 119, 120, 121, 122] := fun hm => h (by
      simp at hm
      omega)
    rw [decide_eq_false h1]
    symm
    rw [Bool.and_eq_false_iff]
    simp only [decide_eq_false_iff_not]
    omega
def ltI : IV → IV
  | .str [c] => .bl (isLet c)
  | _ => .non
theorem ltI_map (l : List Nat) : (l.map fun c => IV.str [c]).map ltI = l.map fun c => IV.bl (isLet c) := by
  rw [List.map_map]
  rfl
theorem is_name_str (l : List Nat) (hb : l.length ≤ big) : callF D W (k + 1) 1 [.str l] h = .ok (.bl (okName l)) h := by
  rw [cf_eq d_is_name rfl rfl rfl]
  unfold okName
  by_cases h1 : 1 ≤ l.length
  · have h1' : (1 : Int) ≤ (l.length : Int) := by exact_mod_cast h1
    by_cases h2 : l.length ≤ 8
    · have h2' : (l.length : Int) ≤ 8 := by exact_mod_cast h2
      simp only [d_is_name, exSs, exS.eq_1, exS.eq_2, exS.eq_3, exS.eq_4, exS.eq_5, exS.eq_8, exS.eq_9, exS.eq_10, exS.eq_11, exS.eq_12, x_whil, x_forr, lpC_ap, lpB_ap, evE, evEs, evO, evS, evIt, evT, asT, bind_ok, st_ok, ofO_some, ofB_some, tr_non, tr_bl, tr_int, tr_tup, c_lt, c_le, c_gt, c_ge, c_eqi, c_nei, c_eqs, c_nes, c_eqb, c_neb, c_isb, c_isnb, c_isn_non, c_isnn_non, c_ins, b_addi, b_subi, i_addi, v_lent, v_lenf, v_inti, v_absi, s_tup0, s_tup1, y_tup, y_str, fin_ret, fin_next, List.map, List.replicate, List.length_cons, List.length_nil, List.getElem?_cons_zero, List.getElem?_cons_succ, List.cons_append, List.nil_append, List.append_nil, List.set_cons_zero, List.set_cons_succ, Bool.not_true, Bool.not_false, wip, setTg, setAll, if_true, if_false, reduceIte, Bool.false_eq_true, tup_bs, lst_bs, Option.map_some, Bool.and_true, Bool.true_and, Bool.and_false, Bool.false_and, Bool.or_true, Bool.true_or, Bool.or_false, Bool.false_or, List.cons_beq_cons, nb_cons, cb_nil, Nat.reduceBEq, beq_self_eq_true, Int.reduceBEq, and_self, and_true, true_and, ys_one _ _ _ (y_str _), v_lens _ hb, h1', h2', h1, h2, decide_true, List.length_map, hb]
      rw [lcL_map (g := ltI) (grd_nil _)]
      · rw [ltI_map]
        simp only [exSs, exS.eq_1, exS.eq_2, exS.eq_3, exS.eq_4, exS.eq_5, exS.eq_8, exS.eq_9, exS.eq_10, exS.eq_11, exS.eq_12, x_whil, x_forr, lpC_ap, lpB_ap, evE, evEs, evO, evS, evIt, evT, asT, bind_ok, st_ok, ofO_some, ofB_some, tr_non, tr_bl, tr_int, tr_tup, c_lt, c_le, c_gt, c_ge, c_eqi, c_nei, c_eqs, c_nes, c_eqb, c_neb, c_isb, c_isnb, c_isn_non, c_isnn_non, c_ins, b_addi, b_subi, i_addi, v_lent, v_lenf, v_inti, v_absi, s_tup0, s_tup1, y_tup, y_str, fin_ret, fin_next, List.map, List.replicate, List.length_cons, List.length_nil, List.getElem?_cons_zero, List.getElem?_cons_succ, List.cons_append, List.nil_append, List.append_nil, List.set_cons_zero, List.set_cons_succ, Bool.not_true, Bool.not_false, wip, setTg, setAll, if_true, if_false, reduceIte, Bool.false_eq_true, tup_bs, lst_bs, Option.map_some, Bool.and_true, Bool.true_and, Bool.and_false, Bool.false_and, Bool.or_true, Bool.true_or, Bool.or_false, Bool.false_or, List.cons_beq_cons, nb_cons, cb_nil, Nat.reduceBEq, beq_self_eq_true, Int.reduceBEq, and_self, and_true, true_and, all_bs _ _ (asBools_map _ _), List.all_map]
        rfl
      · intro x hx
        obtain ⟨c, _, rfl⟩ := List.mem_map.mp hx
        simp only [exSs, exS.eq_1, exS.eq_2, exS.eq_3, exS.eq_4, exS.eq_5, exS.eq_8, exS.eq_9, exS.eq_10, exS.eq_11, exS.eq_12, x_whil, x_forr, lpC_ap, lpB_ap, evE, evEs, evO, evS, evIt, evT, asT, bind_ok, st_ok, ofO_some, ofB_some, tr_non, tr_bl, tr_int, tr_tup, c_lt, c_le, c_gt, c_ge, c_eqi, c_nei, c_eqs, c_nes, c_eqb, c_neb, c_isb, c_isnb, c_isn_non, c_isnn_non, c_ins, b_addi, b_subi, i_addi, v_lent, v_lenf, v_inti, v_absi, s_tup0, s_tup1, y_tup, y_str, fin_ret, fin_next, List.map, List.replicate, List.length_cons, List.length_nil, List.getElem?_cons_zero, List.getElem?_cons_succ, List.cons_append, List.nil_append, List.append_nil, List.set_cons_zero, List.set_cons_succ, Bool.not_true, Bool.not_false, wip, setTg, setAll, if_true, if_false, reduceIte, Bool.false_eq_true, tup_bs, lst_bs, Option.map_some, Bool.and_true, Bool.true_and, Bool.and_false, Bool.false_and, Bool.or_true, Bool.true_or, Bool.or_false, Bool.false_or, List.cons_beq_cons, nb_cons, cb_nil, Nat.reduceBEq, beq_self_eq_true, Int.reduceBEq, and_self, and_true, true_and, mem_letters]
        rfl
    · have h2' : ¬ (l.length : Int) ≤ 8 := by omega
      simp only [d_is_name, exSs, exS.eq_1, exS.eq_2, exS.eq_3, exS.eq_4, exS.eq_5, exS.eq_8, exS.eq_9, exS.eq_10, exS.eq_11, exS.eq_12, x_whil, x_forr, lpC_ap, lpB_ap, evE, evEs, evO, evS, evIt, evT, asT, bind_ok, st_ok, ofO_some, ofB_some, tr_non, tr_bl, tr_int, tr_tup, c_lt, c_le, c_gt, c_ge, c_eqi, c_nei, c_eqs, c_nes, c_eqb, c_neb, c_isb, c_isnb, c_isn_non, c_isnn_non, c_ins, b_addi, b_subi, i_addi, v_lent, v_lenf, v_inti, v_absi, s_tup0, s_tup1, y_tup, y_str, fin_ret, fin_next, List.map, List.replicate, List.length_cons, List.length_nil, List.getElem?_cons_zero, List.getElem?_cons_succ, List.cons_append, List.nil_append, List.append_nil, List.set_cons_zero, List.set_cons_succ, Bool.not_true, Bool.not_false, wip, setTg, setAll, if_true, if_false, reduceIte, Bool.false_eq_true, tup_bs, lst_bs, Option.map_some, Bool.and_true, Bool.true_and, Bool.and_false, Bool.false_and, Bool.or_true, Bool.true_or, Bool.or_false, Bool.false_or, List.cons_beq_cons, nb_cons, cb_nil, Nat.reduceBEq, beq_self_eq_true, Int.reduceBEq, and_self, and_true, true_and, ys_one _ _ _ (y_str _), v_lens _ hb, h1', h2', h1, h2, decide_true, decide_false]
  · have h1' : ¬ (1 : Int) ≤ (l.length : Int) := by omega
    simp only [d_is_name, exSs, exS.eq_1, exS.eq_2, exS.eq_3, exS.eq_4, exS.eq_5, exS.eq_8, exS.eq_9, exS.eq_10, exS.eq_11, exS.eq_12, x_whil, x_forr, lpC_ap, lpB_ap, evE, evEs, evO, evS, evIt, evT, asT, bind_ok, st_ok, ofO_some, ofB_some, tr_non, tr_bl, tr_int, tr_tup, c_lt, c_le, c_gt, c_ge, c_eqi, c_nei, c_eqs, c_nes, c_eqb, c_neb, c_isb, c_isnb, c_isn_non, c_isnn_non, c_ins, b_addi, b_subi, i_addi, v_lent, v_lenf, v_inti, v_absi, s_tup0, s_tup1, y_tup, y_str, fin_ret, fin_next, List.map, List.replicate, List.length_cons, List.length_nil, List.getElem?_cons_zero, List.getElem?_cons_succ, List.cons_append, List.nil_append, List.append_nil, List.set_cons_zero, List.set_cons_succ, Bool.not_true, Bool.not_false, wip, setTg, setAll, if_true, if_false, reduceIte, Bool.false_eq_true, tup_bs, lst_bs, Option.map_some, Bool.and_true, Bool.true_and, Bool.and_false, Bool.false_and, Bool.or_true, Bool.true_or, Bool.or_false, Bool.false_or, List.cons_beq_cons, nb_cons, cb_nil, Nat.reduceBEq, beq_self_eq_true, Int.reduceBEq, and_self, and_true, true_and, ys_one _ _ _ (y_str _), v_lens _ hb, h1', h1, decide_true, decide_false]
end K76
namespace K76
open MP
inductive Kd where
  | row | pick | sides
  deriving DecidableEq
mutual
inductive Tr where
  | act (n : List Nat)
  | skip
  | again (t : Tr)
  | node (k : Kd) (ts : Trs)
inductive Trs where
  | nil
  | cons (t : Tr) (ts : Trs)
end
def kw : Kd → List Nat
  | .row => [114, 111, 119]
  | .pick => [112, 105, 99, 107]
  | .sides => [115, 105, 100, 101, 115]
def op : Kd → Nat
  | .row => 40
  | .pick => 91
  | .sides => 123
def cl : Kd → Nat
  | .row => 41
  | .pick => 93
  | .sides => 125
mutual
def enc : Tr → IV
  | .act n => .tup [.str [100, 111], .str n]
  | .skip => .tup [.str [115, 107, 105, 112]]
  | .again t => .tup [.str [97, 103, 97, 105, 110], enc t]
  | .node k ts => .tup [.str (kw k), .tup (encs ts)]
def encs : Trs → List IV
  | .nil => []
  | .cons t ts => enc t :: encs ts
end
mutual
def ptx : Tr → List Nat
  | .act n => n
  | .skip => [46]
  | .again t => 42 :: ptx t
  | .node k ts => op k :: joinL [32] (ptxs ts) ++ [cl k]
def ptxs : Trs → List (List Nat)
  | .nil => []
  | .cons t ts => ptx t :: ptxs ts
end
mutual
def dep : Tr → Nat
  | .act _ => 1
  | .skip => 1
  | .again t => dep t + 1
  | .node _ ts => deps ts + 1
def deps : Trs → Nat
  | .nil => 0
  | .cons t ts => max (dep t) (deps ts)
end
mutual
/-- a bound of the text's length -/
def tl : Tr → Nat
  | .act n => n.length
  | .skip => 1
  | .again t => tl t + 1
  | .node _ ts => tls ts + 2
def tls : Trs → Nat
  | .nil => 0
  | .cons t ts => tl t + 1 + tls ts
end
def Trs.len : Trs → Nat
  | .nil => 0
  | .cons _ ts => ts.len + 1
mutual
def okT : Tr → Bool
  | .act n => okName n
  | .skip => true
  | .again t => okT t
  | .node _ ts => decide (2 ≤ ts.len) && decide (ts.len ≤ 6) && okTs ts
def okTs : Trs → Bool
  | .nil => true
  | .cons t ts => okT t && okTs ts
end
mutual
def steps : Tr → Nat
  | .act _ => 1
  | .skip => 0
  | .again t => steps t
  | .node _ ts => stepss ts
def stepss : Trs → Nat
  | .nil => 0
  | .cons t ts => steps t + stepss ts
end
theorem dep_pos : ∀ t : Tr, 1 ≤ dep t
  | .act _ => by simp [dep]
  | .skip => by simp [dep]
  | .again t => by simp [dep]
  | .node _ _ => by simp [dep]
theorem joinL_len (xs : List (List Nat)) : (joinL [32] xs).length ≤ (xs.map (·.length)).sum + xs.length * 1 := by
  induction xs with
  | nil => simp [joinL]
  | cons x xs ih =>
    cases xs with
    | nil => simp [joinL]
    | cons y r =>
      unfold joinL
      simp only [List.length_append, List.map_cons, List.sum_cons, List.length_cons, List.length_nil] at ih ⊢
      omega
mutual
theorem ptx_len : ∀ t : Tr, (ptx t).length ≤ tl t
  | .act n => by simp [ptx, tl]
  | .skip => by simp [ptx, tl]
  | .again t => by have := ptx_len t; simp [ptx, tl]; omega
  | .node k ts => by
    have h1 := joinL_len (ptxs ts)
    have h2 := ptxs_len ts
    simp only [ptx, tl, List.length_append, List.length_cons, List.length_nil]
    omega
theorem ptxs_len : ∀ ts : Trs, ((ptxs ts).map (·.length)).sum + (ptxs ts).length * 1 ≤ tls ts
  | .nil => by simp [ptxs, tls]
  | .cons t ts => by
    have h1 := ptx_len t
    have h2 := ptxs_len ts
    simp only [ptxs, tls, List.map_cons, List.sum_cons, List.length_cons]
    omega
end
/-- a comprehension over the parts -/
def AllT (P : Tr → Prop) : Trs → Prop
  | .nil => True
  | .cons t ts => P t ∧ AllT P ts
theorem AllT.imp {P Q : Tr → Prop} (h : ∀ t, P t → Q t) : ∀ {ts : Trs}, AllT P ts → AllT Q ts
  | .nil, _ => trivial
  | .cons _ _, q => ⟨h _ q.1, AllT.imp h q.2⟩
theorem lcL_ptxs {f : IV → IH → Res IV} {h : IH} : ∀ {ts : Trs}, AllT (fun t => f (enc t) h = .ok (.str (ptx t)) h) ts → lcL [] f (encs ts) h = .ok ((ptxs ts).map .str) h
  | .nil, _ => by simp [lcL, encs, ptxs, grd_nil]
  | .cons t ts, q => by
    have ih := lcL_ptxs q.2
    simp only [encs, ptxs, lcL, grd_nil, if_true, q.1, ih, List.map_cons]
theorem deps_all : ∀ {ts : Trs} {n : Nat}, deps ts ≤ n → AllT (fun t => dep t ≤ n) ts
  | .nil, _, _ => trivial
  | .cons t ts, n, h => by
    simp only [deps] at h
    exact ⟨by omega, deps_all (by omega)⟩
theorem tls_all : ∀ {ts : Trs} {n : Nat}, tls ts ≤ n → AllT (fun t => tl t ≤ n) ts
  | .nil, _, _ => trivial
  | .cons t ts, n, h => by
    simp only [tls] at h
    exact ⟨by omega, tls_all (by omega)⟩
theorem AllT.and {P Q : Tr → Prop} : ∀ {ts : Trs}, AllT P ts → AllT Q ts → AllT (fun t => P t ∧ Q t) ts
  | .nil, _, _ => trivial
  | .cons _ _, a, b => ⟨⟨a.1, b.1⟩, AllT.and a.2 b.2⟩
theorem asStrs_id (l : List (List Nat)) : asStrs (l.map IV.str) = some l := by
  have := asStrs_map (fun x : List Nat => x) l
  simpa using this
theorem joinI_ptxs (ts : Trs) (h : IH) (hl : tls ts ≤ big) : joinI [32] ((ptxs ts).map .str) h = .ok (.str (joinL [32] (ptxs ts))) h := by
  have := ptxs_len ts
  unfold joinI
  rw [asStrs_id]
  simp only [List.length_cons, List.length_nil]
  rw [if_pos (by omega)]
variable {W k : Nat} {h : IH}
theorem kw_do (k : Kd) : (kw k == [100, 111]) = false := by cases k <;> rfl
theorem kw_skip (k : Kd) : (kw k == [115, 107, 105, 112]) = false := by cases k <;> rfl
theorem kw_again (k : Kd) : (kw k == [97, 103, 97, 105, 110]) = false := by cases k <;> rfl
theorem lk_op (k : Kd) : lookK (kw k) [([114, 111, 119], .str [40]), ([112, 105, 99, 107], .str [91]), ([115, 105, 100, 101, 115], .str [123])] = some (.str [op k]) := by cases k <;> rfl
theorem lk_cl (k : Kd) : lookK (kw k) [([114, 111, 119], .str [41]), ([112, 105, 99, 107], .str [93]), ([115, 105, 100, 101, 115], .str [125])] = some (.str [cl k]) := by cases k <;> rfl
theorem encs_len : ∀ ts : Trs, (encs ts).length = ts.len
  | .nil => rfl
  | .cons _ ts => by simp [encs, Trs.len, encs_len ts]
theorem len_tls : ∀ ts : Trs, ts.len ≤ tls ts
  | .nil => Nat.le_refl _
  | .cons _ ts => by have := len_tls ts; simp only [Trs.len, tls]; omega
theorem told_enc : ∀ (n : Nat) (t : Tr), dep t ≤ n → tl t ≤ big → ∀ {W : Nat} {h : IH}, callF D W n 8 [enc t] h = .ok (.str (ptx t)) h
  | 0, t, hd, _, _, _ => by have := dep_pos t; omega
  | n + 1, t, hd, hl, W, h => by
    rw [cf_eq d_told rfl rfl rfl]
    cases t with
    | act l => simp only [d_told, exSs, exS.eq_1, exS.eq_2, exS.eq_3, exS.eq_4, exS.eq_5, exS.eq_8, exS.eq_9, exS.eq_10, exS.eq_11, exS.eq_12, x_whil, x_forr, lpC_ap, lpB_ap, evE, evEs, evO, evS, evIt, evT, asT, bind_ok, st_ok, ofO_some, ofB_some, tr_non, tr_bl, tr_int, tr_tup, c_lt, c_le, c_gt, c_ge, c_eqi, c_nei, c_eqs, c_nes, c_eqb, c_neb, c_isb, c_isnb, c_isn_non, c_isnn_non, c_ins, b_addi, b_subi, i_addi, v_lent, v_lenf, v_inti, v_absi, s_tup0, s_tup1, y_tup, y_str, fin_ret, fin_next, List.map, List.replicate, List.length_cons, List.length_nil, List.getElem?_cons_zero, List.getElem?_cons_succ, List.cons_append, List.nil_append, List.append_nil, List.set_cons_zero, List.set_cons_succ, Bool.not_true, Bool.not_false, wip, setTg, setAll, if_true, if_false, reduceIte, Bool.false_eq_true, tup_bs, lst_bs, Option.map_some, Bool.and_true, Bool.true_and, Bool.and_false, Bool.false_and, Bool.or_true, Bool.true_or, Bool.or_false, Bool.false_or, List.cons_beq_cons, nb_cons, cb_nil, Nat.reduceBEq, beq_self_eq_true, Int.reduceBEq, and_self, and_true, true_and, enc, ptx]
    | skip => simp only [d_told, exSs, exS.eq_1, exS.eq_2, exS.eq_3, exS.eq_4, exS.eq_5, exS.eq_8, exS.eq_9, exS.eq_10, exS.eq_11, exS.eq_12, x_whil, x_forr, lpC_ap, lpB_ap, evE, evEs, evO, evS, evIt, evT, asT, bind_ok, st_ok, ofO_some, ofB_some, tr_non, tr_bl, tr_int, tr_tup, c_lt, c_le, c_gt, c_ge, c_eqi, c_nei, c_eqs, c_nes, c_eqb, c_neb, c_isb, c_isnb, c_isn_non, c_isnn_non, c_ins, b_addi, b_subi, i_addi, v_lent, v_lenf, v_inti, v_absi, s_tup0, s_tup1, y_tup, y_str, fin_ret, fin_next, List.map, List.replicate, List.length_cons, List.length_nil, List.getElem?_cons_zero, List.getElem?_cons_succ, List.cons_append, List.nil_append, List.append_nil, List.set_cons_zero, List.set_cons_succ, Bool.not_true, Bool.not_false, wip, setTg, setAll, if_true, if_false, reduceIte, Bool.false_eq_true, tup_bs, lst_bs, Option.map_some, Bool.and_true, Bool.true_and, Bool.and_false, Bool.false_and, Bool.or_true, Bool.true_or, Bool.or_false, Bool.false_or, List.cons_beq_cons, nb_cons, cb_nil, Nat.reduceBEq, beq_self_eq_true, Int.reduceBEq, and_self, and_true, true_and, enc, ptx]
    | again t =>
      simp only [dep, tl] at hd hl
      have ih := told_enc n t (by omega) (by omega) (W := W) (h := h)
      have hlen := ptx_len t
      simp only [d_told, exSs, exS.eq_1, exS.eq_2, exS.eq_3, exS.eq_4, exS.eq_5, exS.eq_8, exS.eq_9, exS.eq_10, exS.eq_11, exS.eq_12, x_whil, x_forr, lpC_ap, lpB_ap, evE, evEs, evO, evS, evIt, evT, asT, bind_ok, st_ok, ofO_some, ofB_some, tr_non, tr_bl, tr_int, tr_tup, c_lt, c_le, c_gt, c_ge, c_eqi, c_nei, c_eqs, c_nes, c_eqb, c_neb, c_isb, c_isnb, c_isn_non, c_isnn_non, c_ins, b_addi, b_subi, i_addi, v_lent, v_lenf, v_inti, v_absi, s_tup0, s_tup1, y_tup, y_str, fin_ret, fin_next, List.map, List.replicate, List.length_cons, List.length_nil, List.getElem?_cons_zero, List.getElem?_cons_succ, List.cons_append, List.nil_append, List.append_nil, List.set_cons_zero, List.set_cons_succ, Bool.not_true, Bool.not_false, wip, setTg, setAll, if_true, if_false, reduceIte, Bool.false_eq_true, tup_bs, lst_bs, Option.map_some, Bool.and_true, Bool.true_and, Bool.and_false, Bool.false_and, Bool.or_true, Bool.true_or, Bool.or_false, Bool.false_or, List.cons_beq_cons, nb_cons, cb_nil, Nat.reduceBEq, beq_self_eq_true, Int.reduceBEq, and_self, and_true, true_and, enc, ptx]
      rw [show callF D W n 8 [enc t] h = _ from ih]
      simp only [exSs, exS.eq_1, exS.eq_2, exS.eq_3, exS.eq_4, exS.eq_5, exS.eq_8, exS.eq_9, exS.eq_10, exS.eq_11, exS.eq_12, x_whil, x_forr, lpC_ap, lpB_ap, evE, evEs, evO, evS, evIt, evT, asT, bind_ok, st_ok, ofO_some, ofB_some, tr_non, tr_bl, tr_int, tr_tup, c_lt, c_le, c_gt, c_ge, c_eqi, c_nei, c_eqs, c_nes, c_eqb, c_neb, c_isb, c_isnb, c_isn_non, c_isnn_non, c_ins, b_addi, b_subi, i_addi, v_lent, v_lenf, v_inti, v_absi, s_tup0, s_tup1, y_tup, y_str, fin_ret, fin_next, List.map, List.replicate, List.length_cons, List.length_nil, List.getElem?_cons_zero, List.getElem?_cons_succ, List.cons_append, List.nil_append, List.append_nil, List.set_cons_zero, List.set_cons_succ, Bool.not_true, Bool.not_false, wip, setTg, setAll, if_true, if_false, reduceIte, Bool.false_eq_true, tup_bs, lst_bs, Option.map_some, Bool.and_true, Bool.true_and, Bool.and_false, Bool.false_and, Bool.or_true, Bool.true_or, Bool.or_false, Bool.false_or, List.cons_beq_cons, nb_cons, cb_nil, Nat.reduceBEq, beq_self_eq_true, Int.reduceBEq, and_self, and_true, true_and]
      rw [b_adds _ _ (by simp; omega)]
      simp only [exSs, exS.eq_1, exS.eq_2, exS.eq_3, exS.eq_4, exS.eq_5, exS.eq_8, exS.eq_9, exS.eq_10, exS.eq_11, exS.eq_12, x_whil, x_forr, lpC_ap, lpB_ap, evE, evEs, evO, evS, evIt, evT, asT, bind_ok, st_ok, ofO_some, ofB_some, tr_non, tr_bl, tr_int, tr_tup, c_lt, c_le, c_gt, c_ge, c_eqi, c_nei, c_eqs, c_nes, c_eqb, c_neb, c_isb, c_isnb, c_isn_non, c_isnn_non, c_ins, b_addi, b_subi, i_addi, v_lent, v_lenf, v_inti, v_absi, s_tup0, s_tup1, y_tup, y_str, fin_ret, fin_next, List.map, List.replicate, List.length_cons, List.length_nil, List.getElem?_cons_zero, List.getElem?_cons_succ, List.cons_append, List.nil_append, List.append_nil, List.set_cons_zero, List.set_cons_succ, Bool.not_true, Bool.not_false, wip, setTg, setAll, if_true, if_false, reduceIte, Bool.false_eq_true, tup_bs, lst_bs, Option.map_some, Bool.and_true, Bool.true_and, Bool.and_false, Bool.false_and, Bool.or_true, Bool.true_or, Bool.or_false, Bool.false_or, List.cons_beq_cons, nb_cons, cb_nil, Nat.reduceBEq, beq_self_eq_true, Int.reduceBEq, and_self, and_true, true_and]
    | node k ts =>
      simp only [dep, tl] at hd hl
      have ih : AllT (fun t => callF D W n 8 [enc t] h = .ok (.str (ptx t)) h) ts := (AllT.and (deps_all (n := n) (by omega)) (tls_all (n := tls ts) (Nat.le_refl _))).imp fun t ⟨h1, h2⟩ => told_enc n t h1 (by omega)
      have e := lcL_ptxs (f := fun x h => callF D W n 8 [x] h) ih
      have hj := joinI_ptxs ts h (by omega)
      have hlen := joinL_len (ptxs ts)
      have hlen2 := ptxs_len ts
      have hb : (encs ts).length ≤ big := by
        have := len_tls ts
        rw [encs_len]
        omega
      have b1 : [op k].length + (joinL [32] (ptxs ts)).length ≤ big := by simp; omega
      have b2 : ([op k] ++ joinL [32] (ptxs ts)).length + [cl k].length ≤ big := by simp; omega
      simp only [d_told, exSs, exS.eq_1, exS.eq_2, exS.eq_3, exS.eq_4, exS.eq_5, exS.eq_8, exS.eq_9, exS.eq_10, exS.eq_11, exS.eq_12, x_whil, x_forr, lpC_ap, lpB_ap, evE, evEs, evO, evS, evIt, evT, asT, bind_ok, st_ok, ofO_some, ofB_some, tr_non, tr_bl, tr_int, tr_tup, c_lt, c_le, c_gt, c_ge, c_eqi, c_nei, c_eqs, c_nes, c_eqb, c_neb, c_isb, c_isnb, c_isn_non, c_isnn_non, c_ins, b_addi, b_subi, i_addi, v_lent, v_lenf, v_inti, v_absi, s_tup0, s_tup1, y_tup, y_str, fin_ret, fin_next, List.map, List.replicate, List.length_cons, List.length_nil, List.getElem?_cons_zero, List.getElem?_cons_succ, List.cons_append, List.nil_append, List.append_nil, List.set_cons_zero, List.set_cons_succ, Bool.not_true, Bool.not_false, wip, setTg, setAll, if_true, if_false, reduceIte, Bool.false_eq_true, tup_bs, lst_bs, Option.map_some, Bool.and_true, Bool.true_and, Bool.and_false, Bool.false_and, Bool.or_true, Bool.true_or, Bool.or_false, Bool.false_or, List.cons_beq_cons, nb_cons, cb_nil, Nat.reduceBEq, beq_self_eq_true, Int.reduceBEq, and_self, and_true, true_and, enc, ptx, items, guardOf, hb, kw_do, kw_skip, kw_again, lk_op, lk_cl, e, hj, b_adds _ _ b1]
      rw [b_adds _ _ (by simpa using b2)]
      simp only [exSs, exS.eq_1, exS.eq_2, exS.eq_3, exS.eq_4, exS.eq_5, exS.eq_8, exS.eq_9, exS.eq_10, exS.eq_11, exS.eq_12, x_whil, x_forr, lpC_ap, lpB_ap, evE, evEs, evO, evS, evIt, evT, asT, bind_ok, st_ok, ofO_some, ofB_some, tr_non, tr_bl, tr_int, tr_tup, c_lt, c_le, c_gt, c_ge, c_eqi, c_nei, c_eqs, c_nes, c_eqb, c_neb, c_isb, c_isnb, c_isn_non, c_isnn_non, c_ins, b_addi, b_subi, i_addi, v_lent, v_lenf, v_inti, v_absi, s_tup0, s_tup1, y_tup, y_str, fin_ret, fin_next, List.map, List.replicate, List.length_cons, List.length_nil, List.getElem?_cons_zero, List.getElem?_cons_succ, List.cons_append, List.nil_append, List.append_nil, List.set_cons_zero, List.set_cons_succ, Bool.not_true, Bool.not_false, wip, setTg, setAll, if_true, if_false, reduceIte, Bool.false_eq_true, tup_bs, lst_bs, Option.map_some, Bool.and_true, Bool.true_and, Bool.and_false, Bool.false_and, Bool.or_true, Bool.true_or, Bool.or_false, Bool.false_or, List.cons_beq_cons, nb_cons, cb_nil, Nat.reduceBEq, beq_self_eq_true, Int.reduceBEq, and_self, and_true, true_and]
end K76
namespace K76
open MP
variable {W k : Nat} {h : IH}
theorem lk_opcl (k : Kd) : lookK (kw k) [([114, 111, 119], .str [40, 41]), ([112, 105, 99, 107], .str [91, 93]), ([115, 105, 100, 101, 115], .str [123, 125])] = some (.str [op k, cl k]) := by cases k <;> rfl
theorem ltext_enc : ∀ (n : Nat) (t : Tr), dep t ≤ n → tl t ≤ big → ∀ {W : Nat} {h : IH}, callF D W n 25 [enc t] h = .ok (.str (ptx t)) h
  | 0, t, hd, _, _, _ => by have := dep_pos t; omega
  | n + 1, t, hd, hl, W, h => by
    rw [cf_eq d_law_text rfl rfl rfl]
    cases t with
    | act l => simp only [d_law_text, exSs, exS.eq_1, exS.eq_2, exS.eq_3, exS.eq_4, exS.eq_5, exS.eq_8, exS.eq_9, exS.eq_10, exS.eq_11, exS.eq_12, x_whil, x_forr, lpC_ap, lpB_ap, evE, evEs, evO, evS, evIt, evT, asT, bind_ok, st_ok, ofO_some, ofB_some, tr_non, tr_bl, tr_int, tr_tup, c_lt, c_le, c_gt, c_ge, c_eqi, c_nei, c_eqs, c_nes, c_eqb, c_neb, c_isb, c_isnb, c_isn_non, c_isnn_non, c_ins, b_addi, b_subi, i_addi, v_lent, v_lenf, v_inti, v_absi, s_tup0, s_tup1, y_tup, y_str, fin_ret, fin_next, List.map, List.replicate, List.length_cons, List.length_nil, List.getElem?_cons_zero, List.getElem?_cons_succ, List.cons_append, List.nil_append, List.append_nil, List.set_cons_zero, List.set_cons_succ, Bool.not_true, Bool.not_false, wip, setTg, setAll, if_true, if_false, reduceIte, Bool.false_eq_true, tup_bs, lst_bs, Option.map_some, Bool.and_true, Bool.true_and, Bool.and_false, Bool.false_and, Bool.or_true, Bool.true_or, Bool.or_false, Bool.false_or, List.cons_beq_cons, nb_cons, cb_nil, Nat.reduceBEq, beq_self_eq_true, Int.reduceBEq, and_self, and_true, true_and, enc, ptx]
    | skip => simp only [d_law_text, exSs, exS.eq_1, exS.eq_2, exS.eq_3, exS.eq_4, exS.eq_5, exS.eq_8, exS.eq_9, exS.eq_10, exS.eq_11, exS.eq_12, x_whil, x_forr, lpC_ap, lpB_ap, evE, evEs, evO, evS, evIt, evT, asT, bind_ok, st_ok, ofO_some, ofB_some, tr_non, tr_bl, tr_int, tr_tup, c_lt, c_le, c_gt, c_ge, c_eqi, c_nei, c_eqs, c_nes, c_eqb, c_neb, c_isb, c_isnb, c_isn_non, c_isnn_non, c_ins, b_addi, b_subi, i_addi, v_lent, v_lenf, v_inti, v_absi, s_tup0, s_tup1, y_tup, y_str, fin_ret, fin_next, List.map, List.replicate, List.length_cons, List.length_nil, List.getElem?_cons_zero, List.getElem?_cons_succ, List.cons_append, List.nil_append, List.append_nil, List.set_cons_zero, List.set_cons_succ, Bool.not_true, Bool.not_false, wip, setTg, setAll, if_true, if_false, reduceIte, Bool.false_eq_true, tup_bs, lst_bs, Option.map_some, Bool.and_true, Bool.true_and, Bool.and_false, Bool.false_and, Bool.or_true, Bool.true_or, Bool.or_false, Bool.false_or, List.cons_beq_cons, nb_cons, cb_nil, Nat.reduceBEq, beq_self_eq_true, Int.reduceBEq, and_self, and_true, true_and, enc, ptx]
    | again t =>
      simp only [dep, tl] at hd hl
      have ih := ltext_enc n t (by omega) (by omega) (W := W) (h := h)
      have hlen := ptx_len t
      simp only [d_law_text, exSs, exS.eq_1, exS.eq_2, exS.eq_3, exS.eq_4, exS.eq_5, exS.eq_8, exS.eq_9, exS.eq_10, exS.eq_11, exS.eq_12, x_whil, x_forr, lpC_ap, lpB_ap, evE, evEs, evO, evS, evIt, evT, asT, bind_ok, st_ok, ofO_some, ofB_some, tr_non, tr_bl, tr_int, tr_tup, c_lt, c_le, c_gt, c_ge, c_eqi, c_nei, c_eqs, c_nes, c_eqb, c_neb, c_isb, c_isnb, c_isn_non, c_isnn_non, c_ins, b_addi, b_subi, i_addi, v_lent, v_lenf, v_inti, v_absi, s_tup0, s_tup1, y_tup, y_str, fin_ret, fin_next, List.map, List.replicate, List.length_cons, List.length_nil, List.getElem?_cons_zero, List.getElem?_cons_succ, List.cons_append, List.nil_append, List.append_nil, List.set_cons_zero, List.set_cons_succ, Bool.not_true, Bool.not_false, wip, setTg, setAll, if_true, if_false, reduceIte, Bool.false_eq_true, tup_bs, lst_bs, Option.map_some, Bool.and_true, Bool.true_and, Bool.and_false, Bool.false_and, Bool.or_true, Bool.true_or, Bool.or_false, Bool.false_or, List.cons_beq_cons, nb_cons, cb_nil, Nat.reduceBEq, beq_self_eq_true, Int.reduceBEq, and_self, and_true, true_and, enc, ptx]
      rw [show callF D W n 25 [enc t] h = _ from ih]
      simp only [exSs, exS.eq_1, exS.eq_2, exS.eq_3, exS.eq_4, exS.eq_5, exS.eq_8, exS.eq_9, exS.eq_10, exS.eq_11, exS.eq_12, x_whil, x_forr, lpC_ap, lpB_ap, evE, evEs, evO, evS, evIt, evT, asT, bind_ok, st_ok, ofO_some, ofB_some, tr_non, tr_bl, tr_int, tr_tup, c_lt, c_le, c_gt, c_ge, c_eqi, c_nei, c_eqs, c_nes, c_eqb, c_neb, c_isb, c_isnb, c_isn_non, c_isnn_non, c_ins, b_addi, b_subi, i_addi, v_lent, v_lenf, v_inti, v_absi, s_tup0, s_tup1, y_tup, y_str, fin_ret, fin_next, List.map, List.replicate, List.length_cons, List.length_nil, List.getElem?_cons_zero, List.getElem?_cons_succ, List.cons_append, List.nil_append, List.append_nil, List.set_cons_zero, List.set_cons_succ, Bool.not_true, Bool.not_false, wip, setTg, setAll, if_true, if_false, reduceIte, Bool.false_eq_true, tup_bs, lst_bs, Option.map_some, Bool.and_true, Bool.true_and, Bool.and_false, Bool.false_and, Bool.or_true, Bool.true_or, Bool.or_false, Bool.false_or, List.cons_beq_cons, nb_cons, cb_nil, Nat.reduceBEq, beq_self_eq_true, Int.reduceBEq, and_self, and_true, true_and]
      rw [b_adds _ _ (by simp; omega)]
      simp only [exSs, exS.eq_1, exS.eq_2, exS.eq_3, exS.eq_4, exS.eq_5, exS.eq_8, exS.eq_9, exS.eq_10, exS.eq_11, exS.eq_12, x_whil, x_forr, lpC_ap, lpB_ap, evE, evEs, evO, evS, evIt, evT, asT, bind_ok, st_ok, ofO_some, ofB_some, tr_non, tr_bl, tr_int, tr_tup, c_lt, c_le, c_gt, c_ge, c_eqi, c_nei, c_eqs, c_nes, c_eqb, c_neb, c_isb, c_isnb, c_isn_non, c_isnn_non, c_ins, b_addi, b_subi, i_addi, v_lent, v_lenf, v_inti, v_absi, s_tup0, s_tup1, y_tup, y_str, fin_ret, fin_next, List.map, List.replicate, List.length_cons, List.length_nil, List.getElem?_cons_zero, List.getElem?_cons_succ, List.cons_append, List.nil_append, List.append_nil, List.set_cons_zero, List.set_cons_succ, Bool.not_true, Bool.not_false, wip, setTg, setAll, if_true, if_false, reduceIte, Bool.false_eq_true, tup_bs, lst_bs, Option.map_some, Bool.and_true, Bool.true_and, Bool.and_false, Bool.false_and, Bool.or_true, Bool.true_or, Bool.or_false, Bool.false_or, List.cons_beq_cons, nb_cons, cb_nil, Nat.reduceBEq, beq_self_eq_true, Int.reduceBEq, and_self, and_true, true_and]
    | node k ts =>
      simp only [dep, tl] at hd hl
      have ih : AllT (fun t => callF D W n 25 [enc t] h = .ok (.str (ptx t)) h) ts := (AllT.and (deps_all (n := n) (by omega)) (tls_all (n := tls ts) (Nat.le_refl _))).imp fun t ⟨h1, h2⟩ => ltext_enc n t h1 (by omega)
      have e := lcL_ptxs (f := fun x h => callF D W n 25 [x] h) ih
      have hj := joinI_ptxs ts h (by omega)
      have hlen := joinL_len (ptxs ts)
      have hlen2 := ptxs_len ts
      have hb : (encs ts).length ≤ big := by
        have := len_tls ts
        rw [encs_len]
        omega
      have b1 : [op k].length + (joinL [32] (ptxs ts)).length ≤ big := by simp; omega
      have b2 : ([op k] ++ joinL [32] (ptxs ts)).length + [cl k].length ≤ big := by simp; omega
      simp only [d_law_text, exSs, exS.eq_1, exS.eq_2, exS.eq_3, exS.eq_4, exS.eq_5, exS.eq_8, exS.eq_9, exS.eq_10, exS.eq_11, exS.eq_12, x_whil, x_forr, lpC_ap, lpB_ap, evE, evEs, evO, evS, evIt, evT, asT, bind_ok, st_ok, ofO_some, ofB_some, tr_non, tr_bl, tr_int, tr_tup, c_lt, c_le, c_gt, c_ge, c_eqi, c_nei, c_eqs, c_nes, c_eqb, c_neb, c_isb, c_isnb, c_isn_non, c_isnn_non, c_ins, b_addi, b_subi, i_addi, v_lent, v_lenf, v_inti, v_absi, s_tup0, s_tup1, y_tup, y_str, fin_ret, fin_next, List.map, List.replicate, List.length_cons, List.length_nil, List.getElem?_cons_zero, List.getElem?_cons_succ, List.cons_append, List.nil_append, List.append_nil, List.set_cons_zero, List.set_cons_succ, Bool.not_true, Bool.not_false, wip, setTg, setAll, if_true, if_false, reduceIte, Bool.false_eq_true, tup_bs, lst_bs, Option.map_some, Bool.and_true, Bool.true_and, Bool.and_false, Bool.false_and, Bool.or_true, Bool.true_or, Bool.or_false, Bool.false_or, List.cons_beq_cons, nb_cons, cb_nil, Nat.reduceBEq, beq_self_eq_true, Int.reduceBEq, and_self, and_true, true_and, enc, ptx, items, guardOf, hb, kw_do, kw_skip, kw_again, lk_opcl, unpack]
      simp only [exSs, exS.eq_1, exS.eq_2, exS.eq_3, exS.eq_4, exS.eq_5, exS.eq_8, exS.eq_9, exS.eq_10, exS.eq_11, exS.eq_12, x_whil, x_forr, lpC_ap, lpB_ap, evE, evEs, evO, evS, evIt, evT, asT, bind_ok, st_ok, ofO_some, ofB_some, tr_non, tr_bl, tr_int, tr_tup, c_lt, c_le, c_gt, c_ge, c_eqi, c_nei, c_eqs, c_nes, c_eqb, c_neb, c_isb, c_isnb, c_isn_non, c_isnn_non, c_ins, b_addi, b_subi, i_addi, v_lent, v_lenf, v_inti, v_absi, s_tup0, s_tup1, y_tup, y_str, fin_ret, fin_next, List.map, List.replicate, List.length_cons, List.length_nil, List.getElem?_cons_zero, List.getElem?_cons_succ, List.cons_append, List.nil_append, List.append_nil, List.set_cons_zero, List.set_cons_succ, Bool.not_true, Bool.not_false, wip, setTg, setAll, if_true, if_false, reduceIte, Bool.false_eq_true, tup_bs, lst_bs, Option.map_some, Bool.and_true, Bool.true_and, Bool.and_false, Bool.false_and, Bool.or_true, Bool.true_or, Bool.or_false, Bool.false_or, List.cons_beq_cons, nb_cons, cb_nil, Nat.reduceBEq, beq_self_eq_true, Int.reduceBEq, and_self, and_true, true_and, e, hj, b_adds _ _ b1]
      rw [b_adds _ _ (by simpa using b2)]
      simp only [exSs, exS.eq_1, exS.eq_2, exS.eq_3, exS.eq_4, exS.eq_5, exS.eq_8, exS.eq_9, exS.eq_10, exS.eq_11, exS.eq_12, x_whil, x_forr, lpC_ap, lpB_ap, evE, evEs, evO, evS, evIt, evT, asT, bind_ok, st_ok, ofO_some, ofB_some, tr_non, tr_bl, tr_int, tr_tup, c_lt, c_le, c_gt, c_ge, c_eqi, c_nei, c_eqs, c_nes, c_eqb, c_neb, c_isb, c_isnb, c_isn_non, c_isnn_non, c_ins, b_addi, b_subi, i_addi, v_lent, v_lenf, v_inti, v_absi, s_tup0, s_tup1, y_tup, y_str, fin_ret, fin_next, List.map, List.replicate, List.length_cons, List.length_nil, List.getElem?_cons_zero, List.getElem?_cons_succ, List.cons_append, List.nil_append, List.append_nil, List.set_cons_zero, List.set_cons_succ, Bool.not_true, Bool.not_false, wip, setTg, setAll, if_true, if_false, reduceIte, Bool.false_eq_true, tup_bs, lst_bs, Option.map_some, Bool.and_true, Bool.true_and, Bool.and_false, Bool.false_and, Bool.or_true, Bool.true_or, Bool.or_false, Bool.false_or, List.cons_beq_cons, nb_cons, cb_nil, Nat.reduceBEq, beq_self_eq_true, Int.reduceBEq, and_self, and_true, true_and]
/-- a heap that only grew -/
def Gr (h h' : IH) : Prop := ∃ j, h' = h ++ j
theorem Gr.refl (h : IH) : Gr h h := ⟨[], by simp⟩
theorem Gr.trans {a b c : IH} : Gr a b → Gr b c → Gr a c := fun ⟨x, e⟩ ⟨y, f⟩ => ⟨x ++ y, by rw [f, e, List.append_assoc]⟩
theorem Gr.snoc (h : IH) (o : IO) : Gr h (h ++ [o]) := ⟨[o], rfl⟩
theorem Gr.get {h h' : IH} (g : Gr h h') {n : Nat} {o : IO} (e : h[n]? = some o) : h'[n]? = some o := by
  obtain ⟨j, rfl⟩ := g
  rw [List.getElem?_append_left (List.getElem?_eq_some_iff.mp e).1]
  exact e
theorem new_get (h : IH) (o : IO) : (h ++ [o])[h.length]? = some o := by simp
def ist : Trs → List Int
  | .nil => []
  | .cons t ts => (steps t : Int) :: ist ts
theorem ist_sum : ∀ ts : Trs, (ist ts).sum = (stepss ts : Int)
  | .nil => rfl
  | .cons t ts => by simp [ist, stepss, ist_sum ts]
theorem lcL_steps {f : IV → IH → Res IV} : ∀ {ts : Trs} {h : IH}, AllT (fun t => ∀ h, ∃ h', f (enc t) h = .ok (.int (steps t)) h' ∧ Gr h h') ts → ∃ h', lcL [] f (encs ts) h = .ok ((ist ts).map .int) h' ∧ Gr h h'
  | .nil, h, _ => ⟨h, by simp [lcL, encs, ist, grd_nil], Gr.refl h⟩
  | .cons t ts, h, q => by
    obtain ⟨h1, e1, g1⟩ := q.1 h
    obtain ⟨h2, e2, g2⟩ := lcL_steps (h := h1) q.2
    exact ⟨h2, by simp only [encs, ist, lcL, grd_nil, if_true, e1, e2, List.map_cons], g1.trans g2⟩
theorem parts_again (x : IV) : callF D W (k + 1) 4 [.tup [.str [97, 103, 97, 105, 110], x]] h = .ok (.tup [x]) h := by
  rw [cf_eq d_parts_of rfl rfl rfl]
  simp only [d_parts_of, exSs, exS.eq_1, exS.eq_2, exS.eq_3, exS.eq_4, exS.eq_5, exS.eq_8, exS.eq_9, exS.eq_10, exS.eq_11, exS.eq_12, x_whil, x_forr, lpC_ap, lpB_ap, evE, evEs, evO, evS, evIt, evT, asT, bind_ok, st_ok, ofO_some, ofB_some, tr_non, tr_bl, tr_int, tr_tup, c_lt, c_le, c_gt, c_ge, c_eqi, c_nei, c_eqs, c_nes, c_eqb, c_neb, c_isb, c_isnb, c_isn_non, c_isnn_non, c_ins, b_addi, b_subi, i_addi, v_lent, v_lenf, v_inti, v_absi, s_tup0, s_tup1, y_tup, y_str, fin_ret, fin_next, List.map, List.replicate, List.length_cons, List.length_nil, List.getElem?_cons_zero, List.getElem?_cons_succ, List.cons_append, List.nil_append, List.append_nil, List.set_cons_zero, List.set_cons_succ, Bool.not_true, Bool.not_false, wip, setTg, setAll, if_true, if_false, reduceIte, Bool.false_eq_true, tup_bs, lst_bs, Option.map_some, Bool.and_true, Bool.true_and, Bool.and_false, Bool.false_and, Bool.or_true, Bool.true_or, Bool.or_false, Bool.false_or, List.cons_beq_cons, nb_cons, cb_nil, Nat.reduceBEq, beq_self_eq_true, Int.reduceBEq, and_self, and_true, true_and]
  rfl
theorem kw_in (k : Kd) : cmpI .isIn (.str (kw k)) (.tup [.str [114, 111, 119], .str [112, 105, 99, 107], .str [115, 105, 100, 101, 115]]) h = .ok (.bl true) h := by cases k <;> rfl
theorem kw_nin (k : Kd) : cmpI .notIn (.str (kw k)) (.tup [.str [97, 103, 97, 105, 110], .str [114, 111, 119], .str [112, 105, 99, 107], .str [115, 105, 100, 101, 115]]) h = .ok (.bl false) h := by cases k <;> rfl
theorem ag_nin : cmpI .notIn (.str [97, 103, 97, 105, 110]) (.tup [.str [97, 103, 97, 105, 110], .str [114, 111, 119], .str [112, 105, 99, 107], .str [115, 105, 100, 101, 115]]) h = .ok (.bl false) h := rfl
theorem small_big {n : Nat} (h : n ≤ 1000) : n ≤ big := by unfold big; omega
theorem lb3 : (0 + 1 + 1 + 1 ≤ big) = True := by simp [big]
theorem lb4 : (0 + 1 + 1 + 1 + 1 ≤ big) = True := by simp [big]
theorem lb2 : (0 + 1 + 1 ≤ big) = True := by simp [big]
theorem lb1 : (0 + 1 ≤ big) = True := by simp [big]
theorem lb0 : (0 ≤ big) = True := by simp [big]
theorem parts_node (x : IV) (kd : Kd) : callF D W (k + 1) 4 [.tup [.str (kw kd), x]] h = .ok x h := by
  rw [cf_eq d_parts_of rfl rfl rfl]
  simp only [d_parts_of, exSs, exS.eq_1, exS.eq_2, exS.eq_3, exS.eq_4, exS.eq_5, exS.eq_8, exS.eq_9, exS.eq_10, exS.eq_11, exS.eq_12, x_whil, x_forr, lpC_ap, lpB_ap, evE, evEs, evO, evS, evIt, evT, asT, bind_ok, st_ok, ofO_some, ofB_some, tr_non, tr_bl, tr_int, tr_tup, c_lt, c_le, c_gt, c_ge, c_eqi, c_nei, c_eqs, c_nes, c_eqb, c_neb, c_isb, c_isnb, c_isn_non, c_isnn_non, c_ins, b_addi, b_subi, i_addi, v_lent, v_lenf, v_inti, v_absi, s_tup0, s_tup1, y_tup, y_str, fin_ret, fin_next, List.map, List.replicate, List.length_cons, List.length_nil, List.getElem?_cons_zero, List.getElem?_cons_succ, List.cons_append, List.nil_append, List.append_nil, List.set_cons_zero, List.set_cons_succ, Bool.not_true, Bool.not_false, wip, setTg, setAll, if_true, if_false, reduceIte, Bool.false_eq_true, tup_bs, lst_bs, Option.map_some, Bool.and_true, Bool.true_and, Bool.and_false, Bool.false_and, Bool.or_true, Bool.true_or, Bool.or_false, Bool.false_or, List.cons_beq_cons, nb_cons, cb_nil, Nat.reduceBEq, beq_self_eq_true, Int.reduceBEq, and_self, and_true, true_and, kw_again, kw_in, lb3]
theorem non_ist (l : List Int) : (l.map IV.int).any (fun z => eqF z .non) = false := by
  induction l with
  | nil => rfl
  | cons x l ih => simp [eqF]
theorem flat_ist (l : List Int) : (l.map IV.int).all flat = true := by
  induction l with
  | nil => rfl
  | cons x l ih => simp [flat]
theorem asInts_id (l : List Int) : asInts (l.map IV.int) = some l := by
  have := asInts_map (fun x : Int => x) l
  simpa using this
theorem asInts_one (i : Int) : asInts [.int i] = some [i] := rfl
theorem okTs_all : ∀ {ts : Trs}, okTs ts = true → AllT (fun t => okT t = true) ts
  | .nil, _ => trivial
  | .cons t ts, h => by
    simp only [okTs, Bool.and_eq_true] at h
    exact ⟨h.1, okTs_all h.2⟩
theorem sized1 (x : IV) : callF D W (k + 1) 0 [.tup [x], .int 1, .int 2] h = .ok (.bl true) h := by rw [is_sized_tup]; rfl
theorem sized2 (x y : IV) : callF D W (k + 1) 0 [.tup [x, y], .int 1, .int 2] h = .ok (.bl true) h := by rw [is_sized_tup]; rfl
theorem c1e1 : (((0 + 1 : Nat) : Int) == 1) = true := rfl
theorem c2e1 : (((0 + 1 + 1 : Nat) : Int) == 1) = false := rfl
theorem ag4 : (4 ≤ big) = True := by simp [big]
theorem size_enc : ∀ (n : Nat) (t : Tr), dep t ≤ n → okT t = true → tl t ≤ big → ∀ {W : Nat} {d : Int} {h : IH}, (dep t : Int) ≤ d → ∃ h', callF D W (n + 1) 5 [enc t, .int d] h = .ok (.int (steps t)) h' ∧ Gr h h'
  | 0, t, hd, _, _, _, _, _, _ => by have := dep_pos t; omega
  | n + 1, t, hd, ho, hl, W, d, h, hdd => by
    have hp := dep_pos t
    have hz : (d == 0) = false := by simp; omega
    rw [cf_eq d_size_of rfl rfl rfl]
    cases t with
    | act l =>
      simp only [okT] at ho
      have hb : l.length ≤ big := by simp only [tl] at hl; omega
      refine ⟨h, ?_, Gr.refl h⟩
      simp only [d_size_of, exSs, exS.eq_1, exS.eq_2, exS.eq_3, exS.eq_4, exS.eq_5, exS.eq_8, exS.eq_9, exS.eq_10, exS.eq_11, exS.eq_12, x_whil, x_forr, lpC_ap, lpB_ap, evE, evEs, evO, evS, evIt, evT, asT, bind_ok, st_ok, ofO_some, ofB_some, tr_non, tr_bl, tr_int, tr_tup, c_lt, c_le, c_gt, c_ge, c_eqi, c_nei, c_eqs, c_nes, c_eqb, c_neb, c_isb, c_isnb, c_isn_non, c_isnn_non, c_ins, b_addi, b_subi, i_addi, v_lent, v_lenf, v_inti, v_absi, s_tup0, s_tup1, y_tup, y_str, fin_ret, fin_next, List.map, List.replicate, List.length_cons, List.length_nil, List.getElem?_cons_zero, List.getElem?_cons_succ, List.cons_append, List.nil_append, List.append_nil, List.set_cons_zero, List.set_cons_succ, Bool.not_true, Bool.not_false, wip, setTg, setAll, if_true, if_false, reduceIte, Bool.false_eq_true, tup_bs, lst_bs, Option.map_some, Bool.and_true, Bool.true_and, Bool.and_false, Bool.false_and, Bool.or_true, Bool.true_or, Bool.or_false, Bool.false_or, List.cons_beq_cons, nb_cons, cb_nil, Nat.reduceBEq, beq_self_eq_true, Int.reduceBEq, and_self, and_true, true_and, enc, steps, hz, sized2, is_name_str _ hb, ho, ys_one _ _ _ (y_str _), ag4, c2e1]
      rfl
    | skip =>
      refine ⟨h, ?_, Gr.refl h⟩
      simp only [d_size_of, exSs, exS.eq_1, exS.eq_2, exS.eq_3, exS.eq_4, exS.eq_5, exS.eq_8, exS.eq_9, exS.eq_10, exS.eq_11, exS.eq_12, x_whil, x_forr, lpC_ap, lpB_ap, evE, evEs, evO, evS, evIt, evT, asT, bind_ok, st_ok, ofO_some, ofB_some, tr_non, tr_bl, tr_int, tr_tup, c_lt, c_le, c_gt, c_ge, c_eqi, c_nei, c_eqs, c_nes, c_eqb, c_neb, c_isb, c_isnb, c_isn_non, c_isnn_non, c_ins, b_addi, b_subi, i_addi, v_lent, v_lenf, v_inti, v_absi, s_tup0, s_tup1, y_tup, y_str, fin_ret, fin_next, List.map, List.replicate, List.length_cons, List.length_nil, List.getElem?_cons_zero, List.getElem?_cons_succ, List.cons_append, List.nil_append, List.append_nil, List.set_cons_zero, List.set_cons_succ, Bool.not_true, Bool.not_false, wip, setTg, setAll, if_true, if_false, reduceIte, Bool.false_eq_true, tup_bs, lst_bs, Option.map_some, Bool.and_true, Bool.true_and, Bool.and_false, Bool.false_and, Bool.or_true, Bool.true_or, Bool.or_false, Bool.false_or, List.cons_beq_cons, nb_cons, cb_nil, Nat.reduceBEq, beq_self_eq_true, Int.reduceBEq, and_self, and_true, true_and, enc, steps, hz, sized1, ys_one _ _ _ (y_str _), c1e1]
      rfl
    | again t =>
      simp only [dep, okT, tl] at hd ho hl hdd
      have ih := fun h => size_enc n t (by omega) ho (by omega) (W := W) (d := d - 1) (h := h) (by omega)
      obtain ⟨h1, e1, g1⟩ := ih h
      refine ⟨h1 ++ [.lst [.int (steps t)]], ?_, g1.trans (Gr.snoc ..)⟩
      simp only [d_size_of, exSs, exS.eq_1, exS.eq_2, exS.eq_3, exS.eq_4, exS.eq_5, exS.eq_8, exS.eq_9, exS.eq_10, exS.eq_11, exS.eq_12, x_whil, x_forr, lpC_ap, lpB_ap, evE, evEs, evO, evS, evIt, evT, asT, bind_ok, st_ok, ofO_some, ofB_some, tr_non, tr_bl, tr_int, tr_tup, c_lt, c_le, c_gt, c_ge, c_eqi, c_nei, c_eqs, c_nes, c_eqb, c_neb, c_isb, c_isnb, c_isn_non, c_isnn_non, c_ins, b_addi, b_subi, i_addi, v_lent, v_lenf, v_inti, v_absi, s_tup0, s_tup1, y_tup, y_str, fin_ret, fin_next, List.map, List.replicate, List.length_cons, List.length_nil, List.getElem?_cons_zero, List.getElem?_cons_succ, List.cons_append, List.nil_append, List.append_nil, List.set_cons_zero, List.set_cons_succ, Bool.not_true, Bool.not_false, wip, setTg, setAll, if_true, if_false, reduceIte, Bool.false_eq_true, tup_bs, lst_bs, Option.map_some, Bool.and_true, Bool.true_and, Bool.and_false, Bool.false_and, Bool.or_true, Bool.true_or, Bool.or_false, Bool.false_or, List.cons_beq_cons, nb_cons, cb_nil, Nat.reduceBEq, beq_self_eq_true, Int.reduceBEq, and_self, and_true, true_and, enc, steps, hz, sized2, ys_one _ _ _ (y_str _), ag4, c2e1, ag_nin, parts_again, items, guardOf, lb1, lb4, lcL, grd_nil, e1]
      rw [c_inl _ _ _ (new_get ..)]
      simp only [exSs, exS.eq_1, exS.eq_2, exS.eq_3, exS.eq_4, exS.eq_5, exS.eq_8, exS.eq_9, exS.eq_10, exS.eq_11, exS.eq_12, x_whil, x_forr, lpC_ap, lpB_ap, evE, evEs, evO, evS, evIt, evT, asT, bind_ok, st_ok, ofO_some, ofB_some, tr_non, tr_bl, tr_int, tr_tup, c_lt, c_le, c_gt, c_ge, c_eqi, c_nei, c_eqs, c_nes, c_eqb, c_neb, c_isb, c_isnb, c_isn_non, c_isnn_non, c_ins, b_addi, b_subi, i_addi, v_lent, v_lenf, v_inti, v_absi, s_tup0, s_tup1, y_tup, y_str, fin_ret, fin_next, List.map, List.replicate, List.length_cons, List.length_nil, List.getElem?_cons_zero, List.getElem?_cons_succ, List.cons_append, List.nil_append, List.append_nil, List.set_cons_zero, List.set_cons_succ, Bool.not_true, Bool.not_false, wip, setTg, setAll, if_true, if_false, reduceIte, Bool.false_eq_true, tup_bs, lst_bs, Option.map_some, Bool.and_true, Bool.true_and, Bool.and_false, Bool.false_and, Bool.or_true, Bool.true_or, Bool.or_false, Bool.false_or, List.cons_beq_cons, nb_cons, cb_nil, Nat.reduceBEq, beq_self_eq_true, Int.reduceBEq, and_self, and_true, true_and, flat, List.all, List.any, eqF, litems, new_get, sum_bs _ _ (asInts_one _)]
      simp
    | node kd ts =>
      simp only [dep, okT, tl, Bool.and_eq_true, decide_eq_true_eq] at hd ho hl hdd
      obtain ⟨⟨ho1, ho2⟩, ho3⟩ := ho
      have ih : AllT (fun t => ∀ h, ∃ h', callF D W (n + 1) 5 [enc t, .int (d - 1)] h = .ok (.int (steps t)) h' ∧ Gr h h') ts :=
        (AllT.and (okTs_all ho3) (AllT.and (deps_all (n := n) (by omega)) (AllT.and (deps_all (n := deps ts) (Nat.le_refl _)) (tls_all (n := tls ts) (Nat.le_refl _))))).imp fun t ⟨h0, h1, h2, h3⟩ h => size_enc n t h1 h0 (by omega) (by omega)
      obtain ⟨h1, e1, g1⟩ := lcL_steps (f := fun x h => callF D W (n + 1) 5 [x, .int (d - 1)] h) (h := h) ih
      have hb : (encs ts).length ≤ big := by
        rw [encs_len]
        exact small_big (by omega)
      have hs : callF D W (n + 1) 0 [.tup (encs ts), .int 2, .int 6] h = .ok (.bl true) h := by
        rw [is_sized_tup, encs_len]
        have a : (2 : Int) ≤ (ts.len : Int) := by omega
        have b : (ts.len : Int) ≤ 6 := by omega
        simp [a, b]
      refine ⟨h1 ++ [.lst ((ist ts).map .int)], ?_, g1.trans (Gr.snoc ..)⟩
      simp only [d_size_of, exSs, exS.eq_1, exS.eq_2, exS.eq_3, exS.eq_4, exS.eq_5, exS.eq_8, exS.eq_9, exS.eq_10, exS.eq_11, exS.eq_12, x_whil, x_forr, lpC_ap, lpB_ap, evE, evEs, evO, evS, evIt, evT, asT, bind_ok, st_ok, ofO_some, ofB_some, tr_non, tr_bl, tr_int, tr_tup, c_lt, c_le, c_gt, c_ge, c_eqi, c_nei, c_eqs, c_nes, c_eqb, c_neb, c_isb, c_isnb, c_isn_non, c_isnn_non, c_ins, b_addi, b_subi, i_addi, v_lent, v_lenf, v_inti, v_absi, s_tup0, s_tup1, y_tup, y_str, fin_ret, fin_next, List.map, List.replicate, List.length_cons, List.length_nil, List.getElem?_cons_zero, List.getElem?_cons_succ, List.cons_append, List.nil_append, List.append_nil, List.set_cons_zero, List.set_cons_succ, Bool.not_true, Bool.not_false, wip, setTg, setAll, if_true, if_false, reduceIte, Bool.false_eq_true, tup_bs, lst_bs, Option.map_some, Bool.and_true, Bool.true_and, Bool.and_false, Bool.false_and, Bool.or_true, Bool.true_or, Bool.or_false, Bool.false_or, List.cons_beq_cons, nb_cons, cb_nil, Nat.reduceBEq, beq_self_eq_true, Int.reduceBEq, and_self, and_true, true_and, enc, steps, hz, sized2, ys_one _ _ _ (y_str _), ag4, c2e1, kw_nin, kw_do, kw_again, hs, parts_node, items, guardOf, lb4, hb, e1]
      rw [c_inl _ _ _ (new_get ..)]
      simp only [exSs, exS.eq_1, exS.eq_2, exS.eq_3, exS.eq_4, exS.eq_5, exS.eq_8, exS.eq_9, exS.eq_10, exS.eq_11, exS.eq_12, x_whil, x_forr, lpC_ap, lpB_ap, evE, evEs, evO, evS, evIt, evT, asT, bind_ok, st_ok, ofO_some, ofB_some, tr_non, tr_bl, tr_int, tr_tup, c_lt, c_le, c_gt, c_ge, c_eqi, c_nei, c_eqs, c_nes, c_eqb, c_neb, c_isb, c_isnb, c_isn_non, c_isnn_non, c_ins, b_addi, b_subi, i_addi, v_lent, v_lenf, v_inti, v_absi, s_tup0, s_tup1, y_tup, y_str, fin_ret, fin_next, List.map, List.replicate, List.length_cons, List.length_nil, List.getElem?_cons_zero, List.getElem?_cons_succ, List.cons_append, List.nil_append, List.append_nil, List.set_cons_zero, List.set_cons_succ, Bool.not_true, Bool.not_false, wip, setTg, setAll, if_true, if_false, reduceIte, Bool.false_eq_true, tup_bs, lst_bs, Option.map_some, Bool.and_true, Bool.true_and, Bool.and_false, Bool.false_and, Bool.or_true, Bool.true_or, Bool.or_false, Bool.false_or, List.cons_beq_cons, nb_cons, cb_nil, Nat.reduceBEq, beq_self_eq_true, Int.reduceBEq, and_self, and_true, true_and, flat_ist, non_ist, flat, litems, new_get, sum_bs _ _ (asInts_id _), ist_sum]
/-- a procedure as it should be -/
structure Pr (t : Tr) : Prop where
  ok : okT t = true
  dep : dep t ≤ 8
  few : steps t ≤ 12
  len : tl t ≤ big
theorem is_proc {t : Tr} (p : Pr t) : ∃ h', callF D W (k + 10) 6 [enc t] h = .ok (.bl true) h' ∧ Gr h h' := by
  obtain ⟨h', e, g⟩ := size_enc (k + 8) t (by have := p.dep; omega) p.ok p.len (W := W) (d := 8) (h := h) (by have := p.dep; omega)
  refine ⟨h', ?_, g⟩
  have hf : (steps t : Int) ≤ 12 := by have := p.few; omega
  rw [cf_eq d_is_procedure rfl rfl rfl]
  simp only [d_is_procedure, exSs, exS.eq_1, exS.eq_2, exS.eq_3, exS.eq_4, exS.eq_5, exS.eq_8, exS.eq_9, exS.eq_10, exS.eq_11, exS.eq_12, x_whil, x_forr, lpC_ap, lpB_ap, evE, evEs, evO, evS, evIt, evT, asT, bind_ok, st_ok, ofO_some, ofB_some, tr_non, tr_bl, tr_int, tr_tup, c_lt, c_le, c_gt, c_ge, c_eqi, c_nei, c_eqs, c_nes, c_eqb, c_neb, c_isb, c_isnb, c_isn_non, c_isnn_non, c_ins, b_addi, b_subi, i_addi, v_lent, v_lenf, v_inti, v_absi, s_tup0, s_tup1, y_tup, y_str, fin_ret, fin_next, List.map, List.replicate, List.length_cons, List.length_nil, List.getElem?_cons_zero, List.getElem?_cons_succ, List.cons_append, List.nil_append, List.append_nil, List.set_cons_zero, List.set_cons_succ, Bool.not_true, Bool.not_false, wip, setTg, setAll, if_true, if_false, reduceIte, Bool.false_eq_true, tup_bs, lst_bs, Option.map_some, Bool.and_true, Bool.true_and, Bool.and_false, Bool.false_and, Bool.or_true, Bool.true_or, Bool.or_false, Bool.false_or, List.cons_beq_cons, nb_cons, cb_nil, Nat.reduceBEq, beq_self_eq_true, Int.reduceBEq, and_self, and_true, true_and, e, hf, decide_true]
theorem check_proc {t : Tr} (p : Pr t) : ∃ h', callF D W (k + 11) 7 [enc t] h = .ok .non h' ∧ Gr h h' := by
  obtain ⟨h', e, g⟩ := is_proc p (W := W) (k := k) (h := h)
  refine ⟨h', ?_, g⟩
  rw [cf_eq d_check_procedure rfl rfl rfl]
  simp only [d_check_procedure, exSs, exS.eq_1, exS.eq_2, exS.eq_3, exS.eq_4, exS.eq_5, exS.eq_8, exS.eq_9, exS.eq_10, exS.eq_11, exS.eq_12, x_whil, x_forr, lpC_ap, lpB_ap, evE, evEs, evO, evS, evIt, evT, asT, bind_ok, st_ok, ofO_some, ofB_some, tr_non, tr_bl, tr_int, tr_tup, c_lt, c_le, c_gt, c_ge, c_eqi, c_nei, c_eqs, c_nes, c_eqb, c_neb, c_isb, c_isnb, c_isn_non, c_isnn_non, c_ins, b_addi, b_subi, i_addi, v_lent, v_lenf, v_inti, v_absi, s_tup0, s_tup1, y_tup, y_str, fin_ret, fin_next, List.map, List.replicate, List.length_cons, List.length_nil, List.getElem?_cons_zero, List.getElem?_cons_succ, List.cons_append, List.nil_append, List.append_nil, List.set_cons_zero, List.set_cons_succ, Bool.not_true, Bool.not_false, wip, setTg, setAll, if_true, if_false, reduceIte, Bool.false_eq_true, tup_bs, lst_bs, Option.map_some, Bool.and_true, Bool.true_and, Bool.and_false, Bool.false_and, Bool.or_true, Bool.true_or, Bool.or_false, Bool.false_or, List.cons_beq_cons, nb_cons, cb_nil, Nat.reduceBEq, beq_self_eq_true, Int.reduceBEq, and_self, and_true, true_and, e]
theorem proc_text {t : Tr} (p : Pr t) : ∃ h', callF D W (k + 12) 9 [enc t] h = .ok (.str (ptx t)) h' ∧ Gr h h' := by
  obtain ⟨h', e, g⟩ := check_proc p (W := W) (k := k) (h := h)
  refine ⟨h', ?_, g⟩
  have e2 := told_enc (k + 11) t (by have := p.dep; omega) p.len (W := W) (h := h')
  rw [cf_eq d_procedure_text rfl rfl rfl]
  simp only [d_procedure_text, exSs, exS.eq_1, exS.eq_2, exS.eq_3, exS.eq_4, exS.eq_5, exS.eq_8, exS.eq_9, exS.eq_10, exS.eq_11, exS.eq_12, x_whil, x_forr, lpC_ap, lpB_ap, evE, evEs, evO, evS, evIt, evT, asT, bind_ok, st_ok, ofO_some, ofB_some, tr_non, tr_bl, tr_int, tr_tup, c_lt, c_le, c_gt, c_ge, c_eqi, c_nei, c_eqs, c_nes, c_eqb, c_neb, c_isb, c_isnb, c_isn_non, c_isnn_non, c_ins, b_addi, b_subi, i_addi, v_lent, v_lenf, v_inti, v_absi, s_tup0, s_tup1, y_tup, y_str, fin_ret, fin_next, List.map, List.replicate, List.length_cons, List.length_nil, List.getElem?_cons_zero, List.getElem?_cons_succ, List.cons_append, List.nil_append, List.append_nil, List.set_cons_zero, List.set_cons_succ, Bool.not_true, Bool.not_false, wip, setTg, setAll, if_true, if_false, reduceIte, Bool.false_eq_true, tup_bs, lst_bs, Option.map_some, Bool.and_true, Bool.true_and, Bool.and_false, Bool.false_and, Bool.or_true, Bool.true_or, Bool.or_false, Bool.false_or, List.cons_beq_cons, nb_cons, cb_nil, Nat.reduceBEq, beq_self_eq_true, Int.reduceBEq, and_self, and_true, true_and, e, e2]
end K76
namespace K76
open MP
variable {W k : Nat} {h h' h'' : IH}
/-- the reader as it stands -/
def RS (h : IH) (r : Nat) (l : List Nat) (p many : Nat) : Prop := h[r]? = some (.ins 4 [(1, .str l), (2, .int (p : Nat)), (3, .int (many : Nat))])
/-- the other objects stay -/
structure Kp (r : Nat) (h h' : IH) : Prop where
  at_ : ∀ n o, n ≠ r → h[n]? = some o → h'[n]? = some o
  len : h.length ≤ h'.length
theorem Kp.refl (r : Nat) (h : IH) : Kp r h h := ⟨fun _ _ _ e => e, Nat.le_refl _⟩
theorem Kp.trans {r : Nat} (a : Kp r h h') (b : Kp r h' h'') : Kp r h h'' := ⟨fun n o hn e => b.at_ n o hn (a.at_ n o hn e), Nat.le_trans a.len b.len⟩
theorem Kp.set (r : Nat) (h : IH) (o : IO) : Kp r h (h.set r o) := ⟨fun n _ hn e => by rw [set_ne (Ne.symm hn)]; exact e, by simp⟩
theorem Kp.snoc (r : Nat) (h : IH) (o : IO) : Kp r h (h ++ [o]) := ⟨fun n _ hn e => (Gr.snoc h o).get e, by simp⟩
/-- a write at a place that is new -/
theorem Kp.setNew {r f : Nat} {o : IO} (a : Kp r h h') (hf : h.length ≤ f) : Kp r h (h'.set f o) := ⟨fun n o' hn e => by
  have : n < h.length := (List.getElem?_eq_some_iff.mp e).1
  rw [set_ne (by omega)]
  exact a.at_ n o' hn e, by simpa using a.len⟩
theorem cut_sign (l : List Nat) (p : Nat) (hp : p ≤ l.length) : cut l (some (p : Int)) (some ((p : Int) + 1)) = (l.drop p).take 1 := by
  have h1 : sIx l.length 0 (some (p : Int)) = p := by
    have : ¬ (p : Int) < 0 := by omega
    simp [sIx, this]
    omega
  have h2 : sIx l.length l.length (some ((p : Int) + 1)) = min (p + 1) l.length := by
    have : ¬ (p : Int) + 1 < 0 := by omega
    simp only [sIx, this, if_false]
    rfl
  unfold cut
  rw [h1, h2]
  by_cases hp2 : p < l.length
  · rw [show min (p + 1) l.length - p = 1 by omega]
  · have : l.drop p = [] := List.drop_eq_nil_of_le (by omega)
    rw [this]
    simp
theorem cut_name (l n rest : List Nat) (p : Nat) (hl : l.drop p = n ++ rest) (hp : p ≤ l.length) : cut l (some (p : Int)) (some ((p + n.length : Nat) : Int)) = n := by
  have hlen : l.length - p = n.length + rest.length := by rw [← List.length_drop, hl, List.length_append]
  have h1 : sIx l.length 0 (some (p : Int)) = p := by
    have : ¬ (p : Int) < 0 := by omega
    simp [sIx, this]
    omega
  have h2 : sIx l.length l.length (some ((p + n.length : Nat) : Int)) = p + n.length := by
    have : ¬ ((p + n.length : Nat) : Int) < 0 := by omega
    simp only [sIx, this, if_false]
    omega
  unfold cut
  rw [h1, h2, hl, show p + n.length - p = n.length by omega]
  simp
theorem slc_str (l : List Nat) (a b : Option Int) (hb : l.length ≤ big) : slcI (.str l) a b h = .ok (.str (cut l a b)) h := if_pos hb
theorem lookN_1 (v x y : IV) : lookN 1 [(1, v), (2, x), (3, y)] = some v := rfl
theorem lookN_2 (v x y : IV) : lookN 2 [(1, v), (2, x), (3, y)] = some x := rfl
theorem lookN_3 (v x y : IV) : lookN 3 [(1, v), (2, x), (3, y)] = some y := rfl
theorem putN_2 (v x y z : IV) : putN 2 z [(1, v), (2, x), (3, y)] = [(1, v), (2, z), (3, y)] := rfl
theorem putN_3 (v x y z : IV) : putN 3 z [(1, v), (2, x), (3, y)] = [(1, v), (2, x), (3, z)] := rfl
theorem l1000 : (0 + 1 + 1 + 1 < 1000) = True := by simp
theorem sign_at {r p many : Nat} {l : List Nat} (R : RS h r l p many) (hb : l.length ≤ big) (hp : p ≤ l.length) : callF D W (k + 1) 11 [.loc r] h = .ok (.str ((l.drop p).take 1)) h := by
  rw [cf_eq d_Reader_sign rfl rfl rfl]
  unfold RS at R
  simp only [d_Reader_sign, exSs, exS.eq_1, exS.eq_2, exS.eq_3, exS.eq_4, exS.eq_5, exS.eq_8, exS.eq_9, exS.eq_10, exS.eq_11, exS.eq_12, x_whil, x_forr, lpC_ap, lpB_ap, evE, evEs, evO, evS, evIt, evT, asT, bind_ok, st_ok, ofO_some, ofB_some, tr_non, tr_bl, tr_int, tr_tup, c_lt, c_le, c_gt, c_ge, c_eqi, c_nei, c_eqs, c_nes, c_eqb, c_neb, c_isb, c_isnb, c_isn_non, c_isnn_non, c_ins, b_addi, b_subi, i_addi, v_lent, v_lenf, v_inti, v_absi, s_tup0, s_tup1, y_tup, y_str, fin_ret, fin_next, List.map, List.replicate, List.length_cons, List.length_nil, List.getElem?_cons_zero, List.getElem?_cons_succ, List.cons_append, List.nil_append, List.append_nil, List.set_cons_zero, List.set_cons_succ, Bool.not_true, Bool.not_false, wip, setTg, setAll, if_true, if_false, reduceIte, Bool.false_eq_true, tup_bs, lst_bs, Option.map_some, Bool.and_true, Bool.true_and, Bool.and_false, Bool.false_and, Bool.or_true, Bool.true_or, Bool.or_false, Bool.false_or, List.cons_beq_cons, nb_cons, cb_nil, Nat.reduceBEq, beq_self_eq_true, Int.reduceBEq, and_self, and_true, true_and, R, lookN_1, lookN_2, slc_str _ _ _ hb, cut_sign _ _ hp]
abbrev nmC : Ex := (.and (.cmp .lt (.bin .sub (.att (.var 0) 2) (.var 1)) (.con (.int 8))) (.and (.cmp .ne (.meth 4 0 11 (.var 0) .nil) (.con (.str []))) (.cmp .isIn (.meth 4 0 11 (.var 0) .nil) (.glo "LETTERS" (.str [97, 98, 99, 100, 101, 102, 103, 104, 105, 106, 107, 108, 109, 110, 111, 112, 113, 114, 115, 116, 117, 118, 119, 120, 121, 122])))))
abbrev nmB : Sts := (.cons (.auga (.var 0) 2 .add (.con (.int 1))) .nil)
/-- what stands behind a name is no letter -/
def Stop (rest : List Nat) : Prop := ∀ c r, rest = c :: r → isLet c = false
theorem take1_cons (c : Nat) (r : List Nat) : (c :: r).take 1 = [c] := rfl
theorem ne_nil (c : Nat) : ([c] == ([] : List Nat)) = false := rfl
theorem nil_nil : (([] : List Nat) == []) = true := rfl
theorem name_loop {r many p : Nat} {l rest : List Nat} (hb : l.length ≤ big) : ∀ (ms : List Nat) (j F : Nat) (h : IH), RS h r l (p + j) many → l.drop (p + j) = ms ++ rest → ms.all isLet = true → j + ms.length ≤ 8 → (Stop rest ∨ j + ms.length = 8) → p + j + ms.length ≤ l.length → ms.length < F →
    ∃ h', whlL (lpC (callF D W (k + 1)) nmC) (lpB (callF D W (k + 1)) W nmB) F [some (.loc r), some (.int (p : Nat))] h = .ok (.next, [some (.loc r), some (.int (p : Nat))]) h' ∧ RS h' r l (p + j + ms.length) many ∧ Kp r h h'
  | [], j, F + 1, h, R, hd, ha, h8, hs, hp, hF => by
    refine ⟨h, ?_, by simpa using R, Kp.refl r h⟩
    have sg := sign_at (W := W) (k := k) R hb (by omega)
    rw [hd] at sg
    unfold RS at R
    by_cases hj : j = 8
    · have : ((((p + j : Nat) : Int) - (p : Nat)) < 8) = False := by simp; omega
      simp only [whlL, exSs, exS.eq_1, exS.eq_2, exS.eq_3, exS.eq_4, exS.eq_5, exS.eq_8, exS.eq_9, exS.eq_10, exS.eq_11, exS.eq_12, x_whil, x_forr, lpC_ap, lpB_ap, evE, evEs, evO, evS, evIt, evT, asT, bind_ok, st_ok, ofO_some, ofB_some, tr_non, tr_bl, tr_int, tr_tup, c_lt, c_le, c_gt, c_ge, c_eqi, c_nei, c_eqs, c_nes, c_eqb, c_neb, c_isb, c_isnb, c_isn_non, c_isnn_non, c_ins, b_addi, b_subi, i_addi, v_lent, v_lenf, v_inti, v_absi, s_tup0, s_tup1, y_tup, y_str, fin_ret, fin_next, List.map, List.replicate, List.length_cons, List.length_nil, List.getElem?_cons_zero, List.getElem?_cons_succ, List.cons_append, List.nil_append, List.append_nil, List.set_cons_zero, List.set_cons_succ, Bool.not_true, Bool.not_false, wip, setTg, setAll, if_true, if_false, reduceIte, Bool.false_eq_true, tup_bs, lst_bs, Option.map_some, Bool.and_true, Bool.true_and, Bool.and_false, Bool.false_and, Bool.or_true, Bool.true_or, Bool.or_false, Bool.false_or, List.cons_beq_cons, nb_cons, cb_nil, Nat.reduceBEq, beq_self_eq_true, Int.reduceBEq, and_self, and_true, true_and, R, lookN_2, this, decide_false]
    · have hlt : ((((p + j : Nat) : Int) - (p : Nat)) < 8) = True := by simp at h8 ⊢; omega
      have hs : Stop rest := hs.resolve_right (by simpa using hj)
      cases rest with
      | nil => 
        simp only [List.nil_append, List.take_nil] at sg
        simp only [whlL, exSs, exS.eq_1, exS.eq_2, exS.eq_3, exS.eq_4, exS.eq_5, exS.eq_8, exS.eq_9, exS.eq_10, exS.eq_11, exS.eq_12, x_whil, x_forr, lpC_ap, lpB_ap, evE, evEs, evO, evS, evIt, evT, asT, bind_ok, st_ok, ofO_some, ofB_some, tr_non, tr_bl, tr_int, tr_tup, c_lt, c_le, c_gt, c_ge, c_eqi, c_nei, c_eqs, c_nes, c_eqb, c_neb, c_isb, c_isnb, c_isn_non, c_isnn_non, c_ins, b_addi, b_subi, i_addi, v_lent, v_lenf, v_inti, v_absi, s_tup0, s_tup1, y_tup, y_str, fin_ret, fin_next, List.map, List.replicate, List.length_cons, List.length_nil, List.getElem?_cons_zero, List.getElem?_cons_succ, List.cons_append, List.nil_append, List.append_nil, List.set_cons_zero, List.set_cons_succ, Bool.not_true, Bool.not_false, wip, setTg, setAll, if_true, if_false, reduceIte, Bool.false_eq_true, tup_bs, lst_bs, Option.map_some, Bool.and_true, Bool.true_and, Bool.and_false, Bool.false_and, Bool.or_true, Bool.true_or, Bool.or_false, Bool.false_or, List.cons_beq_cons, nb_cons, cb_nil, Nat.reduceBEq, beq_self_eq_true, Int.reduceBEq, and_self, and_true, true_and, R, lookN_2, hlt, decide_true, sg, nil_nil]
      | cons c rest =>
        simp only [List.nil_append, take1_cons] at sg
        have hc := hs c rest rfl
        simp only [whlL, exSs, exS.eq_1, exS.eq_2, exS.eq_3, exS.eq_4, exS.eq_5, exS.eq_8, exS.eq_9, exS.eq_10, exS.eq_11, exS.eq_12, x_whil, x_forr, lpC_ap, lpB_ap, evE, evEs, evO, evS, evIt, evT, asT, bind_ok, st_ok, ofO_some, ofB_some, tr_non, tr_bl, tr_int, tr_tup, c_lt, c_le, c_gt, c_ge, c_eqi, c_nei, c_eqs, c_nes, c_eqb, c_neb, c_isb, c_isnb, c_isn_non, c_isnn_non, c_ins, b_addi, b_subi, i_addi, v_lent, v_lenf, v_inti, v_absi, s_tup0, s_tup1, y_tup, y_str, fin_ret, fin_next, List.map, List.replicate, List.length_cons, List.length_nil, List.getElem?_cons_zero, List.getElem?_cons_succ, List.cons_append, List.nil_append, List.append_nil, List.set_cons_zero, List.set_cons_succ, Bool.not_true, Bool.not_false, wip, setTg, setAll, if_true, if_false, reduceIte, Bool.false_eq_true, tup_bs, lst_bs, Option.map_some, Bool.and_true, Bool.true_and, Bool.and_false, Bool.false_and, Bool.or_true, Bool.true_or, Bool.or_false, Bool.false_or, List.cons_beq_cons, nb_cons, cb_nil, Nat.reduceBEq, beq_self_eq_true, Int.reduceBEq, and_self, and_true, true_and, R, lookN_2, hlt, decide_true, sg, ne_nil, mem_letters, hc]
  | m :: ms, j, F + 1, h, R, hd, ha, h8, hs, hp, hF => by
    have sg := sign_at (W := W) (k := k) R hb (by simp at hp; omega)
    rw [hd, List.cons_append, take1_cons] at sg
    have hlt : ((((p + j : Nat) : Int) - (p : Nat)) < 8) = True := by simp at h8 ⊢; omega
    rw [List.all_cons, Bool.and_eq_true] at ha
    have R' := R
    unfold RS at R
    have R2 : RS (h.set r (.ins 4 [(1, .str l), (2, .int (((p + j : Nat) : Int) + 1)), (3, .int (many : Nat))])) r l (p + (j + 1)) many := by
      unfold RS
      rw [set_get R]
      congr 5
    obtain ⟨h2, e2, q2, k2⟩ := name_loop hb ms (j + 1) F _ R2 (by
      rw [← Nat.add_assoc, ← List.drop_drop, hd]
      rfl) ha.2 (by simp at h8; omega) (by
      rcases hs with hs | hs
      · exact .inl hs
      · exact .inr (by simp at hs; omega)) (by simp at hp; omega) (by simp at hF; omega)
    refine ⟨h2, ?_, ?_, (Kp.set r h _).trans k2⟩
    · rw [whlL]
      simp only [exSs, exS.eq_1, exS.eq_2, exS.eq_3, exS.eq_4, exS.eq_5, exS.eq_8, exS.eq_9, exS.eq_10, exS.eq_11, exS.eq_12, x_whil, x_forr, lpC_ap, lpB_ap, evE, evEs, evO, evS, evIt, evT, asT, bind_ok, st_ok, ofO_some, ofB_some, tr_non, tr_bl, tr_int, tr_tup, c_lt, c_le, c_gt, c_ge, c_eqi, c_nei, c_eqs, c_nes, c_eqb, c_neb, c_isb, c_isnb, c_isn_non, c_isnn_non, c_ins, b_addi, b_subi, i_addi, v_lent, v_lenf, v_inti, v_absi, s_tup0, s_tup1, y_tup, y_str, fin_ret, fin_next, List.map, List.replicate, List.length_cons, List.length_nil, List.getElem?_cons_zero, List.getElem?_cons_succ, List.cons_append, List.nil_append, List.append_nil, List.set_cons_zero, List.set_cons_succ, Bool.not_true, Bool.not_false, wip, setTg, setAll, if_true, if_false, reduceIte, Bool.false_eq_true, tup_bs, lst_bs, Option.map_some, Bool.and_true, Bool.true_and, Bool.and_false, Bool.false_and, Bool.or_true, Bool.true_or, Bool.or_false, Bool.false_or, List.cons_beq_cons, nb_cons, cb_nil, Nat.reduceBEq, beq_self_eq_true, Int.reduceBEq, and_self, and_true, true_and, R, lookN_2, hlt, decide_true, sg, ne_nil, mem_letters, ha.1, putN_2, l1000]
      exact e2
    · have : p + (j + 1) + ms.length = p + j + (m :: ms).length := by simp; omega
      rw [← this]
      exact q2
theorem okName_len {n : List Nat} (h : okName n = true) : 1 ≤ n.length ∧ n.length ≤ 8 ∧ n.all isLet = true := by
  unfold okName at h
  simp only [Bool.and_eq_true, decide_eq_true_eq] at h
  exact ⟨h.1, h.2.1, h.2.2⟩
theorem name_at {r many p : Nat} {l n rest : List Nat} {h : IH} (hb : l.length ≤ big) (R : RS h r l p many) (hd : l.drop p = n ++ rest) (hn : okName n = true) (hs : Stop rest) (hp : p + n.length ≤ l.length) (hW : 10 ≤ W) :
    ∃ h', callF D W (k + 2) 13 [.loc r] h = .ok (enc (.act n)) h' ∧ RS h' r l (p + n.length) (many + 1) ∧ Kp r h h' := by
  obtain ⟨n1, n2, n3⟩ := okName_len hn
  obtain ⟨h1, e1, q1, k1⟩ := name_loop (W := W) (k := k) hb n 0 W h R hd n3 (by omega) (.inl hs) (by omega) (by omega)
  rw [Nat.add_zero] at q1
  have R1 := q1
  unfold RS at R q1
  refine ⟨h1.set r (.ins 4 [(1, .str l), (2, .int ((p + n.length : Nat))), (3, .int ((many : Nat) + 1))]), ?_, ?_, k1.trans (Kp.set ..)⟩
  · rw [cf_eq d_Reader_name rfl rfl rfl]
    simp only [d_Reader_name, exSs, exS.eq_1, exS.eq_2, exS.eq_3, exS.eq_4, exS.eq_5, exS.eq_8, exS.eq_9, exS.eq_10, exS.eq_11, exS.eq_12, x_whil, x_forr, lpC_ap, lpB_ap, evE, evEs, evO, evS, evIt, evT, asT, bind_ok, st_ok, ofO_some, ofB_some, tr_non, tr_bl, tr_int, tr_tup, c_lt, c_le, c_gt, c_ge, c_eqi, c_nei, c_eqs, c_nes, c_eqb, c_neb, c_isb, c_isnb, c_isn_non, c_isnn_non, c_ins, b_addi, b_subi, i_addi, v_lent, v_lenf, v_inti, v_absi, s_tup0, s_tup1, y_tup, y_str, fin_ret, fin_next, List.map, List.replicate, List.length_cons, List.length_nil, List.getElem?_cons_zero, List.getElem?_cons_succ, List.cons_append, List.nil_append, List.append_nil, List.set_cons_zero, List.set_cons_succ, Bool.not_true, Bool.not_false, wip, setTg, setAll, if_true, if_false, reduceIte, Bool.false_eq_true, tup_bs, lst_bs, Option.map_some, Bool.and_true, Bool.true_and, Bool.and_false, Bool.false_and, Bool.or_true, Bool.true_or, Bool.or_false, Bool.false_or, List.cons_beq_cons, nb_cons, cb_nil, Nat.reduceBEq, beq_self_eq_true, Int.reduceBEq, and_self, and_true, true_and, R, lookN_2]
    rw [show whlL _ _ W _ h = _ from e1]
    simp only [exSs, exS.eq_1, exS.eq_2, exS.eq_3, exS.eq_4, exS.eq_5, exS.eq_8, exS.eq_9, exS.eq_10, exS.eq_11, exS.eq_12, x_whil, x_forr, lpC_ap, lpB_ap, evE, evEs, evO, evS, evIt, evT, asT, bind_ok, st_ok, ofO_some, ofB_some, tr_non, tr_bl, tr_int, tr_tup, c_lt, c_le, c_gt, c_ge, c_eqi, c_nei, c_eqs, c_nes, c_eqb, c_neb, c_isb, c_isnb, c_isn_non, c_isnn_non, c_ins, b_addi, b_subi, i_addi, v_lent, v_lenf, v_inti, v_absi, s_tup0, s_tup1, y_tup, y_str, fin_ret, fin_next, List.map, List.replicate, List.length_cons, List.length_nil, List.getElem?_cons_zero, List.getElem?_cons_succ, List.cons_append, List.nil_append, List.append_nil, List.set_cons_zero, List.set_cons_succ, Bool.not_true, Bool.not_false, wip, setTg, setAll, if_true, if_false, reduceIte, Bool.false_eq_true, tup_bs, lst_bs, Option.map_some, Bool.and_true, Bool.true_and, Bool.and_false, Bool.false_and, Bool.or_true, Bool.true_or, Bool.or_false, Bool.false_or, List.cons_beq_cons, nb_cons, cb_nil, Nat.reduceBEq, beq_self_eq_true, Int.reduceBEq, and_self, and_true, true_and, q1, lookN_3, putN_3, l1000, set_get q1, lookN_1, lookN_2, slc_str _ _ _ hb, cut_name l n rest p hd (by omega), enc, lb2]
  · unfold RS
    rw [set_get q1]
    rfl
/-- the parts behind the first one -/
def tail : Trs → List Nat
  | .nil => []
  | .cons t ts => 32 :: ptx t ++ tail ts
theorem join_tail : ∀ (t : Tr) (ts : Trs), joinL [32] (ptxs (.cons t ts)) = ptx t ++ tail ts
  | t, .nil => by simp [ptxs, joinL, tail]
  | t, .cons u us => by
    have ih := join_tail u us
    simp only [ptxs, joinL, tail] at ih ⊢
    rw [ih]
    simp
def Trs.app : Trs → Tr → Trs
  | .nil, u => .cons u .nil
  | .cons t ts, u => .cons t (ts.app u)
theorem encs_app : ∀ (ts : Trs) (u : Tr), encs (ts.app u) = encs ts ++ [enc u]
  | .nil, u => rfl
  | .cons t ts, u => by simp [Trs.app, encs, encs_app ts u]
/-- two rows of parts, one behind the other -/
def Trs.cat : Trs → Trs → Trs
  | .nil, us => us
  | .cons t ts, us => .cons t (ts.cat us)
theorem cat_nil : ∀ ts : Trs, ts.cat .nil = ts
  | .nil => rfl
  | .cons t ts => by simp [Trs.cat, cat_nil ts]
theorem app_cat : ∀ (ts : Trs) (u : Tr) (us : Trs), (ts.app u).cat us = ts.cat (.cons u us)
  | .nil, u, us => rfl
  | .cons t ts, u, us => by simp [Trs.app, Trs.cat, app_cat ts u us]
theorem cat_len : ∀ (ts us : Trs), (ts.cat us).len = ts.len + us.len
  | .nil, us => by simp [Trs.cat, Trs.len]
  | .cons t ts, us => by simp [Trs.cat, Trs.len, cat_len ts us]; omega
abbrev ptC : Ex := .con (.bl true)
abbrev ptB : Sts := (.cons (.asg (.nm 4) (.meth 4 0 11 (.var 0) .nil))
    (.cons (.cond (.and (.cmp .eq (.var 4) (.kdx "CLOSES" [([114, 111, 119], (.str [41])), ([112, 105, 99, 107], (.str [93])), ([115, 105, 100, 101, 115], (.str [125]))] (.var 1))) (.cmp .gt (.bv .len (.var 3)) (.con (.int 1))))
    (.cons (.auga (.var 0) 2 .add (.con (.int 1)))
    (.cons (.ret (.tup (.cons (.var 1) (.cons (.bs .tuple (.ex (.var 3))) .nil))))
    .nil))
    .nil)
    (.cons (.cond (.or (.cmp .ne (.var 4) (.con (.str [32]))) (.cmp .eq (.bv .len (.var 3)) (.glo "MOST_PARTS_texts" (.int 6))))
    (.cons (.raise 1 (.cons (.att (.var 0) 2) .nil))
    .nil)
    .nil)
    (.cons (.auga (.var 0) 2 .add (.con (.int 1)))
    (.cons (.expr (.app (.var 3) (.meth 4 0 12 (.var 0) (.cons (.var 2) .nil))))
    .nil)))))
/-- what part promises -/
def PartOk (W L : Nat) (t : Tr) : Prop := ∀ (l rest : List Nat) (p many r d : Nat) (h : IH), l.length ≤ big → RS h r l p many → l.drop p = ptx t ++ rest → Stop rest → p + (ptx t).length ≤ l.length → many + steps t ≤ 12 → d + dep t ≤ 9 →
    ∃ h', callF D W L 12 [.loc r, .int (d : Nat)] h = .ok (enc t) h' ∧ RS h' r l (p + (ptx t).length) (many + steps t) ∧ Kp r h h'
theorem cl_let (kd : Kd) : isLet (cl kd) = false := by cases kd <;> rfl
theorem cl_sp (kd : Kd) : (32 == cl kd) = false := by cases kd <;> rfl
theorem cl_cl (kd : Kd) : ([cl kd] == [cl kd]) = true := by cases kd <;> rfl
theorem stop_tail (ts : Trs) (kd : Kd) (rest : List Nat) : Stop (tail ts ++ cl kd :: rest) := by
  intro c r e
  cases ts with
  | nil =>
    simp only [tail, List.nil_append, List.cons.injEq] at e
    rw [← e.1]
    exact cl_let kd
  | cons t ts =>
    simp only [tail, List.cons_append, List.cons.injEq] at e
    rw [← e.1]
    rfl
theorem len_cast (n : Nat) : ((n : Int) == 6) = decide (n = 6) := by
  by_cases h : n = 6
  · subst h; rfl
  · rw [decide_eq_false h]
    simp
    omega
theorem parts_loop {l : List Nat} {r d f L n : Nat} {kd : Kd} {rest : List Nat} (hb : l.length ≤ big) (hrf : r ≠ f) (hd9 : ∀ t, dep t ≤ n → okT t = true → PartOk W (L + 1) t) :
    ∀ (ts2 ts1 : Trs) (F p many : Nat) (h : IH) (s4 : Option IV), RS h r l p many → h[f]? = some (.lst (encs ts1)) → 1 ≤ ts1.len → 2 ≤ ts1.len + ts2.len → ts1.len + ts2.len ≤ 6 → l.drop p = tail ts2 ++ cl kd :: rest → p + (tail ts2).length + 1 ≤ l.length → okTs ts2 = true → many + stepss ts2 ≤ 12 → d + deps ts2 ≤ 9 → deps ts2 ≤ n → ts2.len < F →
      ∃ h' σ', whlL (lpC (callF D W (L + 1)) ptC) (lpB (callF D W (L + 1)) W ptB) F [some (.loc r), some (.str (kw kd)), some (.int (d : Nat)), some (.loc f), s4] h = .ok (.ret (.tup [.str (kw kd), .tup (encs (ts1.cat ts2))]), σ') h' ∧
        RS h' r l (p + (tail ts2).length + 1) (many + stepss ts2) ∧ (∀ n o, n ≠ r → n ≠ f → h[n]? = some o → h'[n]? = some o) ∧ h.length ≤ h'.length
  | .nil, ts1, F + 1, p, many, h, s4, R, hf, h1, h2, h6, hd, hp, ho, hm, hdd, hdn, hF => by
    have sg := sign_at (W := W) (k := L) R hb (by omega)
    rw [hd] at sg
    simp only [tail, List.nil_append, take1_cons] at sg
    have R0 := R
    unfold RS at R
    have hlen : ((1 : Int) < ((encs ts1).length : Int)) = True := by
      rw [encs_len]
      simp only [Trs.len] at h2
      simp
      omega
    refine ⟨h.set r (.ins 4 [(1, .str l), (2, .int ((p : Nat) + 1)), (3, .int (many : Nat))]), [some (.loc r), some (.str (kw kd)), some (.int (d : Nat)), some (.loc f), some (.str [cl kd])], ?_, ?_, fun n o hn _ e => by rw [set_ne (Ne.symm hn)]; exact e, by simp⟩
    · rw [whlL]
      have hfa : (h.set r (.ins 4 [(1, .str l), (2, .int ((p : Nat) + 1)), (3, .int (many : Nat))]))[f]? = some (.lst (encs ts1)) := by rw [set_ne hrf]; exact hf
      simp only [exSs, exS.eq_1, exS.eq_2, exS.eq_3, exS.eq_4, exS.eq_5, exS.eq_8, exS.eq_9, exS.eq_10, exS.eq_11, exS.eq_12, x_whil, x_forr, lpC_ap, lpB_ap, evE, evEs, evO, evS, evIt, evT, asT, bind_ok, st_ok, ofO_some, ofB_some, tr_non, tr_bl, tr_int, tr_tup, c_lt, c_le, c_gt, c_ge, c_eqi, c_nei, c_eqs, c_nes, c_eqb, c_neb, c_isb, c_isnb, c_isn_non, c_isnn_non, c_ins, b_addi, b_subi, i_addi, v_lent, v_lenf, v_inti, v_absi, s_tup0, s_tup1, y_tup, y_str, fin_ret, fin_next, List.map, List.replicate, List.length_cons, List.length_nil, List.getElem?_cons_zero, List.getElem?_cons_succ, List.cons_append, List.nil_append, List.append_nil, List.set_cons_zero, List.set_cons_succ, Bool.not_true, Bool.not_false, wip, setTg, setAll, if_true, if_false, reduceIte, Bool.false_eq_true, tup_bs, lst_bs, Option.map_some, Bool.and_true, Bool.true_and, Bool.and_false, Bool.false_and, Bool.or_true, Bool.true_or, Bool.or_false, Bool.false_or, List.cons_beq_cons, nb_cons, cb_nil, Nat.reduceBEq, beq_self_eq_true, Int.reduceBEq, and_self, and_true, true_and, R, sg, lk_cl, cl_cl, v_lenl _ _ hf, hlen, decide_true, lookN_2, putN_2, l1000, li_loc hfa, lb2, cat_nil]
    · unfold RS
      rw [set_get R]
      simp [tail, stepss]
  | .cons t ts, ts1, F + 1, p, many, h, s4, R, hf, h1, h2, h6, hd, hp, ho, hm, hdd, hdn, hF => by
    have sg := sign_at (W := W) (k := L) R hb (by omega)
    rw [hd] at sg
    simp only [tail, List.cons_append, take1_cons] at sg
    simp only [Trs.len, okTs, Bool.and_eq_true, stepss, deps, tail, List.length_cons, List.length_append, List.cons_append] at h2 h6 ho hm hdd hdn hF hp hd
    have R0 := R
    unfold RS at R
    have h6' : (((encs ts1).length : Int) == 6) = false := by
      rw [encs_len, len_cast]
      exact decide_eq_false (by omega)
    let ha : IH := h.set r (.ins 4 [(1, .str l), (2, .int ((p : Nat) + 1)), (3, .int (many : Nat))])
    have Ra : RS ha r l (p + 1) many := by
      show (h.set r _)[r]? = _
      rw [set_get R]
      rfl
    have hda : l.drop (p + 1) = ptx t ++ (tail ts ++ cl kd :: rest) := by
      rw [← List.drop_drop, hd]
      simp
    obtain ⟨hb2, e2, R2, k2⟩ := hd9 t (by omega) ho.1 l _ (p + 1) many r d ha hb Ra hda (stop_tail ts kd rest) (by omega) (by omega) (by omega)
    have hfa : ha[f]? = some (.lst (encs ts1)) := by
      show (h.set r _)[f]? = _
      rw [set_ne hrf]
      exact hf
    have hfb := k2.at_ f _ (Ne.symm hrf) hfa
    let hc : IH := hb2.set f (.lst (encs (ts1.app t)))
    have Rc : RS hc r l (p + 1 + (ptx t).length) (many + steps t) := by
      show (hb2.set f _)[r]? = _
      rw [set_ne (Ne.symm hrf)]
      exact R2
    have hfc : hc[f]? = some (.lst (encs (ts1.app t))) := set_get hfb
    have happ : (ts1.app t).len = ts1.len + 1 := by
      have := congrArg List.length (encs_app ts1 t)
      rw [encs_len, List.length_append, encs_len] at this
      exact this
    have hdc : l.drop (p + 1 + (ptx t).length) = tail ts ++ cl kd :: rest := by
      rw [← List.drop_drop, hda]
      simp
    obtain ⟨h', σ', e3, R3, o3, g3⟩ := parts_loop (d := d) hb hrf hd9 ts (ts1.app t) F (p + 1 + (ptx t).length) (many + steps t) hc (some (.str [32])) Rc hfc (by omega) (by omega) (by omega) hdc (by omega) ho.2 (by omega) (by omega) (by omega) (by omega)
    refine ⟨h', σ', ?_, ?_, fun n o hn hn2 e => o3 n o hn hn2 ?_, ?_⟩
    · rw [whlL]
      have hapI : appI (.loc f) (enc t) hb2 = .ok .non hc := by
        have : ts1.len < big := by
          have := small_big (n := 6) (by omega)
          unfold big at this ⊢
          omega
        simp only [appI, hfb, encs_len, this, if_true, ← encs_app]
        rfl
      have e2' : callF D W (L + 1) 12 [.loc r, .int (d : Nat)] (h.set r (.ins 4 [(1, .str l), (2, .int ((p : Nat) + 1)), (3, .int (many : Nat))])) = .ok (enc t) hb2 := e2
      have Ra' : (h.set r (.ins 4 [(1, .str l), (2, .int ((p : Nat) + 1)), (3, .int (many : Nat))]))[r]? = some (.ins 4 [(1, .str l), (2, .int ((p : Nat) + 1)), (3, .int (many : Nat))]) := set_get R
      have hfa' : (h.set r (.ins 4 [(1, .str l), (2, .int ((p : Nat) + 1)), (3, .int (many : Nat))]))[f]? = some (.lst (encs ts1)) := hfa
      simp only [exSs, exS.eq_1, exS.eq_2, exS.eq_3, exS.eq_4, exS.eq_5, exS.eq_8, exS.eq_9, exS.eq_10, exS.eq_11, exS.eq_12, x_whil, x_forr, lpC_ap, lpB_ap, evE, evEs, evO, evS, evIt, evT, asT, bind_ok, st_ok, ofO_some, ofB_some, tr_non, tr_bl, tr_int, tr_tup, c_lt, c_le, c_gt, c_ge, c_eqi, c_nei, c_eqs, c_nes, c_eqb, c_neb, c_isb, c_isnb, c_isn_non, c_isnn_non, c_ins, b_addi, b_subi, i_addi, v_lent, v_lenf, v_inti, v_absi, s_tup0, s_tup1, y_tup, y_str, fin_ret, fin_next, List.map, List.replicate, List.length_cons, List.length_nil, List.getElem?_cons_zero, List.getElem?_cons_succ, List.cons_append, List.nil_append, List.append_nil, List.set_cons_zero, List.set_cons_succ, Bool.not_true, Bool.not_false, wip, setTg, setAll, if_true, if_false, reduceIte, Bool.false_eq_true, tup_bs, lst_bs, Option.map_some, Bool.and_true, Bool.true_and, Bool.and_false, Bool.false_and, Bool.or_true, Bool.true_or, Bool.or_false, Bool.false_or, List.cons_beq_cons, nb_cons, cb_nil, Nat.reduceBEq, beq_self_eq_true, Int.reduceBEq, and_self, and_true, true_and, R, sg, lk_cl, cl_sp, v_lenl _ _ hf, h6', lookN_2, putN_2, l1000, Ra', li_loc hfa', e2', hapI]
      rw [← app_cat]
      exact e3
    · have a : p + 1 + (ptx t).length + (tail ts).length + 1 = p + ((ptx t).length + (tail ts).length + 1) + 1 := by omega
      have b : many + steps t + stepss ts = many + (steps t + stepss ts) := by omega
      simp only [tail, stepss, List.length_cons, List.length_append, List.cons_append]
      rw [← a, ← b]
      exact R3
    · show (hb2.set f _)[n]? = _
      rw [set_ne (Ne.symm hn2)]
      refine k2.at_ n o hn ?_
      show (h.set r _)[n]? = _
      rw [set_ne (Ne.symm hn)]
      exact e
    · refine Nat.le_trans ?_ g3
      show h.length ≤ (hb2.set f _).length
      rw [List.length_set]
      refine Nat.le_trans ?_ k2.len
      show h.length ≤ (h.set r _).length
      rw [List.length_set]
      exact Nat.le_refl _
theorem RS.lt {r : Nat} {l : List Nat} {p many : Nat} (R : RS h r l p many) : r < h.length := (List.getElem?_eq_some_iff.mp R).1
theorem parts_at {L n : Nat} (ih : ∀ t, dep t ≤ n → okT t = true → PartOk W (L + 1) t) {kd : Kd} {t : Tr} {ts : Trs} {l rest : List Nat} {p many r d : Nat} {h : IH} (hb : l.length ≤ big) (hW : 10 ≤ W) (R : RS h r l p many) (hd : l.drop p = ptx t ++ (tail ts ++ cl kd :: rest))
    (hp : p + (ptx t).length + (tail ts).length + 1 ≤ l.length) (ho : okT t = true ∧ okTs ts = true) (h2 : 1 ≤ ts.len) (h6 : ts.len ≤ 5) (hm : many + steps t + stepss ts ≤ 12) (hdd : d + dep t ≤ 9 ∧ d + deps ts ≤ 9) (hn : dep t ≤ n ∧ deps ts ≤ n) :
    ∃ h', callF D W (L + 2) 14 [.loc r, .str (kw kd), .int (d : Nat)] h = .ok (.tup [.str (kw kd), .tup (encs (.cons t ts))]) h' ∧ RS h' r l (p + (ptx t).length + (tail ts).length + 1) (many + steps t + stepss ts) ∧ Kp r h h' := by
  obtain ⟨h1, e1, R1, k1⟩ := ih t hn.1 ho.1 l _ p many r d h hb R hd (stop_tail ts kd rest) (by omega) (by omega) hdd.1
  have hr1 := R1.lt
  have R2 : RS (h1 ++ [.lst (encs (.cons t .nil))]) r l (p + (ptx t).length) (many + steps t) := (Gr.snoc h1 _).get R1
  obtain ⟨h3, σ3, e3, R3, o3, g3⟩ := parts_loop (W := W) (L := L) (n := n) (d := d) (r := r) (f := h1.length) (kd := kd) (rest := rest) hb (by omega) ih ts (.cons t .nil) W (p + (ptx t).length) (many + steps t) (h1 ++ [.lst (encs (.cons t .nil))]) none R2 (new_get ..) (by simp [Trs.len]) (by simp [Trs.len]; omega) (by simp [Trs.len]; omega) (by
    rw [← List.drop_drop, hd]
    simp) (by omega) ho.2 (by omega) hdd.2 hn.2 (by omega)
  refine ⟨h3, ?_, R3, ⟨fun n o hn e => o3 n o hn ?_ ((Gr.snoc h1 _).get (k1.at_ n o hn e)), ?_⟩⟩
  · rw [cf_eq d_Reader_parts rfl rfl rfl]
    have R0 := R
    unfold RS at R0
    have e3' : whlL (lpC (callF D W (L + 1)) ptC) (lpB (callF D W (L + 1)) W ptB) W [some (.loc r), some (.str (kw kd)), some (.int (d : Nat)), some (.loc h1.length), none] (h1 ++ [.lst [enc t]]) = _ := e3
    simp only [d_Reader_parts, exSs, exS.eq_1, exS.eq_2, exS.eq_3, exS.eq_4, exS.eq_5, exS.eq_8, exS.eq_9, exS.eq_10, exS.eq_11, exS.eq_12, x_whil, x_forr, lpC_ap, lpB_ap, evE, evEs, evO, evS, evIt, evT, asT, bind_ok, st_ok, ofO_some, ofB_some, tr_non, tr_bl, tr_int, tr_tup, c_lt, c_le, c_gt, c_ge, c_eqi, c_nei, c_eqs, c_nes, c_eqb, c_neb, c_isb, c_isnb, c_isn_non, c_isnn_non, c_ins, b_addi, b_subi, i_addi, v_lent, v_lenf, v_inti, v_absi, s_tup0, s_tup1, y_tup, y_str, fin_ret, fin_next, List.map, List.replicate, List.length_cons, List.length_nil, List.getElem?_cons_zero, List.getElem?_cons_succ, List.cons_append, List.nil_append, List.append_nil, List.set_cons_zero, List.set_cons_succ, Bool.not_true, Bool.not_false, wip, setTg, setAll, if_true, if_false, reduceIte, Bool.false_eq_true, tup_bs, lst_bs, Option.map_some, Bool.and_true, Bool.true_and, Bool.and_false, Bool.false_and, Bool.or_true, Bool.true_or, Bool.or_false, Bool.false_or, List.cons_beq_cons, nb_cons, cb_nil, Nat.reduceBEq, beq_self_eq_true, Int.reduceBEq, and_self, and_true, true_and, R0, e1, lb1, e3']
    rfl
  · have : n < h.length := (List.getElem?_eq_some_iff.mp e).1
    have := k1.len
    omega
  · have := k1.len
    simp only [List.length_append, List.length_cons, List.length_nil] at g3
    omega
theorem c_nin4 (kd : Kd) : cmpI .notIn (.str [op kd]) (.tup [.str [42], .str [40], .str [91], .str [123]]) h = .ok (.bl false) h := by cases kd <;> rfl
theorem c_nin4s : cmpI .notIn (.str [42]) (.tup [.str [42], .str [40], .str [91], .str [123]]) h = .ok (.bl false) h := rfl
theorem lk_opens (kd : Kd) : lookK [op kd] [([40], .str [114, 111, 119]), ([91], .str [112, 105, 99, 107]), ([123], .str [115, 105, 100, 101, 115])] = some (.str (kw kd)) := by cases kd <;> rfl
theorem op_let (kd : Kd) : isLet (op kd) = false := by cases kd <;> rfl
theorem op_dot (kd : Kd) : (op kd == 46) = false := by cases kd <;> rfl
theorem op_star (kd : Kd) : (op kd == 42) = false := by cases kd <;> rfl
theorem part_ok (hW : 10 ≤ W) : ∀ (n : Nat) (t : Tr), dep t ≤ n → okT t = true → ∀ L, 2 * n + 2 ≤ L → PartOk W L t
  | 0, t, hd, _, _, _ => by have := dep_pos t; omega
  | n + 1, t, hdn, ho, L, hL => by
    obtain ⟨m, rfl⟩ : ∃ m, L = m + 3 := ⟨L - 3, by omega⟩
    intro l rest p many r d h hb R hd hs hp hm hdd
    have sg := sign_at (W := W) (k := m + 1) R hb (by omega)
    have R0 := R
    unfold RS at R0
    cases t with
    | act nm =>
      simp only [okT] at ho
      obtain ⟨n1, n2, n3⟩ := okName_len ho
      simp only [ptx, steps] at hd hp hm ⊢
      obtain ⟨h', e, R', k'⟩ := name_at (W := W) (k := m) hb R hd ho hs hp hW
      refine ⟨h', ?_, R', k'⟩
      cases nm with
      | nil => simp at n1
      | cons c nm =>
        rw [List.all_cons, Bool.and_eq_true] at n3
        rw [hd, List.cons_append, take1_cons] at sg
        have hm' : ((many : Nat) : Int) < 12 := by omega
        rw [cf_eq d_Reader_part rfl rfl rfl]
        simp only [d_Reader_part, exSs, exS.eq_1, exS.eq_2, exS.eq_3, exS.eq_4, exS.eq_5, exS.eq_8, exS.eq_9, exS.eq_10, exS.eq_11, exS.eq_12, x_whil, x_forr, lpC_ap, lpB_ap, evE, evEs, evO, evS, evIt, evT, asT, bind_ok, st_ok, ofO_some, ofB_some, tr_non, tr_bl, tr_int, tr_tup, c_lt, c_le, c_gt, c_ge, c_eqi, c_nei, c_eqs, c_nes, c_eqb, c_neb, c_isb, c_isnb, c_isn_non, c_isnn_non, c_ins, b_addi, b_subi, i_addi, v_lent, v_lenf, v_inti, v_absi, s_tup0, s_tup1, y_tup, y_str, fin_ret, fin_next, List.map, List.replicate, List.length_cons, List.length_nil, List.getElem?_cons_zero, List.getElem?_cons_succ, List.cons_append, List.nil_append, List.append_nil, List.set_cons_zero, List.set_cons_succ, Bool.not_true, Bool.not_false, wip, setTg, setAll, if_true, if_false, reduceIte, Bool.false_eq_true, tup_bs, lst_bs, Option.map_some, Bool.and_true, Bool.true_and, Bool.and_false, Bool.false_and, Bool.or_true, Bool.true_or, Bool.or_false, Bool.false_or, List.cons_beq_cons, nb_cons, cb_nil, Nat.reduceBEq, beq_self_eq_true, Int.reduceBEq, and_self, and_true, true_and, R0, sg, ne_nil, mem_letters, n3.1, lookN_3, hm', decide_true, e]
    | skip =>
      simp only [ptx, steps] at hd hp hm ⊢
      rw [hd, List.cons_append, take1_cons] at sg
      refine ⟨h.set r (.ins 4 [(1, .str l), (2, .int ((p : Nat) + 1)), (3, .int (many : Nat))]), ?_, ?_, Kp.set ..⟩
      · rw [cf_eq d_Reader_part rfl rfl rfl]
        have : isLet 46 = false := rfl
        simp only [d_Reader_part, exSs, exS.eq_1, exS.eq_2, exS.eq_3, exS.eq_4, exS.eq_5, exS.eq_8, exS.eq_9, exS.eq_10, exS.eq_11, exS.eq_12, x_whil, x_forr, lpC_ap, lpB_ap, evE, evEs, evO, evS, evIt, evT, asT, bind_ok, st_ok, ofO_some, ofB_some, tr_non, tr_bl, tr_int, tr_tup, c_lt, c_le, c_gt, c_ge, c_eqi, c_nei, c_eqs, c_nes, c_eqb, c_neb, c_isb, c_isnb, c_isn_non, c_isnn_non, c_ins, b_addi, b_subi, i_addi, v_lent, v_lenf, v_inti, v_absi, s_tup0, s_tup1, y_tup, y_str, fin_ret, fin_next, List.map, List.replicate, List.length_cons, List.length_nil, List.getElem?_cons_zero, List.getElem?_cons_succ, List.cons_append, List.nil_append, List.append_nil, List.set_cons_zero, List.set_cons_succ, Bool.not_true, Bool.not_false, wip, setTg, setAll, if_true, if_false, reduceIte, Bool.false_eq_true, tup_bs, lst_bs, Option.map_some, Bool.and_true, Bool.true_and, Bool.and_false, Bool.false_and, Bool.or_true, Bool.true_or, Bool.or_false, Bool.false_or, List.cons_beq_cons, nb_cons, cb_nil, Nat.reduceBEq, beq_self_eq_true, Int.reduceBEq, and_self, and_true, true_and, R0, sg, ne_nil, mem_letters, this, lookN_2, putN_2, l1000, lb1, enc]
      · unfold RS
        rw [set_get R0]
        rfl
    | again t =>
      simp only [ptx, steps, dep, okT] at hd hp hm hdd hdn ho ⊢
      rw [hd, List.cons_append, take1_cons] at sg
      have Ra : RS (h.set r (.ins 4 [(1, .str l), (2, .int ((p : Nat) + 1)), (3, .int (many : Nat))])) r l (p + 1) many := by
        unfold RS
        rw [set_get R0]
        rfl
      obtain ⟨h', e, R', k'⟩ := part_ok hW n t (by omega) ho (m + 2) (by omega) l rest (p + 1) many r (d + 1) _ hb Ra (by
        rw [← List.drop_drop, hd]
        rfl) hs (by simp at hp; omega) hm (by omega)
      refine ⟨h', ?_, ?_, (Kp.set r h _).trans k'⟩
      · rw [cf_eq d_Reader_part rfl rfl rfl]
        have : isLet 42 = false := rfl
        have hd8 : (((d : Nat) : Int) == 8) = false := by
          have := dep_pos t
          simp
          omega
        have Ra' := Ra
        unfold RS at Ra'
        have e' : callF D W (m + 2) 12 [.loc r, .int (((d : Nat) : Int) + 1)] (h.set r (.ins 4 [(1, .str l), (2, .int ((p : Nat) + 1)), (3, .int (many : Nat))])) = .ok (enc t) h' := e
        have Ra2 : (h.set r (.ins 4 [(1, .str l), (2, .int ((p : Nat) + 1)), (3, .int (many : Nat))]))[r]? = some (.ins 4 [(1, .str l), (2, .int ((p : Nat) + 1)), (3, .int (many : Nat))]) := set_get R0
        simp only [d_Reader_part, exSs, exS.eq_1, exS.eq_2, exS.eq_3, exS.eq_4, exS.eq_5, exS.eq_8, exS.eq_9, exS.eq_10, exS.eq_11, exS.eq_12, x_whil, x_forr, lpC_ap, lpB_ap, evE, evEs, evO, evS, evIt, evT, asT, bind_ok, st_ok, ofO_some, ofB_some, tr_non, tr_bl, tr_int, tr_tup, c_lt, c_le, c_gt, c_ge, c_eqi, c_nei, c_eqs, c_nes, c_eqb, c_neb, c_isb, c_isnb, c_isn_non, c_isnn_non, c_ins, b_addi, b_subi, i_addi, v_lent, v_lenf, v_inti, v_absi, s_tup0, s_tup1, y_tup, y_str, fin_ret, fin_next, List.map, List.replicate, List.length_cons, List.length_nil, List.getElem?_cons_zero, List.getElem?_cons_succ, List.cons_append, List.nil_append, List.append_nil, List.set_cons_zero, List.set_cons_succ, Bool.not_true, Bool.not_false, wip, setTg, setAll, if_true, if_false, reduceIte, Bool.false_eq_true, tup_bs, lst_bs, Option.map_some, Bool.and_true, Bool.true_and, Bool.and_false, Bool.false_and, Bool.or_true, Bool.true_or, Bool.or_false, Bool.false_or, List.cons_beq_cons, nb_cons, cb_nil, Nat.reduceBEq, beq_self_eq_true, Int.reduceBEq, and_self, and_true, true_and, R0, sg, ne_nil, mem_letters, this, lookN_2, putN_2, l1000, lb1, lb2, lb4, hd8, c_nin4s, Ra2, e', enc]
      · have : p + (42 :: ptx t).length = p + 1 + (ptx t).length := by simp; omega
        rw [this]
        exact R'
    | node kd ts =>
      cases ts with
      | nil => simp [okT, Trs.len] at ho
      | cons t ts =>
        simp only [okT, okTs, Bool.and_eq_true, decide_eq_true_eq, Trs.len] at ho
        obtain ⟨⟨o1, o2⟩, o3⟩ := ho
        have o1' : 1 ≤ ts.len := by have := of_decide_eq_true o1; omega
        have o2' : ts.len ≤ 5 := by have := of_decide_eq_true o2; omega
        have ptx_e : ptx (.node kd (.cons t ts)) = op kd :: (ptx t ++ (tail ts ++ [cl kd])) := by
          simp only [ptx]
          rw [join_tail]
          simp
        rw [ptx_e] at hd hp ⊢
        simp only [steps, stepss, dep, deps, List.length_cons, List.length_append, List.length_nil] at hp hm hdd hdn ⊢
        rw [hd, List.cons_append, take1_cons] at sg
        have Ra : RS (h.set r (.ins 4 [(1, .str l), (2, .int ((p : Nat) + 1)), (3, .int (many : Nat))])) r l (p + 1) many := by
          unfold RS
          rw [set_get R0]
          rfl
        obtain ⟨h', e, R', k'⟩ := parts_at (W := W) (L := m) (n := n) (fun t h1 h2 => part_ok hW n t h1 h2 (m + 1) (by omega)) (kd := kd) (t := t) (ts := ts) (rest := rest) (d := d + 1) hb hW Ra (by
          rw [← List.drop_drop, hd]
          simp) (by omega) o3 o1' o2' (by omega) ⟨by omega, by omega⟩ ⟨by omega, by omega⟩
        refine ⟨h', ?_, ?_, (Kp.set r h _).trans k'⟩
        · rw [cf_eq d_Reader_part rfl rfl rfl]
          have hd8 : (((d : Nat) : Int) == 8) = false := by
            have := dep_pos t
            simp
            omega
          have e' : callF D W (m + 2) 14 [.loc r, .str (kw kd), .int (((d : Nat) : Int) + 1)] (h.set r (.ins 4 [(1, .str l), (2, .int ((p : Nat) + 1)), (3, .int (many : Nat))])) = .ok (.tup [.str (kw kd), .tup (encs (.cons t ts))]) h' := e
          have Ra2 : (h.set r (.ins 4 [(1, .str l), (2, .int ((p : Nat) + 1)), (3, .int (many : Nat))]))[r]? = some (.ins 4 [(1, .str l), (2, .int ((p : Nat) + 1)), (3, .int (many : Nat))]) := set_get R0
          simp only [d_Reader_part, exSs, exS.eq_1, exS.eq_2, exS.eq_3, exS.eq_4, exS.eq_5, exS.eq_8, exS.eq_9, exS.eq_10, exS.eq_11, exS.eq_12, x_whil, x_forr, lpC_ap, lpB_ap, evE, evEs, evO, evS, evIt, evT, asT, bind_ok, st_ok, ofO_some, ofB_some, tr_non, tr_bl, tr_int, tr_tup, c_lt, c_le, c_gt, c_ge, c_eqi, c_nei, c_eqs, c_nes, c_eqb, c_neb, c_isb, c_isnb, c_isn_non, c_isnn_non, c_ins, b_addi, b_subi, i_addi, v_lent, v_lenf, v_inti, v_absi, s_tup0, s_tup1, y_tup, y_str, fin_ret, fin_next, List.map, List.replicate, List.length_cons, List.length_nil, List.getElem?_cons_zero, List.getElem?_cons_succ, List.cons_append, List.nil_append, List.append_nil, List.set_cons_zero, List.set_cons_succ, Bool.not_true, Bool.not_false, wip, setTg, setAll, if_true, if_false, reduceIte, Bool.false_eq_true, tup_bs, lst_bs, Option.map_some, Bool.and_true, Bool.true_and, Bool.and_false, Bool.false_and, Bool.or_true, Bool.true_or, Bool.or_false, Bool.false_or, List.cons_beq_cons, nb_cons, cb_nil, Nat.reduceBEq, beq_self_eq_true, Int.reduceBEq, and_self, and_true, true_and, R0, sg, ne_nil, mem_letters, op_let, op_dot, op_star, lookN_2, putN_2, l1000, lb1, lb2, lb4, hd8, c_nin4, Ra2, lk_opens, e', enc]
        · have a : p + 1 + (ptx t).length + (tail ts).length + 1 = p + ((ptx t).length + ((tail ts).length + (0 + 1)) + 1) := by omega
          have b : many + steps t + stepss ts = many + (steps t + stepss ts) := by omega
          rw [← a, ← b]
          exact R'
end K76
namespace K76
open MP
variable {W k : Nat} {h h' h'' : IH}
/-- all objects stay -/
structure Kq (h h' : IH) : Prop where
  at_ : ∀ (n : Nat) (o : IO), h[n]? = some o → h'[n]? = some o
  len : h.length ≤ h'.length
theorem Kq.refl (h : IH) : Kq h h := ⟨fun _ _ e => e, Nat.le_refl _⟩
theorem Kq.trans (a : Kq h h') (b : Kq h' h'') : Kq h h'' := ⟨fun n o e => b.at_ n o (a.at_ n o e), Nat.le_trans a.len b.len⟩
theorem Gr.kq (g : Gr h h') : Kq h h' := ⟨fun n o e => g.get e, by obtain ⟨j, rfl⟩ := g; simp⟩
theorem Kp.kq {r : Nat} (a : Kp r h h') (hr : h.length ≤ r) : Kq h h' := ⟨fun n o e => a.at_ n o (by have : n < h.length := (List.getElem?_eq_some_iff.mp e).1; omega) e, a.len⟩
theorem Kp.kqNew {o : IO} (a : Kp h.length (h ++ [o]) h') : Kq h h' := ⟨fun n o e => a.at_ n o (by have : n < h.length := (List.getElem?_eq_some_iff.mp e).1; omega) ((Gr.snoc h _).get e), by
  have := a.len
  simp only [List.length_append, List.length_cons, List.length_nil] at this
  omega⟩
theorem putN_a (v : IV) : putN 1 v [] = [(1, v)] := rfl
theorem putN_b (v x : IV) : putN 2 v [(1, x)] = [(1, x), (2, v)] := rfl
theorem putN_c (v x y : IV) : putN 3 v [(1, x), (2, y)] = [(1, x), (2, y), (3, v)] := rfl
theorem kk0 : (0 < 1000) = True := by simp
theorem kk1 : (0 + 1 < 1000) = True := by simp
theorem kk2 : (0 + 1 + 1 < 1000) = True := by simp
theorem init_ok {r : Nat} {l : List Nat} (e : h[r]? = some (.ins 4 [])) : ∃ h', callF D W (k + 1) 10 [.loc r, .str l] h = .ok .non h' ∧ RS h' r l 0 0 ∧ Kp r h h' := by
  refine ⟨((h.set r (.ins 4 [(1, .str l)])).set r (.ins 4 [(1, .str l), (2, .int 0)])).set r (.ins 4 [(1, .str l), (2, .int 0), (3, .int 0)]), ?_, ?_, ((Kp.set ..).trans (Kp.set ..)).trans (Kp.set ..)⟩
  · rw [cf_eq d_Reader_init rfl rfl rfl]
    have e1 : (h.set r (.ins 4 [(1, .str l)]))[r]? = some (.ins 4 [(1, .str l)]) := set_get e
    have e2 : ((h.set r (.ins 4 [(1, .str l)])).set r (.ins 4 [(1, .str l), (2, .int 0)]))[r]? = some (.ins 4 [(1, .str l), (2, .int 0)]) := set_get e1
    simp only [d_Reader_init, exSs, exS.eq_1, exS.eq_2, exS.eq_3, exS.eq_4, exS.eq_5, exS.eq_8, exS.eq_9, exS.eq_10, exS.eq_11, exS.eq_12, x_whil, x_forr, lpC_ap, lpB_ap, evE, evEs, evO, evS, evIt, evT, asT, bind_ok, st_ok, ofO_some, ofB_some, tr_non, tr_bl, tr_int, tr_tup, c_lt, c_le, c_gt, c_ge, c_eqi, c_nei, c_eqs, c_nes, c_eqb, c_neb, c_isb, c_isnb, c_isn_non, c_isnn_non, c_ins, b_addi, b_subi, i_addi, v_lent, v_lenf, v_inti, v_absi, s_tup0, s_tup1, y_tup, y_str, fin_ret, fin_next, List.map, List.replicate, List.length_cons, List.length_nil, List.getElem?_cons_zero, List.getElem?_cons_succ, List.cons_append, List.nil_append, List.append_nil, List.set_cons_zero, List.set_cons_succ, Bool.not_true, Bool.not_false, wip, setTg, setAll, if_true, if_false, reduceIte, Bool.false_eq_true, tup_bs, lst_bs, Option.map_some, Bool.and_true, Bool.true_and, Bool.and_false, Bool.false_and, Bool.or_true, Bool.true_or, Bool.or_false, Bool.false_or, List.cons_beq_cons, nb_cons, cb_nil, Nat.reduceBEq, beq_self_eq_true, Int.reduceBEq, and_self, and_true, true_and, e, putN_a, kk0, e1, putN_b, kk1, e2, putN_c, kk2]
  · exact set_get (set_get (set_get e))
theorem proc_in {t : Tr} (p : Pr t) (hW : 10 ≤ W) : ∃ h', callF D W (k + 20) 15 [.str (ptx t)] h = .ok (enc t) h' ∧ Kq h h' := by
  have hlen : (ptx t).length ≤ big := Nat.le_trans (ptx_len t) p.len
  obtain ⟨h1, e1, R1, k1⟩ := init_ok (W := W) (k := k + 18) (l := ptx t) (new_get h (.ins 4 []))
  obtain ⟨h2, e2, R2, k2⟩ := part_ok hW 8 t p.dep p.ok (k + 19) (by omega) (ptx t) [] 0 0 h.length 1 h1 hlen R1 (by simp) (fun c r e => nomatch e) (by omega) (by have := p.few; omega) (by have := p.dep; omega)
  refine ⟨h2, ?_, Kp.kqNew (k1.trans k2)⟩
  · rw [cf_eq d_procedure_in rfl rfl rfl]
    unfold RS at R1 R2
    have hlt : ((((0 + (ptx t).length : Nat) : Int) < ((ptx t).length : Int))) = False := by simp
    have e2' : callF D W (k + 19) 12 [.loc h.length, .int 1] h1 = .ok (enc t) h2 := e2
    have e1' : callF D W (k + 19) 10 [.loc h.length, .str (ptx t)] (h ++ [.ins 4 []]) = .ok .non h1 := e1
    simp only [d_procedure_in, exSs, exS.eq_1, exS.eq_2, exS.eq_3, exS.eq_4, exS.eq_5, exS.eq_8, exS.eq_9, exS.eq_10, exS.eq_11, exS.eq_12, x_whil, x_forr, lpC_ap, lpB_ap, evE, evEs, evO, evS, evIt, evT, asT, bind_ok, st_ok, ofO_some, ofB_some, tr_non, tr_bl, tr_int, tr_tup, c_lt, c_le, c_gt, c_ge, c_eqi, c_nei, c_eqs, c_nes, c_eqb, c_neb, c_isb, c_isnb, c_isn_non, c_isnn_non, c_ins, b_addi, b_subi, i_addi, v_lent, v_lenf, v_inti, v_absi, s_tup0, s_tup1, y_tup, y_str, fin_ret, fin_next, List.map, List.replicate, List.length_cons, List.length_nil, List.getElem?_cons_zero, List.getElem?_cons_succ, List.cons_append, List.nil_append, List.append_nil, List.set_cons_zero, List.set_cons_succ, Bool.not_true, Bool.not_false, wip, setTg, setAll, if_true, if_false, reduceIte, Bool.false_eq_true, tup_bs, lst_bs, Option.map_some, Bool.and_true, Bool.true_and, Bool.and_false, Bool.false_and, Bool.or_true, Bool.true_or, Bool.or_false, Bool.false_or, List.cons_beq_cons, nb_cons, cb_nil, Nat.reduceBEq, beq_self_eq_true, Int.reduceBEq, and_self, and_true, true_and, e1', R1, e2', R2, lookN_2, v_lens _ hlen, hlt, decide_false]
theorem read_proc {t : Tr} (p : Pr t) (hW : 10 ≤ W) : ∃ h', callF D W (k + 21) 16 [.str (ptx t)] h = .ok (enc t) h' ∧ Kq h h' := by
  obtain ⟨h', e, g⟩ := proc_in p hW (k := k) (h := h)
  refine ⟨h', ?_, g⟩
  rw [cf_eq d_read_procedure rfl rfl rfl]
  simp only [d_read_procedure, exSs, exS.eq_1, exS.eq_2, exS.eq_3, exS.eq_4, exS.eq_5, exS.eq_8, exS.eq_9, exS.eq_10, exS.eq_11, exS.eq_12, x_whil, x_forr, lpC_ap, lpB_ap, evE, evEs, evO, evS, evIt, evT, asT, bind_ok, st_ok, ofO_some, ofB_some, tr_non, tr_bl, tr_int, tr_tup, c_lt, c_le, c_gt, c_ge, c_eqi, c_nei, c_eqs, c_nes, c_eqb, c_neb, c_isb, c_isnb, c_isn_non, c_isnn_non, c_ins, b_addi, b_subi, i_addi, v_lent, v_lenf, v_inti, v_absi, s_tup0, s_tup1, y_tup, y_str, fin_ret, fin_next, List.map, List.replicate, List.length_cons, List.length_nil, List.getElem?_cons_zero, List.getElem?_cons_succ, List.cons_append, List.nil_append, List.append_nil, List.set_cons_zero, List.set_cons_succ, Bool.not_true, Bool.not_false, wip, setTg, setAll, if_true, if_false, reduceIte, Bool.false_eq_true, tup_bs, lst_bs, Option.map_some, Bool.and_true, Bool.true_and, Bool.and_false, Bool.false_and, Bool.or_true, Bool.true_or, Bool.or_false, Bool.false_or, List.cons_beq_cons, nb_cons, cb_nil, Nat.reduceBEq, beq_self_eq_true, Int.reduceBEq, and_self, and_true, true_and, ys_one _ _ _ (y_str _), e]
/-! ### rows of names -/
theorem okName_big {n : List Nat} (h : okName n = true) : n.length ≤ big := small_big (by have := okName_len h; omega)
def nmI : IV → IV
  | .str n => .bl (okName n)
  | _ => .non
theorem nmI_map (ns : List (List Nat)) : (ns.map IV.str).map nmI = ns.map fun n => IV.bl (okName n) := by
  rw [List.map_map]
  rfl
theorem is_row_ok {ns : List (List Nat)} (hl : ns.length ≤ 200) (ho : ∀ n ∈ ns, okName n = true) : callF D W (k + 2) 2 [.tup (ns.map .str)] h = .ok (.bl true) h := by
  rw [cf_eq d_is_row rfl rfl rfl]
  have hs : callF D W (k + 1) 0 [.tup (ns.map .str), .int 0, .int 200] h = .ok (.bl true) h := by
    rw [is_sized_tup]
    have : ((ns.length : Nat) : Int) ≤ 200 := by omega
    simp [this]
  have hb : (ns.map IV.str).length ≤ big := by simp; exact small_big (by omega)
  simp only [d_is_row, exSs, exS.eq_1, exS.eq_2, exS.eq_3, exS.eq_4, exS.eq_5, exS.eq_8, exS.eq_9, exS.eq_10, exS.eq_11, exS.eq_12, x_whil, x_forr, lpC_ap, lpB_ap, evE, evEs, evO, evS, evIt, evT, asT, bind_ok, st_ok, ofO_some, ofB_some, tr_non, tr_bl, tr_int, tr_tup, c_lt, c_le, c_gt, c_ge, c_eqi, c_nei, c_eqs, c_nes, c_eqb, c_neb, c_isb, c_isnb, c_isn_non, c_isnn_non, c_ins, b_addi, b_subi, i_addi, v_lent, v_lenf, v_inti, v_absi, s_tup0, s_tup1, y_tup, y_str, fin_ret, fin_next, List.map, List.replicate, List.length_cons, List.length_nil, List.getElem?_cons_zero, List.getElem?_cons_succ, List.cons_append, List.nil_append, List.append_nil, List.set_cons_zero, List.set_cons_succ, Bool.not_true, Bool.not_false, wip, setTg, setAll, if_true, if_false, reduceIte, Bool.false_eq_true, tup_bs, lst_bs, Option.map_some, Bool.and_true, Bool.true_and, Bool.and_false, Bool.false_and, Bool.or_true, Bool.true_or, Bool.or_false, Bool.false_or, List.cons_beq_cons, nb_cons, cb_nil, Nat.reduceBEq, beq_self_eq_true, Int.reduceBEq, and_self, and_true, true_and, hs, items, guardOf, hb]
  rw [lcL_map (g := nmI) (grd_nil _)]
  · rw [nmI_map]
    have : (ns.map okName).all id = true := by simpa using ho
    simp only [exSs, exS.eq_1, exS.eq_2, exS.eq_3, exS.eq_4, exS.eq_5, exS.eq_8, exS.eq_9, exS.eq_10, exS.eq_11, exS.eq_12, x_whil, x_forr, lpC_ap, lpB_ap, evE, evEs, evO, evS, evIt, evT, asT, bind_ok, st_ok, ofO_some, ofB_some, tr_non, tr_bl, tr_int, tr_tup, c_lt, c_le, c_gt, c_ge, c_eqi, c_nei, c_eqs, c_nes, c_eqb, c_neb, c_isb, c_isnb, c_isn_non, c_isnn_non, c_ins, b_addi, b_subi, i_addi, v_lent, v_lenf, v_inti, v_absi, s_tup0, s_tup1, y_tup, y_str, fin_ret, fin_next, List.map, List.replicate, List.length_cons, List.length_nil, List.getElem?_cons_zero, List.getElem?_cons_succ, List.cons_append, List.nil_append, List.append_nil, List.set_cons_zero, List.set_cons_succ, Bool.not_true, Bool.not_false, wip, setTg, setAll, if_true, if_false, reduceIte, Bool.false_eq_true, tup_bs, lst_bs, Option.map_some, Bool.and_true, Bool.true_and, Bool.and_false, Bool.false_and, Bool.or_true, Bool.true_or, Bool.or_false, Bool.false_or, List.cons_beq_cons, nb_cons, cb_nil, Nat.reduceBEq, beq_self_eq_true, Int.reduceBEq, and_self, and_true, true_and, all_bs _ _ (asBools_map _ _), this]
  · intro x hx
    obtain ⟨n, hn, rfl⟩ := List.mem_map.mp hx
    have e := is_name_str (W := W) (k := k) (h := h) _ (okName_big (ho n hn))
    first | exact e | (simp only [exSs, exS.eq_1, exS.eq_2, exS.eq_3, exS.eq_4, exS.eq_5, exS.eq_8, exS.eq_9, exS.eq_10, exS.eq_11, exS.eq_12, x_whil, x_forr, lpC_ap, lpB_ap, evE, evEs, evO, evS, evIt, evT, asT, bind_ok, st_ok, ofO_some, ofB_some, tr_non, tr_bl, tr_int, tr_tup, c_lt, c_le, c_gt, c_ge, c_eqi, c_nei, c_eqs, c_nes, c_eqb, c_neb, c_isb, c_isnb, c_isn_non, c_isnn_non, c_ins, b_addi, b_subi, i_addi, v_lent, v_lenf, v_inti, v_absi, s_tup0, s_tup1, y_tup, y_str, fin_ret, fin_next, List.map, List.replicate, List.length_cons, List.length_nil, List.getElem?_cons_zero, List.getElem?_cons_succ, List.cons_append, List.nil_append, List.append_nil, List.set_cons_zero, List.set_cons_succ, Bool.not_true, Bool.not_false, wip, setTg, setAll, if_true, if_false, reduceIte, Bool.false_eq_true, tup_bs, lst_bs, Option.map_some, Bool.and_true, Bool.true_and, Bool.and_false, Bool.false_and, Bool.or_true, Bool.true_or, Bool.or_false, Bool.false_or, List.cons_beq_cons, nb_cons, cb_nil, Nat.reduceBEq, beq_self_eq_true, Int.reduceBEq, and_self, and_true, true_and]; exact e)
def rtx (ns : List (List Nat)) : List Nat := if ns.isEmpty then [45] else joinL [32] ns
theorem lens_le : ∀ {ns : List (List Nat)}, (∀ n ∈ ns, okName n = true) → (ns.map (·.length)).sum ≤ 8 * ns.length
  | [], _ => by simp
  | n :: ns, h => by
    have h1 := okName_len (h n (List.mem_cons_self ..))
    have h2 := lens_le fun m hm => h m (List.mem_cons_of_mem _ hm)
    simp only [List.map_cons, List.sum_cons, List.length_cons]
    omega
theorem row_text_ok {ns : List (List Nat)} (hl : ns.length ≤ 200) (ho : ∀ n ∈ ns, okName n = true) : callF D W (k + 3) 17 [.tup (ns.map .str)] h = .ok (.str (rtx ns)) h := by
  rw [cf_eq d_row_text rfl rfl rfl]
  have hr := is_row_ok (W := W) (k := k) (h := h) hl ho
  have hj : joinI [32] (ns.map .str) h = .ok (.str (joinL [32] ns)) h := by
    unfold joinI
    rw [asStrs_id]
    have := lens_le ho
    simp only [List.length_cons, List.length_nil]
    rw [if_pos (by have : big = 16777216 := rfl; omega)]
  unfold rtx
  cases ns with
  | nil => 
    have : ((0 : Int) < (([] : List IV).length : Int)) = False := by simp
    simp only [List.map_nil] at hr
    simp only [d_row_text, exSs, exS.eq_1, exS.eq_2, exS.eq_3, exS.eq_4, exS.eq_5, exS.eq_8, exS.eq_9, exS.eq_10, exS.eq_11, exS.eq_12, x_whil, x_forr, lpC_ap, lpB_ap, evE, evEs, evO, evS, evIt, evT, asT, bind_ok, st_ok, ofO_some, ofB_some, tr_non, tr_bl, tr_int, tr_tup, c_lt, c_le, c_gt, c_ge, c_eqi, c_nei, c_eqs, c_nes, c_eqb, c_neb, c_isb, c_isnb, c_isn_non, c_isnn_non, c_ins, b_addi, b_subi, i_addi, v_lent, v_lenf, v_inti, v_absi, s_tup0, s_tup1, y_tup, y_str, fin_ret, fin_next, List.map, List.replicate, List.length_cons, List.length_nil, List.getElem?_cons_zero, List.getElem?_cons_succ, List.cons_append, List.nil_append, List.append_nil, List.set_cons_zero, List.set_cons_succ, Bool.not_true, Bool.not_false, wip, setTg, setAll, if_true, if_false, reduceIte, Bool.false_eq_true, tup_bs, lst_bs, Option.map_some, Bool.and_true, Bool.true_and, Bool.and_false, Bool.false_and, Bool.or_true, Bool.true_or, Bool.or_false, Bool.false_or, List.cons_beq_cons, nb_cons, cb_nil, Nat.reduceBEq, beq_self_eq_true, Int.reduceBEq, and_self, and_true, true_and, List.map_nil, hr, List.isEmpty_nil]
    rfl
  | cons n ns =>
    have : ((0 : Int) < (((n :: ns).map IV.str).length : Int)) = True := by simp
    generalize (n :: ns).map IV.str = X at this hr hj ⊢
    simp only [d_row_text, exSs, exS.eq_1, exS.eq_2, exS.eq_3, exS.eq_4, exS.eq_5, exS.eq_8, exS.eq_9, exS.eq_10, exS.eq_11, exS.eq_12, x_whil, x_forr, lpC_ap, lpB_ap, evE, evEs, evO, evS, evIt, evT, asT, bind_ok, st_ok, ofO_some, ofB_some, tr_non, tr_bl, tr_int, tr_tup, c_lt, c_le, c_gt, c_ge, c_eqi, c_nei, c_eqs, c_nes, c_eqb, c_neb, c_isb, c_isnb, c_isn_non, c_isnn_non, c_ins, b_addi, b_subi, i_addi, v_lent, v_lenf, v_inti, v_absi, s_tup0, s_tup1, y_tup, y_str, fin_ret, fin_next, List.map, List.replicate, List.length_cons, List.length_nil, List.getElem?_cons_zero, List.getElem?_cons_succ, List.cons_append, List.nil_append, List.append_nil, List.set_cons_zero, List.set_cons_succ, Bool.not_true, Bool.not_false, wip, setTg, setAll, if_true, if_false, reduceIte, Bool.false_eq_true, tup_bs, lst_bs, Option.map_some, Bool.and_true, Bool.true_and, Bool.and_false, Bool.false_and, Bool.or_true, Bool.true_or, Bool.or_false, Bool.false_or, List.cons_beq_cons, nb_cons, cb_nil, Nat.reduceBEq, beq_self_eq_true, Int.reduceBEq, and_self, and_true, true_and, hr, List.isEmpty_cons, this, decide_true, hj]
theorem eqb_refl : ∀ v : IV, IV.eqb v v = true := by
  intro v
  refine IV.rec (motive_1 := fun v => IV.eqb v v = true) (motive_2 := fun vs => IV.eqbs vs vs = true) rfl (fun b => by simp [IV.eqb]) (fun i => by simp [IV.eqb]) (fun x => by simp [IV.eqb]) (fun xs ih => by simpa [IV.eqb] using ih) (fun n => by simp [IV.eqb]) (fun xs ih => by simpa [IV.eqb] using ih) rfl (fun x xs h1 h2 => by simp [IV.eqbs, h1, h2]) v
theorem eqbs_refl : ∀ vs : List IV, IV.eqbs vs vs = true
  | [] => rfl
  | v :: vs => by simp [IV.eqbs, eqb_refl v, eqbs_refl vs]
theorem grd_one {n : Nat} {xs : List IV} (e : h[n]? = some (.lst xs)) : grd [(n, xs)] h = true := by simp [grd, e, eqbs_refl]
/-! a row's text taken apart -/
theorem splitL_no {c : Nat} : ∀ {n : List Nat}, c ∉ n → splitL c n = [n]
  | [], _ => rfl
  | x :: n, h => by
    have h1 : x ≠ c := fun e => h (by rw [e]; exact List.mem_cons_self ..)
    have h2 := splitL_no fun z => h (List.mem_cons_of_mem x z)
    simp [splitL, h1, h2]
theorem splitL_app {c : Nat} : ∀ {n : List Nat} {r : List Nat}, c ∉ n → splitL c (n ++ c :: r) = n :: splitL c r
  | [], r, _ => by simp [splitL]
  | x :: n, r, h => by
    have h1 : x ≠ c := fun e => h (by rw [e]; exact List.mem_cons_self ..)
    have h2 := splitL_app (r := r) fun z => h (List.mem_cons_of_mem x z)
    simp [splitL, h1, h2]
theorem split_join : ∀ {ns : List (List Nat)}, ns ≠ [] → (∀ n ∈ ns, 32 ∉ n) → splitL 32 (joinL [32] ns) = ns
  | [n], _, h => by simp [joinL, splitL_no (h n (List.mem_cons_self ..))]
  | n :: m :: ns, _, h => by
    have ih := split_join (ns := m :: ns) (by simp) fun x hx => h x (List.mem_cons_of_mem _ hx)
    simp only [joinL, List.cons_append, List.nil_append]
    rw [splitL_app (h n (List.mem_cons_self ..)), ih]
theorem okName_sp {n : List Nat} (h : okName n = true) : 32 ∉ n := fun hm => by
  have := List.all_eq_true.mp (okName_len h).2.2 32 hm
  cases this
theorem join_head {n : List Nat} {ns : List (List Nat)} (h : okName n = true) : (joinL [32] (n :: ns) == [45]) = false := by
  obtain ⟨h1, _, h3⟩ := okName_len h
  cases n with
  | nil => simp at h1
  | cons c n =>
    rw [List.all_cons, Bool.and_eq_true] at h3
    have : c ≠ 45 := fun e => by rw [e] at h3; exact absurd h3.1 (by decide)
    cases ns with
    | nil => simp [joinL, this]
    | cons m ns => simp [joinL, this]
abbrev rrB : Sts := (.cons (.cond (.or (.not (.call 1 (.cons (.var 3) .nil))) (.cmp .eq (.var 2) (.glo "MOST_ROW" (.int 200))))
    (.cons (.raise 1 (.cons (.var 2) .nil))
    .nil)
    .nil)
    .nil)
theorem rr_loop {g : Guard} {t w : Option IV} (hg : grd g h = true) : ∀ (ns : List (List Nat)) (i : Nat) (a b : Option IV), (∀ n ∈ ns, okName n = true) → i + ns.length ≤ 200 →
    ∃ a' b', forL g (.tp [2, 3]) (lpB (callF D W (k + 1)) W rrB) (enumL i (ns.map .str)) [t, w, a, b] h = .ok (.next, [t, w, a', b']) h
  | [], i, a, b, _, _ => ⟨a, b, by simp [enumL, forL, hg]⟩
  | n :: ns, i, a, b, ho, hi => by
    obtain ⟨a', b', e⟩ := rr_loop hg ns (i + 1) (some (.int (i : Nat))) (some (.str n)) (fun m hm => ho m (List.mem_cons_of_mem _ hm)) (by simp at hi; omega)
    have h200 : (((i : Nat) : Int) == 200) = false := by simp at hi ⊢; omega
    refine ⟨a', b', ?_⟩
    have ho1 := ho n (List.mem_cons_self ..)
    simp only [List.map_cons, enumL, forL, hg, exSs, exS.eq_1, exS.eq_2, exS.eq_3, exS.eq_4, exS.eq_5, exS.eq_8, exS.eq_9, exS.eq_10, exS.eq_11, exS.eq_12, x_whil, x_forr, lpC_ap, lpB_ap, evE, evEs, evO, evS, evIt, evT, asT, bind_ok, st_ok, ofO_some, ofB_some, tr_non, tr_bl, tr_int, tr_tup, c_lt, c_le, c_gt, c_ge, c_eqi, c_nei, c_eqs, c_nes, c_eqb, c_neb, c_isb, c_isnb, c_isn_non, c_isnn_non, c_ins, b_addi, b_subi, i_addi, v_lent, v_lenf, v_inti, v_absi, s_tup0, s_tup1, y_tup, y_str, fin_ret, fin_next, List.map, List.replicate, List.length_cons, List.length_nil, List.getElem?_cons_zero, List.getElem?_cons_succ, List.cons_append, List.nil_append, List.append_nil, List.set_cons_zero, List.set_cons_succ, Bool.not_true, Bool.not_false, wip, setTg, setAll, if_true, if_false, reduceIte, Bool.false_eq_true, tup_bs, lst_bs, Option.map_some, Bool.and_true, Bool.true_and, Bool.and_false, Bool.false_and, Bool.or_true, Bool.true_or, Bool.or_false, Bool.false_or, List.cons_beq_cons, nb_cons, cb_nil, Nat.reduceBEq, beq_self_eq_true, Int.reduceBEq, and_self, and_true, true_and, is_name_str _ (okName_big ho1), ho1, h200]
    exact e
theorem read_row_ok {ns : List (List Nat)} (hl : ns.length ≤ 200) (ho : ∀ n ∈ ns, okName n = true) : ∃ h', callF D W (k + 2) 18 [.str (rtx ns)] h = .ok (.tup (ns.map .str)) h' ∧ Gr h h' := by
  rw [cf_eq d_read_row rfl rfl rfl]
  unfold rtx
  cases ns with
  | nil =>
    refine ⟨h, ?_, Gr.refl h⟩
    simp only [d_read_row, exSs, exS.eq_1, exS.eq_2, exS.eq_3, exS.eq_4, exS.eq_5, exS.eq_8, exS.eq_9, exS.eq_10, exS.eq_11, exS.eq_12, x_whil, x_forr, lpC_ap, lpB_ap, evE, evEs, evO, evS, evIt, evT, asT, bind_ok, st_ok, ofO_some, ofB_some, tr_non, tr_bl, tr_int, tr_tup, c_lt, c_le, c_gt, c_ge, c_eqi, c_nei, c_eqs, c_nes, c_eqb, c_neb, c_isb, c_isnb, c_isn_non, c_isnn_non, c_ins, b_addi, b_subi, i_addi, v_lent, v_lenf, v_inti, v_absi, s_tup0, s_tup1, y_tup, y_str, fin_ret, fin_next, List.map, List.replicate, List.length_cons, List.length_nil, List.getElem?_cons_zero, List.getElem?_cons_succ, List.cons_append, List.nil_append, List.append_nil, List.set_cons_zero, List.set_cons_succ, Bool.not_true, Bool.not_false, wip, setTg, setAll, if_true, if_false, reduceIte, Bool.false_eq_true, tup_bs, lst_bs, Option.map_some, Bool.and_true, Bool.true_and, Bool.and_false, Bool.false_and, Bool.or_true, Bool.true_or, Bool.or_false, Bool.false_or, List.cons_beq_cons, nb_cons, cb_nil, Nat.reduceBEq, beq_self_eq_true, Int.reduceBEq, and_self, and_true, true_and, List.isEmpty_nil, ys_one _ _ _ (y_str _)]
    rfl
  | cons n ns =>
    have hlen : (joinL [32] (n :: ns)).length + 2 ≤ big := by
      have a := joinL_len (n :: ns)
      have b := lens_le ho
      have : big = 16777216 := rfl
      omega
    have hsp := split_join (ns := n :: ns) (by simp) fun m hm => okName_sp (ho m hm)
    have hh := new_get h (.lst ((n :: ns).map .str))
    obtain ⟨a', b', e⟩ := rr_loop (W := W) (k := k) (t := some (.str (joinL [32] (n :: ns)))) (w := some (.loc h.length)) (grd_one hh) (n :: ns) 0 none none ho (by simpa using hl)
    refine ⟨h ++ [.lst ((n :: ns).map .str)], ?_, Gr.snoc ..⟩
    have hsI : splitI (joinL [32] (n :: ns)) (.str [32]) h = .ok (.loc h.length) (h ++ [.lst ((n :: ns).map .str)]) := by
      unfold splitI
      simp only [hsp]
      rw [if_pos ⟨by omega, hlen⟩]
    generalize (n :: ns).map IV.str = X at hh e hsI ⊢
    simp only [d_read_row, List.isEmpty_cons]
    simp only [exSs, exS.eq_1, exS.eq_2, exS.eq_3, exS.eq_4, exS.eq_5, exS.eq_8, exS.eq_9, exS.eq_10, exS.eq_11, exS.eq_12, x_whil, x_forr, lpC_ap, lpB_ap, evE, evEs, evO, evS, evIt, evT, asT, bind_ok, st_ok, ofO_some, ofB_some, tr_non, tr_bl, tr_int, tr_tup, c_lt, c_le, c_gt, c_ge, c_eqi, c_nei, c_eqs, c_nes, c_eqb, c_neb, c_isb, c_isnb, c_isn_non, c_isnn_non, c_ins, b_addi, b_subi, i_addi, v_lent, v_lenf, v_inti, v_absi, s_tup0, s_tup1, y_tup, y_str, fin_ret, fin_next, List.map, List.replicate, List.length_cons, List.length_nil, List.getElem?_cons_zero, List.getElem?_cons_succ, List.cons_append, List.nil_append, List.append_nil, List.set_cons_zero, List.set_cons_succ, Bool.not_true, Bool.not_false, wip, setTg, setAll, if_true, if_false, reduceIte, Bool.false_eq_true, tup_bs, lst_bs, Option.map_some, Bool.and_true, Bool.true_and, Bool.and_false, Bool.false_and, Bool.or_true, Bool.true_or, Bool.or_false, Bool.false_or, List.cons_beq_cons, nb_cons, cb_nil, Nat.reduceBEq, beq_self_eq_true, Int.reduceBEq, and_self, and_true, true_and, ys_one _ _ _ (y_str _), join_head (ho n (List.mem_cons_self ..)), hsI, li_loc hh, guardOf]
    rw [e]
    simp only [exSs, exS.eq_1, exS.eq_2, exS.eq_3, exS.eq_4, exS.eq_5, exS.eq_8, exS.eq_9, exS.eq_10, exS.eq_11, exS.eq_12, x_whil, x_forr, lpC_ap, lpB_ap, evE, evEs, evO, evS, evIt, evT, asT, bind_ok, st_ok, ofO_some, ofB_some, tr_non, tr_bl, tr_int, tr_tup, c_lt, c_le, c_gt, c_ge, c_eqi, c_nei, c_eqs, c_nes, c_eqb, c_neb, c_isb, c_isnb, c_isn_non, c_isnn_non, c_ins, b_addi, b_subi, i_addi, v_lent, v_lenf, v_inti, v_absi, s_tup0, s_tup1, y_tup, y_str, fin_ret, fin_next, List.map, List.replicate, List.length_cons, List.length_nil, List.getElem?_cons_zero, List.getElem?_cons_succ, List.cons_append, List.nil_append, List.append_nil, List.set_cons_zero, List.set_cons_succ, Bool.not_true, Bool.not_false, wip, setTg, setAll, if_true, if_false, reduceIte, Bool.false_eq_true, tup_bs, lst_bs, Option.map_some, Bool.and_true, Bool.true_and, Bool.and_false, Bool.false_and, Bool.or_true, Bool.true_or, Bool.or_false, Bool.false_or, List.cons_beq_cons, nb_cons, cb_nil, Nat.reduceBEq, beq_self_eq_true, Int.reduceBEq, and_self, and_true, true_and, li_loc hh]
end K76
namespace K76
open MP
variable {W k : Nat} {h h' h'' : IH}
/-- tuples of texts, so deep -/
def Pure : Nat → IV → Prop
  | 0, _ => False
  | _ + 1, .str l => True
  | n + 1, .tup xs => xs.length ≤ big ∧ ∀ x ∈ xs, Pure n x
  | _ + 1, _ => False
theorem Pure.mono : ∀ {n m : Nat} {v : IV}, Pure n v → n ≤ m → Pure m v
  | 0, _, _, h, _ => h.elim
  | n + 1, 0, _, _, hm => by omega
  | n + 1, m + 1, v, h, hm => by
    cases v with
    | str l => trivial
    | tup xs => exact ⟨h.1, fun x hx => Pure.mono (h.2 x hx) (by omega)⟩
    | _ => exact h.elim
theorem zipL_same : ∀ {xs : List IV} {z : IV}, z ∈ zipL xs xs → ∃ x ∈ xs, z = .tup [x, x]
  | [], _, h => by simp [zipL] at h
  | x :: xs, z, h => by
    simp only [zipL, List.mem_cons] at h
    rcases h with rfl | h
    · exact ⟨x, List.mem_cons_self .., rfl⟩
    · obtain ⟨y, hy, e⟩ := zipL_same h
      exact ⟨y, List.mem_cons_of_mem _ hy, e⟩
theorem zipL_len : ∀ xs ys : List IV, (zipL xs ys).length ≤ xs.length
  | [], _ => by simp [zipL]
  | x :: xs, [] => by simp [zipL]
  | x :: xs, y :: ys => by
    have := zipL_len xs ys
    simp only [zipL, List.length_cons]
    omega
theorem tl_tup (xs : List IV) : isTys h (.tup xs) [.tuple, .list] = some true := rfl
theorem tl_str (l : List Nat) : isTys h (.str l) [.tuple, .list] = some false := rfl
theorem tt_tup (xs : List IV) : isTys h (.tup xs) [.tuple] = some true := rfl
theorem ts_str (xs : List Nat) : isTys h (.str xs) [.str] = some true := rfl
theorem all_true {α : Type} (l : List α) : (l.map fun _ => true).all id = true := by induction l <;> simp_all
theorem law_is_ok : ∀ (n : Nat) (v : IV), Pure n v → ∀ (m : Nat), n ≤ m → ∀ h : IH, callF D W m 26 [v, v] h = .ok (.bl true) h
  | 0, _, hp, _, _, _ => hp.elim
  | n + 1, v, hp, 0, hm, h => by omega
  | n + 1, v, hp, m + 1, hm, h => by
    rw [cf_eq d_law_is rfl rfl rfl]
    cases v with
    | str l => simp only [d_law_is, exSs, exS.eq_1, exS.eq_2, exS.eq_3, exS.eq_4, exS.eq_5, exS.eq_8, exS.eq_9, exS.eq_10, exS.eq_11, exS.eq_12, x_whil, x_forr, lpC_ap, lpB_ap, evE, evEs, evO, evS, evIt, evT, asT, bind_ok, st_ok, ofO_some, ofB_some, tr_non, tr_bl, tr_int, tr_tup, c_lt, c_le, c_gt, c_ge, c_eqi, c_nei, c_eqs, c_nes, c_eqb, c_neb, c_isb, c_isnb, c_isn_non, c_isnn_non, c_ins, b_addi, b_subi, i_addi, v_lent, v_lenf, v_inti, v_absi, s_tup0, s_tup1, y_tup, y_str, fin_ret, fin_next, List.map, List.replicate, List.length_cons, List.length_nil, List.getElem?_cons_zero, List.getElem?_cons_succ, List.cons_append, List.nil_append, List.append_nil, List.set_cons_zero, List.set_cons_succ, Bool.not_true, Bool.not_false, wip, setTg, setAll, if_true, if_false, reduceIte, Bool.false_eq_true, tup_bs, lst_bs, Option.map_some, Bool.and_true, Bool.true_and, Bool.and_false, Bool.false_and, Bool.or_true, Bool.true_or, Bool.or_false, Bool.false_or, List.cons_beq_cons, nb_cons, cb_nil, Nat.reduceBEq, beq_self_eq_true, Int.reduceBEq, and_self, and_true, true_and, tl_str, ts_str]
    | tup xs =>
      have hb := hp.1
      have hz : (zipL xs xs).length ≤ big := Nat.le_trans (zipL_len xs xs) hb
      simp only [d_law_is, exSs, exS.eq_1, exS.eq_2, exS.eq_3, exS.eq_4, exS.eq_5, exS.eq_8, exS.eq_9, exS.eq_10, exS.eq_11, exS.eq_12, x_whil, x_forr, lpC_ap, lpB_ap, evE, evEs, evO, evS, evIt, evT, asT, bind_ok, st_ok, ofO_some, ofB_some, tr_non, tr_bl, tr_int, tr_tup, c_lt, c_le, c_gt, c_ge, c_eqi, c_nei, c_eqs, c_nes, c_eqb, c_neb, c_isb, c_isnb, c_isn_non, c_isnn_non, c_ins, b_addi, b_subi, i_addi, v_lent, v_lenf, v_inti, v_absi, s_tup0, s_tup1, y_tup, y_str, fin_ret, fin_next, List.map, List.replicate, List.length_cons, List.length_nil, List.getElem?_cons_zero, List.getElem?_cons_succ, List.cons_append, List.nil_append, List.append_nil, List.set_cons_zero, List.set_cons_succ, Bool.not_true, Bool.not_false, wip, setTg, setAll, if_true, if_false, reduceIte, Bool.false_eq_true, tup_bs, lst_bs, Option.map_some, Bool.and_true, Bool.true_and, Bool.and_false, Bool.false_and, Bool.or_true, Bool.true_or, Bool.or_false, Bool.false_or, List.cons_beq_cons, nb_cons, cb_nil, Nat.reduceBEq, beq_self_eq_true, Int.reduceBEq, and_self, and_true, true_and, tl_tup, tt_tup, hz]
      rw [lcL_map (g := fun _ => .bl true) (grd_nil _)]
      · simp only [exSs, exS.eq_1, exS.eq_2, exS.eq_3, exS.eq_4, exS.eq_5, exS.eq_8, exS.eq_9, exS.eq_10, exS.eq_11, exS.eq_12, x_whil, x_forr, lpC_ap, lpB_ap, evE, evEs, evO, evS, evIt, evT, asT, bind_ok, st_ok, ofO_some, ofB_some, tr_non, tr_bl, tr_int, tr_tup, c_lt, c_le, c_gt, c_ge, c_eqi, c_nei, c_eqs, c_nes, c_eqb, c_neb, c_isb, c_isnb, c_isn_non, c_isnn_non, c_ins, b_addi, b_subi, i_addi, v_lent, v_lenf, v_inti, v_absi, s_tup0, s_tup1, y_tup, y_str, fin_ret, fin_next, List.map, List.replicate, List.length_cons, List.length_nil, List.getElem?_cons_zero, List.getElem?_cons_succ, List.cons_append, List.nil_append, List.append_nil, List.set_cons_zero, List.set_cons_succ, Bool.not_true, Bool.not_false, wip, setTg, setAll, if_true, if_false, reduceIte, Bool.false_eq_true, tup_bs, lst_bs, Option.map_some, Bool.and_true, Bool.true_and, Bool.and_false, Bool.false_and, Bool.or_true, Bool.true_or, Bool.or_false, Bool.false_or, List.cons_beq_cons, nb_cons, cb_nil, Nat.reduceBEq, beq_self_eq_true, Int.reduceBEq, and_self, and_true, true_and, all_bs _ _ (asBools_map (fun _ => true) _), all_true]
      · intro z hz
        obtain ⟨x, hx, rfl⟩ := zipL_same hz
        have e := law_is_ok n x (hp.2 x hx) m (by omega) h
        simp only [exSs, exS.eq_1, exS.eq_2, exS.eq_3, exS.eq_4, exS.eq_5, exS.eq_8, exS.eq_9, exS.eq_10, exS.eq_11, exS.eq_12, x_whil, x_forr, lpC_ap, lpB_ap, evE, evEs, evO, evS, evIt, evT, asT, bind_ok, st_ok, ofO_some, ofB_some, tr_non, tr_bl, tr_int, tr_tup, c_lt, c_le, c_gt, c_ge, c_eqi, c_nei, c_eqs, c_nes, c_eqb, c_neb, c_isb, c_isnb, c_isn_non, c_isnn_non, c_ins, b_addi, b_subi, i_addi, v_lent, v_lenf, v_inti, v_absi, s_tup0, s_tup1, y_tup, y_str, fin_ret, fin_next, List.map, List.replicate, List.length_cons, List.length_nil, List.getElem?_cons_zero, List.getElem?_cons_succ, List.cons_append, List.nil_append, List.append_nil, List.set_cons_zero, List.set_cons_succ, Bool.not_true, Bool.not_false, wip, setTg, setAll, if_true, if_false, reduceIte, Bool.false_eq_true, tup_bs, lst_bs, Option.map_some, Bool.and_true, Bool.true_and, Bool.and_false, Bool.false_and, Bool.or_true, Bool.true_or, Bool.or_false, Bool.false_or, List.cons_beq_cons, nb_cons, cb_nil, Nat.reduceBEq, beq_self_eq_true, Int.reduceBEq, and_self, and_true, true_and, e]
    | _ => exact hp.elim
theorem encs_mem : ∀ {ts : Trs} {P : IV → Prop}, AllT (fun t => P (enc t)) ts → ∀ x ∈ encs ts, P x
  | .nil, _, _, x, hx => by simp [encs] at hx
  | .cons t ts, P, h, x, hx => by
    simp only [encs, List.mem_cons] at hx
    rcases hx with rfl | hx
    · exact h.1
    · exact encs_mem h.2 x hx
theorem enc_pure : ∀ (n : Nat) (t : Tr), dep t ≤ n → okT t = true → Pure (2 * n) (enc t)
  | 0, t, hd, _ => by have := dep_pos t; omega
  | n + 1, t, hd, ho => by
    show Pure (2 * n + 1 + 1) (enc t)
    cases t with
    | act l => exact ⟨by simp [big], fun x hx => by
        simp at hx
        rcases hx with rfl | rfl <;> trivial⟩
    | skip => exact ⟨by simp [big], fun x hx => by
        simp at hx
        rcases hx with rfl
        trivial⟩
    | again t =>
      simp only [dep, okT] at hd ho
      refine ⟨by simp [big], fun x hx => ?_⟩
      simp at hx
      rcases hx with rfl | rfl
      · trivial
      · exact (enc_pure n t (by omega) ho).mono (by omega)
    | node kd ts =>
      simp only [dep, okT, Bool.and_eq_true] at hd ho
      refine ⟨by simp [big], fun x hx => ?_⟩
      simp at hx
      rcases hx with rfl | rfl
      · trivial
      · refine ⟨?_, encs_mem (P := fun v => Pure (2 * n) v) ((AllT.and (deps_all (n := n) (by omega)) (okTs_all ho.2)).imp fun t ⟨h1, h2⟩ => enc_pure n t h1 h2)⟩
        rw [encs_len]
        have := of_decide_eq_true ho.1.2
        exact small_big (by omega)
theorem law_is_enc {t : Tr} (p : Pr t) : callF D W (k + 16) 26 [enc t, enc t] h = .ok (.bl true) h := law_is_ok 16 _ (enc_pure 8 t p.dep p.ok) _ (by omega) h
theorem law_is_str (l : List Nat) : callF D W (k + 1) 26 [.str l, .str l] h = .ok (.bl true) h := law_is_ok 1 (.str l) (show Pure 1 (.str l) from trivial) _ (by omega) h
theorem law_is_row {ns : List (List Nat)} (hl : ns.length ≤ 200) : callF D W (k + 2) 26 [.tup (ns.map .str), .tup (ns.map .str)] h = .ok (.bl true) h := law_is_ok 2 (.tup (ns.map .str)) (show Pure 2 (.tup (ns.map .str)) from ⟨by simp; exact small_big (by omega), fun x hx => by
  obtain ⟨n, _, rfl⟩ := List.mem_map.mp hx
  trivial⟩) _ (by omega) h
/-! ### == of trees -/
open PySem in
mutual
def dat : Tr → PyData
  | .act n => .tuple [.str ⟨#[100, 111]⟩, .str ⟨n.toArray⟩]
  | .skip => .tuple [.str ⟨#[115, 107, 105, 112]⟩]
  | .again t => .tuple [.str ⟨#[97, 103, 97, 105, 110]⟩, dat t]
  | .node k ts => .tuple [.str ⟨(kw k).toArray⟩, .tuple (dats ts)]
def dats : Trs → List PyData
  | .nil => []
  | .cons t ts => dat t :: dats ts
end
theorem okName_ch {n : List Nat} (h : okName n = true) : n.all (· < 0x110000) = true := by
  have h3 := (okName_len h).2.2
  rw [List.all_eq_true] at h3 ⊢
  intro c hc
  have := h3 c hc
  unfold isLet at this
  simp at this ⊢
  omega
theorem toD_str (n : Nat) {l : List Nat} (hl : l.all (· < 0x110000) = true) : toD h n (.str l) = some (.str ⟨l.toArray⟩) := by
  cases n <;> simp only [toD, hl, if_true]
theorem toD_tup (n : Nat) (xs : List IV) : toD h (n + 1) (.tup xs) = (xs.mapM (toD h n)).map .tuple := by simp only [toD]
theorem mapM2 {α β : Type} (f : α → Option β) {x y : α} {a b : β} (e1 : f x = some a) (e2 : f y = some b) : [x, y].mapM f = some [a, b] := by simp [List.mapM_cons, e1, e2]
theorem mapM1 {α β : Type} (f : α → Option β) {x : α} {a : β} (e1 : f x = some a) : [x].mapM f = some [a] := by simp [List.mapM_cons, e1]
theorem mapM_encs {n : Nat} : ∀ {ts : Trs}, AllT (fun t => toD h n (enc t) = some (dat t)) ts → (encs ts).mapM (toD h n) = some (dats ts)
  | .nil, _ => by simp [encs, dats]
  | .cons t ts, q => by simp [encs, dats, List.mapM_cons, q.1, mapM_encs q.2]
theorem toD_enc : ∀ (n : Nat) (t : Tr), dep t ≤ n → okT t = true → ∀ m, 2 * n ≤ m → toD h m (enc t) = some (dat t)
  | 0, t, hd, _, _, _ => by have := dep_pos t; omega
  | n + 1, t, hd, ho, m, hm => by
    obtain ⟨m, rfl⟩ : ∃ m', m = m' + 2 := ⟨m - 2, by omega⟩
    cases t with
    | act l =>
      simp only [okT] at ho
      simp only [enc, dat, toD_tup]
      rw [mapM2 _ (toD_str _ rfl) (toD_str _ (okName_ch ho))]
      rfl
    | skip =>
      simp only [enc, dat, toD_tup]
      rw [mapM1 _ (toD_str _ rfl)]
      rfl
    | again t =>
      simp only [dep, okT] at hd ho
      simp only [enc, dat, toD_tup]
      rw [mapM2 _ (toD_str _ rfl) (toD_enc n t (by omega) ho (m + 1) (by omega))]
      rfl
    | node kd ts =>
      simp only [dep, okT, Bool.and_eq_true] at hd ho
      have e : (encs ts).mapM (toD h m) = some (dats ts) := mapM_encs ((AllT.and (deps_all (n := n) (by omega)) (okTs_all ho.2)).imp fun t ⟨h1, h2⟩ => toD_enc n t h1 h2 m (by omega))
      simp only [enc, dat, toD_tup]
      rw [mapM2 (toD h (m + 1)) (toD_str _ (by cases kd <;> rfl)) (by rw [toD_tup, e]; rfl)]
      rfl
section
open PySem
theorem v_tt (xs ys : List PyData) : PyData.eqv (.tuple xs) (.tuple ys) = PyData.eqvAll xs ys := by rw [PyData.eqv]
theorem v_ss (x y : Str) : PyData.eqv (.str x) (.str y) = (x == y) := by rw [PyData.eqv]
theorem v_st (x : Str) (y : List PyData) : PyData.eqv (.str x) (.tuple y) = false := by rw [PyData.eqv]
theorem v_ts (x : Str) (y : List PyData) : PyData.eqv (.tuple y) (.str x) = false := by rw [PyData.eqv]
theorem v_cc (x y : PyData) (xs ys : List PyData) : PyData.eqvAll (x :: xs) (y :: ys) = (PyData.eqv x y && PyData.eqvAll xs ys) := by rw [PyData.eqvAll]
theorem v_nn : PyData.eqvAll [] [] = true := by rw [PyData.eqvAll]
theorem v_nc (x : PyData) (xs : List PyData) : PyData.eqvAll [] (x :: xs) = false := by rw [PyData.eqvAll]
theorem v_cn (x : PyData) (xs : List PyData) : PyData.eqvAll (x :: xs) [] = false := by rw [PyData.eqvAll]
theorem dat_tup (t : Tr) : ∃ xs, dat t = .tuple xs := by cases t <;> exact ⟨_, rfl⟩
theorem v_sd (x : Str) (t : Tr) : PyData.eqv (.str x) (dat t) = false := by obtain ⟨xs, e⟩ := dat_tup t; rw [e, v_st]
theorem v_ds (x : Str) (t : Tr) : PyData.eqv (dat t) (.str x) = false := by obtain ⟨xs, e⟩ := dat_tup t; rw [e, v_ts]
theorem enc_str (t : Tr) (l : List Nat) : enc t ≠ .str l := by cases t <;> simp [enc]
theorem sq (a b : List Nat) : (((⟨a.toArray⟩ : Str) == ⟨b.toArray⟩) = true) = (a = b) := by
  rw [beq_iff_eq]
  simp
theorem sq2 (a b : List Nat) (h : a ≠ b) : ((⟨a.toArray⟩ : Str) == ⟨b.toArray⟩) = false := by
  simpa using h
mutual
theorem dat_eq : ∀ (a b : Tr), (PyData.eqv (dat a) (dat b) = true ↔ enc a = enc b)
  | .act n, b => by
    cases b with
    | act m => simp only [dat, enc, v_tt, v_cc, v_nn, v_ss]; simp
    | skip => simp only [dat, enc, v_tt, v_cc, v_cn, v_ss]; simp
    | again u => simp only [dat, enc, v_tt, v_cc, v_nn, v_ss, v_sd]; simp
    | node kd us => simp only [dat, enc, v_tt, v_cc, v_nn, v_ss, v_st]; simp
  | .skip, b => by
    cases b with
    | act m => simp only [dat, enc, v_tt, v_cc, v_nc, v_ss]; simp
    | skip => simp only [dat, enc, v_tt, v_cc, v_nn, v_ss]; simp
    | again u => simp only [dat, enc, v_tt, v_cc, v_nc, v_ss, v_sd]; simp
    | node kd us => simp only [dat, enc, v_tt, v_cc, v_nc, v_ss, v_st]; simp
  | .again t, b => by
    cases b with
    | again u =>
      have := dat_eq t u
      simp only [dat, enc, v_tt, v_cc, v_nn, v_ss]
      simp [this]
    | act n =>
      simp only [dat, enc, v_tt, v_cc, v_nn, v_ss, v_ds]
      simp
    | skip => simp only [dat, enc, v_tt, v_cc, v_cn, v_ss]; simp
    | node kd us =>
      have : (kw kd) ≠ [97, 103, 97, 105, 110] := by cases kd <;> simp [kw]
      have e : ((⟨#[97, 103, 97, 105, 110]⟩ : Str) == ⟨(kw kd).toArray⟩) = false := by cases kd <;> rfl
      simp only [dat, enc, v_tt, v_cc, v_nn, v_ss, e]
      simp [this.symm]
  | .node kd ts, b => by
    cases b with
    | node ke us =>
      have := dats_eq ts us
      have e : (((⟨(kw kd).toArray⟩ : Str) == ⟨(kw ke).toArray⟩) = true) = (kw kd = kw ke) := sq _ _
      simp only [dat, enc, v_tt, v_cc, v_nn, v_ss, Bool.and_eq_true, e, this]
      simp
    | act n => simp only [dat, enc, v_tt, v_cc, v_nn, v_ss, v_ts]; simp
    | skip => simp only [dat, enc, v_tt, v_cc, v_cn, v_ss]; simp
    | again u =>
      have : (kw kd) ≠ [97, 103, 97, 105, 110] := by cases kd <;> simp [kw]
      have e : ((⟨(kw kd).toArray⟩ : Str) == ⟨#[97, 103, 97, 105, 110]⟩) = false := by cases kd <;> rfl
      simp only [dat, enc, v_tt, v_cc, v_nn, v_ss, e]
      simp [this]
theorem dats_eq : ∀ (a b : Trs), (PyData.eqvAll (dats a) (dats b) = true ↔ encs a = encs b)
  | .nil, .nil => by simp only [dats, encs, v_nn]
  | .nil, .cons t ts => by simp only [dats, encs, v_nc]; simp
  | .cons t ts, .nil => by simp only [dats, encs, v_cn]; simp
  | .cons t ts, .cons u us => by
    have h1 := dat_eq t u
    have h2 := dats_eq ts us
    simp only [dats, encs, v_cc, Bool.and_eq_true, h1, h2]
    simp
end
end
theorem enc_flat (t : Tr) : flat (enc t) = false := by cases t <;> rfl
theorem ptx_iff {a b : Tr} (pa : Pr a) (pb : Pr b) : (ptx a = ptx b) ↔ enc a = enc b := by
  constructor
  · intro e
    obtain ⟨h1, e1, _⟩ := read_proc pa (W := 10) (k := 0) (h := []) (by omega)
    obtain ⟨h2, e2, _⟩ := read_proc pb (W := 10) (k := 0) (h := []) (by omega)
    rw [e, e2] at e1
    injection e1 with e1
    exact e1.symm
  · intro e
    have e1 := told_enc 8 a pa.dep pa.len (W := 10) (h := [])
    have e2 := told_enc 8 b pb.dep pb.len (W := 10) (h := [])
    rw [e, e2] at e1
    injection e1 with e1
    injection e1 with e1
    exact e1.symm
theorem eqI_enc {a b : Tr} (pa : Pr a) (pb : Pr b) : eqI h (enc a) (enc b) = some (ptx a == ptx b) := by
  unfold eqI
  rw [enc_flat, Bool.false_and]
  simp only [Bool.false_eq_true, if_false]
  rw [toD_enc 8 a pa.dep pa.ok 60 (by omega), toD_enc 8 b pb.dep pb.ok 60 (by omega)]
  simp only
  congr 1
  rw [Bool.eq_iff_iff, dat_eq, ← ptx_iff pa pb]
  simp
theorem eqT {a b : Tr} (pa : Pr a) (pb : Pr b) : cmpI .eq (enc a) (enc b) h = .ok (.bl (ptx a == ptx b)) h := by
  show ofB (eqI h (enc a) (enc b)) h = _
  rw [eqI_enc pa pb]
  rfl
end K76
namespace K76
open MP
variable {W k : Nat} {h h' h'' : IH}
def names : List (List Nat) := [[97], [98], [122, 122], [97, 98, 99, 100, 101, 102, 103, 104], [99, 104, 101, 99, 107, 101, 100], [120], [113, 97], [109]]
/-- the hand, the names -/
structure Hd (a b c : Nat) (cells : List Int) (h : IH) : Prop where
  hand : ∃ (i cur s n : Int), 0 ≤ i ∧ h[a]? = some (.lst [.loc c, .int i, .int cur, .int s, .int n])
  cel : h[c]? = some (.lst (cells.map .int))
  nam : h[b]? = some (.lst (names.map .str))
  ac : a ≠ c
  ab : a ≠ b
theorem Hd.keep {a b c : Nat} {cells : List Int} (H : Hd a b c cells h) (kp : ∀ (n : Nat) (o : IO), h[n]? = some o → h'[n]? = some o) : Hd a b c cells h' := by
  obtain ⟨i, cur, s, n, h0, e⟩ := H.hand
  exact ⟨⟨i, cur, s, n, h0, kp _ _ e⟩, kp _ _ H.cel, kp _ _ H.nam, H.ac, H.ab⟩
theorem Hd.write {a b c : Nat} {cells : List Int} (H : Hd a b c cells h) {i cur s n : Int} (h0 : 0 ≤ i) : Hd a b c cells (h.set a (.lst [.loc c, .int i, .int cur, .int s, .int n])) := by
  obtain ⟨_, _, _, _, _, e⟩ := H.hand
  exact ⟨⟨i, cur, s, n, h0, set_get e⟩, by rw [set_ne H.ac]; exact H.cel, by rw [set_ne H.ab]; exact H.nam, H.ac, H.ab⟩
theorem l5_0 {a : Nat} {v0 v1 v2 v3 v4 : IV} (e : h[a]? = some (.lst [v0, v1, v2, v3, v4])) : subI (.loc a) (.int 0) h = .ok v0 h := s_loc _ _ _ _ e rfl
theorem l5_1 {a : Nat} {v0 v1 v2 v3 v4 : IV} (e : h[a]? = some (.lst [v0, v1, v2, v3, v4])) : subI (.loc a) (.int 1) h = .ok v1 h := s_loc _ _ _ _ e rfl
theorem l5_2 {a : Nat} {v0 v1 v2 v3 v4 : IV} (e : h[a]? = some (.lst [v0, v1, v2, v3, v4])) : subI (.loc a) (.int 2) h = .ok v2 h := s_loc _ _ _ _ e rfl
theorem l5_3 {a : Nat} {v0 v1 v2 v3 v4 : IV} (e : h[a]? = some (.lst [v0, v1, v2, v3, v4])) : subI (.loc a) (.int 3) h = .ok v3 h := s_loc _ _ _ _ e rfl
theorem l5_4 {a : Nat} {v0 v1 v2 v3 v4 : IV} (e : h[a]? = some (.lst [v0, v1, v2, v3, v4])) : subI (.loc a) (.int 4) h = .ok v4 h := s_loc _ _ _ _ e rfl
theorem w5_1 {a : Nat} {v0 v1 v2 v3 v4 v : IV} (e : h[a]? = some (.lst [v0, v1, v2, v3, v4])) : setI (.loc a) (.int 1) v h = .ok () (h.set a (.lst [v0, v, v2, v3, v4])) := by simp [setI, e, ixN]
theorem w5_2 {a : Nat} {v0 v1 v2 v3 v4 v : IV} (e : h[a]? = some (.lst [v0, v1, v2, v3, v4])) : setI (.loc a) (.int 2) v h = .ok () (h.set a (.lst [v0, v1, v, v3, v4])) := by simp [setI, e, ixN]
theorem w5_3 {a : Nat} {v0 v1 v2 v3 v4 v : IV} (e : h[a]? = some (.lst [v0, v1, v2, v3, v4])) : setI (.loc a) (.int 3) v h = .ok () (h.set a (.lst [v0, v1, v2, v, v4])) := by simp [setI, e, ixN]
theorem w5_4 {a : Nat} {v0 v1 v2 v3 v4 v : IV} (e : h[a]? = some (.lst [v0, v1, v2, v3, v4])) : setI (.loc a) (.int 4) v h = .ok () (h.set a (.lst [v0, v1, v2, v3, v])) := by simp [setI, e, ixN]
theorem b_pow (i j : Int) (hj : 0 ≤ j ∧ j ≤ 1000000 ∧ i.natAbs < 2 ^ 64) : binI .pow (.int i) (.int j) h = .ok (.int (i ^ j.toNat)) h := if_pos hj
theorem ex_set {o i v : IV} {a : Nat} {xs : List IV} {o' : IO} (w : setI o i v h = .ok () (h.set a o')) (e : h[a]? = some (.lst xs)) : ∃ hA, setI o i v h = .ok () hA ∧ hA[a]? = some o' ∧ hA = h.set a o' := ⟨_, w, set_get e, rfl⟩
abbrev drS1 : St := (.cond (.and (.cmp .eq (.sub (.var 0) (.con (.int 2))) (.con (.int 0))) (.cmp .lt (.sub (.var 0) (.con (.int 1))) (.bv .len (.sub (.var 0) (.con (.int 0))))))
    (.cons (.asg (.nm 2) (.sub (.sub (.var 0) (.con (.int 0))) (.sub (.var 0) (.con (.int 1)))))
    (.cons (.asg (.sub (.var 0) (.con (.int 1))) (.bin .add (.sub (.var 0) (.con (.int 1))) (.con (.int 1))))
    (.cons (.asg (.sub (.var 0) (.con (.int 3))) (.bin .mod (.bv .int (.bin .add (.bin .add (.bin .mul (.sub (.var 0) (.con (.int 3))) (.con (.int 48271))) (.var 2)) (.con (.int 31)))) (.con (.int 2147483647))))
    (.cons (.cond (.cmp .ge (.var 2) (.bin .pow (.con (.int 10)) (.con (.int 18))))
    (.cons (.asg (.sub (.var 0) (.con (.int 2))) (.var 2))
    .nil)
    .nil)
    .nil))))
    .nil)
theorem draw_1 {C : MP.Callee} {a b c : Nat} {cells : List Int} {m : IV} (H : Hd a b c cells h) : ∃ h' x, exS C W drS1 [some (.loc a), some m, none, none, none] h = .ok (.next, [some (.loc a), some m, x, none, none]) h' ∧ Hd a b c cells h' ∧ Kp a h h' := by
  obtain ⟨i, cur, s, n, h0, e⟩ := H.hand
  by_cases h1 : cur = 0
  · subst h1
    by_cases h2 : i < (cells.length : Int)
    · have hc : atI (cells.map IV.int) i = some (.int (cells[i.toNat]'(by omega))) := by
        rw [at_int _ _ h0 (by simpa using h2)]
        rw [List.getElem?_map, List.getElem?_eq_getElem (by omega)]
        rfl
      generalize cells[i.toNat]'(by omega) = cell at hc
      have c1 := H.cel
      obtain ⟨hA, wA, eA, qA⟩ := ex_set (w5_1 (v := .int (i + 1)) e) e
      obtain ⟨hB, wB, eB, qB⟩ := ex_set (w5_3 (v := .int ((s * 48271 + cell + 31) % 2147483647)) eA) eA
      have HB : Hd a b c cells hB := by
        rw [qB, qA]
        exact (H.write (i := i + 1) (cur := 0) (s := s) (n := n) (by omega)).write (by omega)
      have kB : Kp a h hB := by
        rw [qB, qA]
        exact (Kp.set ..).trans (Kp.set ..)
      have lt : (i < ((cells.map IV.int).length : Int)) = True := by simpa using h2
      by_cases h3 : (10 : Int) ^ 18 ≤ cell
      · obtain ⟨hC, wC, eC, qC⟩ := ex_set (w5_2 (v := .int cell) eB) eB
        refine ⟨hC, some (.int cell), ?_, by rw [qC]; exact HB.write (by omega), kB.trans (by rw [qC]; exact Kp.set ..)⟩
        have h3' : ((10 : Int) ^ (18 : Int).toNat ≤ cell) = True := by simpa using h3
        simp only [exSs, exS.eq_1, exS.eq_2, exS.eq_3, exS.eq_4, exS.eq_5, exS.eq_8, exS.eq_9, exS.eq_10, exS.eq_11, exS.eq_12, x_whil, x_forr, lpC_ap, lpB_ap, evE, evEs, evO, evS, evIt, evT, asT, bind_ok, st_ok, ofO_some, ofB_some, tr_non, tr_bl, tr_int, tr_tup, c_lt, c_le, c_gt, c_ge, c_eqi, c_nei, c_eqs, c_nes, c_eqb, c_neb, c_isb, c_isnb, c_isn_non, c_isnn_non, c_ins, b_addi, b_subi, i_addi, v_lent, v_lenf, v_inti, v_absi, s_tup0, s_tup1, y_tup, y_str, fin_ret, fin_next, List.map, List.replicate, List.length_cons, List.length_nil, List.getElem?_cons_zero, List.getElem?_cons_succ, List.cons_append, List.nil_append, List.append_nil, List.set_cons_zero, List.set_cons_succ, Bool.not_true, Bool.not_false, wip, setTg, setAll, if_true, if_false, reduceIte, Bool.false_eq_true, tup_bs, lst_bs, Option.map_some, Bool.and_true, Bool.true_and, Bool.and_false, Bool.false_and, Bool.or_true, Bool.true_or, Bool.or_false, Bool.false_or, List.cons_beq_cons, nb_cons, cb_nil, Nat.reduceBEq, beq_self_eq_true, Int.reduceBEq, and_self, and_true, true_and, l5_0 e, l5_1 e, l5_2 e, v_lenl _ _ c1, lt, decide_true, s_loc _ _ _ _ c1 hc, wA, b_mulr _ 48271 (by omega), l5_3 eA, wB, b_mod _ 2147483647 (by omega), b_pow 10 18 (by decide), h3', wC]
      · refine ⟨hB, some (.int cell), ?_, HB, kB⟩
        have h3' : ((10 : Int) ^ (18 : Int).toNat ≤ cell) = False := by simpa using h3
        simp only [exSs, exS.eq_1, exS.eq_2, exS.eq_3, exS.eq_4, exS.eq_5, exS.eq_8, exS.eq_9, exS.eq_10, exS.eq_11, exS.eq_12, x_whil, x_forr, lpC_ap, lpB_ap, evE, evEs, evO, evS, evIt, evT, asT, bind_ok, st_ok, ofO_some, ofB_some, tr_non, tr_bl, tr_int, tr_tup, c_lt, c_le, c_gt, c_ge, c_eqi, c_nei, c_eqs, c_nes, c_eqb, c_neb, c_isb, c_isnb, c_isn_non, c_isnn_non, c_ins, b_addi, b_subi, i_addi, v_lent, v_lenf, v_inti, v_absi, s_tup0, s_tup1, y_tup, y_str, fin_ret, fin_next, List.map, List.replicate, List.length_cons, List.length_nil, List.getElem?_cons_zero, List.getElem?_cons_succ, List.cons_append, List.nil_append, List.append_nil, List.set_cons_zero, List.set_cons_succ, Bool.not_true, Bool.not_false, wip, setTg, setAll, if_true, if_false, reduceIte, Bool.false_eq_true, tup_bs, lst_bs, Option.map_some, Bool.and_true, Bool.true_and, Bool.and_false, Bool.false_and, Bool.or_true, Bool.true_or, Bool.or_false, Bool.false_or, List.cons_beq_cons, nb_cons, cb_nil, Nat.reduceBEq, beq_self_eq_true, Int.reduceBEq, and_self, and_true, true_and, l5_0 e, l5_1 e, l5_2 e, v_lenl _ _ c1, lt, decide_true, s_loc _ _ _ _ c1 hc, wA, b_mulr _ 48271 (by omega), l5_3 eA, wB, b_mod _ 2147483647 (by omega), b_pow 10 18 (by decide), h3', decide_false]
    · refine ⟨h, none, ?_, H, Kp.refl ..⟩
      have lt : (i < ((cells.map IV.int).length : Int)) = False := by simpa using h2
      simp only [exSs, exS.eq_1, exS.eq_2, exS.eq_3, exS.eq_4, exS.eq_5, exS.eq_8, exS.eq_9, exS.eq_10, exS.eq_11, exS.eq_12, x_whil, x_forr, lpC_ap, lpB_ap, evE, evEs, evO, evS, evIt, evT, asT, bind_ok, st_ok, ofO_some, ofB_some, tr_non, tr_bl, tr_int, tr_tup, c_lt, c_le, c_gt, c_ge, c_eqi, c_nei, c_eqs, c_nes, c_eqb, c_neb, c_isb, c_isnb, c_isn_non, c_isnn_non, c_ins, b_addi, b_subi, i_addi, v_lent, v_lenf, v_inti, v_absi, s_tup0, s_tup1, y_tup, y_str, fin_ret, fin_next, List.map, List.replicate, List.length_cons, List.length_nil, List.getElem?_cons_zero, List.getElem?_cons_succ, List.cons_append, List.nil_append, List.append_nil, List.set_cons_zero, List.set_cons_succ, Bool.not_true, Bool.not_false, wip, setTg, setAll, if_true, if_false, reduceIte, Bool.false_eq_true, tup_bs, lst_bs, Option.map_some, Bool.and_true, Bool.true_and, Bool.and_false, Bool.false_and, Bool.or_true, Bool.true_or, Bool.or_false, Bool.false_or, List.cons_beq_cons, nb_cons, cb_nil, Nat.reduceBEq, beq_self_eq_true, Int.reduceBEq, and_self, and_true, true_and, l5_0 e, l5_1 e, l5_2 e, v_lenl _ _ H.cel, lt, decide_false]
  · refine ⟨h, none, ?_, H, Kp.refl ..⟩
    have : (cur == 0) = false := by simpa using h1
    simp only [exSs, exS.eq_1, exS.eq_2, exS.eq_3, exS.eq_4, exS.eq_5, exS.eq_8, exS.eq_9, exS.eq_10, exS.eq_11, exS.eq_12, x_whil, x_forr, lpC_ap, lpB_ap, evE, evEs, evO, evS, evIt, evT, asT, bind_ok, st_ok, ofO_some, ofB_some, tr_non, tr_bl, tr_int, tr_tup, c_lt, c_le, c_gt, c_ge, c_eqi, c_nei, c_eqs, c_nes, c_eqb, c_neb, c_isb, c_isnb, c_isn_non, c_isnn_non, c_ins, b_addi, b_subi, i_addi, v_lent, v_lenf, v_inti, v_absi, s_tup0, s_tup1, y_tup, y_str, fin_ret, fin_next, List.map, List.replicate, List.length_cons, List.length_nil, List.getElem?_cons_zero, List.getElem?_cons_succ, List.cons_append, List.nil_append, List.append_nil, List.set_cons_zero, List.set_cons_succ, Bool.not_true, Bool.not_false, wip, setTg, setAll, if_true, if_false, reduceIte, Bool.false_eq_true, tup_bs, lst_bs, Option.map_some, Bool.and_true, Bool.true_and, Bool.and_false, Bool.false_and, Bool.or_true, Bool.true_or, Bool.or_false, Bool.false_or, List.cons_beq_cons, nb_cons, cb_nil, Nat.reduceBEq, beq_self_eq_true, Int.reduceBEq, and_self, and_true, true_and, l5_2 e, this]
theorem draw_ok {a b c : Nat} {cells : List Int} {m : Int} (hm : 0 < m ∧ m < 1073741824) (H : Hd a b c cells h) : ∃ r h', callF D W (k + 1) 20 [.loc a, .int m] h = .ok (.int r) h' ∧ 0 ≤ r ∧ r < m ∧ Hd a b c cells h' ∧ Kp a h h' := by
  obtain ⟨h1, x, e1, H1, k1⟩ := draw_1 (C := callF D W k) (W := W) (m := .int m) H
  obtain ⟨i, cur, s, n, h0, e⟩ := H1.hand
  have key : ∀ y : Int, 0 ≤ y % m ∧ y % m < m := fun y => ⟨Int.emod_nonneg _ (by omega), Int.emod_lt_of_pos _ hm.1⟩
  by_cases hc : 0 < cur
  · obtain ⟨hA, wA, eA, qA⟩ := ex_set (w5_2 (v := .int (cur / m)) e) e
    refine ⟨cur % m, hA, ?_, (key _).1, (key _).2, by rw [qA]; exact H1.write h0, k1.trans (by rw [qA]; exact Kp.set ..)⟩
    rw [cf_eq d_law_draw rfl rfl rfl]
    have ht : (0 < cur) = True := by simpa using hc
    show finR (exSs (callF D W k) W (.cons drS1 _) [some (.loc a), some (.int m), none, none, none] h) = _
    rw [exSs, e1]
    simp only [exSs, exS.eq_1, exS.eq_2, exS.eq_3, exS.eq_4, exS.eq_5, exS.eq_8, exS.eq_9, exS.eq_10, exS.eq_11, exS.eq_12, x_whil, x_forr, lpC_ap, lpB_ap, evE, evEs, evO, evS, evIt, evT, asT, bind_ok, st_ok, ofO_some, ofB_some, tr_non, tr_bl, tr_int, tr_tup, c_lt, c_le, c_gt, c_ge, c_eqi, c_nei, c_eqs, c_nes, c_eqb, c_neb, c_isb, c_isnb, c_isn_non, c_isnn_non, c_ins, b_addi, b_subi, i_addi, v_lent, v_lenf, v_inti, v_absi, s_tup0, s_tup1, y_tup, y_str, fin_ret, fin_next, List.map, List.replicate, List.length_cons, List.length_nil, List.getElem?_cons_zero, List.getElem?_cons_succ, List.cons_append, List.nil_append, List.append_nil, List.set_cons_zero, List.set_cons_succ, Bool.not_true, Bool.not_false, wip, setTg, setAll, if_true, if_false, reduceIte, Bool.false_eq_true, tup_bs, lst_bs, Option.map_some, Bool.and_true, Bool.true_and, Bool.and_false, Bool.false_and, Bool.or_true, Bool.true_or, Bool.or_false, Bool.false_or, List.cons_beq_cons, nb_cons, cb_nil, Nat.reduceBEq, beq_self_eq_true, Int.reduceBEq, and_self, and_true, true_and, l5_2 e, ht, decide_true, b_mod _ _ hm.1, b_div _ _ hm, wA]
  · obtain ⟨hA, wA, eA, qA⟩ := ex_set (w5_4 (v := .int (n + 1)) e) e
    have r1 : ∀ y z : Int, 0 < z → -(2 ^ 64) < y % z ∧ (z < 2 ^ 64 → y % z < 2 ^ 64) := fun y z hz => by
      have := Int.emod_nonneg y (show z ≠ 0 by omega)
      have := Int.emod_lt_of_pos y hz
      exact ⟨by omega, fun _ => by omega⟩
    have m1 : ∀ y z : Int, binI .mul (.int (y % 2147483399)) (.int z) hA = .ok (.int (y % 2147483399 * z)) hA := fun y z => b_mull _ _ ⟨(r1 y _ (by omega)).1, (r1 y _ (by omega)).2 (by omega)⟩
    have m2 : ∀ y z : Int, binI .mul (.int (y % 2147483629)) (.int z) hA = .ok (.int (y % 2147483629 * z)) hA := fun y z => b_mull _ _ ⟨(r1 y _ (by omega)).1, (r1 y _ (by omega)).2 (by omega)⟩
    have : ∃ y : Int, callF D W (k + 1) 20 [.loc a, .int m] h = .ok (.int (y % m)) hA := by
      rw [cf_eq d_law_draw rfl rfl rfl]
      have ht : (0 < cur) = False := by simpa using hc
      show ∃ y : Int, finR (exSs (callF D W k) W (.cons drS1 _) [some (.loc a), some (.int m), none, none, none] h) = _
      rw [exSs, e1]
      simp only [exSs, exS.eq_1, exS.eq_2, exS.eq_3, exS.eq_4, exS.eq_5, exS.eq_8, exS.eq_9, exS.eq_10, exS.eq_11, exS.eq_12, x_whil, x_forr, lpC_ap, lpB_ap, evE, evEs, evO, evS, evIt, evT, asT, bind_ok, st_ok, ofO_some, ofB_some, tr_non, tr_bl, tr_int, tr_tup, c_lt, c_le, c_gt, c_ge, c_eqi, c_nei, c_eqs, c_nes, c_eqb, c_neb, c_isb, c_isnb, c_isn_non, c_isnn_non, c_ins, b_addi, b_subi, i_addi, v_lent, v_lenf, v_inti, v_absi, s_tup0, s_tup1, y_tup, y_str, fin_ret, fin_next, List.map, List.replicate, List.length_cons, List.length_nil, List.getElem?_cons_zero, List.getElem?_cons_succ, List.cons_append, List.nil_append, List.append_nil, List.set_cons_zero, List.set_cons_succ, Bool.not_true, Bool.not_false, wip, setTg, setAll, if_true, if_false, reduceIte, Bool.false_eq_true, tup_bs, lst_bs, Option.map_some, Bool.and_true, Bool.true_and, Bool.and_false, Bool.false_and, Bool.or_true, Bool.true_or, Bool.or_false, Bool.false_or, List.cons_beq_cons, nb_cons, cb_nil, Nat.reduceBEq, beq_self_eq_true, Int.reduceBEq, and_self, and_true, true_and, l5_2 e, ht, decide_false, l5_4 e, wA, l5_3 eA, l5_4 eA, b_mull 6151 _ (by omega), b_mulr _ 40692 (by omega), b_mod _ 2147483399 (by omega), b_div _ 1223 (by omega), m1, b_mod _ 2147483629 (by omega), b_div _ 2671 (by omega), m2, b_mod _ 2147483647 (by omega), b_div _ 32 (by omega), b_mod _ m hm.1]
      exact ⟨_, rfl⟩
    obtain ⟨y, hy⟩ := this
    exact ⟨_, hA, hy, (key _).1, (key _).2, by rw [qA]; exact H1.write h0, k1.trans (by rw [qA]; exact Kp.set ..)⟩
end K76
namespace K76
open MP
variable {W k : Nat} {h h' h'' : IH} {a b c : Nat} {cells : List Int}
theorem Hd.after (H : Hd a b c cells h) (kp : Kp a h h') (hh : ∃ (i cur s n : Int), 0 ≤ i ∧ h'[a]? = some (.lst [.loc c, .int i, .int cur, .int s, .int n])) : Hd a b c cells h' := ⟨hh, kp.at_ _ _ (Ne.symm H.ac) H.cel, kp.at_ _ _ (Ne.symm H.ab) H.nam, H.ac, H.ab⟩
theorem Hd.snoc (H : Hd a b c cells h) (o : IO) : Hd a b c cells (h ++ [o]) := H.keep fun n o e => (Gr.snoc h _).get e
theorem some_loc {d : Nat} {xs : List IV} (H : Hd a b c cells h) (e : h[d]? = some (.lst xs)) (hd : d ≠ a) (hx : xs ≠ []) (hl : xs.length < 1073741824) : ∃ v h', callF D W (k + 2) 21 [.loc a, .loc d] h = .ok v h' ∧ v ∈ xs ∧ Hd a b c cells h' ∧ Kp a h h' := by
  have hp : 0 < xs.length := List.length_pos_iff.mpr hx
  obtain ⟨r, h1, e1, r0, r1, H1, k1⟩ := draw_ok (W := W) (k := k) (m := (xs.length : Int)) (by omega) H
  have e2 := k1.at_ d _ hd e
  have hat : atI xs r = some (xs[r.toNat]'(by omega)) := by
    rw [at_int _ _ r0 r1, List.getElem?_eq_getElem (by omega)]
  refine ⟨_, h1, ?_, List.getElem_mem (by omega : r.toNat < xs.length), H1, k1⟩
  rw [cf_eq d_law_some rfl rfl rfl]
  simp only [d_law_some, exSs, exS.eq_1, exS.eq_2, exS.eq_3, exS.eq_4, exS.eq_5, exS.eq_8, exS.eq_9, exS.eq_10, exS.eq_11, exS.eq_12, x_whil, x_forr, lpC_ap, lpB_ap, evE, evEs, evO, evS, evIt, evT, asT, bind_ok, st_ok, ofO_some, ofB_some, tr_non, tr_bl, tr_int, tr_tup, c_lt, c_le, c_gt, c_ge, c_eqi, c_nei, c_eqs, c_nes, c_eqb, c_neb, c_isb, c_isnb, c_isn_non, c_isnn_non, c_ins, b_addi, b_subi, i_addi, v_lent, v_lenf, v_inti, v_absi, s_tup0, s_tup1, y_tup, y_str, fin_ret, fin_next, List.map, List.replicate, List.length_cons, List.length_nil, List.getElem?_cons_zero, List.getElem?_cons_succ, List.cons_append, List.nil_append, List.append_nil, List.set_cons_zero, List.set_cons_succ, Bool.not_true, Bool.not_false, wip, setTg, setAll, if_true, if_false, reduceIte, Bool.false_eq_true, tup_bs, lst_bs, Option.map_some, Bool.and_true, Bool.true_and, Bool.and_false, Bool.false_and, Bool.or_true, Bool.true_or, Bool.or_false, Bool.false_or, List.cons_beq_cons, nb_cons, cb_nil, Nat.reduceBEq, beq_self_eq_true, Int.reduceBEq, and_self, and_true, true_and, v_lenl _ _ e, e1, s_loc _ _ _ _ e2 hat]
theorem names_ok : ∀ n ∈ names, okName n = true := by decide
theorem some_name (H : Hd a b c cells h) : ∃ n h', callF D W (k + 2) 21 [.loc a, .loc b] h = .ok (.str n) h' ∧ n ∈ names ∧ Hd a b c cells h' ∧ Kp a h h' := by
  obtain ⟨v, h1, e1, hv, H1, k1⟩ := some_loc (W := W) (k := k) H H.nam (Ne.symm H.ab) (by simp [names]) (by simp [names])
  obtain ⟨n, hn, rfl⟩ := List.mem_map.mp hv
  exact ⟨n, h1, e1, hn, H1, k1⟩
theorem lcL_trees {f : IV → IH → Res IV} {P : Tr → Prop} (hf : ∀ x h, Hd a b c cells h → ∃ t h', f x h = .ok (enc t) h' ∧ P t ∧ Hd a b c cells h' ∧ Kp a h h') : ∀ (xs : List IV) (h : IH), Hd a b c cells h →
    ∃ ts h', lcL [] f xs h = .ok (encs ts) h' ∧ ts.len = xs.length ∧ AllT P ts ∧ Hd a b c cells h' ∧ Kp a h h'
  | [], h, H => ⟨.nil, h, by simp [lcL, grd_nil, encs], rfl, trivial, H, Kp.refl ..⟩
  | x :: xs, h, H => by
    obtain ⟨t, h1, e1, p1, H1, k1⟩ := hf x h H
    obtain ⟨ts, h2, e2, l2, p2, H2, k2⟩ := lcL_trees hf xs h1 H1
    exact ⟨.cons t ts, h2, by simp only [lcL, grd_nil, if_true, e1, e2, encs], by simp [Trs.len, l2], ⟨p1, p2⟩, H2, k1.trans k2⟩
theorem all_deps {n : Nat} : ∀ {ts : Trs}, AllT (fun t => dep t ≤ n) ts → deps ts ≤ n
  | .nil, _ => Nat.zero_le _
  | .cons t ts, q => by
    have := all_deps q.2
    have := q.1
    simp only [deps]
    omega
theorem all_okTs : ∀ {ts : Trs}, AllT (fun t => okT t = true) ts → okTs ts = true
  | .nil, _ => rfl
  | .cons t ts, q => by simp only [okTs, q.1, all_okTs q.2, Bool.and_self]
theorem pick4 {r : Int} (h1 : 6 ≤ r) (h2 : r < 10) : ∃ kd, atI [.str [114, 111, 119], .str [114, 111, 119], .str [112, 105, 99, 107], .str [115, 105, 100, 101, 115]] (r - 6) = some (IV.str (kw kd)) := by
  have : r = 6 ∨ r = 7 ∨ r = 8 ∨ r = 9 := by omega
  rcases this with rfl | rfl | rfl | rfl
  · exact ⟨.row, rfl⟩
  · exact ⟨.row, rfl⟩
  · exact ⟨.pick, rfl⟩
  · exact ⟨.sides, rfl⟩
theorem lb4' : (0 + 1 + 1 + 1 + 1 ≤ big) = True := by simp [big]
/-- what a drawn tree is -/
def TrOk (n : Nat) (t : Tr) : Prop := dep t ≤ n ∧ okT t = true
theorem tree_ok : ∀ (n : Nat) (L : Nat) (h : IH), n + 3 ≤ L → Hd a b c cells h → ∃ t h', callF D W L 22 [.loc a, .int ((n : Nat) + 1), .loc b] h = .ok (enc t) h' ∧ TrOk (n + 1) t ∧ Hd a b c cells h' ∧ Kp a h h' := by
  intro n
  induction n with
  | zero =>
    intro L h hL H
    obtain ⟨m, rfl⟩ : ∃ m, L = m + 3 := ⟨L - 3, by omega⟩
    obtain ⟨r, h1, e1, r0, r1, H1, k1⟩ := draw_ok (W := W) (k := m + 1) (m := 5) (by omega) H
    have z1 : ((((0 : Nat) : Int) + 1)) = 1 := rfl
    by_cases h4 : r < 4
    · obtain ⟨nm, h2, e2, hn, H2, k2⟩ := some_name (W := W) (k := m) H1
      refine ⟨.act nm, h2, ?_, ⟨by simp [dep], by simp only [okT]; exact names_ok _ hn⟩, H2, k1.trans k2⟩
      rw [cf_eq d_law_tree rfl rfl rfl]
      have h4' : (r < 4) = True := by simpa using h4
      simp only [d_law_tree, exSs, exS.eq_1, exS.eq_2, exS.eq_3, exS.eq_4, exS.eq_5, exS.eq_8, exS.eq_9, exS.eq_10, exS.eq_11, exS.eq_12, x_whil, x_forr, lpC_ap, lpB_ap, evE, evEs, evO, evS, evIt, evT, asT, bind_ok, st_ok, ofO_some, ofB_some, tr_non, tr_bl, tr_int, tr_tup, c_lt, c_le, c_gt, c_ge, c_eqi, c_nei, c_eqs, c_nes, c_eqb, c_neb, c_isb, c_isnb, c_isn_non, c_isnn_non, c_ins, b_addi, b_subi, i_addi, v_lent, v_lenf, v_inti, v_absi, s_tup0, s_tup1, y_tup, y_str, fin_ret, fin_next, List.map, List.replicate, List.length_cons, List.length_nil, List.getElem?_cons_zero, List.getElem?_cons_succ, List.cons_append, List.nil_append, List.append_nil, List.set_cons_zero, List.set_cons_succ, Bool.not_true, Bool.not_false, wip, setTg, setAll, if_true, if_false, reduceIte, Bool.false_eq_true, tup_bs, lst_bs, Option.map_some, Bool.and_true, Bool.true_and, Bool.and_false, Bool.false_and, Bool.or_true, Bool.true_or, Bool.or_false, Bool.false_or, List.cons_beq_cons, nb_cons, cb_nil, Nat.reduceBEq, beq_self_eq_true, Int.reduceBEq, and_self, and_true, true_and, z1, show ((1 : Int) < 1) = False by simp, decide_false, e1, h4', decide_true, e2, lb2, enc]
    · refine ⟨.skip, h1, ?_, ⟨by simp [dep], rfl⟩, H1, k1⟩
      rw [cf_eq d_law_tree rfl rfl rfl]
      have h4' : (r < 4) = False := by simpa using h4
      have h5 : (r == 4) = true := by simp; omega
      simp only [d_law_tree, exSs, exS.eq_1, exS.eq_2, exS.eq_3, exS.eq_4, exS.eq_5, exS.eq_8, exS.eq_9, exS.eq_10, exS.eq_11, exS.eq_12, x_whil, x_forr, lpC_ap, lpB_ap, evE, evEs, evO, evS, evIt, evT, asT, bind_ok, st_ok, ofO_some, ofB_some, tr_non, tr_bl, tr_int, tr_tup, c_lt, c_le, c_gt, c_ge, c_eqi, c_nei, c_eqs, c_nes, c_eqb, c_neb, c_isb, c_isnb, c_isn_non, c_isnn_non, c_ins, b_addi, b_subi, i_addi, v_lent, v_lenf, v_inti, v_absi, s_tup0, s_tup1, y_tup, y_str, fin_ret, fin_next, List.map, List.replicate, List.length_cons, List.length_nil, List.getElem?_cons_zero, List.getElem?_cons_succ, List.cons_append, List.nil_append, List.append_nil, List.set_cons_zero, List.set_cons_succ, Bool.not_true, Bool.not_false, wip, setTg, setAll, if_true, if_false, reduceIte, Bool.false_eq_true, tup_bs, lst_bs, Option.map_some, Bool.and_true, Bool.true_and, Bool.and_false, Bool.false_and, Bool.or_true, Bool.true_or, Bool.or_false, Bool.false_or, List.cons_beq_cons, nb_cons, cb_nil, Nat.reduceBEq, beq_self_eq_true, Int.reduceBEq, and_self, and_true, true_and, z1, show ((1 : Int) < 1) = False by simp, decide_false, e1, h4', h5, lb1, enc]
  | succ n ih =>
    intro L h hL H
    obtain ⟨m, rfl⟩ : ∃ m, L = m + 3 := ⟨L - 3, by omega⟩
    obtain ⟨r, h1, e1, r0, r1, H1, k1⟩ := draw_ok (W := W) (k := m + 1) (m := 10) (by omega) H
    have z1 : ((1 : Int) < (((n + 1 : Nat) : Int) + 1)) = True := by simp; omega
    have z2 : ((((n + 1 : Nat) : Int) + 1) - 1) = ((n : Nat) : Int) + 1 := by omega
    by_cases h4 : r < 4
    · obtain ⟨nm, h2, e2, hn, H2, k2⟩ := some_name (W := W) (k := m) H1
      refine ⟨.act nm, h2, ?_, ⟨by simp [dep], by simp only [okT]; exact names_ok _ hn⟩, H2, k1.trans k2⟩
      rw [cf_eq d_law_tree rfl rfl rfl]
      have h4' : (r < 4) = True := by simpa using h4
      simp only [d_law_tree, exSs, exS.eq_1, exS.eq_2, exS.eq_3, exS.eq_4, exS.eq_5, exS.eq_8, exS.eq_9, exS.eq_10, exS.eq_11, exS.eq_12, x_whil, x_forr, lpC_ap, lpB_ap, evE, evEs, evO, evS, evIt, evT, asT, bind_ok, st_ok, ofO_some, ofB_some, tr_non, tr_bl, tr_int, tr_tup, c_lt, c_le, c_gt, c_ge, c_eqi, c_nei, c_eqs, c_nes, c_eqb, c_neb, c_isb, c_isnb, c_isn_non, c_isnn_non, c_ins, b_addi, b_subi, i_addi, v_lent, v_lenf, v_inti, v_absi, s_tup0, s_tup1, y_tup, y_str, fin_ret, fin_next, List.map, List.replicate, List.length_cons, List.length_nil, List.getElem?_cons_zero, List.getElem?_cons_succ, List.cons_append, List.nil_append, List.append_nil, List.set_cons_zero, List.set_cons_succ, Bool.not_true, Bool.not_false, wip, setTg, setAll, if_true, if_false, reduceIte, Bool.false_eq_true, tup_bs, lst_bs, Option.map_some, Bool.and_true, Bool.true_and, Bool.and_false, Bool.false_and, Bool.or_true, Bool.true_or, Bool.or_false, Bool.false_or, List.cons_beq_cons, nb_cons, cb_nil, Nat.reduceBEq, beq_self_eq_true, Int.reduceBEq, and_self, and_true, true_and, z1, decide_true, e1, h4', e2, lb2, enc]
    · have h4' : (r < 4) = False := by simpa using h4
      by_cases h5 : r = 4
      · refine ⟨.skip, h1, ?_, ⟨by simp [dep], rfl⟩, H1, k1⟩
        rw [cf_eq d_law_tree rfl rfl rfl]
        have h5' : (r == 4) = true := by simpa using h5
        simp only [d_law_tree, exSs, exS.eq_1, exS.eq_2, exS.eq_3, exS.eq_4, exS.eq_5, exS.eq_8, exS.eq_9, exS.eq_10, exS.eq_11, exS.eq_12, x_whil, x_forr, lpC_ap, lpB_ap, evE, evEs, evO, evS, evIt, evT, asT, bind_ok, st_ok, ofO_some, ofB_some, tr_non, tr_bl, tr_int, tr_tup, c_lt, c_le, c_gt, c_ge, c_eqi, c_nei, c_eqs, c_nes, c_eqb, c_neb, c_isb, c_isnb, c_isn_non, c_isnn_non, c_ins, b_addi, b_subi, i_addi, v_lent, v_lenf, v_inti, v_absi, s_tup0, s_tup1, y_tup, y_str, fin_ret, fin_next, List.map, List.replicate, List.length_cons, List.length_nil, List.getElem?_cons_zero, List.getElem?_cons_succ, List.cons_append, List.nil_append, List.append_nil, List.set_cons_zero, List.set_cons_succ, Bool.not_true, Bool.not_false, wip, setTg, setAll, if_true, if_false, reduceIte, Bool.false_eq_true, tup_bs, lst_bs, Option.map_some, Bool.and_true, Bool.true_and, Bool.and_false, Bool.false_and, Bool.or_true, Bool.true_or, Bool.or_false, Bool.false_or, List.cons_beq_cons, nb_cons, cb_nil, Nat.reduceBEq, beq_self_eq_true, Int.reduceBEq, and_self, and_true, true_and, z1, decide_true, decide_false, e1, h4', h5', lb1, enc]
      · have h5' : (r == 4) = false := by simpa using h5
        by_cases h6 : r = 5
        · obtain ⟨t, h2, e2, p2, H2, k2⟩ := ih (m + 2) h1 (by omega) H1
          refine ⟨.again t, h2, ?_, ⟨by simp only [dep]; have := p2.1; omega, by simp only [okT]; exact p2.2⟩, H2, k1.trans k2⟩
          rw [cf_eq d_law_tree rfl rfl rfl]
          have h6' : (r == 5) = true := by simpa using h6
          simp only [d_law_tree, exSs, exS.eq_1, exS.eq_2, exS.eq_3, exS.eq_4, exS.eq_5, exS.eq_8, exS.eq_9, exS.eq_10, exS.eq_11, exS.eq_12, x_whil, x_forr, lpC_ap, lpB_ap, evE, evEs, evO, evS, evIt, evT, asT, bind_ok, st_ok, ofO_some, ofB_some, tr_non, tr_bl, tr_int, tr_tup, c_lt, c_le, c_gt, c_ge, c_eqi, c_nei, c_eqs, c_nes, c_eqb, c_neb, c_isb, c_isnb, c_isn_non, c_isnn_non, c_ins, b_addi, b_subi, i_addi, v_lent, v_lenf, v_inti, v_absi, s_tup0, s_tup1, y_tup, y_str, fin_ret, fin_next, List.map, List.replicate, List.length_cons, List.length_nil, List.getElem?_cons_zero, List.getElem?_cons_succ, List.cons_append, List.nil_append, List.append_nil, List.set_cons_zero, List.set_cons_succ, Bool.not_true, Bool.not_false, wip, setTg, setAll, if_true, if_false, reduceIte, Bool.false_eq_true, tup_bs, lst_bs, Option.map_some, Bool.and_true, Bool.true_and, Bool.and_false, Bool.false_and, Bool.or_true, Bool.true_or, Bool.or_false, Bool.false_or, List.cons_beq_cons, nb_cons, cb_nil, Nat.reduceBEq, beq_self_eq_true, Int.reduceBEq, and_self, and_true, true_and, z1, decide_true, decide_false, e1, h4', h5', h6', z2, e2, lb2, enc]
        · have h6' : (r == 5) = false := by simpa using h6
          obtain ⟨q, h2, e2, q0, q1, H2, k2⟩ := draw_ok (W := W) (k := m + 1) (m := 2) (by omega) H1
          obtain ⟨ts, h3, e3, l3, p3, H3, k3⟩ := lcL_trees (f := fun x h => callF D W (m + 2) 22 [.loc a, .int ((n : Nat) + 1), .loc b] h) (P := TrOk (n + 1)) (fun x h H => ih (m + 2) h (by omega) H) (rngL 0 (2 + q)) h2 H2
          obtain ⟨kd, hkd⟩ := pick4 (r := r) (by omega) (by omega)
          have hlen : ts.len = (2 + q).toNat := by rw [l3]; simp [rngL]
          refine ⟨.node kd ts, h3 ++ [.lst [.str [114, 111, 119], .str [114, 111, 119], .str [112, 105, 99, 107], .str [115, 105, 100, 101, 115]]], ?_, ⟨?_, ?_⟩, H3.snoc _, ((k1.trans k2).trans k3).trans (Kp.snoc ..)⟩
          · rw [cf_eq d_law_tree rfl rfl rfl]
            have hs : small (2 + q) = true := by unfold small; simp; omega
            have hb : ((rngL 0 (2 + q)).length ≤ big) = True := by
              simp only [eq_iff_iff, iff_true]
              rw [← l3, hlen]
              exact small_big (by omega)
            simp only [d_law_tree, exSs, exS.eq_1, exS.eq_2, exS.eq_3, exS.eq_4, exS.eq_5, exS.eq_8, exS.eq_9, exS.eq_10, exS.eq_11, exS.eq_12, x_whil, x_forr, lpC_ap, lpB_ap, evE, evEs, evO, evS, evIt, evT, asT, bind_ok, st_ok, ofO_some, ofB_some, tr_non, tr_bl, tr_int, tr_tup, c_lt, c_le, c_gt, c_ge, c_eqi, c_nei, c_eqs, c_nes, c_eqb, c_neb, c_isb, c_isnb, c_isn_non, c_isnn_non, c_ins, b_addi, b_subi, i_addi, v_lent, v_lenf, v_inti, v_absi, s_tup0, s_tup1, y_tup, y_str, fin_ret, fin_next, List.map, List.replicate, List.length_cons, List.length_nil, List.getElem?_cons_zero, List.getElem?_cons_succ, List.cons_append, List.nil_append, List.append_nil, List.set_cons_zero, List.set_cons_succ, Bool.not_true, Bool.not_false, wip, setTg, setAll, if_true, if_false, reduceIte, Bool.false_eq_true, tup_bs, lst_bs, Option.map_some, Bool.and_true, Bool.true_and, Bool.and_false, Bool.false_and, Bool.or_true, Bool.true_or, Bool.or_false, Bool.false_or, List.cons_beq_cons, nb_cons, cb_nil, Nat.reduceBEq, beq_self_eq_true, Int.reduceBEq, and_self, and_true, true_and, z1, decide_true, decide_false, e1, h4', h5', h6', z2, e2, hs, hb, e3, lb4', s_loc _ _ _ _ (new_get ..) hkd, lb2, enc]
          · have := all_deps (p3.imp fun t h => h.1)
            simp only [dep]
            omega
          · have := all_okTs (p3.imp fun t h => h.2)
            simp only [okT, this, Bool.and_true, Bool.and_eq_true, decide_eq_true_eq]
            exact ⟨by omega, by omega⟩
end K76
namespace K76
open MP
variable {W k : Nat} {h h' h'' : IH} {a b c : Nat} {cells : List Int}
theorem tls_bound {M : Nat} : ∀ {ts : Trs}, AllT (fun t => tl t ≤ M) ts → tls ts ≤ ts.len * (M + 1)
  | .nil, _ => by simp [tls, Trs.len]
  | .cons t ts, q => by
    have h1 := q.1
    have h2 := tls_bound q.2
    simp only [tls, Trs.len, Nat.add_mul]
    omega
theorem tl_bound : ∀ (n : Nat) (t : Tr), dep t ≤ n + 1 → okT t = true → tl t + 3 ≤ 11 * 7 ^ n := by
  intro n
  induction n with
  | zero =>
    intro t hd ho
    cases t with
    | act l =>
      simp only [okT] at ho
      have := okName_len ho
      simp only [tl]
      omega
    | skip => simp [tl]
    | again t => have := dep_pos t; simp only [dep] at hd; omega
    | node kd ts =>
      cases ts with
      | nil => simp [okT, Trs.len] at ho
      | cons t ts => have := dep_pos t; simp only [dep, deps] at hd; omega
  | succ n ih =>
    intro t hd ho
    have hp : 7 ^ (n + 1) = 7 ^ n * 7 := Nat.pow_succ ..
    have h1 : 1 ≤ 7 ^ n := Nat.one_le_pow _ _ (by omega)
    cases t with
    | act l =>
      simp only [okT] at ho
      have := okName_len ho
      simp only [tl]
      omega
    | skip => simp only [tl]; omega
    | again t =>
      simp only [dep, okT, tl] at hd ho ⊢
      have := ih t (by omega) ho
      omega
    | node kd ts =>
      simp only [dep, okT, tl, Bool.and_eq_true] at hd ho ⊢
      have hA : AllT (fun t => tl t ≤ 11 * 7 ^ n - 3) ts := ((AllT.and (deps_all (n := n + 1) (by omega)) (okTs_all ho.2))).imp fun t ⟨h1, h2⟩ => by
        have := ih t h1 h2
        omega
      have h2 := tls_bound hA
      have h3 : ts.len ≤ 6 := of_decide_eq_true ho.1.2
      have h4 : ts.len * (11 * 7 ^ n - 3 + 1) ≤ 6 * (11 * 7 ^ n - 3 + 1) := Nat.mul_le_mul_right _ h3
      omega
theorem mkPr {t : Tr} (h1 : dep t ≤ 8) (h2 : okT t = true) (h3 : steps t ≤ 12) : Pr t := ⟨h2, h1, h3, by
  have := tl_bound 7 t h1 h2
  have e : 11 * 7 ^ 7 ≤ 16777216 := by decide
  have : big = 16777216 := rfl
  omega⟩
theorem lcL_ist {f : IV → IH → Res IV} : ∀ {ts : Trs}, AllT (fun t => f (enc t) h = .ok (.int (steps t)) h) ts → lcL [] f (encs ts) h = .ok ((ist ts).map .int) h
  | .nil, _ => by simp [lcL, encs, ist, grd_nil]
  | .cons t ts, q => by
    have ih := lcL_ist q.2
    simp only [encs, ist, lcL, grd_nil, if_true, q.1, ih, List.map_cons]
theorem steps_ok : ∀ (n : Nat) (t : Tr), dep t ≤ n → okT t = true → ∀ (L : Nat) (h : IH), n ≤ L → callF D W L 23 [enc t] h = .ok (.int (steps t)) h
  | 0, t, hd, _, _, _, _ => by have := dep_pos t; omega
  | n + 1, t, hd, ho, 0, h, hL => by omega
  | n + 1, t, hd, ho, L + 1, h, hL => by
    rw [cf_eq d_law_steps_in rfl rfl rfl]
    cases t with
    | act l => simp only [d_law_steps_in, exSs, exS.eq_1, exS.eq_2, exS.eq_3, exS.eq_4, exS.eq_5, exS.eq_8, exS.eq_9, exS.eq_10, exS.eq_11, exS.eq_12, x_whil, x_forr, lpC_ap, lpB_ap, evE, evEs, evO, evS, evIt, evT, asT, bind_ok, st_ok, ofO_some, ofB_some, tr_non, tr_bl, tr_int, tr_tup, c_lt, c_le, c_gt, c_ge, c_eqi, c_nei, c_eqs, c_nes, c_eqb, c_neb, c_isb, c_isnb, c_isn_non, c_isnn_non, c_ins, b_addi, b_subi, i_addi, v_lent, v_lenf, v_inti, v_absi, s_tup0, s_tup1, y_tup, y_str, fin_ret, fin_next, List.map, List.replicate, List.length_cons, List.length_nil, List.getElem?_cons_zero, List.getElem?_cons_succ, List.cons_append, List.nil_append, List.append_nil, List.set_cons_zero, List.set_cons_succ, Bool.not_true, Bool.not_false, wip, setTg, setAll, if_true, if_false, reduceIte, Bool.false_eq_true, tup_bs, lst_bs, Option.map_some, Bool.and_true, Bool.true_and, Bool.and_false, Bool.false_and, Bool.or_true, Bool.true_or, Bool.or_false, Bool.false_or, List.cons_beq_cons, nb_cons, cb_nil, Nat.reduceBEq, beq_self_eq_true, Int.reduceBEq, and_self, and_true, true_and, enc, steps]; rfl
    | skip => simp only [d_law_steps_in, exSs, exS.eq_1, exS.eq_2, exS.eq_3, exS.eq_4, exS.eq_5, exS.eq_8, exS.eq_9, exS.eq_10, exS.eq_11, exS.eq_12, x_whil, x_forr, lpC_ap, lpB_ap, evE, evEs, evO, evS, evIt, evT, asT, bind_ok, st_ok, ofO_some, ofB_some, tr_non, tr_bl, tr_int, tr_tup, c_lt, c_le, c_gt, c_ge, c_eqi, c_nei, c_eqs, c_nes, c_eqb, c_neb, c_isb, c_isnb, c_isn_non, c_isnn_non, c_ins, b_addi, b_subi, i_addi, v_lent, v_lenf, v_inti, v_absi, s_tup0, s_tup1, y_tup, y_str, fin_ret, fin_next, List.map, List.replicate, List.length_cons, List.length_nil, List.getElem?_cons_zero, List.getElem?_cons_succ, List.cons_append, List.nil_append, List.append_nil, List.set_cons_zero, List.set_cons_succ, Bool.not_true, Bool.not_false, wip, setTg, setAll, if_true, if_false, reduceIte, Bool.false_eq_true, tup_bs, lst_bs, Option.map_some, Bool.and_true, Bool.true_and, Bool.and_false, Bool.false_and, Bool.or_true, Bool.true_or, Bool.or_false, Bool.false_or, List.cons_beq_cons, nb_cons, cb_nil, Nat.reduceBEq, beq_self_eq_true, Int.reduceBEq, and_self, and_true, true_and, enc, steps]; rfl
    | again t =>
      simp only [dep, okT] at hd ho
      have e := steps_ok n t (by omega) ho L h (by omega)
      simp only [d_law_steps_in, exSs, exS.eq_1, exS.eq_2, exS.eq_3, exS.eq_4, exS.eq_5, exS.eq_8, exS.eq_9, exS.eq_10, exS.eq_11, exS.eq_12, x_whil, x_forr, lpC_ap, lpB_ap, evE, evEs, evO, evS, evIt, evT, asT, bind_ok, st_ok, ofO_some, ofB_some, tr_non, tr_bl, tr_int, tr_tup, c_lt, c_le, c_gt, c_ge, c_eqi, c_nei, c_eqs, c_nes, c_eqb, c_neb, c_isb, c_isnb, c_isn_non, c_isnn_non, c_ins, b_addi, b_subi, i_addi, v_lent, v_lenf, v_inti, v_absi, s_tup0, s_tup1, y_tup, y_str, fin_ret, fin_next, List.map, List.replicate, List.length_cons, List.length_nil, List.getElem?_cons_zero, List.getElem?_cons_succ, List.cons_append, List.nil_append, List.append_nil, List.set_cons_zero, List.set_cons_succ, Bool.not_true, Bool.not_false, wip, setTg, setAll, if_true, if_false, reduceIte, Bool.false_eq_true, tup_bs, lst_bs, Option.map_some, Bool.and_true, Bool.true_and, Bool.and_false, Bool.false_and, Bool.or_true, Bool.true_or, Bool.or_false, Bool.false_or, List.cons_beq_cons, nb_cons, cb_nil, Nat.reduceBEq, beq_self_eq_true, Int.reduceBEq, and_self, and_true, true_and, enc, steps, lb1, items, guardOf, lcL, grd_nil, e, sum_bs _ _ (asInts_one _)]
      simp
    | node kd ts =>
      simp only [dep, okT, Bool.and_eq_true] at hd ho
      have e := lcL_ist (h := h) (f := fun x h => callF D W L 23 [x] h) ((AllT.and (deps_all (n := n) (by omega)) (okTs_all ho.2)).imp fun t ⟨h1, h2⟩ => steps_ok n t h1 h2 L h (by omega))
      have hb : (encs ts).length ≤ big := by
        rw [encs_len]
        have := of_decide_eq_true ho.1.2
        exact small_big (by omega)
      simp only [d_law_steps_in, exSs, exS.eq_1, exS.eq_2, exS.eq_3, exS.eq_4, exS.eq_5, exS.eq_8, exS.eq_9, exS.eq_10, exS.eq_11, exS.eq_12, x_whil, x_forr, lpC_ap, lpB_ap, evE, evEs, evO, evS, evIt, evT, asT, bind_ok, st_ok, ofO_some, ofB_some, tr_non, tr_bl, tr_int, tr_tup, c_lt, c_le, c_gt, c_ge, c_eqi, c_nei, c_eqs, c_nes, c_eqb, c_neb, c_isb, c_isnb, c_isn_non, c_isnn_non, c_ins, b_addi, b_subi, i_addi, v_lent, v_lenf, v_inti, v_absi, s_tup0, s_tup1, y_tup, y_str, fin_ret, fin_next, List.map, List.replicate, List.length_cons, List.length_nil, List.getElem?_cons_zero, List.getElem?_cons_succ, List.cons_append, List.nil_append, List.append_nil, List.set_cons_zero, List.set_cons_succ, Bool.not_true, Bool.not_false, wip, setTg, setAll, if_true, if_false, reduceIte, Bool.false_eq_true, tup_bs, lst_bs, Option.map_some, Bool.and_true, Bool.true_and, Bool.and_false, Bool.false_and, Bool.or_true, Bool.true_or, Bool.or_false, Bool.false_or, List.cons_beq_cons, nb_cons, cb_nil, Nat.reduceBEq, beq_self_eq_true, Int.reduceBEq, and_self, and_true, true_and, enc, steps, kw_do, kw_skip, kw_again, items, guardOf, hb, e, sum_bs _ _ (asInts_id _), ist_sum]
/-! ### the drawn procedures -/
abbrev lpBd : Sts := (.cons (.asg (.nm 5) (.call 22 (.cons (.var 0) (.cons (.var 1) (.cons (.var 2) .nil)))))
    (.cons (.cond (.chain .lt .le (.con (.int 0)) (.call 23 (.cons (.var 5) .nil)) (.var 3))
    (.cons (.ret (.var 5))
    .nil)
    .nil)
    .nil))
theorem lp_loop {n L : Nat} (hn : n + 1 ≤ 8) (hL : n + 3 ≤ L) : ∀ (xs : List IV) (s4 s5 : Option IV) (h : IH), Hd a b c cells h →
    ∃ p h', forL [] (.nm 4) (lpB (callF D W L) W lpBd) xs [some (.loc a), some (.int ((n : Nat) + 1)), some (.loc b), some (.int 12), s4, s5] h = .ok p h' ∧ Hd a b c cells h' ∧ Kp a h h' ∧
      ((p.1 = .next ∧ ∃ x y, p.2 = [some (.loc a), some (.int ((n : Nat) + 1)), some (.loc b), some (.int 12), x, y]) ∨ ∃ t, p.1 = .ret (enc t) ∧ Pr t)
  | [], s4, s5, h, H => ⟨(.next, [some (.loc a), some (.int ((n : Nat) + 1)), some (.loc b), some (.int 12), s4, s5]), h, by simp only [forL, grd_nil, if_true], H, Kp.refl .., .inl ⟨rfl, s4, s5, rfl⟩⟩
  | x :: xs, s4, s5, h, H => by
    obtain ⟨t, h1, e1, p1, H1, k1⟩ := tree_ok (W := W) n L h hL H
    have e2 := steps_ok (W := W) (n + 1) t p1.1 p1.2 L h1 (by omega)
    by_cases hc : 0 < (steps t : Int) ∧ (steps t : Int) ≤ 12
    · refine ⟨(.ret (enc t), [some (.loc a), some (.int ((n : Nat) + 1)), some (.loc b), some (.int 12), some x, some (enc t)]), h1, ?_, H1, k1, .inr ⟨t, rfl, mkPr (by have := p1.1; omega) p1.2 (by omega)⟩⟩
      · simp only [forL, grd_nil, exSs, exS.eq_1, exS.eq_2, exS.eq_3, exS.eq_4, exS.eq_5, exS.eq_8, exS.eq_9, exS.eq_10, exS.eq_11, exS.eq_12, x_whil, x_forr, lpC_ap, lpB_ap, evE, evEs, evO, evS, evIt, evT, asT, bind_ok, st_ok, ofO_some, ofB_some, tr_non, tr_bl, tr_int, tr_tup, c_lt, c_le, c_gt, c_ge, c_eqi, c_nei, c_eqs, c_nes, c_eqb, c_neb, c_isb, c_isnb, c_isn_non, c_isnn_non, c_ins, b_addi, b_subi, i_addi, v_lent, v_lenf, v_inti, v_absi, s_tup0, s_tup1, y_tup, y_str, fin_ret, fin_next, List.map, List.replicate, List.length_cons, List.length_nil, List.getElem?_cons_zero, List.getElem?_cons_succ, List.cons_append, List.nil_append, List.append_nil, List.set_cons_zero, List.set_cons_succ, Bool.not_true, Bool.not_false, wip, setTg, setAll, if_true, if_false, reduceIte, Bool.false_eq_true, tup_bs, lst_bs, Option.map_some, Bool.and_true, Bool.true_and, Bool.and_false, Bool.false_and, Bool.or_true, Bool.true_or, Bool.or_false, Bool.false_or, List.cons_beq_cons, nb_cons, cb_nil, Nat.reduceBEq, beq_self_eq_true, Int.reduceBEq, and_self, and_true, true_and, e1, e2, hc.1, hc.2, decide_true]
    · obtain ⟨p, h2, e3, H2, k2, r2⟩ := lp_loop hn hL xs (some x) (some (enc t)) h1 H1
      refine ⟨p, h2, ?_, H2, k1.trans k2, r2⟩
      by_cases hc1 : 0 < (steps t : Int)
      · have hc2 : ((steps t : Int) ≤ 12) = False := by
          simp only [eq_iff_iff, iff_false]
          exact fun z => hc ⟨hc1, z⟩
        simp only [forL, grd_nil, exSs, exS.eq_1, exS.eq_2, exS.eq_3, exS.eq_4, exS.eq_5, exS.eq_8, exS.eq_9, exS.eq_10, exS.eq_11, exS.eq_12, x_whil, x_forr, lpC_ap, lpB_ap, evE, evEs, evO, evS, evIt, evT, asT, bind_ok, st_ok, ofO_some, ofB_some, tr_non, tr_bl, tr_int, tr_tup, c_lt, c_le, c_gt, c_ge, c_eqi, c_nei, c_eqs, c_nes, c_eqb, c_neb, c_isb, c_isnb, c_isn_non, c_isnn_non, c_ins, b_addi, b_subi, i_addi, v_lent, v_lenf, v_inti, v_absi, s_tup0, s_tup1, y_tup, y_str, fin_ret, fin_next, List.map, List.replicate, List.length_cons, List.length_nil, List.getElem?_cons_zero, List.getElem?_cons_succ, List.cons_append, List.nil_append, List.append_nil, List.set_cons_zero, List.set_cons_succ, Bool.not_true, Bool.not_false, wip, setTg, setAll, if_true, if_false, reduceIte, Bool.false_eq_true, tup_bs, lst_bs, Option.map_some, Bool.and_true, Bool.true_and, Bool.and_false, Bool.false_and, Bool.or_true, Bool.true_or, Bool.or_false, Bool.false_or, List.cons_beq_cons, nb_cons, cb_nil, Nat.reduceBEq, beq_self_eq_true, Int.reduceBEq, and_self, and_true, true_and, e1, e2, hc1, hc2, decide_true, decide_false, e3]
      · simp only [forL, grd_nil, exSs, exS.eq_1, exS.eq_2, exS.eq_3, exS.eq_4, exS.eq_5, exS.eq_8, exS.eq_9, exS.eq_10, exS.eq_11, exS.eq_12, x_whil, x_forr, lpC_ap, lpB_ap, evE, evEs, evO, evS, evIt, evT, asT, bind_ok, st_ok, ofO_some, ofB_some, tr_non, tr_bl, tr_int, tr_tup, c_lt, c_le, c_gt, c_ge, c_eqi, c_nei, c_eqs, c_nes, c_eqb, c_neb, c_isb, c_isnb, c_isn_non, c_isnn_non, c_ins, b_addi, b_subi, i_addi, v_lent, v_lenf, v_inti, v_absi, s_tup0, s_tup1, y_tup, y_str, fin_ret, fin_next, List.map, List.replicate, List.length_cons, List.length_nil, List.getElem?_cons_zero, List.getElem?_cons_succ, List.cons_append, List.nil_append, List.append_nil, List.set_cons_zero, List.set_cons_succ, Bool.not_true, Bool.not_false, wip, setTg, setAll, if_true, if_false, reduceIte, Bool.false_eq_true, tup_bs, lst_bs, Option.map_some, Bool.and_true, Bool.true_and, Bool.and_false, Bool.false_and, Bool.or_true, Bool.true_or, Bool.or_false, Bool.false_or, List.cons_beq_cons, nb_cons, cb_nil, Nat.reduceBEq, beq_self_eq_true, Int.reduceBEq, and_self, and_true, true_and, e1, e2, hc1, decide_false, e3]
theorem procedure_ok {n : Nat} (hn : n + 1 ≤ 8) (H : Hd a b c cells h) : ∃ t h', callF D W (k + n + 4) 24 [.loc a, .int ((n : Nat) + 1), .loc b, .int 12] h = .ok (enc t) h' ∧ Pr t ∧ Hd a b c cells h' ∧ Kp a h h' := by
  obtain ⟨p, h1, e1, H1, k1, r1⟩ := lp_loop (W := W) (n := n) (L := k + n + 3) hn (by omega) (rngL 0 20) none none h H
  obtain ⟨f, σ1⟩ := p
  rcases r1 with ⟨rf, x, y, rs⟩ | ⟨t, rf, pt⟩
  · simp only at rf rs
    subst rf rs
    refine ⟨.node .row (.cons (.act [97]) (.cons (.act [109]) .nil)), h1, ?_, mkPr (by decide) (by decide) (by decide), H1, k1⟩
    have n0 : subI (.loc b) (.int 0) h1 = .ok (.str [97]) h1 := s_loc _ _ _ _ H1.nam rfl
    have n1 : subI (.loc b) (.int (-1)) h1 = .ok (.str [109]) h1 := s_loc _ _ _ _ H1.nam rfl
    rw [cf_eq d_law_procedure rfl rfl rfl]
    have hs : small 20 = true := rfl
    simp only [d_law_procedure, exSs, exS.eq_1, exS.eq_2, exS.eq_3, exS.eq_4, exS.eq_5, exS.eq_8, exS.eq_9, exS.eq_10, exS.eq_11, exS.eq_12, x_whil, x_forr, lpC_ap, lpB_ap, evE, evEs, evO, evS, evIt, evT, asT, bind_ok, st_ok, ofO_some, ofB_some, tr_non, tr_bl, tr_int, tr_tup, c_lt, c_le, c_gt, c_ge, c_eqi, c_nei, c_eqs, c_nes, c_eqb, c_neb, c_isb, c_isnb, c_isn_non, c_isnn_non, c_ins, b_addi, b_subi, i_addi, v_lent, v_lenf, v_inti, v_absi, s_tup0, s_tup1, y_tup, y_str, fin_ret, fin_next, List.map, List.replicate, List.length_cons, List.length_nil, List.getElem?_cons_zero, List.getElem?_cons_succ, List.cons_append, List.nil_append, List.append_nil, List.set_cons_zero, List.set_cons_succ, Bool.not_true, Bool.not_false, wip, setTg, setAll, if_true, if_false, reduceIte, Bool.false_eq_true, tup_bs, lst_bs, Option.map_some, Bool.and_true, Bool.true_and, Bool.and_false, Bool.false_and, Bool.or_true, Bool.true_or, Bool.or_false, Bool.false_or, List.cons_beq_cons, nb_cons, cb_nil, Nat.reduceBEq, beq_self_eq_true, Int.reduceBEq, and_self, and_true, true_and, hs, e1, n0, n1, lb2, enc, encs, kw]
  · simp only at rf
    subst rf
    refine ⟨t, h1, ?_, pt, H1, k1⟩
    rw [cf_eq d_law_procedure rfl rfl rfl]
    have hs : small 20 = true := rfl
    simp only [d_law_procedure, exSs, exS.eq_1, exS.eq_2, exS.eq_3, exS.eq_4, exS.eq_5, exS.eq_8, exS.eq_9, exS.eq_10, exS.eq_11, exS.eq_12, x_whil, x_forr, lpC_ap, lpB_ap, evE, evEs, evO, evS, evIt, evT, asT, bind_ok, st_ok, ofO_some, ofB_some, tr_non, tr_bl, tr_int, tr_tup, c_lt, c_le, c_gt, c_ge, c_eqi, c_nei, c_eqs, c_nes, c_eqb, c_neb, c_isb, c_isnb, c_isn_non, c_isnn_non, c_ins, b_addi, b_subi, i_addi, v_lent, v_lenf, v_inti, v_absi, s_tup0, s_tup1, y_tup, y_str, fin_ret, fin_next, List.map, List.replicate, List.length_cons, List.length_nil, List.getElem?_cons_zero, List.getElem?_cons_succ, List.cons_append, List.nil_append, List.append_nil, List.set_cons_zero, List.set_cons_succ, Bool.not_true, Bool.not_false, wip, setTg, setAll, if_true, if_false, reduceIte, Bool.false_eq_true, tup_bs, lst_bs, Option.map_some, Bool.and_true, Bool.true_and, Bool.and_false, Bool.false_and, Bool.or_true, Bool.true_or, Bool.or_false, Bool.false_or, List.cons_beq_cons, nb_cons, cb_nil, Nat.reduceBEq, beq_self_eq_true, Int.reduceBEq, and_self, and_true, true_and, hs, e1]
end K76
namespace K76
open MP
variable {W k : Nat} {h h' h'' : IH} {a b c : Nat} {cells : List Int}
def kinds : List IV := [.str [114, 111, 119], .str [112, 105, 99, 107], .str [115, 105, 100, 101, 115]]
theorem kinds_kw {v : IV} (h : v ∈ kinds) : ∃ kd, v = .str (kw kd) := by
  simp only [kinds, List.mem_cons, List.not_mem_nil, or_false] at h
  rcases h with rfl | rfl | rfl
  · exact ⟨.row, rfl⟩
  · exact ⟨.pick, rfl⟩
  · exact ⟨.sides, rfl⟩
theorem Hd.lt (H : Hd a b c cells h) : a < h.length := by
  obtain ⟨_, _, _, _, _, e⟩ := H.hand
  exact (List.getElem?_eq_some_iff.mp e).1
theorem some_kind (H : Hd a b c cells h) : ∃ kd h', callF D W (k + 2) 21 [.loc a, .loc h.length] (h ++ [.lst [.str [114, 111, 119], .str [112, 105, 99, 107], .str [115, 105, 100, 101, 115]]]) = .ok (.str (kw kd)) h' ∧ Hd a b c cells h' ∧ Kp a h h' := by
  obtain ⟨v, h1, e1, hv, H1, k1⟩ := some_loc (W := W) (k := k) (H.snoc (.lst kinds)) (new_get h (.lst kinds)) (Nat.ne_of_gt H.lt) (by simp [kinds]) (by simp [kinds])
  obtain ⟨kd, rfl⟩ := kinds_kw hv
  exact ⟨kd, h1, e1, H1, (Kp.snoc ..).trans k1⟩
theorem all_steps {n : Nat} : ∀ {ts : Trs}, AllT (fun t => steps t ≤ n) ts → stepss ts ≤ ts.len * n
  | .nil, _ => by simp [stepss]
  | .cons t ts, q => by
    have h1 := q.1
    have h2 := all_steps q.2
    simp only [stepss, Trs.len, Nat.add_mul]
    omega
abbrev wdE : Ex := (.tup (.cons (.con (.str [112, 105, 99, 107])) (.cons (.tup (.cons (.tup (.cons (.con (.str [100, 111])) (.cons (.call 21 (.cons (.var 0) (.cons (.var 1) .nil))) .nil))) (.cons (.tup (.cons (.con (.str [100, 111])) (.cons (.call 21 (.cons (.var 0) (.cons (.var 1) .nil))) .nil))) .nil))) .nil)))
theorem wd_elt {σ : Sg} (h0 : σ[0]? = some (some (.loc a))) (h1 : σ[1]? = some (some (.loc b))) (x : IV) (h : IH) (H : Hd a b c cells h) :
    ∃ t h', lcF (callF D W (k + 2)) wdE (.nm 3) [3] σ x h = .ok (enc t) h' ∧ (dep t ≤ 2 ∧ okT t = true ∧ steps t ≤ 2) ∧ Hd a b c cells h' ∧ Kp a h h' := by
  obtain ⟨n1, h1', e1, m1, H1, k1⟩ := some_name (W := W) (k := k) H
  obtain ⟨n2, h2', e2, m2, H2, k2⟩ := some_name (W := W) (k := k) H1
  refine ⟨.node .pick (.cons (.act n1) (.cons (.act n2) .nil)), h2', ?_, ⟨by simp [dep, deps], ?_, by simp [steps, stepss]⟩, H2, k1.trans k2⟩
  · have s0 : ((wip σ [3]).set 3 (some x))[0]? = some (some (.loc a)) := by simp [wip, h0]
    have s1 : ((wip σ [3]).set 3 (some x))[1]? = some (some (.loc b)) := by simp [wip, h1]
    rw [lcF_nm]
    generalize (wip σ [3]).set 3 (some x) = σ' at s0 s1
    simp only [exSs, exS.eq_1, exS.eq_2, exS.eq_3, exS.eq_4, exS.eq_5, exS.eq_8, exS.eq_9, exS.eq_10, exS.eq_11, exS.eq_12, x_whil, x_forr, lpC_ap, lpB_ap, evE, evEs, evO, evS.eq_1, evS_lc, evIt, evT, asT, bind_ok, st_ok, ofO_some, ofB_some, tr_non, tr_bl, tr_int, tr_tup, c_lt, c_le, c_gt, c_ge, c_eqi, c_nei, c_eqs, c_nes, c_eqb, c_neb, c_isb, c_isnb, c_isn_non, c_isnn_non, c_ins, b_addi, b_subi, i_addi, v_lent, v_lenf, v_inti, v_absi, s_tup0, s_tup1, y_tup, y_str, fin_ret, fin_next, List.map, List.replicate, List.length_cons, List.length_nil, List.getElem?_cons_zero, List.getElem?_cons_succ, List.cons_append, List.nil_append, List.append_nil, List.set_cons_zero, List.set_cons_succ, Bool.not_true, Bool.not_false, wip, setTg, setAll, if_true, if_false, reduceIte, Bool.false_eq_true, tup_bs, lst_bs, Option.map_some, Bool.and_true, Bool.true_and, Bool.and_false, Bool.false_and, Bool.or_true, Bool.true_or, Bool.or_false, Bool.false_or, List.cons_beq_cons, nb_cons, cb_nil, Nat.reduceBEq, beq_self_eq_true, Int.reduceBEq, and_self, and_true, true_and, s0, s1, e1, e2, lb2, enc, encs, kw]
  · simp only [okT, okTs, Trs.len, names_ok _ m1, names_ok _ m2]
    rfl
abbrev wdB : Sts := (.cons (.asg (.nm 5) (.ite (.cmp .eq (.call 20 (.cons (.var 0) (.cons (.con (.int 2)) .nil))) (.con (.int 0))) (.tup (.cons (.var 4) (.cons (.tup (.cons (.con (.str [115, 107, 105, 112])) .nil)) .nil))) (.tup (.cons (.tup (.cons (.con (.str [100, 111])) (.cons (.con (.str [113])) .nil))) (.cons (.var 4) .nil)))))
    (.cons (.asg (.nm 4) (.ite (.cmp .eq (.call 20 (.cons (.var 0) (.cons (.con (.int 3)) .nil))) (.con (.int 0))) (.tup (.cons (.con (.str [97, 103, 97, 105, 110])) (.cons (.var 4) .nil))) (.tup (.cons (.call 21 (.cons (.var 0) (.cons (.lst (.cons (.con (.str [114, 111, 119])) (.cons (.con (.str [112, 105, 99, 107])) (.cons (.con (.str [115, 105, 100, 101, 115])) .nil)))) .nil))) (.cons (.var 5) .nil)))))
    .nil))
theorem wd_loop : ∀ (xs : List IV) (t : Tr) (m : Nat) (s2 s3 s5 : Option IV) (h : IH), Hd a b c cells h → dep t ≤ m → steps t ≤ m → okT t = true → m + xs.length ≤ 8 →
    ∃ t' h' x y, forL [] (.nm 3) (lpB (callF D W (k + 2)) W wdB) xs [some (.loc a), some (.loc b), s2, s3, some (enc t), s5] h = .ok (.next, [some (.loc a), some (.loc b), s2, x, some (enc t'), y]) h' ∧ Hd a b c cells h' ∧ Kp a h h' ∧ dep t' ≤ 8 ∧ steps t' ≤ 8 ∧ okT t' = true
  | [], t, m, s2, s3, s5, h, H, hd, hs, ho, hm => ⟨t, h, s3, s5, by simp only [forL, grd_nil, if_true], H, Kp.refl .., by omega, by omega, ho⟩
  | x :: xs, t, m, s2, s3, s5, h, H, hd, hs, ho, hm => by
    obtain ⟨r, h1, e1, r0, r1, H1, k1⟩ := draw_ok (W := W) (k := k + 1) (m := 2) (by omega) H
    obtain ⟨q, h2, e2, q0, q1, H2, k2⟩ := draw_ok (W := W) (k := k + 1) (m := 3) (by omega) H1
    obtain ⟨kd, h3, e3, H3, k3⟩ := some_kind (W := W) (k := k) H2
    have hp := dep_pos t
    simp only [List.length_cons] at hm
    -- the pair
    obtain ⟨ps, hps, p1, p2, p3⟩ : ∃ ps : Trs, (r = 0 → encs ps = [enc t, .tup [.str [115, 107, 105, 112]]]) ∧ (¬ r = 0 → encs ps = [.tup [.str [100, 111], .str [113]], enc t]) ∧ (ps.len = 2 ∧ okTs ps = true) ∧ (deps ps ≤ m ∧ stepss ps ≤ m + 1) := by
      by_cases hr : r = 0
      · exact ⟨.cons t (.cons .skip .nil), fun _ => rfl, fun z => absurd hr z, ⟨rfl, by simp [okTs, okT, ho]⟩, by simp only [deps, dep]; omega, by simp only [stepss, steps]; omega⟩
      · exact ⟨.cons (.act [113]) (.cons t .nil), fun z => absurd z hr, fun _ => rfl, ⟨rfl, by simp only [okTs, okT, ho]; rfl⟩, by simp only [deps, dep]; omega, by simp only [stepss, steps]; omega⟩
    by_cases hq : q = 0
    · obtain ⟨t', h', x', y', e', H', k', d'⟩ := wd_loop xs (.again t) (m + 1) s2 (some x) (some (.tup (encs ps))) h2 H2 (by simp only [dep]; omega) (by simp only [steps]; omega) (by simp only [okT]; exact ho) (by omega)
      refine ⟨t', h', x', y', ?_, H', (k1.trans k2).trans k', d'⟩
      have hq' : (q == 0) = true := by simpa using hq
      by_cases hr : r = 0
      · have hr' : (r == 0) = true := by simpa using hr
        rw [hps hr] at e'
        simp only [enc] at e'
        simp only [forL, grd_nil, exSs, exS.eq_1, exS.eq_2, exS.eq_3, exS.eq_4, exS.eq_5, exS.eq_8, exS.eq_9, exS.eq_10, exS.eq_11, exS.eq_12, x_whil, x_forr, lpC_ap, lpB_ap, evE, evEs, evO, evS, evIt, evT, asT, bind_ok, st_ok, ofO_some, ofB_some, tr_non, tr_bl, tr_int, tr_tup, c_lt, c_le, c_gt, c_ge, c_eqi, c_nei, c_eqs, c_nes, c_eqb, c_neb, c_isb, c_isnb, c_isn_non, c_isnn_non, c_ins, b_addi, b_subi, i_addi, v_lent, v_lenf, v_inti, v_absi, s_tup0, s_tup1, y_tup, y_str, fin_ret, fin_next, List.map, List.replicate, List.length_cons, List.length_nil, List.getElem?_cons_zero, List.getElem?_cons_succ, List.cons_append, List.nil_append, List.append_nil, List.set_cons_zero, List.set_cons_succ, Bool.not_true, Bool.not_false, wip, setTg, setAll, if_true, if_false, reduceIte, Bool.false_eq_true, tup_bs, lst_bs, Option.map_some, Bool.and_true, Bool.true_and, Bool.and_false, Bool.false_and, Bool.or_true, Bool.true_or, Bool.or_false, Bool.false_or, List.cons_beq_cons, nb_cons, cb_nil, Nat.reduceBEq, beq_self_eq_true, Int.reduceBEq, and_self, and_true, true_and, e1, hr', lb1, lb2, e2, hq', e']
      · have hr' : (r == 0) = false := by simpa using hr
        rw [p1 hr] at e'
        simp only [enc] at e'
        simp only [forL, grd_nil, exSs, exS.eq_1, exS.eq_2, exS.eq_3, exS.eq_4, exS.eq_5, exS.eq_8, exS.eq_9, exS.eq_10, exS.eq_11, exS.eq_12, x_whil, x_forr, lpC_ap, lpB_ap, evE, evEs, evO, evS, evIt, evT, asT, bind_ok, st_ok, ofO_some, ofB_some, tr_non, tr_bl, tr_int, tr_tup, c_lt, c_le, c_gt, c_ge, c_eqi, c_nei, c_eqs, c_nes, c_eqb, c_neb, c_isb, c_isnb, c_isn_non, c_isnn_non, c_ins, b_addi, b_subi, i_addi, v_lent, v_lenf, v_inti, v_absi, s_tup0, s_tup1, y_tup, y_str, fin_ret, fin_next, List.map, List.replicate, List.length_cons, List.length_nil, List.getElem?_cons_zero, List.getElem?_cons_succ, List.cons_append, List.nil_append, List.append_nil, List.set_cons_zero, List.set_cons_succ, Bool.not_true, Bool.not_false, wip, setTg, setAll, if_true, if_false, reduceIte, Bool.false_eq_true, tup_bs, lst_bs, Option.map_some, Bool.and_true, Bool.true_and, Bool.and_false, Bool.false_and, Bool.or_true, Bool.true_or, Bool.or_false, Bool.false_or, List.cons_beq_cons, nb_cons, cb_nil, Nat.reduceBEq, beq_self_eq_true, Int.reduceBEq, and_self, and_true, true_and, e1, hr', lb1, lb2, e2, hq', e']
    · obtain ⟨t', h', x', y', e', H', k', d'⟩ := wd_loop xs (.node kd ps) (m + 1) s2 (some x) (some (.tup (encs ps))) h3 H3 (by simp only [dep]; omega) (by simp only [steps]; omega) (by simp only [okT, p2.1, p2.2]; rfl) (by omega)
      refine ⟨t', h', x', y', ?_, H', ((k1.trans k2).trans k3).trans k', d'⟩
      have hq' : (q == 0) = false := by simpa using hq
      by_cases hr : r = 0
      · have hr' : (r == 0) = true := by simpa using hr
        simp only [enc] at e'
        rw [hps hr] at e'
        simp only [forL, grd_nil, exSs, exS.eq_1, exS.eq_2, exS.eq_3, exS.eq_4, exS.eq_5, exS.eq_8, exS.eq_9, exS.eq_10, exS.eq_11, exS.eq_12, x_whil, x_forr, lpC_ap, lpB_ap, evE, evEs, evO, evS, evIt, evT, asT, bind_ok, st_ok, ofO_some, ofB_some, tr_non, tr_bl, tr_int, tr_tup, c_lt, c_le, c_gt, c_ge, c_eqi, c_nei, c_eqs, c_nes, c_eqb, c_neb, c_isb, c_isnb, c_isn_non, c_isnn_non, c_ins, b_addi, b_subi, i_addi, v_lent, v_lenf, v_inti, v_absi, s_tup0, s_tup1, y_tup, y_str, fin_ret, fin_next, List.map, List.replicate, List.length_cons, List.length_nil, List.getElem?_cons_zero, List.getElem?_cons_succ, List.cons_append, List.nil_append, List.append_nil, List.set_cons_zero, List.set_cons_succ, Bool.not_true, Bool.not_false, wip, setTg, setAll, if_true, if_false, reduceIte, Bool.false_eq_true, tup_bs, lst_bs, Option.map_some, Bool.and_true, Bool.true_and, Bool.and_false, Bool.false_and, Bool.or_true, Bool.true_or, Bool.or_false, Bool.false_or, List.cons_beq_cons, nb_cons, cb_nil, Nat.reduceBEq, beq_self_eq_true, Int.reduceBEq, and_self, and_true, true_and, e1, hr', lb1, lb2, lb3, e2, hq', e3, e']
      · have hr' : (r == 0) = false := by simpa using hr
        simp only [enc] at e'
        rw [p1 hr] at e'
        simp only [forL, grd_nil, exSs, exS.eq_1, exS.eq_2, exS.eq_3, exS.eq_4, exS.eq_5, exS.eq_8, exS.eq_9, exS.eq_10, exS.eq_11, exS.eq_12, x_whil, x_forr, lpC_ap, lpB_ap, evE, evEs, evO, evS, evIt, evT, asT, bind_ok, st_ok, ofO_some, ofB_some, tr_non, tr_bl, tr_int, tr_tup, c_lt, c_le, c_gt, c_ge, c_eqi, c_nei, c_eqs, c_nes, c_eqb, c_neb, c_isb, c_isnb, c_isn_non, c_isnn_non, c_ins, b_addi, b_subi, i_addi, v_lent, v_lenf, v_inti, v_absi, s_tup0, s_tup1, y_tup, y_str, fin_ret, fin_next, List.map, List.replicate, List.length_cons, List.length_nil, List.getElem?_cons_zero, List.getElem?_cons_succ, List.cons_append, List.nil_append, List.append_nil, List.set_cons_zero, List.set_cons_succ, Bool.not_true, Bool.not_false, wip, setTg, setAll, if_true, if_false, reduceIte, Bool.false_eq_true, tup_bs, lst_bs, Option.map_some, Bool.and_true, Bool.true_and, Bool.and_false, Bool.false_and, Bool.or_true, Bool.true_or, Bool.or_false, Bool.false_or, List.cons_beq_cons, nb_cons, cb_nil, Nat.reduceBEq, beq_self_eq_true, Int.reduceBEq, and_self, and_true, true_and, e1, hr', lb1, lb2, lb3, e2, hq', e3, e']
theorem wide_ok (H : Hd a b c cells h) : ∃ t h', callF D W (k + 3) 27 [.loc a, .loc b] h = .ok (enc t) h' ∧ Pr t ∧ Hd a b c cells h' ∧ Kp a h h' := by
  obtain ⟨r, h1, e1, r0, r1, H1, k1⟩ := draw_ok (W := W) (k := k + 1) (m := 2) (by omega) H
  by_cases hr : r = 0
  · have hr' : (r == 0) = true := by simpa using hr
    obtain ⟨ts, h2, e2, l2, p2, H2, k2⟩ := lcL_trees (P := fun t => dep t ≤ 2 ∧ okT t = true ∧ steps t ≤ 2) (fun x h H => wd_elt (W := W) (k := k) (σ := [some (.loc a), some (.loc b), none, none, none, none]) rfl rfl x h H) (rngL 0 6) h1 H1
    obtain ⟨kd, h3, e3, H3, k3⟩ := some_kind (W := W) (k := k) H2
    have hlen : ts.len = 6 := l2
    refine ⟨.node kd ts, h3, ?_, mkPr ?_ ?_ ?_, H3, (k1.trans k2).trans k3⟩
    · rw [cf_eq d_law_wide rfl rfl rfl]
      have hs : small 6 = true := rfl
      have hb : ((rngL 0 6).length ≤ big) = True := by simp [rngL, big]
      simp only [d_law_wide, exSs, exS.eq_1, exS.eq_2, exS.eq_3, exS.eq_4, exS.eq_5, exS.eq_8, exS.eq_9, exS.eq_10, exS.eq_11, exS.eq_12, x_whil, x_forr, lpC_ap, lpB_ap, evE, evEs, evO, evS.eq_1, evS_lc, evIt, evT, asT, bind_ok, st_ok, ofO_some, ofB_some, tr_non, tr_bl, tr_int, tr_tup, c_lt, c_le, c_gt, c_ge, c_eqi, c_nei, c_eqs, c_nes, c_eqb, c_neb, c_isb, c_isnb, c_isn_non, c_isnn_non, c_ins, b_addi, b_subi, i_addi, v_lent, v_lenf, v_inti, v_absi, s_tup0, s_tup1, y_tup, y_str, fin_ret, fin_next, List.map, List.replicate, List.length_cons, List.length_nil, List.getElem?_cons_zero, List.getElem?_cons_succ, List.cons_append, List.nil_append, List.append_nil, List.set_cons_zero, List.set_cons_succ, Bool.not_true, Bool.not_false, wip, setTg, setAll, if_true, if_false, reduceIte, Bool.false_eq_true, tup_bs, lst_bs, Option.map_some, Bool.and_true, Bool.true_and, Bool.and_false, Bool.false_and, Bool.or_true, Bool.true_or, Bool.or_false, Bool.false_or, List.cons_beq_cons, nb_cons, cb_nil, Nat.reduceBEq, beq_self_eq_true, Int.reduceBEq, and_self, and_true, true_and, e1, hr', hs, hb, e2, lb3, e3, lb2, enc]
    · have := all_deps (p2.imp fun t h => h.1)
      simp only [dep]
      omega
    · have := all_okTs (p2.imp fun t h => h.2.1)
      simp only [okT, this, hlen]
      rfl
    · have := all_steps (p2.imp fun t h => h.2.2)
      simp only [steps]
      omega
  · have hr' : (r == 0) = false := by simpa using hr
    obtain ⟨nm, h2, e2, m2, H2, k2⟩ := some_name (W := W) (k := k) H1
    obtain ⟨t, h3, x, y, e3, H3, k3, d3, s3, o3⟩ := wd_loop (W := W) (k := k) (rngL 0 7) (.act nm) 1 none none none h2 H2 (by simp [dep]) (by simp [steps]) (by simp only [okT]; exact names_ok _ m2) (by simp [rngL])
    refine ⟨t, h3, ?_, mkPr d3 o3 (by omega), H3, (k1.trans k2).trans k3⟩
    rw [cf_eq d_law_wide rfl rfl rfl]
    have hs : small 7 = true := rfl
    simp only [enc] at e3
    simp only [d_law_wide, exSs, exS.eq_1, exS.eq_2, exS.eq_3, exS.eq_4, exS.eq_5, exS.eq_8, exS.eq_9, exS.eq_10, exS.eq_11, exS.eq_12, x_whil, x_forr, lpC_ap, lpB_ap, evE, evEs, evO, evS.eq_1, evS_lc, evIt, evT, asT, bind_ok, st_ok, ofO_some, ofB_some, tr_non, tr_bl, tr_int, tr_tup, c_lt, c_le, c_gt, c_ge, c_eqi, c_nei, c_eqs, c_nes, c_eqb, c_neb, c_isb, c_isnb, c_isn_non, c_isnn_non, c_ins, b_addi, b_subi, i_addi, v_lent, v_lenf, v_inti, v_absi, s_tup0, s_tup1, y_tup, y_str, fin_ret, fin_next, List.map, List.replicate, List.length_cons, List.length_nil, List.getElem?_cons_zero, List.getElem?_cons_succ, List.cons_append, List.nil_append, List.append_nil, List.set_cons_zero, List.set_cons_succ, Bool.not_true, Bool.not_false, wip, setTg, setAll, if_true, if_false, reduceIte, Bool.false_eq_true, tup_bs, lst_bs, Option.map_some, Bool.and_true, Bool.true_and, Bool.and_false, Bool.false_and, Bool.or_true, Bool.true_or, Bool.or_false, Bool.false_or, List.cons_beq_cons, nb_cons, cb_nil, Nat.reduceBEq, beq_self_eq_true, Int.reduceBEq, and_self, and_true, true_and, e1, hr', e2, lb2, hs, e3]
end K76
namespace K76
open MP
variable {W k : Nat} {h h' h'' : IH} {a b c : Nat} {cells : List Int}
theorem cut_map (ns : List Int) (lo hi : Option Int) : cut (ns.map IV.int) lo hi = (cut ns lo hi).map .int := by
  simp only [cut, List.length_map, List.map_take, List.map_drop]
theorem cut_len {α : Type} (ns : List α) (lo hi : Option Int) : (cut ns lo hi).length ≤ ns.length := by
  unfold cut
  rw [List.length_take, List.length_drop]
  omega
def absI : IV → IV
  | .int i => .int (if i < 0 then -i else i)
  | _ => .non
theorem slc_frl (xs : List IV) (lo hi : Option Int) : slcI (.frl xs) lo hi h = .ok (.loc h.length) (h ++ [.lst (cut xs lo hi)]) := rfl
theorem hand_ok (ns : List Int) (hl : ns.length ≤ 63) : ∃ a c cells h', callF D W (k + 1) 19 [.frl (ns.map .int)] h = .ok (.loc a) h' ∧ a < h'.length ∧ c < h'.length ∧ a ≠ c ∧
    (∃ s : Int, h'[a]? = some (.lst [.loc c, .int 0, .int 0, .int s, .int 0])) ∧ h'[c]? = some (.lst ((cells : List Int).map .int)) := by
  let cs : List Int := cut ns none (some 63)
  let cells : List Int := cs.map fun i => if i < 0 then -i else i
  have hcs : (cs.map IV.int).length ≤ big := by
    rw [List.length_map]
    exact small_big (Nat.le_trans (cut_len ns none (some 63)) (by omega))
  obtain ⟨h1, q1⟩ : ∃ x, x = h ++ [IO.lst (cs.map IV.int)] := ⟨_, rfl⟩
  have g1 : h1[h.length]? = some (.lst (cs.map IV.int)) := by rw [q1]; exact new_get ..
  have emap : (cs.map IV.int).map absI = cells.map IV.int := by
    simp only [cells, List.map_map]
    rfl
  have elc : lcL [(h.length, cs.map IV.int)] (fun x h => bvI .int x h) (cs.map IV.int) h1 = lcL [(h.length, cs.map IV.int)] (fun x h => bvI .int x h) (cs.map IV.int) h1 := rfl
  obtain ⟨h2, q2⟩ : ∃ x, x = h1 ++ [IO.lst (cells.map IV.int)] := ⟨_, rfl⟩
  have g2 : h2[h1.length]? = some (.lst (cells.map IV.int)) := by rw [q2]; exact new_get ..
  obtain ⟨h3, q3⟩ : ∃ x, x = h2 ++ [IO.lst [.loc h1.length, .int 0, .int 0, .int (97 + 5 * ((cells.map IV.int).length : Int)), .int 0]] := ⟨_, rfl⟩
  have g3 : h3[h2.length]? = some (.lst [.loc h1.length, .int 0, .int 0, .int (97 + 5 * ((cells.map IV.int).length : Int)), .int 0]) := by rw [q3]; exact new_get ..
  have l2 : h2.length = h1.length + 1 := by rw [q2]; simp
  have l3 : h3.length = h2.length + 1 := by rw [q3]; simp
  refine ⟨h2.length, h1.length, cells, h3, ?_, by omega, by omega, by omega, ⟨_, g3⟩, by rw [q3]; exact (Gr.snoc h2 _).get g2⟩
  rw [cf_eq d_law_hand rfl rfl rfl]
  have sl : slcI (.frl (ns.map .int)) none (some 63) h = .ok (.loc h.length) h1 := by
    rw [slc_frl, cut_map, q1]
  have lb5 : (0 + 1 + 1 + 1 + 1 + 1 ≤ big) = True := by simp [big]
  simp only [d_law_hand, exSs, exS.eq_1, exS.eq_2, exS.eq_3, exS.eq_4, exS.eq_5, exS.eq_8, exS.eq_9, exS.eq_10, exS.eq_11, exS.eq_12, x_whil, x_forr, lpC_ap, lpB_ap, evE, evEs, evO, evS, evIt, evT, asT, bind_ok, st_ok, ofO_some, ofB_some, tr_non, tr_bl, tr_int, tr_tup, c_lt, c_le, c_gt, c_ge, c_eqi, c_nei, c_eqs, c_nes, c_eqb, c_neb, c_isb, c_isnb, c_isn_non, c_isnn_non, c_ins, b_addi, b_subi, i_addi, v_lent, v_lenf, v_inti, v_absi, s_tup0, s_tup1, y_tup, y_str, fin_ret, fin_next, List.map, List.replicate, List.length_cons, List.length_nil, List.getElem?_cons_zero, List.getElem?_cons_succ, List.cons_append, List.nil_append, List.append_nil, List.set_cons_zero, List.set_cons_succ, Bool.not_true, Bool.not_false, wip, setTg, setAll, if_true, if_false, reduceIte, Bool.false_eq_true, tup_bs, lst_bs, Option.map_some, Bool.and_true, Bool.true_and, Bool.and_false, Bool.false_and, Bool.or_true, Bool.true_or, Bool.or_false, Bool.false_or, List.cons_beq_cons, nb_cons, cb_nil, Nat.reduceBEq, beq_self_eq_true, Int.reduceBEq, and_self, and_true, true_and, sl, it_loc g1, guardOf, hcs]
  rw [lcL_map (g := absI) (grd_one g1)]
  · rw [emap]
    simp only [exSs, exS.eq_1, exS.eq_2, exS.eq_3, exS.eq_4, exS.eq_5, exS.eq_8, exS.eq_9, exS.eq_10, exS.eq_11, exS.eq_12, x_whil, x_forr, lpC_ap, lpB_ap, evE, evEs, evO, evS, evIt, evT, asT, bind_ok, st_ok, ofO_some, ofB_some, tr_non, tr_bl, tr_int, tr_tup, c_lt, c_le, c_gt, c_ge, c_eqi, c_nei, c_eqs, c_nes, c_eqb, c_neb, c_isb, c_isnb, c_isn_non, c_isnn_non, c_ins, b_addi, b_subi, i_addi, v_lent, v_lenf, v_inti, v_absi, s_tup0, s_tup1, y_tup, y_str, fin_ret, fin_next, List.map, List.replicate, List.length_cons, List.length_nil, List.getElem?_cons_zero, List.getElem?_cons_succ, List.cons_append, List.nil_append, List.append_nil, List.set_cons_zero, List.set_cons_succ, Bool.not_true, Bool.not_false, wip, setTg, setAll, if_true, if_false, reduceIte, Bool.false_eq_true, tup_bs, lst_bs, Option.map_some, Bool.and_true, Bool.true_and, Bool.and_false, Bool.false_and, Bool.or_true, Bool.true_or, Bool.or_false, Bool.false_or, List.cons_beq_cons, nb_cons, cb_nil, Nat.reduceBEq, beq_self_eq_true, Int.reduceBEq, and_self, and_true, true_and, ← q2, v_lenl _ _ g2, b_mull 5 _ (by omega), lb5]
    rw [← q3]
  · intro x hx
    obtain ⟨i, _, rfl⟩ := List.mem_map.mp hx
    simp only [exSs, exS.eq_1, exS.eq_2, exS.eq_3, exS.eq_4, exS.eq_5, exS.eq_8, exS.eq_9, exS.eq_10, exS.eq_11, exS.eq_12, x_whil, x_forr, lpC_ap, lpB_ap, evE, evEs, evO, evS, evIt, evT, asT, bind_ok, st_ok, ofO_some, ofB_some, tr_non, tr_bl, tr_int, tr_tup, c_lt, c_le, c_gt, c_ge, c_eqi, c_nei, c_eqs, c_nes, c_eqb, c_neb, c_isb, c_isnb, c_isn_non, c_isnn_non, c_ins, b_addi, b_subi, i_addi, v_lent, v_lenf, v_inti, v_absi, s_tup0, s_tup1, y_tup, y_str, fin_ret, fin_next, List.map, List.replicate, List.length_cons, List.length_nil, List.getElem?_cons_zero, List.getElem?_cons_succ, List.cons_append, List.nil_append, List.append_nil, List.set_cons_zero, List.set_cons_succ, Bool.not_true, Bool.not_false, wip, setTg, setAll, if_true, if_false, reduceIte, Bool.false_eq_true, tup_bs, lst_bs, Option.map_some, Bool.and_true, Bool.true_and, Bool.and_false, Bool.false_and, Bool.or_true, Bool.true_or, Bool.or_false, Bool.false_or, List.cons_beq_cons, nb_cons, cb_nil, Nat.reduceBEq, beq_self_eq_true, Int.reduceBEq, and_self, and_true, true_and]
    rfl
theorem lcL_names {f : IV → IH → Res IV} (hf : ∀ x h, Hd a b c cells h → ∃ n h', f x h = .ok (.str n) h' ∧ n ∈ names ∧ Hd a b c cells h' ∧ Kp a h h') : ∀ (xs : List IV) (h : IH), Hd a b c cells h →
    ∃ (ns : List (List Nat)) (h' : IH), lcL [] f xs h = .ok (ns.map .str) h' ∧ ns.length = xs.length ∧ (∀ n ∈ ns, okName n = true) ∧ Hd a b c cells h' ∧ Kp a h h'
  | [], h, H => ⟨[], h, by simp [lcL, grd_nil], rfl, fun n hn => by simp at hn, H, Kp.refl ..⟩
  | x :: xs, h, H => by
    obtain ⟨n, h1, e1, p1, H1, k1⟩ := hf x h H
    obtain ⟨ns, h2, e2, l2, p2, H2, k2⟩ := lcL_names hf xs h1 H1
    refine ⟨n :: ns, h2, by simp only [lcL, grd_nil, if_true, e1, e2, List.map_cons], by simp [l2], fun m hm => ?_, H2, k1.trans k2⟩
    rcases List.mem_cons.mp hm with rfl | hm
    · exact names_ok _ p1
    · exact p2 m hm
theorem Kq.hd (q : Kq h h') (H : Hd a b c cells h) : Hd a b c cells h' := H.keep q.at_
theorem Gr.hd (q : Gr h h') (H : Hd a b c cells h) : Hd a b c cells h' := H.keep fun n o e => q.get e
def lens : List IV := [.int 0, .int 1, .int 3, .int 60, .int 200]
theorem lens_ok {v : IV} (h : v ∈ lens) : ∃ j : Nat, v = .int (j : Nat) ∧ j ≤ 200 := by
  simp only [lens, List.mem_cons, List.not_mem_nil, or_false] at h
  rcases h with rfl | rfl | rfl | rfl | rfl
  · exact ⟨0, rfl, by omega⟩
  · exact ⟨1, rfl, by omega⟩
  · exact ⟨3, rfl, by omega⟩
  · exact ⟨60, rfl, by omega⟩
  · exact ⟨200, rfl, by omega⟩
def fsS : St := (.asg (.nm 4) (.ite (.cmp .eq (.call 20 (.cons (.var 1) (.cons (.con (.int 3)) .nil))) (.con (.int 0))) (.call 27 (.cons (.var 1) (.cons (.var 2) .nil))) (.call 24 (.cons (.var 1) (.cons (.con (.int 5)) (.cons (.var 2) (.cons (.con (.int 12)) .nil)))))))
def sgS : St := (.asg (.nm 9) (.ite (.cmp .gt (.bv .len (.var 7)) (.con (.int 0))) (.join (.con (.str [32])) (.ex (.var 7))) (.con (.str [45]))))
def s5S : St := (.asg (.nm 5) (.call 24 (.cons (.var 1) (.cons (.con (.int 4)) (.cons (.var 2) (.cons (.con (.int 12)) .nil))))))
def s6S : St := (.asg (.nm 6) (.call 25 (.cons (.var 4) .nil)))
def cAS : St := (.cond (.or (.not (.call 26 (.cons (.call 9 (.cons (.var 4) .nil)) (.cons (.var 6) .nil)))) (.not (.call 26 (.cons (.call 16 (.cons (.var 6) .nil)) (.cons (.var 4) .nil)))))
    (.cons (.ret (.con (.bl false)))
    .nil)
    .nil)
def cBS : St := (.cond (.or (.cmp .isNot (.call 6 (.cons (.var 4) .nil)) (.con (.bl true))) (.not (.call 26 (.cons (.call 16 (.cons (.call 9 (.cons (.var 5) .nil)) .nil)) (.cons (.var 5) .nil)))))
    (.cons (.ret (.con (.bl false)))
    .nil)
    .nil)
def cCS : St := (.cond (.cmp .ne (.cmp .eq (.call 9 (.cons (.var 5) .nil)) (.var 6)) (.cmp .eq (.var 5) (.var 4)))
    (.cons (.ret (.con (.bl false)))
    .nil)
    .nil)
def s7S : St := (.asg (.nm 7) (.bs .tuple (.lc (.call 21 (.cons (.var 1) (.cons (.var 2) .nil))) (.nm 8) [8] (.rng (.call 21 (.cons (.var 1) (.cons (.lst (.cons (.con (.int 0)) (.cons (.con (.int 1)) (.cons (.con (.int 3)) (.cons (.con (.int 60)) (.cons (.con (.int 200)) .nil)))))) .nil)))))))
def cDS : St := (.cond (.or (.not (.call 26 (.cons (.call 17 (.cons (.var 7) .nil)) (.cons (.var 9) .nil)))) (.not (.call 26 (.cons (.call 18 (.cons (.var 9) .nil)) (.cons (.var 7) .nil)))))
    (.cons (.ret (.con (.bl false)))
    .nil)
    .nil)
def lwB : Sts := .cons fsS (.cons s5S (.cons s6S (.cons cAS (.cons cBS (.cons cCS (.cons s7S (.cons sgS (.cons cDS .nil))))))))
theorem fs_ok {s0 s3 s4 s5 s6 s7 s8 s9 : Option IV} (H : Hd a b c cells h) : ∃ t h', exS (callF D W 59) W fsS [s0, some (.loc a), some (.loc b), s3, s4, s5, s6, s7, s8, s9] h = .ok (.next, [s0, some (.loc a), some (.loc b), s3, some (enc t), s5, s6, s7, s8, s9]) h' ∧ Pr t ∧ Hd a b c cells h' := by
  obtain ⟨r, h1, e1, r0, r1, H1, k1⟩ := draw_ok (W := W) (k := 58) (m := 3) (by omega) H
  have e1 : callF D W 59 20 [.loc a, .int 3] h = .ok (.int r) h1 := e1
  by_cases hr : r = 0
  · obtain ⟨t, h2, e2, p2, H2, k2⟩ := wide_ok (W := W) (k := 56) H1
    have e2 : callF D W 59 27 [.loc a, .loc b] h1 = .ok (enc t) h2 := e2
    have hr' : (r == 0) = true := by simpa using hr
    exact ⟨t, h2, by simp only [fsS, exSs, exS.eq_1, exS.eq_2, exS.eq_3, exS.eq_4, exS.eq_5, exS.eq_8, exS.eq_9, exS.eq_10, exS.eq_11, exS.eq_12, x_whil, x_forr, lpC_ap, lpB_ap, evE, evEs, evO, evS, evIt, evT, asT, bind_ok, st_ok, ofO_some, ofB_some, tr_non, tr_bl, tr_int, tr_tup, c_lt, c_le, c_gt, c_ge, c_eqi, c_nei, c_eqs, c_nes, c_eqb, c_neb, c_isb, c_isnb, c_isn_non, c_isnn_non, c_ins, b_addi, b_subi, i_addi, v_lent, v_lenf, v_inti, v_absi, s_tup0, s_tup1, y_tup, y_str, fin_ret, fin_next, List.map, List.replicate, List.length_cons, List.length_nil, List.getElem?_cons_zero, List.getElem?_cons_succ, List.cons_append, List.nil_append, List.append_nil, List.set_cons_zero, List.set_cons_succ, Bool.not_true, Bool.not_false, wip, setTg, setAll, if_true, if_false, reduceIte, Bool.false_eq_true, tup_bs, lst_bs, Option.map_some, Bool.and_true, Bool.true_and, Bool.and_false, Bool.false_and, Bool.or_true, Bool.true_or, Bool.or_false, Bool.false_or, List.cons_beq_cons, nb_cons, cb_nil, Nat.reduceBEq, beq_self_eq_true, Int.reduceBEq, and_self, and_true, true_and, e1, hr', e2], p2, H2⟩
  · obtain ⟨t, h2, e2, p2, H2, k2⟩ := procedure_ok (W := W) (k := 51) (n := 4) (by omega) H1
    have e2 : callF D W 59 24 [.loc a, .int 5, .loc b, .int 12] h1 = .ok (enc t) h2 := e2
    have hr' : (r == 0) = false := by simpa using hr
    exact ⟨t, h2, by simp only [fsS, exSs, exS.eq_1, exS.eq_2, exS.eq_3, exS.eq_4, exS.eq_5, exS.eq_8, exS.eq_9, exS.eq_10, exS.eq_11, exS.eq_12, x_whil, x_forr, lpC_ap, lpB_ap, evE, evEs, evO, evS, evIt, evT, asT, bind_ok, st_ok, ofO_some, ofB_some, tr_non, tr_bl, tr_int, tr_tup, c_lt, c_le, c_gt, c_ge, c_eqi, c_nei, c_eqs, c_nes, c_eqb, c_neb, c_isb, c_isnb, c_isn_non, c_isnn_non, c_ins, b_addi, b_subi, i_addi, v_lent, v_lenf, v_inti, v_absi, s_tup0, s_tup1, y_tup, y_str, fin_ret, fin_next, List.map, List.replicate, List.length_cons, List.length_nil, List.getElem?_cons_zero, List.getElem?_cons_succ, List.cons_append, List.nil_append, List.append_nil, List.set_cons_zero, List.set_cons_succ, Bool.not_true, Bool.not_false, wip, setTg, setAll, if_true, if_false, reduceIte, Bool.false_eq_true, tup_bs, lst_bs, Option.map_some, Bool.and_true, Bool.true_and, Bool.and_false, Bool.false_and, Bool.or_true, Bool.true_or, Bool.or_false, Bool.false_or, List.cons_beq_cons, nb_cons, cb_nil, Nat.reduceBEq, beq_self_eq_true, Int.reduceBEq, and_self, and_true, true_and, e1, hr', e2], p2, H2⟩
theorem sg_ok {C : MP.Callee} {s0 s1 s2 s3 s4 s5 s6 s8 s9 : Option IV} {ns : List (List Nat)} (hn : ns.length ≤ 200) (ho : ∀ n ∈ ns, okName n = true) : exS C W sgS [s0, s1, s2, s3, s4, s5, s6, some (.tup (ns.map .str)), s8, s9] h = .ok (.next, [s0, s1, s2, s3, s4, s5, s6, some (.tup (ns.map .str)), s8, some (.str (rtx ns))]) h := by
  have hj : joinI [32] (ns.map .str) h = .ok (.str (joinL [32] ns)) h := by
    unfold joinI
    rw [asStrs_id]
    have := lens_le ho
    simp only [List.length_cons, List.length_nil]
    rw [if_pos (by have : big = 16777216 := rfl; omega)]
  unfold rtx
  cases ns with
  | nil =>
    have : ((0 : Int) < (([] : List IV).length : Int)) = False := by simp
    simp only [sgS, exSs, exS.eq_1, exS.eq_2, exS.eq_3, exS.eq_4, exS.eq_5, exS.eq_8, exS.eq_9, exS.eq_10, exS.eq_11, exS.eq_12, x_whil, x_forr, lpC_ap, lpB_ap, evE, evEs, evO, evS, evIt, evT, asT, bind_ok, st_ok, ofO_some, ofB_some, tr_non, tr_bl, tr_int, tr_tup, c_lt, c_le, c_gt, c_ge, c_eqi, c_nei, c_eqs, c_nes, c_eqb, c_neb, c_isb, c_isnb, c_isn_non, c_isnn_non, c_ins, b_addi, b_subi, i_addi, v_lent, v_lenf, v_inti, v_absi, s_tup0, s_tup1, y_tup, y_str, fin_ret, fin_next, List.map, List.replicate, List.length_cons, List.length_nil, List.getElem?_cons_zero, List.getElem?_cons_succ, List.cons_append, List.nil_append, List.append_nil, List.set_cons_zero, List.set_cons_succ, Bool.not_true, Bool.not_false, wip, setTg, setAll, if_true, if_false, reduceIte, Bool.false_eq_true, tup_bs, lst_bs, Option.map_some, Bool.and_true, Bool.true_and, Bool.and_false, Bool.false_and, Bool.or_true, Bool.true_or, Bool.or_false, Bool.false_or, List.cons_beq_cons, nb_cons, cb_nil, Nat.reduceBEq, beq_self_eq_true, Int.reduceBEq, and_self, and_true, true_and, List.map_nil, List.isEmpty_nil]
    rfl
  | cons n ns =>
    have : ((0 : Int) < (((n :: ns).map IV.str).length : Int)) = True := by simp
    generalize (n :: ns).map IV.str = X at this hj ⊢
    simp only [sgS, exSs, exS.eq_1, exS.eq_2, exS.eq_3, exS.eq_4, exS.eq_5, exS.eq_8, exS.eq_9, exS.eq_10, exS.eq_11, exS.eq_12, x_whil, x_forr, lpC_ap, lpB_ap, evE, evEs, evO, evS, evIt, evT, asT, bind_ok, st_ok, ofO_some, ofB_some, tr_non, tr_bl, tr_int, tr_tup, c_lt, c_le, c_gt, c_ge, c_eqi, c_nei, c_eqs, c_nes, c_eqb, c_neb, c_isb, c_isnb, c_isn_non, c_isnn_non, c_ins, b_addi, b_subi, i_addi, v_lent, v_lenf, v_inti, v_absi, s_tup0, s_tup1, y_tup, y_str, fin_ret, fin_next, List.map, List.replicate, List.length_cons, List.length_nil, List.getElem?_cons_zero, List.getElem?_cons_succ, List.cons_append, List.nil_append, List.append_nil, List.set_cons_zero, List.set_cons_succ, Bool.not_true, Bool.not_false, wip, setTg, setAll, if_true, if_false, reduceIte, Bool.false_eq_true, tup_bs, lst_bs, Option.map_some, Bool.and_true, Bool.true_and, Bool.and_false, Bool.false_and, Bool.or_true, Bool.true_or, Bool.or_false, Bool.false_or, List.cons_beq_cons, nb_cons, cb_nil, Nat.reduceBEq, beq_self_eq_true, Int.reduceBEq, and_self, and_true, true_and, List.isEmpty_cons, this, decide_true, hj]
end K76
namespace K76
open MP
variable {W k : Nat} {h h' h'' : IH} {a b c : Nat} {cells : List Int}
section
variable {s0 s3 s5 s6 s7 s8 s9 : Option IV}
theorem s5_ok {s4 : Option IV} (H : Hd a b c cells h) : ∃ u h', exS (callF D W 59) W s5S [s0, some (.loc a), some (.loc b), s3, s4, s5, s6, s7, s8, s9] h = .ok (.next, [s0, some (.loc a), some (.loc b), s3, s4, some (enc u), s6, s7, s8, s9]) h' ∧ Pr u ∧ Hd a b c cells h' := by
  obtain ⟨u, h2, e2, p2, H2, k2⟩ := procedure_ok (W := W) (k := 52) (n := 3) (by omega) H
  have e2 : callF D W 59 24 [.loc a, .int 4, .loc b, .int 12] h = .ok (enc u) h2 := e2
  exact ⟨u, h2, by simp only [s5S, exSs, exS.eq_1, exS.eq_2, exS.eq_3, exS.eq_4, exS.eq_5, exS.eq_8, exS.eq_9, exS.eq_10, exS.eq_11, exS.eq_12, x_whil, x_forr, lpC_ap, lpB_ap, evE, evEs, evO, evS, evIt, evT, asT, bind_ok, st_ok, ofO_some, ofB_some, tr_non, tr_bl, tr_int, tr_tup, c_lt, c_le, c_gt, c_ge, c_eqi, c_nei, c_eqs, c_nes, c_eqb, c_neb, c_isb, c_isnb, c_isn_non, c_isnn_non, c_ins, b_addi, b_subi, i_addi, v_lent, v_lenf, v_inti, v_absi, s_tup0, s_tup1, y_tup, y_str, fin_ret, fin_next, List.map, List.replicate, List.length_cons, List.length_nil, List.getElem?_cons_zero, List.getElem?_cons_succ, List.cons_append, List.nil_append, List.append_nil, List.set_cons_zero, List.set_cons_succ, Bool.not_true, Bool.not_false, wip, setTg, setAll, if_true, if_false, reduceIte, Bool.false_eq_true, tup_bs, lst_bs, Option.map_some, Bool.and_true, Bool.true_and, Bool.and_false, Bool.false_and, Bool.or_true, Bool.true_or, Bool.or_false, Bool.false_or, List.cons_beq_cons, nb_cons, cb_nil, Nat.reduceBEq, beq_self_eq_true, Int.reduceBEq, and_self, and_true, true_and, e2], p2, H2⟩
theorem s6_ok {t : Tr} (p : Pr t) {s1 s2 : Option IV} : exS (callF D W 59) W s6S [s0, s1, s2, s3, some (enc t), s5, s6, s7, s8, s9] h = .ok (.next, [s0, s1, s2, s3, some (enc t), s5, some (.str (ptx t)), s7, s8, s9]) h := by
  have e3 : callF D W 59 25 [enc t] h = .ok (.str (ptx t)) h := ltext_enc 59 t (by have := p.dep; omega) p.len
  simp only [s6S, exSs, exS.eq_1, exS.eq_2, exS.eq_3, exS.eq_4, exS.eq_5, exS.eq_8, exS.eq_9, exS.eq_10, exS.eq_11, exS.eq_12, x_whil, x_forr, lpC_ap, lpB_ap, evE, evEs, evO, evS, evIt, evT, asT, bind_ok, st_ok, ofO_some, ofB_some, tr_non, tr_bl, tr_int, tr_tup, c_lt, c_le, c_gt, c_ge, c_eqi, c_nei, c_eqs, c_nes, c_eqb, c_neb, c_isb, c_isnb, c_isn_non, c_isnn_non, c_ins, b_addi, b_subi, i_addi, v_lent, v_lenf, v_inti, v_absi, s_tup0, s_tup1, y_tup, y_str, fin_ret, fin_next, List.map, List.replicate, List.length_cons, List.length_nil, List.getElem?_cons_zero, List.getElem?_cons_succ, List.cons_append, List.nil_append, List.append_nil, List.set_cons_zero, List.set_cons_succ, Bool.not_true, Bool.not_false, wip, setTg, setAll, if_true, if_false, reduceIte, Bool.false_eq_true, tup_bs, lst_bs, Option.map_some, Bool.and_true, Bool.true_and, Bool.and_false, Bool.false_and, Bool.or_true, Bool.true_or, Bool.or_false, Bool.false_or, List.cons_beq_cons, nb_cons, cb_nil, Nat.reduceBEq, beq_self_eq_true, Int.reduceBEq, and_self, and_true, true_and, e3]
theorem cA_ok {t : Tr} (p1 : Pr t) (hW : 10 ≤ W) {s1 s2 : Option IV} (H : Hd a b c cells h) : ∃ h', exS (callF D W 59) W cAS [s0, s1, s2, s3, some (enc t), s5, some (.str (ptx t)), s7, s8, s9] h = .ok (.next, [s0, s1, s2, s3, some (enc t), s5, some (.str (ptx t)), s7, s8, s9]) h' ∧ Hd a b c cells h' := by
  obtain ⟨h4, e4, g4⟩ := proc_text p1 (W := W) (k := 47) (h := h)
  have e4 : callF D W 59 9 [enc t] h = .ok (.str (ptx t)) h4 := e4
  have i4 : callF D W 59 26 [.str (ptx t), .str (ptx t)] h4 = .ok (.bl true) h4 := law_is_str (k := 58) _
  obtain ⟨h5, e5, g5⟩ := read_proc p1 hW (k := 38) (h := h4)
  have e5 : callF D W 59 16 [.str (ptx t)] h4 = .ok (enc t) h5 := e5
  have i5 : callF D W 59 26 [enc t, enc t] h5 = .ok (.bl true) h5 := law_is_enc (k := 43) p1
  exact ⟨h5, by simp only [cAS, exSs, exS.eq_1, exS.eq_2, exS.eq_3, exS.eq_4, exS.eq_5, exS.eq_8, exS.eq_9, exS.eq_10, exS.eq_11, exS.eq_12, x_whil, x_forr, lpC_ap, lpB_ap, evE, evEs, evO, evS, evIt, evT, asT, bind_ok, st_ok, ofO_some, ofB_some, tr_non, tr_bl, tr_int, tr_tup, c_lt, c_le, c_gt, c_ge, c_eqi, c_nei, c_eqs, c_nes, c_eqb, c_neb, c_isb, c_isnb, c_isn_non, c_isnn_non, c_ins, b_addi, b_subi, i_addi, v_lent, v_lenf, v_inti, v_absi, s_tup0, s_tup1, y_tup, y_str, fin_ret, fin_next, List.map, List.replicate, List.length_cons, List.length_nil, List.getElem?_cons_zero, List.getElem?_cons_succ, List.cons_append, List.nil_append, List.append_nil, List.set_cons_zero, List.set_cons_succ, Bool.not_true, Bool.not_false, wip, setTg, setAll, if_true, if_false, reduceIte, Bool.false_eq_true, tup_bs, lst_bs, Option.map_some, Bool.and_true, Bool.true_and, Bool.and_false, Bool.false_and, Bool.or_true, Bool.true_or, Bool.or_false, Bool.false_or, List.cons_beq_cons, nb_cons, cb_nil, Nat.reduceBEq, beq_self_eq_true, Int.reduceBEq, and_self, and_true, true_and, e4, i4, e5, i5], g5.hd (g4.hd H)⟩
theorem cB_ok {t u : Tr} (p1 : Pr t) (p2 : Pr u) (hW : 10 ≤ W) {s1 s2 : Option IV} (H : Hd a b c cells h) : ∃ h', exS (callF D W 59) W cBS [s0, s1, s2, s3, some (enc t), some (enc u), s6, s7, s8, s9] h = .ok (.next, [s0, s1, s2, s3, some (enc t), some (enc u), s6, s7, s8, s9]) h' ∧ Hd a b c cells h' := by
  obtain ⟨h6, e6, g6⟩ := is_proc p1 (W := W) (k := 49) (h := h)
  have e6 : callF D W 59 6 [enc t] h = .ok (.bl true) h6 := e6
  obtain ⟨h7, e7, g7⟩ := proc_text p2 (W := W) (k := 47) (h := h6)
  have e7 : callF D W 59 9 [enc u] h6 = .ok (.str (ptx u)) h7 := e7
  obtain ⟨h8, e8, g8⟩ := read_proc p2 hW (k := 38) (h := h7)
  have e8 : callF D W 59 16 [.str (ptx u)] h7 = .ok (enc u) h8 := e8
  have i8 : callF D W 59 26 [enc u, enc u] h8 = .ok (.bl true) h8 := law_is_enc (k := 43) p2
  exact ⟨h8, by simp only [cBS, exSs, exS.eq_1, exS.eq_2, exS.eq_3, exS.eq_4, exS.eq_5, exS.eq_8, exS.eq_9, exS.eq_10, exS.eq_11, exS.eq_12, x_whil, x_forr, lpC_ap, lpB_ap, evE, evEs, evO, evS, evIt, evT, asT, bind_ok, st_ok, ofO_some, ofB_some, tr_non, tr_bl, tr_int, tr_tup, c_lt, c_le, c_gt, c_ge, c_eqi, c_nei, c_eqs, c_nes, c_eqb, c_neb, c_isb, c_isnb, c_isn_non, c_isnn_non, c_ins, b_addi, b_subi, i_addi, v_lent, v_lenf, v_inti, v_absi, s_tup0, s_tup1, y_tup, y_str, fin_ret, fin_next, List.map, List.replicate, List.length_cons, List.length_nil, List.getElem?_cons_zero, List.getElem?_cons_succ, List.cons_append, List.nil_append, List.append_nil, List.set_cons_zero, List.set_cons_succ, Bool.not_true, Bool.not_false, wip, setTg, setAll, if_true, if_false, reduceIte, Bool.false_eq_true, tup_bs, lst_bs, Option.map_some, Bool.and_true, Bool.true_and, Bool.and_false, Bool.false_and, Bool.or_true, Bool.true_or, Bool.or_false, Bool.false_or, List.cons_beq_cons, nb_cons, cb_nil, Nat.reduceBEq, beq_self_eq_true, Int.reduceBEq, and_self, and_true, true_and, e6, decide_true, e7, e8, i8], g8.hd (g7.hd (g6.hd H))⟩
theorem cC_ok {t u : Tr} (p1 : Pr t) (p2 : Pr u) {s1 s2 : Option IV} (H : Hd a b c cells h) : ∃ h', exS (callF D W 59) W cCS [s0, s1, s2, s3, some (enc t), some (enc u), some (.str (ptx t)), s7, s8, s9] h = .ok (.next, [s0, s1, s2, s3, some (enc t), some (enc u), some (.str (ptx t)), s7, s8, s9]) h' ∧ Hd a b c cells h' := by
  obtain ⟨h9, e9, g9⟩ := proc_text p2 (W := W) (k := 47) (h := h)
  have e9 : callF D W 59 9 [enc u] h = .ok (.str (ptx u)) h9 := e9
  have i9 := eqT p2 p1 (h := h9)
  exact ⟨h9, by simp only [cCS, exSs, exS.eq_1, exS.eq_2, exS.eq_3, exS.eq_4, exS.eq_5, exS.eq_8, exS.eq_9, exS.eq_10, exS.eq_11, exS.eq_12, x_whil, x_forr, lpC_ap, lpB_ap, evE, evEs, evO, evS, evIt, evT, asT, bind_ok, st_ok, ofO_some, ofB_some, tr_non, tr_bl, tr_int, tr_tup, c_lt, c_le, c_gt, c_ge, c_eqi, c_nei, c_eqs, c_nes, c_eqb, c_neb, c_isb, c_isnb, c_isn_non, c_isnn_non, c_ins, b_addi, b_subi, i_addi, v_lent, v_lenf, v_inti, v_absi, s_tup0, s_tup1, y_tup, y_str, fin_ret, fin_next, List.map, List.replicate, List.length_cons, List.length_nil, List.getElem?_cons_zero, List.getElem?_cons_succ, List.cons_append, List.nil_append, List.append_nil, List.set_cons_zero, List.set_cons_succ, Bool.not_true, Bool.not_false, wip, setTg, setAll, if_true, if_false, reduceIte, Bool.false_eq_true, tup_bs, lst_bs, Option.map_some, Bool.and_true, Bool.true_and, Bool.and_false, Bool.false_and, Bool.or_true, Bool.true_or, Bool.or_false, Bool.false_or, List.cons_beq_cons, nb_cons, cb_nil, Nat.reduceBEq, beq_self_eq_true, Int.reduceBEq, and_self, and_true, true_and, e9, i9], g9.hd H⟩
theorem nm_elt {σ : Sg} (h0 : σ[1]? = some (some (.loc a))) (h1 : σ[2]? = some (some (.loc b))) (x : IV) (h : IH) (H : Hd a b c cells h) :
    ∃ n h', lcF (callF D W 59) (.call 21 (.cons (.var 1) (.cons (.var 2) .nil))) (.nm 8) [8] σ x h = .ok (.str n) h' ∧ n ∈ names ∧ Hd a b c cells h' ∧ Kp a h h' := by
  obtain ⟨n, h', e, r⟩ := some_name (W := W) (k := 57) H
  have e : callF D W 59 21 [.loc a, .loc b] h = .ok (.str n) h' := e
  refine ⟨n, h', ?_, r⟩
  have g0 : ((wip σ [8]).set 8 (some x))[1]? = some (some (.loc a)) := by simp [wip, h0]
  have g1 : ((wip σ [8]).set 8 (some x))[2]? = some (some (.loc b)) := by simp [wip, h1]
  rw [lcF_nm]
  generalize (wip σ [8]).set 8 (some x) = σ' at g0 g1
  simp only [exSs, exS.eq_1, exS.eq_2, exS.eq_3, exS.eq_4, exS.eq_5, exS.eq_8, exS.eq_9, exS.eq_10, exS.eq_11, exS.eq_12, x_whil, x_forr, lpC_ap, lpB_ap, evE, evEs, evO, evS.eq_1, evS_lc, evIt, evT, asT, bind_ok, st_ok, ofO_some, ofB_some, tr_non, tr_bl, tr_int, tr_tup, c_lt, c_le, c_gt, c_ge, c_eqi, c_nei, c_eqs, c_nes, c_eqb, c_neb, c_isb, c_isnb, c_isn_non, c_isnn_non, c_ins, b_addi, b_subi, i_addi, v_lent, v_lenf, v_inti, v_absi, s_tup0, s_tup1, y_tup, y_str, fin_ret, fin_next, List.map, List.replicate, List.length_cons, List.length_nil, List.getElem?_cons_zero, List.getElem?_cons_succ, List.cons_append, List.nil_append, List.append_nil, List.set_cons_zero, List.set_cons_succ, Bool.not_true, Bool.not_false, wip, setTg, setAll, if_true, if_false, reduceIte, Bool.false_eq_true, tup_bs, lst_bs, Option.map_some, Bool.and_true, Bool.true_and, Bool.and_false, Bool.false_and, Bool.or_true, Bool.true_or, Bool.or_false, Bool.false_or, List.cons_beq_cons, nb_cons, cb_nil, Nat.reduceBEq, beq_self_eq_true, Int.reduceBEq, and_self, and_true, true_and, g0, g1, e]
theorem s7_core {C : MP.Callee} {s4 : Option IV} {h10 h11 : IH} {j : Int} {X : List IV} (e10 : C 21 [.loc a, .loc h.length] (h ++ [.lst [.int 0, .int 1, .int 3, .int 60, .int 200]]) = .ok (.int j) h10) (hs : small j = true) (hb : ((rngL 0 j).length ≤ big) = True)
    (e11 : lcL [] (lcF C (.call 21 (.cons (.var 1) (.cons (.var 2) .nil))) (.nm 8) [8] [s0, some (.loc a), some (.loc b), s3, s4, s5, s6, s7, s8, s9]) (rngL 0 j) h10 = .ok X h11) :
    exS C W s7S [s0, some (.loc a), some (.loc b), s3, s4, s5, s6, s7, s8, s9] h = .ok (.next, [s0, some (.loc a), some (.loc b), s3, s4, s5, s6, some (.tup X), s8, s9]) h11 := by
  have lb5 : (0 + 1 + 1 + 1 + 1 + 1 ≤ big) = True := by simp [big]
  simp only [s7S, exSs, exS.eq_1, exS.eq_2, exS.eq_3, exS.eq_4, exS.eq_5, exS.eq_8, exS.eq_9, exS.eq_10, exS.eq_11, exS.eq_12, x_whil, x_forr, lpC_ap, lpB_ap, evE, evEs, evO, evS.eq_1, evS_lc, evIt, evT, asT, bind_ok, st_ok, ofO_some, ofB_some, tr_non, tr_bl, tr_int, tr_tup, c_lt, c_le, c_gt, c_ge, c_eqi, c_nei, c_eqs, c_nes, c_eqb, c_neb, c_isb, c_isnb, c_isn_non, c_isnn_non, c_ins, b_addi, b_subi, i_addi, v_lent, v_lenf, v_inti, v_absi, s_tup0, s_tup1, y_tup, y_str, fin_ret, fin_next, List.map, List.replicate, List.length_cons, List.length_nil, List.getElem?_cons_zero, List.getElem?_cons_succ, List.cons_append, List.nil_append, List.append_nil, List.set_cons_zero, List.set_cons_succ, Bool.not_true, Bool.not_false, wip, setTg, setAll, if_true, if_false, reduceIte, Bool.false_eq_true, tup_bs, lst_bs, Option.map_some, Bool.and_true, Bool.true_and, Bool.and_false, Bool.false_and, Bool.or_true, Bool.true_or, Bool.or_false, Bool.false_or, List.cons_beq_cons, nb_cons, cb_nil, Nat.reduceBEq, beq_self_eq_true, Int.reduceBEq, and_self, and_true, true_and, lb5, e10, hs, hb, e11]
theorem s7_ok {s4 : Option IV} (H : Hd a b c cells h) : ∃ (ns : List (List Nat)) (h' : IH), exS (callF D W 59) W s7S [s0, some (.loc a), some (.loc b), s3, s4, s5, s6, s7, s8, s9] h = .ok (.next, [s0, some (.loc a), some (.loc b), s3, s4, s5, s6, some (.tup (ns.map .str)), s8, s9]) h' ∧ ns.length ≤ 200 ∧ (∀ n ∈ ns, okName n = true) ∧ Hd a b c cells h' := by
  obtain ⟨v, h10, e10, hv, H10, k10⟩ := some_loc (W := W) (k := 57) (H.snoc (.lst lens)) (new_get h (.lst lens)) (Nat.ne_of_gt H.lt) (by simp [lens]) (by simp [lens])
  obtain ⟨j, rfl, hj⟩ := lens_ok hv
  have e10 : callF D W 59 21 [.loc a, .loc h.length] (h ++ [.lst [.int 0, .int 1, .int 3, .int 60, .int 200]]) = .ok (.int (j : Nat)) h10 := e10
  have hs : small ((j : Nat) : Int) = true := by unfold small; simp; omega
  have hjl : (rngL 0 ((j : Nat) : Int)).length = j := by simp [rngL]
  have hb : ((rngL 0 ((j : Nat) : Int)).length ≤ big) = True := by
    simp only [eq_iff_iff, iff_true]
    rw [hjl]
    exact small_big (by omega)
  obtain ⟨ns, h11, e11, l11, o11, H11, k11⟩ := lcL_names (fun x h H => nm_elt (W := W) (σ := [s0, some (.loc a), some (.loc b), s3, s4, s5, s6, s7, s8, s9]) rfl rfl x h H) (rngL 0 ((j : Nat) : Int)) h10 H10
  have hn : ns.length ≤ 200 := by rw [l11, hjl]; exact hj
  refine ⟨ns, h11, ?_, hn, o11, H11⟩
  exact s7_core e10 hs hb e11
theorem cD_ok {ns : List (List Nat)} (hn : ns.length ≤ 200) (ho : ∀ n ∈ ns, okName n = true) {s1 s2 s4 : Option IV} (H : Hd a b c cells h) : ∃ h', exS (callF D W 59) W cDS [s0, s1, s2, s3, s4, s5, s6, some (.tup (ns.map .str)), s8, some (.str (rtx ns))] h = .ok (.next, [s0, s1, s2, s3, s4, s5, s6, some (.tup (ns.map .str)), s8, some (.str (rtx ns))]) h' ∧ Hd a b c cells h' := by
  have e12 : callF D W 59 17 [.tup (ns.map .str)] h = .ok (.str (rtx ns)) h := row_text_ok (k := 56) hn ho
  have i12 : callF D W 59 26 [.str (rtx ns), .str (rtx ns)] h = .ok (.bl true) h := law_is_str (k := 58) _
  obtain ⟨h13, e13, g13⟩ := read_row_ok (W := W) (k := 57) (h := h) hn ho
  have e13 : callF D W 59 18 [.str (rtx ns)] h = .ok (.tup (ns.map .str)) h13 := e13
  have i13 : callF D W 59 26 [.tup (ns.map .str), .tup (ns.map .str)] h13 = .ok (.bl true) h13 := law_is_row (k := 57) hn
  refine ⟨h13, ?_, g13.hd H⟩
  generalize ns.map IV.str = X at *
  simp only [cDS, exSs, exS.eq_1, exS.eq_2, exS.eq_3, exS.eq_4, exS.eq_5, exS.eq_8, exS.eq_9, exS.eq_10, exS.eq_11, exS.eq_12, x_whil, x_forr, lpC_ap, lpB_ap, evE, evEs, evO, evS, evIt, evT, asT, bind_ok, st_ok, ofO_some, ofB_some, tr_non, tr_bl, tr_int, tr_tup, c_lt, c_le, c_gt, c_ge, c_eqi, c_nei, c_eqs, c_nes, c_eqb, c_neb, c_isb, c_isnb, c_isn_non, c_isnn_non, c_ins, b_addi, b_subi, i_addi, v_lent, v_lenf, v_inti, v_absi, s_tup0, s_tup1, y_tup, y_str, fin_ret, fin_next, List.map, List.replicate, List.length_cons, List.length_nil, List.getElem?_cons_zero, List.getElem?_cons_succ, List.cons_append, List.nil_append, List.append_nil, List.set_cons_zero, List.set_cons_succ, Bool.not_true, Bool.not_false, wip, setTg, setAll, if_true, if_false, reduceIte, Bool.false_eq_true, tup_bs, lst_bs, Option.map_some, Bool.and_true, Bool.true_and, Bool.and_false, Bool.false_and, Bool.or_true, Bool.true_or, Bool.or_false, Bool.false_or, List.cons_beq_cons, nb_cons, cb_nil, Nat.reduceBEq, beq_self_eq_true, Int.reduceBEq, and_self, and_true, true_and, e12, i12, e13, i13]
end
theorem lw_body (hW : 10 ≤ W) (s0 s3 s4 s5 s6 s7 s8 s9 : Option IV) (h : IH) (H : Hd a b c cells h) :
    ∃ h' x4 x5 x6 x7 x9, lpB (callF D W 59) W lwB [s0, some (.loc a), some (.loc b), s3, s4, s5, s6, s7, s8, s9] h = .ok (.next, [s0, some (.loc a), some (.loc b), s3, x4, x5, x6, x7, s8, x9]) h' ∧ Hd a b c cells h' := by
  obtain ⟨t, h1, e1, p1, H1⟩ := fs_ok (W := W) (s0 := s0) (s3 := s3) (s4 := s4) (s5 := s5) (s6 := s6) (s7 := s7) (s8 := s8) (s9 := s9) H
  obtain ⟨u, h2, e2, p2, H2⟩ := s5_ok (W := W) (s0 := s0) (s3 := s3) (s4 := some (enc t)) (s5 := s5) (s6 := s6) (s7 := s7) (s8 := s8) (s9 := s9) H1
  have e3 := s6_ok (W := W) (h := h2) (s0 := s0) (s1 := some (.loc a)) (s2 := some (.loc b)) (s3 := s3) (s5 := some (enc u)) (s6 := s6) (s7 := s7) (s8 := s8) (s9 := s9) p1
  obtain ⟨h4, e4, H4⟩ := cA_ok (W := W) (s0 := s0) (s1 := some (.loc a)) (s2 := some (.loc b)) (s3 := s3) (s5 := some (enc u)) (s7 := s7) (s8 := s8) (s9 := s9) p1 hW H2
  obtain ⟨h5, e5, H5⟩ := cB_ok (W := W) (s0 := s0) (s1 := some (.loc a)) (s2 := some (.loc b)) (s3 := s3) (s6 := some (.str (ptx t))) (s7 := s7) (s8 := s8) (s9 := s9) p1 p2 hW H4
  obtain ⟨h6, e6, H6⟩ := cC_ok (W := W) (s0 := s0) (s1 := some (.loc a)) (s2 := some (.loc b)) (s3 := s3) (s7 := s7) (s8 := s8) (s9 := s9) p1 p2 H5
  obtain ⟨ns, h7, e7, hn, ho, H7⟩ := s7_ok (W := W) (s0 := s0) (s3 := s3) (s4 := some (enc t)) (s5 := some (enc u)) (s6 := some (.str (ptx t))) (s7 := s7) (s8 := s8) (s9 := s9) H6
  have e8 := sg_ok (W := W) (h := h7) (C := callF D W 59) (s0 := s0) (s1 := some (.loc a)) (s2 := some (.loc b)) (s3 := s3) (s4 := some (enc t)) (s5 := some (enc u)) (s6 := some (.str (ptx t))) (s8 := s8) (s9 := s9) hn ho
  obtain ⟨h9, e9, H9⟩ := cD_ok (W := W) (s0 := s0) (s1 := some (.loc a)) (s2 := some (.loc b)) (s3 := s3) (s4 := some (enc t)) (s5 := some (enc u)) (s6 := some (.str (ptx t))) (s8 := s8) hn ho H7
  refine ⟨h9, some (enc t), some (enc u), some (.str (ptx t)), some (.tup (ns.map .str)), some (.str (rtx ns)), ?_, H9⟩
  rw [lpB_ap]
  unfold lwB
  simp only [exSs, bind_ok, e1, e2, e3, e4, e5, e6, e7, e8, e9]
theorem lw_loop (hW : 10 ≤ W) (xs : List IV) : ∀ (s0 s3 s4 s5 s6 s7 s8 s9 : Option IV) (h : IH), Hd a b c cells h →
    ∃ h' σ', forL [] (.nm 3) (lpB (callF D W 59) W lwB) xs [s0, some (.loc a), some (.loc b), s3, s4, s5, s6, s7, s8, s9] h = .ok (.next, σ') h' := by
  induction xs with
  | nil => exact fun s0 s3 s4 s5 s6 s7 s8 s9 h H => ⟨h, [s0, some (.loc a), some (.loc b), s3, s4, s5, s6, s7, s8, s9], by simp only [forL, grd_nil, if_true]⟩
  | cons x xs ih =>
    intro s0 s3 s4 s5 s6 s7 s8 s9 h H
    obtain ⟨h1, x4, x5, x6, x7, x9, e1, H1⟩ := lw_body hW s0 (some x) s4 s5 s6 s7 s8 s9 h H
    obtain ⟨hF, σF, eF⟩ := ih s0 (some x) x4 x5 x6 x7 s8 x9 h1 H1
    refine ⟨hF, σF, ?_⟩
    rw [forL]
    simp only [grd_nil, if_true, setTg, List.set_cons_zero, List.set_cons_succ, e1, bind_ok]
    exact eF
theorem law_core {C : MP.Callee} {a : Nat} {h1 h2 : IH} {X : List IV} {σ2 : Sg} (e1 : C 19 [.frl X] [] = .ok (.loc a) h1)
    (e2' : forL [] (.nm 3) (lpB C W lwB) (rngL 0 4) [some (.frl X), some (.loc a), some (.loc h1.length), none, none, none, none, none, none, none] (h1 ++ [.lst [.str [97], .str [98], .str [122, 122], .str [97, 98, 99, 100, 101, 102, 103, 104], .str [99, 104, 101, 99, 107, 101, 100], .str [120], .str [113, 97], .str [109]]]) = .ok (.next, σ2) h2) :
    finR (exSs C W d_law.body (List.map some [.frl X] ++ List.replicate (d_law.N.length - [IV.frl X].length) none) []) = .ok (.bl true) h2 := by
  have hs : small 4 = true := rfl
  have lb8 : (0 + 1 + 1 + 1 + 1 + 1 + 1 + 1 + 1 ≤ big) = True := by simp [big]
  have hd : d_law.body = .cons (.asg (.nm 1) (.call 19 (.cons (.var 0) .nil))) (.cons (.asg (.nm 2) (.lst (.cons (.con (.str [97])) (.cons (.con (.str [98])) (.cons (.con (.str [122, 122])) (.cons (.con (.str [97, 98, 99, 100, 101, 102, 103, 104])) (.cons (.con (.str [99, 104, 101, 99, 107, 101, 100])) (.cons (.con (.str [120])) (.cons (.con (.str [113, 97])) (.cons (.con (.str [109])) .nil)))))))))) (.cons (.forr (.nm 3) (.rng (.con (.int 4))) lwB) (.cons (.ret (.con (.bl true))) .nil))) := rfl
  have hN : d_law.N.length = 10 := rfl
  rw [hd, hN]
  simp only [List.length_cons, List.length_nil, Nat.reduceAdd, Nat.reduceSub, List.replicate, exSs, exS.eq_1, exS.eq_2, exS.eq_3, exS.eq_4, exS.eq_5, exS.eq_8, exS.eq_9, exS.eq_10, exS.eq_11, exS.eq_12, x_whil, x_forr, lpC_ap, lpB_ap, evE, evEs, evO, evS, evIt, evT, asT, bind_ok, st_ok, ofO_some, ofB_some, tr_non, tr_bl, tr_int, tr_tup, c_lt, c_le, c_gt, c_ge, c_eqi, c_nei, c_eqs, c_nes, c_eqb, c_neb, c_isb, c_isnb, c_isn_non, c_isnn_non, c_ins, b_addi, b_subi, i_addi, v_lent, v_lenf, v_inti, v_absi, s_tup0, s_tup1, y_tup, y_str, fin_ret, fin_next, List.map, List.replicate, List.length_cons, List.length_nil, List.getElem?_cons_zero, List.getElem?_cons_succ, List.cons_append, List.nil_append, List.append_nil, List.set_cons_zero, List.set_cons_succ, Bool.not_true, Bool.not_false, wip, setTg, setAll, if_true, if_false, reduceIte, Bool.false_eq_true, tup_bs, lst_bs, Option.map_some, Bool.and_true, Bool.true_and, Bool.and_false, Bool.false_and, Bool.or_true, Bool.true_or, Bool.or_false, Bool.false_or, List.cons_beq_cons, nb_cons, cb_nil, Nat.reduceBEq, beq_self_eq_true, Int.reduceBEq, and_self, and_true, true_and, e1, lb8, hs, e2']
theorem law_ok (hW : 10 ≤ W) (ns : List Int) (hl : ns.length ≤ 63) : ∃ h', callF D W 60 28 [.frl (ns.map .int)] [] = .ok (.bl true) h' := by
  obtain ⟨a, c, cells, h1, e1, la, lc, ac, ⟨s, ha⟩, hc⟩ := hand_ok (W := W) (k := 58) (h := []) ns hl
  have e1 : callF D W 59 19 [.frl (ns.map .int)] [] = .ok (.loc a) h1 := e1
  have H : Hd a h1.length c cells (h1 ++ [.lst (names.map .str)]) := ⟨⟨0, 0, s, 0, by omega, (Gr.snoc h1 _).get ha⟩, (Gr.snoc h1 _).get hc, new_get .., ac, by omega⟩
  obtain ⟨h2, σ2, e2⟩ := lw_loop (W := W) hW (rngL 0 4) (some (.frl (ns.map .int))) none none none none none none none _ H
  have e2' : forL [] (.nm 3) (lpB (callF D W 59) W lwB) (rngL 0 4) [some (.frl (ns.map .int)), some (.loc a), some (.loc h1.length), none, none, none, none, none, none, none] (h1 ++ [.lst [.str [97], .str [98], .str [122, 122], .str [97, 98, 99, 100, 101, 102, 103, 104], .str [99, 104, 101, 99, 107, 101, 100], .str [120], .str [113, 97], .str [109]]]) = .ok (.next, σ2) h2 := e2
  refine ⟨h2, ?_⟩
  rw [cf_eq d_law rfl rfl rfl]
  exact law_core e1 e2'
end K76
namespace K76
open PySem MP L2
def top (i : Nat) : Stmt := PySem.Challenge.pw_underway_k76_whole_texts_of_procedures_a.main.body.getD i (.Pass ⟨0, 0, 0, 0⟩)
def G : Glb where
  fns := [("is_sized", 0), ("is_name", 1), ("is_row", 2), ("parts_of", 4), ("size_of", 5), ("is_procedure", 6), ("check_procedure", 7), ("told", 8), ("procedure_text", 9), ("procedure_in", 15), ("read_procedure", 16), ("row_text", 17), ("read_row", 18), ("_law_hand", 19), ("_law_draw", 20), ("_law_some", 21), ("_law_tree", 22), ("_law_steps_in", 23), ("_law_procedure", 24), ("_law_text", 25), ("_law_is", 26), ("_law_wide", 27), ("law", 28)]
  cls := [("Reader", (4, 10))]
  cons := [("LETTERS", (.str [97, 98, 99, 100, 101, 102, 103, 104, 105, 106, 107, 108, 109, 110, 111, 112, 113, 114, 115, 116, 117, 118, 119, 120, 121, 122])), ("MOST_ROW", (.int 200)), ("MOST_DEEP_trees", (.int 8)), ("MOST_DO_trees", (.int 12)), ("MOST_PARTS_trees", (.int 6)), ("DO", (.str [100, 111])), ("SKIP", (.str [115, 107, 105, 112])), ("AGAIN", (.str [97, 103, 97, 105, 110])), ("ROW", (.str [114, 111, 119])), ("PICK", (.str [112, 105, 99, 107])), ("SIDES", (.str [115, 105, 100, 101, 115])), ("MOST_DO_texts", (.int 12)), ("MOST_DEEP_texts", (.int 8)), ("MOST_PARTS_texts", (.int 6)), ("NOTHING", (.str [45]))]
  dcts := [("OPENS", [([40], (.str [114, 111, 119])), ([91], (.str [112, 105, 99, 107])), ([123], (.str [115, 105, 100, 101, 115]))]), ("CLOSES", [([114, 111, 119], (.str [41])), ([112, 105, 99, 107], (.str [93])), ([115, 105, 100, 101, 115], (.str [125]))]), ("BEGINS", [([114, 111, 119], (.str [40])), ([112, 105, 99, 107], (.str [91])), ([115, 105, 100, 101, 115], (.str [123]))])]
  attrs := ["place", "text", "at", "many"]
  meths := [(4, "sign", 11), (4, "part", 12), (4, "name", 13), (4, "parts", 14)]
  bn := ["abs", "all", "bool", "enumerate", "int", "isinstance", "len", "list", "range", "str", "sum", "tuple", "zip"]
def M : Mdl where
  G := G
  cn := [(4, "Reader")]
  ds := [⟨d_is_sized, ("is_sized", none), "is_sized", top 3⟩,
    ⟨d_is_name, ("is_name", none), "is_name", top 4⟩,
    ⟨d_is_row, ("is_row", none), "is_row", top 5⟩,
    ⟨d_BadText_init, ("BadText", some "__init__"), "BadText.__init__", inClass (top 8) 0⟩,
    ⟨d_parts_of, ("parts_of", none), "parts_of", top 21⟩,
    ⟨d_size_of, ("size_of", none), "size_of", top 22⟩,
    ⟨d_is_procedure, ("is_procedure", none), "is_procedure", top 23⟩,
    ⟨d_check_procedure, ("check_procedure", none), "check_procedure", top 24⟩,
    ⟨d_told, ("told", none), "told", top 33⟩,
    ⟨d_procedure_text, ("procedure_text", none), "procedure_text", top 34⟩,
    ⟨d_Reader_init, ("Reader", some "__init__"), "Reader.__init__", inClass (top 35) 0⟩,
    ⟨d_Reader_sign, ("Reader", some "sign"), "Reader.sign", inClass (top 35) 1⟩,
    ⟨d_Reader_part, ("Reader", some "part"), "Reader.part", inClass (top 35) 2⟩,
    ⟨d_Reader_name, ("Reader", some "name"), "Reader.name", inClass (top 35) 3⟩,
    ⟨d_Reader_parts, ("Reader", some "parts"), "Reader.parts", inClass (top 35) 4⟩,
    ⟨d_procedure_in, ("procedure_in", none), "procedure_in", top 36⟩,
    ⟨d_read_procedure, ("read_procedure", none), "read_procedure", top 37⟩,
    ⟨d_row_text, ("row_text", none), "row_text", top 38⟩,
    ⟨d_read_row, ("read_row", none), "read_row", top 39⟩,
    ⟨d_law_hand, ("_law_hand", none), "_law_hand", top 41⟩,
    ⟨d_law_draw, ("_law_draw", none), "_law_draw", top 42⟩,
    ⟨d_law_some, ("_law_some", none), "_law_some", top 43⟩,
    ⟨d_law_tree, ("_law_tree", none), "_law_tree", top 44⟩,
    ⟨d_law_steps_in, ("_law_steps_in", none), "_law_steps_in", top 45⟩,
    ⟨d_law_procedure, ("_law_procedure", none), "_law_procedure", top 46⟩,
    ⟨d_law_text, ("_law_text", none), "_law_text", top 47⟩,
    ⟨d_law_is, ("_law_is", none), "_law_is", top 48⟩,
    ⟨d_law_wide, ("_law_wide", none), "_law_wide", top 49⟩,
    ⟨d_law, ("law", none), "law", top 50⟩]
def loose0 : List PySem.Str := ["LETTERS", "MOST_ROW", "is_sized", "is_name", "is_row", "WayError", "BadText", "NoProcedure", "NoRow", "MOST_DEEP_trees", "MOST_DO_trees", "MOST_PARTS_trees", "DO", "SKIP", "AGAIN", "ROW", "PICK", "SIDES", "parts_of", "size_of", "is_procedure", "check_procedure", "OPENS", "CLOSES", "BEGINS", "MOST_DO_texts", "MOST_DEEP_texts", "MOST_PARTS_texts", "NOTHING", "told"]
def loose1 : List PySem.Str := ["procedure_text", "Reader", "procedure_in", "read_procedure", "row_text", "read_row", "_law_hand", "_law_draw", "_law_some", "_law_tree", "_law_steps_in", "_law_procedure", "_law_text", "_law_is", "_law_wide"]
def loose : List PySem.Str := loose0 ++ loose1
def lawAt : Nat := 50
def lawIx : Nat := 28
end K76
namespace K76
open PySem MP L2
theorem M_ok : M.ok = true := by kernel_rfl
theorem M_ds : M.ds.all (Ent.ok M.G 200) = true := by kernel_rfl
theorem M_nd : M.G.attrs.Nodup := by decide +kernel
end K76
namespace K76
open PySem PySem.Spec PyProof.Rows L2 MP
abbrev R : PySem.W.OpenRow := PySem.W.OpenLaw.row PySem.Challenge.rw_underway_k76_whole_texts_of_procedures_a
abbrev hk : PySem.W.Hook := He.hookX 5 M.fa M.dd M.ts [] M.ex
def ob (s : PySem.W.SharedT) : He.AlX := He.obsX 5 M.fa M.dd M.ts [] M.ex (HandSHeadRun.getT s)
theorem ob_eq (s : PySem.W.SharedT) : ob s = hk.obs s.abs := He.obsX_eq (HandSHeadRun.getT_eq s)
theorem run0 (w : World) : HandSHeadRun.RunEq R (PySem.W.view R.prog [50]) hk ob 4000 loose (w.withFollow "special-get-raises" false) := by
  intro os
  kernel_rfl
theorem run1 (w : World) : HandSHeadRun.RunEq R (PySem.W.view R.prog [50]) hk ob 4000 loose (w.withFollow "special-get-raises" true) := by
  intro os
  kernel_rfl
theorem run (w : World) : HandSHeadRun.RunEq R (PySem.W.view R.prog [50]) hk ob 4000 loose w := PySem.W.byRow2 "special-get-raises" (P := fun w => HandSHeadRun.RunEq R (PySem.W.view R.prog [50]) hk ob 4000 loose w) run0 run1 w
end K76
namespace K76
theorem law_all (ns : List Int) (h : ns.length ≤ 63) : ∃ h', MP.callF M.defs 300 60 28 [.frl (ns.map .int)] [] = .ok (.bl true) h' := law_ok (by decide) ns h
end K76
open PySem PySem.W PySem.Calls PyProof.Rows
theorem PySem.Challenge.cw_underway_k76_whole_texts_of_procedures_a_holds : PySem.Challenge.rw_underway_k76_whole_texts_of_procedures_a.Holds := by
  w_on; o_law
  refine HandSHeadRun.head_any (r := K76.R) (q := view K76.R.prog [50]) (H := K76.hk) (ob := K76.ob) (M := 4000) (loose := K76.loose) (d := HandSHeadRun.topDef K76.R.prog 50) (kwd := []) K76.ob_eq
    (by kernel_rfl) (fun s => by kernel_rfl) K76.run (by kernel_rfl) (by kernel_rfl) (by kernel_rfl) (by rfl) (by first | assumption | decide +kernel) (by decide +kernel) ⟨rfl, rfl, rfl, rfl, rfl, by decide +kernel⟩ ?hw ?hc
  case hw => w_witness2
  case hc =>
    refine L2.walk_ofE (l := PySem.Challenge.rw_underway_k76_whole_texts_of_procedures_a) (n := 63) (k := 2 * 60) (x := "script") (CX := L2.CX0) rfl (by decide) (by kernel_rfl) ⟨rfl, by decide, by decide⟩ ?F (fun _ _ _ _ z => z)
    intro w mg fa h Y G hmg0
    obtain ⟨K, KX, c⟩ := Y
    have hmg : mg ("law" : PySem.Str) = some (.ref fa) := by
      have e : (HandSHeadRun.topDef K76.R.prog 50).name = ("law" : PySem.Str) := by kernel_rfl
      rw [← e]
      exact hmg0
    exact MP.top_F (M := K76.M) (n := 200) (B := 300) (k := 60) (f := 28) K76.M_nd K76.M_ok K76.M_ds rfl rfl rfl (by decide +kernel) c KX G hmg K76.law_all
