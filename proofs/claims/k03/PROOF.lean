import PyProof.Rows.All
import HandS.ForMost
import HandS.ForExc
import HandS.Star
import HandS.Defaults
import HandS.TupAny
import HandS.TupLe
import HandS.TupMul
import HandS.Wide
import HandS.Deep
import HandS.IsInst
import HandS.Lambda
import HandS.Zip
import HandS.Rev
import HandS.Style
import HandS.SortInts
import HandS.TupSets
import HandS.SetFor
import HandS.Conv
import HandS.RaiseMore
import PyProof.ReprRoads
import HandS.ExcIs
import HandS.ExcField
import KE.KExcIs
import HandS.Property
import HandS.MakeKw
import HandS.OwnEq
import HandS.MakeKwOnly
import HandS.SlotsOwn
import HandS.EndTab
import HandS.Head0
import HandS.Head1
import HandS.Head2
import HandS.HeadEnd
import HandS.HeadHook1
import HandS.HeadHook2
import HandS.HeadHook4
import KE.KExcSuper
import HandS.ExcInit
import PyProof.ReprLen
import PyProof.Rows.ReprOcc
import PySem.Challenge.RW_seenandheard_k03_weathers_and_rows_of_lo
set_option Elab.async false
set_option linter.all false
set_option maxRecDepth 100000
set_option maxHeartbeats 1000000
/-! DE1: data, results, the syntax of my own, what it evaluates to. -/
namespace DE
open PySem PySem.Spec PyProof.Rows L2

/-! ### data -/
inductive D where
  | non | bl (b : Bool) | int (i : Int) | str (x : Str)
  | tup (xs : List D) | lst (xs : List D) | dct (tk : Bool) (kvs : List (D × D)) | set (xs : List D)
  | ins (c : Nat) (fs : List (Str × D))
  | exc (c : Nat) (v : Option D)
  | tape
  | scr (xs : List D)
  /-- a def of the program as a value -/
  | fn (i : Nat)
  deriving Inhabited

/-- how a value is held: frozen, fresh (nobody else has it), borrowed from a slot -/
inductive Kd where
  | fz | fr | br
  deriving DecidableEq, Repr, Inhabited

inductive SV where
  | un | fz (d : D) | ow (d : D)
  /-- a value that is known from without (0: self in __init__; a lambda of a loop by its number): never stored -/
  | lock (k : Nat)
  deriving Inhabited
abbrev En := List SV

inductive R (T α : Type) where
  | ok (a : α) (t : T)
  | ex (c : Nat) (v : Option D) (t : T)
  | no
def R.bind {T α β : Type} (r : R T α) (f : α → T → R T β) : R T β := match r with
  | .ok a t => f a t
  | .ex c v t => .ex c v t
  | .no => .no
/-- inside a comprehension nothing may be raised -/
def R.calm {T α : Type} (r : R T α) : R T α := match r with
  | .ok a t => .ok a t
  | _ => .no
def ofO {T α : Type} (o : Option α) (t : T) : R T α := match o with
  | some a => .ok a t
  | none => .no

abbrev Dk := D × Kd
abbrev DFn (T : Type) := List D → T → R T Dk

/-! ### the syntax -/
inductive Op2 where
  | add | sub | mul | fdiv | mod | pow | xor | band
  deriving DecidableEq, Repr, Inhabited
inductive Cm where
  | eq | ne | lt | le | gt | ge | is | isnot | isin | notin
  deriving DecidableEq, Repr, Inhabited
/-- built-in functions that are called by name -/
inductive BI where
  | len | abs | min | max | sum | all | any | int | list | tuple | sorted | repr | divmod | str | set | dict
  deriving DecidableEq, Repr, Inhabited
/-- what isinstance asks for -/
inductive Ty where
  | int | bool | tuple | list | str | dict | seq | cls (c : Nat) | ve
  deriving DecidableEq, Repr, Inhabited

/-- a target: a slot, a tuple of targets -/
inductive Tg where
  | nm (i : Nat) | tp (l : List Nat)
  deriving Inhabited

mutual
inductive E where
  | var (i : Nat) | non | bl (b : Bool) | int (i : Int) | str (x : Str)
  | con (x : Str) (d : D)
  | bin (o : Op2) (a b : E) | neg (a : E) | not (a : E)
  | and (a b : E) | or (a b : E)
  | cmp (c : Cm) (a b : E) | chn (c c' : Cm) (a b d : E) | chn3 (c c' c'' : Cm) (a b d e : E)
  | ite (c a b : E)
  | call (f : Nat) (args : Es) | callk (f : Nat) (args : Es) (kws : List Str) (kes : Es) (pm : List Nat)
  | bi (k : BI) (args : Es) | isi (a : E) (t : Ty)
  | tup (es : Es) | lst (es : Es)
  | idx (a i : E) | slc (a lo hi : E) | noe
  | fld (a : E) (f : Str) | meth (a : E) (m : Str) (args : Es)
  | lc (elt : E) (tg : Tg) (it : It) (conds : Es) (own : List (Str × Nat))
  | dct (ks : List Key) (vs : Es)
  | mk (c : Nat) (args : Es)
  | exn (c : Nat) (a : E)
  /-- an operation of the table G.prims -/
  | prim (k : Nat) (es : Es)
  /-- _law_caught(lambda: e) -/
  | caught (e : E)
  /-- _law_caught(w), w's slot i locked with a lambda of a loop -/
  | cw (i : Nat)
inductive Es where
  | nil | cons (e : E) (es : Es) | star (e : E) (es : Es)
inductive It where
  | seq (e : E) | rng1 (a : E) | rng2 (a b : E) | rng3 (a b c : E) | enum (e : E) | zip (a b : E) | rev (e : E) | prim (k : Nat) (es : Es)
end

mutual
inductive S where
  | frz (i : Nat)
  | asg (tg : Tg) (own : Bool) (e : E)
  | par (is : List (Nat × Bool)) (es : Es)
  | ex (e : E)
  | app (i : Nat) (e : E)
  | set (i : Nat) (ix e : E)
  | pop (tg : Tg) (i : Nat) (ix : E)
  | appPop (i j : Nat) (ix : E)
  | ret (e : E) | retN
  | ite (c : E) (a b : Ss)
  | fr (tg : Tg) (it : It) (b : Ss)
  | wh (c : E) (b : Ss)
  | brk | cnt | pass
  | rai (c : Nat) (e : E)
  | rai0 (c : Nat)
  /-- a statement of the table G.sprims -/
  | prim (k : Nat) (is : List Nat) (es : Es)
  /-- for w in [lambda: e, ..]: b -/
  | lams (w : Nat) (es : Es) (b : Ss)
inductive Ss where
  | nil | cons (s : S) (r : Ss)
end

/-! ### operations -/
def lim : Nat := sizeLine
def smallI (i : Int) : Bool := decide (-(2 ^ 64) < i ∧ i < 2 ^ 64)
mutual
def toPy : D → Option PyData
  | .non => some .none | .bl b => some (.bool b) | .int i => some (.int i) | .str x => some (.str x)
  | .tup xs => (toPyL xs).map .tuple
  | .lst xs => (toPyL xs).map .list
  | _ => none
def toPyL : List D → Option (List PyData)
  | [] => some []
  | x :: xs => match toPy x, toPyL xs with
    | some p, some ps => some (p :: ps)
    | _, _ => none
end
def wideM (i j : Int) : Bool := decide (i.natAbs.log2 + j.natAbs.log2 < 1000000)
def divOk (j : Int) : Bool := (decide (j ≠ 0) && decide (j.natAbs < 1073741824)) || (decide (0 < j) && decide (j.natAbs.log2 < 9000))
/-- == of plain data -/
def eqD (a b : D) : Option Bool := match toPy a, toPy b with
  | some p, some q => if SeqAt.shaped p && SeqAt.shaped q then some (PyData.eqv p q) else none
  | _, _ => none
def op2 : Op2 → D → D → Option Dk
  | .add, .int i, .int j => some (.int (i + j), .fz)
  | .sub, .int i, .int j => some (.int (i - j), .fz)
  | .mul, .int i, .int j => if smallI i || smallI j || wideM i j then some (.int (i * j), .fz) else none
  | .fdiv, .int i, .int j => if divOk j then some (.int (i.fdiv j), .fz) else none
  | .mod, .int i, .int j => if decide (j ≠ 0) then some (.int (i.fmod j), .fz) else none
  | .pow, .int i, .int j => if decide (0 ≤ j) && decide (j ≤ 1000000) && decide (i.natAbs < 2 ^ 64) then some (.int (i ^ j.toNat), .fz) else none
  | .add, .lst xs, .lst ys => if xs.length + ys.length ≤ lim then some (.lst (xs ++ ys), .fr) else none
  | .add, .tup xs, .tup ys => if xs.length + ys.length ≤ lim then some (.tup (xs ++ ys), .fz) else none
  | _, _, _ => none

/-- the text of a def, by its name: how many it takes, what stands for those that lack -/
structure FI where
  name : Str
  ps : List Str
  dfl : List D
  /-- calls with keywords: how many positional, the keywords, where each parameter comes from -/
  kws : List (Nat × List Str × List Nat) := []
  /-- it, or what it calls, writes lists as texts (repr): then it is known that no such writing is under way -/
  g : Bool := false
/-- a class of the program -/
structure CI where
  name : Str
  props : List (Str × Nat)
  meths : List (Str × Nat)
  init : Option Nat
/-- what a statement ends in -/
inductive O where
  | nx (ρ : En) | rt (d : Dk) | bk (ρ : En) | ct (ρ : En)
/-- an operation that is none of the core: its parts in the text (in the order in which they are evaluated), what it gives -/
structure Prim (T : Type) where
  chk : Scope → Expr → Option (List Expr)
  f : List Dk → T → R T Dk
  /-- it writes lists as texts -/
  g : Bool := false
/-- .. what is walked by a for: the text, the target's text -/
structure PrimI (T : Type) where
  chk : Scope → Expr → Expr → Option (List Expr)
  f : List Dk → T → R T (List D × Kd)
/-- .. a statement: names, the slots that it tells -/
structure PrimS (T : Type) where
  chk : List Str → Scope → List Nat → Stmt → Option (List Expr)
  f : List Nat → En → List Dk → T → R T O
structure Pg (T : Type) where
  fns : List (FI × DFn T)
  cls : List CI
  cons : List (Str × D)
  atr : Nat → Str
  prims : List (Prim T) := []
  iprims : List (PrimI T) := []
  sprims : List (PrimS T) := []
  /-- what the lambdas of the loop under way give -/
  lams : List (En → T → R T Dk) := []
abbrev Pg.wl {T : Type} (G : Pg T) (L : List (En → T → R T Dk)) : Pg T := { G with lams := L }

/-- no reference in it -/
def flat : D → Bool
  | .non | .bl _ | .int _ | .str _ => true
  | _ => false
def flat1 : Dk → Bool
  | (.lst xs, .fr) => xs.all flat
  | (d, _) => flat d
def flatX : Option D → Bool
  | none => true
  | some d => flat d
def allFz : List Dk → Option (List D)
  | [] => some []
  | (_, .br) :: _ => none
  | (d, _) :: r => (allFz r).map (d :: ·)
def fzOf : Dk → Option D
  | (_, .br) => none
  | (d, _) => some d
/-- a call of a def: with borrowed arguments what comes back must be flat -/
def callD {T : Type} (f : DFn T) (args : List Dk) (t : T) : R T Dk := match allFz args with
  | some ds => f ds t
  | none => match f (args.map (·.1)) t with
    | .ok d t' => if flat1 d then .ok d t' else .no
    | .ex c v t' => if flatX v then .ex c v t' else .no
    | .no => .no

/-- a list's, a tuple's items -/
def seqOf : D → Option (List D)
  | .lst xs => some xs
  | .tup xs => some xs
  | _ => none
/-- what a loop walks: the script too -/
def itOf : D → Option (List D)
  | .lst xs => some xs
  | .tup xs => some xs
  | .scr xs => some xs
  | _ => none
def tupOf : D → Option (List D)
  | .tup xs => some xs
  | _ => none
def intsOf : List D → Option (List Int)
  | [] => some []
  | .int i :: r => (intsOf r).map (i :: ·)
  | _ :: _ => none
def boolsOf : List D → Option (List Bool)
  | [] => some []
  | .bl b :: r => (boolsOf r).map (b :: ·)
  | _ :: _ => none
def atD (xs : List D) (i : Int) : Option D := atI xs i
/-- Python's slice -/
def cutD (xs : List D) (lo hi : Option Int) : List D :=
  let n := xs.length
  let a := HT.sIx n 0 lo
  let b := HT.sIx n n hi
  (xs.drop a).take (b - a)
def ltI (c : Cm) (i j : Int) : Option Bool := match c with
  | .lt => some (decide (i < j)) | .le => some (decide (i ≤ j)) | .gt => some (decide (j < i)) | .ge => some (decide (j ≤ i)) | _ => none
def inD (x : D) (xs : List D) : Option Bool := match toPy x, toPyL xs with
  | some p, some ps => if SeqAt.shaped p && SeqAt.shaped (.list ps) then some (ps.any fun z => PyData.eqv z p) else none
  | _, _ => none
def keyOk : D → Bool
  | .int _ | .str _ => true
  | _ => false
def keyEq1 : D → D → Bool
  | .int i, .int j => decide (i = j)
  | .str x, .str y => decide (x = y)
  | _, _ => false
def keyEqL : List D → List D → Bool
  | [], [] => true
  | x :: xs, y :: ys => keyEq1 x y && keyEqL xs ys
  | _, _ => false
def keyEq : D → D → Bool
  | .tup xs, .tup ys => keyEqL xs ys
  | x, y => keyEq1 x y
def dget (kvs : List (D × D)) (k : D) : Option D := (kvs.find? fun p => keyEq p.1 k).map (·.2)
def dput (kvs : List (D × D)) (k v : D) : List (D × D) := if (kvs.any fun p => keyEq p.1 k) = true then kvs.map (fun p => if keyEq p.1 k = true then (p.1, v) else p) else kvs ++ [(k, v)]
def keyD : Key → D
  | .inl i => .int i
  | .inr x => .str x
def mergeD (kvs : List (D × D)) : List (D × D) := kvs.foldl (fun acc kv => dput acc kv.1 kv.2) []
def isNon : D → Bool
  | .non => true
  | _ => false
def cmpD : Cm → Dk → Dk → Option Bool
  | .eq, (a, _), (b, _) => eqD a b
  | .ne, (a, _), (b, _) => (eqD a b).map (!·)
  | .is, (a, _), (.non, _) => some (isNon a)
  | .isnot, (a, _), (.non, _) => some (!isNon a)
  | .is, (.bl a, _), (.bl b, _) => some (decide (a = b))
  | .isnot, (.bl a, _), (.bl b, _) => some (!decide (a = b))
  | .isin, (x, _), (d, _) => match d with
    | .lst xs => inD x xs
    | .tup xs => if flat x && xs.all flat then inD x xs else none
    | .dct false kvs => if keyOk x then some (dget kvs x).isSome else none
    | _ => none
  | .notin, (x, _), (d, _) => match d with
    | .lst xs => (inD x xs).map (!·)
    | .tup xs => if flat x && xs.all flat then (inD x xs).map (!·) else none
    | .dct false kvs => if keyOk x then some (!(dget kvs x).isSome) else none
    | _ => none
  | c, (.int i, _), (.int j, _) => ltI c i j
  | _, _, _ => none
/-- the built-in class of plain data -/
def tyOfD : D → Option String
  | .non => some "NoneType" | .bl _ => some "bool" | .int _ => some "int" | .str _ => some "str" | .tup _ => some "tuple" | .lst _ => some "list" | .dct _ _ => some "dict" | _ => none
def tyD (d : D) (y : Ty) : Option Bool := match tyOfD d with
  | none => none
  | some n => match y with
    | .int => some (n == "int" || n == "bool")
    | .bool => some (n == "bool")
    | .tuple => some (n == "tuple")
    | .list => some (n == "list")
    | .str => some (n == "str")
    | .dict => some (n == "dict")
    | .seq => some (n == "tuple" || n == "list")
    | _ => none
/-- built-ins: from the values of the arguments -/
def biD : BI → List Dk → Option Dk
  | .len, [(.lst xs, _)] => some (.int xs.length, .fz)
  | .len, [(.tup xs, _)] => some (.int xs.length, .fz)
  | .len, [(.scr xs, _)] => some (.int xs.length, .fz)
  | .len, [(.str x, _)] => if x.length ≤ lim then some (.int x.length, .fz) else none
  | .abs, [(.int i, _)] => some (.int (if i < 0 then -i else i), .fz)
  | .min, [(.int i, _), (.int j, _)] => some (.int (if j < i then j else i), .fz)
  | .max, [(.int i, _), (.int j, _)] => some (.int (if j > i then j else i), .fz)
  | .sum, [(.lst xs, _)] => (intsOf xs).map fun ns => (.int ns.sum, .fz)
  | .all, [(.lst xs, _)] => (boolsOf xs).map fun bs => (.bl (bs.all id), .fz)
  | .any, [(.lst xs, _)] => (boolsOf xs).map fun bs => (.bl (bs.any id), .fz)
  | .int, [(.int i, _)] => some (.int i, .fz)
  | .int, [(.bl b, _)] => some (.int (if b then 1 else 0), .fz)
  | .list, [(.lst xs, _)] => some (.lst xs, .fr)
  | .list, [(.tup xs, _)] => some (.lst xs, .fr)
  | .tuple, [(.lst xs, _)] => some (.tup xs, .fz)
  | .tuple, [(.tup xs, .fz)] => some (.tup xs, .fz)
  | _, _ => none
def idxD : Dk → Dk → Option D
  | (.lst xs, _), (.int i, _) => atD xs i
  | (.tup xs, _), (.int i, _) => atD xs i
  | (.dct false kvs, _), (k, _) => if keyOk k then dget kvs k else none
  | _, _ => none
def slcD : Dk → Option Int → Option Int → Option Dk
  | (.lst xs, _), lo, hi => some (.lst (cutD xs lo hi), .fr)
  | (.tup xs, .fz), lo, hi => some (.tup (cutD xs lo hi), .fz)
  | _, _, _ => none
/-- slots bound by a target -/
def isLock : Option SV → Bool
  | some (.lock _) => true
  | _ => false
def setE (ρ : En) (i : Nat) (v : SV) : Option En := if i < ρ.length then (if isLock ρ[i]? then none else some (ρ.set i v)) else none
def noLk (ρ : En) : Bool := ρ.all fun v => !isLock (some v)
def okW (ρ : En) (vs : List Nat) : Bool := vs.all fun v => !isLock ρ[v]?
def bindL : En → List Nat → List D → Option En
  | ρ, [], [] => some ρ
  | ρ, i :: is, d :: ds => (setE ρ i (.fz d)).bind fun ρ => bindL ρ is ds
  | _, _, _ => none
def bindT (ρ : En) (tg : Tg) (d : D) : Option En := match tg with
  | .nm i => setE ρ i (.fz d)
  | .tp is => (tupOf d).bind fun ds => bindL ρ is ds
def wipeE (ρ : En) : List Nat → En
  | [] => ρ
  | v :: vs => (wipeE ρ vs).set v .un
/-- a comprehension's turns -/
def lcL {T : Type} (f : D → T → R T (Option D)) : List D → T → R T (List D)
  | [], t => .ok [] t
  | x :: xs, t => (f x t).bind fun o t => (lcL f xs t).bind fun r t => .ok (match o with | some d => d :: r | none => r) t
def rngI (a b : Int) : List D := (List.range (b - a).toNat).map fun (i : Nat) => D.int (a + (i : Int))
def inRng (i : Int) : Bool := decide (-(2 ^ 62) ≤ i ∧ i < 2 ^ 62)

def frz1 : Kd → Kd
  | .br => .br
  | _ => .fz
def brOr : Kd → Kd → Kd
  | .br, _ => .br
  | _, .br => .br
  | _, _ => .fz
def enumD (xs : List D) : List D := xs.zipIdx.map fun p => .tup [.int (p.2 : Nat), p.1]
def zipD (xs ys : List D) : List D := (xs.zip ys).map fun p => .tup [p.1, p.2]
def permL {α : Type} : List Nat → List α → Option (List α)
  | [], _ => some []
  | i :: is, xs => (xs[i]?).bind fun x => (permL is xs).map (x :: ·)
def isNoe : E → Bool
  | .noe => true
  | _ => false
def optI : Bool → D → Option (Option Int)
  | true, _ => some none
  | false, .int i => some (some i)
  | false, _ => none
/-- what _law_caught makes of an evaluation -/
def caughtR {T : Type} (n : Nat) (r : R T Dk) : R T Dk := match r with
  | .ok _ t => .ok (.non, .fz) t
  | .ex c v t => if c < n then .ok (.exc c v, .fz) t else .no
  | .no => .no
mutual
def evalE {T : Type} (G : Pg T) : E → En → T → R T Dk
  | .var i, ρ, t => match ρ[i]? with
    | some (.fz d) => .ok (d, .fz) t
    | some (.ow d) => .ok (d, .br) t
    | _ => .no
  | .non, _, t => .ok (.non, .fz) t
  | .noe, _, t => .ok (.non, .fz) t
  | .bl b, _, t => .ok (.bl b, .fz) t
  | .int i, _, t => .ok (.int i, .fz) t
  | .str x, _, t => .ok (.str x, .fz) t
  | .con x _, _, t => match G.cons.lookup x with
    | some d => .ok (d, .fz) t
    | none => .no
  | .bin o a b, ρ, t => (evalE G a ρ t).bind fun x t => (evalE G b ρ t).bind fun y t => ofO (op2 o x.1 y.1) t
  | .neg a, ρ, t => (evalE G a ρ t).bind fun x t => match x.1 with
    | .int i => .ok (.int (-i), .fz) t
    | _ => .no
  | .not a, ρ, t => (evalE G a ρ t).bind fun x t => match x.1 with
    | .bl b => .ok (.bl (!b), .fz) t
    | _ => .no
  | .and a b, ρ, t => (evalE G a ρ t).bind fun x t => match x.1 with
    | .bl true => evalE G b ρ t
    | .bl false => .ok (.bl false, .fz) t
    | _ => .no
  | .or a b, ρ, t => (evalE G a ρ t).bind fun x t => match x.1 with
    | .bl true => .ok (.bl true, .fz) t
    | .bl false => evalE G b ρ t
    | _ => .no
  | .cmp c a b, ρ, t => (evalE G a ρ t).bind fun x t => (evalE G b ρ t).bind fun y t => ofO ((cmpD c x y).map fun b => (.bl b, .fz)) t
  | .chn c c' a b d, ρ, t => (evalE G a ρ t).bind fun x t => (evalE G b ρ t).bind fun y t => match cmpD c x y with
    | some true => (evalE G d ρ t).bind fun z t => ofO ((cmpD c' y z).map fun b => (.bl b, .fz)) t
    | some false => .ok (.bl false, .fz) t
    | none => .no
  | .chn3 c c' c'' a b d e, ρ, t => (evalE G a ρ t).bind fun x t => (evalE G b ρ t).bind fun y t => match cmpD c x y with
    | some true => (evalE G d ρ t).bind fun z t => (match cmpD c' y z with
      | some true => (evalE G e ρ t).bind fun u t => ofO ((cmpD c'' z u).map fun b => (.bl b, .fz)) t
      | some false => .ok (.bl false, .fz) t
      | none => .no)
    | some false => .ok (.bl false, .fz) t
    | none => .no
  | .ite c a b, ρ, t => (evalE G c ρ t).bind fun x t => match x.1 with
    | .bl true => evalE G a ρ t
    | .bl false => evalE G b ρ t
    | _ => .no
  | .call f es, ρ, t => (evalEs G es ρ t).bind fun xs t => match G.fns[f]? with
    | some (fi, h) => callD h (xs ++ (fi.dfl.drop (fi.dfl.length - (fi.ps.length - xs.length))).map (·, Kd.fz)) t
    | none => .no
  | .callk f es _ kes pm, ρ, t => (evalEs G es ρ t).bind fun xs t => (evalEs G kes ρ t).bind fun ys t => match G.fns[f]? with
    | some (_, h) => (match permL pm (xs ++ ys) with
      | some zs => callD h zs t
      | none => .no)
    | none => .no
  | .bi k es, ρ, t => (evalEs G es ρ t).bind fun xs t => ofO (biD k xs) t
  | .isi a y, ρ, t => (evalE G a ρ t).bind fun x t => ofO ((tyD x.1 y).map fun b => (.bl b, .fz)) t
  | .tup es, ρ, t => (evalEs G es ρ t).bind fun xs t => match allFz xs with
    | some ds => if ds.length ≤ lim then .ok (.tup ds, .fz) t else .no
    | none => .no
  | .lst es, ρ, t => (evalEs G es ρ t).bind fun xs t => match allFz xs with
    | some ds => if ds.length ≤ lim then .ok (.lst ds, .fr) t else .no
    | none => .no
  | .idx a i, ρ, t => (evalE G a ρ t).bind fun x t => (evalE G i ρ t).bind fun y t => ofO ((idxD x y).map fun d => (d, .fz)) t
  | .slc a lo hi, ρ, t => (evalE G a ρ t).bind fun x t => (evalE G lo ρ t).bind fun l t => (ofO (optI (isNoe lo) l.1) t).bind fun l t => (evalE G hi ρ t).bind fun h t => (ofO (optI (isNoe hi) h.1) t).bind fun h t => ofO (slcD x l h) t
  | .fld _ _, _, _ => .no
  | .meth _ _ _, _, _ => .no
  | .lc elt tg it conds own, ρ, t => (evalIt G it ρ t).bind fun xs t =>
    if okW ρ (own.map (·.2)) then (lcL (fun d t => match bindT (wipeE ρ (own.map (·.2))) tg d with
      | none => .no
      | some ρ1 => (evalC G conds ρ1 t).bind fun b t => if b then (evalE G elt ρ1 t).bind fun e t => ofO ((fzOf e).map some) t else .ok none t) xs.1 t).calm.bind (fun r t => if r.length ≤ lim then .ok (.lst r, .fr) t else .no) else .no
  | .dct ks es, ρ, t => (evalEs G es ρ t).bind fun xs t => match allFz xs with
    | some ds => .ok (.dct false (mergeD ((ks.map keyD).zip ds)), .fr) t
    | none => .no
  | .mk _ _, _, _ => .no
  | .exn _ _, _, _ => .no
  | .prim k es, ρ, t => (evalEs G es ρ t).bind fun xs t => match G.prims[k]? with
    | some p => p.f xs t
    | none => .no
  | .caught e, ρ, t => caughtR G.cls.length (evalE G e ρ t)
  | .cw i, ρ, t => match ρ[i]? with
    | some (.lock k) => (match G.lams[k]? with
      | some f => caughtR G.cls.length (f ρ t)
      | none => .no)
    | _ => .no
def evalEs {T : Type} (G : Pg T) : Es → En → T → R T (List Dk)
  | .nil, _, t => .ok [] t
  | .cons e es, ρ, t => (evalE G e ρ t).bind fun x t => (evalEs G es ρ t).bind fun xs t => .ok (x :: xs) t
  | .star e es, ρ, t => (evalE G e ρ t).bind fun x t => match seqOf x.1 with
    | some ds => (evalEs G es ρ t).bind fun xs t => .ok (ds.map (·, .fz) ++ xs) t
    | none => .no
/-- the tests of a comprehension -/
def evalC {T : Type} (G : Pg T) : Es → En → T → R T Bool
  | .nil, _, t => .ok true t
  | .cons e es, ρ, t => (evalE G e ρ t).bind fun x t => match x.1 with
    | .bl true => evalC G es ρ t
    | .bl false => .ok false t
    | _ => .no
  | .star _ _, _, _ => .no
def evalIt {T : Type} (G : Pg T) : It → En → T → R T (List D × Kd)
  | .seq e, ρ, t => (evalE G e ρ t).bind fun x t => ofO ((itOf x.1).map fun xs => (xs, frz1 x.2)) t
  | .rng1 a, ρ, t => (evalE G a ρ t).bind fun x t => match x.1 with
    | .int i => if inRng i then .ok (rngI 0 i, .fz) t else .no
    | _ => .no
  | .rng2 a b, ρ, t => (evalE G a ρ t).bind fun x t => (evalE G b ρ t).bind fun y t => match x.1, y.1 with
    | .int i, .int j => if inRng i && inRng j then .ok (rngI i j, .fz) t else .no
    | _, _ => .no
  | .rng3 _ _ _, _, _ => .no
  | .enum e, ρ, t => (evalE G e ρ t).bind fun x t => match x.1 with
    | .lst xs => .ok (enumD xs, frz1 x.2) t
    | _ => .no
  | .zip a b, ρ, t => (evalE G a ρ t).bind fun x t => (evalE G b ρ t).bind fun y t => match x.1, y.1 with
    | .lst xs, .lst ys => .ok (zipD xs ys, brOr x.2 y.2) t
    | .tup xs, .tup ys => .ok (zipD xs ys, .fz) t
    | _, _ => .no
  | .rev e, ρ, t => (evalE G e ρ t).bind fun x t => match x.1 with
    | .lst xs => .ok (xs.reverse, frz1 x.2) t
    | .tup xs => .ok (xs.reverse, .fz) t
    | _ => .no
  | .prim k es, ρ, t => (evalEs G es ρ t).bind fun xs t => match G.iprims[k]? with
    | some p => p.f xs t
    | none => .no
end

/-- what lambdas give, one by one -/
def lamFns {T : Type} (G : Pg T) : Es → List (En → T → R T Dk)
  | .nil => []
  | .cons e es => (fun ρ t => evalE G e ρ t) :: lamFns G es
  | .star _ es => lamFns G es
/-- a comprehension's target are its own slots -/
def tgOwn (tg : Tg) (vs : List Nat) : Bool := match tg with
  | .nm i => vs.contains i
  | .tp is => is.all vs.contains
def noSetE : Expr → Bool
  | .Set _ _ _ => false
  | _ => true
end DE
set_option maxHeartbeats 1000000
/-! DE2: how data lie in the abstract heap. -/
namespace DE
open PySem PySem.Spec PyProof.Rows L2

/-- the tape: a part of the heap that the law's drawing defs alone change -/
structure Tp (T : Type) where
  root : Addr
  own : Addr → Prop
  At : Hp → T → Prop
  loc : ∀ {H H' : Hp} {t : T}, (∀ a, own a → H' a = H a) → (∀ a φ, H a = some (.ext φ) → H' a = some (.ext φ)) → (∀ a ps, H' a = some (.tbl ps) → H a = some (.tbl ps)) → At H t → At H' t
  there : ∀ {H : Hp} {t : T} {a : Addr}, At H t → own a → H a ≠ none

/-- what a program's data lean on: the written part, the tape, the classes' addresses, the errors' attributes -/
structure Md (T : Type) where
  K : PySem.W.Frag
  tp : Tp T
  CA : Nat → Addr
  atr : Nat → Str
  /-- sets of ints, of tuples of ints -/
  setI : Addr → (Int → Bool) → Nat → HO := fun _ _ _ => .lst []
  setT : Addr → List (Addr × List Int) → HO := fun _ _ => .lst []
  /-- where the defs stand -/
  FA : Nat → Addr := fun _ => 0
  /-- what the locked slots hold -/
  vl : Nat → Option (V × List (Addr × HO)) := fun _ => none

abbrev Md.wv {T : Type} (M : Md T) (f : Nat → Option (V × List (Addr × HO))) : Md T := { M with vl := f }
/-- the order of lists of ints -/
def lexB : List Int → List Int → Bool
  | [], [] => false
  | [], _ :: _ => true
  | _ :: _, [] => false
  | x :: xs, y :: ys => decide (x < y) || (decide (x = y) && lexB xs ys)
/-- a tuple of ints -/
def tupI (ns : List Int) : D := .tup (ns.map .int)

/-- an exception object held as a value -/
def ExV (C : Addr) (d : Option Addr) (a : Addr) : HO := .ext fun h => ∃ (oe : Obj) (vs : Array Value), h.get? a = some oe ∧ Zc (.ref C) d oe ∧ oe.data = .fields vs


section
variable {T : Type} (M : Md T)
mutual
inductive Rep (F : Hp) : V → D → Prop
  | non : Rep F .non .non
  | bl (b : Bool) : Rep F (.bl b) (.bl b)
  | int (i : Int) : Rep F (.int i) (.int i)
  | str (x : Str) : Rep F (.str x) (.str x)
  | tup {a : Addr} {vs : List V} {ds : List D} : SqT M.K F a vs → RepL F vs ds → Rep F (.ref a) (.tup ds)
  | lst {a : Addr} {vs : List V} {ds : List D} : Rd F a (.lst vs) → RepL F vs ds → Rep F (.ref a) (.lst ds)
  | dK {a : Addr} {kvs : List (Key × V)} {ds : List (D × D)} : Rd F a (.dK kvs) → RepK F kvs ds → Rep F (.ref a) (.dct false ds)
  | dT {a : Addr} {kvs : List (List Key × V)} {ds : List (D × D)} : F a = some (.dT kvs) → RepKT F kvs ds → Rep F (.ref a) (.dct true ds)
  | ins {a dx : Addr} {c : Nat} {fs : List (Str × V)} {ds : List (Str × D)} : F a = some (.ins (M.CA c) dx fs) → RepF F fs ds → Rep F (.ref a) (.ins c ds)
  | exc0 {a : Addr} {c : Nat} : F a = some (ExV (M.CA c) none a) → Rep F (.ref a) (.exc c none)
  | exc1 {a dx : Addr} {c : Nat} {v : V} {d : D} : F a = some (ExV (M.CA c) (some dx) a) → F dx = some (.xd [(M.atr c, v)]) → Rep F v d → Rep F (.ref a) (.exc c (some d))
  | tape : Rep F (.ref M.tp.root) .tape
  | scr {a : Addr} {vs : List V} {ds : List D} : SqL M.K F a vs → RepL F vs ds → Rep F (.ref a) (.scr ds)
  | setI {a : Addr} {S : Int → Bool} {n : Nat} {ns : List Int} : F a = some (M.setI a S n) → ns.Pairwise (· < ·) → (∀ k, k ∈ ns ↔ S k = true) → ns.length = n → Rep F (.ref a) (.set (ns.map D.int))
  | setT {a : Addr} {L : List (Addr × List Int)} {ks : List (List Int)} : F a = some (M.setT a L) → (∀ p ∈ L, SqT M.K F p.1 (p.2.map V.int)) → (∀ k, k ∈ ks ↔ k ∈ L.map (·.2)) → ks.Pairwise (fun k l => lexB k l = true) → Rep F (.ref a) (.set (ks.map tupI))
  | fn (i : Nat) : Rep F (.ref (M.FA i)) (.fn i)
inductive RepL (F : Hp) : List V → List D → Prop
  | nil : RepL F [] []
  | cons {v : V} {vs : List V} {d : D} {ds : List D} : Rep F v d → RepL F vs ds → RepL F (v :: vs) (d :: ds)
inductive RepK (F : Hp) : List (Key × V) → List (D × D) → Prop
  | nil : RepK F [] []
  | cons {k : Key} {v : V} {vs : List (Key × V)} {d : D} {ds : List (D × D)} : Rep F v d → RepK F vs ds → RepK F ((k, v) :: vs) ((keyD k, d) :: ds)
inductive RepKT (F : Hp) : List (List Key × V) → List (D × D) → Prop
  | nil : RepKT F [] []
  | cons {k : List Key} {v : V} {vs : List (List Key × V)} {d : D} {ds : List (D × D)} : Rep F v d → RepKT F vs ds → RepKT F ((k, v) :: vs) ((.tup (k.map keyD), d) :: ds)
inductive RepF (F : Hp) : List (Str × V) → List (Str × D) → Prop
  | nil : RepF F [] []
  | cons {k : Str} {v : V} {vs : List (Str × V)} {d : D} {ds : List (Str × D)} : Rep F v d → RepF F vs ds → RepF F ((k, v) :: vs) ((k, d) :: ds)
end
end

/-- what stands in F stands in H -/
theorem Rd.same {F F' : Hp} {a : Addr} {u : HO} (s : Same F F') (h : Rd F a u) : Rd F' a u := by
  rcases h with h | ⟨o, h⟩
  · exact .inl (s _ _ h)
  · exact .inr ⟨o, s _ _ h⟩
theorem SqL.same {K : PySem.W.Frag} {F F' : Hp} {a : Addr} {vs : List V} (s : Same F F') (h : SqL K F a vs) : SqL K F' a vs := by
  rcases h with h | h
  · exact .inl (Rd.same s h)
  · exact .inr h
theorem SqT.same {K : PySem.W.Frag} {F F' : Hp} {a : Addr} {vs : List V} (s : Same F F') (h : SqT K F a vs) : SqT K F' a vs := by
  rcases h with h | h
  · exact .inl (Rd.same s h)
  · exact .inr h
section
variable {T : Type} {M : Md T} {F F' : Hp}
mutual
theorem Rep.same (s : Same F F') : ∀ {v : V} {d : D}, Rep M F v d → Rep M F' v d
  | _, _, .non => .non
  | _, _, .bl b => .bl b
  | _, _, .int i => .int i
  | _, _, .str x => .str x
  | _, _, .tup h l => .tup (SqT.same s h) (RepL.same s l)
  | _, _, .lst h l => .lst (Rd.same s h) (RepL.same s l)
  | _, _, .dK h l => .dK (Rd.same s h) (RepK.same s l)
  | _, _, .dT h l => .dT (s _ _ h) (RepKT.same s l)
  | _, _, .ins h l => .ins (s _ _ h) (RepF.same s l)
  | _, _, .exc0 h => .exc0 (s _ _ h)
  | _, _, .exc1 h h2 l => .exc1 (s _ _ h) (s _ _ h2) (Rep.same s l)
  | _, _, .tape => .tape
  | _, _, .scr h l => .scr (SqL.same s h) (RepL.same s l)
  | _, _, .setI h h2 h3 h4 => .setI (s _ _ h) h2 h3 h4
  | _, _, .setT h h2 h3 h4 => .setT (s _ _ h) (fun p hp => SqT.same s (h2 p hp)) h3 h4
  | _, _, .fn i => .fn i
theorem RepL.same (s : Same F F') : ∀ {v : List V} {d : List D}, RepL M F v d → RepL M F' v d
  | _, _, .nil => .nil
  | _, _, .cons h l => .cons (Rep.same s h) (RepL.same s l)
theorem RepK.same (s : Same F F') : ∀ {v : List (Key × V)} {d : List (D × D)}, RepK M F v d → RepK M F' v d
  | _, _, .nil => .nil
  | _, _, .cons h l => .cons (Rep.same s h) (RepK.same s l)
theorem RepKT.same (s : Same F F') : ∀ {v : List (List Key × V)} {d : List (D × D)}, RepKT M F v d → RepKT M F' v d
  | _, _, .nil => .nil
  | _, _, .cons h l => .cons (Rep.same s h) (RepKT.same s l)
theorem RepF.same (s : Same F F') : ∀ {v : List (Str × V)} {d : List (Str × D)}, RepF M F v d → RepF M F' v d
  | _, _, .nil => .nil
  | _, _, .cons h l => .cons (Rep.same s h) (RepF.same s l)
end
theorem RepL.length : ∀ {v : List V} {d : List D}, RepL M F v d → v.length = d.length
  | _, _, .nil => rfl
  | _, _, .cons _ l => by rw [List.length_cons, List.length_cons, RepL.length l]
theorem RepL.get : ∀ {v : List V} {d : List D} {i : Nat} {x : V}, RepL M F v d → v[i]? = some x → ∃ y, d[i]? = some y ∧ Rep M F x y
  | _, _, _, _, .nil, e => by simp at e
  | _, _, 0, _, .cons h _, e => by simp at e; subst e; exact ⟨_, rfl, h⟩
  | _, _, i + 1, _, .cons _ l, e => by
    obtain ⟨y, h1, h2⟩ := RepL.get (i := i) l (by simpa using e)
    exact ⟨y, by simpa using h1, h2⟩
theorem RepL.get' : ∀ {v : List V} {d : List D} {i : Nat} {y : D}, RepL M F v d → d[i]? = some y → ∃ x, v[i]? = some x ∧ Rep M F x y
  | _, _, _, _, .nil, e => by simp at e
  | _, _, 0, _, .cons h _, e => by simp at e; subst e; exact ⟨_, rfl, h⟩
  | _, _, i + 1, _, .cons _ l, e => by
    obtain ⟨y, h1, h2⟩ := RepL.get' (i := i) l (by simpa using e)
    exact ⟨y, by simpa using h1, h2⟩
theorem RepL.append : ∀ {v w : List V} {d e : List D}, RepL M F v d → RepL M F w e → RepL M F (v ++ w) (d ++ e)
  | _, _, _, _, .nil, s => s
  | _, _, _, _, .cons h l, s => .cons h (RepL.append l s)
theorem RepL.take : ∀ {v : List V} {d : List D} (n : Nat), RepL M F v d → RepL M F (v.take n) (d.take n)
  | _, _, 0, _ => .nil
  | _, _, _ + 1, .nil => .nil
  | _, _, n + 1, .cons r t => .cons r (RepL.take n t)
theorem RepL.drop : ∀ {v : List V} {d : List D} (n : Nat), RepL M F v d → RepL M F (v.drop n) (d.drop n)
  | _, _, 0, r => r
  | _, _, _ + 1, .nil => .nil
  | _, _, n + 1, .cons _ t => RepL.drop n t
theorem RepL.set {x : V} {y : D} (r : Rep M F x y) : ∀ {v : List V} {d : List D} (i : Nat), RepL M F v d → RepL M F (v.set i x) (d.set i y)
  | _, _, _, .nil => .nil
  | _, _, 0, .cons _ t => .cons r t
  | _, _, i + 1, .cons q t => .cons q (RepL.set r i t)
theorem RepL.erase : ∀ {v : List V} {d : List D} (i : Nat), RepL M F v d → RepL M F (v.eraseIdx i) (d.eraseIdx i)
  | _, _, _, .nil => .nil
  | _, _, 0, .cons _ t => t
  | _, _, i + 1, .cons q t => .cons q (RepL.erase i t)
theorem RepL.reverse : ∀ {v : List V} {d : List D}, RepL M F v d → RepL M F v.reverse d.reverse
  | _, _, .nil => .nil
  | _, _, .cons h l => by
    rw [List.reverse_cons, List.reverse_cons]
    exact (RepL.reverse l).append (.cons h .nil)
theorem RepL.ints : ∀ (ns : List Int), RepL M F (ns.map V.int) (ns.map D.int)
  | [] => .nil
  | n :: ns => .cons (.int n) (RepL.ints ns)

/-! ### plain data, for == and repr -/
mutual
theorem Rep.dp : ∀ {v : V} {d : D} {p : PyData}, Rep M F v d → toPy d = some p → Dp M.K F v p
  | _, _, _, .non, e => by cases e; exact .non
  | _, _, _, .bl b, e => by cases e; exact .bl b
  | _, _, _, .int b, e => by cases e; exact .int b
  | _, _, _, .str b, e => by cases e; exact .str b
  | _, .tup ds, p, .tup h l, e => by
    have e1 : (toPyL ds).map PyData.tuple = some p := by simpa [toPy] using e
    obtain ⟨ps, e2, rfl⟩ := Option.map_eq_some_iff.mp e1
    exact .tup h (RepL.dp l e2)
  | _, .lst ds, p, .lst h l, e => by
    have e1 : (toPyL ds).map PyData.list = some p := by simpa [toPy] using e
    obtain ⟨ps, e2, rfl⟩ := Option.map_eq_some_iff.mp e1
    exact .lst (.inl h) (RepL.dp l e2)
  | _, _, _, .dK _ _, e => by simp [toPy] at e
  | _, _, _, .dT _ _, e => by simp [toPy] at e
  | _, _, _, .ins _ _, e => by simp [toPy] at e
  | _, _, _, .exc0 _, e => by simp [toPy] at e
  | _, _, _, .exc1 _ _ _, e => by simp [toPy] at e
  | _, _, _, .tape, e => by simp [toPy] at e
  | _, _, _, .scr _ _, e => by simp [toPy] at e
  | _, _, _, .setI _ _ _ _, e => by simp [toPy] at e
  | _, _, _, .setT _ _ _ _, e => by simp [toPy] at e
  | _, _, _, .fn _, e => by simp [toPy] at e
theorem RepL.dp : ∀ {v : List V} {d : List D} {p : List PyData}, RepL M F v d → toPyL d = some p → DpAll M.K F v p
  | _, _, p, .nil, e => by
    have e1 : some ([] : List PyData) = some p := by simpa [toPyL] using e
    cases e1
    exact .nil
  | _, x :: xs, p, .cons h l, e => by
    unfold toPyL at e
    split at e
    · rename_i p1 p2 e1 e2
      cases e
      exact .cons (Rep.dp h e1) (RepL.dp l e2)
    · cases e
end
end
theorem Dp.same {K : PySem.W.Frag} {F F' : Hp} (s : Same F F') : ∀ {v : V} {d : PyData}, Dp K F v d → Dp K F' v d := by
  intro v d h
  induction h using Dp.rec (motive_2 := fun v d _ => DpAll K F' v d) with
  | non => exact .non
  | bl b => exact .bl b
  | int b => exact .int b
  | str b => exact .str b
  | lst h _ ih => exact .lst (SqL.same s h) ih
  | tup h _ ih => exact .tup (SqT.same s h) ih
  | nil => exact .nil
  | cons _ _ ih1 ih2 => exact .cons ih1 ih2

/-! ### steps of the heap -/
section
variable {T : Type} (M : Md T)
/-- from (F, H) to (F', H'), the tape now at t: F frozen, all kept but the tape, what is newly frozen is new -/
structure Stp (F H F' H' : Hp) (t : T) : Prop where
  fh : Same F' H'
  tap : M.tp.At H' t
  ntp : ∀ a, M.tp.own a → F' a = none
  ff : Same F F'
  new : ∀ a o, F' a = some o → F a = some o ∨ H a = none ∨ ∃ φ, H a = some (.ext φ)
  hh : ∀ a o, H a = some o → ¬ M.tp.own a → H' a = some o
  tb : ∀ a ps, H' a = some (.tbl ps) → ∃ qs, H a = some (.tbl qs)
variable {M}
theorem Stp.refl {F H : Hp} {t : T} (fh : Same F H) (tap : M.tp.At H t) (ntp : ∀ a, M.tp.own a → F a = none) : Stp M F H F H t :=
  ⟨fh, tap, ntp, fun _ _ h => h, fun _ _ h => .inl h, fun _ _ h _ => h, fun _ _ h => ⟨_, h⟩⟩
theorem Stp.self {F H F' H' : Hp} {t : T} (s : Stp M F H F' H' t) : Stp M F' H' F' H' t := .refl s.fh s.tap s.ntp
theorem Stp.was {F H F' H' : Hp} {t : T} (s : Stp M F H F' H' t) {a : Addr} (h : H' a = none) : H a = none := by
  cases e : H a with
  | none => rfl
  | some o =>
    by_cases hb : M.tp.own a
    · exact absurd h (M.tp.there s.tap hb)
    · rw [s.hh a o e hb] at h
      cases h
theorem Stp.trans {F H F1 H1 F2 H2 : Hp} {t1 t2 : T} (a : Stp M F H F1 H1 t1) (b : Stp M F1 H1 F2 H2 t2) : Stp M F H F2 H2 t2 where
  fh := b.fh
  tap := b.tap
  ntp := b.ntp
  ff := fun x o h => b.ff x o (a.ff x o h)
  new := fun x o h => by
    rcases b.new x o h with h1 | h1 | ⟨φ, h1⟩
    · exact a.new x o h1
    · exact .inr (.inl (a.was h1))
    · cases e : H x with
      | none => exact .inr (.inl rfl)
      | some y =>
        by_cases hb : M.tp.own x
        · rw [b.ntp x hb] at h; cases h
        · rw [a.hh x y e hb] at h1
          cases h1
          exact .inr (.inr ⟨φ, rfl⟩)
  hh := fun x o h n => b.hh x o (a.hh x o h n) n
  tb := fun x ps h => let ⟨q, h1⟩ := b.tb x ps h; a.tb x q h1

/-- a container nobody else has: at a, its items frozen -/
inductive Cont (F : Hp) : HO → D → Prop
  | lst {vs : List V} {ds : List D} : RepL M F vs ds → Cont F (.lst vs) (.lst ds)
  | dK {kvs : List (Key × V)} {ds : List (D × D)} : RepK M F kvs ds → Cont F (.dK kvs) (.dct false ds)
  | dT {kvs : List (List Key × V)} {ds : List (D × D)} : RepKT M F kvs ds → Cont F (.dT kvs) (.dct true ds)
  | ins {c : Nat} {dx : Addr} {fs : List (Str × V)} {ds : List (Str × D)} : RepF M F fs ds → Cont F (.ins (M.CA c) dx fs) (.ins c ds)
theorem Cont.same {F F' : Hp} (s : Same F F') {o : HO} {d : D} (h : Cont (M := M) F o d) : Cont (M := M) F' o d := by
  cases h with
  | lst l => exact .lst (l.same s)
  | dK l => exact .dK (l.same s)
  | dT l => exact .dT (l.same s)
  | ins l => exact .ins (l.same s)
structure Own (F H : Hp) (a : Addr) (d : D) : Prop where
  nf : F a = none
  nt : ¬ M.tp.own a
  at_ : ∃ o, H a = some o ∧ Cont (M := M) F o d
/-- a value: where it is fresh, its address was free in H0; where it is borrowed, its address is one of B -/
def VRep (B : Addr → Prop) (H0 F H : Hp) (v : V) : Dk → Prop
  | (d, .fz) => Rep M F v d
  | (d, .fr) => ∃ a, v = .ref a ∧ Own (M := M) F H a d ∧ H0 a = none
  | (d, .br) => ∃ a, v = .ref a ∧ Own (M := M) F H a d ∧ B a
inductive VRepL (B : Addr → Prop) (H0 F H : Hp) : List V → List Dk → Prop
  | nil : VRepL B H0 F H [] []
  | cons {v : V} {vs : List V} {d : Dk} {ds : List Dk} : VRep (M := M) B H0 F H v d → VRepL B H0 F H vs ds → VRepL B H0 F H (v :: vs) (d :: ds)

theorem Own.step {F H F' H' : Hp} {t : T} (s : Stp M F H F' H' t) {a : Addr} {d : D} (h : Own (M := M) F H a d) : Own (M := M) F' H' a d := by
  obtain ⟨nf, nt, o, e, c⟩ := h
  refine ⟨?_, nt, o, s.hh a o e nt, c.same s.ff⟩
  cases q : F' a with
  | none => rfl
  | some u =>
    rcases s.new a u q with z | z | ⟨φ, z⟩
    · rw [nf] at z; cases z
    · rw [e] at z; cases z
    · rw [e] at z; cases z; cases c
variable {B : Addr → Prop}
theorem VRep.step {H0 F H F' H' : Hp} {t : T} (s : Stp M F H F' H' t) {v : V} {d : Dk} (h : VRep (M := M) B H0 F H v d) : VRep (M := M) B H0 F' H' v d := by
  obtain ⟨d, k⟩ := d
  cases k with
  | fz => exact (show Rep M F v d from h).same s.ff
  | fr =>
    obtain ⟨a, e, o, n⟩ := h
    exact ⟨a, e, o.step s, n⟩
  | br =>
    obtain ⟨a, e, o, n⟩ := h
    exact ⟨a, e, o.step s, n⟩
theorem VRep.old {H0 H1 F1 F H : Hp} {t : T} {F0 : Hp} (s : Stp M F0 H0 F1 H1 t) {v : V} {d : Dk} (h : VRep (M := M) B H1 F H v d) : VRep (M := M) B H0 F H v d := by
  obtain ⟨d, k⟩ := d
  cases k with
  | fz => exact h
  | fr =>
    obtain ⟨a, e, o, n⟩ := h
    exact ⟨a, e, o, s.was n⟩
  | br => exact h
theorem VRepL.step {H0 F H F' H' : Hp} {t : T} (s : Stp M F H F' H' t) : ∀ {v : List V} {d : List Dk}, VRepL (M := M) B H0 F H v d → VRepL (M := M) B H0 F' H' v d
  | _, _, .nil => .nil
  | _, _, .cons h l => .cons (h.step s) (VRepL.step s l)
theorem VRepL.old {H0 H1 F1 F H : Hp} {t : T} {F0 : Hp} (s : Stp M F0 H0 F1 H1 t) : ∀ {v : List V} {d : List Dk}, VRepL (M := M) B H1 F H v d → VRepL (M := M) B H0 F H v d
  | _, _, .nil => .nil
  | _, _, .cons h l => .cons (h.old s) (VRepL.old s l)

/-! ### freezing -/
def frzK : Dk → Dk
  | (d, .fr) => (d, .fz)
  | d => d
/-- F with what stands in H at a -/
def putF (F H : Hp) (a : Addr) : Hp := fun b => if b = a then H a else F b
theorem Rep.of_cont {F : Hp} {a : Addr} {o : HO} {d : D} (h : F a = some o) (c : Cont (M := M) F o d) : Rep M F (.ref a) d := by
  cases c with
  | lst l => exact .lst (.inl h) l
  | dK l => exact .dK (.inl h) l
  | dT l => exact .dT h l
  | ins l => exact .ins h l
theorem putF_same {F H : Hp} {a : Addr} {o : HO} (e : H a = some o) (h : F a = none ∨ F a = some o) : Same F (putF F H a) := fun b x q => by
  unfold putF
  by_cases z : b = a
  · subst z
    rw [if_pos rfl, e]
    rcases h with h | h
    · rw [h] at q; cases q
    · rw [h] at q; exact q
  · rw [if_neg z]; exact q
theorem Stp.put {F0 H0 F H : Hp} {t : T} (s : Stp M F0 H0 F H t) {a : Addr} {o : HO} (e : H a = some o) (h : F a = none ∨ F a = some o) (nt : ¬ M.tp.own a) (n : H0 a = none) : Stp M F0 H0 (putF F H a) H t where
  fh := fun b x q => by
    unfold putF at q
    by_cases z : b = a
    · subst z; rw [if_pos rfl] at q; exact q
    · rw [if_neg z] at q; exact s.fh _ _ q
  tap := s.tap
  ntp := fun b hb => by
    unfold putF
    by_cases z : b = a
    · subst z; exact absurd hb nt
    · rw [if_neg z]; exact s.ntp b hb
  ff := fun b x q => putF_same e h b x (s.ff b x q)
  new := fun b x q => by
    unfold putF at q
    by_cases z : b = a
    · subst z; exact .inr (.inl n)
    · rw [if_neg z] at q; exact s.new b x q
  hh := s.hh
  tb := s.tb
/-- frozen, or fresh, perhaps frozen by now -/
def Fz (B : Addr → Prop) (H0 F H : Hp) (v : V) : Dk → Prop
  | (d, .fz) => Rep M F v d
  | (d, .fr) => ∃ a o, v = .ref a ∧ ¬ M.tp.own a ∧ H0 a = none ∧ H a = some o ∧ Cont (M := M) F o d ∧ (F a = none ∨ F a = some o)
  | (d, .br) => ∃ a, v = .ref a ∧ Own (M := M) F H a d ∧ B a
theorem VRep.fz_ {H0 F H : Hp} {v : V} : ∀ {d : Dk}, VRep (M := M) B H0 F H v d → Fz (M := M) B H0 F H v d
  | (_, .fz), h => h
  | (_, .fr), ⟨a, e, o, n⟩ => let ⟨nf, nt, u, q, c⟩ := o; ⟨a, u, e, nt, n, q, c, .inl nf⟩
  | (_, .br), h => h
theorem Fz.put {H0 F H : Hp} {a : Addr} {o : HO} (e : H a = some o) (h : F a = none ∨ F a = some o) (n : H0 a = none) (hB : ∀ b, B b → H0 b ≠ none) {v : V} : ∀ {d : Dk}, Fz (M := M) B H0 F H v d → Fz (M := M) B H0 (putF F H a) H v d
  | (_, .fz), q => Rep.same (putF_same e h) q
  | (_, .fr), ⟨b, u, e1, nt, nb, q, c, hb⟩ => by
    refine ⟨b, u, e1, nt, nb, q, c.same (putF_same e h), ?_⟩
    unfold putF
    by_cases z : b = a
    · rw [if_pos z, ← z, q]; exact .inr rfl
    · rw [if_neg z]; exact hb
  | (_, .br), ⟨b, e1, ⟨nf, nt, u, q, c⟩, hb⟩ => by
    refine ⟨b, e1, ⟨?_, nt, u, q, c.same (putF_same e h)⟩, hb⟩
    unfold putF
    have z : b ≠ a := fun z => hB b hb (z ▸ n)
    rw [if_neg z]; exact nf
inductive FzL (B : Addr → Prop) (H0 F H : Hp) : List V → List Dk → Prop
  | nil : FzL B H0 F H [] []
  | cons {v : V} {vs : List V} {d : Dk} {ds : List Dk} : Fz (M := M) B H0 F H v d → FzL B H0 F H vs ds → FzL B H0 F H (v :: vs) (d :: ds)
theorem VRepL.fzL {H0 F H : Hp} : ∀ {v : List V} {d : List Dk}, VRepL (M := M) B H0 F H v d → FzL (M := M) B H0 F H v d
  | _, _, .nil => .nil
  | _, _, .cons h l => .cons h.fz_ (VRepL.fzL l)
theorem FzL.put {H0 F H : Hp} {a : Addr} {o : HO} (e : H a = some o) (h : F a = none ∨ F a = some o) (n : H0 a = none) (hB : ∀ b, B b → H0 b ≠ none) : ∀ {v : List V} {d : List Dk}, FzL (M := M) B H0 F H v d → FzL (M := M) B H0 (putF F H a) H v d
  | _, _, .nil => .nil
  | _, _, .cons q l => .cons (q.put e h n hB) (FzL.put e h n hB l)
/-- all that is fresh is frozen at once -/
theorem FzL.freeze {F0 H0 H : Hp} {t : T} (hB : ∀ b, B b → H0 b ≠ none) : ∀ {v : List V} {d : List Dk} {F : Hp}, Stp M F0 H0 F H t → FzL (M := M) B H0 F H v d →
    ∃ F', Stp M F0 H0 F' H t ∧ Same F F' ∧ (∀ {w : V} {e : Dk}, Fz (M := M) B H0 F H w e → Fz (M := M) B H0 F' H w e) ∧ VRepL (M := M) B H0 F' H v (d.map frzK)
  | _, _, F, s, .nil => ⟨F, s, fun _ _ q => q, fun q => q, .nil⟩
  | v :: vs, (d, k) :: ds, F, s, .cons q l => by
    cases k with
    | fz =>
      obtain ⟨F', s', ff, keep, r⟩ := FzL.freeze hB s l
      exact ⟨F', s', ff, keep, .cons (show Rep M F' v d from Rep.same ff q) r⟩
    | br =>
      obtain ⟨F', s', ff, keep, r⟩ := FzL.freeze hB s l
      exact ⟨F', s', ff, keep, .cons (keep q) r⟩
    | fr =>
      obtain ⟨a, o, rfl, nt, n, e, c, h⟩ := q
      obtain ⟨F', s', ff, keep, r⟩ := FzL.freeze hB (s.put e h nt n) (l.put e h n hB)
      have e1 : putF F H a a = some o := by unfold putF; rw [if_pos rfl]; exact e
      exact ⟨F', s', fun b x q => ff b x (putF_same e h b x q), fun q => keep (q.put e h n hB), .cons (show Rep M F' (.ref a) d from Rep.of_cont (ff _ _ e1) (c.same (fun b x q => ff b x (putF_same e h b x q)))) r⟩
theorem VRepL.freeze {F0 H0 F H : Hp} {t : T} (hB : ∀ b, B b → H0 b ≠ none) (s : Stp M F0 H0 F H t) {v : List V} {d : List Dk} (h : VRepL (M := M) B H0 F H v d) :
    ∃ F', Stp M F0 H0 F' H t ∧ Same F F' ∧ VRepL (M := M) B H0 F' H v (d.map frzK) := by
  obtain ⟨F', s', ff, _, r⟩ := FzL.freeze hB s h.fzL
  exact ⟨F', s', ff, r⟩
theorem VRepL.rep {H0 F H : Hp} : ∀ {v : List V} {d : List Dk} {e : List D}, VRepL (M := M) B H0 F H v (d.map frzK) → allFz d = some e → RepL M F v e
  | _, [], _, .nil, h => by cases h; exact .nil
  | _ :: _, (d, .fz) :: ds, _, .cons q l, h => by
    obtain ⟨r, e1, rfl⟩ := Option.map_eq_some_iff.mp (show (allFz ds).map (d :: ·) = some _ from h)
    exact .cons q (VRepL.rep l e1)
  | _ :: _, (d, .fr) :: ds, _, .cons q l, h => by
    obtain ⟨r, e1, rfl⟩ := Option.map_eq_some_iff.mp (show (allFz ds).map (d :: ·) = some _ from h)
    exact .cons q (VRepL.rep l e1)
  | _ :: _, (d, .br) :: ds, _, .cons q l, h => by cases h
end
end DE
set_option maxHeartbeats 1000000
/-! DE3: the judgements; operations by data. -/
namespace DE
open PySem PySem.Spec PyProof.Rows L2

section
variable {T : Type} (M : Md T)
/-- the slots hold what the environment says -/
structure Sx (F H : Hp) (σ : L2.St) (ρ : En) (t : T) : Prop where
  fh : Same F H
  tap : M.tp.At H t
  ntp : ∀ a, M.tp.own a → F a = none
  len : σ.length = ρ.length
  fz : ∀ (i : Nat) (d : D), ρ[i]? = some (.fz d) → ∃ v, σ[i]? = some (some v) ∧ Rep M F v d
  ow : ∀ (i : Nat) (d : D), ρ[i]? = some (.ow d) → ∃ a, σ[i]? = some (some (.ref a)) ∧ Own (M := M) F H a d
  dis : ∀ (i j : Nat) (d e : D) (a : Addr), ρ[i]? = some (.ow d) → ρ[j]? = some (.ow e) → σ[i]? = some (some (.ref a)) → σ[j]? = some (some (.ref a)) → i = j
  lk : ∀ i k : Nat, ρ[i]? = some (.lock k) → ∃ v l, M.vl k = some (v, l) ∧ σ[i]? = some (some v) ∧ ∀ p ∈ l, F p.1 = some p.2
/-- the addresses of the owned slots -/
def Bo (σ : L2.St) (ρ : En) : Addr → Prop := fun a => ∃ (i : Nat) (d : D), ρ[i]? = some (.ow d) ∧ σ[i]? = some (some (.ref a))
variable {M}
theorem Sx.bo {F H : Hp} {σ : L2.St} {ρ : En} {t : T} (s : Sx M F H σ ρ t) : ∀ b, Bo σ ρ b → H b ≠ none := fun b ⟨i, d, e1, e2⟩ => by
  obtain ⟨a, e3, _, _, o, e4, _⟩ := s.ow i d e1
  rw [e2] at e3
  cases e3
  rw [e4]
  exact Option.some_ne_none _
theorem Sx.step {F H F' H' : Hp} {σ : L2.St} {ρ : En} {t t' : T} (s : Sx M F H σ ρ t) (p : Stp M F H F' H' t') : Sx M F' H' σ ρ t' where
  fh := p.fh
  tap := p.tap
  ntp := p.ntp
  len := s.len
  fz := fun i d e => by
    obtain ⟨v, e1, r⟩ := s.fz i d e
    exact ⟨v, e1, r.same p.ff⟩
  ow := fun i d e => by
    obtain ⟨a, e1, r⟩ := s.ow i d e
    exact ⟨a, e1, r.step p⟩
  dis := s.dis
  lk := fun i k e => by
    obtain ⟨v, l, e1, e2, e3⟩ := s.lk i k e
    exact ⟨v, l, e1, e2, fun q hq => p.ff _ _ (e3 q hq)⟩
theorem Sx.stp {F H : Hp} {σ : L2.St} {ρ : En} {t : T} (s : Sx M F H σ ρ t) : Stp M F H F H t := .refl s.fh s.tap s.ntp

theorem Sx.lkS {F H F' : Hp} {σ : L2.St} {ρ : En} {t : T} (s : Sx M F H σ ρ t) (ff : Same F F') (i k : Nat) (e : ρ[i]? = some (.lock k)) : ∃ v l, M.vl k = some (v, l) ∧ σ[i]? = some (some v) ∧ ∀ p ∈ l, F' p.1 = some p.2 := by
  obtain ⟨v, l, e1, e2, e3⟩ := s.lk i k e
  exact ⟨v, l, e1, e2, fun q hq => ff _ _ (e3 q hq)⟩
variable (M)
/-- an error: its class, its payload -/
def ExR (H0 F H : Hp) (c : Nat) (v : Option D) (cls : Value) (d : Option Addr) : Prop := cls = .ref (M.CA c) ∧ match v with
  | none => d = none
  | some x => ∃ dx w, d = some dx ∧ H dx = some (.xd [(M.atr c, w)]) ∧ Rep M F w x ∧ F dx = none ∧ ¬ M.tp.own dx ∧ H0 dx = none
def PostG (W : XK) (F H : Hp) {α : Type} (r : R T α) (K : α → T → Hp → Hp → Prop) : Prop := match r with
  | .ok a t => ∀ F' H', Stp M F H F' H' t → K a t F' H'
  | .ex c v t => ∀ F' H' cls d, Stp M F H F' H' t → ExR M H F' H' c v cls d → W cls d H'
  | .no => False
variable {M}
theorem ExR.old {H0 H1 F0 F1 F H : Hp} {t : T} (s : Stp M F0 H0 F1 H1 t) {c : Nat} {v : Option D} {cls : Value} {d : Option Addr} (h : ExR M H1 F H c v cls d) : ExR M H0 F H c v cls d := by
  obtain ⟨e, h⟩ := h
  refine ⟨e, ?_⟩
  cases v with
  | none => exact h
  | some x =>
    obtain ⟨dx, w, e1, e2, r, n1, n2, n3⟩ := h
    exact ⟨dx, w, e1, e2, r, n1, n2, s.was n3⟩
theorem PostG.imp {W : XK} {F H : Hp} {α : Type} {r : R T α} {K K' : α → T → Hp → Hp → Prop} (h : PostG M W F H r K) (k : ∀ a t F' H', Stp M F H F' H' t → K a t F' H' → K' a t F' H') : PostG M W F H r K' := by
  cases r with
  | ok a t => exact fun F' H' s => k a t F' H' s (h F' H' s)
  | ex c v t => exact h
  | no => exact h
theorem PostG.from_ {W : XK} {F H F1 H1 : Hp} {t1 : T} {α : Type} {r : R T α} {K : α → T → Hp → Hp → Prop} (s1 : Stp M F H F1 H1 t1) (h : PostG M W F H r K) : PostG M W F1 H1 r K := by
  cases r with
  | ok b t2 => exact fun F2 H2 s2 => h F2 H2 (s1.trans s2)
  | ex c v t2 => exact fun F2 H2 cls d s2 e => h F2 H2 cls d (s1.trans s2) (e.old s1)
  | no => exact h
theorem PostG.bind' {W : XK} {F H : Hp} {α β : Type} {r : R T α} {f : α → T → R T β} {K : β → T → Hp → Hp → Prop} (h : PostG M W F H (r.bind f) K) :
    PostG M W F H r fun a t _ _ => PostG M W F H (f a t) K := by
  cases r with
  | ok a t => exact fun _ _ _ => h
  | ex c v t => exact h
  | no => exact h
theorem PostG.bind {W : XK} {F H : Hp} {α β : Type} {r : R T α} {f : α → T → R T β} {K : β → T → Hp → Hp → Prop} (h : PostG M W F H (r.bind f) K) :
    PostG M W F H r fun a t F' H' => PostG M W F' H' (f a t) K :=
  (PostG.bind' h).imp fun _ _ _ _ s q => q.from_ s
theorem PostG.ofO {W : XK} {F H : Hp} {α : Type} {o : Option α} {t : T} {K : α → T → Hp → Hp → Prop} (h : PostG M W F H (ofO o t) K) : ∃ a, o = some a ∧ ∀ F' H', Stp M F H F' H' t → K a t F' H' := by
  cases o with
  | none => exact h.elim
  | some a => exact ⟨a, rfl, h⟩
/-- what is reached already -/
theorem PostG.here {W : XK} {F H : Hp} {α : Type} {a : α} {t : T} {K : α → T → Hp → Hp → Prop} (h : PostG M W F H (.ok a t) K) (s : Stp M F H F H t) : K a t F H := h F H s

variable (G : Pg T) (M)
def tD (W : XK) (e : E) : TE := fun σ H Q => ∃ ρ t F, Sx M F H σ ρ t ∧ PostG M W F H (evalE G e ρ t) fun d t' F' H' => ∀ v, VRep (M := M) (Bo σ ρ) H F' H' v d → Q v H'
def tDT (W : XK) (e : E) : TT := fun σ H Q => ∃ ρ t F, Sx M F H σ ρ t ∧ PostG M W F H (evalE G e ρ t) fun d t' F' H' => ∃ b, d.1 = .bl b ∧ Q b H'
def FrD (vs : List V) (ds : List Dk) : Prop := ∀ (i j : Nat) (d e : D) (a : Addr), i ≠ j → ds[i]? = some (d, .fr) → ds[j]? = some (e, .fr) → vs[i]? = some (.ref a) → vs[j]? = some (.ref a) → False
def tDs (W : XK) (es : Es) : TA := fun σ H Q => ∃ ρ t F, Sx M F H σ ρ t ∧ PostG M W F H (evalEs G es ρ t) fun ds t' F' H' => ∀ vs, VRepL (M := M) (Bo σ ρ) H F' H' vs ds → FrD vs ds → Q vs H'
end

/-! ### weaker readings -/
section
variable {X : Cx}
theorem _root_.L2.PE.imp {e : Expr} {t t' : TE} (h : PE X e t) (k : ∀ σ H Q, t' σ H Q → t σ H Q) : PE X e t' := ⟨fun pins s σ H Q I q => h.run pins s σ H Q I (k σ H Q q)⟩
theorem _root_.L2.PT.imp {e : Expr} {t t' : TT} (h : PT X e t) (k : ∀ σ H Q, t' σ H Q → t σ H Q) : PT X e t' := ⟨fun pins s σ H Q I q => h.run pins s σ H Q I (k σ H Q q)⟩
theorem _root_.L2.PW.imp {e : Expr} {t t' : TT} (h : PW X e t) (k : ∀ σ H Q, t' σ H Q → t σ H Q) : PW X e t' := ⟨fun wh pins s σ H Q I q => h.run wh pins s σ H Q I (k σ H Q q)⟩
theorem _root_.L2.PA.imp {e : List Expr} {t t' : TA} (h : PA X e t) (k : ∀ σ H Q, t' σ H Q → t σ H Q) : PA X e t' := ⟨fun pos pins s σ H Q I q => h.run pos pins s σ H Q I (k σ H Q q)⟩
theorem _root_.L2.PS.imp {e : Stmt} {t t' : TS} (h : PS X e t) (k : ∀ D σ H, t' D σ H → t D σ H) : PS X e t' := ⟨fun pins s σ H Q I q => h.run pins s σ H Q I (k Q σ H q)⟩
theorem _root_.L2.PSs.imp {e : List Stmt} {t t' : TS} (h : PSs X e t) (k : ∀ D σ H, t' D σ H → t D σ H) : PSs X e t' := ⟨fun pins s σ H Q I q => h.run pins s σ H Q I (k Q σ H q)⟩
theorem _root_.L2.PI.imp {tg e : Expr} {t t' : TI} (h : PI X tg e t) (k : ∀ σ H Q, t' σ H Q → t σ H Q) : PI X tg e t' := ⟨fun pins s σ H Q I q => h.run pins s σ H Q I (k σ H Q q)⟩
end

/-! ### two operands -/
section
variable {T : Type} {M : Md T}
/-- the content of a list, a tuple that a value names -/
theorem VRep.rep {B : Addr → Prop} {H0 F H : Hp} {v : V} {d : D} {k : Kd} (s : Same F H) (h : VRep (M := M) B H0 F H v (d, k)) :
    Rep M F v d ∨ ∃ a o, v = .ref a ∧ H a = some o ∧ Cont (M := M) F o d := by
  cases k with
  | fz => exact .inl h
  | fr =>
    obtain ⟨a, e, ⟨_, _, o, q, c⟩, _⟩ := h
    exact .inr ⟨a, o, e, q, c⟩
  | br =>
    obtain ⟨a, e, ⟨_, _, o, q, c⟩, _⟩ := h
    exact .inr ⟨a, o, e, q, c⟩
theorem VRep.lst {B : Addr → Prop} {H0 F H : Hp} {v : V} {xs : List D} {k : Kd} (s : Same F H) (h : VRep (M := M) B H0 F H v (.lst xs, k)) : ∃ a vs, v = .ref a ∧ Rd H a (.lst vs) ∧ RepL M F vs xs := by
  rcases h.rep s with h | ⟨a, o, e, q, c⟩
  · cases h with
    | lst hs l => exact ⟨_, _, rfl, Rd.same s hs, l⟩
  · cases c with
    | lst l => exact ⟨_, _, e, .inl q, l⟩
theorem VRep.scr {B : Addr → Prop} {H0 F H : Hp} {v : V} {xs : List D} {k : Kd} (s : Same F H) (h : VRep (M := M) B H0 F H v (.scr xs, k)) : ∃ a vs, v = .ref a ∧ SqL M.K H a vs ∧ SqL M.K F a vs ∧ RepL M F vs xs ∧ k = .fz := by
  cases k with
  | fz => cases (show Rep M F v (.scr xs) from h) with
    | scr hs l => exact ⟨_, _, rfl, SqL.same s hs, hs, l, rfl⟩
  | fr =>
    obtain ⟨a, e, ⟨_, _, o, q, c⟩, _⟩ := h
    cases c
  | br =>
    obtain ⟨a, e, ⟨_, _, o, q, c⟩, _⟩ := h
    cases c
theorem VRep.tup {B : Addr → Prop} {H0 F H : Hp} {v : V} {xs : List D} {k : Kd} (s : Same F H) (h : VRep (M := M) B H0 F H v (.tup xs, k)) : ∃ a vs, v = .ref a ∧ SqT M.K H a vs ∧ SqT M.K F a vs ∧ RepL M F vs xs ∧ k = .fz := by
  cases k with
  | fz => cases (show Rep M F v (.tup xs) from h) with
    | tup hs l => exact ⟨_, _, rfl, SqT.same s hs, hs, l, rfl⟩
  | fr =>
    obtain ⟨a, e, ⟨_, _, o, q, c⟩, _⟩ := h
    cases c
  | br =>
    obtain ⟨a, e, ⟨_, _, o, q, c⟩, _⟩ := h
    cases c
theorem VRep.int {B : Addr → Prop} {H0 F H : Hp} {v : V} {i : Int} {k : Kd} (h : VRep (M := M) B H0 F H v (.int i, k)) : v = .int i ∧ k = .fz := by
  cases k with
  | fz => cases h; exact ⟨rfl, rfl⟩
  | fr => obtain ⟨a, e, ⟨_, _, o, q, c⟩, _⟩ := h; cases c
  | br => obtain ⟨a, e, ⟨_, _, o, q, c⟩, _⟩ := h; cases c
theorem VRep.bl {B : Addr → Prop} {H0 F H : Hp} {v : V} {i : Bool} {k : Kd} (h : VRep (M := M) B H0 F H v (.bl i, k)) : v = .bl i ∧ k = .fz := by
  cases k with
  | fz => cases h; exact ⟨rfl, rfl⟩
  | fr => obtain ⟨a, e, ⟨_, _, o, q, c⟩, _⟩ := h; cases c
  | br => obtain ⟨a, e, ⟨_, _, o, q, c⟩, _⟩ := h; cases c
theorem VRep.str {B : Addr → Prop} {H0 F H : Hp} {v : V} {i : Str} {k : Kd} (h : VRep (M := M) B H0 F H v (.str i, k)) : v = .str i ∧ k = .fz := by
  cases k with
  | fz => cases h; exact ⟨rfl, rfl⟩
  | fr => obtain ⟨a, e, ⟨_, _, o, q, c⟩, _⟩ := h; cases c
  | br => obtain ⟨a, e, ⟨_, _, o, q, c⟩, _⟩ := h; cases c
theorem VRep.non {B : Addr → Prop} {H0 F H : Hp} {v : V} {k : Kd} (h : VRep (M := M) B H0 F H v (.non, k)) : v = .non ∧ k = .fz := by
  cases k with
  | fz => cases h; exact ⟨rfl, rfl⟩
  | fr => obtain ⟨a, e, ⟨_, _, o, q, c⟩, _⟩ := h; cases c
  | br => obtain ⟨a, e, ⟨_, _, o, q, c⟩, _⟩ := h; cases c
theorem Rep.nonD {F : Hp} {d : D} (h : Rep M F .non d) : d = .non := by cases h; rfl
theorem VRep.dp {B : Addr → Prop} {H0 F H : Hp} {v : V} {d : D} {k : Kd} {p : PyData} (s : Same F H) (h : VRep (M := M) B H0 F H v (d, k)) (e : toPy d = some p) : Dp M.K H v p := by
  rcases h.rep s with h | ⟨a, o, rfl, q, c⟩
  · exact DE.Dp.same s (h.dp e)
  · cases c with
    | @lst vs ds l =>
      have e1 : (toPyL ds).map PyData.list = some p := by simpa [toPy] using e
      obtain ⟨ps, e2, rfl⟩ := Option.map_eq_some_iff.mp e1
      exact .lst (.inl (.inl q)) ((DpAll_same s (l.dp e2)))
    | dK l => simp [toPy] at e
    | dT l => simp [toPy] at e
    | ins l => simp [toPy] at e
where
  DpAll_same {K : PySem.W.Frag} {F F' : Hp} (s : Same F F') : ∀ {v : List V} {d : List PyData}, DpAll K F v d → DpAll K F' v d
    | _, _, .nil => .nil
    | _, _, .cons h l => .cons (DE.Dp.same s h) (DpAll_same s l)

/-- a new object: the tracked heap with it -/
theorem Stp.new_ {F H : Hp} {t : T} (fh : Same F H) (tap : M.tp.At H t) (ntp : ∀ a, M.tp.own a → F a = none) {p : Addr} {o : HO} (n : H p = none) (ho : ∀ ps, o ≠ .tbl ps := by exact fun _ z => nomatch z) : Stp M F H F (upd H p o) t where
  fh := fun b x q => by rw [upd_ne (ne_of_none (fh b x q) n)]; exact fh b x q
  tap := M.tp.loc (fun a ha => by
    have z : a ≠ p := fun z => M.tp.there tap ha (by rw [z]; exact n)
    rw [upd_ne z]) (fun a φ e => by rw [upd_ne (ne_of_none e n)]; exact e) (fun a ps e => by
    by_cases z : a = p
    · subst z; rw [upd_same] at e; cases e; exact absurd rfl (ho _)
    · rw [upd_ne z] at e; exact e) tap
  ntp := ntp
  ff := fun _ _ q => q
  new := fun _ _ q => .inl q
  hh := fun b x q _ => by rw [upd_ne (ne_of_none q n)]; exact q
  tb := fun a ps e => by
    by_cases z : a = p
    · subst z; rw [upd_same] at e; cases e; exact absurd rfl (ho _)
    · rw [upd_ne z] at e; exact ⟨_, e⟩
theorem nt_new {H : Hp} {t : T} (tap : M.tp.At H t) {p : Addr} (n : H p = none) : ¬ M.tp.own p := fun h => M.tp.there tap h n
theorem nf_new {F H : Hp} (fh : Same F H) {p : Addr} (n : H p = none) : F p = none := by
  cases e : F p with
  | none => rfl
  | some x =>
    rw [fh p x e] at n
    cases n
theorem Own.new_ {F H : Hp} {t : T} (fh : Same F H) (tap : M.tp.At H t) {p : Addr} {o : HO} {d : D} (n : H p = none) (c : Cont (M := M) F o d) : Own (M := M) F (upd H p o) p d :=
  ⟨nf_new fh n, nt_new tap n, o, upd_same, c⟩
/-- .. and frozen -/
theorem Stp.newF {F H : Hp} {t : T} (fh : Same F H) (tap : M.tp.At H t) (ntp : ∀ a, M.tp.own a → F a = none) {p : Addr} {o : HO} (n : H p = none) (ho : ∀ ps, o ≠ .tbl ps := by exact fun _ z => nomatch z) : Stp M F H (upd F p o) (upd H p o) t where
  fh := fun b x q => by
    by_cases z : b = p
    · subst z; rw [upd_same] at q; rw [upd_same]; exact q
    · rw [upd_ne z] at q; rw [upd_ne z]; exact fh b x q
  tap := M.tp.loc (fun a ha => by
    have z : a ≠ p := fun z => M.tp.there tap ha (by rw [z]; exact n)
    rw [upd_ne z]) (fun a φ e => by rw [upd_ne (ne_of_none e n)]; exact e) (fun a ps e => by
    by_cases z : a = p
    · subst z; rw [upd_same] at e; cases e; exact absurd rfl (ho _)
    · rw [upd_ne z] at e; exact e) tap
  ntp := fun b hb => by
    have z : b ≠ p := fun z => nt_new (M := M) tap n (z ▸ hb)
    rw [upd_ne z]; exact ntp b hb
  ff := fun b x q => by rw [upd_ne (ne_of_none (fh b x q) n)]; exact q
  new := fun b x q => by
    by_cases z : b = p
    · subst z; exact .inr (.inl n)
    · rw [upd_ne z] at q; exact .inl q
  hh := fun b x q _ => by rw [upd_ne (ne_of_none q n)]; exact q
  tb := fun a ps e => by
    by_cases z : a = p
    · subst z; rw [upd_same] at e; cases e; exact absurd rfl (ho _)
    · rw [upd_ne z] at e; exact ⟨_, e⟩

/-- what an operation by data asks: of two values their data, and what they give -/
def rData (M : Md T) (f : Dk → Dk → Option Dk) : R2 := fun x y H Q => ∃ (B : Addr → Prop) (H0 F : Hp) (t : T) (dx dy d : Dk), Same F H ∧ M.tp.At H t ∧ (∀ a, M.tp.own a → F a = none) ∧ (∀ p, H p = none → H0 p = none) ∧ VRep (M := M) B H0 F H x dx ∧ VRep (M := M) B H0 F H y dy ∧ f dx dy = some d ∧
  ∀ F' H', Stp M F H F' H' t → ∀ v, VRep (M := M) B H0 F' H' v d → Q v H'
end
end DE
set_option maxHeartbeats 4000000
/-! DE3B: what the locked slots hold plays no part in data. -/
namespace DE
open PySem PySem.Spec PyProof.Rows L2
section
variable {T : Type} {M : Md T} {F : Hp} {f : Nat → Option (V × List (Addr × HO))}
mutual
theorem Rep.vl : ∀ {v : V} {d : D}, Rep M F v d → Rep { M with vl := f } F v d
  | _, _, .non => .non
  | _, _, .bl b => .bl b
  | _, _, .int i => .int i
  | _, _, .str x => .str x
  | _, _, .tup h l => .tup h (RepL.vl l)
  | _, _, .lst h l => .lst h (RepL.vl l)
  | _, _, .dK h l => .dK h (RepK.vl l)
  | _, _, .dT h l => .dT h (RepKT.vl l)
  | _, _, .ins h l => .ins h (RepF.vl l)
  | _, _, .exc0 h => .exc0 h
  | _, _, .exc1 h h2 l => .exc1 h h2 (Rep.vl l)
  | _, _, .tape => .tape
  | _, _, .scr h l => .scr h (RepL.vl l)
  | _, _, .setI h h2 h3 h4 => .setI h h2 h3 h4
  | _, _, .setT h h2 h3 h4 => .setT h h2 h3 h4
  | _, _, .fn i => .fn i
theorem RepL.vl : ∀ {v : List V} {d : List D}, RepL M F v d → RepL { M with vl := f } F v d
  | _, _, .nil => .nil
  | _, _, .cons h l => .cons (Rep.vl h) (RepL.vl l)
theorem RepK.vl : ∀ {v : List (Key × V)} {d : List (D × D)}, RepK M F v d → RepK { M with vl := f } F v d
  | _, _, .nil => .nil
  | _, _, .cons h l => .cons (Rep.vl h) (RepK.vl l)
theorem RepKT.vl : ∀ {v : List (List Key × V)} {d : List (D × D)}, RepKT M F v d → RepKT { M with vl := f } F v d
  | _, _, .nil => .nil
  | _, _, .cons h l => .cons (Rep.vl h) (RepKT.vl l)
theorem RepF.vl : ∀ {v : List (Str × V)} {d : List (Str × D)}, RepF M F v d → RepF { M with vl := f } F v d
  | _, _, .nil => .nil
  | _, _, .cons h l => .cons (Rep.vl h) (RepF.vl l)
end
theorem Rep.ofVl {v : V} {d : D} (h : Rep { M with vl := f } F v d) : Rep M F v d := Rep.vl (M := { M with vl := f }) (f := M.vl) h
theorem RepL.ofVl {v : List V} {d : List D} (h : RepL { M with vl := f } F v d) : RepL M F v d := RepL.vl (M := { M with vl := f }) (f := M.vl) h
theorem Cont.vl {o : HO} {d : D} (h : Cont (M := M) F o d) : Cont (M := { M with vl := f }) F o d := by
  cases h with
  | lst l => exact .lst l.vl
  | dK l => exact .dK l.vl
  | dT l => exact .dT l.vl
  | ins l => exact .ins l.vl
theorem Own.vl {H : Hp} {a : Addr} {d : D} (h : Own (M := M) F H a d) : Own (M := { M with vl := f }) F H a d := ⟨h.nf, h.nt, let ⟨o, e, c⟩ := h.at_; ⟨o, e, c.vl⟩⟩
theorem VRep.vl {B : Addr → Prop} {H0 H : Hp} {v : V} {d : Dk} (h : VRep (M := M) B H0 F H v d) : VRep (M := { M with vl := f }) B H0 F H v d := by
  obtain ⟨d, k⟩ := d
  cases k with
  | fz => exact Rep.vl h
  | fr => obtain ⟨a, e, o, n⟩ := h; exact ⟨a, e, o.vl, n⟩
  | br => obtain ⟨a, e, o, n⟩ := h; exact ⟨a, e, o.vl, n⟩
theorem VRep.ofVl {B : Addr → Prop} {H0 H : Hp} {v : V} {d : Dk} (h : VRep (M := { M with vl := f }) B H0 F H v d) : VRep (M := M) B H0 F H v d := VRep.vl (M := { M with vl := f }) (f := M.vl) h
theorem Stp.vl {H F' H' : Hp} {t : T} (h : Stp M F H F' H' t) : Stp { M with vl := f } F H F' H' t := ⟨h.fh, h.tap, h.ntp, h.ff, h.new, h.hh, h.tb⟩
theorem Stp.ofVl {H F' H' : Hp} {t : T} (h : Stp { M with vl := f } F H F' H' t) : Stp M F H F' H' t := ⟨h.fh, h.tap, h.ntp, h.ff, h.new, h.hh, h.tb⟩
theorem ExR.vl {H0 H : Hp} {c : Nat} {v : Option D} {cls : Value} {d : Option Addr} (h : ExR M H0 F H c v cls d) : ExR { M with vl := f } H0 F H c v cls d := by
  obtain ⟨e, h⟩ := h
  refine ⟨e, ?_⟩
  cases v with
  | none => exact h
  | some x => obtain ⟨dx, w, e1, e2, r, n⟩ := h; exact ⟨dx, w, e1, e2, r.vl, n⟩
theorem ExR.ofVl {H0 H : Hp} {c : Nat} {v : Option D} {cls : Value} {d : Option Addr} (h : ExR { M with vl := f } H0 F H c v cls d) : ExR M H0 F H c v cls d := ExR.vl (M := { M with vl := f }) (f := M.vl) h
theorem PostG.vl {W : XK} {H : Hp} {α : Type} {r : R T α} {K : α → T → Hp → Hp → Prop} (h : PostG M W F H r K) : PostG { M with vl := f } W F H r K := by
  cases r with
  | ok a t => exact fun F' H' s => h F' H' s.ofVl
  | ex c v t => exact fun F' H' cls d s e => h F' H' cls d s.ofVl e.ofVl
  | no => exact h
theorem PostG.ofVl {W : XK} {H : Hp} {α : Type} {r : R T α} {K : α → T → Hp → Hp → Prop} (h : PostG { M with vl := f } W F H r K) : PostG M W F H r K := PostG.vl (M := { M with vl := f }) (f := M.vl) h
/-- no slot is locked -/
theorem noLk_at {ρ : En} (h : noLk ρ = true) (i k : Nat) : ρ[i]? ≠ some (.lock k) := fun e => by
  unfold noLk at h
  have m := List.all_eq_true.mp h _ (List.mem_of_getElem? e)
  cases m
theorem Sx.vlN {H : Hp} {σ : L2.St} {ρ : En} {t : T} (s : Sx M F H σ ρ t) (n : noLk ρ = true) : Sx { M with vl := f } F H σ ρ t where
  fh := s.fh
  tap := s.tap
  ntp := s.ntp
  len := s.len
  fz := fun i d e => by
    obtain ⟨v, e1, r⟩ := s.fz i d e
    exact ⟨v, e1, r.vl⟩
  ow := fun i d e => by
    obtain ⟨a, e1, r⟩ := s.ow i d e
    exact ⟨a, e1, r.vl⟩
  dis := s.dis
  lk := fun i k e => (noLk_at n i k e).elim
/-- a slot is locked -/
theorem Sx.setLk {H : Hp} {σ : L2.St} {ρ : En} {t : T} (s : Sx M F H σ ρ t) {i k : Nat} {v : V} {l : List (Addr × HO)} (hi : i < ρ.length) (e : M.vl k = some (v, l)) (hl : ∀ p ∈ l, F p.1 = some p.2) : Sx M F H (σ.set i (some v)) (ρ.set i (.lock k)) t where
  fh := s.fh
  tap := s.tap
  ntp := s.ntp
  len := by rw [List.length_set, List.length_set, s.len]
  fz := fun j d h => by
    by_cases z : i = j
    · subst z; rw [List.getElem?_set_self hi] at h; cases h
    · rw [List.getElem?_set_ne z] at h ⊢; exact s.fz j d h
  ow := fun j d h => by
    by_cases z : i = j
    · subst z; rw [List.getElem?_set_self hi] at h; cases h
    · rw [List.getElem?_set_ne z] at h ⊢; exact s.ow j d h
  dis := fun j j2 d1 d2 a h1 h2 h3 h4 => by
    have n1 : i ≠ j := fun z => by subst z; rw [List.getElem?_set_self hi] at h1; cases h1
    have n2 : i ≠ j2 := fun z => by subst z; rw [List.getElem?_set_self hi] at h2; cases h2
    rw [List.getElem?_set_ne n1] at h1 h3
    rw [List.getElem?_set_ne n2] at h2 h4
    exact s.dis j j2 d1 d2 a h1 h2 h3 h4
  lk := fun j kk h => by
    by_cases z : i = j
    · subst z
      rw [List.getElem?_set_self hi] at h
      cases h
      exact ⟨v, l, e, List.getElem?_set_self (by rw [s.len]; exact hi), hl⟩
    · rw [List.getElem?_set_ne z] at h ⊢; exact s.lk j kk h
/-- .. and forgotten -/
theorem Sx.forget {H : Hp} {σ : L2.St} {ρ : En} {t : T} (s : Sx M F H σ ρ t) (i : Nat) : Sx M F H σ (ρ.set i .un) t := by
  have at_ : ∀ {j : Nat} {x : SV}, (ρ.set i .un)[j]? = some x → x ≠ .un → ρ[j]? = some x := fun {j x} h n => by
    by_cases z : i = j
    · subst z
      by_cases hi : i < ρ.length
      · rw [List.getElem?_set_self hi] at h; cases h; exact absurd rfl n
      · rw [List.getElem?_eq_none (by simpa using hi)] at h; cases h
    · rw [List.getElem?_set_ne z] at h; exact h
  exact ⟨s.fh, s.tap, s.ntp, by rw [List.length_set]; exact s.len, fun j d h => s.fz j d (at_ h fun z => by cases z), fun j d h => s.ow j d (at_ h fun z => by cases z), fun j j2 d1 d2 a h1 h2 => s.dis j j2 d1 d2 a (at_ h1 fun z => by cases z) (at_ h2 fun z => by cases z), fun j k h => s.lk j k (at_ h fun z => by cases z)⟩
end
end DE
set_option maxHeartbeats 1000000
/-! DE4: operators and comparisons by data. -/
namespace DE
open PySem PySem.Spec PyProof.Rows L2

def Op2.op : Op2 → Operator
  | .add => .Add | .sub => .Sub | .mul => .Mult | .fdiv => .FloorDiv | .mod => .Mod | .pow => .Pow | .xor => .BitXor | .band => .BitAnd
def Cm.op : Cm → CmpOp
  | .eq => .Eq | .ne => .NotEq | .lt => .Lt | .le => .LtE | .gt => .Gt | .ge => .GtE | .is => .Is | .isnot => .IsNot | .isin => .In | .notin => .NotIn

section
variable {T : Type} {M : Md T} {X : Cx}
theorem Inv.lstR {pins : List (Addr × Obj)} {σ : L2.St} {H : Hp} {s : Shared} {l : Addr} {xs : List V} (I : Inv X pins σ H s) (hH : Rd H l (.lst xs)) : xs.length ≤ sizeLine ∧ ∃ (its : List Value) (n : Nat), Vals xs its ∧ xs.length = its.length ∧ s.heap.get? l = some { cls := .type "list", data := .seq its.toArray n } := by
  obtain ⟨z, its, n, r, e⟩ := hH.ok I.hok
  exact ⟨z, its, n, r, r.length, e⟩
/-- list + list, of any that may be read -/
theorem op_catS : OpR X (binaryOp .Add) (fun x y H Q => ∃ l b xs zs, x = V.ref l ∧ y = V.ref b ∧ Rd H l (.lst xs) ∧ Rd H b (.lst zs) ∧ xs.length + zs.length ≤ sizeLine ∧ ∀ p, H p = none → Q (.ref p) (upd H p (.lst (xs ++ zs)))) := by
  intro pins s σ H x y v u Q I rx ry h
  obtain ⟨l, b, xs, zs, rfl, rfl, hH, hB, hz, q⟩ := h
  cases rx
  cases ry
  obtain ⟨z, its, n, r, hl, e⟩ := Inv.lstR I hH
  obtain ⟨z2, its2, n2, r2, hl2, e2⟩ := Inv.lstR I hB
  refine PySem.P.add_list e e2 ?_ (by rw [List.size_toArray, List.size_toArray]; omega)
  have ea : its.toArray ++ its2.toArray = (its ++ its2).toArray := by simp
  rw [ea]
  exact ⟨.ref _, _, I.lnew (t' := s.toks) (r.append r2) (by rw [List.length_append]; omega), rfl, q _ I.fresh⟩

theorem smallI_iff {i : Int} (h : smallI i = true) : -(2 ^ 64) < i ∧ i < 2 ^ 64 := of_decide_eq_true h
theorem op_data (hK : M.K = X.K) (o : Op2) : OpR X (binaryOp o.op) (rData M fun x y => op2 o x.1 y.1) := by
  intro pins s σ H x y v u Q I rx ry h
  obtain ⟨B, H0, F, t, ⟨dx, kx⟩, ⟨dy, ky⟩, d, fh, tap, ntp, hn, hx, hy, e, q⟩ := h
  have q0 : ∀ z : D, d = (z, Kd.fz) → ∀ w, Rep M F w z → Q w H := fun z ez w r => q F H (.refl fh tap ntp) w (by rw [ez]; exact r)
  cases o <;> cases dx <;> (try (exfalso; revert e; simp [op2]; done)) <;> cases dy <;> (try (exfalso; revert e; simp [op2]; done))
  case add.int.int i j =>
    obtain ⟨rfl, _⟩ := hx.int
    obtain ⟨rfl, _⟩ := hy.int
    exact op_add pins s σ H _ _ v u Q I rx ry ⟨i, j, rfl, rfl, q0 _ (Option.some.inj e).symm _ (.int _)⟩
  case add.tup.tup xs ys =>
    obtain ⟨a, vs, rfl, hs, hf, l, rfl⟩ := hx.tup fh
    obtain ⟨b, ws, rfl, hs2, hf2, l2, rfl⟩ := hy.tup fh
    rw [hK] at hs hs2
    have hz : vs.length + ws.length ≤ sizeLine ∧ d = (.tup (xs ++ ys), .fz) := by
      simp only [op2] at e
      split at e
      · rename_i h; rw [l.length, l2.length]; exact ⟨h, (Option.some.inj e).symm⟩
      · cases e
    have l3 := l.append l2
    refine op_catA pins s σ H _ _ v u Q I rx ry ⟨a, b, vs, ws, rfl, rfl, hs, hs2, hz.1, fun e1 => ?_, fun e1 e2 => ?_, fun _ _ p np => ?_⟩
    · refine q0 _ hz.2 _ (.tup hf2 ?_)
      subst e1
      exact l3
    · refine q0 _ hz.2 _ (.tup hf ?_)
      subst e2
      rw [List.append_nil] at l3
      exact l3
    · refine q _ _ (Stp.newF fh tap ntp np) _ ?_
      rw [hz.2]
      exact Rep.tup (F := upd F p (.tup (vs ++ ws))) (.inl (.inl upd_same)) (l3.same (Stp.newF (M := M) (o := .tup (vs ++ ws)) fh tap ntp np).ff)
  case add.lst.lst xs ys =>
    obtain ⟨a, vs, rfl, hs, l⟩ := hx.lst fh
    obtain ⟨b, ws, rfl, hs2, l2⟩ := hy.lst fh
    have hz : vs.length + ws.length ≤ sizeLine ∧ d = (.lst (xs ++ ys), .fr) := by
      simp only [op2] at e
      split at e
      · rename_i h; rw [l.length, l2.length]; exact ⟨h, (Option.some.inj e).symm⟩
      · cases e
    refine op_catS pins s σ H _ _ v u Q I rx ry ⟨a, b, vs, ws, rfl, rfl, hs, hs2, hz.1, fun p np => ?_⟩
    refine q _ _ (Stp.new_ fh tap ntp np) _ ?_
    rw [hz.2]
    exact ⟨p, rfl, Own.new_ fh tap np (.lst (l.append l2)), hn p np⟩
  case sub.int.int i j =>
    obtain ⟨rfl, _⟩ := hx.int
    obtain ⟨rfl, _⟩ := hy.int
    exact op_sub pins s σ H _ _ v u Q I rx ry ⟨i, j, rfl, rfl, q0 _ (Option.some.inj e).symm _ (.int _)⟩
  case mul.int.int i j =>
    obtain ⟨rfl, _⟩ := hx.int
    obtain ⟨rfl, _⟩ := hy.int
    simp only [op2] at e
    split at e
    · rename_i h
      rcases Bool.or_eq_true_iff.mp h with h | h
      · have hc : CMul i j := by
          rcases (by simpa using h : smallI i = true ∨ smallI j = true) with h | h
          · exact .inl (smallI_iff h)
          · exact .inr (smallI_iff h)
        exact op_mul pins s σ H _ _ v u Q I rx ry ⟨i, j, rfl, rfl, hc, q0 _ (Option.some.inj e).symm _ (.int _)⟩
      · exact op_mulW pins s σ H _ _ v u Q I rx ry ⟨i, j, rfl, rfl, (of_decide_eq_true (show decide (i.natAbs.log2 + j.natAbs.log2 < 1000000) = true from h) : _ < _), q0 _ (Option.some.inj e).symm _ (.int _)⟩
    · cases e
  case fdiv.int.int i j =>
    obtain ⟨rfl, _⟩ := hx.int
    obtain ⟨rfl, _⟩ := hy.int
    simp only [op2] at e
    split at e
    · rename_i h
      rcases Bool.or_eq_true_iff.mp h with h | h
      · have h2 := Bool.and_eq_true_iff.mp h
        exact op_fdivN pins s σ H _ _ v u Q I rx ry ⟨i, j, rfl, rfl, ⟨of_decide_eq_true h2.1, of_decide_eq_true h2.2⟩, q0 _ (Option.some.inj e).symm _ (.int _)⟩
      · have h2 := Bool.and_eq_true_iff.mp h
        have h0 : 0 < j := of_decide_eq_true h2.1
        refine op_fdivW pins s σ H _ _ v u Q I rx ry ⟨i, j, rfl, rfl, ⟨h0, of_decide_eq_true h2.2⟩, ?_⟩
        show Q (.int (i / j)) H
        rw [← Int.fdiv_eq_ediv_of_nonneg i (Int.le_of_lt h0)]
        exact q0 _ (Option.some.inj e).symm _ (.int _)
    · cases e
  case mod.int.int i j =>
    obtain ⟨rfl, _⟩ := hx.int
    obtain ⟨rfl, _⟩ := hy.int
    simp only [op2] at e
    split at e
    · rename_i h
      exact op_modN pins s σ H _ _ v u Q I rx ry ⟨i, j, rfl, rfl, of_decide_eq_true h, q0 _ (Option.some.inj e).symm _ (.int _)⟩
    · cases e
  case pow.int.int i j =>
    obtain ⟨rfl, _⟩ := hx.int
    obtain ⟨rfl, _⟩ := hy.int
    simp only [op2] at e
    split at e
    · rename_i h
      have h2 := Bool.and_eq_true_iff.mp h
      have h3 := Bool.and_eq_true_iff.mp h2.1
      exact op_pow pins s σ H _ _ v u Q I rx ry ⟨i, j, rfl, rfl, ⟨of_decide_eq_true h3.1, of_decide_eq_true h3.2, of_decide_eq_true h2.2⟩, q0 _ (Option.some.inj e).symm _ (.int _)⟩
    · cases e

/-- a comparison by data: a bool, the heap as it is -/
def rCm (M : Md T) (c : Cm) : R2 := fun x y H Q => ∃ (B : Addr → Prop) (H0 F : Hp) (dx dy : Dk) (b : Bool), Same F H ∧ VRep (M := M) B H0 F H x dx ∧ VRep (M := M) B H0 F H y dy ∧ cmpD c dx dy = some b ∧ Q (.bl b) H
theorem RepL.flatV {F : Hp} : True := trivial
theorem VRep.isN {B : Addr → Prop} {H0 F H : Hp} {v : V} {d : D} {k : Kd} (h : VRep (M := M) B H0 F H v (d, k)) : decide (v = .non) = isNon d := by
  cases k with
  | fz => cases (show Rep M F v d from h) <;> rfl
  | fr => obtain ⟨a, rfl, ⟨_, _, o, q, c⟩, _⟩ := h; cases c <;> rfl
  | br => obtain ⟨a, rfl, ⟨_, _, o, q, c⟩, _⟩ := h; cases c <;> rfl
theorem eqD_some {a b : D} {r : Bool} (h : eqD a b = some r) : ∃ p q, toPy a = some p ∧ toPy b = some q ∧ SeqAt.shaped p = true ∧ SeqAt.shaped q = true ∧ r = PyData.eqv p q := by
  unfold eqD at h
  split at h
  · rename_i p q e1 e2
    split at h
    · rename_i g
      obtain ⟨g1, g2⟩ := Bool.and_eq_true_iff.mp g
      exact ⟨p, q, e1, e2, g1, g2, (Option.some.inj h).symm⟩
    · cases h
  · cases h
theorem op_cmD (hK : M.K = X.K) (hu : X.A.units + 65 < cLine) (c : Cm) (hnin : c ≠ .isin ∧ c ≠ .notin) : OpR X (compareOp c.op) (rCm M c) := by
  intro pins s σ H x y v u Q I rx ry h
  obtain ⟨B, H0, F, ⟨dx, kx⟩, ⟨dy, ky⟩, b, fh, hx, hy, e, q⟩ := h
  have int2 : (c = .lt ∨ c = .le ∨ c = .gt ∨ c = .ge) → ∃ i j, dx = .int i ∧ dy = .int j ∧ ltI c i j = some b := fun hc => by
    rcases hc with rfl | rfl | rfl | rfl <;> cases dx <;> (try (exfalso; revert e; simp [cmpD]; done)) <;> cases dy <;> (try (exfalso; revert e; simp [cmpD]; done)) <;> exact ⟨_, _, rfl, rfl, e⟩
  cases c with
  | eq =>
    obtain ⟨p, r, e1, e2, s1, s2, rfl⟩ := eqD_some (show eqD dx dy = some b from e)
    have h1 := hx.dp fh e1
    have h2 := hy.dp fh e2
    rw [hK] at h1 h2
    exact op_eqD (by omega) pins s σ H x y v u Q I rx ry ⟨p, r, h1, h2, s1, s2, q⟩
  | ne =>
    have e' : (eqD dx dy).map (!·) = some b := e
    obtain ⟨b', e'', rfl⟩ := Option.map_eq_some_iff.mp e'
    obtain ⟨p, r, e1, e2, s1, s2, rfl⟩ := eqD_some e''
    have h1 := hx.dp fh e1
    have h2 := hy.dp fh e2
    rw [hK] at h1 h2
    exact op_neD (by omega) pins s σ H x y v u Q I rx ry ⟨p, r, h1, h2, s1, s2, q⟩
  | lt =>
    obtain ⟨i, j, rfl, rfl, e⟩ := int2 (by simp)
    obtain ⟨rfl, _⟩ := hx.int
    obtain ⟨rfl, _⟩ := hy.int
    cases e
    exact op_lt pins s σ H _ _ v u Q I rx ry ⟨i, j, rfl, rfl, q⟩
  | le =>
    obtain ⟨i, j, rfl, rfl, e⟩ := int2 (by simp)
    obtain ⟨rfl, _⟩ := hx.int
    obtain ⟨rfl, _⟩ := hy.int
    cases e
    exact op_le pins s σ H _ _ v u Q I rx ry ⟨i, j, rfl, rfl, q⟩
  | gt =>
    obtain ⟨i, j, rfl, rfl, e⟩ := int2 (by simp)
    obtain ⟨rfl, _⟩ := hx.int
    obtain ⟨rfl, _⟩ := hy.int
    cases e
    exact op_gt pins s σ H _ _ v u Q I rx ry ⟨i, j, rfl, rfl, q⟩
  | ge =>
    obtain ⟨i, j, rfl, rfl, e⟩ := int2 (by simp)
    obtain ⟨rfl, _⟩ := hx.int
    obtain ⟨rfl, _⟩ := hy.int
    cases e
    exact op_ge pins s σ H _ _ v u Q I rx ry ⟨i, j, rfl, rfl, q⟩
  | is =>
    by_cases hn : dy = .non
    · subst hn
      obtain ⟨rfl, _⟩ := hy.non
      have eb : b = decide (x = .non) := by
        rw [hx.isN]
        exact (Option.some.inj (show some _ = some b from e)).symm
      refine op_isN pins s σ H _ _ v u Q I rx ry ⟨rfl, ?_⟩
      rw [← eb]
      exact q
    · cases dx <;> cases dy <;> (try (exfalso; revert e; simp [cmpD, ltI]; done)) <;> (try exact absurd rfl hn)
      obtain ⟨rfl, _⟩ := hx.bl
      obtain ⟨rfl, _⟩ := hy.bl
      have eb := Option.some.inj (show some _ = some b from e)
      refine op_is_bl pins s σ H _ _ v u Q I rx ry ⟨_, _, rfl, rfl, ?_⟩
      rw [eb]
      exact q
  | isnot =>
    by_cases hn : dy = .non
    · subst hn
      obtain ⟨rfl, _⟩ := hy.non
      have eb : b = !decide (x = .non) := by
        rw [hx.isN]
        exact (Option.some.inj (show some _ = some b from e)).symm
      refine op_notN pins s σ H _ _ v u Q I rx ry ⟨rfl, ?_⟩
      rw [← eb]
      exact q
    · cases dx <;> cases dy <;> (try (exfalso; revert e; simp [cmpD, ltI]; done)) <;> (try exact absurd rfl hn)
      obtain ⟨rfl, _⟩ := hx.bl
      obtain ⟨rfl, _⟩ := hy.bl
      have eb := Option.some.inj (show some _ = some b from e)
      refine op_isnot_bl pins s σ H _ _ v u Q I rx ry ⟨_, _, rfl, rfl, ?_⟩
      rw [eb]
      exact q
  | isin => exact absurd rfl hnin.1
  | notin => exact absurd rfl hnin.2
end
end DE
set_option maxHeartbeats 1000000
/-! DE5: in, indexes, slices, built-in functions, isinstance by data. -/
namespace DE
open PySem PySem.Spec PyProof.Rows L2

section
variable {T : Type} {M : Md T} {X : Cx}

/-! ### in -/
theorem inD_some {x : D} {xs : List D} {b : Bool} (h : inD x xs = some b) : ∃ p ps, toPy x = some p ∧ toPyL xs = some ps ∧ SeqAt.shaped p = true ∧ SeqAt.shaped (.list ps) = true ∧ b = ps.any fun z => PyData.eqv z p := by
  unfold inD at h
  split at h
  · rename_i p ps e1 e2
    split at h
    · rename_i g
      obtain ⟨g1, g2⟩ := Bool.and_eq_true_iff.mp g
      exact ⟨p, ps, e1, e2, g1, g2, (Option.some.inj h).symm⟩
    · cases h
  · cases h
theorem flatV_of {F : Hp} {v : V} {d : D} (h : Rep M F v d) (f : flat d = true) : flatV v = true := by
  cases h <;> first | rfl | (exfalso; revert f; simp [flat]; done)
theorem flatV_all {F : Hp} : ∀ {vs : List V} {ds : List D}, RepL M F vs ds → ds.all flat = true → vs.all flatV = true
  | _, _, .nil, _ => rfl
  | _, _, .cons h l, f => by
    rw [List.all_cons, Bool.and_eq_true] at f
    rw [List.all_cons, flatV_of h f.1, flatV_all l f.2]
    rfl
theorem eqV_of {F : Hp} {v w : V} {d e : D} {p q : PyData} (h : Rep M F v d) (h2 : Rep M F w e) (f : flat d = true) (f2 : flat e = true) (e1 : toPy d = some p) (e2 : toPy e = some q) : eqV v w = PyData.eqv p q := by
  cases h <;> (try (exfalso; revert f; simp [flat]; done)) <;> cases h2 <;> (try (exfalso; revert f2; simp [flat]; done)) <;> cases e1 <;> cases e2 <;> first | rfl | (simp [eqV, PyData.eqv]; done)
theorem inV_of {F : Hp} {v : V} {d : D} {p : PyData} (h : Rep M F v d) (f : flat d = true) (e1 : toPy d = some p) : ∀ {vs : List V} {ds : List D} {ps : List PyData}, RepL M F vs ds → ds.all flat = true → toPyL ds = some ps → inV v vs = ps.any fun z => PyData.eqv z p
  | _, _, ps, .nil, _, e => by
    have e1 : some ([] : List PyData) = some ps := by simpa [toPyL] using e
    cases e1
    rfl
  | _, x :: xs, ps, .cons q l, g, e => by
    rw [List.all_cons, Bool.and_eq_true] at g
    unfold toPyL at e
    split at e
    · rename_i p1 p2 e3 e4
      cases e
      have := inV_of h f e1 l g.2 e4
      unfold inV at this ⊢
      rw [List.any_cons, List.any_cons, this, eqV_of q h g.1 f e3 e1]
    · cases e
theorem keyEq_k (k j : Key) : keyEq (keyD k) (keyD j) = decide (k = j) := by
  cases k with
  | inl a => cases j with
    | inl b =>
      show decide (a = b) = _
      by_cases e : a = b
      · subst e; simp
      · rw [decide_eq_false e, decide_eq_false (fun q => e (Sum.inl.inj q))]
    | inr b => exact (decide_eq_false (fun q => nomatch q)).symm
  | inr a => cases j with
    | inl b => exact (decide_eq_false (fun q => nomatch q)).symm
    | inr b =>
      show decide (a = b) = _
      by_cases e : a = b
      · subst e; simp
      · rw [decide_eq_false e, decide_eq_false (fun q => e (Sum.inr.inj q))]
/-- a key's value, where the dict's keys are ints and texts -/
theorem RepK.get {F : Hp} (k : Key) : ∀ {kvs : List (Key × V)} {ds : List (D × D)}, RepK M F kvs ds → (∀ d, dget ds (keyD k) = some d → ∃ v, valV kvs k = some v ∧ Rep M F v d) ∧ (dget ds (keyD k) = none → valV kvs k = none)
  | _, _, .nil => ⟨fun d h => by simp [dget] at h, fun _ => rfl⟩
  | _, _, .cons (k := j) h l => by
    have ih := RepK.get k l
    by_cases e : j = k
    · subst e
      have e1 : keyEq (keyD j) (keyD j) = true := by rw [keyEq_k]; simp
      refine ⟨fun d q => ?_, fun q => ?_⟩
      · simp only [dget, List.find?_cons, e1, Option.map_some] at q
        cases q
        exact ⟨_, valV_pos rfl, h⟩
      · simp [dget, List.find?_cons, e1] at q
    · have e1 : keyEq (keyD j) (keyD k) = false := by rw [keyEq_k]; exact decide_eq_false e
      refine ⟨fun d q => ?_, fun q => ?_⟩
      · rw [valV_neg (by exact e)]
        refine ih.1 d ?_
        simpa only [dget, List.find?_cons, e1] using q
      · rw [valV_neg (by exact e)]
        refine ih.2 ?_
        simpa only [dget, List.find?_cons, e1] using q
theorem keyOk_k {F : Hp} {v : V} {d : D} (h : Rep M F v d) (o : keyOk d = true) : ∃ k : Key, v = kV k ∧ d = keyD k := by
  cases h <;> (try (exfalso; revert o; simp [keyOk]; done))
  · exact ⟨.inl _, rfl, rfl⟩
  · exact ⟨.inr _, rfl, rfl⟩
theorem VRep.fzKey {B : Addr → Prop} {H0 F H : Hp} {v : V} {d : D} {k : Kd} (h : VRep (M := M) B H0 F H v (d, k)) (o : keyOk d = true ∨ flat d = true) : Rep M F v d := by
  have n : ∀ (z : HO), ¬ Cont (M := M) F z d := fun z c => by
    cases c <;> rcases o with o | o <;> (revert o; simp [keyOk, flat])
  cases k with
  | fz => exact h
  | fr => obtain ⟨a, e, ⟨_, _, o, q, c⟩, _⟩ := h; exact absurd c (n _)
  | br => obtain ⟨a, e, ⟨_, _, o, q, c⟩, _⟩ := h; exact absurd c (n _)
/-- a dict's content -/
theorem VRep.dct {B : Addr → Prop} {H0 F H : Hp} {v : V} {ds : List (D × D)} {k : Kd} (s : Same F H) (h : VRep (M := M) B H0 F H v (.dct false ds, k)) : ∃ a kvs, v = .ref a ∧ Rd H a (.dK kvs) ∧ RepK M F kvs ds := by
  rcases h.rep s with h | ⟨a, o, e, q, c⟩
  · cases h with
    | dK hs l => exact ⟨_, _, rfl, Rd.same s hs, l⟩
  · cases c with
    | dK l => exact ⟨_, _, e, .inl q, l⟩
theorem VRep.dctT {B : Addr → Prop} {H0 F H : Hp} {v : V} {ds : List (D × D)} {k : Kd} (s : Same F H) (h : VRep (M := M) B H0 F H v (.dct true ds, k)) : ∃ a kvs, v = .ref a ∧ H a = some (.dT kvs) ∧ RepKT M F kvs ds := by
  rcases h.rep s with h | ⟨a, o, e, q, c⟩
  · cases h with
    | dT hs l => exact ⟨_, _, rfl, s _ _ hs, l⟩
  · cases c with
    | dT l => exact ⟨_, _, e, q, l⟩
/-! ### an index -/
theorem atI_rep {F : Hp} {vs : List V} {ds : List D} {i : Int} {d : D} (l : RepL M F vs ds) (e : atD ds i = some d) : ∃ v, atI vs i = some v ∧ Rep M F v d := by
  unfold atD atI at e
  unfold atI
  rw [l.length]
  cases q : ixN ds.length i with
  | none => rw [q] at e; cases e
  | some n =>
    rw [q] at e
    obtain ⟨v, e1, r⟩ := l.get' (show ds[n]? = some d from e)
    exact ⟨v, e1, r⟩
def rIdx (M : Md T) : R2 := fun x y H Q => ∃ (B : Addr → Prop) (H0 F : Hp) (dx dy : Dk) (d : D), Same F H ∧ VRep (M := M) B H0 F H x dx ∧ VRep (M := M) B H0 F H y dy ∧ idxD dx dy = some d ∧ ∀ v, Rep M F v d → Q v H
theorem ix_dict (hu : X.A.units + 1 < cLine) : IxR X (fun x y H Q => ∃ a v, x = .ref a ∧ DGet H a y (some v) ∧ Q v H) := by
  intro value slice pins s σ H x y v u Q I rx ry h hs
  obtain ⟨a, z, rfl, g, q⟩ := h
  obtain rfl : v = Value.ref a := rx
  have hT := dict_typeIs I g
  have h2 := d_getItem (Q := EP X pins σ Q) (E := X.xe) hu I g ry fun w' s3 I3 rw' => ⟨z, H, I3, rw', q⟩
  unfold subscriptTail
  refine wpAny_bind ?_
  rw [getitemInPython_of_ne hT.not_modules]
  refine wpAny_bind (wpAny_specialOf hT PySem.F.slot_dict_getitem.lookup ?_)
  have fin : wpAny (model X.prog X.w) X.A (subscripted slice false (.ref a) u) (fun r s₃ => wpAny (model X.prog X.w) X.A (letTemporaryGo value (.ref a) r >>= fun _ => pure r) (EP X pins σ Q) X.xe s₃) X.xe s := by
    rw [hs]
    exact wpAny_operating (wpAny_mono h2 (fun r s₃ h₃ => wpAny_bind (wpAny_letTemporaryGo (wpAny_pure h₃))) fun _ _ x => x)
  first
    | exact wpAny_pure (wpAny_bind fin)
    | exact wpAny_bind fin
theorem ix_data (hK : M.K = X.K) (hu : X.A.units + 1 < cLine) : IxR X (rIdx M) := by
  intro value slice pins s σ H x y v u Q I rx ry h hs
  obtain ⟨B, H0, F, ⟨dx, kx⟩, ⟨dy, ky⟩, d, fh, hx, hy, e, q⟩ := h
  cases dx <;> (try (exfalso; revert e; simp [idxD]; done))
  case tup xs =>
    cases dy <;> (try (exfalso; revert e; simp [idxD]; done))
    obtain ⟨rfl, _⟩ := hy.int
    obtain ⟨a, vs, rfl, hs1, _, l, _⟩ := hx.tup fh
    obtain ⟨w, e1, r⟩ := atI_rep l e
    rw [hK] at hs1
    exact ix_tup value slice pins s σ H _ _ v u Q I rx ry ⟨a, vs, _, w, rfl, rfl, hs1, e1, q w r⟩ hs
  case lst xs =>
    cases dy <;> (try (exfalso; revert e; simp [idxD]; done))
    obtain ⟨rfl, _⟩ := hy.int
    obtain ⟨a, vs, rfl, hs1, l⟩ := hx.lst fh
    obtain ⟨w, e1, r⟩ := atI_rep l e
    exact ix_list value slice pins s σ H _ _ v u Q I rx ry ⟨a, vs, _, w, rfl, rfl, .inl hs1, e1, q w r⟩ hs
  case dct tk kvs =>
    cases tk <;> (try (exfalso; revert e; simp [idxD]; done))
    simp only [idxD] at e
    split at e
    · rename_i ok
      obtain ⟨a, kw, rfl, h1, l⟩ := hx.dct fh
      obtain ⟨k, rfl, rfl⟩ := keyOk_k (hy.fzKey (.inl ok)) ok
      obtain ⟨w, e1, r⟩ := (l.get k).1 d e
      exact ix_dict hu value slice pins s σ H _ _ v u Q I rx ry ⟨a, w, rfl, .inl ⟨kw, k, h1, rfl, e1.symm⟩, q w r⟩ hs
    · cases e

/-! ### a slice -/
theorem cutV_rep {F : Hp} {vs : List V} {ds : List D} (lo hi : Option Int) (l : RepL M F vs ds) : RepL M F (cutV vs lo hi) (cutD ds lo hi) := by
  unfold cutV cutD
  rw [l.length]
  exact (l.drop _).take _
def rSlD (M : Md T) : V → Option Int → Option Int → Hp → VK → Prop := fun x lo hi H Q => ∃ (B : Addr → Prop) (H0 F : Hp) (t : T) (dx d : Dk), Same F H ∧ M.tp.At H t ∧ (∀ a, M.tp.own a → F a = none) ∧ (∀ p, H p = none → H0 p = none) ∧ VRep (M := M) B H0 F H x dx ∧ slcD dx lo hi = some d ∧
  ∀ F' H', Stp M F H F' H' t → ∀ v, VRep (M := M) B H0 F' H' v d → Q v H'
theorem sl_data (hK : M.K = X.K) : SlR X (rSlD M) := by
  intro pins s σ H x v vl vu lo hi sl Q I rx hs pl pu h
  obtain ⟨B, H0, F, t, ⟨dx, kx⟩, d, fh, tap, ntp, hn, hx, e, q⟩ := h
  cases dx <;> (try (exfalso; revert e; simp [slcD]; done))
  case tup xs =>
    cases kx <;> (try (exfalso; revert e; simp [slcD]; done))
    obtain ⟨a, vs, rfl, hs1, hf, l, _⟩ := hx.tup fh
    rw [hK] at hs1
    have e1 : d = (.tup (cutD xs lo hi), .fz) := (Option.some.inj e).symm
    have l2 := cutV_rep lo hi l
    refine sl_tupA pins s σ H _ v vl vu lo hi sl Q I rx hs pl pu ⟨a, vs, rfl, hs1, fun hw => ?_, fun _ p np => ?_⟩
    · refine q F H (.refl fh tap ntp) _ ?_
      rw [e1]
      have e2 : cutD xs lo hi = xs := by
        have h1 := hw.1
        have h2 := hw.2
        rw [l.length] at h1 h2
        simp only [cutD]
        rw [h1, h2]
        simp
      rw [e2]
      exact hx
    · refine q _ _ (Stp.newF fh tap ntp np) _ ?_
      rw [e1]
      exact Rep.tup (F := upd F p (.tup (cutV vs lo hi))) (.inl (.inl upd_same)) (l2.same (Stp.newF (M := M) (o := .tup (cutV vs lo hi)) fh tap ntp np).ff)
  case lst xs =>
    obtain ⟨a, vs, rfl, hs1, l⟩ := hx.lst fh
    have e1 : d = (.lst (cutD xs lo hi), .fr) := by
      cases kx <;> exact (Option.some.inj e).symm
    refine sl_list pins s σ H _ v vl vu lo hi sl Q I rx hs pl pu ⟨a, vs, rfl, .inl hs1, fun p np => ?_⟩
    refine q _ _ (Stp.new_ fh tap ntp np) _ ?_
    rw [e1]
    exact ⟨p, rfl, Own.new_ fh tap np (.lst (cutV_rep lo hi l)), hn p np⟩

/-! ### built-in functions -/
def BI.fv : BI → Value
  | .len => .builtin "len" | .abs => .builtin "abs" | .min => .builtin "min" | .max => .builtin "max" | .sum => .builtin "sum" | .all => .builtin "all" | .any => .builtin "any"
  | .int => .type "int" | .list => .type "list" | .tuple => .type "tuple" | .sorted => .builtin "sorted" | .repr => .builtin "repr" | .divmod => .builtin "divmod" | .str => .type "str" | .set => .type "set" | .dict => .type "dict"
def BI.nm : BI → Str
  | .len => "len" | .abs => "abs" | .min => "min" | .max => "max" | .sum => "sum" | .all => "all" | .any => "any"
  | .int => "int" | .list => "list" | .tuple => "tuple" | .sorted => "sorted" | .repr => "repr" | .divmod => "divmod" | .str => "str" | .set => "set" | .dict => "dict"
def rBi (M : Md T) (k : BI) : List V → Hp → VK → Prop := fun vs H Q => ∃ (B : Addr → Prop) (H0 F : Hp) (t : T) (ds : List Dk) (d : Dk), Same F H ∧ M.tp.At H t ∧ (∀ a, M.tp.own a → F a = none) ∧ (∀ p, H p = none → H0 p = none) ∧ VRepL (M := M) B H0 F H vs ds ∧ biD k ds = some d ∧
  ∀ F' H', Stp M F H F' H' t → ∀ v, VRep (M := M) B H0 F' H' v d → Q v H'
theorem intsOf_rep {F : Hp} : ∀ {vs : List V} {ds : List D} {ns : List Int}, RepL M F vs ds → intsOf ds = some ns → vs = ns.map V.int
  | _, _, ns, .nil, e => by
    have e1 : some ([] : List Int) = some ns := e
    cases e1; rfl
  | _, _, ns, .cons (d := d) h l, e => by
    cases h <;> (try (exfalso; revert e; simp [intsOf]; done))
    rename_i i
    obtain ⟨r, e1, rfl⟩ := Option.map_eq_some_iff.mp (show (intsOf _).map (i :: ·) = some ns from e)
    rw [intsOf_rep l e1]
    rfl
theorem boolsOf_rep {F : Hp} : ∀ {vs : List V} {ds : List D} {ns : List Bool}, RepL M F vs ds → boolsOf ds = some ns → vs = ns.map V.bl
  | _, _, ns, .nil, e => by
    have e1 : some ([] : List Bool) = some ns := e
    cases e1; rfl
  | _, _, ns, .cons (d := d) h l, e => by
    cases h <;> (try (exfalso; revert e; simp [boolsOf]; done))
    rename_i i
    obtain ⟨r, e1, rfl⟩ := Option.map_eq_some_iff.mp (show (boolsOf _).map (i :: ·) = some ns from e)
    rw [boolsOf_rep l e1]
    rfl
/-! ### in, by data -/
theorem op_din (hu : X.A.units + 1 < cLine) : OpR X (compareOp .In) (fun y x H Q => ∃ a o, x = .ref a ∧ DGet H a y o ∧ Q (.bl o.isSome) H) := by
  intro pins s σ H y x iv u Q I ry rx h
  obtain ⟨a, o, rfl, g, q⟩ := h
  obtain rfl : u = Value.ref a := rx
  exact d_in hu I g ry fun s3 I3 => ⟨.bl o.isSome, H, I3, rfl, q⟩
theorem op_dnotin (hu : X.A.units + 1 < cLine) : OpR X (compareOp .NotIn) (fun y x H Q => ∃ a o, x = .ref a ∧ DGet H a y o ∧ Q (.bl (!o.isSome)) H) := by
  intro pins s σ H y x iv u Q I ry rx h
  obtain ⟨a, o, rfl, g, q⟩ := h
  obtain rfl : u = Value.ref a := rx
  exact d_notIn hu I g ry fun s3 I3 => ⟨.bl (!o.isSome), H, I3, rfl, q⟩
theorem dget_some {F : Hp} {k : Key} {kw : List (Key × V)} {ds : List (D × D)} (l : RepK M F kw ds) : (valV kw k).isSome = (dget ds (keyD k)).isSome := by
  cases q : dget ds (keyD k) with
  | none => rw [(l.get k).2 q]; rfl
  | some d =>
    obtain ⟨w, e1, _⟩ := (l.get k).1 d q
    rw [e1]
    rfl
/-- in, not in: the answer by data -/
theorem op_inC (hK : M.K = X.K) (hu : X.A.units + 65 < cLine) (neg : Bool) : OpR X (compareOp (if neg then .NotIn else .In)) (rCm M (if neg then .notin else .isin)) := by
  intro pins s σ H x y v u Q I rx ry h
  obtain ⟨B, H0, F, ⟨dx, kx⟩, ⟨dy, ky⟩, b, fh, hx, hy, e, q⟩ := h
  have key : ∃ c : Bool, b = (if neg then !c else c) ∧ ((∃ xs, dy = .lst xs ∧ inD dx xs = some c) ∨ (∃ xs, dy = .tup xs ∧ flat dx = true ∧ xs.all flat = true ∧ inD dx xs = some c) ∨ ∃ kvs, dy = .dct false kvs ∧ keyOk dx = true ∧ c = (dget kvs dx).isSome) := by
    cases neg with
    | false =>
      refine ⟨b, rfl, ?_⟩
      cases dy <;> (try (exfalso; revert e; cases dx <;> simp [cmpD]; done))
      case lst xs => exact .inl ⟨xs, rfl, by cases dx <;> exact e⟩
      case tup xs =>
        have e1 : (if flat dx && xs.all flat then inD dx xs else none) = some b := by cases dx <;> exact e
        split at e1
        · rename_i g
          obtain ⟨g1, g2⟩ := Bool.and_eq_true_iff.mp g
          exact .inr (.inl ⟨xs, rfl, g1, g2, e1⟩)
        · cases e1
      case dct tk kvs =>
        cases tk <;> (try (exfalso; revert e; cases dx <;> simp [cmpD]; done))
        have e1 : (if keyOk dx then some (dget kvs dx).isSome else none) = some b := by cases dx <;> exact e
        split at e1
        · rename_i g
          exact .inr (.inr ⟨kvs, rfl, g, (Option.some.inj e1).symm⟩)
        · cases e1
    | true =>
      cases dy <;> (try (exfalso; revert e; cases dx <;> simp [cmpD]; done))
      case lst xs =>
        have e1 : (inD dx xs).map (!·) = some b := by cases dx <;> exact e
        obtain ⟨c, e2, rfl⟩ := Option.map_eq_some_iff.mp e1
        exact ⟨c, rfl, .inl ⟨xs, rfl, e2⟩⟩
      case tup xs =>
        have e1 : (if flat dx && xs.all flat then (inD dx xs).map (!·) else none) = some b := by cases dx <;> exact e
        split at e1
        · rename_i g
          obtain ⟨g1, g2⟩ := Bool.and_eq_true_iff.mp g
          obtain ⟨c, e2, rfl⟩ := Option.map_eq_some_iff.mp e1
          exact ⟨c, rfl, .inr (.inl ⟨xs, rfl, g1, g2, e2⟩)⟩
        · cases e1
      case dct tk kvs =>
        cases tk <;> (try (exfalso; revert e; cases dx <;> simp [cmpD]; done))
        have e1 : (if keyOk dx then some (!(dget kvs dx).isSome) else none) = some b := by cases dx <;> exact e
        split at e1
        · rename_i g
          exact ⟨_, (Option.some.inj e1).symm, .inr (.inr ⟨kvs, rfl, g, rfl⟩)⟩
        · cases e1
  obtain ⟨c, rfl, h1⟩ := key
  rcases h1 with ⟨xs, rfl, e1⟩ | ⟨xs, rfl, f1, f2, e1⟩ | ⟨kvs, rfl, ok, rfl⟩
  · obtain ⟨p, ps, p1, p2, s1, s2, rfl⟩ := inD_some e1
    have d1 := hx.dp fh p1
    have d2 := hy.dp fh (show toPy (.lst xs) = some (.list ps) by simp [toPy, p2])
    rw [hK] at d1 d2
    cases neg with
    | false => exact op_inD hu pins s σ H x y v u Q I rx ry ⟨p, ps, d1, d2, s1, s2, q⟩
    | true => exact op_notInD hu pins s σ H x y v u Q I rx ry ⟨p, ps, d1, d2, s1, s2, q⟩
  · obtain ⟨p, ps, p1, p2, s1, s2, rfl⟩ := inD_some e1
    obtain ⟨a, vs, rfl, hs1, _, l, _⟩ := hy.tup fh
    have hx' := hx.fzKey (.inr f1)
    rw [hK] at hs1
    have ev := inV_of hx' f1 p1 l f2 p2
    cases neg with
    | false => exact op_in_seq pins s σ H _ _ v u Q I rx ry ⟨a, vs, rfl, .inr hs1, flatV_of hx' f1, flatV_all l f2, by rw [ev]; exact q⟩
    | true => exact op_notIn_seq pins s σ H _ _ v u Q I rx ry ⟨a, vs, rfl, .inr hs1, flatV_of hx' f1, flatV_all l f2, by rw [ev]; exact q⟩
  · obtain ⟨a, kw, rfl, h1, l⟩ := hy.dct fh
    obtain ⟨k, rfl, rfl⟩ := keyOk_k (hx.fzKey (.inl ok)) ok
    have eo := dget_some (k := k) l
    cases neg with
    | false => exact op_din (by omega) pins s σ H _ _ v u Q I rx ry ⟨a, _, rfl, .inl ⟨kw, k, h1, rfl, rfl⟩, by rw [eo]; exact q⟩
    | true => exact op_dnotin (by omega) pins s σ H _ _ v u Q I rx ry ⟨a, _, rfl, .inl ⟨kw, k, h1, rfl, rfl⟩, by rw [eo]; exact q⟩
theorem op_cmAll (hK : M.K = X.K) (hu : X.A.units + 65 < cLine) (c : Cm) : OpR X (compareOp c.op) (rCm M c) := by
  by_cases h1 : c = .isin
  · subst h1; exact op_inC hK hu false
  · by_cases h2 : c = .notin
    · subst h2; exact op_inC hK hu true
    · exact op_cmD hK hu c ⟨h1, h2⟩
/-! ### built-in functions by data -/
theorem vr1 {B : Addr → Prop} {H0 F H : Hp} {vs : List V} {d : Dk} (h : VRepL (M := M) B H0 F H vs [d]) : ∃ v, vs = [v] ∧ VRep (M := M) B H0 F H v d := by
  cases h with
  | cons h t => cases t; exact ⟨_, rfl, h⟩
theorem vr2 {B : Addr → Prop} {H0 F H : Hp} {vs : List V} {d e : Dk} (h : VRepL (M := M) B H0 F H vs [d, e]) : ∃ v w, vs = [v, w] ∧ VRep (M := M) B H0 F H v d ∧ VRep (M := M) B H0 F H w e := by
  cases h with
  | cons h t =>
    obtain ⟨w, rfl, h2⟩ := vr1 t
    exact ⟨_, w, rfl, h, h2⟩
theorem biD_len {ds : List Dk} {d : Dk} {k : BI} (h : biD k ds = some d) : (∃ x, ds = [x]) ∨ ∃ x y, ds = [x, y] := by
  match ds, h with
  | [], h => cases k <;> simp [biD] at h
  | [x], _ => exact .inl ⟨x, rfl⟩
  | [x, y], _ => exact .inr ⟨x, y, rfl⟩
  | x :: y :: z :: r, h => cases k <;> simp [biD] at h
theorem bi_data (hK : M.K = X.K) (hc : X.calm = true) (k : BI) : CallR X k.fv (rBi M k) := by
  intro pins s σ H xs us Q I r h
  obtain ⟨B, H0, F, t, ds, d, fh, tap, ntp, hn, hv, e, q⟩ := h
  have q0 : ∀ z : D, d = (z, Kd.fz) → ∀ w, Rep M F w z → Q w H := fun z ez w r => q F H (.refl fh tap ntp) w (by rw [ez]; exact r)
  rcases biD_len e with ⟨⟨dx, kx⟩, rfl⟩ | ⟨⟨dx, kx⟩, ⟨dy, ky⟩, rfl⟩
  · obtain ⟨x, rfl, hx⟩ := vr1 hv
    cases k <;> cases dx <;> (try (exfalso; revert e; simp [biD]; done))
    case len.str z =>
      obtain ⟨rfl, _⟩ := hx.str
      simp only [biD] at e
      split at e
      · rename_i g
        exact call_len_str pins s σ H _ us Q I r ⟨z, rfl, g, q0 _ (Option.some.inj e).symm _ (.int _)⟩
      · cases e
    case len.tup ys =>
      obtain ⟨a, vs, rfl, hs, _, l, _⟩ := hx.tup fh
      rw [hK] at hs
      refine call_len_seq pins s σ H _ us Q I r ⟨a, vs, rfl, .inr hs, q0 _ (Option.some.inj (show some _ = some d from e)).symm _ ?_⟩
      rw [l.length]
      exact .int _
    case len.lst ys =>
      obtain ⟨a, vs, rfl, hs, l⟩ := hx.lst fh
      refine call_len_seq pins s σ H _ us Q I r ⟨a, vs, rfl, .inl (.inl hs), q0 _ (Option.some.inj (show some _ = some d from e)).symm _ ?_⟩
      rw [l.length]
      exact .int _
    case len.scr ys =>
      obtain ⟨a, vs, rfl, hs, _, l, _⟩ := hx.scr fh
      rw [hK] at hs
      refine call_len_seq pins s σ H _ us Q I r ⟨a, vs, rfl, .inl hs, q0 _ (Option.some.inj (show some _ = some d from e)).symm _ ?_⟩
      rw [l.length]
      exact .int _
    case abs.int i =>
      obtain ⟨rfl, _⟩ := hx.int
      exact call_abs pins s σ H _ us Q I r ⟨i, rfl, q0 _ (Option.some.inj (show some _ = some d from e)).symm _ (.int _)⟩
    case sum.lst ys =>
      obtain ⟨a, vs, rfl, hs, l⟩ := hx.lst fh
      obtain ⟨ns, e1, e2⟩ := Option.map_eq_some_iff.mp (show (intsOf ys).map (fun ns => (D.int ns.sum, Kd.fz)) = some d from e)
      have ev := intsOf_rep l e1
      subst ev
      exact cr_sum hc pins s σ H _ us Q I r ⟨a, ns, rfl, .inl hs, q0 _ e2.symm _ (.int _)⟩
    case all.lst ys =>
      obtain ⟨a, vs, rfl, hs, l⟩ := hx.lst fh
      obtain ⟨ns, e1, e2⟩ := Option.map_eq_some_iff.mp (show (boolsOf ys).map (fun bs => (D.bl (bs.all id), Kd.fz)) = some d from e)
      have ev := boolsOf_rep l e1
      subst ev
      exact cr_all hc pins s σ H _ us Q I r ⟨a, ns, rfl, .inl hs, q0 _ e2.symm _ (.bl _)⟩
    case any.lst ys =>
      obtain ⟨a, vs, rfl, hs, l⟩ := hx.lst fh
      obtain ⟨ns, e1, e2⟩ := Option.map_eq_some_iff.mp (show (boolsOf ys).map (fun bs => (D.bl (bs.any id), Kd.fz)) = some d from e)
      have ev := boolsOf_rep l e1
      subst ev
      exact cr_any hc pins s σ H _ us Q I r ⟨a, ns, rfl, .inl hs, q0 _ e2.symm _ (.bl _)⟩
    case int.bl b =>
      obtain ⟨rfl, _⟩ := hx.bl
      exact call_int1 pins s σ H _ us Q I r (.inr ⟨b, rfl, q0 _ (Option.some.inj (show some _ = some d from e)).symm _ (.int _)⟩)
    case int.int i =>
      obtain ⟨rfl, _⟩ := hx.int
      exact call_int1 pins s σ H _ us Q I r (.inl ⟨i, rfl, q0 _ (Option.some.inj (show some _ = some d from e)).symm _ (.int _)⟩)
    case list.tup ys =>
      obtain ⟨a, vs, rfl, hs, _, l, _⟩ := hx.tup fh
      rw [hK] at hs
      have e1 : d = (.lst ys, .fr) := (Option.some.inj (show some _ = some d from e)).symm
      refine call_list_of pins s σ H _ us Q I r ⟨a, vs, rfl, .inr hs, fun p np => q _ _ (Stp.new_ fh tap ntp np) _ ?_⟩
      rw [e1]
      exact ⟨p, rfl, Own.new_ fh tap np (.lst l), hn p np⟩
    case list.lst ys =>
      obtain ⟨a, vs, rfl, hs, l⟩ := hx.lst fh
      have e1 : d = (.lst ys, .fr) := (Option.some.inj (show some _ = some d from e)).symm
      refine call_list_of pins s σ H _ us Q I r ⟨a, vs, rfl, .inl (.inl hs), fun p np => q _ _ (Stp.new_ fh tap ntp np) _ ?_⟩
      rw [e1]
      exact ⟨p, rfl, Own.new_ fh tap np (.lst l), hn p np⟩
    case tuple.tup ys =>
      cases kx <;> (try (exfalso; revert e; simp [biD]; done))
      obtain ⟨a, vs, rfl, hs, hf, l, _⟩ := hx.tup fh
      rw [hK] at hs
      exact call_tuple_of pins s σ H _ us Q I r ⟨a, vs, rfl, .inr ⟨hs, q0 _ (Option.some.inj (show some _ = some d from e)).symm _ (.tup hf l)⟩⟩
    case tuple.lst ys =>
      obtain ⟨a, vs, rfl, hs, l⟩ := hx.lst fh
      have e1 : d = (.tup ys, .fz) := (Option.some.inj (show some _ = some d from by cases kx <;> exact e)).symm
      refine call_tuple_of pins s σ H _ us Q I r ⟨a, vs, rfl, .inl ⟨.inl hs, fun p np => q _ _ (Stp.newF fh tap ntp np) _ ?_⟩⟩
      rw [e1]
      exact Rep.tup (F := upd F p (.tup vs)) (.inl (.inl upd_same)) (l.same (Stp.newF (M := M) (o := .tup vs) fh tap ntp np).ff)
  · obtain ⟨x, y, rfl, hx, hy⟩ := vr2 hv
    cases k <;> cases dx <;> (try (exfalso; revert e; simp [biD]; done)) <;> cases dy <;> (try (exfalso; revert e; simp [biD]; done))
    case min.int.int i j =>
      obtain ⟨rfl, _⟩ := hx.int
      obtain ⟨rfl, _⟩ := hy.int
      exact call_min2 hc pins s σ H _ us Q I r ⟨i, j, rfl, q0 _ (Option.some.inj (show some _ = some d from e)).symm _ (.int _)⟩
    case max.int.int i j =>
      obtain ⟨rfl, _⟩ := hx.int
      obtain ⟨rfl, _⟩ := hy.int
      exact call_max2 hc pins s σ H _ us Q I r ⟨i, j, rfl, q0 _ (Option.some.inj (show some _ = some d from e)).symm _ (.int _)⟩

/-! ### isinstance by data -/
theorem VRep.tyX {B : Addr → Prop} {H0 F H : Hp} {v : V} {d : D} {k : Kd} (hK : M.K = X.K) (s : Same F H) (h : VRep (M := M) B H0 F H v (d, k)) : ∀ n, tyOfD d = some n → TyX X.K H v (.type n) := by
  intro n hn
  cases d with
  | non => obtain ⟨rfl, _⟩ := h.non; cases hn; exact .base .non
  | bl b => obtain ⟨rfl, _⟩ := h.bl; cases hn; exact .base (.bl _)
  | int b => obtain ⟨rfl, _⟩ := h.int; cases hn; exact .base (.int _)
  | str b => obtain ⟨rfl, _⟩ := h.str; cases hn; exact .base (.str _)
  | tup xs =>
    obtain ⟨a, vs, rfl, hs, _⟩ := h.tup s
    rw [hK] at hs
    cases hn
    rcases hs with (hs | ⟨o, hs⟩) | ⟨o, its, m, h1, h2, _⟩
    · exact .base (.tup hs)
    · exact .fTuple hs
    · exact .kTuple h1 h2
  | lst xs =>
    obtain ⟨a, vs, rfl, hs, _⟩ := h.lst s
    cases hn
    rcases hs with hs | ⟨o, hs⟩
    · exact .base (.lst hs)
    · exact .base (.frz hs)
  | dct tk xs =>
    cases hn
    cases tk with
    | false =>
      obtain ⟨a, kw, rfl, hs, _⟩ := h.dct s
      rcases hs with hs | ⟨o, hs⟩
      · exact .base (.dK hs)
      · exact .fDict hs
    | true =>
      obtain ⟨a, kw, rfl, hs, _⟩ := h.dctT s
      exact .base (.dT hs)
  | _ => cases hn
theorem RepK.put {F : Hp} (k : Key) {v : V} {d : D} (r : Rep M F v d) {kvs : List (Key × V)} {ds : List (D × D)} (l : RepK M F kvs ds) : RepK M F (putK kvs k v) (dput ds (keyD k) d) := by
  have a : ∀ {kvs : List (Key × V)} {ds : List (D × D)}, RepK M F kvs ds → kvs.any (fun p => decide (p.1 = k)) = ds.any (fun p => keyEq p.1 (keyD k)) := by
    intro kvs ds l
    induction kvs generalizing ds with
    | nil => cases l; rfl
    | cons x xs ih =>
      cases l with
      | cons h l => rw [List.any_cons, List.any_cons, ih l, keyEq_k]
  have b : ∀ {kvs : List (Key × V)} {ds : List (D × D)}, RepK M F kvs ds → RepK M F (kvs.map fun p => if p.1 = k then (p.1, v) else p) (ds.map fun p => if keyEq p.1 (keyD k) = true then (p.1, d) else p) := by
    intro kvs ds l
    induction kvs generalizing ds with
    | nil => cases l; exact .nil
    | cons x xs ih =>
      cases l with
      | @cons j w _ e es h l =>
        rw [List.map_cons, List.map_cons]
        dsimp only
        rw [keyEq_k]
        by_cases z : j = k
        · rw [if_pos z, if_pos (decide_eq_true z)]; exact .cons r (ih l)
        · rw [if_neg z, if_neg (by simp [z])]; exact .cons h (ih l)
  have c : ∀ {kvs : List (Key × V)} {ds : List (D × D)}, RepK M F kvs ds → RepK M F (kvs ++ [(k, v)]) (ds ++ [(keyD k, d)]) := by
    intro kvs ds l
    induction kvs generalizing ds with
    | nil => cases l; exact .cons r .nil
    | cons x xs ih =>
      cases l with
      | cons h l => exact .cons h (ih l)
  unfold putK dput
  rw [a l]
  split
  · exact b l
  · exact c l
theorem RepK.merge {F : Hp} : ∀ {ks : List Key} {vs : List V} {ds : List D} {kw : List (Key × V)} {kd : List (D × D)}, RepL M F vs ds → RepK M F kw kd → RepK M F (mergeK kw (ks.zip vs)) (((ks.map keyD).zip ds).foldl (fun acc kv => dput acc kv.1 kv.2) kd)
  | [], _, _, _, _, _, q => q
  | _ :: _, _, _, _, _, .nil, q => q
  | k :: ks, _, _, _, _, .cons r l, q => RepK.merge (ks := ks) l (q.put k r)
end
end DE
set_option maxHeartbeats 2000000
/-! DE6: the text against my syntax; what a def promises; soundness of expressions. -/
namespace DE
open PySem PySem.Spec PyProof.Rows L2

/-! ### the text -/
def isLoc (sc : Scope) (x : Str) : Bool := match sc.names.lookup x with
  | some .local => true | some .cell => true | some .free => true | _ => false
def isGl (sc : Scope) (x : Str) : Bool := decide (sc.names.lookup x = some .globalImplicit) && !(x == ("__debug__" : Str))
def tyName : Ty → Option (String × Str)
  | .int => some ("int", "int") | .bool => some ("bool", "bool") | .tuple => some ("tuple", "tuple") | .list => some ("list", "list") | .str => some ("str", "str") | .dict => some ("dict", "dict") | _ => none
def chkTg (N : List Str) (sc : Scope) : Tg → Expr → Bool
  | .nm i, x => (match x with
    | .Name y _ => decide (N[i]? = some y) && (match sc.names.lookup y with | some .local => true | some .cell => true | _ => false)
    | _ => false)
  | .tp is, x => (match x with
    | .Tuple xs _ _ => chkTgs is xs
    | _ => false)
where chkTgs : List Nat → List Expr → Bool
    | [], [] => true
    | i :: is, x :: xs => (match x with
      | .Name y _ => decide (N[i]? = some y) && (match sc.names.lookup y with | some .local => true | some .cell => true | _ => false)
      | _ => false) && chkTgs is xs
    | _, _ => false
def chkTyE (sc : Scope) (y : Ty) (xt : Expr) : Bool := match y, xt with
  | .seq, .Tuple [.Name l _, .Name t _] _ _ => decide (l = "list") && decide (t = "tuple") && isGl sc l && isGl sc t
  | y, .Name n _ => (match tyName y with
    | some (_, m) => decide (n = m) && isGl sc n
    | none => false)
  | _, _ => false
/-- within a lambda, a comprehension no lambda is made: so it is told to the text's check -/
def inLam (sc : Scope) : Bool := sc.more.any fun y => decide (y.1 = "<lambda>")
def mkLam (sc : Scope) : Scope := { sc with more := ("<lambda>", .none) :: sc.more }
/-- .. within a comprehension -/
def mkC (sc scope : Scope) : Scope := { scope with more := (if inLam sc then "<lambda>" else "<comp>", .none) :: scope.more }
def inCmp (sc : Scope) : Bool := sc.more.any fun y => decide (y.1 = "<comp>")
/-- in a def that knows of no writing under way -/
def gOk (N : List Str) (sc : Scope) : Bool := !inLam sc && N.contains "<repr>"
theorem inCmp_mk (sc scope : Scope) (h : inLam sc = false) : inCmp (mkC sc scope) = true := by
  unfold inCmp mkC
  rw [h]
  simp
theorem inLam_mkC (sc scope : Scope) (h : inLam (mkC sc scope) = false) : inLam sc = false := by
  unfold inLam mkC at h
  cases e : inLam sc with
  | false => rfl
  | true => rw [e] at h; simp at h
theorem inLam_mk (sc : Scope) : inLam (mkLam sc) = true := by
  unfold inLam mkLam
  simp
def noArgs (p : Arguments) : Bool := p.posonlyargs.isEmpty && p.args.isEmpty && p.vararg.isNone && p.kwonlyargs.isEmpty && p.kw_defaults.isEmpty && p.kwarg.isNone && p.defaults.isEmpty
/-- an expression that is tested by its value -/
def plainTest : Expr → Bool
  | .UnaryOp .Not _ _ => false
  | .BoolOp _ _ _ => false
  | .IfExp _ _ _ _ => false
  | .Compare _ [o] [b] _ => !behindInMarks o b
  | .Compare _ _ _ _ => false
  | .Starred _ _ => false
  | .Slice _ _ _ _ => false
  | _ => true
def noLc : Expr → Bool
  | .ListComp _ _ _ _ => false
  | .SetComp _ _ _ _ => false
  | .DictComp _ _ _ _ _ => false
  | _ => true
section
variable {T : Type} (G : Pg T)
def isTupE : Expr → Bool
  | .Tuple _ _ _ => true
  | _ => false
def chkKs : List Key → List (Option Expr) → Bool
  | [], [] => true
  | .inl i :: ks, some (.Constant (.int j) _ _) :: xs => decide (i = j) && chkKs ks xs
  | .inr i :: ks, some (.Constant (.str j) _ _) :: xs => decide (i = j) && chkKs ks xs
  | _, _ => false
mutual
def chkE (N : List Str) : E → Scope → Expr → Bool
  | .var i, sc, x => (match x with
    | .Name y _ => decide (N[i]? = some y) && isLoc sc y && !(y == ("__debug__" : Str)) && !(y == ("__classdict__" : Str))
    | _ => false)
  | .non, _, x => (match x with | .Constant .none _ _ => true | _ => false)
  | .noe, _, _ => false
  | .bl b, _, x => (match x with | .Constant (.bool c) _ _ => b == c | _ => false)
  | .int i, _, x => (match x with | .Constant (.int c) _ _ => decide (i = c) | _ => false)
  | .str i, _, x => (match x with | .Constant (.str c) _ _ => decide (i = c) | _ => false)
  | .con z _, sc, x => (match x with | .Name y _ => decide (y = z) && isGl sc y | _ => false)
  | .bin o a b, sc, x => (match x with | .BinOp xa o' xb _ => decide (o.op = o') && chkE N a sc xa && chkE N b sc xb | _ => false)
  | .neg a, sc, x => (match x with | .UnaryOp .USub xa _ => chkE N a sc xa | _ => false)
  | .not a, sc, x => (match x with | .UnaryOp .Not xa _ => chkE N a sc xa | _ => false)
  | .and a b, sc, x => (match x with
    | .BoolOp .And (xa :: xb :: r) p => chkE N a sc xa && (match r with | [] => chkE N b sc xb | z :: r => chkE N b sc (.BoolOp .And (xb :: z :: r) p))
    | _ => false)
  | .or a b, sc, x => (match x with
    | .BoolOp .Or (xa :: xb :: r) p => chkE N a sc xa && (match r with | [] => chkE N b sc xb | z :: r => chkE N b sc (.BoolOp .Or (xb :: z :: r) p))
    | _ => false)
  | .cmp c a b, sc, x => (match x with | .Compare xa [c'] [xb] _ => decide (c.op = c') && chkE N a sc xa && chkE N b sc xb && !behindInMarks c.op xb | _ => false)
  | .chn c c' a b d, sc, x => (match x with | .Compare xa [o, o'] [xb, xd] _ => decide (c.op = o) && decide (c'.op = o') && chkE N a sc xa && chkE N b sc xb && chkE N d sc xd && !behindInMarks c.op xb && !behindInMarks c'.op xd | _ => false)
  | .chn3 c c' c'' a b d e, sc, x => (match x with | .Compare xa [o, o', o''] [xb, xd, xe] _ => decide (c.op = o) && decide (c'.op = o') && decide (c''.op = o'') && chkE N a sc xa && chkE N b sc xb && chkE N d sc xd && chkE N e sc xe && !lastMarks [c.op, c'.op, c''.op] [xb, xd, xe] | _ => false)
  | .ite c a b, sc, x => (match x with | .IfExp xc xa xb _ => chkE N c sc xc && chkE N a sc xa && chkE N b sc xb | _ => false)
  | .call f es, sc, x => (match x with
    | .Call (.Name y _) xs [] _ => isGl sc y && chkEs N es sc false xs && (match G.fns[f]? with
      | some (fi, _) => decide (fi.name = y) && decide (xs.length ≤ fi.ps.length) && decide (fi.ps.length - xs.length ≤ fi.dfl.length) && decide (xs ≠ []) && (!fi.g || gOk N sc)
      | none => false)
    | _ => false)
  | .callk f es ks kes pm, sc, x => (match x with
    | .Call (.Name y _) xs kws _ => isGl sc y && chkEs N es sc false xs && (match G.fns[f]? with
      | some (fi, _) => decide (fi.name = y) && decide ((xs.length, ks, pm) ∈ fi.kws) && decide (pm.length = fi.ps.length) && !fi.g
      | none => false) && decide (kws.map (·.arg) = ks.map some) && chkEs N kes sc false (kws.map (·.value))
    | _ => false)
  | .bi k es, sc, x => (match x with
    | .Call (.Name y _) xs [] _ => isGl sc y && decide (k.nm = y) && chkEs N es sc false xs && decide (xs ≠ [])
    | _ => false)
  | .isi a y, sc, x => (match x with
    | .Call (.Name z _) [xa, xt] [] _ => isGl sc z && decide (z = "isinstance") && chkE N a sc xa && chkTyE sc y xt
    | _ => false)
  | .tup es, sc, x => (match x with | .Tuple xs _ _ => chkEs N es sc true xs | _ => false)
  | .lst es, sc, x => (match x with | .List xs _ => chkEs N es sc true xs | _ => false)
  | .idx a i, sc, x => (match x with | .Subscript xa xi _ => chkE N a sc xa && chkE N i sc xi | _ => false)
  | .slc a lo hi, sc, x => (match x with
    | .Subscript xa (.Slice xl xh none _) _ => chkE N a sc xa && (match xl with | none => isNoe lo | some xl => chkE N lo sc xl && !isNoe lo) && (match xh with | none => isNoe hi | some xh => chkE N hi sc xh && !isNoe hi)
    | _ => false)
  | .fld _ _, _, _ => false
  | .meth _ _ _, _, _ => false
  | .lc elt tg it conds own, sc, x => (match x with
    | .ListComp xe [⟨xt, xi, ifs, as⟩] scope _ => decide (as = 0) && noSetE xi && chkIt N it sc xi xt && chkTg N (mkC sc scope) tg xt && blkC N sc scope own && chkE N elt (mkC sc scope) xe && chkEs N conds (mkC sc scope) false ifs && decide (ifs.length ≤ 1) && tgOwn tg (own.map (·.2))
    | _ => false)
  | .dct ks es, sc, x => (match x with
    | .Dict keys vals _ => chkKs ks keys && chkEs N es sc false vals && decide (keys.length ≤ 15) && decide (keys.length = vals.length)
    | _ => false)
  | .mk _ _, _, _ => false
  | .exn _ _, _, _ => false
  | .prim k es, sc, x => (match G.prims[k]? with
    | some p => (match p.chk sc x with
      | some xs => plainTest x && (noLc x && ((!p.g || gOk N sc) && chkEs N es sc false xs))
      | none => false)
    | none => false)
  | .caught e, sc, x => (match x with
    | .Call (.Name y _) [.Lambda params body scope _] [] _ => decide (y = "_law_caught") && isGl sc y && (!inLam sc && !inCmp sc) && N.contains "_law_caught" && LamX.lamSB sc scope && noArgs params && chkE N e (mkLam scope) body
    | _ => false)
  | .cw i, sc, x => (match x with
    | .Call (.Name y _) [.Name z _] [] _ => decide (y = "_law_caught") && isGl sc y && (!inLam sc && !inCmp sc) && decide (N[i]? = some z) && isLoc sc z && !(z == ("__debug__" : Str)) && !(z == ("__classdict__" : Str))
    | _ => false)
def chkEs (N : List Str) : Es → Scope → Bool → List Expr → Bool
  | .nil, _, _, xs => (match xs with | [] => true | _ => false)
  | .cons e es, sc, st, xs => (match xs with | x :: xs => chkE N e sc x && chkEs N es sc st xs | _ => false)
  | .star e es, sc, st, xs => (match xs with | .Starred x _ :: xs => st && chkE N e sc x && chkEs N es sc st xs | _ => false)
def chkIt (N : List Str) : It → Scope → Expr → Expr → Bool
  | .seq e, sc, x, _ => chkE N e sc x && noSetE x
  | .rng1 a, sc, x, _ => (match x with | .Call (.Name y _) [xa] [] _ => isGl sc y && decide (y = "range") && chkE N a sc xa | _ => false)
  | .rng2 a b, sc, x, _ => (match x with | .Call (.Name y _) [xa, xb] [] _ => isGl sc y && decide (y = "range") && chkE N a sc xa && chkE N b sc xb | _ => false)
  | .rng3 _ _ _, _, _, _ => false
  | .enum e, sc, x, tg => (match x with | .Call (.Name y _) [xe] [] _ => isGl sc y && decide (y = "enumerate") && chkE N e sc xe && isTupE tg | _ => false)
  | .zip a b, sc, x, tg => (match x with | .Call (.Name y _) [xa, xb] [] _ => isGl sc y && decide (y = "zip") && chkE N a sc xa && chkE N b sc xb && isTupE tg | _ => false)
  | .rev e, sc, x, _ => (match x with | .Call (.Name y _) [xe] [] _ => isGl sc y && decide (y = "reversed") && chkE N e sc xe | _ => false)
  | .prim k es, sc, x, tg => (match G.iprims[k]? with
    | some p => (match p.chk sc x tg with
      | some xs => noSetE x && chkEs N es sc false xs
      | none => false)
    | none => false)
end
end
end DE
set_option maxHeartbeats 2000000
/-! DE7: soundness of expressions. -/
namespace DE
open PySem PySem.Spec PyProof.Rows L2

section
variable {T : Type} (G : Pg T) (M : Md T)
/-- a def keeps the promise of its data function -/
def spD (f : DFn T) (n : Nat) : Sp := fun vs H Q E => ∃ (F : Hp) (t : T) (ds : List D), Same F H ∧ M.tp.At H t ∧ (∀ a, M.tp.own a → F a = none) ∧ RepL M F vs ds ∧ vs.length = n ∧
  PostG M E F H (f ds t) fun d t' F' H' => d.2 ≠ .br ∧ ∀ v, VRep (M := M) (fun _ => False) H F' H' v d → Q v H'
/-- a call with keywords binds by a permutation -/
def KBp (K : PySem.W.Frag) (fd : FuncData) (ps : List Str) (n : Nat) (ks : List Str) (pm : List Nat) : Prop :=
  ∀ (s : Shared) (us ws ys : List Value), K.In s.heap → us.length = n → ws.length = ks.length → permL pm (us ++ ws) = some ys → BindsTo s fd ⟨us, ks.zip ws⟩ (ps.zip ys)
/-- a def called where no writing of a list is under way -/
structure FnG (P : Program) (w : World) (K : PySem.W.Frag) (mg : Str → Option Value) (base : Heap) (CX : CXT) (k : Nat) (f : Addr) (fd : FuncData) (ps : List Str) (sp : Sp) : Prop where
  len : ∀ vs H Q E, sp vs H Q E → vs.length = ps.length
  go : ∀ (A : Around) (outer : List Env) (s : Shared) (H : Hp) (args : Args) (us : List Value) (vs : List V) (Q : VK) (E : XK), Room k A → A.guards = some [] → Env0 P w K mg base A outer s H → BindsTo s fd args (ps.zip us) → Vals vs us → sp vs H Q E →
    codeAny (model P w) A (.call (.ref f) args) (CR CX outer P w H s Q E) s
theorem FnG.of {P : Program} {w : World} {K : PySem.W.Frag} {mg : Str → Option Value} {base : Heap} {CX : CXT} {k : Nat} {f : Addr} {fd : FuncData} {ps : List Str} {sp : Sp} (F : FnOk P w K mg base CX k f fd ps sp) : FnG P w K mg base CX k f fd ps sp :=
  ⟨F.len, fun A outer s H args us vs Q E hr _ he hb hv hs => F.run A outer s H args us vs Q E hr he hb hv hs⟩
theorem FnG.mono {P : Program} {w : World} {K : PySem.W.Frag} {mg : Str → Option Value} {base : Heap} {CX : CXT} {j k : Nat} {f : Addr} {fd : FuncData} {ps : List Str} {sp : Sp} (F : FnG P w K mg base CX j f fd ps sp) (h : j ≤ k) : FnG P w K mg base CX k f fd ps sp :=
  ⟨F.len, fun A outer s H args us vs Q E hr => F.go A outer s H args us vs Q E (hr.mono h)⟩
/-- f(e, ..) of such a def -/
theorem pe_callG {X : Cx} {CX : CXT} {k : Nat} {f : Addr} {fd : FuncData} {ps : List Str} {sp : Sp} {dvs : List V} {ds : List Value} {E : XK} {x : Str} {p pos : Pos} {e : Expr} {es : List Expr} {t : TA} (F : FnG X.prog X.w X.K X.mg X.base CX k f fd ps sp) (hr : Room k X.A) (gd : X.A.guards = some []) (hg : Gl X x) (hm : X.mg x = some (.ref f))
    (hk : PySem.W.keepIn X.K (.ref f) = true) (hb : Binds X.K fd ps ds) (hd : Vals dvs ds) (hx : Passes CX X E) (ha : PA X (e :: es) t) (hdb : (x == ("__debug__" : Str)) = false) (he : starEach (e :: es) X.env = (false, eval e X.env) :: starEach es X.env) (hpl : (backTo pos (starEach es X.env)).any (·.1) = false) :
    PE X (.Call (.Name x p) (e :: es) [] pos) (tCall sp dvs E t) := by
  refine ⟨fun pins s σ H Q I h => wpAny_Call_Name_kw (ld_glob I hg hm (PySem.W.callWith_K (h₀ := X.base) I.ok.mod.kin hk (thn (ha.run pos pins s σ H _ I h) fun us s1 ⟨vs, H1, J, r, q⟩ => ⟨J.kIn, ?_⟩) he hpl) hdb)⟩
  have r2 : Vals (vs ++ dvs) (us ++ ds) := r.append hd
  have hl : (us ++ ds).length = ps.length := by rw [← r2.length, F.len _ _ _ _ q]
  refine wpAny_call (codeAny_mono (F.go X.A X.stack s1 H1 ⟨us, []⟩ (us ++ ds) (vs ++ dvs) Q E hr gd J.env0 (hb s1 us J.kIn hl) r2 q) fun z s2 e2 => ?_)
  match z, e2 with
  | .error u, e2 => exact hx pins σ H1 s1 u s2 J e2
  | .ok (.ret u), e2 => exact J.after e2
  | .ok .next, e2 => exact e2.elim
  | .ok .brk, e2 => exact e2.elim
  | .ok .cont, e2 => exact e2.elim
structure Callable (X : Cx) (fi : FI) (h : DFn T) : Prop where
  nbr : ∀ ds t d t', h ds t = .ok d t' → d.2 ≠ .br
  ex : ∃ (f : Addr) (fd : FuncData) (k : Nat), FnG X.prog X.w X.K X.mg X.base (CX X.prog X.w) k f fd fi.ps (spD M h fi.ps.length) ∧ (fi.g = false → FnOk X.prog X.w X.K X.mg X.base (CX X.prog X.w) k f fd fi.ps (spD M h fi.ps.length)) ∧ Room k X.A ∧ X.mg fi.name = some (.ref f) ∧ PySem.W.keepIn X.K (.ref f) = true ∧
    (∀ n, n ≤ fi.dfl.length → ∃ ds dvs, Binds X.K fd fi.ps ds ∧ Vals dvs ds ∧ ∀ F, RepL M F dvs (fi.dfl.drop (fi.dfl.length - n))) ∧ ∀ n ks pm, (n, ks, pm) ∈ fi.kws → KBp X.K fd fi.ps n ks pm
def bltNames : List Str := ["len", "abs", "min", "max", "sum", "all", "any", "int", "list", "tuple", "sorted", "repr", "divmod", "str", "set", "dict", "isinstance", "range", "enumerate", "zip", "reversed", "bool", "ValueError"]
/-- the context of a def's code, of a comprehension, of a lambda's body -/
structure Bs (P : Program) (w : World) (K : PySem.W.Frag) (mg : Str → Option Value) (base : Heap) (k : Nat) (X : Cx) : Prop where
  p : X.prog = P
  wo : X.w = w
  K : X.K = K
  mg : X.mg = mg
  base : X.base = base
  room : Room k X.A
  calm : X.calm = true
  nd : X.N.Nodup
  un : X.A.units + 65 < cLine
/-- expressions, each with what it reads -/
inductive AllPE (X : Cx) (W : XK) : Es → List Expr → Prop
  | nil : AllPE X W .nil []
  | cons {e : E} {es : Es} {x : Expr} {xs : List Expr} : PE X x (tD M G W e) → (∀ env ys, starEach (x :: ys) env = (false, eval x env) :: starEach ys env) → PlainIx x → AllPE X W es xs → AllPE X W (.cons e es) (x :: xs)
/-- an iterator serves these data, while the frozen part stands -/
def SerW (J : L2.It) (F0 : Hp) (ds : List D) : Prop := ∀ F H t, Same F0 F → Same F H → M.tp.At H t → (∀ a, M.tp.own a → F a = none) →
  J.stop ds.length H ∧ ∀ (i : Nat) d, ds[i]? = some d → J.go i H ∧ ∀ v H', J.yld i H v H' → ∃ F', Stp M F H F' H' t ∧ Rep M F' v d
/-- .. while all stands -/
def SerS (J : L2.It) (F0 H0 : Hp) (ds : List D) : Prop := ∀ F H t, Stp M F0 H0 F H t →
  J.stop ds.length H ∧ ∀ (i : Nat) d, ds[i]? = some d → J.go i H ∧ ∀ v H', J.yld i H v H' → ∃ F', Stp M F H F' H' t ∧ Rep M F' v d
theorem SerW.toS {M : Md T} {J : L2.It} {F0 H0 : Hp} {ds : List D} (h : SerW M J F0 ds) : SerS M J F0 H0 ds := fun F H t s => h F H t s.ff s.fh s.tap s.ntp
def tIt (W : XK) (it : It) : TI := fun σ H R => ∃ ρ t F, Sx M F H σ ρ t ∧ PostG M W F H (evalIt G it ρ t) fun xs t' F' H' => ∀ J F'', Stp M F H F'' H' t' → Same F' F'' → (xs.2 ≠ .br → SerW M J F'' xs.1) → SerS M J F'' H' xs.1 → R J H'
/-- an operation of the table keeps to what it gives -/
def PrimOk (X : Cx) (p : Prim T) : Prop := ∀ (sc : Scope), (∀ x, sc.names.lookup x = some .globalImplicit → Gl X x) → ∀ (W : XK), Takes X (fun c d _ H => W c d H) → (p.g = true → X.A.guards = some []) → ∀ (e : E) (es : Es) (x : Expr) (xs : List Expr), p.chk sc x = some xs →
  AllPE G M X W es xs → PA X xs (tDs M G W es) → (∀ kws : List Keyword, kws.map (·.value) = xs → PK X kws (tDs M G W es)) → (∀ ρ t t1 ds, evalEs G es ρ t = .ok ds t1 → ds.length = xs.length) → (∀ ρ t, evalE G e ρ t = (evalEs G es ρ t).bind fun ds t => p.f ds t) → PE X x (tD M G W e)
/-- .. what is walked -/
def PrimIOk (X : Cx) (p : PrimI T) : Prop := ∀ (sc : Scope), (∀ x, sc.names.lookup x = some .globalImplicit → Gl X x) → ∀ (W : XK), Takes X (fun c d _ H => W c d H) → ∀ (e : It) (es : Es) (x tg : Expr) (xs : List Expr), p.chk sc x tg = some xs →
  AllPE G M X W es xs → (∀ ρ t, evalIt G e ρ t = (evalEs G es ρ t).bind fun ds t => p.f ds t) → PI X tg x (tIt G M W e)
structure Ct0 (X : Cx) (sc : Scope) : Prop where
  vis : ∀ x, isLoc sc x = true → Vis X.env.scope x
  gl : ∀ x, sc.names.lookup x = some .globalImplicit → Gl X x
  own : ∀ x, sc.names.lookup x = some .local ∨ sc.names.lookup x = some .cell → Loc X.env.scope x ∧ (X.fn x = true ∨ X.env.scope.names.lookup x = some .local)
  capt : ∀ x, sc.names.lookup x = some .cell ∨ sc.names.lookup x = some .free → X.env.scope.names.lookup x = some .cell ∨ X.env.scope.names.lookup x = some .free
  hK : M.K = X.K
  hc : X.calm = true
  nd : X.N.Nodup
  un : X.A.units + 65 < cLine
  free : ∀ x ∈ bltNames, X.mg x = none
  con : ∀ x d, G.cons.lookup x = some d → ∃ u v, X.mg x = some u ∧ RelV v u ∧ ∀ F, Rep M F v d
  fns : ∀ (i : Nat) (fi : FI) (h : DFn T), G.fns[i]? = some (fi, h) → Callable M X fi h
  prm : ∃ (P : Program) (w : World) (K : PySem.W.Frag) (mg : Str → Option Value) (base : Heap) (k : Nat), Bs P w K mg base k X ∧ ∀ (i : Nat) (p : Prim T), G.prims[i]? = some p → ∀ X', Bs P w K mg base k X' → PrimOk G M X' p
  prmI : ∃ (P : Program) (w : World) (K : PySem.W.Frag) (mg : Str → Option Value) (base : Heap) (k : Nat), Bs P w K mg base k X ∧ ∀ (i : Nat) (p : PrimI T), G.iprims[i]? = some p → ∀ X', Bs P w K mg base k X' → PrimIOk G M X' p
/-- where a lambda may be made and handed on: _law_caught(lambda: body) -/
def LamOk (X : Cx) (sc : Scope) : Prop := ∀ (W : XK), Takes X (fun c d _ H => W c d H) → Gl X "_law_caught" → ∀ (e : E) (params : Arguments) (body : Expr) (scope : Scope) (lpos p pos : Pos), LamX.lamSB sc scope = true → noArgs params = true →
  (∀ (X' : Cx) (W' : XK), X'.N = X.N → Ct0 G M X' scope → Takes X' (fun c d _ H => W' c d H) → PE X' body (tD M G W' e)) → PE X (.Call (.Name "_law_caught" p) [.Lambda params body scope lpos] [] pos) (tD M G W (.caught e))
/-- the lambda of the loop under way, handed on -/
def LW (X : Cx) : Prop := ∀ (W : XK), Takes X (fun c d _ H => W c d H) → Gl X "_law_caught" → ∀ (i : Nat) (z : Str) (p p2 pos : Pos), X.N[i]? = some z → Vis X.env.scope z → (z == ("__debug__" : Str)) = false → (z == ("__classdict__" : Str)) = false →
  PE X (.Call (.Name "_law_caught" p) [.Name z p2] [] pos) (tD M G W (.cw i))
structure Ct (X : Cx) (sc : Scope) : Prop extends Ct0 G M X sc where
  lw : inLam sc = false → inCmp sc = false → LW G M X
  gd : gOk X.N sc = true → X.A.guards = some []
  lm : inLam sc = false → inCmp sc = false → X.N.contains "_law_caught" = true → LamOk G M X sc
variable {G M}

theorem LW.nil {X : Cx} (h : G.lams = []) : LW G M X := fun W _ _ i z p p2 pos _ _ _ _ => ⟨fun pins s σ H Q I ⟨ρ, t, F, sx, q⟩ => by
  have e : evalE G (.cw i) ρ t = .no := by
    rw [evalE]
    split
    · rw [h]; rfl
    · rfl
  rw [e] at q
  exact q.elim⟩
/-! ### what the checks say of the text -/
theorem chk_star {N : List Str} {e : E} {sc : Scope} {y : Expr} {p : Pos} : chkE G N e sc (.Starred y p) = false := by
  cases e <;> first
    | rfl
    | (unfold chkE; split
       · split <;> rfl
       · rfl)
theorem chk_slice {N : List Str} {e : E} {sc : Scope} {l h s : Option Expr} {p : Pos} : chkE G N e sc (.Slice l h s p) = false := by
  cases e <;> first
    | rfl
    | (unfold chkE; split
       · split <;> rfl
       · rfl)
theorem star_of {N : List Str} {e : E} {sc : Scope} {x : Expr} (h : chkE G N e sc x = true) (env : Env) (xs : List Expr) : starEach (x :: xs) env = (false, eval x env) :: starEach xs env := by
  cases x with
  | Starred y p => rw [chk_star] at h; cases h
  | _ => rfl
theorem plainIx_of {N : List Str} {e : E} {sc : Scope} {x : Expr} (h : chkE G N e sc x = true) : PlainIx x := by
  cases x with
  | Slice l h' s p => rw [chk_slice] at h; cases h
  | _ => exact fun _ _ => rfl
theorem noStar_of {N : List Str} : ∀ {es : Es} {sc : Scope} {xs : List Expr}, chkEs G N es sc false xs = true → ∀ (env : Env) (pos : Pos), (backTo pos (starEach xs env)).any (·.1) = false
  | .nil, _, [], _, _, _ => rfl
  | .nil, _, _ :: _, h, _, _ => by cases h
  | .cons e es, sc, [], h, _, _ => by cases h
  | .cons e es, sc, x :: xs, h, env, pos => by
    obtain ⟨h1, h2⟩ := Bool.and_eq_true_iff.mp (show (chkE G N e sc x && chkEs G N es sc false xs) = true from h)
    rw [star_of h1]
    show (false || (backTo pos (starEach xs env)).any (·.1)) = false
    rw [noStar_of h2]
    rfl
  | .star e es, sc, [], h, _, _ => by cases h
  | .star e es, sc, x :: xs, h, _, _ => by
    cases x <;> first | (cases h; done) | (simp [chkEs] at h)
theorem isGl_of {X : Cx} {sc : Scope} (C : Ct G M X sc) {y : Str} (h : isGl sc y = true) : Gl X y ∧ (y == ("__debug__" : Str)) = false := by
  obtain ⟨h1, h2⟩ := Bool.and_eq_true_iff.mp h
  exact ⟨C.gl y (of_decide_eq_true h1), by simpa using h2⟩
/-! ### steps of readings -/
section
variable {W : XK} {a b e : E}
theorem tD_op {f : Dk → Dk → Option Dk} (he : ∀ ρ t, evalE G e ρ t = (evalE G a ρ t).bind fun x t => (evalE G b ρ t).bind fun y t => ofO (f x y) t) {σ : L2.St} {H : Hp} {Q : VK} (h : tD M G W e σ H Q) : tOp (rData M f) (tD M G W a) (tD M G W b) σ H Q := by
  obtain ⟨ρ, t, F, sx, h⟩ := h
  rw [he] at h
  refine ⟨ρ, t, F, sx, (PostG.bind h).imp fun dx t1 F1 H1 s1 h2 v hv => ⟨ρ, t1, F1, sx.step s1, (PostG.bind h2).imp fun dy t2 F2 H2 s2 h3 w hw => ?_⟩⟩
  obtain ⟨d, e1, k⟩ := PostG.ofO h3
  exact ⟨Bo σ ρ, H, F2, t2, dx, dy, d, s2.fh, s2.tap, s2.ntp, fun p np => s1.was (s2.was np), hv.step s2, hw.old s1, e1, fun F' H' s3 v hv => k F' H' s3 v hv⟩
theorem tD_cm {c : Cm} (he : ∀ ρ t, evalE G e ρ t = (evalE G a ρ t).bind fun x t => (evalE G b ρ t).bind fun y t => ofO ((cmpD c x y).map fun b => (.bl b, .fz)) t) {σ : L2.St} {H : Hp} {Q : VK} (h : tD M G W e σ H Q) : tOp (rCm M c) (tD M G W a) (tD M G W b) σ H Q := by
  obtain ⟨ρ, t, F, sx, h⟩ := h
  rw [he] at h
  refine ⟨ρ, t, F, sx, (PostG.bind h).imp fun dx t1 F1 H1 s1 h2 v hv => ⟨ρ, t1, F1, sx.step s1, (PostG.bind h2).imp fun dy t2 F2 H2 s2 h3 w hw => ?_⟩⟩
  obtain ⟨d, e1, k⟩ := PostG.ofO h3
  obtain ⟨r, e2, rfl⟩ := Option.map_eq_some_iff.mp e1
  exact ⟨Bo σ ρ, H, F2, dx, dy, r, s2.fh, hv.step s2, hw.old s1, e2, k F2 H2 s2.self (.bl r) (Rep.bl r)⟩
theorem tDT_cm {c : Cm} (he : ∀ ρ t, evalE G e ρ t = (evalE G a ρ t).bind fun x t => (evalE G b ρ t).bind fun y t => ofO ((cmpD c x y).map fun b => (.bl b, .fz)) t) {σ : L2.St} {H : Hp} {Q : Bool → Hp → Prop} (h : tDT M G W e σ H Q) : tTest (tOp (rCm M c) (tD M G W a) (tD M G W b)) σ H Q := by
  obtain ⟨ρ, t, F, sx, h⟩ := h
  rw [he] at h
  refine ⟨ρ, t, F, sx, (PostG.bind h).imp fun dx t1 F1 H1 s1 h2 v hv => ⟨ρ, t1, F1, sx.step s1, (PostG.bind h2).imp fun dy t2 F2 H2 s2 h3 w hw => ?_⟩⟩
  obtain ⟨d, e1, k⟩ := PostG.ofO h3
  obtain ⟨r, e2, rfl⟩ := Option.map_eq_some_iff.mp e1
  refine ⟨Bo σ ρ, H, F2, dx, dy, r, s2.fh, hv.step s2, hw.old s1, e2, r, rfl, ?_⟩
  obtain ⟨b, eb, q⟩ := k F2 H2 s2.self
  cases eb
  exact q
/-- a bool, as a test -/
theorem tDT_val {σ : L2.St} {H : Hp} {Q : Bool → Hp → Prop} (h : tDT M G W e σ H Q) : tB (tD M G W e) σ H Q := by
  obtain ⟨ρ, t, F, sx, h⟩ := h
  refine ⟨ρ, t, F, sx, h.imp fun d t1 F1 H1 s1 h2 v hv => ?_⟩
  obtain ⟨b, eb, q⟩ := h2
  obtain ⟨d, k⟩ := d
  cases eb
  obtain ⟨rfl, _⟩ := hv.bl
  exact ⟨b, rfl, q⟩
theorem tDT_of {σ : L2.St} {H : Hp} {Q : VK} {ρ : En} {t : T} {F : Hp} (sx : Sx M F H σ ρ t) {f : Bool → T → R T Dk}
    (h : PostG M W F H ((evalE G a ρ t).bind fun x t => match x.1 with | .bl b => f b t | _ => .no) fun d t' F' H' => ∀ v, VRep (M := M) (Bo σ ρ) H F' H' v d → Q v H') :
    tDT M G W a σ H fun c H1 => ∃ t1 F1, Stp M F H F1 H1 t1 ∧ PostG M W F1 H1 (f c t1) fun d t' F' H' => ∀ v, VRep (M := M) (Bo σ ρ) H F' H' v d → Q v H' := by
  refine ⟨ρ, t, F, sx, (PostG.bind h).imp fun dx t1 F1 H1 s1 h2 => ?_⟩
  obtain ⟨dx, kx⟩ := dx
  cases dx <;> (try exact (show False from h2).elim)
  exact ⟨_, rfl, t1, F1, s1, h2⟩
end

/-! ### lending -/
theorem rep_flat {F F' : Hp} {v : V} {d : D} (h : Rep M F v d) (f : flat d = true) : Rep M F' v d := by
  cases h <;> first | (exact .non) | (exact .bl _) | (exact .int _) | (exact .str _) | (exfalso; revert f; simp [flat]; done)
theorem repL_flat {F F' : Hp} : ∀ {v : List V} {d : List D}, RepL M F v d → d.all flat = true → RepL M F' v d
  | _, _, .nil, _ => .nil
  | _, _, .cons h l, f => by
    rw [List.all_cons, Bool.and_eq_true] at f
    exact .cons (rep_flat h f.1) (repL_flat l f.2)
/-- all that is fresh or borrowed read as frozen for a while -/
def LendOk (F H : Hp) (v : V) (d : Dk) : Prop := Rep M F v d.1 ∨ ∃ a o, v = .ref a ∧ ¬ M.tp.own a ∧ H a = some o ∧ Cont (M := M) F o d.1 ∧ (F a = none ∨ F a = some o)
theorem lendOk_of {B : Addr → Prop} {H0 F H : Hp} {v : V} {d : Dk} (h : VRep (M := M) B H0 F H v d) : LendOk (M := M) F H v d := by
  obtain ⟨d, k⟩ := d
  cases k with
  | fz => exact .inl h
  | fr => obtain ⟨a, e, ⟨nf, nt, o, q, c⟩, _⟩ := h; exact .inr ⟨a, o, e, nt, q, c, .inl nf⟩
  | br => obtain ⟨a, e, ⟨nf, nt, o, q, c⟩, _⟩ := h; exact .inr ⟨a, o, e, nt, q, c, .inl nf⟩
theorem LendOk.put {F H : Hp} {a : Addr} {o : HO} (e : H a = some o) (h : F a = none ∨ F a = some o) {v : V} {d : Dk} (q : LendOk (M := M) F H v d) : LendOk (M := M) (putF F H a) H v d := by
  rcases q with q | ⟨b, u, e1, nt, eb, c, hb⟩
  · exact .inl (q.same (putF_same e h))
  · refine .inr ⟨b, u, e1, nt, eb, c.same (putF_same e h), ?_⟩
    unfold putF
    by_cases z : b = a
    · rw [if_pos z, ← z, eb]; exact .inr rfl
    · rw [if_neg z]; exact hb
theorem lendL {H : Hp} : ∀ {vs : List V} {ds : List Dk} {F : Hp}, Same F H → (∀ a, M.tp.own a → F a = none) → vs.length = ds.length → (∀ p ∈ vs.zip ds, LendOk (M := M) F H p.1 p.2) → ∃ Fb, Same F Fb ∧ Same Fb H ∧ (∀ a, M.tp.own a → Fb a = none) ∧ RepL M Fb vs (ds.map (·.1))
  | [], [], F, fh, ntp, _, _ => ⟨F, fun _ _ q => q, fh, ntp, .nil⟩
  | [], _ :: _, _, _, _, h, _ => by cases h
  | _ :: _, [], _, _, _, h, _ => by cases h
  | v :: vs, d :: ds, F, fh, ntp, hl, h => by
    have hl' : vs.length = ds.length := by simpa using hl
    rcases h (v, d) (by simp) with q | ⟨a, o, rfl, nt, e, c, hf⟩
    · obtain ⟨Fb, s1, s2, s3, l⟩ := lendL fh ntp hl' fun p hp => h p (by simp [hp])
      exact ⟨Fb, s1, s2, s3, .cons (q.same s1) l⟩
    · have s0 := putF_same e hf
      obtain ⟨Fb, s1, s2, s3, l⟩ := lendL (F := putF F H a) (vs := vs) (ds := ds) (fun b x q => by
        unfold putF at q
        by_cases z : b = a
        · subst z; rw [if_pos rfl] at q; exact q
        · rw [if_neg z] at q; exact fh _ _ q) (fun b hb => by
        unfold putF
        by_cases z : b = a
        · subst z; exact absurd hb nt
        · rw [if_neg z]; exact ntp b hb) hl' fun p hp => (h p (by simp [hp])).put e hf
      have e1 : putF F H a a = some o := by unfold putF; rw [if_pos rfl]; exact e
      exact ⟨Fb, fun b x q => s1 _ _ (s0 _ _ q), s2, s3, .cons (Rep.of_cont (s1 _ _ e1) (c.same fun b x q => s1 _ _ (s0 _ _ q))) l⟩
theorem VRepL.length {B : Addr → Prop} {H0 F H : Hp} : ∀ {v : List V} {d : List Dk}, VRepL (M := M) B H0 F H v d → v.length = d.length
  | _, _, .nil => rfl
  | _, _, .cons _ l => by rw [List.length_cons, List.length_cons, VRepL.length l]
theorem VRepL.lendOk {B : Addr → Prop} {H0 F H : Hp} : ∀ {v : List V} {d : List Dk}, VRepL (M := M) B H0 F H v d → ∀ p ∈ v.zip d, LendOk (M := M) F H p.1 p.2
  | _, _, .nil, p, hp => by simp at hp
  | _, _, .cons h l, p, hp => by
    rcases List.mem_cons.mp (show p ∈ (_, _) :: List.zip _ _ from hp) with rfl | hp
    · exact lendOk_of h
    · exact VRepL.lendOk l p hp

/-! ### a call -/
theorem call_post {W : XK} {f : DFn T} {ds : List Dk} {t1 : T} {F H F1 H1 : Hp} {B : Addr → Prop} {vs dv : List V} {es : List D} {n : Nat} {Q : VK} (hB : ∀ b, B b → H b ≠ none) (s1 : Stp M F H F1 H1 t1)
    (hv : VRepL (M := M) B H F1 H1 vs ds) (hdv : ∀ F, RepL M F dv es) (hn : (vs ++ dv).length = n)
    (h : PostG M W F H (callD f (ds ++ es.map (·, Kd.fz)) t1) fun d t' F' H' => ∀ v, VRep (M := M) B H F' H' v d → Q v H')
    (hk : ∀ ds t d t', f ds t = .ok d t' → d.2 ≠ .br) : spD M f n (vs ++ dv) H1 Q W := by
  have hv2 : VRepL (M := M) B H F1 H1 (vs ++ dv) (ds ++ es.map (·, Kd.fz)) := by
    have aux : ∀ {a : List V} {b : List Dk}, VRepL (M := M) B H F1 H1 a b → VRepL (M := M) B H F1 H1 (a ++ dv) (b ++ es.map (·, Kd.fz)) := by
      intro a b hab
      induction hab with
      | nil =>
        have l := hdv F1
        have : ∀ {x : List V} {y : List D}, RepL M F1 x y → VRepL (M := M) B H F1 H1 x (y.map (·, Kd.fz)) := by
          intro x y l
          induction y generalizing x with
          | nil => cases l; exact .nil
          | cons y ys ih => cases l with
            | cons q l => exact .cons q (ih l)
        exact this l
      | cons q _ ih => exact .cons q ih
    exact aux hv
  generalize ds ++ es.map (·, Kd.fz) = ds2 at h hv2
  unfold callD at h
  cases q : allFz ds2 with
  | some xs =>
    rw [q] at h
    obtain ⟨F2, s2, ff, r⟩ := hv2.freeze hB s1
    refine ⟨F2, t1, xs, s2.fh, s2.tap, s2.ntp, r.rep q, hn, ?_⟩
    have h2 : PostG M W F2 H1 (f xs t1) _ := PostG.from_ s2 h
    cases qf : f xs t1 with
    | ok d t' =>
      rw [qf] at h2
      exact fun F' H' s' => ⟨hk _ _ _ _ qf, fun v r => h2 F' H' s' v (by
        obtain ⟨d, k⟩ := d
        cases k with
        | fz => exact r
        | fr => obtain ⟨a, e, o, n⟩ := r; exact ⟨a, e, o, s1.was n⟩
        | br => exact absurd rfl (hk _ _ _ _ qf))⟩
    | ex c v t' => rw [qf] at h2; exact h2
    | no => rw [qf] at h2; exact h2
  | none =>
    rw [q] at h
    obtain ⟨Fb, b1, b2, b3, l⟩ := lendL s1.fh s1.ntp hv2.length hv2.lendOk
    refine ⟨Fb, t1, ds2.map (·.1), b2, s1.tap, b3, l, hn, ?_⟩
    have back : ∀ {F' H' : Hp} {t' : T}, Stp M Fb H1 F' H' t' → Stp M F H F1 H' t' := fun {F' H' t'} s' =>
      { fh := fun b x e => s'.hh b x (s1.fh b x e) fun z => by rw [s1.ntp b z] at e; cases e
        tap := s'.tap, ntp := s1.ntp, ff := s1.ff, new := s1.new
        hh := fun b x e n => s'.hh b x (s1.hh b x e n) n
        tb := fun b ps e => let ⟨q, h1⟩ := s'.tb b ps e; s1.tb b q h1 }
    cases qf : f (ds2.map (·.1)) t1 with
    | ok d t' =>
      rw [qf] at h
      have h3 : PostG M W F H (if flat1 d then R.ok d t' else .no) _ := h
      by_cases g : flat1 d = true
      · rw [if_pos g] at h3
        refine fun F' H' s' => ⟨hk _ _ _ _ qf, fun v r => h3 F1 H' (back s') v ?_⟩
        obtain ⟨d, k⟩ := d
        cases k with
        | fz => exact rep_flat (show Rep M F' v d from r) (by cases d <;> first | rfl | exact g)
        | fr =>
          obtain ⟨a, e, ⟨nf, nt, o, q1, c⟩, n⟩ := r
          refine ⟨a, e, ⟨?_, nt, o, q1, ?_⟩, s1.was n⟩
          · cases z : F1 a with
            | none => rfl
            | some x => rw [s1.fh a x z] at n; cases n
          · cases c with
            | lst l => exact .lst (repL_flat l g)
            | dK l => exact absurd g (by simp [flat1, flat])
            | dT l => exact absurd g (by simp [flat1, flat])
            | ins l => exact absurd g (by simp [flat1, flat])
        | br => exact absurd rfl (hk _ _ _ _ qf)
      · rw [if_neg g] at h3
        exact h3.elim
    | ex c v t' =>
      rw [qf] at h
      have h3 : PostG M W F H (if flatX v then R.ex c v t' else .no) _ := h
      by_cases g : flatX v = true
      · rw [if_pos g] at h3
        refine fun F' H' cls d s' r => h3 F1 H' cls d (back s') ?_
        obtain ⟨e, r⟩ := r
        refine ⟨e, ?_⟩
        cases v with
        | none => exact r
        | some x =>
          obtain ⟨dx, w, e1, e2, e3, e4, e5, e6⟩ := r
          refine ⟨dx, w, e1, e2, rep_flat e3 g, ?_, e5, s1.was e6⟩
          cases z : F1 dx with
          | none => rfl
          | some x => rw [s1.fh dx x z] at e6; cases e6
      · rw [if_neg g] at h3
        exact h3.elim
    | no => rw [qf] at h; exact h
end
end DE
set_option maxHeartbeats 2000000
/-! DE8: targets, what is walked, comprehensions. -/
namespace DE
open PySem PySem.Spec PyProof.Rows L2

section
variable {T : Type} {G : Pg T} {M : Md T}

/-! ### slots are set -/
theorem Sx.set {F H : Hp} {σ : L2.St} {ρ : En} {t : T} (s : Sx M F H σ ρ t) {i : Nat} {v : V} {d : D} (r : Rep M F v d) (hi : i < ρ.length) (hl : isLock ρ[i]? = false) : Sx M F H (σ.set i (some v)) (ρ.set i (.fz d)) t where
  lk := fun j kk h => by
    by_cases z : i = j
    · subst z; rw [List.getElem?_set_self hi] at h; cases h
    · rw [List.getElem?_set_ne z] at h ⊢; exact s.lk j kk h
  fh := s.fh
  tap := s.tap
  ntp := s.ntp
  len := by rw [List.length_set, List.length_set, s.len]
  fz := fun j e h => by
    by_cases z : i = j
    · subst z
      rw [List.getElem?_set_self hi] at h
      cases h
      exact ⟨v, List.getElem?_set_self (by rw [s.len]; exact hi), r⟩
    · rw [List.getElem?_set_ne z] at h ⊢
      exact s.fz j e h
  ow := fun j e h => by
    by_cases z : i = j
    · subst z
      rw [List.getElem?_set_self hi] at h
      cases h
    · rw [List.getElem?_set_ne z] at h ⊢
      exact s.ow j e h
  dis := fun j k d1 d2 a h1 h2 h3 h4 => by
    have n1 : i ≠ j := fun z => by subst z; rw [List.getElem?_set_self hi] at h1; cases h1
    have n2 : i ≠ k := fun z => by subst z; rw [List.getElem?_set_self hi] at h2; cases h2
    rw [List.getElem?_set_ne n1] at h1 h3
    rw [List.getElem?_set_ne n2] at h2 h4
    exact s.dis j k d1 d2 a h1 h2 h3 h4
theorem Sx.setOw {F H : Hp} {σ : L2.St} {ρ : En} {t : T} (s : Sx M F H σ ρ t) {i : Nat} {a : Addr} {d : D} (r : Own (M := M) F H a d) (hi : i < ρ.length) (hn : ∀ (j : Nat) (e : D), j ≠ i → ρ[j]? = some (.ow e) → σ[j]? ≠ some (some (.ref a))) (hl : isLock ρ[i]? = false) : Sx M F H (σ.set i (some (.ref a))) (ρ.set i (.ow d)) t where
  lk := fun j kk h => by
    by_cases z : i = j
    · subst z; rw [List.getElem?_set_self hi] at h; cases h
    · rw [List.getElem?_set_ne z] at h ⊢; exact s.lk j kk h
  fh := s.fh
  tap := s.tap
  ntp := s.ntp
  len := by rw [List.length_set, List.length_set, s.len]
  fz := fun j e h => by
    by_cases z : i = j
    · subst z
      rw [List.getElem?_set_self hi] at h
      cases h
    · rw [List.getElem?_set_ne z] at h ⊢
      exact s.fz j e h
  ow := fun j e h => by
    by_cases z : i = j
    · subst z
      rw [List.getElem?_set_self hi] at h
      cases h
      exact ⟨a, List.getElem?_set_self (by rw [s.len]; exact hi), r⟩
    · rw [List.getElem?_set_ne z] at h ⊢
      exact s.ow j e h
  dis := fun j k d1 d2 b h1 h2 h3 h4 => by
    by_cases n1 : i = j <;> by_cases n2 : i = k
    · rw [← n1, ← n2]
    · subst n1
      rw [List.getElem?_set_self (by rw [s.len]; exact hi)] at h3
      cases h3
      rw [List.getElem?_set_ne n2] at h2 h4
      exact absurd h4 (hn k d2 (Ne.symm n2) h2)
    · subst n2
      rw [List.getElem?_set_self (by rw [s.len]; exact hi)] at h4
      cases h4
      rw [List.getElem?_set_ne n1] at h1 h3
      exact absurd h3 (hn j d1 (Ne.symm n1) h1)
    · rw [List.getElem?_set_ne n1] at h1 h3
      rw [List.getElem?_set_ne n2] at h2 h4
      exact s.dis j k d1 d2 b h1 h2 h3 h4
theorem Sx.un {F H : Hp} {σ : L2.St} {ρ : En} {t : T} (s : Sx M F H σ ρ t) (i : Nat) (x : Option V) (hl : isLock ρ[i]? = false) : Sx M F H (σ.set i x) (ρ.set i .un) t where
  lk := fun j kk h => by
    by_cases z : i = j
    · subst z
      by_cases hi : i < ρ.length
      · rw [List.getElem?_set_self hi] at h; cases h
      · rw [List.getElem?_eq_none (by simpa using hi)] at h; cases h
    · rw [List.getElem?_set_ne z] at h ⊢; exact s.lk j kk h
  fh := s.fh
  tap := s.tap
  ntp := s.ntp
  len := by rw [List.length_set, List.length_set, s.len]
  fz := fun j e h => by
    by_cases z : i = j
    · subst z
      by_cases hi : i < ρ.length
      · rw [List.getElem?_set_self hi] at h; cases h
      · rw [List.getElem?_eq_none (by simpa using hi)] at h; cases h
    · rw [List.getElem?_set_ne z] at h ⊢
      exact s.fz j e h
  ow := fun j e h => by
    by_cases z : i = j
    · subst z
      by_cases hi : i < ρ.length
      · rw [List.getElem?_set_self hi] at h; cases h
      · rw [List.getElem?_eq_none (by simpa using hi)] at h; cases h
    · rw [List.getElem?_set_ne z] at h ⊢
      exact s.ow j e h
  dis := fun j k d1 d2 a h1 h2 h3 h4 => by
    have key : ∀ (j : Nat) (d : D), (ρ.set i .un)[j]? = some (SV.ow d) → i ≠ j := fun j d h z => by
      subst z
      by_cases hi : i < ρ.length
      · rw [List.getElem?_set_self hi] at h; cases h
      · rw [List.getElem?_eq_none (by simpa using hi)] at h; cases h
    have n1 := key j d1 h1
    have n2 := key k d2 h2
    rw [List.getElem?_set_ne n1] at h1 h3
    rw [List.getElem?_set_ne n2] at h2 h4
    exact s.dis j k d1 d2 a h1 h2 h3 h4
theorem wipeE_lock {ρ : En} {j : Nat} (h : isLock ρ[j]? = false) : ∀ vs, isLock (wipeE ρ vs)[j]? = false
  | [] => h
  | v :: vs => by
    unfold wipeE
    by_cases z : v = j
    · subst z
      by_cases hi : v < (wipeE ρ vs).length
      · rw [List.getElem?_set_self hi]; rfl
      · rw [List.getElem?_eq_none (by simpa using hi)]; rfl
    · rw [List.getElem?_set_ne z]; exact wipeE_lock h vs
theorem Sx.wipe {F H : Hp} {σ : L2.St} {ρ : En} {t : T} (s : Sx M F H σ ρ t) : ∀ vs, okW ρ vs = true → Sx M F H (L2.wipe σ vs) (wipeE ρ vs) t
  | [], _ => s
  | v :: vs, h => by
    unfold okW at h
    rw [List.all_cons, Bool.and_eq_true] at h
    exact (s.wipe vs h.2).un v none (wipeE_lock (by simpa using h.1) vs)
theorem setE_some {ρ ρ1 : En} {i : Nat} {x : SV} (h : setE ρ i x = some ρ1) : i < ρ.length ∧ isLock ρ[i]? = false ∧ ρ1 = ρ.set i x := by
  unfold setE at h
  split at h
  · rename_i hi
    cases hl : isLock ρ[i]? with
    | true => rw [hl] at h; cases h
    | false => rw [hl] at h; exact ⟨hi, rfl, (Option.some.inj h).symm⟩
  · cases h

/-! ### targets -/
def gNs : List Nat → TGs
  | [] => gNil
  | i :: is => gCons (gName i) (gNs is)
def tgT (K : PySem.W.Frag) : Tg → TG
  | .nm i => gName i
  | .tp is => gTup K is.length (gNs is)
theorem sound_name {X : Cx} {sc : Scope} (C : Ct G M X sc) {i : Nat} {x : Expr} (h : (match x with
    | .Name y _ => decide (X.N[i]? = some y) && (match sc.names.lookup y with | some .local => true | some .cell => true | _ => false)
    | _ => false) = true) : ∃ y p, x = .Name y p ∧ PG X x (gName i) := by
  cases x <;> (try (cases h; done))
  rename_i y p
  obtain ⟨h1, h2⟩ := Bool.and_eq_true_iff.mp h
  have hx : sc.names.lookup y = some .local ∨ sc.names.lookup y = some .cell := by
    revert h2
    split
    · rename_i e; exact fun _ => .inl e
    · rename_i e; exact fun _ => .inr e
    · exact fun z => nomatch z
  obtain ⟨o1, o2⟩ := C.own y hx
  exact ⟨y, p, rfl, pg_name C.nd (of_decide_eq_true h1) o1 o2⟩
theorem sound_tgs {X : Cx} {sc : Scope} (C : Ct G M X sc) : ∀ {is : List Nat} {xs : List Expr}, chkTg.chkTgs X.N sc is xs = true →
    PGs X xs (gNs is) ∧ (assignEach xs X.env).length = is.length ∧ (assignEach xs X.env).findIdx? (·.1) = none
  | [], [], _ => ⟨pgs_nil, rfl, rfl⟩
  | [], _ :: _, h => by cases h
  | _ :: _, [], h => by cases h
  | i :: is, x :: xs, h => by
    obtain ⟨h1, h2⟩ := Bool.and_eq_true_iff.mp h
    obtain ⟨y, p, rfl, g⟩ := sound_name C h1
    obtain ⟨g2, l, f⟩ := sound_tgs C h2
    refine ⟨pgs_cons g g2, ?_, ?_⟩
    · show (assignEach xs X.env).length + 1 = is.length + 1
      rw [l]
    · show ((_, _) :: assignEach xs X.env).findIdx? (·.1) = none
      rw [List.findIdx?_cons]
      simp [f]
theorem sound_tg {X : Cx} {sc : Scope} (C : Ct G M X sc) {tg : Tg} {x : Expr} (h : chkTg X.N sc tg x = true) : PG X x (tgT X.K tg) := by
  cases tg with
  | nm i => exact (sound_name C h).elim fun y ⟨p, _, g⟩ => g
  | tp is =>
    cases x <;> (try (cases h; done))
    obtain ⟨g, l, f⟩ := sound_tgs C (show chkTg.chkTgs X.N sc is _ = true from h)
    exact pg_tup C.hc g l f
/-- a target bound -/
theorem bindL_ok {F H : Hp} {t : T} {Q : L2.St → Hp → Prop} : ∀ {is : List Nat} {ds : List D} {vs : List V} {σ : L2.St} {ρ ρ1 : En}, Sx M F H σ ρ t → RepL M F vs ds → bindL ρ is ds = some ρ1 → (∀ σ1, (∀ ws : List Nat, (∀ i ∈ is, i ∈ ws) → L2.wipe σ1 ws = L2.wipe σ ws) → (∀ b, Bo σ1 ρ1 b → Bo σ ρ b) → Sx M F H σ1 ρ1 t → Q σ1 H) → gNs is vs σ H Q
  | [], [], vs, σ, ρ, ρ1, s, l, e, k => by
    cases l
    cases e
    exact ⟨rfl, k σ (fun _ _ => rfl) (fun _ q => q) s⟩
  | [], _ :: _, _, _, _, _, _, _, e, _ => by cases e
  | _ :: _, [], _, _, _, _, _, _, e, _ => by cases e
  | i :: is, d :: ds, vs, σ, ρ, ρ1, s, l, e, k => by
    cases l with
    | cons r l =>
      rename_i v vs
      unfold bindL at e
      obtain ⟨ρ2, e1, e2⟩ := Option.bind_eq_some_iff.mp e
      obtain ⟨hi, hlk, rfl⟩ := setE_some e1
      · refine ⟨v, vs, rfl, bindL_ok (s.set r hi hlk) l e2 fun σ1 w b s1 => k σ1 (fun ws hw => ?_) (fun c hc => bo_set hi (b c hc)) s1⟩
        rw [w ws fun j hj => hw j (List.mem_cons_of_mem _ hj)]
        exact wipe_set (hw i List.mem_cons_self)
where
  bo_set {σ : L2.St} {ρ : En} {i : Nat} {x : Option V} {d : D} {b : Addr} (hi : i < ρ.length) (h : Bo (σ.set i x) (ρ.set i (.fz d)) b) : Bo σ ρ b := by
    obtain ⟨j, e, h1, h2⟩ := h
    have n : i ≠ j := fun z => by
      subst z
      rw [List.getElem?_set_self hi] at h1
      cases h1
    rw [List.getElem?_set_ne n] at h1 h2
    exact ⟨j, e, h1, h2⟩
  wipe_get {σ : L2.St} {j : Nat} : ∀ {vs : List Nat}, (L2.wipe σ vs)[j]? = if j ∈ vs then (σ[j]?).map fun _ => none else σ[j]?
    | [] => by simp [L2.wipe]
    | v :: vs => by
      unfold L2.wipe
      by_cases e : v = j
      · subst e
        rw [if_pos List.mem_cons_self]
        by_cases h : v < σ.length
        · rw [List.getElem?_set_self (by rw [wipe_length]; exact h), List.getElem?_eq_getElem h]
          rfl
        · rw [List.getElem?_eq_none (by rw [List.length_set, wipe_length]; omega), List.getElem?_eq_none (by omega)]
          rfl
      · rw [List.getElem?_set_ne e, wipe_get (vs := vs)]
        by_cases m : j ∈ vs
        · rw [if_pos m, if_pos (List.mem_cons_of_mem _ m)]
        · rw [if_neg m, if_neg (by simp [m, Ne.symm e])]
  wipe_set {σ : L2.St} {i : Nat} {x : Option V} {ws : List Nat} (h : i ∈ ws) : L2.wipe (σ.set i x) ws = L2.wipe σ ws := by
    refine List.ext_getElem? fun j => ?_
    rw [wipe_get, wipe_get]
    by_cases m : j ∈ ws
    · rw [if_pos m, if_pos m]
      by_cases e : i = j
      · subst e
        by_cases hl : i < σ.length
        · rw [List.getElem?_set_self hl, List.getElem?_eq_getElem hl]; rfl
        · rw [List.getElem?_eq_none (by simpa using hl), List.getElem?_eq_none (by simpa using hl)]
      · rw [List.getElem?_set_ne e]
    · rw [if_neg m, if_neg m, List.getElem?_set_ne (fun e => m (by rw [← e]; exact h))]
theorem wipe_wipe {σ : L2.St} {ws : List Nat} : L2.wipe (L2.wipe σ ws) ws = L2.wipe σ ws := by
  refine List.ext_getElem? fun j => ?_
  rw [bindL_ok.wipe_get, bindL_ok.wipe_get]
  by_cases m : j ∈ ws
  · rw [if_pos m, if_pos m]
    cases σ[j]? <;> rfl
  · rw [if_neg m, if_neg m]
theorem bindT_ok {K : PySem.W.Frag} (hK : M.K = K) {F H : Hp} {t : T} {Q : L2.St → Hp → Prop} {tg : Tg} {d : D} {v : V} {σ : L2.St} {ρ ρ1 : En} (s : Sx M F H σ ρ t) (r : Rep M F v d) (e : bindT ρ tg d = some ρ1)
    (k : ∀ σ1, (∀ ws : List Nat, tgOwn tg ws = true → L2.wipe σ1 ws = L2.wipe σ ws) → (∀ b, Bo σ1 ρ1 b → Bo σ ρ b) → Sx M F H σ1 ρ1 t → Q σ1 H) : tgT K tg v σ H Q := by
  cases tg with
  | nm i =>
    obtain ⟨hi, hlk, rfl⟩ := setE_some (show setE ρ i (.fz d) = some ρ1 from e)
    exact k _ (fun ws hw => bindL_ok.wipe_set (by simpa [tgOwn] using hw)) (fun c hc => bindL_ok.bo_set hi hc) (s.set r hi hlk)
  | tp is =>
    obtain ⟨ds, e1, e2⟩ := Option.bind_eq_some_iff.mp (show (tupOf d).bind (fun ds => bindL ρ is ds) = some ρ1 from e)
    cases r <;> (try (cases e1; done))
    case tup a vs ds' hs l =>
      cases e1
      have hl : ∀ {is : List Nat} {ds : List D} {ρ ρ1 : En}, bindL ρ is ds = some ρ1 → ds.length = is.length := by
        intro is
        induction is with
        | nil => intro ds ρ ρ1 e; cases ds <;> first | rfl | cases e
        | cons i is ih =>
          intro ds ρ ρ1 e
          cases ds with
          | nil => cases e
          | cons d ds =>
            unfold bindL at e
            obtain ⟨ρ2, _, e2⟩ := Option.bind_eq_some_iff.mp e
            rw [List.length_cons, List.length_cons, ih e2]
      refine ⟨a, vs, rfl, hK ▸ SqT.same s.fh hs, by rw [l.length, hl e2], ?_⟩
      exact bindL_ok s l e2 fun σ1 w b s1 => k σ1 (fun ws hw => w ws fun i hi => by
        have := List.all_eq_true.mp (show is.all ws.contains = true from hw) i hi
        simpa using this) b s1
end
end DE
set_option maxHeartbeats 4000000
/-! DE9: soundness of expressions, the whole. -/
namespace DE
open PySem PySem.Spec PyProof.Rows L2

section
variable {T : Type} {G : Pg T} {M : Md T}
variable (G M)
def tDC (W : XK) (es : Es) : TT := fun σ H Q => ∃ ρ t F, Sx M F H σ ρ t ∧ PostG M W F H (evalC G es ρ t) fun b t' F' H' => Q b H'
variable {G M}
theorem serW_scr {F : Hp} {a : Addr} {vs : List V} {ds : List D} {K : PySem.W.Frag} (h : SqL K F a vs) (l : RepL M F vs ds) : SerW M (Itl K a) F ds := by
  intro F1 H t s fh tap ntp
  have hs : SqL K H a vs := SqL.same fh (SqL.same s h)
  refine ⟨⟨vs, hs, by rw [l.length]; exact Nat.le_refl _⟩, fun i d e => ?_⟩
  obtain ⟨v, e1, r⟩ := l.get' e
  refine ⟨⟨vs, v, hs, e1⟩, fun w H' y => ?_⟩
  obtain ⟨rfl, y⟩ := y
  have e2 := y vs hs
  rw [e1] at e2
  cases e2
  exact ⟨F1, .refl fh tap ntp, r.same s⟩
theorem serW_list {F : Hp} {a : Addr} {vs : List V} {ds : List D} {K : PySem.W.Frag} (h : Rd F a (.lst vs)) (l : RepL M F vs ds) : SerW M (Itl K a) F ds := serW_scr (.inl h) l
theorem serS_list {B : Addr → Prop} {F H : Hp} {a : Addr} {vs : List V} {ds : List D} {K : PySem.W.Frag} (h : Rd H a (.lst vs)) (nt : ¬ M.tp.own a) (l : RepL M F vs ds) : SerS M (Itl K a) F H ds := by
  intro F1 H1 t s
  have hs : SqL K H1 a vs := by
    rcases h with h | ⟨o, h⟩
    · exact .inl (.inl (s.hh _ _ h nt))
    · exact .inl (.inr ⟨o, s.hh _ _ h nt⟩)
  refine ⟨⟨vs, hs, by rw [l.length]; exact Nat.le_refl _⟩, fun i d e => ?_⟩
  obtain ⟨v, e1, r⟩ := l.get' e
  refine ⟨⟨vs, v, hs, e1⟩, fun w H' y => ?_⟩
  obtain ⟨rfl, y⟩ := y
  have e2 := y vs hs
  rw [e1] at e2
  cases e2
  exact ⟨F1, s.self, r.same s.ff⟩
theorem serW_tup {F : Hp} {a : Addr} {vs : List V} {ds : List D} {K : PySem.W.Frag} (h : SqT K F a vs) (l : RepL M F vs ds) : SerW M (Itt K a) F ds := by
  intro F1 H t s fh tap ntp
  have hs : SqT K H a vs := SqT.same fh (SqT.same s h)
  refine ⟨⟨vs, hs, by rw [l.length]; exact Nat.le_refl _⟩, fun i d e => ?_⟩
  obtain ⟨v, e1, r⟩ := l.get' e
  refine ⟨⟨vs, v, hs, e1⟩, fun w H' y => ?_⟩
  obtain ⟨rfl, y⟩ := y
  have e2 := y vs hs
  rw [e1] at e2
  cases e2
  exact ⟨F1, .refl fh tap ntp, r.same s⟩
theorem serW_rng {F : Hp} (a b : Int) : SerW M (Itr a (b - a).toNat) F (rngI a b) := by
  intro F1 H t s fh tap ntp
  have hl : (rngI a b).length = (b - a).toNat := by unfold rngI; simp
  refine ⟨by rw [hl]; exact Nat.le_refl _, fun i d e => ?_⟩
  have hi : i < (b - a).toNat := by rw [← hl]; exact (List.getElem?_eq_some_iff.mp e).1
  refine ⟨hi, fun w H' y => ?_⟩
  obtain ⟨rfl, rfl⟩ := y
  have ed : d = .int (a + i) := by
    unfold rngI at e
    rw [List.getElem?_map, List.getElem?_range hi] at e
    exact (Option.some.inj e).symm
  rw [ed]
  exact ⟨F1, .refl fh tap ntp, .int _⟩

/-! ### enumerate, zip, reversed -/
theorem enumD_get {ds : List D} {i : Nat} {d : D} (e : (enumD ds)[i]? = some d) : ∃ x, ds[i]? = some x ∧ d = .tup [.int (i : Nat), x] := by
  unfold enumD at e
  rw [List.getElem?_map, List.getElem?_zipIdx] at e
  cases h : ds[i]? with
  | none => rw [h] at e; cases e
  | some x =>
    rw [h] at e
    refine ⟨x, rfl, ?_⟩
    simpa using (Option.some.inj e).symm
theorem zipD_get {xs ys : List D} {i : Nat} {d : D} (e : (zipD xs ys)[i]? = some d) : ∃ x y, xs[i]? = some x ∧ ys[i]? = some y ∧ d = .tup [x, y] := by
  unfold zipD at e
  rw [List.getElem?_map] at e
  obtain ⟨p, e1, e2⟩ := Option.map_eq_some_iff.mp e
  have e3 := List.getElem?_zip_eq_some.mp e1
  exact ⟨p.1, p.2, e3.1, e3.2, e2.symm⟩
theorem enumD_len (ds : List D) : (enumD ds).length = ds.length := by simp [enumD]
theorem zipD_len (xs ys : List D) : (zipD xs ys).length = min xs.length ys.length := by simp [zipD]
/-- what stays, while all stands; while the frozen part stands -/
def StS (M : Md T) (F H : Hp) (P : Hp → Prop) : Prop := ∀ F' H' t, Stp M F H F' H' t → P H'
def StW (F : Hp) (P : Hp → Prop) : Prop := ∀ F' H', Same F F' → Same F' H' → P H'
theorem serS_enum {F H : Hp} {a : Addr} {vs : List V} {ds : List D} {K : PySem.W.Frag} (h : StS M F H fun H => SqL K H a vs) (l : RepL M F vs ds) : SerS M (Ite K a) F H (enumD ds) := by
  intro F1 H1 t s
  have hs := h F1 H1 t s
  refine ⟨⟨vs, hs, by rw [l.length, enumD_len]; exact Nat.le_refl _⟩, fun i d e => ?_⟩
  obtain ⟨x, ex, rfl⟩ := enumD_get e
  obtain ⟨v, e1, r⟩ := l.get' ex
  refine ⟨⟨vs, v, hs, e1⟩, fun w H' ⟨A, y, e2, n, e3, e4⟩ => ?_⟩
  subst e2 e3
  have e5 := e4 vs hs
  rw [e1] at e5
  cases e5
  exact ⟨_, Stp.newF s.fh s.tap s.ntp n, .tup (.inl (.inl upd_same)) (.cons (.int _) (.cons ((r.same s.ff).same (Stp.newF (o := .tup [.int (i : Nat), v]) s.fh s.tap s.ntp n).ff) .nil))⟩
theorem serW_enum {F : Hp} {a : Addr} {vs : List V} {ds : List D} {K : PySem.W.Frag} (h : StW F fun H => SqL K H a vs) (l : RepL M F vs ds) : SerW M (Ite K a) F (enumD ds) := by
  intro F1 H1 t s fh tap ntp
  have := serS_enum (M := M) (F := F1) (H := H1) (K := K) (a := a) (fun F' H' t st => h F' H' (fun b x e => st.ff _ _ (s _ _ e)) st.fh) (l.same s)
  exact this F1 H1 t (.refl fh tap ntp)
theorem serS_zip {F H : Hp} {a b : Addr} {vs ws : List V} {ds es : List D} {K : PySem.W.Frag} (h : StS M F H fun H => SqL K H a vs) (h2 : StS M F H fun H => SqL K H b ws) (l : RepL M F vs ds) (l2 : RepL M F ws es) : SerS M (Itz K a b) F H (zipD ds es) := by
  intro F1 H1 t s
  have hs := h F1 H1 t s
  have hs2 := h2 F1 H1 t s
  refine ⟨⟨vs, ws, hs, hs2, by rw [l.length, l2.length, zipD_len]; omega⟩, fun i d e => ?_⟩
  obtain ⟨x, y, ex, ey, rfl⟩ := zipD_get e
  obtain ⟨v, e1, r⟩ := l.get' ex
  obtain ⟨w, f1, r2⟩ := l2.get' ey
  refine ⟨⟨vs, ws, v, w, hs, hs2, e1, f1⟩, fun u H' ⟨A, p, q, e2, n, e3, e4, f4⟩ => ?_⟩
  subst e2 e3
  have e5 := e4 vs hs
  have f5 := f4 ws hs2
  rw [e1] at e5
  rw [f1] at f5
  cases e5
  cases f5
  have ff := (Stp.newF (M := M) (o := .tup [v, w]) s.fh s.tap s.ntp n).ff
  exact ⟨_, Stp.newF s.fh s.tap s.ntp n, .tup (.inl (.inl upd_same)) (.cons ((r.same s.ff).same ff) (.cons ((r2.same s.ff).same ff) .nil))⟩
theorem serW_zip {F : Hp} {a b : Addr} {vs ws : List V} {ds es : List D} {K : PySem.W.Frag} (h : StW F fun H => SqL K H a vs) (h2 : StW F fun H => SqL K H b ws) (l : RepL M F vs ds) (l2 : RepL M F ws es) : SerW M (Itz K a b) F (zipD ds es) := by
  intro F1 H1 t s fh tap ntp
  have := serS_zip (M := M) (F := F1) (H := H1) (K := K) (a := a) (b := b) (fun F' H' t st => h F' H' (fun b x e => st.ff _ _ (s _ _ e)) st.fh) (fun F' H' t st => h2 F' H' (fun b x e => st.ff _ _ (s _ _ e)) st.fh) (l.same s) (l2.same s)
  exact this F1 H1 t (.refl fh tap ntp)
theorem serW_zipT {F : Hp} {a b : Addr} {vs ws : List V} {ds es : List D} {K : PySem.W.Frag} (h : SqT K F a vs) (h2 : SqT K F b ws) (l : RepL M F vs ds) (l2 : RepL M F ws es) : SerW M (RZ.ItzT K a b) F (zipD ds es) := by
  intro F1 H1 t s fh tap ntp
  have hs := SqT.same fh (SqT.same s h)
  have hs2 := SqT.same fh (SqT.same s h2)
  refine ⟨⟨vs, ws, hs, hs2, by rw [l.length, l2.length, zipD_len]; omega⟩, fun i d e => ?_⟩
  obtain ⟨x, y, ex, ey, rfl⟩ := zipD_get e
  obtain ⟨v, e1, r⟩ := l.get' ex
  obtain ⟨w, f1, r2⟩ := l2.get' ey
  refine ⟨⟨vs, ws, v, w, hs, hs2, e1, f1⟩, fun u H' ⟨A, p, q, e2, n, e3, e4, f4⟩ => ?_⟩
  subst e2 e3
  have e5 := e4 vs hs
  have f5 := f4 ws hs2
  rw [e1] at e5
  rw [f1] at f5
  cases e5
  cases f5
  have ff := (Stp.newF (M := M) (o := .tup [v, w]) fh tap ntp n).ff
  exact ⟨_, Stp.newF fh tap ntp n, .tup (.inl (.inl upd_same)) (.cons ((r.same s).same ff) (.cons ((r2.same s).same ff) .nil))⟩
theorem serS_rev {F H : Hp} {a : Addr} {vs : List V} {ds : List D} {K : PySem.W.Frag} (h : StS M F H fun H => SqL K H a vs) (l : RepL M F vs ds) : SerS M (Itv K a vs.length) F H ds.reverse := by
  intro F1 H1 t s
  have hs := h F1 H1 t s
  refine ⟨by show vs.length ≤ _; rw [l.length, List.length_reverse]; exact Nat.le_refl _, fun i d e => ?_⟩
  have hi : i < ds.length := by have := (List.getElem?_eq_some_iff.mp e).1; simpa using this
  rw [List.getElem?_reverse hi, ← l.length] at e
  obtain ⟨v, e1, r⟩ := l.get' e
  refine ⟨⟨by rw [l.length]; exact hi, vs, v, hs, e1⟩, fun w H' ⟨e2, y⟩ => ?_⟩
  subst e2
  have e3 := y vs hs
  rw [e1] at e3
  cases e3
  exact ⟨F1, s.self, r.same s.ff⟩
theorem serW_rev {F : Hp} {a : Addr} {vs : List V} {ds : List D} {K : PySem.W.Frag} (h : StW F fun H => SqL K H a vs) (l : RepL M F vs ds) : SerW M (Itv K a vs.length) F ds.reverse := by
  intro F1 H1 t s fh tap ntp
  have := serS_rev (M := M) (F := F1) (H := H1) (K := K) (a := a) (fun F' H' t st => h F' H' (fun b x e => st.ff _ _ (s _ _ e)) st.fh) (l.same s)
  exact this F1 H1 t (.refl fh tap ntp)
theorem serW_revT {F : Hp} {a : Addr} {vs : List V} {ds : List D} {K : PySem.W.Frag} (h : SqT K F a vs) (l : RepL M F vs ds) : SerW M (RT.ItvT K a vs.length) F ds.reverse := by
  intro F1 H1 t s fh tap ntp
  have hs := SqT.same fh (SqT.same s h)
  refine ⟨by show vs.length ≤ _; rw [l.length, List.length_reverse]; exact Nat.le_refl _, fun i d e => ?_⟩
  have hi : i < ds.length := by have := (List.getElem?_eq_some_iff.mp e).1; simpa using this
  rw [List.getElem?_reverse hi, ← l.length] at e
  obtain ⟨v, e1, r⟩ := l.get' e
  refine ⟨⟨by rw [l.length]; exact hi, vs, v, hs, e1⟩, fun w H' ⟨e2, y⟩ => ?_⟩
  subst e2
  have e3 := y vs hs
  rw [e1] at e3
  cases e3
  exact ⟨F1, .refl fh tap ntp, r.same s⟩
/-- a list that is not fresh stays -/
theorem lst_stay {B : Addr → Prop} {H0 F H : Hp} {v : V} {ys : List D} {k : Kd} (fh : Same F H) (hk : k ≠ .fr) (hv : VRep (M := M) B H0 F H v (.lst ys, k)) : ∃ a vs, v = .ref a ∧ RepL M F vs ys ∧ SqL M.K H a vs ∧ StS M F H (fun H => SqL M.K H a vs) ∧ (k ≠ .br → StW F fun H => SqL M.K H a vs) := by
  cases k with
  | fr => exact absurd rfl hk
  | fz =>
    cases (show Rep M F v (.lst ys) from hv) with
    | lst hs l =>
      have w : StW F fun H => SqL M.K H _ _ := fun F' H' s1 s2 => .inl (Rd.same s2 (Rd.same s1 hs))
      exact ⟨_, _, rfl, l, .inl (Rd.same fh hs), fun F' H' t st => w F' H' st.ff st.fh, fun _ => w⟩
  | br =>
    obtain ⟨a, e, ⟨nf, nt, o, eo, c⟩, _⟩ := hv
    cases c with
    | @lst ws _ l => exact ⟨a, ws, e, l, .inl (.inl eo), fun F' H' t st => .inl (.inl (st.hh _ _ eo nt)), fun z => absurd rfl z⟩

/-- a new object, seen from further back -/
theorem Stp.updN {F0 H0 F H : Hp} {t : T} (s : Stp M F0 H0 F H t) {p : Addr} {o : HO} (n0 : H0 p = none) (nf : F p = none) (nt : ¬ M.tp.own p) (ne : ∀ φ, H p ≠ some (.ext φ)) (ho : ∀ ps, o ≠ .tbl ps := by exact fun _ z => nomatch z) : Stp M F0 H0 F (upd H p o) t where
  fh := fun b x q => by rw [upd_ne (ne_of_none q nf)]; exact s.fh b x q
  tap := M.tp.loc (fun a ha => by
    have z : a ≠ p := fun z => nt (z ▸ ha)
    rw [upd_ne z]) (fun a φ e => by
    have z : a ≠ p := fun z => ne φ (z ▸ e)
    rw [upd_ne z]; exact e) (fun a ps e => by
    by_cases z : a = p
    · subst z; rw [upd_same] at e; cases e; exact absurd rfl (ho _)
    · rw [upd_ne z] at e; exact e) s.tap
  ntp := s.ntp
  ff := s.ff
  new := s.new
  hh := fun b x q n => by rw [upd_ne (ne_of_none q n0)]; exact s.hh b x q n
  tb := fun a ps e => by
    by_cases z : a = p
    · subst z; rw [upd_same] at e; cases e; exact absurd rfl (ho _)
    · rw [upd_ne z] at e; exact s.tb a ps e

/-- the turns of a comprehension -/
theorem lc_run {X : Cx} {W : XK} (hK : M.K = X.K) {elt : E} {tg : Tg} {conds : Es} {vs : List Nat} {J : L2.It} {F H F1 H1 : Hp} {σ : L2.St} {ρ : En} {t t1 t2 : T} {xs r : List D} {D : Addr} {Q : VK}
    (hown : tgOwn tg vs = true) (hw : okW ρ vs = true) (sx : Sx M F H σ ρ t) (s1 : Stp M F H F1 H1 t1) (ser : SerS M J F1 H1 xs) (nD : H1 D = none)
    (hl : lcL (fun d t => match bindT (wipeE ρ vs) tg d with
      | none => .no
      | some ρ1 => (evalC G conds ρ1 t).bind fun b t => if b then (evalE G elt ρ1 t).bind fun e t => ofO ((fzOf e).map some) t else .ok none t) xs t1 = .ok r t2) (hr : r.length ≤ lim)
    (hQ : ∀ F' H', Stp M F H F' H' t2 → Own (M := M) F' H' D (.lst r) → Q (.ref D) H') :
    ∃ Wn : Nat → Nat → Hp → Prop, (∃ m, Wn 0 m (upd H1 D (.lst []))) ∧ ∀ i m H, Wn i m H →
      (J.stop i H ∧ Q (.ref D) H) ∨ (J.go i H ∧ ∃ Nx : Hp → Prop, (∀ H', Nx H' → ∃ m', m' < m ∧ Wn (i + 1) m' H') ∧ ∀ x H', J.yld i H x H' → tgT X.K tg x (L2.wipe σ vs) H' fun σ2 H2 => L2.wipe σ2 vs = L2.wipe σ vs ∧ tDC G M (fun _ _ _ => False) conds σ2 H2 fun b H3 =>
        if b = true then tD M G (fun _ _ _ => False) elt σ2 H3 fun y H4 => ∃ acc, H4 D = some (.lst acc) ∧ acc.length < sizeLine ∧ Nx (upd H4 D (.lst (acc ++ [y]))) else Nx H3) := by
  generalize hf : (fun (d : DE.D) (t : T) => match bindT (wipeE ρ vs) tg d with
      | none => (R.no : R T (Option DE.D))
      | some ρ1 => (evalC G conds ρ1 t).bind fun b t => if b then (evalE G elt ρ1 t).bind fun e t => ofO ((fzOf e).map some) t else .ok none t) = f at hl
  have ntD : ¬ M.tp.own D := nt_new s1.tap nD
  refine ⟨fun i m Hc => m = xs.length - i ∧ i ≤ xs.length ∧ ∃ Fc tc acc ri vacc, Stp M F1 H1 Fc Hc tc ∧ Hc D = some (.lst vacc) ∧ Fc D = none ∧ RepL M Fc vacc acc ∧ lcL f (xs.drop i) tc = .ok ri t2 ∧ r = acc ++ ri, ⟨xs.length, by simp, Nat.zero_le _, F1, t1, [], r, [], s1.self.updN nD (nf_new s1.fh nD) ntD (fun φ z => by rw [nD] at z; cases z), upd_same, nf_new s1.fh nD, .nil, hl, rfl⟩, ?_⟩
  rintro i m Hc ⟨rfl, hi, Fc, tc, acc, ri, vacc, sc, eD, nfD, lacc, el, er⟩
  obtain ⟨hstop, hgo⟩ := ser Fc Hc tc sc
  by_cases hlt : i < xs.length
  · have ed : xs[i]? = some xs[i] := List.getElem?_eq_getElem hlt
    obtain ⟨g1, g2⟩ := hgo i _ ed
    refine .inr ⟨g1, fun H' => i + 1 ≤ xs.length ∧ ∃ Fc tc acc ri vacc, Stp M F1 H1 Fc H' tc ∧ H' D = some (.lst vacc) ∧ Fc D = none ∧ RepL M Fc vacc acc ∧ lcL f (xs.drop (i + 1)) tc = .ok ri t2 ∧ r = acc ++ ri, fun H' h' => ⟨xs.length - (i + 1), by omega, rfl, h'⟩, fun x H' hy => ?_⟩
    obtain ⟨F', s', rx⟩ := g2 x H' hy
    have edr : xs.drop i = xs[i] :: xs.drop (i + 1) := List.drop_eq_getElem_cons hlt
    rw [edr] at el
    unfold lcL at el
    -- what the data say of this turn
    cases eb : bindT (wipeE ρ vs) tg xs[i] with
    | none =>
      rw [← hf] at el
      simp only [eb] at el
      cases el
    | some ρ1 =>
      have efi : f xs[i] tc = (evalC G conds ρ1 tc).bind fun b t => if b then (evalE G elt ρ1 t).bind fun e t => ofO ((fzOf e).map some) t else .ok none t := by
        rw [← hf]
        simp only [eb]
      rw [efi] at el
      refine bindT_ok hK ((sx.step (s1.trans (sc.trans s'))).wipe vs hw) rx eb fun σ2 hw2 _ sx2 => ⟨by rw [hw2 vs hown, wipe_wipe], ?_⟩
      cases ec : evalC G conds ρ1 tc with
      | ex c v t => rw [ec] at el; cases el
      | no => rw [ec] at el; cases el
      | ok b tb =>
        rw [ec] at el
        refine ⟨ρ1, tc, F', sx2, ?_⟩
        rw [ec]
        intro F3 H3 s3
        have sc3 : Stp M F1 H1 F3 H3 tb := (sc.trans s').trans s3
        have scc : Stp M Fc Hc F3 H3 tb := s'.trans s3
        have eD3 : H3 D = some (.lst vacc) := scc.hh D _ eD ntD
        have nfD3 : F3 D = none := by
          cases z : F3 D with
          | none => rfl
          | some o =>
            rcases scc.new D o z with z | z | ⟨_, z⟩
            · rw [nfD] at z; cases z
            · rw [eD] at z; cases z
            · rw [eD] at z; cases z
        cases b with
        | false =>
          have el2 : ((R.ok none tb : R T (Option DE.D)).bind fun o t => (lcL f (xs.drop (i + 1)) t).bind fun r t => R.ok (match o with | some d => d :: r | none => r) t) = .ok ri t2 := el
          dsimp only
          rw [if_neg Bool.false_ne_true]
          cases e2 : lcL f (xs.drop (i + 1)) tb with
          | ex c v t => simp only [R.bind, e2] at el2; cases el2
          | no => simp only [R.bind, e2] at el2; cases el2
          | ok r2 t3 =>
            simp only [R.bind, e2] at el2
            cases el2
            exact ⟨hlt, F3, tb, acc, _, vacc, sc3, eD3, nfD3, lacc.same scc.ff, e2, er⟩
        | true =>
          dsimp only
          rw [if_pos rfl]
          cases ee : evalE G elt ρ1 tb with
          | ex c v t => simp only [R.bind, ee] at el; cases el
          | no => simp only [R.bind, ee] at el; cases el
          | ok d te =>
            obtain ⟨d, k⟩ := d
            have hk : k ≠ .br := fun z => by
              subst z
              simp only [R.bind, ee, fzOf, ofO] at el
              cases el
            have e0 : fzOf (d, k) = some d := by cases k <;> first | rfl | exact absurd rfl hk
            simp only [R.bind, ee, e0, ofO, Option.map_some, ↓reduceIte] at el
            refine ⟨ρ1, tb, F3, sx2.step s3, ?_⟩
            rw [ee]
            intro F4 H4 s4 v hv
            cases e2 : lcL f (xs.drop (i + 1)) te with
            | ex c v t => simp only [e2] at el; cases el
            | no => simp only [e2] at el; cases el
            | ok r2 t3 =>
              simp only [e2] at el
              cases el
              have eD4 : H4 D = some (.lst vacc) := s4.hh D _ eD3 ntD
              have nfD4 : F4 D = none := by
                cases z : F4 D with
                | none => rfl
                | some o =>
                  rcases s4.new D o z with z | z | ⟨_, z⟩
                  · rw [nfD3] at z; cases z
                  · rw [eD3] at z; cases z
                  · rw [eD3] at z; cases z
              -- the new item frozen
              obtain ⟨F5, s5, ff5, r5, n5⟩ : ∃ F5, Stp M F3 H3 F5 H4 te ∧ Same F4 F5 ∧ Rep M F5 v d ∧ F5 D = none := by
                cases k with
                | fz => exact ⟨F4, s4, fun _ _ q => q, hv, nfD4⟩
                | br => exact absurd rfl hk
                | fr =>
                  obtain ⟨a, rfl, ⟨nf, nt, o, q, c⟩, na⟩ := hv
                  have zD : D ≠ a := fun z => by rw [← z, eD3] at na; cases na
                  refine ⟨putF F4 H4 a, s4.put q (.inl nf) nt na, putF_same q (.inl nf), ?_, ?_⟩
                  · exact Rep.of_cont (o := o) (by unfold putF; rw [if_pos rfl]; exact q) (c.same (putF_same q (.inl nf)))
                  · unfold putF; rw [if_neg zD]; exact nfD4
              have lenr : acc.length < sizeLine := by
                have : r.length ≤ sizeLine := hr
                rw [er, List.length_append, List.length_cons] at this
                omega
              refine ⟨vacc, eD4, by rw [lacc.length]; exact lenr, hlt, F5, te, acc ++ [d], r2, vacc ++ [v], (sc3.trans s5).updN nD n5 ntD (fun φ z => by rw [eD4] at z; cases z), upd_same, n5, ?_, e2, by rw [er]; simp⟩
              exact RepL.append (lacc.same (fun b x q => s5.ff b x (scc.ff b x q))) (.cons r5 .nil)
  · have e : i = xs.length := by omega
    subst e
    refine .inl ⟨hstop, hQ Fc Hc ?_ ?_⟩
    · rw [List.drop_length] at el
      unfold lcL at el
      cases el
      exact s1.trans sc
    · rw [List.drop_length] at el
      unfold lcL at el
      cases el
      rw [List.append_nil] at er
      rw [er]
      exact ⟨nfD, ntD, _, eD, .lst lacc⟩
end
end DE
set_option maxHeartbeats 4000000
/-! DE9B: enumerate, zip, reversed as iterables. -/
namespace DE
open PySem PySem.Spec PyProof.Rows L2
section
variable {T : Type} {G : Pg T} {M : Md T}
theorem frzK_k (d : D) (k : Kd) : frzK (d, k) = (d, frz1 k) := by cases k <;> rfl
theorem frz1_fr (k : Kd) : frz1 k ≠ .fr := by cases k <;> (intro z; cases z)
theorem brOr_l {k k' : Kd} (h : brOr k k' ≠ .br) : k ≠ .br ∧ k' ≠ .br := by
  cases k <;> cases k' <;> first | exact absurd rfl h | (constructor <;> (intro z; cases z))
theorem frz1_br {k : Kd} (h : k ≠ .br) : frz1 k ≠ .br := by
  cases k <;> first | exact absurd rfl h | (intro z; cases z)
theorem it_enum {X : Cx} {sc : Scope} (C : Ct G M X sc) {W : XK} {e : E} {xe : Expr} {elts : List Expr} {kk : Nat} {tpos p pos : Pos} (hg : Gl X "enumerate") (pe : PE X xe (tD M G W e)) (hs : ∀ env xs, starEach (xe :: xs) env = (false, eval xe env) :: starEach xs env) :
    PI X (.Tuple elts kk tpos) (.Call (.Name "enumerate" p) [xe] [] pos) (tIt G M W (.enum e)) := by
  refine (pi_enum hg (C.free _ (by decide +kernel)) (pa_cons pe pa_nil (hs _ _)) (hs _ _)).imp fun σ H R ⟨ρ, t, F, sx, q⟩ => ?_
  unfold evalIt at q
  refine ⟨ρ, t, F, sx, (PostG.bind' q).imp fun d t1 F1 H1 s1 q2 v hv => ?_⟩
  obtain ⟨d, k⟩ := d
  cases d <;> (try exact (show False from q2).elim)
  rename_i ys
  obtain ⟨F2, s2, ff, hv2⟩ := VRepL.freeze sx.bo s1 (.cons hv .nil : VRepL (M := M) (Bo σ ρ) H F1 H1 [v] [(.lst ys, k)])
  rw [List.map_cons, frzK_k] at hv2
  cases hv2 with
  | cons hv2 _ =>
    obtain ⟨a, vs, rfl, l, h1, st, wt⟩ := lst_stay s2.fh (frz1_fr k) hv2
    rw [C.hK] at h1 st wt
    exact ⟨a, vs, rfl, h1, (show PostG M W F H (.ok (enumD ys, frz1 k) t1) _ from q2) F1 H1 s1 (Ite X.K a) F2 s2 ff (fun z => serW_enum (wt z) l) (serS_enum st l)⟩
theorem it_zip {X : Cx} {sc : Scope} (C : Ct G M X sc) {W : XK} {a b : E} {xa xb : Expr} {elts : List Expr} {kk : Nat} {tpos p pos : Pos} (hg : Gl X "zip") (pa : PE X xa (tD M G W a)) (pb : PE X xb (tD M G W b)) (hs : ∀ env xs, starEach (xa :: xs) env = (false, eval xa env) :: starEach xs env)
    (hs2 : ∀ env xs, starEach (xb :: xs) env = (false, eval xb env) :: starEach xs env) :
    PI X (.Tuple elts kk tpos) (.Call (.Name "zip" p) [xa, xb] [] pos) (tIt G M W (.zip a b)) := by
  refine (RZ.pi_zipA hg (C.free _ (by decide +kernel)) (pa_cons pa (pa_cons pb pa_nil (hs2 _ _)) (hs _ _)) (hs _ _) (by rw [hs2]; rfl)).imp fun σ H R ⟨ρ, t, F, sx, q⟩ => ?_
  unfold evalIt at q
  refine ⟨ρ, t, F, sx, (PostG.bind' q).imp fun d t1 F1 H1 s1 q2 v hv => ⟨ρ, t1, F1, sx.step s1, ((PostG.bind' q2).from_ s1).imp fun e t2 F2 H2 s2 q3 w hw => ?_⟩⟩
  obtain ⟨d, k⟩ := d
  obtain ⟨e, ke⟩ := e
  have s12 := s1.trans s2
  cases d <;> (try exact (show False from q3).elim) <;> cases e <;> (try exact (show False from q3).elim)
  · rename_i xs ys
    obtain ⟨a, vs, rfl, h1, f1, l1, _⟩ := hv.tup s1.fh
    obtain ⟨b, ws, rfl, h2, f2, l2, _⟩ := hw.tup s2.fh
    have f1' := SqT.same s2.ff f1
    have h1' := SqT.same s2.fh f1'
    have sw := serW_zipT (M := M) f1' f2 (l1.same s2.ff) l2
    rw [C.hK] at h1' h2 sw
    exact ⟨a, b, vs, ws, rfl, .inr ⟨h1', h2, (show PostG M W F H (DE.R.ok (zipD xs ys, Kd.fz) t2) _ from q3) F2 H2 s12 _ F2 s12 (fun _ _ z => z) (fun _ => sw) sw.toS⟩⟩
  · rename_i xs ys
    obtain ⟨F3, s3, ff, hv2⟩ := VRepL.freeze sx.bo s12 (.cons (hv.step s2) (.cons (hw.old s1) .nil) : VRepL (M := M) (Bo σ ρ) H F2 H2 [v, w] [(.lst xs, k), (.lst ys, ke)])
    rw [List.map_cons, List.map_cons, frzK_k, frzK_k] at hv2
    cases hv2 with
    | cons hv2 hw2 =>
      cases hw2 with
      | cons hw2 _ =>
        obtain ⟨a, vs, rfl, l, h1, st, wt⟩ := lst_stay s3.fh (frz1_fr k) hv2
        obtain ⟨b, ws, rfl, l2, h2, st2, wt2⟩ := lst_stay s3.fh (frz1_fr ke) hw2
        rw [C.hK] at h1 st wt h2 st2 wt2
        refine ⟨a, b, vs, ws, rfl, .inl ⟨h1, h2, (show PostG M W F H (.ok (zipD xs ys, brOr k ke) t2) _ from q3) F2 H2 s12 (Itz X.K a b) F3 s3 ff (fun z => ?_) (serS_zip st st2 l l2)⟩⟩
        have z2 := brOr_l z
        exact serW_zip (wt (frz1_br z2.1)) (wt2 (frz1_br z2.2)) l l2
theorem it_rev {X : Cx} {sc : Scope} (C : Ct G M X sc) {W : XK} {e : E} {xe tg : Expr} {p pos : Pos} (hg : Gl X "reversed") (pe : PE X xe (tD M G W e)) (hs : ∀ env xs, starEach (xe :: xs) env = (false, eval xe env) :: starEach xs env) :
    PI X tg (.Call (.Name "reversed" p) [xe] [] pos) (tIt G M W (.rev e)) := by
  refine (RT.pi_revA hg (C.free _ (by decide +kernel)) pe (hs _ _)).imp fun σ H R ⟨ρ, t, F, sx, q⟩ => ?_
  unfold evalIt at q
  refine ⟨ρ, t, F, sx, (PostG.bind' q).imp fun d t1 F1 H1 s1 q2 v hv => ?_⟩
  obtain ⟨d, k⟩ := d
  cases d <;> (try exact (show False from q2).elim)
  · rename_i ys
    obtain ⟨a, vs, rfl, h1, f1, l1, _⟩ := hv.tup s1.fh
    have sw := serW_revT (M := M) f1 l1
    rw [C.hK] at h1 sw
    exact ⟨a, vs, rfl, .inr ⟨h1, (show PostG M W F H (DE.R.ok (ys.reverse, Kd.fz) t1) _ from q2) F1 H1 s1 _ F1 s1 (fun _ _ z => z) (fun _ => sw) sw.toS⟩⟩
  · rename_i ys
    obtain ⟨F2, s2, ff, hv2⟩ := VRepL.freeze sx.bo s1 (.cons hv .nil : VRepL (M := M) (Bo σ ρ) H F1 H1 [v] [(.lst ys, k)])
    rw [List.map_cons, frzK_k] at hv2
    cases hv2 with
    | cons hv2 _ =>
      obtain ⟨a, vs, rfl, l, h1, st, wt⟩ := lst_stay s2.fh (frz1_fr k) hv2
      rw [C.hK] at h1 st wt
      exact ⟨a, vs, rfl, .inl ⟨h1, (show PostG M W F H (.ok (ys.reverse, frz1 k) t1) _ from q2) F1 H1 s1 _ F2 s2 ff (fun z => serW_rev (wt z) l) (serS_rev st l)⟩⟩
/-! ### calls with keywords -/
theorem permL_len {α : Type} : ∀ {pm : List Nat} {xs ys : List α}, permL pm xs = some ys → ys.length = pm.length
  | [], _, _, h => by cases h; rfl
  | i :: is, xs, ys, h => by
    unfold permL at h
    obtain ⟨x, _, h2⟩ := Option.bind_eq_some_iff.mp h
    obtain ⟨zs, e, rfl⟩ := Option.map_eq_some_iff.mp h2
    rw [List.length_cons, List.length_cons, permL_len e]
theorem permL_vals {vs : List V} {us : List Value} (r : Vals vs us) : ∀ {pm : List Nat} {xs : List V}, permL pm vs = some xs → ∃ ys, permL pm us = some ys ∧ Vals xs ys
  | [], _, h => by cases h; exact ⟨[], rfl, .nil⟩
  | i :: is, xs, h => by
    unfold permL at h
    obtain ⟨x, e1, h2⟩ := Option.bind_eq_some_iff.mp h
    obtain ⟨zs, e2, rfl⟩ := Option.map_eq_some_iff.mp h2
    obtain ⟨u, e3, r1⟩ := r.get e1
    obtain ⟨ys, e4, r2⟩ := permL_vals r e2
    exact ⟨u :: ys, by unfold permL; rw [e3, Option.bind_some, e4]; rfl, .cons r1 r2⟩
theorem VRepL.at_ {B : Addr → Prop} {H0 F H : Hp} : ∀ {vs : List V} {ds : List Dk} {i : Nat} {d : Dk}, VRepL (M := M) B H0 F H vs ds → ds[i]? = some d → ∃ v, vs[i]? = some v ∧ VRep (M := M) B H0 F H v d
  | _, _, _, _, .nil, e => by simp at e
  | _, _, 0, _, .cons h _, e => by cases e; exact ⟨_, rfl, h⟩
  | _, _, i + 1, _, .cons _ l, e => VRepL.at_ (i := i) l e
theorem FrD.nil {vs : List V} : FrD vs [] := fun i j d e a _ h => by simp at h
theorem FrD.cons {B : Addr → Prop} {H F1 H1 F2 H2 : Hp} {v : V} {d : Dk} {vs : List V} {ds : List Dk} (hv : VRep (M := M) B H F1 H1 v d) (hvs : VRepL (M := M) B H1 F2 H2 vs ds) (h : FrD vs ds) : FrD (v :: vs) (d :: ds) := by
  have key : ∀ (k : Nat) (d0 e : D) (a : Addr), d = (d0, .fr) → ds[k]? = some (e, .fr) → v = .ref a → vs[k]? = some (.ref a) → False := by
    intro k d0 e a ed e1 ev e2
    subst ed ev
    obtain ⟨b, eb, ⟨_, _, o, eo, _⟩, _⟩ := hv
    cases eb
    obtain ⟨w, e3, r⟩ := hvs.at_ e1
    rw [e2] at e3
    cases e3
    obtain ⟨b, eb, _, n⟩ := r
    cases eb
    rw [eo] at n
    cases n
  intro i j d1 d2 a hij e1 e2 f1 f2
  cases i with
  | zero =>
    cases j with
    | zero => exact hij rfl
    | succ j => exact key j d1 d2 a (Option.some.inj e1) e2 (Option.some.inj f1) f2
  | succ i =>
    cases j with
    | zero => exact key i d2 d1 a (Option.some.inj e2) e1 (Option.some.inj f2) f1
    | succ j => exact h i j d1 d2 a (fun z => hij (congrArg Nat.succ z)) e1 e2 f1 f2
theorem FrD.app {vs ws : List V} {ds : List D} {es : List Dk} (hl : vs.length = ds.length) (h : FrD ws es) : FrD (vs ++ ws) (ds.map (·, Kd.fz) ++ es) := by
  have key : ∀ (i : Nat) (d : D), (ds.map (·, Kd.fz) ++ es)[i]? = some (d, .fr) → ds.length ≤ i ∧ es[i - ds.length]? = some (d, .fr) := by
    intro i d e
    by_cases hi : i < ds.length
    · rw [List.getElem?_append_left (by simpa using hi), List.getElem?_map, List.getElem?_eq_getElem hi] at e
      cases e
    · rw [List.getElem?_append_right (by simpa using hi), List.length_map] at e
      exact ⟨by omega, e⟩
  intro i j d1 d2 a hij e1 e2 f1 f2
  obtain ⟨i1, e1⟩ := key i d1 e1
  obtain ⟨j1, e2⟩ := key j d2 e2
  rw [List.getElem?_append_right (by omega), hl] at f1 f2
  exact h _ _ d1 d2 a (by omega) e1 e2 f1 f2
theorem permL_rep {B : Addr → Prop} {H0 F H : Hp} {vs : List V} {ds : List Dk} (l : VRepL (M := M) B H0 F H vs ds) : ∀ {pm : List Nat} {es : List Dk}, permL pm ds = some es → ∃ ws, permL pm vs = some ws ∧ VRepL (M := M) B H0 F H ws es
  | [], _, h => by cases h; exact ⟨[], rfl, .nil⟩
  | i :: is, xs, h => by
    unfold permL at h
    obtain ⟨x, e1, h2⟩ := Option.bind_eq_some_iff.mp h
    obtain ⟨zs, e2, rfl⟩ := Option.map_eq_some_iff.mp h2
    obtain ⟨u, e3, r1⟩ := l.at_ e1
    obtain ⟨ys, e4, r2⟩ := permL_rep l e2
    exact ⟨u :: ys, by unfold permL; rw [e3, Option.bind_some, e4]; rfl, .cons r1 r2⟩
theorem VRepL.append {B : Addr → Prop} {H0 F H : Hp} : ∀ {vs ws : List V} {ds es : List Dk}, VRepL (M := M) B H0 F H vs ds → VRepL (M := M) B H0 F H ws es → VRepL (M := M) B H0 F H (vs ++ ws) (ds ++ es)
  | _, _, _, _, .nil, l => l
  | _, _, _, _, .cons h l, l2 => .cons h (VRepL.append l l2)
theorem kw_names {ks : List Str} {env : Env} {pos : Pos} : ∀ {kws : List Keyword} {ks : List Str}, kws.map (·.arg) = ks.map some → (backToKw pos (keywordEach kws env)).all (·.1.isSome) = true ∧ (backToKw pos (keywordEach kws env)).filterMap (·.1) = ks ∧ (backToKw pos (keywordEach kws env)).any (·.1.isNone) = false
  | [], [], _ => ⟨rfl, rfl, rfl⟩
  | [], _ :: _, h => by cases h
  | _ :: _, [], h => by cases h
  | ⟨a, v, p⟩ :: kws, k :: ks, h => by
    have e1 : a = some k := (List.cons.inj h).1
    subst e1
    obtain ⟨h1, h2, h3⟩ := kw_names (ks := ks) (env := env) (pos := pos) (kws := kws) (List.cons.inj h).2
    refine ⟨?_, ?_, ?_⟩
    · show (true && (backToKw pos (keywordEach kws env)).all (·.1.isSome)) = true
      rw [h1]; rfl
    · show k :: (backToKw pos (keywordEach kws env)).filterMap (·.1) = k :: ks
      rw [h2]
    · show (false || (backToKw pos (keywordEach kws env)).any (·.1.isNone)) = false
      rw [h3]; rfl
def tCallP (n m : Nat) (pm : List Nat) (sp : Sp) (E : XK) (t tk : TA) : TE := fun σ H Q => t σ H fun vs H1 => tk σ H1 fun zs H2 => vs.length = n ∧ zs.length = m ∧ ∃ xs, permL pm (vs ++ zs) = some xs ∧ sp xs H2 Q E
theorem run_kp {X : Cx} {CX : CXT} {k n : Nat} {f : Addr} {fd : FuncData} {ps ks : List Str} {pm : List Nat} {sp : Sp} {E : XK} {pins : List (Addr × Obj)} {σ : L2.St} {H : Hp} {s : Shared} {Q : VK} {us ws : List Value} {vs zs xs : List V} (F : FnOk X.prog X.w X.K X.mg X.base CX k f fd ps sp) (hr : Room k X.A) (hb : KBp X.K fd ps n ks pm) (hx : Passes CX X E)
    (I : Inv X pins σ H s) (r : Vals vs us) (rz : Vals zs ws) (l1 : vs.length = n) (l2 : zs.length = ks.length) (e : permL pm (vs ++ zs) = some xs) (h : sp xs H Q E) : wpAny (model X.prog X.w) X.A (call (.ref f) us (ks.zip ws)) (EP X pins σ Q) X.xe s := by
  obtain ⟨ys, e2, r2⟩ := permL_vals (r.append rz) e
  refine wpAny_call (codeAny_mono (F.run X.A X.stack s H ⟨us, ks.zip ws⟩ ys xs Q E hr I.env0 (hb s us ws ys I.kIn (r.length.symm.trans l1) (rz.length.symm.trans l2) e2) r2 h) fun r s' hq => ?_)
  cases r with
  | error e => exact hx pins σ H s e s' I hq
  | ok fl =>
    cases fl with
    | ret u => exact I.after hq
    | next => exact False.elim hq
    | brk => exact False.elim hq
    | cont => exact False.elim hq
theorem pe_kp {X : Cx} {CX : CXT} {k n : Nat} {f : Addr} {fd : FuncData} {ps ks : List Str} {pm : List Nat} {sp : Sp} {E : XK} {x : Str} {p pos : Pos} {e : Expr} {r : List Expr} {kws : List Keyword} {t tk : TA} (F : FnOk X.prog X.w X.K X.mg X.base CX k f fd ps sp) (hr : Room k X.A) (hg : Gl X x) (hm : X.mg x = some (.ref f)) (hk : PySem.W.keepIn X.K (.ref f) = true) (hb : KBp X.K fd ps n ks pm) (hx : Passes CX X E)
    (ha : PA X (e :: r) t) (hkw : PK X kws tk) (hn : kws.map (·.arg) = ks.map some) (hdb : (x == ("__debug__" : Str)) = false) (he : starEach (e :: r) X.env = (false, eval e X.env) :: starEach r X.env) (hpl : (backTo pos (starEach (e :: r) X.env)).any (·.1) = false) :
    PE X (.Call (.Name x p) (e :: r) kws pos) (tCallP n ks.length pm sp E t tk) := by
  obtain ⟨hall, hks, hno⟩ := kw_names (ks := ks) (env := X.env) (pos := pos) hn
  refine ⟨fun pins s σ H Q I h => ?_⟩
  refine wpAny_Call_Name_kw (ld_glob I hg hm ?_ hdb)
  refine PySem.W.callWith_KW (h₀ := X.base) I.ok.mod.kin hk hall (thn (ha.run pos pins s σ H _ I h) fun us s1 ⟨vs, H1, I1, r, q⟩ => ?_) (by rw [hno, hpl]; rfl) he
  refine thn (hkw.run pos pins s1 σ H1 _ I1 q) fun ws s2 ⟨zs, H2, I2, rz, l1, l2, xs, e, q2⟩ => ⟨I2.kIn, ?_⟩
  rw [hks]
  exact run_kp F hr hb hx I2 r rz l1 l2 e q2
theorem pe_kp0 {X : Cx} {CX : CXT} {k n : Nat} {f : Addr} {fd : FuncData} {ps ks : List Str} {pm : List Nat} {sp : Sp} {E : XK} {x : Str} {p pos : Pos} {kws : List Keyword} {tk : TA} (F : FnOk X.prog X.w X.K X.mg X.base CX k f fd ps sp) (hr : Room k X.A) (hg : Gl X x) (hm : X.mg x = some (.ref f)) (hk : PySem.W.keepIn X.K (.ref f) = true) (hb : KBp X.K fd ps n ks pm) (hx : Passes CX X E)
    (hkw : PK X kws tk) (hn : kws.map (·.arg) = ks.map some) (hdb : (x == ("__debug__" : Str)) = false) :
    PE X (.Call (.Name x p) [] kws pos) (tCallP n ks.length pm sp E tNil tk) := by
  obtain ⟨hall, hks, hno⟩ := kw_names (ks := ks) (env := X.env) (pos := pos) hn
  refine ⟨fun pins s σ H Q I h => ?_⟩
  refine wpAny_Call_Name_kw (ld_glob I hg hm ?_ hdb)
  refine PySem.W.callWith_KW0 (h₀ := X.base) I.ok.mod.kin hk hall (thn (hkw.run pos pins _ σ H _ I h) fun ws s2 ⟨zs, H2, I2, rz, l1, l2, xs, e, q2⟩ => ⟨I2.kIn, ?_⟩) (by rw [hno]; rfl)
  rw [hks]
  exact run_kp F hr hb hx I2 .nil rz l1 l2 e q2
end
end DE
set_option maxHeartbeats 4000000
/-! DE9C: rules that HandS lacks: a chain of three comparisons. -/
namespace DE
open PySem PySem.Spec PyProof.Rows L2
section
variable {X : Cx} {a b c d : Expr} {ta tb tc td : TE} {pos : Pos}
/-- a op1 b op2 c op3 d -/
def tChain3 (r r' r'' : R2) (ta tb tc td : TE) : TE := fun σ H Q => ta σ H fun x H1 => tb σ H1 fun y H2 => r x y H2 fun z H3 => ∃ k, z = .bl k ∧
  (if k = true then tc σ H3 fun w H4 => r' y w H4 fun z2 H5 => ∃ k2, z2 = .bl k2 ∧ (if k2 = true then td σ H5 fun u H6 => r'' w u H6 Q else Q (.bl false) H5) else Q (.bl false) H3)
theorem pe_chain3 {op op' op'' : CmpOp} {r r' r'' : R2} (ho : OpR X (compareOp op) r) (ho' : OpR X (compareOp op') r') (ho'' : OpR X (compareOp op'') r'') (ha : PE X a ta) (hb : PE X b tb) (hc : PE X c tc) (hd : PE X d td)
    (hm : lastMarks [op, op', op''] [b, c, d] = false) : PE X (.Compare a [op, op', op''] [b, c, d] pos) (tChain3 r r' r'' ta tb tc td) := by
  refine ⟨fun pins s σ H Q I h => ?_⟩
  refine Compare_chain (thn (ha.run pins s σ H _ I h) fun v s1 ⟨x, H1, I1, r1, q1⟩ => chain_link (thn (hb.run pins s1 σ H1 _ I1 q1) fun u s2 ⟨y, H2, I2, r2, q2⟩ =>
    thn (ho pins s2 σ H2 x y v u _ I2 r1 r2 q2) fun d s3 ⟨z, H3, I3, r3, k, e, q3⟩ => ?_)) hm
  subst e
  cases r3
  refine wpAny_truthy_bool ?_
  cases k with
  | false => exact ite_ff ⟨.bl false, H3, I3, rfl, q3⟩
  | true =>
    refine ite_tt (chain_link (thn (hc.run pins s3 σ H3 _ I3 q3) fun w' s4 ⟨z', H4, I4, r4, q4⟩ => thn (ho' pins s4 σ H4 y z' u w' _ I4 r2 r4 q4) fun d2 s5 ⟨z2, H5, I5, r5, k2, e2, q5⟩ => ?_))
    subst e2
    cases r5
    refine wpAny_truthy_bool ?_
    cases k2 with
    | false => exact ite_ff ⟨.bl false, H5, I5, rfl, q5⟩
    | true => exact ite_tt (chain_last (thn (hd.run pins s5 σ H5 _ I5 q5) fun x' s6 ⟨z6, H6, I6, r6, q6⟩ => ho'' pins s6 σ H6 z' z6 w' x' Q I6 r4 r6 q6))
theorem pt_chain3 {op op' op'' : CmpOp} {r r' r'' : R2} (ho : OpR X (compareOp op) r) (ho' : OpR X (compareOp op') r') (ho'' : OpR X (compareOp op'') r'') (ha : PE X a ta) (hb : PE X b tb) (hc : PE X c tc) (hd : PE X d td)
    (hm : lastMarks [op, op', op''] [b, c, d] = false) : PT X (.Compare a [op, op', op''] [b, c, d] pos) (tTest (tChain3 r r' r'' ta tb tc td)) := by
  refine ⟨fun pins s σ H Q I h => ?_⟩
  refine isTrue_chain (thn (ha.run pins s σ H _ I h) fun v s1 ⟨x, H1, I1, r1, q1⟩ => test_link (thn (hb.run pins s1 σ H1 _ I1 q1) fun u s2 ⟨y, H2, I2, r2, q2⟩ =>
    thn (ho pins s2 σ H2 x y v u _ I2 r1 r2 q2) fun d s3 ⟨z, H3, I3, r3, k, e, q3⟩ => ?_)) hm
  subst e
  cases r3
  refine wpAny_truthy_bool ?_
  cases k with
  | false =>
    obtain ⟨k', e', q'⟩ := q3
    cases e'
    exact ite_ff ⟨H3, I3, q'⟩
  | true =>
    refine ite_tt (test_link (thn (hc.run pins s3 σ H3 _ I3 q3) fun w' s4 ⟨z', H4, I4, r4, q4⟩ => thn (ho' pins s4 σ H4 y z' u w' _ I4 r2 r4 q4) fun d2 s5 ⟨z2, H5, I5, r5, k2, e2, q5⟩ => ?_))
    subst e2
    cases r5
    refine wpAny_truthy_bool ?_
    cases k2 with
    | false =>
      obtain ⟨k', e', q'⟩ := q5
      cases e'
      exact ite_ff ⟨H5, I5, q'⟩
    | true =>
      refine ite_tt (test_last (thn (hd.run pins s5 σ H5 _ I5 q5) fun x' s6 ⟨z6, H6, I6, r6, q6⟩ => thn (ho'' pins s6 σ H6 z' z6 w' x' _ I6 r4 r6 q6) fun d' s7 ⟨z7, H7, I7, r7, k3, e3, q7⟩ => ?_))
      subst e3
      cases r7
      exact wpAny_truthy_bool ⟨H7, I7, q7⟩
end
end DE
set_option maxHeartbeats 4000000
/-! DE10: soundness of expressions, the whole. -/
namespace DE
open PySem PySem.Spec PyProof.Rows L2

section
variable {T : Type} {G : Pg T} {M : Md T}
theorem and3 {a b : Bool} (h : (a && b) = true) : a = true ∧ b = true := Bool.and_eq_true_iff.mp h

theorem lookup_relabel {env : Env} {scope : Scope} (x : Str) : (relabel scope env).names.lookup x = (scope.names.lookup x).map fun k => if (k == NameKind.free && env.scope.kind == .function && env.kindOf x == some .cell) then .cell else k := by
  show List.lookup x (scope.names.map fun (n, k) => if (k == NameKind.free && env.scope.kind == .function && env.kindOf n == some .cell) then (n, NameKind.cell) else (n, k)) = _
  induction scope.names with
  | nil => rfl
  | cons p r ih =>
    obtain ⟨n, k⟩ := p
    have e : (if (k == NameKind.free && env.scope.kind == .function && env.kindOf n == some .cell) = true then (n, NameKind.cell) else (n, k)) = (n, if (k == NameKind.free && env.scope.kind == .function && env.kindOf n == some .cell) = true then NameKind.cell else k) := by split <;> rfl
    rw [List.map_cons]
    show List.lookup x ((if (k == NameKind.free && env.scope.kind == .function && env.kindOf n == some .cell) = true then (n, NameKind.cell) else (n, k)) :: _) = _
    rw [e, List.lookup_cons, List.lookup_cons]
    cases hx : x == n with
    | true =>
      have : x = n := by simpa using hx
      subst this
      rfl
    | false => exact ih
/-- a comprehension's block has the facts too -/
theorem Ct.blk {X : Cx} {sc : Scope} (C : Ct G M X sc) (s : Shared) (H : Hp) (scope : Scope) (cl : List (Str × Addr)) (Cn : Addr) (fp : List Addr) : Ct G M (X.blk s H scope (compEnvC scope cl Cn X.env) fp) (mkC sc scope) where
  vis := fun x h => by
    show Vis (relabel scope X.env) x
    unfold Vis
    rw [lookup_relabel]
    have h : isLoc scope x = true := h
    unfold isLoc at h
    split at h
    · rename_i e; rw [e]; exact .inl rfl
    · rename_i e; rw [e]; exact .inr (.inl rfl)
    · rename_i e
      rw [e]
      simp only [Option.map_some]
      split
      · exact .inr (.inl rfl)
      · exact .inr (.inr rfl)
    · cases h
  gl := fun x h => by
    show (relabel scope X.env).names.lookup x = _
    have h : scope.names.lookup x = some .globalImplicit := h
    rw [lookup_relabel, h]
    rfl
  own := fun x h => by
    have hl : ∀ k, scope.names.lookup x = some k → k ≠ .free → (relabel scope X.env).names.lookup x = some k := fun k e n => by
      rw [lookup_relabel, e]
      cases k <;> first | rfl | exact absurd rfl n
    have h : scope.names.lookup x = some .local ∨ scope.names.lookup x = some .cell := h
    rcases h with h | h
    · exact ⟨.inl (hl _ h (by decide)), .inr (hl _ h (by decide))⟩
    · refine ⟨.inr (hl _ h (by decide)), .inl ?_⟩
      show (scope.names.lookup x == some .cell) = true
      rw [h]
      rfl
  capt := fun x h => by
    show (relabel scope X.env).names.lookup x = some .cell ∨ (relabel scope X.env).names.lookup x = some .free
    rw [lookup_relabel]
    have h : scope.names.lookup x = some .cell ∨ scope.names.lookup x = some .free := h
    rcases h with h | h
    · rw [h]; exact .inl rfl
    · rw [h]
      simp only [Option.map_some]
      split
      · exact .inl rfl
      · exact .inr rfl
  hK := C.hK
  hc := C.hc
  nd := C.nd
  un := C.un
  free := C.free
  con := C.con
  fns := fun i fi h e => ⟨(C.fns i fi h e).nbr, (C.fns i fi h e).ex⟩
  prm := let ⟨P, w, K, mg, base, k, b, q⟩ := C.prm; ⟨P, w, K, mg, base, k, ⟨b.p, b.wo, b.K, b.mg, b.base, b.room, b.calm, b.nd, b.un⟩, q⟩
  prmI := let ⟨P, w, K, mg, base, k, b, q⟩ := C.prmI; ⟨P, w, K, mg, base, k, ⟨b.p, b.wo, b.K, b.mg, b.base, b.room, b.calm, b.nd, b.un⟩, q⟩
  gd := fun z => by
    obtain ⟨z1, z2⟩ := and3 z
    refine C.gd (Bool.and_eq_true_iff.mpr ⟨?_, z2⟩)
    rw [inLam_mkC sc scope (by simpa using z1)]
    rfl
  lm := fun z z2 => by rw [inCmp_mk sc scope (inLam_mkC sc scope z)] at z2; cases z2
  lw := fun z z2 => by rw [inCmp_mk sc scope (inLam_mkC sc scope z)] at z2; cases z2
theorem Ct.blkOk {X : Cx} {sc : Scope} (C : Ct G M X sc) {scope : Scope} {own : List (Str × Nat)} (h : blkC X.N sc scope own = true) : BlkOk X.N X.env.scope scope own := by
  have b := blkOk_by h
  exact ⟨b.kind, b.uniq, b.ix, fun y hy e => C.capt _ (b.free y hy e), b.own⟩

theorem biBoot (k : BI) : bootBuiltins k.nm = some k.fv ∧ k.nm ∈ bltNames ∧ k.nm ≠ "__name__" ∧ (k.nm == ("__debug__" : Str)) = false := by
  cases k <;> exact ⟨by decide +kernel, by decide +kernel, by decide +kernel, by decide +kernel⟩
theorem biCall {X : Cx} {k : BI} {r : List V → Hp → VK → Prop} {e : Expr} {es : List Expr} {t : TA} {p pos : Pos} (hcr : CallR X k.fv r) (hg : Gl X k.nm) (hm : X.mg k.nm = none) (ha : PA X (e :: es) t) (he : starEach (e :: es) X.env = (false, eval e X.env) :: starEach es X.env) (hpl : (backTo pos (starEach es X.env)).any (·.1) = false) :
    PE X (.Call (.Name k.nm p) (e :: es) [] pos) (tCB r t) := by
  obtain ⟨hb, _, hn, hd⟩ := biBoot k
  cases k <;> first
    | exact pe_callB hcr hg hm hb ha hn hd he hpl
    | exact pe_callTy hcr hg hm hb ha hn hd he hpl

theorem _root_.DE.VRepL.app_fz' {B : Addr → Prop} {H0 F H : Hp} {ws : List V} {es : List Dk} : ∀ {vs : List V} {ds : List D}, RepL M F vs ds → VRepL (M := M) B H0 F H ws es → VRepL (M := M) B H0 F H (vs ++ ws) (ds.map (·, Kd.fz) ++ es)
  | _, _, .nil, h => h
  | _, _, .cons r l, h => .cons r (VRepL.app_fz' l h)
theorem lenEs {N : List Str} {ρ : En} : ∀ {es : Es} {sc : Scope} {xs : List Expr} {t t1 : T} {ds : List Dk}, chkEs G N es sc false xs = true → evalEs G es ρ t = .ok ds t1 → ds.length = xs.length
  | .nil, _, [], _, _, _, _, e => by unfold evalEs at e; cases e; rfl
  | .nil, _, _ :: _, _, _, _, h, _ => by cases h
  | .cons _ _, _, [], _, _, _, h, _ => by cases h
  | .cons e es, sc, x :: xs, t, t1, ds, h, q => by
    obtain ⟨h1, h2⟩ := and3 h
    unfold evalEs at q
    cases ee : evalE G e ρ t with
    | no => rw [ee] at q; cases q
    | ex c v t2 => rw [ee] at q; cases q
    | ok d t2 =>
      rw [ee] at q
      cases e2 : evalEs G es ρ t2 with
      | no => simp only [R.bind, e2] at q; cases q
      | ex c v t2 => simp only [R.bind, e2] at q; cases q
      | ok ds2 t3 =>
        simp only [R.bind, e2] at q
        cases q
        rw [List.length_cons, List.length_cons, lenEs h2 e2]
  | .star _ _, _, [], _, _, _, h, _ => by cases h
  | .star e es, _, x :: xs, _, _, _, h, _ => by cases x <;> first | (cases h; done) | (simp [chkEs] at h)

theorem chkTy {sc : Scope} {y : Ty} {xt : Expr} {n : String} {m : Str} (hy : tyName y = some (n, m)) (h : chkTyE sc y xt = true) : ∃ k pp, xt = .Name k pp ∧ k = m ∧ isGl sc k = true := by
  have h' : (match xt with
      | .Name n _ => (match tyName y with
        | some (_, m) => decide (n = m) && isGl sc n
        | none => false)
      | _ => false) = true := by
    cases y <;> first | (cases xt <;> exact h) | (cases hy; done)
  cases xt <;> (try (cases h'; done))
  rename_i k pp
  rw [hy] at h'
  obtain ⟨a, b⟩ := and3 h'
  exact ⟨k, pp, rfl, of_decide_eq_true a, b⟩
theorem kit_seq {K : PySem.W.Frag} (d : D) (tn : String) (e : tyOfD d = some tn) : PySem.W.kitAny K (.type tn) [.type "list", .type "tuple"] = some (tn == "tuple" || tn == "list") := by
  cases d <;> first
    | (cases e; done)
    | (cases e; exact kitAny_cons (b := false) (kit_ty (by decide +kernel)) (fun _ => kitAny_cons (b := false) (kit_ty (by decide +kernel)) (fun _ => rfl) (fun z => nomatch z)) (fun z => nomatch z))
    | (cases e; exact kitAny_cons (b := false) (kit_ty (by decide +kernel)) (fun _ => kitAny_cons (b := true) (kit_ty (by decide +kernel)) (fun z => nomatch z) (fun _ => rfl)) (fun z => nomatch z))
    | (cases e; exact kitAny_cons (b := true) (kit_ty (by decide +kernel)) (fun z => nomatch z) (fun _ => rfl))
theorem takesF {X : Cx} : Takes X (fun _ _ _ _ => False) := fun u s' ⟨_, _, _, _, _, _, _, _, _, _, _, _, _, _, _, _, w⟩ => w.elim
theorem noSet_of {x : Expr} (h : noSetE x = true) (env : Env) : ∀ v, foldedSetIterable x env v = pure v := by
  intro v
  cases x <;> first | rfl | cases h
/-- a comparison of two as a test: from its value -/
theorem pt_cmp1 {X : Cx} {a b : Expr} {op : CmpOp} {pos : Pos} {t : TE} (h : PE X (.Compare a [op] [b] pos) t) (hm : behindInMarks op b = false) : PT X (.Compare a [op] [b] pos) (tB t) := by
  refine ⟨fun pins s σ H Q I hw => ?_⟩
  have w := h.run pins s σ H _ I hw
  refine fun Γ p hΓ => ?_
  have w1 := w Γ p hΓ
  simp only [eval_Compare1, markedBehindIn_of_false hm, Sem.wp_bind', Sem.wp_holding, Sem.wp_cmd_standAt, Sem.wp_operate] at w1
  simp only [isTrue_Compare1, markedBehindIn_of_false hm, Sem.wp_bind', Sem.wp_holding, Sem.wp_cmd_standAt, Sem.wp_operate]
  refine Sem.wp_mono _ Γ _ (fun u p1 s1 h1 => Sem.wp_mono _ Γ _ (fun v _ s2 h2 => Sem.wp_mono _ Γ _ (fun c p3 s3 h3 => ?_) (fun _ _ _ q => q) _ _ h2) (fun _ _ _ q => q) _ _ h1) (fun _ _ _ q => q) _ _ w1
  obtain ⟨x, H1, I1, r1, d, rfl, q⟩ := h3
  cases r1
  exact (wpAny_truthy_bool (E := X.xe) (Q := fun b s' => ∃ H2, Inv X pins σ H2 s' ∧ Q b H2) ⟨H1, I1, q⟩) Γ p3 hΓ
theorem plainT {X : Cx} {sc : Scope} (C : Ct G M X sc) {W : XK} {e : E} {x : Expr} (h : PE X x (tD M G W e)) (p : plainTest x = true) : PT X x (tDT M G W e) ∧ (∀ op vs p, x = .BoolOp op vs p → PW X x (tDT M G W e)) := by
  refine ⟨?_, fun op vs pp z => by subst z; cases p⟩
  by_cases hc : ∃ a o b q, x = .Compare a [o] [b] q
  · obtain ⟨a, o, b, q, rfl⟩ := hc
    exact (pt_cmp1 h (by simpa [plainTest] using p)).imp fun σ H Q q => tDT_val q
  refine (pt_val h ?_).imp fun σ H Q q => tDT_val q
  intro w
  cases x <;> first
    | rfl
    | (cases p; done)
    | (rename_i o a q; cases o <;> first | rfl | cases p)
    | (rename_i a os bs q
       rcases os with _ | ⟨o, _ | ⟨o2, os⟩⟩ <;> rcases bs with _ | ⟨b, _ | ⟨b2, bs⟩⟩ <;> first | (cases p; done) | exact absurd ⟨_, _, _, _, rfl⟩ hc)
theorem pt_ifExp {X : Cx} {c a b : Expr} {tc ta tb : TT} {pos : Pos} (hc : PT X c tc) (ha : PT X a ta) (hb : PT X b tb) : PT X (.IfExp c a b pos) (fun σ H Q => tc σ H fun d H1 => if d = true then ta σ H1 Q else tb σ H1 Q) := by
  refine ⟨fun pins s σ H Q I h => ?_⟩
  show wpAny _ _ (isTrue c X.env (eval c X.env) >>= fun d => if d = true then isTrue a X.env (eval a X.env) else isTrue b X.env (eval b X.env)) _ _ _
  refine wpAny_bind (thn (hc.run pins s σ H _ I h) fun d s1 ⟨H1, I1, q1⟩ => ?_)
  cases d with
  | true => exact ha.run pins s1 σ H1 Q I1 (by simpa using q1)
  | false => exact hb.run pins s1 σ H1 Q I1 (by simpa using q1)
mutual
theorem soundE : ∀ (e : E) {X : Cx} {sc : Scope} (_ : Ct G M X sc) {W : XK} (_ : Takes X fun c d _ H => W c d H) (x : Expr), chkE G X.N e sc x = true → PE X x (tD M G W e)
  | .var i, X, sc, C, W, tk, x, h => by
    cases x <;> (try (cases h; done))
    rename_i y p
    obtain ⟨h1, h4⟩ := and3 h
    obtain ⟨h1, h3⟩ := and3 h1
    obtain ⟨h1, h2⟩ := and3 h1
    refine (pe_var (i := i) (of_decide_eq_true h1) (C.vis y h2) (by simpa using h3) (by simpa using h4)).imp fun σ H Q ⟨ρ, t, F, sx, q⟩ => ?_
    unfold evalE at q
    split at q
    · rename_i d e
      obtain ⟨v, e1, r⟩ := sx.fz i d e
      exact ⟨v, e1, q.here sx.stp v r⟩
    · rename_i d e
      obtain ⟨a, e1, r⟩ := sx.ow i d e
      exact ⟨_, e1, q.here sx.stp _ ⟨a, rfl, r, i, d, e, e1⟩⟩
    · exact q.elim
  | .non, X, sc, C, W, tk, x, h => by
    cases x <;> (try (cases h; done))
    rename_i c k p
    cases c <;> (try (cases h; done))
    exact pe_non.imp fun σ H Q ⟨ρ, t, F, sx, q⟩ => q.here sx.stp _ (Rep.non)
  | .noe, X, sc, C, W, tk, x, h => by cases h
  | .bl b, X, sc, C, W, tk, x, h => by
    cases x <;> (try (cases h; done))
    rename_i c k p
    cases c <;> (try (cases h; done))
    obtain rfl := eq_of_beq h
    exact pe_bl.imp fun σ H Q ⟨ρ, t, F, sx, q⟩ => q.here sx.stp _ (Rep.bl _)
  | .int b, X, sc, C, W, tk, x, h => by
    cases x <;> (try (cases h; done))
    rename_i c k p
    cases c <;> (try (cases h; done))
    obtain rfl := of_decide_eq_true h
    exact pe_int.imp fun σ H Q ⟨ρ, t, F, sx, q⟩ => q.here sx.stp _ (Rep.int _)
  | .str b, X, sc, C, W, tk, x, h => by
    cases x <;> (try (cases h; done))
    rename_i c k p
    cases c <;> (try (cases h; done))
    obtain rfl := of_decide_eq_true h
    exact pe_str.imp fun σ H Q ⟨ρ, t, F, sx, q⟩ => q.here sx.stp _ (Rep.str _)
  | .con z d, X, sc, C, W, tk, x, h => by
    cases x <;> (try (cases h; done))
    rename_i y p
    obtain ⟨h1, h2⟩ := and3 h
    obtain rfl := of_decide_eq_true h1
    obtain ⟨hg, hd⟩ := isGl_of C h2
    cases e : G.cons.lookup y with
    | none =>
      refine ⟨fun pins s σ H Q I ⟨ρ, t, F, sx, q⟩ => ?_⟩
      unfold evalE at q
      rw [e] at q
      exact q.elim
    | some d =>
      obtain ⟨u, v, hm, r, hr⟩ := C.con y d e
      refine (pe_glob hg hm r hd).imp fun σ H Q ⟨ρ, t, F, sx, q⟩ => ?_
      unfold evalE at q
      rw [e] at q
      exact q.here sx.stp v (hr F)
  | .bin o a b, X, sc, C, W, tk, x, h => by
    cases x <;> (try (cases h; done))
    rename_i xa o' xb p
    obtain ⟨h1, h3⟩ := and3 h
    obtain ⟨h1, h2⟩ := and3 h1
    obtain rfl := of_decide_eq_true h1
    exact (pe_op (op_data C.hK o) (soundE a C tk xa h2) (soundE b C tk xb h3)).imp fun σ H Q q => tD_op (f := fun x y => op2 o x.1 y.1) (fun ρ t => by rw [evalE]) q
  | .neg a, X, sc, C, W, tk, x, h => by
    cases x <;> (try (cases h; done))
    rename_i o' xa p
    cases o' <;> (try (cases h; done))
    refine (pe_un un_neg (soundE a C tk xa h)).imp fun σ H Q ⟨ρ, t, F, sx, q⟩ => ?_
    unfold evalE at q
    refine ⟨ρ, t, F, sx, (PostG.bind q).imp fun d t1 F1 H1 s1 q2 v hv => ?_⟩
    obtain ⟨d, k⟩ := d
    cases d <;> (try exact (show False from q2).elim)
    obtain ⟨rfl, _⟩ := hv.int
    exact ⟨_, rfl, (PostG.here q2 s1.self) _ (Rep.int _)⟩
  | .not a, X, sc, C, W, tk, x, h => by
    cases x <;> (try (cases h; done))
    rename_i o' xa p
    cases o' <;> (try (cases h; done))
    refine (pe_not (soundE a C tk xa h)).imp fun σ H Q ⟨ρ, t, F, sx, q⟩ => ?_
    unfold evalE at q
    refine ⟨ρ, t, F, sx, (PostG.bind q).imp fun d t1 F1 H1 s1 q2 v hv => ?_⟩
    obtain ⟨d, k⟩ := d
    cases d <;> (try exact (show False from q2).elim)
    obtain ⟨rfl, _⟩ := hv.bl
    exact ⟨_, rfl, (PostG.here q2 s1.self) _ (Rep.bl _)⟩
  | .and a b, X, sc, C, W, tk, x, h => by
    cases x <;> (try (cases h; done))
    rename_i o' xs p
    cases o' <;> (try (cases h; done))
    rcases xs with _ | ⟨xa, _ | ⟨xb, r⟩⟩ <;> (try (cases h; done))
    obtain ⟨h1, h2⟩ := and3 h
    have hb : PE X (.BoolOp .And (xb :: r) p) (tD M G W b) := by
      cases r with
      | nil => exact pe_one (soundE b C tk xb h2)
      | cons z r => exact soundE b C tk _ h2
    refine (pe_and (soundE a C tk xa h1) hb).imp fun σ H Q ⟨ρ, t, F, sx, q⟩ => ?_
    unfold evalE at q
    refine ⟨ρ, t, F, sx, (PostG.bind q).imp fun d t1 F1 H1 s1 q2 v hv => ?_⟩
    obtain ⟨d, k⟩ := d
    cases d <;> (try exact (show False from q2).elim)
    rename_i c
    obtain ⟨rfl, _⟩ := hv.bl
    refine ⟨c, rfl, ?_⟩
    cases c with
    | true =>
      rw [if_pos rfl]
      exact ⟨ρ, t1, F1, sx.step s1, PostG.imp q2 fun d t2 F2 H2 s2 k v hv => k v (hv.old s1)⟩
    | false =>
      rw [if_neg Bool.false_ne_true]
      exact (PostG.here q2 s1.self) _ (Rep.bl _)
  | .or a b, X, sc, C, W, tk, x, h => by
    cases x <;> (try (cases h; done))
    rename_i o' xs p
    cases o' <;> (try (cases h; done))
    rcases xs with _ | ⟨xa, _ | ⟨xb, r⟩⟩ <;> (try (cases h; done))
    obtain ⟨h1, h2⟩ := and3 h
    have hb : PE X (.BoolOp .Or (xb :: r) p) (tD M G W b) := by
      cases r with
      | nil => exact pe_one (soundE b C tk xb h2)
      | cons z r => exact soundE b C tk _ h2
    refine (pe_or (soundE a C tk xa h1) hb).imp fun σ H Q ⟨ρ, t, F, sx, q⟩ => ?_
    unfold evalE at q
    refine ⟨ρ, t, F, sx, (PostG.bind q).imp fun d t1 F1 H1 s1 q2 v hv => ?_⟩
    obtain ⟨d, k⟩ := d
    cases d <;> (try exact (show False from q2).elim)
    rename_i c
    obtain ⟨rfl, _⟩ := hv.bl
    refine ⟨c, rfl, ?_⟩
    cases c with
    | false =>
      rw [if_neg Bool.false_ne_true]
      exact ⟨ρ, t1, F1, sx.step s1, PostG.imp q2 fun d t2 F2 H2 s2 k v hv => k v (hv.old s1)⟩
    | true =>
      rw [if_pos rfl]
      exact (PostG.here q2 s1.self) _ (Rep.bl _)
  | .cmp c a b, X, sc, C, W, tk, x, h => by
    cases x <;> (try (cases h; done))
    rename_i xa ops xs p
    rcases ops with _ | ⟨o', _ | ⟨_, _⟩⟩ <;> (try (cases h; done)) <;> rcases xs with _ | ⟨xb, _ | ⟨_, _⟩⟩ <;> (try (cases h; done))
    obtain ⟨h1, h4⟩ := and3 h
    obtain ⟨h1, h3⟩ := and3 h1
    obtain ⟨h1, h2⟩ := and3 h1
    obtain rfl := of_decide_eq_true h1
    exact (pe_cmpR (op_cmAll C.hK C.un c) (soundE a C tk xa h2) (soundE b C tk xb h3) (by simpa using h4)).imp fun σ H Q q => tD_cm (c := c) (fun ρ t => by rw [evalE]) q
  | .chn c c' a b d, X, sc, C, W, tk, x, h => by
    cases x <;> (try (cases h; done))
    rename_i xa ops xs p
    rcases ops with _ | ⟨o1, _ | ⟨o2, _ | ⟨_, _⟩⟩⟩ <;> (try (cases h; done)) <;> rcases xs with _ | ⟨xb, _ | ⟨xd, _ | ⟨_, _⟩⟩⟩ <;> (try (cases h; done))
    obtain ⟨h1, h7⟩ := and3 h
    obtain ⟨h1, h6⟩ := and3 h1
    obtain ⟨h1, h5⟩ := and3 h1
    obtain ⟨h1, h4⟩ := and3 h1
    obtain ⟨h1, h3⟩ := and3 h1
    obtain ⟨h1, h2⟩ := and3 h1
    obtain rfl := of_decide_eq_true h1
    obtain rfl := of_decide_eq_true h2
    refine (pe_chain (op_cmAll C.hK C.un c) (op_cmAll C.hK C.un c') (soundE a C tk xa h3) (soundE b C tk xb h4) (soundE d C tk xd h5) (by simpa [lastMarks] using h7)).imp fun σ H Q ⟨ρ, t, F, sx, q⟩ => ?_
    unfold evalE at q
    refine ⟨ρ, t, F, sx, (PostG.bind q).imp fun dx t1 F1 H1 s1 q2 v hv => ⟨ρ, t1, F1, sx.step s1, (PostG.bind q2).imp fun dy t2 F2 H2 s2 q3 w hw => ?_⟩⟩
    cases e : cmpD c dx dy with
    | none => rw [e] at q3; exact (show False from q3).elim
    | some k =>
      rw [e] at q3
      refine ⟨Bo σ ρ, H, F2, dx, dy, k, s2.fh, hv.step s2, hw.old s1, e, k, rfl, ?_⟩
      cases k with
      | false =>
        rw [if_neg Bool.false_ne_true]
        exact (PostG.here q3 s2.self) _ (Rep.bl _)
      | true =>
        rw [if_pos rfl]
        refine ⟨ρ, t2, F2, sx.step (s1.trans s2), (PostG.bind q3).imp fun dz t3 F3 H3 s3 q4 z hz => ?_⟩
        obtain ⟨d, e1, kk⟩ := PostG.ofO q4
        obtain ⟨r, e2, rfl⟩ := Option.map_eq_some_iff.mp e1
        exact ⟨Bo σ ρ, H, F3, dy, dz, r, s3.fh, (hw.old s1).step s3, hz.old (s1.trans s2), e2, kk F3 H3 s3.self _ (Rep.bl r)⟩
  | .chn3 c c' c'' a b d e, X, sc, C, W, tk, x, h => by
    cases x <;> (try (cases h; done))
    rename_i xa ops xs p
    rcases ops with _ | ⟨o1, _ | ⟨o2, _ | ⟨o3, _ | ⟨_, _⟩⟩⟩⟩ <;> (try (cases h; done)) <;> rcases xs with _ | ⟨xb, _ | ⟨xd, _ | ⟨xe, _ | ⟨_, _⟩⟩⟩⟩ <;> (try (cases h; done))
    obtain ⟨h1, h8⟩ := and3 h
    obtain ⟨h1, h7⟩ := and3 h1
    obtain ⟨h1, h6⟩ := and3 h1
    obtain ⟨h1, h5⟩ := and3 h1
    obtain ⟨h1, h4⟩ := and3 h1
    obtain ⟨h1, h3⟩ := and3 h1
    obtain ⟨h1, h2⟩ := and3 h1
    obtain rfl := of_decide_eq_true h1
    obtain rfl := of_decide_eq_true h2
    obtain rfl := of_decide_eq_true h3
    refine (pe_chain3 (op_cmAll C.hK C.un c) (op_cmAll C.hK C.un c') (op_cmAll C.hK C.un c'') (soundE a C tk xa h4) (soundE b C tk xb h5) (soundE d C tk xd h6) (soundE e C tk xe h7) (by simpa using h8)).imp fun σ H Q ⟨ρ, t, F, sx, q⟩ => ?_
    unfold evalE at q
    refine ⟨ρ, t, F, sx, (PostG.bind q).imp fun dx t1 F1 H1 s1 q2 v hv => ⟨ρ, t1, F1, sx.step s1, (PostG.bind q2).imp fun dy t2 F2 H2 s2 q3 w hw => ?_⟩⟩
    cases e1 : cmpD c dx dy with
    | none => rw [e1] at q3; exact (show False from q3).elim
    | some k =>
      rw [e1] at q3
      refine ⟨Bo σ ρ, H, F2, dx, dy, k, s2.fh, hv.step s2, hw.old s1, e1, k, rfl, ?_⟩
      cases k with
      | false =>
        rw [if_neg Bool.false_ne_true]
        exact (PostG.here q3 s2.self) _ (Rep.bl _)
      | true =>
        rw [if_pos rfl]
        refine ⟨ρ, t2, F2, sx.step (s1.trans s2), (PostG.bind q3).imp fun dz t3 F3 H3 s3 q4 z hz => ?_⟩
        cases e2 : cmpD c' dy dz with
        | none => rw [e2] at q4; exact (show False from q4).elim
        | some k2 =>
          rw [e2] at q4
          refine ⟨Bo σ ρ, H, F3, dy, dz, k2, s3.fh, (hw.old s1).step s3, hz.old (s1.trans s2), e2, k2, rfl, ?_⟩
          cases k2 with
          | false =>
            rw [if_neg Bool.false_ne_true]
            exact (PostG.here q4 s3.self) _ (Rep.bl _)
          | true =>
            rw [if_pos rfl]
            have s123 := (s1.trans s2).trans s3
            refine ⟨ρ, t3, F3, sx.step s123, (PostG.bind q4).imp fun du t4 F4 H4 s4 q5 u hu => ?_⟩
            obtain ⟨d, e3, kk⟩ := PostG.ofO q5
            obtain ⟨r, e4, rfl⟩ := Option.map_eq_some_iff.mp e3
            exact ⟨Bo σ ρ, H, F4, dz, du, r, s4.fh, (hz.old (s1.trans s2)).step s4, hu.old s123, e4, kk F4 H4 s4.self _ (Rep.bl r)⟩
  | .ite c a b, X, sc, C, W, tk, x, h => by
    cases x <;> (try (cases h; done))
    rename_i xc xa xb p
    obtain ⟨h1, h3⟩ := and3 h
    obtain ⟨h1, h2⟩ := and3 h1
    refine (pe_ifExp (soundT c C tk xc h1).1 (soundE a C tk xa h2) (soundE b C tk xb h3)).imp fun σ H Q ⟨ρ, t, F, sx, q⟩ => ?_
    unfold evalE at q
    refine ⟨ρ, t, F, sx, (PostG.bind q).imp fun d t1 F1 H1 s1 q2 => ?_⟩
    obtain ⟨d, k⟩ := d
    cases d <;> (try exact (show False from q2).elim)
    rename_i c
    refine ⟨c, rfl, ?_⟩
    cases c with
    | true =>
      rw [if_pos rfl]
      exact ⟨ρ, t1, F1, sx.step s1, PostG.imp q2 fun d t2 F2 H2 s2 k v hv => k v (hv.old s1)⟩
    | false =>
      rw [if_neg Bool.false_ne_true]
      exact ⟨ρ, t1, F1, sx.step s1, PostG.imp q2 fun d t2 F2 H2 s2 k v hv => k v (hv.old s1)⟩
  | .call f es, X, sc, C, W, tk, x, h => by
    cases x <;> (try (cases h; done))
    rename_i fn xs kws p
    cases fn <;> (try (cases h; done))
    rename_i y p2
    cases kws <;> (try (cases h; done))
    obtain ⟨h1, h3⟩ := and3 h
    obtain ⟨h1, h2⟩ := and3 h1
    obtain ⟨hg, hd⟩ := isGl_of C h1
    cases ef : G.fns[f]? with
    | none => rw [ef] at h3; cases h3
    | some p3 =>
      obtain ⟨fi, hf⟩ := p3
      rw [ef] at h3
      obtain ⟨h3, h8⟩ := and3 h3
      obtain ⟨h3, h7⟩ := and3 h3
      obtain ⟨h3, h6⟩ := and3 h3
      obtain ⟨h4, h5⟩ := and3 h3
      obtain rfl := of_decide_eq_true h4
      have h5 := of_decide_eq_true h5
      have h6 := of_decide_eq_true h6
      obtain ⟨nbr, fa, fd, k, FG, FO, hr, hm, hk, hb, _⟩ := C.fns f fi hf ef
      obtain ⟨ds, dvs, hb, hds, hrep⟩ := hb _ h6
      cases xs with
      | nil => exact absurd rfl (of_decide_eq_true h7)
      | cons x xs =>
        have hx1 : chkE G X.N (match es with | .cons e _ => e | _ => .noe) sc x = true := by
          cases es with
          | nil => cases h2
          | cons e es => exact (and3 h2).1
          | star e es => cases x <;> first | (cases h2; done) | (simp [chkEs] at h2)
        have hst : chkEs G X.N (match es with | .cons _ es => es | _ => .nil) sc false xs = true := by
          cases es with
          | nil => cases h2
          | cons e es => exact (and3 h2).2
          | star e es => cases x <;> first | (cases h2; done) | (simp [chkEs] at h2)
        have pc : PE X (.Call (.Name fi.name p2) (x :: xs) [] p) (tCall (spD M hf fi.ps.length) dvs W (tDs M G W es)) := by
          cases hgf : fi.g with
          | false => exact pe_call (E := W) (FO hgf) hr hg hm hk hb hds (passes_call tk fun _ _ _ _ z => z) (soundEs es C tk false (x :: xs) h2) hd (star_of hx1 _ _) (noStar_of hst _ _)
          | true =>
            rw [hgf] at h8
            exact pe_callG (E := W) FG hr (C.gd h8) hg hm hk hb hds (passes_call tk fun _ _ _ _ z => z) (soundEs es C tk false (x :: xs) h2) hd (star_of hx1 _ _) (noStar_of hst _ _)
        refine pc.imp fun σ H Q ⟨ρ, t, F, sx, q⟩ => ?_
        unfold evalE at q
        refine ⟨ρ, t, F, sx, ?_⟩
        have hl : ∀ ds t1, evalEs G es ρ t = .ok ds t1 → ds.length = (x :: xs).length := fun ds t1 e => lenEs h2 e
        cases ee : evalEs G es ρ t with
        | no => rw [ee] at q; exact q
        | ex c v t1 => rw [ee] at q; exact q
        | ok ds1 t1 =>
          have hl1 := hl ds1 t1 ee
          rw [ee] at q
          intro F1 H1 s1 vs hv _
          have q2 : PostG M W F H (match G.fns[f]? with
            | some (fi, h) => callD h (ds1 ++ (fi.dfl.drop (fi.dfl.length - (fi.ps.length - ds1.length))).map (·, Kd.fz)) t1
            | none => .no) _ := q
          rw [ef] at q2
          dsimp only at q2
          rw [hl1] at q2
          refine call_post sx.bo s1 hv hrep ?_ q2 nbr
          rw [List.length_append, hv.length, hl1, (hrep F1).length, List.length_drop]
          omega
  | .callk f es ks kes pm, X, sc, C, W, tk, x, h => by
    cases x <;> (try (cases h; done))
    rename_i fn xs kws p
    cases fn <;> (try (cases h; done))
    rename_i y p2
    obtain ⟨h, h5⟩ := and3 h
    obtain ⟨h, h4⟩ := and3 h
    obtain ⟨h, h3⟩ := and3 h
    obtain ⟨h1, h2⟩ := and3 h
    obtain ⟨hg, hd⟩ := isGl_of C h1
    have h4 := of_decide_eq_true h4
    cases ef : G.fns[f]? with
    | none => rw [ef] at h3; cases h3
    | some p3 =>
      obtain ⟨fi, hf⟩ := p3
      rw [ef] at h3
      obtain ⟨h3, h9⟩ := and3 h3
      obtain ⟨h3, h8⟩ := and3 h3
      obtain ⟨h6, h7⟩ := and3 h3
      obtain rfl := of_decide_eq_true h6
      have h7 := of_decide_eq_true h7
      have h8 := of_decide_eq_true h8
      obtain ⟨nbr, fa, fd, k, _, FO, hr, hm, hk, _, hb⟩ := C.fns f fi hf ef
      have FO := FO (by simpa using h9)
      have hb := hb _ _ _ h7
      have hkl : kws.length = ks.length := by have := congrArg List.length h4; simpa using this
      have fin : ∀ {σ : L2.St} {H : Hp} {Q : VK}, tD M G W (.callk f es ks kes pm) σ H Q → tCallP xs.length ks.length pm (spD M hf fi.ps.length) W (tDs M G W es) (tDs M G W kes) σ H Q := by
        intro σ H Q ⟨ρ, t, F, sx, q⟩
        unfold evalE at q
        refine ⟨ρ, t, F, sx, ?_⟩
        cases ee : evalEs G es ρ t with
        | no => rw [ee] at q; exact q
        | ex c v t1 => rw [ee] at q; exact q
        | ok ds1 t1 =>
          have hl1 := lenEs h2 ee
          rw [ee] at q
          intro F1 H1 s1 vs hv _
          have q1 : PostG M W F H ((evalEs G kes ρ t1).bind fun ys t => match G.fns[f]? with
            | some (_, h) => (match permL pm (ds1 ++ ys) with | some zs => callD h zs t | none => .no)
            | none => .no) _ := q
          have q2 := PostG.from_ s1 q1
          refine ⟨ρ, t1, F1, sx.step s1, ?_⟩
          cases ek : evalEs G kes ρ t1 with
          | no => rw [ek] at q2; exact q2
          | ex c v t2 => rw [ek] at q2; exact q2
          | ok ds2 t2 =>
            have hl2 := lenEs h5 ek
            rw [ek] at q1
            intro F2 H2 s2 ws hw _
            have q3 : PostG M W F H (match G.fns[f]? with
              | some (_, h) => (match permL pm (ds1 ++ ds2) with | some zs => callD h zs t2 | none => .no)
              | none => .no) _ := q1
            rw [ef] at q3
            dsimp only at q3
            have hall : VRepL (M := M) (Bo σ ρ) H F2 H2 (vs ++ ws) (ds1 ++ ds2) := (hv.step s2).append (hw.old s1)
            cases ep : permL pm (ds1 ++ ds2) with
            | none => rw [ep] at q3; exact q3.elim
            | some zs =>
              rw [ep] at q3
              obtain ⟨us, eu, hu⟩ := permL_rep hall ep
              refine ⟨by rw [hv.length, hl1], by rw [hw.length, hl2, List.length_map, hkl], us, eu, ?_⟩
              have := call_post (n := fi.ps.length) (dv := []) (es := []) sx.bo (s1.trans s2) hu (fun _ => .nil) (by rw [List.append_nil, permL_len eu, h8]) (by rw [List.map_nil, List.append_nil]; exact q3) nbr
              rw [List.append_nil] at this
              exact this
      cases xs with
      | nil =>
        cases es <;> (try (cases h2; done))
        refine (pe_kp0 (E := W) FO hr hg hm hk hb (passes_call tk fun _ _ _ _ z => z) (soundKs kes C tk kws h5) h4 hd).imp fun σ H Q hq => ?_
        obtain ⟨ρ, t, F, sx, q⟩ := fin hq
        exact (PostG.here (show PostG M W F H (.ok [] t) _ from q) sx.stp) [] .nil FrD.nil
      | cons x xs =>
        have hx1 : chkE G X.N (match es with | .cons e _ => e | _ => .noe) sc x = true := by
          cases es with
          | nil => cases h2
          | cons e es => exact (and3 h2).1
          | star e es => cases x <;> first | (cases h2; done) | (simp [chkEs] at h2)
        exact (pe_kp (E := W) FO hr hg hm hk hb (passes_call tk fun _ _ _ _ z => z) (soundEs es C tk false (x :: xs) h2) (soundKs kes C tk kws h5) h4 hd (star_of hx1 _ _) (noStar_of h2 _ _)).imp fun σ H Q hq => fin hq
  | .bi k es, X, sc, C, W, tk, x, h => by
    cases x <;> (try (cases h; done))
    rename_i fn xs kws p
    cases fn <;> (try (cases h; done))
    rename_i y p2
    cases kws <;> (try (cases h; done))
    obtain ⟨h1, h4⟩ := and3 h
    obtain ⟨h1, h3⟩ := and3 h1
    obtain ⟨h1, h2⟩ := and3 h1
    obtain ⟨hg, hd⟩ := isGl_of C h1
    obtain rfl := of_decide_eq_true h2
    cases xs with
    | nil => exact absurd rfl (of_decide_eq_true h4)
    | cons x xs =>
      have hx1 : chkE G X.N (match es with | .cons e _ => e | _ => .noe) sc x = true := by
        cases es with
        | nil => cases h3
        | cons e es => exact (and3 h3).1
        | star e es => cases x <;> first | (cases h3; done) | (simp [chkEs] at h3)
      have hst : chkEs G X.N (match es with | .cons _ es => es | _ => .nil) sc false xs = true := by
        cases es with
        | nil => cases h3
        | cons e es => exact (and3 h3).2
        | star e es => cases x <;> first | (cases h3; done) | (simp [chkEs] at h3)
      obtain ⟨_, hin, _, _⟩ := biBoot k
      refine (biCall (bi_data C.hK C.hc k) hg (C.free _ hin) (soundEs es C tk false (x :: xs) h3) (star_of hx1 _ _) (noStar_of hst _ _)).imp fun σ H Q ⟨ρ, t, F, sx, q⟩ => ?_
      unfold evalE at q
      refine ⟨ρ, t, F, sx, (PostG.bind' q).imp fun ds t1 F1 H1 s1 q2 vs hv _ => ?_⟩
      obtain ⟨d, e1, kk⟩ := PostG.ofO q2
      exact ⟨Bo σ ρ, H, F1, t1, ds, d, s1.fh, s1.tap, s1.ntp, fun p np => s1.was np, hv, e1, fun F' H' s' v hv => kk F' H' (s1.trans s') v hv⟩
  | .isi a y, X, sc, C, W, tk, x, h => by
    cases x <;> (try (cases h; done))
    rename_i fn xs kws p
    cases fn <;> (try (cases h; done))
    rename_i z p2
    rcases xs with _ | ⟨xa, _ | ⟨xt, _ | ⟨_, _⟩⟩⟩ <;> cases kws <;> (try (cases h; done))
    obtain ⟨h1, h4⟩ := and3 h
    obtain ⟨h1, h3⟩ := and3 h1
    obtain ⟨h1, h2⟩ := and3 h1
    obtain ⟨hg, hd⟩ := isGl_of C h1
    obtain rfl := of_decide_eq_true h2
    have hfree := C.free "isinstance" (by decide +kernel)
    have one : ∀ (n : String) (m : Str), bootBuiltins m = some (.type n) → m ≠ "__name__" → X.mg m = none → ∀ (k : Str) (pp : Pos), xt = .Name k pp → k = m → isGl sc k = true → (∀ d b, tyD d y = some b → ∃ tn, tyOfD d = some tn ∧ PySem.W.kitOne X.K (.type tn) (.type n) = some b) →
        PE X (.Call (.Name "isinstance" p2) [xa, xt] [] p) (tD M G W (.isi a y)) := by
      intro n m hb hn hm k pp ex ek hgk hty
      subst ex ek
      obtain ⟨hg2, hd2⟩ := isGl_of C hgk
      refine (pe_callB call_isi hg hfree (by decide +kernel) (pa_cons (soundE a C tk xa h3) (pa_cons (pe_bltn (v := .ty n) hg2 hm hb rfl hn hd2) pa_nil) (star_of h3 _ _)) (by decide) (by decide) (star_of h3 _ _) rfl).imp fun σ H Q ⟨ρ, t, F, sx, q⟩ => ?_
      unfold evalE at q
      refine ⟨ρ, t, F, sx, (PostG.bind q).imp fun dx t1 F1 H1 s1 q2 v hv => ?_⟩
      obtain ⟨d, e1, kk⟩ := PostG.ofO q2
      obtain ⟨b, e2, rfl⟩ := Option.map_eq_some_iff.mp e1
      obtain ⟨tn, e3, e4⟩ := hty dx.1 b e2
      exact ⟨v, .ty n, .type tn, .type n, b, rfl, .ty n, VRep.tyX C.hK s1.fh hv tn e3, e4, kk F1 H1 s1.self _ (Rep.bl b)⟩
    cases y with
    | seq =>
      cases xt <;> (try (cases h4; done))
      rename_i ys kk pp
      rcases ys with _ | ⟨y1, _ | ⟨y2, _ | ⟨_, _⟩⟩⟩ <;> (try (cases h4; done)) <;> cases y1 <;> (try (cases h4; done)) <;> cases y2 <;> (try (cases h4; done))
      rename_i l pl t pt
      obtain ⟨h5, h8⟩ := and3 h4
      obtain ⟨h5, h7⟩ := and3 h5
      obtain ⟨h5, h6⟩ := and3 h5
      obtain rfl := of_decide_eq_true h5
      obtain rfl := of_decide_eq_true h6
      obtain ⟨hg2, hd2⟩ := isGl_of C h7
      obtain ⟨hg3, hd3⟩ := isGl_of C h8
      refine (pe_callB call_isiT hg hfree (by decide +kernel) (pa_cons (soundE a C tk xa h3) (pa_cons (pe_tup (pa_cons (pe_bltn (v := .ty "list") hg2 (C.free _ (by decide +kernel)) (by decide +kernel) rfl (by decide) hd2) (pa_cons (pe_bltn (v := .ty "tuple") hg3 (C.free _ (by decide +kernel)) (by decide +kernel) rfl (by decide) hd3) pa_nil))) pa_nil) (star_of h3 _ _)) (by decide) (by decide) (star_of h3 _ _) rfl).imp fun σ H Q ⟨ρ, t, F, sx, q⟩ => ?_
      unfold evalE at q
      refine ⟨ρ, t, F, sx, (PostG.bind q).imp fun dx t1 F1 H1 s1 q2 v hv => ⟨by show 2 ≤ sizeLine; rw [sizeLine_eq]; decide, fun p np => ?_⟩⟩
      obtain ⟨d, e1, kk⟩ := PostG.ofO q2
      obtain ⟨b, e2, rfl⟩ := Option.map_eq_some_iff.mp e1
      have sN := Stp.new_ (M := M) (o := .tup [.ty "list", .ty "tuple"]) s1.fh s1.tap s1.ntp np
      unfold tyD at e2
      cases e3 : tyOfD dx.1 with
      | none => rw [e3] at e2; cases e2
      | some tn =>
        rw [e3] at e2
        have e2 : (tn == "tuple" || tn == "list") = b := Option.some.inj e2
        refine ⟨v, p, [.ty "list", .ty "tuple"], .type tn, [.type "list", .type "tuple"], b, rfl, upd_same, .cons (.ty _) (.cons (.ty _) .nil), VRep.tyX C.hK sN.fh (hv.step sN) tn e3, ?_, kk _ _ sN _ (Rep.bl b)⟩
        rw [← e2]
        exact kit_seq dx.1 tn e3
    | int =>
      obtain ⟨k, pp, e1, e2, e3⟩ := chkTy (n := "int") (m := "int") rfl h4
      exact one "int" "int" (by decide +kernel) (by decide) (C.free _ (by decide +kernel)) k pp e1 e2 e3 fun d b e => by
        cases d <;> first | (cases e; exact ⟨_, rfl, kit_ty (by decide +kernel)⟩) | (cases e; done)
    | bool =>
      obtain ⟨k, pp, e1, e2, e3⟩ := chkTy (n := "bool") (m := "bool") rfl h4
      exact one "bool" "bool" (by decide +kernel) (by decide) (C.free _ (by decide +kernel)) k pp e1 e2 e3 fun d b e => by
        cases d <;> first | (cases e; exact ⟨_, rfl, kit_ty (by decide +kernel)⟩) | (cases e; done)
    | tuple =>
      obtain ⟨k, pp, e1, e2, e3⟩ := chkTy (n := "tuple") (m := "tuple") rfl h4
      exact one "tuple" "tuple" (by decide +kernel) (by decide) (C.free _ (by decide +kernel)) k pp e1 e2 e3 fun d b e => by
        cases d <;> first | (cases e; exact ⟨_, rfl, kit_ty (by decide +kernel)⟩) | (cases e; done)
    | list =>
      obtain ⟨k, pp, e1, e2, e3⟩ := chkTy (n := "list") (m := "list") rfl h4
      exact one "list" "list" (by decide +kernel) (by decide) (C.free _ (by decide +kernel)) k pp e1 e2 e3 fun d b e => by
        cases d <;> first | (cases e; exact ⟨_, rfl, kit_ty (by decide +kernel)⟩) | (cases e; done)
    | str =>
      obtain ⟨k, pp, e1, e2, e3⟩ := chkTy (n := "str") (m := "str") rfl h4
      exact one "str" "str" (by decide +kernel) (by decide) (C.free _ (by decide +kernel)) k pp e1 e2 e3 fun d b e => by
        cases d <;> first | (cases e; exact ⟨_, rfl, kit_ty (by decide +kernel)⟩) | (cases e; done)
    | dict =>
      obtain ⟨k, pp, e1, e2, e3⟩ := chkTy (n := "dict") (m := "dict") rfl h4
      exact one "dict" "dict" (by decide +kernel) (by decide) (C.free _ (by decide +kernel)) k pp e1 e2 e3 fun d b e => by
        cases d <;> first | (cases e; exact ⟨_, rfl, kit_ty (by decide +kernel)⟩) | (cases e; done)
    | cls c => exfalso; revert h4; cases xt <;> simp [chkTyE, tyName]
    | ve => exfalso; revert h4; cases xt <;> simp [chkTyE, tyName]
  | .tup es, X, sc, C, W, tk, x, h => by
    cases x <;> (try (cases h; done))
    rename_i xs k p
    refine (pe_tup (soundEs es C tk true xs h)).imp fun σ H Q ⟨ρ, t, F, sx, q⟩ => ?_
    unfold evalE at q
    refine ⟨ρ, t, F, sx, (PostG.bind' q).imp fun ds t1 F1 H1 s1 q2 vs hv _ => ?_⟩
    cases e : allFz ds with
    | none => rw [e] at q2; exact (show False from q2).elim
    | some es =>
      rw [e] at q2
      dsimp only at q2
      split at q2
      · rename_i hlen
        obtain ⟨F2, s2, _, r⟩ := hv.freeze sx.bo s1
        have l := r.rep e
        refine ⟨by rw [l.length]; exact hlen, fun p np => ?_⟩
        refine (show PostG M W F H (.ok (D.tup es, Kd.fz) t1) _ from q2) _ _ (s2.trans (Stp.newF s2.fh s2.tap s2.ntp np)) _ ?_
        exact Rep.tup (F := upd F2 p (.tup vs)) (.inl (.inl upd_same)) (l.same (Stp.newF (M := M) (o := .tup vs) s2.fh s2.tap s2.ntp np).ff)
      · exact (show False from q2).elim
  | .lst es, X, sc, C, W, tk, x, h => by
    cases x <;> (try (cases h; done))
    rename_i xs p
    refine (pe_lst (soundEs es C tk true xs h)).imp fun σ H Q ⟨ρ, t, F, sx, q⟩ => ?_
    unfold evalE at q
    refine ⟨ρ, t, F, sx, (PostG.bind' q).imp fun ds t1 F1 H1 s1 q2 vs hv _ => ?_⟩
    cases e : allFz ds with
    | none => rw [e] at q2; exact (show False from q2).elim
    | some es =>
      rw [e] at q2
      dsimp only at q2
      split at q2
      · rename_i hlen
        obtain ⟨F2, s2, _, r⟩ := hv.freeze sx.bo s1
        have l := r.rep e
        refine ⟨by rw [l.length]; exact hlen, fun p np => ?_⟩
        refine (show PostG M W F H (.ok (D.lst es, Kd.fr) t1) _ from q2) _ _ (s2.trans (Stp.new_ s2.fh s2.tap s2.ntp np)) _ ?_
        exact ⟨p, rfl, Own.new_ s2.fh s2.tap np (.lst l), s2.was np⟩
      · exact (show False from q2).elim
  | .idx a i, X, sc, C, W, tk, x, h => by
    cases x <;> (try (cases h; done))
    rename_i xa xi p
    obtain ⟨h1, h2⟩ := and3 (show (chkE G X.N a sc xa && chkE G X.N i sc xi) = true from h)
    refine (pe_ix (ix_data C.hK (by have := C.un; omega)) (soundE a C tk xa h1) (soundE i C tk xi h2) (plainIx_of h2)).imp fun σ H Q ⟨ρ, t, F, sx, q⟩ => ?_
    unfold evalE at q
    refine ⟨ρ, t, F, sx, (PostG.bind q).imp fun dx t1 F1 H1 s1 h2 v hv => ⟨ρ, t1, F1, sx.step s1, (PostG.bind h2).imp fun dy t2 F2 H2 s2 h3 w hw => ?_⟩⟩
    obtain ⟨d, e1, k⟩ := PostG.ofO h3
    obtain ⟨r, e2, rfl⟩ := Option.map_eq_some_iff.mp e1
    exact ⟨Bo σ ρ, H, F2, dx, dy, r, s2.fh, hv.step s2, hw.old s1, e2, fun v hv => k F2 H2 s2.self v hv⟩
  | .slc a lo hi, X, sc, C, W, tk, x, h => by
    cases x <;> (try (cases h; done))
    rename_i xa xi p
    cases xi <;> (try (cases h; done))
    rename_i xl xh xs p2
    cases xs <;> (try (cases h; done))
    obtain ⟨h1, h3⟩ := and3 h
    obtain ⟨h1, h2⟩ := and3 h1
    have po : ∀ (e : E), (∀ x, chkE G X.N e sc x = true → PE X x (tD M G W e)) → ∀ (xo : Option Expr), (match xo with | none => isNoe e | some xl => chkE G X.N e sc xl && !isNoe e) = true →
        ∃ to, PO X xo to ∧ ∀ {σ : L2.St} {H : Hp} {Q : Option Int → Hp → Prop} {ρ : En} {t : T} {F : Hp}, Sx M F H σ ρ t → PostG M W F H (evalE G e ρ t) (fun d t' F' H' => ∃ o, optI (isNoe e) d.1 = some o ∧ Q o H') → to σ H Q := by
      intro e se xo hx
      cases xo with
      | none =>
        have hx : isNoe e = true := hx
        refine ⟨_, po_none, fun {σ H Q ρ t F} sx q => ?_⟩
        cases e <;> (try (cases hx; done))
        unfold evalE at q
        obtain ⟨o, e1, q⟩ := q.here sx.stp
        cases e1
        exact q
      | some xl =>
        obtain ⟨g1, g2⟩ := and3 hx
        refine ⟨_, po_some (se xl g1), fun {σ H Q ρ t F} sx q => ⟨ρ, t, F, sx, q.imp fun d t1 F1 H1 s1 k v hv => ?_⟩⟩
        obtain ⟨o, e1, k⟩ := k
        have g3 : isNoe e = false := by simpa using g2
        rw [g3] at e1
        obtain ⟨d, kd⟩ := d
        cases d <;> (try (cases e1; done))
        cases e1
        obtain ⟨rfl, _⟩ := hv.int
        exact ⟨_, rfl, k⟩
    obtain ⟨tl, pl, kl⟩ := po lo (fun x hx => soundE lo C tk x hx) xl h2
    obtain ⟨th, ph, kh⟩ := po hi (fun x hx => soundE hi C tk x hx) xh h3
    refine (pe_slice (sl_data C.hK) (soundE a C tk xa h1) pl ph).imp fun σ H Q ⟨ρ, t, F, sx, q⟩ => ?_
    unfold evalE at q
    refine ⟨ρ, t, F, sx, (PostG.bind q).imp fun dx t1 F1 H1 s1 q2 v hv => kl (sx.step s1) ((PostG.bind q2).imp fun dl t2 F2 H2 s2 q3 => ?_)⟩
    cases el : optI (isNoe lo) dl.1 with
    | none => rw [el] at q3; exact (show False from q3).elim
    | some l =>
      rw [el] at q3
      refine ⟨l, rfl, kh (sx.step (s1.trans s2)) ((PostG.bind (show PostG M W F2 H2 ((evalE G hi ρ t2).bind _) _ from q3)).imp fun dh t3 F3 H3 s3 q4 => ?_)⟩
      cases eh : optI (isNoe hi) dh.1 with
      | none => rw [eh] at q4; exact (show False from q4).elim
      | some u =>
        rw [eh] at q4
        obtain ⟨d, e1, kk⟩ := PostG.ofO (show PostG M W F3 H3 (ofO (slcD dx l u) t3) _ from q4)
        refine ⟨u, rfl, Bo σ ρ, H, F3, t3, dx, d, s3.fh, s3.tap, s3.ntp, fun p np => s1.was (s2.was (s3.was np)), (hv.step s2).step s3, e1, fun F' H' s' v hv => kk F' H' s' v hv⟩
  | .fld _ _, X, sc, C, W, tk, x, h => by cases h
  | .meth _ _ _, X, sc, C, W, tk, x, h => by cases h
  | .prim k es, X, sc, C, W, tk, x, h => by
    unfold chkE at h
    split at h
    · rename_i p ep
      split at h
      · rename_i xs ex
        have h23 := (and3 (and3 h).2).2
        obtain ⟨h1, h2⟩ := and3 h23
        obtain ⟨P, w, K, mg, base, kk, b, q⟩ := C.prm
        refine q k p ep X b sc C.gl W tk (fun z => C.gd (by rw [z] at h1; exact h1)) (.prim k es) es x xs ex (soundAll es C tk xs h2) (soundEs es C tk false xs h2) (fun kws e => soundKs es C tk kws (by rw [e]; exact h2)) (fun ρ t t1 ds e => lenEs h2 e) fun ρ t => ?_
        rw [evalE]
        simp only [ep]
      · cases h
    · cases h
  | .caught e, X, sc, C, W, tk, x, h => by
    unfold chkE at h
    split at h
    · rename_i y yp params body scope lp pos
      obtain ⟨h, h7⟩ := and3 h
      obtain ⟨h, h6⟩ := and3 h
      obtain ⟨h, h5⟩ := and3 h
      obtain ⟨h, h4⟩ := and3 h
      obtain ⟨h, h3⟩ := and3 h
      obtain ⟨h1, h2⟩ := and3 h
      obtain ⟨h3, h3'⟩ := and3 h3
      obtain rfl := of_decide_eq_true h1
      refine C.lm (by simpa using h3) (by simpa using h3') h4 W tk (isGl_of C h2).1 e params body scope lp yp pos h5 h6 fun X' W' eN C' tk' => ?_
      refine soundE e (sc := mkLam scope) ⟨⟨C'.vis, C'.gl, C'.own, C'.capt, C'.hK, C'.hc, C'.nd, C'.un, C'.free, C'.con, C'.fns, C'.prm, C'.prmI⟩, (fun z => by rw [inLam_mk] at z; cases z), (fun z => by unfold gOk at z; rw [inLam_mk] at z; cases z), fun z _ => by rw [inLam_mk] at z; cases z⟩ tk' body ?_
      rw [eN]
      exact h7
    · cases h
  | .cw i, X, sc, C, W, tk, x, h => by
    unfold chkE at h
    split at h
    · rename_i y yp z zp pos
      obtain ⟨h, h7⟩ := and3 h
      obtain ⟨h, h6⟩ := and3 h
      obtain ⟨h, h5⟩ := and3 h
      obtain ⟨h, h4⟩ := and3 h
      obtain ⟨h, h3⟩ := and3 h
      obtain ⟨h1, h2⟩ := and3 h
      obtain ⟨h3, h3'⟩ := and3 h3
      obtain rfl := of_decide_eq_true h1
      exact C.lw (by simpa using h3) (by simpa using h3') W tk (isGl_of C h2).1 i z yp zp pos (of_decide_eq_true h4) (C.vis z h5) (by simpa using h6) (by simpa using h7)
    · cases h
  | .lc elt tg it conds own, X, sc, C, W, tk, x, h => by
    cases x <;> (try (cases h; done))
    rename_i xe gens scope p
    rcases gens with _ | ⟨⟨xt, xi, ifs, as⟩, _ | ⟨g2, gs⟩⟩
    · cases h
    · obtain ⟨h1, h9⟩ := and3 h
      obtain ⟨h1, h8⟩ := and3 h1
      obtain ⟨h1, h7⟩ := and3 h1
      obtain ⟨h1, h6⟩ := and3 h1
      obtain ⟨h1, h5⟩ := and3 h1
      obtain ⟨h1, h4⟩ := and3 h1
      obtain ⟨h1, h3⟩ := and3 h1
      obtain ⟨h1, h2⟩ := and3 h1
      obtain rfl := of_decide_eq_true h1
      have hl8 : ifs.length ≤ 1 := of_decide_eq_true h8
      refine (pe_lc (own := own) (g := tgT X.K tg) (tt := tDC G M (fun _ _ _ => False) conds) (te := tD M G (fun _ _ _ => False) elt) C.hc C.nd (soundIt it C tk xi xt h3) (C.blkOk h5)
        (fun s H Cn cl fp => sound_tg (C.blk s H scope cl Cn fp) h4) (fun s H Cn cl fp => soundC conds (C.blk s H scope cl Cn fp) takesF ifs h7 hl8) (fun s H Cn cl fp => soundE elt (C.blk s H scope cl Cn fp) takesF xe h6) (noSet_of h2 _)).imp fun σ H Q ⟨ρ, t, F, sx, q⟩ => ?_
      unfold evalE at q
      refine ⟨ρ, t, F, sx, (PostG.bind' q).imp fun xs t1 F1 H1 s1 q2 J F2 s2 ff sw ss D nD => ?_⟩
      by_cases hw : okW ρ (own.map (·.2)) = true
      rotate_left
      · rw [if_neg hw] at q2; exact q2.elim
      rw [if_pos hw] at q2
      generalize el : lcL _ xs.1 t1 = rl at q2
      cases rl with
      | no => exact (show False from q2).elim
      | ex c v t2 => exact (show False from q2).elim
      | ok r t2 =>
        have q3 : PostG M W F H (if r.length ≤ lim then R.ok (DE.D.lst r, Kd.fr) t2 else .no) _ := q2
        split at q3
        · rename_i hr
          exact lc_run (W := W) C.hK h9 hw sx s2 ss nD el hr fun F' H' s' o => q3 F' H' s' _ ⟨D, rfl, o, s2.was nD⟩
        · exact (show False from q3).elim
    · exact absurd h (by simp [chkE])
  | .dct ks es, X, sc, C, W, tk, x, h => by
    cases x <;> (try (cases h; done))
    rename_i keys vals p
    obtain ⟨h, h4⟩ := and3 h
    obtain ⟨h, h3⟩ := and3 h
    obtain ⟨h1, h2⟩ := and3 h
    have h3 := of_decide_eq_true h3
    have h4 := of_decide_eq_true h4
    have go : ∀ {σ : L2.St} {H : Hp} {Q : VK}, tD M G W (.dct ks es) σ H Q → ∀ p, H p = none → ∃ ρ t F, Sx M F (upd H p (.dK [])) σ ρ t ∧ PostG M W F (upd H p (.dK [])) (evalEs G es ρ t) fun ds t' F' H' => ∀ ws, VRepL (M := M) (Bo σ ρ) (upd H p (.dK [])) F' H' ws ds → H' p = some (.dK []) ∧ (ds.length = ks.length → ∃ kvs : List (Key × V), (ks.map kV).zip ws = kvs.map (fun kv => (kV kv.1, kv.2)) ∧ kvs.length = ks.length ∧ Q (.ref p) (upd H' p (.dK (mergeK [] kvs)))) := by
      intro σ H Q ⟨ρ, t, F, sx, q⟩ p np
      unfold evalE at q
      have s0 := Stp.new_ (o := .dK []) sx.fh sx.tap sx.ntp np
      have ntp := nt_new sx.tap np
      refine ⟨ρ, t, F, sx.step s0, ((PostG.bind' q).from_ s0).imp fun ds t1 F1 H1 s1 q2 ws hw => ?_⟩
      have e1 : H1 p = some (.dK []) := s1.hh p _ upd_same ntp
      refine ⟨e1, fun hl => ?_⟩
      cases e : allFz ds with
      | none => rw [e] at q2; exact (show False from q2).elim
      | some xs =>
        rw [e] at q2
        obtain ⟨F2, s2, _, r⟩ := hw.freeze (sx.step s0).bo s1
        have l := r.rep e
        have nf : F2 p = none := by
          cases z : F2 p with
          | none => rfl
          | some o =>
            rcases s2.new p o z with z | z | ⟨_, z⟩
            · rw [nf_new sx.fh np] at z; cases z
            · rw [upd_same] at z; cases z
            · rw [upd_same] at z; cases z
        have zl : ∀ {ks : List Key} {ws : List V}, ws.length = ks.length → (ks.map kV).zip ws = (ks.zip ws).map (fun kv => (kV kv.1, kv.2)) ∧ (ks.zip ws).length = ks.length := by
          intro ks
          induction ks with
          | nil => intro ws _; exact ⟨rfl, rfl⟩
          | cons k ks ih =>
            intro ws h
            cases ws with
            | nil => cases h
            | cons w ws =>
              obtain ⟨a, b⟩ := ih (ws := ws) (by simpa using h)
              exact ⟨by simp [a], by simp only [List.zip_cons_cons, List.length_cons, b]⟩
        have hwl : ws.length = ks.length := by rw [hw.length, hl]
        refine ⟨ks.zip ws, (zl hwl).1, (zl hwl).2, ?_⟩
        have st := (s0.trans s2).updN (o := .dK (mergeK [] (ks.zip ws))) np nf ntp (fun φ z => by rw [e1] at z; cases z)
        refine (show PostG M W F H (.ok (D.dct false (mergeD ((ks.map keyD).zip xs)), Kd.fr) t1) _ from q2) _ _ st _ ?_
        exact ⟨p, rfl, ⟨nf, ntp, _, upd_same, .dK (RepK.merge l .nil)⟩, np⟩
    cases keys with
    | nil =>
      cases vals with
      | cons _ _ => cases h4
      | nil =>
        cases ks with
        | cons k _ => cases k <;> cases h1
        | nil =>
          cases es <;> (try (cases h2; done))
          refine pe_dnewK.imp fun σ H Q hq p np => ?_
          obtain ⟨ρ, t, F, sx, q⟩ := go hq p np
          obtain ⟨_, q3⟩ := (PostG.here (show PostG M W F _ (.ok [] t) _ from q) sx.stp) [] .nil
          obtain ⟨kvs, e, l, q4⟩ := q3 rfl
          cases kvs with
          | cons _ _ => cases l
          | nil =>
            have e2 : upd (upd H p (.dK [])) p (.dK (mergeK [] [])) = upd H p (.dK []) := by
              funext b
              by_cases z : b = p
              · subst z; rw [upd_same, upd_same]; rfl
              · rw [upd_ne z]
            rw [e2] at q4
            exact q4
    | cons ky keys =>
      obtain ⟨trs, pp, ht⟩ := soundPs es C tk p ks (ky :: keys) vals h1 h2 h4
      have hall : (ky :: keys).all (·.isSome) = true := by
        have : ∀ {ks : List Key} {xs : List (Option Expr)}, chkKs ks xs = true → xs.all (·.isSome) = true := by
          intro ks xs
          induction xs generalizing ks with
          | nil => intro _; rfl
          | cons x xs ih =>
            intro h
            cases ks with
            | nil => cases h
            | cons k ks =>
              cases x with
              | none => cases k <;> cases h
              | some x =>
                cases k <;> cases x <;> (try (cases h; done)) <;> rename_i c _ _ <;> cases c <;> (try (cases h; done)) <;> exact ih (and3 h).2
        exact this h1
      have hkl : ∀ {ks : List Key} {xs : List (Option Expr)}, chkKs ks xs = true → ks.length = xs.length := by
        intro ks xs
        induction xs generalizing ks with
        | nil => intro h; cases ks with
          | nil => rfl
          | cons k _ => cases k <;> cases h
        | cons x xs ih =>
          intro h
          cases ks with
          | nil => cases h
          | cons k ks =>
            cases x with
            | none => cases k <;> cases h
            | some x =>
              cases k <;> cases x <;> (try (cases h; done)) <;> rename_i c _ _ <;> cases c <;> (try (cases h; done)) <;> exact congrArg Nat.succ (ih (and3 h).2)
      refine (pe_disp pp hall h4 (by simp) h3).imp fun σ H Q hq p np => ht _ _ _ ?_
      obtain ⟨ρ, t, F, sx, q⟩ := go hq p np
      refine ⟨ρ, t, F, sx, ?_⟩
      cases ee : evalEs G es ρ t with
      | no => rw [ee] at q; exact q
      | ex c v t1 => rw [ee] at q; exact q
      | ok ds t1 =>
        rw [ee] at q
        intro F1 H1 s1 ws hw
        have hl := lenEs h2 ee
        obtain ⟨e1, q3⟩ := q F1 H1 s1 ws hw
        obtain ⟨kvs, e, l, q4⟩ := q3 (by rw [hl, hkl h1, ← h4])
        exact ⟨e1, kvs, e, by rw [l, hkl h1]; exact h3, q4⟩
  | .mk _ _, X, sc, C, W, tk, x, h => by cases h
  | .exn _ _, X, sc, C, W, tk, x, h => by cases h
theorem soundT : ∀ (e : E) {X : Cx} {sc : Scope} (_ : Ct G M X sc) {W : XK} (_ : Takes X fun c d _ H => W c d H) (x : Expr), chkE G X.N e sc x = true → PT X x (tDT M G W e) ∧ (∀ op vs p, x = .BoolOp op vs p → PW X x (tDT M G W e))
  | .not a, X, sc, C, W, tk, x, h => by
    cases x <;> (try (cases h; done))
    rename_i o' xa p
    cases o' <;> (try (cases h; done))
    refine ⟨(pt_not (soundT a C tk xa h).1).imp fun σ H Q ⟨ρ, t, F, sx, q⟩ => ?_, fun _ _ _ z => by cases z⟩
    unfold evalE at q
    refine ⟨ρ, t, F, sx, (PostG.bind q).imp fun d t1 F1 H1 s1 q2 => ?_⟩
    obtain ⟨d, k⟩ := d
    cases d <;> (try exact (show False from q2).elim)
    obtain ⟨b, e, q3⟩ := PostG.here q2 s1.self
    cases e
    exact ⟨_, rfl, q3⟩
  | .and a b, X, sc, C, W, tk, x, h => by
    cases x <;> (try (cases h; done))
    rename_i o' xs p
    cases o' <;> (try (cases h; done))
    rcases xs with _ | ⟨xa, _ | ⟨xb, r⟩⟩ <;> (try (cases h; done))
    obtain ⟨h1, h2⟩ := and3 h
    have hb : PW X (.BoolOp .And (xb :: r) p) (tDT M G W b) := by
      cases r with
      | nil => exact pw_and1 (soundT b C tk xb h2).1
      | cons z r => exact (soundT b C tk _ h2).2 _ _ _ rfl
    have w : PW X (.BoolOp .And (xa :: xb :: r) p) (tDT M G W (.and a b)) := by
      refine (pw_and (soundT a C tk xa h1).1 hb).imp fun σ H Q ⟨ρ, t, F, sx, q⟩ => ?_
      unfold evalE at q
      refine ⟨ρ, t, F, sx, (PostG.bind q).imp fun d t1 F1 H1 s1 q2 => ?_⟩
      obtain ⟨d, k⟩ := d
      cases d <;> (try exact (show False from q2).elim)
      rename_i c
      refine ⟨c, rfl, ?_⟩
      cases c with
      | true => rw [if_pos rfl]; exact ⟨ρ, t1, F1, sx.step s1, q2⟩
      | false =>
        rw [if_neg Bool.false_ne_true]
        obtain ⟨b, e, q3⟩ := PostG.here q2 s1.self
        cases e
        exact q3
    exact ⟨w.pt, fun _ _ _ _ => w⟩
  | .or a b, X, sc, C, W, tk, x, h => by
    cases x <;> (try (cases h; done))
    rename_i o' xs p
    cases o' <;> (try (cases h; done))
    rcases xs with _ | ⟨xa, _ | ⟨xb, r⟩⟩ <;> (try (cases h; done))
    obtain ⟨h1, h2⟩ := and3 h
    have hb : PW X (.BoolOp .Or (xb :: r) p) (tDT M G W b) := by
      cases r with
      | nil => exact pw_or1 (soundT b C tk xb h2).1
      | cons z r => exact (soundT b C tk _ h2).2 _ _ _ rfl
    have w : PW X (.BoolOp .Or (xa :: xb :: r) p) (tDT M G W (.or a b)) := by
      refine (pw_or (soundT a C tk xa h1).1 hb).imp fun σ H Q ⟨ρ, t, F, sx, q⟩ => ?_
      unfold evalE at q
      refine ⟨ρ, t, F, sx, (PostG.bind q).imp fun d t1 F1 H1 s1 q2 => ?_⟩
      obtain ⟨d, k⟩ := d
      cases d <;> (try exact (show False from q2).elim)
      rename_i c
      refine ⟨c, rfl, ?_⟩
      cases c with
      | false => rw [if_neg Bool.false_ne_true]; exact ⟨ρ, t1, F1, sx.step s1, q2⟩
      | true =>
        rw [if_pos rfl]
        obtain ⟨b, e, q3⟩ := PostG.here q2 s1.self
        cases e
        exact q3
    exact ⟨w.pt, fun _ _ _ _ => w⟩
  | .cmp c a b, X, sc, C, W, tk, x, h => by
    cases x <;> (try (cases h; done))
    rename_i xa ops xs p
    rcases ops with _ | ⟨o', _ | ⟨_, _⟩⟩ <;> (try (cases h; done)) <;> rcases xs with _ | ⟨xb, _ | ⟨_, _⟩⟩ <;> (try (cases h; done))
    obtain ⟨h1, h4⟩ := and3 h
    obtain ⟨h1, h3⟩ := and3 h1
    obtain ⟨h1, h2⟩ := and3 h1
    obtain rfl := of_decide_eq_true h1
    exact ⟨(pt_cmpR (op_cmAll C.hK C.un c) (soundE a C tk xa h2) (soundE b C tk xb h3) (by simpa using h4)).imp fun σ H Q q => tDT_cm (c := c) (fun ρ t => by rw [evalE]) q, fun _ _ _ z => by cases z⟩
  | .ite c a b, X, sc, C, W, tk, x, h => by
    cases x <;> (try (cases h; done))
    rename_i xc xa xb p
    obtain ⟨h1, h3⟩ := and3 h
    obtain ⟨h1, h2⟩ := and3 h1
    refine ⟨(pt_ifExp (soundT c C tk xc h1).1 (soundT a C tk xa h2).1 (soundT b C tk xb h3).1).imp fun σ H Q ⟨ρ, t, F, sx, q⟩ => ?_, fun _ _ _ z => by cases z⟩
    unfold evalE at q
    refine ⟨ρ, t, F, sx, (PostG.bind q).imp fun d t1 F1 H1 s1 q2 => ?_⟩
    obtain ⟨d, k⟩ := d
    cases d <;> (try exact (show False from q2).elim)
    rename_i c
    refine ⟨c, rfl, ?_⟩
    cases c with
    | true => rw [if_pos rfl]; exact ⟨ρ, t1, F1, sx.step s1, q2⟩
    | false => rw [if_neg Bool.false_ne_true]; exact ⟨ρ, t1, F1, sx.step s1, q2⟩
  | .chn c c' a b d, X, sc, C, W, tk, x, h => by
    have he := soundE (.chn c c' a b d) C tk x h
    cases x <;> (try (cases h; done))
    rename_i xa ops xs p
    rcases ops with _ | ⟨o1, _ | ⟨o2, _ | ⟨_, _⟩⟩⟩ <;> (try (cases h; done)) <;> rcases xs with _ | ⟨xb, _ | ⟨xd, _ | ⟨_, _⟩⟩⟩ <;> (try (cases h; done))
    obtain ⟨h1, h7⟩ := and3 h
    obtain ⟨h1, h6⟩ := and3 h1
    obtain ⟨h1, h5⟩ := and3 h1
    obtain ⟨h1, h4⟩ := and3 h1
    obtain ⟨h1, h3⟩ := and3 h1
    obtain ⟨h1, h2⟩ := and3 h1
    obtain rfl := of_decide_eq_true h1
    obtain rfl := of_decide_eq_true h2
    refine ⟨(pt_chain (op_cmAll C.hK C.un c) (op_cmAll C.hK C.un c') (soundE a C tk xa h3) (soundE b C tk xb h4) (soundE d C tk xd h5) (by simpa [lastMarks] using h7)).imp fun σ H Q ⟨ρ, t, F, sx, q⟩ => ?_, fun _ _ _ z => by cases z⟩
    unfold evalE at q
    refine ⟨ρ, t, F, sx, (PostG.bind q).imp fun dx t1 F1 H1 s1 q2 v hv => ⟨ρ, t1, F1, sx.step s1, (PostG.bind q2).imp fun dy t2 F2 H2 s2 q3 w hw => ?_⟩⟩
    cases e : cmpD c dx dy with
    | none => rw [e] at q3; exact (show False from q3).elim
    | some k =>
      rw [e] at q3
      refine ⟨Bo σ ρ, H, F2, dx, dy, k, s2.fh, hv.step s2, hw.old s1, e, k, rfl, ?_⟩
      cases k with
      | false =>
        rw [if_neg Bool.false_ne_true]
        obtain ⟨b, eb, q4⟩ := PostG.here q3 s2.self
        cases eb
        exact ⟨_, rfl, q4⟩
      | true =>
        rw [if_pos rfl]
        refine ⟨ρ, t2, F2, sx.step (s1.trans s2), (PostG.bind q3).imp fun dz t3 F3 H3 s3 q4 z hz => ?_⟩
        obtain ⟨d, e1, kk⟩ := PostG.ofO q4
        obtain ⟨r, e2, rfl⟩ := Option.map_eq_some_iff.mp e1
        obtain ⟨b, eb, q5⟩ := kk F3 H3 s3.self
        cases eb
        exact ⟨Bo σ ρ, H, F3, dy, dz, r, s3.fh, (hw.old s1).step s3, hz.old (s1.trans s2), e2, _, rfl, q5⟩
  | .chn3 c c' c'' a b d e, X, sc, C, W, tk, x, h => by
    cases x <;> (try (cases h; done))
    rename_i xa ops xs p
    rcases ops with _ | ⟨o1, _ | ⟨o2, _ | ⟨o3, _ | ⟨_, _⟩⟩⟩⟩ <;> (try (cases h; done)) <;> rcases xs with _ | ⟨xb, _ | ⟨xd, _ | ⟨xe, _ | ⟨_, _⟩⟩⟩⟩ <;> (try (cases h; done))
    obtain ⟨h1, h8⟩ := and3 h
    obtain ⟨h1, h7⟩ := and3 h1
    obtain ⟨h1, h6⟩ := and3 h1
    obtain ⟨h1, h5⟩ := and3 h1
    obtain ⟨h1, h4⟩ := and3 h1
    obtain ⟨h1, h3⟩ := and3 h1
    obtain ⟨h1, h2⟩ := and3 h1
    obtain rfl := of_decide_eq_true h1
    obtain rfl := of_decide_eq_true h2
    obtain rfl := of_decide_eq_true h3
    refine ⟨(pt_chain3 (op_cmAll C.hK C.un c) (op_cmAll C.hK C.un c') (op_cmAll C.hK C.un c'') (soundE a C tk xa h4) (soundE b C tk xb h5) (soundE d C tk xd h6) (soundE e C tk xe h7) (by simpa using h8)).imp fun σ H Q ⟨ρ, t, F, sx, q⟩ => ?_, fun _ _ _ z => by cases z⟩
    unfold evalE at q
    refine ⟨ρ, t, F, sx, (PostG.bind q).imp fun dx t1 F1 H1 s1 q2 v hv => ⟨ρ, t1, F1, sx.step s1, (PostG.bind q2).imp fun dy t2 F2 H2 s2 q3 w hw => ?_⟩⟩
    cases e1 : cmpD c dx dy with
    | none => rw [e1] at q3; exact (show False from q3).elim
    | some k =>
      rw [e1] at q3
      refine ⟨Bo σ ρ, H, F2, dx, dy, k, s2.fh, hv.step s2, hw.old s1, e1, k, rfl, ?_⟩
      cases k with
      | false =>
        rw [if_neg Bool.false_ne_true]
        obtain ⟨b, eb, q4⟩ := PostG.here q3 s2.self
        cases eb
        exact ⟨_, rfl, q4⟩
      | true =>
        rw [if_pos rfl]
        refine ⟨ρ, t2, F2, sx.step (s1.trans s2), (PostG.bind q3).imp fun dz t3 F3 H3 s3 q4 z hz => ?_⟩
        cases e2 : cmpD c' dy dz with
        | none => rw [e2] at q4; exact (show False from q4).elim
        | some k2 =>
          rw [e2] at q4
          refine ⟨Bo σ ρ, H, F3, dy, dz, k2, s3.fh, (hw.old s1).step s3, hz.old (s1.trans s2), e2, k2, rfl, ?_⟩
          cases k2 with
          | false =>
            rw [if_neg Bool.false_ne_true]
            obtain ⟨b, eb, q5⟩ := PostG.here q4 s3.self
            cases eb
            exact ⟨_, rfl, q5⟩
          | true =>
            rw [if_pos rfl]
            have s123 := (s1.trans s2).trans s3
            refine ⟨ρ, t3, F3, sx.step s123, (PostG.bind q4).imp fun du t4 F4 H4 s4 q5 u hu => ?_⟩
            obtain ⟨d, e3, kk⟩ := PostG.ofO q5
            obtain ⟨r, e4, rfl⟩ := Option.map_eq_some_iff.mp e3
            obtain ⟨b, eb, q6⟩ := kk F4 H4 s4.self
            cases eb
            exact ⟨Bo σ ρ, H, F4, dz, du, r, s4.fh, (hz.old (s1.trans s2)).step s4, hu.old s123, e4, _, rfl, q6⟩
  | .prim k es, X, sc, C, W, tk, x, h => plainT C (soundE (.prim k es) C tk x h) (by
    unfold chkE at h
    split at h
    · split at h
      · exact (and3 h).1
      · cases h
    · cases h)
  | .cw i, X, sc, C, W, tk, x, h => plainT C (soundE (.cw i) C tk x h) (by unfold chkE at h; (try split at h) <;> first | rfl | (cases h; done))
  | .caught e, X, sc, C, W, tk, x, h => plainT C (soundE (.caught e) C tk x h) (by unfold chkE at h; (try split at h) <;> first | rfl | (cases h; done))
  | .var i, X, sc, C, W, tk, x, h => plainT C (soundE (.var i) C tk x h) (by unfold chkE at h; (try split at h) <;> first | rfl | (cases h; done))
  | .non, X, sc, C, W, tk, x, h => plainT C (soundE (.non) C tk x h) (by unfold chkE at h; (try split at h) <;> first | rfl | (cases h; done))
  | .noe, X, sc, C, W, tk, x, h => plainT C (soundE (.noe) C tk x h) (by unfold chkE at h; (try split at h) <;> first | rfl | (cases h; done))
  | .bl b, X, sc, C, W, tk, x, h => plainT C (soundE (.bl b) C tk x h) (by unfold chkE at h; (try split at h) <;> first | rfl | (cases h; done))
  | .int i, X, sc, C, W, tk, x, h => plainT C (soundE (.int i) C tk x h) (by unfold chkE at h; (try split at h) <;> first | rfl | (cases h; done))
  | .str z, X, sc, C, W, tk, x, h => plainT C (soundE (.str z) C tk x h) (by unfold chkE at h; (try split at h) <;> first | rfl | (cases h; done))
  | .con z d, X, sc, C, W, tk, x, h => plainT C (soundE (.con z d) C tk x h) (by unfold chkE at h; (try split at h) <;> first | rfl | (cases h; done))
  | .bin o a b, X, sc, C, W, tk, x, h => plainT C (soundE (.bin o a b) C tk x h) (by unfold chkE at h; (try split at h) <;> first | rfl | (cases h; done))
  | .neg a, X, sc, C, W, tk, x, h => plainT C (soundE (.neg a) C tk x h) (by unfold chkE at h; (try split at h) <;> first | rfl | (cases h; done))
  | .call f es, X, sc, C, W, tk, x, h => plainT C (soundE (.call f es) C tk x h) (by unfold chkE at h; (try split at h) <;> first | rfl | (cases h; done))
  | .callk f es ks kes pm, X, sc, C, W, tk, x, h => plainT C (soundE (.callk f es ks kes pm) C tk x h) (by unfold chkE at h; (try split at h) <;> first | rfl | (cases h; done))
  | .bi k es, X, sc, C, W, tk, x, h => plainT C (soundE (.bi k es) C tk x h) (by unfold chkE at h; (try split at h) <;> first | rfl | (cases h; done))
  | .isi a y, X, sc, C, W, tk, x, h => plainT C (soundE (.isi a y) C tk x h) (by unfold chkE at h; (try split at h) <;> first | rfl | (cases h; done))
  | .tup es, X, sc, C, W, tk, x, h => plainT C (soundE (.tup es) C tk x h) (by unfold chkE at h; (try split at h) <;> first | rfl | (cases h; done))
  | .lst es, X, sc, C, W, tk, x, h => plainT C (soundE (.lst es) C tk x h) (by unfold chkE at h; (try split at h) <;> first | rfl | (cases h; done))
  | .idx a i, X, sc, C, W, tk, x, h => plainT C (soundE (.idx a i) C tk x h) (by unfold chkE at h; (try split at h) <;> first | rfl | (cases h; done))
  | .slc a lo hi, X, sc, C, W, tk, x, h => plainT C (soundE (.slc a lo hi) C tk x h) (by unfold chkE at h; (try split at h) <;> first | rfl | (cases h; done))
  | .fld a f, X, sc, C, W, tk, x, h => plainT C (soundE (.fld a f) C tk x h) (by unfold chkE at h; (try split at h) <;> first | rfl | (cases h; done))
  | .meth a m es, X, sc, C, W, tk, x, h => plainT C (soundE (.meth a m es) C tk x h) (by unfold chkE at h; (try split at h) <;> first | rfl | (cases h; done))
  | .lc elt tg it conds own, X, sc, C, W, tk, x, h => plainT C (soundE (.lc elt tg it conds own) C tk x h) (by unfold chkE at h; (try split at h) <;> first | rfl | (cases h; done))
  | .dct ks vs, X, sc, C, W, tk, x, h => plainT C (soundE (.dct ks vs) C tk x h) (by unfold chkE at h; (try split at h) <;> first | rfl | (cases h; done))
  | .mk c es, X, sc, C, W, tk, x, h => plainT C (soundE (.mk c es) C tk x h) (by unfold chkE at h; (try split at h) <;> first | rfl | (cases h; done))
  | .exn c a, X, sc, C, W, tk, x, h => plainT C (soundE (.exn c a) C tk x h) (by unfold chkE at h; (try split at h) <;> first | rfl | (cases h; done))
theorem soundPs : ∀ (es : Es) {X : Cx} {sc : Scope} (_ : Ct G M X sc) {W : XK} (_ : Takes X fun c d _ H => W c d H) (pos : Pos) (ks : List Key) (keys : List (Option Expr)) (vals : List Expr), chkKs ks keys = true → chkEs G X.N es sc false vals = true → keys.length = vals.length →
    ∃ trs, PPs X pos keys vals trs ∧ ∀ σ H Q, (∃ ρ t F, Sx M F H σ ρ t ∧ PostG M W F H (evalEs G es ρ t) fun ds t' F' H' => ∀ ws, VRepL (M := M) (Bo σ ρ) H F' H' ws ds → Q ((ks.map kV).zip ws) H') → tPairs trs σ H Q
  | .nil, X, sc, C, W, tk, pos, ks, keys, vals, hk, h, hl => by
    cases vals with
    | cons _ _ => cases h
    | nil =>
      cases keys with
      | cons _ _ => cases hl
      | nil =>
        refine ⟨[], pps_nil, fun σ H Q ⟨ρ, t, F, sx, q⟩ => ?_⟩
        have := (PostG.here (show PostG M W F H (.ok [] t) _ from q) sx.stp) [] .nil
        rw [List.zip_nil_right] at this
        exact this
  | .cons e es, X, sc, C, W, tk, pos, ks, keys, vals, hk, h, hl => by
    cases vals with
    | nil => cases h
    | cons x xs =>
      obtain ⟨h1, h2⟩ := and3 h
      cases keys with
      | nil => cases hl
      | cons ky keys =>
        cases ks with
        | nil => cases hk
        | cons k ks =>
          have key : ∃ y, ky = some y ∧ PE X y (tC (kV k)) ∧ chkKs ks keys = true := by
            cases ky with
            | none => cases k <;> cases hk
            | some y =>
              cases k with
              | inl i =>
                cases y <;> (try (cases hk; done))
                rename_i c _ _
                cases c <;> (try (cases hk; done))
                obtain ⟨e1, e2⟩ := and3 hk
                obtain rfl := of_decide_eq_true e1
                exact ⟨_, rfl, pe_int, e2⟩
              | inr i =>
                cases y <;> (try (cases hk; done))
                rename_i c _ _
                cases c <;> (try (cases hk; done))
                obtain ⟨e1, e2⟩ := and3 hk
                obtain rfl := of_decide_eq_true e1
                exact ⟨_, rfl, pe_str, e2⟩
          obtain ⟨y, rfl, py, hk2⟩ := key
          obtain ⟨trs, pp, ht⟩ := soundPs es C tk pos ks keys xs hk2 h2 (by simpa using hl)
          refine ⟨_, pps_cons py (soundE e C tk x h1) pp, fun σ H Q ⟨ρ, t, F, sx, q⟩ => ?_⟩
          unfold evalEs at q
          refine ⟨ρ, t, F, sx, (PostG.bind q).imp fun d t1 F1 H1 s1 q2 v hv => ht _ _ _ ⟨ρ, t1, F1, sx.step s1, (PostG.bind q2).imp fun ds t2 F2 H2 s2 q3 vs hvs => ?_⟩⟩
          exact (PostG.here q3 s2.self) _ (.cons (hv.step s2) (hvs.old s1))
  | .star e es, X, sc, C, W, tk, pos, ks, keys, vals, hk, h, hl => by
    cases vals with
    | nil => cases h
    | cons x xs => cases x <;> first | (cases h; done) | (simp [chkEs] at h)
theorem soundAll : ∀ (es : Es) {X : Cx} {sc : Scope} (_ : Ct G M X sc) {W : XK} (_ : Takes X fun c d _ H => W c d H) (xs : List Expr), chkEs G X.N es sc false xs = true → AllPE G M X W es xs
  | .nil, X, sc, C, W, tk, xs, h => by
    cases xs with
    | nil => exact .nil
    | cons x xs => cases h
  | .cons e es, X, sc, C, W, tk, xs, h => by
    cases xs with
    | nil => cases h
    | cons x xs =>
      obtain ⟨h1, h2⟩ := and3 h
      exact .cons (soundE e C tk x h1) (star_of h1) (plainIx_of h1) (soundAll es C tk xs h2)
  | .star e es, X, sc, C, W, tk, xs, h => by
    cases xs with
    | nil => cases h
    | cons x xs => cases x <;> first | (cases h; done) | (simp [chkEs] at h)
theorem soundKs : ∀ (es : Es) {X : Cx} {sc : Scope} (_ : Ct G M X sc) {W : XK} (_ : Takes X fun c d _ H => W c d H) (kws : List Keyword), chkEs G X.N es sc false (kws.map (·.value)) = true → PK X kws (tDs M G W es)
  | .nil, X, sc, C, W, tk, kws, h => by
    cases kws with
    | nil => exact ⟨fun pos pins s σ H Q I ⟨ρ, t, F, sx, q⟩ => pk_nil.run pos pins s σ H Q I (PostG.here (show PostG M W F H (.ok [] t) _ from q) sx.stp [] .nil FrD.nil)⟩
    | cons _ _ => cases h
  | .cons e es, X, sc, C, W, tk, kws, h => by
    cases kws with
    | nil => cases h
    | cons kw kws =>
      obtain ⟨nm, x, p⟩ := kw
      obtain ⟨h1, h2⟩ := and3 h
      have pk := pk_cons (nm := nm) (kpos := p) (soundE e C tk x h1) (soundKs es C tk kws h2)
      refine ⟨fun pos pins s σ H Q I ⟨ρ, t, F, sx, q⟩ => pk.run pos pins s σ H Q I ?_⟩
      unfold evalEs at q
      refine ⟨ρ, t, F, sx, (PostG.bind q).imp fun d t1 F1 H1 s1 q2 v hv => ⟨ρ, t1, F1, sx.step s1, (PostG.bind q2).imp fun ds t2 F2 H2 s2 q3 vs hvs fr => ?_⟩⟩
      exact (PostG.here q3 s2.self) _ (.cons (hv.step s2) (hvs.old s1)) (FrD.cons hv hvs fr)
  | .star e es, X, sc, C, W, tk, kws, h => by
    cases kws with
    | nil => cases h
    | cons kw kws => obtain ⟨nm, x, p⟩ := kw; cases x <;> first | (cases h; done) | (simp [chkEs] at h)
theorem soundEs : ∀ (es : Es) {X : Cx} {sc : Scope} (_ : Ct G M X sc) {W : XK} (_ : Takes X fun c d _ H => W c d H) (st : Bool) (xs : List Expr), chkEs G X.N es sc st xs = true → PA X xs (tDs M G W es)
  | .nil, X, sc, C, W, tk, st, xs, h => by
    cases xs with
    | nil => exact pa_nil.imp fun σ H Q ⟨ρ, t, F, sx, q⟩ => q.here sx.stp [] .nil FrD.nil
    | cons _ _ => cases h
  | .cons e es, X, sc, C, W, tk, st, xs, h => by
    cases xs with
    | nil => cases h
    | cons x xs =>
      obtain ⟨h1, h2⟩ := and3 h
      refine (pa_cons (soundE e C tk x h1) (soundEs es C tk st xs h2) (star_of h1 _ _)).imp fun σ H Q ⟨ρ, t, F, sx, q⟩ => ?_
      unfold evalEs at q
      refine ⟨ρ, t, F, sx, (PostG.bind q).imp fun d t1 F1 H1 s1 q2 v hv => ⟨ρ, t1, F1, sx.step s1, (PostG.bind q2).imp fun ds t2 F2 H2 s2 q3 vs hvs fr => ?_⟩⟩
      exact (PostG.here q3 s2.self) _ (.cons (hv.step s2) (hvs.old s1)) (FrD.cons hv hvs fr)
  | .star e es, X, sc, C, W, tk, st, xs, h => by
    cases xs with
    | nil => cases h
    | cons x xs =>
      cases x <;> (try (cases h; done))
      rename_i x p
      obtain ⟨h1, h3⟩ := and3 h
      obtain ⟨h1, h2⟩ := and3 h1
      refine (StX.pa_star (soundE e C tk x h2) (soundEs es C tk st xs h3)).imp fun σ H Q ⟨ρ, t, F, sx, q⟩ => ?_
      unfold evalEs at q
      refine ⟨ρ, t, F, sx, (PostG.bind q).imp fun d t1 F1 H1 s1 q2 v hv => ?_⟩
      obtain ⟨d, kd⟩ := d
      have fin : ∀ {vs : List V} {ds : List D}, seqOf d = some ds → RepL M F1 vs ds → tDs M G W es σ H1 fun ys H2 => Q (vs ++ ys) H2 := fun {vs ds} e1 l => by
        rw [show seqOf (d, kd).1 = some ds from e1] at q2
        refine ⟨ρ, t1, F1, sx.step s1, (PostG.bind q2).imp fun es t2 F2 H2 s2 q3 ws hws fr => (PostG.here q3 s2.self) _ ?_ (FrD.app l.length fr)⟩
        exact VRepL.app_fz' (l.same s2.ff) (hws.old s1)
      cases d <;> (try exact (show False from q2).elim)
      case tup ys =>
        obtain ⟨a, vs, rfl, hs, _, l, _⟩ := hv.tup s1.fh
        rw [C.hK] at hs
        exact ⟨a, vs, rfl, .inl hs, fin rfl l⟩
      case lst ys =>
        obtain ⟨a, vs, rfl, hs, l⟩ := hv.lst s1.fh
        exact ⟨a, vs, rfl, .inr (.inl hs), fin rfl l⟩
theorem soundC : ∀ (es : Es) {X : Cx} {sc : Scope} (_ : Ct G M X sc) {W : XK} (_ : Takes X fun c d _ H => W c d H) (xs : List Expr), chkEs G X.N es sc false xs = true → xs.length ≤ 1 → PTs X xs (tDC G M W es)
  | .nil, X, sc, C, W, tk, xs, h, hl => by
    cases xs with
    | nil => exact ⟨fun pins s σ H Q I ⟨ρ, t, F, sx, q⟩ => pts_nil.run pins s σ H Q I (PostG.here q sx.stp)⟩
    | cons _ _ => cases h
  | .cons e es, X, sc, C, W, tk, xs, h, hl => by
    cases xs with
    | nil => cases h
    | cons x xs =>
      obtain ⟨h1, h2⟩ := and3 h
      cases xs with
      | cons _ _ => simp at hl
      | nil =>
        cases es <;> (try (cases h2; done))
        have p := pts_one (soundT e C tk x h1).1
        refine ⟨fun pins s σ H Q I ⟨ρ, t, F, sx, q⟩ => p.run pins s σ H Q I ?_⟩
        unfold evalC at q
        refine ⟨ρ, t, F, sx, (PostG.bind q).imp fun d t1 F1 H1 s1 q2 => ?_⟩
        obtain ⟨d, k⟩ := d
        cases d <;> (try exact (show False from q2).elim)
        rename_i b
        refine ⟨b, rfl, ?_⟩
        cases b with
        | true => exact PostG.here (show PostG M W F1 H1 (R.ok true t1) _ from by simpa [evalC] using q2) s1.self
        | false => exact PostG.here q2 s1.self
  | .star e es, X, sc, C, W, tk, xs, h, hl => by
    cases xs with
    | nil => cases h
    | cons x xs => cases x <;> first | (cases h; done) | (simp [chkEs] at h)
theorem soundIt : ∀ (it : It) {X : Cx} {sc : Scope} (_ : Ct G M X sc) {W : XK} (_ : Takes X fun c d _ H => W c d H) (x tg : Expr), chkIt G X.N it sc x tg = true → PI X tg x (tIt G M W it)
  | .seq e, X, sc, C, W, tk, x, tg, h => by
    obtain ⟨h1, h2⟩ := and3 h
    have pe := soundE e C tk x h1
    refine ⟨fun pins s σ H R I ⟨ρ, t, F, sx, q⟩ => ?_⟩
    unfold evalIt at q
    cases ee : evalE G e ρ t with
    | no => rw [ee] at q; exact q.elim
    | ex c v t1 =>
      rw [ee] at q
      refine (pi_list pe).run pins s σ H R I ⟨ρ, t, F, sx, ?_⟩
      rw [ee]
      exact q
    | ok d t1 =>
      obtain ⟨d, k⟩ := d
      rw [ee] at q
      have q2 : PostG M W F H (ofO ((itOf d).map fun xs => (xs, frz1 k)) t1) _ := q
      cases d <;> (try exact (show False from q2).elim)
      case tup ys =>
        refine (pi_tup pe).run pins s σ H R I ⟨ρ, t, F, sx, ?_⟩
        rw [ee]
        intro F1 H1 s1 v hv
        obtain ⟨a, vs, rfl, hs, hf, l, _⟩ := hv.tup s1.fh
        rw [C.hK] at hs
        have sw := serW_tup (K := X.K) (C.hK ▸ hf) l
        exact ⟨a, rfl, ⟨vs, hs⟩, q2 F1 H1 s1 _ F1 s1 (fun _ _ z => z) (fun _ => sw) sw.toS⟩
      case scr ys =>
        refine (pi_list pe).run pins s σ H R I ⟨ρ, t, F, sx, ?_⟩
        rw [ee]
        intro F1 H1 s1 v hv
        obtain ⟨a, vs, rfl, hs, hf, l, _⟩ := hv.scr s1.fh
        rw [C.hK] at hs
        have sw := serW_scr (K := X.K) (C.hK ▸ hf) l
        exact ⟨a, rfl, ⟨vs, hs⟩, q2 F1 H1 s1 _ F1 s1 (fun _ _ z => z) (fun _ => sw) sw.toS⟩
      case lst ys =>
        refine (pi_list pe).run pins s σ H R I ⟨ρ, t, F, sx, ?_⟩
        rw [ee]
        intro F1 H1 s1 v hv
        cases k with
        | fz =>
          cases (show Rep M F1 v (.lst ys) from hv) with
          | lst hs l =>
            have sw := serW_list (K := X.K) hs l
            exact ⟨_, rfl, ⟨_, .inl (Rd.same s1.fh hs)⟩, q2 F1 H1 s1 _ F1 s1 (fun _ _ z => z) (fun _ => sw) sw.toS⟩
        | fr =>
          obtain ⟨a, rfl, ⟨nf, nt, o, eo, c⟩, na⟩ := hv
          cases c with
          | @lst ws _ l =>
            have e1 : putF F1 H1 a a = some (.lst ws) := by unfold putF; rw [if_pos rfl]; exact eo
            have sw := serW_list (K := X.K) (M := M) (.inl e1) (l.same (putF_same eo (.inl nf)))
            exact ⟨a, rfl, ⟨ws, .inl (.inl eo)⟩, q2 F1 H1 s1 _ _ (s1.put eo (.inl nf) nt na) (putF_same eo (.inl nf)) (fun _ => sw) sw.toS⟩
        | br =>
          obtain ⟨a, rfl, ⟨nf, nt, o, eo, c⟩, na⟩ := hv
          cases c with
          | @lst ws _ l => exact ⟨a, rfl, ⟨ws, .inl (.inl eo)⟩, q2 F1 H1 s1 _ F1 s1 (fun _ _ z => z) (fun z => absurd rfl z) (serS_list (B := Bo σ ρ) (.inl eo) nt l)⟩
  | .rng1 a, X, sc, C, W, tk, x, tg, h => by
    cases x <;> (try (cases h; done))
    rename_i fn xs kws p
    cases fn <;> (try (cases h; done))
    rename_i y p2
    rcases xs with _ | ⟨xa, _ | ⟨_, _⟩⟩ <;> cases kws <;> (try (cases h; done))
    obtain ⟨h1, h3⟩ := and3 h
    obtain ⟨h1, h2⟩ := and3 h1
    obtain ⟨hg, hd⟩ := isGl_of C h1
    obtain rfl := of_decide_eq_true h2
    refine (pi_range1 hg (C.free _ (by decide +kernel)) (pa_cons (soundE a C tk xa h3) pa_nil (star_of h3 _ _)) (star_of h3 _ _)).imp fun σ H R ⟨ρ, t, F, sx, q⟩ => ?_
    unfold evalIt at q
    refine ⟨ρ, t, F, sx, (PostG.bind' q).imp fun d t1 F1 H1 s1 q2 v hv => ?_⟩
    obtain ⟨d, k⟩ := d
    cases d <;> (try exact (show False from q2).elim)
    rename_i i
    obtain ⟨rfl, _⟩ := hv.int
    have q3 : PostG M W F H (if inRng i then DE.R.ok (rngI 0 i, Kd.fz) t1 else .no) _ := q2
    split at q3
    · rename_i g
      obtain ⟨g1, g2⟩ : -(2 ^ 62) ≤ i ∧ i < 2 ^ 62 := of_decide_eq_true g
      have sw := serW_rng (M := M) (F := F1) 0 i
      have e0 : (i - 0).toNat = i.toNat := by omega
      rw [e0] at sw
      exact ⟨i, rfl, g1, g2, q3 F1 H1 s1 _ F1 s1 (fun _ _ z => z) (fun _ => sw) sw.toS⟩
    · exact (show False from q3).elim
  | .rng2 a b, X, sc, C, W, tk, x, tg, h => by
    cases x <;> (try (cases h; done))
    rename_i fn xs kws p
    cases fn <;> (try (cases h; done))
    rename_i y p2
    rcases xs with _ | ⟨xa, _ | ⟨xb, _ | ⟨_, _⟩⟩⟩ <;> cases kws <;> (try (cases h; done))
    obtain ⟨h1, h4⟩ := and3 h
    obtain ⟨h1, h3⟩ := and3 h1
    obtain ⟨h1, h2⟩ := and3 h1
    obtain ⟨hg, hd⟩ := isGl_of C h1
    obtain rfl := of_decide_eq_true h2
    refine (pi_range2 hg (C.free _ (by decide +kernel)) (pa_cons (soundE a C tk xa h3) (pa_cons (soundE b C tk xb h4) pa_nil (star_of h4 _ _)) (star_of h3 _ _)) (by rw [star_of h3, star_of h4]; rfl) (star_of h4 _ _)).imp fun σ H R ⟨ρ, t, F, sx, q⟩ => ?_
    unfold evalIt at q
    refine ⟨ρ, t, F, sx, (PostG.bind' q).imp fun d t1 F1 H1 s1 q2 v hv => ⟨ρ, t1, F1, sx.step s1, ((PostG.bind' q2).from_ s1).imp fun e t2 F2 H2 s2 q3 w hw => ?_⟩⟩
    obtain ⟨d, k⟩ := d
    obtain ⟨e, ke⟩ := e
    cases d <;> (try exact (show False from q3).elim) <;> cases e <;> (try exact (show False from q3).elim)
    rename_i i j
    obtain ⟨rfl, _⟩ := hv.int
    obtain ⟨rfl, _⟩ := hw.int
    have q4 : PostG M W F H (if inRng i && inRng j then DE.R.ok (rngI i j, Kd.fz) t2 else .no) _ := q3
    split at q4
    · rename_i g
      obtain ⟨ga, gb⟩ := and3 g
      obtain ⟨g1, g2⟩ : -(2 ^ 62) ≤ i ∧ i < 2 ^ 62 := of_decide_eq_true ga
      obtain ⟨g3, g4⟩ : -(2 ^ 62) ≤ j ∧ j < 2 ^ 62 := of_decide_eq_true gb
      have sw := serW_rng (M := M) (F := F2) i j
      exact ⟨i, j, rfl, ⟨g1, g2, g3, g4⟩, q4 F2 H2 (s1.trans s2) _ F2 (s1.trans s2) (fun _ _ z => z) (fun _ => sw) sw.toS⟩
    · exact (show False from q4).elim
  | .rng3 _ _ _, X, sc, C, W, tk, x, tg, h => by cases h
  | .enum e, X, sc, C, W, tk, x, tg, h => by
    cases x <;> (try (cases h; done))
    rename_i fn xs kws p
    cases fn <;> (try (cases h; done))
    rename_i y p2
    rcases xs with _ | ⟨xe, _ | ⟨_, _⟩⟩ <;> cases kws <;> (try (cases h; done))
    obtain ⟨h1, h4⟩ := and3 h
    obtain ⟨h1, h3⟩ := and3 h1
    obtain ⟨h1, h2⟩ := and3 h1
    obtain rfl := of_decide_eq_true h2
    cases tg <;> (try (cases h4; done))
    exact it_enum C (isGl_of C h1).1 (soundE e C tk xe h3) (star_of h3)
  | .zip a b, X, sc, C, W, tk, x, tg, h => by
    cases x <;> (try (cases h; done))
    rename_i fn xs kws p
    cases fn <;> (try (cases h; done))
    rename_i y p2
    rcases xs with _ | ⟨xa, _ | ⟨xb, _ | ⟨_, _⟩⟩⟩ <;> cases kws <;> (try (cases h; done))
    obtain ⟨h1, h5⟩ := and3 h
    obtain ⟨h1, h4⟩ := and3 h1
    obtain ⟨h1, h3⟩ := and3 h1
    obtain ⟨h1, h2⟩ := and3 h1
    obtain rfl := of_decide_eq_true h2
    cases tg <;> (try (cases h5; done))
    exact it_zip C (isGl_of C h1).1 (soundE a C tk xa h3) (soundE b C tk xb h4) (star_of h3) (star_of h4)
  | .rev e, X, sc, C, W, tk, x, tg, h => by
    cases x <;> (try (cases h; done))
    rename_i fn xs kws p
    cases fn <;> (try (cases h; done))
    rename_i y p2
    rcases xs with _ | ⟨xe, _ | ⟨_, _⟩⟩ <;> cases kws <;> (try (cases h; done))
    obtain ⟨h1, h3⟩ := and3 h
    obtain ⟨h1, h2⟩ := and3 h1
    obtain rfl := of_decide_eq_true h2
    exact it_rev C (isGl_of C h1).1 (soundE e C tk xe h3) (star_of h3)
  | .prim k es, X, sc, C, W, tk, x, tg, h => by
    unfold chkIt at h
    split at h
    · rename_i p ep
      split at h
      · rename_i xs ex
        obtain ⟨h1, h2⟩ := and3 h
        obtain ⟨P, w, K, mg, base, kk, b, q⟩ := C.prmI
        refine q k p ep X b sc C.gl W tk (.prim k es) es x tg xs ex (soundAll es C tk xs h2) fun ρ t => ?_
        rw [evalIt]
        simp only [ep]
      · cases h
    · cases h
end
end
end DE
set_option maxHeartbeats 4000000
/-! DE11: statements: what they evaluate to, the text, soundness. -/
namespace DE
open PySem PySem.Spec PyProof.Rows L2

section
variable {T : Type}
def asgO (ρ : En) (tg : Tg) (own : Bool) (x : Dk) (t : T) : R T O := match x with
  | (_, .br) => .no
  | (d, .fz) => ofO ((bindT ρ tg d).map .nx) t
  | (d, .fr) => if own then (match tg with
      | .nm i => ofO ((setE ρ i (.ow d)).map .nx) t
      | _ => .no) else ofO ((bindT ρ tg d).map .nx) t
def parL : En → List (Nat × Bool) → List Dk → Option En
  | ρ, [], [] => some ρ
  | ρ, (i, own) :: is, x :: xs => (match x with
      | (_, .br) => none
      | (d, .fz) => setE ρ i (.fz d)
      | (d, .fr) => setE ρ i (if own then .ow d else .fz d)).bind fun ρ => parL ρ is xs
  | _, _, _ => none
def forL (bind : D → En → Option En) (f : En → T → R T O) : List D → En → T → R T O
  | [], ρ, t => .ok (.nx ρ) t
  | d :: ds, ρ, t => match bind d ρ with
    | none => .no
    | some ρ1 => (f ρ1 t).bind fun o t => match o with
      | .nx ρ2 => forL bind f ds ρ2 t
      | .ct ρ2 => forL bind f ds ρ2 t
      | .bk ρ2 => .ok (.nx ρ2) t
      | .rt d => .ok (.rt d) t
def whL (c : En → T → R T Dk) (f : En → T → R T O) : Nat → En → T → R T O
  | 0, _, _ => .no
  | n + 1, ρ, t => (c ρ t).bind fun x t => match x.1 with
    | .bl true => (f ρ t).bind fun o t => match o with
      | .nx ρ2 => whL c f n ρ2 t
      | .ct ρ2 => whL c f n ρ2 t
      | .bk ρ2 => .ok (.nx ρ2) t
      | .rt d => .ok (.rt d) t
    | .bl false => .ok (.nx ρ) t
    | _ => .no
/-- a place of a list -/
def putD (d : D) (k v : D) : Option D := match d, k with
  | .lst xs, .int i => (ixN xs.length i).map fun j => .lst (xs.set j v)
  | .dct false kvs, k => if keyOk k && decide (kvs.length < lim) then some (.dct false (dput kvs k v)) else none
  | _, _ => none
def popD (xs : List D) (o : Option Int) : Option (D × List D) := match o with
  | none => (xs[xs.length - 1]?).map fun y => (y, xs.dropLast)
  | some i => if decide (-(2 ^ 63) ≤ i ∧ i < 2 ^ 63) then ((seqIndex? i xs.length).bind fun k => (xs[k]?).map fun y => (y, xs.eraseIdx k)) else none
def ownAt (ρ : En) (i : Nat) : Option D := match ρ[i]? with
  | some (.ow d) => some d
  | _ => none
/-- a loop over lambdas: the slot w locked with each -/
def forK (w : Nat) (f : En → T → R T O) : Nat → Nat → En → T → R T O
  | 0, _, ρ, t => if noLk (ρ.set w .un) then .ok (.nx (ρ.set w .un)) t else .no
  | n + 1, k, ρ, t => if w < ρ.length then (f (ρ.set w (.lock k)) t).bind fun o t => match o with
    | .nx ρ2 => forK w f n (k + 1) ρ2 t
    | .ct ρ2 => forK w f n (k + 1) ρ2 t
    | .bk ρ2 => if noLk (ρ2.set w .un) then .ok (.nx (ρ2.set w .un)) t else .no
    | .rt d => .ok (.rt d) t else .no
mutual
def execS (G : Pg T) (fu : Nat) : S → En → T → R T O
  | .frz i, ρ, t => match ρ[i]? with
    | some (.ow d) => .ok (.nx (ρ.set i (.fz d))) t
    | some (.fz _) => .ok (.nx ρ) t
    | _ => .no
  | .asg tg own e, ρ, t => (evalE G e ρ t).bind fun x t => asgO ρ tg own x t
  | .par is es, ρ, t => (evalEs G es ρ t).bind fun xs t => ofO ((parL ρ is xs).map .nx) t
  | .ex e, ρ, t => (evalE G e ρ t).bind fun _ t => .ok (.nx ρ) t
  | .app i e, ρ, t => match ownAt ρ i with
    | some (.lst xs) => (evalE G e ρ t).bind fun x t => match fzOf x with
      | some d => if xs.length < lim then .ok (.nx (ρ.set i (.ow (.lst (xs ++ [d]))))) t else .no
      | none => .no
    | _ => .no
  | .set i ix e, ρ, t => match ownAt ρ i with
    | some c => (evalE G e ρ t).bind fun x t => (evalE G ix ρ t).bind fun k t => match fzOf x with
      | some d => ofO ((putD c k.1 d).map fun c => .nx (ρ.set i (.ow c))) t
      | none => .no
    | none => .no
  | .pop tg i ix, ρ, t => match ownAt ρ i with
    | some (.lst xs) => (evalE G ix ρ t).bind fun k t => match (optI (isNoe ix) k.1).bind (popD xs) with
      | some (y, c') => ofO ((bindT (ρ.set i (.ow (.lst c'))) tg y).map .nx) t
      | none => .no
    | _ => .no
  | .appPop i j ix, ρ, t => match ownAt ρ i, ownAt ρ j with
    | some (.lst xs), some (.lst ys) => (evalE G ix ρ t).bind fun k t => match (optI (isNoe ix) k.1).bind (popD ys) with
      | some (y, c') => if decide (i ≠ j) && decide (xs.length < lim) then .ok (.nx ((ρ.set j (.ow (.lst c'))).set i (.ow (.lst (xs ++ [y]))))) t else .no
      | none => .no
    | _, _ => .no
  | .ret e, ρ, t => (evalE G e ρ t).bind fun x t => .ok (.rt (x.1, if x.2 = .br then .fr else x.2)) t
  | .retN, _, t => .ok (.rt (.non, .fz)) t
  | .ite c a b, ρ, t => (evalE G c ρ t).bind fun x t => match x.1 with
    | .bl true => execSs G fu a ρ t
    | .bl false => execSs G fu b ρ t
    | _ => .no
  | .fr tg it b, ρ, t => (evalIt G it ρ t).bind fun xs t => if xs.2 = .br then .no else forL (fun d ρ => bindT ρ tg d) (fun ρ t => execSs G fu b ρ t) xs.1 ρ t
  | .wh c b, ρ, t => whL (fun ρ t => evalE G c ρ t) (fun ρ t => execSs G fu b ρ t) fu ρ t
  | .brk, ρ, t => .ok (.bk ρ) t
  | .cnt, ρ, t => .ok (.ct ρ) t
  | .pass, ρ, t => .ok (.nx ρ) t
  | .rai c e, ρ, t => (evalE G e ρ t).bind fun x t => match fzOf x with
    | some d => .ex c (some d) t
    | none => .no
  | .rai0 c, _, t => .ex c none t
  | .prim k is es, ρ, t => (evalEs G es ρ t).bind fun xs t => match G.sprims[k]? with
    | some p => p.f is ρ xs t
    | none => .no
  | .lams w es b, ρ, t => if noLk ρ then forK w (fun ρ t => execSs (G.wl (lamFns G es)) fu b ρ t) (lamFns G es).length 0 ρ t else .no
def execSs (G : Pg T) (fu : Nat) : Ss → En → T → R T O
  | .nil, ρ, t => .ok (.nx ρ) t
  | .cons s r, ρ, t => (execS G fu s ρ t).bind fun o t => match o with
    | .nx ρ => execSs G fu r ρ t
    | .rt d => .ok (.rt d) t
    | .bk ρ => .ok (.bk ρ) t
    | .ct ρ => .ok (.ct ρ) t
end
/-- a def: its slots, how many of them are parameters, its body -/
def runFn (G : Pg T) (fu : Nat) (slots : Nat) (body : Ss) : DFn T := fun ds t =>
  (execSs G fu body (ds.map .fz ++ List.replicate (slots - ds.length) .un) t).bind fun o t => match o with
    | .nx _ => .ok (.non, .fz) t
    | .rt (_, .br) => .no
    | .rt d => .ok d t
    | _ => .no
end

/-! ### the text -/
def swOf (sc : Scope) (ts vs : List Expr) : Option (Option (List Str)) :=
  if !(ts.length == 2 || ts.length == 3) || vs.length != ts.length then some none
  else if vs.any fun | .Starred .. => true | _ => false then some none
  else
    let line := (ts.head?.map (·.pos.line)).getD 0
    let names := ts.filterMap fun
      | .Name id pos => if sc.names.lookup id == some .local && pos.line == line then some id else none
      | _ => none
    if names.length != ts.length || names.eraseDups.length != names.length then some none
    else if vs.all (foldedForSure 8) then some none
    else if vs.all (constantsAlone 8) then none
    else some (some names)
theorem swOf_ok {env : Env} {sc : Scope} {ts vs : List Expr} {a b : Nat} {p q : Pos} {r : Option (List Str)} (hs : env.scope = sc) (hk : sc.kind = .function) (h : swOf sc ts vs = some r) : swappedStores [.Tuple ts a p] (.Tuple vs b q) env = pure r := by
  have hb : env.blockKind = .function := by unfold Env.blockKind; rw [hs, hk]; rfl
  have hl : ∀ id, env.kindOf id = sc.names.lookup id := fun id => by unfold Env.kindOf; rw [hs]
  unfold swOf at h
  unfold swappedStores
  simp only [hb, hl]
  simp only [bne_self_eq_false, Bool.or_false]
  split at h
  · rename_i c; cases h; exact if_pos c
  · rename_i c
    refine (if_neg c).trans ?_
    split at h
    · rename_i c2; cases h; exact if_pos c2
    · rename_i c2
      refine (if_neg c2).trans ?_
      dsimp only at h
      split at h
      · rename_i c3; cases h; exact if_pos c3
      · rename_i c3
        refine (if_neg c3).trans ?_
        split at h
        · rename_i c4; cases h; exact if_pos c4
        · rename_i c4
          refine (if_neg c4).trans ?_
          split at h
          · cases h
          · rename_i c5; cases h; exact if_neg c5

def isFrz : S → Bool
  | .frz _ => true
  | _ => false
def swLc (sc : Scope) (y : Str) (py lp : Pos) (scope : Scope) : Bool := decide (sc.names.lookup y = some .local) && (py.line == lp.line) && !(scope.names.any fun (n, k) => n == y && (k == .local || k == .cell))
def nameAt (N : List Str) (sc : Scope) (i : Nat) (y : Str) : Bool := decide (N[i]? = some y) && isLoc sc y && !(y == ("__debug__" : Str)) && !(y == ("__classdict__" : Str))
section
variable {T : Type}
/-- the texts of lambdas -/
def chkLams (G : Pg T) (N : List Str) : Es → Scope → List Expr → Bool
  | .nil, _, [] => true
  | .cons e es, sc, .Lambda params body scope _ :: xs => LamX.lamSB sc scope && noArgs params && chkE G N e (mkLam scope) body && chkLams G N es sc xs
  | _, _, _ => false
mutual
def chkS (G : Pg T) (N : List Str) : S → Scope → Stmt → Bool
  | .frz _, _, _ => false
  | .asg tg own e, sc, st => (match st with
    | .Assign [xt] xe _ => chkE G N e sc xe && chkTg N sc tg xt && (match xt, xe with
      | .Tuple ts _ _, .Tuple vs _ _ => decide (swOf sc ts vs = some none)
      | .Name y py, .ListComp _ _ scope lp => swLc sc y py lp scope
      | .Name _ _, x => noLc x
      | .Tuple _ _ _, x => noLc x
      | _, _ => false)
    | _ => false)
  | .par is es, sc, st => (match st with
    | .Assign [.Tuple ts _ _] (.Tuple vs _ _) _ => (match ts, vs, is with
      | [.Name x _, .Name y _], [_, _], [(i, _), (j, _)] => decide (swOf sc ts vs = some (some [x, y])) && decide (N[i]? = some x) && decide (N[j]? = some y) && decide (i ≠ j) && decide (sc.names.lookup x = some .local) && decide (sc.names.lookup y = some .local) && chkEs G N es sc false vs
      | [.Name x _, .Name y _, .Name z _], [_, _, _], [(i, _), (j, _), (l, _)] => decide (swOf sc ts vs = some (some [x, y, z])) && decide (N[i]? = some x) && decide (N[j]? = some y) && decide (N[l]? = some z) && decide (i ≠ j) && decide (i ≠ l) && decide (j ≠ l) && decide (sc.names.lookup x = some .local) && decide (sc.names.lookup y = some .local) && decide (sc.names.lookup z = some .local) && chkEs G N es sc false vs
      | _, _, _ => false)
    | _ => false)
  | .ex e, sc, st => (match st with
    | .Expr xe _ => chkE G N e sc xe && noLc xe
    | _ => false)
  | .app i e, sc, st => (match st with
    | .Expr (.Call (.Attribute (.Name y _) m apos) [xe] [] cpos) _ => nameAt N sc i y && decide (m = "append") && chkE G N e sc xe && (apos.endLine == cpos.line)
    | _ => false)
  | .set i ix e, sc, st => (match st with
    | .Assign [.Subscript (.Name y _) xi _] xe _ => nameAt N sc i y && chkE G N ix sc xi && chkE G N e sc xe && noLc xe
    | _ => false)
  | .pop tg i ix, sc, st => (match st with
    | .Assign [xt] (.Call (.Attribute (.Name y _) m apos) xs [] cpos) _ => nameAt N sc i y && decide (m = "pop") && (apos.endLine == cpos.line) && chkTg N sc tg xt && (match xs with
      | [] => isNoe ix
      | [xi] => chkE G N ix sc xi && !isNoe ix
      | _ => false)
    | _ => false)
  | .appPop i j ix, sc, st => (match st with
    | .Expr (.Call (.Attribute (.Name y _) m apos) [.Call (.Attribute (.Name z _) m2 apos2) xs [] cpos2] [] cpos) _ => nameAt N sc i y && decide (m = "append") && (apos.endLine == cpos.line) && nameAt N sc j z && decide (m2 = "pop") && (apos2.endLine == cpos2.line) && (match xs with
      | [] => isNoe ix
      | [xi] => chkE G N ix sc xi && !isNoe ix
      | _ => false)
    | _ => false)
  | .ret e, sc, st => (match st with
    | .Return (some xe) _ => chkE G N e sc xe
    | _ => false)
  | .retN, _, st => (match st with | .Return none _ => true | _ => false)
  | .ite c a b, sc, st => (match st with
    | .If xc xa xb _ => chkE G N c sc xc && chkSs G N a sc xa && chkSs G N b sc xb
    | _ => false)
  | .fr tg it b, sc, st => (match st with
    | .For xt xi xb [] _ => chkIt G N it sc xi xt && noSetE xi && chkTg N sc tg xt && chkSs G N b sc xb
    | _ => false)
  | .wh c b, sc, st => (match st with
    | .While xc xb [] _ => chkE G N c sc xc && chkSs G N b sc xb
    | _ => false)
  | .brk, _, st => (match st with | .Break _ => true | _ => false)
  | .cnt, _, st => (match st with | .Continue _ => true | _ => false)
  | .pass, _, st => (match st with | .Pass _ => true | _ => false)
  | .rai c e, sc, st => (match st with
    | .Raise (some (.Call (.Name y _) [xe] [] _)) none _ => decide ((G.cls[c]?).map (fun i => (i.name, i.init.isSome)) = some (y, true)) && isGl sc y && chkE G N e sc xe
    | _ => false)
  | .rai0 c, sc, st => (match st with
    | .Raise (some (.Call (.Name y _) [.Constant (.str _) _ _] [] _)) none _ => decide ((G.cls[c]?).map (fun i => (i.name, i.init.isSome)) = some (y, false)) && isGl sc y
    | _ => false)
  | .prim k is es, sc, st => (match G.sprims[k]? with
    | some p => (match p.chk N sc is st with
      | some xs => chkEs G N es sc false xs
      | none => false)
    | none => false)
  | .lams w es b, sc, st => (match st with
    | .For xt (.List xs _) xb [] _ => chkTg N sc (.nm w) xt && (!inLam sc && !inCmp sc) && N.contains "_law_caught" && isGl sc "_law_caught" && chkLams G N es sc xs && decide (xs.length ≤ 100) && chkSs (G.wl (lamFns G es)) N b sc xb
    | _ => false)
def chkSs (G : Pg T) (N : List Str) : Ss → Scope → List Stmt → Bool
  | .nil, _, xs => (match xs with | [] => true | _ => false)
  | .cons s r, sc, xs => if isFrz s then chkSs G N r sc xs else (match xs with
    | x :: xs => chkS G N s sc x && chkSs G N r sc xs
    | [] => false)
end
end

/-! ### the judgement -/
section
variable {T : Type} {G : Pg T} {M : Md T}
/-- within a def that began at (F0, H0) -/
structure Sst (M : Md T) (F0 H0 F H : Hp) (σ : L2.St) (ρ : En) (t : T) : Prop where
  sx : Sx M F H σ ρ t
  bs : Stp M F0 H0 F H t
  on : ∀ b, Bo σ ρ b → H0 b = none
theorem Sst.step {F0 H0 F H F' H' : Hp} {σ : L2.St} {ρ : En} {t t' : T} (s : Sst M F0 H0 F H σ ρ t) (p : Stp M F H F' H' t') : Sst M F0 H0 F' H' σ ρ t' := ⟨s.sx.step p, s.bs.trans p, s.on⟩
def PostS (M : Md T) (W : XK) (F0 H0 F : Hp) (r : R T O) (D : Ends) : Prop := match r with
  | .ok (.nx ρ) t => ∀ F' H' σ, Same F F' → Sst M F0 H0 F' H' σ ρ t → D.nx σ H'
  | .ok (.rt d) t => ∀ F' H' v, Same F F' → Stp M F0 H0 F' H' t → VRep (M := M) (fun _ => False) H0 F' H' v d → D.rt v H'
  | .ok (.bk ρ) t => ∀ F' H' σ, Same F F' → Sst M F0 H0 F' H' σ ρ t → D.bk σ H'
  | .ok (.ct ρ) t => ∀ F' H' σ, Same F F' → Sst M F0 H0 F' H' σ ρ t → D.ct σ H'
  | .ex c v t => ∀ F' H' cls d, Stp M F0 H0 F' H' t → ExR M H0 F' H' c v cls d → W cls d H'
  | .no => False
theorem PostS.same {W : XK} {F0 H0 F F1 : Hp} {r : R T O} {D : Ends} (s : Same F F1) (h : PostS M W F0 H0 F r D) : PostS M W F0 H0 F1 r D := by
  unfold PostS at h ⊢
  split at h
  · exact fun F' H' σ ff q => h F' H' σ (fun b x e => ff _ _ (s _ _ e)) q
  · exact fun F' H' v ff q => h F' H' v (fun b x e => ff _ _ (s _ _ e)) q
  · exact fun F' H' σ ff q => h F' H' σ (fun b x e => ff _ _ (s _ _ e)) q
  · exact fun F' H' σ ff q => h F' H' σ (fun b x e => ff _ _ (s _ _ e)) q
  · exact h
  · exact h
theorem PostS.bindE {W : XK} {F0 H0 F H : Hp} {α : Type} {r : R T α} {f : α → T → R T O} {D : Ends} {t : T} (bs : Stp M F0 H0 F H t) (h : PostS M W F0 H0 F (r.bind f) D) : PostG M W F H r fun a t' F' H' => PostS M W F0 H0 F' (f a t') D := by
  cases r with
  | ok a t' => exact fun F' H' s => PostS.same s.ff h
  | ex c v t' =>
    have h : ∀ F' H' cls d, Stp M F0 H0 F' H' t' → ExR M H0 F' H' c v cls d → W cls d H' := h
    exact fun F' H' cls d s e => h F' H' cls d (bs.trans s) (e.old bs)
  | no => exact h
theorem PostS.ofO {W : XK} {F0 H0 F : Hp} {o : Option O} {t : T} {D : Ends} (h : PostS M W F0 H0 F (ofO o t) D) : ∃ a, o = some a ∧ PostS M W F0 H0 F (.ok a t) D := by
  cases o with
  | none => exact h.elim
  | some a => exact ⟨a, rfl, h⟩
/-- what statements lead to, and then f -/
def Ends.then_ (M : Md T) (W : XK) (F0 H0 : Hp) (f : En → T → R T O) (D : Ends) : Ends := { D with nx := fun σ H => ∃ ρ t F, Sst M F0 H0 F H σ ρ t ∧ PostS M W F0 H0 F (f ρ t) D }
def tDS (M : Md T) (G : Pg T) (fu : Nat) (W : XK) (F0 H0 : Hp) (s : S) : TS := fun D σ H => ∃ ρ t F, Sst M F0 H0 F H σ ρ t ∧ PostS M W F0 H0 F (execS G fu s ρ t) D
def tDSs (M : Md T) (G : Pg T) (fu : Nat) (W : XK) (F0 H0 : Hp) (s : Ss) : TS := fun D σ H => ∃ ρ t F, Sst M F0 H0 F H σ ρ t ∧ PostS M W F0 H0 F (execSs G fu s ρ t) D
/-- a statement of the table does what it tells -/
def PrimSOk (G : Pg T) (M : Md T) (X : Cx) (sc : Scope) (p : PrimS T) : Prop := ∀ (fu : Nat) (W : XK) (F0 H0 : Hp), Takes X (fun c d _ H => W c d H) → ∀ (s : S) (is : List Nat) (es : Es) (st : Stmt) (xs : List Expr), p.chk X.N sc is st = some xs →
  AllPE G M X W es xs → (∀ ρ t t1 ds, evalEs G es ρ t = .ok ds t1 → ds.length = xs.length) → (∀ ρ t, execS G fu s ρ t = (evalEs G es ρ t).bind fun ds t => p.f is ρ ds t) → PS X st (tDS M G fu W F0 H0 s)
/-- a def's body: its facts -/
structure Cs (G : Pg T) (M : Md T) (X : Cx) (sc : Scope) (W : XK) : Prop where
  ct : Ct G M X sc
  tk : Takes X fun c d _ H => W c d H
  hsc : X.env.scope = sc
  hk : sc.kind = .function
  po : PassesOwn (model X.prog X.w) X.A X.env X.xe
  spr : ∀ (i : Nat) (p : PrimS T), G.sprims[i]? = some p → PrimSOk G M X sc p
  rai0 : ∀ c y, (G.cls[c]?).map (fun i => (i.name, i.init.isSome)) = some (y, false) → Gl X y → (y == ("__debug__" : Str)) = false → ∀ (m : Str) (j : Nat) (p p2 pos : Pos), PMk X (.Call (.Name y p) [.Constant (.str m) j p2] [] pos) (fun _ H Q => Q (.ref (M.CA c)) none H)
  rai1 : ∀ c y, (G.cls[c]?).map (fun i => (i.name, i.init.isSome)) = some (y, true) → Gl X y → (y == ("__debug__" : Str)) = false → ∀ (e : Expr) (te : TE) (p pos : Pos), PE X e te → (∀ env xs, starEach (e :: xs) env = (false, eval e env) :: starEach xs env) → PMk X (.Call (.Name y p) [e] [] pos) (fun σ H Q => te σ H fun v H1 => ∀ dx, H1 dx = none → Q (.ref (M.CA c)) (some dx) (upd H1 dx (.xd [(M.atr c, v)])))
/-- the lambdas of a loop made: their closures told of, the list of them -/
def tLams (M : Md T) (G : Pg T) (X : Cx) (es : Es) : TI := fun σ H R => ∃ ρ t F, Sx M F H σ ρ t ∧ ∀ (F' H' : Hp) (vs : List (V × List (Addr × HO))) (a : Addr), Stp M F H F' H' t → vs.length = (lamFns G es).length → LW (G.wl (lamFns G es)) (M.wv fun k => vs[k]?) X →
  (∀ v ∈ vs, ∀ p ∈ v.2, F' p.1 = some p.2) → F' a = some (.lst (vs.map (·.1))) → R (Itl X.K a) H'
/-- lambdas: their texts' reading -/
inductive LamTx (G : Pg T) (M : Md T) (X : Cx) (sc : Scope) : Es → List Expr → Prop
  | nil : LamTx G M X sc .nil []
  | cons {e : E} {es : Es} {params : Arguments} {body : Expr} {scope : Scope} {lpos : Pos} {xs : List Expr} : LamX.lamSB sc scope = true → noArgs params = true →
    (∀ (f : Nat → Option (V × List (Addr × HO))) (X' : Cx) (W' : XK), X'.N = X.N → Ct0 G (M.wv f) X' scope → Takes X' (fun c d _ H => W' c d H) → PE X' body (tD (M.wv f) G W' e)) → LamTx G M X sc es xs → LamTx G M X sc (.cons e es) (.Lambda params body scope lpos :: xs)
def LamsOk (G : Pg T) (M : Md T) (X : Cx) (sc : Scope) : Prop := Gl X "_law_caught" → ∀ (es : Es) (xs : List Expr) (tg : Expr) (pos : Pos), LamTx G M X sc es xs → xs.length ≤ 100 → PI X tg (.List xs pos) (tLams M G X es)
/-- .. also within loops over lambdas -/
structure CsA (G : Pg T) (M : Md T) (X : Cx) (sc : Scope) (W : XK) : Prop extends Cs G M X sc W where
  al : ∀ (L : List (En → T → R T Dk)) (f : Nat → Option (V × List (Addr × HO))), LW (G.wl L) (M.wv f) X → Cs (G.wl L) (M.wv f) X sc W
  lms : ∀ (L : List (En → T → R T Dk)) (f : Nat → Option (V × List (Addr × HO))), inLam sc = false → inCmp sc = false → X.N.contains "_law_caught" = true → LamsOk (G.wl L) (M.wv f) X sc
end
end DE
set_option maxHeartbeats 4000000
/-! DE12: soundness of statements. -/
namespace DE
open PySem PySem.Spec PyProof.Rows L2

section
variable {T : Type} {G : Pg T} {M : Md T}
theorem nameAt_of {X : Cx} {sc : Scope} (C : Ct G M X sc) {i : Nat} {y : Str} {p : Pos} (h : nameAt X.N sc i y = true) : PE X (.Name y p) (tVar i) := by
  obtain ⟨h1, h4⟩ := and3 h
  obtain ⟨h1, h3⟩ := and3 h1
  obtain ⟨h1, h2⟩ := and3 h1
  exact pe_var (i := i) (of_decide_eq_true h1) (C.vis y h2) (by simpa using h3) (by simpa using h4)
theorem ownAt_some {ρ : En} {i : Nat} {d : D} (h : ownAt ρ i = some d) : ρ[i]? = some (.ow d) := by
  unfold ownAt at h
  split at h
  · rename_i e; cases h; exact e
  · cases h
theorem lt_of_get {ρ : En} {i : Nat} {x : SV} (h : ρ[i]? = some x) : i < ρ.length := (List.getElem?_eq_some_iff.mp h).1

/-- an owned list (dict) is changed: the object at a becomes o' -/
theorem Sst.upd {F0 H0 F H : Hp} {σ : L2.St} {ρ : En} {t : T} (s : Sst M F0 H0 F H σ ρ t) {i : Nat} {a : Addr} {d d' : D} {o' : HO} (e : ρ[i]? = some (.ow d)) (ea : σ[i]? = some (some (.ref a))) (c : Cont (M := M) F o' d') : Sst M F0 H0 F (L2.upd H a o') σ (ρ.set i (.ow d')) t := by
  obtain ⟨b, eb, nf, nt, o, eo, c0⟩ := s.sx.ow i d e
  rw [ea] at eb
  cases eb
  have hi := lt_of_get e
  have n0 : H0 a = none := s.on a ⟨i, d, e, ea⟩
  have same : Same F (L2.upd H a o') := fun b x q => by rw [upd_ne (ne_of_none q nf)]; exact s.sx.fh b x q
  have tap : M.tp.At (L2.upd H a o') t := M.tp.loc (fun b hb => by
    have z : b ≠ a := fun z => nt (z ▸ hb)
    rw [upd_ne z]) (fun b φ z => by
    have n : b ≠ a := fun y => by
      rw [y, eo] at z
      cases z
      cases c0
    rw [upd_ne n]; exact z) (fun b ps z => by
    by_cases y : b = a
    · subst y; rw [upd_same] at z; cases z; cases c
    · rw [upd_ne y] at z; exact z) s.sx.tap
  refine ⟨⟨same, tap, s.sx.ntp, by rw [List.length_set]; exact s.sx.len, fun j e' h => ?_, fun j e' h => ?_, fun j k d1 d2 b h1 h2 h3 h4 => ?_, fun j kk h => by
    by_cases z : i = j
    · subst z; rw [List.getElem?_set_self hi] at h; cases h
    · rw [List.getElem?_set_ne z] at h; exact s.sx.lk j kk h⟩, ⟨same, tap, s.sx.ntp, s.bs.ff, s.bs.new, fun b x q n => by rw [upd_ne (ne_of_none q n0)]; exact s.bs.hh b x q n, fun b ps e => by
    by_cases z : b = a
    · subst z; rw [upd_same] at e; cases e; cases c
    · rw [upd_ne z] at e; exact s.bs.tb b ps e⟩, fun b hb => ?_⟩
  · by_cases z : i = j
    · subst z; rw [List.getElem?_set_self hi] at h; cases h
    · rw [List.getElem?_set_ne z] at h; exact s.sx.fz j e' h
  · by_cases z : i = j
    · subst z
      rw [List.getElem?_set_self hi] at h
      cases h
      exact ⟨a, ea, nf, nt, o', upd_same, c⟩
    · rw [List.getElem?_set_ne z] at h
      obtain ⟨b, e1, n1, n2, u, e2, c2⟩ := s.sx.ow j e' h
      have zb : b ≠ a := fun zb => by
        subst zb
        exact z (s.sx.dis i j d e' b e h ea e1)
      exact ⟨b, e1, n1, n2, u, by rw [upd_ne zb]; exact e2, c2⟩
  · have key : ∀ (j : Nat) (x : D), (ρ.set i (.ow d'))[j]? = some (SV.ow x) → ∃ y, ρ[j]? = some (.ow y) := fun j x h => by
      by_cases z : i = j
      · subst z; exact ⟨d, e⟩
      · rw [List.getElem?_set_ne z] at h; exact ⟨x, h⟩
    obtain ⟨y1, k1⟩ := key j d1 h1
    obtain ⟨y2, k2⟩ := key k d2 h2
    exact s.sx.dis j k y1 y2 b k1 k2 h3 h4
  · obtain ⟨j, x, h1, h2⟩ := hb
    by_cases z : i = j
    · subst z
      rw [ea] at h2
      cases h2
      exact n0
    · rw [List.getElem?_set_ne z] at h1
      exact s.on b ⟨j, x, h1, h2⟩
/-- an owned slot is frozen -/
theorem Sst.freeze {F0 H0 F H : Hp} {σ : L2.St} {ρ : En} {t : T} (s : Sst M F0 H0 F H σ ρ t) {i : Nat} {d : D} (e : ρ[i]? = some (.ow d)) : ∃ F', Same F F' ∧ Sst M F0 H0 F' H σ (ρ.set i (.fz d)) t := by
  obtain ⟨a, ea, nf, nt, o, eo, c⟩ := s.sx.ow i d e
  have n0 : H0 a = none := s.on a ⟨i, d, e, ea⟩
  have hi := lt_of_get e
  have bs := s.bs.put eo (.inl nf) nt n0
  have ff := putF_same eo (.inl nf : F a = none ∨ F a = some o)
  have e1 : putF F H a a = some o := by unfold putF; rw [if_pos rfl]; exact eo
  refine ⟨putF F H a, ff, ⟨⟨bs.fh, bs.tap, bs.ntp, by rw [List.length_set]; exact s.sx.len, fun j e' h => ?_, fun j e' h => ?_, fun j k d1 d2 b h1 h2 h3 h4 => ?_, fun j kk h => by
    by_cases z : i = j
    · subst z; rw [List.getElem?_set_self hi] at h; cases h
    · rw [List.getElem?_set_ne z] at h; exact s.sx.lkS ff j kk h⟩, bs, fun b hb => ?_⟩⟩
  · by_cases z : i = j
    · subst z
      rw [List.getElem?_set_self hi] at h
      cases h
      exact ⟨_, ea, Rep.of_cont e1 (c.same ff)⟩
    · rw [List.getElem?_set_ne z] at h
      obtain ⟨v, e2, r⟩ := s.sx.fz j e' h
      exact ⟨v, e2, r.same ff⟩
  · by_cases z : i = j
    · subst z; rw [List.getElem?_set_self hi] at h; cases h
    · rw [List.getElem?_set_ne z] at h
      obtain ⟨b, e2, n1, n2, u, e3, c2⟩ := s.sx.ow j e' h
      have zb : b ≠ a := fun zb => by
        subst zb
        exact z (s.sx.dis i j d e' b e h ea e2)
      exact ⟨b, e2, by unfold putF; rw [if_neg zb]; exact n1, n2, u, e3, c2.same ff⟩
  · have n1 : i ≠ j := fun z => by subst z; rw [List.getElem?_set_self hi] at h1; cases h1
    have n2 : i ≠ k := fun z => by subst z; rw [List.getElem?_set_self hi] at h2; cases h2
    rw [List.getElem?_set_ne n1] at h1
    rw [List.getElem?_set_ne n2] at h2
    exact s.sx.dis j k d1 d2 b h1 h2 h3 h4
  · obtain ⟨j, x, h1, h2⟩ := hb
    have n1 : i ≠ j := fun z => by subst z; rw [List.getElem?_set_self hi] at h1; cases h1
    rw [List.getElem?_set_ne n1] at h1
    exact s.on b ⟨j, x, h1, h2⟩
/-- a fresh value frozen -/
theorem VRep.frz {B : Addr → Prop} {F H F1 H1 : Hp} {t1 : T} {v : V} {d : D} (s : Stp M F H F1 H1 t1) (h : VRep (M := M) B H F1 H1 v (d, .fr)) : ∃ F2, Stp M F H F2 H1 t1 ∧ Same F1 F2 ∧ Rep M F2 v d := by
  obtain ⟨a, rfl, ⟨nf, nt, o, eo, c⟩, na⟩ := h
  have ff := putF_same eo (.inl nf : F1 a = none ∨ F1 a = some o)
  exact ⟨putF F1 H1 a, s.put eo (.inl nf) nt na, ff, Rep.of_cont (o := o) (by unfold putF; rw [if_pos rfl]; exact eo) (c.same ff)⟩
/-- a target is stored -/
theorem asg_ok {W : XK} {X : Cx} (hK : M.K = X.K) {F0 H0 F H F1 H1 : Hp} {t t1 : T} {σ : L2.St} {ρ : En} {tg : Tg} {own : Bool} {x : Dk} {v : V} {D : Ends} (s : Sst M F0 H0 F H σ ρ t) (s1 : Stp M F H F1 H1 t1) (hv : VRep (M := M) (Bo σ ρ) H F1 H1 v x) (h : PostS M W F0 H0 F1 (asgO ρ tg own x t1) D) : tgT X.K tg v σ H1 D.nx := by
  obtain ⟨d, k⟩ := x
  have fin : ∀ {F2 : Hp}, Stp M F H F2 H1 t1 → Same F1 F2 → Rep M F2 v d → PostS M W F0 H0 F1 (ofO ((bindT ρ tg d).map O.nx) t1) D → tgT X.K tg v σ H1 D.nx := fun {F2} s2 ff r h => by
    obtain ⟨o, e, h⟩ := PostS.ofO h
    obtain ⟨ρ1, e1, rfl⟩ := Option.map_eq_some_iff.mp e
    exact bindT_ok hK (s.sx.step s2) r e1 fun σ1 _ hb sx1 => h F2 H1 σ1 ff ⟨sx1, s.bs.trans s2, fun b q => s.on b (hb b q)⟩
  cases k with
  | br => exact (show False from h).elim
  | fz => exact fin s1 (fun _ _ q => q) hv h
  | fr =>
    cases own with
    | false =>
      obtain ⟨F2, s2, ff, r⟩ := VRep.frz s1 hv
      exact fin s2 ff r h
    | true =>
      cases tg with
      | tp is => exact (show False from h).elim
      | nm i =>
        have h2 : PostS M W F0 H0 F1 (ofO ((setE ρ i (.ow d)).map O.nx) t1) D := h
        obtain ⟨o, e, h3⟩ := PostS.ofO h2
        obtain ⟨ρ1, e1, rfl⟩ := Option.map_eq_some_iff.mp e
        obtain ⟨hi, hlk, rfl⟩ := setE_some e1
        · obtain ⟨a, rfl, ow, na⟩ := hv
          have sx1 := s.sx.step s1
          refine h3 F1 H1 _ (fun _ _ q => q) ⟨sx1.setOw ow hi (fun j e' z h1 h2 => ?_) hlk, s.bs.trans s1, fun b ⟨j, x, h1, h2⟩ => ?_⟩
          · exact s.sx.bo a ⟨j, e', h1, h2⟩ na
          · by_cases z : i = j
            · subst z
              rw [List.getElem?_set_self (by rw [s.sx.len]; exact hi)] at h2
              cases h2
              exact s.bs.was na
            · rw [List.getElem?_set_ne z] at h1 h2
              exact s.on b ⟨j, x, h1, h2⟩

theorem swLc_true {env : Env} {sc scope : Scope} {y : Str} {py lp : Pos} {elt : Expr} {gs : List Comprehension} {l : Nat} (hs : env.scope = sc) (hk : sc.kind = .function) (h : swLc sc y py lp scope = true) : swapsWith (.ListComp elt gs scope lp) (some (.Name y py)) l env = pure true ∧ sc.names.lookup y = some .local := by
  obtain ⟨h1, h3⟩ := and3 h
  obtain ⟨h1, h2⟩ := and3 h1
  have h1 := of_decide_eq_true h1
  exact ⟨sw_true (by rw [hs]; exact hk) (by rw [hs]; exact h1) h2 (by simpa using h3), h1⟩

/-- a comprehension's reading -/
theorem lc_read {X : Cx} {W : XK} (hK : M.K = X.K) {elt : E} {tg : Tg} {it : It} {conds : Es} {own : List (Str × Nat)} {σ : L2.St} {H : Hp} {Q : VK} (h9 : tgOwn tg (own.map (·.2)) = true) (h : tD M G W (.lc elt tg it conds own) σ H Q) :
    tLc (tIt G M W it) (tgT X.K tg) (tDC G M (fun _ _ _ => False) conds) (tD M G (fun _ _ _ => False) elt) (own.map (·.2)) σ H Q := by
  obtain ⟨ρ, t, F, sx, q⟩ := h
  unfold evalE at q
  refine ⟨ρ, t, F, sx, (PostG.bind' q).imp fun xs t1 F1 H1 s1 q2 J F2 s2 ff sw ss D nD => ?_⟩
  by_cases hw : okW ρ (own.map (·.2)) = true
  rotate_left
  · rw [if_neg hw] at q2; exact q2.elim
  rw [if_pos hw] at q2
  generalize el : lcL _ xs.1 t1 = rl at q2
  cases rl with
  | no => exact (show False from q2).elim
  | ex c v t2 => exact (show False from q2).elim
  | ok r t2 =>
    have q3 : PostG M W F H (if r.length ≤ lim then R.ok (DE.D.lst r, Kd.fr) t2 else .no) _ := q2
    split at q3
    · rename_i hr
      exact lc_run (W := W) hK h9 hw sx s2 ss nD el hr fun F' H' s' o => q3 F' H' s' _ ⟨D, rfl, o, s2.was nD⟩
    · exact (show False from q3).elim
/-- a loop's body -/
theorem body_run {W : XK} {F0 H0 F : Hp} {r : R T O} {k : En → T → R T O} {D : Ends} {N : L2.St → Hp → Prop} (h : PostS M W F0 H0 F (r.bind fun o t => match o with
      | .nx ρ2 => k ρ2 t
      | .ct ρ2 => k ρ2 t
      | .bk ρ2 => .ok (.nx ρ2) t
      | .rt d => .ok (.rt d) t) D)
    (hn : ∀ ρ t F' H' σ, PostS M W F0 H0 F' (k ρ t) D → Sst M F0 H0 F' H' σ ρ t → N σ H') (hc : ∀ ρ t F' H' σ, PostS M W F0 H0 F' (k ρ t) D → Sst M F0 H0 F' H' σ ρ t → N σ H') : PostS M W F0 H0 F r { D with nx := N, ct := N, bk := D.nx } := by
  cases r with
  | no => exact h
  | ex c v t => exact h
  | ok o t =>
    cases o with
    | nx ρ => exact fun F' H' σ ff s => hn ρ t F' H' σ (PostS.same ff h) s
    | ct ρ => exact fun F' H' σ ff s => hc ρ t F' H' σ (PostS.same ff h) s
    | bk ρ => exact h
    | rt d => exact h
theorem body_run2 {W : XK} {F0 H0 F : Hp} {r : R T O} {k : En → T → R T O} {D : Ends} {N : L2.St → Hp → Prop} (h : PostS M W F0 H0 F (r.bind fun o t => match o with
      | .nx ρ2 => k ρ2 t
      | .ct ρ2 => k ρ2 t
      | .bk ρ2 => .ok (.nx ρ2) t
      | .rt d => .ok (.rt d) t) D)
    (hn : ∀ ρ t F' H' σ, Same F F' → PostS M W F0 H0 F' (k ρ t) D → Sst M F0 H0 F' H' σ ρ t → N σ H') : PostS M W F0 H0 F r { D with nx := N, ct := N, bk := D.nx } := by
  cases r with
  | no => exact h
  | ex c v t => exact h
  | ok o t =>
    cases o with
    | nx ρ => exact fun F' H' σ ff s => hn ρ t F' H' σ ff (PostS.same ff h) s
    | ct ρ => exact fun F' H' σ ff s => hn ρ t F' H' σ ff (PostS.same ff h) s
    | bk ρ => exact h
    | rt d => exact h
theorem for_run {X : Cx} {W : XK} (hK : M.K = X.K) {F0 H0 F H : Hp} {σ : L2.St} {ρ : En} {t : T} {J : L2.It} {ds : List D} {tg : Tg} {fu : Nat} {b : Ss} {D : Ends} (s : Sst M F0 H0 F H σ ρ t) (sw : SerW M J F ds)
    (h : PostS M W F0 H0 F (forL (fun d ρ => bindT ρ tg d) (fun ρ t => execSs G fu b ρ t) ds ρ t) D) :
    ∃ Wn : Nat → Nat → L2.St → Hp → Prop, (∃ m, Wn 0 m σ H) ∧ ∀ i m σ H, Wn i m σ H →
      (J.stop i H ∧ D.nx σ H) ∨ (J.go i H ∧ ∃ N : L2.St → Hp → Prop, (∀ σ' H', N σ' H' → ∃ m', m' < m ∧ Wn (i + 1) m' σ' H') ∧ ∀ x H', J.yld i H x H' → tgT X.K tg x σ H' fun σ2 H2 => tDSs M G fu W F0 H0 b { D with nx := N, ct := N, bk := D.nx } σ2 H2) := by
  refine ⟨fun i m σ H => m = ds.length - i ∧ i ≤ ds.length ∧ ∃ ρ t F', Same F F' ∧ Sst M F0 H0 F' H σ ρ t ∧ PostS M W F0 H0 F' (forL (fun d ρ => bindT ρ tg d) (fun ρ t => execSs G fu b ρ t) (ds.drop i) ρ t) D, ⟨ds.length, rfl, Nat.zero_le _, ρ, t, F, fun _ _ q => q, s, h⟩, ?_⟩
  rintro i m σ H ⟨rfl, hi, ρ, t, F1, ff, s, h⟩
  obtain ⟨hstop, hgo⟩ := sw F1 H t ff s.sx.fh s.sx.tap s.sx.ntp
  by_cases hlt : i < ds.length
  · obtain ⟨g1, g2⟩ := hgo i _ (List.getElem?_eq_getElem hlt)
    rw [List.drop_eq_getElem_cons hlt] at h
    unfold forL at h
    refine .inr ⟨g1, fun σ H => i + 1 ≤ ds.length ∧ ∃ ρ t F', Same F F' ∧ Sst M F0 H0 F' H σ ρ t ∧ PostS M W F0 H0 F' (forL (fun d ρ => bindT ρ tg d) (fun ρ t => execSs G fu b ρ t) (ds.drop (i + 1)) ρ t) D, fun σ' H' hN => ⟨ds.length - (i + 1), by omega, rfl, hN⟩, fun x H' hy => ?_⟩
    obtain ⟨F2, s2, rx⟩ := g2 x H' hy
    cases eb : bindT ρ tg ds[i] with
    | none => rw [eb] at h; exact (show False from h).elim
    | some ρ1 =>
      rw [eb] at h
      refine bindT_ok hK (s.sx.step s2) rx eb fun σ1 _ hb sx1 => ⟨ρ1, t, F2, ⟨sx1, s.bs.trans s2, fun c q => s.on c (hb c q)⟩, ?_⟩
      exact body_run2 (PostS.same s2.ff h) fun ρ2 t2 F' H2 σ' f2 q3 s' => ⟨hlt, ρ2, t2, F', fun b x e => f2 _ _ (s2.ff _ _ (ff _ _ e)), s', q3⟩
  · have e : i = ds.length := by omega
    subst e
    rw [List.drop_length] at h
    exact .inl ⟨hstop, h F1 H σ (fun _ _ q => q) s⟩
/-- what is still to be stored: the fresh ones apart from A and from each other -/
inductive RestL (M : Md T) (H0 F H : Hp) (A : Addr → Prop) : List V → List Dk → Prop
  | nil : RestL M H0 F H A [] []
  | fz {v : V} {d : D} {vs : List V} {ds : List Dk} : Rep M F v d → RestL M H0 F H A vs ds → RestL M H0 F H A (v :: vs) ((d, .fz) :: ds)
  | br {v : V} {d : D} {vs : List V} {ds : List Dk} : RestL M H0 F H A vs ds → RestL M H0 F H A (v :: vs) ((d, .br) :: ds)
  | fr {a : Addr} {d : D} {vs : List V} {ds : List Dk} : Own (M := M) F H a d → H0 a = none → ¬ A a → (∀ (i : Nat) (e : D), ds[i]? = some (e, .fr) → vs[i]? ≠ some (.ref a)) → RestL M H0 F H A vs ds → RestL M H0 F H A (.ref a :: vs) ((d, .fr) :: ds)
theorem RestL.move {H0 F F' H : Hp} {A A' : Addr → Prop} (ff : Same F F') : ∀ {vs : List V} {ds : List Dk}, RestL M H0 F H A vs ds → (∀ (b : Addr) (i : Nat) (e : D), ds[i]? = some (e, .fr) → vs[i]? = some (.ref b) → (F b = none → F' b = none) ∧ (A' b → A b)) → RestL M H0 F' H A' vs ds
  | _, _, .nil, _ => .nil
  | _, _, .fz r l, h => .fz (r.same ff) (RestL.move ff l fun b i e h1 h2 => h b (i + 1) e h1 h2)
  | _, _, .br l, h => .br (RestL.move ff l fun b i e h1 h2 => h b (i + 1) e h1 h2)
  | _, _, .fr (a := a) o n na nd l, h => by
    obtain ⟨nf, nt, x, ex, c⟩ := o
    have h0 := h a 0 _ rfl rfl
    exact .fr ⟨h0.1 nf, nt, x, ex, c.same ff⟩ n (fun z => na (h0.2 z)) nd (RestL.move ff l fun b i e h1 h2 => h b (i + 1) e h1 h2)
theorem RestL.of {B : Addr → Prop} {H0 Hs F H : Hp} {A : Addr → Prop} (h0 : ∀ a, Hs a = none → H0 a = none) (hA : ∀ a, Hs a = none → ¬ A a) : ∀ {vs : List V} {ds : List Dk}, VRepL (M := M) B Hs F H vs ds → FrD vs ds → RestL M H0 F H A vs ds
  | _, _, .nil, _ => .nil
  | _, _, .cons (v := v) (vs := vs) (d := d) (ds := ds) hv l, hfr => by
    have rest := RestL.of (A := A) h0 hA l (fun i j d e a hij h1 h2 h3 h4 => hfr (i + 1) (j + 1) d e a (fun z => hij (Nat.succ.inj z)) h1 h2 h3 h4)
    obtain ⟨d, k⟩ := d
    cases k with
    | fz => exact .fz hv rest
    | br => exact .br rest
    | fr =>
      obtain ⟨a, rfl, o, n⟩ := hv
      exact .fr o (h0 a n) (hA a n) (fun i e h1 h2 => hfr 0 (i + 1) d e a (fun z => by cases z) rfl h1 rfl h2) rest
/-- names stored together -/
theorem par_all {F0 H0 H : Hp} {t : T} : ∀ (is : List (Nat × Bool)) (xs : List Dk) (vs : List V) (F : Hp) (σ : L2.St) (ρ ρ1 : En), Sst M F0 H0 F H σ ρ t → parL ρ is xs = some ρ1 → RestL M H0 F H (Bo σ ρ) vs xs →
    ∃ F2, Same F F2 ∧ Sst M F0 H0 F2 H ((is.map (·.1)).zip vs |>.foldl (fun σ p => σ.set p.1 (some p.2)) σ) ρ1 t := by
  intro is
  induction is with
  | nil =>
    intro xs vs F σ ρ ρ1 s e h
    cases h with
    | nil => cases e; exact ⟨F, fun _ _ z => z, s⟩
    | fz _ _ => cases e
    | br _ => cases e
    | fr _ _ _ _ _ => cases e
  | cons p is ih =>
    obtain ⟨i, own⟩ := p
    intro xs vs F σ ρ ρ1 s e h
    cases h with
    | nil => cases e
    | br _ => cases e
    | @fz v d vs xs r l =>
        unfold parL at e
        obtain ⟨ρ2, e2, e3⟩ := Option.bind_eq_some_iff.mp e
        obtain ⟨hi, hlk, rfl⟩ := setE_some (show setE ρ i (.fz d) = some ρ2 from e2)
        · have s2 : Sst M F0 H0 F H (σ.set i (some v)) (ρ.set i (.fz d)) t := ⟨s.sx.set r hi hlk, s.bs, fun b q => s.on b (bindL_ok.bo_set hi q)⟩
          exact ih _ _ F _ _ _ s2 e3 (l.move (fun _ _ z => z) fun b j e h1 h2 => ⟨fun z => z, fun z => bindL_ok.bo_set hi z⟩)
    | @fr a d vs xs o n na nd l =>
        unfold parL at e
        obtain ⟨ρ2, e2, e3⟩ := Option.bind_eq_some_iff.mp e
        obtain ⟨hi, hlk, rfl⟩ := setE_some (show setE ρ i (if own then .ow d else .fz d) = some ρ2 from e2)
        · obtain ⟨nf, nt, x, ex, c⟩ := o
          cases own with
          | true =>
            rw [if_pos rfl] at e3
            have s2 : Sst M F0 H0 F H (σ.set i (some (.ref a))) (ρ.set i (.ow d)) t := by
              refine ⟨s.sx.setOw ⟨nf, nt, x, ex, c⟩ hi (fun j e' z h1 h2 => na ⟨j, e', h1, h2⟩) hlk, s.bs, fun b ⟨j, e', h1, h2⟩ => ?_⟩
              by_cases z : i = j
              · subst z
                rw [List.getElem?_set_self (by rw [s.sx.len]; exact hi)] at h2
                cases h2
                exact n
              · rw [List.getElem?_set_ne z] at h1 h2
                exact s.on b ⟨j, e', h1, h2⟩
            refine ih _ _ F _ _ _ s2 e3 (l.move (fun _ _ z => z) fun b j e h1 h2 => ⟨fun z => z, fun ⟨k, e', g1, g2⟩ => ?_⟩)
            by_cases z : i = k
            · subst z
              rw [List.getElem?_set_self (by rw [s.sx.len]; exact hi)] at g2
              cases g2
              exact absurd h2 (nd j e h1)
            · rw [List.getElem?_set_ne z] at g1 g2
              exact ⟨k, e', g1, g2⟩
          | false =>
            rw [if_neg Bool.false_ne_true] at e3
            have ff := putF_same ex (.inl nf : F a = none ∨ F a = some x)
            have bs := s.bs.put ex (.inl nf) nt n
            have e1 : putF F H a a = some x := by unfold putF; rw [if_pos rfl]; exact ex
            have pn : ∀ b, b ≠ a → F b = none → putF F H a b = none := fun b z h => by unfold putF; rw [if_neg z]; exact h
            have s1 : Sst M F0 H0 (putF F H a) H σ ρ t := by
              refine ⟨⟨bs.fh, bs.tap, bs.ntp, s.sx.len, fun j e' h => ?_, fun j e' h => ?_, s.sx.dis, s.sx.lkS ff⟩, bs, s.on⟩
              · obtain ⟨v, e2, r⟩ := s.sx.fz j e' h
                exact ⟨v, e2, r.same ff⟩
              · obtain ⟨b, e2, n1, n2, u, e3, c2⟩ := s.sx.ow j e' h
                have zb : b ≠ a := fun zb => by subst zb; exact na ⟨j, e', h, e2⟩
                exact ⟨b, e2, pn b zb n1, n2, u, e3, c2.same ff⟩
            have s2 : Sst M F0 H0 (putF F H a) H (σ.set i (some (.ref a))) (ρ.set i (.fz d)) t := ⟨s1.sx.set (Rep.of_cont e1 (c.same ff)) hi hlk, s1.bs, fun b q => s1.on b (bindL_ok.bo_set hi q)⟩
            obtain ⟨F2, f2, r⟩ := ih _ _ _ _ _ _ s2 e3 (l.move ff fun b j e h1 h2 => ⟨fun z => pn b (fun y => by subst y; exact nd j e h1 h2) z, fun z => bindL_ok.bo_set hi z⟩)
            exact ⟨F2, fun b y z => f2 _ _ (ff _ _ z), r⟩

theorem par_ok {F0 H0 F H F1 H1 : Hp} {t t1 : T} {is : List (Nat × Bool)} {xs : List Dk} {vs : List V} {σ : L2.St} {ρ ρ1 : En} (s : Sst M F0 H0 F H σ ρ t) (s1 : Stp M F H F1 H1 t1) (h : VRepL (M := M) (Bo σ ρ) H F1 H1 vs xs) (fr : FrD vs xs) (e : parL ρ is xs = some ρ1) :
    ∃ F2, Same F1 F2 ∧ Sst M F0 H0 F2 H1 ((is.map (·.1)).zip vs |>.foldl (fun σ p => σ.set p.1 (some p.2)) σ) ρ1 t1 :=
  par_all is xs vs F1 σ ρ ρ1 (s.step s1) e (RestL.of (fun a n => s.bs.was n) (fun a n z => s.sx.bo a z n) h fr)
theorem RepK.length {F : Hp} : ∀ {kvs : List (Key × V)} {ds : List (D × D)}, RepK M F kvs ds → kvs.length = ds.length
  | _, _, .nil => rfl
  | _, _, .cons _ l => by rw [List.length_cons, List.length_cons, RepK.length l]
theorem RepL.dropLast {F : Hp} : ∀ {vs : List V} {ds : List D}, RepL M F vs ds → RepL M F vs.dropLast ds.dropLast
  | _, _, .nil => .nil
  | _, _, .cons _ .nil => .nil
  | _, _, .cons h (.cons h2 l) => .cons h (RepL.dropLast (.cons h2 l))

theorem tg_shape {N : List Str} {sc : Scope} {tg : Tg} {xt : Expr} (h : chkTg N sc tg xt = true) : (∃ y p, xt = .Name y p) ∨ ∃ ts k p, xt = .Tuple ts k p := by
  cases tg <;> cases xt <;> first | exact .inl ⟨_, _, rfl⟩ | exact .inr ⟨_, _, _, rfl⟩ | cases h
theorem tg_sole {N : List Str} {sc : Scope} {tg : Tg} {xt : Expr} (h : chkTg N sc tg xt = true) {f : Expr} {es : List Expr} {ks : List Keyword} {p : Pos} (l : Nat) (env : Env) : swapsWithSole [xt] (.Call f es ks p) l env = pure false := by
  rcases tg_shape h with ⟨y, p, rfl⟩ | ⟨ts, k, p, rfl⟩ <;> rfl
theorem tg_stores {N : List Str} {sc : Scope} {tg : Tg} {xt : Expr} (h : chkTg N sc tg xt = true) {f : Expr} {es : List Expr} {ks : List Keyword} {p : Pos} (env : Env) : swappedStores [xt] (.Call f es ks p) env = pure none := by
  rcases tg_shape h with ⟨y, p, rfl⟩ | ⟨ts, k, p, rfl⟩ <;> rfl
theorem tg_each {N : List Str} {sc : Scope} {tg : Tg} {xt : Expr} (h : chkTg N sc tg xt = true) (env : Env) : (assignEach [xt] env).map (·.2) = [assign xt env] := by
  rcases tg_shape h with ⟨y, p, rfl⟩ | ⟨ts, k, p, rfl⟩ <;> rfl

/-! ### loops over lambdas -/
theorem lamFns_len {G : Pg T} {M : Md T} {X : Cx} {sc : Scope} {es : Es} {xs : List Expr} (h : LamTx G M X sc es xs) : (lamFns G es).length = xs.length := by
  induction h with
  | nil => rfl
  | cons _ _ _ _ ih => simp [lamFns, ih]
theorem lamTx_of {G : Pg T} {M : Md T} {X : Cx} {sc : Scope} : ∀ {es : Es} {xs : List Expr}, chkLams G X.N es sc xs = true → LamTx G M X sc es xs
  | .nil, [], _ => .nil
  | .nil, _ :: _, h => by cases h
  | .star _ _, [], h => by cases h
  | .star _ _, _ :: _, h => by cases h
  | .cons _ _, [], h => by cases h
  | .cons e es, x :: xs, h => by
    cases x <;> (try (cases h; done))
    rename_i params body scope lpos
    obtain ⟨h, h4⟩ := and3 h
    obtain ⟨h, h3⟩ := and3 h
    obtain ⟨h1, h2⟩ := and3 h
    refine .cons h1 h2 (fun f X' W' eN C' tk' => ?_) (lamTx_of h4)
    refine soundE e (sc := mkLam scope) ⟨⟨C'.vis, C'.gl, C'.own, C'.capt, C'.hK, C'.hc, C'.nd, C'.un, C'.free, C'.con, C'.fns, C'.prm, C'.prmI⟩, (fun z => by rw [inLam_mk] at z; cases z), (fun z => by unfold gOk at z; rw [inLam_mk] at z; cases z), fun z _ => by rw [inLam_mk] at z; cases z⟩ tk' body ?_
    rw [eN]
    exact h3
section
variable {f : Nat → Option (V × List (Addr × HO))}
theorem bo_lk {σ : L2.St} {ρ : En} {i : Nat} {x : Option V} {y : SV} (hy : ∀ d, y ≠ .ow d) {b : Addr} (h : Bo (σ.set i x) (ρ.set i y) b) : Bo σ ρ b := by
  obtain ⟨j, e, h1, h2⟩ := h
  by_cases z : i = j
  · subst z
    by_cases hi : i < ρ.length
    · rw [List.getElem?_set_self hi] at h1
      exact absurd (Option.some.inj h1) (hy e)
    · rw [List.getElem?_eq_none (by simpa using hi)] at h1
      cases h1
  · rw [List.getElem?_set_ne z] at h1 h2
    exact ⟨j, e, h1, h2⟩
theorem Sst.vlN {F0 H0 F H : Hp} {σ : L2.St} {ρ : En} {t : T} (s : Sst M F0 H0 F H σ ρ t) (n : noLk ρ = true) : Sst (M.wv f) F0 H0 F H σ ρ t := ⟨s.sx.vlN n, s.bs.vl, s.on⟩
theorem Sst.forget {F0 H0 F H : Hp} {σ : L2.St} {ρ : En} {t : T} (s : Sst M F0 H0 F H σ ρ t) (i : Nat) : Sst M F0 H0 F H σ (ρ.set i .un) t := by
  refine ⟨s.sx.forget i, s.bs, fun b ⟨j, e, h1, h2⟩ => ?_⟩
  by_cases z : i = j
  · subst z
    by_cases hi : i < ρ.length
    · rw [List.getElem?_set_self hi] at h1; cases h1
    · rw [List.getElem?_eq_none (by simpa using hi)] at h1; cases h1
  · rw [List.getElem?_set_ne z] at h1
    exact s.on b ⟨j, e, h1, h2⟩
theorem Sst.setLk {F0 H0 F H : Hp} {σ : L2.St} {ρ : En} {t : T} (s : Sst M F0 H0 F H σ ρ t) {i k : Nat} {v : V} {l : List (Addr × HO)} (hi : i < ρ.length) (e : M.vl k = some (v, l)) (hl : ∀ p ∈ l, F p.1 = some p.2) : Sst M F0 H0 F H (σ.set i (some v)) (ρ.set i (.lock k)) t :=
  ⟨s.sx.setLk hi e hl, s.bs, fun b q => s.on b (bo_lk (fun _ z => by cases z) q)⟩
/-- the loop over lambdas: what its turns keep -/
theorem lams_run {X : Cx} {W : XK} {F0 H0 F H : Hp} {σ : L2.St} {ρ : En} {t : T} {w fu : Nat} {b : Ss} {D : Ends} {G' : Pg T} {vs : List (V × List (Addr × HO))} {a : Addr}
    (s : Sst (M.wv fun k => vs[k]?) F0 H0 F H σ ρ t) (tr : ∀ v ∈ vs, ∀ p ∈ v.2, F p.1 = some p.2) (ha : F a = some (.lst (vs.map (·.1)))) (h : PostS M W F0 H0 F (forK w (fun ρ t => execSs G' fu b ρ t) vs.length 0 ρ t) D) :
    ∃ Wn : Nat → Nat → L2.St → Hp → Prop, (∃ m, Wn 0 m σ H) ∧ ∀ i m σ H, Wn i m σ H →
      ((Itl X.K a).stop i H ∧ D.nx σ H) ∨ ((Itl X.K a).go i H ∧ ∃ N : L2.St → Hp → Prop, (∀ σ' H', N σ' H' → ∃ m', m' < m ∧ Wn (i + 1) m' σ' H') ∧ ∀ x H', (Itl X.K a).yld i H x H' → tgT X.K (.nm w) x σ H' fun σ2 H2 => tDSs (M.wv fun k => vs[k]?) G' fu W F0 H0 b { D with nx := N, ct := N, bk := D.nx } σ2 H2) := by
  refine ⟨fun i m σ1 H1 => m = vs.length - i ∧ i ≤ vs.length ∧ ∃ ρ1 t1 F1, Same F F1 ∧ Sst (M.wv fun k => vs[k]?) F0 H0 F1 H1 σ1 ρ1 t1 ∧ PostS M W F0 H0 F1 (forK w (fun ρ t => execSs G' fu b ρ t) (vs.length - i) i ρ1 t1) D, ⟨vs.length, rfl, Nat.zero_le _, ρ, t, F, fun _ _ q => q, s, by simpa using h⟩, ?_⟩
  rintro i m σ1 H1 ⟨rfl, hi, ρ1, t1, F1, ff, s1, h1⟩
  have hl : SqL X.K H1 a (vs.map (·.1)) := .inl (.inl (s1.sx.fh _ _ (ff _ _ ha)))
  by_cases hlt : i < vs.length
  · have en : vs.length - i = (vs.length - (i + 1)) + 1 := by omega
    rw [en] at h1
    unfold forK at h1
    split at h1
    rotate_left
    · exact h1.elim
    rename_i hw1
    refine .inr ⟨⟨_, vs[i].1, hl, by simp [hlt]⟩, fun σ2 H2 => i + 1 ≤ vs.length ∧ ∃ ρ2 t2 F2, Same F F2 ∧ Sst (M.wv fun k => vs[k]?) F0 H0 F2 H2 σ2 ρ2 t2 ∧ PostS M W F0 H0 F2 (forK w (fun ρ t => execSs G' fu b ρ t) (vs.length - (i + 1)) (i + 1) ρ2 t2) D,
      fun σ2 H2 hN => ⟨vs.length - (i + 1), by omega, rfl, hN⟩, fun x H2 hy => ?_⟩
    obtain ⟨rfl, hy⟩ := hy
    have ex : x = vs[i].1 := by
      have := hy _ hl
      rw [List.getElem?_map, List.getElem?_eq_getElem hlt] at this
      exact (Option.some.inj this).symm
    subst ex
    refine ⟨ρ1.set w (.lock i), t1, F1, s1.setLk (v := vs[i].1) (l := vs[i].2) hw1 (by simp [hlt]) (fun p hp => ff _ _ (tr _ (List.getElem_mem hlt) p hp)), ?_⟩
    generalize execSs G' fu b (ρ1.set w (.lock i)) t1 = r at h1
    cases r with
    | no => exact h1.elim
    | ex c v t2 => exact fun F' H' cls d s' e' => h1 F' H' cls d s'.ofVl e'.ofVl
    | ok o t2 =>
      have fin : ∀ {ρ2 : En}, PostS M W F0 H0 F1 (if noLk (ρ2.set w .un) then .ok (.nx (ρ2.set w .un)) t2 else .no) D → ∀ F' H' σ', Same F1 F' → Sst (M.wv fun k => vs[k]?) F0 H0 F' H' σ' ρ2 t2 → D.nx σ' H' := fun {ρ2} q F' H' σ' f' s' => by
        split at q
        · rename_i hn
          exact q F' H' σ' f' ((s'.forget w).vlN (f := M.vl) hn)
        · exact q.elim
      cases o with
      | nx ρ2 => exact fun F' H' σ' f' s' => ⟨hlt, ρ2, t2, F', fun b x e => f' _ _ (ff _ _ e), s', PostS.same f' h1⟩
      | ct ρ2 => exact fun F' H' σ' f' s' => ⟨hlt, ρ2, t2, F', fun b x e => f' _ _ (ff _ _ e), s', PostS.same f' h1⟩
      | bk ρ2 => exact fin h1
      | rt d => exact fun F' H' v f' s' hv => h1 F' H' v f' s'.ofVl hv.ofVl
  · have e : i = vs.length := by omega
    subst e
    rw [Nat.sub_self] at h1
    unfold forK at h1
    refine .inl ⟨⟨_, hl, by simp⟩, ?_⟩
    split at h1
    · rename_i hn
      exact h1 F1 H1 σ1 (fun _ _ q => q) ((s1.forget w).vlN (f := M.vl) hn)
    · exact h1.elim
end
mutual
theorem soundS (fu : Nat) : ∀ (s : S) {G : Pg T} {M : Md T} {X : Cx} {sc : Scope} {W : XK} (_ : CsA G M X sc W) (F0 H0 : Hp) (st : Stmt), chkS G X.N s sc st = true → PS X st (tDS M G fu W F0 H0 s)
  | .frz _, G, M, X, sc, W, C, F0, H0, st, h => by cases h
  | .asg tg own e, G, M, X, sc, W, C, F0, H0, st, h => by
    unfold chkS at h
    split at h
    · rename_i xt xe pos
      obtain ⟨h0, h3⟩ := and3 h
      obtain ⟨h1, h2⟩ := and3 h0
      clear h h0
      have pe := soundE e C.ct C.tk xe h1
      have pg := sound_tg C.ct h2
      have red : ∀ D σ H, tDS M G fu W F0 H0 (.asg tg own e) D σ H → tAsg (tD M G W e) (tgT X.K tg) D σ H := fun D σ H ⟨ρ, t, F, s, q⟩ => by
        unfold execS at q
        exact ⟨ρ, t, F, s.sx, (PostS.bindE s.bs q).imp fun x t1 F1 H1 s1 q2 v hv => asg_ok C.ct.hK s s1 hv q2⟩
      split at h3
      · rename_i ts k1 p1 vs k2 p2
        exact (ps_asg pe pg rfl (swOf_ok C.hsc C.hk (of_decide_eq_true h3)) rfl).imp red
      · rename_i y py elt gs scope lp
        cases e <;> (try (cases h1; done))
        case prim k es =>
          exfalso
          unfold chkE at h1
          split at h1
          · split at h1
            · exact Bool.false_ne_true (and3 (and3 h1).2).1
            · cases h1
          · cases h1
        rename_i elt' tg' it conds own'
        cases tg with
        | tp is => cases h2
        | nm i =>
        rcases gs with _ | ⟨⟨xt, xi, ifs, as⟩, _ | ⟨g2, gs⟩⟩
        · cases h1
        · have h := h1
          obtain ⟨h1, h9⟩ := and3 h
          obtain ⟨h1, h8⟩ := and3 h1
          obtain ⟨h1, h7⟩ := and3 h1
          obtain ⟨h1, h6⟩ := and3 h1
          obtain ⟨h1, h5⟩ := and3 h1
          obtain ⟨h1, h4⟩ := and3 h1
          obtain ⟨h1, h3'⟩ := and3 h1
          obtain ⟨h1, h2'⟩ := and3 h1
          obtain rfl := of_decide_eq_true h1
          have hl8 : ifs.length ≤ 1 := of_decide_eq_true h8
          obtain ⟨sw, ly⟩ := swLc_true (elt := elt) (gs := [⟨xt, xi, ifs, 0⟩]) (l := pos.line) C.hsc C.hk h3
          have ny : X.N[i]? = some y := of_decide_eq_true (and3 (show (decide (X.N[i]? = some y) && _) = true from h2)).1
          refine (ps_setLc (own := own') (g := tgT X.K tg') (tt := tDC G M (fun _ _ _ => False) conds) (te := tD M G (fun _ _ _ => False) elt') C.ct.hc C.ct.nd ny (by rw [C.hsc]; exact ly) sw (soundIt it C.ct C.tk xi xt h3') (C.ct.blkOk h5)
            (fun s H Cn cl fp => sound_tg (C.ct.blk s H scope cl Cn fp) h4) (fun s H Cn cl fp => soundC conds (C.ct.blk s H scope cl Cn fp) takesF ifs h7 hl8) (fun s H Cn cl fp => soundE elt' (C.ct.blk s H scope cl Cn fp) takesF elt h6) (noSet_of h2' _)).imp fun D σ H q => ?_
          have q2 := red D σ H q
          exact lc_read C.ct.hK h9 q2
        · exact absurd h1 (by simp [chkE])
      · rename_i y py
        refine (ps_asg pe pg ?_ ?_ rfl).imp red
        · cases xe <;> first | rfl | cases h3
        · cases xe <;> rfl
      · rename_i ts k1 p1 hn
        refine (ps_asg pe pg ?_ ?_ rfl).imp red
        · cases xe <;> first | rfl | cases h3
        · cases xe <;> first | rfl | exact (hn _ _ _ rfl).elim
      · cases h3
    · cases h
  | .par is es, G, M, X, sc, W, C, F0, H0, st, h => by
    unfold chkS at h
    split at h
    · rename_i ts k1 p1 vs k2 p2 pos
      split at h
      · rename_i x px y py a b i o1 j o2
        obtain ⟨h, h7⟩ := and3 h
        obtain ⟨h, h6⟩ := and3 h
        obtain ⟨h, h5⟩ := and3 h
        obtain ⟨h, h4⟩ := and3 h
        obtain ⟨h, h3⟩ := and3 h
        obtain ⟨h1, h2⟩ := and3 h
        have hsc := C.hsc
        refine (ps_par C.ct.hc C.ct.nd (of_decide_eq_true h2) (of_decide_eq_true h3) (of_decide_eq_true h4) (by rw [hsc]; exact of_decide_eq_true h5) (by rw [hsc]; exact of_decide_eq_true h6) (soundEs es C.ct C.tk false [a, b] h7) (swOf_ok hsc C.hk (of_decide_eq_true h1)) rfl).imp fun D σ H ⟨ρ, t, F, s, q⟩ => ?_
        unfold execS at q
        refine ⟨ρ, t, F, s.sx, ?_⟩
        cases ee : evalEs G es ρ t with
        | no => rw [ee] at q; exact q
        | ex c v t1 => have q2 := PostS.bindE s.bs q; rw [ee] at q2; exact q2
        | ok xs t1 =>
          have hl := lenEs h7 ee
          have q2 := PostS.bindE s.bs q
          rw [ee] at q2
          intro F1 H1 s1 ws hw hfr
          obtain ⟨o, e, q3⟩ := PostS.ofO (q2 F1 H1 s1)
          obtain ⟨ρ1, e1, rfl⟩ := Option.map_eq_some_iff.mp e
          match xs, hl, ws, hw, hfr with
          | [d1, d2], _, _, .cons (v := v1) hv1 (.cons (v := v2) hv2 .nil), hfr =>
            refine ⟨v1, v2, rfl, ?_⟩
            obtain ⟨F2, ff, s2⟩ := par_ok (vs := [v1, v2]) s s1 (.cons hv1 (.cons hv2 .nil)) hfr e1
            exact q3 F2 H1 _ ff s2
      · rename_i x px y py z pz a b c i o1 j o2 l o3
        obtain ⟨h, h11⟩ := and3 h
        obtain ⟨h, h10⟩ := and3 h
        obtain ⟨h, h9⟩ := and3 h
        obtain ⟨h, h8⟩ := and3 h
        obtain ⟨h, h7⟩ := and3 h
        obtain ⟨h, h6⟩ := and3 h
        obtain ⟨h, h5⟩ := and3 h
        obtain ⟨h, h4⟩ := and3 h
        obtain ⟨h, h3⟩ := and3 h
        obtain ⟨h1, h2⟩ := and3 h
        have hsc := C.hsc
        have nij := of_decide_eq_true h5
        have nil := of_decide_eq_true h6
        have njl := of_decide_eq_true h7
        refine (ps_par3 C.ct.hc C.ct.nd (of_decide_eq_true h2) (of_decide_eq_true h3) (of_decide_eq_true h4) nij nil njl (by rw [hsc]; exact of_decide_eq_true h8) (by rw [hsc]; exact of_decide_eq_true h9) (by rw [hsc]; exact of_decide_eq_true h10) (soundEs es C.ct C.tk false [a, b, c] h11) (swOf_ok hsc C.hk (of_decide_eq_true h1)) rfl).imp fun D σ H ⟨ρ, t, F, s, q⟩ => ?_
        unfold execS at q
        refine ⟨ρ, t, F, s.sx, ?_⟩
        cases ee : evalEs G es ρ t with
        | no => rw [ee] at q; exact q
        | ex c v t1 => have q2 := PostS.bindE s.bs q; rw [ee] at q2; exact q2
        | ok xs t1 =>
          have hl := lenEs h11 ee
          have q2 := PostS.bindE s.bs q
          rw [ee] at q2
          intro F1 H1 s1 ws hw hfr
          obtain ⟨o, e, q3⟩ := PostS.ofO (q2 F1 H1 s1)
          obtain ⟨ρ1, e1, rfl⟩ := Option.map_eq_some_iff.mp e
          match xs, hl, ws, hw, hfr with
          | [d1, d2, d3], _, _, .cons (v := v1) hv1 (.cons (v := v2) hv2 (.cons (v := v3) hv3 .nil)), hfr =>
            refine ⟨v1, v2, v3, rfl, ?_⟩
            obtain ⟨F2, ff, s2⟩ := par_ok (vs := [v1, v2, v3]) s s1 (.cons hv1 (.cons hv2 (.cons hv3 .nil))) hfr e1
            exact q3 F2 H1 _ ff s2
      · cases h
    · cases h
  | .ex e, G, M, X, sc, W, C, F0, H0, st, h => by
    unfold chkS at h
    split at h
    · rename_i xe pos
      obtain ⟨h1, h2⟩ := and3 h
      refine (ps_expr (soundE e C.ct C.tk xe h1) (by cases xe <;> first | rfl | cases h2)).imp fun D σ H ⟨ρ, t, F, s, q⟩ => ?_
      unfold execS at q
      exact ⟨ρ, t, F, s.sx, (PostS.bindE s.bs q).imp fun x t1 F1 H1 s1 q2 v hv => q2 F1 H1 σ (fun _ _ q => q) (s.step s1)⟩
    · cases h
  | .app i e, G, M, X, sc, W, C, F0, H0, st, h => by
    unfold chkS at h
    split at h
    · rename_i y p m apos xe cpos pos
      obtain ⟨h, h4⟩ := and3 h
      obtain ⟨h, h3⟩ := and3 h
      obtain ⟨h1, h2⟩ := and3 h
      obtain rfl := of_decide_eq_true h2
      refine (ps_expr (pe_bm PySem.F.plainAttrs_list PySem.F.slot_list_append PySem.F.type_list_append mt_append (nameAt_of C.ct h1) (pa_cons (soundE e C.ct C.tk xe h3) pa_nil (star_of h3 _ _)) rfl (by rw [star_of h3]; rfl) h4 (star_of h3 _ _) rfl) rfl).imp fun D σ H ⟨ρ, t, F, s, q⟩ => ?_
      unfold execS at q
      cases eo : ownAt ρ i with
      | none => rw [eo] at q; exact (show False from q).elim
      | some c =>
        rw [eo] at q
        cases c <;> (try exact (show False from q).elim)
        rename_i xs
        have er := ownAt_some eo
        obtain ⟨a, ea, nf, nt, o, eH, cc⟩ := s.sx.ow i _ er
        cases cc with
        | @lst vs _ l =>
          refine ⟨.ref a, ea, .inl ⟨rfl, vs, .inl (.inl eH)⟩, ρ, t, F, s.sx, (PostS.bindE s.bs q).imp fun x t1 F1 H1 s1 q2 v hv => ?_⟩
          obtain ⟨d, k⟩ := x
          have eH1 := s1.hh a _ eH nt
          have l1 := l.same s1.ff
          have fin : ∀ {F2 : Hp}, Stp M F H F2 H1 t1 → Same F1 F2 → Rep M F2 v d → PostS M W F0 H0 F1 (if xs.length < lim then .ok (.nx (ρ.set i (.ow (.lst (xs ++ [d]))))) t1 else .no) D → rAppend (.ref a) [v] H1 fun _ H' => D.nx σ H' := fun {F2} s2 ff r q2 => by
            split at q2
            · rename_i hlt
              refine ⟨a, vs, v, rfl, rfl, eH1, by rw [l.length]; exact hlt, q2 F2 _ σ ff ?_⟩
              exact (s.step s2).upd er ea (.lst ((l.same s2.ff).append (.cons r .nil)))
            · exact (show False from q2).elim
          cases k with
          | fz => exact fin s1 (fun _ _ q => q) hv q2
          | fr =>
            obtain ⟨F2, s2, ff, r⟩ := VRep.frz s1 hv
            exact fin s2 ff r q2
          | br => exact (show False from q2).elim
    · cases h
  | .set i ix e, G, M, X, sc, W, C, F0, H0, st, h => by
    unfold chkS at h
    split at h
    · rename_i y p xi p1 xe pos
      obtain ⟨h0, h4⟩ := and3 h
      obtain ⟨h0, h3⟩ := and3 h0
      obtain ⟨h1, h2⟩ := and3 h0
      have pv := soundE e C.ct C.tk xe h3
      have pi := soundE ix C.ct C.tk xi h2
      have po := nameAt_of (p := p) C.ct h1
      refine ⟨fun pins s σ H D I ⟨ρ, t, F, s0, q⟩ => ?_⟩
      unfold execS at q
      cases eo : ownAt ρ i with
      | none => rw [eo] at q; exact (show False from q).elim
      | some c =>
        rw [eo] at q
        have er := ownAt_some eo
        obtain ⟨a, ea, nf, nt, o, eH, cc⟩ := s0.sx.ow i _ er
        have q1 : PostG M W F H (evalE G e ρ t) fun x t1 F1 H1 => PostS M W F0 H0 F1 ((evalE G ix ρ t1).bind fun k t2 => match fzOf x with
            | some d => ofO ((putD c k.1 d).map fun c => .nx (ρ.set i (.ow c))) t2
            | none => .no) D := PostS.bindE s0.bs q
        have fin : ∀ {x : Dk} {t1 : T} {F1 H1 : Hp} {v : V}, Stp M F H F1 H1 t1 → VRep (M := M) (Bo σ ρ) H F1 H1 v x → PostS M W F0 H0 F1 ((evalE G ix ρ t1).bind fun k t2 => match fzOf x with
            | some d => ofO ((putD c k.1 d).map fun c => .nx (ρ.set i (.ow c))) t2
            | none => .no) D → PostG M W F1 H1 (evalE G ix ρ t1) fun k t2 F2 H2 => ∃ F3 d c', Stp M F H F3 H2 t2 ∧ Same F2 F3 ∧ Rep M F3 v d ∧ putD c k.1 d = some c' ∧ H2 a = some o ∧ PostS M W F0 H0 F3 (.ok (.nx (ρ.set i (.ow c'))) t2) D := by
          intro x t1 F1 H1 v s1 hv q2
          refine (PostS.bindE (s0.bs.trans s1) q2).imp fun k t2 F2 H2 s2 q3 => ?_
          obtain ⟨d, kd⟩ := x
          have hv2 := VRep.step s2 hv
          have s12 := s1.trans s2
          have fin : ∀ {F3 : Hp}, Stp M F H F3 H2 t2 → Same F2 F3 → Rep M F3 v d → PostS M W F0 H0 F2 (ofO ((putD c k.1 d).map fun c => O.nx (ρ.set i (.ow c))) t2) D → ∃ F3 d c', Stp M F H F3 H2 t2 ∧ Same F2 F3 ∧ Rep M F3 v d ∧ putD c k.1 d = some c' ∧ H2 a = some o ∧ PostS M W F0 H0 F3 (.ok (.nx (ρ.set i (.ow c'))) t2) D := fun {F3} s3 ff r q => by
            obtain ⟨o', e, q⟩ := PostS.ofO q
            obtain ⟨c', e1, rfl⟩ := Option.map_eq_some_iff.mp e
            exact ⟨F3, d, c', s3, ff, r, e1, s3.hh a _ eH nt, PostS.same ff q⟩
          cases kd with
          | fz => exact fin s12 (fun _ _ q => q) hv2 q3
          | fr =>
            obtain ⟨F3, s3, ff, r⟩ := VRep.frz s12 hv2
            exact fin s3 ff r q3
          | br => exact (show False from q3).elim
        cases cc with
        | @lst vs xs l =>
          refine (ps_asg pv (pg_sub po pi set_list (fun v => by cases xi <;> first | rfl | (rw [chk_slice] at h2; cases h2))) (by cases xe <;> first | rfl | cases h4) (by cases xe <;> rfl) rfl).run pins s σ H D I ?_
          refine ⟨ρ, t, F, s0.sx, q1.imp fun x t1 F1 H1 s1 q2 v hv => ⟨.ref a, ea, ρ, t1, F1, s0.sx.step s1, (fin s1 hv q2).imp fun k t2 F2 H2 s2 ⟨F3, d, c', s3, ff, r, e1, eH2, q3⟩ w hw => ?_⟩⟩
          obtain ⟨dk, kk⟩ := k
          cases dk <;> (try (cases e1; done))
          obtain ⟨rfl, _⟩ := VRep.int hw
          obtain ⟨j, ej, rfl⟩ := Option.map_eq_some_iff.mp e1
          refine ⟨a, vs, _, j, rfl, rfl, eH2, by rw [l.length]; exact ej, q3 F3 _ σ (fun _ _ q => q) ?_⟩
          exact (s0.step s3).upd er ea (.lst ((l.same s3.ff).set r j))
        | @dK kvs ds l =>
          refine (ps_dput (Nat.lt_of_le_of_lt (by omega) C.ct.un) po pi pv (by cases xe <;> first | rfl | cases h4)).run pins s σ H D I ?_
          refine ⟨ρ, t, F, s0.sx, q1.imp fun x t1 F1 H1 s1 q2 v hv => ⟨.ref a, ea, ρ, t1, F1, s0.sx.step s1, (fin s1 hv q2).imp fun k t2 F2 H2 s2 ⟨F3, d, c', s3, ff, r, e1, eH2, q3⟩ w hw => ?_⟩⟩
          obtain ⟨dk, kk⟩ := k
          have go : ∀ k : Key, dk = keyD k → w = kV k → ∃ a_1 H4, V.ref a = .ref a_1 ∧ DPut H2 a_1 w v H4 ∧ D.nx σ H4 := fun k e e2 => by
            subst e e2
            have e1 : (if keyOk (keyD k) && decide (ds.length < lim) then some (DE.D.dct false (dput ds (keyD k) d)) else none) = some c' := by cases k <;> exact e1
            split at e1
            · rename_i hc
              cases e1
              obtain ⟨_, hc⟩ := and3 hc
              refine ⟨a, _, rfl, .k eH2 (by rw [l.length]; exact of_decide_eq_true hc), q3 F3 _ σ (fun _ _ q => q) ?_⟩
              exact (s0.step s3).upd er ea (.dK ((l.same s3.ff).put k r))
            · cases e1
          cases dk <;> (try (exfalso; revert e1; simp [putD, keyOk]; done))
          case int n _ => exact go (.inl n) rfl (VRep.int hw).1
          case str n _ => exact go (.inr n) rfl (VRep.str hw).1
        | dT l =>
          refine (ps_dput (Nat.lt_of_le_of_lt (by omega) C.ct.un) po pi pv (by cases xe <;> first | rfl | cases h4)).run pins s σ H D I ?_
          refine ⟨ρ, t, F, s0.sx, q1.imp fun x t1 F1 H1 s1 q2 v hv => ⟨.ref a, ea, ρ, t1, F1, s0.sx.step s1, (fin s1 hv q2).imp fun k t2 F2 H2 s2 ⟨F3, d, c', s3, ff, r, e1, eH2, q3⟩ w hw => ?_⟩⟩
          exfalso
          revert e1
          simp [putD]
        | ins l =>
          refine (ps_dput (Nat.lt_of_le_of_lt (by omega) C.ct.un) po pi pv (by cases xe <;> first | rfl | cases h4)).run pins s σ H D I ?_
          refine ⟨ρ, t, F, s0.sx, q1.imp fun x t1 F1 H1 s1 q2 v hv => ⟨.ref a, ea, ρ, t1, F1, s0.sx.step s1, (fin s1 hv q2).imp fun k t2 F2 H2 s2 ⟨F3, d, c', s3, ff, r, e1, eH2, q3⟩ w hw => ?_⟩⟩
          exfalso
          revert e1
          simp [putD]
    · cases h
  | .pop tg i ix, G, M, X, sc, W, C, F0, H0, st, h => by
    unfold chkS at h
    split at h
    · rename_i xt y p m apos xs cpos pos
      obtain ⟨h0, h5⟩ := and3 h
      obtain ⟨h0, h4⟩ := and3 h0
      obtain ⟨h0, h3⟩ := and3 h0
      obtain ⟨h1, h2⟩ := and3 h0
      obtain rfl := of_decide_eq_true h2
      have pg := sound_tg C.ct h4
      have po := nameAt_of (p := p) C.ct h1
      have key : ∀ {o : Option Int} {xs : List D} {vs : List V} {a : Addr} {F2 H2 : Hp} {t2 : T} {σ : L2.St} {ρ : En} {D : Ends} {d : DE.D}, ρ[i]? = some (.ow d) → σ[i]? = some (some (.ref a)) → Sst M F0 H0 F2 H2 σ ρ t2 → H2 a = some (.lst vs) → RepL M F2 vs xs → PostS M W F0 H0 F2 (match (some o).bind (popD xs) with
              | some (y, c') => ofO ((bindT (ρ.set i (.ow (.lst c'))) tg y).map .nx) t2
              | none => .no) D →
          (o = none → ∃ v, vs[vs.length - 1]? = some v ∧ tgT X.K tg v σ (L2.upd H2 a (.lst vs.dropLast)) D.nx) ∧ ∀ z, o = some z → ∃ k v, -(2 ^ 63) ≤ z ∧ z < 2 ^ 63 ∧ seqIndex? z vs.length = some k ∧ vs[k]? = some v ∧ tgT X.K tg v σ (L2.upd H2 a (.lst (vs.eraseIdx k))) D.nx := by
        intro o xs vs a F2 H2 t2 σ ρ D d er ea s eH l q
        have fin : ∀ {y : DE.D} {c' : List DE.D} {v : V} {vs' : List V}, RepL M F2 vs' c' → Rep M F2 v y → PostS M W F0 H0 F2 (ofO ((bindT (ρ.set i (.ow (.lst c'))) tg y).map O.nx) t2) D → tgT X.K tg v σ (L2.upd H2 a (.lst vs')) D.nx := by
          intro y c' v vs' l' r q
          obtain ⟨o, e, q⟩ := PostS.ofO q
          obtain ⟨ρ1, e1, rfl⟩ := Option.map_eq_some_iff.mp e
          have s' := s.upd er ea (.lst l' : Cont (M := M) F2 (.lst vs') (.lst c'))
          exact bindT_ok C.ct.hK s'.sx r e1 fun σ1 _ hb sx1 => q F2 _ σ1 (fun _ _ q => q) ⟨sx1, s'.bs, fun b z => s'.on b (hb b z)⟩
        refine ⟨fun e => ?_, fun z e => ?_⟩
        · subst e
          have q : PostS M W F0 H0 F2 (match (xs[xs.length - 1]?).map fun y => (y, xs.dropLast) with
              | some (y, c') => ofO ((bindT (ρ.set i (.ow (.lst c'))) tg y).map .nx) t2
              | none => .no) D := q
          cases ey : xs[xs.length - 1]? with
          | none => rw [ey] at q; exact (show False from q).elim
          | some y =>
            rw [ey] at q
            rw [← l.length] at ey
            obtain ⟨v, e1, r⟩ := l.get' ey
            exact ⟨v, e1, fin l.dropLast r q⟩
        · subst e
          have q : PostS M W F0 H0 F2 (match (if decide (-(2 ^ 63) ≤ z ∧ z < 2 ^ 63) then ((seqIndex? z xs.length).bind fun k => (xs[k]?).map fun y => (y, xs.eraseIdx k)) else none) with
              | some (y, c') => ofO ((bindT (ρ.set i (.ow (.lst c'))) tg y).map .nx) t2
              | none => .no) D := q
          by_cases hz : -(2 ^ 63) ≤ z ∧ z < 2 ^ 63
          · rw [if_pos (decide_eq_true hz)] at q
            cases ek : seqIndex? z xs.length with
            | none => rw [ek] at q; exact (show False from q).elim
            | some k =>
              rw [ek] at q
              cases ey : xs[k]? with
              | none => rw [Option.bind_some, ey] at q; exact (show False from q).elim
              | some y =>
                rw [Option.bind_some, ey] at q
                obtain ⟨v, e1, r⟩ := l.get' ey
                exact ⟨k, v, hz.1, hz.2, by rw [l.length]; exact ek, e1, fin (l.erase k) r q⟩
          · rw [if_neg (by simpa using hz)] at q
            exact (show False from q).elim
      cases xs with
      | nil =>
        have hx : isNoe ix = true := h5
        refine (ps_asg (pe_bm0 PySem.F.plainAttrs_list PySem.F.slot_list_pop PySem.F.type_list_pop mt_pop po rfl h3) pg (tg_sole h4 _ _) (tg_stores h4 _) (tg_each h4 _)).imp fun D σ H ⟨ρ, t, F, s, q⟩ => ?_
        cases ix <;> (try (cases hx; done))
        unfold execS at q
        cases eo : ownAt ρ i with
        | none => rw [eo] at q; exact (show False from q).elim
        | some c =>
          rw [eo] at q
          cases c <;> (try exact (show False from q).elim)
          rename_i xs
          have er := ownAt_some eo
          obtain ⟨a, ea, nf, nt, o, eH, cc⟩ := s.sx.ow i _ er
          cases cc with
          | @lst vs _ l =>
            obtain ⟨v, e1, g⟩ := (key (o := none) er ea s eH l q).1 rfl
            exact ⟨.ref a, ea, .inl ⟨rfl, vs, .inl (.inl eH)⟩, a, vs, v, rfl, rfl, eH, e1, g⟩
      | cons xi xs =>
        cases xs with
        | cons _ _ => cases h5
        | nil =>
          obtain ⟨h5, h6⟩ := and3 h5
          refine (ps_asg (pe_bm PySem.F.plainAttrs_list PySem.F.slot_list_pop PySem.F.type_list_pop mt_popAt po (pa_cons (soundE ix C.ct C.tk xi h5) pa_nil (star_of h5 _ _)) rfl (by rw [star_of h5]; rfl) h3 (star_of h5 _ _) rfl) pg (tg_sole h4 _ _) (tg_stores h4 _) (tg_each h4 _)).imp fun D σ H ⟨ρ, t, F, s, q⟩ => ?_
          have hx : isNoe ix = false := by simpa using h6
          unfold execS at q
          cases eo : ownAt ρ i with
          | none => rw [eo] at q; exact (show False from q).elim
          | some c =>
            rw [eo] at q
            cases c <;> (try exact (show False from q).elim)
            rename_i xs
            have er := ownAt_some eo
            obtain ⟨a, ea, nf, nt, o, eH, cc⟩ := s.sx.ow i _ er
            cases cc with
            | @lst vs _ l =>
              refine ⟨.ref a, ea, .inl ⟨rfl, vs, .inl (.inl eH)⟩, ρ, t, F, s.sx, (PostS.bindE s.bs q).imp fun x t1 F1 H1 s1 q2 v hv => ?_⟩
              obtain ⟨d, k⟩ := x
              rw [hx] at q2
              cases d <;> (try exact (show False from q2).elim)
              obtain ⟨rfl, _⟩ := VRep.int hv
              obtain ⟨k, w, g1, g2, g3, g4, g⟩ := (key (o := some _) er ea (s.step s1) (s1.hh a _ eH nt) (l.same s1.ff) q2).2 _ rfl
              exact ⟨a, vs, _, k, w, rfl, rfl, s1.hh a _ eH nt, g1, g2, g3, g4, g⟩
    · cases h
  | .appPop i j ix, G, M, X, sc, W, C, F0, H0, st, h => by
    unfold chkS at h
    split at h
    · rename_i y p m apos z p2 m2 apos2 xs cpos2 cpos pos
      obtain ⟨h0, h7⟩ := and3 h
      obtain ⟨h0, h6⟩ := and3 h0
      obtain ⟨h0, h5⟩ := and3 h0
      obtain ⟨h0, h4⟩ := and3 h0
      obtain ⟨h0, h3⟩ := and3 h0
      obtain ⟨h1, h2⟩ := and3 h0
      obtain rfl := of_decide_eq_true h2
      obtain rfl := of_decide_eq_true h5
      have po := nameAt_of (p := p) C.ct h1
      have pj := nameAt_of (p := p2) C.ct h4
      have fin : ∀ {D : Ends} {σ : L2.St} {ρ : En} {F2 H2 : Hp} {t2 : T} {xs ys : List DE.D} {vs ws ws' : List V} {a b : Addr} {w : V} {y : DE.D} {c' : List DE.D}, Sst M F0 H0 F2 H2 σ ρ t2 → ρ[i]? = some (.ow (.lst xs)) → σ[i]? = some (some (.ref a)) → ρ[j]? = some (.ow (.lst ys)) → σ[j]? = some (some (.ref b)) →
          H2 a = some (.lst vs) → RepL M F2 vs xs → RepL M F2 ws' c' → Rep M F2 w y →
          PostS M W F0 H0 F2 (if decide (i ≠ j) && decide (xs.length < lim) then .ok (.nx ((ρ.set j (.ow (.lst c'))).set i (.ow (.lst (xs ++ [y]))))) t2 else .no) D → rAppend (.ref a) [w] (L2.upd H2 b (.lst ws')) fun _ H' => D.nx σ H' := by
        intro D σ ρ F2 H2 t2 xs ys vs ws ws' a b w y c' s ei ea ej eb eH l l' r q
        split at q
        · rename_i hc
          obtain ⟨n1, n2⟩ := and3 hc
          have nij : i ≠ j := of_decide_eq_true n1
          have hlt : xs.length < lim := of_decide_eq_true n2
          have nab : a ≠ b := fun z => by
            subst z
            exact nij (s.sx.dis i j _ _ a ei ej ea eb)
          have s' := s.upd ej eb (.lst l' : Cont (M := M) F2 (.lst ws') (.lst c'))
          have e1 : L2.upd H2 b (.lst ws') a = some (.lst vs) := by rw [upd_ne nab]; exact eH
          have ei' : (ρ.set j (.ow (.lst c')))[i]? = some (.ow (.lst xs)) := by rw [List.getElem?_set_ne (Ne.symm nij)]; exact ei
          refine ⟨a, vs, w, rfl, rfl, e1, by rw [l.length]; exact hlt, q F2 _ σ (fun _ _ z => z) ?_⟩
          exact s'.upd ei' ea (.lst (l.append (.cons r .nil)))
        · exact (show False from q).elim
      cases xs with
      | nil =>
        have hx : isNoe ix = true := h7
        refine (ps_expr (pe_bm PySem.F.plainAttrs_list PySem.F.slot_list_append PySem.F.type_list_append mt_append po (pa_cons (pe_bm0 PySem.F.plainAttrs_list PySem.F.slot_list_pop PySem.F.type_list_pop mt_pop pj rfl h6) pa_nil rfl) rfl rfl h3 rfl rfl) rfl).imp fun D σ H ⟨ρ, t, F, s, q⟩ => ?_
        cases ix <;> (try (cases hx; done))
        unfold execS at q
        cases eo : ownAt ρ i with
        | none => rw [eo] at q; exact (show False from q).elim
        | some c =>
          cases eo2 : ownAt ρ j with
          | none => rw [eo, eo2] at q; cases c <;> exact (show False from q).elim
          | some c2 =>
            rw [eo, eo2] at q
            cases c <;> (try exact (show False from q).elim) <;> cases c2 <;> (try exact (show False from q).elim)
            rename_i xs ys
            have er := ownAt_some eo
            have er2 := ownAt_some eo2
            obtain ⟨a, ea, nf, nt, o, eH, cc⟩ := s.sx.ow i _ er
            obtain ⟨b, eb, nf2, nt2, o2, eH2, cc2⟩ := s.sx.ow j _ er2
            cases cc with
            | @lst vs _ l =>
              cases cc2 with
              | @lst ws _ l2 =>
                have q : PostS M W F0 H0 F (match (ys[ys.length - 1]?).map fun y => (y, ys.dropLast) with
                  | some (y, c') => if decide (i ≠ j) && decide (xs.length < lim) then .ok (.nx ((ρ.set j (.ow (.lst c'))).set i (.ow (.lst (xs ++ [y]))))) t else .no
                  | none => .no) D := q
                cases ey : ys[ys.length - 1]? with
                | none => rw [ey] at q; exact (show False from q).elim
                | some y =>
                  rw [ey] at q
                  rw [← l2.length] at ey
                  obtain ⟨v, e1, r⟩ := l2.get' ey
                  exact ⟨.ref a, ea, .inl ⟨rfl, vs, .inl (.inl eH)⟩, .ref b, eb, .inl ⟨rfl, ws, .inl (.inl eH2)⟩, b, ws, v, rfl, rfl, eH2, e1, fin (ws := ws) s er ea er2 eb eH l l2.dropLast r q⟩
      | cons xi xs =>
        cases xs with
        | cons _ _ => cases h7
        | nil =>
          obtain ⟨h7, h8⟩ := and3 h7
          refine (ps_expr (pe_bm PySem.F.plainAttrs_list PySem.F.slot_list_append PySem.F.type_list_append mt_append po (pa_cons (pe_bm PySem.F.plainAttrs_list PySem.F.slot_list_pop PySem.F.type_list_pop mt_popAt pj (pa_cons (soundE ix C.ct C.tk xi h7) pa_nil (star_of h7 _ _)) rfl (by rw [star_of h7]; rfl) h6 (star_of h7 _ _) rfl) pa_nil rfl) rfl rfl h3 rfl rfl) rfl).imp fun D σ H ⟨ρ, t, F, s, q⟩ => ?_
          have hx : isNoe ix = false := by simpa using h8
          unfold execS at q
          cases eo : ownAt ρ i with
          | none => rw [eo] at q; exact (show False from q).elim
          | some c =>
            cases eo2 : ownAt ρ j with
            | none => rw [eo, eo2] at q; cases c <;> exact (show False from q).elim
            | some c2 =>
              rw [eo, eo2] at q
              cases c <;> (try exact (show False from q).elim) <;> cases c2 <;> (try exact (show False from q).elim)
              rename_i xs ys
              have er := ownAt_some eo
              have er2 := ownAt_some eo2
              obtain ⟨a, ea, nf, nt, o, eH, cc⟩ := s.sx.ow i _ er
              obtain ⟨b, eb, nf2, nt2, o2, eH2, cc2⟩ := s.sx.ow j _ er2
              cases cc with
              | @lst vs _ l =>
                cases cc2 with
                | @lst ws _ l2 =>
                  refine ⟨.ref a, ea, .inl ⟨rfl, vs, .inl (.inl eH)⟩, .ref b, eb, .inl ⟨rfl, ws, .inl (.inl eH2)⟩, ρ, t, F, s.sx, (PostS.bindE s.bs q).imp fun x t1 F1 H1 s1 q2 v hv => ?_⟩
                  obtain ⟨d, k⟩ := x
                  rw [hx] at q2
                  cases d <;> (try exact (show False from q2).elim)
                  rename_i z
                  obtain ⟨rfl, _⟩ := VRep.int hv
                  have q2 : PostS M W F0 H0 F1 (match (if decide (-(2 ^ 63) ≤ z ∧ z < 2 ^ 63) then ((seqIndex? z ys.length).bind fun k => (ys[k]?).map fun y => (y, ys.eraseIdx k)) else none) with
                    | some (y, c') => if decide (i ≠ j) && decide (xs.length < lim) then .ok (.nx ((ρ.set j (.ow (.lst c'))).set i (.ow (.lst (xs ++ [y]))))) t1 else .no
                    | none => .no) D := q2
                  by_cases hz : -(2 ^ 63) ≤ z ∧ z < 2 ^ 63
                  · rw [if_pos (decide_eq_true hz)] at q2
                    cases ek : seqIndex? z ys.length with
                    | none => rw [ek] at q2; exact (show False from q2).elim
                    | some k =>
                      rw [ek] at q2
                      cases ey : ys[k]? with
                      | none => rw [Option.bind_some, ey] at q2; exact (show False from q2).elim
                      | some y =>
                        rw [Option.bind_some, ey] at q2
                        have l2' := l2.same s1.ff
                        obtain ⟨v, e1, r⟩ := l2'.get' ey
                        exact ⟨b, ws, z, k, v, rfl, rfl, s1.hh b _ eH2 nt2, hz.1, hz.2, by rw [l2.length]; exact ek, e1, fin (ws := ws) (s.step s1) er ea er2 eb (s1.hh a _ eH nt) (l.same s1.ff) (l2'.erase k) r q2⟩
                  · rw [if_neg (by simpa using hz)] at q2
                    exact (show False from q2).elim
    · cases h
  | .ret e, G, M, X, sc, W, C, F0, H0, st, h => by
    unfold chkS at h
    split at h
    · rename_i xe pos
      refine (ps_ret (soundE e C.ct C.tk xe h)).imp fun D σ H ⟨ρ, t, F, s, q⟩ => ?_
      unfold execS at q
      refine ⟨ρ, t, F, s.sx, (PostS.bindE s.bs q).imp fun x t1 F1 H1 s1 q2 v hv => q2 F1 H1 v (fun _ _ q => q) (s.bs.trans s1) ?_⟩
      obtain ⟨d, k⟩ := x
      cases k with
      | fz => exact hv
      | fr =>
        obtain ⟨a, ea, o, na⟩ := hv
        exact ⟨a, ea, o, s.bs.was na⟩
      | br =>
        obtain ⟨a, ea, o, nb⟩ := hv
        exact ⟨a, ea, o, s.on a nb⟩
    · cases h
  | .retN, G, M, X, sc, W, C, F0, H0, st, h => by
    unfold chkS at h
    split at h
    · refine ps_retN.imp fun D σ H ⟨ρ, t, F, s, q⟩ => ?_
      unfold execS at q
      exact q F H .non (fun _ _ q => q) s.bs Rep.non
    · cases h
  | .ite c a b, G, M, X, sc, W, C, F0, H0, st, h => by
    unfold chkS at h
    split at h
    · rename_i xc xa xb pos
      obtain ⟨h1, h3⟩ := and3 h
      obtain ⟨h1, h2⟩ := and3 h1
      refine (ps_if (soundT c C.ct C.tk xc h1).1 (soundSs fu a C F0 H0 xa h2) (soundSs fu b C F0 H0 xb h3)).imp fun D σ H ⟨ρ, t, F, s, q⟩ => ?_
      unfold execS at q
      refine ⟨ρ, t, F, s.sx, (PostS.bindE s.bs q).imp fun x t1 F1 H1 s1 q2 => ?_⟩
      obtain ⟨d, k⟩ := x
      cases d <;> (try exact (show False from q2).elim)
      rename_i c
      refine ⟨c, rfl, ?_⟩
      cases c with
      | true => rw [if_pos rfl]; exact ⟨ρ, t1, F1, s.step s1, q2⟩
      | false => rw [if_neg Bool.false_ne_true]; exact ⟨ρ, t1, F1, s.step s1, q2⟩
    · cases h
  | .fr tg it b, G, M, X, sc, W, C, F0, H0, st, h => by
    unfold chkS at h
    split at h
    · rename_i xt xi xb pos
      obtain ⟨h, h4⟩ := and3 h
      obtain ⟨h, h3⟩ := and3 h
      obtain ⟨h1, h2⟩ := and3 h
      refine (ps_for C.po C.ct.hc (soundIt it C.ct C.tk xi xt h1) (sound_tg C.ct h3) (soundSs fu b C F0 H0 xb h4) (noSet_of h2 _)).imp fun D σ H ⟨ρ, t, F, s, q⟩ => ?_
      unfold execS at q
      refine ⟨ρ, t, F, s.sx, (PostS.bindE s.bs q).imp fun xs t1 F1 H1 s1 q2 J F2 s2 ff sw _ => ?_⟩
      split at q2
      · exact (show False from q2).elim
      · rename_i hk
        exact for_run C.ct.hK (s.step s2) (sw hk) (PostS.same ff q2)
    · cases h
  | .wh c b, G, M, X, sc, W, C, F0, H0, st, h => by
    unfold chkS at h
    split at h
    · rename_i xc xb pos
      obtain ⟨h1, h2⟩ := and3 h
      refine (ps_while C.po (soundT c C.ct C.tk xc h1).1 (soundSs fu b C F0 H0 xb h2)).imp fun D σ H ⟨ρ, t, F, s, q⟩ => ?_
      unfold execS at q
      refine ⟨fun m σ H => ∃ ρ t F, Sst M F0 H0 F H σ ρ t ∧ PostS M W F0 H0 F (whL (fun ρ t => evalE G c ρ t) (fun ρ t => execSs G fu b ρ t) m ρ t) D, ⟨fu, ρ, t, F, s, q⟩, fun m σ H ⟨ρ, t, F, s, q⟩ => ?_⟩
      cases m with
      | zero => exact (show False from q).elim
      | succ n =>
        unfold whL at q
        refine ⟨ρ, t, F, s.sx, (PostS.bindE s.bs q).imp fun x t1 F1 H1 s1 q2 => ?_⟩
        obtain ⟨d, k⟩ := x
        cases d <;> (try exact (show False from q2).elim)
        rename_i c
        refine ⟨c, rfl, ?_⟩
        cases c with
        | false =>
          rw [if_neg Bool.false_ne_true]
          exact q2 F1 H1 σ (fun _ _ q => q) (s.step s1)
        | true =>
          rw [if_pos rfl]
          refine ⟨fun σ H => ∃ ρ t F, Sst M F0 H0 F H σ ρ t ∧ PostS M W F0 H0 F (whL (fun ρ t => evalE G c ρ t) (fun ρ t => execSs G fu b ρ t) n ρ t) D, fun σ' H' hN => ⟨n, Nat.lt_succ_self n, hN⟩, ρ, t1, F1, s.step s1, ?_⟩
          exact body_run q2 (fun ρ2 t2 F' H' σ' q3 s' => ⟨ρ2, t2, F', s', q3⟩) fun ρ2 t2 F' H' σ' q3 s' => ⟨ρ2, t2, F', s', q3⟩
    · cases h
  | .brk, G, M, X, sc, W, C, F0, H0, st, h => by
    unfold chkS at h
    split at h
    · refine ps_break.imp fun D σ H ⟨ρ, t, F, s, q⟩ => ?_
      unfold execS at q
      exact q F H σ (fun _ _ q => q) s
    · cases h
  | .cnt, G, M, X, sc, W, C, F0, H0, st, h => by
    unfold chkS at h
    split at h
    · refine ps_continue.imp fun D σ H ⟨ρ, t, F, s, q⟩ => ?_
      unfold execS at q
      exact q F H σ (fun _ _ q => q) s
    · cases h
  | .pass, G, M, X, sc, W, C, F0, H0, st, h => by
    unfold chkS at h
    split at h
    · refine ps_pass.imp fun D σ H ⟨ρ, t, F, s, q⟩ => ?_
      unfold execS at q
      exact q F H σ (fun _ _ q => q) s
    · cases h
  | .rai c e, G, M, X, sc, W, C, F0, H0, st, h => by
    unfold chkS at h
    split at h
    · rename_i y p xe pos p2
      obtain ⟨h, h3⟩ := and3 h
      obtain ⟨h1, h2⟩ := and3 h
      refine (ps_raise C.ct.hc C.tk (C.rai1 c y (of_decide_eq_true h1) (isGl_of C.ct h2).1 (isGl_of C.ct h2).2 xe _ p pos (soundE e C.ct C.tk xe h3) (star_of h3))).imp fun D σ H ⟨ρ, t, F, s, q⟩ => ?_
      unfold execS at q
      refine ⟨ρ, t, F, s.sx, (PostS.bindE s.bs q).imp fun x t1 F1 H1 s1 q2 v hv dx nd => ?_⟩
      obtain ⟨d, k⟩ := x
      have fin : ∀ {F2 : Hp}, Stp M F H F2 H1 t1 → Rep M F2 v d → PostS M W F0 H0 F1 (.ex c (some d) t1) D → W (.ref (M.CA c)) (some dx) (L2.upd H1 dx (.xd [(M.atr c, v)])) := fun {F2} s2 r q2 => by
        have b2 := s.bs.trans s2
        have n0 : H0 dx = none := b2.was nd
        have nf := nf_new b2.fh nd
        have nt := nt_new b2.tap nd
        exact q2 F2 _ _ _ (b2.updN n0 nf nt (fun φ z => by rw [nd] at z; cases z)) ⟨rfl, dx, v, rfl, upd_same, r, nf, nt, n0⟩
      cases k with
      | fz => exact fin s1 hv q2
      | fr =>
        obtain ⟨F2, s2, ff, r⟩ := VRep.frz s1 hv
        exact fin s2 r q2
      | br => exact (show False from q2).elim
    · cases h
  | .rai0 c, G, M, X, sc, W, C, F0, H0, st, h => by
    unfold chkS at h
    split at h
    · rename_i y p m j p3 pos p2
      obtain ⟨h1, h2⟩ := and3 h
      refine (ps_raise C.ct.hc C.tk (C.rai0 c y (of_decide_eq_true h1) (isGl_of C.ct h2).1 (isGl_of C.ct h2).2 m j p p3 pos)).imp fun D σ H ⟨ρ, t, F, s, q⟩ => ?_
      unfold execS at q
      exact q F H _ _ s.bs ⟨rfl, rfl⟩
    · cases h
  | .prim k is es, G, M, X, sc, W, C, F0, H0, st, h => by
    unfold chkS at h
    split at h
    · rename_i p ep
      split at h
      · rename_i xs ex
        refine C.spr k p ep fu W F0 H0 C.tk (.prim k is es) is es st xs ex (soundAll es C.ct C.tk xs h) (fun ρ t t1 ds e => lenEs h e) fun ρ t => ?_
        rw [execS]
        simp only [ep]
      · cases h
    · cases h
  | .lams w es b, G, M, X, sc, W, C, F0, H0, st, h => by
    unfold chkS at h
    split at h
    · rename_i xt xs lp xb pos
      obtain ⟨h, h6⟩ := and3 h
      obtain ⟨h, h7⟩ := and3 h
      obtain ⟨h, h5⟩ := and3 h
      obtain ⟨h, h4⟩ := and3 h
      obtain ⟨h, h3⟩ := and3 h
      obtain ⟨h1, h2⟩ := and3 h
      obtain ⟨h2, h2'⟩ := and3 h2
      have lx : LamTx G M X sc es xs := lamTx_of h5
      have pi := C.lms G.lams M.vl (by simpa using h2) (by simpa using h2') h3 (isGl_of C.ct h4).1 es xs xt lp lx (of_decide_eq_true h7)
      have bd : PSs X xb (fun D σ H => ∃ vs : List (V × List (Addr × HO)), LW (G.wl (lamFns G es)) (M.wv fun k => vs[k]?) X ∧ tDSs (M.wv fun k => vs[k]?) (G.wl (lamFns G es)) fu W F0 H0 b D σ H) := by
        refine ⟨fun pins s σ H D I ⟨vs, lw, q⟩ => ?_⟩
        exact (soundSs fu b (G := G.wl (lamFns G es)) (M := M.wv fun k => vs[k]?) ⟨C.al _ _ lw, fun L f l => C.al L f l, fun L f => C.lms L f⟩ F0 H0 xb h6).run pins s σ H D I q
      refine (ps_for C.po C.ct.hc pi (sound_tg C.ct h1) bd (fun _ => rfl)).imp fun D σ H ⟨ρ, t, F, s, q⟩ => ?_
      unfold execS at q
      split at q
      · rename_i hn
        refine ⟨ρ, t, F, s.sx, fun F1 H1 vs a st hl lw tr ha => ?_⟩
        obtain ⟨Wn, w0, w1⟩ := lams_run (X := X) (w := w) (fu := fu) (b := b) (G' := G.wl (lamFns G es)) ((s.step st).vlN hn) tr ha (by rw [hl]; exact PostS.same st.ff q)
        refine ⟨Wn, w0, fun i m σ2 H2 hw => ?_⟩
        rcases w1 i m σ2 H2 hw with z | ⟨z1, N, z2, z3⟩
        · exact .inl z
        · exact .inr ⟨z1, N, z2, fun x H3 hy => ⟨vs, lw, z3 x H3 hy⟩⟩
      · exact q.elim
    · cases h
theorem soundSs (fu : Nat) : ∀ (s : Ss) {G : Pg T} {M : Md T} {X : Cx} {sc : Scope} {W : XK} (_ : CsA G M X sc W) (F0 H0 : Hp) (sts : List Stmt), chkSs G X.N s sc sts = true → PSs X sts (tDSs M G fu W F0 H0 s)
  | .nil, G, M, X, sc, W, C, F0, H0, sts, h => by
    cases sts with
    | nil =>
      refine pss_nil.imp fun D σ H ⟨ρ, t, F, s, q⟩ => ?_
      unfold execSs at q
      exact q F H σ (fun _ _ q => q) s
    | cons _ _ => cases h
  | .cons s r, G, M, X, sc, W, C, F0, H0, sts, h => by
    unfold chkSs at h
    split at h
    · rename_i hf
      cases s <;> (try (cases hf; done))
      rename_i i
      refine (soundSs fu r C F0 H0 sts h).imp fun D σ H ⟨ρ, t, F, s, q⟩ => ?_
      unfold execSs execS at q
      split at q
      · rename_i d e
        obtain ⟨F', ff, s'⟩ := s.freeze e
        exact ⟨_, t, F', s', PostS.same ff q⟩
      · exact ⟨ρ, t, F, s, q⟩
      · exact (show False from q).elim
    · cases sts with
      | nil => cases h
      | cons x xs =>
        obtain ⟨h1, h2⟩ := and3 h
        refine (pss_cons (soundS fu s C F0 H0 x h1) (soundSs fu r C F0 H0 xs h2)).imp fun D σ H ⟨ρ, t, F, ss, q⟩ => ?_
        unfold execSs at q
        refine ⟨ρ, t, F, ss, ?_⟩
        cases ee : execS G fu s ρ t with
        | no => rw [ee] at q; exact q
        | ex c v t1 => rw [ee] at q; exact q
        | ok o t1 =>
          rw [ee] at q
          cases o with
          | nx ρ1 => exact fun F' H' σ' ff s' => ⟨ρ1, t1, F', s', PostS.same ff q⟩
          | rt d => exact q
          | bk ρ1 => exact q
          | ct ρ1 => exact q
end
end
end DE
set_option maxHeartbeats 4000000
/-! DE13: defs. -/
namespace DE
open PySem PySem.Spec PyProof.Rows L2
section
variable {T : Type}
@[simp] theorem isLock_fz (d : D) : isLock (some (.fz d)) = false := rfl
@[simp] theorem isLock_ow (d : D) : isLock (some (.ow d)) = false := rfl
@[simp] theorem isLock_un : isLock (some .un) = false := rfl
@[simp] theorem isLock_none : isLock none = false := rfl
/-- a context below the top -/
structure InX (P : Program) (w : World) (K : PySem.W.Frag) (mg : Str → Option Value) (base : Heap) (k : Nat) (X : Cx) : Prop where
  p : X.prog = P
  wo : X.w = w
  K : X.K = K
  mg : X.mg = mg
  base : X.base = base
  room : Room k X.A
  pass : Passes (CX P w) X fun _ _ _ => False
/-- what is known of the program below the top; k: how deep its defs go -/
structure Wd (G : Pg T) (M : Md T) (P : Program) (w : World) (K : PySem.W.Frag) (mg : Str → Option Value) (base : Heap) (k : Nat) : Prop where
  hK : M.K = K
  free : ∀ x ∈ bltNames, mg x = none
  con : ∀ x d, G.cons.lookup x = some d → ∃ u v, mg x = some u ∧ RelV v u ∧ ∀ F, Rep M F v d
  fns : ∀ (i : Nat) (fi : FI) (h : DFn T), G.fns[i]? = some (fi, h) → (∀ ds t d t', h ds t = .ok d t' → d.2 ≠ .br) ∧ ∃ (f : Addr) (fd : FuncData), FnG P w K mg base (CX P w) k f fd fi.ps (spD M h fi.ps.length) ∧ (fi.g = false → FnOk P w K mg base (CX P w) k f fd fi.ps (spD M h fi.ps.length)) ∧ mg fi.name = some (.ref f) ∧ PySem.W.keepIn K (.ref f) = true ∧
    (∀ n, n ≤ fi.dfl.length → ∃ ds dvs, Binds K fd fi.ps ds ∧ Vals dvs ds ∧ ∀ F, RepL M F dvs (fi.dfl.drop (fi.dfl.length - n))) ∧ ∀ n ks pm, (n, ks, pm) ∈ fi.kws → KBp K fd fi.ps n ks pm
  mk0 : ∀ c y, (G.cls[c]?).map (fun i => (i.name, i.init.isSome)) = some (y, false) → ∀ X, InX P w K mg base k X → Gl X y → (y == ("__debug__" : Str)) = false → ∀ (m : Str) (j : Nat) (p p2 pos : Pos), PMk X (.Call (.Name y p) [.Constant (.str m) j p2] [] pos) (fun _ H Q => Q (.ref (M.CA c)) none H)
  mk1 : ∀ c y, (G.cls[c]?).map (fun i => (i.name, i.init.isSome)) = some (y, true) → ∀ X, InX P w K mg base k X → Gl X y → (y == ("__debug__" : Str)) = false → ∀ (e : Expr) (te : TE) (p pos : Pos), PE X e te → (∀ env xs, starEach (e :: xs) env = (false, eval e env) :: starEach xs env) → PMk X (.Call (.Name y p) [e] [] pos) (fun σ H Q => te σ H fun v H1 => ∀ dx, H1 dx = none → Q (.ref (M.CA c)) (some dx) (upd H1 dx (.xd [(M.atr c, v)])))

  prm : ∀ (L : List (En → T → R T Dk)) (f : Nat → Option (V × List (Addr × HO))) (i : Nat) (p : Prim T), G.prims[i]? = some p → ∀ X, Bs P w K mg base k X → PrimOk (G.wl L) (M.wv f) X p
  prmI : ∀ (L : List (En → T → R T Dk)) (f : Nat → Option (V × List (Addr × HO))) (i : Nat) (p : PrimI T), G.iprims[i]? = some p → ∀ X, Bs P w K mg base k X → PrimIOk (G.wl L) (M.wv f) X p
  spr : ∀ (L : List (En → T → R T Dk)) (f : Nat → Option (V × List (Addr × HO))) (i : Nat) (p : PrimS T), G.sprims[i]? = some p → ∀ X sc, Ct (G.wl L) (M.wv f) X sc → X.env.scope = sc → sc.kind = .function → Bs P w K mg base k X → PrimSOk (G.wl L) (M.wv f) X sc p

variable {G : Pg T} {M : Md T} {P : Program} {w : World} {K : PySem.W.Frag} {mg : Str → Option Value} {base : Heap} {k : Nat}
theorem spD_vl {M : Md T} {f : Nat → Option (V × List (Addr × HO))} {h : DFn T} {n : Nat} {vs : List V} {H : Hp} {Q : VK} {E : XK} (q : spD { M with vl := f } h n vs H Q E) : spD M h n vs H Q E := by
  obtain ⟨F, t, ds, fh, tap, ntp, l, e, q⟩ := q
  exact ⟨F, t, ds, fh, tap, ntp, l.ofVl, e, (PostG.ofVl q).imp fun d t' F' H' _ q => ⟨q.1, fun v r => q.2 v r.vl⟩⟩
/-- .. with other lambdas, other locked values -/
theorem Wd.with (W : Wd G M P w K mg base k) (L : List (En → T → R T Dk)) (f : Nat → Option (V × List (Addr × HO))) : Wd (G.wl L) (M.wv f) P w K mg base k := by
  refine ⟨W.hK, W.free, fun x d h => ?_, fun i fi h e => ?_, W.mk0, W.mk1, fun L f => W.prm L f, fun L f => W.prmI L f, fun L f => W.spr L f⟩
  · obtain ⟨u, v, e1, e2, r⟩ := W.con x d h
    exact ⟨u, v, e1, e2, fun F => (r F).vl⟩
  · obtain ⟨nb, a, fd, fg, fo, e1, e2, e3, e4⟩ := W.fns i fi h e
    refine ⟨nb, a, fd, ⟨fun vs H Q E q => fg.len vs H Q E (spD_vl q), fun A outer s H args us vs Q E r g e b v q => fg.go A outer s H args us vs Q E r g e b v (spD_vl q)⟩, fun z => (fo z).imp fun _ _ _ _ q => spD_vl q, e1, e2, fun n hn => ?_, e4⟩
    obtain ⟨ds, dvs, b1, b2, b3⟩ := e3 n hn
    exact ⟨ds, dvs, b1, b2, fun F => (b3 F).vl⟩
theorem bs_cx {N ps : List Str} {qual : Str} {scope : Scope} {f : Addr} {cdv : Value} {A : Around} {outer : List Env} {s : Shared} {H : Hp} {E : XK} (S : FnScope N ps scope) (hr : Room k (A.deeper (envOfC qual scope s.heap.objs.size f cdv))) : Bs P w K mg base k (cxOf (CX P w) P w K mg base N qual scope f cdv A outer s H E) := by
  have un : (cxOf (CX P w) P w K mg base N qual scope f cdv A outer s H E).A.units + 65 < cLine := by
    have := hr.un
    show (A.deeper (envOfC qual scope s.heap.objs.size f cdv)).units + 65 < cLine
    omega
  exact ⟨rfl, rfl, rfl, rfl, rfl, hr, rfl, S.nd, un⟩
theorem cs_of (W : Wd G M P w K mg base k) {N ps : List Str} {qual : Str} {scope : Scope} {f : Addr} {cdv : Value} {A : Around} {outer : List Env} {s : Shared} {H : Hp} {E : XK} (S : FnScope N ps scope) (hr : Room k (A.deeper (envOfC qual scope s.heap.objs.size f cdv))) (lm : N.contains "_law_caught" = true → LamOk G M (cxOf (CX P w) P w K mg base N qual scope f cdv A outer s H E) scope) (gd : N.contains "<repr>" = true → A.guards = some [])
    (lw : LW G M (cxOf (CX P w) P w K mg base N qual scope f cdv A outer s H E)) :
    Cs G M (cxOf (CX P w) P w K mg base N qual scope f cdv A outer s H E) scope E := by
  have tk : Takes (cxOf (CX P w) P w K mg base N qual scope f cdv A outer s H E) fun c d _ H => E c d H := takes_of rfl rfl rfl rfl
  have ix : InX P w K mg base k (cxOf (CX P w) P w K mg base N qual scope f cdv A outer s H E) := ⟨rfl, rfl, rfl, rfl, rfl, hr, fun pins σ H s e s' I c => passes_call (E := fun _ _ _ => False) tk (fun cls d σ H h => False.elim h) pins σ H s e s' I c⟩
  have bs : Bs P w K mg base k (cxOf (CX P w) P w K mg base N qual scope f cdv A outer s H E) := bs_cx S hr
  have ct : Ct G M (cxOf (CX P w) P w K mg base N qual scope f cdv A outer s H E) scope := by
    refine ⟨⟨fun x h => ?_, fun x h => h, fun x h => ⟨h, .inl rfl⟩, fun x h => h, W.hK, rfl, S.nd, bs.un, W.free, W.con, fun i fi h e => ?_, ⟨P, w, K, mg, base, k, bs, fun i p e X b => W.prm G.lams M.vl i p e X b⟩, ⟨P, w, K, mg, base, k, bs, fun i p e X b => W.prmI G.lams M.vl i p e X b⟩⟩, fun _ _ => lw, fun z => gd (and3 z).2, fun _ _ h => lm h⟩
    rotate_left
    · obtain ⟨nb, f', fd, fg, ok, h1, h2, h3⟩ := W.fns i fi h e
      exact ⟨nb, f', fd, k, fg, ok, hr, h1, h2, h3⟩
    unfold isLoc at h
    show scope.names.lookup x = _ ∨ scope.names.lookup x = _ ∨ scope.names.lookup x = _
    split at h
    · rename_i e; exact .inl e
    · rename_i e; exact .inr (.inl e)
    · rename_i e; exact .inr (.inr e)
    · cases h
  exact ⟨ct, tk, rfl, S.kind, passes_of rfl, fun i p e => W.spr G.lams M.vl i p e _ _ ct rfl S.kind bs, fun c y e g hd => W.mk0 c y e _ ix g hd, fun c y e g hd => W.mk1 c y e _ ix g hd⟩
/-- where lambdas may be made, whatever is under way -/
def LmA (G : Pg T) (M : Md T) (X : Cx) (sc : Scope) : Prop := ∀ (L : List (En → T → R T Dk)) (f : Nat → Option (V × List (Addr × HO))), LamOk (G.wl L) (M.wv f) X sc ∧ LamsOk (G.wl L) (M.wv f) X sc
theorem csA_of (W : Wd G M P w K mg base k) (nl : G.lams = []) {N ps : List Str} {qual : Str} {scope : Scope} {f : Addr} {cdv : Value} {A : Around} {outer : List Env} {s : Shared} {H : Hp} {E : XK} (S : FnScope N ps scope) (hr : Room k (A.deeper (envOfC qual scope s.heap.objs.size f cdv))) (lm : N.contains "_law_caught" = true → LmA G M (cxOf (CX P w) P w K mg base N qual scope f cdv A outer s H E) scope) (gd : N.contains "<repr>" = true → A.guards = some []) :
    CsA G M (cxOf (CX P w) P w K mg base N qual scope f cdv A outer s H E) scope E :=
  ⟨cs_of W S hr (fun z => (lm z G.lams M.vl).1) gd (LW.nil nl), fun L f lw => cs_of (W.with L f) S hr (fun z => (lm z L f).1) gd lw, fun L f _ _ z => (lm z L f).2⟩
theorem start_rep {F : Hp} : ∀ {vs : List V} {ds : List D}, RepL M F vs ds → ∀ (n m i : Nat) (d : D), (ds.map SV.fz ++ List.replicate n SV.un)[i]? = some (.fz d) → ∃ v, (vs.map some ++ List.replicate m none)[i]? = some (some v) ∧ Rep M F v d
  | _, _, .nil, n, m, i, d, h => by
    rw [List.map_nil, List.nil_append, List.getElem?_replicate] at h
    split at h <;> cases h
  | _, _, .cons r l, n, m, 0, d, h => by
    cases h
    exact ⟨_, rfl, r⟩
  | _, _, .cons r l, n, m, i + 1, d, h => start_rep l n m i d h
theorem start_ow : ∀ {ds : List D} {n i : Nat} {d : D}, (ds.map SV.fz ++ List.replicate n SV.un)[i]? = some (.ow d) → False
  | [], n, i, d, h => by
    rw [List.map_nil, List.nil_append, List.getElem?_replicate] at h
    split at h <;> cases h
  | _ :: _, n, 0, d, h => by cases h
  | _ :: ds, n, i + 1, d, h => start_ow (ds := ds) h
theorem start_lk : ∀ {ds : List D} {n i k : Nat}, (ds.map SV.fz ++ List.replicate n SV.un)[i]? = some (.lock k) → False
  | [], n, i, k, h => by
    rw [List.map_nil, List.nil_append, List.getElem?_replicate] at h
    split at h <;> cases h
  | _ :: _, n, 0, k, h => by cases h
  | _ :: ds, n, i + 1, k, h => start_lk (ds := ds) h
/-- a def's body from its promise -/
theorem body_ok {N : List Str} {s : Ss} {fu : Nat} {ps : List Str} {X : Cx} {sc : Scope} {E : XK} {body : List Stmt} {H : Hp} {vs : List V} {Q : VK} (C : CsA G M X sc E) (eN : X.N = N) (h : chkSs G N s sc body = true) (hsp : spD M (runFn G fu N.length s) ps.length vs H Q E) :
    ∃ t, PSs X body t ∧ t { nx := fun _ H' => Q .non H', rt := Q } (L2.start N vs) H := by
  obtain ⟨F0, t, ds, fh, tap, ntp, l, e, q⟩ := hsp
  refine ⟨_, soundSs fu s C F0 H body (by rw [eN]; exact h), ?_⟩
  have stp : Stp M F0 H F0 H t := ⟨fh, tap, ntp, fun _ _ q => q, fun a x q => .inl q, fun _ _ q _ => q, fun _ _ q => ⟨_, q⟩⟩
  refine ⟨ds.map .fz ++ List.replicate (N.length - ds.length) .un, t, F0, ⟨⟨fh, tap, ntp, ?_, fun i d h => ?_, fun i d h => (start_ow h).elim, fun i _ d _ _ h => (start_ow h).elim, fun i k h => (start_lk h).elim⟩, stp, fun b ⟨i, d, h, _⟩ => (start_ow h).elim⟩, ?_⟩
  · simp [L2.start, l.length]
  · obtain ⟨v, e1, r⟩ := start_rep l _ (N.length - vs.length) i d h
    exact ⟨v, e1, r⟩
  · unfold runFn at q
    cases ee : execSs G fu s (ds.map .fz ++ List.replicate (N.length - ds.length) .un) t with
    | no => rw [ee] at q; exact q.elim
    | ex c v t1 => rw [ee] at q; exact q
    | ok o t1 =>
      rw [ee] at q
      cases o with
      | nx ρ => exact fun F' H' σ _ s => (q F' H' s.bs).2 .non Rep.non
      | bk ρ => exact q.elim
      | ct ρ => exact q.elim
      | rt d =>
        obtain ⟨d, kd⟩ := d
        cases kd with
        | br => exact q.elim
        | fz => exact fun F' H' v _ s hv => (q F' H' s).2 v hv
        | fr => exact fun F' H' v _ s hv => (q F' H' s).2 v hv
/-- THE RULE of a def: its text read as s -/
theorem fn_okL (W : Wd G M P w K mg base k) (nl : G.lams = []) {x qual : Str} {params : Arguments} {body : List Stmt} {scope : Scope} {dvs : List V} {f : Addr} {fd : FuncData} {N ps : List Str} {kws : List (Str × V)} {s : Ss} (fu : Nat) (F : FunD K x qual params body scope dvs kws f fd) (S : FnScope N ps scope)
    (lm : N.contains "_law_caught" = true → ∀ A outer sh H E, Room k (A.deeper (envOfC qual scope sh.heap.objs.size f fd.code)) → LmA G M (cxOf (CX P w) P w K mg base N qual scope f fd.code A outer sh H E) scope) (hg : N.contains "<repr>" = false)
    (h : chkSs G N s scope body = true) : FnOk P w K mg base (CX P w) (k + 1) f fd ps (spD M (runFn G fu N.length s) ps.length) := by
  obtain ⟨oc, od, dV, kV, doc, pm, an, cdv, ct, osl, rfl, lk, hcd, _, _⟩ := F.ex
  exact fn_of lk hcd S (fun vs H Q E ⟨_, _, _, _, _, _, _, e, _⟩ => e) fun A outer sh H vs Q E hr hsp => body_ok (csA_of W nl S hr (fun z => lm z A outer sh H E hr) fun z => by rw [hg] at z; cases z) rfl h hsp
/-- .. where no lambda is made -/
theorem fn_ok (W : Wd G M P w K mg base k) (nl : G.lams = []) {x qual : Str} {params : Arguments} {body : List Stmt} {scope : Scope} {dvs : List V} {f : Addr} {fd : FuncData} {N ps : List Str} {kws : List (Str × V)} {s : Ss} (fu : Nat) (F : FunD K x qual params body scope dvs kws f fd) (S : FnScope N ps scope)
    (hl : N.contains "_law_caught" = false) (hg : N.contains "<repr>" = false) (h : chkSs G N s scope body = true) : FnOk P w K mg base (CX P w) (k + 1) f fd ps (spD M (runFn G fu N.length s) ps.length) :=
  fn_okL W nl fu F S (fun z => by rw [hl] at z; cases z) hg h
/-- .. called where no writing of a list is under way -/
theorem fn_okG (W : Wd G M P w K mg base k) (nl : G.lams = []) {x qual : Str} {params : Arguments} {body : List Stmt} {scope : Scope} {dvs : List V} {f : Addr} {fd : FuncData} {N ps : List Str} {kws : List (Str × V)} {s : Ss} (fu : Nat) (F : FunD K x qual params body scope dvs kws f fd) (S : FnScope N ps scope)
    (lm : N.contains "_law_caught" = true → ∀ A outer sh H E, Room k (A.deeper (envOfC qual scope sh.heap.objs.size f fd.code)) → LmA G M (cxOf (CX P w) P w K mg base N qual scope f fd.code A outer sh H E) scope)
    (h : chkSs G N s scope body = true) : FnG P w K mg base (CX P w) (k + 1) f fd ps (spD M (runFn G fu N.length s) ps.length) := by
  obtain ⟨oc, od, dV, kV, doc, pm, an, cdv, ct, osl, rfl, lk, hcd, _, _⟩ := F.ex
  exact ⟨fun vs H Q E ⟨_, _, _, _, _, _, _, e, _⟩ => e, fun A outer sh H args us vs Q E hr gd e0 hb r hsp => LamX.run_ofS lk hcd S hr e0 hb r (by obtain ⟨_, _, _, _, _, _, _, e, _⟩ := hsp; exact e) fun hr' => body_ok (csA_of W nl S hr' (fun z => lm z A outer sh H E hr') fun _ => gd) rfl h hsp⟩
theorem runFn_nbr {fu n : Nat} {s : Ss} : ∀ ds t d t', runFn G fu n s ds t = .ok d t' → d.2 ≠ .br := by
  intro ds t d t' h
  unfold runFn at h
  cases ee : execSs G fu s (ds.map .fz ++ List.replicate (n - ds.length) .un) t with
  | no => rw [ee] at h; cases h
  | ex c v t1 => rw [ee] at h; cases h
  | ok o t1 =>
    rw [ee] at h
    cases o with
    | nx ρ => cases h; exact fun z => by cases z
    | bk ρ => cases h
    | ct ρ => cases h
    | rt d =>
      obtain ⟨d, kd⟩ := d
      cases kd with
      | br => cases h
      | fz => cases h; exact fun z => by cases z
      | fr => cases h; exact fun z => by cases z
end
end DE
set_option maxHeartbeats 4000000
/-! DE14: the tape of family A (a dict: large, rest, cells, turn): _law_blend, _law_draw, _law_begun. -/
namespace DE
open PySem PySem.Spec PyProof.Rows L2
theorem eqD_int (i j : Int) : eqD (.int i) (.int j) = some (decide (i = j)) := by
  have h : eqD (.int i) (.int j) = some (PyData.eqv (.int i) (.int j)) := rfl
  rw [h]
  simp [PyData.eqv]
  rfl
theorem toPyL_ints : ∀ ns : List Int, toPyL (ns.map D.int) = some (ns.map PyData.int)
  | [] => rfl
  | n :: ns => by simp [toPyL, toPy, toPyL_ints ns]
theorem lay_ints : ∀ ns : List Int, PyData.canLayAll0 (ns.map PyData.int) = true
  | [] => rfl
  | n :: ns => by simp [PyData.canLayAll0, PyData.canLay0, lay_ints ns]
theorem depth_ints : ∀ ns : List Int, PyData.depthAll (ns.map PyData.int) = 0
  | [] => rfl
  | n :: ns => by simp [PyData.depthAll, PyData.depth, depth_ints ns]
theorem eqv_ints : ∀ ns ms : List Int, PyData.eqvAll (ns.map PyData.int) (ms.map PyData.int) = decide (ns = ms)
  | [], [] => rfl
  | [], _ :: _ => rfl
  | _ :: _, [] => rfl
  | n :: ns, m :: ms => by
    simp only [List.map_cons, PyData.eqvAll, PyData.eqv, eqv_ints ns ms]
    by_cases h : n = m <;> by_cases h2 : ns = ms <;> simp [h, h2]
theorem eqD_ints (ns ms : List Int) : eqD (.lst (ns.map D.int)) (.lst (ms.map D.int)) = some (decide (ns = ms)) := by
  have h1 : toPy (.lst (ns.map D.int)) = some (.list (ns.map .int)) := by simp [toPy, toPyL_ints]
  have h2 : toPy (.lst (ms.map D.int)) = some (.list (ms.map .int)) := by simp [toPy, toPyL_ints]
  have s : ∀ ns : List Int, SeqAt.shaped (.list (ns.map .int)) = true := fun ns => by
    simp [SeqAt.shaped, PyData.canLay0, lay_ints, PyData.depth, depth_ints]
  unfold eqD
  rw [h1, h2]
  simp only [s, Bool.and_self, if_true, PyData.eqv, eqv_ints]
theorem eqD_ints0 (ns : List Int) : eqD (.lst (ns.map D.int)) (.lst []) = some (decide (ns = [])) := eqD_ints ns []
/-! ### what they compute -/
structure TA where
  large : List Int
  rest : Int
  cells : List Int
  turn : Int
def mixI (great m g : Int) : Int := (m * 48271 + g).fmod great
def mix0 (turn great : Int) : Int := (turn * 69621 + great.fdiv 7).fmod great
def blend1 (turn : Int) (cells : List Int) (found great : Int) : Int := found * 2147483647 + (cells.foldl (mixI great) (mix0 turn great) ^ 5).fmod great
def blendI (t : TA) : Int := [2147483629, 2147483587, 2147483579].foldl (blend1 (t.turn + 1) t.cells) 0
/-- the tape with its rest not empty, if it can be -/
def fillA (t : TA) : TA := if t.rest = 0 then (match t.large with
  | x :: xs => { t with large := xs, rest := x }
  | [] => { t with rest := blendI t, turn := t.turn + 1 }) else t
def drawA : DFn TA := fun ds t => match ds with
  | [.tape, .int n] => if decide (0 < n) && decide (n.natAbs.log2 < 9000) then .ok (.int ((fillA t).rest.fmod n), .fz) { fillA t with rest := (fillA t).rest.fdiv n } else .no
  | _ => .no

/-! ### where it lies -/
def kL : Key := .inr "large"
def kR : Key := .inr "rest"
def kC : Key := .inr "cells"
def kT : Key := .inr "turn"
def tapeKvs (l c : Addr) (t : TA) : List (Key × V) := [(kL, .ref l), (kR, .int t.rest), (kC, .ref c), (kT, .int t.turn)]
structure AtA (R l c : Addr) (H : Hp) (t : TA) : Prop where
  hR : H R = some (.dK (tapeKvs l c t))
  hL : H l = some (.lst (t.large.map .int))
  hC : H c = some (.lst (t.cells.map .int))
  ne : l ≠ c
theorem AtA.rl {R l c : Addr} {H : Hp} {t : TA} (h : AtA R l c H t) : l ≠ R := fun z => by
  have h1 := h.hR
  have h2 := h.hL
  rw [z, h1] at h2
  cases h2
theorem AtA.rc {R l c : Addr} {H : Hp} {t : TA} (h : AtA R l c H t) : c ≠ R := fun z => by
  have h1 := h.hR
  have h2 := h.hC
  rw [z, h1] at h2
  cases h2
def tpA (R l c : Addr) : Tp TA where
  root := R
  own := fun a => a = R ∨ a = l ∨ a = c
  At := AtA R l c
  loc := fun h _ _ q => ⟨by rw [h _ (.inl rfl)]; exact q.hR, by rw [h _ (.inr (.inl rfl))]; exact q.hL, by rw [h _ (.inr (.inr rfl))]; exact q.hC, q.ne⟩
  there := fun q h => by
    rcases h with rfl | rfl | rfl
    · rw [q.hR]; exact fun z => by cases z
    · rw [q.hL]; exact fun z => by cases z
    · rw [q.hC]; exact fun z => by cases z
/-- no tape: one object that nobody touches -/
def tpN (r : Addr) : Tp HO where
  root := r
  own := fun a => a = r
  At := fun H o => H r = some o
  loc := fun h _ _ q => by rw [h _ rfl]; exact q
  there := fun q h => by subst h; rw [q]; exact fun z => by cases z
def mdN (K : PySem.W.Frag) (r : Addr) : Md HO := { K := K, tp := tpN r, CA := fun _ => 0, atr := fun _ => "" }
def G0 : Pg HO := { fns := [], cls := [], cons := [], atr := fun _ => "" }
theorem wdN {P : Program} {w : World} {K : PySem.W.Frag} {mg : Str → Option Value} {base : Heap} {k : Nat} (r : Addr) (free : ∀ x ∈ bltNames, mg x = none) : Wd G0 (mdN K r) P w K mg base k :=
  ⟨rfl, free, fun x d h => by simp [G0] at h, fun i fi h e => by simp [G0] at e, fun c y h => by simp [G0] at h, fun c y h => by simp [G0] at h, fun L f i p h => by simp [G0] at h, fun L f i p h => by simp [G0] at h, fun L f i p h => by simp [G0] at h⟩
/-- no new table of code objects -/
def NoT (H H' : Hp) : Prop := ∀ a ps, H' a = some (.tbl ps) → ∃ qs, H a = some (.tbl qs)
theorem NoT.refl (H : Hp) : NoT H H := fun _ _ h => ⟨_, h⟩
theorem NoT.trans {H H1 H2 : Hp} (a : NoT H H1) (b : NoT H1 H2) : NoT H H2 := fun x ps h => let ⟨q, h1⟩ := b x ps h; a x q h1
theorem NoT.upd {H : Hp} {a : Addr} {o : HO} (h : ∀ ps, o ≠ .tbl ps) : NoT H (L2.upd H a o) := fun b ps e => by
  by_cases z : b = a
  · subst z; rw [upd_same] at e; cases e; exact absurd rfl (h _)
  · rw [upd_ne z] at e; exact ⟨_, e⟩
structure Keep (H H' : Hp) : Prop where
  k : ∀ a x, H a = some x → H' a = some x
  n : NoT H H'
theorem keep_of {K : PySem.W.Frag} {r : Addr} {F H F' H' : Hp} {o : HO} (h : H r = some o) (s : Stp (mdN K r) F H F' H' o) : Keep H H' := ⟨fun a x e => by
  by_cases z : a = r
  · subst z
    rw [h] at e
    cases e
    exact s.tap
  · exact s.hh a x e z, s.tb⟩
/-- a reading by a view -/
theorem ev {K : PySem.W.Frag} {r : Addr} {W : XK} {e : E} {σ : L2.St} {H F : Hp} {ρ : En} {o : HO} {Q : VK} {d : D} (sx : Sx (mdN K r) F H σ ρ o) (he : evalE G0 e ρ o = .ok (d, .fz) o)
    (q : ∀ H' v, Keep H H' → (∃ F', Rep (mdN K r) F' v d) → Q v H') : tD (mdN K r) G0 W e σ H Q :=
  ⟨ρ, o, F, sx, by rw [he]; exact fun F' H' s v hv => q H' v (keep_of sx.tap s) ⟨F', hv⟩⟩
theorem evT {K : PySem.W.Frag} {r : Addr} {W : XK} {e : E} {σ : L2.St} {H F : Hp} {ρ : En} {o : HO} {Q : Bool → Hp → Prop} {b : Bool} (sx : Sx (mdN K r) F H σ ρ o) (he : evalE G0 e ρ o = .ok (.bl b, .fz) o)
    (q : ∀ H', Keep H H' → Q b H') : tDT (mdN K r) G0 W e σ H Q :=
  ⟨ρ, o, F, sx, by rw [he]; exact fun F' H' s => ⟨b, rfl, q H' (keep_of sx.tap s)⟩⟩
theorem mkSx {K : PySem.W.Frag} {r : Addr} {σ : L2.St} {H F : Hp} {ρ : En} {o : HO} (fh : Same F H) (hr : H r = some o) (nr : F r = none) (len : σ.length = ρ.length)
    (fz : ∀ (i : Nat) (d : D), ρ[i]? = some (SV.fz d) → ∃ v, σ[i]? = some (some v) ∧ Rep (mdN K r) F v d) (no : ∀ (i : Nat) (d : D), ρ[i]? ≠ some (SV.ow d)) (nl : ∀ i k : Nat, ρ[i]? ≠ some (.lock k)) : Sx (mdN K r) F H σ ρ o :=
  ⟨fh, hr, fun a h => by obtain rfl : a = r := h; exact nr, len, fz, fun i d h => absurd h (no i d), fun i j d1 d2 a h => absurd h (no i d1), fun i k h => absurd h (nl i k)⟩

/-! ### _law_blend -/
def eTurn : E := .bin .add (.idx (.var 0) (.str "turn")) (.int 1)
def bIn : Ss := .cons (.asg (.nm 4) false (.bin .mod (.bin .add (.bin .mul (.var 4) (.int 48271)) (.bi .int (.cons (.var 5) .nil))) (.var 3))) .nil
def bOut : Ss := .cons (.asg (.nm 4) false (.bin .mod (.bin .add (.bin .mul (.var 1) (.int 69621)) (.bin .fdiv (.var 3) (.int 7))) (.var 3)))
  (.cons (.fr (.nm 5) (.seq (.idx (.var 0) (.str "cells"))) bIn)
  (.cons (.asg (.nm 2) false (.bin .add (.bin .mul (.var 2) (.int 2147483647)) (.bin .mod (.bin .pow (.var 4) (.int 5)) (.var 3)))) .nil))
def ssBlend : Ss := .cons (.par [(1, false), (2, false)] (.cons (.bi .int (.cons (.idx (.var 0) (.str "turn")) .nil)) (.cons (.int 0) .nil)))
  (.cons (.fr (.nm 3) (.seq (.lst (.cons (.int 2147483629) (.cons (.int 2147483587) (.cons (.int 2147483579) .nil))))) bOut) (.cons (.ret (.var 2)) .nil))
def dctA (t : TA) (large cells : D) : D := .dct false [(.str "large", large), (.str "rest", .int t.rest), (.str "cells", cells), (.str "turn", .int t.turn)]
theorem nLR : ¬ (Str.ofString "large" = Str.ofString "rest") := by decide
theorem nLC : ¬ (Str.ofString "large" = Str.ofString "cells") := by decide
theorem nLT : ¬ (Str.ofString "large" = Str.ofString "turn") := by decide
theorem nRC : ¬ (Str.ofString "rest" = Str.ofString "cells") := by decide
theorem nRT : ¬ (Str.ofString "rest" = Str.ofString "turn") := by decide
theorem nCT : ¬ (Str.ofString "cells" = Str.ofString "turn") := by decide
theorem dgL (t : TA) (x y : D) : dget [(.str "large", x), (.str "rest", .int t.rest), (.str "cells", y), (.str "turn", .int t.turn)] (.str "large") = some x := rfl
theorem dgR (t : TA) (x y : D) : dget [(.str "large", x), (.str "rest", .int t.rest), (.str "cells", y), (.str "turn", .int t.turn)] (.str "rest") = some (.int t.rest) := by
  simp [dget, keyEq, keyEq1, nLR, nLC, nLT, nRC, nRT, nCT]
theorem dgC (t : TA) (x y : D) : dget [(.str "large", x), (.str "rest", .int t.rest), (.str "cells", y), (.str "turn", .int t.turn)] (.str "cells") = some y := by
  simp [dget, keyEq, keyEq1, nLR, nLC, nLT, nRC, nRT, nCT]
theorem dgT (t : TA) (x y : D) : dget [(.str "large", x), (.str "rest", .int t.rest), (.str "cells", y), (.str "turn", .int t.turn)] (.str "turn") = some (.int t.turn) := by
  simp [dget, keyEq, keyEq1, nLR, nLC, nLT, nRC, nRT, nCT]
theorem in_run (fu : Nat) (o : HO) (a0 : SV) (tu fo : D) (great : Int) (hg : great ≠ 0) : ∀ (gs : List Int) (m : Int) (x : SV), isLock (some x) = false → ∃ y, isLock (some y) = false ∧ forL (fun d ρ => bindT ρ (.nm 5) d) (fun ρ t => execSs G0 fu bIn ρ t) (gs.map D.int) [a0, .fz tu, .fz fo, .fz (.int great), .fz (.int m), x] o
    = .ok (.nx [a0, .fz tu, .fz fo, .fz (.int great), .fz (.int (gs.foldl (mixI great) m)), y]) o
  | [], m, x, hx => ⟨x, hx, rfl⟩
  | g :: gs, m, x, hx => by
    obtain ⟨y, hy, e⟩ := in_run fu o a0 tu fo great hg gs (mixI great m g) (.fz (.int g)) rfl
    refine ⟨y, hy, ?_⟩
    rw [List.map_cons, List.foldl_cons, ← e]
    simp [forL, bindT, setE, hx, bIn, execSs, execS, evalE, evalEs, R.bind, ofO, op2, smallI, hg, biD, asgO, mixI]
theorem out1 (fu : Nat) (o : HO) (t : TA) (la : D) (found great : Int) (hg : 0 < great) (hs : great < 2 ^ 62) (m x : SV) (hm : isLock (some m) = false) (hx : isLock (some x) = false) : ∃ m' y, isLock (some m') = false ∧ isLock (some y) = false ∧ execSs G0 fu bOut [.fz (dctA t la (.lst (t.cells.map D.int))), .fz (.int t.turn), .fz (.int found), .fz (.int great), m, x] o
    = .ok (.nx [.fz (dctA t la (.lst (t.cells.map D.int))), .fz (.int t.turn), .fz (.int (blend1 t.turn t.cells found great)), .fz (.int great), m', y]) o := by
  obtain ⟨y, hy, e⟩ := in_run fu o (.fz (dctA t la (.lst (t.cells.map D.int)))) (.int t.turn) (.int found) great (by omega) t.cells (mix0 t.turn great) x hx
  refine ⟨.fz (.int (t.cells.foldl (mixI great) (mix0 t.turn great))), y, rfl, hy, ?_⟩
  have hb : (t.cells.foldl (mixI great) (mix0 t.turn great)).natAbs < 2 ^ 64 := by
    have key : ∀ (gs : List Int) (m : Int), 0 ≤ m ∧ m < great → 0 ≤ gs.foldl (mixI great) m ∧ gs.foldl (mixI great) m < great := by
      intro gs
      induction gs with
      | nil => exact fun m h => h
      | cons g gs ih => exact fun m _ => ih _ ⟨Int.fmod_nonneg_of_pos _ hg, Int.fmod_lt_of_pos _ hg⟩
    have := key t.cells (mix0 t.turn great) ⟨Int.fmod_nonneg_of_pos _ hg, Int.fmod_lt_of_pos _ hg⟩
    omega
  unfold bOut
  have e1 : execS G0 fu (.asg (.nm 4) false (.bin .mod (.bin .add (.bin .mul (.var 1) (.int 69621)) (.bin .fdiv (.var 3) (.int 7))) (.var 3))) [.fz (dctA t la (.lst (t.cells.map D.int))), .fz (.int t.turn), .fz (.int found), .fz (.int great), m, x] o
      = .ok (.nx [.fz (dctA t la (.lst (t.cells.map D.int))), .fz (.int t.turn), .fz (.int found), .fz (.int great), .fz (.int (mix0 t.turn great)), x]) o := by
    simp [bindT, setE, hm, execS, evalE, evalEs, R.bind, ofO, op2, smallI, divOk, show great ≠ 0 by omega, asgO, mix0]
  have e2 : execS G0 fu (.fr (.nm 5) (.seq (.idx (.var 0) (.str "cells"))) bIn) [.fz (dctA t la (.lst (t.cells.map D.int))), .fz (.int t.turn), .fz (.int found), .fz (.int great), .fz (.int (mix0 t.turn great)), x] o
      = .ok (.nx [.fz (dctA t la (.lst (t.cells.map D.int))), .fz (.int t.turn), .fz (.int found), .fz (.int great), .fz (.int (t.cells.foldl (mixI great) (mix0 t.turn great))), y]) o := by
    rw [← e]
    simp [execS, evalIt, evalE, R.bind, ofO, idxD, dctA, keyOk, dgC, itOf, frz1]
  have e3 : execS G0 fu (.asg (.nm 2) false (.bin .add (.bin .mul (.var 2) (.int 2147483647)) (.bin .mod (.bin .pow (.var 4) (.int 5)) (.var 3)))) [.fz (dctA t la (.lst (t.cells.map D.int))), .fz (.int t.turn), .fz (.int found), .fz (.int great), .fz (.int (t.cells.foldl (mixI great) (mix0 t.turn great))), y] o
      = .ok (.nx [.fz (dctA t la (.lst (t.cells.map D.int))), .fz (.int t.turn), .fz (.int (blend1 t.turn t.cells found great)), .fz (.int great), .fz (.int (t.cells.foldl (mixI great) (mix0 t.turn great))), y]) o := by
    simp [bindT, setE, execS, evalE, evalEs, R.bind, ofO, op2, smallI, show great ≠ 0 by omega, asgO, blend1, hb]
  simp only [execSs, e1, e2, e3, R.bind]
theorem blend_run (fu : Nat) (o : HO) (t : TA) (la : D) : execSs G0 fu ssBlend [.fz (dctA t la (.lst (t.cells.map D.int))), .un, .un, .un, .un, .un] o = .ok (.rt (.int ([2147483629, 2147483587, 2147483579].foldl (blend1 t.turn t.cells) 0), .fz)) o := by
  obtain ⟨m1, y1, hm1, hy1, e1⟩ := out1 fu o t la 0 2147483629 (by omega) (by omega) .un .un rfl rfl
  obtain ⟨m2, y2, hm2, hy2, e2⟩ := out1 fu o t la (blend1 t.turn t.cells 0 2147483629) 2147483587 (by omega) (by omega) m1 y1 hm1 hy1
  obtain ⟨m3, y3, hm3, hy3, e3⟩ := out1 fu o t la (blend1 t.turn t.cells (blend1 t.turn t.cells 0 2147483629) 2147483587) 2147483579 (by omega) (by omega) m2 y2 hm2 hy2
  have p1 : execS G0 fu (.par [(1, false), (2, false)] (.cons (.bi .int (.cons (.idx (.var 0) (.str "turn")) .nil)) (.cons (.int 0) .nil))) [.fz (dctA t la (.lst (t.cells.map D.int))), .un, .un, .un, .un, .un] o
      = .ok (.nx [.fz (dctA t la (.lst (t.cells.map D.int))), .fz (.int t.turn), .fz (.int 0), .un, .un, .un]) o := by
    simp [execS, evalEs, evalE, R.bind, ofO, idxD, dctA, keyOk, dgT, biD, parL, setE]
  have p2 : execS G0 fu (.fr (.nm 3) (.seq (.lst (.cons (.int 2147483629) (.cons (.int 2147483587) (.cons (.int 2147483579) .nil))))) bOut) [.fz (dctA t la (.lst (t.cells.map D.int))), .fz (.int t.turn), .fz (.int 0), .un, .un, .un] o
      = .ok (.nx [.fz (dctA t la (.lst (t.cells.map D.int))), .fz (.int t.turn), .fz (.int (blend1 t.turn t.cells (blend1 t.turn t.cells (blend1 t.turn t.cells 0 2147483629) 2147483587) 2147483579)), .fz (.int 2147483579), m3, y3]) o := by
    have hl : (3 : Nat) ≤ lim := by decide
    simp [execS, evalIt, evalEs, evalE, R.bind, ofO, allFz, itOf, frz1, hl, forL, bindT, setE, e1, e2, e3]
  simp only [ssBlend, execSs, p1, p2, R.bind]
  simp [execS, evalE, R.bind]
def noLcB (N : List Str) (sc : Scope) : List Stmt → Bool
  | .Assign [.Subscript (.Name y _) i _] e _ :: rest => nameAt N sc 0 y && chkE G0 N (.str "turn") sc i && chkE G0 N eTurn sc e && noLc e && chkSs G0 N ssBlend sc rest
  | _ => false
def NBl : List Str := ["tape", "turn", "found", "great", "mixed", "grain"]
def spBlend : Sp := fun vs H Q _ => ∃ (R l c : Addr) (t : TA), vs = [.ref R] ∧ AtA R l c H t ∧ ∀ H', AtA R l c H' { t with turn := t.turn + 1 } → (∀ a x, a ≠ R → H a = some x → H' a = some x) → NoT H H' → Q (.int (blendI t)) H'
theorem put_turn (l c : Addr) (t : TA) (n : Int) : putK (tapeKvs l c t) kT (.int n) = tapeKvs l c { t with turn := n } := by
  simp [putK, tapeKvs, kL, kR, kC, kT, nLT, nRT, nCT]
theorem put_rest (l c : Addr) (t : TA) (n : Int) : putK (tapeKvs l c t) kR (.int n) = tapeKvs l c { t with rest := n } := by
  simp [putK, tapeKvs, kL, kR, kC, kT, nLR, Ne.symm nRC, Ne.symm nRT, fun e => nRC (Eq.symm e), fun e => nRT (Eq.symm e)]
theorem rep_tape {K : PySem.W.Frag} {F : Hp} {R l c r : Addr} {t : TA} {la ce : D} (h : F R = some (.dK (tapeKvs l c t))) (h1 : Rep (mdN K r) F (.ref l) la) (h2 : Rep (mdN K r) F (.ref c) ce) : Rep (mdN K r) F (.ref R) (dctA t la ce) :=
  .dK (.inl h) (.cons (k := kL) h1 (.cons (k := kR) (.int _) (.cons (k := kC) h2 (.cons (k := kT) (.int _) .nil))))
section
variable {P : Program} {w : World} {K : PySem.W.Frag} {mg : Str → Option Value} {base : Heap} {k : Nat}
theorem PSs_ex {X : Cx} {st : List Stmt} {α : Sort _} {t : α → TS} (h : ∀ a, PSs X st (t a)) : PSs X st (fun D σ H => ∃ a, t a D σ H) := ⟨fun pins s σ H D I ⟨a, q⟩ => (h a).run pins s σ H D I q⟩
theorem tape_sx {R l c : Addr} {t : TA} {H : Hp} (h : AtA R l c H t) {σ : L2.St} {ρ : En} (len : σ.length = ρ.length)
    (fz : ∀ (i : Nat) (d : D), ρ[i]? = some (SV.fz d) → ∃ v, σ[i]? = some (some v) ∧ ((v = .ref R ∧ d = dctA t .tape (.lst (t.cells.map D.int))) ∨ ∃ n, v = .int n ∧ d = .int n)) (no : ∀ (i : Nat) (d : D), ρ[i]? ≠ some (SV.ow d)) (nl : ∀ i k : Nat, ρ[i]? ≠ some (.lock k)) :
    Sx (mdN K l) (fun a => if a = R ∨ a = c then H a else none) H σ ρ (.lst (t.large.map .int)) := by
  refine mkSx (fun b x q => ?_) h.hL (if_neg (by rintro (z | z); exact h.rl z; exact h.ne z)) len (fun i d e => ?_) no nl
  · split at q
    · exact q
    · cases q
  · obtain ⟨v, e1, hd⟩ := fz i d e
    refine ⟨v, e1, ?_⟩
    rcases hd with ⟨rfl, rfl⟩ | ⟨n, rfl, rfl⟩
    · exact rep_tape (l := l) (c := c) ((if_pos (.inl rfl)).trans h.hR) Rep.tape (.lst (vs := t.cells.map V.int) (.inl ((if_pos (.inr rfl)).trans h.hC)) (RepL.ints _))
    · exact .int n
theorem int_of {M : Md HO} {F : Hp} {v : V} {n : Int} (h : Rep M F v (.int n)) : v = .int n := by cases h; rfl
theorem str_of {M : Md HO} {F : Hp} {v : V} {n : Str} (h : Rep M F v (.str n)) : v = .str n := by cases h; rfl
theorem AtA.keep {R l c : Addr} {t : TA} {H H' : Hp} (h : AtA R l c H t) (k : Keep H H') : AtA R l c H' t := ⟨k.k _ _ h.hR, k.k _ _ h.hL, k.k _ _ h.hC, h.ne⟩
theorem AtA.turn {R l c : Addr} {t : TA} {H : Hp} (h : AtA R l c H t) (n : Int) : AtA R l c (upd H R (.dK (putK (tapeKvs l c t) kT (.int n)))) { t with turn := n } :=
  ⟨by rw [upd_same, put_turn], by rw [upd_ne h.rl]; exact h.hL, by rw [upd_ne h.rc]; exact h.hC, h.ne⟩
theorem AtA.rest_ {R l c : Addr} {t : TA} {H : Hp} (h : AtA R l c H t) (n : Int) : AtA R l c (upd H R (.dK (putK (tapeKvs l c t) kR (.int n)))) { t with rest := n } :=
  ⟨by rw [upd_same, put_rest], by rw [upd_ne h.rl]; exact h.hL, by rw [upd_ne h.rc]; exact h.hC, h.ne⟩
theorem blend_ok (free : ∀ x ∈ bltNames, mg x = none) {x qual : Str} {params : Arguments} {body : List Stmt} {scope : Scope} {f : Addr} {fd : FuncData} {dvs : List V} {kws : List (Str × V)} (F : FunD K x qual params body scope dvs kws f fd) (S : FnScope NBl ["tape"] scope)
    (h : noLcB NBl scope body = true) : FnOk P w K mg base (CX P w) (k + 1) f fd ["tape"] spBlend := by
  refine F.ok S (fun vs H Q E ⟨_, _, _, _, e, _⟩ => by rw [e]; rfl) fun cdv A outer sh H vs Q E hr hsp => ?_
  obtain ⟨R, l, c, t, rfl, at_, q⟩ := hsp
  unfold noLcB at h
  split at h
  · rename_i y yp i ip e ep rest
    obtain ⟨h, h5⟩ := and3 h
    obtain ⟨h, h4⟩ := and3 h
    obtain ⟨h, h3⟩ := and3 h
    obtain ⟨h1, h2⟩ := and3 h
    have C := csA_of (wdN (P := P) (w := w) (K := K) (base := base) (k := k) l free) rfl (qual := qual) (f := f) (cdv := cdv) (A := A) (outer := outer) (s := sh) (H := H) (E := E) S hr (fun z => absurd z (by decide)) (fun z => absurd z (by decide))
    refine ⟨_, pss_cons (ps_dput (Nat.lt_of_le_of_lt (by omega) C.ct.un) (nameAt_of C.ct h1) (soundE (.str "turn") C.ct C.tk i h2) (soundE eTurn C.ct C.tk e h3) (by cases e <;> first | rfl | cases h4))
      (PSs_ex fun H0 => PSs_ex fun F0 => soundSs 0 ssBlend C F0 H0 rest h5), ?_⟩
    have fz0 : ∀ (t : TA) (i : Nat) (d : D), ([SV.fz (dctA t .tape (.lst (t.cells.map D.int))), .un, .un, .un, .un, .un] : En)[i]? = some (SV.fz d) → ∃ v, (L2.start NBl [.ref R])[i]? = some (some v) ∧ ((v = .ref R ∧ d = dctA t .tape (.lst (t.cells.map D.int))) ∨ ∃ n, v = .int n ∧ d = .int n) := fun t i d e => by
      match i, e with
      | 0, e => cases e; exact ⟨.ref R, rfl, .inl ⟨rfl, rfl⟩⟩
      | 1, e => cases e
      | 2, e => cases e
      | 3, e => cases e
      | 4, e => cases e
      | 5, e => cases e
      | _ + 6, e => simp at e
    have nl0 : ∀ (t : TA) (i k : Nat), ([SV.fz (dctA t .tape (.lst (t.cells.map D.int))), .un, .un, .un, .un, .un] : En)[i]? ≠ some (.lock k) := fun t i k e => by
      match i, e with
      | 0, e => cases e
      | 1, e => cases e
      | 2, e => cases e
      | 3, e => cases e
      | 4, e => cases e
      | 5, e => cases e
      | _ + 6, e => simp at e
    have no0 : ∀ (t : TA) (i : Nat) (d : D), ([SV.fz (dctA t .tape (.lst (t.cells.map D.int))), .un, .un, .un, .un, .un] : En)[i]? ≠ some (SV.ow d) := fun t i d e => by
      match i, e with
      | 0, e => cases e
      | 1, e => cases e
      | 2, e => cases e
      | 3, e => cases e
      | 4, e => cases e
      | 5, e => cases e
      | _ + 6, e => simp at e
    refine ev (d := .int (t.turn + 1)) (tape_sx at_ rfl (fz0 t) (no0 t) (nl0 t)) (by simp [eTurn, evalE, DE.R.bind, ofO, idxD, dctA, keyOk, dgT, op2]) fun H1 v k1 ⟨F1, r1⟩ => ⟨.ref R, rfl, ev (d := .str "turn") (tape_sx (at_.keep k1) rfl (fz0 t) (no0 t) (nl0 t)) rfl fun H2 y k2 ⟨F2, r2⟩ => ?_⟩
    obtain rfl := int_of r1
    obtain rfl := str_of r2
    have at2 := (at_.keep k1).keep k2
    refine ⟨R, _, rfl, .k (k := kT) at2.hR (by show 4 < sizeLine; rw [sizeLine_eq]; omega), _, _, _, _, _, ⟨tape_sx (at2.turn (t.turn + 1)) rfl (fz0 _) (no0 _) (nl0 _), Stp.refl ?_ ?_ ?_, fun b ⟨i, d, e, _⟩ => (no0 _ _ _ e).elim⟩, ?_⟩
    · exact (tape_sx (K := K) (at2.turn (t.turn + 1)) rfl (fz0 _) (no0 _) (nl0 _)).fh
    · exact (tape_sx (K := K) (at2.turn (t.turn + 1)) rfl (fz0 _) (no0 _) (nl0 _)).tap
    · exact (tape_sx (K := K) (at2.turn (t.turn + 1)) rfl (fz0 _) (no0 _) (nl0 _)).ntp
    · rw [blend_run]
      intro F' H' v _ st hv
      obtain ⟨rfl, _⟩ := VRep.int hv
      have kp := keep_of (tape_sx (K := K) (at2.turn (t.turn + 1)) rfl (fz0 _) (no0 _) (nl0 _)).tap st
      refine q H' ((at2.turn (t.turn + 1)).keep kp) (fun a x na e => kp.k a x ?_) (((k1.n.trans k2.n).trans (NoT.upd fun _ z => by cases z)).trans kp.n)
      rw [upd_ne na]
      exact k2.k _ _ (k1.k _ _ e)
  · cases h
theorem tape_sx2 {R l c : Addr} {t : TA} {H : Hp} (h : AtA R l c H t) {σ : L2.St} {ρ : En} (len : σ.length = ρ.length)
    (fz : ∀ (i : Nat) (d : D), ρ[i]? = some (SV.fz d) → ∃ v, σ[i]? = some (some v) ∧ ((v = .ref R ∧ d = dctA t (.lst (t.large.map D.int)) .tape) ∨ ∃ n, v = .int n ∧ d = .int n)) (no : ∀ (i : Nat) (d : D), ρ[i]? ≠ some (SV.ow d)) (nl : ∀ i k : Nat, ρ[i]? ≠ some (.lock k)) :
    Sx (mdN K c) (fun a => if a = R ∨ a = l then H a else none) H σ ρ (.lst (t.cells.map .int)) := by
  refine mkSx (fun b x q => ?_) h.hC (if_neg (by rintro (z | z); exact h.rc z; exact h.ne z.symm)) len (fun i d e => ?_) no nl
  · split at q
    · exact q
    · cases q
  · obtain ⟨v, e1, hd⟩ := fz i d e
    refine ⟨v, e1, ?_⟩
    rcases hd with ⟨rfl, rfl⟩ | ⟨n, rfl, rfl⟩
    · exact rep_tape (l := l) (c := c) ((if_pos (.inl rfl)).trans h.hR) (.lst (vs := t.large.map V.int) (.inl ((if_pos (.inr rfl)).trans h.hL)) (RepL.ints _)) Rep.tape
    · exact .int n
def eR : E := .idx (.var 0) (.str "rest")
def chkDraw (N : List Str) (sc : Scope) : List Stmt → Bool
  | [.If c0 [.Assign [.Subscript (.Name y1 _) i1 _] (.IfExp c1 (.Call (.Attribute (.Subscript (.Name y2 _) i2 _) m apos) [z] [] cpos) (.Call (.Name b _) [.Name y3 _] [] _) _) _] [] _,
      .Assign [xt] e2 _, .Assign [.Subscript (.Name y4 _) i4 _] e3 _, .Return (some r) _] =>
    (chkE G0 N (.cmp .eq eR (.int 0)) sc c0 && nameAt N sc 0 y1 && chkE G0 N (.str "rest") sc i1 && chkE G0 N (.cmp .ne (.idx (.var 0) (.str "large")) (.lst .nil)) sc c1 && nameAt N sc 0 y2 && chkE G0 N (.str "large") sc i2 && decide (m = "pop") && (apos.endLine == cpos.line) && chkE G0 N (.int 0) sc z) &&
    (decide (b = "_law_blend") && isGl sc b && nameAt N sc 0 y3) && (chkTg N sc (.nm 2) xt && chkE G0 N (.bin .mod (.bi .int (.cons eR .nil)) (.var 1)) sc e2 && noLc e2 && (match xt with | .Name _ _ => true | _ => false)) &&
    (nameAt N sc 0 y4 && chkE G0 N (.str "rest") sc i4 && chkE G0 N (.bin .fdiv (.bi .int (.cons eR .nil)) (.var 1)) sc e3 && noLc e3) && chkE G0 N (.var 2) sc r
  | _ => false
def NDr : List Str := ["tape", "size", "found"]
/-- what stands in the tape when a draw is done: n at most what the slots hold -/
def spDraw : Sp := fun vs H Q _ => ∃ (R l c : Addr) (t : TA) (n : Int), vs = [.ref R, .int n] ∧ AtA R l c H t ∧ 0 < n ∧ n.natAbs.log2 < 9000 ∧
  ∀ H', AtA R l c H' { fillA t with rest := (fillA t).rest.fdiv n } → (∀ a x, a ≠ R → a ≠ l → H a = some x → H' a = some x) → NoT H H' → Q (.int ((fillA t).rest.fmod n)) H'
structure Old (R l : Addr) (H H' : Hp) : Prop where
  k : ∀ a x, a ≠ R → a ≠ l → H a = some x → H' a = some x
  n : NoT H H'
theorem Old.keep {R l : Addr} {H H1 H2 : Hp} (h : Old R l H H1) (k : Keep H1 H2) : Old R l H H2 := ⟨fun a x n m e => k.k _ _ (h.k a x n m e), h.n.trans k.n⟩
theorem Old.put {R l : Addr} {H H1 : Hp} {o : HO} (h : Old R l H H1) (ho : ∀ ps, o ≠ .tbl ps := by exact fun _ z => nomatch z) : Old R l H (upd H1 R o) := ⟨fun a x n m e => by rw [upd_ne n]; exact h.k a x n m e, h.n.trans (NoT.upd ho)⟩
def rhoD (t : TA) (n : Int) (z : SV) : En := [.fz (dctA t (.lst (t.large.map D.int)) .tape), .fz (.int n), z]
def sigD (R : Addr) (n : Int) (z : Option V) : L2.St := [some (.ref R), some (.int n), z]
theorem drawSx {R l c : Addr} {t : TA} {H : Hp} (h : AtA R l c H t) (n : Int) {z : SV} {y : Option V} (hz : (z = .un) ∨ ∃ m, z = .fz (.int m) ∧ y = some (.int m)) :
    Sx (mdN K c) (fun a => if a = R ∨ a = l then H a else none) H (sigD R n y) (rhoD t n z) (.lst (t.cells.map .int)) := by
  refine tape_sx2 h rfl (fun i d e => ?_) (fun i d e => ?_) fun i kk e => by
    match i, e with
    | 0, e => cases e
    | 1, e => cases e
    | 2, e =>
      rcases hz with rfl | ⟨m, rfl, rfl⟩
      · cases e
      · cases e
    | _ + 3, e => simp [rhoD] at e
  · match i, e with
    | 0, e => cases e; exact ⟨.ref R, rfl, .inl ⟨rfl, rfl⟩⟩
    | 1, e => cases e; exact ⟨.int n, rfl, .inr ⟨n, rfl, rfl⟩⟩
    | 2, e =>
      rcases hz with rfl | ⟨m, rfl, rfl⟩
      · cases e
      · cases e; exact ⟨.int m, rfl, .inr ⟨m, rfl, rfl⟩⟩
    | _ + 3, e => simp [rhoD] at e
  · match i, e with
    | 0, e => cases e
    | 1, e => cases e
    | 2, e =>
      rcases hz with rfl | ⟨m, rfl, rfl⟩
      · cases e
      · cases e
    | _ + 3, e => simp [rhoD] at e
theorem draw_ok (free : ∀ x ∈ bltNames, mg x = none) {fB : Addr} {fdB : FuncData} (B : FnOk P w K mg base (CX P w) k fB fdB ["tape"] spBlend) (gB : mg "_law_blend" = some (.ref fB)) (kB : PySem.W.keepIn K (.ref fB) = true) (bB : Binds K fdB ["tape"] [])
    {x qual : Str} {params : Arguments} {body : List Stmt} {scope : Scope} {f : Addr} {fd : FuncData} {dvs : List V} {kws : List (Str × V)} (F : FunD K x qual params body scope dvs kws f fd) (S : FnScope NDr ["tape", "size"] scope)
    (h : chkDraw NDr scope body = true) : FnOk P w K mg base (CX P w) (k + 1) f fd ["tape", "size"] spDraw := by
  refine F.ok S (fun vs H Q E ⟨_, _, _, _, _, e, _⟩ => by rw [e]; rfl) fun cdv A outer sh H vs Q E hr hsp => ?_
  obtain ⟨R, l, c, t, n, rfl, at_, n0, n9, q⟩ := hsp
  unfold chkDraw at h
  split at h
  · rename_i c0 y1 y1p i1 i1p c1 y2 y2p i2 i2p m apos z cpos b bp y3 y3p bpos iep asp ifp xt e2 e2p y4 y4p i4 i4p e3 e3p r rp
    obtain ⟨h, hr2⟩ := and3 h
    obtain ⟨h, h3⟩ := and3 h
    obtain ⟨h, h2⟩ := and3 h
    obtain ⟨h1, hb⟩ := and3 h
    obtain ⟨h1, hz⟩ := and3 h1
    obtain ⟨h1, hline⟩ := and3 h1
    obtain ⟨h1, hm⟩ := and3 h1
    obtain ⟨h1, hi2⟩ := and3 h1
    obtain ⟨h1, hy2⟩ := and3 h1
    obtain ⟨h1, hc1⟩ := and3 h1
    obtain ⟨h1, hi1⟩ := and3 h1
    obtain ⟨hc0, hy1⟩ := and3 h1
    obtain ⟨hb, hy3⟩ := and3 hb
    obtain ⟨hb, hgb⟩ := and3 hb
    obtain ⟨h2, hxt⟩ := and3 h2
    obtain ⟨h2, hl2⟩ := and3 h2
    obtain ⟨htg, he2⟩ := and3 h2
    obtain ⟨h3, hl3⟩ := and3 h3
    obtain ⟨h3, he3⟩ := and3 h3
    obtain ⟨hy4, hi4⟩ := and3 h3
    obtain rfl := of_decide_eq_true hm
    obtain rfl := of_decide_eq_true hb
    have C := csA_of (wdN (P := P) (w := w) (K := K) (base := base) (k := k) c free) rfl (qual := qual) (f := f) (cdv := cdv) (A := A) (outer := outer) (s := sh) (H := H) (E := E) S hr (fun z => absurd z (by decide)) (fun z => absurd z (by decide))
    have hu := Nat.lt_of_le_of_lt (Nat.add_le_add_left (show 1 ≤ 65 by omega) _) C.ct.un
    have gb := isGl_of C.ct hgb
    have star0 : ∀ {y : Str} {p : Pos} (env : Env) (xs : List Expr), starEach (Expr.Name y p :: xs) env = (false, eval (.Name y p) env) :: starEach xs env := fun _ _ => rfl
    refine ⟨_, pss_cons (ps_if (soundT _ C.ct C.tk c0 hc0).1 (pss_one (ps_dput hu (nameAt_of C.ct hy1) (soundE _ C.ct C.tk i1 hi1)
        (pe_ifExp (soundT _ C.ct C.tk c1 hc1).1 (pe_bm PySem.F.plainAttrs_list PySem.F.slot_list_pop PySem.F.type_list_pop mt_popAt (pe_dget hu (nameAt_of C.ct hy2) (soundE _ C.ct C.tk i2 hi2) (plainIx_of hi2)) (pa_cons (soundE _ C.ct C.tk z hz) pa_nil (star_of hz _ _)) rfl (by rw [star_of hz]; rfl) hline (star_of hz _ _) rfl)
          (pe_call B hr gb.1 gB kB bB .nil (fun pins σ H s e s' I c => passes_call (E := fun _ _ _ => False) C.tk (fun cls d σ H h => False.elim h) pins σ H s e s' I c) (pa_cons (nameAt_of C.ct hy3) pa_nil rfl) gb.2 rfl rfl)) rfl)) pss_nil)
      (pss_cons (ps_asg (soundE _ C.ct C.tk e2 he2) (sound_tg C.ct htg) (by cases xt <;> first | (cases hxt; done) | (cases e2 <;> first | rfl | cases hl2)) (by cases xt <;> first | (cases hxt; done) | (cases e2 <;> rfl)) (tg_each htg _))
      (pss_cons (ps_dput hu (nameAt_of C.ct hy4) (soundE _ C.ct C.tk i4 hi4) (soundE _ C.ct C.tk e3 he3) (by cases e3 <;> first | rfl | cases hl3))
      (pss_one (ps_ret (soundE _ C.ct C.tk r hr2))))), ?_⟩
    have hn : n ≠ 0 := by omega
    have dv : divOk n = true := by unfold divOk; rw [decide_eq_true n0, decide_eq_true n9]; simp
    have four : 4 < sizeLine := by rw [sizeLine_eq]; omega
    have tail : ∀ H', AtA R l c H' (fillA t) → Old R l H H' → tSeq (tAsg (tD (mdN K c) G0 E (.bin .mod (.bi .int (.cons eR .nil)) (.var 1))) (tgT K (.nm 2))) (tSeq (sDPut (tVar 0) (tD (mdN K c) G0 E (.str "rest")) (tD (mdN K c) G0 E (.bin .fdiv (.bi .int (.cons eR .nil)) (.var 1)))) (tRet (tD (mdN K c) G0 E (.var 2))))
        { nx := fun _ H' => Q .non H', rt := Q } (sigD R n none) H' := by
      generalize hf : fillA t = u at q
      intro H' a' o'
      refine ev (d := .int (u.rest.fmod n)) (drawSx a' n (.inl rfl)) (by simp [eR, rhoD, evalE, evalEs, DE.R.bind, ofO, idxD, dctA, keyOk, dgR, biD, op2, hn]) fun H1 v k1 ⟨F1, r1⟩ => ?_
      obtain rfl := int_of r1
      have a1 := a'.keep k1
      have o1 := o'.keep k1
      show (sDPut (tVar 0) (tD (mdN K c) G0 E (.str "rest")) (tD (mdN K c) G0 E (.bin .fdiv (.bi .int (.cons eR .nil)) (.var 1)))) { nx := _, rt := Q } (sigD R n (some (.int (u.rest.fmod n)))) H1
      refine ev (d := .int (u.rest.fdiv n)) (drawSx a1 n (.inr ⟨_, rfl, rfl⟩)) (by simp [eR, rhoD, evalE, evalEs, DE.R.bind, ofO, idxD, dctA, keyOk, dgR, biD, op2, dv]) fun H2 v k2 ⟨F2, r2⟩ => ⟨.ref R, rfl, ?_⟩
      obtain rfl := int_of r2
      have a2 := a1.keep k2
      have o2 := o1.keep k2
      refine ev (d := .str "rest") (drawSx a2 n (.inr ⟨u.rest.fmod n, rfl, rfl⟩)) rfl fun H3 y k3 ⟨F3, r3⟩ => ?_
      obtain rfl := str_of r3
      have a3 := (a2.keep k3).rest_ (u.rest.fdiv n)
      have o3 := (o2.keep k3).put (o := .dK (putK (tapeKvs l c u) kR (.int (u.rest.fdiv n))))
      refine ⟨R, _, rfl, .k (k := kR) (a2.keep k3).hR four, ?_⟩
      refine ev (d := .int (u.rest.fmod n)) (drawSx a3 n (.inr ⟨u.rest.fmod n, rfl, rfl⟩)) rfl fun H4 y k4 ⟨F4, r4⟩ => ?_
      obtain rfl := int_of r4
      exact q H4 (a3.keep k4) (o3.keep k4).k (o3.keep k4).n
    refine evT (b := decide (t.rest = 0)) (drawSx at_ n (.inl rfl)) (by simp [eR, rhoD, evalE, evalEs, DE.R.bind, ofO, idxD, dctA, keyOk, dgR, cmpD, eqD_int]) fun H1 k1 => ?_
    have a1 := at_.keep k1
    have o1 : Old R l H H1 := ⟨fun a x _ _ e => k1.k a x e, k1.n⟩
    by_cases h0 : t.rest = 0
    · rw [if_pos (by simpa using h0)]
      have fin : ∀ H3 u, fillA t = u → (∃ u0 : TA, AtA R l c H3 u0 ∧ u = { u0 with rest := u.rest }) → Old R l H H3 → ∃ a H4, V.ref R = .ref a ∧ DPut H3 a (.str "rest") (.int u.rest) H4 ∧ (tSeq (tAsg (tD (mdN K c) G0 E (.bin .mod (.bi .int (.cons eR .nil)) (.var 1))) (tgT K (.nm 2))) (tSeq (sDPut (tVar 0) (tD (mdN K c) G0 E (.str "rest")) (tD (mdN K c) G0 E (.bin .fdiv (.bi .int (.cons eR .nil)) (.var 1)))) (tRet (tD (mdN K c) G0 E (.var 2)))))
        { nx := fun _ H' => Q .non H', rt := Q } (sigD R n none) H4 := by
        intro H3 u hu ⟨u0, a3, e⟩ o3
        refine ⟨R, _, rfl, .k (k := kR) a3.hR four, tail _ ?_ o3.put⟩
        rw [hu, e]
        exact a3.rest_ u.rest
      cases hl : t.large with
      | cons x xs =>
        refine evT (b := !decide (t.large = [])) (drawSx a1 n (.inl rfl)) (by simp [rhoD, evalE, evalEs, DE.R.bind, ofO, idxD, dctA, keyOk, dgL, cmpD, allFz, eqD_ints0]) fun H2 k2 => ?_
        have a2 := a1.keep k2
        have o2 := o1.keep k2
        rw [if_pos (by rw [hl]; rfl)]
        refine ⟨.ref R, rfl, ?_⟩
        refine ev (d := .str "large") (drawSx a2 n (.inl rfl)) rfl fun H3 y k3 ⟨F3, r3⟩ => ?_
        obtain rfl := str_of r3
        have a3 := a2.keep k3
        have o3 := o2.keep k3
        refine ⟨R, .ref l, rfl, .inl ⟨_, kL, .inl a3.hR, rfl, rfl⟩, .inl ⟨rfl, _, .inl (.inl a3.hL)⟩, ?_⟩
        refine ev (d := .int 0) (drawSx a3 n (.inl rfl)) rfl fun H4 y k4 ⟨F4, r4⟩ => ?_
        obtain rfl := int_of r4
        have a4 := a3.keep k4
        have o4 := o3.keep k4
        refine ⟨l, _, 0, 0, .int x, rfl, rfl, a4.hL, by omega, by omega, by rw [hl]; simp [seqIndex?]; try omega, by rw [hl]; rfl, ?_⟩
        rw [hl]
        have a5 : AtA R l c (upd H4 l (.lst (xs.map V.int))) { t with large := xs } := ⟨by rw [upd_ne (Ne.symm a4.rl)]; exact a4.hR, upd_same, by rw [upd_ne (Ne.symm a4.ne)]; exact a4.hC, a4.ne⟩
        have o5 : Old R l H (upd H4 l (.lst (xs.map V.int))) := ⟨fun a z n m e => by rw [upd_ne m]; exact o4.k a z n m e, o4.n.trans (NoT.upd fun _ z => by cases z)⟩
        refine ⟨.ref R, rfl, ?_⟩
        refine ev (d := .str "rest") (drawSx a5 n (.inl rfl)) rfl fun H5 y k5 ⟨F5, r5⟩ => ?_
        obtain rfl := str_of r5
        exact fin H5 { t with large := xs, rest := x } (by unfold fillA; rw [if_pos h0, hl]) ⟨_, a5.keep k5, rfl⟩ (o5.keep k5)
      | nil =>
        refine evT (b := !decide (t.large = [])) (drawSx a1 n (.inl rfl)) (by simp [rhoD, evalE, evalEs, DE.R.bind, ofO, idxD, dctA, keyOk, dgL, cmpD, allFz, eqD_ints0]) fun H2 k2 => ?_
        have a2 := a1.keep k2
        have o2 := o1.keep k2
        rw [if_neg (by rw [hl]; simp)]
        refine ⟨.ref R, rfl, R, l, c, t, rfl, a2, fun H3 a3 e3 n3 => ?_⟩
        have o3 : Old R l H H3 := ⟨fun a z n m e => e3 a z n (o2.k a z n m e), o2.n.trans n3⟩
        refine ⟨.ref R, rfl, ?_⟩
        refine ev (d := .str "rest") (drawSx a3 n (.inl rfl)) rfl fun H5 y k5 ⟨F5, r5⟩ => ?_
        obtain rfl := str_of r5
        exact fin H5 { t with rest := blendI t, turn := t.turn + 1 } (by unfold fillA; rw [if_pos h0, hl]) ⟨_, a3.keep k5, rfl⟩ (o3.keep k5)
    · rw [if_neg (by simpa using h0)]
      exact tail H1 (by unfold fillA; rw [if_neg h0]; exact a1) o1
  · cases h
end
end DE
set_option maxHeartbeats 4000000
/-! DE15: the tape's defs as data functions. -/
namespace DE
open PySem PySem.Spec PyProof.Rows L2
/-! ### a tape and tables of code objects -/
theorem tabS_loc {H H' : Hp} {P : Addr} {q : Str} (e : H' P = H P) (k : ∀ a φ, H a = some (.ext φ) → H' a = some (.ext φ)) (h : LamX.TabS H P q) : LamX.TabS H' P q := by
  obtain ⟨ps, h1, h2, h3⟩ := h
  refine ⟨ps, by rw [e]; exact h1, h2, fun pos cv hc => ?_⟩
  obtain ⟨c, e1, e2⟩ := h3 pos cv hc
  exact ⟨c, e1, k _ _ e2⟩
/-- the tape, and the tables Ts -/
def tpTab {T : Type} (tp : Tp T) (Ts : List (Addr × Str)) : Tp T where
  root := tp.root
  own := fun a => tp.own a ∨ ∃ q, (a, q) ∈ Ts
  At := fun H t => tp.At H t ∧ LamX.Tabs Ts H ∧ ∀ a ps, H a = some (.tbl ps) → ∃ q, (a, q) ∈ Ts
  loc := fun h k n q => ⟨tp.loc (fun a ha => h a (.inl ha)) k n q.1, fun p hp => tabS_loc (h p.1 (.inr ⟨p.2, hp⟩)) k (q.2.1 p hp), fun a ps e => q.2.2 a ps (n a ps e)⟩
  there := fun q h => by
    rcases h with h | ⟨y, h⟩
    · exact tp.there q.1 h
    · obtain ⟨ps, e, _⟩ := q.2.1 _ h
      rw [e]
      exact fun z => by cases z
section
variable {P : Program} {w : World} {K : PySem.W.Frag} {mg : Str → Option Value} {base : Heap} {k : Nat}
theorem draw_sp {M : Md TA} {R l c : Addr} {Ts : List (Addr × Str)} (hM : M.tp = tpTab (tpA R l c) Ts) {f : Addr} {fd : FuncData} {CX : CXT} (Fn : FnOk P w K mg base CX k f fd ["tape", "size"] spDraw) : FnOk P w K mg base CX k f fd ["tape", "size"] (spD M drawA 2) := by
  refine Fn.imp fun vs H Q E ⟨F0, t, ds, fh, tap, ntp, rl, e, q⟩ => ?_
  match vs, ds, rl, e, q with
  | [_, _], [d1, d2], .cons r1 (.cons r2 .nil), _, q =>
    cases d1 <;> (try exact (show False from q).elim)
    cases d2 <;> (try exact (show False from q).elim)
    rename_i n
    have q1 : PostG M E F0 H (if decide (0 < n) && decide (n.natAbs.log2 < 9000) then DE.R.ok (DE.D.int ((fillA t).rest.fmod n), Kd.fz) { fillA t with rest := (fillA t).rest.fdiv n } else .no) _ := q
    split at q1
    · rename_i hc
      obtain ⟨h1, h2⟩ := and3 hc
      cases r1
      cases r2
      have er : M.tp.root = R := by rw [hM]; rfl
      rw [er]
      have tapT : (tpTab (tpA R l c) Ts).At H t := by rw [hM] at tap; exact tap
      have tap' : AtA R l c H t := tapT.1
      have nR : ∀ ps, H R ≠ some (.tbl ps) := fun ps z => by rw [tap'.hR] at z; cases z
      have nl : ∀ ps, H l ≠ some (.tbl ps) := fun ps z => by rw [tap'.hL] at z; cases z
      have ntp' : ∀ a, ((a = R ∨ a = l ∨ a = c) ∨ ∃ q, (a, q) ∈ Ts) → F0 a = none := by rw [hM] at ntp; exact ntp
      refine ⟨R, l, c, t, n, rfl, tap', of_decide_eq_true h1, of_decide_eq_true h2, fun H' a' o' n' => ?_⟩
      have kT : ∀ P ps, H P = some (.tbl ps) → H' P = some (.tbl ps) := fun P ps e => o' P _ (fun z => nR ps (z ▸ e)) (fun z => nl ps (z ▸ e)) e
      have tab' : (tpTab (tpA R l c) Ts).At H' { fillA t with rest := (fillA t).rest.fdiv n } := by
        refine ⟨a', fun p hp => ?_, fun a ps e => ?_⟩
        · obtain ⟨ps, e, r⟩ := tapT.2.1 p hp
          refine tabS_loc (by rw [e]; exact kT _ _ e) (fun a φ e => o' a _ (fun z => ?_) (fun z => ?_) e) ⟨ps, e, r⟩
          · rw [z, tap'.hR] at e; cases e
          · rw [z, tap'.hL] at e; cases e
        · obtain ⟨qs, e1⟩ := n' a ps e
          exact tapT.2.2 a qs e1
      refine (q1 F0 H' ⟨fun b x z => ?_, by rw [hM]; exact tab', ntp, fun _ _ z => z, fun _ _ z => .inl z, fun b x z nb => ?_, n'⟩).2 _ (Rep.int _)
      · have nb : ¬ (b = R ∨ b = l ∨ b = c) := fun nb => by rw [ntp' b (.inl nb)] at z; cases z
        exact o' b x (fun z => nb (.inl z)) (fun z => nb (.inr (.inl z))) (fh _ _ z)
      · rw [hM] at nb
        exact o' b x (fun z => nb (.inl (.inl z))) (fun z => nb (.inl (.inr (.inl z)))) z
    · exact q1.elim
end
/-! ### _law_begun -/
def absI (i : Int) : Int := if i < 0 then -i else i
def t0 (ns : List Int) : TA := ⟨(ns.filter fun i => decide (10 ^ 18 ≤ absI i)).map fun i => absI i - 10 ^ 18, 0, ns.map absI, 0⟩
def tpE : Tp Unit where
  root := 0
  own := fun _ => False
  At := fun _ _ => True
  loc := fun _ _ _ _ => trivial
  there := fun _ h => h.elim
def mdE (K : PySem.W.Frag) : Md Unit := { K := K, tp := tpE, CA := fun _ => 0, atr := fun _ => "" }
def GE : Pg Unit := { fns := [], cls := [], cons := [], atr := fun _ => "" }
theorem wdE {P : Program} {w : World} {K : PySem.W.Frag} {mg : Str → Option Value} {base : Heap} {k : Nat} (free : ∀ x ∈ bltNames, mg x = none) : Wd GE (mdE K) P w K mg base k :=
  ⟨rfl, free, fun x d h => by simp [GE] at h, fun i fi h e => by simp [GE] at e, fun c y h => by simp [GE] at h, fun c y h => by simp [GE] at h, fun L f i p h => by simp [GE] at h, fun L f i p h => by simp [GE] at h, fun L f i p h => by simp [GE] at h⟩
def eAbs : E := .bi .abs (.cons (.var 2) .nil)
def eBig : E := .bin .pow (.int 10) (.int 18)
def eLarge : E := .lc (.bin .sub eAbs eBig) (.nm 2) (.seq (.var 0)) (.cons (.cmp .ge eAbs eBig) .nil) [("grain", 2)]
def eCells : E := .lc eAbs (.nm 2) (.seq (.var 0)) .nil [("grain", 2)]
def NBg : List Str := ["script", "large", "grain"]
def chkBegun (N : List Str) (sc : Scope) : List Stmt → Bool
  | [s1, .Return (some (.Dict [some k1, some k2, some k3, some k4] [.Name y _, v2, v3, v4] _)) _] => chkS GE N (.asg (.nm 1) true eLarge) sc s1 && chkE GE N (.str "large") sc k1 && nameAt N sc 1 y && chkE GE N (.str "rest") sc k2 && chkE GE N (.int 0) sc v2 &&
    chkE GE N (.str "cells") sc k3 && chkE GE N eCells sc v3 && chkE GE N (.str "turn") sc k4 && chkE GE N (.int 0) sc v4
  | _ => false
theorem lcL_flt {f : D → Unit → R Unit (Option D)} {p : Int → Bool} {g : Int → Int} (hf : ∀ n, f (.int n) () = .ok (if p n then some (.int (g n)) else none) ()) : ∀ ns : List Int, lcL f (ns.map D.int) () = .ok (((ns.filter p).map g).map D.int) ()
  | [] => rfl
  | n :: ns => by
    have ih := lcL_flt hf ns
    simp only [List.map_cons, lcL, hf, R.bind]
    rw [ih]
    cases h : p n <;> simp [h, R.bind]
theorem large_run (s y z : SV) (ns : List Int) : lcL (T := Unit) (fun d t => match bindT (wipeE [s, y, z] [2]) (.nm 2) d with
      | none => .no
      | some ρ1 => (evalC GE (.cons (.cmp .ge eAbs eBig) .nil) ρ1 t).bind fun b t => if b then (evalE GE (.bin .sub eAbs eBig) ρ1 t).bind fun e t => ofO ((fzOf e).map some) t else .ok none t) (ns.map D.int) () = .ok ((t0 ns).large.map D.int) () := by
  refine lcL_flt (p := fun i => decide (10 ^ 18 ≤ absI i)) (g := fun i => absI i - 10 ^ 18) (fun n => ?_) ns
  have e1 : evalC GE (.cons (.cmp .ge eAbs eBig) .nil) [s, y, .fz (.int n)] () = .ok (decide ((10 : Int) ^ 18 ≤ absI n)) () := by
    simp only [evalC, evalE, evalEs, eAbs, eBig, R.bind, ofO, biD, op2, cmpD, ltI, List.getElem?_cons_succ, List.getElem?_cons_zero]
    simp only [show (decide ((0 : Int) ≤ 18) && decide ((18 : Int) ≤ 1000000) && decide (Int.natAbs 10 < 2 ^ 64)) = true from rfl, if_true, Option.map_some]
    show (match D.bl (decide ((10 : Int) ^ 18 ≤ absI n)) with | .bl true => R.ok true () | .bl false => R.ok false () | _ => R.no) = _
    cases decide ((10 : Int) ^ 18 ≤ absI n) <;> rfl
  have e2 : evalE GE (.bin .sub eAbs eBig) [s, y, .fz (.int n)] () = .ok (.int (absI n - 10 ^ 18), .fz) () := by
    simp only [evalE, evalEs, eAbs, eBig, R.bind, ofO, biD, op2, List.getElem?_cons_succ, List.getElem?_cons_zero]
    simp only [show (decide ((0 : Int) ≤ 18) && decide ((18 : Int) ≤ 1000000) && decide (Int.natAbs 10 < 2 ^ 64)) = true from rfl, if_true]
    rfl
  show (R.bind (evalC GE (.cons (.cmp .ge eAbs eBig) .nil) [s, y, .fz (.int n)] ()) _) = _
  rw [e1]
  show (if decide ((10 : Int) ^ 18 ≤ absI n) = true then (evalE GE (.bin .sub eAbs eBig) [s, y, .fz (.int n)] ()).bind _ else _) = _
  rw [e2]
  cases decide ((10 : Int) ^ 18 ≤ absI n) <;> rfl
theorem cells_run (s y z : SV) (ns : List Int) : lcL (T := Unit) (fun d t => match bindT (wipeE [s, y, z] [2]) (.nm 2) d with
      | none => .no
      | some ρ1 => (evalC GE .nil ρ1 t).bind fun b t => if b then (evalE GE eAbs ρ1 t).bind fun e t => ofO ((fzOf e).map some) t else .ok none t) (ns.map D.int) () = .ok ((t0 ns).cells.map D.int) () := by
  have h := lcL_flt (f := fun d t => match bindT (wipeE [s, y, z] [2]) (.nm 2) d with
      | none => .no
      | some ρ1 => (evalC GE .nil ρ1 t).bind fun b t => if b then (evalE GE eAbs ρ1 t).bind fun e t => ofO ((fzOf e).map some) t else .ok none t) (p := fun _ => true) (g := absI) (fun n => by
    simp [bindT, wipeE, setE, evalC, evalE, evalEs, eAbs, R.bind, ofO, biD, fzOf, absI]) ns
  rw [h, List.filter_eq_self.mpr (fun _ _ => rfl)]
  rfl
def spBegun (K : PySem.W.Frag) : Sp := fun vs H Q _ => ∃ (a : Addr) (ns : List Int), vs = [.ref a] ∧ SqL K H a (ns.map V.int) ∧ ns.length ≤ lim ∧
  ∀ R l c H', AtA R l c H' (t0 ns) → H R = none → H l = none → H c = none → Keep H H' → Q (.ref R) H'
theorem okW2 (x y z : SV) (hz : isLock (some z) = false) : okW [x, y, z] [2] = true := by
  show (!isLock (some z) && true) = true
  rw [hz]
  rfl
theorem large_eval (ns : List Int) (y z : SV) (hz : isLock (some z) = false) (hl : ns.length ≤ lim) : evalE GE eLarge [.fz (.scr (ns.map D.int)), y, z] () = .ok (.lst ((t0 ns).large.map D.int), .fr) () := by
  have e : evalE GE eLarge [.fz (.scr (ns.map D.int)), y, z] () = if okW [.fz (.scr (ns.map D.int)), y, z] [2] = true then (lcL (T := Unit) (fun d t => match bindT (wipeE [.fz (.scr (ns.map D.int)), y, z] [2]) (.nm 2) d with
      | none => .no
      | some ρ1 => (evalC GE (.cons (.cmp .ge eAbs eBig) .nil) ρ1 t).bind fun b t => if b then (evalE GE (.bin .sub eAbs eBig) ρ1 t).bind fun e t => ofO ((fzOf e).map some) t else .ok none t) (ns.map D.int) ()).calm.bind (fun r t => if r.length ≤ lim then .ok (.lst r, .fr) t else .no) else .no := rfl
  have h : ((t0 ns).large.map D.int).length ≤ lim := by
    have h2 := List.length_filter_le (fun i => decide (10 ^ 18 ≤ absI i)) ns
    simp only [t0, List.length_map]
    omega
  rw [e, if_pos (okW2 _ _ _ hz), large_run]
  show (if ((t0 ns).large.map D.int).length ≤ lim then _ else _) = _
  rw [if_pos h]
theorem cells_eval (ns : List Int) (y z : SV) (hz : isLock (some z) = false) (hl : ns.length ≤ lim) : evalE GE eCells [.fz (.scr (ns.map D.int)), y, z] () = .ok (.lst ((t0 ns).cells.map D.int), .fr) () := by
  have e : evalE GE eCells [.fz (.scr (ns.map D.int)), y, z] () = if okW [.fz (.scr (ns.map D.int)), y, z] [2] = true then (lcL (T := Unit) (fun d t => match bindT (wipeE [.fz (.scr (ns.map D.int)), y, z] [2]) (.nm 2) d with
      | none => .no
      | some ρ1 => (evalC GE .nil ρ1 t).bind fun b t => if b then (evalE GE eAbs ρ1 t).bind fun e t => ofO ((fzOf e).map some) t else .ok none t) (ns.map D.int) ()).calm.bind (fun r t => if r.length ≤ lim then .ok (.lst r, .fr) t else .no) else .no := rfl
  have h : ((t0 ns).cells.map D.int).length ≤ lim := by simpa [t0] using hl
  rw [e, if_pos (okW2 _ _ _ hz), cells_run]
  show (if ((t0 ns).cells.map D.int).length ≤ lim then _ else _) = _
  rw [if_pos h]
theorem ints_of {T : Type} {M : Md T} {F : Hp} : ∀ {vs : List V} {ns : List Int}, RepL M F vs (ns.map D.int) → vs = ns.map V.int
  | _, [], .nil => rfl
  | _, n :: ns, .cons h l => by
    have e := ints_of l
    cases h
    rw [e]
    rfl
theorem evU {K : PySem.W.Frag} {W : XK} {e : E} {σ : L2.St} {H F : Hp} {ρ : En} {Q : VK} {d : D} (sx : Sx (mdE K) F H σ ρ ()) (he : evalE GE e ρ () = .ok (d, .fz) ())
    (q : ∀ H' v, Keep H H' → (∃ F', Rep (mdE K) F' v d) → Q v H') : tD (mdE K) GE W e σ H Q :=
  ⟨ρ, (), F, sx, by rw [he]; exact fun F' H' s v hv => q H' v ⟨fun a x e => s.hh a x e fun z => z, s.tb⟩ ⟨F', hv⟩⟩
theorem int_ofU {M : Md Unit} {F : Hp} {v : V} {n : Int} (h : Rep M F v (.int n)) : v = .int n := by cases h; rfl
theorem str_ofU {M : Md Unit} {F : Hp} {v : V} {n : Str} (h : Rep M F v (.str n)) : v = .str n := by cases h; rfl
section
variable {P : Program} {w : World} {K : PySem.W.Frag} {mg : Str → Option Value} {base : Heap} {k : Nat}
theorem begun_ok (free : ∀ x ∈ bltNames, mg x = none) {x qual : Str} {params : Arguments} {body : List Stmt} {scope : Scope} {f : Addr} {fd : FuncData} {dvs : List V} {kws : List (Str × V)} (F : FunD K x qual params body scope dvs kws f fd) (S : FnScope NBg ["script"] scope)
    (h : chkBegun NBg scope body = true) : FnOk P w K mg base (CX P w) (k + 1) f fd ["script"] (spBegun K) := by
  refine F.ok S (fun vs H Q E ⟨_, _, e, _⟩ => by rw [e]; rfl) fun cdv A outer sh H vs Q E hr hsp => ?_
  obtain ⟨a, ns, rfl, hS, hl, q⟩ := hsp
  unfold chkBegun at h
  split at h
  · rename_i s1 k1 k2 k3 k4 y yp v2 v3 v4 dp rp
    obtain ⟨h, h9⟩ := and3 h
    obtain ⟨h, h8⟩ := and3 h
    obtain ⟨h, h7⟩ := and3 h
    obtain ⟨h, h6⟩ := and3 h
    obtain ⟨h, h5⟩ := and3 h
    obtain ⟨h, h4⟩ := and3 h
    obtain ⟨h, h3⟩ := and3 h
    obtain ⟨h1, h2⟩ := and3 h
    have C := csA_of (wdE (P := P) (w := w) (K := K) (base := base) (k := k) free) rfl (qual := qual) (f := f) (cdv := cdv) (A := A) (outer := outer) (s := sh) (H := H) (E := E) S hr (fun z => absurd z (by decide)) (fun z => absurd z (by decide))
    refine ⟨_, pss_cons (soundS 0 (.asg (.nm 1) true eLarge) C H H s1 h1) (pss_one (ps_ret (pe_disp (pps_cons (soundE _ C.ct C.tk k1 h2) (nameAt_of C.ct h3) (pps_cons (soundE _ C.ct C.tk k2 h4) (soundE _ C.ct C.tk v2 h5)
      (pps_cons (soundE _ C.ct C.tk k3 h6) (soundE _ C.ct C.tk v3 h7) (pps_cons (soundE _ C.ct C.tk k4 h8) (soundE _ C.ct C.tk v4 h9) pps_nil)))) rfl rfl (by simp) (by simp)))), ?_⟩
    have sx0 : Sx (mdE K) H H (L2.start NBg [.ref a]) [.fz (.scr (ns.map D.int)), .un, .un] () := ⟨fun _ _ z => z, trivial, fun _ z => z.elim, rfl, fun i d e => by
        match i, e with
        | 0, e => cases e; exact ⟨.ref a, rfl, .scr hS (RepL.ints ns)⟩
        | 1, e => cases e
        | 2, e => cases e
        | _ + 3, e => simp at e, fun i d e => by
        match i, e with
        | 0, e => cases e
        | 1, e => cases e
        | 2, e => cases e
        | _ + 3, e => simp at e, fun i j d1 d2 b e => by
        match i, e with
        | 0, e => cases e
        | 1, e => cases e
        | 2, e => cases e
        | _ + 3, e => simp at e, fun i kk e => by
        match i, e with
        | 0, e => cases e
        | 1, e => cases e
        | 2, e => cases e
        | _ + 3, e => simp at e⟩
    refine ⟨_, (), H, ⟨sx0, ⟨fun _ _ z => z, trivial, fun _ z => z.elim, fun _ _ z => z, fun _ _ z => .inl z, fun _ _ z _ => z, fun _ _ z => ⟨_, z⟩⟩, fun b ⟨i, d, e, _⟩ => by
        match i, e with
        | 0, e => cases e
        | 1, e => cases e
        | 2, e => cases e
        | _ + 3, e => simp at e⟩, ?_⟩
    have e1 : execS GE 0 (.asg (.nm 1) true eLarge) [.fz (.scr (ns.map D.int)), .un, .un] () = .ok (.nx [.fz (.scr (ns.map D.int)), .ow (.lst ((t0 ns).large.map D.int)), .un]) () := by
      unfold execS
      rw [large_eval ns _ _ rfl hl]
      rfl
    rw [e1]
    intro F1 H1 σ ff s
    obtain ⟨l, el, nfl, ntl, o, eo, co⟩ := s.sx.ow 1 _ rfl
    have nl : H l = none := s.on l ⟨1, _, rfl, el⟩
    have kp1 : Keep H H1 := ⟨fun a x e => s.bs.hh a x e fun z => z, s.bs.tb⟩
    have sxN : ∀ H', Keep H1 H' → Sx (mdE K) F1 H' σ [.fz (.scr (ns.map D.int)), .un, .un] () := fun H' kp => ⟨fun b x z => kp.k b x (s.sx.fh b x z), trivial, fun _ z => z.elim, s.sx.len, fun i d e => by
        match i, e with
        | 0, e => exact s.sx.fz 0 d e
        | 1, e => cases e
        | 2, e => cases e
        | _ + 3, e => simp at e, fun i d e => by
        match i, e with
        | 0, e => cases e
        | 1, e => cases e
        | 2, e => cases e
        | _ + 3, e => simp at e, fun i j d1 d2 b e => by
        match i, e with
        | 0, e => cases e
        | 1, e => cases e
        | 2, e => cases e
        | _ + 3, e => simp at e, fun i kk e => by
        match i, e with
        | 0, e => cases e
        | 1, e => cases e
        | 2, e => cases e
        | _ + 3, e => simp at e⟩
    intro p np
    have kp2 : Keep H1 (upd H1 p (.dK [])) := ⟨fun b x e => by rw [upd_ne (ne_of_none e np)]; exact e, NoT.upd fun _ z => by cases z⟩
    refine evU (d := .str "large") (sxN _ kp2) rfl fun H3 x3 k3 ⟨_, r3⟩ => ⟨.ref l, el, ?_⟩
    obtain rfl := str_ofU r3
    have kp3 : Keep H1 H3 := ⟨fun b x e => k3.k b x (kp2.k b x e), kp2.n.trans k3.n⟩
    refine evU (d := .str "rest") (sxN _ kp3) rfl fun H4 x4 k4 ⟨_, r4⟩ => ?_
    obtain rfl := str_ofU r4
    have kp4 : Keep H1 H4 := ⟨fun b x e => k4.k b x (kp3.k b x e), kp3.n.trans k4.n⟩
    refine evU (d := .int 0) (sxN _ kp4) rfl fun H5 x5 k5 ⟨_, r5⟩ => ?_
    obtain rfl := int_ofU r5
    have kp5 : Keep H1 H5 := ⟨fun b x e => k5.k b x (kp4.k b x e), kp4.n.trans k5.n⟩
    refine evU (d := .str "cells") (sxN _ kp5) rfl fun H6 x6 k6 ⟨_, r6⟩ => ?_
    obtain rfl := str_ofU r6
    have kp6 : Keep H1 H6 := ⟨fun b x e => k6.k b x (kp5.k b x e), kp5.n.trans k6.n⟩
    refine ⟨_, (), F1, sxN _ kp6, ?_⟩
    rw [cells_eval ns _ _ rfl hl]
    intro F7 H7 s7 v hv
    obtain ⟨c, rfl, ⟨nfc, ntc, o2, eo2, co2⟩, nc⟩ := hv
    have kp7 : Keep H1 H7 := ⟨fun b x e => s7.hh b x (kp6.k b x e) fun z => z, kp6.n.trans s7.tb⟩
    have sx7 : Sx (mdE K) F1 H7 σ [.fz (.scr (ns.map D.int)), .un, .un] () := sxN _ kp7
    refine evU (d := .str "turn") sx7 rfl fun H8 x8 k8 ⟨_, r8⟩ => ?_
    obtain rfl := str_ofU r8
    have kp8 : Keep H1 H8 := ⟨fun b x e => k8.k b x (kp7.k b x e), kp7.n.trans k8.n⟩
    refine evU (d := .int 0) (sxN _ kp8) rfl fun H9 x9 k9 ⟨_, r9⟩ => ?_
    obtain rfl := int_ofU r9
    have kp9 : Keep H1 H9 := ⟨fun b x e => k9.k b x (kp8.k b x e), kp8.n.trans k9.n⟩
    have hp6 : H6 p = some (.dK []) := k6.k _ _ (k5.k _ _ (k4.k _ _ (k3.k _ _ upd_same)))
    have hp9 : H9 p = some (.dK []) := k9.k _ _ (k8.k _ _ (s7.hh _ _ hp6 fun z => z))
    have hl9 : H9 l = some o := kp9.k _ _ eo
    have hc9 : H9 c = some o2 := k9.k _ _ (k8.k _ _ eo2)
    have lp : l ≠ p := fun z => by rw [z, np] at eo; cases eo
    have cp : c ≠ p := fun z => by rw [z, hp6] at nc; cases nc
    have lc : l ≠ c := fun z => by rw [← z, kp6.k _ _ eo] at nc; cases nc
    have was : ∀ {b : Addr} {H' : Hp}, Keep H1 H' → H' b = none → H b = none := fun {b H'} kp e => by
      cases q1 : H b with
      | none => rfl
      | some x => rw [kp.k _ _ (kp1.k _ _ q1)] at e; cases e
    cases co with
    | @lst vs _ lr =>
      cases co2 with
      | @lst ws _ lr2 =>
        obtain rfl := ints_of lr
        obtain rfl := ints_of lr2
        refine ⟨hp9, [(kL, .ref l), (kR, .int 0), (kC, .ref c), (kT, .int 0)], rfl, by simp, ?_⟩
        refine q p l c _ ⟨?_, by rw [upd_ne lp]; exact hl9, by rw [upd_ne cp]; exact hc9, lc⟩ (was ⟨fun _ _ z => z, NoT.refl _⟩ np) nl (was kp6 nc) ⟨fun b x e => ?_, (kp1.n.trans kp9.n).trans (NoT.upd fun _ z => by cases z)⟩
        · rw [upd_same]
          congr 1
        · have e1 := kp1.k _ _ e
          rw [upd_ne (ne_of_none e1 np)]
          exact kp9.k _ _ e1
  · cases h
end
end DE
set_option maxHeartbeats 4000000
/-! DE16: an error caught and kept as a value; _law_caught(lambda: e). -/
namespace DE
open PySem PySem.Spec PyProof.Rows L2

section
variable {X : Cx} {pins : List (Addr × Obj)} {σ : L2.St} {H : Hp} {s : Shared}
/-- an object that is new since the def began, of which nothing is told yet, is told of -/
theorem inv_track (I : Inv X pins σ H s) {a : Addr} {oe : Obj} {vs : Array Value} {φ : Heap → Prop} (ha : s.heap.get? a = some oe) (hd : oe.data = .fields vs) (na : H a = none) (n0 : X.s_0.heap.get? a = none) (nL : a ≠ X.env.locals)
    (hp : ∀ p ∈ X.pn ++ pins, p.1 ≠ a) (hφ : φ s.heap) (hst : ∀ h1 h2 : Heap, φ h1 → (∀ o, h1.get? a = some o → h2.get? a = some o) → φ h2) : Inv X pins σ (upd H a (.ext φ)) s := by
  have old : ∀ {b : Addr} {o : Obj}, X.s_0.heap.get? b = some o → b ≠ a := fun {b o} e z => by rw [z, n0] at e; cases e
  have oth : ∀ {b : Addr} {o : HO}, H b = some o → upd H a (.ext φ) b = some o := fun {b o} e => by rw [upd_ne (ne_of_none e na)]; exact e
  refine ⟨I.ok, I.os, I.bare, ⟨I.base.keep, I.base.slot, fun b o e n x => ?_, I.base.there, fun b xs e => oth (I.base.tups b xs e), fun b o u e => oth (I.base.frzs b o u e), fun b ps e => ?_⟩, I.loc, I.cell, ?_, fun x c e => ?_, fun p q => ?_, fun b o e => ?_, I.len⟩
  · rw [upd_ne (old e)]
    exact I.base.free b o e n x
  · obtain ⟨m, z⟩ := I.base.tbls b ps e
    exact ⟨m, oth z⟩
  · rw [upd_ne (Ne.symm nL)]
    exact I.free
  · have n : c ≠ a := fun z => by
      obtain ⟨v, o, ho, hc⟩ := I.cell x c e
      rw [z, ha] at ho
      cases ho
      rw [hd] at hc
      cases hc
    rw [upd_ne n]
    exact I.freeC x c e
  · obtain ⟨h1, h2, h3⟩ := I.pin p q
    exact ⟨h1, by rw [upd_ne (hp p q)]; exact h2, h3⟩
  · by_cases z : b = a
    · subst z
      rw [upd_same] at e
      cases e
      exact ⟨hφ, ⟨oe, ha⟩, hst⟩
    · rw [upd_ne z] at e
      exact (I.hok b o e).stay (fun _ _ _ q => q) (fun c q => oth q) fun c xs q => oth q
end

/-- what 'except x as n: m = n' wishes of an error of the body: n's slot i, m's slot j -/
def wHold (K : PySem.W.Frag) (c : Value) (len i j : Nat) (D : Ends) : WX := fun cls d σ H =>
  PySem.W.exmOne K cls c = some true ∧ ∃ C, cls = .ref C ∧ ∀ a, H a = none → σ.length = len → D.nx ((σ.set j (some (.ref a))).set i none) (upd H a (ExV C d a))
section
variable {X : Cx} {x n m : Str} {c : Value} {i j : Nat} {body : List Stmt} {np p1 p2 p3 p4 p5 : Pos} {tb : WX → TS}
theorem ps_try_hold (hs : X.stack = X.env :: X.outer) (hf : X.env.frame = some X.env.locals) (hN : X.N.Nodup) (hi : X.N[i]? = some n) (hj : X.N[j]? = some m) (hij : i ≠ j) (hln : X.env.kindOf n = some .local) (hlm : X.env.kindOf m = some .local) (hc : Names X x c) (hx0 : X.ex = [])
    (nd : (n == ("__debug__" : Str)) = false) (ncd : (n == ("__classdict__" : Str)) = false)
    (hb : ∀ (W : WX) (pn : List (Addr × Obj)) (xe : Value → Shared → Prop), Takes (X.tr pn xe) W → PassesOwn (model X.prog X.w) X.A X.env xe → PSs (X.tr pn xe) body (tb W)) :
    PS X (.Try body [.ExceptHandler (some (.Name x np)) (some n) [.Assign [.Name m p3] (.Name n p4) p5] p1] [] [] p2) (fun D σ H => tb (wHold X.K c X.N.length i j D) D σ H) := by
  refine ⟨fun pins s0 σ0 H0 D I0 h0 => ?_⟩
  have okX := I0.ok
  have frX : X.A.frames = some (X.env :: X.outer) := by rw [okX.frames, hs]
  have back : ∀ {σ1 : L2.St} {H1 : Hp} {s1 : Shared} {xe : Value → Shared → Prop} {pn' : List (Addr × Obj)}, Inv (X.tr (X.pn ++ pins) xe) pn' σ1 H1 s1 → Inv X pins σ1 H1 s1 := fun J => J.ofTry okX
  refine wpAny_Try_except (wpAny_mono ((hb (wHold X.K c X.N.length i j D) (X.pn ++ pins) (fun u s1 => wpAny (model X.prog X.w) X.A (noteFrame u X.env) (fun _ s2 => wpAny (model X.prog X.w) X.A (setFlight u none) (fun _ s3 =>
    wpAny (model X.prog X.w) X.A (handleBy u X.env [.ExceptHandler (some (.Name x np)) (some n) [.Assign [.Name m p3] (.Name n p4) p5] p1]) (SP X pins D) X.xe s3) X.xe s2) X.xe s1) (fun u s1 air => ?_) PassesOwn.looking).run [] s0 σ0 H0 D (I0.toTry _) h0) (fun fl s1 e1 => ?_) fun _ _ z => z)
  · obtain ⟨a, B, sI, pI, σ1, H1, cls, d, eu, JI, nB, up, sky, na, hos, hag, hm, go⟩ := air
    subst eu
    have J0 := back JI
    show wpAny _ _ (noteFrame (.ref a) X.env) _ _ _
    have sky1 : Sky B (X.env :: X.outer) a (Zc cls d) X.env.locals s1.heap := hs ▸ sky
    have bA : B.get? a = none := by
      rcases sky1 with ⟨_, z, _⟩ | ⟨_, z, _⟩ | ⟨_, z, _⟩ <;> exact z
    refine Sky.land Zc.steady frX hf sky1 fun g fly upg => ?_
    -- the error stands apart from the frames
    have apart : ∀ {h : Heap} {o : Obj} {vs : Array Value}, h.FunFrames B (X.env :: X.outer) → h.get? a = some o → o.data = .fields vs → a ∉ frs (X.env :: X.outer) := fun ff e q z => by
      obtain ⟨_, o', e', nn⟩ := ff.mem z
      rw [e] at e'
      cases e'
      exact nn _ q
    obtain ⟨og, wg, eg, zg, dg⟩ := fly.there
    have aF := apart fly.2.2.1 eg dg
    have aL : a ≠ X.env.locals := fun z => aF (List.mem_filterMap.mpr ⟨X.env, List.mem_cons_self, by rw [hf, z]⟩)
    have aO : a ∉ X.fs := fun z => by
      obtain ⟨e, he, q⟩ := List.mem_filterMap.mp z
      exact aF (List.mem_filterMap.mpr ⟨e, List.mem_cons_of_mem _ he, q⟩)
    have aI : sI.heap.get? a = none := by
      cases e : sI.heap.get? a with
      | none => rfl
      | some o =>
        have z := nB a o e (by rw [hs]; exact aF)
        rw [bA] at z
        cases z
    have a0 : X.s_0.heap.get? a = none := by
      cases e : X.s_0.heap.get? a with
      | none => rfl
      | some o =>
        obtain ⟨o', z⟩ := J0.base.there a o e (by rw [hx0]; simp)
        rw [aI] at z
        cases z
    have aP : ∀ p ∈ X.pn ++ pins, p.1 ≠ a := fun p hp z => by
      have q := (J0.pin p hp).1
      rw [z, aI] at q
      cases q
    have Jg : Inv X pins σ1 H1 { s1 with heap := g } := J0.landed nB fly.1 (up.trans upg) hos hag
    have Sg := Jg.suite eg dg na aL aO
    refine wpAny_handleBy_cons (codeAny_handlers_test ?_) (by intro q; cases q)
    have look : PySem.W.Looks (model X.prog X.w) g (typeOf (.ref a)) cls := fun _ _ _ _ k q => wpAny_typeOf_ref (k _ _ eg) (by rw [zg.1]; exact q)
    have yes := PySem.W.exm_one (M := model X.prog X.w) Jg.kIn look hm
    have cval : ∀ {Q : Value → Shared → Prop} {E : Value → Shared → Prop}, Q c { s1 with heap := g } → wpAny (model X.prog X.w) (X.A.mark (some (.ref a))) (eval (.Name x np) X.env) Q E { s1 with heap := g } := fun {Q E} q => by
      rcases hc with ⟨k1, k2, k3 | ⟨k3, k4, k5⟩⟩
      · exact ld_glob (X := X.suite a ((a, og) :: (X.pn ++ pins))) Sg k1 k3 q k2
      · exact ld_blt (X := X.suite a ((a, og) :: (X.pn ++ pins))) Sg k1 k3 k4 q k5 k2
    refine cval (yes.here (codeAny_handlers_suite_as (HandSPX.lands_againZ fly fun g2 fly2 up2 => ?_)))
    have J2 : Inv X pins σ1 H1 { s1 with heap := g2 } := J0.landed nB fly2.1 ((up.trans upg).trans up2) hos hag
    obtain ⟨o2, w2, e2, z2, d2⟩ := fly2.there
    have S2 := J2.suite e2 d2 na aL aO
    refine store_ok (X := X.suite a ((a, o2) :: (X.pn ++ pins))) (v := .ref a) S2 hN hi (.inl hln) rfl (fun s3 S3 => ?_) (.inr hln)
    have li : i < (σ1.set i (some (.ref a))).length := by rw [S3.len]; exact (List.getElem?_eq_some_iff.mp hi).1
    have set_ : PSs (X.suite a ((a, o2) :: (X.pn ++ pins))) [.Assign [.Name m p3] (.Name n p4) p5] (tAsg (tVar i) (gName j)) :=
      pss_one (ps_set (i := j) hN hj (.inl hlm) (pe_var (i := i) hi (.inl hln) nd ncd) rfl (.inr hlm))
    have e0 : (σ1.set i (some (V.ref a)))[i]? = some (some (.ref a)) := List.getElem?_set_self (by simpa using li)
    refine wpAny_mono (set_.run [] s3 _ H1 { nx := fun σ6 H6 => σ6 = (σ1.set i (some (.ref a))).set j (some (.ref a)) ∧ H6 = H1, rt := fun _ _ => False } S3 ⟨.ref a, e0, rfl, rfl⟩) (fun fl6 s6 e6 => ?_) (fun _ _ z => False.elim z)
    cases fl6 with
    | next =>
      obtain ⟨σ6, H6, S6, eσ, eH⟩ := e6
      subst eσ eH
      obtain ⟨g6, _⟩ := S6.pin (a, o2) (List.mem_append_left _ List.mem_cons_self)
      have J6 : Inv X pins _ H6 s6 := S6.unsuite okX
      obtain ⟨C, rfl, go⟩ := go
      have T6 : Inv X pins _ (upd H6 a (ExV C d a)) s6 := inv_track J6 g6 d2 na a0 aL aP ⟨o2, w2, g6, z2, d2⟩ (fun h1 h2 ⟨o, w, k1, k2, k3⟩ k => ⟨o, w, k _ k1, k2, k3⟩)
      refine gone_ok T6 hN hi hln fun s7 I7 => ⟨_, _, I7, ?_⟩
      have es : (((σ1.set i (some (V.ref a))).set j (some (.ref a))).set i none) = ((σ1.set j (some (V.ref a))).set i none) := by
        rw [List.set_comm _ _ hij, List.set_set]
      rw [es]
      exact go a na J0.len
    | brk => exact e6.elim (fun _ h => h.elim fun _ h => h.2.elim)
    | cont => exact e6.elim (fun _ h => h.elim fun _ h => h.2.elim)
    | ret u => exact e6.elim (fun _ h => h.elim fun _ h => h.elim fun _ h => h.2.2.elim)
  · cases fl with
    | next =>
      obtain ⟨σ1, H1, J1, q⟩ := e1
      exact wpAny_execs_nil ⟨σ1, H1, back J1, q⟩
    | brk =>
      obtain ⟨σ1, H1, J1, q⟩ := e1
      exact ⟨σ1, H1, back J1, q⟩
    | cont =>
      obtain ⟨σ1, H1, J1, q⟩ := e1
      exact ⟨σ1, H1, back J1, q⟩
    | ret u =>
      obtain ⟨v, σ1, H1, J1, r, q⟩ := e1
      exact ⟨v, σ1, H1, back J1, r, q⟩
end
end DE
set_option maxHeartbeats 4000000
/-! DE17: _law_caught(lambda: e). -/
namespace DE
open PySem PySem.Spec PyProof.Rows L2

/-- H1 without the tables that H has not -/
noncomputable def dropT (H H1 : Hp) : Hp := fun b => open Classical in if (∃ ps, H1 b = some (.tbl ps)) ∧ ¬ (∃ ps, H b = some (.tbl ps)) then none else H1 b
theorem dropT_some {H H1 : Hp} {b : Addr} {o : HO} (h : dropT H H1 b = some o) : H1 b = some o := by
  unfold dropT at h
  split at h
  · cases h
  · exact h
theorem dropT_of {H H1 : Hp} {b : Addr} {o : HO} (h : H1 b = some o) (n : ∀ ps, o ≠ .tbl ps) : dropT H H1 b = some o := by
  unfold dropT
  rw [if_neg (fun z => by
    obtain ⟨⟨ps, e⟩, _⟩ := z
    rw [h] at e
    exact n ps (Option.some.inj e))]
  exact h
theorem dropT_tab {H H1 : Hp} {b : Addr} {qs : Array Value} (h : H b = some (.tbl qs)) : dropT H H1 b = H1 b := by
  unfold dropT
  rw [if_neg (fun z => z.2 ⟨qs, h⟩)]
theorem dropT_none {H H1 : Hp} {b : Addr} (h : H1 b = none) : dropT H H1 b = none := by
  unfold dropT
  split
  · rfl
  · exact h
theorem dropT_noT (H H1 : Hp) : NoT H (dropT H H1) := fun b ps e => by
  unfold dropT at e
  split at e
  · cases e
  · rename_i z
    exact Classical.byContradiction fun n => z ⟨⟨ps, e⟩, n⟩
section
variable {X : Cx} {pins : List (Addr × Obj)} {σ : L2.St} {H H1 : Hp} {s s1 : Shared}
theorem inv_dropT (I : Inv X pins σ H s) (I1 : Inv X pins σ H1 s1) : Inv X pins σ (dropT H H1) s1 := by
  refine ⟨I1.ok, I1.os, I1.bare, ⟨I1.base.keep, I1.base.slot, fun b o e n x => dropT_none (I1.base.free b o e n x), I1.base.there, fun b xs e => dropT_of (I1.base.tups b xs e) (fun _ z => by cases z), fun b o u e => dropT_of (I1.base.frzs b o u e) (fun _ z => by cases z), fun b ps e => ?_⟩, I1.loc, I1.cell, dropT_none I1.free, fun x c e => dropT_none (I1.freeC x c e), fun p q => ?_, fun b o e => ?_, I1.len⟩
  · obtain ⟨m0, z0⟩ := I.base.tbls b ps e
    obtain ⟨m, z⟩ := I1.base.tbls b ps e
    exact ⟨m, by rw [dropT_tab z0]; exact z⟩
  · obtain ⟨h1, h2, h3⟩ := I1.pin p q
    exact ⟨h1, dropT_none h2, h3⟩
  · exact (I1.hok b o (dropT_some e)).stay (fun _ _ _ q => q) (fun c q => dropT_of q fun _ z => by cases z) fun c xs q => dropT_of q fun _ z => by cases z
theorem dropT_ext (e : LamX.ExtN H H1) : LamX.ExtN H (dropT H H1) := fun b o h n => dropT_of (e b o h n) n
theorem dropT_tabs {T : List (Addr × Str)} (h : LamX.Tabs T H) (h1 : LamX.Tabs T H1) : LamX.Tabs T (dropT H H1) := fun p hp => by
  obtain ⟨qs, z, _⟩ := h p hp
  exact tabS_loc (dropT_tab z) (fun a φ e => dropT_of e fun _ z => by cases z) (h1 p hp)
end
/-- a lambda handed on: what the def makes of it; but for the tables all stands as before -/
def tLamN (T : List (Addr × Str)) (TT : (XK → Hp → VK → Prop) → Hp → VK → Prop) (t : XK → TE) : TE := fun σ H Q => LamX.Tabs T H ∧ ∀ H1, LamX.ExtN H H1 → LamX.Tabs T H1 → NoT H H1 → TT (fun E H' Q' => t E σ H' Q') H1 Q
section
variable {X : Cx}
theorem pe_lamN {T : List (Addr × Str)} {TT : (XK → Hp → VK → Prop) → Hp → VK → Prop} {x a : Str} {g c P : Addr} {k : Nat} {pg : Arguments} {bg : List Stmt} {sg : Scope} {dV kV doc pm cdv ct oc : Value} {an od : Option Addr} {osl : Array (Option Value)} {Ng : List Str}
    {params : Arguments} {body : Expr} {scope : Scope} {t : XK → TE} {p lpos pos : Pos} (hg : Gl X x) (gm : X.mg x = some (.ref g)) (kg : PySem.W.keepIn X.K (.ref g) = true)
    (lk : X.K.lookup g = some ⟨oc, od, .func (PySem.W.fnOf x x pg bg sg dV kV doc pm an cdv ct), osl⟩) (ck : PySem.W.codeIn X.K cdv x = true) (bk : L2.Binds X.K (PySem.W.fnOf x x pg bg sg dV kV doc pm an cdv ct) [a] []) (Sg : FnScope Ng [a] sg) (N0 : Ng[0]? = some a) (va : Vis sg a)
    (G : LamX.GivesTo X Ng x sg g cdv bg a (X.env.qual ++ "<lambda>") TT)
    (TB : LamX.TabB X.base X.mg c P) (ec : X.env.code = .ref c) (mT : (P, X.env.qual ++ "<lambda>") ∈ T) (uT : ∀ p ∈ T, p.1 = P → p.2 = X.env.qual ++ "<lambda>") (rm : Room (k + 2) X.A) (L : LamX.LamS X.env.scope scope) (nodf : defaultsOf params X.env = ([], []))
    (nobd : ∀ (q : Str) (cl : List (Str × Addr)) (pm cv ctv : Value), bindArgs (PySem.W.kla_fn "<lambda>" q params body scope cl pm cv ctv) ⟨[], []⟩ = pure [])
    (bd : ∀ (A : Around) (outer : List Env) (s : Shared) (H : Hp) (E : XK) (f c' : Addr), Room k (A.deeper (LamX.lamEnv X scope s.heap.objs.size f c')) → PE (LamX.lamCx X A outer s H E scope f c') body (t E))
    (d1 : (x == ("__debug__" : Str)) = false) (d2 : (a == ("__debug__" : Str)) = false) (d3 : (a == ("__classdict__" : Str)) = false) :
    PE X (.Call (.Name x p) [.Lambda params body scope lpos] [] pos) (tLamN T TT t) := by
  refine ⟨fun pins s σ H Q I ⟨tabs, rd⟩ => wpAny_Call_Name_kw (ld_glob I hg gm (PySem.W.callWith_K (h₀ := X.base) I.ok.mod.kin kg ?_ (by rfl) (by rfl)) d1)⟩
  show wpAny _ _ (spliced ((false, eval (.Lambda params body scope lpos) X.env) :: backTo pos (starEach [] X.env))) _ _ s
  refine Calls.spliced_cons (LamX.lam_make2 I TB ec mT uT tabs nodf (L.has I.ok) fun f c' mv tv H1 s1 J1 en t1 hf nf ff co => ?_)
  have J := inv_dropT I J1
  have co' : dropT H H1 c' = some (LamX.CodeO c' (X.env.qual ++ "<lambda>")) := dropT_of co fun _ z => LamX.codeO_ne _ z
  refine Calls.spliced_nil ⟨J.kIn, wpAny_call (codeAny_mono (LamX.run_ofS (CX := C8.CX0) (Q := Q) (E := C8.E0) (N := Ng) (ps := [a]) (us := [.ref f]) (vs := [.ref f]) lk ck Sg rm J.env0 (bk s1 [.ref f] J.kIn rfl) (.cons rfl .nil) rfl fun rm1 => ?_) fun r s2 e2 => ?_)⟩
  · obtain ⟨u, hu, eu⟩ := G f c' s1 (dropT H H1) Q (fun E H' Q' => t E σ H' Q') (fun W pn xe E q1 q2 tk hW => LamX.pe_act (i := 0) J L hf (dropT_none nf) ff (nobd _ _ _ _ _) tk hW rm1 (fun A outer s H r2 => bd A outer s H E f c' r2) N0 va d2 d3) co' (rd _ (dropT_ext en) (dropT_tabs tabs t1) (dropT_noT _ _))
    exact ⟨u, hu.nox, eu⟩
  · cases r with
    | error e => exact (show False from e2).elim
    | ok fl => cases fl with
      | ret u => exact J.after e2
      | _ => exact False.elim e2
/-- what _law_caught makes of a lambda -/
def TTc (CS : Addr) (K : PySem.W.Frag) : (XK → Hp → VK → Prop) → Hp → VK → Prop := fun tl H Q =>
  tl (fun cls d H' => PySem.W.exmOne K cls (.ref CS) = some true ∧ ∃ C, cls = .ref C ∧ ∀ a, H' a = none → Q (.ref a) (upd H' a (ExV C d a))) H fun _ H' => ∃ v, some (some V.non) = some (some v) ∧ Q v H'
/-- the text of _law_caught -/
def chkCaught : List Stmt → Bool
  | [.Assign [.Name m1 _] (.Constant .none _ _) _, .Try [.Expr (.Call (.Name a _) [] [] _) _] [.ExceptHandler (some (.Name e _)) (some n) [.Assign [.Name m2 _] (.Name n2 _) _] _] [] [] _, .Return (some (.Name m3 _)) _] =>
    decide (m1 = "caught") && decide (a = "work") && decide (e = "CallError") && decide (n = "error") && decide (m2 = "caught") && decide (n2 = "error") && decide (m3 = "caught")
  | _ => false
def NCa : List Str := ["work", "caught", "error"]
theorem caught_gives {x q : Str} {sg : Scope} {g CS : Addr} {cdg : Value} {bg : List Stmt} (hb : chkCaught bg = true) (S : FnScope NCa ["work"] sg) (h1 : sg.names.lookup ("caught" : Str) = some .local) (h2 : sg.names.lookup ("error" : Str) = some .local) (hge : sg.names.lookup ("CallError" : Str) = some .globalImplicit) (hme : X.mg "CallError" = some (.ref CS)) :
    LamX.GivesTo X NCa x sg g cdg bg "work" q (TTc CS X.K) := by
  intro f c' s H Q tl act hc h
  unfold chkCaught at hb
  split at hb
  · rename_i m1 p1 j1 p2 p3 a p4 p5 p6 e p7 n m2 p8 n2 p9 p10 p11 p12 m3 p13 p14
    obtain ⟨hb, e7⟩ := and3 hb
    obtain ⟨hb, e6⟩ := and3 hb
    obtain ⟨hb, e5⟩ := and3 hb
    obtain ⟨hb, e4⟩ := and3 hb
    obtain ⟨hb, e3⟩ := and3 hb
    obtain ⟨e1, e2⟩ := and3 hb
    obtain rfl := of_decide_eq_true e1
    obtain rfl := of_decide_eq_true e2
    obtain rfl := of_decide_eq_true e3
    obtain rfl := of_decide_eq_true e4
    obtain rfl := of_decide_eq_true e5
    obtain rfl := of_decide_eq_true e6
    obtain rfl := of_decide_eq_true e7
    have try_ := ps_try_hold (X := (cxOf C8.CX0 X.prog X.w X.K X.mg X.base NCa x sg g cdg X.A X.stack s H C8.E0).nox) (x := "CallError") (n := "error") (m := "caught") (c := .ref CS) (i := 2) (j := 1) (np := p7) (p1 := p11) (p2 := p12) (p3 := p8) (p4 := p9) (p5 := p10) (body := [.Expr (.Call (.Name "work" p4) [] [] p5) p6])
      (tb := fun W D σ H => ∃ E : XK, (∀ cls d σ' H', E cls d H' → W cls d σ' H') ∧ σ[0]? = some (some (.ref f)) ∧ H c' = some (LamX.CodeO c' q) ∧ tl E H fun _ H' => D.nx σ H')
      rfl rfl S.nd rfl rfl (by decide) h2 h1 ⟨hge, by decide, .inl hme⟩ rfl (by decide) (by decide) fun W pn xe tk _ => ?_
    · refine ⟨_, pss_cons (ps_set (i := 1) S.nd rfl (.inl h1) pe_non rfl (.inr h1)) (pss_cons try_ (pss_one (ps_ret (pe_var (i := 1) rfl (.inl h1))))), ?_⟩
      refine ⟨fun cls d H' => PySem.W.exmOne X.K cls (.ref CS) = some true ∧ ∃ C, cls = .ref C ∧ ∀ a, H' a = none → Q (.ref a) (upd H' a (ExV C d a)), fun cls d σ' H' ⟨k1, C, k2, k3⟩ => ⟨k1, C, k2, fun a na hl => ?_⟩, rfl, hc, h⟩
      match σ', hl with
      | [z0, z1, z2], _ => exact ⟨.ref a, rfl, k3 a na⟩
    · refine ⟨fun pinsZ sZ σZ HZ D I ⟨E, hW, k1, k2, k3⟩ => ?_⟩
      have pe := act W pn xe E p4 p5 tk hW
      exact (pss_one (ps_expr (pos := p6) pe)).run pinsZ sZ σZ HZ D I ⟨k1, k2, k3⟩
  · cases hb
end
end DE
set_option maxHeartbeats 4000000
/-! DE18: where a lambda is handed to _law_caught. -/
namespace DE
open PySem PySem.Spec PyProof.Rows L2

/-- the def _law_caught stands at g -/
structure CaughtAt (K : PySem.W.Frag) (mg : Str → Option Value) (g CS : Addr) : Prop where
  ex : ∃ (pg : Arguments) (bg : List Stmt) (sg : Scope) (dV kV doc pm cdv ct oc : Value) (an od : Option Addr) (osl : Array (Option Value)),
    K.lookup g = some ⟨oc, od, .func (PySem.W.fnOf "_law_caught" "_law_caught" pg bg sg dV kV doc pm an cdv ct), osl⟩ ∧ PySem.W.codeIn K cdv "_law_caught" = true ∧ L2.Binds K (PySem.W.fnOf "_law_caught" "_law_caught" pg bg sg dV kV doc pm an cdv ct) ["work"] [] ∧
    FnScope NCa ["work"] sg ∧ Vis sg "work" ∧ chkCaught bg = true ∧ sg.names.lookup ("caught" : Str) = some .local ∧ sg.names.lookup ("error" : Str) = some .local ∧ sg.names.lookup ("CallError" : Str) = some .globalImplicit
  gm : mg "_law_caught" = some (.ref g)
  kg : PySem.W.keepIn K (.ref g) = true
  gC : mg "CallError" = some (.ref CS)

section
variable {T : Type} {G : Pg T} {M : Md T} {P : Program} {w : World} {K : PySem.W.Frag} {mg : Str → Option Value} {base : Heap} {k : Nat}
theorem noArgs_df {p : Arguments} (h : noArgs p = true) : p = ⟨[], [], none, [], [], none, []⟩ := by
  obtain ⟨a, b, c, d, e, f, g⟩ := p
  unfold noArgs at h
  simp only [Bool.and_eq_true, List.isEmpty_iff, Option.isNone_iff_eq_none] at h
  obtain ⟨⟨⟨⟨⟨⟨rfl, rfl⟩, rfl⟩, rfl⟩, rfl⟩, rfl⟩, rfl⟩ := h
  rfl
/-- a lambda's making leaves all data as they are -/
theorem stp_ext {tp0 : Tp T} {Ts : List (Addr × Str)} (hM : M.tp = tpTab tp0 Ts) (te : ∀ {H H1 : Hp} {t : T}, tp0.At H t → LamX.ExtN H H1 → tp0.At H1 t) {F H H1 : Hp} {t : T} (fh : Same F H) (tap : M.tp.At H t) (ntp : ∀ a, M.tp.own a → F a = none)
    (en : LamX.ExtN H H1) (t1 : LamX.Tabs Ts H1) (nt : NoT H H1) : Stp M F H F H1 t := by
  have tap' : (tpTab tp0 Ts).At H t := by rw [hM] at tap; exact tap
  have ow : ∀ a ps, H a = some (.tbl ps) → M.tp.own a := fun a ps e => by
    rw [hM]
    exact .inr (tap'.2.2 a ps e)
  have nF : ∀ b x, F b = some x → ∀ ps, x ≠ .tbl ps := fun b x e ps z => by
    subst z
    rw [ntp b (ow b ps (fh b _ e))] at e
    cases e
  refine ⟨fun b x e => en b x (fh b x e) (nF b x e), ?_, ntp, fun _ _ q => q, fun _ _ q => .inl q, fun b o e n => en b o e fun ps z => ?_, nt⟩
  · rw [hM]
    refine ⟨te tap'.1 en, t1, fun a ps e => ?_⟩
    obtain ⟨qs, e1⟩ := nt a ps e
    exact tap'.2.2 a qs e1
  · subst z
    exact n (ow b ps e)
/-- THE RULE of _law_caught(lambda: e) -/
theorem lam_ok (W : Wd G M P w K mg base k) {N : List Str} {qual : Str} {scope0 : Scope} {f : Addr} {cdv : Value} {A : Around} {outer : List Env} {s : Shared} {H : Hp} {E : XK} {ps : List Str} (S : FnScope N ps scope0)
    (hr : Room (k + 2) (A.deeper (envOfC qual scope0 s.heap.objs.size f cdv))) {tp0 : Tp T} {Ts : List (Addr × Str)} (hM : M.tp = tpTab tp0 Ts) (te : ∀ {H H1 : Hp} {t : T}, tp0.At H t → LamX.ExtN H H1 → tp0.At H1 t)
    {g CS c Pt : Addr} (Ca : CaughtAt K mg g CS) (TB : LamX.TabB base mg c Pt) (ec : cdv = .ref c) (mT : (Pt, qual ++ ".<locals>." ++ "<lambda>") ∈ Ts) (uT : ∀ p ∈ Ts, p.1 = Pt → p.2 = qual ++ ".<locals>." ++ "<lambda>")
    (xs : ∀ c, c < G.cls.length → PySem.W.exmOne K (.ref (M.CA c)) (.ref CS) = some true) : LamOk G M (cxOf (CX P w) P w K mg base N qual scope0 f cdv A outer s H E) scope0 := by
  intro W0 tk0 hg e params body scope lpos p pos hL hA hb
  have L : LamX.LamS (cxOf (CX P w) P w K mg base N qual scope0 f cdv A outer s H E).env.scope scope := LamX.lamS_by hL
  obtain ⟨pg, bg, sg, dV, kV, doc, pm, cdg, ct, oc, an, od, osl, lk, ck, bk, Sg, va, hbg, n1, n2, n3⟩ := Ca.ex
  obtain rfl := noArgs_df hA
  have pe := pe_lamN (X := cxOf (CX P w) P w K mg base N qual scope0 f cdv A outer s H E) (T := Ts) (TT := TTc CS K) (t := fun E => tD M G E e) (x := "_law_caught") (a := "work") (k := k) (p := p) (lpos := lpos) (pos := pos) (params := ⟨[], [], none, [], [], none, []⟩) (body := body) (scope := scope)
    hg Ca.gm Ca.kg lk ck bk Sg rfl va (caught_gives (X := cxOf (CX P w) P w K mg base N qual scope0 f cdv A outer s H E) hbg Sg n1 n2 n3 Ca.gC) TB ec mT uT hr L rfl (fun _ _ _ _ _ => rfl)
    (fun A' outer' s' H' E' f' c' rm => hb (LamX.lamCx (cxOf (CX P w) P w K mg base N qual scope0 f cdv A outer s H E) A' outer' s' H' E' scope f' c') E' rfl ?_ (takes_of rfl rfl rfl rfl)) (by decide) (by decide) (by decide)
  · refine pe.imp fun σ H0 Q ⟨ρ, t, F, sx, q⟩ => ?_
    have tabs : LamX.Tabs Ts H0 := by
      have := sx.tap
      rw [hM] at this
      exact this.2.1
    refine ⟨tabs, fun H1 en t1 nt => ?_⟩
    have st := stp_ext hM te sx.fh sx.tap sx.ntp en t1 nt
    refine ⟨ρ, t, F, sx.step st, ?_⟩
    unfold evalE at q
    cases ee : evalE G e ρ t with
    | no => rw [ee] at q; exact q.elim
    | ok d t1 =>
      rw [ee] at q
      exact fun F' H' s' v hv => ⟨.non, rfl, q F' H' (st.trans s') .non Rep.non⟩
    | ex c v t1 =>
      rw [ee] at q
      intro F' H' cls d s' ⟨ec1, hv⟩
      have q1 : PostG M W0 F H0 (if c < G.cls.length then DE.R.ok (DE.D.exc c v, Kd.fz) t1 else .no) _ := q
      split at q1
      · rename_i hc
        subst ec1
        refine ⟨xs c hc, M.CA c, rfl, fun a na => ?_⟩
        have s2 := st.trans s'
        cases v with
        | none =>
          have hv : d = none := hv
          subst hv
          exact q1 _ _ (s2.trans (Stp.newF s2.fh s2.tap s2.ntp na)) _ (Rep.exc0 upd_same)
        | some x =>
          obtain ⟨dx, u, rfl, hx, r, nf, ntx, nx⟩ := hv
          have s3 := s2.put hx (.inl nf) ntx (st.was nx)
          have hp : putF F' H' dx dx = some (.xd [(M.atr c, u)]) := by unfold putF; rw [if_pos rfl]; exact hx
          have ne : dx ≠ a := ne_of_none hx na
          have s4 := Stp.newF (M := M) (o := ExV (M.CA c) (some dx) a) s3.fh s3.tap s3.ntp na
          exact q1 _ _ (s3.trans s4) _ (Rep.exc1 upd_same (by rw [upd_ne ne]; exact hp) ((r.same (putF_same hx (.inl nf))).same s4.ff))
      · exact q1.elim
  · have fr : ∀ x, scope.names.lookup x = some .free → scope0.names.lookup x = some .cell ∨ scope0.names.lookup x = some .free := fun x h => L.free _ (PySem.mem_of_lookup h) rfl
    have no : ∀ x, scope.names.lookup x = some .local ∨ scope.names.lookup x = some .cell → False := fun x h => by
      rcases h with h | h
      · exact (L.own _ (PySem.mem_of_lookup h)).1 rfl
      · exact (L.own _ (PySem.mem_of_lookup h)).2 rfl
    have un : (LamX.lamCx (cxOf (CX P w) P w K mg base N qual scope0 f cdv A outer s H E) A' outer' s' H' E' scope f' c').A.units + 65 < cLine := by
      have := rm.un
      show (A'.deeper (LamX.lamEnv (cxOf (CX P w) P w K mg base N qual scope0 f cdv A outer s H E) scope s'.heap.objs.size f' c')).units + 65 < cLine
      omega
    have bs : Bs P w K mg base k (LamX.lamCx (cxOf (CX P w) P w K mg base N qual scope0 f cdv A outer s H E) A' outer' s' H' E' scope f' c') := ⟨rfl, rfl, rfl, rfl, rfl, rm, rfl, S.nd, un⟩
    refine ⟨fun x h => ?_, fun x h => h, fun x h => (no x h).elim, fun x h => h, W.hK, rfl, S.nd, un, W.free, W.con, fun i fi h e => ?_, ⟨P, w, K, mg, base, k, bs, fun i p e X b => W.prm G.lams M.vl i p e X b⟩, ⟨P, w, K, mg, base, k, bs, fun i p e X b => W.prmI G.lams M.vl i p e X b⟩⟩
    · unfold isLoc at h
      show scope.names.lookup x = _ ∨ scope.names.lookup x = _ ∨ scope.names.lookup x = _
      split at h
      · rename_i e; exact .inl e
      · rename_i e; exact .inr (.inl e)
      · rename_i e; exact .inr (.inr e)
      · cases h
    · obtain ⟨nb, f', fd, fg, ok, h1, h2, h3⟩ := W.fns i fi h e
      exact ⟨nb, f', fd, k, fg, ok, rm, h1, h2, h3⟩
end
end DE
set_option maxHeartbeats 4000000
/-! DE9D: rules that HandS lacks: t[::-1] of a tuple. -/
namespace HT
open PySem PySem.Spec PyProof.Rows
section
variable {prog : Program} {w : World} {A : Around} {E : Value → Shared → Prop} {s : Shared}
theorem sliceApplied_rev {sl : Addr} {vs : Value} {n : Nat} {Q : Int × Int × Nat → Shared → Prop} (hs : s.heap.IsSliceOf sl .none .none vs) (ps : IsPart vs (some (-1)))
    (h : Q ((n : Int) - 1, -1, n) s) : wpAny (model prog w) A (Builtin.Slice.sliceApplied (.ref sl) (pure (n : Int))) Q E s := by
  obtain ⟨os, hos, hcs, hds⟩ := id hs
  unfold Builtin.Slice.sliceApplied Builtin.Slice.sliceFields
  refine wpAny_bind (wpAny_bind (wpAny_field hos hds (x := .none) rfl (wpAny_bind (wpAny_field hos hds (x := .none) rfl (wpAny_bind (wpAny_field hos hds (x := vs) rfl (wpAny_pure ?_)))))))
  refine wpAny_bind (slicePart_ ps ?_)
  show wpAny _ _ (if ((-1 : Int) == 0) = true then _ else _) _ _ s
  rw [if_neg (by decide)]
  refine wpAny_bind (slicePart_none (wpAny_bind (slicePart_none (wpAny_bind (wpAny_pure ?_)))))
  have e : Builtin.Slice.sliceAdjust none none (-1) (n : Int) = ((n : Int) - 1, -1) := by
    simp [Builtin.Slice.sliceAdjust]
  have e2 : Builtin.Slice.slicePlaces ((n : Int) - 1) (-1) (-1) = n := by
    simp [Builtin.Slice.slicePlaces]
    try omega
  show wpAny _ _ (match Builtin.Slice.sliceAdjust none none (-1) (n : Int) with | (lo, hi) => pure (lo, (-1 : Int), Builtin.Slice.slicePlaces lo hi (-1))) _ _ s
  rw [e]
  show wpAny _ _ (pure (((n : Int) - 1), (-1 : Int), Builtin.Slice.slicePlaces ((n : Int) - 1) (-1) (-1))) _ _ s
  rw [e2]
  exact wpAny_pure h
theorem fm_congr {α β : Type} {f g : α → Option β} : ∀ {l : List α}, (∀ m ∈ l, f m = g m) → l.filterMap f = l.filterMap g
  | [], _ => rfl
  | x :: xs, h => by
    rw [List.filterMap_cons, List.filterMap_cons, h x (List.mem_cons_self ..), fm_congr fun m hm => h m (List.mem_cons_of_mem _ hm)]
theorem pick_rev (xs : Array Value) : ((List.range xs.size).filterMap fun (m : Nat) => xs[(((xs.size : Int) - 1) + (m : Int) * (-1)).toNat]?).toArray = xs.toList.reverse.toArray := by
  have h : ((List.range xs.size).filterMap fun (m : Nat) => xs[(((xs.size : Int) - 1) + (m : Int) * (-1)).toNat]?) = (((List.range xs.size).map fun k => xs.size - 1 - k).filterMap (xs[·]?)) := by
    rw [List.filterMap_map]
    refine fm_congr fun m hm => ?_
    have hm := List.mem_range.mp hm
    have e : (((xs.size : Int) - 1) + (m : Int) * (-1)).toNat = xs.size - 1 - m := by omega
    show xs[(((xs.size : Int) - 1) + (m : Int) * (-1)).toNat]? = xs[xs.size - 1 - m]?
    rw [e]
  rw [h, PySem.W.krv_range, List.filterMap_reverse, PySem.W.krv_all]
theorem getItem_tuple_rev {t sl : Addr} {items : Array Value} {vs : Value} {Q : Value → Shared → Prop} (ht : IsTup s.heap t items) (hs : s.heap.IsSliceOf sl .none .none vs) (ps : IsPart vs (some (-1)))
    (h : Q (.ref s.heap.objs.size) { s with heap := s.heap.push { cls := .type "tuple", data := .seq items.toList.reverse.toArray } })
    (hsz : items.size ≤ sizeLine) : wpAny (model prog w) A (getItem (.ref t) (.ref sl)) Q E s := by
  have htake : sizeOk (.seq items.toList.reverse.toArray) := by
    show items.toList.reverse.toArray.size ≤ sizeLine
    rw [List.size_toArray, List.length_reverse, Array.length_toList]
    exact hsz
  obtain ⟨os, hos, hcs, hds⟩ := id hs
  have hTs : s.TypeIs (.ref sl) "slice" := ⟨os, hos, hcs⟩
  unfold getItem
  try with_reducible refine wpAny_holding ?_
  first | refine wpAny_bind (wpAny_pure ?_) | skip
  refine wpAny_bind (wpAny_sequenceKey ht.typeIs (by decide) ?_)
  refine wpAny_bind (wpAny_callSpecial?_slot (name := Str.ofString "__getitem__") ht.typeIs PyProof.Rows.slot_tuple_getitem
    (wpAny_call_entry PyProof.Rows.slot_tuple_getitem ht.typeIs entry_tuple_getitem ?_ (args_tuple_getitem _ _)))
  show wpAny _ _ (Builtin.Tuple.tupleItemsOf (.ref t) >>= _) _ _ s
  refine wpAny_bind (tupleItemsOf_ ht ?_)
  refine wpAny_bind (wpAny_typeOf hTs ?_)
  rw [if_pos (by decide)]
  refine wpAny_bind (sliceApplied_rev hs ps ?_)
  have hno : ¬ ((((items.size : Int) - 1) == 0 && (-1 : Int) == 1 && items.size == items.size) = true) := by
    intro q
    rw [Bool.and_eq_true, Bool.and_eq_true] at q
    exact absurd q.1.2 (by decide)
  show wpAny _ _ (if (((items.size : Int) - 1) == 0 && (-1 : Int) == 1 && items.size == items.size) = true then _ else _) _ _ s
  rw [if_neg hno, pick_rev]
  first
    | exact wpAny_bind (m := Builtin.Tuple.tupleExact _) (wpAny_newObj_type (wpAny_pure ⟨_, rfl, wpAny_pure h⟩) htake)
    | exact wpAny_bind (m := Builtin.Tuple.tupleExact _) (wpAny_newObj_type (wpAny_bind (wpAny_pure (wpAny_pure ⟨_, rfl, wpAny_pure h⟩))) htake)
    | exact wpAny_bind (wpAny_bind (m := Builtin.Tuple.tupleExact _) (wpAny_newObj_type (wpAny_pure (wpAny_pure ⟨_, rfl, wpAny_pure h⟩)) htake))
    | exact wpAny_bind (wpAny_bind (m := Builtin.Tuple.tupleExact _) (wpAny_newObj_type (wpAny_pure ⟨_, rfl, wpAny_pure h⟩) htake))
end
end HT
namespace DE
open PySem PySem.Spec PyProof.Rows L2
section
variable {X : Cx}
/-- t[::-1] of a tuple: a new one -/
def tRevT (K : PySem.W.Frag) (te : TE) : TE := fun σ H Q => te σ H fun x H1 => ∃ a xs, x = .ref a ∧ SqT K H1 a xs ∧ ∀ p, H1 p = none → Q (.ref p) (upd H1 p (.tup xs.reverse))
theorem pe_revT {e : Expr} {te : TE} {k : Nat} {p1 p2 p3 pos : Pos} (he : PE X e te) : PE X (.Subscript e (.Slice none none (some (.UnaryOp .USub (.Constant (.int 1) k p1) p2)) p3) pos) (tRevT X.K te) := by
  refine ⟨fun pins s σ H Q I h => ?_⟩
  refine Subscript_ (thn (he.run pins s σ H _ I h) fun v s1 ⟨x, H1, I1, r1, q1⟩ => ?_)
  obtain ⟨a, xs, ex, hx, q⟩ := q1
  subst ex
  cases r1
  have hst : PO X (some (.UnaryOp .USub (.Constant (.int 1) k p1) p2)) (tPart (tUn (rU fun i => .int (-i)) (tC (.int 1)))) := po_some (pe_un un_neg pe_int)
  refine wpAny_Slice (thn (po_none.run pins s1 σ H1 (fun o H2 => o = none ∧ H2 = H1) I1 ⟨rfl, rfl⟩) fun vl s2 ⟨l, H2, I2, pl, el, e2⟩ => ?_)
  subst el e2
  refine thn (po_none.run pins s2 σ H2 (fun o H3 => o = none ∧ H3 = H2) I2 ⟨rfl, rfl⟩) fun vu s3 ⟨u, H3, I3, pu, eu, e3⟩ => ?_
  subst eu e3
  refine thn (hst.run pins s3 σ H3 (fun o H4 => o = some (-1) ∧ H4 = H3) I3 ⟨1, rfl, -1, rfl, rfl, rfl⟩) fun vs s4 ⟨o, H4, I4, ps, eo, e4⟩ => ?_
  subst eo e4
  have I5 : Inv X pins σ H4 { s4 with heap := s4.heap.push { cls := .type "slice", data := .fields #[vl, vu, vs] } } := I4.kept (t' := s4.toks) fun b ob q => Heap.get?_push_of_some _ q
  obtain ⟨its, r, ht, hz⟩ := I5.tuple hx
  have hlen := r.length
  cases pl
  cases pu
  show wpAny (model X.prog X.w) X.A (subscriptTail e (.Slice none none (some (.UnaryOp .USub (.Constant (.int 1) k p1) p2)) p3) (.ref a) (.ref s4.heap.objs.size)) (EP X pins σ Q) X.xe _
  refine tail_any (ops := [.ref a, .ref s4.heap.objs.size]) ht.typeIs (PyProof.Rows.slot_tuple_getitem.lookup) ?_ (by with_unfolding_all rfl)
  refine HT.getItem_tuple_rev ht (Heap.IsSliceOf.new _ .none .none vs) ps ?_ (by rw [List.size_toArray]; omega)
  refine ⟨.ref _, _, I5.laid (t' := s4.toks) (o := .tup xs.reverse) (fun b ob q => Heap.get?_push_of_some _ q) (Nat.le_refl _) ?_, rfl, q _ (I5.hok.fresh (Nat.le_refl _))⟩
  exact ⟨by rw [List.length_reverse]; exact hz, _, r.reverse, IsTup.new _ _⟩
end
end DE
set_option maxHeartbeats 4000000
/-! DE20: operations of the table: the general part; t[::-1], *, repr. -/
namespace DE
open PySem PySem.Spec PyProof.Rows L2

section
variable {T : Type} {G : Pg T} {M : Md T} {X : Cx} {W : XK}
/-- what is known where an operation is done -/
structure Now (M : Md T) (B : Addr → Prop) (H0 F H : Hp) (t : T) : Prop where
  fh : Same F H
  tap : M.tp.At H t
  ntp : ∀ a, M.tp.own a → F a = none
  hn : ∀ p, H p = none → H0 p = none
  hB : ∀ b, B b → H0 b ≠ none
/-- what is to be shown of what an operation gives: from the place where the expression began -/
def PO (M : Md T) (W : XK) (H0 F H : Hp) (t : T) {α : Type} (r : R T α) (K : α → T → Hp → Hp → Prop) : Prop := ∃ F0, Stp M F0 H0 F H t ∧ PostG M W F0 H0 r K
theorem PO.here {H0 F H : Hp} {t : T} {α : Type} {r : R T α} {K : α → T → Hp → Hp → Prop} (h : PO M W H0 F H t r K) : PostG M W F H r K := let ⟨_, s, q⟩ := h; PostG.from_ s q
/-- what an operation of one operand asks -/
def r1 (M : Md T) (W : XK) (f : List Dk → T → R T Dk) : V → Hp → VK → Prop := fun v H Q => ∃ (B : Addr → Prop) (H0 F : Hp) (t : T) (d : Dk), Now M B H0 F H t ∧ VRep (M := M) B H0 F H v d ∧
  PO M W H0 F H t (f [d] t) fun d' t' F' H' => ∀ v', VRep (M := M) B H0 F' H' v' d' → Q v' H'
def r2 (M : Md T) (W : XK) (f : List Dk → T → R T Dk) : R2 := fun x y H Q => ∃ (B : Addr → Prop) (H0 F : Hp) (t : T) (dx dy : Dk), Now M B H0 F H t ∧ VRep (M := M) B H0 F H x dx ∧ VRep (M := M) B H0 F H y dy ∧
  PO M W H0 F H t (f [dx, dy] t) fun d' t' F' H' => ∀ v', VRep (M := M) B H0 F' H' v' d' → Q v' H'
def rN (M : Md T) (W : XK) (f : List Dk → T → R T Dk) : List V → Hp → VK → Prop := fun vs H Q => ∃ (B : Addr → Prop) (H0 F : Hp) (t : T) (ds : List Dk), Now M B H0 F H t ∧ VRepL (M := M) B H0 F H vs ds ∧ FrD vs ds ∧
  PO M W H0 F H t (f ds t) fun d' t' F' H' => ∀ v', VRep (M := M) B H0 F' H' v' d' → Q v' H'
theorem now_of {F H F1 H1 : Hp} {σ : L2.St} {ρ : En} {t t1 : T} (sx : Sx M F H σ ρ t) (s1 : Stp M F H F1 H1 t1) : Now M (Bo σ ρ) H F1 H1 t1 := ⟨s1.fh, s1.tap, s1.ntp, fun p np => s1.was np, sx.bo⟩
theorem tD_1 {f : List Dk → T → R T Dk} {e a : E} (he : ∀ ρ t, evalE G e ρ t = (evalEs G (.cons a .nil) ρ t).bind fun ds t => f ds t) {σ : L2.St} {H : Hp} {Q : VK} (h : tD M G W e σ H Q) : tD M G W a σ H fun v H1 => r1 M W f v H1 Q := by
  obtain ⟨ρ, t, F, sx, q⟩ := h
  rw [he, evalEs] at q
  refine ⟨ρ, t, F, sx, ?_⟩
  cases ee : evalE G a ρ t with
  | no => rw [ee] at q; exact q
  | ex c v t1 => rw [ee] at q; exact q
  | ok d t1 =>
    rw [ee] at q
    intro F1 H1 s1 v hv
    exact ⟨Bo σ ρ, H, F1, t1, d, now_of sx s1, hv, F, s1, (show PostG M W F H (f [d] t1) _ from q)⟩
theorem tD_2 {f : List Dk → T → R T Dk} {e a b : E} (he : ∀ ρ t, evalE G e ρ t = (evalEs G (.cons a (.cons b .nil)) ρ t).bind fun ds t => f ds t) {σ : L2.St} {H : Hp} {Q : VK} (h : tD M G W e σ H Q) : tOp (r2 M W f) (tD M G W a) (tD M G W b) σ H Q := by
  obtain ⟨ρ, t, F, sx, q⟩ := h
  rw [he, evalEs] at q
  refine ⟨ρ, t, F, sx, ?_⟩
  cases ee : evalE G a ρ t with
  | no => rw [ee] at q; exact q
  | ex c v t1 => rw [ee] at q; exact q
  | ok d t1 =>
    rw [ee] at q
    intro F1 H1 s1 v hv
    refine ⟨ρ, t1, F1, sx.step s1, ?_⟩
    have q1 : PostG M W F H ((evalEs G (.cons b .nil) ρ t1).bind fun xs t => f (d :: xs) t) fun d' t' F' H' => ∀ v, VRep (M := M) (Bo σ ρ) H F' H' v d' → Q v H' := by
      cases e2 : evalEs G (.cons b .nil) ρ t1 <;> (simp only [DE.R.bind, e2] at q ⊢; exact q)
    rw [evalEs] at q1
    cases e2 : evalE G b ρ t1 with
    | no => rw [e2] at q1; exact q1
    | ex c v t2 => rw [e2] at q1; exact PostG.from_ s1 q1
    | ok d2 t2 =>
      rw [e2] at q1
      intro F2 H2 s2 w hw
      exact ⟨Bo σ ρ, H, F2, t2, d, d2, now_of sx (s1.trans s2), hv.step s2, hw.old s1, F, s1.trans s2, (show PostG M W F H (f [d, d2] t2) _ from q1)⟩
theorem tD_N {f : List Dk → T → R T Dk} {e : E} {es : Es} (he : ∀ ρ t, evalE G e ρ t = (evalEs G es ρ t).bind fun ds t => f ds t) {σ : L2.St} {H : Hp} {Q : VK} (h : tD M G W e σ H Q) : tDs M G W es σ H fun vs H1 => rN M W f vs H1 Q := by
  obtain ⟨ρ, t, F, sx, q⟩ := h
  rw [he] at q
  refine ⟨ρ, t, F, sx, ?_⟩
  cases ee : evalEs G es ρ t with
  | no => rw [ee] at q; exact q
  | ex c v t1 => rw [ee] at q; exact q
  | ok ds t1 =>
    rw [ee] at q
    intro F1 H1 s1 vs hv hfr
    exact ⟨Bo σ ρ, H, F1, t1, ds, now_of sx s1, hv, hfr, F, s1, (show PostG M W F H (f ds t1) _ from q)⟩

/-! ### a call of a built-in function -/
/-- the text nm(x, ..) -/
def chkCall (nm : Str) (sc : Scope) : Expr → Option (List Expr)
  | .Call (.Name y _) xs [] _ => if decide (y = nm) && isGl sc y && decide (xs ≠ []) then some xs else none
  | _ => none
theorem chkCall_of {nm : Str} {sc : Scope} {x : Expr} {xs : List Expr} (h : chkCall nm sc x = some xs) : ∃ p pos, x = .Call (.Name nm p) xs [] pos ∧ isGl sc nm = true ∧ xs ≠ [] := by
  unfold chkCall at h
  split at h
  · split at h
    · rename_i hc
      obtain ⟨h1, h3⟩ := and3 hc
      obtain ⟨h1, h2⟩ := and3 h1
      obtain rfl := of_decide_eq_true h1
      cases h
      exact ⟨_, _, rfl, h2, of_decide_eq_true h3⟩
    · cases h
  · cases h
theorem isGl_gl {sc : Scope} (hg : ∀ x, sc.names.lookup x = some .globalImplicit → Gl X x) {y : Str} (h : isGl sc y = true) : Gl X y ∧ (y == ("__debug__" : Str)) = false := by
  obtain ⟨h1, h2⟩ := Bool.and_eq_true_iff.mp h
  exact ⟨hg y (of_decide_eq_true h1), by simpa using h2⟩
theorem AllPE.stars {es : Es} {xs : List Expr} (h : AllPE G M X W es xs) : (∀ pos, (backTo pos (starEach xs X.env)).any (·.1) = false) ∧ ∀ e r, xs = e :: r → starEach (e :: r) X.env = (false, eval e X.env) :: starEach r X.env ∧ ∀ pos, (backTo pos (starEach r X.env)).any (·.1) = false := by
  induction h with
  | nil => exact ⟨fun _ => rfl, fun e r z => by cases z⟩
  | @cons e es x xs hp hs hx l ih =>
    refine ⟨fun pos => ?_, fun e' r z => ?_⟩
    · rw [hs]
      show (false || (backTo pos (starEach xs X.env)).any (·.1)) = false
      rw [ih.1 pos]
      rfl
    · cases z
      exact ⟨hs _ _, ih.1⟩
/-- an operation of the table that is a call of a built-in function -/
theorem prim_call {p : Prim T} {nm : Str} {fv : Value} (hp : p.chk = chkCall nm) (hfv : (∃ id, fv = .builtin id) ∨ ∃ t, fv = .type t) (boot : bootBuiltins nm = some fv) (nn : nm ≠ "__name__") (free : X.mg nm = none) (hcr : (p.g = true → X.A.guards = some []) → ∀ W, CallR X fv (rN M W p.f)) : PrimOk G M X p := by
  intro sc hg W tk hgd e es x xs hc hall hpa _ _ he
  rw [hp] at hc
  obtain ⟨p1, pos, rfl, h2, h3⟩ := chkCall_of hc
  obtain ⟨g1, g2⟩ := isGl_gl hg h2
  cases xs with
  | nil => exact absurd rfl h3
  | cons x0 r =>
    obtain ⟨s1, s2⟩ := hall.stars.2 x0 r rfl
    have pe : PE X (.Call (.Name nm p1) (x0 :: r) [] pos) (tCB (rN M W p.f) (tDs M G W es)) := by
      rcases hfv with ⟨id, rfl⟩ | ⟨t, rfl⟩
      · exact pe_callB (hcr hgd W) g1 free boot hpa nn g2 s1 (s2 _)
      · exact pe_callTy (hcr hgd W) g1 free boot hpa nn g2 s1 (s2 _)
    exact pe.imp fun σ H Q h => tD_N he h
/-- an operation of the table that is an operator -/
def chkBin (o : Operator) (_ : Scope) : Expr → Option (List Expr)
  | .BinOp a o' b _ => if decide (o = o') then some [a, b] else none
  | _ => none
theorem prim_bin {p : Prim T} {o : Operator} (hp : p.chk = chkBin o) (hop : ∀ W, OpR X (binaryOp o) (r2 M W p.f)) : PrimOk G M X p := by
  intro sc hg W tk hgd e es x xs hc hall hpa _ _ he
  rw [hp] at hc
  unfold chkBin at hc
  split at hc
  · split at hc
    · rename_i ho
      obtain rfl := of_decide_eq_true ho
      cases hc
      cases hall with
      | cons h1 _ _ l => cases l with
        | cons h2 _ _ l => cases l; exact (pe_op (hop W) h1 h2).imp fun σ H Q h => tD_2 he h
    · cases hc
  · cases hc

/-! ### t[::-1] -/
def chkRev (_ : Scope) : Expr → Option (List Expr)
  | .Subscript e (.Slice none none (some (.UnaryOp .USub (.Constant (.int i) _ _) _)) _) _ => if decide (i = 1) then some [e] else none
  | _ => none
def fRevT : List Dk → T → R T Dk
  | [(.tup xs, _)], t => .ok (.tup xs.reverse, .fz) t
  | _, _ => .no
def fRevL : List Dk → T → R T Dk
  | [(.lst xs, _)], t => .ok (.lst xs.reverse, .fr) t
  | _, _ => .no
def pRevT : Prim T := { chk := chkRev, f := fRevT }
def pRevL : Prim T := { chk := chkRev, f := fRevL }
theorem revT_ok (hK : M.K = X.K) : PrimOk G M X (pRevT (T := T)) := by
  intro sc hg W tk hgd e es x xs hc hall hpa _ _ he
  have hc : chkRev sc x = some xs := hc
  unfold chkRev at hc
  split at hc
  · split at hc
    · rename_i hi
      obtain rfl := of_decide_eq_true hi
      cases hc
      cases hall with
      | cons h1 _ _ l =>
        cases l
        refine (pe_revT h1).imp fun σ H Q h => ?_
        obtain ⟨ρ, t, F, sx, q⟩ := tD_1 he h
        refine ⟨ρ, t, F, sx, q.imp fun d t1 F1 H1 s1 q1 v hv => ?_⟩
        obtain ⟨B, H0, F2, t2, d2, nw, hv2, q2⟩ := q1 v hv
        replace q2 := q2.here
        obtain ⟨d2, k2⟩ := d2
        cases d2 <;> (try exact (show False from q2).elim)
        rename_i ys
        obtain ⟨a, vs, rfl, hs, _, l, _⟩ := hv2.tup nw.fh
        rw [hK] at hs
        refine ⟨a, vs, rfl, hs, fun p np => ?_⟩
        refine (show PostG M W F2 H1 (.ok (D.tup ys.reverse, Kd.fz) t2) _ from q2) _ _ (Stp.newF nw.fh nw.tap nw.ntp np) _ ?_
        exact Rep.tup (F := upd F2 p (.tup vs.reverse)) (.inl (.inl upd_same)) (l.reverse.same (Stp.newF (M := M) (o := .tup vs.reverse) nw.fh nw.tap nw.ntp np).ff)
    · cases hc
  · cases hc
theorem revL_ok : PrimOk G M X (pRevL (T := T)) := by
  intro sc hg W tk hgd e es x xs hc hall hpa _ _ he
  have hc : chkRev sc x = some xs := hc
  unfold chkRev at hc
  split at hc
  · split at hc
    · rename_i hi
      obtain rfl := of_decide_eq_true hi
      cases hc
      cases hall with
      | cons h1 _ _ l =>
        cases l
        refine (pe_revL h1).imp fun σ H Q h => ?_
        obtain ⟨ρ, t, F, sx, q⟩ := tD_1 he h
        refine ⟨ρ, t, F, sx, q.imp fun d t1 F1 H1 s1 q1 v hv => ?_⟩
        obtain ⟨B, H0, F2, t2, d2, nw, hv2, q2⟩ := q1 v hv
        replace q2 := q2.here
        obtain ⟨d2, k2⟩ := d2
        cases d2 <;> (try exact (show False from q2).elim)
        rename_i ys
        obtain ⟨a, vs, rfl, hs, l⟩ := hv2.lst nw.fh
        refine ⟨a, vs, rfl, .inl hs, fun p np => ?_⟩
        refine (show PostG M W F2 H1 (.ok (D.lst ys.reverse, Kd.fr) t2) _ from q2) _ _ (Stp.new_ nw.fh nw.tap nw.ntp np) _ ?_
        exact ⟨p, rfl, Own.new_ nw.fh nw.tap np (.lst l.reverse), nw.hn p np⟩
    · cases hc
  · cases hc

/-! ### repr -/
def fRepr : List Dk → T → R T Dk
  | [(d, _)], t => (match toPy d with
    | some p => if p.showable && !p.hasDict && decide (p.depth ≤ 60) && decide (p.shown.length ≤ lim) then .ok (.str p.shown, .fz) t else .no
    | none => .no)
  | _, _ => .no
def pRepr : Prim T := { chk := chkCall "repr", f := fRepr, g := true }
theorem call_reprD (gd : X.A.guards = some []) (hu : X.A.units + 65 < cLine) : CallR X (.builtin "repr") (fun xs H Q => ∃ x p, xs = [x] ∧ Dp X.K H x p ∧ p.showable = true ∧ p.hasDict = false ∧ p.depth ≤ 60 ∧ p.shown.length ≤ sizeLine ∧ Q (.str p.shown) H) := by
  intro pins s σ H xs us Q I r ⟨x, p, ex, hd, h1, h2, h3, h4, q⟩
  subst ex
  cases r with
  | cons rx rr =>
    cases rr
    obtain ⟨as, rd⟩ := Dp.reads I p x _ hd rx
    cases rd with
    | none => exact PySem.P.repr_of_none ⟨.str "None", H, I.tok _, ⟨_, rfl⟩, q⟩
    | bool b => exact PySem.P.repr_of_bool ⟨.str _, H, I.tok _, ⟨_, rfl⟩, q⟩
    | int i t => exact PySem.P.repr_of_int (of_decide_eq_true h1) ⟨.str _, H, I.tok _, ⟨_, rfl⟩, q⟩
    | str y t => exact PySem.P.repr_of_str ⟨.str _, H, I.tok _, ⟨_, rfl⟩, q⟩ h4
    | list e1 e2 e3 e4 => exact repr_of_reads' (.list e1 e2 e3 e4) h1 (PyData.noDict_hsm h2) gd (by omega) (fun _ _ z => z) (fun h' u tk hk => ⟨.str _, H, I.kept hk, ⟨u, rfl⟩, q⟩) h4
    | tuple e1 e2 e3 e4 => exact repr_of_reads' (.tuple e1 e2 e3 e4) h1 (PyData.noDict_hsm h2) gd (by omega) (fun _ _ z => z) (fun h' u tk hk => ⟨.str _, H, I.kept hk, ⟨u, rfl⟩, q⟩) h4
    | dict e1 e2 e3 e4 e5 => simp [PyData.hasDict] at h2
theorem repr_ok (hK : M.K = X.K) (hu : X.A.units + 65 < cLine) (free : X.mg "repr" = none) : PrimOk G M X (pRepr (T := T)) := by
  refine prim_call (nm := "repr") (fv := .builtin "repr") rfl (.inl ⟨_, rfl⟩) (by decide +kernel) (by decide) free fun gd W => ?_
  intro pins s σ H xs us Q I r ⟨B, H0, F, t, ds, nw, hv, _, q⟩
  replace q := q.here
  match ds, q with
  | [], q => exact q.elim
  | _ :: _ :: _, q => exact (show False from q).elim
  | [(d, k)], q =>
    obtain ⟨v, rfl, h1⟩ := vr1 hv
    have q1 : PostG M W F H (match toPy d with
      | some p => if p.showable && !p.hasDict && decide (p.depth ≤ 60) && decide (p.shown.length ≤ lim) then R.ok (D.str p.shown, Kd.fz) t else .no
      | none => .no) _ := q
    cases ep : toPy d with
    | none => rw [ep] at q1; exact q1.elim
    | some p =>
      rw [ep] at q1
      dsimp only at q1
      split at q1
      · rename_i hc
        obtain ⟨hc, c4⟩ := and3 hc
        obtain ⟨hc, c3⟩ := and3 hc
        obtain ⟨c1, c2⟩ := and3 hc
        have hd := h1.dp nw.fh ep
        rw [hK] at hd
        exact call_reprD (gd rfl) hu pins s σ H _ us Q I r ⟨v, p, rfl, hd, c1, by simpa using c2, of_decide_eq_true c3, of_decide_eq_true c4, q1 F H (.refl nw.fh nw.tap nw.ntp) _ (Rep.str _)⟩
      · exact q1.elim
end
end DE
set_option maxHeartbeats 4000000
/-! DE21: a sequence times an int. -/
namespace L2
open PySem PySem.Spec PyProof.Rows
open AutoSeq1 (wpAny_loadPart')
set_option maxHeartbeats 800000 in
theorem tuple_mulOne (l : Addr) (items : Array Value) (n : Nat) (dd : Option Addr) (sl : Array (Option Value)) (x : Int) (u : Tok) (c0 : (decide (x < -(2 ^ 63)) || decide (x ≥ 2 ^ 63)) = false) (c1 : (items.isEmpty || x == 1) = true) :
    Meets (Builtin.«tuple.__mul__» ⟨[.ref l, .int x u], []⟩) (fun _ R s => s.heap.get? l = some { cls := .type "tuple", dict := dd, data := .seq items n, slots := sl } ∧ R (.ok (.ret (Value.ref l))) s) :=
  .of_wp fun prog w A R s h => by
    obtain ⟨hp, g, d, tk, os⟩ := s
    obtain ⟨hl, h⟩ := h
    have f1 := AutoSeq1.idx_int
    wp_walk using wpAny_loadPart' hl
    refine wpAny_ite_false (decide_eq_false (by rw [c0]; exact Bool.false_ne_true)) ?_
    wp_walk using wpAny_loadPart' hl
    exact ⟨_, rfl, h⟩
section
variable {X : Cx}
/-- t * 1: the tuple itself -/
theorem op_repT1 : OpR X (binaryOp .Mult) (fun x y H Q => ∃ l xs, x = .ref l ∧ y = .int 1 ∧ SqT X.K H l xs ∧ Q (.ref l) H) := by
  intro pins s σ H x y v u Q I rx ry h
  obtain ⟨l, xs, rfl, rfl, hT, q⟩ := h
  cases rx
  obtain ⟨t, rfl⟩ := ry
  obtain ⟨its, r, ⟨⟨cls, dd, data, sl⟩, ho, hc, n, hd⟩, hs⟩ := I.tuple hT
  simp only at hc hd
  subst hc hd
  refine wpAny_binaryOp_repeat_ref (T := "tuple") (U := "int") (by decide) ⟨_, ho, rfl⟩ (fun s' => typeIs_int s' 1 t) noFill_tuple_mul F.fills_int_mul F.slot_int_rmul repeat_tuple F.slot_int_index.lookup
    (call_meets F.slot_int_rmul (typeIs_int s 1 t) F.entry_int_rmul (F.args_int_rmul_2 _ _) (int_rmul_tuple 1 t l its.toArray n dd sl)
      ⟨ho, rfl, ⟨_, ho, rfl⟩, call_meets F.slot_tuple_mul ⟨_, ho, rfl⟩ F.entry_tuple_mul (F.args_tuple_mul_2 _ _) (tuple_mulOne l its.toArray n dd sl 1 t (by decide) (by simp)) ⟨ho, ?_⟩⟩)
  exact ⟨.ref l, H, I.tok _, rfl, q⟩
end
end L2
namespace DE
open PySem PySem.Spec PyProof.Rows L2
section
variable {T : Type} {G : Pg T} {M : Md T} {X : Cx} {W : XK}
theorem RepL.flat {F : Hp} {vs : List V} {ds : List D} (l : RepL M F vs ds) : ∀ n, RepL M F (List.replicate n vs).flatten (List.replicate n ds).flatten
  | 0 => .nil
  | n + 1 => by
    rw [List.replicate_succ, List.replicate_succ, List.flatten_cons, List.flatten_cons]
    exact l.append (RepL.flat l n)
def mulOk (k : Int) (n : Nat) : Bool := decide (0 ≤ k) && decide (k ≤ 1000) && decide (n ≤ 1000)
def fMul : List Dk → T → R T Dk
  | [(.tup xs, _), (.int k, _)], t => if decide (k = 1) then .ok (.tup xs, .fz) t else if decide (2 ≤ k) && mulOk k xs.length && !xs.isEmpty then .ok (.tup (List.replicate k.toNat xs).flatten, .fz) t else .no
  | [(.lst xs, .fr), (.int k, _)], t => if mulOk k xs.length then .ok (.lst (List.replicate k.toNat xs).flatten, .fr) t else .no
  | [(.str x, _), (.int k, _)], t => if mulOk k x.length then .ok (.str (Txt.mul x k), .fz) t else .no
  | _, _ => .no
def pMul : Prim T := { chk := chkBin .Mult, f := fMul }
theorem mulOk_iff {k : Int} {n : Nat} (h : mulOk k n = true) : 0 ≤ k ∧ k ≤ 1000 ∧ n ≤ 1000 := by
  obtain ⟨h1, h3⟩ := and3 h
  obtain ⟨h1, h2⟩ := and3 h1
  exact ⟨of_decide_eq_true h1, of_decide_eq_true h2, of_decide_eq_true h3⟩
theorem mul_len {k : Int} {n : Nat} (h : mulOk k n = true) : n * k.toNat ≤ sizeLine := by
  obtain ⟨h1, h2, h3⟩ := mulOk_iff h
  have a1 : n * k.toNat ≤ 1000 * 1000 := Nat.mul_le_mul h3 (by omega)
  rw [sizeLine_eq]
  omega
theorem mul_ok (hK : M.K = X.K) : PrimOk G M X (pMul (T := T)) := by
  refine prim_bin (o := .Mult) rfl fun W => ?_
  intro pins s σ H x y v u Q I rx ry ⟨B, H0, F, t, ⟨dx, kx⟩, ⟨dy, ky⟩, nw, hx, hy, q⟩
  replace q := q.here
  cases dx <;> (try exact (show False from q).elim)
  case tup xs =>
    cases dy <;> (try exact (show False from q).elim)
    rename_i k
    obtain ⟨rfl, _⟩ := hy.int
    obtain ⟨a, vs, rfl, hs, hf, l, _⟩ := hx.tup nw.fh
    rw [hK] at hs
    have q1 : PostG M W F H (if decide (k = 1) then R.ok (D.tup xs, Kd.fz) t else if decide (2 ≤ k) && mulOk k xs.length && !xs.isEmpty then R.ok (D.tup (List.replicate k.toNat xs).flatten, Kd.fz) t else .no) _ := q
    split at q1
    · rename_i h1
      obtain rfl : k = 1 := of_decide_eq_true h1
      exact op_repT1 pins s σ H _ _ v u Q I rx ry ⟨a, vs, rfl, rfl, hs, q1 F H (.refl nw.fh nw.tap nw.ntp) _ (Rep.tup hf l)⟩
    · split at q1
      · rename_i h1
        obtain ⟨h1, h3⟩ := and3 h1
        obtain ⟨h1, h2⟩ := and3 h1
        obtain ⟨_, k2, k3⟩ := mulOk_iff h2
        refine op_repT pins s σ H _ _ v u Q I rx ry ⟨a, k, vs, rfl, rfl, hs, fun e => ?_, of_decide_eq_true h1, k2, by rw [l.length]; exact k3, fun p np => ?_⟩
        · subst e
          cases l
          simp at h3
        · refine q1 _ _ (Stp.newF nw.fh nw.tap nw.ntp np) _ ?_
          exact Rep.tup (F := L2.upd F p (.tup (List.replicate k.toNat vs).flatten)) (.inl (.inl upd_same)) ((l.flat k.toNat).same (Stp.newF (M := M) (o := .tup (List.replicate k.toNat vs).flatten) nw.fh nw.tap nw.ntp np).ff)
      · exact q1.elim
  case lst xs =>
    cases kx <;> (try exact (show False from q).elim)
    cases dy <;> (try exact (show False from q).elim)
    rename_i k
    obtain ⟨rfl, _⟩ := hy.int
    obtain ⟨a, rfl, ⟨nf, nt, o, eo, c⟩, na⟩ := hx
    cases c with
    | @lst vs _ l =>
      have q1 : PostG M W F H (if mulOk k xs.length then R.ok (D.lst (List.replicate k.toNat xs).flatten, Kd.fr) t else .no) _ := q
      split at q1
      · rename_i h1
        obtain ⟨k1, k2, k3⟩ := mulOk_iff h1
        refine op_rep pins s σ H _ _ v u Q I rx ry ⟨a, k, vs, rfl, rfl, eo, by omega, by omega, by rw [l.length]; exact mul_len h1, fun p np => ?_⟩
        refine q1 _ _ (Stp.new_ nw.fh nw.tap nw.ntp np) _ ?_
        exact ⟨p, rfl, Own.new_ nw.fh nw.tap np (.lst (l.flat k.toNat)), nw.hn p np⟩
      · exact q1.elim
  case str z =>
    cases dy <;> (try exact (show False from q).elim)
    rename_i k
    obtain ⟨rfl, _⟩ := hx.str
    obtain ⟨rfl, _⟩ := hy.int
    have q1 : PostG M W F H (if mulOk k z.length then R.ok (D.str (Txt.mul z k), Kd.fz) t else .no) _ := q
    split at q1
    · rename_i h1
      obtain ⟨k1, k2, k3⟩ := mulOk_iff h1
      obtain ⟨tk, rfl⟩ := rx
      obtain ⟨tu, rfl⟩ := ry
      have hm := mul_len h1
      refine SB.mul ⟨by rw [decide_eq_false (by omega), decide_eq_false (by omega)]; rfl, fun h2 _ => ?_, fun _ _ => ?_⟩ fun t' tk' => ⟨.str (Txt.mul z k), H, I.tok _, ⟨t', rfl⟩, q1 F H (.refl nw.fh nw.tap nw.ntp) _ (Rep.str _)⟩
      · have hz : ((z.length : Nat) : Int) ≤ 1000 := by omega
        have hd : (1000 : Int) ≤ (2 ^ 63 - 1) / k := Int.le_ediv_of_mul_le (by omega) (by omega)
        omega
      · show decide (z.length * k.toNat > sizeLine) = false
        exact decide_eq_false (by omega)
    · exact q1.elim
end
end DE
set_option maxHeartbeats 4000000
/-! DE22: isinstance of own classes, attributes of errors. -/
namespace DE
open PySem PySem.Spec PyProof.Rows L2

section
variable {T : Type} {G : Pg T} {M : Md T} {X : Cx} {W : XK}
/-- isinstance(x, C): from the data -/
structure IsiOk (K : PySem.W.Frag) (CA : Nat → Addr) (C : Addr) (sub : D → Option Bool) : Prop where
  pl : ∀ d tn b, tyOfD d = some tn → sub d = some b → PySem.W.kitOne K (.type tn) (.ref C) = some b
  ex : ∀ c v b, sub (.exc c v) = some b → ExcC K (CA c) ∧ PySem.W.kitOne K (.ref (CA c)) (.ref C) = some b
  ins : ∀ c fs b, sub (.ins c fs) = some b → (Cls K (CA c) ∧ PySem.W.findIn K (.ref (CA c)) "__class__" = some (some (.builtin "object.__class__")) ∧ PySem.W.specialIn K (.builtin "object.__class__") "__get__" = some (some (.builtin "getset_descriptor.__get__")) ∧
    PySem.W.takesIn K (.builtin "object.__class__") = some true ∧ PySem.W.mroIn K (CA c) (.type "object") = some true) ∧ PySem.W.kitOne K (.ref (CA c)) (.ref C) = some b
  oth : ∀ d b, sub d = some b → (tyOfD d).isSome = true ∨ (∃ c v, d = .exc c v) ∨ ∃ c fs, d = .ins c fs
/-- an error's object -/
theorem exv_at {pins : List (Addr × Obj)} {σ : L2.St} {H : Hp} {s : Shared} (I : Inv X pins σ H s) {C : Addr} {d : Option Addr} {a : Addr} (h : H a = some (ExV C d a)) : ∃ oe vs, s.heap.get? a = some oe ∧ oe.cls = .ref C ∧ oe.dict = d ∧ oe.data = .fields vs := by
  obtain ⟨⟨oe, vs, e, ⟨z1, z2⟩, e2⟩, _⟩ := I.hok a _ h
  exact ⟨oe, vs, e, z1, z2, e2⟩
theorem exc_inst {pins : List (Addr × Obj)} {σ : L2.St} {F H : Hp} {s : Shared} (I : Inv X pins σ H s) (fh : Same F H) {v : V} {c : Nat} {x : Option D} (h : Rep M F v (.exc c x)) : ∃ a ox od, v = .ref a ∧ PySem.W.InstAt s.heap a ox (M.CA c) od := by
  have no : ∀ {ox : Obj} {vs : Array Value}, ox.data = .fields vs → PySem.W.notCls ox = true := fun e => by unfold PySem.W.notCls; rw [e] <;> rfl
  cases h with
  | exc0 h =>
    obtain ⟨oe, vs, e1, e2, e3, e4⟩ := exv_at I (fh _ _ h)
    exact ⟨_, oe, none, rfl, e1, e2, no e4, by rw [e3]; trivial⟩
  | @exc1 a dx c v d h h2 l =>
    obtain ⟨oe, vs, e1, e2, e3, e4⟩ := exv_at I (fh _ _ h)
    obtain ⟨mA, ⟨o, es, ep, ho, _⟩, _⟩ := I.hok dx _ (fh _ _ h2)
    exact ⟨_, oe, some o, rfl, e1, e2, no e4, by rw [e3]; exact ho⟩
def fIsi (sub : D → Option Bool) : List Dk → T → R T Dk
  | [(d, _)], t => ofO ((sub d).map fun b => (.bl b, .fz)) t
  | _, _ => .no
def chkIsi (nm : Str) (sc : Scope) : Expr → Option (List Expr)
  | .Call (.Name y _) [xa, .Name z _] [] _ => if decide (y = "isinstance") && decide (z = nm) && isGl sc y && isGl sc z then some [xa] else none
  | _ => none
def pIsi (nm : Str) (sub : D → Option Bool) : Prim T := { chk := chkIsi nm, f := fIsi sub }
theorem call_isiO (hK : M.K = X.K) {C : Addr} {sub : D → Option Bool} (ok : IsiOk X.K M.CA C sub) : CallR X (.builtin "isinstance") (fun xs H Q => ∃ x, xs = [x, .ref C] ∧ r1 M W (fIsi sub) x H Q) := by
  intro pins s σ H xs us Q I r ⟨x, ex, B, H0, F, t, ⟨d, k⟩, nw, hv, q⟩
  subst ex
  replace q := q.here
  have q1 : PostG M W F H (ofO ((sub d).map fun b => (D.bl b, Kd.fz)) t) _ := q
  obtain ⟨db, e1, q2⟩ := PostG.ofO q1
  obtain ⟨b, e2, rfl⟩ := Option.map_eq_some_iff.mp e1
  have q3 := q2 F H (.refl nw.fh nw.tap nw.ntp) (.bl b) (Rep.bl b)
  obtain ⟨u1, u2, rfl, rx, rc⟩ := vals2 r
  obtain rfl : u2 = Value.ref C := rc
  rcases ok.oth d b e2 with h1 | ⟨c, v, rfl⟩ | ⟨c, fs, rfl⟩
  · obtain ⟨tn, h1⟩ := Option.isSome_iff_exists.mp h1
    exact call_isi pins s σ H _ _ Q I (.cons rx (.cons (show RelV (.ref C) (.ref C) from rfl) .nil)) ⟨x, .ref C, .type tn, .ref C, b, rfl, .own C, VRep.tyX hK nw.fh hv tn h1, ok.pl d tn b h1 e2, q3⟩
  · have hr : Rep M F x (.exc c v) := by
      cases k with
      | fz => exact hv
      | fr => obtain ⟨a, e, ⟨_, _, o, _, cc⟩, _⟩ := hv; cases cc
      | br => obtain ⟨a, e, ⟨_, _, o, _, cc⟩, _⟩ := hv; cases cc
    obtain ⟨a, ox, od, rfl, J⟩ := exc_inst I nw.fh hr
    obtain rfl : u1 = Value.ref a := rx
    obtain ⟨E1, E2⟩ := ok.ex c v b e2
    have hcl : (PySem.W.clsIn X.K (M.CA c)).isSome = true := by
      obtain ⟨cd, hc, _⟩ := PySem.W.any_some E1.hd
      rw [hc]; rfl
    exact PySem.W.kia_one (PySem.W.kitx_exc hcl E1.hg E1.hk E1.hs E1.ha E1.hn E1.ht E1.hm) I.kIn J E2 (fun z => nomatch z) fun tk => ⟨.bl b, H, I.tok tk, rfl, q3⟩
  · obtain ⟨⟨E1, E2, E3, E4, E5⟩, E6⟩ := ok.ins c fs b e2
    have hr : ∃ a dx gs, x = .ref a ∧ H a = some (.ins (M.CA c) dx gs) := by
      rcases hv.rep nw.fh with hr | ⟨a, o, e, q, cc⟩
      · cases hr with
        | ins h l => exact ⟨_, _, _, rfl, nw.fh _ _ h⟩
      · cases cc with
        | ins l => exact ⟨a, _, _, e, q⟩
    obtain ⟨a, dx, gs, rfl, ha⟩ := hr
    exact call_isi pins s σ H _ _ Q I (.cons rx (.cons (show RelV (.ref C) (.ref C) from rfl) .nil)) ⟨.ref a, .ref C, .ref (M.CA c), .ref C, b, rfl, .own C, .base (.ins ha E1 E2 E3 E4 E5), E6, q3⟩
theorem chkIsi_of {nm : Str} {sc : Scope} {x : Expr} {xs : List Expr} (h : chkIsi nm sc x = some xs) : ∃ p xa p2 pos, x = .Call (.Name "isinstance" p) [xa, .Name nm p2] [] pos ∧ xs = [xa] ∧ isGl sc "isinstance" = true ∧ isGl sc nm = true := by
  unfold chkIsi at h
  split at h
  · rename_i y p xa z p2 pos
    by_cases hi : (decide (y = "isinstance") && decide (z = nm) && isGl sc y && isGl sc z) = true
    · rw [if_pos hi] at h
      obtain ⟨hi, h4⟩ := and3 hi
      obtain ⟨hi, h3⟩ := and3 hi
      obtain ⟨h1, h2⟩ := and3 hi
      obtain rfl := of_decide_eq_true h1
      obtain rfl := of_decide_eq_true h2
      exact ⟨p, xa, p2, pos, rfl, (Option.some.inj h).symm, h3, h4⟩
    · rw [if_neg hi] at h
      cases h
  · cases h
theorem isi_ok (hK : M.K = X.K) {C : Addr} {nm : Str} {sub : D → Option Bool} (ok : IsiOk X.K M.CA C sub) (gm : X.mg nm = some (.ref C)) (free : X.mg "isinstance" = none) : PrimOk G M X (pIsi (T := T) nm sub) := by
  intro sc hg W tk hgd e es x xs hc hall hpa _ _ he
  obtain ⟨p, xa, p2, pos, rfl, rfl, h3, h4⟩ := chkIsi_of hc
  obtain ⟨g1, d1⟩ := isGl_gl hg h3
  obtain ⟨g2, d2⟩ := isGl_gl hg h4
  cases hall with
  | @cons e0 es0 xa _ h1 hst _ l =>
    cases l
    refine (pe_callB (call_isiO (W := W) hK ok) g1 free (by decide +kernel) (pa_cons h1 (pa_cons (pe_glob (v := .ref C) g2 gm rfl d2) pa_nil) (hst _ _)) (by decide) d1 (hst _ _) rfl).imp fun σ H Q h => ?_
    obtain ⟨ρ, t, F, sx, q⟩ := tD_1 he h
    exact ⟨ρ, t, F, sx, q.imp fun d t1 F1 H1 s1 q1 v hv => ⟨v, rfl, q1 v hv⟩⟩

/-! ### err.f -/
def fXf (nm : Str) (atr : Nat → Str) (n : Nat) : List Dk → T → R T Dk
  | [(.exc c (some d), _)], t => if decide (c < n) && decide (atr c = nm) then .ok (d, .fz) t else .no
  | _, _ => .no
/-- a place that is read but for super().f -/
def noCall : Expr → Bool
  | .Call _ [] [] _ => false
  | _ => true
def chkFld (nm : Str) (_ : Scope) : Expr → Option (List Expr)
  | .Attribute e n _ => if decide (n = nm) && noCall e then some [e] else none
  | _ => none
theorem chkFld_of {nm : Str} {sc : Scope} {x : Expr} {xs : List Expr} (h : chkFld nm sc x = some xs) : ∃ e pos, x = .Attribute e nm pos ∧ noCall e = true ∧ xs = [e] := by
  unfold chkFld at h
  split at h
  · rename_i e n pos
    by_cases hi : (decide (n = nm) && noCall e) = true
    · rw [if_pos hi] at h
      obtain ⟨h1, h2⟩ := and3 hi
      obtain rfl := of_decide_eq_true h1
      exact ⟨e, pos, rfl, h2, (Option.some.inj h).symm⟩
    · rw [if_neg hi] at h
      cases h
  · cases h
/-- what a class of errors must have for its instances' attribute nm to be read -/
structure XfOk (K : PySem.W.Frag) (C : Addr) (nm : Str) : Prop where
  x : XfC K C
  no : PySem.W.findIn K (.ref C) nm = some none
def pXf (nm : Str) (atr : Nat → Str) (n : Nat) : Prim T := { chk := chkFld nm, f := fXf nm atr n }
theorem base_of {e : Expr} {n : Str} {env : Env} {w : Sem Value} (h : noCall e = true) : attributeBase e n env w = w := by
  cases e with
  | Call f args kws pos => cases args <;> cases kws <;> first | (cases h; done) | (cases f <;> rfl)
  | _ => rfl
theorem pe_xfV {nm : Str} {xa : Expr} {pos : Pos} {ta : TE} {n : Nat} (hE : ∀ c, c < n → M.atr c = nm → XfOk X.K (M.CA c) nm) (he : PE X xa ta) (hb : attributeBase xa nm X.env (eval xa X.env) = eval xa X.env) :
    PE X (.Attribute xa nm pos) (fun σ H Q => ta σ H fun v H1 => r1 M W (fXf nm M.atr n) v H1 Q) := by
  refine ⟨fun pins s σ H Q I h => attr_of hb (thn (he.run pins s σ H _ I h) fun u s1 ⟨v, H1, J, rv, B, H0, F, t, ⟨d, k⟩, nw, hv, q⟩ => ?_)⟩
  replace q := q.here
  cases d <;> (try exact (show False from q).elim)
  rename_i c o
  cases o with
  | none => exact (show False from q).elim
  | some d =>
    have q1 : PostG M W F H1 (if decide (c < n) && decide (M.atr c = nm) then R.ok (d, Kd.fz) t else .no) _ := q
    split at q1
    · rename_i hc
      obtain ⟨h1, h2⟩ := and3 hc
      have E := hE c (of_decide_eq_true h1) (of_decide_eq_true h2)
      have hr : Rep M F v (.exc c (some d)) := by
        cases k with
        | fz => exact hv
        | fr => obtain ⟨a, e, ⟨_, _, o, _, cc⟩, _⟩ := hv; cases cc
        | br => obtain ⟨a, e, ⟨_, _, o, _, cc⟩, _⟩ := hv; cases cc
      cases hr with
      | @exc1 a dx c z d h5 h6 l =>
        obtain rfl : u = Value.ref a := rv
        obtain ⟨oe, vs, e1, e2, e3, e4⟩ := exv_at J (nw.fh _ _ h5)
        obtain ⟨mA, hns, hr⟩ := J.hok dx _ (nw.fh _ _ h6)
        obtain ⟨od, ho, hl⟩ := lookIn_ns hns
        have ea : M.atr c = nm := of_decide_eq_true h2
        obtain ⟨y, hy, ry⟩ := RelO.some_of (v := z) (o := mA nm) (by rw [← show ([(M.atr c, z)] : List (Str × V)).lookup nm = some z by rw [ea]; simp]; exact hr nm)
        have Ji : PySem.W.InstAt s1.heap a oe (M.CA c) (some od) := ⟨e1, e2, by unfold PySem.W.notCls; rw [e4] <;> rfl, by rw [e3]; exact ho⟩
        exact HandSPX.exc_get J.kIn Ji E.x.ga E.x.gg E.x.exC (PySem.W.findObj_own E.x.hdC E.no rfl (by rw [hl, hy])) (handed_of ry) ⟨z, H1, J.tok _, ry, q1 F H1 (.refl nw.fh nw.tap nw.ntp) _ (show Rep M F z d from l)⟩
    · exact q1.elim
theorem xf_ok {nm : Str} {n : Nat} (hE : ∀ c, c < n → M.atr c = nm → XfOk X.K (M.CA c) nm) : PrimOk G M X (pXf (T := T) nm M.atr n) := by
  intro sc hg W tk hgd e es x xs hc hall hpa _ _ he
  obtain ⟨xa, pos, rfl, h2, rfl⟩ := chkFld_of (sc := sc) hc
  cases hall with
  | cons h1 _ _ l =>
    cases l
    exact (pe_xfV (W := W) hE h1 (base_of h2)).imp fun σ H Q h => tD_1 he h
end
end DE
set_option maxHeartbeats 4000000
/-! DE23: own classes: made by __init__ (checks, then attributes stored), properties, ==. -/
namespace DE
open PySem PySem.Spec PyProof.Rows L2

section
variable {T : Type} {G : Pg T} {M : Md T} {X : Cx} {W : XK}
theorem execs_app (env : Env) : ∀ (a b : List Stmt), execs (a ++ b) env = (execs a env >>= fun f => match f with | .next => execs b env | f => pure f)
  | [], b => by rw [List.nil_append, execs_nil, pure_bind]
  | st :: a, b => by
    rw [List.cons_append, execs_cons, execs_cons, bind_assoc]
    congr 1
    funext f
    cases f with
    | next => exact execs_app env a b
    | _ => simp
theorem pss_app {a b : List Stmt} {t u : TS} (h1 : PSs X a t) (h2 : PSs X b u) : PSs X (a ++ b) (tSeq t u) := by
  refine ⟨fun pins s σ H D I h => ?_⟩
  rw [execs_app]
  refine wpAny_bind (wpAny_mono (h1.run pins s σ H _ I h) (fun f s1 q => ?_) fun _ _ z => z)
  match f, q with
  | .next, ⟨σ1, H1, J, q⟩ => exact h2.run pins s1 σ1 H1 D J q
  | .brk, q => exact wpAny_pure q
  | .cont, q => exact wpAny_pure q
  | .ret u, q => exact wpAny_pure q

/-! ### __init__ -/
def putFD (f : Str) (v : D) : List (Str × D) → List (Str × D)
  | [] => [(f, v)]
  | (g, x) :: r => if g = f then (g, v) :: r else (g, x) :: putFD f v r
theorem RepF.put {F : Hp} {f : Str} {v : V} {d : D} (r : Rep M F v d) : ∀ {gs : List (Str × V)} {fs : List (Str × D)}, RepF M F gs fs → RepF M F (L2.putF f v gs) (putFD f d fs)
  | _, _, .nil => .cons r .nil
  | (g, x) :: gs, _, .cons h l => by
    unfold L2.putF putFD
    by_cases e : g = f
    · rw [if_pos e, if_pos e]; exact .cons r l
    · rw [if_neg e, if_neg e]; exact .cons h (RepF.put r l)
theorem RepF.length {F : Hp} : ∀ {gs : List (Str × V)} {fs : List (Str × D)}, RepF M F gs fs → gs.length = fs.length
  | _, _, .nil => rfl
  | _, _, .cons _ l => by rw [List.length_cons, List.length_cons, RepF.length l]
def runPosts (G : Pg T) (ρ : En) : List (Str × E) → List (Str × D) → T → R T (List (Str × D))
  | [], fs, t => .ok fs t
  | (f, e) :: r, fs, t => (evalE G e ρ t).bind fun x t => match fzOf x with
    | some d => if fs.length < 1000 then runPosts G ρ r (putFD f d fs) t else .no
    | none => .no
/-- C(..): the checks, then the attributes -/
def mkFn (G : Pg T) (fu n : Nat) (pre : Ss) (posts : List (Str × E)) (c : Nat) : DFn T := fun ds t =>
  (execSs G fu pre (.lock 0 :: (ds.map .fz ++ List.replicate (n - (ds.length + 1)) .un)) t).bind fun o t => match o with
    | .nx ρ => if isLock ρ[0]? then (runPosts G ρ posts [] t).bind fun fs t => .ok (.ins c fs, .fr) t else .no
    | _ => .no
def chkPosts (G : Pg T) (N : List Str) (sc : Scope) : List (Str × E) → List Stmt → Bool
  | [], [] => true
  | (f, e) :: r, .Assign [.Attribute (.Name y _) n _] xe _ :: st => nameAt N sc 0 y && decide (n = f) && chkE G N e sc xe && noLc xe && chkPosts G N sc r st
  | _, _ => false
def chkInit (G : Pg T) (N : List Str) (k : Nat) (pre : Ss) (posts : List (Str × E)) (sc : Scope) (body : List Stmt) : Bool := chkSs G N pre sc (body.take k) && chkPosts G N sc posts (body.drop k)
/-- what an __init__ promises: x the new instance, Hb the heap ahead of it -/
def spInit (M : Md T) (c : Nat) (mk : DFn T) (n : Nat) : Sp := fun vs H Q E => ∃ (x dx : Addr) (ws : List V) (F Hb : Hp) (t : T) (ds : List D), vs = .ref x :: ws ∧ ws.length = n ∧ H = L2.upd (L2.upd Hb dx (.own x)) x (.ins (M.CA c) dx []) ∧ Hb x = none ∧ Hb dx = none ∧ dx ≠ x ∧
  Same F Hb ∧ M.tp.At Hb t ∧ (∀ a, M.tp.own a → F a = none) ∧ RepL M F ws ds ∧ PostG M E F Hb (mk ds t) fun d t' F' H' => VRep (M := M) (fun _ => False) Hb F' H' (.ref x) d → Q .non H'
/-- an object of ours that no slot holds is changed -/
theorem Sx.updX {F H : Hp} {σ : L2.St} {ρ : En} {t : T} (s : Sx M F H σ ρ t) {x : Addr} {o o' : HO} (e : H x = some o) (ne : ∀ φ, o ≠ .ext φ) (nF : F x = none) (nt : ¬ M.tp.own x) (nB : ¬ Bo σ ρ x) (ho : ∀ ps, o' ≠ .tbl ps) : Sx M F (L2.upd H x o') σ ρ t where
  fh := fun b y q => by rw [upd_ne (ne_of_none q nF)]; exact s.fh b y q
  tap := M.tp.loc (fun a ha => upd_ne fun z => nt (by rw [← z]; exact ha)) (fun a φ q => by
    rw [upd_ne (fun z => by rw [z, e] at q; exact ne φ (Option.some.inj q))]; exact q) (fun a ps q => by
    by_cases z : a = x
    · subst z; rw [upd_same] at q; exact absurd (Option.some.inj q) (ho ps)
    · rw [upd_ne z] at q; exact q) s.tap
  ntp := s.ntp
  len := s.len
  fz := s.fz
  ow := fun i d q => by
    obtain ⟨a, e1, n1, n2, u, e2, c⟩ := s.ow i d q
    exact ⟨a, e1, n1, n2, u, by
      have z : a ≠ x := fun z => nB ⟨i, d, q, by rw [← z]; exact e1⟩
      rw [upd_ne z]; exact e2, c⟩
  dis := s.dis
  lk := s.lk
/-- the attributes are stored one by one -/
theorem chkPosts_cons {N : List Str} {sc : Scope} {f : Str} {e : E} {r : List (Str × E)} {sts : List Stmt} (h : chkPosts G N sc ((f, e) :: r) sts = true) : ∃ y yp n ap xe p2 st, sts = .Assign [.Attribute (.Name y yp) n ap] xe p2 :: st ∧ nameAt N sc 0 y = true ∧ n = f ∧ chkE G N e sc xe = true ∧ noLc xe = true ∧ chkPosts G N sc r st = true := by
  unfold chkPosts at h
  split at h
  · rename_i _ z; cases z
  · rename_i f' e' r' y yp n ap xe p2 st z
    cases z
    obtain ⟨h, h5⟩ := and3 h
    obtain ⟨h, h4⟩ := and3 h
    obtain ⟨h, h3⟩ := and3 h
    obtain ⟨h1, h2⟩ := and3 h
    exact ⟨y, yp, n, ap, xe, p2, st, rfl, h1, of_decide_eq_true h2, h3, h4, h5⟩
  · cases h
theorem posts_ok {N : List Str} {sc : Scope} {W : XK} (C : CsA G M X sc W) (eN : X.N = N) {c : Nat} {x : Addr} (cl : Cls X.K (M.CA c)) (hx : M.vl = fun _ => some (.ref x, [])) : ∀ (posts : List (Str × E)) (sts : List Stmt), chkPosts G N sc posts sts = true → (∀ p ∈ posts, NoAttr X.K (M.CA c) p.1) →
    ∃ tS, PSs X sts tS ∧ ∀ {Dd : Ends} {σ : L2.St} {H F F0 Hb : Hp} {ρ : En} {t : T} {dx : Addr} {gs : List (Str × V)} {fs : List (Str × D)}, Sx M F H σ ρ t → (∃ k, ρ[0]? = some (.lock k)) → H x = some (.ins (M.CA c) dx gs) → F x = none → ¬ M.tp.own x → ¬ Bo σ ρ x → RepF M F gs fs → Stp M F0 Hb F H t → Hb x = none →
      PostG M W F0 Hb ((runPosts G ρ posts fs t).bind fun fs t => .ok (.ins c fs, .fr) t) (fun d t' F' H' => VRep (M := M) (fun _ => False) Hb F' H' (.ref x) d → ∀ σ', Dd.nx σ' H') → tS Dd σ H := by
  intro posts
  induction posts with
  | nil =>
    intro sts h hn
    cases sts with
    | cons _ _ => cases h
    | nil =>
      refine ⟨_, pss_nil, fun {Dd σ H F F0 Hb ρ t dx gs fs} sx lk ex nf nt nB rf st nb q => ?_⟩
      exact (show PostG M W F0 Hb (.ok (D.ins c fs, Kd.fr) t) _ from q) F H st ⟨x, rfl, ⟨nf, nt, _, ex, .ins rf⟩, nb⟩ σ
  | cons p r ih =>
    obtain ⟨f, e⟩ := p
    intro sts h hn
    obtain ⟨y, yp, n, ap, xe, p2, st, rfl, h1, rfl, h3, h4, h5⟩ := chkPosts_cons h
    · skip
      obtain ⟨tS, hS, kS⟩ := ih st h5 fun p hp => hn p (List.mem_cons_of_mem _ hp)
      rw [← eN] at h1 h3
      refine ⟨_, pss_cons (ps_fld (nameAt_of C.ct h1) (soundE e C.ct C.tk xe h3) (by cases xe <;> first | rfl | cases h4)) hS, fun {Dd σ H F F0 Hb ρ t dx gs fs} sx lk ex nf nt nB rf st nb q => ?_⟩
      have q0 : PostG M W F0 Hb ((evalE G e ρ t).bind fun y t => (match fzOf y with
        | some d => if fs.length < 1000 then runPosts G ρ r (putFD n d fs) t else .no
        | none => .no : R T (List (Str × D))).bind fun fs t => .ok (D.ins c fs, Kd.fr) t) (fun d t' F' H' => VRep (M := M) (fun _ => False) Hb F' H' (.ref x) d → ∀ σ', Dd.nx σ' H') := by
        unfold runPosts at q
        cases ee : evalE G e ρ t <;> (rw [ee] at q; exact q)
      refine ⟨ρ, t, F, sx, ((PostG.bind' q0).from_ st).imp fun d t1 F1 H1 s1 q1 v hv => ⟨.ref x, by
        obtain ⟨k, lk⟩ := lk
        obtain ⟨v, l, e1, e2, _⟩ := sx.lk 0 k lk
        rw [hx] at e1
        cases e1
        exact e2, x, M.CA c, dx, gs, rfl, s1.hh _ _ ex nt, cl, hn _ List.mem_cons_self, ?_⟩⟩
      obtain ⟨d, k⟩ := d
      have fin : ∀ {F2 : Hp}, Stp M F H F2 H1 t1 → Same F1 F2 → Rep M F2 v d → PostG M W F0 Hb ((if fs.length < 1000 then runPosts G ρ r (putFD n d fs) t1 else .no).bind fun fs t => .ok (D.ins c fs, Kd.fr) t) (fun d t' F' H' => VRep (M := M) (fun _ => False) Hb F' H' (.ref x) d → ∀ σ', Dd.nx σ' H') → gs.length < 1000 ∧ tS Dd σ (L2.upd H1 x (.ins (M.CA c) dx (L2.putF n v gs))) := fun {F2} s2 ff rv q2 => by
        split at q2
        · rename_i hl
          have ex1 := s1.hh _ _ ex nt
          have nf2 : F2 x = none := by
            cases z : F2 x with
            | none => rfl
            | some o =>
              rcases s2.new x o z with z2 | z2 | ⟨_, z2⟩
              · rw [nf] at z2; cases z2
              · rw [ex] at z2; cases z2
              · rw [ex] at z2; cases z2
          refine ⟨by rw [rf.length]; exact hl, kS ((sx.step s2).updX ex1 (fun φ z => by cases z) nf2 nt nB (fun _ z => by cases z)) lk upd_same nf2 nt nB ((RepF.same s2.ff rf).put rv) ((st.trans s2).updN nb nf2 nt (fun φ z => by rw [ex1] at z; cases z)) nb q2⟩
        · exact q2.elim
      cases k with
      | br => exact (show False from q1).elim
      | fz => exact fin s1 (fun _ _ z => z) hv q1
      | fr =>
        obtain ⟨F2, s2, ff, rv⟩ := VRep.frz s1 hv
        exact fin s2 ff rv q1
end
section
variable {T : Type} {G : Pg T} {M : Md T} {P : Program} {w : World} {K : PySem.W.Frag} {mg : Str → Option Value} {base : Heap} {k : Nat}
theorem isLock_some {ρ : En} {i : Nat} (h : isLock ρ[i]? = true) : ∃ k, ρ[i]? = some (.lock k) := by
  cases e : ρ[i]? with
  | none => rw [e] at h; cases h
  | some x => cases x <;> first | exact ⟨_, rfl⟩ | (rw [e] at h; cases h)
/-- THE RULE of an __init__ that checks its arguments, then stores attributes -/
theorem init_ok (W : Wd G M P w K mg base k) (nl : G.lams = []) {y qual : Str} {params : Arguments} {body : List Stmt} {scope : Scope} {dvs : List V} {f : Addr} {fd : FuncData} {N ps : List Str} {kws : List (Str × V)} {pre : Ss} {posts : List (Str × E)} {c : Nat} (fu kk : Nat) (F : FunD K y qual params body scope dvs kws f fd) (S : FnScope N ("self" :: ps) scope)
    (hl : N.contains "_law_caught" = false) (hg : N.contains "<repr>" = false) (cl : Cls K (M.CA c)) (na : ∀ p ∈ posts, NoAttr K (M.CA c) p.1) (h : chkInit G N kk pre posts scope body = true) :
    FnOk P w K mg base (CX P w) (k + 1) f fd ("self" :: ps) (spInit M c (mkFn G fu N.length pre posts c) ps.length) := by
  obtain ⟨oc, od, dV, kV, doc, pm, an, cdv, ct, osl, rfl, lk, hcd, _, _⟩ := F.ex
  refine fn_of lk hcd S (fun vs H Q E ⟨_, _, ws, _, _, _, _, e, e2, _⟩ => by rw [e, List.length_cons, List.length_cons, e2]) fun A outer sh H vs Q E hr hsp => ?_
  obtain ⟨x, dx, ws, F0, Hb, t, ds, rfl, hlen, rfl, nx, ndx, ne, fh, tap, ntp, l, q⟩ := hsp
  have C := csA_of (W.with G.lams fun _ => some (.ref x, [])) nl (qual := qual) (f := f) (cdv := cdv) (A := A) (outer := outer) (s := sh) (H := L2.upd (L2.upd Hb dx (.own x)) x (.ins (M.CA c) dx [])) (E := E) S hr (fun z => by rw [hl] at z; cases z) (fun z => by rw [hg] at z; cases z)
  obtain ⟨h1, h2⟩ := and3 h
  obtain ⟨tS, hS, kS⟩ := posts_ok (x := x) (c := c) C rfl cl rfl posts (body.drop kk) h2 na
  have s1 := Stp.new_ (M := M.wv fun _ => some (V.ref x, [])) (o := .own x) fh tap ntp ndx
  have s2 := Stp.new_ (M := M.wv fun _ => some (V.ref x, [])) (o := .ins (M.CA c) dx []) s1.fh s1.tap s1.ntp (p := x) (by rw [upd_ne (Ne.symm ne)]; exact nx)
  have s0 := s1.trans s2
  have nt : ¬ M.tp.own x := nt_new tap nx
  have hb := pss_app (soundSs fu pre C F0 (L2.upd (L2.upd Hb dx (.own x)) x (.ins (M.CA c) dx [])) (body.take kk) h1) hS
  rw [List.take_append_drop] at hb
  refine ⟨_, hb, ?_⟩
  have hw : ws.length = ds.length := l.length
  refine ⟨.lock 0 :: (ds.map .fz ++ List.replicate (N.length - (ds.length + 1)) .un), t, F0, ⟨⟨s0.fh, s0.tap, s0.ntp, ?_, fun i d h => ?_, fun i d h => ?_, fun i j d1 d2 a h => ?_, fun i k h => ?_⟩, .refl s0.fh s0.tap s0.ntp, fun b ⟨i, d, h, _⟩ => ?_⟩, ?_⟩
  · simp [L2.start, hw]
  · cases i with
    | zero => cases h
    | succ i =>
      obtain ⟨v, e1, r⟩ := start_rep l _ (N.length - (ws.length + 1)) i d h
      exact ⟨v, e1, r.vl⟩
  · cases i with
    | zero => cases h
    | succ i => exact (start_ow h).elim
  · cases i with
    | zero => cases h
    | succ i => exact (start_ow h).elim
  · cases i with
    | zero => exact ⟨.ref x, [], rfl, rfl, fun p hp => nomatch hp⟩
    | succ i => exact (start_lk h).elim
  · cases i with
    | zero => cases h
    | succ i => exact (start_ow h).elim
  · unfold mkFn at q
    cases ee : execSs G fu pre (.lock 0 :: (ds.map .fz ++ List.replicate (N.length - (ds.length + 1)) .un)) t with
    | no => rw [ee] at q; exact q.elim
    | ex c v t1 => rw [ee] at q; exact fun F' H' cls d s' e => q F' H' cls d (s0.trans s').ofVl (e.old s0).ofVl
    | ok o t1 =>
      rw [ee] at q
      cases o with
      | rt d => exact q.elim
      | bk ρ => exact q.elim
      | ct ρ => exact q.elim
      | nx ρ =>
        have q1 : PostG M E F0 Hb (if isLock ρ[0]? then (runPosts G ρ posts [] t1).bind fun fs t => .ok (D.ins c fs, Kd.fr) t else .no) (fun d t' F' H' => VRep (M := M) (fun _ => False) Hb F' H' (.ref x) d → Q .non H') := q
        split at q1
        · rename_i hlk
          intro F' H' σ ff s'
          have exx : L2.upd (L2.upd Hb dx (.own x)) x (.ins (M.CA c) dx []) x = some (.ins (M.CA c) dx []) := upd_same
          refine kS s'.sx (isLock_some hlk) (s'.bs.hh x _ exx nt) ?_ nt (fun z => by rw [s'.on x z] at exx; cases exx) .nil (s0.trans s'.bs) nx (q1.vl.imp fun d t' F'' H'' _ g r σ' => g r.ofVl)
          cases z : F' x with
          | none => rfl
          | some o =>
            rcases s'.bs.new x o z with z2 | z2 | ⟨_, z2⟩
            · rw [nf_new fh nx] at z2; cases z2
            · rw [exx] at z2; cases z2
            · rw [exx] at z2; cases z2
        · exact q1.elim
end
end DE
set_option maxHeartbeats 4000000
/-! DE24: operations of the table for own classes: C(..), o.f of a property, ==. -/
namespace DE
open PySem PySem.Spec PyProof.Rows L2
section
variable {T : Type} {G : Pg T} {M : Md T} {X : Cx} {W : XK}
/-- C(e, ..), all arguments frozen or fresh -/
def fMk (n : Nat) (mk : DFn T) : List Dk → T → R T Dk := fun ds t => match allFz ds with
  | some es => if es.length = n then mk es t else .no
  | none => .no
def pMk (nm : Str) (n : Nat) (mk : DFn T) : Prim T := { chk := chkCall nm, f := fMk n mk }
/-- .. by keywords alone, in this order -/
def chkKw0 (nm : Str) (ks : List Str) (sc : Scope) : Expr → Option (List Expr)
  | .Call (.Name y _) [] kws _ => if decide (y = nm) && isGl sc y && decide (kws.map (·.arg) = ks.map some) then some (kws.map (·.value)) else none
  | _ => none
def fMkK (n : Nat) (pm : List Nat) (mk : DFn T) : List Dk → T → R T Dk := fun ds t => match permL pm ds with
  | some ds => fMk n mk ds t
  | none => .no
def pMkK (nm : Str) (ks : List Str) (n : Nat) (pm : List Nat) (mk : DFn T) : Prim T := { chk := chkKw0 nm ks, f := fMkK n pm mk }
theorem VRep.out {B : Addr → Prop} {H0 F0 F1 H1 F H : Hp} {t : T} (s : Stp M F0 H0 F1 H1 t) {v : V} {d : Dk} (h : VRep (M := M) (fun _ => False) H1 F H v d) : VRep (M := M) B H0 F H v d := by
  obtain ⟨d, k⟩ := d
  cases k with
  | fz => exact h
  | fr => obtain ⟨a, e, o, n⟩ := h; exact ⟨a, e, o, s.was n⟩
  | br => obtain ⟨a, e, o, z⟩ := h; exact z.elim
/-- from the arguments to what __init__ asks -/
theorem mk_post {B : Addr → Prop} {H0 F0 F H : Hp} {t : T} {c n : Nat} {mk : DFn T} {vs : List V} {ds : List Dk} {Q : VK} (hB : ∀ b, B b → H0 b ≠ none) (st : Stp M F0 H0 F H t) (hv : VRepL (M := M) B H0 F H vs ds)
    (q : PostG M W F0 H0 (fMk n mk ds t) fun d' t' F' H' => ∀ v', VRep (M := M) B H0 F' H' v' d' → Q v' H') {x dx : Addr} (nx : H x = none) (ndx : H dx = none) (ne : dx ≠ x) :
    spInit M c mk n (.ref x :: vs) (L2.upd (L2.upd H dx (.own x)) x (.ins (M.CA c) dx [])) (fun v H2 => v = .non ∧ Q (.ref x) H2) W := by
  unfold fMk at q
  cases ez : allFz ds with
  | none => rw [ez] at q; exact q.elim
  | some es =>
    rw [ez] at q
    have q1 : PostG M W F0 H0 (if es.length = n then mk es t else .no) (fun d' t' F' H' => ∀ v', VRep (M := M) B H0 F' H' v' d' → Q v' H') := q
    split at q1
    · rename_i hn
      obtain ⟨F', s', ff, r⟩ := hv.freeze hB st
      have l := r.rep ez
      exact ⟨x, dx, vs, F', H, t, es, rfl, by rw [l.length, hn], rfl, nx, ndx, ne, s'.fh, s'.tap, s'.ntp, l, (PostG.from_ s' q1).imp fun d t' F'' H'' _ k r => ⟨rfl, k _ (VRep.out s' r)⟩⟩
    · exact q1.elim
theorem mk_ok {nm : Str} {n c j : Nat} {mk : DFn T} {fi : Addr} {fd : FuncData} {ps : List Str} (Mc : Mk X.K (M.CA c) fi) (F : FnOk X.prog X.w X.K X.mg X.base (CX X.prog X.w) j fi fd ps (spInit M c mk n)) (hr : Room (j + 1) X.A) (gm : X.mg nm = some (.ref (M.CA c))) (hb : Binds X.K fd ps []) : PrimOk G M X (pMk (T := T) nm n mk) := by
  intro sc hg W tk hgd e es x xs hc hall hpa _ _ he
  obtain ⟨p1, pos, rfl, h2, h3⟩ := chkCall_of hc
  obtain ⟨g1, g2⟩ := isGl_gl hg h2
  cases xs with
  | nil => exact absurd rfl h3
  | cons x0 r =>
    obtain ⟨s1, s2⟩ := hall.stars.2 x0 r rfl
    refine (pe_make (E := W) Mc F hr g1 gm hb .nil (passes_call tk fun _ _ _ _ z => z) hpa g2 s1 (s2 _)).imp fun σ H Q h => ?_
    obtain ⟨ρ, t, F0, sx, q⟩ := tD_N he h
    refine ⟨ρ, t, F0, sx, q.imp fun ds t1 F1 H1 s1 k vs hv hfr x dx nx ndx ne => ?_⟩
    obtain ⟨B, H0, F, t2, ds2, nw, hv2, _, F00, st, q2⟩ := k vs hv hfr
    rw [List.append_nil]
    exact mk_post nw.hB st hv2 q2 nx ndx ne
theorem chkKw0_of {nm : Str} {ks : List Str} {sc : Scope} {x : Expr} {xs : List Expr} (h : chkKw0 nm ks sc x = some xs) : ∃ p kws pos, x = .Call (.Name nm p) [] kws pos ∧ isGl sc nm = true ∧ kws.map (·.arg) = ks.map some ∧ xs = kws.map (·.value) := by
  unfold chkKw0 at h
  split at h
  · rename_i y p kws pos
    by_cases hi : (decide (y = nm) && isGl sc y && decide (kws.map (·.arg) = ks.map some)) = true
    · rw [if_pos hi] at h
      obtain ⟨hi, h3⟩ := and3 hi
      obtain ⟨h1, h2⟩ := and3 hi
      obtain rfl := of_decide_eq_true h1
      exact ⟨p, kws, pos, rfl, h2, of_decide_eq_true h3, (Option.some.inj h).symm⟩
    · rw [if_neg hi] at h
      cases h
  · cases h
theorem permL_map {α β : Type} (f : α → β) : ∀ (pm : List Nat) (xs : List α), permL pm (xs.map f) = (permL pm xs).map (·.map f)
  | [], _ => rfl
  | i :: is, xs => by
    unfold permL
    rw [List.getElem?_map, permL_map f is xs]
    cases xs[i]? <;> cases permL is xs <;> rfl
theorem permL_ok {α : Type} : ∀ {pm : List Nat} {xs : List α}, (pm.all fun i => decide (i < xs.length)) = true → ∃ ys, permL pm xs = some ys
  | [], _, _ => ⟨[], rfl⟩
  | i :: is, xs, h => by
    rw [List.all_cons, Bool.and_eq_true] at h
    obtain ⟨ys, e⟩ := permL_ok (pm := is) (xs := xs) h.2
    have hi : i < xs.length := of_decide_eq_true h.1
    exact ⟨xs[i] :: ys, by unfold permL; rw [List.getElem?_eq_getElem hi, e]; rfl⟩
theorem perm_vals : ∀ {pm : List Nat} {vs : List V} {us : List Value}, Vals vs us → (permL pm vs = none ∧ permL pm us = none) ∨ ∃ vs' us', permL pm vs = some vs' ∧ permL pm us = some us' ∧ Vals vs' us'
  | [], _, _, _ => .inr ⟨[], [], rfl, rfl, .nil⟩
  | i :: is, vs, us, r => by
    unfold permL
    rcases perm_vals (pm := is) r with ⟨e1, e2⟩ | ⟨a, b, e1, e2, r2⟩
    · rw [e1, e2]
      left
      constructor
      · cases vs[i]? <;> rfl
      · cases us[i]? <;> rfl
    · rw [e1, e2]
      cases h : vs[i]? with
      | none =>
        have h2 : us[i]? = none := by
          rw [List.getElem?_eq_none_iff] at h ⊢
          rw [← r.length]; exact h
        rw [h2]
        exact .inl ⟨rfl, rfl⟩
      | some v =>
        obtain ⟨u, e3, r3⟩ := Vals.get r h
        rw [e3]
        exact .inr ⟨v :: a, u :: b, rfl, rfl, .cons r3 r2⟩
theorem perm_vrep {B : Addr → Prop} {H0 F H : Hp} : ∀ {pm : List Nat} {vs : List V} {ds ds' : List Dk}, VRepL (M := M) B H0 F H vs ds → permL pm ds = some ds' → ∃ vs', permL pm vs = some vs' ∧ VRepL (M := M) B H0 F H vs' ds'
  | [], _, _, _, _, e => by cases e; exact ⟨[], rfl, .nil⟩
  | i :: is, vs, ds, ds', r, e => by
    unfold permL at e ⊢
    obtain ⟨d, e1, e2⟩ := Option.bind_eq_some_iff.mp e
    obtain ⟨r2, e3, rfl⟩ := Option.map_eq_some_iff.mp e2
    obtain ⟨vs', e4, q⟩ := perm_vrep (pm := is) r e3
    have get : ∀ {vs : List V} {ds : List Dk} {i : Nat} {d : Dk}, VRepL (M := M) B H0 F H vs ds → ds[i]? = some d → ∃ v, vs[i]? = some v ∧ VRep (M := M) B H0 F H v d := by
      intro vs ds i d r e
      induction r generalizing i with
      | nil => simp at e
      | cons h _ ih => cases i with
        | zero => simp at e; subst e; exact ⟨_, rfl, h⟩
        | succ i => exact ih (by simpa using e)
    obtain ⟨v, e5, q2⟩ := get r e1
    exact ⟨v :: vs', by rw [e5, e4]; rfl, .cons q2 q⟩
/-- how __init__ binds keywords -/
structure KwB (K : PySem.W.Frag) (fd : FuncData) (ps ks : List Str) (pm : List Nat) : Prop where
  ok : (pm.all fun i => decide (i < ks.length)) = true
  to : ∀ (s : Shared) (u : Value) (ws ys : List Value), K.In s.heap → ws.length = ks.length → permL pm ws = some ys → BindsTo s fd ⟨[u], ks.zip ws⟩ (ps.zip (u :: ys))
theorem KwB.kbn {K : PySem.W.Frag} {fd : FuncData} {ps ks : List Str} {pm : List Nat} (b : KwB K fd ps ks pm) : KBn K fd ps 1 ks (fun us ws => us ++ (permL pm ws).getD []) (fun vs zs => vs ++ (permL pm zs).getD []) := by
  refine ⟨fun s us ws X l1 l2 => ?_, fun {vs us zs ws} r1 r2 => r1.append ?_⟩
  · match us, l1 with
    | [u], _ =>
      obtain ⟨ys, e⟩ := permL_ok (pm := pm) (xs := ws) (by rw [l2]; exact b.ok)
      rw [e]
      exact b.to s u ws ys X l2 e
  · rcases perm_vals (pm := pm) r2 with ⟨e1, e2⟩ | ⟨a, b, e1, e2, r3⟩
    · rw [e1, e2]; exact .nil
    · rw [e1, e2]; exact r3
theorem mkK_ok {nm : Str} {n c j : Nat} {mk : DFn T} {fi : Addr} {fd : FuncData} {ps ks : List Str} {pm : List Nat} (Mc : Mk X.K (M.CA c) fi) (F : FnOk X.prog X.w X.K X.mg X.base (CX X.prog X.w) j fi fd ps (spInit M c mk n)) (hr : Room (j + 1) X.A) (gm : X.mg nm = some (.ref (M.CA c))) (hb : KwB X.K fd ps ks pm) : PrimOk G M X (pMkK (T := T) nm ks n pm mk) := by
  intro sc hg W tk hgd e es x xs hc hall hpa hpk hln he
  obtain ⟨p1, kws, pos, rfl, h2, h3, rfl⟩ := chkKw0_of hc
  obtain ⟨g1, g2⟩ := isGl_gl hg h2
  obtain ⟨k2, k1, k3⟩ := @kw_names [] X.env pos _ _ h3
  refine (pe_makeK0 (E := W) Mc F hr g1 gm hb.kbn (passes_call tk fun _ _ _ _ z => z) (hpk kws rfl) k2 k1 g2 (by rw [k3]; rfl)).imp fun σ H Q h => ?_
  obtain ⟨ρ, t, F0, sx, q⟩ := tD_N he h
  have hlen := hln ρ t
  refine ⟨ρ, t, F0, sx, ?_⟩
  cases ee : evalEs G es ρ t with
  | no => rw [ee] at q; exact q
  | ex c v t1 => rw [ee] at q; exact q
  | ok ds t1 =>
    rw [ee] at q
    intro F1 H1 s1 vs hv hfr
    refine ⟨rfl, ?_, fun x dx nx ndx ne => ?_⟩
    · rw [hv.length, hlen t1 ds ee, List.length_map]
      have := congrArg List.length h3
      simpa using this
    · obtain ⟨B, H0, F, t2, ds2, nw, hv2, _, F00, st, q2⟩ := q F1 H1 s1 vs hv hfr
      have q3 : PostG M W F00 H0 (match permL pm ds2 with | some ds => fMk n mk ds t2 | none => .no) (fun d' t' F' H' => ∀ v', VRep (M := M) B H0 F' H' v' d' → Q v' H') := q2
      cases ep : permL pm ds2 with
      | none => rw [ep] at q3; exact q3.elim
      | some ds' =>
        rw [ep] at q3
        obtain ⟨vs', e5, hv3⟩ := perm_vrep hv2 ep
        show spInit M c mk n (V.ref x :: ((permL pm vs).getD [])) _ _ _
        rw [e5]
        exact mk_post nw.hB st hv3 q3 nx ndx ne
/-! ### properties -/
def fProp (c : Nat) (h : DFn T) : List Dk → T → R T Dk
  | [(.ins c' fs, k)], t => if c' = c then (callD h [(.ins c' fs, k)] t).calm else .no
  | _, _ => .no
def pProp (nm : Str) (c : Nat) (h : DFn T) : Prim T := { chk := chkFld nm, f := fProp c h }
theorem calm_post {F H : Hp} {α : Type} {r : R T α} {K : α → T → Hp → Hp → Prop} (h : PostG M W F H r.calm K) : PostG M (fun _ _ _ => False) F H r K := by
  cases r with
  | ok a t => exact h
  | ex c v t => exact h.elim
  | no => exact h
theorem VRep.ins_at {B : Addr → Prop} {H0 F H : Hp} {v : V} {c : Nat} {fs : List (Str × D)} {k : Kd} (s : Same F H) (h : VRep (M := M) B H0 F H v (.ins c fs, k)) : ∃ a dx gs, v = .ref a ∧ H a = some (.ins (M.CA c) dx gs) ∧ RepF M F gs fs := by
  rcases h.rep s with h | ⟨a, o, e, q, cc⟩
  · cases h with
    | ins h l => exact ⟨_, _, _, rfl, s _ _ h, l⟩
  · cases cc with
    | ins l => exact ⟨a, _, _, e, q, l⟩
theorem prop_ok {nm : Str} {c j : Nat} {h : DFn T} {p g : Addr} {fd : FuncData} {ps : List Str} (cl : Cls X.K (M.CA c)) (hp : PropOf X.K (M.CA c) nm p g) (F : FnOk X.prog X.w X.K X.mg X.base (CX X.prog X.w) j g fd ps (spD M h 1)) (hr : Room (j + 1) X.A) (hb : Binds X.K fd ps [])
    (nbr : ∀ ds t d t', h ds t = .ok d t' → d.2 ≠ .br) : PrimOk G M X (pProp (T := T) nm c h) := by
  intro sc hg W tk hgd e es x xs hc hall hpa _ _ he
  obtain ⟨xa, pos, rfl, h2, rfl⟩ := chkFld_of (sc := sc) hc
  cases hall with
  | cons h1 _ _ l =>
    cases l
    refine (pe_prop (E := fun _ _ _ => False) h1 cl hp F hr hb .nil (passes_call (X := X.nox) takesF fun _ _ _ _ z => z) (base_of h2)).imp fun σ H Q q => ?_
    obtain ⟨ρ, t, F0, sx, q⟩ := tD_1 he q
    refine ⟨ρ, t, F0, sx, q.imp fun d t1 F1 H1 s1 k v hv => ?_⟩
    obtain ⟨B, H0, F2, t2, ⟨d2, k2⟩, nw, hv2, F00, st, q2⟩ := k v hv
    cases d2 <;> (try exact (show False from q2).elim)
    rename_i c' fs
    have q3 : PostG M W F00 H0 (if c' = c then (callD h [(D.ins c' fs, k2)] t2).calm else .no) (fun d' t' F' H' => ∀ v', VRep (M := M) B H0 F' H' v' d' → Q v' H') := q2
    split at q3
    · rename_i ec
      subst ec
      obtain ⟨a, dx, gs, rfl, ha, _⟩ := hv2.ins_at nw.fh
      exact ⟨a, dx, gs, rfl, ha, call_post (vs := [.ref a]) (dv := []) (es := []) nw.hB st (.cons hv2 .nil) (fun _ => .nil) rfl (calm_post q3) nbr⟩
    · exact q3.elim

/-! ### == of an own class -/
def fEqO (c : Nat) (h : DFn T) : List Dk → T → R T Dk
  | [(.ins c' fs, k), (d, k')], t => if c' = c then (match d with
      | .ins c'' _ => if c'' = c then (match (callD h [(.ins c' fs, k), (d, k')] t).calm with
        | .ok (.bl b, kb) t' => .ok (.bl b, .fz) t'
        | _ => .no) else .no
      | d => (match tyOfD d with
        | some _ => (match (callD h [(.ins c' fs, k), (d, k')] t).calm with
          | .ok (.bl b, kb) t' => .ok (.bl b, .fz) t'
          | _ => .no)
        | none => .no)) else .no
  | _, _ => .no
def chkEq (_ : Scope) : Expr → Option (List Expr)
  | .Compare a [.Eq] [b] _ => some [a, b]
  | _ => none
end
end DE
set_option maxHeartbeats 4000000
/-! DE25: == of an own class; sum of a tuple. -/
namespace DE
open PySem PySem.Spec PyProof.Rows L2
section
variable {T : Type} {G : Pg T} {M : Md T} {X : Cx} {W : XK}
/-- the built-in classes of data are not below C -/
def apartB (K : PySem.W.Frag) (C : Addr) : Bool := ["NoneType", "bool", "int", "str", "tuple", "list", "dict"].all fun n => PySem.W.subIn K (.type n) (.ref C) == some false
theorem apart_of {K : PySem.W.Frag} {C : Addr} (h : apartB K C = true) {d : D} {n : String} (e : tyOfD d = some n) : PySem.W.subIn K (.type n) (.ref C) = some false := by
  have at_ : ∀ m ∈ ["NoneType", "bool", "int", "str", "tuple", "list", "dict"], PySem.W.subIn K (.type m) (.ref C) = some false := fun m hm => beq_iff_eq.mp (List.all_eq_true.mp h m hm)
  cases d <;> first | (cases e; done) | (cases e; exact at_ _ (by decide))
/-- from the own == to a bool -/
theorem eq_post {F H : Hp} {r : R T Dk} {K : Dk → T → Hp → Hp → Prop} (h : PostG M W F H (match r.calm with
    | .ok (.bl b, _) t' => .ok (D.bl b, Kd.fz) t'
    | _ => (.no : R T Dk)) K) : PostG M (fun _ _ _ => False) F H r fun d t' F' H' => ∃ b, d.1 = .bl b ∧ K (.bl b, .fz) t' F' H' := by
  cases r with
  | no => exact h
  | ex c v t => exact h.elim
  | ok d t =>
    obtain ⟨d, k⟩ := d
    cases d <;> (try exact (show False from h).elim)
    exact fun F' H' s => ⟨_, rfl, h F' H' s⟩
theorem eq_cond {F H : Hp} {c c' : Nat} {fs : List (Str × D)} {k k' : Kd} {d : D} {h : DFn T} {t : T} {K : Dk → T → Hp → Hp → Prop} (q : PostG M W F H (fEqO c h [(.ins c' fs, k), (d, k')] t) K) :
    c' = c ∧ ((∃ gs, d = .ins c gs) ∨ ∃ n, tyOfD d = some n) ∧ PostG M (fun _ _ _ => False) F H (callD h [(.ins c' fs, k), (d, k')] t) fun d t' F' H' => ∃ b, d.1 = .bl b ∧ K (.bl b, .fz) t' F' H' := by
  unfold fEqO at q
  dsimp only at q
  split at q
  · rename_i ec
    refine ⟨ec, ?_⟩
    cases d with
    | ins c2 gs =>
      dsimp only at q
      split at q
      · rename_i e2
        subst e2
        exact ⟨.inl ⟨gs, rfl⟩, eq_post q⟩
      · exact q.elim
    | _ =>
      first
        | exact (show False from q).elim
        | exact ⟨.inr ⟨_, rfl⟩, eq_post q⟩
  · exact q.elim
theorem op_eqO {c j : Nat} {h : DFn T} {g : Addr} {fd : FuncData} {ps : List Str} (hK : M.K = X.K) (F : FnOk X.prog X.w X.K X.mg X.base (CX X.prog X.w) j g fd ps (spD M h 2)) (hr : Room j X.A) (hs : PySem.W.findIn X.K (.ref (M.CA c)) "__eq__" = some (some (.ref g))) (hf : PySem.W.isFn X.K (.ref g) = true)
    (hb : Binds X.K fd ps []) (nbr : ∀ ds t d t', h ds t = .ok d t' → d.2 ≠ .br) (ap : apartB X.K (M.CA c) = true) : OpR X (compareOp .Eq) (r2 M W (fEqO c h)) := by
  intro pins s σ H x y v u Q I rx ry ⟨B, H0, F1, t, ⟨dx, kx⟩, ⟨dy, ky⟩, nw, hx, hy, F00, st, q⟩
  cases dx <;> (try exact (show False from q).elim)
  rename_i c' fs
  obtain ⟨rfl, sort, q1⟩ := eq_cond q
  obtain ⟨a, dp, gs, rfl, ha, _⟩ := hx.ins_at nw.fh
  obtain rfl : v = Value.ref a := rx
  obtain ⟨mA, J0, _⟩ := ins_get I.hok ha
  obtain ⟨od, J, _⟩ := J0.look
  obtain ⟨m, hF⟩ := I.fr
  have sp : spD M h 2 [.ref a, y] H (fun w H' => ∃ b, w = .bl b ∧ Q (.bl b) H') (fun _ _ _ => False) := by
    refine call_post (vs := [.ref a, y]) (dv := []) (es := []) nw.hB st (.cons hx (.cons hy .nil)) (fun _ => .nil) rfl (q1.imp fun d t' F' H' _ k => ?_) nbr
    obtain ⟨b, eb, k⟩ := k
    obtain ⟨d, kd⟩ := d
    cases eb
    intro v' hv'
    obtain ⟨rfl, _⟩ := VRep.bl hv'
    exact ⟨b, rfl, k _ (Rep.bl b)⟩
  have walk : wpAny (model X.prog X.w) X.A (call (.ref g) [.ref a, u]) (PySem.W.CmpBack (EP X pins σ Q)) X.xe s := by
    have vals : Vals [V.ref a, y] [Value.ref a, u] := .cons rfl (.cons ry .nil)
    have len := F.len _ _ _ _ sp
    refine wpAny_call (codeAny_mono (F.run X.A X.stack s H ⟨[.ref a, u], []⟩ [.ref a, u] [.ref a, y] _ _ hr I.env0 (by simpa using hb s [.ref a, u] I.kIn (by simpa using len)) vals sp) fun r s' z => ?_)
    cases r with
    | error e => exact passes_call (E := fun _ _ _ => False) (takesF (X := X)) (fun _ _ _ _ z => z) pins σ H s e s' I z
    | ok fl =>
      cases fl with
      | ret w =>
        obtain ⟨z1, H', I', rz, b, ez, k⟩ := I.after z
        exact SlX.cmpback rz ⟨z1, H', I', rz, by rw [ez]; exact k⟩
      | next => exact z.elim
      | brk => exact z.elim
      | cont => exact z.elim
  show wpAny _ _ (richCompare .Eq _ _) _ _ s
  rcases sort with ⟨gs2, rfl⟩ | ⟨n, en⟩
  · obtain ⟨b, db, hs2, rfl, hb2, _⟩ := hy.ins_at nw.fh
    obtain rfl : u = Value.ref b := ry
    obtain ⟨mB, J2, _⟩ := ins_get I.hok hb2
    obtain ⟨od2, J2, _⟩ := J2.look
    exact PySem.W.cmp_K (op := .Eq) (tb := .ref (M.CA c')) hr.units0 hF I.ok.mod.kin J J2.type (by simp [PySem.W.notFirst]) hs hf walk
  · obtain ⟨Pz, kx1, kp, _⟩ := kit_of I ry (VRep.tyX hK nw.fh hy n en)
    exact PySem.W.cmp_K (op := .Eq) (tb := .type n) hr.units0 hF I.ok.mod.kin J (kx1.ty _ _ I.kIn kp) (by unfold PySem.W.notFirst; rw [apart_of ap en]; simp) hs hf walk
def pEq (c : Nat) (h : DFn T) : Prim T := { chk := chkEq, f := fEqO c h }
theorem eq_ok {c j : Nat} {h : DFn T} {g : Addr} {fd : FuncData} {ps : List Str} (hK : M.K = X.K) (F : FnOk X.prog X.w X.K X.mg X.base (CX X.prog X.w) j g fd ps (spD M h 2)) (hr : Room j X.A) (hs : PySem.W.findIn X.K (.ref (M.CA c)) "__eq__" = some (some (.ref g))) (hf : PySem.W.isFn X.K (.ref g) = true)
    (hb : Binds X.K fd ps []) (nbr : ∀ ds t d t', h ds t = .ok d t' → d.2 ≠ .br) (ap : apartB X.K (M.CA c) = true) : PrimOk G M X (pEq (T := T) c h) := by
  intro sc hg W tk hgd e es x xs hc hall hpa _ _ he
  have hc : chkEq sc x = some xs := hc
  unfold chkEq at hc
  split at hc
  · cases hc
    cases hall with
    | cons h1 _ _ l =>
      cases l with
      | cons h2 _ _ l2 =>
        cases l2
        exact (pe_cmpR (op_eqO (W := W) hK F hr hs hf hb nbr ap) h1 h2 (nomark _)).imp fun σ H Q q => tD_2 he q
  · cases hc
end
end DE
set_option maxHeartbeats 4000000
/-! DE26: sum of a list, of a tuple. -/
namespace DE
open PySem PySem.Spec PyProof.Rows L2
section
variable {prog : Program} {w : World} {A : Around} {E : Value → Shared → Prop} {s : Shared}
theorem tup_sum {a : Addr} {its : List Value} {ns : List Int} {Q : Value → Shared → Prop} (hh : A.handled = none) (ht : s.heap.IsTuple a its.toArray) (hi : IntsAre its ns)
    (k : ∀ h' tk t', (∀ b o, s.heap.get? b = some o → h'.get? b = some o) → Q (.int ns.sum t') { s with heap := h', toks := tk }) : wpAny (model prog w) A (call (.builtin "sum") [.ref a]) Q E s := by
  obtain ⟨xs, e⟩ := hi.allInts.items
  have total : (xs.toList.map (·.1)).sum = ns.sum := by rw [← nums_intItems, ← e, hi.numsOf]
  have old : a < s.heap.objs.size := let ⟨_, z, _⟩ := ht; Heap.lt_size z
  have apart : a ≠ s.heap.objs.size := Nat.ne_of_lt old
  rw [e] at ht
  refine call_sum_walkG (wpAny_pyIter_tuple ht ?_)
  refine ⟨_, _, _, _, _, _, numAt xs, rfl, Walks.tuple (A := A.in1) hh s.heap.objs.size a apart (intItems xs), ⟨⟨_, Heap.get?_push_size _ rfl, rfl, rfl⟩, ht.push _⟩, fun b hb => ?_, fun _ _ => intItems_at, fun h' tk t' hk => ?_⟩
  · show b < (s.heap.push _).objs.size
    rw [Heap.size_push]
    rcases List.mem_cons.mp hb with rfl | hb
    · exact Nat.lt_succ_self _
    · obtain rfl : b = a := by simpa using hb
      exact Nat.lt_succ_of_lt old
  · have q := k h' tk t' fun b o z => hk b o (fun m => by
      obtain rfl : b = s.heap.objs.size := by simpa using m
      exact absurd (Heap.lt_size z) (Nat.lt_irrefl _)) (Heap.get?_push_of_some _ z)
    have f : preSum (numAt xs) (intItems xs).size = ns.sum := by
      rw [preSum_eq, List.take_of_length_le (by simp [intItems]), total]
    rw [f]
    exact q
end
section
variable {T : Type} {G : Pg T} {M : Md T} {X : Cx}
def fSum : List Dk → T → R T Dk
  | [(.lst xs, _)], t => ofO ((intsOf xs).map fun ns => (.int ns.sum, .fz)) t
  | [(.tup xs, _)], t => ofO ((intsOf xs).map fun ns => (.int ns.sum, .fz)) t
  | _, _ => .no
def pSum : Prim T := { chk := chkCall "sum", f := fSum }
theorem cr_sumO (hK : M.K = X.K) (hc : X.calm = true) (W : XK) : CallR X (.builtin "sum") (rN M W (fSum (T := T))) := by
  intro pins s σ H vs us Q I r ⟨B, H0, F, t, ds, nw, hv, _, q⟩
  replace q := q.here
  cases hv with
  | nil => exact (show False from q).elim
  | cons h1 l =>
    rename_i v dd vs2 ds2
    obtain ⟨d, k⟩ := dd
    cases l with
    | cons _ _ => cases d <;> exact (show False from q).elim
    | nil =>
      cases d <;> (try exact (show False from q).elim)
      case lst xs =>
        obtain ⟨_, e1, q1⟩ := PostG.ofO (show PostG M W F H (ofO ((intsOf xs).map fun ns => (D.int ns.sum, Kd.fz)) t) _ from q)
        obtain ⟨ns, e2, rfl⟩ := Option.map_eq_some_iff.mp e1
        obtain ⟨a, ws, rfl, hs, rl⟩ := h1.lst nw.fh
        obtain rfl := intsOf_rep rl e2
        exact cr_sum hc pins s σ H _ us Q I r ⟨a, ns, rfl, .inl hs, q1 F H (.refl nw.fh nw.tap nw.ntp) _ (Rep.int _)⟩
      case tup xs =>
        obtain ⟨_, e1, q1⟩ := PostG.ofO (show PostG M W F H (ofO ((intsOf xs).map fun ns => (D.int ns.sum, Kd.fz)) t) _ from q)
        obtain ⟨ns, e2, rfl⟩ := Option.map_eq_some_iff.mp e1
        obtain ⟨a, ws, rfl, hs, _, rl, _⟩ := h1.tup nw.fh
        obtain rfl := intsOf_rep rl e2
        rw [hK] at hs
        obtain ⟨its, rv, ht, _⟩ := I.tuple hs
        rw [Vals.ref1 r]
        exact tup_sum (I.ok.hd hc) ht rv.ints fun h' tk t' hk => ⟨.int _, H, I.kept hk, ⟨_, rfl⟩, q1 F H (.refl nw.fh nw.tap nw.ntp) _ (Rep.int _)⟩
theorem sum_ok (hK : M.K = X.K) (hc : X.calm = true) (free : X.mg "sum" = none) : PrimOk G M X (pSum (T := T)) :=
  prim_call rfl (.inl ⟨"sum", rfl⟩) boot_sum (by decide) free fun _ W => cr_sumO hK hc W
end
end DE
set_option maxHeartbeats 4000000
/-! DE27: loops over lambdas: for w in [lambda: e, ..]: .. _law_caught(w) .. -/
namespace DE
open PySem PySem.Spec PyProof.Rows L2

section
variable {T : Type} {M : Md T}
/-- what is told of an object for good may be counted among the frozen -/
theorem Stp.putExt {F H F1 H1 : Hp} {t : T} (s : Stp M F H F1 H1 t) {a : Addr} {φ : Heap → Prop} (e : H1 a = some (.ext φ)) (h : F1 a = none ∨ F1 a = some (.ext φ)) (nt : ¬ M.tp.own a) : Stp M F H (putF F1 H1 a) H1 t where
  fh := fun b x q => by
    unfold putF at q
    by_cases z : b = a
    · subst z; rw [if_pos rfl] at q; exact q
    · rw [if_neg z] at q; exact s.fh _ _ q
  tap := s.tap
  ntp := fun b hb => by
    unfold putF
    by_cases z : b = a
    · subst z; exact absurd hb nt
    · rw [if_neg z]; exact s.ntp b hb
  ff := fun b x q => putF_same e h b x (s.ff b x q)
  new := fun b x q => by
    unfold putF at q
    by_cases z : b = a
    · subst z
      cases e0 : H b with
      | none => exact .inr (.inl rfl)
      | some y =>
        rw [s.hh b y e0 nt] at e
        cases e
        exact .inr (.inr ⟨φ, rfl⟩)
    · rw [if_neg z] at q; exact s.new b x q
  hh := s.hh
  tb := s.tb
end
/-- a def's object, told of -/
def FnO (f : Addr) (ob : Obj) : HO := .ext fun h => h.get? f = some ob
section
variable {X : Cx} {pins : List (Addr × Obj)} {σ : L2.St} {H : Hp} {s : Shared}
theorem inv_trackN (I : Inv X pins σ H s) {a : Addr} {oe : Obj} (ha : s.heap.get? a = some oe) (nc : ∀ v, oe.data ≠ .cell v) (na : H a = none) (n0 : X.s_0.heap.get? a = none) (nL : a ≠ X.env.locals)
    (hp : ∀ p ∈ X.pn ++ pins, p.1 ≠ a) : Inv X pins σ (upd H a (FnO a oe)) s := by
  have old : ∀ {b : Addr} {o : Obj}, X.s_0.heap.get? b = some o → b ≠ a := fun {b o} e z => by rw [z, n0] at e; cases e
  have oth : ∀ {b : Addr} {o : HO}, H b = some o → upd H a (FnO a oe) b = some o := fun {b o} e => by rw [upd_ne (ne_of_none e na)]; exact e
  refine ⟨I.ok, I.os, I.bare, ⟨I.base.keep, I.base.slot, fun b o e n x => ?_, I.base.there, fun b xs e => oth (I.base.tups b xs e), fun b o u e => oth (I.base.frzs b o u e), fun b ps e => ?_⟩, I.loc, I.cell, ?_, fun x c e => ?_, fun p q => ?_, fun b o e => ?_, I.len⟩
  · rw [upd_ne (old e)]
    exact I.base.free b o e n x
  · obtain ⟨m, z⟩ := I.base.tbls b ps e
    exact ⟨m, oth z⟩
  · rw [upd_ne (Ne.symm nL)]
    exact I.free
  · have n : c ≠ a := fun z => by
      obtain ⟨v, o, ho, hc⟩ := I.cell x c e
      rw [z, ha] at ho
      cases ho
      exact nc _ hc
    rw [upd_ne n]
    exact I.freeC x c e
  · obtain ⟨h1, h2, h3⟩ := I.pin p q
    exact ⟨h1, by rw [upd_ne (hp p q)]; exact h2, h3⟩
  · by_cases z : b = a
    · subst z
      rw [upd_same] at e
      cases e
      exact ⟨ha, ⟨oe, ha⟩, fun h1 h2 k1 k2 => k2 _ k1⟩
    · rw [upd_ne z] at e
      exact (I.hok b o e).stay (fun _ _ _ q => q) (fun c q => oth q) fun c xs q => oth q
/-- the closure's object of a lambda of the running def -/
abbrev lamObj (X : Cx) (params : Arguments) (body : Expr) (scope : Scope) (pm : Value) (c' : Addr) (ctv : Value) : Obj := PySem.W.kla_obj "<lambda>" (X.env.qual ++ "<lambda>") params body scope (cloFrom X.env.cells scope.names []) pm c' ctv
/-- a lambda is made: its object is new and told of -/
theorem lam_new {Ts : List (Addr × Str)} {c P : Addr} {params : Arguments} {body : Expr} {scope : Scope} {pos : Pos} {E Q : Value → Shared → Prop} (I : Inv X pins σ H s) (TB : LamX.TabB X.base X.mg c P) (ec : X.env.code = .ref c)
    (mT : (P, X.env.qual ++ "<lambda>") ∈ Ts) (uT : ∀ p ∈ Ts, p.1 = P → p.2 = X.env.qual ++ "<lambda>") (tabs : LamX.Tabs Ts H) (nodf : defaultsOf params X.env = ([], [])) (fr : ∀ y ∈ scope.names, y.2 = .free → ∃ c, X.env.cells.lookup y.1 = some c)
    (k : ∀ (f c' : Addr) (pm ctv : Value) (H1 : Hp) (s1 : Shared), Inv X pins σ H1 s1 → LamX.ExtN H H1 → LamX.Tabs Ts H1 → NoT H H1 → H f = none → H1 f = some (FnO f (lamObj X params body scope pm c' ctv)) → H1 c' = some (LamX.CodeO c' (X.env.qual ++ "<lambda>")) → Q (.ref f) s1) :
    wpAny (model X.prog X.w) X.A (eval (.Lambda params body scope pos) X.env) Q E s := by
  obtain ⟨ps, tP, tOk, tIn⟩ := tabs _ mT
  have bt : s.heap.BuiltinsAt X.mg P := TB.bm.keeps I.bk
  have oP : s.heap.get? P = some { cls := .none, data := .fields ps } := I.hok P _ tP
  have fin : ∀ (h' : Heap) (c' : Addr) (pm ctv : Value) (tk : Nat) (H1 : Hp), s.heap.objs.size ≤ h'.objs.size → Inv X pins σ H1 { s with heap := h'.push (lamObj X params body scope pm c' ctv), toks := tk } → LamX.ExtN H H1 → LamX.Tabs Ts H1 →
      H1 h'.objs.size = none → H1 c' = some (LamX.CodeO c' (X.env.qual ++ "<lambda>")) → Q (.ref h'.objs.size) { s with heap := h'.push (lamObj X params body scope pm c' ctv), toks := tk } := fun h' c' pm ctv tk H1 hs J1 en t1 n1 co => by
    have J := inv_dropT I J1
    have nH : H h'.objs.size = none := I.hok.fresh hs
    have nD : dropT H H1 h'.objs.size = none := dropT_none n1
    have co' : dropT H H1 c' = some (LamX.CodeO c' (X.env.qual ++ "<lambda>")) := dropT_of co fun _ z => LamX.codeO_ne _ z
    have there : ∀ {b : Addr} {o : Obj}, s.heap.get? b = some o → b ≠ h'.objs.size := fun {b o} e z => by
      subst z
      exact absurd (Nat.lt_of_lt_of_le (Heap.lt_size e) hs) (Nat.lt_irrefl _)
    have J2 := inv_trackN J (a := h'.objs.size) (Heap.get?_push_size _ rfl) (fun v z => by cases z) nD (by
      cases e : X.s_0.heap.get? h'.objs.size with
      | none => rfl
      | some o => exact absurd (Nat.lt_of_lt_of_le (Heap.lt_size e) (Nat.le_trans I.sz hs)) (Nat.lt_irrefl _)) (fun z => absurd (Nat.lt_of_lt_of_le (z ▸ I.lt) hs) (Nat.lt_irrefl _)) fun p hp => there (I.pin p hp).1
    refine k h'.objs.size c' pm ctv _ _ J2 (fun b o e n => ?_) ?_ ?_ nH upd_same ?_
    · rw [upd_ne (ne_of_none e nH)]
      exact dropT_ext en b o e n
    · exact (dropT_tabs tabs t1).ext fun b o e => by rw [upd_ne (ne_of_none e nD)]; exact e
    · exact (dropT_noT H H1).trans (NoT.upd fun _ z => by cases z)
    · rw [upd_ne (ne_of_none co' nD)]
      exact co'
  refine PySem.W.kla_eval nodf ?_
  cases among : codeAmong pos ps.toList with
  | some cv =>
    obtain ⟨c', rfl, co⟩ := tIn pos cv among
    refine PySem.W.kla_makeFunctionHit (mg := X.mg) (c := c) (P := P) (ps := ps) (closure_ok fr) I.ok.glob (I.mod.glob.keeps I.bk) ec (TB.code.keeps I.bk) oP tOk among bt fun ctv h' tk kp hs => ?_
    exact fin h' c' _ ctv tk H hs (I.kept fun b o e => Heap.get?_push_of_some _ (kp b o e)) (LamX.ExtN.refl H) tabs (I.hok.fresh hs) co
  | none =>
    refine PySem.W.kla_makeFunction (mg := X.mg) (c := c) (P := P) (ps := ps) (closure_ok fr) I.ok.glob (I.mod.glob.keeps I.bk) ec (TB.code.keeps I.bk) oP tOk among TB.gP bt fun c' ctv h' tk kp ge lt rec_ tb => ?_
    obtain ⟨c2, oc, vs, t, e2, oC, dC, vC⟩ := rec_
    cases e2
    have hs : s.heap.objs.size ≤ h'.objs.size := by omega
    have nC : H c' = none := I.hok.fresh ge
    have J1 := LamX.inv_table (t' := tk) (more := #[rawInt pos.line, rawInt pos.col, .ref c']) (h' := h'.push (lamObj X params body scope ((X.mg "__name__").getD .none) c' ctv)) I tP
      (fun b o z e => Heap.get?_push_of_some _ (kp b o z e)) (Heap.get?_push_of_some _ tb) ge ⟨oc, vs, t, Heap.get?_push_of_some _ oC, dC, vC⟩
    have en : LamX.ExtN H (upd (upd H P (.tbl (ps ++ #[rawInt pos.line, rawInt pos.col, .ref c']))) c' (LamX.CodeO c' (X.env.qual ++ "<lambda>"))) := fun b o e n => by
      have z : b ≠ P := fun z => by
        rw [z, tP] at e
        exact n ps (Option.some.inj e).symm
      rw [upd_ne (ne_of_none e nC), upd_ne z]
      exact e
    have ls : (ps ++ #[rawInt pos.line, rawInt pos.col, .ref c']).toList = ps.toList ++ [rawInt pos.line, rawInt pos.col, .ref c'] := by simp
    refine fin h' c' _ ctv tk _ hs J1 en (fun p hp => ?_) ?_ upd_same
    · by_cases z : p.1 = P
      · rw [uT p hp z, z]
        refine ⟨_, by rw [upd_ne (ne_of_none tP nC), upd_same], by rw [ls]; exact PySem.TriplesOk_snoc _ _ _ _ tOk, fun pos' cv e => ?_⟩
        rw [ls] at e
        rcases LamX.among_app _ tOk e with y | y
        · obtain ⟨c0, e1, e3⟩ := tIn pos' cv y
          exact ⟨c0, e1, en _ _ e3 LamX.codeO_ne⟩
        · exact ⟨c', y, upd_same⟩
      · obtain ⟨qs, y1, y2, y3⟩ := tabs p hp
        refine ⟨qs, by rw [upd_ne (ne_of_none y1 nC), upd_ne z]; exact y1, y2, fun pos' cv e => ?_⟩
        obtain ⟨c0, e1, e3⟩ := y3 pos' cv e
        exact ⟨c0, e1, en _ _ e3 LamX.codeO_ne⟩
    · have n1 : h'.objs.size ≠ c' := Nat.ne_of_gt lt
      have n2 : h'.objs.size ≠ P := Nat.ne_of_gt (Nat.lt_of_lt_of_le (Heap.lt_size oP) hs)
      rw [upd_ne n1, upd_ne n2]
      exact I.hok.fresh hs
end
section
variable {X : Cx} {pins : List (Addr × Obj)} {σ : L2.St} {H : Hp} {s : Shared}
/-- work() in the def that got the lambda, whose object is told of -/
theorem act_trk {CXg : CXT} {Eg : XK} {Ng : List Str} {qg : Str} {sg : Scope} {g f c' : Addr} {cdg pm ctv : Value} {params : Arguments} {body : Expr} {scope : Scope} {k i : Nat} {a : Str} {pn : List (Addr × Obj)} {xe : Value → Shared → Prop} {W : WX} {E : XK} {tb : TE} {p1 p2 : Pos}
    (I : Inv X pins σ H s) (L : LamX.LamS X.env.scope scope) (nb : bindArgs (PySem.W.kla_fn "<lambda>" (X.env.qual ++ "<lambda>") params body scope (cloFrom X.env.cells scope.names []) pm (.ref c') ctv) ⟨[], []⟩ = pure [])
    (tk : Takes ((cxOf CXg X.prog X.w X.K X.mg X.base Ng qg sg g cdg X.A X.stack s H Eg).tr pn xe) W) (hW : ∀ cls d σ' H', E cls d H' → W cls d σ' H') (rm : Room (k + 1) (X.A.deeper (envOfC qg sg s.heap.objs.size g cdg)))
    (bd : ∀ (A : Around) (outer : List Env) (s : Shared) (H : Hp), Room k (A.deeper (LamX.lamEnv X scope s.heap.objs.size f c')) → PE (LamX.lamCx X A outer s H E scope f c') body tb)
    (hN : Ng[i]? = some a) (va : Vis sg a) (d1 : (a == ("__debug__" : Str)) = false) (d2 : (a == ("__classdict__" : Str)) = false) :
    PE ((cxOf CXg X.prog X.w X.K X.mg X.base Ng qg sg g cdg X.A X.stack s H Eg).tr pn xe) (.Call (.Name a p1) [] [] p2)
      (fun σZ HZ Q => σZ[i]? = some (some (.ref f)) ∧ (HZ f = some (FnO f (lamObj X params body scope pm c' ctv)) ∧ HZ c' = some (LamX.CodeO c' (X.env.qual ++ "<lambda>"))) ∧ tb σ HZ Q) := by
  refine ⟨fun pinsZ sZ σZ HZ Q IZ ⟨at_, ⟨ho, hc⟩, rd⟩ => ?_⟩
  refine wpAny_Call_Name_kw (thn ((pe_var (pos := p1) (i := i) hN va d1 d2).run pinsZ sZ σZ HZ (fun v H1 => v = .ref f ∧ H1 = HZ) IZ ⟨.ref f, at_, rfl, rfl⟩) fun u s1 ⟨v, H1, J, ru, ev, eH⟩ => ?_)
  subst ev eH
  obtain rfl : u = Value.ref f := ru
  have obj : s1.heap.get? f = some (lamObj X params body scope pm c' ctv) := (J.hok f _ ho).1
  refine PySem.W.callWith_F0 ⟨_, _, _, _, obj⟩ ?_
  obtain ⟨⟨oc, vs, t, k1, k2, k3⟩, _⟩ := J.hok c' _ hc
  have run : codeAny (model X.prog X.w) (X.A.deeper (envOfC qg sg s.heap.objs.size g cdg)) (.call (.ref f) ⟨[], []⟩) (CR (L2.CX X.prog X.w) (envOfC qg sg s.heap.objs.size g cdg :: X.stack) X.prog X.w H1 s1 Q E) s1 := by
    refine PySem.W.kla_callFunE rm.depth obj rfl L.co L.gen rfl ⟨c', oc, vs, t, rfl, k1, k2, k3⟩ ?_
    rw [nb]
    refine wpAny_pure (wpAny_newFunctionEnv (fun y hy => (L.own y hy).2) (fun y hy => nomatch hy) (fun h₁ ns sb => ⟨J.nolimit.fresh _ sb, ?_⟩) L.kind)
    show codeAny _ _ (.expr body (LamX.lamEnv X scope s1.heap.objs.size f c')) _ _
    have kp : ∀ b o, s1.heap.get? b = some o → h₁.get? b = some o := fun b o e => sb.extBut b o (Nat.ne_of_lt (Heap.lt_size e)) (Heap.get?_push_of_some _ e)
    have start := LamX.lam_start2 (f := f) (c' := c') (E := E) (tk := s1.toks + ([] : List (Str × Value)).length) I L J.env0 rm.hd J.base ns kp
    refine PySem.W.kla_codeExpr (wpAny_mono ((bd _ _ s1 H1 (rm.deeper _)).run [] _ _ H1 Q start rd) (fun v s' z => ?_) fun _ _ z => z)
    obtain ⟨v', H', J', rv, z⟩ := z
    exact ⟨v', H', J'.os, J'.bare, J'.base, J'.hok, rv, z⟩
  have pass : Passes (L2.CX X.prog X.w) ((cxOf CXg X.prog X.w X.K X.mg X.base Ng qg sg g cdg X.A X.stack s H Eg).tr pn xe) E := passes_call tk hW
  refine wpAny_call (codeAny_mono run fun r s' z => ?_)
  match r, z with
  | .error e, z => exact pass pinsZ σZ H1 s1 e s' J z
  | .ok (.ret u), z => exact J.after z
  | .ok .next, z => exact z.elim
  | .ok .brk, z => exact z.elim
  | .ok .cont, z => exact z.elim
/-- what _law_caught makes of what it got, whatever is known of it -/
theorem caught_trk {x : Str} {sg : Scope} {g CS f : Addr} {cdg : Value} {bg : List Stmt} {Pc : Hp → Prop} (hb : chkCaught bg = true) (S : FnScope NCa ["work"] sg) (h1 : sg.names.lookup ("caught" : Str) = some .local) (h2 : sg.names.lookup ("error" : Str) = some .local) (hge : sg.names.lookup ("CallError" : Str) = some .globalImplicit) (hme : X.mg "CallError" = some (.ref CS))
    {s : Shared} {H : Hp} {Q : VK} {tl : XK → Hp → VK → Prop} (act : ∀ (W : WX) (pn : List (Addr × Obj)) (xe : Value → Shared → Prop) (E : XK) (p1 p2 : Pos), Takes ((cxOf C8.CX0 X.prog X.w X.K X.mg X.base NCa x sg g cdg X.A X.stack s H C8.E0).tr pn xe) W → (∀ cls d σ' H', E cls d H' → W cls d σ' H') →
      PE ((cxOf C8.CX0 X.prog X.w X.K X.mg X.base NCa x sg g cdg X.A X.stack s H C8.E0).tr pn xe) (.Call (.Name "work" p1) [] [] p2) (fun σZ HZ Q => σZ[0]? = some (some (.ref f)) ∧ Pc HZ ∧ tl E HZ Q)) (hc : Pc H) (h : TTc CS X.K tl H Q) :
    ∃ t, PSs (cxOf C8.CX0 X.prog X.w X.K X.mg X.base NCa x sg g cdg X.A X.stack s H C8.E0).nox bg t ∧ t { nx := fun _ H' => Q .non H', rt := Q } (L2.start NCa [.ref f]) H := by
  unfold chkCaught at hb
  split at hb
  · rename_i m1 p1 j1 p2 p3 a p4 p5 p6 e p7 n m2 p8 n2 p9 p10 p11 p12 m3 p13 p14
    obtain ⟨hb, e7⟩ := and3 hb
    obtain ⟨hb, e6⟩ := and3 hb
    obtain ⟨hb, e5⟩ := and3 hb
    obtain ⟨hb, e4⟩ := and3 hb
    obtain ⟨hb, e3⟩ := and3 hb
    obtain ⟨e1, e2⟩ := and3 hb
    obtain rfl := of_decide_eq_true e1
    obtain rfl := of_decide_eq_true e2
    obtain rfl := of_decide_eq_true e3
    obtain rfl := of_decide_eq_true e4
    obtain rfl := of_decide_eq_true e5
    obtain rfl := of_decide_eq_true e6
    obtain rfl := of_decide_eq_true e7
    have try_ := ps_try_hold (X := (cxOf C8.CX0 X.prog X.w X.K X.mg X.base NCa x sg g cdg X.A X.stack s H C8.E0).nox) (x := "CallError") (n := "error") (m := "caught") (c := .ref CS) (i := 2) (j := 1) (np := p7) (p1 := p11) (p2 := p12) (p3 := p8) (p4 := p9) (p5 := p10) (body := [.Expr (.Call (.Name "work" p4) [] [] p5) p6])
      (tb := fun W D σ H => ∃ E : XK, (∀ cls d σ' H', E cls d H' → W cls d σ' H') ∧ σ[0]? = some (some (.ref f)) ∧ Pc H ∧ tl E H fun _ H' => D.nx σ H')
      rfl rfl S.nd rfl rfl (by decide) h2 h1 ⟨hge, by decide, .inl hme⟩ rfl (by decide) (by decide) fun W pn xe tk _ => ?_
    · refine ⟨_, pss_cons (ps_set (i := 1) S.nd rfl (.inl h1) pe_non rfl (.inr h1)) (pss_cons try_ (pss_one (ps_ret (pe_var (i := 1) rfl (.inl h1))))), ?_⟩
      refine ⟨fun cls d H' => PySem.W.exmOne X.K cls (.ref CS) = some true ∧ ∃ C, cls = .ref C ∧ ∀ a, H' a = none → Q (.ref a) (upd H' a (ExV C d a)), fun cls d σ' H' ⟨k1, C, k2, k3⟩ => ⟨k1, C, k2, fun a na hl => ?_⟩, rfl, hc, h⟩
      match σ', hl with
      | [z0, z1, z2], _ => exact ⟨.ref a, rfl, k3 a na⟩
    · refine ⟨fun pinsZ sZ σZ HZ D I ⟨E, hW, k1, k2, k3⟩ => ?_⟩
      have pe := act W pn xe E p4 p5 tk hW
      exact (pss_one (ps_expr (pos := p6) pe)).run pinsZ sZ σZ HZ D I ⟨k1, k2, k3⟩
  · cases hb
/-- _law_caught(w), w a lambda that is told of -/
theorem pe_cwk {i k : Nat} {z : Str} {g CS f c' : Addr} {pm ctv : Value} {body : Expr} {scope : Scope} {t : XK → TE} {p p2 pos : Pos} (Ca : CaughtAt X.K X.mg g CS) (hg : Gl X "_law_caught") (hN : X.N[i]? = some z) (hv : Vis X.env.scope z) (d1 : (z == ("__debug__" : Str)) = false) (d2 : (z == ("__classdict__" : Str)) = false)
    (rm : Room (k + 2) X.A) (L : LamX.LamS X.env.scope scope) (bd : ∀ (A : Around) (outer : List Env) (s : Shared) (H : Hp) (E : XK), Room k (A.deeper (LamX.lamEnv X scope s.heap.objs.size f c')) → PE (LamX.lamCx X A outer s H E scope f c') body (t E)) :
    PE X (.Call (.Name "_law_caught" p) [.Name z p2] [] pos) (fun σ H Q => σ[i]? = some (some (.ref f)) ∧ (H f = some (FnO f (lamObj X ⟨[], [], none, [], [], none, []⟩ body scope pm c' ctv)) ∧ H c' = some (LamX.CodeO c' (X.env.qual ++ "<lambda>"))) ∧ TTc CS X.K (fun E H' Q' => t E σ H' Q') H Q) := by
  obtain ⟨pg, bg, sg, dV, kV, doc, pm2, cdg, ct, oc, an, od, osl, lk, ck, bk, Sg, va, hbg, n1, n2, n3⟩ := Ca.ex
  refine ⟨fun pins s σ H Q I ⟨at_, hc, rd⟩ => wpAny_Call_Name_kw (ld_glob I hg Ca.gm (PySem.W.callWith_K (h₀ := X.base) I.ok.mod.kin Ca.kg ?_ (by rfl) (by rfl)) (by decide))⟩
  show wpAny _ _ (spliced ((false, eval (.Name z p2) X.env) :: backTo pos (starEach [] X.env))) _ _ s
  refine Calls.spliced_cons (thn ((pe_var (pos := p2) (i := i) hN hv d1 d2).run pins s σ H (fun v H1 => v = .ref f ∧ H1 = H) I ⟨.ref f, at_, rfl, rfl⟩) fun u s1 ⟨v, H1, J, ru, ev, eH⟩ => ?_)
  subst ev eH
  obtain rfl : u = Value.ref f := ru
  refine Calls.spliced_nil ⟨J.kIn, wpAny_call (codeAny_mono (LamX.run_ofS (CX := C8.CX0) (Q := Q) (E := C8.E0) (N := NCa) (ps := ["work"]) (us := [.ref f]) (vs := [.ref f]) lk ck Sg rm J.env0 (bk s1 [.ref f] J.kIn rfl) (.cons rfl .nil) rfl fun rm1 => ?_) fun r s2 e2 => ?_)⟩
  · obtain ⟨u, hu, eu⟩ := caught_trk (X := X) (x := "_law_caught") (Pc := fun HZ => HZ f = some (FnO f (lamObj X ⟨[], [], none, [], [], none, []⟩ body scope pm c' ctv)) ∧ HZ c' = some (LamX.CodeO c' (X.env.qual ++ "<lambda>"))) hbg Sg n1 n2 n3 Ca.gC
      (fun W pn xe E q1 q2 tk hW => act_trk (i := 0) J L rfl tk hW rm1 (fun A outer s H r2 => bd A outer s H E r2) rfl va (by decide) (by decide)) hc rd
    exact ⟨u, hu.nox, eu⟩
  · match r, e2 with
    | .error e, e2 => exact (show False from e2).elim
    | .ok (.ret u), e2 => exact J.after e2
    | .ok .next, e2 => exact e2.elim
    | .ok .brk, e2 => exact e2.elim
    | .ok .cont, e2 => exact e2.elim
end
end DE
set_option maxHeartbeats 4000000
/-! DE28: the lambdas of a loop made, and handed on one by one. -/
namespace DE
open PySem PySem.Spec PyProof.Rows L2

section
variable {T : Type} {G : Pg T} {M : Md T} {X : Cx}
/-- what a lambda without parameters becomes: its object, its code object -/
def ClosAt (X : Cx) (x : Expr) (v : V × List (Addr × HO)) : Prop := ∃ (params : Arguments) (body : Expr) (scope : Scope) (lpos : Pos) (f c' : Addr) (pm ctv : Value), x = .Lambda params body scope lpos ∧ v = (.ref f, [(f, FnO f (lamObj X params body scope pm c' ctv)), (c', LamX.CodeO c' (X.env.qual ++ "<lambda>"))])
inductive ClosL (X : Cx) : List Expr → List (V × List (Addr × HO)) → Prop
  | nil : ClosL X [] []
  | cons {x : Expr} {xs : List Expr} {v : V × List (Addr × HO)} {vs : List (V × List (Addr × HO))} : ClosAt X x v → ClosL X xs vs → ClosL X (x :: xs) (v :: vs)
theorem ClosL.length {xs : List Expr} {vs : List (V × List (Addr × HO))} (h : ClosL X xs vs) : vs.length = xs.length := by
  induction h with
  | nil => rfl
  | cons _ _ ih => rw [List.length_cons, List.length_cons, ih]
/-- a lambda made -/
theorem pe_lam1 {tp0 : Tp T} {Ts : List (Addr × Str)} (hM : M.tp = tpTab tp0 Ts) (te : ∀ {H H1 : Hp} {t : T}, tp0.At H t → LamX.ExtN H H1 → tp0.At H1 t) (tn : ∀ {H : Hp} {t : T} {a : Addr} {φ : Heap → Prop}, tp0.At H t → tp0.own a → H a ≠ some (.ext φ))
    {c Pt : Addr} (TB : LamX.TabB X.base X.mg c Pt) (ec : X.env.code = .ref c) (mT : (Pt, X.env.qual ++ "<lambda>") ∈ Ts) (uT : ∀ p ∈ Ts, p.1 = Pt → p.2 = X.env.qual ++ "<lambda>") {params : Arguments} {body : Expr} {scope : Scope} {lpos : Pos} (L : LamX.LamS X.env.scope scope) (nodf : defaultsOf params X.env = ([], [])) :
    PE X (.Lambda params body scope lpos) (fun σ H Q => ∃ ρ t F, Sx M F H σ ρ t ∧ ∀ F' H' v, Stp M F H F' H' t → ClosAt X (.Lambda params body scope lpos) v → (∀ p ∈ v.2, F' p.1 = some p.2) → Q v.1 H') := by
  refine ⟨fun pins s σ H Q I ⟨ρ, t, F, sx, q⟩ => ?_⟩
  have tab : (tpTab tp0 Ts).At H t := by rw [← hM]; exact sx.tap
  refine lam_new I TB ec mT uT tab.2.1 nodf (L.has I.ok) fun f c' pm ctv H1 s1 J en t1 nt nf ho hc => ?_
  have st := stp_ext hM te sx.fh sx.tap sx.ntp en t1 nt
  have tab1 : (tpTab tp0 Ts).At H1 t := by rw [← hM]; exact st.tap
  have apart : ∀ {a : Addr} {φ : Heap → Prop}, H1 a = some (.ext φ) → ¬ M.tp.own a := fun {a φ} e h => by
    rw [hM] at h
    rcases h with h | ⟨y, h⟩
    · exact tn tab1.1 h e
    · obtain ⟨ps, e2, _⟩ := tab1.2.1 _ h
      rw [e] at e2
      cases e2
  have s2 := st.putExt ho (.inl (nf_new sx.fh nf)) (apart ho)
  have hc2 : putF F H1 f c' = none ∨ putF F H1 f c' = some (LamX.CodeO c' (X.env.qual ++ "<lambda>")) := by
    cases e : putF F H1 f c' with
    | none => exact .inl rfl
    | some x =>
      have e2 := s2.fh _ _ e
      rw [hc] at e2
      exact .inr (e2 ▸ rfl)
  have s3 := s2.putExt hc hc2 (apart hc)
  refine ⟨.ref f, H1, J, rfl, q _ _ (.ref f, [(f, FnO f (lamObj X params body scope pm c' ctv)), (c', LamX.CodeO c' (X.env.qual ++ "<lambda>"))]) s3 ⟨params, body, scope, lpos, f, c', pm, ctv, rfl, rfl⟩ fun p hp => ?_⟩
  have f1 : putF F H1 f f = some (FnO f (lamObj X params body scope pm c' ctv)) := by unfold putF; rw [if_pos rfl]; exact ho
  rcases List.mem_cons.mp hp with rfl | hp
  · exact putF_same hc hc2 _ _ f1
  · obtain rfl : p = (c', LamX.CodeO c' (X.env.qual ++ "<lambda>")) := by simpa using hp
    show putF _ H1 c' c' = _
    unfold putF
    rw [if_pos rfl]
    exact hc
theorem pa_lams {tp0 : Tp T} {Ts : List (Addr × Str)} (hM : M.tp = tpTab tp0 Ts) (te : ∀ {H H1 : Hp} {t : T}, tp0.At H t → LamX.ExtN H H1 → tp0.At H1 t) (tn : ∀ {H : Hp} {t : T} {a : Addr} {φ : Heap → Prop}, tp0.At H t → tp0.own a → H a ≠ some (.ext φ))
    {c Pt : Addr} (TB : LamX.TabB X.base X.mg c Pt) (ec : X.env.code = .ref c) (mT : (Pt, X.env.qual ++ "<lambda>") ∈ Ts) (uT : ∀ p ∈ Ts, p.1 = Pt → p.2 = X.env.qual ++ "<lambda>") {sc : Scope} (hsc : X.env.scope = sc) {es : Es} {xs : List Expr} (tx : LamTx G M X sc es xs) :
    PA X xs (fun σ H Q => ∃ ρ t F, Sx M F H σ ρ t ∧ ∀ F' H' vs, Stp M F H F' H' t → ClosL X xs vs → (∀ v ∈ vs, ∀ p ∈ v.2, F' p.1 = some p.2) → Q (vs.map (·.1)) H') := by
  induction tx with
  | nil => exact pa_nil.imp fun σ H Q ⟨ρ, t, F, sx, q⟩ => q F H [] sx.stp .nil fun v hv => nomatch hv
  | @cons e es params body scope lpos xs hL hA hb _ ih =>
    obtain rfl := noArgs_df hA
    have L : LamX.LamS X.env.scope scope := by rw [hsc]; exact LamX.lamS_by hL
    refine (pa_cons (pe_lam1 hM te tn TB ec mT uT L rfl) ih).imp fun σ H Q ⟨ρ, t, F, sx, q⟩ => ?_
    refine ⟨ρ, t, F, sx, fun F1 H1 v s1 c1 tr1 => ⟨ρ, t, F1, sx.step s1, fun F2 H2 vs s2 cl tr2 => q F2 H2 (v :: vs) (s1.trans s2) (.cons c1 cl) fun u hu p hp => ?_⟩⟩
    rcases List.mem_cons.mp hu with rfl | hu
    · exact s2.ff _ _ (tr1 p hp)
    · exact tr2 u hu p hp
/-- what stands at a number -/
theorem lamTx_at {sc : Scope} {es : Es} {xs : List Expr} (tx : LamTx G M X sc es xs) {vs : List (V × List (Addr × HO))} (cl : ClosL X xs vs) {k : Nat} {v : V × List (Addr × HO)} (h : vs[k]? = some v) :
    ∃ (e : E) (body : Expr) (scope : Scope) (f c' : Addr) (pm ctv : Value), (lamFns G es)[k]? = some (fun ρ t => evalE G e ρ t) ∧ LamX.lamSB sc scope = true ∧ (∀ (f : Nat → Option (V × List (Addr × HO))) (X' : Cx) (W' : XK), X'.N = X.N → Ct0 G (M.wv f) X' scope → Takes X' (fun c d _ H => W' c d H) → PE X' body (tD (M.wv f) G W' e)) ∧
      v = (.ref f, [(f, FnO f (lamObj X ⟨[], [], none, [], [], none, []⟩ body scope pm c' ctv)), (c', LamX.CodeO c' (X.env.qual ++ "<lambda>"))]) := by
  induction tx generalizing vs k with
  | nil => cases cl; simp at h
  | @cons e es params body scope lpos xs hL hA hb _ ih =>
    obtain rfl := noArgs_df hA
    cases cl with
    | cons c1 cl =>
      cases k with
      | zero =>
        obtain ⟨params2, body2, scope2, lpos2, f, c', pm, ctv, e1, rfl⟩ := c1
        cases e1
        exact ⟨e, body, scope, f, c', pm, ctv, rfl, hL, hb, (Option.some.inj (by simpa using h)).symm⟩
      | succ k => exact ih cl (by simpa using h)
end
section
variable {T : Type} {G : Pg T} {M : Md T} {P : Program} {w : World} {K : PySem.W.Frag} {mg : Str → Option Value} {base : Heap} {k : Nat}
/-- a lambda's body has the facts too -/
theorem lam_ct0 (W : Wd G M P w K mg base k) {N : List Str} {qual : Str} {scope0 : Scope} {f : Addr} {cdv : Value} {A : Around} {outer : List Env} {s : Shared} {H : Hp} {E : XK} {ps : List Str} (S : FnScope N ps scope0) {scope : Scope} (L : LamX.LamS scope0 scope)
    {A' : Around} {outer' : List Env} {s' : Shared} {H' : Hp} {E' : XK} {f' c' : Addr} (rm : Room k (A'.deeper (LamX.lamEnv (cxOf (CX P w) P w K mg base N qual scope0 f cdv A outer s H E) scope s'.heap.objs.size f' c'))) :
    Ct0 G M (LamX.lamCx (cxOf (CX P w) P w K mg base N qual scope0 f cdv A outer s H E) A' outer' s' H' E' scope f' c') scope := by
  have no : ∀ x, scope.names.lookup x = some .local ∨ scope.names.lookup x = some .cell → False := fun x h => by
    rcases h with h | h
    · exact (L.own _ (PySem.mem_of_lookup h)).1 rfl
    · exact (L.own _ (PySem.mem_of_lookup h)).2 rfl
  have un : (LamX.lamCx (cxOf (CX P w) P w K mg base N qual scope0 f cdv A outer s H E) A' outer' s' H' E' scope f' c').A.units + 65 < cLine := by
    have := rm.un
    show (A'.deeper (LamX.lamEnv (cxOf (CX P w) P w K mg base N qual scope0 f cdv A outer s H E) scope s'.heap.objs.size f' c')).units + 65 < cLine
    omega
  have bs : Bs P w K mg base k (LamX.lamCx (cxOf (CX P w) P w K mg base N qual scope0 f cdv A outer s H E) A' outer' s' H' E' scope f' c') := ⟨rfl, rfl, rfl, rfl, rfl, rm, rfl, S.nd, un⟩
  refine ⟨fun x h => ?_, fun x h => h, fun x h => (no x h).elim, fun x h => h, W.hK, rfl, S.nd, un, W.free, W.con, fun i fi h e => ?_, ⟨P, w, K, mg, base, k, bs, fun i p e X b => W.prm G.lams M.vl i p e X b⟩, ⟨P, w, K, mg, base, k, bs, fun i p e X b => W.prmI G.lams M.vl i p e X b⟩⟩
  · unfold isLoc at h
    show scope.names.lookup x = _ ∨ scope.names.lookup x = _ ∨ scope.names.lookup x = _
    split at h
    · rename_i e; exact .inl e
    · rename_i e; exact .inr (.inl e)
    · rename_i e; exact .inr (.inr e)
    · cases h
  · obtain ⟨nb, f', fd, fg, ok, h1, h2, h3⟩ := W.fns i fi h e
    exact ⟨nb, f', fd, k, fg, ok, rm, h1, h2, h3⟩
/-- from what _law_caught gives as data to what it asks -/
theorem ttc_of {e : E} {ρ : En} {t : T} {F H : Hp} {σ : L2.St} {CS : Addr} {W0 : XK} {Q : VK} {n : Nat} (sx : Sx M F H σ ρ t) (xs : ∀ c, c < n → PySem.W.exmOne K (.ref (M.CA c)) (.ref CS) = some true)
    (q : PostG M W0 F H (caughtR n (evalE G e ρ t)) fun d t' F' H' => ∀ v, VRep (M := M) (Bo σ ρ) H F' H' v d → Q v H') : TTc CS K (fun E H' Q' => tD M G E e σ H' Q') H Q := by
  refine ⟨ρ, t, F, sx, ?_⟩
  cases ee : evalE G e ρ t with
  | no => rw [ee] at q; exact q.elim
  | ok d t1 =>
    rw [ee] at q
    exact fun F' H' s' v hv => ⟨.non, rfl, q F' H' s' .non Rep.non⟩
  | ex c v t1 =>
    rw [ee] at q
    intro F' H' cls d s' ⟨ec1, hv⟩
    have q1 : PostG M W0 F H (if c < n then DE.R.ok (DE.D.exc c v, Kd.fz) t1 else .no) _ := q
    split at q1
    · rename_i hc
      subst ec1
      refine ⟨xs c hc, M.CA c, rfl, fun a na => ?_⟩
      cases v with
      | none =>
        have hv : d = none := hv
        subst hv
        exact q1 _ _ (s'.trans (Stp.newF s'.fh s'.tap s'.ntp na)) _ (Rep.exc0 upd_same)
      | some x =>
        obtain ⟨dx, u, rfl, hx, r, nf, ntx, nx⟩ := hv
        have s3 := s'.put hx (.inl nf) ntx nx
        have hp : putF F' H' dx dx = some (.xd [(M.atr c, u)]) := by unfold putF; rw [if_pos rfl]; exact hx
        have ne : dx ≠ a := ne_of_none hx na
        have s4 := Stp.newF (M := M) (o := ExV (M.CA c) (some dx) a) s3.fh s3.tap s3.ntp na
        exact q1 _ _ (s3.trans s4) _ (Rep.exc1 upd_same (by rw [upd_ne ne]; exact hp) ((r.same (putF_same hx (.inl nf))).same s4.ff))
    · exact q1.elim
/-- the lambdas of a loop, handed on one by one -/
theorem lw_of {X : Cx} {g CS : Addr} {sc : Scope} (Ca : CaughtAt X.K X.mg g CS) (rm : Room (k + 2) X.A) (hsc : X.env.scope = sc) {es : Es} {ls : List Expr} (tx : LamTx G M X sc es ls) {vs : List (V × List (Addr × HO))} (cl : ClosL X ls vs)
    (bd : ∀ (vl : Nat → Option (V × List (Addr × HO))) (scope : Scope), LamX.LamS sc scope → ∀ (A' : Around) (outer' : List Env) (s' : Shared) (H' : Hp) (E' : XK) (f' c' : Addr), Room k (A'.deeper (LamX.lamEnv X scope s'.heap.objs.size f' c')) → Ct0 G (M.wv vl) (LamX.lamCx X A' outer' s' H' E' scope f' c') scope)
    (xs : ∀ c, c < G.cls.length → PySem.W.exmOne X.K (.ref (M.CA c)) (.ref CS) = some true) : LW (G.wl (lamFns G es)) (M.wv fun k => vs[k]?) X := by
  intro W0 tk hg i z p p2 pos hN hv d1 d2
  refine ⟨fun pins sv σ Hv Q I ⟨ρ, t, F, sx, q⟩ => ?_⟩
  rw [evalE] at q
  split at q
  · rename_i kk ek
    obtain ⟨v, l, e1, e2, e3⟩ := sx.lk i kk ek
    obtain ⟨e, body, scope, f', c', pm, ctv, k1, k2, k3, k4⟩ := lamTx_at tx cl e1
    cases k4
    have k1' : (G.wl (lamFns G es)).lams[kk]? = some (fun ρ t => evalE G e ρ t) := k1
    rw [k1'] at q
    have L : LamX.LamS sc scope := LamX.lamS_by k2
    have rule := pe_cwk (X := X) (p := p) (p2 := p2) (pos := pos) (pm := pm) (ctv := ctv) (f := f') (c' := c') (t := fun E => tD (M.wv fun k => vs[k]?) G E e) (k := k) Ca hg hN hv d1 d2 rm (hsc ▸ L)
      (fun A' outer' s' H' E' rm => k3 _ _ E' rfl (bd _ scope L A' outer' s' H' E' f' c' rm) (takes_of rfl rfl rfl rfl))
    have t1 := e3 _ List.mem_cons_self
    have t2 := e3 _ (List.mem_cons_of_mem _ List.mem_cons_self)
    exact rule.run pins sv σ Hv Q I ⟨e2, ⟨sx.fh _ _ t1, sx.fh _ _ t2⟩, ttc_of (M := M.wv fun k => vs[k]?) (W0 := W0) (n := G.cls.length) sx xs q⟩
  · exact q.elim
theorem lams_gen {X : Cx} {g CS : Addr} {sc : Scope} (Ca : CaughtAt X.K X.mg g CS) (rm : Room (k + 2) X.A) (hsc : X.env.scope = sc) {tp0 : Tp T} {Ts : List (Addr × Str)} (hM : M.tp = tpTab tp0 Ts) (te : ∀ {H H1 : Hp} {t : T}, tp0.At H t → LamX.ExtN H H1 → tp0.At H1 t)
    (tn : ∀ {H : Hp} {t : T} {a : Addr} {φ : Heap → Prop}, tp0.At H t → tp0.own a → H a ≠ some (.ext φ)) {c Pt : Addr} (TB : LamX.TabB X.base X.mg c Pt) (ec : X.env.code = .ref c) (mT : (Pt, X.env.qual ++ "<lambda>") ∈ Ts) (uT : ∀ p ∈ Ts, p.1 = Pt → p.2 = X.env.qual ++ "<lambda>")
    (bd : ∀ (vl : Nat → Option (V × List (Addr × HO))) (scope : Scope), LamX.LamS sc scope → ∀ (A' : Around) (outer' : List Env) (s' : Shared) (H' : Hp) (E' : XK) (f' c' : Addr), Room k (A'.deeper (LamX.lamEnv X scope s'.heap.objs.size f' c')) → Ct0 G (M.wv vl) (LamX.lamCx X A' outer' s' H' E' scope f' c') scope)
    (xs : ∀ c, c < G.cls.length → PySem.W.exmOne X.K (.ref (M.CA c)) (.ref CS) = some true) : LamsOk G M X sc := by
  intro hg es ls tg pos tx hlen
  have pa := pa_lams hM te tn TB ec mT uT hsc tx
  refine (pi_list (pe_lst (pos := pos) pa)).imp fun σ H R ⟨ρ, t, F, sx, q⟩ => ?_
  refine ⟨ρ, t, F, sx, fun F1 H1 vs s1 cl tr => ⟨?_, fun p np => ⟨p, rfl, ⟨_, .inl (.inl upd_same)⟩, ?_⟩⟩⟩
  · rw [List.length_map, cl.length, sizeLine_eq]
    omega
  · have s2 := Stp.newF (M := M) (o := .lst (vs.map (·.1))) s1.fh s1.tap s1.ntp np
    exact q _ _ vs p (s1.trans s2) (by rw [cl.length, lamFns_len tx]) (lw_of Ca rm hsc tx cl bd xs) (fun v hv p hp => s2.ff _ _ (tr v hv p hp)) upd_same
/-- THE RULE of a loop over lambdas -/
theorem lams_ok (W : Wd G M P w K mg base k) {N : List Str} {qual : Str} {scope0 : Scope} {f : Addr} {cdv : Value} {A : Around} {outer : List Env} {s : Shared} {H : Hp} {E : XK} {ps : List Str} (S : FnScope N ps scope0)
    (hr : Room (k + 2) (A.deeper (envOfC qual scope0 s.heap.objs.size f cdv))) {tp0 : Tp T} {Ts : List (Addr × Str)} (hM : M.tp = tpTab tp0 Ts) (te : ∀ {H H1 : Hp} {t : T}, tp0.At H t → LamX.ExtN H H1 → tp0.At H1 t) (tn : ∀ {H : Hp} {t : T} {a : Addr} {φ : Heap → Prop}, tp0.At H t → tp0.own a → H a ≠ some (.ext φ))
    {g CS c Pt : Addr} (Ca : CaughtAt K mg g CS) (TB : LamX.TabB base mg c Pt) (ec : cdv = .ref c) (mT : (Pt, qual ++ ".<locals>." ++ "<lambda>") ∈ Ts) (uT : ∀ p ∈ Ts, p.1 = Pt → p.2 = qual ++ ".<locals>." ++ "<lambda>")
    (xs : ∀ c, c < G.cls.length → PySem.W.exmOne K (.ref (M.CA c)) (.ref CS) = some true) : LamsOk G M (cxOf (CX P w) P w K mg base N qual scope0 f cdv A outer s H E) scope0 := by
  exact lams_gen (X := cxOf (CX P w) P w K mg base N qual scope0 f cdv A outer s H E) Ca hr rfl hM te tn TB ec mT uT (fun vl scope L A' outer' s' H' E' f' c' rm => lam_ct0 (W.with G.lams vl) S L rm) xs
end
end DE
set_option maxHeartbeats 4000000
/-! DE29: the end of a law's row, its def called where no writing of a list is under way; tables of code objects. -/
namespace DE
open PySem PySem.Spec PyProof.Rows L2

section
variable {P : Program} {w : World} {K : PySem.W.Frag} {mg mb : Str → Option Value} {k : Nat} {st : Shared} {tabs : List (Addr × Addr)} {script : Addr} {its : List Value} {nums : List Int}
/-- the heap as the law's def finds it: the tables, the script's list (where the program holds it not itself) -/
noncomputable def startH (K : PySem.W.Frag) (tabs : List (Addr × Addr)) (script : Addr) (its : List Value) (nums : List Int) : Hp := fun b => open Classical in
  if ∃ p ∈ tabs, p.2 = b then some (.tbl #[]) else if b = script ∧ K.lookup script = none then some (.frz { cls := .type "list", data := .seq its.toArray } (.lst (nums.map V.int))) else none
theorem startH_some {b : Addr} {u : HO} (h : startH K tabs script its nums b = some u) : ((∃ p ∈ tabs, p.2 = b) ∧ u = .tbl #[]) ∨ (b = script ∧ K.lookup script = none ∧ u = .frz { cls := .type "list", data := .seq its.toArray } (.lst (nums.map V.int))) := by
  unfold startH at h
  split at h
  · rename_i c
    exact .inl ⟨c, (Option.some.inj h).symm⟩
  · split at h
    · rename_i c
      exact .inr ⟨c.1, c.2, (Option.some.inj h).symm⟩
    · cases h
theorem startH_tab {p : Addr × Addr} (h : p ∈ tabs) : startH K tabs script its nums p.2 = some (.tbl #[]) := by
  unfold startH
  rw [if_pos ⟨p, h, rfl⟩]
/-- what the head leaves -/
structure Left (K : PySem.W.Frag) (mg mb : Str → Option Value) (st : Shared) (tabs : List (Addr × Addr)) (script : Addr) (its : List Value) (nums : List Int) : Prop where
  kin : K.In st.heap
  glob : st.heap.Ns mainGlobals mg
  blt : st.heap.Ns builtinsNs mb
  boot : ∀ x : Str, x ≠ "__name__" → mb x = bootBuiltins x
  lim : st.heap.NoLimit
  gens : st.gens = #[]
  tab : ∀ p ∈ tabs, st.heap.get? p.2 = some { cls := .none, data := .fields #[] }
  tabK : ∀ p ∈ tabs, K.lookup p.2 = none
  code : ∀ p ∈ tabs, PySem.W.CodeHd st.heap p.1 p.2
  bmod : ∃ (bm : Addr) (ob : Obj), mg "__builtins__" = some (.ref bm) ∧ bm ≠ builtinsNs ∧ st.heap.get? bm = some ob ∧ ob.cls = .type "module" ∧ ob.dict = some builtinsNs ∧ ob.data = .plain
  list : st.heap.get? script = some { cls := .type "list", data := .seq its.toArray }
  nint : IntsAre its nums
  len : nums.length ≤ sizeLine
section
variable (Z : Left K mg mb st tabs script its nums)
include Z
theorem Left.free {b : Addr} {o : Obj} (e : st.heap.get? b = some o) (n1 : ∀ vs n, o.data ≠ .seq vs n) (n2 : o.data ≠ .fields #[]) : startH K tabs script its nums b = none := by
  cases q : startH K tabs script its nums b with
  | none => rfl
  | some u =>
    exfalso
    rcases startH_some q with ⟨⟨p, hp, rfl⟩, _⟩ | ⟨rfl, _, _⟩
    · rw [Z.tab p hp] at e
      cases e
      exact n2 rfl
    · rw [Z.list] at e
      cases e
      exact n1 _ _ rfl
theorem Left.freeK {b : Addr} {o : Obj} (e : K.lookup b = some o) : startH K tabs script its nums b = none := by
  cases q : startH K tabs script its nums b with
  | none => rfl
  | some u =>
    exfalso
    rcases startH_some q with ⟨⟨p, hp, rfl⟩, _⟩ | ⟨rfl, z, _⟩
    · rw [Z.tabK p hp] at e
      cases e
    · rw [z] at e
      cases e
theorem Left.hok : HOk P w (startH K tabs script its nums) st.heap := fun b u q => by
  rcases startH_some q with ⟨⟨p, hp, rfl⟩, rfl⟩ | ⟨rfl, _, rfl⟩
  · exact Z.tab p hp
  · exact ⟨Z.list, by rw [List.length_map]; exact Z.len, its, _, vals_ints Z.nint, Z.list⟩
theorem Left.ns {b : Addr} {m : Str → Option Value} (h : st.heap.Ns b m) : (hidT st.heap (startH K tabs script its nums)).Ns b m := by
  obtain ⟨o, es, ep, e, d, r⟩ := h
  exact ⟨o, es, ep, hidT_get e (Z.free e (fun vs n z => by rw [d] at z; cases z) fun z => by rw [d] at z; cases z), d, r⟩
theorem Left.mod : L2.Mod K mg (hidT st.heap (startH K tabs script its nums)) :=
  ⟨fun b o e => hidT_get (Z.kin b o e) (Z.freeK e), Z.ns Z.glob, ⟨mb, Z.ns Z.blt, Z.boot⟩, let ⟨mc, h1, h2⟩ := Z.lim; ⟨mc, Z.ns h1, h2⟩⟩
theorem Left.tabB {p : Addr × Addr} (hp : p ∈ tabs) : LamX.TabB (hidT st.heap (startH K tabs script its nums)) mg p.1 p.2 := by
  have tp := Z.tab p hp
  refine ⟨?_, ?_, fun z => ?_⟩
  · obtain ⟨o, us, file, tf, flags, tg, inF, text, tt, e, r1, r2, r3, rest⟩ := Z.code p hp
    refine ⟨o, us, file, tf, flags, tg, inF, text, tt, hidT_get e (Z.free e (fun vs n z => by rw [r2] at z; cases z) fun z => ?_), r1, r2, r3, rest⟩
    rw [r2] at z
    cases z
    simp at r3
  · obtain ⟨bm, ob, b1, b2, b3, b4, b5, b6⟩ := Z.bmod
    refine ⟨bm, ob, b1, b2, fun q => ?_, fun q => ?_, hidT_get b3 (Z.free b3 (fun vs n z => by rw [b6] at z; cases z) fun z => by rw [b6] at z; cases z), b4, b5, b6⟩
    · obtain ⟨o, es, ep, e, d, _⟩ := Z.glob
      rw [q, e] at b3
      cases b3
      rw [d] at b6
      cases b6
    · rw [q, tp] at b3
      cases b3
      cases b6
  · obtain ⟨o, es, ep, e, d, _⟩ := Z.glob
    rw [z, tp] at e
    cases e
    cases d
theorem Left.sq : SqL K (startH K tabs script its nums) script (nums.map V.int) := by
  have apart : ¬ ∃ p ∈ tabs, p.2 = script := fun ⟨p, hp, z⟩ => by
    have e := Z.tab p hp
    rw [z, Z.list] at e
    exact absurd (congrArg Obj.data (Option.some.inj e)) (fun z => nomatch z)
  cases hk : K.lookup script with
  | none =>
    refine .inl (.inr ⟨{ cls := .type "list", data := .seq its.toArray }, ?_⟩)
    unfold startH
    rw [if_neg apart, if_pos ⟨rfl, hk⟩]
  | some o =>
    have e := Z.kin script o hk
    rw [Z.list] at e
    cases e
    exact .inr ⟨_, its.toArray, _, hk, rfl, rfl, rfl, by rw [List.size_toArray, Z.nint.length]; exact Z.len, by simpa using vals_ints Z.nint⟩
/-- the call of the law's def -/
theorem Left.call {CX : CXT} {fa : Addr} {fd : FuncData} {x : Str} {sp : Sp} (rm : Room k callerA)
    (F : ∀ base : Heap, K.In base → base.Ns mainGlobals mg → (∀ p ∈ tabs, LamX.TabB base mg p.1 p.2) → FnG P w K mg base CX k fa fd [x] sp) (bd : ∀ (s : Shared) (u : Value), BindsTo s fd ⟨[u], []⟩ [(x, u)])
    (prom : ∀ H : Hp, (∀ p ∈ tabs, H p.2 = some (.tbl #[])) → (∀ a ps, H a = some (.tbl ps) → ∃ p ∈ tabs, p.2 = a) → SqL K H script (nums.map V.int) → sp [.ref script] H (fun v _ => v = .bl true) fun _ _ _ => False)
    (calm : ∀ H e s', CX [] H st (fun _ _ _ => False) e s' → False) :
    codeAny (model P w) callerA (.call (.ref fa) ⟨[.ref script], []⟩) (fun r s' => r = .ok (.ret (.bool true)) ∧ OldK st.heap s'.heap ∧ s'.os = st.os ∧ AllBare s'.gens) st := by
  have env : Env0 P w K mg (hidT st.heap (startH K tabs script its nums)) callerA [] st (startH K tabs script its nums) :=
    ⟨rfl, Z.mod, fun b o e => of_hidT e, Nat.le_of_eq (hidT_size _ _), trivial, fun b hb => (nomatch hb), Z.hok, .of_eq Z.gens⟩
  have own := prom (startH K tabs script its nums) (fun p hp => startH_tab hp) (fun b ps e => by
    rcases startH_some e with ⟨z, _⟩ | ⟨_, _, z⟩
    · exact z
    · cases z) Z.sq
  refine codeAny_mono ((F _ Z.mod.kin (Z.ns Z.glob) fun p hp => Z.tabB hp).go callerA [] st _ ⟨[.ref script], []⟩ [.ref script] [.ref script] _ _ rm rfl env (bd st (.ref script)) (.cons rfl .nil) own) fun r s' h => ?_
  match r, h with
  | .error e, h => exact (calm _ e s' h).elim
  | .ok .next, h => exact h.elim
  | .ok .brk, h => exact h.elim
  | .ok .cont, h => exact h.elim
  | .ok (.ret u), h =>
    obtain ⟨v, H', os, bare, un, hok', ru, rfl⟩ := h
    obtain rfl : u = Value.bool true := ru
    have stays : ∀ b o, (¬ ∃ p ∈ tabs, p.2 = b) → st.heap.get? b = some o → s'.heap.get? b = some o := fun b o nb e => by
      cases q : startH K tabs script its nums b with
      | none => exact un.keep b o e q (fun z => nomatch (show b ∈ ([] : List Addr) from z)) (fun z => nomatch z)
      | some u =>
        rcases startH_some q with ⟨z, _⟩ | ⟨rfl, _, rfl⟩
        · exact absurd z nb
        · obtain ⟨e2, _⟩ := hok' b _ (un.frzs b _ _ q)
          rw [Z.list] at e
          cases e
          exact e2
    have grows : ∀ p ∈ tabs, ∃ more : Array Value, s'.heap.get? p.2 = some { cls := .none, data := .fields more } := fun p hp => by
      obtain ⟨more, z⟩ := un.tbls p.2 #[] (startH_tab hp)
      exact ⟨_, hok' p.2 _ z⟩
    refine ⟨rfl, ⟨fun b o e => ?_, fun b o e => ?_⟩, os, bare⟩
    · by_cases nb : ∃ p ∈ tabs, p.2 = b
      · obtain ⟨p, hp, rfl⟩ := nb
        obtain ⟨more, z⟩ := grows p hp
        have tp := Z.tab p hp
        rw [tp] at e
        cases e
        exact .inr (.inl ⟨((Z.code p hp).tab tp).isCodeTable, rfl, #[], more, rfl, by rw [Array.empty_append]; exact z⟩)
      · exact .inl (stays b o nb e)
    · by_cases nb : ∃ p ∈ tabs, p.2 = b
      · obtain ⟨p, hp, rfl⟩ := nb
        obtain ⟨more, z⟩ := grows p hp
        exact ⟨_, z⟩
      · exact ⟨o, stays b o nb e⟩
end
end
/-- what is known of a law's def at the head's heap h -/
def LawG (l : PySem.W.OpenLaw) (w : World) (K : PySem.W.Frag) (CX : CXT) (k n : Nat) (x : Str) (mg : Str → Option Value) (fa : Addr) (h : Heap) : Prop :=
  ∃ (fd : FuncData) (tabs : List (Addr × Addr)) (sp : Sp), (∀ p ∈ tabs, h.get? p.2 = some { cls := .none, data := .fields #[] } ∧ K.lookup p.2 = none ∧ PySem.W.CodeHd h p.1 p.2) ∧ (∀ (s : Shared) (u : Value), BindsTo s fd ⟨[u], []⟩ [(x, u)]) ∧
    (∀ (H : Hp) (a : Addr) (ns : List Int), ns.length ≤ n → (∀ z ∈ ns, Builtin.Int.intBits z ≤ 1048576) → (∀ p ∈ tabs, H p.2 = some (.tbl #[])) → (∀ a ps, H a = some (.tbl ps) → ∃ p ∈ tabs, p.2 = a) → SqL K H a (ns.map V.int) → sp [.ref a] H (fun v _ => v = .bl true) fun _ _ _ => False) ∧
    ∀ base : Heap, K.In base → base.Ns mainGlobals mg → (∀ p ∈ tabs, LamX.TabB base mg p.1 p.2) → FnG l.prog w K mg base CX k fa fd [x] sp
theorem walk_ofG {l : PySem.W.OpenLaw} {n k : Nat} {q : Program} {loose : List Str} {XP : (Str → Option Value) → Heap → Prop} {YP : World → Heap → Prop} {d : DefRec} {K : Params → PySem.W.Frag} {CX : World → CXT} {x : Str}
    (most : l.most = some n) (small : n ≤ sizeLine) (nodf : d.params.defaults = []) (rm : Room k callerA) (kin : ∀ (w : World) (h : Heap), YP w h → (K w.params).In h)
    (F : ∀ (w : World) (mg : Str → Option Value) (fa : Addr) (h : Heap), YP w h → (K w.params).In h → h.Ns mainGlobals mg → mg d.name = some (.ref fa) → LawG l w (K w.params) (CX w) k n x mg fa h)
    (calm : ∀ (w : World) (H : Hp) (s : Shared) (e : Value) (s' : Shared), CX w [] H s (fun _ _ _ => False) e s' → False) :
    PySem.W.WalkO q loose XP YP l.row.toRowW d [] (fun f vs => PySem.call f vs) := by
  refine Att.attach_callB most nodf fun w s₀ s₁ mg mb fa o pm cd doc a vs ns G Y _ _ _ at_ obj iz len bits gens => ?_
  have kx := kin w _ Y
  obtain ⟨fd, tabs, sp, ht, hb, hp, hF⟩ := F w mg fa _ Y kx G.T.g at_
  have Z : Left (K w.params) mg mb s₁ tabs a vs ns := ⟨kx, G.T.g, G.T.b, G.T.builtins, G.T.nolimit, gens, fun p m => (ht p m).1, fun p m => (ht p m).2.1, fun p m => (ht p m).2.2, G.T.bmain, obj, iz, Nat.le_trans len small⟩
  exact Z.call rm hF hb (fun H h1 h2 h3 => hp H a ns len bits h1 h2 h3) fun H e s' => calm w H s₁ e s'
end DE
set_option maxHeartbeats 4000000
/-! DE30: attributes of own instances; the program's table grown def by def. -/
namespace DE
open PySem PySem.Spec PyProof.Rows L2
section
variable {T : Type} {G : Pg T} {M : Md T} {X : Cx}
theorem RepF.look {F : Hp} {nm : Str} : ∀ {gs : List (Str × V)} {fs : List (Str × D)} {d : D}, RepF M F gs fs → fs.lookup nm = some d → ∃ v, gs.lookup nm = some v ∧ Rep M F v d
  | _, _, _, .nil, h => by cases h
  | _, _, d, .cons (k := f) r l, h => by
    unfold List.lookup at h ⊢
    cases e : (nm == f) with
    | true =>
      rw [e] at h
      cases h
      exact ⟨_, rfl, r⟩
    | false =>
      rw [e] at h
      exact RepF.look l h
/-- o.f, an attribute that __init__ stored -/
def fAtt (nm : Str) (cs : List Nat) : List Dk → T → R T Dk
  | [(.ins c fs, _)], t => if cs.contains c then (match fs.lookup nm with
    | some d => .ok (d, .fz) t
    | none => .no) else .no
  | _, _ => .no
def pAtt (nm : Str) (cs : List Nat) : Prim T := { chk := chkFld nm, f := fAtt nm cs }
theorem att_ok {nm : Str} {cs : List Nat} (hc : ∀ c ∈ cs, Cls X.K (M.CA c) ∧ NoAttr X.K (M.CA c) nm) : PrimOk G M X (pAtt (T := T) nm cs) := by
  intro sc hg W tk hgd e es x xs hck hall hpa _ _ he
  obtain ⟨xa, pos, rfl, h2, rfl⟩ := chkFld_of (sc := sc) hck
  cases hall with
  | cons h1 _ _ l =>
    cases l
    refine (pe_fld h1 (base_of h2)).imp fun σ H Q q => ?_
    obtain ⟨ρ, t, F0, sx, q⟩ := tD_1 he q
    refine ⟨ρ, t, F0, sx, q.imp fun d t1 F1 H1 s1 k v hv => ?_⟩
    obtain ⟨B, H0, F2, t2, ⟨d2, k2⟩, nw, hv2, q2⟩ := k v hv
    replace q2 := q2.here
    cases d2 <;> (try exact (show False from q2).elim)
    rename_i c fs
    have q3 : PostG M W F2 H1 (if cs.contains c then (match fs.lookup nm with
      | some d => .ok (d, .fz) t2
      | none => .no : R T Dk) else .no) (fun d' t' F' H' => ∀ v', VRep (M := M) B H0 F' H' v' d' → Q v' H') := q2
    split at q3
    · rename_i ec
      obtain ⟨c1, c2⟩ := hc c (by simpa using ec)
      cases el : fs.lookup nm with
      | none => rw [el] at q3; exact q3.elim
      | some d =>
        rw [el] at q3
        obtain ⟨a, dx, gs, rfl, ha, rf⟩ := hv2.ins_at nw.fh
        obtain ⟨u, e1, r⟩ := rf.look el
        exact ⟨a, M.CA c, dx, gs, u, rfl, ha, c1, c2, e1, q3 F2 H1 (.refl nw.fh nw.tap nw.ntp) u r⟩
    · exact q3.elim
end
end DE
set_option maxHeartbeats 2000000
/-! DE31: what the head tells: defs, tables of code objects, getters of properties, any facts of the kept part. -/
namespace DE
open PySem PySem.Spec PyProof.Rows L2 He

/-- a def that is found by a path of its own: what its object must look like (closures by their names) -/
abbrev FnX : Type := Option (Str × Str × Arguments × FuncBody × Scope × Addr × List Str × Addr)
def fnX (K : PySem.W.Frag) (a : Addr) : FnX := match K.lookup a with
  | some ⟨_, _, .func d, _⟩ => some (d.name, d.qualname, d.params, d.body, d.scope, d.globals, d.closure.map (·.1), d.builtins)
  | _ => none
structure XD where
  at_ : PySem.W.Frag → Addr
  name : Str
  qual : Str
  params : Arguments
  body : List Stmt
  scope : Scope
  clo : List Str
  ok : PySem.W.Frag → Bool
def XD.val (d : XD) : FnX := some (d.name, d.qual, d.params, .stmts d.body, d.scope, mainGlobals, d.clo, builtinsNs)
theorem XD.fd {K : PySem.W.Frag} {d : XD} (e : fnX K (d.at_ K) = d.val) : ∃ oc od osl dV kV doc pm an cdv ct clo, K.lookup (d.at_ K) = some ⟨oc, od, .func (PySem.W.fnX d.name d.qual d.params d.body d.scope clo dV kV doc pm an cdv ct), osl⟩ ∧ clo.map (·.1) = d.clo := by
  unfold fnX at e
  cases q : K.lookup (d.at_ K) with
  | none => rw [q] at e; cases e
  | some o =>
    obtain ⟨oc, od, dt, osl⟩ := o
    rw [q] at e
    cases dt with
    | func fd =>
      obtain ⟨n1, n2, n3, n4, n5, n6, n7, n8, n9, n10, n11, n12, n13, n14, n15⟩ := fd
      have e2 : (some (n1, n2, n3, n4, n5, n6, n7.map (·.1), n15) : FnX) = some (d.name, d.qual, d.params, .stmts d.body, d.scope, mainGlobals, d.clo, builtinsNs) := e
      injection e2 with e2
      injection e2 with z1 e2
      injection e2 with z2 e2
      injection e2 with z3 e2
      injection e2 with z4 e2
      injection e2 with z5 e2
      injection e2 with z6 e2
      injection e2 with z7 z8
      subst z1 z2 z3 z4 z5 z6 z8
      exact ⟨oc, od, osl, n8, n9, n10, n11, n12, n13, n14, n7, rfl, z7⟩
    | _ => cases e
/-- the getter of a class's property -/
def gAd (K : PySem.W.Frag) (C f : Str) : Addr := match PySem.W.recIn K (ma K (ga K C) f) "property" with
  | some (.ref g :: _) => g
  | _ => 0
def plainFn (K : PySem.W.Frag) (a : Addr) (q : Str) : Bool := PySem.W.keepIn K (.ref a) && (match K.lookup a with
  | some ⟨_, _, .func fd, _⟩ => PySem.W.codeIn K fd.code q && (dflB K fd.defaults [] && kwdB K fd.kwdefaults [])
  | _ => false)
def propB (K : PySem.W.Frag) (C f q : Str) : Bool :=
  eqO (PySem.W.findIn K (.ref (ga K C)) f) (some (some (.ref (ma K (ga K C) f)))) && (eqO (PySem.W.specialIn K (.ref (ma K (ga K C) f)) "__get__") (some (some (.builtin "property.__get__"))) &&
  (decide (PySem.W.takesIn K (.ref (ma K (ga K C) f)) = some true) && ((match PySem.W.recIn K (ma K (ga K C) f) "property" with
    | some (.ref _ :: _) => true
    | _ => false) && plainFn K (gAd K C f) q)))
/-- a property -/
def prX (C f : Str) (params : Arguments) (body : List Stmt) (scope : Scope) : XD := ⟨fun K => gAd K C f, f, C ++ "." ++ f, params, body, scope, [], fun K => propB K C f (C ++ "." ++ f)⟩
theorem plain_says {K : PySem.W.Frag} {d : XD} (c : plainFn K (d.at_ K) d.qual = true) (e : fnX K (d.at_ K) = d.val) (ec : d.clo = []) : ∃ fd, FunD K d.name d.qual d.params d.body d.scope [] [] (d.at_ K) fd := by
  obtain ⟨oc, od, osl, dV, kV, doc, pm, an, cdv, ct, clo, lk, hclo⟩ := XD.fd e
  rw [ec, List.map_eq_nil_iff] at hclo
  subst hclo
  unfold plainFn at c
  obtain ⟨c1, c2⟩ := ba c
  rw [lk] at c2
  obtain ⟨c3, c4⟩ := ba (show (PySem.W.codeIn K cdv d.qual && (dflB K dV [] && kwdB K kV [])) = true from c2)
  obtain ⟨c5, c6⟩ := ba c4
  exact ⟨_, ⟨oc, od, dV, kV, doc, pm, an, cdv, ct, osl, rfl, lk, c3, dflB_ok c5, kwdB_ok c6⟩, c1⟩
theorem prop_says {K : PySem.W.Frag} {C f : Str} {params : Arguments} {body : List Stmt} {scope : Scope} (c : (prX C f params body scope).ok K = true) (e : fnX K ((prX C f params body scope).at_ K) = (prX C f params body scope).val) :
    PropOf K (ga K C) f (ma K (ga K C) f) (gAd K C f) ∧ ∃ fd, FunD K f (C ++ "." ++ f) params body scope [] [] (gAd K C f) fd := by
  have c : propB K C f (C ++ "." ++ f) = true := c
  unfold propB at c
  obtain ⟨c1, c⟩ := ba c
  obtain ⟨c2, c⟩ := ba c
  obtain ⟨c3, c⟩ := ba c
  obtain ⟨c4, c5⟩ := ba c
  refine ⟨⟨eqO_ok c1, eqO_ok c2, of_decide_eq_true c3, ?_⟩, plain_says (d := prX C f params body scope) c5 e rfl⟩
  unfold gAd
  cases q : PySem.W.recIn K (ma K (ga K C) f) "property" with
  | none => rw [q] at c4; cases c4
  | some l =>
    rw [q] at c4
    match l, c4 with
    | .ref g :: rest, _ => exact ⟨rest, rfl⟩
/-! ### the hook: what the module's names and the interpreter's statics reach -/
def asE (g : Addr → Option Obj) : Nat → List Addr
  | 0 => [mainGlobals, cStatics]
  | n + 1 => growD g (asE g n)
structure SaysY (fa : List Fa) (fn : List DefD) (xs : List XD) (tf : List Defn) (ex : PySem.W.Frag → Bool) (h : Heap) (K : PySem.W.Frag) : Prop where
  d : SaysD fa fn K
  more : ex K = true
  ok : xs.all (fun d => d.ok K) = true
  x : xs.map (fun d => fnX K (d.at_ K)) = xs.map XD.val
  hd : ∀ p ∈ tf, PySem.W.codeHdIn K (cT K p).1 (cT K p).2 = true
  out : ∀ p ∈ tf, K.lookup (cT K p).2 = none
  empty : ∀ p ∈ tf, h.get? (cT K p).2 = some { cls := .none, data := .fields #[] }
abbrev AlY : Type := (AlD × Bool) × List FnX
def obsK (fa : List Fa) (fn : List DefD) (xs : List XD) (tf : List Defn) (ex : PySem.W.Frag → Bool) (g : Addr → Option Obj) (K : PySem.W.Frag) : AlY :=
  ((obsD fa fn K, ex K && (xs.all (fun d => d.ok K) && tabsB g tf K)), xs.map fun d => fnX K (d.at_ K))
def obsY (n : Nat) (fa : List Fa) (fn : List DefD) (xs : List XD) (tf : List Defn) (ex : PySem.W.Frag → Bool) (g : Addr → Option Obj) : AlY := obsK fa fn xs tf ex g (frT g (asE g n))
theorem saysY_of {n : Nat} {fa : List Fa} {fn : List DefD} {xs : List XD} {tf : List Defn} {ex : PySem.W.Frag → Bool} {h : Heap} (e : obsY n fa fn xs tf ex h.get? = ((valD fn, true), xs.map XD.val)) : SaysY fa fn xs tf ex h (frT h.get? (asE h.get? n)) := by
  have e1 := congrArg (fun z : AlY => z.1.1) e
  have e2 := congrArg (fun z : AlY => z.1.2) e
  have e3 := congrArg (fun z : AlY => z.2) e
  obtain ⟨b1, b2⟩ := ba (show (ex _ && (xs.all _ && tabsB h.get? tf _)) = true from e2)
  obtain ⟨b2, b3⟩ := ba b2
  have tab : ∀ p ∈ tf, PySem.W.codeHdIn (frT h.get? (asE h.get? n)) (cT (frT h.get? (asE h.get? n)) p).1 (cT (frT h.get? (asE h.get? n)) p).2 = true ∧ ∃ o, h.get? (cT (frT h.get? (asE h.get? n)) p).2 = some o ∧ emptyTab o = true := fun p hp => by
    obtain ⟨y1, y2⟩ := ba (List.all_eq_true.mp b3 p hp)
    refine ⟨y1, ?_⟩
    revert y2
    cases h.get? (cT (frT h.get? (asE h.get? n)) p).2 with
    | none => exact fun z => nomatch z
    | some o => exact fun z => ⟨o, rfl, z⟩
  refine ⟨e1, b1, b2, e3, fun p hp => (tab p hp).1, fun p hp => ?_, fun p hp => ?_⟩
  · obtain ⟨_, o, y, z⟩ := tab p hp
    exact frT_none y z
  · obtain ⟨_, o, y, z⟩ := tab p hp
    rw [y, emptyTab_eq z]
def hookY (n : Nat) (fa : List Fa) (fn : List DefD) (xs : List XD) (tf : List Defn) (ex : PySem.W.Frag → Bool) : PySem.W.Hook where
  α := AlY
  obs := fun s => obsY n fa fn xs tf ex s.heap.get?
  val := fun _ => ((valD fn, true), xs.map XD.val)
  says := fun _ h => ∃ K : PySem.W.Frag, K.In h ∧ SaysY fa fn xs tf ex h K
  of := fun _ _ e => ⟨_, frT_in, saysY_of e⟩
  keeps := fun _ _ _ ⟨K, hK, c⟩ k => ⟨K, PySem.W.Frag.In.keeps hK k, ⟨c.d, c.more, c.ok, c.x, c.hd, c.out, fun p hp => k _ _ (c.empty p hp)⟩⟩
theorem obsY_eq {n : Nat} {fa : List Fa} {fn : List DefD} {xs : List XD} {tf : List Defn} {ex : PySem.W.Frag → Bool} {g : Addr → Option Obj} {s : Shared} (h : ∀ a, g a = s.heap.get? a) : obsY n fa fn xs tf ex g = (hookY n fa fn xs tf ex).obs s := by
  have e : g = s.heap.get? := funext h
  rw [e]
  rfl
section
variable {fa : List Fa} {fn : List DefD} {xs : List XD} {tf : List Defn} {ex : PySem.W.Frag → Bool} {h : Heap} {K : PySem.W.Frag}
theorem SaysY.fact (c : SaysY fa fn xs tf ex h K) (i : Nat) {f : Fa} (e : fa[i]? = some f := by rfl) : f.ok K = true := c.d.fact i e
theorem SaysY.def_ (c : SaysY fa fn xs tf ex h K) (i : Nat) {d : DefD} (e : fn[i]? = some d := by rfl) : ∃ fd, FunD K d.name d.qual d.params d.body d.scope (d.dvs K) (d.kws K) (fAd K d.at_) fd := c.d.def_ i e
theorem SaysY.xd (c : SaysY fa fn xs tf ex h K) (i : Nat) {d : XD} (e : xs[i]? = some d := by rfl) : d.ok K = true ∧ fnX K (d.at_ K) = d.val := by
  refine ⟨List.all_eq_true.mp c.ok d (List.mem_of_getElem? e), ?_⟩
  have q := congrArg (·[i]?) c.x
  simp only [List.getElem?_map, e, Option.map_some] at q
  exact Option.some.inj q
end
/-! ### the end of the row, the kept part chosen -/
theorem walk_ofY {l : PySem.W.OpenLaw} {n k : Nat} {q : Program} {loose : List Str} {XP : (Str → Option Value) → Heap → Prop} {YP : World → Heap → Prop} {d : DefRec} {CX : World → CXT} {x : Str}
    (most : l.most = some n) (small : n ≤ sizeLine) (nodf : d.params.defaults = []) (rm : Room k callerA)
    (F : ∀ (w : World) (mg : Str → Option Value) (fa : Addr) (h : Heap), YP w h → h.Ns mainGlobals mg → mg d.name = some (.ref fa) → ∃ K : PySem.W.Frag, K.In h ∧ LawG l w K (CX w) k n x mg fa h)
    (calm : ∀ (w : World) (H : Hp) (s : Shared) (e : Value) (s' : Shared), CX w [] H s (fun _ _ _ => False) e s' → False) :
    PySem.W.WalkO q loose XP YP l.row.toRowW d [] (fun f vs => PySem.call f vs) := by
  refine Att.attach_callB most nodf fun w s₀ s₁ mg mb fa o pm cd doc a vs ns G Y _ _ _ at_ obj iz len bits gens => ?_
  obtain ⟨K, kx, fd, tabs, sp, ht, hb, hp, hF⟩ := F w mg fa _ Y G.T.g at_
  have Z : Left K mg mb s₁ tabs a vs ns := ⟨kx, G.T.g, G.T.b, G.T.builtins, G.T.nolimit, gens, fun p m => (ht p m).1, fun p m => (ht p m).2.1, fun p m => (ht p m).2.2, G.T.bmain, obj, iz, Nat.le_trans len small⟩
  exact Z.call rm hF hb (fun H h1 h2 h3 => hp H a ns len bits h1 h2 h3) fun H e s' => calm w H s₁ e s'
end DE
set_option maxHeartbeats 4000000
/-! DE32: an error's __init__ that says super().__init__(".."), then self.f = x. -/
namespace DE
open PySem PySem.Spec PyProof.Rows L2

/-- the def's object, its texts and what the kept part must say -/
structure SupI (P : Program) (K : PySem.W.Frag) (f D : Addr) (fld par : Str) (qual : Str) (params : Arguments) (body : List Stmt) (scope : Scope) (fd : FuncData) : Prop where
  ob : ∃ (oc : Value) (od : Option Addr) (osl : Array (Option Value)) (dV kV doc pm ct : Value) (an : Option Addr) (cda cc : Addr), fd = PySem.W.ksFn "__init__" qual params body scope dV kV doc pm an (.ref cda) ct cc ∧ K.lookup f = some ⟨oc, od, .func fd, osl⟩ ∧ PySem.W.codeIn K (.ref cda) qual = true ∧
    (∃ ccl cdd vs ccs file tf, K.lookup cda = some ⟨ccl, cdd, .fields vs, ccs⟩ ∧ vs[2]? = some (.str file tf) ∧ ((P.main.file : Str) == file) = true) ∧ ∃ cl cld csl, K.lookup cc = some ⟨cl, cld, .cell (some (.ref D)), csl⟩
  tx : ∃ (msg : Str) (j : Nat) (p0 p1 p2 p3 p4 p5 p6 p7 p8 p9 : Pos), body = [.Expr (.Call (.Attribute (.Call (.Name "super" p0) [] [] p1) "__init__" p2) [.Constant (.str msg) j p3] [] p4) p5, .Assign [.Attribute (.Name "self" p6) fld p7] (.Name par p8) p9] ∧
    ∀ env : Env, ∃ pl : Sem Bool, eval (.Call (.Attribute (.Call (.Name "super" p0) [] [] p1) "__init__" p2) [.Constant (.str msg) j p3] [] p4) env = (do
      let ov ← attributeBase (.Call (.Name "super" p0) [] [] p1) "__init__" env (eval (.Call (.Name "super" p0) [] [] p1) env)
      standAt p2.atName
      let (f, first) ← holding [ov] (getMethod ov "__init__" pl)
      callWith p4 f first (backTo p4 (starEach [.Constant (.str msg) j p3] env)) [])
  hd : ∃ ar, (params.posonlyargs ++ params.args).head? = some ar ∧ ar.arg = "self"
  cls : ∃ cdD, PySem.W.clsIn K D = some cdD
  sup : PySem.W.nsIn K mainGlobals "super" = some none
  any : PySem.W.nsIn K cStatics "thirdparty.any" = some none
  ks : scope.names.lookup ("super" : Str) = some .globalImplicit
  kc : scope.names.lookup ("__class__" : Str) = some .free
  kself : scope.names.lookup ("self" : Str) = some .local
  kpar : scope.names.lookup par = some .local
  ncell : ∀ x ∈ scope.names, x.2 ≠ .cell
  only : ∀ x, scope.names.lookup x = some .free → x = "__class__"
  kind : scope.kind = .function
  co : scope.isCoroutine = false
  gen : scope.isGenerator = false
  ne : (par == ("self" : Str)) = false
  nd : (par == ("__debug__" : Str)) = false
  ncd : (par == ("__classdict__" : Str)) = false
  top : (P.main.scope.names.lookup ("super" : Str)).isSome = false
/-- what such an __init__ promises -/
def spXI (K : PySem.W.Frag) (D : Addr) (fld : Str) : Sp := fun vs H Q _ => ∃ (a C : Addr) (v : V), vs = [.ref a, v] ∧ OexC K C ∧ PySem.W.findIn K (.ref C) fld = some none ∧ PySem.W.mroIn K C (.ref D) = some true ∧ PySem.W.ks_superIn K C D "__init__" = some (some (.builtin "ValueError.__init__")) ∧
  PySem.W.subIn K (.ref C) (.type "ValueError") = some true ∧ PySem.W.excInitIn K C He.veBase "ValueError.__new__" = true ∧ H a = some (exo a C none) ∧ ∀ dx, H dx = none → dx ≠ a → Q .non (upd (upd H dx (exd dx [(fld, v)])) a (exo a C (some dx)))
section
variable {P : Program} {w : World} {K : PySem.W.Frag} {mg : Str → Option Value} {base : Heap} {CX : CXT} {k : Nat}
/-- the context of such an __init__ -/
def supCx (P : Program) (w : World) (K : PySem.W.Frag) (mg : Str → Option Value) (base : Heap) (qual par : Str) (scope : Scope) (f : Addr) (cdv : Value) (cc : Addr) (A : Around) (outer : List Env) (s : Shared) (H : Hp) (xe : Value → Shared → Prop) : Cx where
  prog := P
  w := w
  K := K
  mg := mg
  base := base
  A := A.deeper (PySem.W.ksEnv qual scope s.heap.objs.size f cdv cc)
  N := ["self", par]
  s_0 := s
  H_0 := H
  env := PySem.W.ksEnv qual scope s.heap.objs.size f cdv cc
  outer := outer
  stack := PySem.W.ksEnv qual scope s.heap.objs.size f cdv cc :: outer
  ex := []
  fn := fun _ => false
  calm := true
  pn := []
  xe := xe
theorem sup_inv {qual par : Str} {scope : Scope} {f : Addr} {cdv : Value} {cc a C : Addr} {A : Around} {outer : List Env} {s : Shared} {H : Hp} {xe : Value → Shared → Prop} {h' : Heap} {tk : Nat} {u : Value} {v : V} {cob : Obj} {cv : Value} (e0 : Env0 P w K mg base A outer s H) (hd : A.handled = none) (kind : scope.kind = .function)
    (only : ∀ x, scope.names.lookup x = some .free → x = "__class__") (ncell : ∀ x ∈ scope.names, x.2 ≠ .cell) (kself : scope.names.lookup ("self" : Str) = some .local) (kpar : scope.names.lookup par = some .local) (ne : (par == ("self" : Str)) = false) (lcc : K.lookup cc = some cob) (hcv : cob.data = .cell (some cv))
    (ns : h'.Ns s.heap.objs.size fun x => List.lookup x ([("self", Value.ref a), (par, u)] : List (Str × Value)).reverse) (kp : ∀ b o, b ≠ a → s.heap.get? b = some o → h'.get? b = some o) (ea : H a = some (exo a C none)) (ha : ∃ t1 : Addr, h'.get? a = some ({ cls := .ref C, dict := none, data := .fields #[.ref t1, .none, .none, .none, .bool false, .none] } : Obj)) (ru : RelV v u) :
    Inv (supCx P w K mg base qual par scope f cdv cc A outer s H xe) [] [some (.ref a), some v] H { s with heap := h', toks := tk } := by
  have noA : ∀ b : Addr, b ∉ ([] : List Addr) := fun b z => nomatch z
  have kIn : K.In s.heap := e0.mod.kin.keeps fun b o e => (e0.bs b o e).1
  have offK : ∀ {b : Addr} {o : Obj}, K.lookup b = some o → H b = none := fun {b o} e => (e0.bs b o (e0.mod.kin b o e)).2
  have cn : ∀ {b : Addr} {o : Obj}, K.lookup b = some o → b ≠ a := fun {b o} e z => by
    have q := offK e
    rw [z, ea] at q
    cases q
  have lk1 : ∀ {x : Str} {c : Addr}, ([("__class__", cc)] : List (Str × Addr)).lookup x = some c → x = "__class__" ∧ c = cc := fun {x c} e => by
    unfold List.lookup at e
    split at e
    · rename_i z
      exact ⟨beq_iff_eq.mp z, (Option.some.inj e).symm⟩
    · cases e
  have cell1 : h'.IsCell cc (some cv) := ⟨_, kp _ _ (cn lcc) (kIn _ _ lcc), hcv⟩
  refine ⟨⟨e0.mod, kind, rfl, rfl, Nat.le_refl _, fun x y c e1 e2 => ?_, fun x hx => ?_, fun x c z _ => (Bool.noConfusion (show false = true from z)), fun _ => hd, Around.frames_deeper e0.frames, .inr ⟨rfl, rfl⟩, fun b z => absurd z (noA b), e0.bs, e0.bsz, fun b _ _ => noA b, fun b z => absurd z (noA b), e0.funs, e0.frf⟩,
    rfl, e0.bare, ?_, ⟨_, ns, fun i x v' e1 e2 e3 => ?_⟩, fun x c e => ?_, e0.hok.fresh (Nat.le_refl _), fun x c e => ?_, fun q hq => (nomatch hq), fun b o e => ?_, rfl⟩
  · rw [(lk1 e1).1, (lk1 e2).1]
  · rcases hx with hx | hx
    · exact absurd rfl (ncell _ (PySem.mem_of_lookup hx))
    · have e := only x hx
      subst e
      exact ⟨cc, rfl⟩
  · have far : ∀ {b : Addr}, H b = none → b ≠ a := fun {b} n z => by
      rw [z, ea] at n
      cases n
    exact ⟨fun b o e n _ _ => kp b o (far n) e, fun b o e n _ _ => ⟨o.slots, kp b o (far n) e⟩, fun b o e n _ => n, fun b o e _ => by
      by_cases z : b = a
      · obtain ⟨t1, q⟩ := ha
        exact ⟨_, z ▸ q⟩
      · exact ⟨o, kp b o z e⟩, fun b xs e => e, fun b o u e => e, fun b ps e => ⟨#[], by rw [Array.append_empty]; exact e⟩⟩
  · have ne2 : (("self" : Str) == par) = false := by
      rw [Bool.eq_false_iff] at ne ⊢
      exact fun z => ne (beq_iff_eq.mpr (beq_iff_eq.mp z).symm)
    match i, e1, e2 with
    | 0, e1, e2 =>
      cases e1
      cases e2
      refine ⟨.ref a, rfl, .inl ⟨kself, ?_⟩⟩
      show List.lookup _ [(par, u), ("self", Value.ref a)] = _
      rw [List.lookup_cons, ne2]
      rfl
    | 1, e1, e2 =>
      cases e1
      cases e2
      refine ⟨u, ru, .inl ⟨kpar, ?_⟩⟩
      show List.lookup _ [(par, u), ("self", Value.ref a)] = _
      rw [List.lookup_cons, beq_self_eq_true]
    | _ + 2, e1, _ => cases e1
  · obtain ⟨_, rfl⟩ := lk1 e
    exact ⟨_, cell1⟩
  · obtain ⟨_, rfl⟩ := lk1 e
    exact offK lcc
  · by_cases z : b = a
    · subst z
      rw [ea] at e
      cases e
      obtain ⟨t1, q⟩ := ha
      exact exo_ok q
    · refine (e0.hok b o e).stay (fun d v hd q => kp d v (fun y => ?_) q) (fun d q => q) fun d xs q => q
      rcases hd with y2 | y2
      · exact z (y2.symm.trans y)
      · rw [y, ea] at y2
        cases y2
theorem supInit_ok {f D : Addr} {fld par qual : Str} {params : Arguments} {body : List Stmt} {scope : Scope} {fd : FuncData} (Z : SupI P K f D fld par qual params body scope fd) : FnOk P w K mg base CX (k + 1) f fd ["self", par] (spXI K D fld) := by
  refine ⟨fun vs H Q E ⟨_, _, _, e, _⟩ => by rw [e]; rfl, fun A outer s H args us vs Q E hr e0 hb hv hs => ?_⟩
  obtain ⟨a, C, v, rfl, T, nf, mD, sI, subV, ini, ea, q⟩ := hs
  obtain ⟨oc, od, osl, dV, kV, doc, pm, ct, an, cda, cc, rfl, lk, hcd, ⟨ccl, cdd, cvs, ccs, file, tf, lc, cv2, cfile⟩, cl, cld, csl, lcc⟩ := Z.ob
  obtain ⟨msg, j, p0, p1, p2, p3, p4, p5, p6, p7, p8, p9, rfl, mc⟩ := Z.tx
  obtain ⟨ar, har, rfl'⟩ := Z.hd
  obtain ⟨cdD, hD⟩ := Z.cls
  match us, hv with
  | [u0, u], .cons r0 (.cons ru .nil) =>
  obtain rfl : u0 = Value.ref a := r0
  have kIn : K.In s.heap := e0.mod.kin.keeps fun b o e => (e0.bs b o e).1
  have lim : s.heap.NoLimit := e0.mod.nolimit.keeps fun b o e => (e0.bs b o e).1
  refine ks_codeAny_call_defAt (binds := [("self", .ref a), (par, u)]) hr.depth (kIn _ _ lk) rfl lim (PySem.W.codeRec_of kIn hcd) rfl hb Z.ncell (fun y hy => ?_) (fun h₁ hns kp => ?_) Z.co Z.gen Z.kind
  · rcases List.mem_cons.mp hy with rfl | hy
    · exact Z.kself
    · obtain rfl : y = (par, u) := by simpa using hy
      exact Z.kpar
  obtain ⟨pl, mc⟩ := mc (callEnv (PySem.W.ksFn "__init__" qual params [.Expr (.Call (.Attribute (.Call (.Name "super" p0) [] [] p1) "__init__" p2) [.Constant (.str msg) j p3] [] p4) p5, .Assign [.Attribute (.Name "self" p6) fld p7] (.Name par p8) p9] scope dV kV doc pm an (.ref cda) ct cc) s.heap.objs.size f)
  refine ks_wpAt_execs_cons (ks_wpAt_Expr_any (ks_wpAt_MethodCall (pl := pl) ?_ mc) (by show (scope.kind == .module && _) = false; rw [Z.kind]; rfl))
  have k1 : K.In h₁ := fun b o e => kp _ _ (kIn b o e)
  have nsG : h₁.Ns mainGlobals mg := (e0.mod.glob.keeps fun b o e => (e0.bs b o e).1).keeps kp
  obtain ⟨mb, nsB, boot⟩ := e0.mod.blt
  have nsB1 : h₁.Ns builtinsNs mb := (nsB.keeps fun b o e => (e0.bs b o e).1).keeps kp
  obtain ⟨oD, oD1, oD2⟩ : ∃ oD, h₁.get? D = some oD ∧ oD.data = .cls cdD := by
    unfold PySem.W.clsIn at hD
    split at hD
    · rename_i c d cd' sl ho
      cases hD
      exact ⟨_, k1 _ _ ho, rfl⟩
    · cases hD
  obtain ⟨t1, aob⟩ := exo_at e0.hok ea
  have aob1 := kp _ _ aob
  refine ks_wpAt_super_base Z.ks Z.kc (by decide) rfl (k1 _ _ lk) rfl har rfl (k1 _ _ lc) rfl cv2 cfile Z.top ?_
  refine PySem.W.ks_loadName_global Z.kind Z.ks (PySem.Calls.loadGlobal_builtin nsG (PySem.W.mg_none_of kIn (e0.mod.glob.keeps fun b o e => (e0.bs b o e).1) Z.sup) nsB1 ((boot _ (by decide +kernel)).trans (by decide +kernel)) ⟨rfl, ?_⟩)
  refine wpAny_loadName_free Z.kind Z.kc rfl ⟨_, k1 _ _ lcc, rfl⟩ ?_
  rw [rfl']
  have ne2 : (("self" : Str) == par) = false := by
    have ne := Z.ne
    rw [Bool.eq_false_iff] at ne ⊢
    exact fun z => ne (beq_iff_eq.mpr (beq_iff_eq.mp z).symm)
  refine wpAny_loadName_local Z.kind Z.kself hns (v := .ref a) ?_ ?_
  · show List.lookup _ [(par, u), ("self", Value.ref a)] = _
    rw [List.lookup_cons, ne2]
    rfl
  refine ks_wpAny_isType_cls oD1 oD2 ⟨rfl, ?_⟩
  refine ks_wpAny_call_super oD1 oD2 aob1 rfl (fun c e => by cases e) (PySem.W.looks_mroIn k1 mD) (fun h' e kq => ?_)
  have k2 : K.In h' := fun b o e => kq b o (k1 b o e)
  have kk : ∀ b o, s.heap.get? b = some o → h'.get? b = some o := fun b o e => kq b o (kp b o e)
  have aS : a < s.heap.objs.size := Heap.lt_size aob
  have sH : s.heap.objs.size < h'.objs.size := by
    obtain ⟨o, _, _, z, _⟩ := hns
    exact Heap.lt_size (kq _ _ z)
  cases hc : PySem.W.clsIn K C with
  | none => unfold PySem.W.ks_superIn at sI; rw [hc] at sI; cases sI
  | some cd =>
  unfold PySem.W.ks_superIn at sI
  rw [hc] at sI
  have offK : ∀ {b : Addr} {o : Obj}, K.lookup b = some o → b ≠ a := fun {b o} e z => by
    have q := (e0.bs b o (e0.mod.kin b o e)).2
    rw [z, ea] at q
    cases q
  have inst : PySem.W.InstAt h' a _ C none := ⟨kk _ _ aob, rfl, rfl, trivial⟩
  have isV : PySem.W.Looks (model P w) h' (isInstance (.ref a) (.type "ValueError")) true := inst.type.andThen (PySem.W.looks_subIn k2 subV)
  refine PySem.W.kxs_getMethod PySem.W.kxs_ValueError e (PySem.W.looks_opaque k2 Z.any) (l₀ := cd.mro) (fun A Q E s k q => wpAny_bind ((PySem.W.looks_clsIn k2 hc) A _ E s k (wpAny_pure q))) rfl k2 sI isV (PySem.W.ks_ne k2 inst hc) (by decide) ?_
  let h₀ := PySem.W.hideAll s.heap [a]
  have F0 : Fr h₀ s.heap.objs.size (h'.push (PySem.W.kxs_mw "ValueError.__init__" a)) (fun x => List.lookup x ([("self", Value.ref a), (par, u)] : List (Str × Value)).reverse) :=
    ⟨(hns.keeps kq).keeps fun b o z => Heap.get?_push_of_some _ z, fun b o z => Heap.get?_push_of_some _ (kk b o (PySem.W.of_hideAll _ z)), Nat.le_of_eq (PySem.W.hideAll_size _ _)⟩
  have K0 : K.In h₀ := fun b o z => PySem.W.hideAll_get _ (kIn b o z) fun m => offK z (by simpa using m)
  have N0 : News h₀ s.heap.objs.size (h'.push (PySem.W.kxs_mw "ValueError.__init__" a)) [(h'.objs.size, PySem.W.kxs_mw "ValueError.__init__" a), (a, PySem.W.excObj C t1 none .none)] := fun p hp => by
    rcases List.mem_cons.mp hp with rfl | hp
    · refine ⟨Heap.get?_push_size _ rfl, Nat.ne_of_gt sH, ?_⟩
      cases z : h₀.get? h'.objs.size with
      | none => rfl
      | some o => exact absurd (Nat.lt_trans (Heap.lt_size (PySem.W.of_hideAll _ z)) sH) (Nat.lt_irrefl _)
    · obtain rfl : p = (a, PySem.W.excObj C t1 none .none) := by simpa using hp
      exact ⟨Heap.get?_push_of_some _ (kk _ _ aob), Nat.ne_of_lt aS, PySem.W.hideAll_none _ List.mem_cons_self⟩
  refine PySem.W.kxs_callWith1 (i := "ValueError.__init__") (x := a) N0 List.mem_cons_self ?_ rfl rfl
  show wpAny _ _ (spliced ((false, eval (.Constant (.str msg) j p3) _) :: backTo p4 (starEach [] _))) _ _ _
  refine Calls.spliced_cons (Calls.Constant_str (Calls.spliced_nil ⟨(N0 _ List.mem_cons_self).1, ?_⟩))
  have uA : h'.objs.size ≠ a := Nat.ne_of_gt (Nat.lt_trans aS sH)
  refine PySem.W.kxs_call (t := t1) (dv := none) (c2 := .none) F0 K0 N0 F.excBase_ValueError ini List.mem_cons_self (.tail uA (.head fun p hp => nomatch hp)) (by show 1 ≤ _; rw [sizeLine_eq]; omega) fun t2 h2 F2 N2 _ => ?_
  have a2 : h2.get? a = some (PySem.W.excObj C t2 none .none) := (N2 (a, _) (by simp)).1
  have J := fun tk => sup_inv (P := P) (w := w) (qual := qual) (f := f) (cdv := .ref cda) (xe := fun e s' => wpAny (model P w) (A.deeper (PySem.W.ksEnv qual scope s.heap.objs.size f (.ref cda) cc)) (leaving (PySem.W.ksEnv qual scope s.heap.objs.size f (.ref cda) cc) e) (fun _ s'' => CR CX outer P w H s Q E (.error e) s'') (fun e' s'' => CR CX outer P w H s Q E (.error e') s'') s') (tk := tk) e0 hr.hd Z.kind Z.only Z.ncell Z.kself Z.kpar Z.ne lcc rfl F2.ns (fun b o n z => F2.keep b o (PySem.W.hideAll_get _ z fun m => n (by simpa using m))) ea ⟨t2, a2⟩ ru
  have PS2 : PSs (supCx P w K mg base qual par scope f (.ref cda) cc A outer s H (fun e s' => wpAny (model P w) (A.deeper (PySem.W.ksEnv qual scope s.heap.objs.size f (.ref cda) cc)) (leaving (PySem.W.ksEnv qual scope s.heap.objs.size f (.ref cda) cc) e) (fun _ s'' => CR CX outer P w H s Q E (.error e) s'') (fun e' s'' => CR CX outer P w H s Q E (.error e') s'') s'))
      [.Assign [.Attribute (.Name "self" p6) fld p7] (.Name par p8) p9] (tOst K fld (tVar 0) (tVar 1)) :=
    pss_one (ps_ost (pe_var (i := 0) rfl (.inl Z.kself) (by decide) (by decide)) (pe_var (i := 1) rfl (.inl Z.kpar) Z.nd Z.ncd))
  refine wpAt_of_wpAny (wpAny_mono (PS2.run [] _ _ H { nx := fun _ H' => Q .non H', rt := Q } (J _) ?_) (fun fl s' hq => ?_) fun _ _ z => z)
  · exact ⟨v, rfl, .ref a, rfl, a, C, rfl, T, nf, .inl ⟨ea, fun dx n ne => q dx n ne⟩⟩
  · cases fl with
    | next =>
      obtain ⟨σ', H', J', q'⟩ := hq
      exact ⟨.non, H', J'.os, J'.bare, J'.base, J'.hok, rfl, q'⟩
    | ret z =>
      obtain ⟨v', σ', H', J', rv, q'⟩ := hq
      exact ⟨v', H', J'.os, J'.bare, J'.base, J'.hok, rv, q'⟩
    | brk => obtain ⟨_, _, _, z⟩ := hq; exact z.elim
    | cont => obtain ⟨_, _, _, z⟩ := hq; exact z.elim
end
end DE
set_option maxHeartbeats 4000000
/-! DE33: errors made: C('..'), C(x). -/
namespace DE
open PySem PySem.Spec PyProof.Rows L2
/-- what an error's class with such an __init__ must have -/
structure ErrC (K : PySem.W.Frag) (C D fI : Addr) (fld : Str) : Prop where
  oex : OexC K C
  init : PySem.W.findIn K (.ref C) "__init__" = some (some (.ref fI))
  fn : PySem.W.typeIn K (.ref fI) = some (.type "function")
  no : PySem.W.findIn K (.ref C) fld = some none
  mro : PySem.W.mroIn K C (.ref D) = some true
  sup : PySem.W.ks_superIn K C D "__init__" = some (some (.builtin "ValueError.__init__"))
  sub : PySem.W.subIn K (.ref C) (.type "ValueError") = some true
  ini : PySem.W.excInitIn K C He.veBase "ValueError.__new__" = true
theorem pe_wide {X : Cx} {e : Expr} {te : TE} (he : PE X e te) : PE X e (fun σ H Q => ∃ P1 : VK, te σ H P1 ∧ ∀ v H', P1 v H' → Q v H') :=
  ⟨fun pins s σ H Q I ⟨P1, h, k⟩ => thn (he.run pins s σ H P1 I h) fun u s1 ⟨v, H1, J, r, q⟩ => ⟨v, H1, J, r, k v H1 q⟩⟩
theorem mk1_of {X : Cx} {C D fI : Addr} {fld par qual x : Str} {params : Arguments} {body : List Stmt} {scope : Scope} {fd : FuncData} {k : Nat} (T : ErrC X.K C D fI fld) (Z : SupI X.prog X.K fI D fld par qual params body scope fd) (hb : Binds X.K fd ["self", par] []) (hr : Room (k + 2) X.A) (hg : Gl X x) (hm : X.mg x = some (.ref C)) (hd : (x == ("__debug__" : Str)) = false)
    {e : Expr} {te : TE} {p pos : Pos} (he : PE X e te) (hst : ∀ env xs, starEach (e :: xs) env = (false, eval e env) :: starEach xs env) :
    PMk X (.Call (.Name x p) [e] [] pos) (fun σ H Q => te σ H fun v H1 => ∀ dx, H1 dx = none → Q (.ref C) (some dx) (upd H1 dx (.xd [(fld, v)]))) := by
  have F : FnOk X.prog X.w X.K X.mg X.base (CX X.prog X.w) (k + 1) fI fd ["self", par] (spXI X.K D fld) := supInit_ok Z
  have mk := pmk_oex (p := p) (pos := pos) T.oex T.init T.fn F hr hb .nil (passes_call (X := X) takesF fun _ _ _ _ z => z) hg hm (pa_cons (pe_wide he) pa_nil (hst _ _)) hd (hst _ _) rfl
  intro pins s σ H Q I h
  refine mk pins s σ H Q I ⟨_, h, fun v H1 q => ⟨by simp, fun a na => ?_⟩⟩
  refine ⟨a, C, v, rfl, T.oex, T.no, T.mro, T.sup, T.sub, T.ini, upd_same, fun dx n ne => ⟨rfl, dx, [(fld, v)], upd_same, by rw [upd_ne ne, upd_same], by rw [upd_ne ne] at n; exact n, ?_⟩⟩
  rw [upd_ne ne] at n
  have e : upd (del (upd (upd (upd H1 a (exo a C none)) dx (exd dx [(fld, v)])) a (exo a C (some dx))) a) dx (.xd [(fld, v)]) = upd H1 dx (.xd [(fld, v)]) := by
    funext b
    by_cases z : b = dx
    · subst z; rw [upd_same, upd_same]
    · rw [upd_ne z, upd_ne z]
      by_cases y : b = a
      · subst y; rw [del_same, na]
      · rw [del_ne y, upd_ne y, upd_ne z, upd_ne y]
  rw [e]
  exact q dx n
/-- a class of errors without an __init__ of its own -/
theorem mk0_of {X : Cx} {C : Addr} {x m : Str} {j : Nat} {p p2 pos : Pos} (ex : PySem.W.excIn X.K C He.veBase "ValueError.__new__" = true) (kp : PySem.W.keepIn X.K (.ref C) = true) (sb : PySem.W.subIn X.K (.ref C) (.type "BaseException") = some true) (ty : PySem.W.typeIn X.K (.ref C) = some (.type "type"))
    (hm : X.mg x = some (.ref C)) (hg : Gl X x) (hd : (x == ("__debug__" : Str)) = false) : PMk X (.Call (.Name x p) [.Constant (.str m) j p2] [] pos) (fun _ H Q => Q (.ref C) none H) :=
  pmk_own F.excBase_ValueError ex hm kp (raises_own sb ty) hg hd
end DE
set_option maxHeartbeats 4000000
/-! DE34: what is known of the program, put together piece by piece. -/
namespace DE
open PySem PySem.Spec PyProof.Rows L2
section
variable {T : Type} {M : Md T} {P : Program} {w : World} {K : PySem.W.Frag} {mg : Str → Option Value} {base : Heap} {k k' : Nat}
/-- all but the defs; the table of operations is good for each table of defs -/
structure Ground (M : Md T) (P : Program) (w : World) (K : PySem.W.Frag) (mg : Str → Option Value) (base : Heap) (cls : List CI) (cons : List (Str × D)) (prims : List (Prim T)) (k : Nat) : Prop where
  hK : M.K = K
  free : ∀ x ∈ bltNames, mg x = none
  con : ∀ x d, cons.lookup x = some d → ∃ u v, mg x = some u ∧ RelV v u ∧ ∀ F, Rep M F v d
  mk0 : ∀ c y, (cls[c]?).map (fun i => (i.name, i.init.isSome)) = some (y, false) → ∀ X, InX P w K mg base k X → Gl X y → (y == ("__debug__" : Str)) = false → ∀ (m : Str) (j : Nat) (p p2 pos : Pos), PMk X (.Call (.Name y p) [.Constant (.str m) j p2] [] pos) (fun _ H Q => Q (.ref (M.CA c)) none H)
  mk1 : ∀ c y, (cls[c]?).map (fun i => (i.name, i.init.isSome)) = some (y, true) → ∀ X, InX P w K mg base k X → Gl X y → (y == ("__debug__" : Str)) = false → ∀ (e : Expr) (te : TE) (p pos : Pos), PE X e te → (∀ env xs, starEach (e :: xs) env = (false, eval e env) :: starEach xs env) →
    PMk X (.Call (.Name y p) [e] [] pos) (fun σ H Q => te σ H fun v H1 => ∀ dx, H1 dx = none → Q (.ref (M.CA c)) (some dx) (upd H1 dx (.xd [(M.atr c, v)])))
  prm : ∀ (G : Pg T) (f : Nat → Option (V × List (Addr × HO))) (i : Nat) (p : Prim T), prims[i]? = some p → ∀ X, Bs P w K mg base k X → PrimOk G (M.wv f) X p
theorem _root_.DE.InX.less {X : Cx} (h : k ≤ k') (x : InX P w K mg base k' X) : InX P w K mg base k X := ⟨x.p, x.wo, x.K, x.mg, x.base, x.room.mono h, x.pass⟩
theorem _root_.DE.Bs.less {X : Cx} (h : k ≤ k') (x : Bs P w K mg base k' X) : Bs P w K mg base k X := ⟨x.p, x.wo, x.K, x.mg, x.base, x.room.mono h, x.calm, x.nd, x.un⟩
theorem Ground.more {cls : List CI} {cons : List (Str × D)} {prims : List (Prim T)} (g : Ground M P w K mg base cls cons prims k) (h : k ≤ k') : Ground M P w K mg base cls cons prims k' :=
  ⟨g.hK, g.free, g.con, fun c y e X x => g.mk0 c y e X (x.less h), fun c y e X x => g.mk1 c y e X (x.less h), fun G f i p e X b => g.prm G f i p e X (b.less h)⟩
theorem Ground.add {cls : List CI} {cons : List (Str × D)} {prims : List (Prim T)} (g : Ground M P w K mg base cls cons prims k) {ps : List (Prim T)} (hp : ∀ p ∈ ps, ∀ (G : Pg T) (f : Nat → Option (V × List (Addr × HO))) X, Bs P w K mg base k X → PrimOk G (M.wv f) X p) :
    Ground M P w K mg base cls cons (prims ++ ps) k :=
  ⟨g.hK, g.free, g.con, g.mk0, g.mk1, fun G f i p e X b => by
    by_cases h : i < prims.length
    · exact g.prm G f i p (by rw [List.getElem?_append_left h] at e; exact e) X b
    · rw [List.getElem?_append_right (by omega)] at e
      exact hp p (List.mem_of_getElem? e) G f X b⟩
/-- what is known of one def -/
structure FnI (M : Md T) (P : Program) (w : World) (K : PySem.W.Frag) (mg : Str → Option Value) (base : Heap) (k : Nat) (fi : FI) (h : DFn T) : Prop where
  nbr : ∀ ds t d t', h ds t = .ok d t' → d.2 ≠ .br
  ex : ∃ (f : Addr) (fd : FuncData), FnG P w K mg base (CX P w) k f fd fi.ps (spD M h fi.ps.length) ∧ (fi.g = false → FnOk P w K mg base (CX P w) k f fd fi.ps (spD M h fi.ps.length)) ∧ mg fi.name = some (.ref f) ∧ PySem.W.keepIn K (.ref f) = true ∧
    (∀ n, n ≤ fi.dfl.length → ∃ ds dvs, Binds K fd fi.ps ds ∧ Vals dvs ds ∧ ∀ F, RepL M F dvs (fi.dfl.drop (fi.dfl.length - n))) ∧ ∀ n ks pm, (n, ks, pm) ∈ fi.kws → KBp K fd fi.ps n ks pm
theorem FnI.more {fi : FI} {h : DFn T} (x : FnI M P w K mg base k fi h) (l : k ≤ k') : FnI M P w K mg base k' fi h := by
  obtain ⟨nb, f, fd, a, b, c⟩ := x
  exact ⟨nb, f, fd, a.mono l, fun z => (b z).mono l, c⟩
/-- the defs so far -/
def FnIs (M : Md T) (P : Program) (w : World) (K : PySem.W.Frag) (mg : Str → Option Value) (base : Heap) (k : Nat) (fns : List (FI × DFn T)) : Prop := ∀ q ∈ fns, FnI M P w K mg base k q.1 q.2
theorem FnIs.nil : FnIs M P w K mg base k ([] : List (FI × DFn T)) := fun _ h => nomatch h
theorem FnIs.snoc {fns : List (FI × DFn T)} (x : FnIs M P w K mg base k fns) {fi : FI} {h : DFn T} (y : FnI M P w K mg base (k + 1) fi h) : FnIs M P w K mg base (k + 1) (fns ++ [(fi, h)]) := fun q hq => by
  rcases List.mem_append.mp hq with z | z
  · exact (x q z).more (Nat.le_succ _)
  · obtain rfl : q = (fi, h) := by simpa using z
    exact y
theorem FnIs.more {fns : List (FI × DFn T)} (x : FnIs M P w K mg base k fns) (l : k ≤ k') : FnIs M P w K mg base k' fns := fun q hq => (x q hq).more l
theorem wd_of {fns : List (FI × DFn T)} {cls : List CI} {cons : List (Str × D)} {atr : Nat → Str} {prims : List (Prim T)} (g : Ground M P w K mg base cls cons prims k) (x : FnIs M P w K mg base k fns) : Wd ⟨fns, cls, cons, atr, prims, [], [], []⟩ M P w K mg base k :=
  ⟨g.hK, g.free, g.con, fun i fi h e => (by
    obtain ⟨nb, f, fd, a⟩ := x (fi, h) (List.mem_of_getElem? e)
    exact ⟨nb, f, fd, a⟩), g.mk0, g.mk1, fun L f i p e X b => g.prm _ f i p e X b, fun L f i p e => (by cases e), fun L f i p e => (by cases e)⟩
/-- a call with keywords alone or behind some values, no defaults -/
theorem kbp_of {x qual : Str} {params : Arguments} {body : List Stmt} {scope : Scope} {kws : List (Str × V)} {f : Addr} {fd : FuncData} {n : Nat} {ps ks : List Str} {pm : List Nat} (F : FunD K x qual params body scope [] kws f fd)
    (h : ∀ (kV doc pv : Value) (an : Option Addr) (cdv ct : Value) (us ws ys : List Value), us.length = n → ws.length = ks.length → permL pm (us ++ ws) = some ys → bindArgs (PySem.W.fnOf x qual params body scope .none kV doc pv an cdv ct) ⟨us, ks.zip ws⟩ = pure (ps.zip ys)) : KBp K fd ps n ks pm := by
  obtain ⟨oc, od, dV, kV, doc, pv, an, cdv, ct, osl, rfl, _, _, hD, _⟩ := F.ex
  rcases hD with ⟨_, rfl⟩ | ⟨e, _⟩
  · exact fun s us ws ys _ l1 l2 hp => .of_eq (h kV doc pv an cdv ct us ws ys l1 l2 hp)
  · exact absurd rfl e
/-- a def without defaults, its text read -/
theorem fnI_of {fns : List (FI × DFn T)} {cls : List CI} {cons : List (Str × D)} {atr : Nat → Str} {prims : List (Prim T)} (g : Ground M P w K mg base cls cons prims k) (x : FnIs M P w K mg base k fns) {nm qual : Str} {params : Arguments} {body : List Stmt} {scope : Scope} {kws : List (Str × V)} {f : Addr} {fd : FuncData} {N ps : List Str} {s : Ss} (fu : Nat) (F : FunD K nm qual params body scope [] kws f fd) (S : FnScope N ps scope)
    {fi : FI} (e1 : fi.ps = ps) (e2 : fi.dfl = []) (gm : mg fi.name = some (.ref f)) (bd : Binds K fd ps []) (kb : ∀ n ks pm, (n, ks, pm) ∈ fi.kws → KBp K fd ps n ks pm)
    (lm : N.contains "_law_caught" = true → ∀ A outer sh H E, Room k (A.deeper (envOfC qual scope sh.heap.objs.size f fd.code)) → LmA ⟨fns, cls, cons, atr, prims, [], [], []⟩ M (cxOf (CX P w) P w K mg base N qual scope f fd.code A outer sh H E) scope)
    (hg : fi.g = false → N.contains "<repr>" = false) (h : chkSs ⟨fns, cls, cons, atr, prims, [], [], []⟩ N s scope body = true) : FnI M P w K mg base (k + 1) fi (runFn ⟨fns, cls, cons, atr, prims, [], [], []⟩ fu N.length s) := by
  have W := wd_of (atr := atr) g x
  subst e1
  refine ⟨runFn_nbr, f, fd, fn_okG W rfl fu F S lm h, fun z => fn_okL W rfl fu F S lm (hg z) h, gm, F.kp, fun n hn => ?_, kb⟩
  rw [e2] at hn ⊢
  exact ⟨[], [], bd, .nil, fun F => by simpa using RepL.nil⟩
end
end DE
set_option maxHeartbeats 4000000
/-! DE35: from the head's facts to what the rules ask: errors, own classes. -/
namespace DE
open PySem PySem.Spec PyProof.Rows L2 He
/-- a code object of the program's own file, a cell that holds the class -/
def supB2 (P : Program) (K : PySem.W.Frag) (C : Str) (cdv : Value) (clo : List (Str × Addr)) (dV : Value) : Bool := match cdv, clo, dV with
  | .ref cda, [(_, cc)], .none => PySem.W.codeIn K (.ref cda) (C ++ ".__init__") && ((match K.lookup cda with
    | some ⟨_, _, .fields vs, _⟩ => (match (vs : Array Value)[2]? with
      | some (Value.str file _) => (P.main.file : Str) == file
      | _ => false)
    | _ => false) && (match K.lookup cc with
      | some ⟨_, _, .cell (some (.ref D)), _⟩ => decide (D = ga K C)
      | _ => false))
  | _, _, _ => false
/-- the __init__ of an error's class that says super().__init__: the kept part's facts -/
def supB (P : Program) (K : PySem.W.Frag) (C : Str) : Bool := (match K.lookup (ma K (ga K C) "__init__") with
  | some ⟨_, _, .func fd, _⟩ => supB2 P K C fd.code fd.closure fd.defaults
  | _ => false) && ((PySem.W.clsIn K (ga K C)).isSome && (eqO (PySem.W.nsIn K mainGlobals "super") (some none) && (eqO (PySem.W.nsIn K cStatics "thirdparty.any") (some none) && !(P.main.scope.names.lookup ("super" : Str)).isSome)))
def supX (P : Program) (C : Str) (params : Arguments) (body : List Stmt) (scope : Scope) : XD := ⟨fun K => ma K (ga K C) "__init__", "__init__", C ++ ".__init__", params, body, scope, ["__class__"], fun K => supB P K C⟩
/-- the text of such an __init__ -/
structure SupT (fld par : Str) (params : Arguments) (body : List Stmt) (scope : Scope) : Prop where
  tx : ∃ (msg : Str) (j : Nat) (p0 p1 p2 p3 p4 p5 p6 p7 p8 p9 : Pos), body = [.Expr (.Call (.Attribute (.Call (.Name "super" p0) [] [] p1) "__init__" p2) [.Constant (.str msg) j p3] [] p4) p5, .Assign [.Attribute (.Name "self" p6) fld p7] (.Name par p8) p9] ∧
    ∀ env : Env, ∃ pl : Sem Bool, eval (.Call (.Attribute (.Call (.Name "super" p0) [] [] p1) "__init__" p2) [.Constant (.str msg) j p3] [] p4) env = (do
      let ov ← attributeBase (.Call (.Name "super" p0) [] [] p1) "__init__" env (eval (.Call (.Name "super" p0) [] [] p1) env)
      standAt p2.atName
      let (f, first) ← holding [ov] (getMethod ov "__init__" pl)
      callWith p4 f first (backTo p4 (starEach [.Constant (.str msg) j p3] env)) [])
  hd : ∃ ar, (params.posonlyargs ++ params.args).head? = some ar ∧ ar.arg = "self"
  ks : scope.names.lookup ("super" : Str) = some .globalImplicit
  kc : scope.names.lookup ("__class__" : Str) = some .free
  kself : scope.names.lookup ("self" : Str) = some .local
  kpar : scope.names.lookup par = some .local
  ncell : ∀ x ∈ scope.names, x.2 ≠ .cell
  only : ∀ x, scope.names.lookup x = some .free → x = "__class__"
  kind : scope.kind = .function
  co : scope.isCoroutine = false
  gen : scope.isGenerator = false
  ne : (par == ("self" : Str)) = false
  nd : (par == ("__debug__" : Str)) = false
  ncd : (par == ("__classdict__" : Str)) = false
  bind : ∀ (qual : Str) (body : List Stmt) (kV doc pm cdv ct : Value) (an : Option Addr) (cc : Addr) (us : List Value), us.length = 2 → bindArgs (PySem.W.ksFn "__init__" qual params body scope .none kV doc pm an cdv ct cc) ⟨us, []⟩ = pure ((["self", par] : List Str).zip us)
theorem sup_says {P : Program} {K : PySem.W.Frag} {C fld par : Str} {params : Arguments} {body : List Stmt} {scope : Scope} (t : SupT fld par params body scope) (c : (supX P C params body scope).ok K = true) (e : fnX K ((supX P C params body scope).at_ K) = (supX P C params body scope).val) :
    ∃ fd, SupI P K (ma K (ga K C) "__init__") (ga K C) fld par (C ++ ".__init__") params body scope fd ∧ Binds K fd ["self", par] [] := by
  obtain ⟨oc, od, osl, dV, kV, doc, pm, an, cdv, ct, clo, lk, hclo⟩ := XD.fd e
  have c : supB P K C = true := c
  unfold supB at c
  obtain ⟨c1, c⟩ := ba c
  obtain ⟨c2, c⟩ := ba c
  obtain ⟨c3, c⟩ := ba c
  obtain ⟨c4, c5⟩ := ba c
  have lk : K.lookup (ma K (ga K C) "__init__") = some ⟨oc, od, .func (PySem.W.fnX "__init__" (C ++ ".__init__") params body scope clo dV kV doc pm an cdv ct), osl⟩ := lk
  rw [lk] at c1
  have c1 : supB2 P K C cdv clo dV = true := c1
  unfold supB2 at c1
  match cdv, clo, dV, c1, lk, hclo with
  | .ref cda, [(nm, cc)], .none, c1, lk, hclo =>
    obtain rfl : nm = ("__class__" : Str) := by
      have h : [nm] = [("__class__" : Str)] := hclo
      exact (List.cons.inj h).1
    obtain ⟨d1, d2⟩ := ba c1
    obtain ⟨d2, d3⟩ := ba d2
    obtain ⟨cdD, hcd⟩ := Option.isSome_iff_exists.mp c2
    refine ⟨_, ⟨⟨oc, od, osl, .none, kV, doc, pm, ct, an, cda, cc, rfl, lk, d1, ?_, ?_⟩, t.tx, t.hd, ⟨cdD, hcd⟩, eqO_ok c3, eqO_ok c4, t.ks, t.kc, t.kself, t.kpar, t.ncell, t.only, t.kind, t.co, t.gen, t.ne, t.nd, t.ncd, by simpa using c5⟩, .all fun us hl => t.bind _ _ _ _ _ _ _ _ _ us hl⟩
    · cases q : K.lookup cda with
      | none => rw [q] at d2; cases d2
      | some o =>
        obtain ⟨o1, o2, o3, o4⟩ := o
        rw [q] at d2
        cases o3 with
        | fields vs =>
          have d2 : (match (vs : Array Value)[2]? with
            | some (Value.str file _) => (P.main.file : Str) == file
            | _ => false) = true := d2
          cases q2 : vs[2]? with
          | none => rw [q2] at d2; cases d2
          | some v =>
            rw [q2] at d2
            cases v with
            | str file tf => exact ⟨o1, o2, vs, o4, file, tf, rfl, q2, d2⟩
            | _ => cases d2
        | _ => cases d2
    · cases q : K.lookup cc with
      | none => rw [q] at d3; cases d3
      | some o =>
        obtain ⟨o1, o2, o3, o4⟩ := o
        rw [q] at d3
        cases o3 with
        | cell v =>
          cases v with
          | none => cases d3
          | some v =>
            cases v with
            | ref D =>
              obtain rfl := of_decide_eq_true d3
              exact ⟨o1, o2, o4, rfl⟩
            | _ => cases d3
        | _ => cases d3
/-- what is asked of a class of errors with such an __init__ (its own, or a base's: D) -/
def errB (K : PySem.W.Frag) (C D fld : Str) : Bool := (match K.lookup (ga K C) with
    | some ⟨.type t, dd, .cls cd, sl⟩ => decide (t = "type") && (match cd.mro, sl.toList with
      | .ref C' :: bm, [_, _, _, _, some (.builtin n), _] => decide (C' = ga K C) && (decide (n = "ValueError.__new__") && (cd.hasDict && (!cd.hasDel && PySem.HandSPX.refsVE bm)))
      | _, _ => false)
    | _ => false) &&
  (eqO (PySem.W.findIn K (.ref (ga K C)) "__setattr__") (some (some (.builtin "object.__setattr__"))) && (decide (PySem.W.subIn K (.ref (ga K C)) (.type "BaseException") = some true) && (decide (PySem.W.typeIn K (.ref (ga K C)) = some (.type "type")) && (PySem.W.keepIn K (.ref (ga K C)) &&
  (eqO (PySem.W.findIn K (.ref (ga K C)) "__init__") (some (some (.ref (ma K (ga K D) "__init__")))) && (decide (PySem.W.typeIn K (.ref (ma K (ga K D) "__init__")) = some (.type "function")) && (eqO (PySem.W.findIn K (.ref (ga K C)) fld) (some none) && (decide (PySem.W.mroIn K (ga K C) (.ref (ga K D)) = some true) &&
  (decide (PySem.W.ks_superIn K (ga K C) (ga K D) "__init__" = some (some (.builtin "ValueError.__init__"))) && (decide (PySem.W.subIn K (.ref (ga K C)) (.type "ValueError") = some true) && PySem.W.excInitIn K (ga K C) veBase "ValueError.__new__"))))))))))
theorem err_says {K : PySem.W.Frag} {C D fld : Str} (c : errB K C D fld = true) : ErrC K (ga K C) (ga K D) (ma K (ga K D) "__init__") fld := by
  unfold errB at c
  obtain ⟨c0, c⟩ := ba c
  obtain ⟨c1, c⟩ := ba c
  obtain ⟨c2, c⟩ := ba c
  obtain ⟨c3, c⟩ := ba c
  obtain ⟨c4, c⟩ := ba c
  obtain ⟨c5, c⟩ := ba c
  obtain ⟨c6, c⟩ := ba c
  obtain ⟨c7, c⟩ := ba c
  obtain ⟨c8, c⟩ := ba c
  obtain ⟨c9, c⟩ := ba c
  obtain ⟨c10, c11⟩ := ba c
  refine ⟨⟨?_, eqO_ok c1, of_decide_eq_true c2, of_decide_eq_true c3, c4⟩, eqO_ok c5, of_decide_eq_true c6, eqO_ok c7, of_decide_eq_true c8, of_decide_eq_true c9, of_decide_eq_true c10, c11⟩
  cases q : K.lookup (ga K C) with
  | none => rw [q] at c0; cases c0
  | some o =>
    obtain ⟨o1, o2, o3, o4⟩ := o
    rw [q] at c0
    cases o1 with
    | type t =>
      cases o3 with
      | cls cd =>
        obtain ⟨nm, bs, mro, ns, qn, hd, sn, sub, ab, col, del⟩ := cd
        obtain ⟨b1, b2⟩ := ba c0
        obtain rfl := of_decide_eq_true b1
        cases mro with
        | nil => cases b2
        | cons m0 bm =>
          cases m0 with
          | ref C' =>
            obtain ⟨sl⟩ := o4
            match sl, b2 with
            | [k0, k1, k2, k3, some (.builtin n), k5], b2 =>
              obtain ⟨b3, b2⟩ := ba b2
              obtain ⟨b4, b2⟩ := ba b2
              obtain ⟨b5, b2⟩ := ba b2
              obtain ⟨b6, b7⟩ := ba b2
              obtain rfl := of_decide_eq_true b3
              obtain rfl := of_decide_eq_true b4
              obtain rfl : hd = true := b5
              obtain rfl : del = false := by cases del <;> first | rfl | cases b6
              exact ⟨nm, qn, ns, bs, bm, sn, sub, ab, col, o2, k0, k1, k2, k3, k5, rfl, b7⟩
          | _ => cases b2
      | _ => cases c0
    | _ => cases o3 <;> cases c0
end DE
set_option maxHeartbeats 4000000
/-! DE36: the operations of the table, where the program's facts are known. -/
namespace DE
open PySem PySem.Spec PyProof.Rows L2 He
section
variable {T : Type} {M : Md T} {P : Program} {w : World} {K : PySem.W.Frag} {mg : Str → Option Value} {base : Heap} {k : Nat}
/-- good for each table of defs, wherever there is room k -/
def Good (M : Md T) (P : Program) (w : World) (K : PySem.W.Frag) (mg : Str → Option Value) (base : Heap) (k : Nat) (p : Prim T) : Prop := ∀ (G : Pg T) (f : Nat → Option (V × List (Addr × HO))) X, Bs P w K mg base k X → PrimOk G (M.wv f) X p
theorem spInit_vl {f : Nat → Option (V × List (Addr × HO))} {c n : Nat} {mk : DFn T} {vs : List V} {H : Hp} {Q : VK} {E : XK} (q : spInit (M.wv f) c mk n vs H Q E) : spInit M c mk n vs H Q E := by
  obtain ⟨x, dx, ws, F, Hb, t, ds, e1, e2, e3, n1, n2, ne, fh, tap, ntp, l, q⟩ := q
  exact ⟨x, dx, ws, F, Hb, t, ds, e1, e2, e3, n1, n2, ne, fh, tap, ntp, l.ofVl, (PostG.ofVl q).imp fun d t' F' H' _ q r => q r.vl⟩
theorem good_mk {nm : Str} {n c j : Nat} {mk : DFn T} {fi : Addr} {fd : FuncData} {ps : List Str} (Mc : Mk K (M.CA c) fi) (F : FnOk P w K mg base (CX P w) j fi fd ps (spInit M c mk n)) (hj : j + 1 ≤ k) (gm : mg nm = some (.ref (M.CA c))) (hb : Binds K fd ps []) : Good M P w K mg base k (pMk nm n mk) := fun G f X b => by
  obtain ⟨rfl, rfl, rfl, rfl, rfl, room, _, _, _⟩ := b
  exact mk_ok (M := M.wv f) Mc (F.imp fun _ _ _ _ q => spInit_vl q) (room.mono hj) gm hb
theorem good_mkK {nm : Str} {n c j : Nat} {mk : DFn T} {fi : Addr} {fd : FuncData} {ps ks : List Str} {pm : List Nat} (Mc : Mk K (M.CA c) fi) (F : FnOk P w K mg base (CX P w) j fi fd ps (spInit M c mk n)) (hj : j + 1 ≤ k) (gm : mg nm = some (.ref (M.CA c))) (hb : KwB K fd ps ks pm) : Good M P w K mg base k (pMkK nm ks n pm mk) := fun G f X b => by
  obtain ⟨rfl, rfl, rfl, rfl, rfl, room, _, _, _⟩ := b
  exact mkK_ok (M := M.wv f) Mc (F.imp fun _ _ _ _ q => spInit_vl q) (room.mono hj) gm hb
theorem good_prop {nm : Str} {c j : Nat} {h : DFn T} {p g : Addr} {fd : FuncData} {ps : List Str} (cl : Cls K (M.CA c)) (hp : PropOf K (M.CA c) nm p g) (F : FnOk P w K mg base (CX P w) j g fd ps (spD M h 1)) (hj : j + 1 ≤ k) (hb : Binds K fd ps []) (nbr : ∀ ds t d t', h ds t = .ok d t' → d.2 ≠ .br) : Good M P w K mg base k (pProp nm c h) := fun G f X b => by
  obtain ⟨rfl, rfl, rfl, rfl, rfl, room, _, _, _⟩ := b
  exact prop_ok (M := M.wv f) cl hp (F.imp fun _ _ _ _ q => spD_vl q) (room.mono hj) hb nbr
theorem good_eq {c j : Nat} {h : DFn T} {g : Addr} {fd : FuncData} {ps : List Str} (hK : M.K = K) (F : FnOk P w K mg base (CX P w) j g fd ps (spD M h 2)) (hj : j ≤ k) (hs : PySem.W.findIn K (.ref (M.CA c)) "__eq__" = some (some (.ref g))) (hf : PySem.W.isFn K (.ref g) = true) (hb : Binds K fd ps [])
    (nbr : ∀ ds t d t', h ds t = .ok d t' → d.2 ≠ .br) (ap : apartB K (M.CA c) = true) : Good M P w K mg base k (pEq c h) := fun G f X b => by
  obtain ⟨rfl, rfl, rfl, rfl, rfl, room, _, _, _⟩ := b
  exact eq_ok (M := M.wv f) hK (F.imp fun _ _ _ _ q => spD_vl q) (room.mono hj) hs hf hb nbr ap
theorem good_att {nm : Str} {cs : List Nat} (hc : ∀ c ∈ cs, Cls K (M.CA c) ∧ NoAttr K (M.CA c) nm) : Good M P w K mg base k (pAtt nm cs) := fun G f X b => by
  obtain ⟨rfl, rfl, rfl, rfl, rfl, _, _, _, _⟩ := b
  exact att_ok (M := M.wv f) hc
theorem good_isi (hK : M.K = K) {C : Addr} {nm : Str} {sub : D → Option Bool} (ok : IsiOk K M.CA C sub) (gm : mg nm = some (.ref C)) (free : mg "isinstance" = none) : Good M P w K mg base k (pIsi nm sub) := fun G f X b => by
  obtain ⟨rfl, rfl, rfl, rfl, rfl, _, _, _, _⟩ := b
  exact isi_ok (M := M.wv f) hK ok gm free
theorem good_xf {nm : Str} {n : Nat} (hE : ∀ c, c < n → M.atr c = nm → XfOk K (M.CA c) nm) : Good M P w K mg base k (pXf nm M.atr n) := fun G f X b => by
  obtain ⟨rfl, rfl, rfl, rfl, rfl, _, _, _, _⟩ := b
  exact xf_ok (M := M.wv f) hE
theorem good_repr (hK : M.K = K) (free : mg "repr" = none) : Good M P w K mg base k (pRepr (T := T)) := fun G f X b => by
  obtain ⟨rfl, rfl, rfl, rfl, rfl, _, _, _, un⟩ := b
  exact repr_ok (M := M.wv f) hK un free
theorem good_sum (hK : M.K = K) (free : mg "sum" = none) : Good M P w K mg base k (pSum (T := T)) := fun G f X b => by
  obtain ⟨rfl, rfl, rfl, rfl, rfl, _, calm, _, _⟩ := b
  exact sum_ok (M := M.wv f) hK calm free
theorem good_mul (hK : M.K = K) : Good M P w K mg base k (pMul (T := T)) := fun G f X b => by
  obtain ⟨rfl, rfl, rfl, rfl, rfl, _, _, _, _⟩ := b
  exact mul_ok (M := M.wv f) hK
theorem good_revT (hK : M.K = K) : Good M P w K mg base k (pRevT (T := T)) := fun G f X b => by
  obtain ⟨rfl, rfl, rfl, rfl, rfl, _, _, _, _⟩ := b
  exact revT_ok (M := M.wv f) hK
theorem good_revL : Good M P w K mg base k (pRevL (T := T)) := fun G f X b => by
  obtain ⟨rfl, rfl, rfl, rfl, rfl, _, _, _, _⟩ := b
  exact revL_ok (M := M.wv f)
/-! ### isinstance, attributes of errors: from Bools -/
/-- the answers: for data of the built-in classes b0, for errors by their number, for instances by their class -/
def subD (errs : List Bool) (own : List (Nat × Bool)) : D → Option Bool
  | .exc c _ => errs[c]?
  | .ins c _ => own.lookup c
  | d => (tyOfD d).map fun _ => false
def isiB (K : PySem.W.Frag) (CA : Nat → Addr) (C : Addr) (errs : List Bool) (own : List (Nat × Bool)) : Bool :=
  ["NoneType", "bool", "int", "str", "tuple", "list", "dict"].all (fun n => PySem.W.kitOne K (.type n) (.ref C) == some false) &&
  ((List.range errs.length).all (fun c => excB K (CA c) && (PySem.W.kitOne K (.ref (CA c)) (.ref C) == errs[c]?)) && own.all fun q => insB K (CA q.1) && (PySem.W.kitOne K (.ref (CA q.1)) (.ref C) == some q.2))
where
  excB (K : PySem.W.Frag) (D : Addr) : Bool := eqO (PySem.W.findIn K (.ref D) "__getattribute__") (some (some (.builtin "BaseException.__getattribute__"))) && (eqO (PySem.W.findIn K (.ref D) "__getattr__") (some none) && (decide (PySem.W.subIn K (.ref D) (.type "BaseException") = some true) && (PySem.W.hasDictIn K D &&
    (eqO (PySem.W.findIn K (.ref D) "__class__") (some (some (.builtin "object.__class__"))) && (eqO (PySem.W.specialIn K (.builtin "object.__class__") "__get__") (some (some (.builtin "getset_descriptor.__get__"))) && (decide (PySem.W.takesIn K (.builtin "object.__class__") = some true) && decide (PySem.W.mroIn K D (.type "object") = some true)))))))
  insB (K : PySem.W.Frag) (D : Addr) : Bool := (PySem.W.plainGet K D Str.empty && (PySem.W.hasDictIn K D && (PySem.W.plainOver K D && eqO (PySem.W.findIn K (.ref D) "__setattr__") (some (some (.builtin "object.__setattr__")))))) &&
    (eqO (PySem.W.findIn K (.ref D) "__class__") (some (some (.builtin "object.__class__"))) && (eqO (PySem.W.specialIn K (.builtin "object.__class__") "__get__") (some (some (.builtin "getset_descriptor.__get__"))) && (decide (PySem.W.takesIn K (.builtin "object.__class__") = some true) && decide (PySem.W.mroIn K D (.type "object") = some true))))
theorem mem_look {c : Nat} {b : Bool} : ∀ {l : List (Nat × Bool)}, l.lookup c = some b → (c, b) ∈ l
  | [], h => by cases h
  | (d, e) :: r, h => by
    unfold List.lookup at h
    split at h
    · rename_i z
      cases h
      rw [beq_iff_eq.mp z]
      exact List.mem_cons_self
    · exact List.mem_cons_of_mem _ (mem_look h)
theorem isi_says {CA : Nat → Addr} {C : Addr} {errs : List Bool} {own : List (Nat × Bool)} (h : isiB K CA C errs own = true) : IsiOk K CA C (subD errs own) := by
  unfold isiB at h
  obtain ⟨h1, h⟩ := ba h
  obtain ⟨h2, h3⟩ := ba h
  have plain : ∀ n ∈ ["NoneType", "bool", "int", "str", "tuple", "list", "dict"], PySem.W.kitOne K (.type n) (.ref C) = some false := fun n hn => beq_iff_eq.mp (List.all_eq_true.mp h1 n hn)
  refine ⟨fun d tn b e1 e2 => ?_, fun c v b e => ?_, fun c fs b e => ?_, fun d b e => ?_⟩
  · cases d <;> first
      | (cases e1; done)
      | (cases e1; cases e2; exact plain _ (by decide))
  · have e : errs[c]? = some b := e
    have hc : c < errs.length := (List.getElem?_eq_some_iff.mp e).1
    obtain ⟨y1, y2⟩ := ba (List.all_eq_true.mp h2 c (List.mem_range.mpr hc))
    unfold isiB.excB at y1
    obtain ⟨a1, y1⟩ := ba y1
    obtain ⟨a2, y1⟩ := ba y1
    obtain ⟨a3, y1⟩ := ba y1
    obtain ⟨a4, y1⟩ := ba y1
    obtain ⟨a5, y1⟩ := ba y1
    obtain ⟨a6, y1⟩ := ba y1
    obtain ⟨a7, a8⟩ := ba y1
    exact ⟨⟨eqO_ok a1, eqO_ok a2, of_decide_eq_true a3, a4, eqO_ok a5, eqO_ok a6, of_decide_eq_true a7, of_decide_eq_true a8⟩, (beq_iff_eq.mp y2).trans e⟩
  · have e : own.lookup c = some b := e
    obtain ⟨y1, y2⟩ := ba (List.all_eq_true.mp h3 (c, b) (mem_look e))
    unfold isiB.insB at y1
    obtain ⟨a0, y1⟩ := ba y1
    obtain ⟨a5, y1⟩ := ba y1
    obtain ⟨a6, y1⟩ := ba y1
    obtain ⟨a7, a8⟩ := ba y1
    obtain ⟨b1, a0⟩ := ba a0
    obtain ⟨b2, a0⟩ := ba a0
    obtain ⟨b3, b4⟩ := ba a0
    exact ⟨⟨⟨b1, b2, b3, eqO_ok b4⟩, eqO_ok a5, eqO_ok a6, of_decide_eq_true a7, of_decide_eq_true a8⟩, beq_iff_eq.mp y2⟩
  · cases d <;> first
      | exact .inl rfl
      | exact .inr (.inl ⟨_, _, rfl⟩)
      | exact .inr (.inr ⟨_, _, rfl⟩)
      | (cases e; done)
end
end DE
set_option maxHeartbeats 4000000
/-! DE37: _law_caught and lambdas, from the head's facts; the tape's own objects. -/
namespace DE
open PySem PySem.Spec PyProof.Rows L2 He
theorem caught_of {K : PySem.W.Frag} {mg : Str → Option Value} {g CS : Addr} {fd : FuncData} {pg : Arguments} {bg : List Stmt} {sg : Scope} {kws : List (Str × V)} (F : FunD K "_law_caught" "_law_caught" pg bg sg [] kws g fd) (gm : mg "_law_caught" = some (.ref g)) (gC : mg "CallError" = some (.ref CS)) (hb : Binds K fd ["work"] [])
    (S : FnScope NCa ["work"] sg) (va : Vis sg "work") (ck : chkCaught bg = true) (n1 : sg.names.lookup ("caught" : Str) = some .local) (n2 : sg.names.lookup ("error" : Str) = some .local) (n3 : sg.names.lookup ("CallError" : Str) = some .globalImplicit) : CaughtAt K mg g CS := by
  obtain ⟨oc, od, dV, kV, doc, pm, an, cdv, ct, osl, rfl, lk, hcd, _, _⟩ := F.ex
  exact ⟨⟨pg, bg, sg, dV, kV, doc, pm, cdv, ct, oc, an, od, osl, lk, hcd, hb, S, va, ck, n1, n2, n3⟩, gm, F.kp, gC⟩
section
variable {T : Type} {G : Pg T} {M : Md T} {P : Program} {w : World} {K : PySem.W.Frag} {mg : Str → Option Value} {base : Heap} {k : Nat}
/-- the tape's own objects are none of those that are merely told of; what is told grows -/
structure Firm (tp : Tp T) : Prop where
  te : ∀ {H H1 : Hp} {t : T}, tp.At H t → LamX.ExtN H H1 → tp.At H1 t
  tn : ∀ {H : Hp} {t : T} {a : Addr} {φ : Heap → Prop}, tp.At H t → tp.own a → H a ≠ some (.ext φ)
theorem firmA {R l c : Addr} : Firm (tpA R l c) where
  te := fun h e => ⟨e _ _ h.hR (fun _ z => nomatch z), e _ _ h.hL (fun _ z => nomatch z), e _ _ h.hC (fun _ z => nomatch z), h.ne⟩
  tn := fun h o e => by
    rcases o with rfl | rfl | rfl
    · rw [h.hR] at e; cases e
    · rw [h.hL] at e; cases e
    · rw [h.hC] at e; cases e
theorem lmA_of (W : Wd G M P w K mg base k) {N : List Str} {qual : Str} {scope0 : Scope} {f : Addr} {cdv : Value} {A : Around} {outer : List Env} {s : Shared} {H : Hp} {E : XK} {ps : List Str} (S : FnScope N ps scope0)
    (hr : Room (k + 2) (A.deeper (envOfC qual scope0 s.heap.objs.size f cdv))) {tp0 : Tp T} {Ts : List (Addr × Str)} (hM : M.tp = tpTab tp0 Ts) (fm : Firm tp0)
    {g CS c Pt : Addr} (Ca : CaughtAt K mg g CS) (TB : LamX.TabB base mg c Pt) (ec : cdv = .ref c) (mT : (Pt, qual ++ ".<locals>." ++ "<lambda>") ∈ Ts) (uT : ∀ p ∈ Ts, p.1 = Pt → p.2 = qual ++ ".<locals>." ++ "<lambda>")
    (xs : ∀ c, c < G.cls.length → PySem.W.exmOne K (.ref (M.CA c)) (.ref CS) = some true) : LmA G M (cxOf (CX P w) P w K mg base N qual scope0 f cdv A outer s H E) scope0 := fun L vl =>
  ⟨lam_ok (W.with L vl) S hr hM fm.te Ca TB ec mT uT xs, lams_ok (W.with L vl) S hr hM fm.te fm.tn Ca TB ec mT uT xs⟩
/-- a def without defaults that hands lambdas to _law_caught -/
theorem fnI_lam {fns : List (FI × DFn T)} {cls : List CI} {cons : List (Str × D)} {atr : Nat → Str} {prims : List (Prim T)} (g : Ground M P w K mg base cls cons prims k) (x : FnIs M P w K mg base k fns) {nm qual : Str} {params : Arguments} {body : List Stmt} {scope : Scope} {kws : List (Str × V)} {f : Addr} {fd : FuncData} {N ps : List Str} {s : Ss} (fu : Nat) (F : FunD K nm qual params body scope [] kws f fd) (S : FnScope N ps scope)
    {fi : FI} (e1 : fi.ps = ps) (e2 : fi.dfl = []) (gm : mg fi.name = some (.ref f)) (bd : Binds K fd ps []) (kb : ∀ n ks pm, (n, ks, pm) ∈ fi.kws → KBp K fd ps n ks pm)
    {tp0 : Tp T} {Ts : List (Addr × Str)} (hM : M.tp = tpTab tp0 Ts) (fm : Firm tp0) {gc CS c Pt : Addr} (Ca : CaughtAt K mg gc CS) (TB : LamX.TabB base mg c Pt) (ec : fd.code = .ref c) (mT : (Pt, qual ++ ".<locals>." ++ "<lambda>") ∈ Ts) (uT : ∀ p ∈ Ts, p.1 = Pt → p.2 = qual ++ ".<locals>." ++ "<lambda>")
    (xs : ∀ c, c < cls.length → PySem.W.exmOne K (.ref (M.CA c)) (.ref CS) = some true)
    (hg : fi.g = false → N.contains "<repr>" = false) (h : chkSs ⟨fns, cls, cons, atr, prims, [], [], []⟩ N s scope body = true) : FnI M P w K mg base (k + 3) fi (runFn ⟨fns, cls, cons, atr, prims, [], [], []⟩ fu N.length s) :=
  fnI_of (g.more (Nat.le_add_right k 2)) (x.more (Nat.le_add_right k 2)) fu F S e1 e2 gm bd kb (fun _ A outer sh H E hr => lmA_of (wd_of (atr := atr) g x) S hr hM fm Ca TB ec mT uT xs) hg h
end
end DE
set_option maxHeartbeats 0
namespace LawX
open PySem PySem.Spec PyProof.Rows L2 DE He
abbrev PG : Program := (PySem.W.OpenLaw.row PySem.Challenge.rw_seenandheard_k03_weathers_and_rows_of_lo).prog
def topS (i : Nat) : Stmt := PG.main.body.getD i (.Pass ⟨0, 0, 0, 0⟩)
def clsB : Stmt → List Stmt
  | .ClassDef _ _ _ body _ _ _ _ _ _ _ => body
  | _ => []
def topM (i j : Nat) : Stmt := (clsB (topS i)).getD j (.Pass ⟨0, 0, 0, 0⟩)
def CLS : List CI := [⟨"CallError", [], [], none⟩, ⟨"PartError", [], [], some 0⟩, ⟨"BadWeather", [], [], some 0⟩, ⟨"BadBits", [], [], none⟩, ⟨"BadMemory", [], [], none⟩]
def CONS : List (Str × D) := [("MOST_SPAN", .int 12), ("MOST_LATE", .int 8)]
def ATR : Nat → Str := fun c => (["", "part", "part", "", ""] : List Str).getD c ""
def p0 : Prim DE.TA := pSum
def p1 : Prim DE.TA := pMul
def p2 : Prim DE.TA := pRepr
def p3 : Prim DE.TA := pRevT
def p4 : Prim DE.TA := pIsi "Weather" (subD [false, false, false, false, false] [(5, true)])
def p5 : Prim DE.TA := pIsi "BadWeather" (subD [false, false, true, false, false] [(5, false)])
def p6 : Prim DE.TA := pIsi "BadBits" (subD [false, false, false, true, false] [(5, false)])
def p7 : Prim DE.TA := pIsi "BadMemory" (subD [false, false, false, false, true] [(5, false)])
def p8 : Prim DE.TA := pXf "part" ATR 5
def p9 : Prim DE.TA := pAtt "numbers" [5]
abbrev N_is_number : List Str := ["thing"]
def s_is_number : Ss := (.cons (.ret (.and (.isi (.var 0) .int) (.not (.isi (.var 0) .bool))))
  .nil)
def G_is_number : Pg DE.TA := ⟨[], CLS, CONS, ATR, [p0, p1, p2, p3, p4, p5, p6, p7, p8, p9], [], [], []⟩
theorem c_is_number : chkSs G_is_number N_is_number s_is_number (defScope (topS 7)) (defBody (topS 7)) = true := by kernel_rfl
def f_is_number : DFn DE.TA := runFn G_is_number 0 N_is_number.length s_is_number
abbrev i_is_number : FI := ⟨"is_number", ["thing"], [], [], false⟩
abbrev N_is_between : List Str := ["thing", "low", "high"]
def s_is_between : Ss := (.cons (.ret (.and (.call 0 (.cons (.var 0) .nil)) (.chn .le .le (.var 1) (.var 0) (.var 2))))
  .nil)
def G_is_between : Pg DE.TA := ⟨[(i_is_number, f_is_number)], CLS, CONS, ATR, [p0, p1, p2, p3, p4, p5, p6, p7, p8, p9], [], [], []⟩
theorem c_is_between : chkSs G_is_between N_is_between s_is_between (defScope (topS 8)) (defBody (topS 8)) = true := by kernel_rfl
def f_is_between : DFn DE.TA := runFn G_is_between 0 N_is_between.length s_is_between
abbrev i_is_between : FI := ⟨"is_between", ["thing", "low", "high"], [], [], false⟩
abbrev N_is_list : List Str := ["thing"]
def s_is_list : Ss := (.cons (.ret (.isi (.var 0) .seq))
  .nil)
def G_is_list : Pg DE.TA := ⟨[(i_is_number, f_is_number), (i_is_between, f_is_between)], CLS, CONS, ATR, [p0, p1, p2, p3, p4, p5, p6, p7, p8, p9], [], [], []⟩
theorem c_is_list : chkSs G_is_list N_is_list s_is_list (defScope (topS 9)) (defBody (topS 9)) = true := by kernel_rfl
def f_is_list : DFn DE.TA := runFn G_is_list 0 N_is_list.length s_is_list
abbrev i_is_list : FI := ⟨"is_list", ["thing"], [], [], false⟩
abbrev N_is_bits : List Str := ["thing", "item"]
def s_is_bits : Ss := (.cons (.ret (.and (.call 2 (.cons (.var 0) .nil)) (.bi .all (.cons (.lc (.call 1 (.cons (.var 1) (.cons (.int 0) (.cons (.int 1) .nil)))) (.nm 1) (.seq (.var 0)) .nil [("item", 1)]) .nil))))
  .nil)
def G_is_bits : Pg DE.TA := ⟨[(i_is_number, f_is_number), (i_is_between, f_is_between), (i_is_list, f_is_list)], CLS, CONS, ATR, [p0, p1, p2, p3, p4, p5, p6, p7, p8, p9], [], [], []⟩
theorem c_is_bits : chkSs G_is_bits N_is_bits s_is_bits (defScope (topS 10)) (defBody (topS 10)) = true := by kernel_rfl
def f_is_bits : DFn DE.TA := runFn G_is_bits 0 N_is_bits.length s_is_bits
abbrev i_is_bits : FI := ⟨"is_bits", ["thing"], [], [], false⟩
abbrev N_Weather_init : List Str := ["self", "run", "many", "span", "late"]
def s_Weather_init : Ss := (.cons (.ite (.not (.call 1 (.cons (.var 3) (.cons (.int 2) (.cons (.con "MOST_SPAN" .non) .nil))))) (.cons (.rai 2 (.str "span"))
  .nil) .nil)
  (.cons (.ite (.not (.call 1 (.cons (.var 2) (.cons (.int 0) (.cons (.bin .sub (.var 3) (.int 1)) .nil))))) (.cons (.rai 2 (.str "many"))
  .nil) .nil)
  (.cons (.ite (.not (.call 1 (.cons (.var 1) (.cons (.bi .min (.cons (.var 2) (.cons (.int 1) .nil))) (.cons (.var 2) .nil))))) (.cons (.rai 2 (.str "run"))
  .nil) .nil)
  (.cons (.ite (.not (.call 1 (.cons (.var 4) (.cons (.int 0) (.cons (.con "MOST_LATE" .non) .nil))))) (.cons (.rai 2 (.str "late"))
  .nil) .nil)
  .nil))))
def q_Weather_init : List (Str × E) := [("numbers", (.tup (.cons (.var 1) (.cons (.var 2) (.cons (.var 3) (.cons (.var 4) .nil))))))]
def G_Weather_init : Pg DE.TA := ⟨[(i_is_number, f_is_number), (i_is_between, f_is_between), (i_is_list, f_is_list), (i_is_bits, f_is_bits)], CLS, CONS, ATR, [p0, p1, p2, p3, p4, p5, p6, p7, p8, p9], [], [], []⟩
theorem c_Weather_init : chkInit G_Weather_init N_Weather_init 4 s_Weather_init q_Weather_init (defScope (topM 14 0)) (defBody (topM 14 0)) = true := by kernel_rfl
def f_Weather_init : DFn DE.TA := mkFn G_Weather_init 0 N_Weather_init.length s_Weather_init q_Weather_init 5
abbrev N_Weather_run : List Str := ["self"]
def s_Weather_run : Ss := (.cons (.ret (.idx (.prim 9 (.cons (.var 0) .nil)) (.int 0)))
  .nil)
def G_Weather_run : Pg DE.TA := ⟨[(i_is_number, f_is_number), (i_is_between, f_is_between), (i_is_list, f_is_list), (i_is_bits, f_is_bits)], CLS, CONS, ATR, [p0, p1, p2, p3, p4, p5, p6, p7, p8, p9], [], [], []⟩
theorem c_Weather_run : chkSs G_Weather_run N_Weather_run s_Weather_run (defScope (topM 14 1)) (defBody (topM 14 1)) = true := by kernel_rfl
def f_Weather_run : DFn DE.TA := runFn G_Weather_run 0 N_Weather_run.length s_Weather_run
abbrev N_Weather_many : List Str := ["self"]
def s_Weather_many : Ss := (.cons (.ret (.idx (.prim 9 (.cons (.var 0) .nil)) (.int 1)))
  .nil)
def G_Weather_many : Pg DE.TA := ⟨[(i_is_number, f_is_number), (i_is_between, f_is_between), (i_is_list, f_is_list), (i_is_bits, f_is_bits)], CLS, CONS, ATR, [p0, p1, p2, p3, p4, p5, p6, p7, p8, p9], [], [], []⟩
theorem c_Weather_many : chkSs G_Weather_many N_Weather_many s_Weather_many (defScope (topM 14 2)) (defBody (topM 14 2)) = true := by kernel_rfl
def f_Weather_many : DFn DE.TA := runFn G_Weather_many 0 N_Weather_many.length s_Weather_many
abbrev N_Weather_span : List Str := ["self"]
def s_Weather_span : Ss := (.cons (.ret (.idx (.prim 9 (.cons (.var 0) .nil)) (.int 2)))
  .nil)
def G_Weather_span : Pg DE.TA := ⟨[(i_is_number, f_is_number), (i_is_between, f_is_between), (i_is_list, f_is_list), (i_is_bits, f_is_bits)], CLS, CONS, ATR, [p0, p1, p2, p3, p4, p5, p6, p7, p8, p9], [], [], []⟩
theorem c_Weather_span : chkSs G_Weather_span N_Weather_span s_Weather_span (defScope (topM 14 3)) (defBody (topM 14 3)) = true := by kernel_rfl
def f_Weather_span : DFn DE.TA := runFn G_Weather_span 0 N_Weather_span.length s_Weather_span
abbrev N_Weather_late : List Str := ["self"]
def s_Weather_late : Ss := (.cons (.ret (.idx (.prim 9 (.cons (.var 0) .nil)) (.int 3)))
  .nil)
def G_Weather_late : Pg DE.TA := ⟨[(i_is_number, f_is_number), (i_is_between, f_is_between), (i_is_list, f_is_list), (i_is_bits, f_is_bits)], CLS, CONS, ATR, [p0, p1, p2, p3, p4, p5, p6, p7, p8, p9], [], [], []⟩
theorem c_Weather_late : chkSs G_Weather_late N_Weather_late s_Weather_late (defScope (topM 14 4)) (defBody (topM 14 4)) = true := by kernel_rfl
def f_Weather_late : DFn DE.TA := runFn G_Weather_late 0 N_Weather_late.length s_Weather_late
abbrev N_Weather___eq__ : List Str := ["self", "other"]
def s_Weather___eq__ : Ss := (.cons (.ret (.and (.prim 4 (.cons (.var 1) .nil)) (.cmp .eq (.prim 9 (.cons (.var 0) .nil)) (.prim 9 (.cons (.var 1) .nil)))))
  .nil)
def G_Weather___eq__ : Pg DE.TA := ⟨[(i_is_number, f_is_number), (i_is_between, f_is_between), (i_is_list, f_is_list), (i_is_bits, f_is_bits)], CLS, CONS, ATR, [p0, p1, p2, p3, p4, p5, p6, p7, p8, p9], [], [], []⟩
theorem c_Weather___eq__ : chkSs G_Weather___eq__ N_Weather___eq__ s_Weather___eq__ (defScope (topM 14 5)) (defBody (topM 14 5)) = true := by kernel_rfl
def f_Weather___eq__ : DFn DE.TA := runFn G_Weather___eq__ 0 N_Weather___eq__.length s_Weather___eq__
def p10 : Prim DE.TA := pMk "Weather" 4 f_Weather_init
def p11 : Prim DE.TA := pMkK "Weather" ["late", "span", "many", "run"] 4 [3, 2, 1, 0] f_Weather_init
def p12 : Prim DE.TA := pProp "run" 5 f_Weather_run
def p13 : Prim DE.TA := pProp "many" 5 f_Weather_many
def p14 : Prim DE.TA := pProp "span" 5 f_Weather_span
def p15 : Prim DE.TA := pProp "late" 5 f_Weather_late
def p16 : Prim DE.TA := pEq 5 f_Weather___eq__
abbrev N_may_lose : List Str := ["weather", "memory", "row", "last"]
def s_may_lose : Ss := (.cons (.asg (.nm 2) false (.tup (.star (.var 1) (.cons (.int 1) .nil))))
  (.cons (.asg (.nm 3) false (.slc (.var 2) (.bin .sub (.bin .sub (.bi .len (.cons (.var 2) .nil)) (.prim 12 (.cons (.var 0) .nil))) (.int 1)) .noe))
  (.cons (.ret (.and (.cmp .le (.prim 0 (.cons (.var 2) .nil)) (.prim 13 (.cons (.var 0) .nil))) (.cmp .isin (.int 0) (.var 3))))
  .nil)))
def G_may_lose : Pg DE.TA := ⟨[(i_is_number, f_is_number), (i_is_between, f_is_between), (i_is_list, f_is_list), (i_is_bits, f_is_bits)], CLS, CONS, ATR, [p0, p1, p2, p3, p4, p5, p6, p7, p8, p9, p10, p11, p12, p13, p14, p15, p16], [], [], []⟩
theorem c_may_lose : chkSs G_may_lose N_may_lose s_may_lose (defScope (topS 15)) (defBody (topS 15)) = true := by kernel_rfl
def f_may_lose : DFn DE.TA := runFn G_may_lose 0 N_may_lose.length s_may_lose
abbrev i_may_lose : FI := ⟨"may_lose", ["weather", "memory"], [], [], false⟩
abbrev N_need_weather : List Str := ["weather"]
def s_need_weather : Ss := (.cons (.ite (.not (.prim 4 (.cons (.var 0) .nil))) (.cons (.rai 2 .non)
  .nil) .nil)
  .nil)
def G_need_weather : Pg DE.TA := ⟨[(i_is_number, f_is_number), (i_is_between, f_is_between), (i_is_list, f_is_list), (i_is_bits, f_is_bits), (i_may_lose, f_may_lose)], CLS, CONS, ATR, [p0, p1, p2, p3, p4, p5, p6, p7, p8, p9, p10, p11, p12, p13, p14, p15, p16], [], [], []⟩
theorem c_need_weather : chkSs G_need_weather N_need_weather s_need_weather (defScope (topS 16)) (defBody (topS 16)) = true := by kernel_rfl
def f_need_weather : DFn DE.TA := runFn G_need_weather 0 N_need_weather.length s_need_weather
abbrev i_need_weather : FI := ⟨"need_weather", ["weather"], [], [], false⟩
abbrev N_keeps_to : List Str := ["weather", "bits", "memory", "bit"]
def s_keeps_to : Ss := (.cons (.ex (.call 5 (.cons (.var 0) .nil)))
  (.cons (.ite (.not (.call 3 (.cons (.var 1) .nil))) (.cons (.rai0 3)
  .nil) .nil)
  (.cons (.asg (.nm 2) false (.prim 1 (.cons (.tup (.cons (.int 0) .nil)) (.cons (.bin .sub (.prim 14 (.cons (.var 0) .nil)) (.int 1)) .nil))))
  (.cons (.fr (.nm 3) (.seq (.var 1)) (.cons (.ite (.and (.cmp .eq (.var 3) (.int 1)) (.not (.call 4 (.cons (.var 0) (.cons (.var 2) .nil))))) (.cons (.ret (.bl false))
  .nil) .nil)
  (.cons (.asg (.nm 2) false (.slc (.tup (.star (.var 2) (.cons (.var 3) .nil))) (.int 1) .noe))
  .nil)))
  (.cons (.ret (.bl true))
  .nil)))))
def G_keeps_to : Pg DE.TA := ⟨[(i_is_number, f_is_number), (i_is_between, f_is_between), (i_is_list, f_is_list), (i_is_bits, f_is_bits), (i_may_lose, f_may_lose), (i_need_weather, f_need_weather)], CLS, CONS, ATR, [p0, p1, p2, p3, p4, p5, p6, p7, p8, p9, p10, p11, p12, p13, p14, p15, p16], [], [], []⟩
theorem c_keeps_to : chkSs G_keeps_to N_keeps_to s_keeps_to (defScope (topS 17)) (defBody (topS 17)) = true := by kernel_rfl
def f_keeps_to : DFn DE.TA := runFn G_keeps_to 0 N_keeps_to.length s_keeps_to
abbrev i_keeps_to : FI := ⟨"keeps_to", ["weather", "bits"], [], [(0, ["bits", "weather"], [1, 0])], false⟩
abbrev N_let_next : List Str := ["weather", "memory"]
def s_let_next : Ss := (.cons (.ex (.call 5 (.cons (.var 0) .nil)))
  (.cons (.ite (.or (.not (.isi (.var 1) .tuple)) (.or (.not (.call 3 (.cons (.var 1) .nil))) (.cmp .ne (.bi .len (.cons (.var 1) .nil)) (.bin .sub (.prim 14 (.cons (.var 0) .nil)) (.int 1))))) (.cons (.rai0 4)
  .nil) .nil)
  (.cons (.ret (.call 4 (.cons (.var 0) (.cons (.var 1) .nil))))
  .nil)))
def G_let_next : Pg DE.TA := ⟨[(i_is_number, f_is_number), (i_is_between, f_is_between), (i_is_list, f_is_list), (i_is_bits, f_is_bits), (i_may_lose, f_may_lose), (i_need_weather, f_need_weather), (i_keeps_to, f_keeps_to)], CLS, CONS, ATR, [p0, p1, p2, p3, p4, p5, p6, p7, p8, p9, p10, p11, p12, p13, p14, p15, p16], [], [], []⟩
theorem c_let_next : chkSs G_let_next N_let_next s_let_next (defScope (topS 18)) (defBody (topS 18)) = true := by kernel_rfl
def f_let_next : DFn DE.TA := runFn G_let_next 0 N_let_next.length s_let_next
abbrev i_let_next : FI := ⟨"let_next", ["weather", "memory"], [], [(0, ["memory", "weather"], [1, 0])], false⟩
def f__law_draw : DFn DE.TA := drawA
abbrev i__law_draw : FI := ⟨"_law_draw", ["tape", "size"], [], [], false⟩
abbrev N__law_pick : List Str := ["tape", "several"]
def s__law_pick : Ss := (.cons (.ret (.idx (.var 1) (.call 8 (.cons (.var 0) (.cons (.bi .len (.cons (.var 1) .nil)) .nil)))))
  .nil)
def G__law_pick : Pg DE.TA := ⟨[(i_is_number, f_is_number), (i_is_between, f_is_between), (i_is_list, f_is_list), (i_is_bits, f_is_bits), (i_may_lose, f_may_lose), (i_need_weather, f_need_weather), (i_keeps_to, f_keeps_to), (i_let_next, f_let_next), (i__law_draw, f__law_draw)], CLS, CONS, ATR, [p0, p1, p2, p3, p4, p5, p6, p7, p8, p9, p10, p11, p12, p13, p14, p15, p16], [], [], []⟩
theorem c__law_pick : chkSs G__law_pick N__law_pick s__law_pick (defScope (topS 23)) (defBody (topS 23)) = true := by kernel_rfl
def f__law_pick : DFn DE.TA := runFn G__law_pick 0 N__law_pick.length s__law_pick
abbrev i__law_pick : FI := ⟨"_law_pick", ["tape", "several"], [], [], false⟩
abbrev N__law_weather : List Str := ["tape", "most", "span", "many", "run"]
def s__law_weather : Ss := (.cons (.asg (.nm 2) false (.bin .add (.int 2) (.call 8 (.cons (.var 0) (.cons (.bin .sub (.var 1) (.int 1)) .nil)))))
  (.cons (.asg (.nm 3) false (.ite (.cmp .gt (.call 8 (.cons (.var 0) (.cons (.int 5) .nil))) (.int 0)) (.call 8 (.cons (.var 0) (.cons (.bi .min (.cons (.var 2) (.cons (.int 4) .nil))) .nil))) (.call 8 (.cons (.var 0) (.cons (.var 2) .nil)))))
  (.cons (.asg (.nm 4) false (.ite (.cmp .eq (.var 3) (.int 0)) (.int 0) (.bin .add (.int 1) (.call 8 (.cons (.var 0) (.cons (.var 3) .nil))))))
  (.cons (.ret (.dct [.inr "run", .inr "many", .inr "span", .inr "late"] (.cons (.var 4) (.cons (.var 3) (.cons (.var 2) (.cons (.call 9 (.cons (.var 0) (.cons (.lst (.cons (.int 0) (.cons (.int 0) (.cons (.int 0) (.cons (.int 1) (.cons (.int 2) (.cons (.int 8) .nil))))))) .nil))) .nil))))))
  .nil))))
def G__law_weather : Pg DE.TA := ⟨[(i_is_number, f_is_number), (i_is_between, f_is_between), (i_is_list, f_is_list), (i_is_bits, f_is_bits), (i_may_lose, f_may_lose), (i_need_weather, f_need_weather), (i_keeps_to, f_keeps_to), (i_let_next, f_let_next), (i__law_draw, f__law_draw), (i__law_pick, f__law_pick)], CLS, CONS, ATR, [p0, p1, p2, p3, p4, p5, p6, p7, p8, p9, p10, p11, p12, p13, p14, p15, p16], [], [], []⟩
theorem c__law_weather : chkSs G__law_weather N__law_weather s__law_weather (defScope (topS 24)) (defBody (topS 24)) = true := by kernel_rfl
def f__law_weather : DFn DE.TA := runFn G__law_weather 0 N__law_weather.length s__law_weather
abbrev i__law_weather : FI := ⟨"_law_weather", ["tape", "most"], [], [], false⟩
abbrev N__law_may_be_lost : List Str := ["weather", "memory", "run", "bit"]
def s__law_may_be_lost : Ss := (.cons (.asg (.nm 2) false (.int 1))
  (.cons (.fr (.nm 3) (.seq (.prim 3 (.cons (.var 1) .nil))) (.cons (.ite (.cmp .eq (.var 3) (.int 0)) (.cons .brk
  .nil) .nil)
  (.cons (.asg (.nm 2) false (.bin .add (.var 2) (.int 1)))
  .nil)))
  (.cons (.ret (.and (.cmp .le (.var 2) (.idx (.var 0) (.str "run"))) (.cmp .le (.bin .add (.prim 0 (.cons (.var 1) .nil)) (.int 1)) (.idx (.var 0) (.str "many")))))
  .nil)))
def G__law_may_be_lost : Pg DE.TA := ⟨[(i_is_number, f_is_number), (i_is_between, f_is_between), (i_is_list, f_is_list), (i_is_bits, f_is_bits), (i_may_lose, f_may_lose), (i_need_weather, f_need_weather), (i_keeps_to, f_keeps_to), (i_let_next, f_let_next), (i__law_draw, f__law_draw), (i__law_pick, f__law_pick), (i__law_weather, f__law_weather)], CLS, CONS, ATR, [p0, p1, p2, p3, p4, p5, p6, p7, p8, p9, p10, p11, p12, p13, p14, p15, p16], [], [], []⟩
theorem c__law_may_be_lost : chkSs G__law_may_be_lost N__law_may_be_lost s__law_may_be_lost (defScope (topS 25)) (defBody (topS 25)) = true := by kernel_rfl
def f__law_may_be_lost : DFn DE.TA := runFn G__law_may_be_lost 0 N__law_may_be_lost.length s__law_may_be_lost
abbrev i__law_may_be_lost : FI := ⟨"_law_may_be_lost", ["weather", "memory"], [], [], false⟩
abbrev N__law_is_number : List Str := ["thing", "least", "most"]
def s__law_is_number : Ss := (.cons (.ret (.and (.isi (.var 0) .int) (.and (.not (.isi (.var 0) .bool)) (.chn .le .le (.var 1) (.var 0) (.var 2)))))
  .nil)
def G__law_is_number : Pg DE.TA := ⟨[(i_is_number, f_is_number), (i_is_between, f_is_between), (i_is_list, f_is_list), (i_is_bits, f_is_bits), (i_may_lose, f_may_lose), (i_need_weather, f_need_weather), (i_keeps_to, f_keeps_to), (i_let_next, f_let_next), (i__law_draw, f__law_draw), (i__law_pick, f__law_pick), (i__law_weather, f__law_weather), (i__law_may_be_lost, f__law_may_be_lost)], CLS, CONS, ATR, [p0, p1, p2, p3, p4, p5, p6, p7, p8, p9, p10, p11, p12, p13, p14, p15, p16], [], [], []⟩
theorem c__law_is_number : chkSs G__law_is_number N__law_is_number s__law_is_number (defScope (topS 27)) (defBody (topS 27)) = true := by kernel_rfl
def f__law_is_number : DFn DE.TA := runFn G__law_is_number 0 N__law_is_number.length s__law_is_number
abbrev i__law_is_number : FI := ⟨"_law_is_number", ["thing", "least", "most"], [], [], false⟩
abbrev N__law_wrong_part : List Str := ["run", "many", "span", "late"]
def s__law_wrong_part : Ss := (.cons (.ite (.not (.call 12 (.cons (.var 2) (.cons (.int 2) (.cons (.int 12) .nil))))) (.cons (.ret (.str "span"))
  .nil) .nil)
  (.cons (.ite (.not (.call 12 (.cons (.var 1) (.cons (.int 0) (.cons (.bin .sub (.var 2) (.int 1)) .nil))))) (.cons (.ret (.str "many"))
  .nil) .nil)
  (.cons (.ite (.or (.not (.call 12 (.cons (.var 0) (.cons (.int 0) (.cons (.var 1) .nil))))) (.cmp .ne (.cmp .eq (.var 0) (.int 0)) (.cmp .eq (.var 1) (.int 0)))) (.cons (.ret (.str "run"))
  .nil) .nil)
  (.cons (.ret (.ite (.call 12 (.cons (.var 3) (.cons (.int 0) (.cons (.int 8) .nil)))) .non (.str "late")))
  .nil))))
def G__law_wrong_part : Pg DE.TA := ⟨[(i_is_number, f_is_number), (i_is_between, f_is_between), (i_is_list, f_is_list), (i_is_bits, f_is_bits), (i_may_lose, f_may_lose), (i_need_weather, f_need_weather), (i_keeps_to, f_keeps_to), (i_let_next, f_let_next), (i__law_draw, f__law_draw), (i__law_pick, f__law_pick), (i__law_weather, f__law_weather), (i__law_may_be_lost, f__law_may_be_lost), (i__law_is_number, f__law_is_number)], CLS, CONS, ATR, [p0, p1, p2, p3, p4, p5, p6, p7, p8, p9, p10, p11, p12, p13, p14, p15, p16], [], [], []⟩
theorem c__law_wrong_part : chkSs G__law_wrong_part N__law_wrong_part s__law_wrong_part (defScope (topS 28)) (defBody (topS 28)) = true := by kernel_rfl
def f__law_wrong_part : DFn DE.TA := runFn G__law_wrong_part 0 N__law_wrong_part.length s__law_wrong_part
abbrev i__law_wrong_part : FI := ⟨"_law_wrong_part", ["run", "many", "span", "late"], [], [], false⟩
abbrev N__law_keeps : List Str := ["weather", "bits", "at", "span", "run"]
def s__law_keeps : Ss := (.cons (.par [(3, false), (4, false)] (.cons (.idx (.var 0) (.str "span")) (.cons (.idx (.var 0) (.str "run")) .nil)))
  (.cons (.fr (.nm 2) (.rng1 (.bi .len (.cons (.var 1) .nil))) (.cons (.ite (.or (.cmp .gt (.prim 0 (.cons (.slc (.var 1) (.var 2) (.bin .add (.var 2) (.var 3))) .nil)) (.idx (.var 0) (.str "many"))) (.and (.cmp .eq (.bi .len (.cons (.slc (.var 1) (.var 2) (.bin .add (.bin .add (.var 2) (.var 4)) (.int 1))) .nil)) (.bin .add (.var 4) (.int 1))) (.cmp .eq (.prim 0 (.cons (.slc (.var 1) (.var 2) (.bin .add (.bin .add (.var 2) (.var 4)) (.int 1))) .nil)) (.bin .add (.var 4) (.int 1))))) (.cons (.ret (.bl false))
  .nil) .nil)
  .nil))
  (.cons (.ret (.bl true))
  .nil)))
def G__law_keeps : Pg DE.TA := ⟨[(i_is_number, f_is_number), (i_is_between, f_is_between), (i_is_list, f_is_list), (i_is_bits, f_is_bits), (i_may_lose, f_may_lose), (i_need_weather, f_need_weather), (i_keeps_to, f_keeps_to), (i_let_next, f_let_next), (i__law_draw, f__law_draw), (i__law_pick, f__law_pick), (i__law_weather, f__law_weather), (i__law_may_be_lost, f__law_may_be_lost), (i__law_is_number, f__law_is_number), (i__law_wrong_part, f__law_wrong_part)], CLS, CONS, ATR, [p0, p1, p2, p3, p4, p5, p6, p7, p8, p9, p10, p11, p12, p13, p14, p15, p16], [], [], []⟩
theorem c__law_keeps : chkSs G__law_keeps N__law_keeps s__law_keeps (defScope (topS 29)) (defBody (topS 29)) = true := by kernel_rfl
def f__law_keeps : DFn DE.TA := runFn G__law_keeps 0 N__law_keeps.length s__law_keeps
abbrev i__law_keeps : FI := ⟨"_law_keeps", ["weather", "bits"], [], [], false⟩
abbrev N__law_row : List Str := ["tape", "weather", "lap", "memory", "found", "bit", "spot"]
def s__law_row : Ss := (.cons (.par [(3, false), (4, true)] (.cons (.prim 1 (.cons (.tup (.cons (.int 0) .nil)) (.cons (.bin .sub (.idx (.var 1) (.str "span")) (.int 1)) .nil))) (.cons (.lst .nil) .nil)))
  (.cons (.fr (.nm 2) (.rng1 (.call 9 (.cons (.var 0) (.cons (.lst (.cons (.int 0) (.cons (.int 1) (.cons (.int 2) (.cons (.int 5) (.cons (.int 13) (.cons (.int 30) (.cons (.int 40) .nil)))))))) .nil)))) (.cons (.asg (.nm 5) false (.bi .int (.cons (.and (.cmp .gt (.call 8 (.cons (.var 0) (.cons (.int 3) .nil))) (.int 0)) (.call 11 (.cons (.var 1) (.cons (.var 3) .nil)))) .nil)))
  (.cons (.app 4 (.var 5))
  (.cons (.asg (.nm 3) false (.slc (.bin .add (.var 3) (.tup (.cons (.var 5) .nil))) (.int 1) .noe))
  .nil))))
  (.cons (.ite (.and (.cmp .ne (.var 4) (.lst .nil)) (.cmp .eq (.call 8 (.cons (.var 0) (.cons (.int 2) .nil))) (.int 0))) (.cons (.asg (.nm 6) false (.call 9 (.cons (.var 0) (.cons (.lst (.cons (.bin .sub (.bi .len (.cons (.var 4) .nil)) (.int 1)) (.cons (.call 8 (.cons (.var 0) (.cons (.bi .len (.cons (.var 4) .nil)) .nil))) .nil))) .nil))))
  (.cons (.set 4 (.var 6) (.int 1))
  .nil)) .nil)
  (.cons (.ret (.var 4))
  .nil))))
def G__law_row : Pg DE.TA := ⟨[(i_is_number, f_is_number), (i_is_between, f_is_between), (i_is_list, f_is_list), (i_is_bits, f_is_bits), (i_may_lose, f_may_lose), (i_need_weather, f_need_weather), (i_keeps_to, f_keeps_to), (i_let_next, f_let_next), (i__law_draw, f__law_draw), (i__law_pick, f__law_pick), (i__law_weather, f__law_weather), (i__law_may_be_lost, f__law_may_be_lost), (i__law_is_number, f__law_is_number), (i__law_wrong_part, f__law_wrong_part), (i__law_keeps, f__law_keeps)], CLS, CONS, ATR, [p0, p1, p2, p3, p4, p5, p6, p7, p8, p9, p10, p11, p12, p13, p14, p15, p16], [], [], []⟩
theorem c__law_row : chkSs G__law_row N__law_row s__law_row (defScope (topS 30)) (defBody (topS 30)) = true := by kernel_rfl
def f__law_row : DFn DE.TA := runFn G__law_row 0 N__law_row.length s__law_row
abbrev i__law_row : FI := ⟨"_law_row", ["tape", "weather"], [], [], false⟩
abbrev N__law_made_right : List Str := ["tape", "weather", "made", "lap", "parts", "turn", "due", "caught", "other", "same", "_law_caught", "<repr>"]
def s__law_made_right : Ss := (.cons (.asg (.nm 2) false (.prim 10 (.cons (.idx (.var 1) (.str "run")) (.cons (.idx (.var 1) (.str "many")) (.cons (.idx (.var 1) (.str "span")) (.cons (.idx (.var 1) (.str "late")) .nil))))))
  (.cons (.ite (.cmp .ne (.prim 2 (.cons (.lst (.cons (.prim 12 (.cons (.var 2) .nil)) (.cons (.prim 13 (.cons (.var 2) .nil)) (.cons (.prim 14 (.cons (.var 2) .nil)) (.cons (.prim 15 (.cons (.var 2) .nil)) .nil))))) .nil)) (.prim 2 (.cons (.lst (.cons (.idx (.var 1) (.str "run")) (.cons (.idx (.var 1) (.str "many")) (.cons (.idx (.var 1) (.str "span")) (.cons (.idx (.var 1) (.str "late")) .nil))))) .nil))) (.cons (.ret (.bl false))
  .nil) .nil)
  (.cons (.fr (.nm 3) (.rng1 (.int 6)) (.cons (.asg (.nm 4) true (.lst (.cons (.idx (.var 1) (.str "run")) (.cons (.idx (.var 1) (.str "many")) (.cons (.idx (.var 1) (.str "span")) (.cons (.idx (.var 1) (.str "late")) .nil))))))
  (.cons (.fr (.nm 5) (.rng1 (.bin .add (.int 1) (.call 8 (.cons (.var 0) (.cons (.int 2) .nil))))) (.cons (.set 4 (.call 8 (.cons (.var 0) (.cons (.int 4) .nil))) (.call 9 (.cons (.var 0) (.cons (.lst (.cons (.int 0) (.cons (.int 1) (.cons (.int 2) (.cons (.int 3) (.cons (.int 11) (.cons (.int 12) (.cons (.int 13) (.cons (.int 8) (.cons (.int 9) (.cons (.neg (.int 1)) (.cons .non (.cons (.bl true) (.cons (.bl false) (.cons (.str "1") (.cons (.tup (.cons (.int 1) .nil)) (.cons (.idx (.var 1) (.str "span")) (.cons (.idx (.var 1) (.str "many")) (.cons (.bin .add (.idx (.var 1) (.str "many")) (.int 1)) .nil))))))))))))))))))) .nil))))
  .nil))
  (.cons (.asg (.nm 6) false (.call 13 (.cons (.idx (.var 4) (.int 0)) (.cons (.idx (.var 4) (.int 1)) (.cons (.idx (.var 4) (.int 2)) (.cons (.idx (.var 4) (.int 3)) .nil))))))
  (.cons (.asg (.nm 7) false (.caught (.prim 11 (.cons (.idx (.var 4) (.int 3)) (.cons (.idx (.var 4) (.int 2)) (.cons (.idx (.var 4) (.int 1)) (.cons (.idx (.var 4) (.int 0)) .nil)))))))
  (.cons (.ite (.or (.and (.cmp .isnot (.var 6) .non) (.or (.not (.prim 5 (.cons (.var 7) .nil))) (.cmp .ne (.prim 8 (.cons (.var 7) .nil)) (.var 6)))) (.and (.cmp .is (.var 6) .non) (.cmp .isnot (.var 7) .non))) (.cons (.ret (.bl false))
  .nil) .nil)
  (.cons (.ite (.cmp .is (.var 6) .non) (.cons (.asg (.nm 8) false (.prim 10 (.cons (.idx (.var 4) (.int 0)) (.cons (.idx (.var 4) (.int 1)) (.cons (.idx (.var 4) (.int 2)) (.cons (.idx (.var 4) (.int 3)) .nil))))))
  (.cons (.asg (.nm 9) false (.cmp .eq (.var 4) (.lst (.cons (.idx (.var 1) (.str "run")) (.cons (.idx (.var 1) (.str "many")) (.cons (.idx (.var 1) (.str "span")) (.cons (.idx (.var 1) (.str "late")) .nil)))))))
  (.cons (.ite (.or (.cmp .ne (.prim 16 (.cons (.var 8) (.cons (.var 2) .nil))) (.var 9)) (.cmp .ne (.prim 16 (.cons (.var 2) (.cons (.var 8) .nil))) (.var 9))) (.cons (.ret (.bl false))
  .nil) .nil)
  .nil))) .nil)
  .nil)))))))
  (.cons (.ret (.and (.not (.prim 16 (.cons (.var 2) (.cons .non .nil)))) (.not (.prim 16 (.cons (.var 2) (.cons (.tup (.cons (.idx (.var 1) (.str "run")) (.cons (.idx (.var 1) (.str "many")) (.cons (.idx (.var 1) (.str "span")) (.cons (.idx (.var 1) (.str "late")) .nil))))) .nil))))))
  .nil))))
def G__law_made_right : Pg DE.TA := ⟨[(i_is_number, f_is_number), (i_is_between, f_is_between), (i_is_list, f_is_list), (i_is_bits, f_is_bits), (i_may_lose, f_may_lose), (i_need_weather, f_need_weather), (i_keeps_to, f_keeps_to), (i_let_next, f_let_next), (i__law_draw, f__law_draw), (i__law_pick, f__law_pick), (i__law_weather, f__law_weather), (i__law_may_be_lost, f__law_may_be_lost), (i__law_is_number, f__law_is_number), (i__law_wrong_part, f__law_wrong_part), (i__law_keeps, f__law_keeps), (i__law_row, f__law_row)], CLS, CONS, ATR, [p0, p1, p2, p3, p4, p5, p6, p7, p8, p9, p10, p11, p12, p13, p14, p15, p16], [], [], []⟩
theorem c__law_made_right : chkSs G__law_made_right N__law_made_right s__law_made_right (defScope (topS 31)) (defBody (topS 31)) = true := by kernel_rfl
def f__law_made_right : DFn DE.TA := runFn G__law_made_right 0 N__law_made_right.length s__law_made_right
abbrev i__law_made_right : FI := ⟨"_law_made_right", ["tape", "weather"], [], [], true⟩
abbrev N__law_rows_right : List Str := ["tape", "weather", "made", "lap", "bits", "kept", "told", "memory", "at", "bit", "due", "<repr>"]
def s__law_rows_right : Ss := (.cons (.fr (.nm 3) (.rng1 (.int 4)) (.cons (.asg (.nm 4) false (.call 15 (.cons (.var 0) (.cons (.var 1) .nil))))
  (.cons (.asg (.nm 5) false (.bi .list (.cons (.var 4) .nil)))
  (.cons (.asg (.nm 6) false (.lst (.cons (.call 6 (.cons (.var 2) (.cons (.var 4) .nil))) (.cons (.callk 6 .nil ["bits", "weather"] (.cons (.bi .tuple (.cons (.var 4) .nil)) (.cons (.var 2) .nil)) [1, 0]) .nil))))
  (.cons (.ite (.or (.cmp .ne (.prim 2 (.cons (.var 6) .nil)) (.prim 2 (.cons (.prim 1 (.cons (.lst (.cons (.call 14 (.cons (.var 1) (.cons (.var 5) .nil))) .nil)) (.cons (.int 2) .nil))) .nil))) (.cmp .ne (.var 4) (.var 5))) (.cons (.ret (.bl false))
  .nil) .nil)
  (.cons (.asg (.nm 7) false (.prim 1 (.cons (.tup (.cons (.int 0) .nil)) (.cons (.bin .sub (.idx (.var 1) (.str "span")) (.int 1)) .nil))))
  (.cons (.fr (.tp [8, 9]) (.enum (.var 5)) (.cons (.asg (.nm 10) false (.call 11 (.cons (.var 1) (.cons (.var 7) .nil))))
  (.cons (.ite (.and (.call 14 (.cons (.var 1) (.cons (.slc (.var 5) .noe (.var 8)) .nil))) (.cmp .ne (.call 14 (.cons (.var 1) (.cons (.bin .add (.slc (.var 5) .noe (.var 8)) (.lst (.cons (.int 1) .nil))) .nil))) (.var 10))) (.cons (.ret (.bl false))
  .nil) .nil)
  (.cons (.ite (.cmp .ne (.prim 2 (.cons (.lst (.cons (.call 7 (.cons (.var 2) (.cons (.var 7) .nil))) (.cons (.callk 7 .nil ["memory", "weather"] (.cons (.var 7) (.cons (.var 2) .nil)) [1, 0]) .nil))) .nil)) (.prim 2 (.cons (.lst (.cons (.var 10) (.cons (.var 10) .nil))) .nil))) (.cons (.ret (.bl false))
  .nil) .nil)
  (.cons (.asg (.nm 7) false (.slc (.bin .add (.var 7) (.tup (.cons (.var 9) .nil))) (.int 1) .noe))
  .nil)))))
  .nil)))))))
  (.cons (.ret (.bl true))
  .nil))
def G__law_rows_right : Pg DE.TA := ⟨[(i_is_number, f_is_number), (i_is_between, f_is_between), (i_is_list, f_is_list), (i_is_bits, f_is_bits), (i_may_lose, f_may_lose), (i_need_weather, f_need_weather), (i_keeps_to, f_keeps_to), (i_let_next, f_let_next), (i__law_draw, f__law_draw), (i__law_pick, f__law_pick), (i__law_weather, f__law_weather), (i__law_may_be_lost, f__law_may_be_lost), (i__law_is_number, f__law_is_number), (i__law_wrong_part, f__law_wrong_part), (i__law_keeps, f__law_keeps), (i__law_row, f__law_row), (i__law_made_right, f__law_made_right)], CLS, CONS, ATR, [p0, p1, p2, p3, p4, p5, p6, p7, p8, p9, p10, p11, p12, p13, p14, p15, p16], [], [], []⟩
theorem c__law_rows_right : chkSs G__law_rows_right N__law_rows_right s__law_rows_right (defScope (topS 32)) (defBody (topS 32)) = true := by kernel_rfl
def f__law_rows_right : DFn DE.TA := runFn G__law_rows_right 0 N__law_rows_right.length s__law_rows_right
abbrev i__law_rows_right : FI := ⟨"_law_rows_right", ["tape", "weather", "made"], [], [], true⟩
abbrev N__law_refused_right : List Str := ["tape", "weather", "made", "work", "memory", "wrong", "no", "bad", "caught", "_law_caught"]
def s__law_refused_right : Ss := (.cons (.asg (.tp [6, 7]) false (.tup (.cons (.call 9 (.cons (.var 0) (.cons (.lst (.cons .non (.cons (.int 5) (.cons (.var 1) (.cons (.tup (.cons (.int 1) (.cons (.int 1) (.cons (.int 2) (.cons (.int 0) .nil))))) (.cons (.str "w") .nil)))))) .nil))) (.cons (.call 9 (.cons (.var 0) (.cons (.lst (.cons .non (.cons (.int 5) (.cons (.str "01") (.cons (.lst (.cons (.int 0) (.cons (.int 2) .nil))) (.cons (.lst (.cons (.bl true) .nil)) (.cons (.tup (.cons (.int 0) (.cons .non .nil))) (.cons (.dct [.inl 0] (.cons (.int 1) .nil)) (.cons (.lst (.cons (.neg (.int 1)) .nil)) (.cons (.lst (.cons (.str "0") .nil)) (.cons (.lst (.cons (.lst (.cons (.int 0) .nil)) .nil)) .nil))))))))))) .nil))) .nil))))
  (.cons (.lams 3 (.cons (.call 6 (.cons (.var 6) (.cons (.var 7) .nil))) (.cons (.call 7 (.cons (.var 6) (.cons (.var 7) .nil))) .nil)) (.cons (.asg (.nm 8) false (.cw 3))
  (.cons (.ite (.or (.not (.prim 5 (.cons (.var 8) .nil))) (.cmp .isnot (.prim 8 (.cons (.var 8) .nil)) .non)) (.cons (.ret (.bl false))
  .nil) .nil)
  .nil)))
  (.cons (.ite (.not (.prim 6 (.cons (.caught (.call 6 (.cons (.var 2) (.cons (.var 7) .nil)))) .nil))) (.cons (.ret (.bl false))
  .nil) .nil)
  (.cons (.asg (.nm 4) false (.prim 1 (.cons (.tup (.cons (.int 0) .nil)) (.cons (.bin .sub (.idx (.var 1) (.str "span")) (.int 1)) .nil))))
  (.cons (.asg (.nm 5) false (.call 9 (.cons (.var 0) (.cons (.lst (.cons .non (.cons (.bi .list (.cons (.var 4) .nil)) (.cons (.bin .add (.var 4) (.tup (.cons (.int 0) .nil))) (.cons (.slc (.var 4) (.int 1) .noe) (.cons (.bin .add (.tup (.cons (.int 2) .nil)) (.slc (.var 4) (.int 1) .noe)) (.cons (.bin .add (.tup (.cons (.bl true) .nil)) (.slc (.var 4) (.int 1) .noe)) (.cons (.bin .add (.slc (.var 4) .noe (.neg (.int 1))) (.tup (.cons .non .nil))) (.cons (.int 5) (.cons (.prim 1 (.cons (.str "0") (.cons (.bi .len (.cons (.var 4) .nil)) .nil))) .nil)))))))))) .nil))))
  (.cons (.ret (.prim 7 (.cons (.caught (.call 7 (.cons (.var 2) (.cons (.var 5) .nil)))) .nil)))
  .nil))))))
def G__law_refused_right : Pg DE.TA := ⟨[(i_is_number, f_is_number), (i_is_between, f_is_between), (i_is_list, f_is_list), (i_is_bits, f_is_bits), (i_may_lose, f_may_lose), (i_need_weather, f_need_weather), (i_keeps_to, f_keeps_to), (i_let_next, f_let_next), (i__law_draw, f__law_draw), (i__law_pick, f__law_pick), (i__law_weather, f__law_weather), (i__law_may_be_lost, f__law_may_be_lost), (i__law_is_number, f__law_is_number), (i__law_wrong_part, f__law_wrong_part), (i__law_keeps, f__law_keeps), (i__law_row, f__law_row), (i__law_made_right, f__law_made_right), (i__law_rows_right, f__law_rows_right)], CLS, CONS, ATR, [p0, p1, p2, p3, p4, p5, p6, p7, p8, p9, p10, p11, p12, p13, p14, p15, p16], [], [], []⟩
theorem c__law_refused_right : chkSs G__law_refused_right N__law_refused_right s__law_refused_right (defScope (topS 33)) (defBody (topS 33)) = true := by kernel_rfl
def f__law_refused_right : DFn DE.TA := runFn G__law_refused_right 0 N__law_refused_right.length s__law_refused_right
abbrev i__law_refused_right : FI := ⟨"_law_refused_right", ["tape", "weather", "made"], [], [], false⟩
abbrev N_law : List Str := ["script", "tape", "known", "told", "turn", "weather", "made", "<repr>"]
def s_law : Ss := (.cons (.asg (.nm 2) false (.prim 10 (.cons (.int 2) (.cons (.int 3) (.cons (.int 5) (.cons (.int 1) .nil))))))
  (.cons (.asg (.nm 3) false (.lst (.cons (.call 6 (.cons (.var 2) (.cons (.lst (.cons (.int 1) (.cons (.int 1) (.cons (.int 0) (.cons (.int 1) (.cons (.int 0) (.cons (.int 1) (.cons (.int 1) .nil)))))))) .nil))) (.cons (.call 6 (.cons (.var 2) (.cons (.lst (.cons (.int 1) (.cons (.int 1) (.cons (.int 1) .nil)))) .nil))) (.cons (.call 6 (.cons (.var 2) (.cons (.lst (.cons (.int 1) (.cons (.int 1) (.cons (.int 0) (.cons (.int 1) (.cons (.int 1) .nil)))))) .nil))) (.cons (.call 6 (.cons (.var 2) (.cons (.lst .nil) .nil))) (.cons (.call 7 (.cons (.var 2) (.cons (.tup (.cons (.int 0) (.cons (.int 1) (.cons (.int 1) (.cons (.int 0) .nil))))) .nil))) (.cons (.call 7 (.cons (.var 2) (.cons (.tup (.cons (.int 0) (.cons (.int 0) (.cons (.int 1) (.cons (.int 1) .nil))))) .nil))) .nil))))))))
  (.cons (.ite (.cmp .ne (.prim 2 (.cons (.var 3) .nil)) (.str "[True, False, False, True, True, False]")) (.cons (.ret (.bl false))
  .nil) .nil)
  (.cons (.fr (.nm 4) (.rng1 (.bin .add (.int 2) (.bi .min (.cons (.bi .len (.cons (.var 0) .nil)) (.cons (.int 4) .nil))))) (.cons (.asg (.nm 5) false (.call 10 (.cons (.var 1) (.cons (.int 12) .nil))))
  (.cons (.asg (.nm 6) false (.prim 10 (.cons (.idx (.var 5) (.str "run")) (.cons (.idx (.var 5) (.str "many")) (.cons (.idx (.var 5) (.str "span")) (.cons (.idx (.var 5) (.str "late")) .nil))))))
  (.cons (.ite (.or (.not (.call 16 (.cons (.var 1) (.cons (.var 5) .nil)))) (.or (.not (.call 17 (.cons (.var 1) (.cons (.var 5) (.cons (.var 6) .nil))))) (.not (.call 18 (.cons (.var 1) (.cons (.var 5) (.cons (.var 6) .nil))))))) (.cons (.ret (.bl false))
  .nil) .nil)
  .nil))))
  (.cons (.ret (.bl true))
  .nil)))))
def G_law : Pg DE.TA := ⟨[(i_is_number, f_is_number), (i_is_between, f_is_between), (i_is_list, f_is_list), (i_is_bits, f_is_bits), (i_may_lose, f_may_lose), (i_need_weather, f_need_weather), (i_keeps_to, f_keeps_to), (i_let_next, f_let_next), (i__law_draw, f__law_draw), (i__law_pick, f__law_pick), (i__law_weather, f__law_weather), (i__law_may_be_lost, f__law_may_be_lost), (i__law_is_number, f__law_is_number), (i__law_wrong_part, f__law_wrong_part), (i__law_keeps, f__law_keeps), (i__law_row, f__law_row), (i__law_made_right, f__law_made_right), (i__law_rows_right, f__law_rows_right), (i__law_refused_right, f__law_refused_right)], CLS, CONS, ATR, [p0, p1, p2, p3, p4, p5, p6, p7, p8, p9, p10, p11, p12, p13, p14, p15, p16], [], [], []⟩
theorem c_law : chkSs G_law N_law s_law (defScope (topS 34)) ((defBody (topS 34)).drop 1) = true := by kernel_rfl
end LawX
set_option maxHeartbeats 0
namespace LawX
open PySem PySem.Spec PyProof.Rows L2 DE He
def d0 : DefD := ⟨("is_number", none), "is_number", "is_number", defArgs (topS 7), defBody (topS 7), defScope (topS 7), [], []⟩
def d1 : DefD := ⟨("is_between", none), "is_between", "is_between", defArgs (topS 8), defBody (topS 8), defScope (topS 8), [], []⟩
def d2 : DefD := ⟨("is_list", none), "is_list", "is_list", defArgs (topS 9), defBody (topS 9), defScope (topS 9), [], []⟩
def d3 : DefD := ⟨("is_bits", none), "is_bits", "is_bits", defArgs (topS 10), defBody (topS 10), defScope (topS 10), [], []⟩
def d4 : DefD := ⟨("Weather", some "__init__"), "__init__", "Weather.__init__", defArgs (topM 14 0), defBody (topM 14 0), defScope (topM 14 0), [], []⟩
def d5 : DefD := ⟨("Weather", some "__eq__"), "__eq__", "Weather.__eq__", defArgs (topM 14 5), defBody (topM 14 5), defScope (topM 14 5), [], []⟩
def d6 : DefD := ⟨("may_lose", none), "may_lose", "may_lose", defArgs (topS 15), defBody (topS 15), defScope (topS 15), [], []⟩
def d7 : DefD := ⟨("need_weather", none), "need_weather", "need_weather", defArgs (topS 16), defBody (topS 16), defScope (topS 16), [], []⟩
def d8 : DefD := ⟨("keeps_to", none), "keeps_to", "keeps_to", defArgs (topS 17), defBody (topS 17), defScope (topS 17), [], []⟩
def d9 : DefD := ⟨("let_next", none), "let_next", "let_next", defArgs (topS 18), defBody (topS 18), defScope (topS 18), [], []⟩
def d10 : DefD := ⟨("_law_begun", none), "_law_begun", "_law_begun", defArgs (topS 20), defBody (topS 20), defScope (topS 20), [], []⟩
def d11 : DefD := ⟨("_law_blend", none), "_law_blend", "_law_blend", defArgs (topS 21), defBody (topS 21), defScope (topS 21), [], []⟩
def d12 : DefD := ⟨("_law_draw", none), "_law_draw", "_law_draw", defArgs (topS 22), defBody (topS 22), defScope (topS 22), [], []⟩
def d13 : DefD := ⟨("_law_pick", none), "_law_pick", "_law_pick", defArgs (topS 23), defBody (topS 23), defScope (topS 23), [], []⟩
def d14 : DefD := ⟨("_law_weather", none), "_law_weather", "_law_weather", defArgs (topS 24), defBody (topS 24), defScope (topS 24), [], []⟩
def d15 : DefD := ⟨("_law_may_be_lost", none), "_law_may_be_lost", "_law_may_be_lost", defArgs (topS 25), defBody (topS 25), defScope (topS 25), [], []⟩
def d16 : DefD := ⟨("_law_caught", none), "_law_caught", "_law_caught", defArgs (topS 26), defBody (topS 26), defScope (topS 26), [], []⟩
def d17 : DefD := ⟨("_law_is_number", none), "_law_is_number", "_law_is_number", defArgs (topS 27), defBody (topS 27), defScope (topS 27), [], []⟩
def d18 : DefD := ⟨("_law_wrong_part", none), "_law_wrong_part", "_law_wrong_part", defArgs (topS 28), defBody (topS 28), defScope (topS 28), [], []⟩
def d19 : DefD := ⟨("_law_keeps", none), "_law_keeps", "_law_keeps", defArgs (topS 29), defBody (topS 29), defScope (topS 29), [], []⟩
def d20 : DefD := ⟨("_law_row", none), "_law_row", "_law_row", defArgs (topS 30), defBody (topS 30), defScope (topS 30), [], []⟩
def d21 : DefD := ⟨("_law_made_right", none), "_law_made_right", "_law_made_right", defArgs (topS 31), defBody (topS 31), defScope (topS 31), [], []⟩
def d22 : DefD := ⟨("_law_rows_right", none), "_law_rows_right", "_law_rows_right", defArgs (topS 32), defBody (topS 32), defScope (topS 32), [], []⟩
def d23 : DefD := ⟨("_law_refused_right", none), "_law_refused_right", "_law_refused_right", defArgs (topS 33), defBody (topS 33), defScope (topS 33), [], []⟩
def d24 : DefD := ⟨("law", none), "law", "law", defArgs (topS 34), defBody (topS 34), defScope (topS 34), [], []⟩
def fnL : List DefD := [d0, d1, d2, d3, d4, d5, d6, d7, d8, d9, d10, d11, d12, d13, d14, d15, d16, d17, d18, d19, d20, d21, d22, d23, d24]
def x0 : XD := supX PG "PartError" (defArgs (topM 2 0)) (defBody (topM 2 0)) (defScope (topM 2 0))
def x1 : XD := prX "Weather" "run" (defArgs (topM 14 1)) (defBody (topM 14 1)) (defScope (topM 14 1))
def x2 : XD := prX "Weather" "many" (defArgs (topM 14 2)) (defBody (topM 14 2)) (defScope (topM 14 2))
def x3 : XD := prX "Weather" "span" (defArgs (topM 14 3)) (defBody (topM 14 3)) (defScope (topM 14 3))
def x4 : XD := prX "Weather" "late" (defArgs (topM 14 4)) (defBody (topM 14 4)) (defScope (topM 14 4))
def xsL : List XD := [x0, x1, x2, x3, x4]
def faL : List Fa := [.glo "CallError", .glo "PartError", .glo "BadWeather", .glo "BadBits", .glo "BadMemory", .glo "is_number", .glo "is_between", .glo "is_list", .glo "is_bits", .glo "Weather", .glo "may_lose", .glo "need_weather", .glo "keeps_to", .glo "let_next", .glo "_law_begun", .glo "_law_blend", .glo "_law_draw", .glo "_law_pick", .glo "_law_weather", .glo "_law_may_be_lost", .glo "_law_caught", .glo "_law_is_number", .glo "_law_wrong_part", .glo "_law_keeps", .glo "_law_row", .glo "_law_made_right", .glo "_law_rows_right", .glo "_law_refused_right", .glo "law", .free "len", .free "abs", .free "min", .free "max", .free "sum", .free "all", .free "any", .free "int", .free "list", .free "tuple", .free "sorted", .free "repr", .free "divmod", .free "str", .free "set", .free "dict", .free "isinstance", .free "range", .free "enumerate", .free "zip", .free "reversed", .free "bool", .free "ValueError", .int "MOST_SPAN" (12), .int "MOST_LATE" (8), .cls "Weather", .mkr "Weather", .exc "CallError", .exm "CallError" "CallError" true, .exm "PartError" "CallError" true, .exm "BadWeather" "CallError" true, .exc "BadBits", .exm "BadBits" "CallError" true, .exc "BadMemory", .exm "BadMemory" "CallError" true]
def tfL : List Defn := [("_law_made_right", none), ("_law_refused_right", none)]
def CAof (K : PySem.W.Frag) : Nat → Addr := fun c => ga K ((["CallError", "PartError", "BadWeather", "BadBits", "BadMemory", "Weather"] : List Str).getD c "")
def exL : List (PySem.W.Frag → Bool) := [fun K => errB K "PartError" "PartError" "part",
  fun K => xfB K (ga K "PartError") && eqO (PySem.W.findIn K (.ref (ga K "PartError")) "part") (some none),
  fun K => errB K "BadWeather" "PartError" "part",
  fun K => xfB K (ga K "BadWeather") && eqO (PySem.W.findIn K (.ref (ga K "BadWeather")) "part") (some none),
  fun K => isiB K (CAof K) (ga K "Weather") [false, false, false, false, false] [(5, true)],
  fun K => isiB K (CAof K) (ga K "BadWeather") [false, false, true, false, false] [(5, false)],
  fun K => isiB K (CAof K) (ga K "BadBits") [false, false, false, true, false] [(5, false)],
  fun K => isiB K (CAof K) (ga K "BadMemory") [false, false, false, false, true] [(5, false)],
  fun K => apartB K (ga K "Weather"),
  fun K => eqO (PySem.W.findIn K (.ref (ga K "Weather")) "numbers") (some none),
  fun K => (eqO (PySem.W.findIn K (.ref (ga K "Weather")) "__eq__") (some (some (.ref (ma K (ga K "Weather") "__eq__")))) && PySem.W.isFn K (.ref (ma K (ga K "Weather") "__eq__"))),
  fun K => decide ((tfL.map fun p => (cT K p).2).Nodup)]
def exB (K : PySem.W.Frag) : Bool := exL.all fun f => f K
def loose0 : List Str := ["CallError", "PartError", "BadWeather", "BadBits", "BadMemory", "is_number", "is_between", "is_list", "is_bits", "MOST_SPAN", "MOST_LATE", "Weather", "may_lose", "need_weather", "keeps_to", "let_next", "_law_begun", "_law_blend", "_law_draw", "_law_pick", "_law_weather", "_law_may_be_lost", "_law_caught", "_law_is_number", "_law_wrong_part", "_law_keeps", "_law_row", "_law_made_right", "_law_rows_right", "_law_refused_right"]
abbrev loose : List Str := loose0
abbrev RR : PySem.W.OpenRow := PySem.W.OpenLaw.row PySem.Challenge.rw_seenandheard_k03_weathers_and_rows_of_lo
abbrev hk : PySem.W.Hook := hookY 6 faL fnL xsL tfL exB
def ob (s : PySem.W.SharedT) : AlY := obsY 6 faL fnL xsL tfL exB (HandSHeadRun.getT s)
theorem ob_eq (s : PySem.W.SharedT) : ob s = hk.obs s.abs := obsY_eq (HandSHeadRun.getT_eq s)
theorem run (w : World) : HandSHeadRun.RunEq RR (PySem.W.view RR.prog [34]) hk ob 4000 loose w := by
  intro os
  kernel_rfl
end LawX
set_option maxHeartbeats 4000000
/-! DE38: the law's data leans on the tape; defs' binding by keywords; _law_draw as a def of the table. -/
namespace DE
open PySem PySem.Spec PyProof.Rows L2 He
/-- the law's data: the tape at R, its lists at l, c; the tables of code objects -/
def mdX (K : PySem.W.Frag) (CA : Nat → Addr) (atr : Nat → Str) (Ts : List (Addr × Str)) (R l c : Addr) : Md DE.TA := { K := K, tp := tpTab (tpA R l c) Ts, CA := CA, atr := atr }
theorem kwb_of {K : PySem.W.Frag} {x qual : Str} {params : Arguments} {body : List Stmt} {scope : Scope} {kws : List (Str × V)} {f : Addr} {fd : FuncData} {ps ks : List Str} {pm : List Nat} (F : FunD K x qual params body scope [] kws f fd) (ok : (pm.all fun i => decide (i < ks.length)) = true)
    (h : ∀ (kV doc pv : Value) (an : Option Addr) (cdv ct : Value) (u : Value) (ws ys : List Value), ws.length = ks.length → permL pm ws = some ys → bindArgs (PySem.W.fnOf x qual params body scope .none kV doc pv an cdv ct) ⟨[u], ks.zip ws⟩ = pure (ps.zip (u :: ys))) : KwB K fd ps ks pm := by
  obtain ⟨oc, od, dV, kV, doc, pv, an, cdv, ct, osl, rfl, _, _, hD, _⟩ := F.ex
  rcases hD with ⟨_, rfl⟩ | ⟨e, _⟩
  · exact ⟨ok, fun s u ws ys _ l2 hp => .of_eq (h kV doc pv an cdv ct u ws ys l2 hp)⟩
  · exact absurd rfl e
theorem drawA_nbr : ∀ ds t d t', drawA ds t = .ok d t' → d.2 ≠ .br := fun ds t d t' h => by
  unfold drawA at h
  split at h
  · split at h
    · cases h; exact fun z => nomatch z
    · cases h
  · cases h
theorem draw_fnI {M : Md DE.TA} {P : Program} {w : World} {K : PySem.W.Frag} {mg : Str → Option Value} {base : Heap} {k : Nat} {R l c : Addr} {Ts : List (Addr × Str)} (hM : M.tp = tpTab (tpA R l c) Ts) {f : Addr} {fd : FuncData} (F : FnOk P w K mg base (CX P w) k f fd ["tape", "size"] spDraw) (gm : mg "_law_draw" = some (.ref f)) (kp : PySem.W.keepIn K (.ref f) = true) (bd : Binds K fd ["tape", "size"] []) :
    FnI M P w K mg base k ⟨"_law_draw", ["tape", "size"], [], [], false⟩ drawA := by
  have F2 := draw_sp hM F
  exact ⟨drawA_nbr, f, fd, .of F2, fun _ => F2, gm, kp, fun n hn => ⟨[], [], bd, .nil, fun F => by simpa using RepL.nil⟩, fun n ks pm h => nomatch h⟩
theorem con_look {M : Md DE.TA} {mg : Str → Option Value} {cons : List (Str × D)} (h : ∀ q ∈ cons, ∃ u v, mg q.1 = some u ∧ RelV v u ∧ ∀ F, Rep M F v q.2) : ∀ x d, cons.lookup x = some d → ∃ u v, mg x = some u ∧ RelV v u ∧ ∀ F, Rep M F v d := by
  intro x d e
  induction cons with
  | nil => cases e
  | cons q r ih =>
    obtain ⟨y, z⟩ := q
    unfold List.lookup at e
    split at e
    · rename_i hx
      cases e
      rw [beq_iff_eq.mp hx]
      exact h (y, _) List.mem_cons_self
    · exact ih (fun q hq => h q (List.mem_cons_of_mem _ hq)) e
section
variable {P : Program} {w : World} {K : PySem.W.Frag} {mg : Str → Option Value} {base : Heap} {k : Nat} {X : Cx}
theorem mk0_in (z : InX P w K mg base k X) {C : Addr} {x m : Str} {j : Nat} {p p2 pos : Pos} (ex : PySem.W.excIn K C He.veBase "ValueError.__new__" = true) (kp : PySem.W.keepIn K (.ref C) = true) (sb : PySem.W.subIn K (.ref C) (.type "BaseException") = some true) (ty : PySem.W.typeIn K (.ref C) = some (.type "type"))
    (hm : mg x = some (.ref C)) (hg : Gl X x) (hd : (x == ("__debug__" : Str)) = false) : PMk X (.Call (.Name x p) [.Constant (.str m) j p2] [] pos) (fun _ H Q => Q (.ref C) none H) := by
  obtain ⟨rfl, rfl, rfl, rfl, rfl, _, _⟩ := z
  exact mk0_of ex kp sb ty hm hg hd
theorem mk1_in (z : InX P w K mg base (k + 2) X) {C D fI : Addr} {fld par qual x : Str} {params : Arguments} {body : List Stmt} {scope : Scope} {fd : FuncData} (T : ErrC K C D fI fld) (Z : SupI P K fI D fld par qual params body scope fd) (hb : Binds K fd ["self", par] []) (hg : Gl X x) (hm : mg x = some (.ref C)) (hd : (x == ("__debug__" : Str)) = false)
    {e : Expr} {te : TE} {p pos : Pos} (he : PE X e te) (hst : ∀ env xs, starEach (e :: xs) env = (false, eval e env) :: starEach xs env) :
    PMk X (.Call (.Name x p) [e] [] pos) (fun σ H Q => te σ H fun v H1 => ∀ dx, H1 dx = none → Q (.ref C) (some dx) (upd H1 dx (.xd [(fld, v)]))) := by
  obtain ⟨rfl, rfl, rfl, rfl, rfl, room, _⟩ := z
  exact mk1_of (k := k) T Z hb room hg hm hd he hst
end
end DE
set_option maxHeartbeats 4000000
namespace LawX
open PySem PySem.Spec PyProof.Rows L2 DE He
theorem bl_free {K : PySem.W.Frag} {h : Heap} {mg : Str → Option Value} (X : K.In h) (G : h.Ns mainGlobals mg) (c : SaysY faL fnL xsL tfL exB h K) : ∀ x ∈ bltNames, mg x = none := by
  intro x hx
  unfold bltNames at hx
  simp only [List.mem_cons, List.not_mem_nil, or_false] at hx
  rcases hx with rfl | rfl | rfl | rfl | rfl | rfl | rfl | rfl | rfl | rfl | rfl | rfl | rfl | rfl | rfl | rfl | rfl | rfl | rfl | rfl | rfl | rfl | rfl
  · exact free_ok X G (c.fact 29 (f := .free "len") rfl)
  · exact free_ok X G (c.fact 30 (f := .free "abs") rfl)
  · exact free_ok X G (c.fact 31 (f := .free "min") rfl)
  · exact free_ok X G (c.fact 32 (f := .free "max") rfl)
  · exact free_ok X G (c.fact 33 (f := .free "sum") rfl)
  · exact free_ok X G (c.fact 34 (f := .free "all") rfl)
  · exact free_ok X G (c.fact 35 (f := .free "any") rfl)
  · exact free_ok X G (c.fact 36 (f := .free "int") rfl)
  · exact free_ok X G (c.fact 37 (f := .free "list") rfl)
  · exact free_ok X G (c.fact 38 (f := .free "tuple") rfl)
  · exact free_ok X G (c.fact 39 (f := .free "sorted") rfl)
  · exact free_ok X G (c.fact 40 (f := .free "repr") rfl)
  · exact free_ok X G (c.fact 41 (f := .free "divmod") rfl)
  · exact free_ok X G (c.fact 42 (f := .free "str") rfl)
  · exact free_ok X G (c.fact 43 (f := .free "set") rfl)
  · exact free_ok X G (c.fact 44 (f := .free "dict") rfl)
  · exact free_ok X G (c.fact 45 (f := .free "isinstance") rfl)
  · exact free_ok X G (c.fact 46 (f := .free "range") rfl)
  · exact free_ok X G (c.fact 47 (f := .free "enumerate") rfl)
  · exact free_ok X G (c.fact 48 (f := .free "zip") rfl)
  · exact free_ok X G (c.fact 49 (f := .free "reversed") rfl)
  · exact free_ok X G (c.fact 50 (f := .free "bool") rfl)
  · exact free_ok X G (c.fact 51 (f := .free "ValueError") rfl)
theorem exAt {h : Heap} {K : PySem.W.Frag} (c : SaysY faL fnL xsL tfL exB h K) (i : Nat) {f : PySem.W.Frag → Bool} (e : exL[i]? = some f) : f K = true := List.all_eq_true.mp c.more f (List.mem_of_getElem? e)
theorem supT_PartError : SupT "part" "part" (defArgs (topM 2 0)) (defBody (topM 2 0)) (defScope (topM 2 0)) where
  tx := ⟨_, _, _, _, _, _, _, _, _, _, _, _, rfl, fun env => ⟨_, rfl⟩⟩
  hd := ⟨_, rfl, rfl⟩
  ks := rfl
  kc := rfl
  kself := rfl
  kpar := rfl
  ncell := by decide +kernel
  only := fun x h => by
    have m : (x, NameKind.free) ∈ (defScope (topM 2 0)).names := PySem.mem_of_lookup h
    have a : ((defScope (topM 2 0)).names.all fun q => !decide (q.2 = .free) || decide (q.1 = "__class__")) = true := by decide +kernel
    have b := List.all_eq_true.mp a _ m
    simpa using b
  kind := rfl
  co := rfl
  gen := rfl
  ne := by decide
  nd := by decide
  ncd := by decide
  bind := fun _ _ _ _ _ _ _ _ _ us hl => match us, hl with | [_, _], _ => rfl
abbrev MX (K : PySem.W.Frag) (Ts : List (Addr × Str)) (R l cc : Addr) : Md DE.TA := mdX K (CAof K) ATR Ts R l cc
section
variable {w : World} {K : PySem.W.Frag} {h : Heap} {mg : Str → Option Value} {base : Heap} {Ts : List (Addr × Str)} {R l cc : Addr}
theorem ground (X : K.In h) (G : h.Ns mainGlobals mg) (c : SaysY faL fnL xsL tfL exB h K) : Ground (MX K Ts R l cc) PG w K mg base CLS CONS [p0, p1, p2, p3, p4, p5, p6, p7, p8, p9] 2 := by
  have fr := bl_free X G c
  refine ⟨rfl, fr, con_look fun q hq => ?_, fun i y e Z x g hd m j p p2 pos => ?_, fun i y e Z x g hd ee te p pos he hst => ?_, fun GG f i p e Z b => ?_⟩
  · unfold CONS at hq
    simp only [List.mem_cons, List.not_mem_nil, or_false] at hq
    rcases hq with rfl | rfl
    · obtain ⟨t, e⟩ := int_ok X G (c.fact 52 (f := .int "MOST_SPAN" (12)) rfl)
      exact ⟨_, .int (12), e, ⟨t, rfl⟩, fun F => Rep.int _⟩
    · obtain ⟨t, e⟩ := int_ok X G (c.fact 53 (f := .int "MOST_LATE" (8)) rfl)
      exact ⟨_, .int (8), e, ⟨t, rfl⟩, fun F => Rep.int _⟩
  · match i, e with
    | 0, e =>
      cases e
      obtain ⟨a1, a2, a3, a4⟩ := exc_ok (c.fact 56 (f := .exc "CallError") rfl)
      exact mk0_in x a1 a2 a3 a4 (glo_ok X G (c.fact 0 (f := .glo "CallError") rfl)) g hd
    | 1, e => cases e
    | 2, e => cases e
    | 3, e =>
      cases e
      obtain ⟨a1, a2, a3, a4⟩ := exc_ok (c.fact 60 (f := .exc "BadBits") rfl)
      exact mk0_in x a1 a2 a3 a4 (glo_ok X G (c.fact 3 (f := .glo "BadBits") rfl)) g hd
    | 4, e =>
      cases e
      obtain ⟨a1, a2, a3, a4⟩ := exc_ok (c.fact 62 (f := .exc "BadMemory") rfl)
      exact mk0_in x a1 a2 a3 a4 (glo_ok X G (c.fact 4 (f := .glo "BadMemory") rfl)) g hd
    | _ + 5, e => cases e
  · skip
    obtain ⟨fd0, Z0, B0⟩ := sup_says supT_PartError (c.xd 0 (d := x0) rfl).1 (c.xd 0 (d := x0) rfl).2
    match i, e with
    | 0, e => cases e
    | 1, e =>
      cases e
      exact mk1_in (k := 0) x (err_says (exAt c 0 rfl)) Z0 B0 g (glo_ok X G (c.fact 1 (f := .glo "PartError") rfl)) hd he hst
    | 2, e =>
      cases e
      exact mk1_in (k := 0) x (err_says (exAt c 2 rfl)) Z0 B0 g (glo_ok X G (c.fact 2 (f := .glo "BadWeather") rfl)) hd he hst
    | 3, e => cases e
    | 4, e => cases e
    | _ + 5, e => cases e
  · match i, e with
    | 0, e => cases e; exact (good_sum rfl (fr "sum" (by decide +kernel)) : Good (MX K Ts R l cc) PG w K mg base 2 p0) GG f Z b
    | 1, e => cases e; exact (good_mul rfl : Good (MX K Ts R l cc) PG w K mg base 2 p1) GG f Z b
    | 2, e => cases e; exact (good_repr rfl (fr "repr" (by decide +kernel)) : Good (MX K Ts R l cc) PG w K mg base 2 p2) GG f Z b
    | 3, e => cases e; exact (good_revT rfl : Good (MX K Ts R l cc) PG w K mg base 2 p3) GG f Z b
    | 4, e => cases e; exact (good_isi rfl (isi_says (exAt c 4 rfl)) (glo_ok X G (c.fact 9 (f := .glo "Weather") rfl)) (fr "isinstance" (by decide +kernel)) : Good (MX K Ts R l cc) PG w K mg base 2 p4) GG f Z b
    | 5, e => cases e; exact (good_isi rfl (isi_says (exAt c 5 rfl)) (glo_ok X G (c.fact 2 (f := .glo "BadWeather") rfl)) (fr "isinstance" (by decide +kernel)) : Good (MX K Ts R l cc) PG w K mg base 2 p5) GG f Z b
    | 6, e => cases e; exact (good_isi rfl (isi_says (exAt c 6 rfl)) (glo_ok X G (c.fact 3 (f := .glo "BadBits") rfl)) (fr "isinstance" (by decide +kernel)) : Good (MX K Ts R l cc) PG w K mg base 2 p6) GG f Z b
    | 7, e => cases e; exact (good_isi rfl (isi_says (exAt c 7 rfl)) (glo_ok X G (c.fact 4 (f := .glo "BadMemory") rfl)) (fr "isinstance" (by decide +kernel)) : Good (MX K Ts R l cc) PG w K mg base 2 p7) GG f Z b
    | 8, e => cases e; exact (good_xf fun i hi e => match i, hi, e with | 0, _, e => absurd (show ("" : Str) = "part" from e) (by decide) | 1, _, e => ⟨xfB_ok (ba (exAt c 1 rfl)).1, eqO_ok (ba (exAt c 1 rfl)).2⟩ | 2, _, e => ⟨xfB_ok (ba (exAt c 3 rfl)).1, eqO_ok (ba (exAt c 3 rfl)).2⟩ | 3, _, e => absurd (show ("" : Str) = "part" from e) (by decide) | 4, _, e => absurd (show ("" : Str) = "part" from e) (by decide) | _ + 5, hi, _ => absurd hi (by omega) : Good (MX K Ts R l cc) PG w K mg base 2 p8) GG f Z b
    | 9, e => cases e; exact (good_att fun i hi => by
        obtain rfl : i = 5 := by simpa using hi
        exact ⟨cls_ok (c.fact 54 (f := .cls "Weather") rfl), eqO_ok (exAt c 9 rfl)⟩ : Good (MX K Ts R l cc) PG w K mg base 2 p9) GG f Z b
    | _ + 10, e => cases e
end
end LawX
set_option maxHeartbeats 4000000
/-! DE39: code objects and tables of the defs that make lambdas. -/
namespace DE
open PySem PySem.Spec PyProof.Rows L2 He
theorem code_of {K : PySem.W.Frag} {x qual : Str} {params : Arguments} {body : List Stmt} {scope : Scope} {dvs : List V} {kws : List (Str × V)} {p : Defn} {fd : FuncData} (F : FunD K x qual params body scope dvs kws (fAd K p) fd) : fd.code = .ref (cT K p).1 := by
  obtain ⟨oc, od, dV, kV, doc, pm, an, cdv, ct, osl, rfl, lk, hcd, _, _⟩ := F.ex
  obtain ⟨c, rfl⟩ := codeIn_ref hcd
  have e := codeOf_eq lk (c := c) rfl
  show Value.ref c = .ref (codeOf K p)
  rw [e]
theorem uniq_of {α : Type} {f : α → Addr} {g : α → Str} : ∀ {l : List α}, (l.map f).Nodup → ∀ p ∈ l, ∀ q ∈ l.map (fun p => (f p, g p)), q.1 = f p → q.2 = g p
  | [], _, p, hp, _, _, _ => nomatch hp
  | a :: r, nd, p, hp, q, hq, e => by
    rw [List.map_cons, List.nodup_cons] at nd
    rw [List.map_cons, List.mem_cons] at hq
    rw [List.mem_cons] at hp
    rcases hq with hq | hq
    · subst hq
      rcases hp with hp | hp
      · rw [hp]
      · exact absurd (List.mem_map.mpr ⟨p, hp, e.symm⟩) nd.1
    · rcases hp with hp | hp
      · subst hp
        obtain ⟨y, hy, z⟩ := List.mem_map.mp hq
        subst z
        exact absurd (List.mem_map.mpr ⟨y, hy, e⟩) nd.1
      · exact uniq_of nd.2 p hp q hq e
end DE
set_option maxHeartbeats 4000000
namespace LawX
open PySem PySem.Spec PyProof.Rows L2 DE He
def TsK (K : PySem.W.Frag) : List (Addr × Str) := tfL.map fun p => ((cT K p).2, p.1 ++ ".<locals>." ++ "<lambda>")
section
variable {w : World} {K : PySem.W.Frag} {h : Heap} {mg : Str → Option Value} {base : Heap} {R l cc : Addr}
theorem exm_all (c : SaysY faL fnL xsL tfL exB h K) : ∀ i, i < CLS.length → PySem.W.exmOne K (.ref (CAof K i)) (.ref (ga K "CallError")) = some true := fun i hi => match i, hi with
  | 0, _ => exm_ok (c.fact 57 (f := .exm "CallError" "CallError" true) rfl)
  | 1, _ => exm_ok (c.fact 58 (f := .exm "PartError" "CallError" true) rfl)
  | 2, _ => exm_ok (c.fact 59 (f := .exm "BadWeather" "CallError" true) rfl)
  | 3, _ => exm_ok (c.fact 61 (f := .exm "BadBits" "CallError" true) rfl)
  | 4, _ => exm_ok (c.fact 63 (f := .exm "BadMemory" "CallError" true) rfl)
  | _ + 5, hi => absurd (show _ < 5 from hi) (by omega)
theorem caught (X : K.In h) (G : h.Ns mainGlobals mg) (c : SaysY faL fnL xsL tfL exB h K) : CaughtAt K mg (ga K "_law_caught") (ga K "CallError") := by
  obtain ⟨fd, F⟩ := c.def_ 16 (d := d16) rfl
  exact caught_of F (glo_ok X G (c.fact 20 (f := .glo "_law_caught") rfl)) (glo_ok X G (c.fact 0 (f := .glo "CallError") rfl)) (F.bindsN fun _ _ _ _ _ _ us hl => match us, hl with | [_], _ => rfl) ⟨rfl, rfl, rfl, by decide +kernel, rfl, by decide +kernel, by decide +kernel⟩ (.inl rfl) rfl rfl rfl rfl
theorem known (X : K.In h) (G : h.Ns mainGlobals mg) (c : SaysY faL fnL xsL tfL exB h K) (TB : ∀ p ∈ tfL, LamX.TabB base mg (cT K p).1 (cT K p).2) :
    Ground (MX K (TsK K) R l cc) PG w K mg base CLS CONS [p0, p1, p2, p3, p4, p5, p6, p7, p8, p9, p10, p11, p12, p13, p14, p15, p16] 39 ∧ FnIs (MX K (TsK K) R l cc) PG w K mg base 39 [(i_is_number, f_is_number), (i_is_between, f_is_between), (i_is_list, f_is_list), (i_is_bits, f_is_bits), (i_may_lose, f_may_lose), (i_need_weather, f_need_weather), (i_keeps_to, f_keeps_to), (i_let_next, f_let_next), (i__law_draw, f__law_draw), (i__law_pick, f__law_pick), (i__law_weather, f__law_weather), (i__law_may_be_lost, f__law_may_be_lost), (i__law_is_number, f__law_is_number), (i__law_wrong_part, f__law_wrong_part), (i__law_keeps, f__law_keeps), (i__law_row, f__law_row), (i__law_made_right, f__law_made_right), (i__law_rows_right, f__law_rows_right), (i__law_refused_right, f__law_refused_right)] := by
  have g2 := ground (w := w) (base := base) (Ts := TsK K) (R := R) (l := l) (cc := cc) X G c
  have y2 : FnIs (MX K (TsK K) R l cc) PG w K mg base 2 [] := .nil
  obtain ⟨fd_is_number, F_is_number⟩ := c.def_ 0 (d := d0) rfl
  have z_is_number : FnI (MX K (TsK K) R l cc) PG w K mg base 3 i_is_number f_is_number := fnI_of (atr := ATR) g2 y2 0 F_is_number ⟨rfl, rfl, rfl, by decide +kernel, rfl, by decide +kernel, by decide +kernel⟩ rfl rfl (glo_ok X G (c.fact 5 (f := .glo "is_number") rfl)) (F_is_number.bindsN fun _ _ _ _ _ _ us hl => match us, hl with | [_], _ => rfl) (fun _ _ _ z => nomatch z) (fun z => absurd z (by decide +kernel)) (fun _ => rfl) c_is_number
  have y3 : FnIs (MX K (TsK K) R l cc) PG w K mg base 3 [(i_is_number, f_is_number)] := FnIs.snoc (y2.more (k' := 2) (by omega)) z_is_number
  have g3 := g2.more (k' := 3) (by omega)
  obtain ⟨fd_is_between, F_is_between⟩ := c.def_ 1 (d := d1) rfl
  have z_is_between : FnI (MX K (TsK K) R l cc) PG w K mg base 4 i_is_between f_is_between := fnI_of (atr := ATR) g3 y3 0 F_is_between ⟨rfl, rfl, rfl, by decide +kernel, rfl, by decide +kernel, by decide +kernel⟩ rfl rfl (glo_ok X G (c.fact 6 (f := .glo "is_between") rfl)) (F_is_between.bindsN fun _ _ _ _ _ _ us hl => match us, hl with | [_, _, _], _ => rfl) (fun _ _ _ z => nomatch z) (fun z => absurd z (by decide +kernel)) (fun _ => rfl) c_is_between
  have y4 : FnIs (MX K (TsK K) R l cc) PG w K mg base 4 [(i_is_number, f_is_number), (i_is_between, f_is_between)] := FnIs.snoc (y3.more (k' := 3) (by omega)) z_is_between
  have g4 := g3.more (k' := 4) (by omega)
  obtain ⟨fd_is_list, F_is_list⟩ := c.def_ 2 (d := d2) rfl
  have z_is_list : FnI (MX K (TsK K) R l cc) PG w K mg base 5 i_is_list f_is_list := fnI_of (atr := ATR) g4 y4 0 F_is_list ⟨rfl, rfl, rfl, by decide +kernel, rfl, by decide +kernel, by decide +kernel⟩ rfl rfl (glo_ok X G (c.fact 7 (f := .glo "is_list") rfl)) (F_is_list.bindsN fun _ _ _ _ _ _ us hl => match us, hl with | [_], _ => rfl) (fun _ _ _ z => nomatch z) (fun z => absurd z (by decide +kernel)) (fun _ => rfl) c_is_list
  have y5 : FnIs (MX K (TsK K) R l cc) PG w K mg base 5 [(i_is_number, f_is_number), (i_is_between, f_is_between), (i_is_list, f_is_list)] := FnIs.snoc (y4.more (k' := 4) (by omega)) z_is_list
  have g5 := g4.more (k' := 5) (by omega)
  obtain ⟨fd_is_bits, F_is_bits⟩ := c.def_ 3 (d := d3) rfl
  have z_is_bits : FnI (MX K (TsK K) R l cc) PG w K mg base 6 i_is_bits f_is_bits := fnI_of (atr := ATR) g5 y5 0 F_is_bits ⟨rfl, rfl, rfl, by decide +kernel, rfl, by decide +kernel, by decide +kernel⟩ rfl rfl (glo_ok X G (c.fact 8 (f := .glo "is_bits") rfl)) (F_is_bits.bindsN fun _ _ _ _ _ _ us hl => match us, hl with | [_], _ => rfl) (fun _ _ _ z => nomatch z) (fun z => absurd z (by decide +kernel)) (fun _ => rfl) c_is_bits
  have y6 : FnIs (MX K (TsK K) R l cc) PG w K mg base 6 [(i_is_number, f_is_number), (i_is_between, f_is_between), (i_is_list, f_is_list), (i_is_bits, f_is_bits)] := FnIs.snoc (y5.more (k' := 5) (by omega)) z_is_bits
  have g6 := g5.more (k' := 6) (by omega)
  obtain ⟨fd_Weather, F_Weather⟩ := c.def_ 4 (d := d4) rfl
  have ok_Weather := init_ok (wd_of (atr := ATR) g6 y6) rfl 0 4 F_Weather (ps := ["run", "many", "span", "late"]) (c := 5) ⟨rfl, rfl, rfl, by decide +kernel, rfl, by decide +kernel, by decide +kernel⟩ rfl rfl (cls_ok (c.fact 54 (f := .cls "Weather") rfl)) (fun q hq => by
      obtain rfl := List.mem_singleton.mp hq
      exact eqO_ok (exAt c 9 rfl)) c_Weather_init
  have mk_Weather := mkr_ok (c.fact 55 (f := .mkr "Weather") rfl)
  have gl_Weather := glo_ok X G (c.fact 9 (f := .glo "Weather") rfl)
  obtain ⟨P_Weather_run, fd_Weather_run, F_Weather_run⟩ := prop_says (c.xd 1 (d := x1) rfl).1 (c.xd 1 (d := x1) rfl).2
  have ok_Weather_run := fn_ok (ps := ["self"]) (wd_of (atr := ATR) g6 y6) rfl 0 F_Weather_run ⟨rfl, rfl, rfl, by decide +kernel, rfl, by decide +kernel, by decide +kernel⟩ rfl rfl c_Weather_run
  have bd_Weather_run : Binds K fd_Weather_run ["self"] [] := F_Weather_run.bindsN fun _ _ _ _ _ _ us hl => match us, hl with | [_], _ => rfl
  obtain ⟨P_Weather_many, fd_Weather_many, F_Weather_many⟩ := prop_says (c.xd 2 (d := x2) rfl).1 (c.xd 2 (d := x2) rfl).2
  have ok_Weather_many := fn_ok (ps := ["self"]) (wd_of (atr := ATR) g6 y6) rfl 0 F_Weather_many ⟨rfl, rfl, rfl, by decide +kernel, rfl, by decide +kernel, by decide +kernel⟩ rfl rfl c_Weather_many
  have bd_Weather_many : Binds K fd_Weather_many ["self"] [] := F_Weather_many.bindsN fun _ _ _ _ _ _ us hl => match us, hl with | [_], _ => rfl
  obtain ⟨P_Weather_span, fd_Weather_span, F_Weather_span⟩ := prop_says (c.xd 3 (d := x3) rfl).1 (c.xd 3 (d := x3) rfl).2
  have ok_Weather_span := fn_ok (ps := ["self"]) (wd_of (atr := ATR) g6 y6) rfl 0 F_Weather_span ⟨rfl, rfl, rfl, by decide +kernel, rfl, by decide +kernel, by decide +kernel⟩ rfl rfl c_Weather_span
  have bd_Weather_span : Binds K fd_Weather_span ["self"] [] := F_Weather_span.bindsN fun _ _ _ _ _ _ us hl => match us, hl with | [_], _ => rfl
  obtain ⟨P_Weather_late, fd_Weather_late, F_Weather_late⟩ := prop_says (c.xd 4 (d := x4) rfl).1 (c.xd 4 (d := x4) rfl).2
  have ok_Weather_late := fn_ok (ps := ["self"]) (wd_of (atr := ATR) g6 y6) rfl 0 F_Weather_late ⟨rfl, rfl, rfl, by decide +kernel, rfl, by decide +kernel, by decide +kernel⟩ rfl rfl c_Weather_late
  have bd_Weather_late : Binds K fd_Weather_late ["self"] [] := F_Weather_late.bindsN fun _ _ _ _ _ _ us hl => match us, hl with | [_], _ => rfl
  obtain ⟨fd_Weather___eq__, F_Weather___eq__⟩ := c.def_ 5 (d := d5) rfl
  have ok_Weather___eq__ := fn_ok (ps := ["self", "other"]) (wd_of (atr := ATR) g6 y6) rfl 0 F_Weather___eq__ ⟨rfl, rfl, rfl, by decide +kernel, rfl, by decide +kernel, by decide +kernel⟩ rfl rfl c_Weather___eq__
  have bd_Weather___eq__ : Binds K fd_Weather___eq__ ["self", "other"] [] := F_Weather___eq__.bindsN fun _ _ _ _ _ _ us hl => match us, hl with | [_, _], _ => rfl
  have g8 : Ground (MX K (TsK K) R l cc) PG w K mg base CLS CONS [p0, p1, p2, p3, p4, p5, p6, p7, p8, p9, p10] 8 := (g6.more (k' := 8) (by omega)).add (ps := [p10]) fun q hq => by
      obtain rfl := List.mem_singleton.mp hq
      exact (good_mk (c := 5) mk_Weather ok_Weather (by omega) gl_Weather (F_Weather.bindsN fun _ _ _ _ _ _ us hl => match us, hl with | [_, _, _, _, _], _ => rfl) : Good (MX K (TsK K) R l cc) PG w K mg base 8 p10)
  have y8 := y6.more (k' := 8) (by omega)
  have g10 : Ground (MX K (TsK K) R l cc) PG w K mg base CLS CONS [p0, p1, p2, p3, p4, p5, p6, p7, p8, p9, p10, p11] 10 := (g8.more (k' := 10) (by omega)).add (ps := [p11]) fun q hq => by
      obtain rfl := List.mem_singleton.mp hq
      exact (good_mkK (c := 5) mk_Weather ok_Weather (by omega) gl_Weather (kwb_of F_Weather (by decide) fun _ _ _ _ _ _ u ws ys l2 hp => match ws, l2 with | [v0, v1, v2, v3], _ => by cases hp; rfl) : Good (MX K (TsK K) R l cc) PG w K mg base 10 p11)
  have y10 := y8.more (k' := 10) (by omega)
  have g12 : Ground (MX K (TsK K) R l cc) PG w K mg base CLS CONS [p0, p1, p2, p3, p4, p5, p6, p7, p8, p9, p10, p11, p12] 12 := (g10.more (k' := 12) (by omega)).add (ps := [p12]) fun q hq => by
      obtain rfl := List.mem_singleton.mp hq
      exact (good_prop (c := 5) (cls_ok (c.fact 54 (f := .cls "Weather") rfl)) P_Weather_run ok_Weather_run (by omega) bd_Weather_run runFn_nbr : Good (MX K (TsK K) R l cc) PG w K mg base 12 p12)
  have y12 := y10.more (k' := 12) (by omega)
  have g14 : Ground (MX K (TsK K) R l cc) PG w K mg base CLS CONS [p0, p1, p2, p3, p4, p5, p6, p7, p8, p9, p10, p11, p12, p13] 14 := (g12.more (k' := 14) (by omega)).add (ps := [p13]) fun q hq => by
      obtain rfl := List.mem_singleton.mp hq
      exact (good_prop (c := 5) (cls_ok (c.fact 54 (f := .cls "Weather") rfl)) P_Weather_many ok_Weather_many (by omega) bd_Weather_many runFn_nbr : Good (MX K (TsK K) R l cc) PG w K mg base 14 p13)
  have y14 := y12.more (k' := 14) (by omega)
  have g16 : Ground (MX K (TsK K) R l cc) PG w K mg base CLS CONS [p0, p1, p2, p3, p4, p5, p6, p7, p8, p9, p10, p11, p12, p13, p14] 16 := (g14.more (k' := 16) (by omega)).add (ps := [p14]) fun q hq => by
      obtain rfl := List.mem_singleton.mp hq
      exact (good_prop (c := 5) (cls_ok (c.fact 54 (f := .cls "Weather") rfl)) P_Weather_span ok_Weather_span (by omega) bd_Weather_span runFn_nbr : Good (MX K (TsK K) R l cc) PG w K mg base 16 p14)
  have y16 := y14.more (k' := 16) (by omega)
  have g18 : Ground (MX K (TsK K) R l cc) PG w K mg base CLS CONS [p0, p1, p2, p3, p4, p5, p6, p7, p8, p9, p10, p11, p12, p13, p14, p15] 18 := (g16.more (k' := 18) (by omega)).add (ps := [p15]) fun q hq => by
      obtain rfl := List.mem_singleton.mp hq
      exact (good_prop (c := 5) (cls_ok (c.fact 54 (f := .cls "Weather") rfl)) P_Weather_late ok_Weather_late (by omega) bd_Weather_late runFn_nbr : Good (MX K (TsK K) R l cc) PG w K mg base 18 p15)
  have y18 := y16.more (k' := 18) (by omega)
  have g20 : Ground (MX K (TsK K) R l cc) PG w K mg base CLS CONS [p0, p1, p2, p3, p4, p5, p6, p7, p8, p9, p10, p11, p12, p13, p14, p15, p16] 20 := (g18.more (k' := 20) (by omega)).add (ps := [p16]) fun q hq => by
      obtain rfl := List.mem_singleton.mp hq
      exact (good_eq (c := 5) rfl ok_Weather___eq__ (by omega) (eqO_ok (ba (exAt c 10 rfl)).1) (ba (exAt c 10 rfl)).2 bd_Weather___eq__ runFn_nbr (exAt c 8 rfl) : Good (MX K (TsK K) R l cc) PG w K mg base 20 p16)
  have y20 := y18.more (k' := 20) (by omega)
  obtain ⟨fd_may_lose, F_may_lose⟩ := c.def_ 6 (d := d6) rfl
  have z_may_lose : FnI (MX K (TsK K) R l cc) PG w K mg base 21 i_may_lose f_may_lose := fnI_of (atr := ATR) g20 y20 0 F_may_lose ⟨rfl, rfl, rfl, by decide +kernel, rfl, by decide +kernel, by decide +kernel⟩ rfl rfl (glo_ok X G (c.fact 10 (f := .glo "may_lose") rfl)) (F_may_lose.bindsN fun _ _ _ _ _ _ us hl => match us, hl with | [_, _], _ => rfl) (fun _ _ _ z => nomatch z) (fun z => absurd z (by decide +kernel)) (fun _ => rfl) c_may_lose
  have y21 : FnIs (MX K (TsK K) R l cc) PG w K mg base 21 [(i_is_number, f_is_number), (i_is_between, f_is_between), (i_is_list, f_is_list), (i_is_bits, f_is_bits), (i_may_lose, f_may_lose)] := FnIs.snoc (y20.more (k' := 20) (by omega)) z_may_lose
  have g21 := g20.more (k' := 21) (by omega)
  obtain ⟨fd_need_weather, F_need_weather⟩ := c.def_ 7 (d := d7) rfl
  have z_need_weather : FnI (MX K (TsK K) R l cc) PG w K mg base 22 i_need_weather f_need_weather := fnI_of (atr := ATR) g21 y21 0 F_need_weather ⟨rfl, rfl, rfl, by decide +kernel, rfl, by decide +kernel, by decide +kernel⟩ rfl rfl (glo_ok X G (c.fact 11 (f := .glo "need_weather") rfl)) (F_need_weather.bindsN fun _ _ _ _ _ _ us hl => match us, hl with | [_], _ => rfl) (fun _ _ _ z => nomatch z) (fun z => absurd z (by decide +kernel)) (fun _ => rfl) c_need_weather
  have y22 : FnIs (MX K (TsK K) R l cc) PG w K mg base 22 [(i_is_number, f_is_number), (i_is_between, f_is_between), (i_is_list, f_is_list), (i_is_bits, f_is_bits), (i_may_lose, f_may_lose), (i_need_weather, f_need_weather)] := FnIs.snoc (y21.more (k' := 21) (by omega)) z_need_weather
  have g22 := g21.more (k' := 22) (by omega)
  obtain ⟨fd_keeps_to, F_keeps_to⟩ := c.def_ 8 (d := d8) rfl
  have z_keeps_to : FnI (MX K (TsK K) R l cc) PG w K mg base 23 i_keeps_to f_keeps_to := fnI_of (atr := ATR) g22 y22 0 F_keeps_to ⟨rfl, rfl, rfl, by decide +kernel, rfl, by decide +kernel, by decide +kernel⟩ rfl rfl (glo_ok X G (c.fact 12 (f := .glo "keeps_to") rfl)) (F_keeps_to.bindsN fun _ _ _ _ _ _ us hl => match us, hl with | [_, _], _ => rfl) (fun n ks pm z => by
      simp only [List.mem_cons, List.not_mem_nil, or_false, Prod.mk.injEq] at z
      rcases z with ⟨rfl, rfl, rfl⟩
      · exact kbp_of F_keeps_to fun _ _ _ _ _ _ us ws ys l1 l2 hp => match us, ws, l1, l2 with | [], [v0, v1], _, _ => by cases hp; rfl
      ) (fun z => absurd z (by decide +kernel)) (fun _ => rfl) c_keeps_to
  have y23 : FnIs (MX K (TsK K) R l cc) PG w K mg base 23 [(i_is_number, f_is_number), (i_is_between, f_is_between), (i_is_list, f_is_list), (i_is_bits, f_is_bits), (i_may_lose, f_may_lose), (i_need_weather, f_need_weather), (i_keeps_to, f_keeps_to)] := FnIs.snoc (y22.more (k' := 22) (by omega)) z_keeps_to
  have g23 := g22.more (k' := 23) (by omega)
  obtain ⟨fd_let_next, F_let_next⟩ := c.def_ 9 (d := d9) rfl
  have z_let_next : FnI (MX K (TsK K) R l cc) PG w K mg base 24 i_let_next f_let_next := fnI_of (atr := ATR) g23 y23 0 F_let_next ⟨rfl, rfl, rfl, by decide +kernel, rfl, by decide +kernel, by decide +kernel⟩ rfl rfl (glo_ok X G (c.fact 13 (f := .glo "let_next") rfl)) (F_let_next.bindsN fun _ _ _ _ _ _ us hl => match us, hl with | [_, _], _ => rfl) (fun n ks pm z => by
      simp only [List.mem_cons, List.not_mem_nil, or_false, Prod.mk.injEq] at z
      rcases z with ⟨rfl, rfl, rfl⟩
      · exact kbp_of F_let_next fun _ _ _ _ _ _ us ws ys l1 l2 hp => match us, ws, l1, l2 with | [], [v0, v1], _, _ => by cases hp; rfl
      ) (fun z => absurd z (by decide +kernel)) (fun _ => rfl) c_let_next
  have y24 : FnIs (MX K (TsK K) R l cc) PG w K mg base 24 [(i_is_number, f_is_number), (i_is_between, f_is_between), (i_is_list, f_is_list), (i_is_bits, f_is_bits), (i_may_lose, f_may_lose), (i_need_weather, f_need_weather), (i_keeps_to, f_keeps_to), (i_let_next, f_let_next)] := FnIs.snoc (y23.more (k' := 23) (by omega)) z_let_next
  have g24 := g23.more (k' := 24) (by omega)
  obtain ⟨fdB, FB⟩ := c.def_ 11 (d := d11) rfl
  have okB : FnOk PG w K mg base (CX PG w) 1 _ _ ["tape"] spBlend := blend_ok (k := 0) (bl_free X G c) FB ⟨rfl, rfl, rfl, by decide +kernel, rfl, by decide +kernel, by decide +kernel⟩ (by kernel_rfl)
  obtain ⟨fdD, FD⟩ := c.def_ 12 (d := d12) rfl
  have okD : FnOk PG w K mg base (CX PG w) 2 _ _ ["tape", "size"] spDraw := draw_ok (k := 1) (bl_free X G c) okB (glo_ok X G (c.fact 15 (f := .glo "_law_blend") rfl)) FB.kp (FB.bindsN fun _ _ _ _ _ _ us hl => match us, hl with | [_], _ => rfl) FD ⟨rfl, rfl, rfl, by decide +kernel, rfl, by decide +kernel, by decide +kernel⟩ (by kernel_rfl)
  have z__law_draw : FnI (MX K (TsK K) R l cc) PG w K mg base 25 i__law_draw f__law_draw := (draw_fnI (M := MX K (TsK K) R l cc) rfl okD (glo_ok X G (c.fact 16 (f := .glo "_law_draw") rfl)) FD.kp (FD.bindsN fun _ _ _ _ _ _ us hl => match us, hl with | [_, _], _ => rfl)).more (by omega)
  have y25 : FnIs (MX K (TsK K) R l cc) PG w K mg base 25 [(i_is_number, f_is_number), (i_is_between, f_is_between), (i_is_list, f_is_list), (i_is_bits, f_is_bits), (i_may_lose, f_may_lose), (i_need_weather, f_need_weather), (i_keeps_to, f_keeps_to), (i_let_next, f_let_next), (i__law_draw, f__law_draw)] := FnIs.snoc (y24.more (k' := 24) (by omega)) z__law_draw
  have g25 := g24.more (k' := 25) (by omega)
  obtain ⟨fd__law_pick, F__law_pick⟩ := c.def_ 13 (d := d13) rfl
  have z__law_pick : FnI (MX K (TsK K) R l cc) PG w K mg base 26 i__law_pick f__law_pick := fnI_of (atr := ATR) g25 y25 0 F__law_pick ⟨rfl, rfl, rfl, by decide +kernel, rfl, by decide +kernel, by decide +kernel⟩ rfl rfl (glo_ok X G (c.fact 17 (f := .glo "_law_pick") rfl)) (F__law_pick.bindsN fun _ _ _ _ _ _ us hl => match us, hl with | [_, _], _ => rfl) (fun _ _ _ z => nomatch z) (fun z => absurd z (by decide +kernel)) (fun _ => rfl) c__law_pick
  have y26 : FnIs (MX K (TsK K) R l cc) PG w K mg base 26 [(i_is_number, f_is_number), (i_is_between, f_is_between), (i_is_list, f_is_list), (i_is_bits, f_is_bits), (i_may_lose, f_may_lose), (i_need_weather, f_need_weather), (i_keeps_to, f_keeps_to), (i_let_next, f_let_next), (i__law_draw, f__law_draw), (i__law_pick, f__law_pick)] := FnIs.snoc (y25.more (k' := 25) (by omega)) z__law_pick
  have g26 := g25.more (k' := 26) (by omega)
  obtain ⟨fd__law_weather, F__law_weather⟩ := c.def_ 14 (d := d14) rfl
  have z__law_weather : FnI (MX K (TsK K) R l cc) PG w K mg base 27 i__law_weather f__law_weather := fnI_of (atr := ATR) g26 y26 0 F__law_weather ⟨rfl, rfl, rfl, by decide +kernel, rfl, by decide +kernel, by decide +kernel⟩ rfl rfl (glo_ok X G (c.fact 18 (f := .glo "_law_weather") rfl)) (F__law_weather.bindsN fun _ _ _ _ _ _ us hl => match us, hl with | [_, _], _ => rfl) (fun _ _ _ z => nomatch z) (fun z => absurd z (by decide +kernel)) (fun _ => rfl) c__law_weather
  have y27 : FnIs (MX K (TsK K) R l cc) PG w K mg base 27 [(i_is_number, f_is_number), (i_is_between, f_is_between), (i_is_list, f_is_list), (i_is_bits, f_is_bits), (i_may_lose, f_may_lose), (i_need_weather, f_need_weather), (i_keeps_to, f_keeps_to), (i_let_next, f_let_next), (i__law_draw, f__law_draw), (i__law_pick, f__law_pick), (i__law_weather, f__law_weather)] := FnIs.snoc (y26.more (k' := 26) (by omega)) z__law_weather
  have g27 := g26.more (k' := 27) (by omega)
  obtain ⟨fd__law_may_be_lost, F__law_may_be_lost⟩ := c.def_ 15 (d := d15) rfl
  have z__law_may_be_lost : FnI (MX K (TsK K) R l cc) PG w K mg base 28 i__law_may_be_lost f__law_may_be_lost := fnI_of (atr := ATR) g27 y27 0 F__law_may_be_lost ⟨rfl, rfl, rfl, by decide +kernel, rfl, by decide +kernel, by decide +kernel⟩ rfl rfl (glo_ok X G (c.fact 19 (f := .glo "_law_may_be_lost") rfl)) (F__law_may_be_lost.bindsN fun _ _ _ _ _ _ us hl => match us, hl with | [_, _], _ => rfl) (fun _ _ _ z => nomatch z) (fun z => absurd z (by decide +kernel)) (fun _ => rfl) c__law_may_be_lost
  have y28 : FnIs (MX K (TsK K) R l cc) PG w K mg base 28 [(i_is_number, f_is_number), (i_is_between, f_is_between), (i_is_list, f_is_list), (i_is_bits, f_is_bits), (i_may_lose, f_may_lose), (i_need_weather, f_need_weather), (i_keeps_to, f_keeps_to), (i_let_next, f_let_next), (i__law_draw, f__law_draw), (i__law_pick, f__law_pick), (i__law_weather, f__law_weather), (i__law_may_be_lost, f__law_may_be_lost)] := FnIs.snoc (y27.more (k' := 27) (by omega)) z__law_may_be_lost
  have g28 := g27.more (k' := 28) (by omega)
  obtain ⟨fd__law_is_number, F__law_is_number⟩ := c.def_ 17 (d := d17) rfl
  have z__law_is_number : FnI (MX K (TsK K) R l cc) PG w K mg base 29 i__law_is_number f__law_is_number := fnI_of (atr := ATR) g28 y28 0 F__law_is_number ⟨rfl, rfl, rfl, by decide +kernel, rfl, by decide +kernel, by decide +kernel⟩ rfl rfl (glo_ok X G (c.fact 21 (f := .glo "_law_is_number") rfl)) (F__law_is_number.bindsN fun _ _ _ _ _ _ us hl => match us, hl with | [_, _, _], _ => rfl) (fun _ _ _ z => nomatch z) (fun z => absurd z (by decide +kernel)) (fun _ => rfl) c__law_is_number
  have y29 : FnIs (MX K (TsK K) R l cc) PG w K mg base 29 [(i_is_number, f_is_number), (i_is_between, f_is_between), (i_is_list, f_is_list), (i_is_bits, f_is_bits), (i_may_lose, f_may_lose), (i_need_weather, f_need_weather), (i_keeps_to, f_keeps_to), (i_let_next, f_let_next), (i__law_draw, f__law_draw), (i__law_pick, f__law_pick), (i__law_weather, f__law_weather), (i__law_may_be_lost, f__law_may_be_lost), (i__law_is_number, f__law_is_number)] := FnIs.snoc (y28.more (k' := 28) (by omega)) z__law_is_number
  have g29 := g28.more (k' := 29) (by omega)
  obtain ⟨fd__law_wrong_part, F__law_wrong_part⟩ := c.def_ 18 (d := d18) rfl
  have z__law_wrong_part : FnI (MX K (TsK K) R l cc) PG w K mg base 30 i__law_wrong_part f__law_wrong_part := fnI_of (atr := ATR) g29 y29 0 F__law_wrong_part ⟨rfl, rfl, rfl, by decide +kernel, rfl, by decide +kernel, by decide +kernel⟩ rfl rfl (glo_ok X G (c.fact 22 (f := .glo "_law_wrong_part") rfl)) (F__law_wrong_part.bindsN fun _ _ _ _ _ _ us hl => match us, hl with | [_, _, _, _], _ => rfl) (fun _ _ _ z => nomatch z) (fun z => absurd z (by decide +kernel)) (fun _ => rfl) c__law_wrong_part
  have y30 : FnIs (MX K (TsK K) R l cc) PG w K mg base 30 [(i_is_number, f_is_number), (i_is_between, f_is_between), (i_is_list, f_is_list), (i_is_bits, f_is_bits), (i_may_lose, f_may_lose), (i_need_weather, f_need_weather), (i_keeps_to, f_keeps_to), (i_let_next, f_let_next), (i__law_draw, f__law_draw), (i__law_pick, f__law_pick), (i__law_weather, f__law_weather), (i__law_may_be_lost, f__law_may_be_lost), (i__law_is_number, f__law_is_number), (i__law_wrong_part, f__law_wrong_part)] := FnIs.snoc (y29.more (k' := 29) (by omega)) z__law_wrong_part
  have g30 := g29.more (k' := 30) (by omega)
  obtain ⟨fd__law_keeps, F__law_keeps⟩ := c.def_ 19 (d := d19) rfl
  have z__law_keeps : FnI (MX K (TsK K) R l cc) PG w K mg base 31 i__law_keeps f__law_keeps := fnI_of (atr := ATR) g30 y30 0 F__law_keeps ⟨rfl, rfl, rfl, by decide +kernel, rfl, by decide +kernel, by decide +kernel⟩ rfl rfl (glo_ok X G (c.fact 23 (f := .glo "_law_keeps") rfl)) (F__law_keeps.bindsN fun _ _ _ _ _ _ us hl => match us, hl with | [_, _], _ => rfl) (fun _ _ _ z => nomatch z) (fun z => absurd z (by decide +kernel)) (fun _ => rfl) c__law_keeps
  have y31 : FnIs (MX K (TsK K) R l cc) PG w K mg base 31 [(i_is_number, f_is_number), (i_is_between, f_is_between), (i_is_list, f_is_list), (i_is_bits, f_is_bits), (i_may_lose, f_may_lose), (i_need_weather, f_need_weather), (i_keeps_to, f_keeps_to), (i_let_next, f_let_next), (i__law_draw, f__law_draw), (i__law_pick, f__law_pick), (i__law_weather, f__law_weather), (i__law_may_be_lost, f__law_may_be_lost), (i__law_is_number, f__law_is_number), (i__law_wrong_part, f__law_wrong_part), (i__law_keeps, f__law_keeps)] := FnIs.snoc (y30.more (k' := 30) (by omega)) z__law_keeps
  have g31 := g30.more (k' := 31) (by omega)
  obtain ⟨fd__law_row, F__law_row⟩ := c.def_ 20 (d := d20) rfl
  have z__law_row : FnI (MX K (TsK K) R l cc) PG w K mg base 32 i__law_row f__law_row := fnI_of (atr := ATR) g31 y31 0 F__law_row ⟨rfl, rfl, rfl, by decide +kernel, rfl, by decide +kernel, by decide +kernel⟩ rfl rfl (glo_ok X G (c.fact 24 (f := .glo "_law_row") rfl)) (F__law_row.bindsN fun _ _ _ _ _ _ us hl => match us, hl with | [_, _], _ => rfl) (fun _ _ _ z => nomatch z) (fun z => absurd z (by decide +kernel)) (fun _ => rfl) c__law_row
  have y32 : FnIs (MX K (TsK K) R l cc) PG w K mg base 32 [(i_is_number, f_is_number), (i_is_between, f_is_between), (i_is_list, f_is_list), (i_is_bits, f_is_bits), (i_may_lose, f_may_lose), (i_need_weather, f_need_weather), (i_keeps_to, f_keeps_to), (i_let_next, f_let_next), (i__law_draw, f__law_draw), (i__law_pick, f__law_pick), (i__law_weather, f__law_weather), (i__law_may_be_lost, f__law_may_be_lost), (i__law_is_number, f__law_is_number), (i__law_wrong_part, f__law_wrong_part), (i__law_keeps, f__law_keeps), (i__law_row, f__law_row)] := FnIs.snoc (y31.more (k' := 31) (by omega)) z__law_row
  have g32 := g31.more (k' := 32) (by omega)
  obtain ⟨fd__law_made_right, F__law_made_right⟩ := c.def_ 21 (d := d21) rfl
  have z__law_made_right : FnI (MX K (TsK K) R l cc) PG w K mg base 35 i__law_made_right f__law_made_right := fnI_lam (atr := ATR) g32 y32 0 F__law_made_right ⟨rfl, rfl, rfl, by decide +kernel, rfl, by decide +kernel, by decide +kernel⟩ rfl rfl (glo_ok X G (c.fact 25 (f := .glo "_law_made_right") rfl)) (F__law_made_right.bindsN fun _ _ _ _ _ _ us hl => match us, hl with | [_, _], _ => rfl) (fun _ _ _ z => nomatch z) (tp0 := tpA R l cc) (Ts := TsK K) rfl firmA (caught X G c) (TB ("_law_made_right", none) (by decide +kernel)) (code_of (p := ("_law_made_right", none)) F__law_made_right) (List.mem_map.mpr ⟨("_law_made_right", none), by decide +kernel, rfl⟩) (uniq_of (of_decide_eq_true (exAt c 11 rfl)) ("_law_made_right", none) (by decide +kernel)) (exm_all c) (fun z => nomatch z) c__law_made_right
  have y35 : FnIs (MX K (TsK K) R l cc) PG w K mg base 35 [(i_is_number, f_is_number), (i_is_between, f_is_between), (i_is_list, f_is_list), (i_is_bits, f_is_bits), (i_may_lose, f_may_lose), (i_need_weather, f_need_weather), (i_keeps_to, f_keeps_to), (i_let_next, f_let_next), (i__law_draw, f__law_draw), (i__law_pick, f__law_pick), (i__law_weather, f__law_weather), (i__law_may_be_lost, f__law_may_be_lost), (i__law_is_number, f__law_is_number), (i__law_wrong_part, f__law_wrong_part), (i__law_keeps, f__law_keeps), (i__law_row, f__law_row), (i__law_made_right, f__law_made_right)] := FnIs.snoc (y32.more (k' := 34) (by omega)) z__law_made_right
  have g35 := g32.more (k' := 35) (by omega)
  obtain ⟨fd__law_rows_right, F__law_rows_right⟩ := c.def_ 22 (d := d22) rfl
  have z__law_rows_right : FnI (MX K (TsK K) R l cc) PG w K mg base 36 i__law_rows_right f__law_rows_right := fnI_of (atr := ATR) g35 y35 0 F__law_rows_right ⟨rfl, rfl, rfl, by decide +kernel, rfl, by decide +kernel, by decide +kernel⟩ rfl rfl (glo_ok X G (c.fact 26 (f := .glo "_law_rows_right") rfl)) (F__law_rows_right.bindsN fun _ _ _ _ _ _ us hl => match us, hl with | [_, _, _], _ => rfl) (fun _ _ _ z => nomatch z) (fun z => absurd z (by decide +kernel)) (fun z => nomatch z) c__law_rows_right
  have y36 : FnIs (MX K (TsK K) R l cc) PG w K mg base 36 [(i_is_number, f_is_number), (i_is_between, f_is_between), (i_is_list, f_is_list), (i_is_bits, f_is_bits), (i_may_lose, f_may_lose), (i_need_weather, f_need_weather), (i_keeps_to, f_keeps_to), (i_let_next, f_let_next), (i__law_draw, f__law_draw), (i__law_pick, f__law_pick), (i__law_weather, f__law_weather), (i__law_may_be_lost, f__law_may_be_lost), (i__law_is_number, f__law_is_number), (i__law_wrong_part, f__law_wrong_part), (i__law_keeps, f__law_keeps), (i__law_row, f__law_row), (i__law_made_right, f__law_made_right), (i__law_rows_right, f__law_rows_right)] := FnIs.snoc (y35.more (k' := 35) (by omega)) z__law_rows_right
  have g36 := g35.more (k' := 36) (by omega)
  obtain ⟨fd__law_refused_right, F__law_refused_right⟩ := c.def_ 23 (d := d23) rfl
  have z__law_refused_right : FnI (MX K (TsK K) R l cc) PG w K mg base 39 i__law_refused_right f__law_refused_right := fnI_lam (atr := ATR) g36 y36 0 F__law_refused_right ⟨rfl, rfl, rfl, by decide +kernel, rfl, by decide +kernel, by decide +kernel⟩ rfl rfl (glo_ok X G (c.fact 27 (f := .glo "_law_refused_right") rfl)) (F__law_refused_right.bindsN fun _ _ _ _ _ _ us hl => match us, hl with | [_, _, _], _ => rfl) (fun _ _ _ z => nomatch z) (tp0 := tpA R l cc) (Ts := TsK K) rfl firmA (caught X G c) (TB ("_law_refused_right", none) (by decide +kernel)) (code_of (p := ("_law_refused_right", none)) F__law_refused_right) (List.mem_map.mpr ⟨("_law_refused_right", none), by decide +kernel, rfl⟩) (uniq_of (of_decide_eq_true (exAt c 11 rfl)) ("_law_refused_right", none) (by decide +kernel)) (exm_all c) (fun _ => rfl) c__law_refused_right
  have y39 : FnIs (MX K (TsK K) R l cc) PG w K mg base 39 [(i_is_number, f_is_number), (i_is_between, f_is_between), (i_is_list, f_is_list), (i_is_bits, f_is_bits), (i_may_lose, f_may_lose), (i_need_weather, f_need_weather), (i_keeps_to, f_keeps_to), (i_let_next, f_let_next), (i__law_draw, f__law_draw), (i__law_pick, f__law_pick), (i__law_weather, f__law_weather), (i__law_may_be_lost, f__law_may_be_lost), (i__law_is_number, f__law_is_number), (i__law_wrong_part, f__law_wrong_part), (i__law_keeps, f__law_keeps), (i__law_row, f__law_row), (i__law_made_right, f__law_made_right), (i__law_rows_right, f__law_rows_right), (i__law_refused_right, f__law_refused_right)] := FnIs.snoc (y36.more (k' := 38) (by omega)) z__law_refused_right
  have g39 := g36.more (k' := 39) (by omega)
  exact ⟨g39, y39⟩
end
end LawX
set_option maxHeartbeats 4000000
/-! DE40: a law's own def: tape = _law_begun(script), then the rest. -/
namespace DE
open PySem PySem.Spec PyProof.Rows L2 He
/-- what is asked of a law's def -/
def spLaw (K : PySem.W.Frag) (Ts : List (Addr × Str)) : Sp := fun vs H Q _ => ∃ (a : Addr) (ns : List Int), vs = [.ref a] ∧ SqL K H a (ns.map V.int) ∧ ns.length ≤ 63 ∧ (∀ z ∈ ns, Builtin.Int.intBits z ≤ 1048576) ∧ (∀ p ∈ Ts, H p.1 = some (.tbl #[])) ∧ (∀ b ps, H b = some (.tbl ps) → ∃ q, (b, q) ∈ Ts) ∧ ∀ H', Q (.bl true) H'
/-- the script's list alone -/
def onlyL (H : Hp) (a : Addr) : Hp := fun b => if b = a then (match H b with
  | some (.tbl _) => none
  | x => x) else none
theorem onlyL_some {H : Hp} {a b : Addr} {o : HO} (h : onlyL H a b = some o) : b = a ∧ H b = some o ∧ ∀ ps, o ≠ .tbl ps := by
  unfold onlyL at h
  split at h
  · rename_i e
    refine ⟨e, ?_⟩
    cases q : H b with
    | none => rw [q] at h; cases h
    | some u =>
      rw [q] at h
      cases u with
      | tbl ps => cases h
      | _ => cases h; exact ⟨rfl, fun ps z => nomatch z⟩
  · cases h
theorem onlyL_at {H : Hp} {a : Addr} {o : HO} (h : H a = some o) (n : ∀ ps, o ≠ .tbl ps) : onlyL H a a = some o := by
  unfold onlyL
  rw [if_pos rfl, h]
  cases o with
  | tbl ps => exact absurd rfl (n ps)
  | _ => rfl
theorem sqL_only {K : PySem.W.Frag} {H : Hp} {a : Addr} {xs : List V} (h : SqL K H a xs) : SqL K (onlyL H a) a xs := by
  rcases h with (h | ⟨o, h⟩) | h
  · exact .inl (.inl (onlyL_at h fun _ z => nomatch z))
  · exact .inl (.inr ⟨o, onlyL_at h fun _ z => nomatch z⟩)
  · exact .inr h
/-- the slots at the rest's begin -/
def rhoL (n : Nat) (ns : List Int) : En := .fz (.scr (ns.map D.int)) :: .fz .tape :: List.replicate (n - 2) .un
section
variable {P : Program} {w : World} {K : PySem.W.Frag} {mg : Str → Option Value} {base : Heap} {k : Nat}
theorem law_go {CA : Nat → Addr} {atr : Nat → Str} {Ts : List (Addr × Str)} {fns : List (FI × DFn DE.TA)} {cls : List CI} {cons : List (Str × D)} {prims : List (Prim DE.TA)}
    (known : ∀ R l cc, Ground (mdX K CA atr Ts R l cc) P w K mg base cls cons prims k ∧ FnIs (mdX K CA atr Ts R l cc) P w K mg base k fns)
    {fB : Addr} {fdB : FuncData} (B : FnOk P w K mg base (CX P w) k fB fdB ["script"] (spBegun K)) (gB : mg "_law_begun" = some (.ref fB)) (kB : PySem.W.keepIn K (.ref fB) = true) (bB : Binds K fdB ["script"] [])
    {params : Arguments} {body rest : List Stmt} {scope : Scope} {kws : List (Str × V)} {f : Addr} {fd : FuncData} {N : List Str} {s : Ss} (F : FunD K "law" "law" params body scope [] kws f fd) (S : FnScope N ["script"] scope) (tx : ∃ p1 p2 p3 p4 p5 : Pos, body = .Assign [.Name "tape" p1] (.Call (.Name "_law_begun" p2) [.Name "script" p3] [] p4) p5 :: rest)
    (n0 : N[0]? = some (Str.ofString "script")) (n1 : N[1]? = some (Str.ofString "tape")) (v0 : Vis scope "script") (v1 : Loc scope "tape") (gb : scope.names.lookup ("_law_begun" : Str) = some .globalImplicit) (nolam : N.contains "_law_caught" = false)
    (h : chkSs ⟨fns, cls, cons, atr, prims, [], [], []⟩ N s scope rest = true)
    (plain : ∀ ns : List Int, ns.length ≤ 63 → (∀ z ∈ ns, Builtin.Int.intBits z ≤ 1048576) → ∃ t kd, execSs (⟨fns, cls, cons, atr, prims, [], [], []⟩ : Pg DE.TA) 0 s (rhoL N.length ns) (t0 ns) = .ok (.rt (.bl true, kd)) t) :
    FnG P w K mg base (CX P w) (k + 1) f fd ["script"] (spLaw K Ts) := by
  obtain ⟨oc, od, dV, kV, doc, pm, an, cdv, ct, osl, rfl, lk, hcd, _, _⟩ := F.ex
  obtain ⟨p1, p2, p3, p4, p5, rfl⟩ := tx
  refine ⟨fun vs H Q E ⟨_, _, e, _⟩ => by rw [e]; rfl, fun A outer s0 H args us vs Q E hr gd e0 hb r hsp => LamX.run_ofS lk hcd S hr e0 hb r (by obtain ⟨_, _, e, _⟩ := hsp; rw [e]; rfl) fun hr' => ?_⟩
  have C : ∀ R l cc, CsA ⟨fns, cls, cons, atr, prims, [], [], []⟩ (mdX K CA atr Ts R l cc) (cxOf (CX P w) P w K mg base N "law" scope f cdv A outer s0 H E) scope E := fun R l cc =>
    csA_of (wd_of (atr := atr) (known R l cc).1 (known R l cc).2) rfl S hr' (fun z => by rw [nolam] at z; cases z) fun _ => gd
  have tk : Takes (cxOf (CX P w) P w K mg base N "law" scope f cdv A outer s0 H E) fun c d _ H => E c d H := takes_of rfl rfl rfl rfl
  have call := pe_call (X := cxOf (CX P w) P w K mg base N "law" scope f cdv A outer s0 H E) (x := "_law_begun") (p := p2) (pos := p4) (E := fun _ _ _ => False) B hr' gb gB kB bB .nil (passes_call tk fun _ _ _ _ z => z.elim) (pa_cons (pe_var (pos := p3) (i := 0) n0 v0) pa_nil)
  refine ⟨_, pss_cons (ps_set (i := 1) S.nd n1 v1 call) (PSs_ex fun R => PSs_ex fun l => PSs_ex fun cc => PSs_ex fun F0 => PSs_ex fun H0 => soundSs 0 s (C R l cc) F0 H0 rest h), ?_⟩
  obtain ⟨a, ns, rfl, hS, len, bits, tbl, only, fin⟩ := hsp
  have hN : 2 ≤ N.length := (List.getElem?_eq_some_iff.mp n1).1
  have l63 : ns.length ≤ lim := by show ns.length ≤ sizeLine; rw [sizeLine_eq]; omega
  have s0l : (L2.start N [V.ref a]).length = N.length := by simp [L2.start]; omega
  refine ⟨.ref a, rfl, a, ns, rfl, hS, l63, fun R l cc H' at_ nR nl nc kp => ⟨R, l, cc, onlyL H a, H', rhoL N.length ns, t0 ns, onlyL H a, ?_, ?_⟩⟩
  · have fh : Same (onlyL H a) H' := fun b o e => kp.k _ _ (onlyL_some e).2.1
    have ntp : ∀ b, (mdX K CA atr Ts R l cc).tp.own b → onlyL H a b = none := fun b hb => by
      cases e : onlyL H a b with
      | none => rfl
      | some o =>
        exfalso
        obtain ⟨_, e1, e2⟩ := onlyL_some e
        rcases hb with hb | ⟨q, hq⟩
        · rcases hb with rfl | rfl | rfl
          · rw [nR] at e1; cases e1
          · rw [nl] at e1; cases e1
          · rw [nc] at e1; cases e1
        · rw [tbl (b, q) hq] at e1
          cases e1
          exact e2 _ rfl
    have tap : (mdX K CA atr Ts R l cc).tp.At H' (t0 ns) := ⟨at_, fun p hp => LamX.TabS.nil (kp.k _ _ (tbl p hp)), fun b ps e => by
      obtain ⟨qs, e1⟩ := kp.n b ps e
      exact only b qs e1⟩
    have no : ∀ (i : Nat) (x : SV), (rhoL N.length ns)[i + 2]? = some x → x = .un := fun i x e => by
      have e : (List.replicate (N.length - 2) SV.un)[i]? = some x := e
      rw [List.getElem?_replicate] at e
      split at e
      · exact (Option.some.inj e).symm
      · cases e
    refine ⟨⟨fh, tap, ntp, ?_, fun i d e => ?_, fun i d e => ?_, fun i j d1 d2 b e => ?_, fun i kk e => ?_⟩, .refl fh tap ntp, fun b ⟨i, d, e, _⟩ => ?_⟩
    · rw [List.length_set, s0l]
      simp [rhoL]
      omega
    · match i, e with
      | 0, e =>
        cases e
        refine ⟨.ref a, ?_, Rep.scr (sqL_only hS) (RepL.ints _)⟩
        rw [List.getElem?_set_ne (by decide)]
        rfl
      | 1, e =>
        cases e
        exact ⟨.ref R, List.getElem?_set_self (by rw [s0l]; omega), Rep.tape⟩
      | i + 2, e => cases no i _ e
    · match i, e with
      | 0, e => cases e
      | 1, e => cases e
      | i + 2, e => cases no i _ e
    · match i, e with
      | 0, e => cases e
      | 1, e => cases e
      | i + 2, e => cases no i _ e
    · match i, e with
      | 0, e => cases e
      | 1, e => cases e
      | i + 2, e => cases no i _ e
    · match i, e with
      | 0, e => cases e
      | 1, e => cases e
      | i + 2, e => cases no i _ e
  · obtain ⟨t, kd, e⟩ := plain ns len bits
    rw [e]
    intro F' H2 v _ _ hv
    obtain ⟨rfl, _⟩ := VRep.bl hv
    exact fin H2
end
end DE
set_option maxHeartbeats 1000000
/-! W1: plain reasoning on the evaluator: Wp r Q Z: r is an end of which Q holds, or an error of which Z holds. What comes next stands as names (k..), not as functions. -/
namespace DE
open PySem PySem.Spec PyProof.Rows L2
section
variable {T : Type} {α β : Type}
abbrev Zd (T : Type) := Nat → Option D → T → Prop
abbrev Qd (T : Type) := Dk → T → Prop
def WpD (r : R T α) (Q : α → T → Prop) (Z : Zd T) : Prop := match r with
  | .ok a t => Q a t
  | .ex c v t => Z c v t
  | .no => False
/-- .. as a structure of its own: nothing looks through it by itself -/
structure Wp (r : R T α) (Q : α → T → Prop) (Z : Zd T) : Prop where
  out : WpD r Q Z
theorem Wp_eq (r : R T α) (Q : α → T → Prop) (Z : Zd T) : Wp r Q Z = WpD r Q Z := propext ⟨fun h => h.out, fun h => ⟨h⟩⟩
theorem wp_ok (a : α) (t : T) (Q : α → T → Prop) (Z : Zd T) : Wp (.ok a t) Q Z = Q a t := Wp_eq ..
theorem wp_ex (c : Nat) (v : Option D) (t : T) (Q : α → T → Prop) (Z : Zd T) : Wp (.ex c v t) Q Z = Z c v t := Wp_eq ..
theorem wp_no (Q : α → T → Prop) (Z : Zd T) : Wp .no Q Z = False := Wp_eq ..
def kF (f : α → T → R T β) (Q : β → T → Prop) (Z : Zd T) (a : α) (t : T) : Prop := Wp (f a t) Q Z
theorem wp_bind (r : R T α) (f : α → T → R T β) (Q : β → T → Prop) (Z : Zd T) : Wp (r.bind f) Q Z = Wp r (kF f Q Z) Z := by
  cases r with
  | ok a t => rw [wp_ok]; rfl
  | ex c v t => rw [wp_ex]; exact wp_ex ..
  | no => rw [wp_no]; exact wp_no ..
theorem Wp.mono {r : R T α} {Q Q' : α → T → Prop} {Z Z' : Zd T} (h : Wp r Q Z) (m : ∀ a t, Q a t → Q' a t) (n : ∀ c v t, Z c v t → Z' c v t) : Wp r Q' Z' := by
  cases r with
  | ok a t => exact ⟨m _ _ h.out⟩
  | ex c v t => exact ⟨n _ _ _ h.out⟩
  | no => exact ⟨h.out⟩
def noX : Zd T := fun _ _ _ => False
def noR : α → T → Prop := fun _ _ => False
theorem Wp.imp {r : R T α} {Q Q' : α → T → Prop} {Z : Zd T} (h : Wp r Q noX) (m : ∀ a t, Q a t → Q' a t) : Wp r Q' Z := h.mono m fun _ _ _ z => z.elim
theorem Wp.sub {r : R T α} {Q Q' : α → T → Prop} {Z : Zd T} (h : Wp r Q Z) (m : ∀ a t, Q a t → Q' a t) : Wp r Q' Z := h.mono m fun _ _ _ z => z
/-- just this end -/
structure isR (x : α) (t0 : T) (a : α) (t : T) : Prop where
  e1 : a = x
  e2 : t = t0
theorem isR.at {a x : α} {t : T} (h : a = x) : isR x t a t := ⟨h, rfl⟩
structure isX (c : Nat) (v : Option D) (t0 : T) (c' : Nat) (v' : Option D) (t : T) : Prop where
  e1 : c' = c
  e2 : v' = v
  e3 : t = t0
theorem isX.at {c : Nat} {v w : Option D} {t : T} (h : w = v) : isX c v t c w t := ⟨rfl, h, rfl⟩
theorem Wp.eq {r : R T α} {x : α} {t0 : T} (h : Wp r (isR x t0) noX) : r = .ok x t0 := by
  cases r with
  | ok a t =>
    have e : isR x t0 a t := h.out
    obtain ⟨rfl, rfl⟩ := e
    rfl
  | ex c v t => exact (show False from h.out).elim
  | no => exact (show False from h.out).elim
theorem Wp.eqx {r : R T α} {c : Nat} {v : Option D} {t0 : T} (h : Wp r noR (isX c v t0)) : r = .ex c v t0 := by
  cases r with
  | ok a t => exact (show False from h.out).elim
  | ex c v t =>
    have e : isX _ _ t0 c v t := h.out
    obtain ⟨rfl, rfl, rfl⟩ := e
    rfl
  | no => exact (show False from h.out).elim
theorem Wp.ex {r : R T α} {Q : α → T → Prop} (h : Wp r Q noX) : ∃ a t, r = .ok a t ∧ Q a t := by
  cases r with
  | ok a t => exact ⟨a, t, rfl, h.out⟩
  | ex c v t => exact (show False from h.out).elim
  | no => exact (show False from h.out).elim
theorem Wp.of {r : R T α} {x : α} {t0 : T} {Q : α → T → Prop} {Z : Zd T} (h : r = .ok x t0) (q : Q x t0) : Wp r Q Z := by rw [h, wp_ok]; exact q
theorem wp_guard (c : Prop) {_ : Decidable c} (r : R T α) (Q : α → T → Prop) (Z : Zd T) : Wp (if c then r else .no) Q Z = (c ∧ Wp r Q Z) := by
  by_cases h : c
  · rw [if_pos h]; simp only [h, true_and]
  · rw [if_neg h, wp_no]; simp only [h, false_and]
theorem wp_guard1 (c : Prop) {_ : Decidable c} (a : α) (t : T) (Q : α → T → Prop) (Z : Zd T) : Wp (if c then .ok a t else .no) Q Z = (c ∧ Q a t) := by rw [wp_guard, wp_ok]
theorem wp_guardx (p : Prop) {_ : Decidable p} (c : Nat) (v : Option D) (t : T) (Q : α → T → Prop) (Z : Zd T) : Wp (if p then .ex c v t else .no) Q Z = (p ∧ Z c v t) := by rw [wp_guard, wp_ex]
theorem wp_calm (r : R T α) (Q : α → T → Prop) (Z : Zd T) : Wp r.calm Q Z = Wp r Q noX := by
  cases r with
  | ok a t => exact (wp_ok ..).trans (wp_ok ..).symm
  | ex c v t => exact (wp_no ..).trans (wp_ex c v t Q noX).symm
  | no => exact (wp_no ..).trans (wp_no ..).symm
theorem Wp.cg {r : R T α} {Q Q' : α → T → Prop} {Z : Zd T} (h : ∀ a t, Q a t = Q' a t) : Wp r Q Z = Wp r Q' Z := by
  cases r with
  | ok a t => rw [wp_ok, wp_ok, h]
  | ex c v t => rw [wp_ex, wp_ex]
  | no => rw [wp_no, wp_no]
/-- a value that must be there -/
def opK (v : Option α) (A : α → T → Prop) (t : T) : Prop := match v with
  | some x => A x t
  | none => False
theorem opK_some (d : α) (A : α → T → Prop) (t : T) : opK (some d) A t = A d t := rfl
theorem opK_of {v : Option α} {x : α} {A : α → T → Prop} {t : T} (h : v = some x) (a : A x t) : opK v A t := by rw [h]; exact a
theorem wp_ofO (o : Option α) (t : T) (Q : α → T → Prop) (Z : Zd T) : Wp (ofO o t) Q Z = opK o Q t := by cases o <;> (first | rfl | exact wp_ok .. | exact wp_no .. | exact wp_ex ..)
theorem opK_map (f : β → α) (v : Option β) (A : α → T → Prop) (t : T) : opK (v.map f) A t = opK v (fun x t => A (f x) t) t := by cases v <;> (first | rfl | exact wp_ok .. | exact wp_no .. | exact wp_ex ..)
theorem opK_cg {v : Option α} {A B : α → T → Prop} {t : T} (h : ∀ x t, A x t = B x t) : opK v A t = opK v B t := by cases v <;> first | rfl | exact h _ _
/-- what a test leads to -/
inductive Go (T : Type) where
  | ge (G : Pg T) (e : E) (ρ : En) (Q : Qd T) (Z : Zd T)
  | gq (Q : Qd T) (d : Dk)
  | gch (G : Pg T) (c : Cm) (d : E) (ρ : En) (y : Dk) (Q : Qd T) (Z : Zd T)
  | gch3 (G : Pg T) (c c' : Cm) (d e : E) (ρ : En) (y : Dk) (Q : Qd T) (Z : Zd T)
  | gc (G : Pg T) (es : Es) (ρ : En) (Q : Bool → T → Prop) (Z : Zd T)
  | gcq (Q : Bool → T → Prop) (b : Bool)
  | glf (G : Pg T) (e : E) (ρ : En) (Q : Option D → T → Prop) (Z : Zd T)
  | glq (Q : Option D → T → Prop)
  | gs (G : Pg T) (fu : Nat) (b : Ss) (ρ : En) (Q : O → T → Prop) (Z : Zd T)
def kB (Q : Qd T) (b : Bool) (t : T) : Prop := Q (.bl b, .fz) t
def kI (Q : Qd T) (i : Int) (t : T) : Prop := Q (.int i, .fz) t
def kD (Q : Qd T) (d : D) (t : T) : Prop := Q (d, .fz) t
def kCmp2 (c : Cm) (x : Dk) (Q : Qd T) (y : Dk) (t : T) : Prop := opK (cmpD c x y) (kB Q) t
def kCh3c (G : Pg T) (c' : Cm) (e : E) (ρ : En) (z : Dk) (Q : Qd T) (Z : Zd T) (b : Bool) (t : T) : Prop := match b with
  | true => Wp (evalE G e ρ t) (kCmp2 c' z Q) Z
  | false => Q (.bl false, .fz) t
def kCh3b (G : Pg T) (c c' : Cm) (e : E) (ρ : En) (y : Dk) (Q : Qd T) (Z : Zd T) (z : Dk) (t : T) : Prop := opK (cmpD c y z) (kCh3c G c' e ρ z Q Z) t
def kO (Q : Option D → T → Prop) (d : D) (t : T) : Prop := Q (some d) t
def kSome (Q : Option D → T → Prop) (e : Dk) (t : T) : Prop := opK (fzOf e) (kO Q) t
def Go.run : Go T → T → Prop
  | .ge G e ρ Q Z, t => Wp (evalE G e ρ t) Q Z
  | .gq Q d, t => Q d t
  | .gch G c d ρ y Q Z, t => Wp (evalE G d ρ t) (kCmp2 c y Q) Z
  | .gch3 G c c' d e ρ y Q Z, t => Wp (evalE G d ρ t) (kCh3b G c c' e ρ y Q Z) Z
  | .gc G es ρ Q Z, t => Wp (evalC G es ρ t) Q Z
  | .gcq Q b, t => Q b t
  | .glf G e ρ Q Z, t => Wp (evalE G e ρ t) (kSome Q) Z
  | .glq Q, t => Q none t
  | .gs G fu b ρ Q Z, t => Wp (execSs G fu b ρ t) Q Z
def ifG (x : D) (A B : Go T) (t : T) : Prop := match x with
  | .bl true => A.run t
  | .bl false => B.run t
  | _ => False
section
variable {A B : Go T} {t : T}
theorem if_t (A B : Go T) (t : T) : ifG (.bl true) A B t = A.run t := rfl
theorem if_f (A B : Go T) (t : T) : ifG (.bl false) A B t = B.run t := rfl
theorem if_t' {b : Bool} (h : b = true) (a : A.run t) : ifG (.bl b) A B t := by subst h; exact a
theorem if_f' {b : Bool} (h : b = false) (a : B.run t) : ifG (.bl b) A B t := by subst h; exact a
theorem if_s {b : Bool} (h : b = true → A.run t) (g : b = false → B.run t) : ifG (.bl b) A B t := by cases b with | true => exact h rfl | false => exact g rfl
theorem if_d {P : Prop} {_ : Decidable P} (h : P → A.run t) (g : ¬P → B.run t) : ifG (.bl (decide P)) A B t := if_s (fun z => h (of_decide_eq_true z)) fun z => g (of_decide_eq_false z)
theorem if_nd {P : Prop} {_ : Decidable P} (h : ¬P → A.run t) (g : P → B.run t) : ifG (.bl (!decide P)) A B t := if_s (fun z => h (by simpa using z)) fun z => g (by simpa using z)
theorem if_dt {P : Prop} {_ : Decidable P} (h : P) (a : A.run t) : ifG (.bl (decide P)) A B t := if_t' (decide_eq_true h) a
theorem if_df {P : Prop} {_ : Decidable P} (h : ¬P) (b : B.run t) : ifG (.bl (decide P)) A B t := if_f' (decide_eq_false h) b
end
section
variable (G : Pg T) (e : E) (ρ : En) (Q : Qd T) (Z : Zd T) (t : T)
theorem go_e : (Go.ge G e ρ Q Z).run t = Wp (evalE G e ρ t) Q Z := rfl
theorem go_q (d : Dk) : (Go.gq Q d).run t = Q d t := rfl
theorem go_ch (c : Cm) (d : E) (y : Dk) : (Go.gch G c d ρ y Q Z).run t = Wp (evalE G d ρ t) (kCmp2 c y Q) Z := rfl
theorem go_ch3 (c c' : Cm) (d : E) (y : Dk) : (Go.gch3 G c c' d e ρ y Q Z).run t = Wp (evalE G d ρ t) (kCh3b G c c' e ρ y Q Z) Z := rfl
theorem go_c (es : Es) (Q : Bool → T → Prop) : (Go.gc G es ρ Q Z).run t = Wp (evalC G es ρ t) Q Z := rfl
theorem go_cq (Q : Bool → T → Prop) (b : Bool) : (Go.gcq Q b).run t = Q b t := rfl
theorem go_lf (Q : Option D → T → Prop) : (Go.glf G e ρ Q Z).run t = Wp (evalE G e ρ t) (kSome Q) Z := rfl
theorem go_lq (Q : Option D → T → Prop) : (Go.glq Q).run t = Q none t := rfl
theorem go_s (fu : Nat) (b : Ss) (Q : O → T → Prop) : (Go.gs G fu b ρ Q Z).run t = Wp (execSs G fu b ρ t) Q Z := rfl
end
/-! ### expressions -/
section
variable {G : Pg T} (ρ : En) (t : T) (Q : Qd T) (Z : Zd T)
def slK (v : Option SV) (Q : Qd T) (t : T) : Prop := match v with
  | some (.fz d) => Q (d, .fz) t
  | some (.ow d) => Q (d, .br) t
  | _ => False
theorem slK_fz (d : D) : slK (some (.fz d)) Q t = Q (d, .fz) t := rfl
theorem slK_ow (d : D) : slK (some (.ow d)) Q t = Q (d, .br) t := rfl
theorem wp_var (i : Nat) : Wp (evalE G (.var i) ρ t) Q Z = slK ρ[i]? Q t := by
  unfold evalE
  generalize ρ[i]? = v
  cases v with
  | none => (first | rfl | exact wp_ok .. | exact wp_no .. | exact wp_ex ..)
  | some v => cases v <;> (first | rfl | exact wp_ok .. | exact wp_no .. | exact wp_ex ..)
theorem wp_non : Wp (evalE G .non ρ t) Q Z = Q (.non, .fz) t := wp_ok ..
theorem wp_noe : Wp (evalE G .noe ρ t) Q Z = Q (.non, .fz) t := wp_ok ..
theorem wp_bl (b : Bool) : Wp (evalE G (.bl b) ρ t) Q Z = Q (.bl b, .fz) t := wp_ok ..
theorem wp_int (i : Int) : Wp (evalE G (.int i) ρ t) Q Z = Q (.int i, .fz) t := wp_ok ..
theorem wp_str (x : Str) : Wp (evalE G (.str x) ρ t) Q Z = Q (.str x, .fz) t := wp_ok ..
theorem wp_con (x : Str) (d : D) : Wp (evalE G (.con x d) ρ t) Q Z = opK (G.cons.lookup x) (kD Q) t := by
  unfold evalE
  generalize G.cons.lookup x = v
  cases v <;> (first | rfl | exact wp_ok .. | exact wp_no .. | exact wp_ex ..)
def kBin2 (o : Op2) (x : Dk) (Q : Qd T) (y : Dk) (t : T) : Prop := opK (op2 o x.1 y.1) Q t
def kBin (G : Pg T) (o : Op2) (b : E) (ρ : En) (Q : Qd T) (Z : Zd T) (x : Dk) (t : T) : Prop := Wp (evalE G b ρ t) (kBin2 o x Q) Z
theorem wp_bin (o : Op2) (a b : E) : Wp (evalE G (.bin o a b) ρ t) Q Z = Wp (evalE G a ρ t) (kBin G o b ρ Q Z) Z := by
  rw [show evalE G (.bin o a b) ρ t = (evalE G a ρ t).bind fun x t => (evalE G b ρ t).bind fun y t => ofO (op2 o x.1 y.1) t from rfl, wp_bind]
  refine Wp.cg fun x t => ?_
  unfold kF
  try dsimp only
  rw [wp_bind]
  exact Wp.cg fun y t => wp_ofO ..
def negD : D → Option Int
  | .int i => some (-i)
  | _ => none
def kNeg (Q : Qd T) (x : Dk) (t : T) : Prop := opK (negD x.1) (kI Q) t
theorem wp_neg (a : E) : Wp (evalE G (.neg a) ρ t) Q Z = Wp (evalE G a ρ t) (kNeg Q) Z := by
  rw [show evalE G (.neg a) ρ t = (evalE G a ρ t).bind fun x t => match x.1 with
    | .int i => .ok (.int (-i), .fz) t
    | _ => .no from rfl, wp_bind]
  refine Wp.cg fun x t => ?_
  obtain ⟨d, k⟩ := x
  cases d <;> (first | rfl | exact wp_ok .. | exact wp_no .. | exact wp_ex ..)
def notD : D → Option Bool
  | .bl b => some (!b)
  | _ => none
def kNot (Q : Qd T) (x : Dk) (t : T) : Prop := opK (notD x.1) (kB Q) t
theorem wp_not (a : E) : Wp (evalE G (.not a) ρ t) Q Z = Wp (evalE G a ρ t) (kNot Q) Z := by
  rw [show evalE G (.not a) ρ t = (evalE G a ρ t).bind fun x t => match x.1 with
    | .bl i => .ok (.bl (!i), .fz) t
    | _ => .no from rfl, wp_bind]
  refine Wp.cg fun x t => ?_
  obtain ⟨d, k⟩ := x
  cases d <;> (first | rfl | exact wp_ok .. | exact wp_no .. | exact wp_ex ..)
def kAnd (G : Pg T) (b : E) (ρ : En) (Q : Qd T) (Z : Zd T) (x : Dk) (t : T) : Prop := ifG x.1 (.ge G b ρ Q Z) (.gq Q (.bl false, .fz)) t
theorem wp_and (a b : E) : Wp (evalE G (.and a b) ρ t) Q Z = Wp (evalE G a ρ t) (kAnd G b ρ Q Z) Z := by
  rw [show evalE G (.and a b) ρ t = (evalE G a ρ t).bind fun x t => match x.1 with
    | .bl true => evalE G b ρ t
    | .bl false => .ok (.bl false, .fz) t
    | _ => .no from rfl, wp_bind]
  refine Wp.cg fun x t => ?_
  obtain ⟨d, k⟩ := x
  cases d <;> first | rfl | exact wp_ok .. | exact wp_no .. | (rename_i b; cases b <;> (first | rfl | exact wp_ok .. | exact wp_no .. | exact wp_ex ..))
def kOr (G : Pg T) (b : E) (ρ : En) (Q : Qd T) (Z : Zd T) (x : Dk) (t : T) : Prop := ifG x.1 (.gq Q (.bl true, .fz)) (.ge G b ρ Q Z) t
theorem wp_or (a b : E) : Wp (evalE G (.or a b) ρ t) Q Z = Wp (evalE G a ρ t) (kOr G b ρ Q Z) Z := by
  rw [show evalE G (.or a b) ρ t = (evalE G a ρ t).bind fun x t => match x.1 with
    | .bl true => .ok (.bl true, .fz) t
    | .bl false => evalE G b ρ t
    | _ => .no from rfl, wp_bind]
  refine Wp.cg fun x t => ?_
  obtain ⟨d, k⟩ := x
  cases d <;> first | rfl | exact wp_ok .. | exact wp_no .. | (rename_i b; cases b <;> (first | rfl | exact wp_ok .. | exact wp_no .. | exact wp_ex ..))
def kIte (G : Pg T) (a b : E) (ρ : En) (Q : Qd T) (Z : Zd T) (x : Dk) (t : T) : Prop := ifG x.1 (.ge G a ρ Q Z) (.ge G b ρ Q Z) t
theorem wp_ite (c a b : E) : Wp (evalE G (.ite c a b) ρ t) Q Z = Wp (evalE G c ρ t) (kIte G a b ρ Q Z) Z := by
  rw [show evalE G (.ite c a b) ρ t = (evalE G c ρ t).bind fun x t => match x.1 with
    | .bl true => evalE G a ρ t
    | .bl false => evalE G b ρ t
    | _ => .no from rfl, wp_bind]
  refine Wp.cg fun x t => ?_
  obtain ⟨d, k⟩ := x
  cases d <;> first | rfl | exact wp_ok .. | exact wp_no .. | (rename_i b; cases b <;> (first | rfl | exact wp_ok .. | exact wp_no .. | exact wp_ex ..))
def kCmp (G : Pg T) (c : Cm) (b : E) (ρ : En) (Q : Qd T) (Z : Zd T) (x : Dk) (t : T) : Prop := Wp (evalE G b ρ t) (kCmp2 c x Q) Z
theorem cmp_end (c : Cm) (x y : Dk) : Wp (ofO ((cmpD c x y).map fun b => (D.bl b, Kd.fz)) t) Q Z = kCmp2 c x Q y t := by
  unfold kCmp2
  cases cmpD c x y <;> (first | rfl | exact wp_ok .. | exact wp_no .. | exact wp_ex ..)
theorem wp_cmp (c : Cm) (a b : E) : Wp (evalE G (.cmp c a b) ρ t) Q Z = Wp (evalE G a ρ t) (kCmp G c b ρ Q Z) Z := by
  rw [show evalE G (.cmp c a b) ρ t = (evalE G a ρ t).bind fun x t => (evalE G b ρ t).bind fun y t => ofO ((cmpD c x y).map fun b => (.bl b, .fz)) t from rfl, wp_bind]
  refine Wp.cg fun x t => ?_
  unfold kF
  try dsimp only
  rw [wp_bind]
  exact Wp.cg fun y t => cmp_end ..
def kChn3 (G : Pg T) (c' : Cm) (d : E) (ρ : En) (y : Dk) (Q : Qd T) (Z : Zd T) (b : Bool) (t : T) : Prop := ifG (.bl b) (.gch G c' d ρ y Q Z) (.gq Q (.bl false, .fz)) t
def kChn2 (G : Pg T) (c c' : Cm) (d : E) (ρ : En) (x : Dk) (Q : Qd T) (Z : Zd T) (y : Dk) (t : T) : Prop := opK (cmpD c x y) (kChn3 G c' d ρ y Q Z) t
def kChn (G : Pg T) (c c' : Cm) (b d : E) (ρ : En) (Q : Qd T) (Z : Zd T) (x : Dk) (t : T) : Prop := Wp (evalE G b ρ t) (kChn2 G c c' d ρ x Q Z) Z
theorem wp_chn (c c' : Cm) (a b d : E) : Wp (evalE G (.chn c c' a b d) ρ t) Q Z = Wp (evalE G a ρ t) (kChn G c c' b d ρ Q Z) Z := by
  rw [show evalE G (.chn c c' a b d) ρ t = (evalE G a ρ t).bind fun x t => (evalE G b ρ t).bind fun y t => match cmpD c x y with
    | some true => (evalE G d ρ t).bind fun z t => ofO ((cmpD c' y z).map fun b => (.bl b, .fz)) t
    | some false => .ok (.bl false, .fz) t
    | none => .no from rfl, wp_bind]
  refine Wp.cg fun x t => ?_
  unfold kF
  try dsimp only
  rw [wp_bind]
  refine Wp.cg fun y t => ?_
  unfold kF kChn2
  try dsimp only
  cases cmpD c x y with
  | none => (first | rfl | exact wp_ok .. | exact wp_no .. | exact wp_ex ..)
  | some r =>
    cases r with
    | false => (first | rfl | exact wp_ok .. | exact wp_no .. | exact wp_ex ..)
    | true =>
      show Wp ((evalE G d ρ t).bind fun z t => ofO ((cmpD c' y z).map fun b => (.bl b, .fz)) t) Q Z = Wp (evalE G d ρ t) (kCmp2 c' y Q) Z
      rw [wp_bind]
      exact Wp.cg fun z t => cmp_end ..
def k3Chn3 (G : Pg T) (c' c'' : Cm) (d e : E) (ρ : En) (y : Dk) (Q : Qd T) (Z : Zd T) (b : Bool) (t : T) : Prop := ifG (.bl b) (.gch3 G c' c'' d e ρ y Q Z) (.gq Q (.bl false, .fz)) t
def k3Chn2 (G : Pg T) (c c' c'' : Cm) (d e : E) (ρ : En) (x : Dk) (Q : Qd T) (Z : Zd T) (y : Dk) (t : T) : Prop := opK (cmpD c x y) (k3Chn3 G c' c'' d e ρ y Q Z) t
def k3Chn (G : Pg T) (c c' c'' : Cm) (b d e : E) (ρ : En) (Q : Qd T) (Z : Zd T) (x : Dk) (t : T) : Prop := Wp (evalE G b ρ t) (k3Chn2 G c c' c'' d e ρ x Q Z) Z
theorem wp_chn3 (c c' c'' : Cm) (a b d e : E) : Wp (evalE G (.chn3 c c' c'' a b d e) ρ t) Q Z = Wp (evalE G a ρ t) (k3Chn G c c' c'' b d e ρ Q Z) Z := by
  rw [show evalE G (.chn3 c c' c'' a b d e) ρ t = (evalE G a ρ t).bind fun x t => (evalE G b ρ t).bind fun y t => match cmpD c x y with
    | some true => (evalE G d ρ t).bind fun z t => (match cmpD c' y z with
      | some true => (evalE G e ρ t).bind fun u t => ofO ((cmpD c'' z u).map fun b => (.bl b, .fz)) t
      | some false => .ok (.bl false, .fz) t
      | none => .no)
    | some false => .ok (.bl false, .fz) t
    | none => .no from rfl, wp_bind]
  refine Wp.cg fun x t => ?_
  unfold kF
  try dsimp only
  rw [wp_bind]
  refine Wp.cg fun y t => ?_
  unfold kF k3Chn2
  try dsimp only
  cases cmpD c x y with
  | none => (first | rfl | exact wp_ok .. | exact wp_no .. | exact wp_ex ..)
  | some r =>
    cases r with
    | false => (first | rfl | exact wp_ok .. | exact wp_no .. | exact wp_ex ..)
    | true =>
      show Wp ((evalE G d ρ t).bind fun z t => (match cmpD c' y z with
        | some true => (evalE G e ρ t).bind fun u t => ofO ((cmpD c'' z u).map fun b => (.bl b, .fz)) t
        | some false => .ok (.bl false, .fz) t
        | none => .no)) Q Z = Wp (evalE G d ρ t) (kCh3b G c' c'' e ρ y Q Z) Z
      rw [wp_bind]
      refine Wp.cg fun z t => ?_
      unfold kF kCh3b
      try dsimp only
      cases cmpD c' y z with
      | none => (first | rfl | exact wp_ok .. | exact wp_no .. | exact wp_ex ..)
      | some r =>
        cases r with
        | false => (first | rfl | exact wp_ok .. | exact wp_no .. | exact wp_ex ..)
        | true =>
          show Wp ((evalE G e ρ t).bind fun u t => ofO ((cmpD c'' z u).map fun b => (.bl b, .fz)) t) Q Z = Wp (evalE G e ρ t) (kCmp2 c'' z Q) Z
          rw [wp_bind]
          exact Wp.cg fun z t => cmp_end ..
theorem ch3_t (c' : Cm) (e : E) (z : Dk) : kCh3c G c' e ρ z Q Z true t = Wp (evalE G e ρ t) (kCmp2 c' z Q) Z := rfl
theorem ch3_f (c' : Cm) (e : E) (z : Dk) : kCh3c G c' e ρ z Q Z false t = Q (.bl false, .fz) t := rfl
theorem ch3_s {c' : Cm} {e : E} {z : Dk} {ρ : En} {Q : Qd T} {Z : Zd T} {t : T} {b : Bool} (h : b = true → Wp (evalE G e ρ t) (kCmp2 c' z Q) Z) (g : b = false → Q (.bl false, .fz) t) : kCh3c G c' e ρ z Q Z b t := by
  cases b with
  | true => exact h rfl
  | false => exact g rfl
def kIsi (y : Ty) (Q : Qd T) (x : Dk) (t : T) : Prop := opK (tyD x.1 y) (kB Q) t
theorem wp_isi (a : E) (y : Ty) : Wp (evalE G (.isi a y) ρ t) Q Z = Wp (evalE G a ρ t) (kIsi y Q) Z := by
  rw [show evalE G (.isi a y) ρ t = (evalE G a ρ t).bind fun x t => ofO ((tyD x.1 y).map fun b => (.bl b, .fz)) t from rfl, wp_bind]
  refine Wp.cg fun x t => ?_
  unfold kF kIsi
  try dsimp only
  cases tyD x.1 y <;> (first | rfl | exact wp_ok .. | exact wp_no .. | exact wp_ex ..)
def kBi (k : BI) (Q : Qd T) (xs : List Dk) (t : T) : Prop := opK (biD k xs) Q t
theorem wp_bi (k : BI) (es : Es) : Wp (evalE G (.bi k es) ρ t) Q Z = Wp (evalEs G es ρ t) (kBi k Q) Z := by
  rw [show evalE G (.bi k es) ρ t = (evalEs G es ρ t).bind fun xs t => ofO (biD k xs) t from rfl, wp_bind]
  exact Wp.cg fun x t => wp_ofO ..
def kTup2 (Q : Qd T) (ds : List D) (t : T) : Prop := ds.length ≤ lim ∧ Q (.tup ds, .fz) t
def kTup (Q : Qd T) (xs : List Dk) (t : T) : Prop := opK (allFz xs) (kTup2 Q) t
theorem wp_tup (es : Es) : Wp (evalE G (.tup es) ρ t) Q Z = Wp (evalEs G es ρ t) (kTup Q) Z := by
  rw [show evalE G (.tup es) ρ t = (evalEs G es ρ t).bind fun xs t => match allFz xs with
    | some ds => if ds.length ≤ lim then .ok (.tup ds, .fz) t else .no
    | none => .no from rfl, wp_bind]
  refine Wp.cg fun x t => ?_
  unfold kF kTup
  try dsimp only
  cases allFz x with
  | none => (first | rfl | exact wp_ok .. | exact wp_no .. | exact wp_ex ..)
  | some ds => first | exact wp_guard .. | exact wp_guard1 .. | exact wp_guardx ..
def kLst2 (Q : Qd T) (ds : List D) (t : T) : Prop := ds.length ≤ lim ∧ Q (.lst ds, .fr) t
def kLst (Q : Qd T) (xs : List Dk) (t : T) : Prop := opK (allFz xs) (kLst2 Q) t
theorem wp_lst (es : Es) : Wp (evalE G (.lst es) ρ t) Q Z = Wp (evalEs G es ρ t) (kLst Q) Z := by
  rw [show evalE G (.lst es) ρ t = (evalEs G es ρ t).bind fun xs t => match allFz xs with
    | some ds => if ds.length ≤ lim then .ok (.lst ds, .fr) t else .no
    | none => .no from rfl, wp_bind]
  refine Wp.cg fun x t => ?_
  unfold kF kLst
  try dsimp only
  cases allFz x with
  | none => (first | rfl | exact wp_ok .. | exact wp_no .. | exact wp_ex ..)
  | some ds => first | exact wp_guard .. | exact wp_guard1 .. | exact wp_guardx ..
def kIdx2 (x : Dk) (Q : Qd T) (y : Dk) (t : T) : Prop := opK (idxD x y) (kD Q) t
def kIdx (G : Pg T) (i : E) (ρ : En) (Q : Qd T) (Z : Zd T) (x : Dk) (t : T) : Prop := Wp (evalE G i ρ t) (kIdx2 x Q) Z
theorem wp_idx (a i : E) : Wp (evalE G (.idx a i) ρ t) Q Z = Wp (evalE G a ρ t) (kIdx G i ρ Q Z) Z := by
  rw [show evalE G (.idx a i) ρ t = (evalE G a ρ t).bind fun x t => (evalE G i ρ t).bind fun y t => ofO ((idxD x y).map fun d => (d, .fz)) t from rfl, wp_bind]
  refine Wp.cg fun x t => ?_
  unfold kF
  try dsimp only
  rw [wp_bind]
  refine Wp.cg fun y t => ?_
  unfold kF kIdx2
  try dsimp only
  cases idxD x y <;> (first | rfl | exact wp_ok .. | exact wp_no .. | exact wp_ex ..)
def kSlc5 (x : Dk) (l : Option Int) (Q : Qd T) (h : Option Int) (t : T) : Prop := opK (slcD x l h) Q t
def kSlc4 (hi : E) (x : Dk) (l : Option Int) (Q : Qd T) (h : Dk) (t : T) : Prop := opK (optI (isNoe hi) h.1) (kSlc5 x l Q) t
def kSlc3 (G : Pg T) (hi : E) (ρ : En) (x : Dk) (Q : Qd T) (Z : Zd T) (l : Option Int) (t : T) : Prop := Wp (evalE G hi ρ t) (kSlc4 hi x l Q) Z
def kSlc2 (G : Pg T) (lo hi : E) (ρ : En) (x : Dk) (Q : Qd T) (Z : Zd T) (l : Dk) (t : T) : Prop := opK (optI (isNoe lo) l.1) (kSlc3 G hi ρ x Q Z) t
def kSlc (G : Pg T) (lo hi : E) (ρ : En) (Q : Qd T) (Z : Zd T) (x : Dk) (t : T) : Prop := Wp (evalE G lo ρ t) (kSlc2 G lo hi ρ x Q Z) Z
theorem wp_slc (a lo hi : E) : Wp (evalE G (.slc a lo hi) ρ t) Q Z = Wp (evalE G a ρ t) (kSlc G lo hi ρ Q Z) Z := by
  rw [show evalE G (.slc a lo hi) ρ t = (evalE G a ρ t).bind fun x t => (evalE G lo ρ t).bind fun l t => (ofO (optI (isNoe lo) l.1) t).bind fun l t => (evalE G hi ρ t).bind fun h t => (ofO (optI (isNoe hi) h.1) t).bind fun h t => ofO (slcD x l h) t from rfl, wp_bind]
  refine Wp.cg fun x t => ?_
  unfold kF kSlc
  try dsimp only
  rw [wp_bind]
  refine Wp.cg fun l t => ?_
  unfold kF kSlc2
  try dsimp only
  rw [wp_bind, wp_ofO]
  refine opK_cg fun l t => ?_
  unfold kF kSlc3
  try dsimp only
  rw [wp_bind]
  refine Wp.cg fun h t => ?_
  unfold kF kSlc4
  try dsimp only
  rw [wp_bind, wp_ofO]
  refine opK_cg fun l t => ?_
  unfold kF kSlc5
  try dsimp only
  exact wp_ofO ..
/-- calls -/
def dflt (fi : FI) (n : Nat) : List Dk := (fi.dfl.drop (fi.dfl.length - (fi.ps.length - n))).map (·, Kd.fz)
def kFlat (Q : Qd T) (d : Dk) (t : T) : Prop := flat1 d = true ∧ Q d t
def kFlatX (Z : Zd T) (c : Nat) (v : Option D) (t : T) : Prop := flatX v = true ∧ Z c v t
def callK (o : Option (List D)) (f : DFn T) (xs : List Dk) (Q : Qd T) (Z : Zd T) (t : T) : Prop := match o with
  | some ds => Wp (f ds t) Q Z
  | none => Wp (f (xs.map (·.1)) t) (kFlat Q) (kFlatX Z)
theorem callK_some (ds : List D) (f : DFn T) (xs : List Dk) : callK (some ds) f xs Q Z t = Wp (f ds t) Q Z := rfl
theorem callK_none (f : DFn T) (xs : List Dk) : callK none f xs Q Z t = Wp (f (xs.map (·.1)) t) (kFlat Q) (kFlatX Z) := rfl
theorem wp_callD (f : DFn T) (xs : List Dk) : Wp (callD f xs t) Q Z = callK (allFz xs) f xs Q Z t := by
  unfold callD
  cases allFz xs with
  | some ds => (first | rfl | exact wp_ok .. | exact wp_no .. | exact wp_ex ..)
  | none =>
    show Wp (match f (xs.map (·.1)) t with
      | .ok d t' => if flat1 d then .ok d t' else .no
      | .ex c v t' => if flatX v then .ex c v t' else .no
      | .no => .no) Q Z = Wp (f (xs.map (·.1)) t) _ _
    cases f (xs.map (·.1)) t with
    | ok d t' => exact (wp_guard1 ..).trans (wp_ok d t' (kFlat Q) _).symm
    | ex c v t' => exact (wp_guardx ..).trans (wp_ex c v t' _ (kFlatX Z)).symm
    | no => exact (wp_no ..).trans (wp_no ..).symm
def kCall2 (xs : List Dk) (Q : Qd T) (Z : Zd T) (p : FI × DFn T) (t : T) : Prop := Wp (callD p.2 (xs ++ dflt p.1 xs.length) t) Q Z
def kCall (G : Pg T) (f : Nat) (Q : Qd T) (Z : Zd T) (xs : List Dk) (t : T) : Prop := opK G.fns[f]? (kCall2 xs Q Z) t
theorem wp_call (f : Nat) (es : Es) : Wp (evalE G (.call f es) ρ t) Q Z = Wp (evalEs G es ρ t) (kCall G f Q Z) Z := by
  rw [show evalE G (.call f es) ρ t = (evalEs G es ρ t).bind fun xs t => match G.fns[f]? with
    | some (fi, h) => callD h (xs ++ (fi.dfl.drop (fi.dfl.length - (fi.ps.length - xs.length))).map (·, Kd.fz)) t
    | none => .no from rfl, wp_bind]
  refine Wp.cg fun xs t => ?_
  unfold kF kCall
  try dsimp only
  generalize G.fns[f]? = v
  cases v <;> (first | rfl | exact wp_ok .. | exact wp_no .. | exact wp_ex ..)
def kCallk4 (Q : Qd T) (Z : Zd T) (p : FI × DFn T) (zs : List Dk) (t : T) : Prop := Wp (callD p.2 zs t) Q Z
def kCallk3 (pm : List Nat) (xs ys : List Dk) (Q : Qd T) (Z : Zd T) (p : FI × DFn T) (t : T) : Prop := opK (permL pm (xs ++ ys)) (kCallk4 Q Z p) t
def kCallk2 (G : Pg T) (f : Nat) (pm : List Nat) (xs : List Dk) (Q : Qd T) (Z : Zd T) (ys : List Dk) (t : T) : Prop := opK G.fns[f]? (kCallk3 pm xs ys Q Z) t
def kCallk (G : Pg T) (f : Nat) (kes : Es) (pm : List Nat) (ρ : En) (Q : Qd T) (Z : Zd T) (xs : List Dk) (t : T) : Prop := Wp (evalEs G kes ρ t) (kCallk2 G f pm xs Q Z) Z
theorem wp_callk (f : Nat) (es : Es) (ks : List Str) (kes : Es) (pm : List Nat) : Wp (evalE G (.callk f es ks kes pm) ρ t) Q Z = Wp (evalEs G es ρ t) (kCallk G f kes pm ρ Q Z) Z := by
  rw [show evalE G (.callk f es ks kes pm) ρ t = (evalEs G es ρ t).bind fun xs t => (evalEs G kes ρ t).bind fun ys t => match G.fns[f]? with
    | some (_, h) => (match permL pm (xs ++ ys) with
      | some zs => callD h zs t
      | none => .no)
    | none => .no from rfl, wp_bind]
  refine Wp.cg fun xs t => ?_
  unfold kF kCallk
  try dsimp only
  rw [wp_bind]
  refine Wp.cg fun ys t => ?_
  unfold kF kCallk2
  try dsimp only
  generalize G.fns[f]? = v
  cases v with
  | none => (first | rfl | exact wp_ok .. | exact wp_no .. | exact wp_ex ..)
  | some p =>
    show Wp (match permL pm (xs ++ ys) with
      | some zs => callD p.2 zs t
      | none => .no) Q Z = opK (permL pm (xs ++ ys)) _ t
    cases permL pm (xs ++ ys) <;> (first | rfl | exact wp_ok .. | exact wp_no .. | exact wp_ex ..)
def kPrim2 (xs : List Dk) (Q : Qd T) (Z : Zd T) (p : Prim T) (t : T) : Prop := Wp (p.f xs t) Q Z
def kPrim (G : Pg T) (k : Nat) (Q : Qd T) (Z : Zd T) (xs : List Dk) (t : T) : Prop := opK G.prims[k]? (kPrim2 xs Q Z) t
theorem wp_prim (k : Nat) (es : Es) : Wp (evalE G (.prim k es) ρ t) Q Z = Wp (evalEs G es ρ t) (kPrim G k Q Z) Z := by
  rw [show evalE G (.prim k es) ρ t = (evalEs G es ρ t).bind fun xs t => match G.prims[k]? with
    | some p => p.f xs t
    | none => .no from rfl, wp_bind]
  refine Wp.cg fun xs t => ?_
  unfold kF kPrim
  try dsimp only
  generalize G.prims[k]? = v
  cases v <;> (first | rfl | exact wp_ok .. | exact wp_no .. | exact wp_ex ..)
def kCau (Q : Qd T) (_ : Dk) (t : T) : Prop := Q (.non, .fz) t
def kCauX (n : Nat) (Q : Qd T) (c : Nat) (v : Option D) (t : T) : Prop := c < n ∧ Q (.exc c v, .fz) t
theorem wp_caughtR (n : Nat) (r : R T Dk) : Wp (caughtR n r) Q Z = Wp r (kCau Q) (kCauX n Q) := by
  cases r with
  | ok a t => exact (wp_ok ..).trans (wp_ok a t (kCau Q) _).symm
  | no => exact (wp_no ..).trans (wp_no ..).symm
  | ex c v t => exact (wp_guard1 ..).trans (wp_ex c v t _ (kCauX n Q)).symm
theorem wp_caught (e : E) : Wp (evalE G (.caught e) ρ t) Q Z = Wp (evalE G e ρ t) (kCau Q) (kCauX G.cls.length Q) := by
  rw [show evalE G (.caught e) ρ t = caughtR G.cls.length (evalE G e ρ t) from rfl, wp_caughtR]
def kCw (n : Nat) (ρ : En) (Q : Qd T) (f : En → T → R T Dk) (t : T) : Prop := Wp (f ρ t) (kCau Q) (kCauX n Q)
def lkK (v : Option SV) (G : Pg T) (ρ : En) (Q : Qd T) (t : T) : Prop := match v with
  | some (.lock k) => opK G.lams[k]? (kCw G.cls.length ρ Q) t
  | _ => False
theorem lkK_at (k : Nat) : lkK (some (.lock k)) G ρ Q t = opK G.lams[k]? (kCw G.cls.length ρ Q) t := rfl
theorem wp_cw (i : Nat) : Wp (evalE G (.cw i) ρ t) Q Z = lkK ρ[i]? G ρ Q t := by
  rw [show evalE G (.cw i) ρ t = match ρ[i]? with
    | some (.lock k) => (match G.lams[k]? with
      | some f => caughtR G.cls.length (f ρ t)
      | none => .no)
    | _ => .no from rfl]
  generalize ρ[i]? = v
  cases v with
  | none => (first | rfl | exact wp_ok .. | exact wp_no .. | exact wp_ex ..)
  | some v =>
    cases v with
    | lock k =>
      show Wp (match G.lams[k]? with
        | some f => caughtR G.cls.length (f ρ t)
        | none => .no) Q Z = opK G.lams[k]? _ t
      generalize G.lams[k]? = g
      cases g with
      | none => (first | rfl | exact wp_ok .. | exact wp_no .. | exact wp_ex ..)
      | some f => exact wp_caughtR ..
    | _ => (first | rfl | exact wp_ok .. | exact wp_no .. | exact wp_ex ..)
def kDct2 (ks : List Key) (Q : Qd T) (ds : List D) (t : T) : Prop := Q (.dct false (mergeD ((ks.map keyD).zip ds)), .fr) t
def kDct (ks : List Key) (Q : Qd T) (xs : List Dk) (t : T) : Prop := opK (allFz xs) (kDct2 ks Q) t
theorem wp_dct (ks : List Key) (es : Es) : Wp (evalE G (.dct ks es) ρ t) Q Z = Wp (evalEs G es ρ t) (kDct ks Q) Z := by
  rw [show evalE G (.dct ks es) ρ t = (evalEs G es ρ t).bind fun xs t => match allFz xs with
    | some ds => .ok (.dct false (mergeD ((ks.map keyD).zip ds)), .fr) t
    | none => .no from rfl, wp_bind]
  refine Wp.cg fun xs t => ?_
  unfold kF kDct
  try dsimp only
  cases allFz xs <;> (first | rfl | exact wp_ok .. | exact wp_no .. | exact wp_ex ..)
/-- .. lists of them -/
theorem wps_nil (Q : List Dk → T → Prop) : Wp (evalEs G .nil ρ t) Q Z = Q [] t := wp_ok ..
def kCons2 (x : Dk) (Q : List Dk → T → Prop) (xs : List Dk) (t : T) : Prop := Q (x :: xs) t
def kCons (G : Pg T) (es : Es) (ρ : En) (Q : List Dk → T → Prop) (Z : Zd T) (x : Dk) (t : T) : Prop := Wp (evalEs G es ρ t) (kCons2 x Q) Z
theorem wps_cons (e : E) (es : Es) (Q : List Dk → T → Prop) : Wp (evalEs G (.cons e es) ρ t) Q Z = Wp (evalE G e ρ t) (kCons G es ρ Q Z) Z := by
  rw [show evalEs G (.cons e es) ρ t = (evalE G e ρ t).bind fun x t => (evalEs G es ρ t).bind fun xs t => .ok (x :: xs) t from rfl, wp_bind]
  refine Wp.cg fun x t => ?_
  unfold kF kCons
  try dsimp only
  rw [wp_bind]
  exact Wp.cg fun xs t => wp_ok ..
def kApp (ds : List D) (Q : List Dk → T → Prop) (xs : List Dk) (t : T) : Prop := Q (ds.map (·, .fz) ++ xs) t
def kStar2 (G : Pg T) (es : Es) (ρ : En) (Q : List Dk → T → Prop) (Z : Zd T) (ds : List D) (t : T) : Prop := Wp (evalEs G es ρ t) (kApp ds Q) Z
def kStar (G : Pg T) (es : Es) (ρ : En) (Q : List Dk → T → Prop) (Z : Zd T) (x : Dk) (t : T) : Prop := opK (seqOf x.1) (kStar2 G es ρ Q Z) t
theorem wps_star (e : E) (es : Es) (Q : List Dk → T → Prop) : Wp (evalEs G (.star e es) ρ t) Q Z = Wp (evalE G e ρ t) (kStar G es ρ Q Z) Z := by
  rw [show evalEs G (.star e es) ρ t = (evalE G e ρ t).bind fun x t => match seqOf x.1 with
    | some ds => (evalEs G es ρ t).bind fun xs t => .ok (ds.map (·, .fz) ++ xs) t
    | none => .no from rfl, wp_bind]
  refine Wp.cg fun x t => ?_
  unfold kF kStar
  try dsimp only
  cases seqOf x.1 with
  | none => (first | rfl | exact wp_ok .. | exact wp_no .. | exact wp_ex ..)
  | some ds => exact (wp_bind ..).trans (Wp.cg fun xs t => wp_ok ..)
theorem wpc_nil (Q : Bool → T → Prop) : Wp (evalC G .nil ρ t) Q Z = Q true t := wp_ok ..
def kCc (G : Pg T) (es : Es) (ρ : En) (Q : Bool → T → Prop) (Z : Zd T) (x : Dk) (t : T) : Prop := ifG x.1 (.gc G es ρ Q Z) (.gcq Q false) t
theorem wpc_cons (e : E) (es : Es) (Q : Bool → T → Prop) : Wp (evalC G (.cons e es) ρ t) Q Z = Wp (evalE G e ρ t) (kCc G es ρ Q Z) Z := by
  rw [show evalC G (.cons e es) ρ t = (evalE G e ρ t).bind fun x t => match x.1 with
    | .bl true => evalC G es ρ t
    | .bl false => .ok false t
    | _ => .no from rfl, wp_bind]
  refine Wp.cg fun x t => ?_
  obtain ⟨d, k⟩ := x
  cases d <;> first | rfl | exact wp_ok .. | exact wp_no .. | (rename_i b; cases b <;> (first | rfl | exact wp_ok .. | exact wp_no .. | exact wp_ex ..))
/-! ### what is walked -/
section
variable (Q : List D × Kd → T → Prop)
def kSeq2 (k : Kd) (Q : List D × Kd → T → Prop) (xs : List D) (t : T) : Prop := Q (xs, frz1 k) t
def kSeq (Q : List D × Kd → T → Prop) (x : Dk) (t : T) : Prop := opK (itOf x.1) (kSeq2 x.2 Q) t
theorem wpi_seq (e : E) : Wp (evalIt G (.seq e) ρ t) Q Z = Wp (evalE G e ρ t) (kSeq Q) Z := by
  rw [show evalIt G (.seq e) ρ t = (evalE G e ρ t).bind fun x t => ofO ((itOf x.1).map fun xs => (xs, frz1 x.2)) t from rfl, wp_bind]
  refine Wp.cg fun x t => ?_
  unfold kF kSeq
  try dsimp only
  cases itOf x.1 <;> (first | rfl | exact wp_ok .. | exact wp_no .. | exact wp_ex ..)
def intOf : D → Option Int
  | .int i => some i
  | _ => none
def kRng2 (Q : List D × Kd → T → Prop) (i : Int) (t : T) : Prop := inRng i = true ∧ Q (rngI 0 i, .fz) t
def kRng (Q : List D × Kd → T → Prop) (x : Dk) (t : T) : Prop := opK (intOf x.1) (kRng2 Q) t
theorem wpi_rng1 (a : E) : Wp (evalIt G (.rng1 a) ρ t) Q Z = Wp (evalE G a ρ t) (kRng Q) Z := by
  rw [show evalIt G (.rng1 a) ρ t = (evalE G a ρ t).bind fun x t => match x.1 with
    | .int i => if inRng i then .ok (rngI 0 i, .fz) t else .no
    | _ => .no from rfl, wp_bind]
  refine Wp.cg fun x t => ?_
  obtain ⟨d, k⟩ := x
  cases d <;> try (first | rfl | exact wp_ok .. | exact wp_no .. | exact wp_ex ..)
  first | exact wp_guard .. | exact wp_guard1 .. | exact wp_guardx ..
def kRgb4 (i : Int) (Q : List D × Kd → T → Prop) (j : Int) (t : T) : Prop := inRng i = true ∧ inRng j = true ∧ Q (rngI i j, .fz) t
def kRgb3 (y : Dk) (Q : List D × Kd → T → Prop) (i : Int) (t : T) : Prop := opK (intOf y.1) (kRgb4 i Q) t
def kRgb2 (x : Dk) (Q : List D × Kd → T → Prop) (y : Dk) (t : T) : Prop := opK (intOf x.1) (kRgb3 y Q) t
def kRgb (G : Pg T) (b : E) (ρ : En) (Q : List D × Kd → T → Prop) (Z : Zd T) (x : Dk) (t : T) : Prop := Wp (evalE G b ρ t) (kRgb2 x Q) Z
theorem wpi_rng2 (a b : E) : Wp (evalIt G (.rng2 a b) ρ t) Q Z = Wp (evalE G a ρ t) (kRgb G b ρ Q Z) Z := by
  rw [show evalIt G (.rng2 a b) ρ t = (evalE G a ρ t).bind fun x t => (evalE G b ρ t).bind fun y t => match x.1, y.1 with
    | .int i, .int j => if inRng i && inRng j then .ok (rngI i j, .fz) t else .no
    | _, _ => .no from rfl, wp_bind]
  refine Wp.cg fun x t => ?_
  unfold kF kRgb
  try dsimp only
  rw [wp_bind]
  refine Wp.cg fun y t => ?_
  unfold kF kRgb2
  try dsimp only
  obtain ⟨d, k⟩ := x
  obtain ⟨d', k'⟩ := y
  cases d <;> try (cases d' <;> (first | rfl | exact wp_ok .. | exact wp_no .. | exact wp_ex ..))
  cases d' <;> try (first | rfl | exact wp_ok .. | exact wp_no .. | exact wp_ex ..)
  rename_i i j
  show Wp (if (inRng i && inRng j) = true then .ok (rngI i j, .fz) t else .no) Q Z = (inRng i = true ∧ inRng j = true ∧ Q (rngI i j, .fz) t)
  rw [wp_guard1, Bool.and_eq_true, and_assoc]
def lstOf : D → Option (List D)
  | .lst xs => some xs
  | _ => none
def kEnum2 (k : Kd) (Q : List D × Kd → T → Prop) (xs : List D) (t : T) : Prop := Q (enumD xs, frz1 k) t
def kEnum (Q : List D × Kd → T → Prop) (x : Dk) (t : T) : Prop := opK (lstOf x.1) (kEnum2 x.2 Q) t
theorem wpi_enum (e : E) : Wp (evalIt G (.enum e) ρ t) Q Z = Wp (evalE G e ρ t) (kEnum Q) Z := by
  rw [show evalIt G (.enum e) ρ t = (evalE G e ρ t).bind fun x t => match x.1 with
    | .lst xs => .ok (enumD xs, frz1 x.2) t
    | _ => .no from rfl, wp_bind]
  refine Wp.cg fun x t => ?_
  obtain ⟨d, k⟩ := x
  cases d <;> (first | rfl | exact wp_ok .. | exact wp_no .. | exact wp_ex ..)
def zipOf (x y : Dk) : Option (List D × Kd) := match x.1, y.1 with
  | .lst xs, .lst ys => some (zipD xs ys, brOr x.2 y.2)
  | .tup xs, .tup ys => some (zipD xs ys, .fz)
  | _, _ => none
def kZip2 (x : Dk) (Q : List D × Kd → T → Prop) (y : Dk) (t : T) : Prop := opK (zipOf x y) Q t
def kZip (G : Pg T) (b : E) (ρ : En) (Q : List D × Kd → T → Prop) (Z : Zd T) (x : Dk) (t : T) : Prop := Wp (evalE G b ρ t) (kZip2 x Q) Z
theorem wpi_zip (a b : E) : Wp (evalIt G (.zip a b) ρ t) Q Z = Wp (evalE G a ρ t) (kZip G b ρ Q Z) Z := by
  rw [show evalIt G (.zip a b) ρ t = (evalE G a ρ t).bind fun x t => (evalE G b ρ t).bind fun y t => match x.1, y.1 with
    | .lst xs, .lst ys => .ok (zipD xs ys, brOr x.2 y.2) t
    | .tup xs, .tup ys => .ok (zipD xs ys, .fz) t
    | _, _ => .no from rfl, wp_bind]
  refine Wp.cg fun x t => ?_
  unfold kF kZip
  try dsimp only
  rw [wp_bind]
  refine Wp.cg fun y t => ?_
  obtain ⟨d, k⟩ := x
  obtain ⟨d', k'⟩ := y
  cases d <;> cases d' <;> (first | rfl | exact wp_ok .. | exact wp_no .. | exact wp_ex ..)
def kIpr2 (xs : List Dk) (Q : List D × Kd → T → Prop) (Z : Zd T) (p : PrimI T) (t : T) : Prop := Wp (p.f xs t) Q Z
def kIpr (G : Pg T) (k : Nat) (Q : List D × Kd → T → Prop) (Z : Zd T) (xs : List Dk) (t : T) : Prop := opK G.iprims[k]? (kIpr2 xs Q Z) t
theorem wpi_prim (k : Nat) (es : Es) : Wp (evalIt G (.prim k es) ρ t) Q Z = Wp (evalEs G es ρ t) (kIpr G k Q Z) Z := by
  rw [show evalIt G (.prim k es) ρ t = (evalEs G es ρ t).bind fun xs t => match G.iprims[k]? with
    | some p => p.f xs t
    | none => .no from rfl, wp_bind]
  refine Wp.cg fun xs t => ?_
  unfold kF kIpr
  try dsimp only
  generalize G.iprims[k]? = v
  cases v <;> (first | rfl | exact wp_ok .. | exact wp_no .. | exact wp_ex ..)
end
/-! ### comprehensions -/
def lcF (G : Pg T) (elt : E) (tg : Tg) (conds : Es) (own : List (Str × Nat)) (ρ : En) : D → T → R T (Option D) := fun d t => match bindT (wipeE ρ (own.map (·.2))) tg d with
  | none => .no
  | some ρ1 => (evalC G conds ρ1 t).bind fun b t => if b then (evalE G elt ρ1 t).bind fun e t => ofO ((fzOf e).map some) t else .ok none t
def kLf2 (G : Pg T) (elt : E) (ρ1 : En) (Q : Option D → T → Prop) (Z : Zd T) (b : Bool) (t : T) : Prop := ifG (.bl b) (.glf G elt ρ1 Q Z) (.glq Q) t
def kLf (G : Pg T) (elt : E) (conds : Es) (Q : Option D → T → Prop) (Z : Zd T) (ρ1 : En) (t : T) : Prop := Wp (evalC G conds ρ1 t) (kLf2 G elt ρ1 Q Z) Z
theorem wp_lcF (elt : E) (tg : Tg) (conds : Es) (own : List (Str × Nat)) (d : D) (Q : Option D → T → Prop) : Wp (lcF G elt tg conds own ρ d t) Q Z = opK (bindT (wipeE ρ (own.map (·.2))) tg d) (kLf G elt conds Q Z) t := by
  unfold lcF
  cases bindT (wipeE ρ (own.map (·.2))) tg d with
  | none => (first | rfl | exact wp_ok .. | exact wp_no .. | exact wp_ex ..)
  | some ρ1 =>
    show Wp ((evalC G conds ρ1 t).bind _) Q Z = Wp (evalC G conds ρ1 t) _ Z
    rw [wp_bind]
    refine Wp.cg fun b t => ?_
    cases b with
    | false => (first | rfl | exact wp_ok .. | exact wp_no .. | exact wp_ex ..)
    | true =>
      show Wp ((evalE G elt ρ1 t).bind fun e t => ofO ((fzOf e).map some) t) Q Z = Wp (evalE G elt ρ1 t) _ Z
      rw [wp_bind]
      refine Wp.cg fun e t => ?_
      unfold kF kSome
      try dsimp only
      cases fzOf e <;> (first | rfl | exact wp_ok .. | exact wp_no .. | exact wp_ex ..)
def kLc2 (Q : Qd T) (r : List D) (t : T) : Prop := r.length ≤ lim ∧ Q (.lst r, .fr) t
def kLc (G : Pg T) (elt : E) (tg : Tg) (conds : Es) (own : List (Str × Nat)) (ρ : En) (Q : Qd T) (xs : List D × Kd) (t : T) : Prop := okW ρ (own.map (·.2)) = true ∧ Wp (lcL (lcF G elt tg conds own ρ) xs.1 t) (kLc2 Q) noX
theorem wp_lc (elt : E) (tg : Tg) (it : It) (conds : Es) (own : List (Str × Nat)) : Wp (evalE G (.lc elt tg it conds own) ρ t) Q Z = Wp (evalIt G it ρ t) (kLc G elt tg conds own ρ Q) Z := by
  rw [show evalE G (.lc elt tg it conds own) ρ t = (evalIt G it ρ t).bind fun xs t =>
    if okW ρ (own.map (·.2)) then (lcL (lcF G elt tg conds own ρ) xs.1 t).calm.bind (fun r t => if r.length ≤ lim then .ok (.lst r, .fr) t else .no) else .no from rfl, wp_bind]
  refine Wp.cg fun xs t => ?_
  unfold kF kLc
  try dsimp only
  rw [wp_guard]
  congr 1
  rw [wp_bind, wp_calm]
  cases lcL (lcF G elt tg conds own ρ) xs.1 t with
  | ok a t => exact (wp_ok ..).trans ((wp_guard1 ..).trans (wp_ok a t (kLc2 Q) _).symm)
  | ex c v t => exact (wp_ex ..).trans (wp_ex c v t _ noX).symm
  | no => exact (wp_no ..).trans (wp_no ..).symm
end
/-- a comprehension without a test whose parts are told -/
theorem lcL_map {f : D → T → R T (Option D)} {g : D → D} {t : T} : ∀ {xs : List D}, (∀ x ∈ xs, f x t = .ok (some (g x)) t) → lcL f xs t = .ok (xs.map g) t
  | [], _ => rfl
  | x :: xs, h => by
    show (f x t).bind (fun o t => (lcL f xs t).bind fun r t => .ok (match o with | some d => d :: r | none => r) t) = _
    rw [h x List.mem_cons_self]
    show (lcL f xs t).bind _ = _
    rw [lcL_map fun y hy => h y (List.mem_cons_of_mem _ hy)]
    first | rfl | exact wp_ok .. | exact wp_no .. | exact wp_ex ..
theorem lcL_filterMap {f : D → T → R T (Option D)} {g : D → Option D} {t : T} : ∀ {xs : List D}, (∀ x ∈ xs, f x t = .ok (g x) t) → lcL f xs t = .ok (xs.filterMap g) t
  | [], _ => rfl
  | x :: xs, h => by
    show (f x t).bind (fun o t => (lcL f xs t).bind fun r t => .ok (match o with | some d => d :: r | none => r) t) = _
    rw [h x List.mem_cons_self]
    show (lcL f xs t).bind _ = _
    rw [lcL_filterMap fun y hy => h y (List.mem_cons_of_mem _ hy)]
    show R.ok _ _ = R.ok _ _
    rw [List.filterMap_cons]
    cases g x <;> (first | rfl | exact wp_ok .. | exact wp_no .. | exact wp_ex ..)
/-- .. with an invariant of each part and of the tape -/
theorem wp_lcL {f : D → T → R T (Option D)} {P : D → Prop} {Tp : T → Prop} : ∀ {xs : List D} {t : T}, Tp t → (∀ x ∈ xs, ∀ t, Tp t → Wp (f x t) (fun o t => (∃ d, o = some d ∧ P d) ∧ Tp t) noX) → Wp (lcL f xs t) (fun r t => r.length = xs.length ∧ (∀ d ∈ r, P d) ∧ Tp t) noX
  | [], t, ht, _ => ⟨rfl, fun d z => absurd z List.not_mem_nil, ht⟩
  | x :: xs, t, ht, h => by
    show Wp ((f x t).bind (fun o t => (lcL f xs t).bind fun r t => .ok (match o with | some d => d :: r | none => r) t)) _ _
    rw [wp_bind]
    refine (h x List.mem_cons_self t ht).sub ?_
    rintro o t1 ⟨⟨d, rfl, hd⟩, ht1⟩
    unfold kF
    try dsimp only
    rw [wp_bind]
    refine (wp_lcL ht1 fun y hy => h y (List.mem_cons_of_mem _ hy)).sub ?_
    rintro r t2 ⟨hl, hr, ht2⟩
    refine ⟨by simp [hl], fun e he => ?_, ht2⟩
    cases he with
    | head => exact hd
    | tail _ he => exact hr e he
end
end DE
set_option maxHeartbeats 1000000
/-! W2: statements, loops, defs. -/
namespace DE
open PySem PySem.Spec PyProof.Rows L2
section
variable {T : Type} {G : Pg T} {fu : Nat}
abbrev Od (T : Type) := O → T → Prop
section
variable (ρ : En) (t : T) (Q : Od T) (Z : Zd T)
/-- what comes behind a statement -/
def kSs (G : Pg T) (fu : Nat) (r : Ss) (Q : Od T) (Z : Zd T) (o : O) (t : T) : Prop := match o with
  | .nx ρ => Wp (execSs G fu r ρ t) Q Z
  | o => Q o t
theorem ss_nx (r : Ss) : kSs G fu r Q Z (.nx ρ) t = Wp (execSs G fu r ρ t) Q Z := rfl
theorem ss_rt (r : Ss) (d : Dk) : kSs G fu r Q Z (.rt d) t = Q (.rt d) t := rfl
theorem ss_bk (r : Ss) : kSs G fu r Q Z (.bk ρ) t = Q (.bk ρ) t := rfl
theorem ss_ct (r : Ss) : kSs G fu r Q Z (.ct ρ) t = Q (.ct ρ) t := rfl
theorem wss_nil : Wp (execSs G fu .nil ρ t) Q Z = Q (.nx ρ) t := wp_ok ..
theorem wss_cons (s : S) (r : Ss) : Wp (execSs G fu (.cons s r) ρ t) Q Z = Wp (execS G fu s ρ t) (kSs G fu r Q Z) Z := by
  rw [show execSs G fu (.cons s r) ρ t = (execS G fu s ρ t).bind fun o t => match o with
    | .nx ρ => execSs G fu r ρ t
    | .rt d => .ok (.rt d) t
    | .bk ρ => .ok (.bk ρ) t
    | .ct ρ => .ok (.ct ρ) t from rfl, wp_bind]
  refine Wp.cg fun o t => ?_
  cases o <;> (first | rfl | exact wp_ok .. | exact wp_no .. | exact wp_ex ..)
def kN (Q : Od T) (ρ : En) (t : T) : Prop := Q (.nx ρ) t
theorem wp_nx (v : Option En) : Wp (ofO (v.map O.nx) t) Q Z = opK v (kN Q) t := by cases v <;> (first | rfl | exact wp_ok .. | exact wp_no .. | exact wp_ex ..)
def kAsg (ρ : En) (tg : Tg) (own : Bool) (Q : Od T) (Z : Zd T) (x : Dk) (t : T) : Prop := Wp (asgO ρ tg own x t) Q Z
theorem ws_asg (tg : Tg) (own : Bool) (e : E) : Wp (execS G fu (.asg tg own e) ρ t) Q Z = Wp (evalE G e ρ t) (kAsg ρ tg own Q Z) Z := wp_bind ..
theorem asg_fz (tg : Tg) (own : Bool) (d : D) : kAsg ρ tg own Q Z (d, .fz) t = opK (bindT ρ tg d) (kN Q) t := wp_nx ..
theorem asg_frT (i : Nat) (d : D) : kAsg ρ (.nm i) true Q Z (d, .fr) t = opK (setE ρ i (.ow d)) (kN Q) t := wp_nx ..
theorem asg_frF (tg : Tg) (d : D) : kAsg ρ tg false Q Z (d, .fr) t = opK (bindT ρ tg d) (kN Q) t := wp_nx ..
def kPar (ρ : En) (is : List (Nat × Bool)) (Q : Od T) (xs : List Dk) (t : T) : Prop := opK (parL ρ is xs) (kN Q) t
theorem ws_par (is : List (Nat × Bool)) (es : Es) : Wp (execS G fu (.par is es) ρ t) Q Z = Wp (evalEs G es ρ t) (kPar ρ is Q) Z := by
  rw [show execS G fu (.par is es) ρ t = (evalEs G es ρ t).bind fun xs t => ofO ((parL ρ is xs).map .nx) t from rfl, wp_bind]
  exact Wp.cg fun xs t => wp_nx ..
theorem parL_nil : parL ρ [] [] = some ρ := rfl
theorem parL_fz (i : Nat) (b : Bool) (is : List (Nat × Bool)) (d : D) (xs : List Dk) : parL ρ ((i, b) :: is) ((d, .fz) :: xs) = (setE ρ i (.fz d)).bind fun ρ => parL ρ is xs := rfl
theorem parL_frT (i : Nat) (is : List (Nat × Bool)) (d : D) (xs : List Dk) : parL ρ ((i, true) :: is) ((d, .fr) :: xs) = (setE ρ i (.ow d)).bind fun ρ => parL ρ is xs := rfl
theorem parL_frF (i : Nat) (is : List (Nat × Bool)) (d : D) (xs : List Dk) : parL ρ ((i, false) :: is) ((d, .fr) :: xs) = (setE ρ i (.fz d)).bind fun ρ => parL ρ is xs := rfl
def kEx (ρ : En) (Q : Od T) (_ : Dk) (t : T) : Prop := Q (.nx ρ) t
theorem ws_ex (e : E) : Wp (execS G fu (.ex e) ρ t) Q Z = Wp (evalE G e ρ t) (kEx ρ Q) Z := (wp_bind ..).trans (Wp.cg fun x t => wp_ok ..)
def kRet (Q : Od T) (x : Dk) (t : T) : Prop := Q (.rt (x.1, if x.2 = .br then .fr else x.2)) t
theorem ws_ret (e : E) : Wp (execS G fu (.ret e) ρ t) Q Z = Wp (evalE G e ρ t) (kRet Q) Z := (wp_bind ..).trans (Wp.cg fun x t => wp_ok ..)
theorem ret_fz (d : D) : kRet Q (d, .fz) t = Q (.rt (d, .fz)) t := rfl
theorem ret_fr (d : D) : kRet Q (d, .fr) t = Q (.rt (d, .fr)) t := rfl
theorem ret_br (d : D) : kRet Q (d, .br) t = Q (.rt (d, .fr)) t := rfl
theorem ws_retN : Wp (execS G fu .retN ρ t) Q Z = Q (.rt (.non, .fz)) t := wp_ok ..
def kIf (G : Pg T) (fu : Nat) (a b : Ss) (ρ : En) (Q : Od T) (Z : Zd T) (x : Dk) (t : T) : Prop := ifG x.1 (.gs G fu a ρ Q Z) (.gs G fu b ρ Q Z) t
theorem ws_ite (c : E) (a b : Ss) : Wp (execS G fu (.ite c a b) ρ t) Q Z = Wp (evalE G c ρ t) (kIf G fu a b ρ Q Z) Z := by
  rw [show execS G fu (.ite c a b) ρ t = (evalE G c ρ t).bind fun x t => match x.1 with
    | .bl true => execSs G fu a ρ t
    | .bl false => execSs G fu b ρ t
    | _ => .no from rfl, wp_bind]
  refine Wp.cg fun x t => ?_
  obtain ⟨d, k⟩ := x
  cases d <;> first | rfl | exact wp_ok .. | exact wp_no .. | (rename_i b; cases b <;> (first | rfl | exact wp_ok .. | exact wp_no .. | exact wp_ex ..))
theorem ws_brk : Wp (execS G fu .brk ρ t) Q Z = Q (.bk ρ) t := wp_ok ..
theorem ws_cnt : Wp (execS G fu .cnt ρ t) Q Z = Q (.ct ρ) t := wp_ok ..
theorem ws_pass : Wp (execS G fu .pass ρ t) Q Z = Q (.nx ρ) t := wp_ok ..
def kZ (c : Nat) (Z : Zd T) (d : D) (t : T) : Prop := Z c (some d) t
def kRai (c : Nat) (Z : Zd T) (x : Dk) (t : T) : Prop := opK (fzOf x) (kZ c Z) t
theorem ws_rai (c : Nat) (e : E) : Wp (execS G fu (.rai c e) ρ t) Q Z = Wp (evalE G e ρ t) (kRai c Z) Z := by
  rw [show execS G fu (.rai c e) ρ t = (evalE G e ρ t).bind fun x t => match fzOf x with
    | some d => .ex c (some d) t
    | none => .no from rfl, wp_bind]
  refine Wp.cg fun x t => ?_
  unfold kF kRai
  try dsimp only
  cases fzOf x <;> (first | rfl | exact wp_ok .. | exact wp_no .. | exact wp_ex ..)
theorem ws_rai0 (c : Nat) : Wp (execS G fu (.rai0 c) ρ t) Q Z = Z c none t := wp_ex ..
def frK (v : Option SV) (i : Nat) (ρ : En) (Q : Od T) (t : T) : Prop := match v with
  | some (.ow d) => Q (.nx (ρ.set i (.fz d))) t
  | some (.fz _) => Q (.nx ρ) t
  | _ => False
theorem frK_ow (d : D) (i : Nat) : frK (some (.ow d)) i ρ Q t = Q (.nx (ρ.set i (.fz d))) t := rfl
theorem frK_fz (d : D) (i : Nat) : frK (some (.fz d)) i ρ Q t = Q (.nx ρ) t := rfl
theorem ws_frz (i : Nat) : Wp (execS G fu (.frz i) ρ t) Q Z = frK ρ[i]? i ρ Q t := by
  rw [show execS G fu (.frz i) ρ t = match ρ[i]? with
    | some (.ow d) => .ok (.nx (ρ.set i (.fz d))) t
    | some (.fz _) => .ok (.nx ρ) t
    | _ => .no from rfl]
  generalize ρ[i]? = v
  cases v with
  | none => (first | rfl | exact wp_ok .. | exact wp_no .. | exact wp_ex ..)
  | some v => cases v <;> (first | rfl | exact wp_ok .. | exact wp_no .. | exact wp_ex ..)
def kApp3 (i : Nat) (xs : List D) (ρ : En) (Q : Od T) (d : D) (t : T) : Prop := xs.length < lim ∧ Q (.nx (ρ.set i (.ow (.lst (xs ++ [d]))))) t
def kApp2 (i : Nat) (xs : List D) (ρ : En) (Q : Od T) (x : Dk) (t : T) : Prop := opK (fzOf x) (kApp3 i xs ρ Q) t
/-- a list held by a slot -/
def apK (v : Option SV) (G : Pg T) (i : Nat) (e : E) (ρ : En) (Q : Od T) (Z : Zd T) (t : T) : Prop := match v with
  | some (.ow (.lst xs)) => Wp (evalE G e ρ t) (kApp2 i xs ρ Q) Z
  | _ => False
theorem apK_at (xs : List D) (i : Nat) (e : E) : apK (some (.ow (.lst xs))) G i e ρ Q Z t = Wp (evalE G e ρ t) (kApp2 i xs ρ Q) Z := rfl
theorem ws_app (i : Nat) (e : E) : Wp (execS G fu (.app i e) ρ t) Q Z = apK ρ[i]? G i e ρ Q Z t := by
  rw [show execS G fu (.app i e) ρ t = match ownAt ρ i with
    | some (.lst xs) => (evalE G e ρ t).bind fun x t => match fzOf x with
      | some d => if xs.length < lim then .ok (.nx (ρ.set i (.ow (.lst (xs ++ [d]))))) t else .no
      | none => .no
    | _ => .no from rfl]
  unfold ownAt
  generalize ρ[i]? = v
  cases v with
  | none => (first | rfl | exact wp_ok .. | exact wp_no .. | exact wp_ex ..)
  | some v =>
    cases v with
    | ow d =>
      cases d with
      | lst xs =>
        show Wp ((evalE G e ρ t).bind fun x t => match fzOf x with
          | some d => if xs.length < lim then .ok (.nx (ρ.set i (.ow (.lst (xs ++ [d]))))) t else .no
          | none => .no) Q Z = _
        rw [wp_bind]
        refine Wp.cg fun x t => ?_
        unfold kF kApp2
        try dsimp only
        cases fzOf x with
        | none => (first | rfl | exact wp_ok .. | exact wp_no .. | exact wp_ex ..)
        | some d => first | exact wp_guard .. | exact wp_guard1 .. | exact wp_guardx ..
      | _ => (first | rfl | exact wp_ok .. | exact wp_no .. | exact wp_ex ..)
    | _ => (first | rfl | exact wp_ok .. | exact wp_no .. | exact wp_ex ..)
def kSet4 (i : Nat) (ρ : En) (Q : Od T) (c : D) (t : T) : Prop := Q (.nx (ρ.set i (.ow c))) t
def kSet3 (i : Nat) (c : D) (k : Dk) (ρ : En) (Q : Od T) (d : D) (t : T) : Prop := opK (putD c k.1 d) (kSet4 i ρ Q) t
def kSet2 (i : Nat) (c : D) (x : Dk) (ρ : En) (Q : Od T) (k : Dk) (t : T) : Prop := opK (fzOf x) (kSet3 i c k ρ Q) t
def kSet (G : Pg T) (i : Nat) (ix : E) (c : D) (ρ : En) (Q : Od T) (Z : Zd T) (x : Dk) (t : T) : Prop := Wp (evalE G ix ρ t) (kSet2 i c x ρ Q) Z
def stK (v : Option SV) (G : Pg T) (i : Nat) (ix e : E) (ρ : En) (Q : Od T) (Z : Zd T) (t : T) : Prop := match v with
  | some (.ow c) => Wp (evalE G e ρ t) (kSet G i ix c ρ Q Z) Z
  | _ => False
theorem stK_at (c : D) (i : Nat) (ix e : E) : stK (some (.ow c)) G i ix e ρ Q Z t = Wp (evalE G e ρ t) (kSet G i ix c ρ Q Z) Z := rfl
theorem ws_set (i : Nat) (ix e : E) : Wp (execS G fu (.set i ix e) ρ t) Q Z = stK ρ[i]? G i ix e ρ Q Z t := by
  rw [show execS G fu (.set i ix e) ρ t = match ownAt ρ i with
    | some c => (evalE G e ρ t).bind fun x t => (evalE G ix ρ t).bind fun k t => match fzOf x with
      | some d => ofO ((putD c k.1 d).map fun c => .nx (ρ.set i (.ow c))) t
      | none => .no
    | none => .no from rfl]
  unfold ownAt
  generalize ρ[i]? = v
  cases v with
  | none => (first | rfl | exact wp_ok .. | exact wp_no .. | exact wp_ex ..)
  | some v =>
    cases v with
    | ow c =>
      show Wp ((evalE G e ρ t).bind fun x t => (evalE G ix ρ t).bind fun k t => match fzOf x with
        | some d => ofO ((putD c k.1 d).map fun c => .nx (ρ.set i (.ow c))) t
        | none => .no) Q Z = Wp (evalE G e ρ t) _ Z
      rw [wp_bind]
      refine Wp.cg fun x t => ?_
      unfold kF kSet
      try dsimp only
      rw [wp_bind]
      refine Wp.cg fun k t => ?_
      unfold kF kSet2
      try dsimp only
      cases fzOf x with
      | none => (first | rfl | exact wp_ok .. | exact wp_no .. | exact wp_ex ..)
      | some d =>
        show Wp (ofO ((putD c k.1 d).map fun c => .nx (ρ.set i (.ow c))) t) Q Z = opK (putD c k.1 d) _ t
        cases putD c k.1 d <;> (first | rfl | exact wp_ok .. | exact wp_no .. | exact wp_ex ..)
    | _ => (first | rfl | exact wp_ok .. | exact wp_no .. | exact wp_ex ..)
def kPop2 (tg : Tg) (i : Nat) (ρ : En) (Q : Od T) (p : D × List D) (t : T) : Prop := opK (bindT (ρ.set i (.ow (.lst p.2))) tg p.1) (kN Q) t
def kPop (tg : Tg) (i : Nat) (ix : E) (xs : List D) (ρ : En) (Q : Od T) (k : Dk) (t : T) : Prop := opK ((optI (isNoe ix) k.1).bind (popD xs)) (kPop2 tg i ρ Q) t
def ppK (v : Option SV) (G : Pg T) (tg : Tg) (i : Nat) (ix : E) (ρ : En) (Q : Od T) (Z : Zd T) (t : T) : Prop := match v with
  | some (.ow (.lst xs)) => Wp (evalE G ix ρ t) (kPop tg i ix xs ρ Q) Z
  | _ => False
theorem ppK_at (xs : List D) (tg : Tg) (i : Nat) (ix : E) : ppK (some (.ow (.lst xs))) G tg i ix ρ Q Z t = Wp (evalE G ix ρ t) (kPop tg i ix xs ρ Q) Z := rfl
theorem ws_pop (tg : Tg) (i : Nat) (ix : E) : Wp (execS G fu (.pop tg i ix) ρ t) Q Z = ppK ρ[i]? G tg i ix ρ Q Z t := by
  rw [show execS G fu (.pop tg i ix) ρ t = match ownAt ρ i with
    | some (.lst xs) => (evalE G ix ρ t).bind fun k t => match (optI (isNoe ix) k.1).bind (popD xs) with
      | some (y, c') => ofO ((bindT (ρ.set i (.ow (.lst c'))) tg y).map .nx) t
      | none => .no
    | _ => .no from rfl]
  unfold ownAt
  generalize ρ[i]? = v
  cases v with
  | none => (first | rfl | exact wp_ok .. | exact wp_no .. | exact wp_ex ..)
  | some v =>
    cases v with
    | ow d =>
      cases d with
      | lst xs =>
        show Wp ((evalE G ix ρ t).bind fun k t => match (optI (isNoe ix) k.1).bind (popD xs) with
          | some (y, c') => ofO ((bindT (ρ.set i (.ow (.lst c'))) tg y).map .nx) t
          | none => .no) Q Z = Wp (evalE G ix ρ t) _ Z
        rw [wp_bind]
        refine Wp.cg fun x t => ?_
        unfold kF kPop
        try dsimp only
        cases (optI (isNoe ix) x.1).bind (popD xs) with
        | none => (first | rfl | exact wp_ok .. | exact wp_no .. | exact wp_ex ..)
        | some p => exact wp_nx ..
      | _ => (first | rfl | exact wp_ok .. | exact wp_no .. | exact wp_ex ..)
    | _ => (first | rfl | exact wp_ok .. | exact wp_no .. | exact wp_ex ..)
def kAp2 (i j : Nat) (xs : List D) (ρ : En) (Q : Od T) (p : D × List D) (t : T) : Prop := i ≠ j ∧ xs.length < lim ∧ Q (.nx ((ρ.set j (.ow (.lst p.2))).set i (.ow (.lst (xs ++ [p.1]))))) t
def kAp (i j : Nat) (ix : E) (xs ys : List D) (ρ : En) (Q : Od T) (k : Dk) (t : T) : Prop := opK ((optI (isNoe ix) k.1).bind (popD ys)) (kAp2 i j xs ρ Q) t
def aaK (v w : Option SV) (G : Pg T) (i j : Nat) (ix : E) (ρ : En) (Q : Od T) (Z : Zd T) (t : T) : Prop := match v, w with
  | some (.ow (.lst xs)), some (.ow (.lst ys)) => Wp (evalE G ix ρ t) (kAp i j ix xs ys ρ Q) Z
  | _, _ => False
theorem aaK_at (xs ys : List D) (i j : Nat) (ix : E) : aaK (some (.ow (.lst xs))) (some (.ow (.lst ys))) G i j ix ρ Q Z t = Wp (evalE G ix ρ t) (kAp i j ix xs ys ρ Q) Z := rfl
theorem ws_appPop (i j : Nat) (ix : E) : Wp (execS G fu (.appPop i j ix) ρ t) Q Z = aaK ρ[i]? ρ[j]? G i j ix ρ Q Z t := by
  rw [show execS G fu (.appPop i j ix) ρ t = match ownAt ρ i, ownAt ρ j with
    | some (.lst xs), some (.lst ys) => (evalE G ix ρ t).bind fun k t => match (optI (isNoe ix) k.1).bind (popD ys) with
      | some (y, c') => if decide (i ≠ j) && decide (xs.length < lim) then .ok (.nx ((ρ.set j (.ow (.lst c'))).set i (.ow (.lst (xs ++ [y]))))) t else .no
      | none => .no
    | _, _ => .no from rfl]
  unfold ownAt
  generalize ρ[i]? = v
  generalize ρ[j]? = w
  cases v with
  | none => (first | rfl | exact wp_ok .. | exact wp_no .. | exact wp_ex ..)
  | some v =>
    cases v with
    | ow d =>
      cases d with
      | lst xs =>
        cases w with
        | none => (first | rfl | exact wp_ok .. | exact wp_no .. | exact wp_ex ..)
        | some w =>
          cases w with
          | ow e =>
            cases e with
            | lst ys =>
              show Wp ((evalE G ix ρ t).bind fun k t => match (optI (isNoe ix) k.1).bind (popD ys) with
                | some (y, c') => if decide (i ≠ j) && decide (xs.length < lim) then .ok (.nx ((ρ.set j (.ow (.lst c'))).set i (.ow (.lst (xs ++ [y]))))) t else .no
                | none => .no) Q Z = Wp (evalE G ix ρ t) _ Z
              rw [wp_bind]
              refine Wp.cg fun x t => ?_
              unfold kF kAp
              try dsimp only
              cases (optI (isNoe ix) x.1).bind (popD ys) with
              | none => (first | rfl | exact wp_ok .. | exact wp_no .. | exact wp_ex ..)
              | some p =>
                show Wp (if (decide (i ≠ j) && decide (xs.length < lim)) = true then _ else R.no) Q Z = (i ≠ j ∧ xs.length < lim ∧ _)
                rw [wp_guard1, Bool.and_eq_true, decide_eq_true_eq, decide_eq_true_eq, and_assoc]
            | _ => (first | rfl | exact wp_ok .. | exact wp_no .. | exact wp_ex ..)
          | _ => (first | rfl | exact wp_ok .. | exact wp_no .. | exact wp_ex ..)
      | _ => (first | rfl | exact wp_ok .. | exact wp_no .. | exact wp_ex ..)
    | _ => (first | rfl | exact wp_ok .. | exact wp_no .. | exact wp_ex ..)
/-- loops -/
def bdT (tg : Tg) (d : D) (ρ : En) : Option En := bindT ρ tg d
def bdS (G : Pg T) (fu : Nat) (b : Ss) (ρ : En) (t : T) : R T O := execSs G fu b ρ t
def bdE (G : Pg T) (c : E) (ρ : En) (t : T) : R T Dk := evalE G c ρ t
def kFr (G : Pg T) (fu : Nat) (tg : Tg) (b : Ss) (ρ : En) (Q : Od T) (Z : Zd T) (xs : List D × Kd) (t : T) : Prop := xs.2 ≠ .br ∧ Wp (forL (bdT tg) (bdS G fu b) xs.1 ρ t) Q Z
theorem ws_fr (tg : Tg) (it : It) (b : Ss) : Wp (execS G fu (.fr tg it b) ρ t) Q Z = Wp (evalIt G it ρ t) (kFr G fu tg b ρ Q Z) Z := by
  rw [show execS G fu (.fr tg it b) ρ t = (evalIt G it ρ t).bind fun xs t => if xs.2 = .br then .no else forL (bdT tg) (bdS G fu b) xs.1 ρ t from rfl, wp_bind]
  refine Wp.cg fun xs t => ?_
  unfold kF kFr
  try dsimp only
  by_cases h : xs.2 = .br
  · rw [if_pos h]; simp only [h, ne_eq, not_true_eq_false, false_and]; exact wp_no ..
  · rw [if_neg h]; simp only [ne_eq, h, not_false_eq_true, true_and]
theorem fz_ne : (Kd.fz ≠ Kd.br) = True := by simp
theorem frz_fz : frz1 .fz = .fz := rfl
theorem frz_fr : frz1 .fr = .fz := rfl
theorem ws_wh (c : E) (b : Ss) : Wp (execS G fu (.wh c b) ρ t) Q Z = Wp (whL (bdE G c) (bdS G fu b) fu ρ t) Q Z := rfl
theorem ws_lams (w : Nat) (es : Es) (b : Ss) : Wp (execS G fu (.lams w es b) ρ t) Q Z = (noLk ρ = true ∧ Wp (forK w (bdS (G.wl (lamFns G es)) fu b) (lamFns G es).length 0 ρ t) Q Z) := wp_guard ..
def kSpr (is : List Nat) (ρ : En) (xs : List Dk) (Q : Od T) (Z : Zd T) (p : PrimS T) (t : T) : Prop := Wp (p.f is ρ xs t) Q Z
def kSp (G : Pg T) (k : Nat) (is : List Nat) (ρ : En) (Q : Od T) (Z : Zd T) (xs : List Dk) (t : T) : Prop := opK G.sprims[k]? (kSpr is ρ xs Q Z) t
theorem ws_prim (k : Nat) (is : List Nat) (es : Es) : Wp (execS G fu (.prim k is es) ρ t) Q Z = Wp (evalEs G es ρ t) (kSp G k is ρ Q Z) Z := by
  rw [show execS G fu (.prim k is es) ρ t = (evalEs G es ρ t).bind fun xs t => match G.sprims[k]? with
    | some p => p.f is ρ xs t
    | none => .no from rfl, wp_bind]
  refine Wp.cg fun xs t => ?_
  unfold kF kSp
  try dsimp only
  generalize G.sprims[k]? = v
  cases v <;> (first | rfl | exact wp_ok .. | exact wp_no .. | exact wp_ex ..)
end
/-- what is asked behind a loop's turn -/
def lpK (I : En → T → Prop) (Q : Od T) (o : O) (t : T) : Prop := match o with
  | .nx ρ => I ρ t
  | .ct ρ => I ρ t
  | .bk ρ => Q (.nx ρ) t
  | .rt d => Q (.rt d) t
section
variable (I : En → T → Prop) (Q : Od T) (ρ : En) (t : T)
theorem lp_nx : lpK I Q (.nx ρ) t = I ρ t := rfl
theorem lp_ct : lpK I Q (.ct ρ) t = I ρ t := rfl
theorem lp_bk : lpK I Q (.bk ρ) t = Q (.nx ρ) t := rfl
theorem lp_rt (d : Dk) : lpK I Q (.rt d) t = Q (.rt d) t := rfl
end
def kLp (f : En → T → R T O) (I : En → T → Prop) (Q : Od T) (Z : Zd T) (ρ : En) (t : T) : Prop := Wp (f ρ t) (lpK I Q) Z
/-- a loop by an invariant: of what is left, the slots, the tape -/
theorem wp_for {bind : D → En → Option En} {f : En → T → R T O} {Q : Od T} {Z : Zd T} (I : List D → En → T → Prop) :
    ∀ (xs : List D) (ρ : En) (t : T), I xs ρ t → (∀ d ds ρ t, d ∈ xs → I (d :: ds) ρ t → opK (bind d ρ) (kLp f (I ds) Q Z) t) → (∀ ρ t, I [] ρ t → Q (.nx ρ) t) → Wp (forL bind f xs ρ t) Q Z
  | [], ρ, t, h, _, e => ⟨e ρ t h⟩
  | d :: ds, ρ, t, h, st, e => by
    have s1 := st d ds ρ t List.mem_cons_self h
    unfold forL
    cases hb : bind d ρ with
    | none => rw [hb] at s1; exact s1.elim
    | some ρ1 =>
      rw [hb] at s1
      have s1 : Wp (f ρ1 t) _ Z := s1
      show Wp ((f ρ1 t).bind _) Q Z
      rw [wp_bind]
      refine s1.sub fun o t' h' => ?_
      cases o with
      | nx ρ2 => exact wp_for I ds ρ2 t' h' (fun d' ds' ρ t m => st d' ds' ρ t (List.mem_cons_of_mem _ m)) e
      | ct ρ2 => exact wp_for I ds ρ2 t' h' (fun d' ds' ρ t m => st d' ds' ρ t (List.mem_cons_of_mem _ m)) e
      | bk ρ2 => exact ⟨h'⟩
      | rt d => exact ⟨h'⟩
/-- what is asked behind a comprehension's turn -/
def lcK (I : List D → T → Prop) (acc : List D) (o : Option D) (t : T) : Prop := match o with
  | some y => I (acc ++ [y]) t
  | none => I acc t
theorem lc_some (I : List D → T → Prop) (acc : List D) (y : D) (t : T) : lcK I acc (some y) t = I (acc ++ [y]) t := rfl
theorem lc_none (I : List D → T → Prop) (acc : List D) (t : T) : lcK I acc none t = I acc t := rfl
/-- a comprehension by an invariant: what is done, what is left, the tape -/
theorem wp_lcI {f : D → T → R T (Option D)} (I : List D → List D → T → Prop) {Q : List D → T → Prop} :
    ∀ (xs acc : List D) (t : T), I acc xs t → (∀ acc d ds t, d ∈ xs → I acc (d :: ds) t → Wp (f d t) (lcK (fun a => I a ds) acc) noX) → (∀ acc t, I acc [] t → Q acc t) → Wp (lcL f xs t) (fun r t => Q (acc ++ r) t) noX
  | [], acc, t, h, _, e => by
    refine ⟨?_⟩
    show Q (acc ++ []) t
    rw [List.append_nil]
    exact e acc t h
  | d :: ds, acc, t, h, st, e => by
    show Wp ((f d t).bind (fun o t => (lcL f ds t).bind fun r t => .ok (match o with | some d => d :: r | none => r) t)) _ _
    rw [wp_bind]
    refine (st acc d ds t List.mem_cons_self h).sub fun o t' h' => ?_
    unfold kF
    rw [wp_bind]
    cases o with
    | none => exact (wp_lcI I ds acc t' h' (fun acc d' ds' t m => st acc d' ds' t (List.mem_cons_of_mem _ m)) e).sub fun r t2 h2 => ⟨h2⟩
    | some y => exact (wp_lcI I ds (acc ++ [y]) t' h' (fun acc d' ds' t m => st acc d' ds' t (List.mem_cons_of_mem _ m)) e).sub fun r t2 h2 => by rw [List.append_assoc] at h2; exact ⟨h2⟩
theorem wp_lc0 {f : D → T → R T (Option D)} (I : List D → List D → T → Prop) {Q : List D → T → Prop} {xs : List D} {t : T} (h : I [] xs t) (st : ∀ acc d ds t, d ∈ xs → I acc (d :: ds) t → Wp (f d t) (lcK (fun a => I a ds) acc) noX) (e : ∀ acc t, I acc [] t → Q acc t) : Wp (lcL f xs t) Q noX := wp_lcI I xs [] t h st e
/-- a loop while something holds: an invariant, a measure -/
def whK (f : En → T → R T O) (I : En → T → Prop) (Q : Od T) (Z : Zd T) (ρ : En) (x : Dk) (t : T) : Prop := match x.1 with
  | .bl true => Wp (f ρ t) (lpK I Q) Z
  | .bl false => Q (.nx ρ) t
  | _ => False
theorem wh_t (f : En → T → R T O) (I : En → T → Prop) (Q : Od T) (Z : Zd T) (ρ : En) (k : Kd) (t : T) : whK f I Q Z ρ (.bl true, k) t = Wp (f ρ t) (lpK I Q) Z := rfl
theorem wh_f (f : En → T → R T O) (I : En → T → Prop) (Q : Od T) (Z : Zd T) (ρ : En) (k : Kd) (t : T) : whK f I Q Z ρ (.bl false, k) t = Q (.nx ρ) t := rfl
theorem wh_s {f : En → T → R T O} {I : En → T → Prop} {Q : Od T} {Z : Zd T} {ρ : En} {k : Kd} {t : T} {b : Bool} (h : b = true → Wp (f ρ t) (lpK I Q) Z) (g : b = false → Q (.nx ρ) t) : whK f I Q Z ρ (.bl b, k) t := by
  cases b with
  | true => exact h rfl
  | false => exact g rfl
theorem wp_wh {c : En → T → R T Dk} {f : En → T → R T O} {Q : Od T} {Z : Zd T} (I : Nat → En → T → Prop) :
    ∀ (n fu : Nat) (ρ : En) (t : T), n < fu → I n ρ t → (∀ n ρ t, I n ρ t → Wp (c ρ t) (whK f (fun ρ t => ∃ m, m < n ∧ I m ρ t) Q Z ρ) Z) → Wp (whL c f fu ρ t) Q Z
  | n, 0, _, _, l, _, _ => absurd l (by omega)
  | n, fu + 1, ρ, t, l, h, st => by
    show Wp ((c ρ t).bind _) Q Z
    rw [wp_bind]
    refine (st n ρ t h).sub fun x t1 h1 => ?_
    obtain ⟨d, k⟩ := x
    cases d <;> try exact h1.elim
    rename_i b
    cases b with
    | false => exact ⟨h1⟩
    | true =>
      have h1 : Wp (f ρ t1) _ Z := h1
      show Wp ((f ρ t1).bind _) Q Z
      rw [wp_bind]
      refine h1.sub fun o t2 h2 => ?_
      cases o with
      | nx ρ2 => obtain ⟨m, lm, hm⟩ := h2; exact wp_wh I m fu ρ2 t2 (by omega) hm st
      | ct ρ2 => obtain ⟨m, lm, hm⟩ := h2; exact wp_wh I m fu ρ2 t2 (by omega) hm st
      | bk ρ2 => exact ⟨h2⟩
      | rt d => exact ⟨h2⟩
/-- a loop over lambdas -/
theorem wp_forK0 (w : Nat) (f : En → T → R T O) (k : Nat) (ρ : En) (t : T) (Q : Od T) (Z : Zd T) : Wp (forK w f 0 k ρ t) Q Z = (noLk (ρ.set w .un) = true ∧ Q (.nx (ρ.set w .un)) t) := wp_guard1 ..
def kFk (w : Nat) (f : En → T → R T O) (n k : Nat) (Q : Od T) (Z : Zd T) (o : O) (t : T) : Prop := match o with
  | .nx ρ2 => Wp (forK w f n (k + 1) ρ2 t) Q Z
  | .ct ρ2 => Wp (forK w f n (k + 1) ρ2 t) Q Z
  | .bk ρ2 => noLk (ρ2.set w .un) = true ∧ Q (.nx (ρ2.set w .un)) t
  | .rt d => Q (.rt d) t
theorem wp_forKs (w n : Nat) (f : En → T → R T O) (k : Nat) (ρ : En) (t : T) (Q : Od T) (Z : Zd T) : Wp (forK w f (n + 1) k ρ t) Q Z = (w < ρ.length ∧ Wp (f (ρ.set w (.lock k)) t) (kFk w f n k Q Z) Z) := by
  show Wp (if w < ρ.length then (f (ρ.set w (.lock k)) t).bind fun o t => _ else .no) Q Z = _
  rw [wp_guard, wp_bind]
  congr 1
  refine Wp.cg fun o t => ?_
  cases o with
  | bk ρ => first | exact wp_guard .. | exact wp_guard1 .. | exact wp_guardx ..
  | _ => (first | rfl | exact wp_ok .. | exact wp_no .. | exact wp_ex ..)
section
variable (w : Nat) (f : En → T → R T O) (n k : Nat) (Q : Od T) (Z : Zd T) (ρ : En) (t : T)
theorem fk_nx : kFk w f n k Q Z (.nx ρ) t = Wp (forK w f n (k + 1) ρ t) Q Z := rfl
theorem fk_ct : kFk w f n k Q Z (.ct ρ) t = Wp (forK w f n (k + 1) ρ t) Q Z := rfl
theorem fk_bk : kFk w f n k Q Z (.bk ρ) t = (noLk (ρ.set w .un) = true ∧ Q (.nx (ρ.set w .un)) t) := rfl
theorem fk_rt (d : Dk) : kFk w f n k Q Z (.rt d) t = Q (.rt d) t := rfl
end
theorem wl_fns (L : List (En → T → R T Dk)) : (G.wl L).fns = G.fns := rfl
theorem wl_cls (L : List (En → T → R T Dk)) : (G.wl L).cls = G.cls := rfl
theorem wl_cons (L : List (En → T → R T Dk)) : (G.wl L).cons = G.cons := rfl
theorem wl_prims (L : List (En → T → R T Dk)) : (G.wl L).prims = G.prims := rfl
theorem wl_lams (L : List (En → T → R T Dk)) : (G.wl L).lams = L := rfl
theorem lam_cons (e : E) (es : Es) : lamFns G (.cons e es) = (fun ρ t => evalE G e ρ t) :: lamFns G es := rfl
theorem lam_nil : lamFns G .nil = [] := rfl
theorem noLk_nil : noLk [] = true := rfl
theorem noLk_fz (d : D) (r : En) : noLk (.fz d :: r) = noLk r := rfl
theorem noLk_ow (d : D) (r : En) : noLk (.ow d :: r) = noLk r := rfl
theorem noLk_un (r : En) : noLk (.un :: r) = noLk r := rfl
theorem noLk_x (x : SV) (r : En) (h : isLock (some x) = false) : noLk (x :: r) = noLk r := by
  unfold noLk
  rw [List.all_cons, h]
  rfl
/-- a def's end -/
def kEnd (Q : Qd T) (o : O) (t : T) : Prop := match o with
  | .nx _ => Q (.non, .fz) t
  | .rt (d, .fz) => Q (d, .fz) t
  | .rt (d, .fr) => Q (d, .fr) t
  | _ => False
section
variable (Q : Qd T) (t : T)
theorem end_nx (ρ : En) : kEnd Q (.nx ρ) t = Q (.non, .fz) t := rfl
theorem end_fz (d : D) : kEnd Q (.rt (d, .fz)) t = Q (d, .fz) t := rfl
theorem end_fr (d : D) : kEnd Q (.rt (d, .fr)) t = Q (d, .fr) t := rfl
end
theorem wp_run (n : Nat) (s : Ss) (ds : List D) (t : T) (Q : Qd T) (Z : Zd T) : Wp (runFn G fu n s ds t) Q Z = Wp (execSs G fu s (ds.map .fz ++ List.replicate (n - ds.length) .un) t) (kEnd Q) Z := by
  unfold runFn
  rw [wp_bind]
  refine Wp.cg fun o t => ?_
  cases o with
  | nx ρ => (first | rfl | exact wp_ok .. | exact wp_no .. | exact wp_ex ..)
  | bk ρ => (first | rfl | exact wp_ok .. | exact wp_no .. | exact wp_ex ..)
  | ct ρ => (first | rfl | exact wp_ok .. | exact wp_no .. | exact wp_ex ..)
  | rt d =>
    obtain ⟨d, k⟩ := d
    cases k <;> (first | rfl | exact wp_ok .. | exact wp_no .. | exact wp_ex ..)
def kMk2 (c : Nat) (Q : Qd T) (fs : List (Str × D)) (t : T) : Prop := Q (.ins c fs, .fr) t
def kMk (G : Pg T) (ps : List (Str × E)) (c : Nat) (Q : Qd T) (Z : Zd T) (o : O) (t : T) : Prop := match o with
  | .nx ρ => isLock ρ[0]? = true ∧ Wp (runPosts G ρ ps [] t) (kMk2 c Q) Z
  | _ => False
theorem mk_nx (ps : List (Str × E)) (c : Nat) (Q : Qd T) (Z : Zd T) (r : En) (k : Nat) (t : T) : kMk G ps c Q Z (.nx (.lock k :: r)) t = Wp (runPosts G (.lock k :: r) ps [] t) (kMk2 c Q) Z := by
  show (true = true ∧ _) = _
  simp
theorem wp_mkFn (n c : Nat) (s : Ss) (ps : List (Str × E)) (ds : List D) (t : T) (Q : Qd T) (Z : Zd T) : Wp (mkFn G fu n s ps c ds t) Q Z = Wp (execSs G fu s (.lock 0 :: (ds.map .fz ++ List.replicate (n - (ds.length + 1)) .un)) t) (kMk G ps c Q Z) Z := by
  unfold mkFn
  rw [wp_bind]
  refine Wp.cg fun o t => ?_
  cases o with
  | nx ρ =>
    show Wp (if isLock ρ[0]? = true then _ else R.no) Q Z = (isLock ρ[0]? = true ∧ _)
    rw [wp_guard, wp_bind]
    congr 1
    exact Wp.cg fun fs t => wp_ok ..
  | bk ρ => (first | rfl | exact wp_ok .. | exact wp_no .. | exact wp_ex ..)
  | ct ρ => (first | rfl | exact wp_ok .. | exact wp_no .. | exact wp_ex ..)
  | rt d => (first | rfl | exact wp_ok .. | exact wp_no .. | exact wp_ex ..)
theorem wpp_nil (ρ : En) (fs : List (Str × D)) (t : T) (Q : List (Str × D) → T → Prop) (Z : Zd T) : Wp (runPosts G ρ [] fs t) Q Z = Q fs t := wp_ok ..
def kPo2 (G : Pg T) (f : Str) (r : List (Str × E)) (fs : List (Str × D)) (ρ : En) (Q : List (Str × D) → T → Prop) (Z : Zd T) (d : D) (t : T) : Prop := fs.length < 1000 ∧ Wp (runPosts G ρ r (putFD f d fs) t) Q Z
def kPo (G : Pg T) (f : Str) (r : List (Str × E)) (fs : List (Str × D)) (ρ : En) (Q : List (Str × D) → T → Prop) (Z : Zd T) (x : Dk) (t : T) : Prop := opK (fzOf x) (kPo2 G f r fs ρ Q Z) t
theorem wpp_cons (ρ : En) (f : Str) (e : E) (r : List (Str × E)) (fs : List (Str × D)) (t : T) (Q : List (Str × D) → T → Prop) (Z : Zd T) : Wp (runPosts G ρ ((f, e) :: r) fs t) Q Z = Wp (evalE G e ρ t) (kPo G f r fs ρ Q Z) Z := by
  rw [show runPosts G ρ ((f, e) :: r) fs t = (evalE G e ρ t).bind fun x t => match fzOf x with
    | some d => if fs.length < 1000 then runPosts G ρ r (putFD f d fs) t else .no
    | none => .no from rfl, wp_bind]
  refine Wp.cg fun x t => ?_
  unfold kF kPo
  try dsimp only
  cases fzOf x with
  | none => (first | rfl | exact wp_ok .. | exact wp_no .. | exact wp_ex ..)
  | some d => first | exact wp_guard .. | exact wp_guard1 .. | exact wp_guardx ..
/-! ### slots -/
theorem setE_0 (x : SV) (r : En) (v : SV) (h : isLock (some x) = false) : setE (x :: r) 0 v = some (v :: r) := by
  unfold setE
  simp [h]
theorem setE_0f (d : D) (r : En) (v : SV) : setE (.fz d :: r) 0 v = some (v :: r) := setE_0 _ _ _ rfl
theorem setE_0o (d : D) (r : En) (v : SV) : setE (.ow d :: r) 0 v = some (v :: r) := setE_0 _ _ _ rfl
theorem setE_0u (r : En) (v : SV) : setE (.un :: r) 0 v = some (v :: r) := setE_0 _ _ _ rfl
theorem setE_s (x : SV) (r : En) (i : Nat) (v : SV) : setE (x :: r) (i + 1) v = (setE r i v).map (x :: ·) := by
  unfold setE
  simp only [List.length_cons, Nat.add_lt_add_iff_right, List.getElem?_cons_succ, List.set_cons_succ]
  split
  · split <;> (first | rfl | exact wp_ok .. | exact wp_no .. | exact wp_ex ..)
  · rfl
theorem bindT_nm (ρ : En) (i : Nat) (d : D) : bindT ρ (.nm i) d = setE ρ i (.fz d) := rfl
theorem bindT_tp (ρ : En) (is : List Nat) (ds : List D) : bindT ρ (.tp is) (.tup ds) = bindL ρ is ds := rfl
theorem bindL_nil (ρ : En) : bindL ρ [] [] = some ρ := rfl
theorem bindL_cons (ρ : En) (i : Nat) (is : List Nat) (d : D) (ds : List D) : bindL ρ (i :: is) (d :: ds) = (setE ρ i (.fz d)).bind fun ρ => bindL ρ is ds := rfl
theorem okW_nil (ρ : En) : okW ρ [] = true := rfl
theorem okW_cons (ρ : En) (v : Nat) (vs : List Nat) : okW ρ (v :: vs) = (!isLock ρ[v]? && okW ρ vs) := rfl
/-! ### operations -/
theorem allFz_nil : allFz [] = some [] := rfl
theorem allFz_fz (d : D) (r : List Dk) : allFz ((d, .fz) :: r) = (allFz r).map (d :: ·) := rfl
theorem allFz_fr (d : D) (r : List Dk) : allFz ((d, .fr) :: r) = (allFz r).map (d :: ·) := rfl
theorem allFz_br (d : D) (r : List Dk) : allFz ((d, .br) :: r) = none := rfl
theorem fzOf_fz (d : D) : fzOf (d, .fz) = some d := rfl
theorem fzOf_fr (d : D) : fzOf (d, .fr) = some d := rfl
theorem op_add (i j : Int) : op2 .add (.int i) (.int j) = some (.int (i + j), .fz) := rfl
theorem op_sub (i j : Int) : op2 .sub (.int i) (.int j) = some (.int (i - j), .fz) := rfl
theorem op_mod (i j : Int) (h : j ≠ 0) : op2 .mod (.int i) (.int j) = some (.int (i.fmod j), .fz) := by show (if decide (j ≠ 0) then _ else _) = _; rw [if_pos (decide_eq_true h)]
theorem op_mul (i j : Int) (h : smallI i = true) : op2 .mul (.int i) (.int j) = some (.int (i * j), .fz) := by show (if (smallI i || smallI j || wideM i j) = true then _ else _) = _; rw [h]; rfl
theorem op_fdiv (i j : Int) (h : divOk j = true) : op2 .fdiv (.int i) (.int j) = some (.int (i.fdiv j), .fz) := by show (if divOk j = true then _ else _) = _; rw [if_pos h]
theorem op_addL (xs ys : List D) (h : xs.length + ys.length ≤ lim) : op2 .add (.lst xs) (.lst ys) = some (.lst (xs ++ ys), .fr) := by show (if xs.length + ys.length ≤ lim then _ else _) = _; rw [if_pos h]
theorem op_addT (xs ys : List D) (h : xs.length + ys.length ≤ lim) : op2 .add (.tup xs) (.tup ys) = some (.tup (xs ++ ys), .fz) := by show (if xs.length + ys.length ≤ lim then _ else _) = _; rw [if_pos h]
theorem neg_int (i : Int) : negD (.int i) = some (-i) := rfl
theorem not_bl (b : Bool) : notD (.bl b) = some (!b) := rfl
theorem cmp_eq (a b : D) (k k' : Kd) : cmpD .eq (a, k) (b, k') = eqD a b := rfl
theorem cmp_ne (a b : D) (k k' : Kd) : cmpD .ne (a, k) (b, k') = (eqD a b).map (!·) := rfl
theorem cmp_lt (i j : Int) (k k' : Kd) : cmpD .lt (.int i, k) (.int j, k') = some (decide (i < j)) := rfl
theorem cmp_le (i j : Int) (k k' : Kd) : cmpD .le (.int i, k) (.int j, k') = some (decide (i ≤ j)) := rfl
theorem cmp_gt (i j : Int) (k k' : Kd) : cmpD .gt (.int i, k) (.int j, k') = some (decide (j < i)) := rfl
theorem cmp_ge (i j : Int) (k k' : Kd) : cmpD .ge (.int i, k) (.int j, k') = some (decide (j ≤ i)) := rfl
theorem cmp_is (d : D) (k k' : Kd) : cmpD .is (d, k) (.non, k') = some (isNon d) := rfl
theorem cmp_isnot (d : D) (k k' : Kd) : cmpD .isnot (d, k) (.non, k') = some (!isNon d) := rfl
theorem cmp_isb (a b : Bool) (k k' : Kd) : cmpD .is (.bl a, k) (.bl b, k') = some (decide (a = b)) := rfl
theorem cmp_isnb (a b : Bool) (k k' : Kd) : cmpD .isnot (.bl a, k) (.bl b, k') = some (!decide (a = b)) := rfl
theorem eqD_i (i j : Int) : eqD (.int i) (.int j) = some (decide (i = j)) := by
  have h : eqD (.int i) (.int j) = some (PyData.eqv (.int i) (.int j)) := rfl
  rw [h]
  simp [PyData.eqv]
  first | rfl | exact wp_ok .. | exact wp_no .. | exact wp_ex ..
theorem len_lst (xs : List D) (k : Kd) : biD .len [(.lst xs, k)] = some (.int xs.length, .fz) := rfl
theorem len_tup (xs : List D) (k : Kd) : biD .len [(.tup xs, k)] = some (.int xs.length, .fz) := rfl
theorem len_scr (xs : List D) (k : Kd) : biD .len [(.scr xs, k)] = some (.int xs.length, .fz) := rfl
theorem bi_min (i j : Int) (k k' : Kd) : biD .min [(.int i, k), (.int j, k')] = some (.int (if j < i then j else i), .fz) := rfl
theorem bi_max (i j : Int) (k k' : Kd) : biD .max [(.int i, k), (.int j, k')] = some (.int (if j > i then j else i), .fz) := rfl
theorem bi_abs (i : Int) (k : Kd) : biD .abs [(.int i, k)] = some (.int (if i < 0 then -i else i), .fz) := rfl
theorem bi_int (i : Int) (k : Kd) : biD .int [(.int i, k)] = some (.int i, .fz) := rfl
theorem bi_intb (b : Bool) (k : Kd) : biD .int [(.bl b, k)] = some (.int (if b then 1 else 0), .fz) := rfl
theorem bi_listL (xs : List D) (k : Kd) : biD .list [(.lst xs, k)] = some (.lst xs, .fr) := rfl
theorem bi_listT (xs : List D) (k : Kd) : biD .list [(.tup xs, k)] = some (.lst xs, .fr) := rfl
theorem bi_tupL (xs : List D) (k : Kd) : biD .tuple [(.lst xs, k)] = some (.tup xs, .fz) := rfl
theorem bi_tupT (xs : List D) : biD .tuple [(.tup xs, .fz)] = some (.tup xs, .fz) := rfl
theorem bi_all (xs : List D) (k : Kd) : biD .all [(.lst xs, k)] = (boolsOf xs).map fun bs => (.bl (bs.all id), .fz) := rfl
theorem bi_any (xs : List D) (k : Kd) : biD .any [(.lst xs, k)] = (boolsOf xs).map fun bs => (.bl (bs.any id), .fz) := rfl
theorem idx_lst (xs : List D) (i : Int) (k k' : Kd) : idxD (.lst xs, k) (.int i, k') = atD xs i := rfl
theorem idx_tup (xs : List D) (i : Int) (k k' : Kd) : idxD (.tup xs, k) (.int i, k') = atD xs i := rfl
theorem idx_dct (kvs : List (D × D)) (x : Str) (k k' : Kd) : idxD (.dct false kvs, k) (.str x, k') = dget kvs (.str x) := rfl
theorem slc_lst (xs : List D) (k : Kd) (lo hi : Option Int) : slcD (.lst xs, k) lo hi = some (.lst (cutD xs lo hi), .fr) := rfl
theorem slc_tup (xs : List D) (lo hi : Option Int) : slcD (.tup xs, .fz) lo hi = some (.tup (cutD xs lo hi), .fz) := rfl
theorem optI_n (d : D) : optI true d = some none := rfl
theorem optI_i (i : Int) : optI false (.int i) = some (some i) := rfl
theorem intOf_i (i : Int) : intOf (.int i) = some i := rfl
theorem lstOf_l (xs : List D) : lstOf (.lst xs) = some xs := rfl
theorem zipOf_l (xs ys : List D) (k k' : Kd) : zipOf (.lst xs, k) (.lst ys, k') = some (zipD xs ys, brOr k k') := rfl
theorem zipOf_t (xs ys : List D) (k k' : Kd) : zipOf (.tup xs, k) (.tup ys, k') = some (zipD xs ys, .fz) := rfl
theorem seqOf_l (xs : List D) : seqOf (.lst xs) = some xs := rfl
theorem seqOf_t (xs : List D) : seqOf (.tup xs) = some xs := rfl
theorem itOf_l (xs : List D) : itOf (.lst xs) = some xs := rfl
theorem itOf_t (xs : List D) : itOf (.tup xs) = some xs := rfl
theorem itOf_s (xs : List D) : itOf (.scr xs) = some xs := rfl
theorem ty_non_int  : tyD D.non .int = some false := rfl
theorem ty_non_bool  : tyD D.non .bool = some false := rfl
theorem ty_non_tuple  : tyD D.non .tuple = some false := rfl
theorem ty_non_list  : tyD D.non .list = some false := rfl
theorem ty_non_str  : tyD D.non .str = some false := rfl
theorem ty_non_dict  : tyD D.non .dict = some false := rfl
theorem ty_non_seq  : tyD D.non .seq = some false := rfl
theorem ty_bl_int (b : Bool) : tyD (D.bl b) .int = some true := rfl
theorem ty_bl_bool (b : Bool) : tyD (D.bl b) .bool = some true := rfl
theorem ty_bl_tuple (b : Bool) : tyD (D.bl b) .tuple = some false := rfl
theorem ty_bl_list (b : Bool) : tyD (D.bl b) .list = some false := rfl
theorem ty_bl_str (b : Bool) : tyD (D.bl b) .str = some false := rfl
theorem ty_bl_dict (b : Bool) : tyD (D.bl b) .dict = some false := rfl
theorem ty_bl_seq (b : Bool) : tyD (D.bl b) .seq = some false := rfl
theorem ty_int_int (i : Int) : tyD (D.int i) .int = some true := rfl
theorem ty_int_bool (i : Int) : tyD (D.int i) .bool = some false := rfl
theorem ty_int_tuple (i : Int) : tyD (D.int i) .tuple = some false := rfl
theorem ty_int_list (i : Int) : tyD (D.int i) .list = some false := rfl
theorem ty_int_str (i : Int) : tyD (D.int i) .str = some false := rfl
theorem ty_int_dict (i : Int) : tyD (D.int i) .dict = some false := rfl
theorem ty_int_seq (i : Int) : tyD (D.int i) .seq = some false := rfl
theorem ty_str_int (x : Str) : tyD (D.str x) .int = some false := rfl
theorem ty_str_bool (x : Str) : tyD (D.str x) .bool = some false := rfl
theorem ty_str_tuple (x : Str) : tyD (D.str x) .tuple = some false := rfl
theorem ty_str_list (x : Str) : tyD (D.str x) .list = some false := rfl
theorem ty_str_str (x : Str) : tyD (D.str x) .str = some true := rfl
theorem ty_str_dict (x : Str) : tyD (D.str x) .dict = some false := rfl
theorem ty_str_seq (x : Str) : tyD (D.str x) .seq = some false := rfl
theorem ty_tup_int (xs : List D) : tyD (D.tup xs) .int = some false := rfl
theorem ty_tup_bool (xs : List D) : tyD (D.tup xs) .bool = some false := rfl
theorem ty_tup_tuple (xs : List D) : tyD (D.tup xs) .tuple = some true := rfl
theorem ty_tup_list (xs : List D) : tyD (D.tup xs) .list = some false := rfl
theorem ty_tup_str (xs : List D) : tyD (D.tup xs) .str = some false := rfl
theorem ty_tup_dict (xs : List D) : tyD (D.tup xs) .dict = some false := rfl
theorem ty_tup_seq (xs : List D) : tyD (D.tup xs) .seq = some true := rfl
theorem ty_lst_int (xs : List D) : tyD (D.lst xs) .int = some false := rfl
theorem ty_lst_bool (xs : List D) : tyD (D.lst xs) .bool = some false := rfl
theorem ty_lst_tuple (xs : List D) : tyD (D.lst xs) .tuple = some false := rfl
theorem ty_lst_list (xs : List D) : tyD (D.lst xs) .list = some true := rfl
theorem ty_lst_str (xs : List D) : tyD (D.lst xs) .str = some false := rfl
theorem ty_lst_dict (xs : List D) : tyD (D.lst xs) .dict = some false := rfl
theorem ty_lst_seq (xs : List D) : tyD (D.lst xs) .seq = some true := rfl
theorem ty_dct_int (k : Bool) (xs : List (D × D)) : tyD (D.dct k xs) .int = some false := rfl
theorem ty_dct_bool (k : Bool) (xs : List (D × D)) : tyD (D.dct k xs) .bool = some false := rfl
theorem ty_dct_tuple (k : Bool) (xs : List (D × D)) : tyD (D.dct k xs) .tuple = some false := rfl
theorem ty_dct_list (k : Bool) (xs : List (D × D)) : tyD (D.dct k xs) .list = some false := rfl
theorem ty_dct_str (k : Bool) (xs : List (D × D)) : tyD (D.dct k xs) .str = some false := rfl
theorem ty_dct_dict (k : Bool) (xs : List (D × D)) : tyD (D.dct k xs) .dict = some true := rfl
theorem ty_dct_seq (k : Bool) (xs : List (D × D)) : tyD (D.dct k xs) .seq = some false := rfl
theorem permL_nil {α : Type} (xs : List α) : permL [] xs = some [] := rfl
theorem permL_cons {α : Type} (i : Nat) (is : List Nat) (xs : List α) : permL (i :: is) xs = (xs[i]?).bind fun x => (permL is xs).map (x :: ·) := rfl
theorem allFz_app (ds : List D) (r : List Dk) : allFz (ds.map (·, Kd.fz) ++ r) = (allFz r).map (ds ++ ·) := by
  induction ds with
  | nil => rw [List.map_nil, List.nil_append]; cases allFz r <;> (first | rfl | exact wp_ok .. | exact wp_no .. | exact wp_ex ..)
  | cons d ds ih =>
    rw [List.map_cons, List.cons_append, allFz_fz, ih]
    cases allFz r <;> (first | rfl | exact wp_ok .. | exact wp_no .. | exact wp_ex ..)
end
end DE
set_option maxHeartbeats 1000000
/-! W3: data: lists of ints, of Bools; slices; texts; draws. -/
namespace DE
open PySem PySem.Spec PyProof.Rows L2
/-! ### plain values -/
def plainD (d : D) : Bool := (tyOfD d).isSome
def isI (d : D) : Bool := match d with
  | .int _ => true
  | _ => false
def inB (d : D) (a b : Int) : Bool := match d with
  | .int i => decide (a ≤ i) && decide (i ≤ b)
  | _ => false
def isSeq (d : D) : Bool := match d with
  | .lst _ => true
  | .tup _ => true
  | _ => false
def isTup (d : D) : Bool := match d with
  | .tup _ => true
  | _ => false
/-! ### lists of ints, of Bools -/
theorem intsOf_map : ∀ ns : List Int, intsOf (ns.map D.int) = some ns
  | [] => rfl
  | n :: ns => by simp [intsOf, intsOf_map ns]
theorem boolsOf_map : ∀ ns : List Bool, boolsOf (ns.map D.bl) = some ns
  | [] => rfl
  | n :: ns => by simp [boolsOf, boolsOf_map ns]
theorem boolsOf_mapf {α : Type} (f : α → Bool) (xs : List α) : boolsOf (xs.map fun x => D.bl (f x)) = some (xs.map f) := by
  rw [← boolsOf_map (xs.map f), List.map_map]
  rfl
theorem shaped_ints (ns : List Int) : SeqAt.shaped (.list (ns.map .int)) = true := by simp [SeqAt.shaped, PyData.canLay0, lay_ints, PyData.depth, depth_ints]
theorem shaped_intsT (ns : List Int) : SeqAt.shaped (.tuple (ns.map .int)) = true := by simp [SeqAt.shaped, PyData.canLay0, lay_ints, PyData.depth, depth_ints]
theorem shaped_int (i : Int) : SeqAt.shaped (.int i) = true := rfl
theorem inD_int (i : Int) (ns : List Int) : inD (.int i) (ns.map D.int) = some (decide (i ∈ ns)) := by
  unfold inD
  rw [show toPy (.int i) = some (.int i) from rfl, toPyL_ints]
  show (if (SeqAt.shaped (.int i) && SeqAt.shaped (.list (ns.map .int))) = true then _ else _) = _
  rw [shaped_ints, shaped_int, Bool.and_self, if_pos rfl, List.any_map]
  congr 1
  induction ns with
  | nil => rfl
  | cons n ns ih =>
    rw [List.any_cons, ih]
    have e : ((fun z => PyData.eqv z (PyData.int i)) ∘ PyData.int) n = decide (n = i) := by
      simp [PyData.eqv]
      rfl
    rw [e]
    by_cases h : n = i
    · subst h; simp
    · simp [h, Ne.symm h]
theorem flat_ints (ns : List Int) : (ns.map D.int).all flat = true := by
  rw [List.all_map]
  exact List.all_eq_true.mpr fun _ _ => rfl
theorem isin_tup (i : Int) (ns : List Int) (k k' : Kd) : cmpD .isin (.int i, k) (.tup (ns.map D.int), k') = some (decide (i ∈ ns)) := by
  show (if (flat (.int i) && (ns.map D.int).all flat) = true then inD (.int i) (ns.map D.int) else none) = _
  rw [flat_ints, if_pos (by rfl), inD_int]
theorem eqD_intsT (ns ms : List Int) : eqD (.tup (ns.map D.int)) (.tup (ms.map D.int)) = some (decide (ns = ms)) := by
  have h1 : toPy (.tup (ns.map D.int)) = some (.tuple (ns.map .int)) := by simp [toPy, toPyL_ints]
  have h2 : toPy (.tup (ms.map D.int)) = some (.tuple (ms.map .int)) := by simp [toPy, toPyL_ints]
  unfold eqD
  rw [h1, h2]
  simp only [shaped_intsT, Bool.and_self, if_true, PyData.eqv, eqv_ints]
theorem eqD_bl (a b : Bool) : eqD (.bl a) (.bl b) = some (decide (a = b)) := by cases a <;> cases b <;> decide +kernel
theorem eqD_non : eqD .non .non = some true := by decide +kernel
theorem eqD_str {x y : Str} (hx : PyData.strOk x = true) (hy : PyData.strOk y = true) : eqD (.str x) (.str y) = some (decide (x = y)) := by
  have sh : ∀ z : Str, PyData.strOk z = true → SeqAt.shaped (.str z) = true := fun z hz => by simp [SeqAt.shaped, PyData.canLay0, PyData.depth, hz]
  unfold eqD
  show (if (SeqAt.shaped (.str x) && SeqAt.shaped (.str y)) = true then some (PyData.eqv (.str x) (.str y)) else none) = _
  rw [sh x hx, sh y hy, if_pos (show (true && true) = true from rfl)]
  congr 1
/-! ### slices, places -/
theorem cutD_from (xs : List D) (i : Nat) : cutD xs (some (i : Int)) none = xs.drop i := by
  unfold cutD
  show ((xs.drop (HT.sIx xs.length 0 (some (i : Int)))).take (xs.length - _)) = _
  rw [HT.sIx_nat, List.take_of_length_le (by rw [List.length_drop]; exact Nat.le_refl _)]
  rcases Nat.le_total i xs.length with h | h
  · rw [Nat.min_eq_left h]
  · rw [Nat.min_eq_right h, List.drop_length, List.drop_eq_nil_of_le h]
theorem cutD_to (xs : List D) (j : Nat) : cutD xs none (some (j : Int)) = xs.take j := by
  unfold cutD
  show ((xs.drop 0).take (HT.sIx xs.length xs.length (some (j : Int)) - 0)) = _
  rw [HT.sIx_nat, List.drop_zero, Nat.sub_zero]
  rcases Nat.le_total j xs.length with h | h
  · rw [Nat.min_eq_left h]
  · rw [Nat.min_eq_right h, List.take_length, List.take_of_length_le h]
theorem cutD_both (xs : List D) (i k : Nat) : cutD xs (some (i : Int)) (some ((i + k : Nat) : Int)) = (xs.drop i).take k := by
  unfold cutD
  show ((xs.drop (HT.sIx xs.length 0 (some (i : Int)))).take (HT.sIx xs.length xs.length (some ((i + k : Nat) : Int)) - HT.sIx xs.length 0 (some (i : Int)))) = _
  rw [HT.sIx_nat, HT.sIx_nat]
  rcases Nat.le_total i xs.length with h | h
  · rw [Nat.min_eq_left h]
    rcases Nat.le_total (i + k) xs.length with h2 | h2
    · rw [Nat.min_eq_left h2]
      congr 1
      omega
    · rw [Nat.min_eq_right h2, List.take_of_length_le (by rw [List.length_drop]; exact Nat.le_refl _), List.take_of_length_le (by rw [List.length_drop]; omega)]
  · rw [Nat.min_eq_right h, List.drop_length, List.drop_eq_nil_of_le h, List.take_nil, List.take_nil]
/-- all but the last ones -/
theorem cutD_neg (xs : List D) (j : Nat) (h : 1 ≤ j) : cutD xs none (some (-(j : Int))) = xs.take (xs.length - j) := by
  unfold cutD
  show ((xs.drop 0).take ((if -(j : Int) < 0 then (-(j : Int) + (xs.length : Int)).toNat else min (-(j : Int)).toNat xs.length) - 0)) = _
  rw [if_pos (by omega), List.drop_zero, Nat.sub_zero]
  congr 1
  omega
theorem atI_nat {α : Type} (xs : List α) (i : Nat) (h : i < xs.length) : atI xs (i : Int) = some xs[i] := by
  unfold atI ixN
  rw [if_pos (by omega), if_pos (by omega), Int.toNat_natCast]
  exact List.getElem?_eq_getElem h
/-! ### texts -/
theorem repr_is {T : Type} {d : D} {p : PyData} {t : T} (k : Kd) (h : toPy d = some p) (c : p.canLay0 = true) (s : p.showable = true) (n : p.intsShort 13 = true) (de : p.depth ≤ 60) (w : p.weight ≤ 2 ^ 20) : fRepr [(d, k)] t = .ok (.str p.shown, .fz) t := by
  show (match toPy d with
    | some p => if p.showable && !p.hasDict && decide (p.depth ≤ 60) && decide (p.shown.length ≤ lim) then R.ok (D.str p.shown, Kd.fz) t else R.no
    | none => R.no) = _
  rw [h]
  have e : (p.showable && !p.hasDict && decide (p.depth ≤ 60) && decide (p.shown.length ≤ lim)) = true := by
    rw [s, PyData.hasDict_of_canLay p c, decide_eq_true de, decide_eq_true (show p.shown.length ≤ lim from PyData.shown_fits (B := 13) (by omega) (by omega) (PyData.leavesShort_of_canLay0 13 p c n) w)]
    rfl
  exact if_pos e
mutual
/-- no texts in it -/
def noTx : PyData → Bool
  | .none | .bool _ | .int _ => true
  | .list xs | .tuple xs => noTxs xs
  | _ => false
def noTxs : List PyData → Bool
  | [] => true
  | x :: xs => noTx x && noTxs xs
end
theorem strOk_iff {x : Str} : PyData.strOk x = true ↔ ∀ c ∈ x.cps.toList, c < 0x110000 := by
  unfold PyData.strOk
  rw [Array.all_eq_true_iff_forall_mem]
  constructor
  · intro h c hc
    simpa using h c (Array.mem_toList_iff.mp hc)
  · intro h c hc
    simpa using h c (Array.mem_toList_iff.mpr hc)
theorem strOk_app {a b : Str} (ha : PyData.strOk a = true) (hb : PyData.strOk b = true) : PyData.strOk (a ++ b) = true := strOk_iff.mpr fun c hc => by
  rcases mem_cps_append.mp hc with h | h
  · exact strOk_iff.mp ha c h
  · exact strOk_iff.mp hb c h
theorem strOk_textFrom : ∀ (ts : List Str) (k : Nat) (acc : Str), PyData.strOk acc = true → (∀ t ∈ ts, PyData.strOk t = true) → PyData.strOk (textFrom k acc ts) = true
  | [], _, _, h, _ => h
  | t :: r, k, acc, h, hs => by
    show PyData.strOk (textFrom (k + 1) _ r) = true
    refine strOk_textFrom r _ _ (strOk_app (strOk_app h ?_) (hs t List.mem_cons_self)) fun x hx => hs x (List.mem_cons_of_mem _ hx)
    split <;> decide +kernel
theorem strOk_join : ∀ (ts : List Str), (∀ t ∈ ts, PyData.strOk t = true) → PyData.strOk (Str.join ", " ts) = true
  | [], _ => by decide +kernel
  | [x], h => h x List.mem_cons_self
  | x :: y :: r, h => by
    show PyData.strOk (x ++ ", " ++ Str.join ", " (y :: r)) = true
    exact strOk_app (strOk_app (h x List.mem_cons_self) (by decide +kernel)) (strOk_join (y :: r) fun z hz => h z (List.mem_cons_of_mem _ hz))
mutual
theorem strOk_shown : ∀ p : PyData, noTx p = true → PyData.strOk p.shown = true
  | .none, _ => by decide +kernel
  | .bool b, _ => by cases b <;> decide +kernel
  | .int i, _ => strOk_iff.mpr fun c hc => by
    by_cases h : c < 0x110000
    · exact h
    · exact absurd hc (shown_int_free' ⟨by omega, .inr (by omega)⟩ i)
  | .list xs, h => by
    show PyData.strOk (textFrom 0 "[" (PyData.shownAll xs) ++ "]") = true
    exact strOk_app (strOk_textFrom _ _ _ (by decide +kernel) (strOk_shownAll xs h)) (by decide +kernel)
  | .tuple xs, h => by
    show PyData.strOk (("(" : Str) ++ Str.join ", " (PyData.shownAll xs) ++ (if (PyData.shownAll xs).length == 1 then ",)" else ")" : String)) = true
    exact strOk_app (strOk_app (by decide +kernel) (strOk_join _ (strOk_shownAll xs h))) (by split <;> decide +kernel)
theorem strOk_shownAll : ∀ xs : List PyData, noTxs xs = true → ∀ t ∈ PyData.shownAll xs, PyData.strOk t = true
  | [], _, _, h => nomatch h
  | x :: xs, h, t, ht => by
    obtain ⟨h1, h2⟩ := and3 (show (noTx x && noTxs xs) = true from h)
    cases ht with
    | head => exact strOk_shown x h1
    | tail _ ht => exact strOk_shownAll xs h2 t ht
end
/-- ints that are not great -/
theorem int_short {i : Int} (h : i.natAbs < 10 ^ 12) : PyData.intsShort 13 (.int i) = true ∧ PyData.showable (.int i) = true := by
  constructor
  · show decide ((PyData.shown (.int i)).length ≤ 13) = true
    refine decide_eq_true ?_
    have e := int_text_length_le10 (k := 12) (by omega) h
    show (Str.ofString (toString i)).length ≤ 13
    rw [show (Str.ofString (toString i)).length = (toString i).length from ?_]
    · exact e
    · show (((toString i : String) : Str)).cps.size = _
      rw [← Array.length_toList, signs_ofString, List.length_map]
      rfl
  · show decide (i.natAbs.log2 < 1920) = true
    refine decide_eq_true ?_
    by_cases h0 : i.natAbs = 0
    · rw [h0]; decide
    · exact (Nat.log2_lt h0).mpr (Nat.lt_trans h (by decide))
/-! ### draws -/
theorem log_small {n : Int} (h : n < 2 ^ 64) (h0 : 0 < n) : n.natAbs.log2 < 9000 := (Nat.log2_lt (by omega)).mpr (Nat.lt_of_lt_of_le (show n.natAbs < 2 ^ 64 by omega) (Nat.pow_le_pow_right (by omega) (by omega)))
theorem wp_draw {n : Int} {t : TA} {Q : Qd TA} {Z : Zd TA} (h0 : 0 < n) (h1 : n < 2 ^ 64) (q : ∀ i t', 0 ≤ i → i < n → Q (.int i, .fz) t') : Wp (drawA [.tape, .int n] t) Q Z := by
  show Wp (if (decide (0 < n) && decide (n.natAbs.log2 < 9000)) = true then .ok (.int ((fillA t).rest.fmod n), .fz) { fillA t with rest := (fillA t).rest.fdiv n } else .no) Q Z
  rw [if_pos (by rw [decide_eq_true h0, decide_eq_true (log_small h1 h0)]; rfl), wp_ok]
  refine q _ _ ?_ ?_
  · exact Int.fmod_nonneg_of_pos _ h0
  · exact Int.fmod_lt_of_pos _ h0
/-! ### tests whose ways come together again -/
section
variable {T : Type} {G : Pg T} {ρ : En} {Z : Zd T} {t : T} {c : Bool}
theorem if_and {e : E} {K : Qd T} (fin : ∀ b t, (b = true → c = true) → K (.bl b, .fz) t) (h : c = true → Wp (evalE G e ρ t) (fun x t => ∃ b, x = (.bl b, .fz)) Z) : ifG (.bl c) (.ge G e ρ K Z) (.gq K (.bl false, .fz)) t := by
  refine if_s (fun hc => ?_) fun _ => ?_
  · rw [go_e]
    exact (h hc).sub fun x t ⟨b, e⟩ => by rw [e]; exact fin b t fun _ => hc
  · exact fin false t fun z => by cases z
theorem if_or {e : E} {K : Qd T} (fin : ∀ b t, (b = false → c = false) → K (.bl b, .fz) t) (h : c = false → Wp (evalE G e ρ t) (fun x t => ∃ b, x = (.bl b, .fz)) Z) : ifG (.bl c) (.gq K (.bl true, .fz)) (.ge G e ρ K Z) t := by
  refine if_s (fun _ => ?_) fun hc => ?_
  · exact fin true t fun z => by cases z
  · rw [go_e]
    exact (h hc).sub fun x t ⟨b, e⟩ => by rw [e]; exact fin b t fun _ => hc
theorem if_e {e1 e2 : E} {K : Qd T} (P : Dk → T → Prop) (fin : ∀ x t, P x t → K x t) (h1 : c = true → Wp (evalE G e1 ρ t) P Z) (h2 : c = false → Wp (evalE G e2 ρ t) P Z) : ifG (.bl c) (.ge G e1 ρ K Z) (.ge G e2 ρ K Z) t :=
  if_s (fun hc => by rw [go_e]; exact (h1 hc).sub fin) fun hc => by rw [go_e]; exact (h2 hc).sub fin
theorem if_ss {fu : Nat} {a b : Ss} {K : Od T} (P : O → T → Prop) (fin : ∀ x t, P x t → K x t) (h1 : c = true → Wp (execSs G fu a ρ t) P Z) (h2 : c = false → Wp (execSs G fu b ρ t) P Z) : ifG (.bl c) (.gs G fu a ρ K Z) (.gs G fu b ρ K Z) t :=
  if_s (fun hc => by rw [go_s]; exact (h1 hc).sub fin) fun hc => by rw [go_s]; exact (h2 hc).sub fin
end
/-! ### own == -/
theorem eqO_p {T : Type} {c : Nat} {h : DFn T} {fs : List (Str × D)} {d : D} {b : Bool} {k : Kd} {t t' : T} (hd : plainD d = true) (e : h [.ins c fs, d] t = .ok (.bl b, k) t') : fEqO c h [(.ins c fs, .fz), (d, .fz)] t = .ok (.bl b, .fz) t' := by
  cases d <;> first | (cases hd; done) | simp [fEqO, tyOfD, callD, allFz, e, R.calm]
theorem eqO_i {T : Type} {c : Nat} {h : DFn T} {fs gs : List (Str × D)} {b : Bool} {k : Kd} {t t' : T} (e : h [.ins c fs, .ins c gs] t = .ok (.bl b, k) t') : fEqO c h [(.ins c fs, .fz), (.ins c gs, .fz)] t = .ok (.bl b, .fz) t' := by
  simp [fEqO, callD, allFz, e, R.calm]
/-! ### ranges -/
theorem mem_rngI {a b : Int} {d : D} (h : d ∈ rngI a b) : ∃ i : Int, d = .int i ∧ a ≤ i ∧ i < b := by
  unfold rngI at h
  obtain ⟨k, hk, rfl⟩ := List.mem_map.mp h
  have := List.mem_range.mp hk
  exact ⟨_, rfl, by omega, by omega⟩
theorem rngI_len (n : Nat) : (rngI 0 (n : Int)).length = n := by simp [rngI]
theorem rngI_at (n i : Nat) (h : i < n) : (rngI 0 (n : Int))[i]? = some (.int i) := by
  unfold rngI
  rw [List.getElem?_map, List.getElem?_range (by omega), Option.map_some, Int.zero_add]
/-- a loop by an invariant of the index -/
theorem wp_ix {T : Type} {bind : D → En → Option En} {f : En → T → R T O} {Q : Od T} {Z : Zd T} {xs : List D} {ρ : En} {t : T} (I : Nat → En → T → Prop) (h0 : I 0 ρ t)
    (st : ∀ i ρ t d, i < xs.length → xs[i]? = some d → I i ρ t → opK (bind d ρ) (kLp f (I (i + 1)) Q Z) t) (fin : ∀ ρ t, I xs.length ρ t → Q (.nx ρ) t) : Wp (forL bind f xs ρ t) Q Z := by
  refine wp_for (fun ys ρ t => ∃ i, i ≤ xs.length ∧ ys = xs.drop i ∧ I i ρ t) _ _ _ ⟨0, by omega, rfl, h0⟩ ?_ ?_
  · rintro d ds ρ t _ ⟨i, hi, e, h⟩
    by_cases hn : i < xs.length
    · rw [List.drop_eq_getElem_cons hn] at e
      cases e
      have s1 := st i ρ t xs[i] hn (List.getElem?_eq_getElem hn) h
      cases hb : bind xs[i] ρ with
      | none => rw [hb] at s1; exact s1.elim
      | some ρ1 =>
        rw [hb] at s1
        refine Wp.sub (show Wp (f ρ1 t) _ Z from s1) fun o t2 h2 => ?_
        cases o with
        | nx ρ2 => exact ⟨i + 1, by omega, rfl, h2⟩
        | ct ρ2 => exact ⟨i + 1, by omega, rfl, h2⟩
        | bk ρ2 => exact h2
        | rt d => exact h2
    · rw [List.drop_eq_nil_of_le (by omega)] at e
      cases e
  · rintro ρ t ⟨i, hi, e, h⟩
    have : i = xs.length := by
      have := congrArg List.length e
      rw [List.length_drop] at this
      simp at this
      omega
    subst this
    exact fin ρ t h
/-- a loop over range(n), by an invariant of the index -/
theorem wp_rng {T : Type} {bind : D → En → Option En} {f : En → T → R T O} {Q : Od T} {Z : Zd T} {n : Nat} {ρ : En} {t : T} (I : Nat → En → T → Prop) (h0 : I 0 ρ t)
    (st : ∀ i ρ t, i < n → I i ρ t → opK (bind (.int i) ρ) (kLp f (I (i + 1)) Q Z) t) (fin : ∀ ρ t, I n ρ t → Q (.nx ρ) t) : Wp (forL bind f (rngI 0 (n : Int)) ρ t) Q Z :=
  wp_ix I h0 (fun i ρ t d hi e h => by
    rw [rngI_len] at hi
    rw [rngI_at n i hi] at e
    cases e
    exact st i ρ t hi h) fun ρ t h => fin ρ t (by rwa [rngI_len] at h)

theorem enumD_length (xs : List D) : (enumD xs).length = xs.length := by simp [enumD]
theorem enumD_at (xs : List D) (i : Nat) (d : D) (h : xs[i]? = some d) : (enumD xs)[i]? = some (.tup [.int i, d]) := by
  unfold enumD
  rw [List.getElem?_map, List.getElem?_zipIdx, h]
  simp
/-- a loop over enumerate(xs) -/
theorem wp_enm {T : Type} {bind : D → En → Option En} {f : En → T → R T O} {Q : Od T} {Z : Zd T} {xs : List D} {ρ : En} {t : T} (I : Nat → En → T → Prop) (h0 : I 0 ρ t)
    (st : ∀ i ρ t d, i < xs.length → xs[i]? = some d → I i ρ t → opK (bind (.tup [.int i, d]) ρ) (kLp f (I (i + 1)) Q Z) t) (fin : ∀ ρ t, I xs.length ρ t → Q (.nx ρ) t) : Wp (forL bind f (enumD xs) ρ t) Q Z :=
  wp_ix I h0 (fun i ρ t d hi e h => by
    rw [enumD_length] at hi
    rw [enumD_at xs i xs[i] (List.getElem?_eq_getElem hi)] at e
    cases e
    exact st i ρ t _ hi (List.getElem?_eq_getElem hi) h) fun ρ t h => fin ρ t (by rwa [enumD_length] at h)
theorem atD_mem {xs : List D} {i : Int} (h0 : 0 ≤ i) (h : i < xs.length) : ∃ x ∈ xs, atD xs i = some x := by
  refine ⟨xs[i.toNat]'(by omega), List.getElem_mem _, ?_⟩
  have := atI_nat xs i.toNat (by omega)
  rwa [Int.toNat_of_nonneg h0] at this
theorem inRng_of {i : Int} (h : -1000000000000 < i) (h2 : i < 1000000000000) : inRng i = true := decide_eq_true ⟨by omega, by omega⟩
theorem lim_ge (n : Nat) (h : n ≤ 16000000) : n ≤ lim := by show n ≤ sizeLine; rw [sizeLine_eq]; omega
theorem lim_gt (n : Nat) (h : n < 16000000) : n < lim := by show n < sizeLine; rw [sizeLine_eq]; omega
theorem lim_0 : (([] : List D).length ≤ lim) = True := eq_true (lim_ge _ (by simp))
theorem lim_1 (a0 : D) : ([a0].length ≤ lim) = True := eq_true (lim_ge _ (by simp))
theorem lim_2 (a0 a1 : D) : ([a0, a1].length ≤ lim) = True := eq_true (lim_ge _ (by simp))
theorem lim_3 (a0 a1 a2 : D) : ([a0, a1, a2].length ≤ lim) = True := eq_true (lim_ge _ (by simp))
theorem lim_4 (a0 a1 a2 a3 : D) : ([a0, a1, a2, a3].length ≤ lim) = True := eq_true (lim_ge _ (by simp))
theorem lim_5 (a0 a1 a2 a3 a4 : D) : ([a0, a1, a2, a3, a4].length ≤ lim) = True := eq_true (lim_ge _ (by simp))
theorem lim_6 (a0 a1 a2 a3 a4 a5 : D) : ([a0, a1, a2, a3, a4, a5].length ≤ lim) = True := eq_true (lim_ge _ (by simp))
theorem lim_7 (a0 a1 a2 a3 a4 a5 a6 : D) : ([a0, a1, a2, a3, a4, a5, a6].length ≤ lim) = True := eq_true (lim_ge _ (by simp))
theorem lim_8 (a0 a1 a2 a3 a4 a5 a6 a7 : D) : ([a0, a1, a2, a3, a4, a5, a6, a7].length ≤ lim) = True := eq_true (lim_ge _ (by simp))
theorem lim_9 (a0 a1 a2 a3 a4 a5 a6 a7 a8 : D) : ([a0, a1, a2, a3, a4, a5, a6, a7, a8].length ≤ lim) = True := eq_true (lim_ge _ (by simp))
theorem lim_10 (a0 a1 a2 a3 a4 a5 a6 a7 a8 a9 : D) : ([a0, a1, a2, a3, a4, a5, a6, a7, a8, a9].length ≤ lim) = True := eq_true (lim_ge _ (by simp))
theorem lim_11 (a0 a1 a2 a3 a4 a5 a6 a7 a8 a9 a10 : D) : ([a0, a1, a2, a3, a4, a5, a6, a7, a8, a9, a10].length ≤ lim) = True := eq_true (lim_ge _ (by simp))
theorem lim_12 (a0 a1 a2 a3 a4 a5 a6 a7 a8 a9 a10 a11 : D) : ([a0, a1, a2, a3, a4, a5, a6, a7, a8, a9, a10, a11].length ≤ lim) = True := eq_true (lim_ge _ (by simp))
theorem lim_13 (a0 a1 a2 a3 a4 a5 a6 a7 a8 a9 a10 a11 a12 : D) : ([a0, a1, a2, a3, a4, a5, a6, a7, a8, a9, a10, a11, a12].length ≤ lim) = True := eq_true (lim_ge _ (by simp))
theorem lim_14 (a0 a1 a2 a3 a4 a5 a6 a7 a8 a9 a10 a11 a12 a13 : D) : ([a0, a1, a2, a3, a4, a5, a6, a7, a8, a9, a10, a11, a12, a13].length ≤ lim) = True := eq_true (lim_ge _ (by simp))
theorem lim_15 (a0 a1 a2 a3 a4 a5 a6 a7 a8 a9 a10 a11 a12 a13 a14 : D) : ([a0, a1, a2, a3, a4, a5, a6, a7, a8, a9, a10, a11, a12, a13, a14].length ≤ lim) = True := eq_true (lim_ge _ (by simp))
theorem lim_16 (a0 a1 a2 a3 a4 a5 a6 a7 a8 a9 a10 a11 a12 a13 a14 a15 : D) : ([a0, a1, a2, a3, a4, a5, a6, a7, a8, a9, a10, a11, a12, a13, a14, a15].length ≤ lim) = True := eq_true (lim_ge _ (by simp))
theorem lim_17 (a0 a1 a2 a3 a4 a5 a6 a7 a8 a9 a10 a11 a12 a13 a14 a15 a16 : D) : ([a0, a1, a2, a3, a4, a5, a6, a7, a8, a9, a10, a11, a12, a13, a14, a15, a16].length ≤ lim) = True := eq_true (lim_ge _ (by simp))
theorem lim_18 (a0 a1 a2 a3 a4 a5 a6 a7 a8 a9 a10 a11 a12 a13 a14 a15 a16 a17 : D) : ([a0, a1, a2, a3, a4, a5, a6, a7, a8, a9, a10, a11, a12, a13, a14, a15, a16, a17].length ≤ lim) = True := eq_true (lim_ge _ (by simp))
theorem lim_19 (a0 a1 a2 a3 a4 a5 a6 a7 a8 a9 a10 a11 a12 a13 a14 a15 a16 a17 a18 : D) : ([a0, a1, a2, a3, a4, a5, a6, a7, a8, a9, a10, a11, a12, a13, a14, a15, a16, a17, a18].length ≤ lim) = True := eq_true (lim_ge _ (by simp))
theorem lim_20 (a0 a1 a2 a3 a4 a5 a6 a7 a8 a9 a10 a11 a12 a13 a14 a15 a16 a17 a18 a19 : D) : ([a0, a1, a2, a3, a4, a5, a6, a7, a8, a9, a10, a11, a12, a13, a14, a15, a16, a17, a18, a19].length ≤ lim) = True := eq_true (lim_ge _ (by simp))
theorem lim_21 (a0 a1 a2 a3 a4 a5 a6 a7 a8 a9 a10 a11 a12 a13 a14 a15 a16 a17 a18 a19 a20 : D) : ([a0, a1, a2, a3, a4, a5, a6, a7, a8, a9, a10, a11, a12, a13, a14, a15, a16, a17, a18, a19, a20].length ≤ lim) = True := eq_true (lim_ge _ (by simp))
theorem lim_22 (a0 a1 a2 a3 a4 a5 a6 a7 a8 a9 a10 a11 a12 a13 a14 a15 a16 a17 a18 a19 a20 a21 : D) : ([a0, a1, a2, a3, a4, a5, a6, a7, a8, a9, a10, a11, a12, a13, a14, a15, a16, a17, a18, a19, a20, a21].length ≤ lim) = True := eq_true (lim_ge _ (by simp))
theorem lim_23 (a0 a1 a2 a3 a4 a5 a6 a7 a8 a9 a10 a11 a12 a13 a14 a15 a16 a17 a18 a19 a20 a21 a22 : D) : ([a0, a1, a2, a3, a4, a5, a6, a7, a8, a9, a10, a11, a12, a13, a14, a15, a16, a17, a18, a19, a20, a21, a22].length ≤ lim) = True := eq_true (lim_ge _ (by simp))
theorem lim_24 (a0 a1 a2 a3 a4 a5 a6 a7 a8 a9 a10 a11 a12 a13 a14 a15 a16 a17 a18 a19 a20 a21 a22 a23 : D) : ([a0, a1, a2, a3, a4, a5, a6, a7, a8, a9, a10, a11, a12, a13, a14, a15, a16, a17, a18, a19, a20, a21, a22, a23].length ≤ lim) = True := eq_true (lim_ge _ (by simp))
theorem lim_25 (a0 a1 a2 a3 a4 a5 a6 a7 a8 a9 a10 a11 a12 a13 a14 a15 a16 a17 a18 a19 a20 a21 a22 a23 a24 : D) : ([a0, a1, a2, a3, a4, a5, a6, a7, a8, a9, a10, a11, a12, a13, a14, a15, a16, a17, a18, a19, a20, a21, a22, a23, a24].length ≤ lim) = True := eq_true (lim_ge _ (by simp))
theorem lim_26 (a0 a1 a2 a3 a4 a5 a6 a7 a8 a9 a10 a11 a12 a13 a14 a15 a16 a17 a18 a19 a20 a21 a22 a23 a24 a25 : D) : ([a0, a1, a2, a3, a4, a5, a6, a7, a8, a9, a10, a11, a12, a13, a14, a15, a16, a17, a18, a19, a20, a21, a22, a23, a24, a25].length ≤ lim) = True := eq_true (lim_ge _ (by simp))
end DE
set_option maxHeartbeats 1000000
namespace LawX
open PySem PySem.Spec PyProof.Rows L2 DE He
theorem lf_is_between_0 : G_is_between.fns[0]? = some (i_is_number, f_is_number) := rfl
theorem df_is_number (n : Nat) : DE.dflt i_is_number n = [] := by simp [DE.dflt]
theorem lf_is_bits_1 : G_is_bits.fns[1]? = some (i_is_between, f_is_between) := rfl
theorem df_is_between (n : Nat) : DE.dflt i_is_between n = [] := by simp [DE.dflt]
theorem lf_is_bits_2 : G_is_bits.fns[2]? = some (i_is_list, f_is_list) := rfl
theorem df_is_list (n : Nat) : DE.dflt i_is_list n = [] := by simp [DE.dflt]
theorem lf_Weather_init_1 : G_Weather_init.fns[1]? = some (i_is_between, f_is_between) := rfl
theorem lc_Weather_init_MOST_LATE : List.lookup ("MOST_LATE" : Str) G_Weather_init.cons = some (.int 8 : D) := rfl
theorem lc_Weather_init_MOST_SPAN : List.lookup ("MOST_SPAN" : Str) G_Weather_init.cons = some (.int 12 : D) := rfl
theorem lp_Weather_run_9 : G_Weather_run.prims[9]? = some p9 := rfl
theorem lp_Weather_many_9 : G_Weather_many.prims[9]? = some p9 := rfl
theorem lp_Weather_span_9 : G_Weather_span.prims[9]? = some p9 := rfl
theorem lp_Weather_late_9 : G_Weather_late.prims[9]? = some p9 := rfl
theorem lp_Weather___eq___4 : G_Weather___eq__.prims[4]? = some p4 := rfl
theorem lp_Weather___eq___9 : G_Weather___eq__.prims[9]? = some p9 := rfl
theorem lp_may_lose_0 : G_may_lose.prims[0]? = some p0 := rfl
theorem lp_may_lose_12 : G_may_lose.prims[12]? = some p12 := rfl
theorem lp_may_lose_13 : G_may_lose.prims[13]? = some p13 := rfl
theorem lp_need_weather_4 : G_need_weather.prims[4]? = some p4 := rfl
theorem lf_keeps_to_3 : G_keeps_to.fns[3]? = some (i_is_bits, f_is_bits) := rfl
theorem df_is_bits (n : Nat) : DE.dflt i_is_bits n = [] := by simp [DE.dflt]
theorem lf_keeps_to_4 : G_keeps_to.fns[4]? = some (i_may_lose, f_may_lose) := rfl
theorem df_may_lose (n : Nat) : DE.dflt i_may_lose n = [] := by simp [DE.dflt]
theorem lf_keeps_to_5 : G_keeps_to.fns[5]? = some (i_need_weather, f_need_weather) := rfl
theorem df_need_weather (n : Nat) : DE.dflt i_need_weather n = [] := by simp [DE.dflt]
theorem lp_keeps_to_1 : G_keeps_to.prims[1]? = some p1 := rfl
theorem lp_keeps_to_14 : G_keeps_to.prims[14]? = some p14 := rfl
theorem lf_let_next_3 : G_let_next.fns[3]? = some (i_is_bits, f_is_bits) := rfl
theorem lf_let_next_4 : G_let_next.fns[4]? = some (i_may_lose, f_may_lose) := rfl
theorem lf_let_next_5 : G_let_next.fns[5]? = some (i_need_weather, f_need_weather) := rfl
theorem lp_let_next_14 : G_let_next.prims[14]? = some p14 := rfl
theorem lf__law_pick_8 : G__law_pick.fns[8]? = some (i__law_draw, f__law_draw) := rfl
theorem df__law_draw (n : Nat) : DE.dflt i__law_draw n = [] := by simp [DE.dflt]
theorem lf__law_weather_8 : G__law_weather.fns[8]? = some (i__law_draw, f__law_draw) := rfl
theorem lf__law_weather_9 : G__law_weather.fns[9]? = some (i__law_pick, f__law_pick) := rfl
theorem df__law_pick (n : Nat) : DE.dflt i__law_pick n = [] := by simp [DE.dflt]
theorem lp__law_may_be_lost_0 : G__law_may_be_lost.prims[0]? = some p0 := rfl
theorem lp__law_may_be_lost_3 : G__law_may_be_lost.prims[3]? = some p3 := rfl
theorem lf__law_wrong_part_12 : G__law_wrong_part.fns[12]? = some (i__law_is_number, f__law_is_number) := rfl
theorem df__law_is_number (n : Nat) : DE.dflt i__law_is_number n = [] := by simp [DE.dflt]
theorem lp__law_keeps_0 : G__law_keeps.prims[0]? = some p0 := rfl
theorem lf__law_row_8 : G__law_row.fns[8]? = some (i__law_draw, f__law_draw) := rfl
theorem lf__law_row_9 : G__law_row.fns[9]? = some (i__law_pick, f__law_pick) := rfl
theorem lf__law_row_11 : G__law_row.fns[11]? = some (i__law_may_be_lost, f__law_may_be_lost) := rfl
theorem df__law_may_be_lost (n : Nat) : DE.dflt i__law_may_be_lost n = [] := by simp [DE.dflt]
theorem lp__law_row_1 : G__law_row.prims[1]? = some p1 := rfl
theorem lf__law_made_right_8 : G__law_made_right.fns[8]? = some (i__law_draw, f__law_draw) := rfl
theorem lf__law_made_right_9 : G__law_made_right.fns[9]? = some (i__law_pick, f__law_pick) := rfl
theorem lf__law_made_right_13 : G__law_made_right.fns[13]? = some (i__law_wrong_part, f__law_wrong_part) := rfl
theorem df__law_wrong_part (n : Nat) : DE.dflt i__law_wrong_part n = [] := by simp [DE.dflt]
theorem lp__law_made_right_2 : G__law_made_right.prims[2]? = some p2 := rfl
theorem lp__law_made_right_5 : G__law_made_right.prims[5]? = some p5 := rfl
theorem lp__law_made_right_8 : G__law_made_right.prims[8]? = some p8 := rfl
theorem lp__law_made_right_10 : G__law_made_right.prims[10]? = some p10 := rfl
theorem lp__law_made_right_11 : G__law_made_right.prims[11]? = some p11 := rfl
theorem lp__law_made_right_12 : G__law_made_right.prims[12]? = some p12 := rfl
theorem lp__law_made_right_13 : G__law_made_right.prims[13]? = some p13 := rfl
theorem lp__law_made_right_14 : G__law_made_right.prims[14]? = some p14 := rfl
theorem lp__law_made_right_15 : G__law_made_right.prims[15]? = some p15 := rfl
theorem lp__law_made_right_16 : G__law_made_right.prims[16]? = some p16 := rfl
theorem ln__law_made_right : G__law_made_right.cls.length = 5 := rfl
theorem lf__law_rows_right_6 : G__law_rows_right.fns[6]? = some (i_keeps_to, f_keeps_to) := rfl
theorem df_keeps_to (n : Nat) : DE.dflt i_keeps_to n = [] := by simp [DE.dflt]
theorem lf__law_rows_right_7 : G__law_rows_right.fns[7]? = some (i_let_next, f_let_next) := rfl
theorem df_let_next (n : Nat) : DE.dflt i_let_next n = [] := by simp [DE.dflt]
theorem lf__law_rows_right_11 : G__law_rows_right.fns[11]? = some (i__law_may_be_lost, f__law_may_be_lost) := rfl
theorem lf__law_rows_right_14 : G__law_rows_right.fns[14]? = some (i__law_keeps, f__law_keeps) := rfl
theorem df__law_keeps (n : Nat) : DE.dflt i__law_keeps n = [] := by simp [DE.dflt]
theorem lf__law_rows_right_15 : G__law_rows_right.fns[15]? = some (i__law_row, f__law_row) := rfl
theorem df__law_row (n : Nat) : DE.dflt i__law_row n = [] := by simp [DE.dflt]
theorem lp__law_rows_right_1 : G__law_rows_right.prims[1]? = some p1 := rfl
theorem lp__law_rows_right_2 : G__law_rows_right.prims[2]? = some p2 := rfl
theorem lf__law_refused_right_6 : G__law_refused_right.fns[6]? = some (i_keeps_to, f_keeps_to) := rfl
theorem lf__law_refused_right_7 : G__law_refused_right.fns[7]? = some (i_let_next, f_let_next) := rfl
theorem lf__law_refused_right_9 : G__law_refused_right.fns[9]? = some (i__law_pick, f__law_pick) := rfl
theorem lp__law_refused_right_1 : G__law_refused_right.prims[1]? = some p1 := rfl
theorem lp__law_refused_right_5 : G__law_refused_right.prims[5]? = some p5 := rfl
theorem lp__law_refused_right_6 : G__law_refused_right.prims[6]? = some p6 := rfl
theorem lp__law_refused_right_7 : G__law_refused_right.prims[7]? = some p7 := rfl
theorem lp__law_refused_right_8 : G__law_refused_right.prims[8]? = some p8 := rfl
theorem ln__law_refused_right : G__law_refused_right.cls.length = 5 := rfl
theorem lf_law_6 : G_law.fns[6]? = some (i_keeps_to, f_keeps_to) := rfl
theorem lf_law_7 : G_law.fns[7]? = some (i_let_next, f_let_next) := rfl
theorem lf_law_10 : G_law.fns[10]? = some (i__law_weather, f__law_weather) := rfl
theorem df__law_weather (n : Nat) : DE.dflt i__law_weather n = [] := by simp [DE.dflt]
theorem lf_law_16 : G_law.fns[16]? = some (i__law_made_right, f__law_made_right) := rfl
theorem df__law_made_right (n : Nat) : DE.dflt i__law_made_right n = [] := by simp [DE.dflt]
theorem lf_law_17 : G_law.fns[17]? = some (i__law_rows_right, f__law_rows_right) := rfl
theorem df__law_rows_right (n : Nat) : DE.dflt i__law_rows_right n = [] := by simp [DE.dflt]
theorem lf_law_18 : G_law.fns[18]? = some (i__law_refused_right, f__law_refused_right) := rfl
theorem df__law_refused_right (n : Nat) : DE.dflt i__law_refused_right n = [] := by simp [DE.dflt]
theorem lp_law_2 : G_law.prims[2]? = some p2 := rfl
theorem lp_law_10 : G_law.prims[10]? = some p10 := rfl
theorem st_is_number (d0 : D) (t : DE.TA) (Q : Qd DE.TA) (Z : Zd DE.TA) : Wp (f_is_number [d0] t) Q Z = Wp (execSs G_is_number 0 s_is_number [.fz d0] t) (kEnd Q) Z := wp_run ..
theorem st_is_between (d0 d1 d2 : D) (t : DE.TA) (Q : Qd DE.TA) (Z : Zd DE.TA) : Wp (f_is_between [d0, d1, d2] t) Q Z = Wp (execSs G_is_between 0 s_is_between [.fz d0, .fz d1, .fz d2] t) (kEnd Q) Z := wp_run ..
theorem st_is_list (d0 : D) (t : DE.TA) (Q : Qd DE.TA) (Z : Zd DE.TA) : Wp (f_is_list [d0] t) Q Z = Wp (execSs G_is_list 0 s_is_list [.fz d0] t) (kEnd Q) Z := wp_run ..
theorem st_is_bits (d0 : D) (t : DE.TA) (Q : Qd DE.TA) (Z : Zd DE.TA) : Wp (f_is_bits [d0] t) Q Z = Wp (execSs G_is_bits 0 s_is_bits [.fz d0, .un] t) (kEnd Q) Z := wp_run ..
theorem st_Weather_init (d0 d1 d2 d3 : D) (t : DE.TA) (Q : Qd DE.TA) (Z : Zd DE.TA) : Wp (f_Weather_init [d0, d1, d2, d3] t) Q Z = Wp (execSs G_Weather_init 0 s_Weather_init [.lock 0, .fz d0, .fz d1, .fz d2, .fz d3] t) (kMk G_Weather_init q_Weather_init 5 Q Z) Z := wp_mkFn ..
theorem st_Weather_run (d0 : D) (t : DE.TA) (Q : Qd DE.TA) (Z : Zd DE.TA) : Wp (f_Weather_run [d0] t) Q Z = Wp (execSs G_Weather_run 0 s_Weather_run [.fz d0] t) (kEnd Q) Z := wp_run ..
theorem st_Weather_many (d0 : D) (t : DE.TA) (Q : Qd DE.TA) (Z : Zd DE.TA) : Wp (f_Weather_many [d0] t) Q Z = Wp (execSs G_Weather_many 0 s_Weather_many [.fz d0] t) (kEnd Q) Z := wp_run ..
theorem st_Weather_span (d0 : D) (t : DE.TA) (Q : Qd DE.TA) (Z : Zd DE.TA) : Wp (f_Weather_span [d0] t) Q Z = Wp (execSs G_Weather_span 0 s_Weather_span [.fz d0] t) (kEnd Q) Z := wp_run ..
theorem st_Weather_late (d0 : D) (t : DE.TA) (Q : Qd DE.TA) (Z : Zd DE.TA) : Wp (f_Weather_late [d0] t) Q Z = Wp (execSs G_Weather_late 0 s_Weather_late [.fz d0] t) (kEnd Q) Z := wp_run ..
theorem st_Weather___eq__ (d0 d1 : D) (t : DE.TA) (Q : Qd DE.TA) (Z : Zd DE.TA) : Wp (f_Weather___eq__ [d0, d1] t) Q Z = Wp (execSs G_Weather___eq__ 0 s_Weather___eq__ [.fz d0, .fz d1] t) (kEnd Q) Z := wp_run ..
theorem st_may_lose (d0 d1 : D) (t : DE.TA) (Q : Qd DE.TA) (Z : Zd DE.TA) : Wp (f_may_lose [d0, d1] t) Q Z = Wp (execSs G_may_lose 0 s_may_lose [.fz d0, .fz d1, .un, .un] t) (kEnd Q) Z := wp_run ..
theorem st_need_weather (d0 : D) (t : DE.TA) (Q : Qd DE.TA) (Z : Zd DE.TA) : Wp (f_need_weather [d0] t) Q Z = Wp (execSs G_need_weather 0 s_need_weather [.fz d0] t) (kEnd Q) Z := wp_run ..
theorem st_keeps_to (d0 d1 : D) (t : DE.TA) (Q : Qd DE.TA) (Z : Zd DE.TA) : Wp (f_keeps_to [d0, d1] t) Q Z = Wp (execSs G_keeps_to 0 s_keeps_to [.fz d0, .fz d1, .un, .un] t) (kEnd Q) Z := wp_run ..
theorem st_let_next (d0 d1 : D) (t : DE.TA) (Q : Qd DE.TA) (Z : Zd DE.TA) : Wp (f_let_next [d0, d1] t) Q Z = Wp (execSs G_let_next 0 s_let_next [.fz d0, .fz d1] t) (kEnd Q) Z := wp_run ..
theorem st__law_pick (d0 d1 : D) (t : DE.TA) (Q : Qd DE.TA) (Z : Zd DE.TA) : Wp (f__law_pick [d0, d1] t) Q Z = Wp (execSs G__law_pick 0 s__law_pick [.fz d0, .fz d1] t) (kEnd Q) Z := wp_run ..
theorem st__law_weather (d0 d1 : D) (t : DE.TA) (Q : Qd DE.TA) (Z : Zd DE.TA) : Wp (f__law_weather [d0, d1] t) Q Z = Wp (execSs G__law_weather 0 s__law_weather [.fz d0, .fz d1, .un, .un, .un] t) (kEnd Q) Z := wp_run ..
theorem st__law_may_be_lost (d0 d1 : D) (t : DE.TA) (Q : Qd DE.TA) (Z : Zd DE.TA) : Wp (f__law_may_be_lost [d0, d1] t) Q Z = Wp (execSs G__law_may_be_lost 0 s__law_may_be_lost [.fz d0, .fz d1, .un, .un] t) (kEnd Q) Z := wp_run ..
theorem st__law_is_number (d0 d1 d2 : D) (t : DE.TA) (Q : Qd DE.TA) (Z : Zd DE.TA) : Wp (f__law_is_number [d0, d1, d2] t) Q Z = Wp (execSs G__law_is_number 0 s__law_is_number [.fz d0, .fz d1, .fz d2] t) (kEnd Q) Z := wp_run ..
theorem st__law_wrong_part (d0 d1 d2 d3 : D) (t : DE.TA) (Q : Qd DE.TA) (Z : Zd DE.TA) : Wp (f__law_wrong_part [d0, d1, d2, d3] t) Q Z = Wp (execSs G__law_wrong_part 0 s__law_wrong_part [.fz d0, .fz d1, .fz d2, .fz d3] t) (kEnd Q) Z := wp_run ..
theorem st__law_keeps (d0 d1 : D) (t : DE.TA) (Q : Qd DE.TA) (Z : Zd DE.TA) : Wp (f__law_keeps [d0, d1] t) Q Z = Wp (execSs G__law_keeps 0 s__law_keeps [.fz d0, .fz d1, .un, .un, .un] t) (kEnd Q) Z := wp_run ..
theorem st__law_row (d0 d1 : D) (t : DE.TA) (Q : Qd DE.TA) (Z : Zd DE.TA) : Wp (f__law_row [d0, d1] t) Q Z = Wp (execSs G__law_row 0 s__law_row [.fz d0, .fz d1, .un, .un, .un, .un, .un] t) (kEnd Q) Z := wp_run ..
theorem st__law_made_right (d0 d1 : D) (t : DE.TA) (Q : Qd DE.TA) (Z : Zd DE.TA) : Wp (f__law_made_right [d0, d1] t) Q Z = Wp (execSs G__law_made_right 0 s__law_made_right [.fz d0, .fz d1, .un, .un, .un, .un, .un, .un, .un, .un, .un, .un] t) (kEnd Q) Z := wp_run ..
theorem st__law_rows_right (d0 d1 d2 : D) (t : DE.TA) (Q : Qd DE.TA) (Z : Zd DE.TA) : Wp (f__law_rows_right [d0, d1, d2] t) Q Z = Wp (execSs G__law_rows_right 0 s__law_rows_right [.fz d0, .fz d1, .fz d2, .un, .un, .un, .un, .un, .un, .un, .un, .un] t) (kEnd Q) Z := wp_run ..
theorem st__law_refused_right (d0 d1 d2 : D) (t : DE.TA) (Q : Qd DE.TA) (Z : Zd DE.TA) : Wp (f__law_refused_right [d0, d1, d2] t) Q Z = Wp (execSs G__law_refused_right 0 s__law_refused_right [.fz d0, .fz d1, .fz d2, .un, .un, .un, .un, .un, .un, .un] t) (kEnd Q) Z := wp_run ..
theorem pf_p0 : p0.f = (pSum : Prim DE.TA).f := rfl
theorem pf_p1 : p1.f = (pMul : Prim DE.TA).f := rfl
theorem pf_p2 : p2.f = (pRepr : Prim DE.TA).f := rfl
theorem pf_p3 : p3.f = (pRevT : Prim DE.TA).f := rfl
theorem pf_p4 : p4.f = (pIsi "Weather" (subD [false, false, false, false, false] [(5, true)]) : Prim DE.TA).f := rfl
theorem pf_p5 : p5.f = (pIsi "BadWeather" (subD [false, false, true, false, false] [(5, false)]) : Prim DE.TA).f := rfl
theorem pf_p6 : p6.f = (pIsi "BadBits" (subD [false, false, false, true, false] [(5, false)]) : Prim DE.TA).f := rfl
theorem pf_p7 : p7.f = (pIsi "BadMemory" (subD [false, false, false, false, true] [(5, false)]) : Prim DE.TA).f := rfl
theorem pf_p8 : p8.f = (pXf "part" ATR 5 : Prim DE.TA).f := rfl
theorem pf_p9 : p9.f = (pAtt "numbers" [5] : Prim DE.TA).f := rfl
theorem pf_p10 : p10.f = (pMk "Weather" 4 f_Weather_init : Prim DE.TA).f := rfl
theorem pf_p11 : p11.f = (pMkK "Weather" ["late", "span", "many", "run"] 4 [3, 2, 1, 0] f_Weather_init : Prim DE.TA).f := rfl
theorem pf_p12 : p12.f = (pProp "run" 5 f_Weather_run : Prim DE.TA).f := rfl
theorem pf_p13 : p13.f = (pProp "many" 5 f_Weather_many : Prim DE.TA).f := rfl
theorem pf_p14 : p14.f = (pProp "span" 5 f_Weather_span : Prim DE.TA).f := rfl
theorem pf_p15 : p15.f = (pProp "late" 5 f_Weather_late : Prim DE.TA).f := rfl
theorem pf_p16 : p16.f = (pEq 5 f_Weather___eq__ : Prim DE.TA).f := rfl
end LawX
set_option maxHeartbeats 1000000
local macro_rules | `(tactic| simp_all only [$xs,*]) => `(tactic| simp -implicitDefEqProofs only [↓DE.wp_ok, ↓DE.wp_ex, ↓DE.wp_bind, ↓DE.wp_calm, ↓DE.wp_var, ↓DE.wp_non, ↓DE.wp_noe, ↓DE.wp_bl, ↓DE.wp_int, ↓DE.wp_str, ↓DE.wp_con, ↓DE.wp_bin, ↓DE.wp_neg, ↓DE.wp_not, ↓DE.wp_and, ↓DE.wp_or, ↓DE.wp_ite, ↓DE.wp_cmp, ↓DE.wp_chn, ↓DE.wp_chn3, ↓DE.wp_isi, ↓DE.wp_bi, ↓DE.wp_tup, ↓DE.wp_lst, ↓DE.wp_idx, ↓DE.wp_slc, ↓DE.wp_call, ↓DE.wp_callD, ↓DE.wp_callk, ↓DE.wp_prim, ↓DE.wp_caught, ↓DE.wp_cw, ↓DE.wp_dct, ↓DE.wps_nil, ↓DE.wps_cons, ↓DE.wps_star, ↓DE.wpc_nil, ↓DE.wpc_cons, ↓DE.wpi_seq, ↓DE.wpi_rng1, ↓DE.wpi_rng2, ↓DE.wpi_enum, ↓DE.wpi_zip, ↓DE.wpi_prim, ↓DE.wp_lc, ↓DE.wp_lcF, ↓DE.wss_nil, ↓DE.wss_cons, ↓DE.ws_asg, ↓DE.ws_par, ↓DE.ws_ex, ↓DE.ws_ret, ↓DE.ws_retN, ↓DE.ws_ite, ↓DE.ws_brk, ↓DE.ws_cnt, ↓DE.ws_pass, ↓DE.ws_rai, ↓DE.ws_rai0, ↓DE.ws_frz, ↓DE.ws_app, ↓DE.ws_set, ↓DE.ws_pop, ↓DE.ws_appPop, ↓DE.ws_fr, ↓DE.ws_wh, ↓DE.ws_lams, ↓DE.ws_prim, ↓DE.wpp_nil, ↓DE.wpp_cons, ↓DE.wp_forK0, ↓DE.wp_forKs, DE.kF, DE.opK_some, DE.go_e, DE.go_q, DE.go_ch, DE.go_ch3, DE.go_c, DE.go_cq, DE.go_lf, DE.go_lq, DE.go_s, DE.kB, DE.kI, DE.kD, DE.kCmp2, DE.kCh3b, DE.ch3_t, DE.ch3_f, DE.kO, DE.kSome, DE.if_t, DE.if_f, DE.slK_fz, DE.slK_ow, DE.kBin2, DE.kBin, DE.kNeg, DE.kNot, DE.kAnd, DE.kOr, DE.kIte, DE.kCmp, DE.kChn3, DE.kChn2, DE.kChn, DE.k3Chn3, DE.k3Chn2, DE.k3Chn, DE.kIsi, DE.kBi, DE.kTup2, DE.kTup, DE.kLst2, DE.kLst, DE.kIdx2, DE.kIdx, DE.kSlc5, DE.kSlc4, DE.kSlc3, DE.kSlc2, DE.kSlc, DE.kFlat, DE.kFlatX, DE.callK_some, DE.callK_none, DE.kCall2, DE.kCall, DE.kCallk4, DE.kCallk3, DE.kCallk2, DE.kCallk, DE.kPrim2, DE.kPrim, DE.kCau, DE.kCauX, DE.kCw, DE.lkK_at, DE.kDct2, DE.kDct, DE.kCons2, DE.kCons, DE.kApp, DE.kStar2, DE.kStar, DE.kCc, DE.kSeq2, DE.kSeq, DE.kRng2, DE.kRng, DE.kRgb4, DE.kRgb3, DE.kRgb2, DE.kRgb, DE.kEnum2, DE.kEnum, DE.kZip2, DE.kZip, DE.kIpr2, DE.kIpr, DE.kLf2, DE.kLf, DE.kLc2, DE.kLc, DE.ss_nx, DE.ss_rt, DE.ss_bk, DE.ss_ct, DE.kN, DE.asg_fz, DE.asg_frT, DE.asg_frF, DE.kPar, DE.kEx, DE.ret_fz, DE.ret_fr, DE.ret_br, DE.kIf, DE.kZ, DE.kRai, DE.frK_ow, DE.frK_fz, DE.kApp3, DE.kApp2, DE.apK_at, DE.kSet4, DE.kSet3, DE.kSet2, DE.kSet, DE.stK_at, DE.kPop2, DE.kPop, DE.ppK_at, DE.kAp2, DE.kAp, DE.aaK_at, DE.bdT, DE.bdS, DE.bdE, DE.kFr, DE.kSpr, DE.kSp, DE.lp_nx, DE.lp_ct, DE.lp_bk, DE.lp_rt, DE.kLp, DE.lc_some, DE.lc_none, DE.wh_t, DE.wh_f, DE.end_nx, DE.end_fz, DE.end_fr, DE.kMk2, DE.mk_nx, DE.kPo2, DE.kPo, DE.fk_nx, DE.fk_ct, DE.fk_bk, DE.fk_rt, DE.wl_fns, DE.wl_cls, DE.wl_cons, DE.wl_prims, DE.wl_lams, DE.lam_cons, DE.lam_nil, DE.noLk_nil, DE.noLk_fz, DE.noLk_ow, DE.noLk_un, DE.fz_ne, DE.frz_fz, DE.frz_fr, DE.parL_nil, DE.parL_fz, DE.parL_frT, DE.parL_frF, DE.setE_0f, DE.setE_0o, DE.setE_0u, DE.setE_s, DE.bindT_nm, DE.bindT_tp, DE.bindL_nil, DE.bindL_cons, DE.okW_nil, DE.okW_cons, DE.isLock_fz, DE.isLock_ow, DE.isLock_un, DE.allFz_nil, DE.allFz_fz, DE.allFz_fr, DE.allFz_br, DE.fzOf_fz, DE.fzOf_fr, DE.op_add, DE.op_sub, DE.neg_int, DE.not_bl, DE.cmp_lt, DE.cmp_le, DE.cmp_gt, DE.cmp_ge, DE.cmp_is, DE.cmp_isnot, DE.len_lst, DE.len_tup, DE.len_scr, DE.bi_min, DE.bi_max, DE.bi_abs, DE.bi_int, DE.bi_intb, DE.bi_listL, DE.bi_listT, DE.bi_tupL, DE.bi_tupT, DE.idx_lst, DE.idx_tup, DE.idx_dct, DE.slc_lst, DE.slc_tup, DE.optI_n, DE.optI_i, DE.intOf_i, DE.lstOf_l, DE.zipOf_l, DE.zipOf_t, DE.seqOf_l, DE.seqOf_t, DE.itOf_l, DE.itOf_t, DE.itOf_s, DE.permL_nil, DE.permL_cons, DE.allFz_app, DE.wipeE, DE.isNoe, DE.isNon, DE.ty_non_int, DE.ty_non_bool, DE.ty_non_tuple, DE.ty_non_list, DE.ty_non_str, DE.ty_non_dict, DE.ty_non_seq, DE.ty_bl_int, DE.ty_bl_bool, DE.ty_bl_tuple, DE.ty_bl_list, DE.ty_bl_str, DE.ty_bl_dict, DE.ty_bl_seq, DE.ty_int_int, DE.ty_int_bool, DE.ty_int_tuple, DE.ty_int_list, DE.ty_int_str, DE.ty_int_dict, DE.ty_int_seq, DE.ty_str_int, DE.ty_str_bool, DE.ty_str_tuple, DE.ty_str_list, DE.ty_str_str, DE.ty_str_dict, DE.ty_str_seq, DE.ty_tup_int, DE.ty_tup_bool, DE.ty_tup_tuple, DE.ty_tup_list, DE.ty_tup_str, DE.ty_tup_dict, DE.ty_tup_seq, DE.ty_lst_int, DE.ty_lst_bool, DE.ty_lst_tuple, DE.ty_lst_list, DE.ty_lst_str, DE.ty_lst_dict, DE.ty_lst_seq, DE.ty_dct_int, DE.ty_dct_bool, DE.ty_dct_tuple, DE.ty_dct_list, DE.ty_dct_str, DE.ty_dct_dict, DE.ty_dct_seq, DE.lim_0, DE.lim_1, DE.lim_2, DE.lim_3, DE.lim_4, DE.lim_5, DE.lim_6, DE.lim_7, DE.lim_8, DE.lim_9, DE.lim_10, DE.lim_11, DE.lim_12, DE.lim_13, DE.lim_14, DE.lim_15, DE.lim_16, DE.lim_17, DE.lim_18, DE.lim_19, DE.lim_20, DE.lim_21, DE.lim_22, DE.lim_23, DE.lim_24, DE.lim_25, DE.lim_26, List.getElem?_cons_zero, List.getElem?_cons_succ, Option.map_some, Option.map_none, Option.bind_some, List.set_cons_zero, List.set_cons_succ, List.cons_append, List.nil_append, List.append_nil, List.map_cons, List.map_nil, Bool.not_true, Bool.not_false, Bool.true_and, Bool.and_true, true_and, if_true, if_false, Nat.reduceAdd, Nat.reduceLT, $xs,*])
namespace LawX
open PySem PySem.Spec PyProof.Rows L2 DE He
theorem e_is_number (d : D) (t : DE.TA) (h : plainD d = true) : f_is_number [d] t = .ok (.bl (isI d), .fz) t := by
  refine Wp.eq ?_
  rw [st_is_number]
  unfold s_is_number
  simp_all only []
  cases d <;> first | (cases h; done) | exact isR.at rfl | (simp_all only []; exact isR.at rfl)
theorem e_is_between (d : D) (a b : Int) (t : DE.TA) (h : plainD d = true) : f_is_between [d, .int a, .int b] t = .ok (.bl (inB d a b), .fz) t := by
  refine Wp.eq ?_
  rw [st_is_between]
  unfold s_is_between
  simp_all only [lf_is_between_0, df_is_number, e_is_number _ _ h]
  cases d <;> first | (cases h; done) | exact isR.at rfl | (simp_all only []; exact isR.at rfl) | skip
  rename_i i
  simp only [isI]
  simp_all only [lf_is_between_0, df_is_number]
  refine if_d (fun h => ?_) fun h => ?_
  · simp_all only [lf_is_between_0, df_is_number]
    exact isR.at (by simp only [inB, decide_eq_true h, Bool.true_and])
  · simp_all only [lf_is_between_0, df_is_number]
    exact isR.at (by simp only [inB, decide_eq_false h, Bool.false_and])
theorem e_is_list (d : D) (t : DE.TA) (h : plainD d = true) : f_is_list [d] t = .ok (.bl (isSeq d), .fz) t := by
  refine Wp.eq ?_
  rw [st_is_list]
  unfold s_is_list
  simp_all only []
  cases d <;> first | (cases h; done) | exact isR.at rfl | (simp_all only []; exact isR.at rfl)
def bitsD (d : D) : Bool := match d with
  | .lst xs => xs.all fun x => inB x 0 1
  | .tup xs => xs.all fun x => inB x 0 1
  | _ => false
def plainS (d : D) : Prop := match d with
  | .lst xs => (∀ x ∈ xs, plainD x = true) ∧ xs.length ≤ lim
  | .tup xs => (∀ x ∈ xs, plainD x = true) ∧ xs.length ≤ lim
  | d => plainD d = true
theorem e_is_bits (d : D) (t : DE.TA) (h : plainS d) : f_is_bits [d] t = .ok (.bl (bitsD d), .fz) t := by
  have hd : plainD d = true := by cases d <;> first | rfl | exact h
  refine Wp.eq ?_
  rw [st_is_bits]
  unfold s_is_bits
  simp_all only [lf_is_bits_1, df_is_between, lf_is_bits_2, df_is_list, e_is_list _ _ hd]
  have key : ∀ xs : List D, (∀ x ∈ xs, plainD x = true) → ∀ t, lcL (lcF G_is_bits (E.call 1 (Es.cons (E.var 1) (Es.cons (E.int 0) (Es.cons (E.int 1) Es.nil)))) (Tg.nm 1) Es.nil [("item", 1)] [SV.fz d, SV.un]) xs t = .ok (xs.map fun x => .bl (inB x 0 1)) t := fun xs hx t =>
    lcL_map fun x hx' => Wp.eq (by simp_all only [lf_is_bits_1, df_is_between, lf_is_bits_2, df_is_list, e_is_between _ _ _ _ (hx x hx')]; exact isR.at rfl)
  cases d <;> first | (cases hd; done) | exact isR.at rfl | (simp_all only []; exact isR.at rfl) | skip
  all_goals
    rename_i xs
    simp only [isSeq]
    simp_all only [lf_is_bits_1, df_is_between, lf_is_bits_2, df_is_list]
    refine Wp.of (key xs h.1 t) ?_
    simp_all only [bi_all, boolsOf_mapf]
    refine ⟨by rw [List.length_map]; exact h.2, isR.at ?_⟩
    simp [bitsD, List.all_map]
end LawX
set_option maxHeartbeats 1000000
namespace LawX
open PySem PySem.Spec PyProof.Rows L2 DE He
def ofI (d : D) : Int := match d with
  | .int i => i
  | _ => 0
def mn (i : Int) : Int := if 1 < i then 1 else i
theorem mn_spec (i : Int) : (1 < i ∧ mn i = 1) ∨ (i ≤ 1 ∧ mn i = i) := by unfold mn; split <;> omega
def wrongP (r m s l : D) : Option Str := if inB s 2 12 then (if inB m 0 (ofI s - 1) then (if inB r (mn (ofI m)) (ofI m) then (if inB l 0 8 then none else some "late") else some "run") else some "many") else some "span"
theorem inB_int {d : D} {a b : Int} (h : inB d a b = true) : ∃ i, d = .int i ∧ a ≤ i ∧ i ≤ b := by
  cases d <;> first | (cases h; done) | skip
  rename_i i
  obtain ⟨h1, h2⟩ := and3 h
  exact ⟨i, rfl, of_decide_eq_true h1, of_decide_eq_true h2⟩
theorem inB_ofI {d : D} {a b : Int} (h : inB d a b = true) : d = .int (ofI d) := by
  obtain ⟨i, rfl, _⟩ := inB_int h
  rfl
theorem e_init {Q : Qd DE.TA} {Z : Zd DE.TA} (r m s l : D) (t : DE.TA) (hr : plainD r = true) (hm : plainD m = true) (hs : plainD s = true) (hl : plainD l = true)
    (q : wrongP r m s l = none → Q (.ins 5 [("numbers", .tup [r, m, s, l])], .fr) t) (z : ∀ p, wrongP r m s l = some p → Z 2 (some (.str p)) t) : Wp (f_Weather_init [r, m, s, l] t) Q Z := by
  rw [st_Weather_init]
  unfold s_Weather_init
  unfold wrongP at q z
  simp_all only [lf_Weather_init_1, df_is_between, lc_Weather_init_MOST_LATE, lc_Weather_init_MOST_SPAN, e_is_between _ _ _ _ hs]
  cases bs : inB s 2 12 with
  | false => simp_all only [lf_Weather_init_1, df_is_between, lc_Weather_init_MOST_LATE, lc_Weather_init_MOST_SPAN]; simp only [bs] at z; exact z _ rfl
  | true =>
    rw [inB_ofI bs]
    simp_all only [lf_Weather_init_1, df_is_between, lc_Weather_init_MOST_LATE, lc_Weather_init_MOST_SPAN, e_is_between _ _ _ _ hm]
    cases bm : inB m 0 (ofI s - 1) with
    | false => simp_all only [lf_Weather_init_1, df_is_between, lc_Weather_init_MOST_LATE, lc_Weather_init_MOST_SPAN]; simp only [bs, bm] at z; exact z _ rfl
    | true =>
      rw [inB_ofI bm]
      simp_all only [lf_Weather_init_1, df_is_between, lc_Weather_init_MOST_LATE, lc_Weather_init_MOST_SPAN, e_is_between _ _ _ _ hr]
      rw [show (if 1 < ofI m then 1 else ofI m) = mn (ofI m) from rfl]
      cases br : inB r (mn (ofI m)) (ofI m) with
      | false => simp_all only [lf_Weather_init_1, df_is_between, lc_Weather_init_MOST_LATE, lc_Weather_init_MOST_SPAN]; simp only [bs, bm, br] at z; exact z _ rfl
      | true =>
        simp_all only [lf_Weather_init_1, df_is_between, lc_Weather_init_MOST_LATE, lc_Weather_init_MOST_SPAN, e_is_between _ _ _ _ hl]
        cases bl : inB l 0 8 with
        | false => simp_all only [lf_Weather_init_1, df_is_between, lc_Weather_init_MOST_LATE, lc_Weather_init_MOST_SPAN]; simp only [bs, bm, br, bl] at z; exact z _ rfl
        | true =>
          simp_all only [lf_Weather_init_1, df_is_between, lc_Weather_init_MOST_LATE, lc_Weather_init_MOST_SPAN]
          unfold q_Weather_init
          simp_all only [lf_Weather_init_1, df_is_between, lc_Weather_init_MOST_LATE, lc_Weather_init_MOST_SPAN]
          refine ⟨by simp, ?_⟩
          rw [← inB_ofI bs, ← inB_ofI bm]
          refine q ?_
          simp only [bs, bm, br, bl, if_true]
abbrev wW (r m s l : Int) : D := .ins 5 [("numbers", .tup [.int r, .int m, .int s, .int l])]
abbrev wD (r m s l : Int) : D := .dct false [(.str "run", .int r), (.str "many", .int m), (.str "span", .int s), (.str "late", .int l)]
structure WOk (r m s l : Int) : Prop where
  s0 : 2 ≤ s
  s1 : s ≤ 12
  m0 : 0 ≤ m
  m1 : m < s
  r0 : 0 ≤ r
  r1 : r ≤ m
  rm : 0 < m → 0 < r
  l0 : 0 ≤ l
  l1 : l ≤ 8
theorem wrong_none {r m s l : Int} (h : WOk r m s l) : wrongP (.int r) (.int m) (.int s) (.int l) = none := by
  obtain ⟨s0, s1, m0, m1, r0, r1, rm, l0, l1⟩ := h
  have b : ∀ i a b : Int, a ≤ i → i ≤ b → inB (.int i) a b = true := fun i a b h h' => by simp [inB, h, h']
  have e1 := b _ _ _ s0 s1
  have e2 := b m 0 (ofI (.int s) - 1) m0 (by simp only [ofI]; omega)
  have e3 := b r (mn (ofI (.int m))) (ofI (.int m)) (show mn m ≤ r by rcases mn_spec m with ⟨_, e⟩ | ⟨_, e⟩ <;> omega) r1
  have e4 := b _ _ _ l0 l1
  simp only [wrongP, e1, e2, e3, e4, if_true]
theorem wok_of {r m s l : D} (h : wrongP r m s l = none) : ∃ r' m' s' l', r = .int r' ∧ m = .int m' ∧ s = .int s' ∧ l = .int l' ∧ WOk r' m' s' l' := by
  unfold wrongP at h
  split at h
  · rename_i bs
    split at h
    · rename_i bm
      split at h
      · rename_i br
        split at h
        · rename_i bl
          obtain ⟨s', rfl, s0, s1⟩ := inB_int bs
          obtain ⟨m', rfl, m0, m1⟩ := inB_int bm
          obtain ⟨r', rfl, r0, r1⟩ := inB_int br
          obtain ⟨l', rfl, l0, l1⟩ := inB_int bl
          have m1 : m' ≤ s' - 1 := m1
          have r0 : mn m' ≤ r' := r0
          have r1 : r' ≤ m' := r1
          refine ⟨r', m', s', l', rfl, rfl, rfl, rfl, s0, s1, m0, by omega, ?_, r1, ?_, l0, l1⟩
          · rcases mn_spec m' with ⟨_, e⟩ | ⟨_, e⟩ <;> omega
          · intro; rcases mn_spec m' with ⟨_, e⟩ | ⟨_, e⟩ <;> omega
        · cases h
      · cases h
    · cases h
  · cases h
theorem e_mk {r m s l : Int} (h : WOk r m s l) (t : DE.TA) : f_Weather_init [.int r, .int m, .int s, .int l] t = .ok (wW r m s l, .fr) t :=
  Wp.eq (e_init _ _ _ _ t rfl rfl rfl rfl (fun _ => isR.at rfl) fun p z => by rw [wrong_none h] at z; cases z)
theorem e_mk10 {r m s l : Int} (h : WOk r m s l) (t : DE.TA) (k1 k2 k3 k4 : Kd) (n : allFz [(.int r, k1), (.int m, k2), (.int s, k3), (.int l, k4)] = some [.int r, .int m, .int s, .int l]) : p10.f [(.int r, k1), (.int m, k2), (.int s, k3), (.int l, k4)] t = .ok (wW r m s l, .fr) t := by
  show fMk 4 f_Weather_init _ t = _
  unfold fMk
  rw [n]
  exact e_mk h t
section
variable (r m s l : Int) (t : DE.TA)
theorem e_att9 : p9.f [(wW r m s l, .fz)] t = .ok (.tup [.int r, .int m, .int s, .int l], .fz) t := rfl
theorem e_run : f_Weather_run [wW r m s l] t = .ok (.int r, .fz) t := by
  refine Wp.eq ?_
  rw [st_Weather_run]
  unfold s_Weather_run
  simp_all only [lp_Weather_run_9, e_att9]
  exact isR.at rfl
theorem e_many : f_Weather_many [wW r m s l] t = .ok (.int m, .fz) t := by
  refine Wp.eq ?_
  rw [st_Weather_many]
  unfold s_Weather_many
  simp_all only [lp_Weather_many_9, e_att9]
  exact isR.at rfl
theorem e_span : f_Weather_span [wW r m s l] t = .ok (.int s, .fz) t := by
  refine Wp.eq ?_
  rw [st_Weather_span]
  unfold s_Weather_span
  simp_all only [lp_Weather_span_9, e_att9]
  exact isR.at rfl
theorem e_late : f_Weather_late [wW r m s l] t = .ok (.int l, .fz) t := by
  refine Wp.eq ?_
  rw [st_Weather_late]
  unfold s_Weather_late
  simp_all only [lp_Weather_late_9, e_att9]
  exact isR.at rfl
theorem e_p12 : p12.f [(wW r m s l, .fz)] t = .ok (.int r, .fz) t := by
  show (if 5 = 5 then (f_Weather_run [wW r m s l] t).calm else .no) = _
  rw [if_pos rfl, e_run]; rfl
theorem e_p13 : p13.f [(wW r m s l, .fz)] t = .ok (.int m, .fz) t := by
  show (if 5 = 5 then (f_Weather_many [wW r m s l] t).calm else .no) = _
  rw [if_pos rfl, e_many]; rfl
theorem e_p14 : p14.f [(wW r m s l, .fz)] t = .ok (.int s, .fz) t := by
  show (if 5 = 5 then (f_Weather_span [wW r m s l] t).calm else .no) = _
  rw [if_pos rfl, e_span]; rfl
theorem e_p15 : p15.f [(wW r m s l, .fz)] t = .ok (.int l, .fz) t := by
  show (if 5 = 5 then (f_Weather_late [wW r m s l] t).calm else .no) = _
  rw [if_pos rfl, e_late]; rfl
end
theorem plain_sub {d : D} (h : plainD d = true) (e : List Bool) (o : List (Nat × Bool)) : subD e o d = some false := by
  cases d <;> first | rfl | (cases h; done)
theorem e_isi4w (r m s l : Int) (k : Kd) (t : DE.TA) : p4.f [(wW r m s l, k)] t = .ok (.bl true, .fz) t := rfl
theorem e_isi4p {d : D} (h : plainD d = true) (k : Kd) (t : DE.TA) : p4.f [(d, k)] t = .ok (.bl false, .fz) t := by
  show ofO ((subD _ _ d).map _) t = _
  rw [plain_sub h]; rfl
/-- == of a weather -/
theorem e_eqW (r m s l r' m' s' l' : Int) (t : DE.TA) : p16.f [(wW r m s l, .fz), (wW r' m' s' l', .fz)] t = .ok (.bl (decide ([r, m, s, l] = [r', m', s', l'])), .fz) t := by
  have e : f_Weather___eq__ [wW r m s l, wW r' m' s' l'] t = .ok (.bl (decide ([r, m, s, l] = [r', m', s', l'])), .fz) t := by
    refine Wp.eq ?_
    rw [st_Weather___eq__]
    unfold s_Weather___eq__
    simp_all only [lp_Weather___eq___4, lp_Weather___eq___9, e_att9, cmp_eq, e_isi4w]
    exact opK_of (eqD_intsT [r, m, s, l] [r', m', s', l']) (isR.at rfl)
  exact eqO_i e
theorem e_eqP (r m s l : Int) {d : D} (h : plainD d = true) (t : DE.TA) : p16.f [(wW r m s l, .fz), (d, .fz)] t = .ok (.bl false, .fz) t := by
  have e : f_Weather___eq__ [wW r m s l, d] t = .ok (.bl false, .fz) t := by
    refine Wp.eq ?_
    rw [st_Weather___eq__]
    unfold s_Weather___eq__
    simp_all only [lp_Weather___eq___4, lp_Weather___eq___9, e_isi4p h]
    exact isR.at rfl
  exact eqO_p h e
end LawX
set_option maxHeartbeats 1000000
namespace LawX
open PySem PySem.Spec PyProof.Rows L2 DE He
/-! the plain law of rows of losses -/
def bI (b : Bool) : Int := if b then 1 else 0
abbrev BI (bs : List Bool) : List Int := bs.map bI
abbrev BD (bs : List Bool) : List D := (BI bs).map D.int
def ct (bs : List Bool) : Nat := bs.count true
theorem ct_nil : ct [] = 0 := rfl
theorem ct_cons (b : Bool) (bs : List Bool) : ct (b :: bs) = ct bs + (if b then 1 else 0) := by
  unfold ct; rw [List.count_cons]; cases b <;> rfl
theorem ct_app (a b : List Bool) : ct (a ++ b) = ct a + ct b := List.count_append
theorem ct_le (a : List Bool) : ct a ≤ a.length := List.count_le_length
theorem ct_rep (n : Nat) : ct (List.replicate n false) = 0 := by
  induction n with
  | zero => rfl
  | succ n ih => rw [List.replicate_succ, ct_cons, ih]; rfl
theorem sum_BI : ∀ bs : List Bool, (BI bs).sum = (ct bs : Int)
  | [] => rfl
  | b :: bs => by
    have := sum_BI bs
    simp only [List.map_cons, List.sum_cons, ct_cons]
    rw [this]
    cases b <;> simp [bI] <;> omega
theorem zero_mem : ∀ bs : List Bool, decide ((0 : Int) ∈ BI bs) = decide (ct bs ≠ bs.length)
  | [] => rfl
  | b :: bs => by
    have ih := zero_mem bs
    have l := ct_le bs
    cases b with
    | false =>
      rw [decide_eq_true (show (0 : Int) ∈ BI (false :: bs) from List.mem_cons_self), decide_eq_true]
      rw [ct_cons]; simp only [List.length_cons]; simp; omega
    | true =>
      have e1 : ((0 : Int) ∈ BI (true :: bs)) ↔ (0 : Int) ∈ BI bs := by
        simp [bI]
      have e2 : (ct (true :: bs) ≠ (true :: bs).length) ↔ ct bs ≠ bs.length := by
        rw [ct_cons]; simp only [List.length_cons]; simp
      rw [decide_eq_decide.mpr e1, ih]
      exact decide_eq_decide.mpr e2.symm
/-- may the next be lost, behind these -/
def mayL (r m : Nat) (w : List Bool) : Bool := decide (ct w + 1 ≤ m) && decide (ct (w.drop (w.length - r)) ≠ r)
/-- the memory behind these: span s -/
def memo (s : Nat) (pre : List Bool) : List Bool := (List.replicate (s - 1) false ++ pre).drop pre.length
theorem memo_len (s : Nat) (pre : List Bool) : (memo s pre).length = s - 1 := by simp [memo]
theorem memo_nil (s : Nat) : memo s [] = List.replicate (s - 1) false := by simp [memo]
theorem memo_snoc (s : Nat) (pre : List Bool) (b : Bool) : memo s (pre ++ [b]) = (memo s pre ++ [b]).drop 1 := by
  unfold memo
  rw [List.length_append, List.length_singleton, ← List.append_assoc, ← List.drop_drop]
  congr 1
  rw [List.drop_append_of_le_length (by simp)]
theorem ct_memo (s : Nat) (pre : List Bool) (j : Nat) : ct ((memo s pre).drop j) = ct (pre.drop (pre.length + j - (s - 1))) := by
  unfold memo
  rw [List.drop_drop, List.drop_append, ct_app, List.drop_replicate, ct_rep, List.length_replicate, Nat.zero_add]
/-- the pieces of a row -/
def okAt (r m s : Nat) (l : List Bool) : Bool := decide (ct (l.take s) ≤ m) && decide (ct (l.take (r + 1)) ≠ r + 1)
def lawK (r m s : Nat) (bs : List Bool) : Bool := (List.range bs.length).all fun i => okAt r m s (bs.drop i)
theorem ct_take_snoc (k : Nat) (l : List Bool) (b : Bool) : ct ((l ++ [b]).take k) = ct (l.take k) + (if l.length < k ∧ b = true then 1 else 0) := by
  rw [List.take_append, ct_app]
  by_cases h : l.length < k
  · rw [List.take_of_length_le (show [b].length ≤ k - l.length by simp; omega), ct_cons, ct_nil]
    cases b <;> simp [h]
  · rw [show k - l.length = 0 by omega, List.take_zero, ct_nil, if_neg (fun z => h z.1)]
theorem ct_drop_le (l : List Bool) (i j : Nat) (h : i ≤ j) : ct (l.drop j) ≤ ct (l.drop i) := by
  have : l.drop j = (l.drop i).drop (j - i) := by rw [List.drop_drop]; congr 1; omega
  rw [this]
  exact (List.drop_sublist _ _).count_le _
theorem lawK_snoc {r m s : Nat} (hs : 2 ≤ s) (hr : r ≤ s - 1) (pre : List Bool) (b : Bool) : lawK r m s (pre ++ [b]) = (lawK r m s pre && (!b || mayL r m (memo s pre))) := by
  have len := memo_len s pre
  have c0 : ct (memo s pre) = ct (pre.drop (pre.length - (s - 1))) := by have := ct_memo s pre 0; rwa [List.drop_zero, Nat.add_zero] at this
  have c1 : ct ((memo s pre).drop ((memo s pre).length - r)) = ct (pre.drop (pre.length - r)) := by
    rw [ct_memo, len]; congr 2; omega
  have may : mayL r m (memo s pre) = (decide (ct (pre.drop (pre.length - (s - 1))) + 1 ≤ m) && decide (ct (pre.drop (pre.length - r)) ≠ r)) := by unfold mayL; rw [c0, c1]
  rw [may]
  have split : lawK r m s (pre ++ [b]) = true ↔ (lawK r m s pre = true ∧ (b = true → ct (pre.drop (pre.length - (s - 1))) + 1 ≤ m ∧ ct (pre.drop (pre.length - r)) ≠ r)) := by
    unfold lawK
    simp only [List.all_eq_true, List.mem_range, List.length_append, List.length_singleton, okAt, Bool.and_eq_true, decide_eq_true_eq]
    have at_ : ∀ i, i ≤ pre.length → (pre ++ [b]).drop i = pre.drop i ++ [b] := fun i hi => List.drop_append_of_le_length hi
    constructor
    · intro h
      refine ⟨fun i hi => ?_, fun hb => ?_⟩
      · have := h i (by omega)
        rw [at_ i (by omega), ct_take_snoc, ct_take_snoc] at this
        obtain ⟨h1, h2⟩ := this
        refine ⟨by omega, fun z => ?_⟩
        have l1 := ct_le ((pre.drop i).take (r + 1))
        rw [List.length_take] at l1
        rw [if_neg (by omega)] at h2
        exact h2 (by omega)
      · subst hb
        constructor
        · have := (h (pre.length - (s - 1)) (by omega)).1
          rw [at_ _ (by omega), ct_take_snoc, if_pos ⟨by rw [List.length_drop]; omega, rfl⟩, List.take_of_length_le (by rw [List.length_drop]; omega)] at this
          exact this
        · have := (h (pre.length - r) (by omega)).2
          rw [at_ _ (by omega), ct_take_snoc, if_pos ⟨by rw [List.length_drop]; omega, rfl⟩, List.take_of_length_le (by rw [List.length_drop]; omega)] at this
          omega
    · rintro ⟨h, hb⟩ i hi
      rw [at_ i (by omega), ct_take_snoc, ct_take_snoc]
      have old : i < pre.length → ct ((pre.drop i).take s) ≤ m ∧ ct ((pre.drop i).take (r + 1)) ≠ r + 1 := h i
      have tk : ∀ k, (pre.drop i).length < k → (pre.drop i).take k = pre.drop i := fun k hk => List.take_of_length_le (by omega)
      constructor
      · by_cases c : (pre.drop i).length < s ∧ b = true
        · rw [if_pos c, tk s c.1]
          obtain ⟨h1, _⟩ := hb c.2
          have := ct_drop_le pre (pre.length - (s - 1)) i (by have := c.1; rw [List.length_drop] at this; omega)
          omega
        · rw [if_neg c]
          by_cases hi2 : i < pre.length
          · exact (old hi2).1
          · rw [List.drop_eq_nil_of_le (by omega), List.take_nil, ct_nil]; omega
      · by_cases c : (pre.drop i).length < r + 1 ∧ b = true
        · rw [if_pos c, tk (r + 1) c.1]
          obtain ⟨_, h2⟩ := hb c.2
          have l1 := ct_le (pre.drop i)
          have c1 := c.1
          rw [List.length_drop] at l1 c1
          intro z
          have : i = pre.length - r := by omega
          rw [this] at z
          omega
        · rw [if_neg c]
          by_cases hi2 : i < pre.length
          · exact (old hi2).2
          · rw [List.drop_eq_nil_of_le (by omega), List.take_nil, ct_nil]; omega
  rw [Bool.eq_iff_iff, split]
  simp only [Bool.and_eq_true, Bool.or_eq_true, Bool.not_eq_true', decide_eq_true_eq]
  cases b <;> simp
/-- what keeps_to says, packet by packet -/
def keepsR (r m : Nat) : List Bool → List Bool → Bool
  | _, [] => true
  | w, b :: bs => if (b && !mayL r m w) = true then false else keepsR r m ((w ++ [b]).drop 1) bs
theorem lawK_pre {r m s : Nat} (hs : 2 ≤ s) (hr : r ≤ s - 1) (pre : List Bool) : ∀ bs : List Bool, lawK r m s pre = false → lawK r m s (pre ++ bs) = false := by
  intro bs
  induction bs generalizing pre with
  | nil => intro h; rwa [List.append_nil]
  | cons b bs ih =>
    intro h
    rw [show pre ++ b :: bs = (pre ++ [b]) ++ bs by simp]
    refine ih _ ?_
    rw [lawK_snoc hs hr, h]; rfl
theorem keepsR_law {r m s : Nat} (hs : 2 ≤ s) (hr : r ≤ s - 1) : ∀ (bs pre : List Bool), lawK r m s pre = true → keepsR r m (memo s pre) bs = lawK r m s (pre ++ bs)
  | [], pre, h => by rw [List.append_nil, h]; rfl
  | b :: bs, pre, h => by
    have st := lawK_snoc (m := m) hs hr pre b
    rw [h, Bool.true_and] at st
    unfold keepsR
    rw [show pre ++ b :: bs = (pre ++ [b]) ++ bs by simp]
    cases hb : (b && !mayL r m (memo s pre)) with
    | true =>
      rw [if_pos rfl, lawK_pre hs hr]
      rw [st]
      cases b <;> simp_all
    | false =>
      rw [if_neg (by simp), ← memo_snoc, keepsR_law hs hr bs (pre ++ [b])]
      rw [st]
      cases b <;> simp_all
theorem keeps_law {r m s : Nat} (hs : 2 ≤ s) (hr : r ≤ s - 1) (bs : List Bool) : keepsR r m (List.replicate (s - 1) false) bs = lawK r m s bs := by
  rw [← memo_nil, keepsR_law hs hr bs [] (by rfl), List.nil_append]
/-- the losses at the end of a memory, and one more -/
def tailR : List Bool → Nat
  | [] => 0
  | b :: bs => if b then tailR bs + 1 else 0
theorem tailR_spec : ∀ (v : List Bool) (r : Nat), r ≤ v.length → (decide (tailR v + 1 ≤ r) = decide (ct (v.take r) ≠ r))
  | [], r, h => by
    have : r = 0 := by simpa using h
    subst this
    rfl
  | b :: bs, 0, h => by rw [decide_eq_false (by omega), decide_eq_false (by simp [ct_nil])]
  | b :: bs, r + 1, h => by
    have ih := tailR_spec bs r (by simpa using h)
    have l := ct_le (bs.take r)
    rw [List.length_take] at l
    cases b with
    | true =>
      have e1 : tailR (true :: bs) = tailR bs + 1 := rfl
      have e2 : ct ((true :: bs).take (r + 1)) = ct (bs.take r) + 1 := by rw [List.take_succ_cons, ct_cons]; rfl
      rw [e1, e2]
      simpa using ih
    | false =>
      have e1 : tailR (false :: bs) = 0 := rfl
      have e2 : ct ((false :: bs).take (r + 1)) = ct (bs.take r) := by rw [List.take_succ_cons, ct_cons]; rfl
      rw [decide_eq_true (show tailR (false :: bs) + 1 ≤ r + 1 by omega), decide_eq_true (show ct ((false :: bs).take (r + 1)) ≠ r + 1 by omega)]
theorem ct_rev (l : List Bool) : ct l.reverse = ct l := List.count_reverse
theorem may_tail {r m : Nat} {w : List Bool} (h : r ≤ w.length) : (decide (tailR w.reverse + 1 ≤ r) && decide (ct w + 1 ≤ m)) = mayL r m w := by
  unfold mayL
  rw [tailR_spec w.reverse r (by simpa using h), Bool.and_comm]
  congr 2
  rw [List.take_reverse, ct_rev]
end LawX
set_option maxHeartbeats 1000000
namespace LawX
open PySem PySem.Spec PyProof.Rows L2 DE He
theorem BD_app (a b : List Bool) : BD (a ++ b) = BD a ++ BD b := by simp [BD, BI]
theorem BD_drop (a : List Bool) (i : Nat) : (BD a).drop i = BD (a.drop i) := by simp [BD, BI, List.map_drop]
theorem BD_take (a : List Bool) (i : Nat) : (BD a).take i = BD (a.take i) := by simp [BD, BI, List.map_take]
theorem BD_len (a : List Bool) : (BD a).length = a.length := by simp [BD, BI]
theorem BD_rev (a : List Bool) : (BD a).reverse = BD a.reverse := by simp [BD, BI, List.map_reverse]
theorem BD_1 : [D.int 1] = BD [true] := rfl
theorem BD_b (b : Bool) : [D.int (bI b)] = BD [b] := rfl
theorem e_sumT (w : List Bool) (k : Kd) (t : DE.TA) : p0.f [(.tup (BD w), k)] t = .ok (.int (ct w), .fz) t := by
  show ofO ((intsOf (BD w)).map _) t = _
  rw [intsOf_map, Option.map_some, sum_BI]; rfl
theorem e_sumL (w : List Bool) (k : Kd) (t : DE.TA) : p0.f [(.lst (BD w), k)] t = .ok (.int (ct w), .fz) t := by
  show ofO ((intsOf (BD w)).map _) t = _
  rw [intsOf_map, Option.map_some, sum_BI]; rfl
section
variable (r m s l : Nat) (t : DE.TA)
theorem e_may_lose (w : List Bool) (h : r ≤ w.length) (hl : w.length < 1000) : f_may_lose [wW r m s l, .tup (BD w)] t = .ok (.bl (mayL r m w), .fz) t := by
  refine Wp.eq ?_
  rw [st_may_lose]
  unfold s_may_lose
  simp_all only [lp_may_lose_0, lp_may_lose_12, lp_may_lose_13, seqOf_t, allFz_app]
  rw [BD_1, ← BD_app]
  refine ⟨lim_ge _ (by rw [BD_len]; simp; omega), ?_⟩
  simp_all only [lp_may_lose_0, lp_may_lose_12, lp_may_lose_13, e_p12, e_p13, e_sumT]
  rw [show ((↑(BD (w ++ [true])).length : Int) - ↑r - 1) = ((w.length - r : Nat) : Int) by rw [BD_len]; simp; omega, cutD_from, BD_drop]
  have e1 : ct (w ++ [true]) = ct w + 1 := by rw [ct_app]; rfl
  have e2 : (w ++ [true]).drop (w.length - r) = w.drop (w.length - r) ++ [true] := List.drop_append_of_le_length (by omega)
  have e3 : (ct (w.drop (w.length - r) ++ [true]) ≠ (w.drop (w.length - r) ++ [true]).length) ↔ ct (w.drop (w.length - r)) ≠ r := by
    rw [ct_app, List.length_append, List.length_drop]; show ct _ + 1 ≠ _ + 1 ↔ _; omega
  have key : mayL r m w = (decide (((ct (w ++ [true]) : Nat) : Int) ≤ (m : Int)) && decide ((0 : Int) ∈ BI ((w ++ [true]).drop (w.length - r)))) := by
    rw [e1, e2, zero_mem, decide_eq_decide.mpr e3]
    unfold mayL
    rw [show decide (((ct w + 1 : Nat) : Int) ≤ (m : Int)) = decide (ct w + 1 ≤ m) from decide_eq_decide.mpr (by omega)]
  refine if_s (fun h1 => ?_) fun h1 => ?_
  · simp_all only [lp_may_lose_0, lp_may_lose_12, lp_may_lose_13, isin_tup]
    exact isR.at (by rw [key, h1, Bool.true_and])
  · simp_all only [lp_may_lose_0, lp_may_lose_12, lp_may_lose_13]
    exact isR.at (by rw [key, h1, Bool.false_and])
theorem e_need (t : DE.TA) : f_need_weather [wW r m s l] t = .ok (.non, .fz) t := by
  refine Wp.eq ?_
  rw [st_need_weather]
  unfold s_need_weather
  simp_all only [lp_need_weather_4, e_isi4w]
  exact isR.at rfl
theorem e_needP {d : D} (h : plainD d = true) (t : DE.TA) : f_need_weather [d] t = .ex 2 (some .non) t := by
  refine Wp.eqx ?_
  rw [st_need_weather]
  unfold s_need_weather
  simp_all only [lp_need_weather_4, e_isi4p h]
  exact isX.at rfl
theorem bits_BD (w : List Bool) (hl : w.length < 1000) : plainS (.lst (BD w)) ∧ plainS (.tup (BD w)) ∧ bitsD (.lst (BD w)) = true ∧ bitsD (.tup (BD w)) = true := by
  have a : (∀ x ∈ BD w, plainD x = true) ∧ (BD w).length ≤ lim := by
    refine ⟨fun x hx => ?_, lim_ge _ (by rw [BD_len]; omega)⟩
    obtain ⟨i, _, rfl⟩ := List.mem_map.mp hx
    rfl
  have b : (BD w).all (fun x => inB x 0 1) = true := by
    refine List.all_eq_true.mpr fun x hx => ?_
    obtain ⟨i, hi, rfl⟩ := List.mem_map.mp hx
    obtain ⟨b, _, rfl⟩ := List.mem_map.mp hi
    cases b <;> rfl
  exact ⟨a, a, b, b⟩
theorem e_zeros (n : Nat) (h : 1 ≤ n) (h2 : n ≤ 12) (t : DE.TA) : p1.f [(.tup [.int 0], .fz), (.int n, .fz)] t = .ok (.tup (BD (List.replicate n false)), .fz) t := by
  obtain rfl | rfl | rfl | rfl | rfl | rfl | rfl | rfl | rfl | rfl | rfl | rfl : n = 1 ∨ n = 2 ∨ n = 3 ∨ n = 4 ∨ n = 5 ∨ n = 6 ∨ n = 7 ∨ n = 8 ∨ n = 9 ∨ n = 10 ∨ n = 11 ∨ n = 12 := by omega
  all_goals rfl
end
end LawX
set_option maxHeartbeats 1000000
namespace LawX
open PySem PySem.Spec PyProof.Rows L2 DE He
theorem span_sub {s : Nat} (h : 2 ≤ s) : ((s : Int) - 1) = ((s - 1 : Nat) : Int) := by omega
theorem eq_bI1 (b : Bool) : eqD (.int (bI b)) (.int 1) = some b := by
  cases b <;> decide +kernel
theorem eq_bI0 (b : Bool) : eqD (.int (bI b)) (.int 0) = some (!b) := by
  cases b <;> decide +kernel
section
variable {r m s l : Nat}
theorem keeps_loop (hs : 2 ≤ s) (h12 : s ≤ 12) (hr : r ≤ s - 1) (bs : List Bool) (d : D) (t : DE.TA) (K : Bool) (hK : keepsR r m (List.replicate (s - 1) false) bs = K) :
    Wp (forL (bdT (.nm 3)) (bdS G_keeps_to 0 (.cons (.ite (.and (.cmp .eq (.var 3) (.int 1)) (.not (.call 4 (.cons (.var 0) (.cons (.var 2) .nil))))) (.cons (.ret (.bl false)) .nil) .nil) (.cons (.asg (.nm 2) false (.slc (.tup (.star (.var 2) (.cons (.var 3) .nil))) (.int 1) .noe)) .nil))) (BD bs) [.fz (wW r m s l), .fz d, .fz (.tup (BD (List.replicate (s - 1) false))), .un] t)
      (kSs G_keeps_to 0 (.cons (.ret (.bl true)) .nil) (kEnd (isR (D.bl K, Kd.fz) t)) noX) noX := by
  obtain ⟨I, hI⟩ : ∃ I : List D → En → DE.TA → Prop, ∀ xs ρ t', I xs ρ t' ↔ ∃ (w bs' : List Bool) (x : SV), xs = BD bs' ∧ ρ = [.fz (wW r m s l), .fz d, .fz (.tup (BD w)), x] ∧ isLock (some x) = false ∧ w.length = s - 1 ∧ keepsR r m w bs' = K ∧ t' = t := ⟨_, fun _ _ _ => Iff.rfl⟩
  refine wp_for I _ _ _ ((hI _ _ _).mpr ⟨_, bs, .un, rfl, rfl, rfl, by simp, hK, rfl⟩) ?_ ?_
  · intro d1 ds ρ t1 _ hi
    obtain ⟨w, bs', x, e1, rfl, hx, hw, hk, rfl⟩ := (hI _ _ _).mp hi
    cases bs' with
    | nil => cases e1
    | cons b bs' =>
      cases e1
      simp_all only [lf_keeps_to_3, df_is_bits, lf_keeps_to_4, df_may_lose, lf_keeps_to_5, df_need_weather, lp_keeps_to_1, lp_keeps_to_14, setE_0 x _ _ hx, cmp_eq, eq_bI1]
      unfold keepsR at hk
      have hml := e_may_lose r m s l t1 w (by omega) (by omega)
      have tl : (b && !mayL r m w) = false → (BD w ++ [D.int (bI b)]).length ≤ lim ∧ I (BD bs') [.fz (wW r m s l), .fz d, .fz (.tup (cutD (BD w ++ [D.int (bI b)]) (some 1) none)), .fz (.int (bI b))] t1 := fun hb => by
        rw [if_neg (by rw [hb]; decide)] at hk
        rw [BD_b, ← BD_app]
        refine ⟨lim_ge _ (by rw [BD_len]; simp; omega), ?_⟩
        rw [show (1 : Int) = ((1 : Nat) : Int) from rfl, cutD_from, BD_drop]
        exact (hI _ _ _).mpr ⟨_, bs', _, rfl, rfl, rfl, by simp; omega, hk, rfl⟩
      cases b with
      | false => simp_all only [lf_keeps_to_3, df_is_bits, lf_keeps_to_4, df_may_lose, lf_keeps_to_5, df_need_weather, lp_keeps_to_1, lp_keeps_to_14]; exact tl rfl
      | true =>
        simp_all only [lf_keeps_to_3, df_is_bits, lf_keeps_to_4, df_may_lose, lf_keeps_to_5, df_need_weather, lp_keeps_to_1, lp_keeps_to_14, hml]
        cases hm : mayL r m w with
        | true => simp_all only [lf_keeps_to_3, df_is_bits, lf_keeps_to_4, df_may_lose, lf_keeps_to_5, df_need_weather, lp_keeps_to_1, lp_keeps_to_14]; exact tl (by rw [hm]; rfl)
        | false =>
          simp_all only [lf_keeps_to_3, df_is_bits, lf_keeps_to_4, df_may_lose, lf_keeps_to_5, df_need_weather, lp_keeps_to_1, lp_keeps_to_14]
          rw [if_pos (by rw [hm]; rfl)] at hk
          subst hk
          exact isR.at rfl
  · intro ρ t1 hi
    obtain ⟨w, bs', x, e1, rfl, hx, hw, hk, rfl⟩ := (hI _ _ _).mp hi
    cases bs' with
    | cons b bs' => cases e1
    | nil =>
      simp_all only [lf_keeps_to_3, df_is_bits, lf_keeps_to_4, df_may_lose, lf_keeps_to_5, df_need_weather, lp_keeps_to_1, lp_keeps_to_14]
      rw [← hk]
      exact isR.at rfl
theorem e_keeps_to (hs : 2 ≤ s) (h12 : s ≤ 12) (hr : r ≤ s - 1) (bs : List Bool) (hl : bs.length < 1000) (t : DE.TA) (d : D) (hd : d = .lst (BD bs) ∨ d = .tup (BD bs)) : f_keeps_to [wW r m s l, d] t = .ok (.bl (keepsR r m (List.replicate (s - 1) false) bs), .fz) t := by
  obtain ⟨b1, b2, b3, b4⟩ := bits_BD bs hl
  have hp : plainS d := by rcases hd with rfl | rfl <;> assumption
  have hb : bitsD d = true := by rcases hd with rfl | rfl <;> assumption
  have hi : itOf d = some (BD bs) := by rcases hd with rfl | rfl <;> rfl
  refine Wp.eq ?_
  rw [st_keeps_to]
  unfold s_keeps_to
  simp_all only [lf_keeps_to_3, df_is_bits, lf_keeps_to_4, df_may_lose, lf_keeps_to_5, df_need_weather, lp_keeps_to_1, lp_keeps_to_14, e_need, e_is_bits _ _ hp, hb, e_p14, span_sub hs, e_zeros (s - 1) (by omega) (by omega), hi]
  exact keeps_loop hs h12 hr bs d t _ rfl
theorem e_keeps_bad (t : DE.TA) {d : D} (hp : plainS d) (hb : bitsD d = false) : f_keeps_to [wW r m s l, d] t = .ex 3 none t := by
  refine Wp.eqx ?_
  rw [st_keeps_to]
  unfold s_keeps_to
  simp_all only [lf_keeps_to_3, df_is_bits, lf_keeps_to_4, df_may_lose, lf_keeps_to_5, df_need_weather, lp_keeps_to_1, lp_keeps_to_14, e_need, e_is_bits _ _ hp, hb]
  exact isX.at rfl
theorem e_keeps_no (t : DE.TA) {d e : D} (h : plainD d = true) : f_keeps_to [d, e] t = .ex 2 (some .non) t := by
  refine Wp.eqx ?_
  rw [st_keeps_to]
  unfold s_keeps_to
  simp_all only [lf_keeps_to_3, df_is_bits, lf_keeps_to_4, df_may_lose, lf_keeps_to_5, df_need_weather, lp_keeps_to_1, lp_keeps_to_14, e_needP h]
  exact isX.at rfl
theorem ne_int (i j : Int) : (eqD (.int i) (.int j)).map (!·) = some (!decide (i = j)) := by rw [eqD_i]; rfl
theorem e_let_next (hs : 2 ≤ s) (hr : r ≤ s - 1) (w : List Bool) (hw : w.length = s - 1) (hl : w.length < 1000) (t : DE.TA) : f_let_next [wW r m s l, .tup (BD w)] t = .ok (.bl (mayL r m w), .fz) t := by
  obtain ⟨b1, b2, b3, b4⟩ := bits_BD w hl
  refine Wp.eq ?_
  rw [st_let_next]
  unfold s_let_next
  simp_all only [lf_let_next_3, df_is_bits, lf_let_next_4, df_may_lose, lf_let_next_5, df_need_weather, lp_let_next_14, e_need, e_is_bits _ _ b2, b4, e_p14, span_sub hs, e_may_lose r m s l t w (by omega) hl, cmp_ne, ne_int, BD_len, hw]
  refine if_f' (by simp) ?_
  simp_all only [lf_let_next_3, df_is_bits, lf_let_next_4, df_may_lose, lf_let_next_5, df_need_weather, lp_let_next_14, e_may_lose r m s l t w (by omega) hl]
  exact isR.at rfl
theorem e_let_bad (hs : 2 ≤ s) (t : DE.TA) {d : D} (hp : plainS d) (hb : isTup d = false ∨ bitsD d = false ∨ ∃ xs, d = .tup xs ∧ xs.length ≠ s - 1) : f_let_next [wW r m s l, d] t = .ex 4 none t := by
  have hd : plainD d = true := by cases d <;> first | rfl | exact hp
  have ht : tyD d .tuple = some (isTup d) := by cases d <;> first | (cases hd; done) | rfl
  refine Wp.eqx ?_
  rw [st_let_next]
  unfold s_let_next
  simp_all only [lf_let_next_3, df_is_bits, lf_let_next_4, df_may_lose, lf_let_next_5, df_need_weather, lp_let_next_14, e_need, ht, e_is_bits _ _ hp, e_p14, span_sub hs]
  cases h1 : isTup d with
  | false => simp_all only [lf_let_next_3, df_is_bits, lf_let_next_4, df_may_lose, lf_let_next_5, df_need_weather, lp_let_next_14]; exact isX.at rfl
  | true =>
    simp_all only [lf_let_next_3, df_is_bits, lf_let_next_4, df_may_lose, lf_let_next_5, df_need_weather, lp_let_next_14, e_is_bits _ _ hp]
    cases h2 : bitsD d with
    | false => simp_all only [lf_let_next_3, df_is_bits, lf_let_next_4, df_may_lose, lf_let_next_5, df_need_weather, lp_let_next_14]; exact isX.at rfl
    | true =>
      obtain ⟨xs, rfl, hx⟩ := (hb.resolve_left (by rw [h1]; decide)).resolve_left (by rw [h2]; decide)
      simp_all only [lf_let_next_3, df_is_bits, lf_let_next_4, df_may_lose, lf_let_next_5, df_need_weather, lp_let_next_14, cmp_ne, ne_int, e_p14, span_sub hs]
      refine if_t' (by simp; omega) ?_
      simp_all only [lf_let_next_3, df_is_bits, lf_let_next_4, df_may_lose, lf_let_next_5, df_need_weather, lp_let_next_14]
      exact isX.at rfl
theorem e_let_no (t : DE.TA) {d e : D} (h : plainD d = true) : f_let_next [d, e] t = .ex 2 (some .non) t := by
  refine Wp.eqx ?_
  rw [st_let_next]
  unfold s_let_next
  simp_all only [lf_let_next_3, df_is_bits, lf_let_next_4, df_may_lose, lf_let_next_5, df_need_weather, lp_let_next_14, e_needP h]
  exact isX.at rfl
end
end LawX
set_option maxHeartbeats 1000000
namespace LawX
open PySem PySem.Spec PyProof.Rows L2 DE He
section
variable (r m s l : Int)
theorem d_run : dget [(.str "run", .int r), (.str "many", .int m), (.str "span", .int s), (.str "late", .int l)] (.str "run") = some (.int r) := rfl
theorem d_many : dget [(.str "run", .int r), (.str "many", .int m), (.str "span", .int s), (.str "late", .int l)] (.str "many") = some (.int m) := rfl
theorem d_span : dget [(.str "run", .int r), (.str "many", .int m), (.str "span", .int s), (.str "late", .int l)] (.str "span") = some (.int s) := rfl
theorem d_late : dget [(.str "run", .int r), (.str "many", .int m), (.str "span", .int s), (.str "late", .int l)] (.str "late") = some (.int l) := rfl
end
theorem e_revT (xs : List D) (k : Kd) (t : DE.TA) : p3.f [(.tup xs, k)] t = .ok (.tup xs.reverse, .fz) t := rfl
section
variable {r m s l : Nat}
theorem lost_loop (w v : List Bool) (d : D) (t : DE.TA) (Q : Od DE.TA) (Z : Zd DE.TA) (q : ∀ x, isLock (some x) = false → Q (.nx [.fz d, .fz (.tup (BD w)), .fz (.int (1 + tailR v : Nat)), x]) t) :
    Wp (forL (bdT (.nm 3)) (bdS G__law_may_be_lost 0 (.cons (.ite (.cmp .eq (.var 3) (.int 0)) (.cons .brk .nil) .nil) (.cons (.asg (.nm 2) false (.bin .add (.var 2) (.int 1))) .nil))) (BD v) [.fz d, .fz (.tup (BD w)), .fz (.int 1), .un] t) Q Z := by
  obtain ⟨I, hI⟩ : ∃ I : List D → En → DE.TA → Prop, ∀ xs ρ t', I xs ρ t' ↔ ∃ (v' : List Bool) (k : Nat) (x : SV), xs = BD v' ∧ ρ = [.fz d, .fz (.tup (BD w)), .fz (.int (1 + k : Nat)), x] ∧ isLock (some x) = false ∧ k + tailR v' = tailR v ∧ t' = t := ⟨_, fun _ _ _ => Iff.rfl⟩
  refine wp_for I _ _ _ ((hI _ _ _).mpr ⟨v, 0, .un, rfl, rfl, rfl, by simp, rfl⟩) ?_ ?_
  · intro d1 ds ρ t1 _ hi
    obtain ⟨v', k, x, e1, rfl, hx, hk, rfl⟩ := (hI _ _ _).mp hi
    cases v' with
    | nil => cases e1
    | cons b v' =>
      cases e1
      simp_all only [setE_0 x _ _ hx, cmp_eq, eq_bI0]
      cases b with
      | false =>
        simp_all only []
        have : tailR (false :: v') = 0 := rfl
        rw [this] at hk
        rw [show k = tailR v by omega]
        exact q _ rfl
      | true =>
        simp_all only []
        have : tailR (true :: v') = tailR v' + 1 := rfl
        rw [this] at hk
        refine (hI _ _ _).mpr ⟨v', k + 1, .fz (.int (bI true)), rfl, ?_, rfl, by omega, rfl⟩
        rw [show ((1 + (k + 1) : Nat) : Int) = ((1 + k : Nat) : Int) + 1 by omega]
  · intro ρ t1 hi
    obtain ⟨v', k, x, e1, rfl, hx, hk, rfl⟩ := (hI _ _ _).mp hi
    cases v' with
    | cons b v' => cases e1
    | nil =>
      have : tailR [] = 0 := rfl
      rw [show k = tailR v by omega]
      exact q _ hx
theorem e_lost (w : List Bool) (h : r ≤ w.length) (t : DE.TA) : f__law_may_be_lost [wD r m s l, .tup (BD w)] t = .ok (.bl (mayL r m w), .fz) t := by
  refine Wp.eq ?_
  rw [st__law_may_be_lost]
  unfold s__law_may_be_lost
  simp_all only [lp__law_may_be_lost_0, lp__law_may_be_lost_3, e_revT]
  rw [BD_rev]
  refine lost_loop w w.reverse _ t _ _ fun x hx => ?_
  simp_all only [lp__law_may_be_lost_0, lp__law_may_be_lost_3, d_run, d_many, e_sumT]
  rw [← may_tail h, show decide (((1 + tailR w.reverse : Nat) : Int) ≤ (r : Int)) = decide (tailR w.reverse + 1 ≤ r) from decide_eq_decide.mpr (by omega)]
  refine if_s (fun h => ?_) fun h => ?_
  · simp_all only [lp__law_may_be_lost_0, lp__law_may_be_lost_3, d_run, d_many, e_sumT]
    rw [h, Bool.true_and, show decide (((ct w : Nat) : Int) + 1 ≤ (m : Int)) = decide (ct w + 1 ≤ m) from decide_eq_decide.mpr (by omega)]
    exact isR.at rfl
  · simp_all only [lp__law_may_be_lost_0, lp__law_may_be_lost_3]
    rw [h, Bool.false_and]
    exact isR.at rfl
theorem e_law_num (d : D) (a b : Int) (t : DE.TA) (h : plainD d = true) : f__law_is_number [d, .int a, .int b] t = .ok (.bl (inB d a b), .fz) t := by
  refine Wp.eq ?_
  rw [st__law_is_number]
  unfold s__law_is_number
  simp_all only []
  cases d <;> first | (cases h; done) | exact isR.at rfl | (simp_all only []; exact isR.at rfl) | skip
  rename_i i
  simp_all only []
  refine if_d (fun h => ?_) fun h => ?_
  · simp_all only []
    exact isR.at (by simp only [inB, decide_eq_true h, Bool.true_and])
  · simp_all only []
    exact isR.at (by simp only [inB, decide_eq_false h, Bool.false_and])
def partD (o : Option Str) : D := match o with
  | some x => .str x
  | none => .non
theorem e_wrong (r m s l : D) (t : DE.TA) (hr : plainD r = true) (hm : plainD m = true) (hs : plainD s = true) (hl : plainD l = true) : f__law_wrong_part [r, m, s, l] t = .ok (partD (wrongP r m s l), .fz) t := by
  refine Wp.eq ?_
  rw [st__law_wrong_part]
  unfold s__law_wrong_part wrongP
  simp_all only [lf__law_wrong_part_12, df__law_is_number, e_law_num _ _ _ _ hs]
  cases bs : inB s 2 12 with
  | false => simp_all only [lf__law_wrong_part_12, df__law_is_number]; exact isR.at rfl
  | true =>
    rw [inB_ofI bs]
    simp_all only [lf__law_wrong_part_12, df__law_is_number, e_law_num _ _ _ _ hm]
    rw [show ofI (.int (ofI s)) = ofI s from rfl]
    cases bm : inB m 0 (ofI s - 1) with
    | false => simp_all only [lf__law_wrong_part_12, df__law_is_number]; exact isR.at rfl
    | true =>
      obtain ⟨m', rfl, m0, m1⟩ := inB_int bm
      simp_all only [lf__law_wrong_part_12, df__law_is_number, e_law_num _ _ _ _ hr]
      have key : inB r (mn (ofI (.int m'))) (ofI (.int m')) = (inB r 0 m' && !decide (decide (ofI r = 0) ≠ decide (m' = 0))) := by
        show inB r (mn m') m' = _
        cases r <;> first | rfl | skip
        rename_i r'
        simp only [inB, ofI]
        rcases mn_spec m' with ⟨h1, h2⟩ | ⟨h1, h2⟩
        · rw [h2]
          by_cases c : (1 : Int) ≤ r'
          · simp [c, show (0 : Int) ≤ r' by omega, show ¬ r' = 0 by omega, show ¬ m' = 0 by omega]
          · by_cases c2 : (0 : Int) ≤ r'
            · simp [c, c2, show r' = 0 by omega, show ¬ m' = 0 by omega]
            · simp [c, c2]
        · rw [h2]
          obtain rfl | rfl : m' = 0 ∨ m' = 1 := by omega
          · by_cases c : r' = 0
            · simp [c]
            · simp [c]; omega
          · by_cases c : (1 : Int) ≤ r'
            · simp [c, show (0 : Int) ≤ r' by omega, show ¬ r' = 0 by omega]
            · by_cases c2 : (0 : Int) ≤ r'
              · simp [c, c2, show r' = 0 by omega]
              · simp [c, c2]
      cases br : inB r 0 m' with
      | false => simp_all only [lf__law_wrong_part_12, df__law_is_number]; simp only [key, br]; exact isR.at rfl
      | true =>
        obtain ⟨r', rfl, r0, r1⟩ := inB_int br
        simp_all only [lf__law_wrong_part_12, df__law_is_number, cmp_eq, cmp_ne, eqD_i, eqD_bl]
        simp only [key, br]
        rw [show ofI (.int r') = r' from rfl]
        cases bb : decide (decide (r' = 0) = decide (m' = 0)) with
        | false =>
          simp_all only [lf__law_wrong_part_12, df__law_is_number]
          have := of_decide_eq_false bb
          simp only [ne_eq, this, not_false_eq_true, decide_true]
          exact isR.at rfl
        | true =>
          simp_all only [lf__law_wrong_part_12, df__law_is_number, e_law_num _ _ _ _ hl]
          have := of_decide_eq_true bb
          simp only [ne_eq, this, not_true_eq_false, decide_false]
          cases bl : inB l 0 8 with
          | false => simp_all only [lf__law_wrong_part_12, df__law_is_number]; exact isR.at rfl
          | true => simp_all only [lf__law_wrong_part_12, df__law_is_number]; exact isR.at rfl
end
end LawX
set_option maxHeartbeats 1000000
namespace LawX
open PySem PySem.Spec PyProof.Rows L2 DE He
section
variable {r m s l : Nat}
theorem okAt_eq (r m s : Nat) (l : List Bool) : okAt r m s l = (!decide ((m : Int) < (ct (l.take s) : Nat)) && !(decide (((l.take (r + 1)).length : Int) = (r : Int) + 1) && decide (((ct (l.take (r + 1)) : Nat) : Int) = (r : Int) + 1))) := by
  unfold okAt
  rw [show decide (ct (l.take s) ≤ m) = !decide ((m : Int) < (ct (l.take s) : Nat)) by rw [← decide_not]; exact decide_eq_decide.mpr (by omega)]
  congr 1
  have l1 := ct_le (l.take (r + 1))
  have l2 : (l.take (r + 1)).length ≤ r + 1 := by rw [List.length_take]; omega
  rw [← Bool.decide_and, ← decide_not]
  exact decide_eq_decide.mpr (by omega)
theorem lawK_bad {bs : List Bool} {i : Nat} (hi : i < bs.length) (h : okAt r m s (bs.drop i) = false) : lawK r m s bs = false := by
  unfold lawK
  refine Bool.eq_false_iff.mpr fun z => ?_
  have := List.all_eq_true.mp z i (List.mem_range.mpr hi)
  rw [h] at this
  cases this
theorem cut_BD (bs : List Bool) (i k : Nat) (j : Int) (h : j = (i : Int) + (k : Int)) : cutD (BD bs) (some (i : Int)) (some j) = BD ((bs.drop i).take k) := by
  rw [h, show ((i : Int) + (k : Int)) = ((i + k : Nat) : Int) by omega, cutD_both, BD_drop, BD_take]
theorem e_law_keeps (bs : List Bool) (hl : bs.length < 1000) (t : DE.TA) (hs : s < 1000) (hr : r < 1000) : f__law_keeps [wD r m s l, .lst (BD bs)] t = .ok (.bl (lawK r m s bs), .fz) t := by
  refine Wp.eq ?_
  rw [st__law_keeps]
  unfold s__law_keeps
  simp_all only [lp__law_keeps_0, d_run, d_many, d_span]
  refine ⟨inRng_of (by omega) (by rw [BD_len]; omega), ?_⟩
  rw [BD_len]
  obtain ⟨I, hI⟩ : ∃ I : Nat → En → DE.TA → Prop, ∀ i ρ t', I i ρ t' ↔ ∃ x : SV, ρ = [.fz (wD r m s l), .fz (.lst (BD bs)), x, .fz (.int s), .fz (.int r)] ∧ isLock (some x) = false ∧ t' = t ∧ ∀ j, j < i → okAt r m s (bs.drop j) = true := ⟨_, fun _ _ _ => Iff.rfl⟩
  refine wp_rng I ((hI _ _ _).mpr ⟨.un, rfl, rfl, rfl, fun j hj => by omega⟩) ?_ ?_
  · intro i ρ t1 hi hh
    obtain ⟨x, rfl, hx, rfl, ok⟩ := (hI _ _ _).mp hh
    have c1 := cut_BD bs i s ((i : Int) + (s : Int)) rfl
    have c2 := cut_BD bs i (r + 1) ((i : Int) + (r : Int) + 1) (by omega)
    have okd := okAt_eq r m s (bs.drop i)
    have bad : okAt r m s (bs.drop i) = false → lawK r m s bs = false := lawK_bad hi
    have good : okAt r m s (bs.drop i) = true → ∀ j, j < i + 1 → okAt r m s (bs.drop j) = true := fun h j hj => by
      by_cases c : j = i
      · rw [c]; exact h
      · exact ok j (by omega)
    have next : okAt r m s (bs.drop i) = true → I (i + 1) [.fz (wD r m s l), .fz (.lst (BD bs)), .fz (.int i), .fz (.int s), .fz (.int r)] t1 := fun h => (hI _ _ _).mpr ⟨_, rfl, rfl, rfl, good h⟩
    simp_all only [lp__law_keeps_0, setE_0 x _ _ hx, c1, c2, e_sumL, d_many, cmp_eq, eqD_i]
    refine if_s (fun h1 => ?_) fun h1 => ?_
    · simp_all only [lp__law_keeps_0]
      rw [bad (by rw [okd, h1]; rfl)]; exact isR.at rfl
    · simp_all only [lp__law_keeps_0, c1, c2, e_sumL, d_many, cmp_eq, eqD_i]
      rw [BD_len]
      refine if_s (fun h2 => ?_) fun h2 => ?_
      · simp_all only [lp__law_keeps_0, c1, c2, e_sumL, d_many, cmp_eq, eqD_i]
        refine if_s (fun h3 => ?_) fun h3 => ?_
        · simp_all only [lp__law_keeps_0]
          rw [bad (by rw [okd, h1, h2, h3]; rfl)]; exact isR.at rfl
        · simp_all only [lp__law_keeps_0]
          exact next (by rw [okd, h1, h2, h3]; rfl)
      · simp_all only [lp__law_keeps_0]
        exact next (by rw [okd, h1, h2]; rfl)
  · intro ρ t1 hh
    obtain ⟨x, rfl, hx, rfl, ok⟩ := (hI _ _ _).mp hh
    simp_all only [lp__law_keeps_0]
    have : lawK r m s bs = true := by
      unfold lawK
      exact List.all_eq_true.mpr fun j hj => ok j (List.mem_range.mp hj)
    rw [this]
    exact isR.at rfl
end
theorem wp_pick {xs : List D} {t : DE.TA} {Q : Qd DE.TA} {Z : Zd DE.TA} (h0 : xs ≠ []) (h1 : xs.length < 1000000) (q : ∀ x ∈ xs, ∀ t', Q (x, .fz) t') : Wp (f__law_pick [.tape, .lst xs] t) Q Z := by
  rw [st__law_pick]
  unfold s__law_pick
  simp_all only [lf__law_pick_8, df__law_draw, show f__law_draw = drawA from rfl]
  have : 0 < xs.length := List.length_pos_iff.mpr h0
  refine wp_draw (by omega) (by omega) fun i t' i0 i1 => ?_
  obtain ⟨x, hx, e⟩ := atD_mem i0 i1
  simp_all only [lf__law_pick_8, df__law_draw, e]
  exact q x hx t'
theorem mergeW (r m s l : D) : mergeD (List.zip [keyD (.inr "run"), keyD (.inr "many"), keyD (.inr "span"), keyD (.inr "late")] [r, m, s, l]) = [(.str "run", r), (.str "many", m), (.str "span", s), (.str "late", l)] := rfl
theorem wp_weather {t : DE.TA} {Q : Qd DE.TA} {Z : Zd DE.TA} (q : ∀ (r m s l : Nat), WOk r m s l → ∀ t', Q (wD r m s l, .fr) t') : Wp (f__law_weather [.tape, .int 12] t) Q Z := by
  rw [st__law_weather]
  unfold s__law_weather
  simp_all only [lf__law_weather_8, df__law_draw, lf__law_weather_9, df__law_pick, show f__law_draw = drawA from rfl]
  refine wp_draw (by omega) (by omega) fun s t1 s0 s1 => ?_
  simp_all only [lf__law_weather_8, df__law_draw, lf__law_weather_9, df__law_pick, show f__law_draw = drawA from rfl]
  refine wp_draw (by omega) (by omega) fun c t2 c0 c1 => ?_
  simp_all only [lf__law_weather_8, df__law_draw, lf__law_weather_9, df__law_pick]
  have fin2 : ∀ (r m : Int) t, 0 ≤ m → m < 2 + s → 0 ≤ r → r ≤ m → (0 < m → 0 < r) → Wp (f__law_pick [.tape, .lst [D.int 0, D.int 0, D.int 0, D.int 1, D.int 2, D.int 8]] t) (kCons G__law_weather .nil [.fz .tape, .fz (.int 12), .fz (.int (2 + s)), .fz (.int m), .fz (.int r)] (kCons2 (.int (2 + s), .fz) (kCons2 (.int m, .fz) (kCons2 (.int r, .fz) (kDct [.inr "run", .inr "many", .inr "span", .inr "late"] (kRet (kSs G__law_weather 0 .nil (kEnd Q) Z)))))) Z) Z := fun r m t m0 m1 r0 r1 rm => by
    refine wp_pick (by simp) (by simp) fun x hx t' => ?_
    simp_all only [lf__law_weather_8, df__law_draw, lf__law_weather_9, df__law_pick, mergeW]
    have : ∃ l : Int, x = .int l ∧ 0 ≤ l ∧ l ≤ 8 := by
      simp only [List.mem_cons, List.not_mem_nil, or_false] at hx
      rcases hx with rfl | rfl | rfl | rfl | rfl | rfl <;> exact ⟨_, rfl, by omega, by omega⟩
    obtain ⟨l, rfl, l0, l1⟩ := this
    have e := q r.toNat m.toNat (2 + s).toNat l.toNat (by constructor <;> omega) t'
    rw [Int.toNat_of_nonneg r0, Int.toNat_of_nonneg m0, Int.toNat_of_nonneg l0, Int.toNat_of_nonneg (show 0 ≤ 2 + s by omega)] at e
    exact e
  have fin : ∀ (m : Int) t, 0 ≤ m → m < 2 + s → ifG (.bl (decide (m = 0))) (.ge G__law_weather (.int 0) [.fz .tape, .fz (.int 12), .fz (.int (2 + s)), .fz (.int m), .un] (kAsg [.fz .tape, .fz (.int 12), .fz (.int (2 + s)), .fz (.int m), .un] (.nm 4) false (kSs G__law_weather 0 (.cons (.ret (.dct [.inr "run", .inr "many", .inr "span", .inr "late"] (.cons (.var 4) (.cons (.var 3) (.cons (.var 2) (.cons (.call 9 (.cons (.var 0) (.cons (.lst (.cons (.int 0) (.cons (.int 0) (.cons (.int 0) (.cons (.int 1) (.cons (.int 2) (.cons (.int 8) .nil))))))) .nil))) .nil)))))) .nil) (kEnd Q) Z) Z) Z)
      (.ge G__law_weather (.bin .add (.int 1) (.call 8 (.cons (.var 0) (.cons (.var 3) .nil)))) [.fz .tape, .fz (.int 12), .fz (.int (2 + s)), .fz (.int m), .un] (kAsg [.fz .tape, .fz (.int 12), .fz (.int (2 + s)), .fz (.int m), .un] (.nm 4) false (kSs G__law_weather 0 (.cons (.ret (.dct [.inr "run", .inr "many", .inr "span", .inr "late"] (.cons (.var 4) (.cons (.var 3) (.cons (.var 2) (.cons (.call 9 (.cons (.var 0) (.cons (.lst (.cons (.int 0) (.cons (.int 0) (.cons (.int 0) (.cons (.int 1) (.cons (.int 2) (.cons (.int 8) .nil))))))) .nil))) .nil)))))) .nil) (kEnd Q) Z) Z) Z) t := fun m t m0 m1 => by
    refine if_d (fun h => ?_) fun h => ?_
    · simp_all only [lf__law_weather_8, df__law_draw, lf__law_weather_9, df__law_pick]
      exact fin2 0 m t (by omega) (by omega) (by omega) (by omega) (by omega)
    · simp_all only [lf__law_weather_8, df__law_draw, lf__law_weather_9, df__law_pick, show f__law_draw = drawA from rfl]
      refine wp_draw (by omega) (by omega) fun r t2 r0 r1 => ?_
      simp_all only [lf__law_weather_8, df__law_draw, lf__law_weather_9, df__law_pick]
      exact fin2 (1 + r) m t2 (by omega) (by omega) (by omega) (by omega) (by omega)
  refine if_d (fun h => ?_) fun h => ?_
  · simp_all only [lf__law_weather_8, df__law_draw, lf__law_weather_9, df__law_pick, show f__law_draw = drawA from rfl]
    refine wp_draw (by split <;> omega) (by split <;> omega) fun m t3 m0 m1 => ?_
    simp_all only [lf__law_weather_8, df__law_draw, lf__law_weather_9, df__law_pick, cmp_eq, eqD_i]
    exact fin m t3 m0 (by split at m1 <;> omega)
  · simp_all only [lf__law_weather_8, df__law_draw, lf__law_weather_9, df__law_pick, show f__law_draw = drawA from rfl]
    refine wp_draw (by omega) (by omega) fun m t3 m0 m1 => ?_
    simp_all only [lf__law_weather_8, df__law_draw, lf__law_weather_9, df__law_pick, cmp_eq, eqD_i]
    exact fin m t3 m0 (by omega)
end LawX
set_option maxHeartbeats 1000000
namespace LawX
open PySem PySem.Spec PyProof.Rows L2 DE He
section
variable {r m s l : Nat}
theorem put_BD (bs : List Bool) (j : Int) (h0 : 0 ≤ j) (h1 : j < bs.length) : putD (.lst (BD bs)) (.int j) (.int 1) = some (.lst (BD (bs.set j.toNat true))) := by
  show (ixN (BD bs).length j).map _ = _
  unfold ixN
  rw [if_pos h0, if_pos (by rw [BD_len]; exact h1), Option.map_some]
  congr 2
  show (BD bs).set j.toNat (D.int (bI true)) = _
  rw [BD, BI, ← List.map_set, ← List.map_set]
theorem wp_row (ok : WOk r m s l) {t : DE.TA} {Q : Qd DE.TA} {Z : Zd DE.TA} (q : ∀ bs : List Bool, bs.length ≤ 40 → ∀ t', Q (.lst (BD bs), .fr) t') : Wp (f__law_row [.tape, wD r m s l] t) Q Z := by
  obtain ⟨s0, s1, m0, m1, r0, r1, rm, l0, l1⟩ := ok
  rw [st__law_row]
  unfold s__law_row
  simp_all only [lf__law_row_8, df__law_draw, lf__law_row_9, df__law_pick, lf__law_row_11, df__law_may_be_lost, lp__law_row_1, d_span, span_sub (show 2 ≤ s by omega), e_zeros (s - 1) (by omega) (by omega)]
  refine wp_pick (by simp) (by simp) fun x hx t1 => ?_
  obtain ⟨n, rfl, hn⟩ : ∃ n : Nat, x = .int n ∧ n ≤ 40 := by
    simp only [List.mem_cons, List.not_mem_nil, or_false] at hx
    rcases hx with rfl | rfl | rfl | rfl | rfl | rfl | rfl
    · exact ⟨0, rfl, by omega⟩
    · exact ⟨1, rfl, by omega⟩
    · exact ⟨2, rfl, by omega⟩
    · exact ⟨5, rfl, by omega⟩
    · exact ⟨13, rfl, by omega⟩
    · exact ⟨30, rfl, by omega⟩
    · exact ⟨40, rfl, by omega⟩
  simp_all only [lf__law_row_8, df__law_draw, lf__law_row_9, df__law_pick, lf__law_row_11, df__law_may_be_lost, lp__law_row_1]
  refine ⟨inRng_of (by omega) (by omega), ?_⟩
  obtain ⟨I, hI⟩ : ∃ I : Nat → En → DE.TA → Prop, ∀ i ρ t', I i ρ t' ↔ ∃ (w bs : List Bool) (x y : SV), ρ = [.fz .tape, .fz (wD r m s l), x, .fz (.tup (BD w)), .ow (.lst (BD bs)), y, .un] ∧ isLock (some x) = false ∧ isLock (some y) = false ∧ w.length = s - 1 ∧ bs.length = i := ⟨_, fun _ _ _ => Iff.rfl⟩
  refine wp_rng I ((hI _ _ _).mpr ⟨_, [], .un, .un, rfl, rfl, rfl, by simp, rfl⟩) ?_ ?_
  · intro i ρ t2 hi hh
    obtain ⟨w, bs, x, y, rfl, hx, hy, hw, hb⟩ := (hI _ _ _).mp hh
    simp_all only [lf__law_row_8, df__law_draw, lf__law_row_9, df__law_pick, lf__law_row_11, df__law_may_be_lost, lp__law_row_1, setE_0 x _ _ hx, setE_0 y _ _ hy, show f__law_draw = drawA from rfl]
    refine wp_draw (by omega) (by omega) fun c t3 c0 c1 => ?_
    simp_all only [lf__law_row_8, df__law_draw, lf__law_row_9, df__law_pick, lf__law_row_11, df__law_may_be_lost, lp__law_row_1]
    refine if_and (fun b t4 _ => ?_) fun _ => ?_
    · simp_all only [lf__law_row_8, df__law_draw, lf__law_row_9, df__law_pick, lf__law_row_11, df__law_may_be_lost, lp__law_row_1, setE_0 y _ _ hy]
      rw [show (if b = true then (1 : Int) else 0) = bI b from rfl]
      refine ⟨lim_gt _ (by rw [BD_len]; omega), ?_⟩
      rw [op_addT _ _ (lim_ge _ (by rw [BD_len]; simp; omega)), BD_b, ← BD_app, ← BD_app]
      simp_all only [lf__law_row_8, df__law_draw, lf__law_row_9, df__law_pick, lf__law_row_11, df__law_may_be_lost, lp__law_row_1]
      rw [show (1 : Int) = ((1 : Nat) : Int) from rfl, cutD_from, BD_drop]
      exact (hI _ _ _).mpr ⟨_, _, _, _, rfl, rfl, rfl, by simp; omega, by simp; omega⟩
    · simp_all only [lf__law_row_8, df__law_draw, lf__law_row_9, df__law_pick, lf__law_row_11, df__law_may_be_lost, lp__law_row_1, e_lost w (show r ≤ w.length by omega)]
      exact ⟨_, rfl⟩
  · intro ρ t2 hh
    obtain ⟨w, bs, x, y, rfl, hx, hy, hw, hb⟩ := (hI _ _ _).mp hh
    simp_all only [lf__law_row_8, df__law_draw, lf__law_row_9, df__law_pick, lf__law_row_11, df__law_may_be_lost, lp__law_row_1, cmp_ne, eqD_ints0]
    refine if_and (fun b t4 hb0 => ?_) fun hc => ?_
    · simp_all only [lf__law_row_8, df__law_draw, lf__law_row_9, df__law_pick, lf__law_row_11, df__law_may_be_lost, lp__law_row_1]
      refine if_s (fun h => ?_) fun h => ?_
      · have ne : 0 < bs.length := by
          have := hb0 h
          cases bs with
          | nil => cases this
          | cons _ _ => simp
        have ne2 : (0 : Int) < (BD bs).length := by rw [BD_len]; omega
        simp_all only [lf__law_row_8, df__law_draw, lf__law_row_9, df__law_pick, lf__law_row_11, df__law_may_be_lost, lp__law_row_1, show f__law_draw = drawA from rfl]
        refine wp_draw ne2 (by rw [BD_len]; omega) fun c t5 c0 c1 => ?_
        simp_all only [lf__law_row_8, df__law_draw, lf__law_row_9, df__law_pick, lf__law_row_11, df__law_may_be_lost, lp__law_row_1]
        refine wp_pick (by simp) (by simp) fun z hz t6 => ?_
        rw [BD_len] at c1 hz
        obtain ⟨j, rfl, j0, j1⟩ : ∃ j : Int, z = .int j ∧ 0 ≤ j ∧ j < bs.length := by
          simp only [List.mem_cons, List.not_mem_nil, or_false] at hz
          rcases hz with rfl | rfl
          · exact ⟨_, rfl, by omega, by omega⟩
          · exact ⟨_, rfl, c0, c1⟩
        simp_all only [lf__law_row_8, df__law_draw, lf__law_row_9, df__law_pick, lf__law_row_11, df__law_may_be_lost, lp__law_row_1, put_BD bs j j0 j1]
        exact q _ (by simp; omega) t6
      · simp_all only [lf__law_row_8, df__law_draw, lf__law_row_9, df__law_pick, lf__law_row_11, df__law_may_be_lost, lp__law_row_1]
        exact q _ (by omega) t4
    · simp_all only [lf__law_row_8, df__law_draw, lf__law_row_9, df__law_pick, lf__law_row_11, df__law_may_be_lost, lp__law_row_1, show f__law_draw = drawA from rfl]
      refine wp_draw (by omega) (by omega) fun c t3 c0 c1 => ?_
      simp_all only [lf__law_row_8, df__law_draw, lf__law_row_9, df__law_pick, lf__law_row_11, df__law_may_be_lost, lp__law_row_1, cmp_eq, eqD_i]
      exact ⟨_, rfl⟩
end
end LawX
set_option maxHeartbeats 1000000
namespace LawX
open PySem PySem.Spec PyProof.Rows L2 DE He
def txB (a b : Bool) : Str := (PyData.list [.bool a, .bool b]).shown
theorem e_reprB (a b : Bool) (k : Kd) (t : DE.TA) : p2.f [(.lst [.bl a, .bl b], k)] t = .ok (.str (txB a b), .fz) t := by
  show fRepr [(.lst [.bl a, .bl b], k)] t = _
  refine repr_is k (p := .list [.bool a, .bool b]) rfl rfl rfl rfl ?_ ?_
  · show (max 0 (max 0 0)) + 1 ≤ 60
    omega
  · show 0 + 1 + (0 + 1 + 0) ≤ 2 ^ 20
    omega
theorem ne_self {x : Str} (h : PyData.strOk x = true) : (eqD (.str x) (.str x)).map (!·) = some false := by
  rw [eqD_str h h, Option.map_some, decide_eq_true rfl]; rfl
theorem txB_ok (a b : Bool) : PyData.strOk (txB a b) = true := strOk_shown _ rfl
theorem ne_bl (a b : Bool) : (eqD (.bl a) (.bl b)).map (!·) = some (!decide (a = b)) := by rw [eqD_bl]; rfl
theorem e_mul2 (x : D) (t : DE.TA) : p1.f [(.lst [x], .fr), (.int 2, .fz)] t = .ok (.lst [x, x], .fr) t := rfl
theorem ne_BD (bs : List Bool) : (eqD (.lst (BD bs)) (.lst (BD bs))).map (!·) = some false := by
  rw [eqD_ints, Option.map_some, decide_eq_true rfl]; rfl
theorem BD_at (bs : List Bool) (i : Nat) (d : D) (h : (BD bs)[i]? = some d) : ∃ b, bs[i]? = some b ∧ d = .int (bI b) := by
  simp only [BD, BI, List.getElem?_map] at h
  cases hb : bs[i]? with
  | none => rw [hb] at h; cases h
  | some b => rw [hb] at h; cases h; exact ⟨b, rfl, rfl⟩
section
variable {r m s l : Nat}
theorem e_rows (ok : WOk r m s l) {t : DE.TA} {Q : Qd DE.TA} {Z : Zd DE.TA} (q : ∀ t', Q (.bl true, .fz) t') : Wp (f__law_rows_right [.tape, wD r m s l, wW r m s l] t) Q Z := by
  have okk := ok
  obtain ⟨s0, s1, m0, m1, r0, r1, rm, l0, l1⟩ := ok
  have hs : 2 ≤ s := by omega
  have hr : r ≤ s - 1 := by omega
  rw [st__law_rows_right]
  unfold s__law_rows_right
  simp_all only [lf__law_rows_right_6, df_keeps_to, lf__law_rows_right_7, df_let_next, lf__law_rows_right_11, df__law_may_be_lost, lf__law_rows_right_14, df__law_keeps, lf__law_rows_right_15, df__law_row, lp__law_rows_right_1, lp__law_rows_right_2]
  refine ⟨rfl, ?_⟩
  obtain ⟨I, hI⟩ : ∃ I : Nat → En → DE.TA → Prop, ∀ i ρ t', I i ρ t' ↔ ∃ (x3 x4 x5 x6 x7 x8 x9 x10 : SV), ρ = [.fz .tape, .fz (wD r m s l), .fz (wW r m s l), x3, x4, x5, x6, x7, x8, x9, x10, .un] ∧ isLock (some x3) = false ∧ isLock (some x4) = false ∧ isLock (some x5) = false ∧ isLock (some x6) = false ∧ isLock (some x7) = false ∧ isLock (some x8) = false ∧ isLock (some x9) = false ∧ isLock (some x10) = false := ⟨_, fun _ _ _ => Iff.rfl⟩
  refine wp_rng (n := 4) I ((hI _ _ _).mpr ⟨_, _, _, _, _, _, _, _, rfl, rfl, rfl, rfl, rfl, rfl, rfl, rfl, rfl⟩) ?_ ?_
  · intro i ρ t2 hi hh
    obtain ⟨x3, x4, x5, x6, x7, x8, x9, x10, rfl, h3, h4, h5, h6, h7, h8, h9, h10⟩ := (hI _ _ _).mp hh
    simp_all only [lf__law_rows_right_6, df_keeps_to, lf__law_rows_right_7, df_let_next, lf__law_rows_right_11, df__law_may_be_lost, lf__law_rows_right_14, df__law_keeps, lf__law_rows_right_15, df__law_row, lp__law_rows_right_1, lp__law_rows_right_2, setE_0 x3 _ _ h3, setE_0 x4 _ _ h4, setE_0 x5 _ _ h5, setE_0 x6 _ _ h6, setE_0 x7 _ _ h7]
    refine wp_row okk fun bs hb t3 => ?_
    have hl : bs.length < 1000 := by omega
    have ek := keeps_law (m := m) hs hr bs
    have el : ∀ (bs : List Bool) (hl : bs.length < 1000) t, f__law_keeps [wD r m s l, .lst (BD bs)] t = .ok (.bl (lawK r m s bs), .fz) t := fun bs hl t => e_law_keeps bs hl t (by omega) (by omega)
    have el3 := el bs hl t3
    simp_all only [lf__law_rows_right_6, df_keeps_to, lf__law_rows_right_7, df_let_next, lf__law_rows_right_11, df__law_may_be_lost, lf__law_rows_right_14, df__law_keeps, lf__law_rows_right_15, df__law_row, lp__law_rows_right_1, lp__law_rows_right_2, setE_0 x3 _ _ h3, setE_0 x4 _ _ h4, setE_0 x5 _ _ h5, setE_0 x6 _ _ h6, setE_0 x7 _ _ h7, e_keeps_to hs (by omega) hr bs hl t3 (.lst (BD bs)) (.inl rfl), e_keeps_to hs (by omega) hr bs hl t3 (.tup (BD bs)) (.inr rfl), ek, el3, e_mul2, e_reprB, cmp_ne, ne_self (txB_ok _ _), ne_BD, d_span, span_sub hs, e_zeros (s - 1) (by omega) (by omega)]
    obtain ⟨J, hJ⟩ : ∃ J : Nat → En → DE.TA → Prop, ∀ k ρ t', J k ρ t' ↔ ∃ (x8 x9 x10 : SV), ρ = [.fz .tape, .fz (wD r m s l), .fz (wW r m s l), .fz (.int i), .fz (.lst (BD bs)), .fz (.lst (BD bs)), .fz (.lst [.bl (lawK r m s bs), .bl (lawK r m s bs)]), .fz (.tup (BD (memo s (bs.take k)))), x8, x9, x10, .un] ∧ isLock (some x8) = false ∧ isLock (some x9) = false ∧ isLock (some x10) = false := ⟨_, fun _ _ _ => Iff.rfl⟩
    refine wp_enm J ((hJ _ _ _).mpr ⟨x8, x9, x10, by rw [List.take_zero, memo_nil], h8, h9, h10⟩) ?_ ?_
    · intro k ρ t4 d hk hd hh
      obtain ⟨x8, x9, x10, rfl, h8, h9, h10⟩ := (hJ _ _ _).mp hh
      obtain ⟨b, hb1, rfl⟩ := BD_at bs k d hd
      have hml := memo_len s (bs.take k)
      have hk2 : k < bs.length := by rwa [BD_len] at hk
      have st := lawK_snoc (m := m) hs hr (bs.take k) true
      have hkl : (bs.take k).length < 1000 := by rw [List.length_take]; omega
      have c1 : cutD (BD bs) none (some (k : Int)) = BD (bs.take k) := by rw [cutD_to, BD_take]
      simp_all only [lf__law_rows_right_6, df_keeps_to, lf__law_rows_right_7, df_let_next, lf__law_rows_right_11, df__law_may_be_lost, lf__law_rows_right_14, df__law_keeps, lf__law_rows_right_15, df__law_row, lp__law_rows_right_1, lp__law_rows_right_2, setE_0 x8 _ _ h8, setE_0 x9 _ _ h9, setE_0 x10 _ _ h10, e_lost (memo s (bs.take k)) (show r ≤ _ by rw [hml]; exact hr), c1, el (bs.take k) hkl]
      have eln := fun t => e_let_next (r := r) (m := m) (l := l) hs hr (memo s (bs.take k)) hml (by omega) t
      have addM : op2 .add (.tup (BD (memo s (bs.take k)))) (.tup [.int (bI b)]) = some (.tup (BD (memo s (bs.take k) ++ [b])), .fz) := by
        rw [op_addT _ _ (lim_ge _ (by rw [BD_len, hml]; simp; omega)), BD_b, ← BD_app]
      have tk : bs.take (k + 1) = bs.take k ++ [b] := by rw [List.take_succ, hb1]; rfl
      refine if_s (fun h => ?_) fun h => ?_
      · rw [h, Bool.true_and] at st
        simp_all only [lf__law_rows_right_6, df_keeps_to, lf__law_rows_right_7, df_let_next, lf__law_rows_right_11, df__law_may_be_lost, lf__law_rows_right_14, df__law_keeps, lf__law_rows_right_15, df__law_row, lp__law_rows_right_1, lp__law_rows_right_2, c1]
        rw [op_addL _ _ (lim_ge _ (by rw [BD_len]; simp; omega)), BD_1, ← BD_app]
        simp_all only [lf__law_rows_right_6, df_keeps_to, lf__law_rows_right_7, df_let_next, lf__law_rows_right_11, df__law_may_be_lost, lf__law_rows_right_14, df__law_keeps, lf__law_rows_right_15, df__law_row, lp__law_rows_right_1, lp__law_rows_right_2, el (bs.take k ++ [true]) (by simp; omega), cmp_ne, ne_bl]
        refine if_f' (by rw [st]; simp) ?_
        simp_all only [lf__law_rows_right_6, df_keeps_to, lf__law_rows_right_7, df_let_next, lf__law_rows_right_11, df__law_may_be_lost, lf__law_rows_right_14, df__law_keeps, lf__law_rows_right_15, df__law_row, lp__law_rows_right_1, lp__law_rows_right_2, eln, e_reprB, cmp_ne, ne_self (txB_ok _ _)]
        rw [addM]
        simp_all only [lf__law_rows_right_6, df_keeps_to, lf__law_rows_right_7, df_let_next, lf__law_rows_right_11, df__law_may_be_lost, lf__law_rows_right_14, df__law_keeps, lf__law_rows_right_15, df__law_row, lp__law_rows_right_1, lp__law_rows_right_2]
        rw [show (1 : Int) = ((1 : Nat) : Int) from rfl, cutD_from, BD_drop, ← memo_snoc, ← tk]
        exact (hJ _ _ _).mpr ⟨_, _, _, rfl, rfl, rfl, rfl⟩
      · simp_all only [lf__law_rows_right_6, df_keeps_to, lf__law_rows_right_7, df_let_next, lf__law_rows_right_11, df__law_may_be_lost, lf__law_rows_right_14, df__law_keeps, lf__law_rows_right_15, df__law_row, lp__law_rows_right_1, lp__law_rows_right_2, eln, e_reprB, cmp_ne, ne_self (txB_ok _ _)]
        rw [addM]
        simp_all only [lf__law_rows_right_6, df_keeps_to, lf__law_rows_right_7, df_let_next, lf__law_rows_right_11, df__law_may_be_lost, lf__law_rows_right_14, df__law_keeps, lf__law_rows_right_15, df__law_row, lp__law_rows_right_1, lp__law_rows_right_2]
        rw [show (1 : Int) = ((1 : Nat) : Int) from rfl, cutD_from, BD_drop, ← memo_snoc, ← tk]
        exact (hJ _ _ _).mpr ⟨_, _, _, rfl, rfl, rfl, rfl⟩
    · intro ρ t4 hh
      obtain ⟨x8, x9, x10, rfl, h8, h9, h10⟩ := (hJ _ _ _).mp hh
      simp_all only [lf__law_rows_right_6, df_keeps_to, lf__law_rows_right_7, df_let_next, lf__law_rows_right_11, df__law_may_be_lost, lf__law_rows_right_14, df__law_keeps, lf__law_rows_right_15, df__law_row, lp__law_rows_right_1, lp__law_rows_right_2]
      exact (hI _ _ _).mpr ⟨_, _, _, _, _, _, _, _, rfl, rfl, rfl, rfl, rfl, rfl, h8, h9, h10⟩
  · intro ρ t2 hh
    obtain ⟨x3, x4, x5, x6, x7, x8, x9, x10, rfl, h3, h4, h5, h6, h7, h8, h9, h10⟩ := (hI _ _ _).mp hh
    simp_all only [lf__law_rows_right_6, df_keeps_to, lf__law_rows_right_7, df_let_next, lf__law_rows_right_11, df__law_may_be_lost, lf__law_rows_right_14, df__law_keeps, lf__law_rows_right_15, df__law_row, lp__law_rows_right_1, lp__law_rows_right_2]
    exact q t2
end
end LawX
set_option maxHeartbeats 1000000
namespace LawX
open PySem PySem.Spec PyProof.Rows L2 DE He
theorem e_isi5 (v : Option D) (k : Kd) (t : DE.TA) : p5.f [(.exc 2 v, k)] t = .ok (.bl true, .fz) t := rfl
theorem e_isi5n (k : Kd) (t : DE.TA) : p5.f [(.non, k)] t = .ok (.bl false, .fz) t := rfl
theorem e_isi6 (v : Option D) (k : Kd) (t : DE.TA) : p6.f [(.exc 3 v, k)] t = .ok (.bl true, .fz) t := rfl
theorem e_isi7 (v : Option D) (k : Kd) (t : DE.TA) : p7.f [(.exc 4 v, k)] t = .ok (.bl true, .fz) t := rfl
theorem e_part (d : D) (k : Kd) (t : DE.TA) : p8.f [(.exc 2 (some d), k)] t = .ok (d, .fz) t := by
  show (if (decide (2 < 5) && decide (ATR 2 = "part")) = true then R.ok (d, Kd.fz) t else R.no) = _
  rw [if_pos (by decide +kernel)]
theorem d01 : mergeD (List.zip [keyD (.inl 0)] [D.int 1]) = [(.int 0, .int 1)] := rfl
theorem strMul (n : Nat) (h : n ≤ 12) (k k' : Kd) (t : DE.TA) : p1.f [(.str "0", k), (.int n, k')] t = .ok (.str (Txt.mul "0" n), .fz) t := by
  show (if mulOk (n : Int) (("0" : Str).length) = true then R.ok (D.str (Txt.mul "0" n), Kd.fz) t else R.no) = _
  rw [if_pos]
  unfold mulOk
  have e : ("0" : Str).length = 1 := rfl
  simp only [e, Bool.and_eq_true, decide_eq_true_eq]
  omega
section
variable {r m s l : Nat}
theorem e_refused (ok : WOk r m s l) {t : DE.TA} {Q : Qd DE.TA} {Z : Zd DE.TA} (q : ∀ t', Q (.bl true, .fz) t') : Wp (f__law_refused_right [.tape, wD r m s l, wW r m s l] t) Q Z := by
  obtain ⟨s0, s1, m0, m1, r0, r1, rm, l0, l1⟩ := ok
  have hs : 2 ≤ s := by omega
  have hr : r ≤ s - 1 := by omega
  rw [st__law_refused_right]
  unfold s__law_refused_right
  simp_all only [lf__law_refused_right_6, df_keeps_to, lf__law_refused_right_7, df_let_next, lf__law_refused_right_9, df__law_pick, lp__law_refused_right_1, lp__law_refused_right_5, lp__law_refused_right_6, lp__law_refused_right_7, lp__law_refused_right_8, ln__law_refused_right]
  refine wp_pick (by simp) (by simp) fun no hno t1 => ?_
  have pno : plainD no = true := by
    simp only [List.mem_cons, List.not_mem_nil, or_false] at hno
    rcases hno with rfl | rfl | rfl | rfl | rfl <;> rfl
  simp_all only [lf__law_refused_right_6, df_keeps_to, lf__law_refused_right_7, df_let_next, lf__law_refused_right_9, df__law_pick, lp__law_refused_right_1, lp__law_refused_right_5, lp__law_refused_right_6, lp__law_refused_right_7, lp__law_refused_right_8, ln__law_refused_right, d01]
  refine wp_pick (by simp) (by simp) fun bad hbad t2 => ?_
  have pbad : plainS bad ∧ bitsD bad = false := by
    simp only [List.mem_cons, List.not_mem_nil, or_false] at hbad
    rcases hbad with rfl | rfl | rfl | rfl | rfl | rfl | rfl | rfl | rfl | rfl
    all_goals
      refine ⟨?_, rfl⟩
      first | rfl | exact ⟨by simp [plainD, tyOfD], lim_ge _ (by simp)⟩
  simp_all only [lf__law_refused_right_6, df_keeps_to, lf__law_refused_right_7, df_let_next, lf__law_refused_right_9, df__law_pick, lp__law_refused_right_1, lp__law_refused_right_5, lp__law_refused_right_6, lp__law_refused_right_7, lp__law_refused_right_8, ln__law_refused_right, fun t => e_keeps_no t (e := bad) pno, fun t => e_let_no t (e := bad) pno, e_isi5, e_part, List.length_cons, List.length_nil, Nat.reduceLT]
  refine ⟨lim_ge _ (by omega), ?_⟩
  obtain ⟨z, hz⟩ : ∃ z : List Bool, z = List.replicate (s - 1) false := ⟨_, rfl⟩
  have zl : z.length = s - 1 := by rw [hz, List.length_replicate]
  have z1 := e_zeros (s - 1) (by omega) (by omega)
  rw [← hz] at z1
  have ad : ∀ xs ys : List D, xs.length ≤ 100 → ys.length ≤ 100 → op2 .add (.tup xs) (.tup ys) = some (.tup (xs ++ ys), .fz) := fun xs ys h1 h2 => op_addT _ _ (lim_ge _ (by omega))
  have a1 := ad (BD z) [.int 0] (by rw [BD_len]; omega) (by simp)
  have c1 : cutD (BD z) (some 1) none = BD (z.drop 1) := by rw [show (1 : Int) = ((1 : Nat) : Int) from rfl, cutD_from, BD_drop]
  have a2 := ad [.int 2] (BD (z.drop 1)) (by simp) (by rw [BD_len, List.length_drop]; omega)
  have a3 := ad [.bl true] (BD (z.drop 1)) (by simp) (by rw [BD_len, List.length_drop]; omega)
  have c2 : cutD (BD z) none (some (-1)) = BD (z.take (s - 1 - 1)) := by rw [show (-1 : Int) = -((1 : Nat) : Int) from rfl, cutD_neg _ _ (by omega), BD_take, BD_len, zl]
  have a4 := ad (BD (z.take (s - 1 - 1))) [.non] (by rw [BD_len, List.length_take]; omega) (by simp)
  have ln : ((BD z).length : Int) = ((s - 1 : Nat) : Int) := by rw [BD_len, zl]
  have hy := fun t => strMul (s - 1) (by omega) .fz .fz t
  simp_all only [lf__law_refused_right_6, df_keeps_to, lf__law_refused_right_7, df_let_next, lf__law_refused_right_9, df__law_pick, lp__law_refused_right_1, lp__law_refused_right_5, lp__law_refused_right_6, lp__law_refused_right_7, lp__law_refused_right_8, ln__law_refused_right, fun t => e_keeps_bad (r := r) (m := m) (s := s) (l := l) t pbad.1 pbad.2, e_isi6, d_span, span_sub hs, z1, a1, c1, a2, a3, c2, a4, ln, hy]
  refine wp_pick (by simp) (by simp) fun wr hwr t3 => ?_
  have pw : plainS wr ∧ (isTup wr = false ∨ bitsD wr = false ∨ ∃ xs, wr = .tup xs ∧ xs.length ≠ s - 1) := by
    have plI : ∀ bs : List Bool, ∀ x ∈ BD bs, plainD x = true := fun bs x hx => by
      obtain ⟨i, _, rfl⟩ := List.mem_map.mp hx
      rfl
    have lI : ∀ bs : List Bool, bs.length ≤ 100 → (BD bs).length ≤ lim := fun bs h => lim_ge _ (by rw [BD_len]; omega)
    have pl : ∀ (a b : List D), (∀ x ∈ a, plainD x = true) → (∀ x ∈ b, plainD x = true) → ∀ x ∈ a ++ b, plainD x = true := fun a b ha hb x hx => (List.mem_append.mp hx).elim (ha x) (hb x)
    have p1 : ∀ d : D, plainD d = true → ∀ x ∈ [d], plainD x = true := fun d h x hx => by
      obtain rfl := List.mem_singleton.mp hx
      exact h
    simp only [List.mem_cons, List.not_mem_nil, or_false] at hwr
    rcases hwr with rfl | rfl | rfl | rfl | rfl | rfl | rfl | rfl | rfl
    · exact ⟨rfl, .inl rfl⟩
    · exact ⟨⟨plI z, lI z (by omega)⟩, .inl rfl⟩
    · refine ⟨⟨pl _ _ (plI z) (p1 _ rfl), lim_ge _ (by simp; omega)⟩, .inr (.inr ⟨_, rfl, by simp; omega⟩)⟩
    · refine ⟨⟨plI _, lI _ (by simp; omega)⟩, .inr (.inr ⟨_, rfl, by rw [BD_len, List.length_drop]; omega⟩)⟩
    · refine ⟨⟨pl _ _ (p1 _ rfl) (plI _), lim_ge _ (by simp; omega)⟩, .inr (.inl rfl)⟩
    · refine ⟨⟨pl _ _ (p1 _ rfl) (plI _), lim_ge _ (by simp; omega)⟩, .inr (.inl rfl)⟩
    · refine ⟨⟨pl _ _ (plI _) (p1 _ rfl), lim_ge _ (by simp; omega)⟩, .inr (.inl ?_)⟩
      show (BD (z.take (s - 1 - 1)) ++ [D.non]).all _ = false
      rw [List.all_append]
      simp [inB]
    · exact ⟨rfl, .inl rfl⟩
    · exact ⟨rfl, .inl rfl⟩
  simp_all only [lf__law_refused_right_6, df_keeps_to, lf__law_refused_right_7, df_let_next, lf__law_refused_right_9, df__law_pick, lp__law_refused_right_1, lp__law_refused_right_5, lp__law_refused_right_6, lp__law_refused_right_7, lp__law_refused_right_8, ln__law_refused_right, fun t => e_let_bad (r := r) (m := m) (s := s) (l := l) hs t pw.1 pw.2, e_isi7]
  exact q t3
end
end LawX
set_option maxHeartbeats 1000000
namespace LawX
open PySem PySem.Spec PyProof.Rows L2 DE He
def txI (r m s l : Int) : Str := (PyData.list [.int r, .int m, .int s, .int l]).shown
theorem txI_ok (r m s l : Int) : PyData.strOk (txI r m s l) = true := strOk_shown _ rfl
theorem weight_int (i : Int) (h : i.natAbs < 10 ^ 12) : (PyData.int i).weight ≤ 40 := by
  show (if i == 0 then 0 else i.natAbs.log2 + 1) ≤ 40
  split
  · omega
  · rename_i h0
    have h0 : i.natAbs ≠ 0 := by simpa using h0
    have := (Nat.log2_lt h0).mpr (Nat.lt_trans h (show 10 ^ 12 < 2 ^ 40 by decide))
    omega
theorem e_reprI (r m s l : Int) (hr : r.natAbs < 10 ^ 12) (hm : m.natAbs < 10 ^ 12) (hs : s.natAbs < 10 ^ 12) (hl : l.natAbs < 10 ^ 12) (k : Kd) (t : DE.TA) : p2.f [(.lst [.int r, .int m, .int s, .int l], k)] t = .ok (.str (txI r m s l), .fz) t := by
  show fRepr [(.lst [.int r, .int m, .int s, .int l], k)] t = _
  refine repr_is k (p := .list [.int r, .int m, .int s, .int l]) rfl rfl ?_ ?_ ?_ ?_
  · show (PyData.showable (.int r) && (PyData.showable (.int m) && (PyData.showable (.int s) && (PyData.showable (.int l) && true)))) = true
    rw [(int_short hr).2, (int_short hm).2, (int_short hs).2, (int_short hl).2]; rfl
  · show (PyData.intsShort 13 (.int r) && (PyData.intsShort 13 (.int m) && (PyData.intsShort 13 (.int s) && (PyData.intsShort 13 (.int l) && true)))) = true
    rw [(int_short hr).1, (int_short hm).1, (int_short hs).1, (int_short hl).1]; rfl
  · show (max 0 (max 0 (max 0 (max 0 0)))) + 1 ≤ 60
    omega
  · show (PyData.int r).weight + 1 + ((PyData.int m).weight + 1 + ((PyData.int s).weight + 1 + ((PyData.int l).weight + 1 + 0))) ≤ 2 ^ 20
    have := weight_int r hr
    have := weight_int m hm
    have := weight_int s hs
    have := weight_int l hl
    omega
theorem wrong_ok {r m s l : D} {p : Str} (h : wrongP r m s l = some p) : PyData.strOk p = true := by
  unfold wrongP at h
  split at h
  · split at h
    · split at h
      · split at h
        · cases h
        · cases h; decide +kernel
      · cases h; decide +kernel
    · cases h; decide +kernel
  · cases h; decide +kernel
section
variable (a b c d : D)
theorem at4_0 : atD [a, b, c, d] 0 = some a := rfl
theorem at4_1 : atD [a, b, c, d] 1 = some b := rfl
theorem at4_2 : atD [a, b, c, d] 2 = some c := rfl
theorem at4_3 : atD [a, b, c, d] 3 = some d := rfl
end
theorem p11_f (a b c d : D) (t : DE.TA) : p11.f [(d, .fz), (c, .fz), (b, .fz), (a, .fz)] t = f_Weather_init [a, b, c, d] t := rfl
theorem e_isi5s (v : Option D) (k : Kd) (t : DE.TA) : p5.f [(.exc 2 v, k)] t = .ok (.bl true, .fz) t := rfl
theorem put4 {xs : List D} (h : xs.length = 4) (j : Int) (h0 : 0 ≤ j) (h1 : j < 4) (v : D) : putD (.lst xs) (.int j) v = some (.lst (xs.set j.toNat v)) := by
  show (ixN xs.length j).map _ = _
  unfold ixN
  rw [if_pos h0, if_pos (by rw [h]; exact h1), Option.map_some]
section
variable {r m s l : Nat}
theorem e_made (ok : WOk r m s l) {t : DE.TA} {Q : Qd DE.TA} {Z : Zd DE.TA} (q : ∀ t', Q (.bl true, .fz) t') : Wp (f__law_made_right [.tape, wD r m s l] t) Q Z := by
  have okk := ok
  obtain ⟨s0, s1, m0, m1, r0, r1, rm, l0, l1⟩ := ok
  rw [st__law_made_right]
  unfold s__law_made_right
  simp_all only [lf__law_made_right_8, df__law_draw, lf__law_made_right_9, df__law_pick, lf__law_made_right_13, df__law_wrong_part, lp__law_made_right_2, lp__law_made_right_5, lp__law_made_right_8, lp__law_made_right_10, lp__law_made_right_11, lp__law_made_right_12, lp__law_made_right_13, lp__law_made_right_14, lp__law_made_right_15, lp__law_made_right_16, ln__law_made_right, d_run, d_many, d_span, d_late, fun t => e_mk10 okk t .fz .fz .fz .fz rfl, e_p12, e_p13, e_p14, e_p15, e_reprI r m s l (by omega) (by omega) (by omega) (by omega), cmp_ne, ne_self (txI_ok _ _ _ _)]
  refine ⟨rfl, ?_⟩
  obtain ⟨I, hI⟩ : ∃ I : Nat → En → DE.TA → Prop, ∀ i ρ t', I i ρ t' ↔ ∃ (x3 x4 x5 x6 x7 x8 x9 : SV), ρ = [.fz .tape, .fz (wD r m s l), .fz (wW r m s l), x3, x4, x5, x6, x7, x8, x9, .un, .un] ∧ isLock (some x3) = false ∧ isLock (some x4) = false ∧ isLock (some x5) = false ∧ isLock (some x6) = false ∧ isLock (some x7) = false ∧ isLock (some x8) = false ∧ isLock (some x9) = false := ⟨_, fun _ _ _ => Iff.rfl⟩
  refine wp_rng (n := 6) I ((hI _ _ _).mpr ⟨_, _, _, _, _, _, _, rfl, rfl, rfl, rfl, rfl, rfl, rfl, rfl⟩) ?_ ?_
  · intro i ρ t2 hi hh
    obtain ⟨x3, x4, x5, x6, x7, x8, x9, rfl, h3, h4, h5, h6, h7, h8, h9⟩ := (hI _ _ _).mp hh
    simp_all only [lf__law_made_right_8, df__law_draw, lf__law_made_right_9, df__law_pick, lf__law_made_right_13, df__law_wrong_part, lp__law_made_right_2, lp__law_made_right_5, lp__law_made_right_8, lp__law_made_right_10, lp__law_made_right_11, lp__law_made_right_12, lp__law_made_right_13, lp__law_made_right_14, lp__law_made_right_15, lp__law_made_right_16, ln__law_made_right, setE_0 x3 _ _ h3, setE_0 x4 _ _ h4, d_run, d_many, d_span, d_late, show f__law_draw = drawA from rfl]
    refine wp_draw (by omega) (by omega) fun n t3 n0 n1 => ?_
    simp_all only [lf__law_made_right_8, df__law_draw, lf__law_made_right_9, df__law_pick, lf__law_made_right_13, df__law_wrong_part, lp__law_made_right_2, lp__law_made_right_5, lp__law_made_right_8, lp__law_made_right_10, lp__law_made_right_11, lp__law_made_right_12, lp__law_made_right_13, lp__law_made_right_14, lp__law_made_right_15, lp__law_made_right_16, ln__law_made_right]
    refine ⟨inRng_of (by omega) (by omega), ?_⟩
    obtain ⟨k, hk⟩ : ∃ k : Nat, 1 + n = k := ⟨(1 + n).toNat, by omega⟩
    rw [hk]
    obtain ⟨J, hJ⟩ : ∃ J : Nat → En → DE.TA → Prop, ∀ i ρ t', J i ρ t' ↔ ∃ (x3 x5 : SV) (ps : List D), ρ = [.fz .tape, .fz (wD r m s l), .fz (wW r m s l), x3, .ow (.lst ps), x5, x6, x7, x8, x9, .un, .un] ∧ isLock (some x3) = false ∧ isLock (some x5) = false ∧ ps.length = 4 ∧ ∀ d ∈ ps, plainD d = true := ⟨_, fun _ _ _ => Iff.rfl⟩
    refine wp_rng (n := k) J ((hJ _ _ _).mpr ⟨_, x5, _, rfl, rfl, h5, rfl, by simp [plainD, tyOfD]⟩) ?_ ?_
    · intro i ρ t4 hi hh
      obtain ⟨x3, x5, ps, rfl, h3, h5, hps, pl⟩ := (hJ _ _ _).mp hh
      simp_all only [lf__law_made_right_8, df__law_draw, lf__law_made_right_9, df__law_pick, lf__law_made_right_13, df__law_wrong_part, lp__law_made_right_2, lp__law_made_right_5, lp__law_made_right_8, lp__law_made_right_10, lp__law_made_right_11, lp__law_made_right_12, lp__law_made_right_13, lp__law_made_right_14, lp__law_made_right_15, lp__law_made_right_16, ln__law_made_right, setE_0 x3 _ _ h3, setE_0 x5 _ _ h5, d_run, d_many, d_span, d_late]
      refine wp_pick (by simp) (by simp) fun v hv t5 => ?_
      have pv : plainD v = true := by
        simp only [List.mem_cons, List.not_mem_nil, or_false] at hv
        rcases hv with rfl | rfl | rfl | rfl | rfl | rfl | rfl | rfl | rfl | rfl | rfl | rfl | rfl | rfl | rfl | rfl | rfl | rfl <;> rfl
      simp_all only [lf__law_made_right_8, df__law_draw, lf__law_made_right_9, df__law_pick, lf__law_made_right_13, df__law_wrong_part, lp__law_made_right_2, lp__law_made_right_5, lp__law_made_right_8, lp__law_made_right_10, lp__law_made_right_11, lp__law_made_right_12, lp__law_made_right_13, lp__law_made_right_14, lp__law_made_right_15, lp__law_made_right_16, ln__law_made_right, show f__law_draw = drawA from rfl]
      refine wp_draw (by omega) (by omega) fun j t6 j0 j1 => ?_
      simp_all only [lf__law_made_right_8, df__law_draw, lf__law_made_right_9, df__law_pick, lf__law_made_right_13, df__law_wrong_part, lp__law_made_right_2, lp__law_made_right_5, lp__law_made_right_8, lp__law_made_right_10, lp__law_made_right_11, lp__law_made_right_12, lp__law_made_right_13, lp__law_made_right_14, lp__law_made_right_15, lp__law_made_right_16, ln__law_made_right, put4 hps j j0 j1]
      refine (hJ _ _ _).mpr ⟨_, _, _, rfl, h3, rfl, by simpa using hps, fun d hd => ?_⟩
      rcases List.mem_or_eq_of_mem_set hd with h | rfl
      · exact pl d h
      · exact pv
    · intro ρ t4 hh
      obtain ⟨x3, x5, ps, rfl, h3, h5, hps, pl⟩ := (hJ _ _ _).mp hh
      obtain ⟨a, b, c, d, rfl⟩ : ∃ a b c d, ps = [a, b, c, d] := by
        match ps, hps with
        | [a, b, c, d], _ => exact ⟨a, b, c, d, rfl⟩
      have pa := pl a (by simp)
      have pb := pl b (by simp)
      have pc := pl c (by simp)
      have pd := pl d (by simp)
      simp_all only [lf__law_made_right_8, df__law_draw, lf__law_made_right_9, df__law_pick, lf__law_made_right_13, df__law_wrong_part, lp__law_made_right_2, lp__law_made_right_5, lp__law_made_right_8, lp__law_made_right_10, lp__law_made_right_11, lp__law_made_right_12, lp__law_made_right_13, lp__law_made_right_14, lp__law_made_right_15, lp__law_made_right_16, ln__law_made_right, at4_0, at4_1, at4_2, at4_3, e_wrong a b c d t4 pa pb pc pd, setE_0 x6 _ _ h6, p11_f]
      refine e_init a b c d t4 pa pb pc pd (fun hw => ?_) fun p hw => ?_
      · rw [hw]
        simp_all only [lf__law_made_right_8, df__law_draw, lf__law_made_right_9, df__law_pick, lf__law_made_right_13, df__law_wrong_part, lp__law_made_right_2, lp__law_made_right_5, lp__law_made_right_8, lp__law_made_right_10, lp__law_made_right_11, lp__law_made_right_12, lp__law_made_right_13, lp__law_made_right_14, lp__law_made_right_15, lp__law_made_right_16, ln__law_made_right, show partD none = .non from rfl, setE_0 x7 _ _ h7]
        obtain ⟨r', m', s', l', rfl, rfl, rfl, rfl, wok⟩ := wok_of hw
        have eqs : eqD (.lst [.int r', .int m', .int s', .int l']) (.lst [.int r, .int m, .int s, .int l]) = some (decide ([r', m', s', l'] = [(r : Int), m, s, l])) := eqD_ints [r', m', s', l'] [r, m, s, l]
        have w2 : decide ([(r : Int), m, s, l] = [r', m', s', l']) = decide ([r', m', s', l'] = [(r : Int), m, s, l]) := decide_eq_decide.mpr eq_comm
        simp_all only [lf__law_made_right_8, df__law_draw, lf__law_made_right_9, df__law_pick, lf__law_made_right_13, df__law_wrong_part, lp__law_made_right_2, lp__law_made_right_5, lp__law_made_right_8, lp__law_made_right_10, lp__law_made_right_11, lp__law_made_right_12, lp__law_made_right_13, lp__law_made_right_14, lp__law_made_right_15, lp__law_made_right_16, ln__law_made_right, at4_0, at4_1, at4_2, at4_3, fun t => e_mk10 wok t .fz .fz .fz .fz rfl, setE_0 x8 _ _ h8, setE_0 x9 _ _ h9, d_run, d_many, d_span, d_late, cmp_eq, cmp_ne, eqs, e_eqW, ne_bl, w2, decide_true]
        exact (hI _ _ _).mpr ⟨_, _, _, _, _, _, _, rfl, h3, rfl, h5, rfl, rfl, rfl, rfl⟩
      · rw [hw]
        simp_all only [lf__law_made_right_8, df__law_draw, lf__law_made_right_9, df__law_pick, lf__law_made_right_13, df__law_wrong_part, lp__law_made_right_2, lp__law_made_right_5, lp__law_made_right_8, lp__law_made_right_10, lp__law_made_right_11, lp__law_made_right_12, lp__law_made_right_13, lp__law_made_right_14, lp__law_made_right_15, lp__law_made_right_16, ln__law_made_right, show partD (some p) = .str p from rfl, setE_0 x7 _ _ h7, e_isi5s, e_part, cmp_ne, ne_self (wrong_ok hw)]
        exact (hI _ _ _).mpr ⟨_, _, _, _, _, _, _, rfl, h3, rfl, h5, rfl, rfl, h8, h9⟩
  · intro ρ t2 hh
    obtain ⟨x3, x4, x5, x6, x7, x8, x9, rfl, h3, h4, h5, h6, h7, h8, h9⟩ := (hI _ _ _).mp hh
    simp_all only [lf__law_made_right_8, df__law_draw, lf__law_made_right_9, df__law_pick, lf__law_made_right_13, df__law_wrong_part, lp__law_made_right_2, lp__law_made_right_5, lp__law_made_right_8, lp__law_made_right_10, lp__law_made_right_11, lp__law_made_right_12, lp__law_made_right_13, lp__law_made_right_14, lp__law_made_right_15, lp__law_made_right_16, ln__law_made_right, d_run, d_many, d_span, d_late, e_eqP r m s l (d := .non) rfl, e_eqP r m s l (d := .tup [.int r, .int m, .int s, .int l]) rfl]
    exact q t2
end
end LawX
set_option maxHeartbeats 1000000
namespace LawX
open PySem PySem.Spec PyProof.Rows L2 DE He
theorem wok0 : WOk 2 3 5 1 := by constructor <;> omega
theorem keeps0 (bs : List Bool) (hl : bs.length < 1000) (t : DE.TA) : f_keeps_to [wW 2 3 5 1, .lst (BD bs)] t = .ok (.bl (keepsR 2 3 (List.replicate 4 false) bs), .fz) t := e_keeps_to (r := 2) (m := 3) (s := 5) (l := 1) (by omega) (by omega) (by omega) bs hl t _ (.inl rfl)
theorem next0 (w : List Bool) (hl : w.length = 4) (t : DE.TA) : f_let_next [wW 2 3 5 1, .tup (BD w)] t = .ok (.bl (mayL 2 3 w), .fz) t := e_let_next (r := 2) (m := 3) (s := 5) (l := 1) (by omega) (by omega) w (by omega) (by omega) t
theorem k1 (t : DE.TA) : f_keeps_to [wW 2 3 5 1, .lst [.int 1, .int 1, .int 0, .int 1, .int 0, .int 1, .int 1]] t = .ok (.bl true, .fz) t := keeps0 [true, true, false, true, false, true, true] (by simp) t
theorem k2 (t : DE.TA) : f_keeps_to [wW 2 3 5 1, .lst [.int 1, .int 1, .int 1]] t = .ok (.bl false, .fz) t := keeps0 [true, true, true] (by simp) t
theorem k3 (t : DE.TA) : f_keeps_to [wW 2 3 5 1, .lst [.int 1, .int 1, .int 0, .int 1, .int 1]] t = .ok (.bl false, .fz) t := keeps0 [true, true, false, true, true] (by simp) t
theorem k4 (t : DE.TA) : f_keeps_to [wW 2 3 5 1, .lst []] t = .ok (.bl true, .fz) t := keeps0 [] (by simp) t
theorem n1 (t : DE.TA) : f_let_next [wW 2 3 5 1, .tup [.int 0, .int 1, .int 1, .int 0]] t = .ok (.bl true, .fz) t := next0 [false, true, true, false] rfl t
theorem n2 (t : DE.TA) : f_let_next [wW 2 3 5 1, .tup [.int 0, .int 0, .int 1, .int 1]] t = .ok (.bl false, .fz) t := next0 [false, false, true, true] rfl t
theorem r6 (k : Kd) (t : DE.TA) : p2.f [(.lst [.bl true, .bl false, .bl false, .bl true, .bl true, .bl false], k)] t = .ok (.str "[True, False, False, True, True, False]", .fz) t := by
  show fRepr [(.lst [.bl true, .bl false, .bl false, .bl true, .bl true, .bl false], k)] t = _
  have e : (PyData.list [.bool true, .bool false, .bool false, .bool true, .bool true, .bool false]).shown = Str.ofString "[True, False, False, True, True, False]" := by decide +kernel
  rw [← e]
  refine repr_is k (p := .list [.bool true, .bool false, .bool false, .bool true, .bool true, .bool false]) rfl rfl rfl rfl ?_ ?_
  · show (max 0 (max 0 (max 0 (max 0 (max 0 (max 0 0)))))) + 1 ≤ 60
    omega
  · show 0 + 1 + (0 + 1 + (0 + 1 + (0 + 1 + (0 + 1 + (0 + 1 + 0))))) ≤ 2 ^ 20
    omega
theorem plain (ns : List Int) (hl : ns.length ≤ 63) (hb : ∀ z ∈ ns, Builtin.Int.intBits z ≤ 1048576) : ∃ t kd, execSs G_law 0 s_law (rhoL N_law.length ns) (t0 ns) = .ok (.rt (.bl true, kd)) t := by
  obtain ⟨Q, hQ⟩ : ∃ Q : Od DE.TA, ∀ o t, Q o t ↔ ∃ kd, o = .rt (.bl true, kd) := ⟨_, fun _ _ => Iff.rfl⟩
  suffices h : Wp (execSs G_law 0 s_law (rhoL N_law.length ns) (t0 ns)) Q noX by
    obtain ⟨o, t, e, h2⟩ := h.ex
    obtain ⟨kd, rfl⟩ := (hQ _ _).mp h2
    exact ⟨t, kd, e⟩
  generalize t0 ns = t
  rw [show rhoL N_law.length ns = [.fz (.scr (ns.map D.int)), .fz .tape, .un, .un, .un, .un, .un, .un] from rfl]
  unfold s_law
  simp_all only [lf_law_6, df_keeps_to, lf_law_7, df_let_next, lf_law_10, df__law_weather, lf_law_16, df__law_made_right, lf_law_17, df__law_rows_right, lf_law_18, df__law_refused_right, lp_law_2, lp_law_10, fun t => e_mk10 wok0 t .fz .fz .fz .fz rfl, k1, k2, k3, k4, n1, n2, r6, cmp_ne, ne_self (show PyData.strOk (Str.ofString "[True, False, False, True, True, False]") = true by decide +kernel)]
  obtain ⟨n, hn, hn2⟩ : ∃ n : Nat, (2 + if 4 < ((ns.map D.int).length : Int) then 4 else ((ns.map D.int).length : Int)) = n ∧ n ≤ 6 := by
    rw [List.length_map]
    split
    · exact ⟨6, rfl, by omega⟩
    · exact ⟨2 + ns.length, by omega, by omega⟩
  rw [hn]
  refine ⟨inRng_of (by omega) (by omega), ?_⟩
  obtain ⟨I, hI⟩ : ∃ I : Nat → En → DE.TA → Prop, ∀ i ρ t', I i ρ t' ↔ ∃ (x2 x3 x4 x5 x6 : SV), ρ = [.fz (.scr (ns.map D.int)), .fz .tape, x2, x3, x4, x5, x6, .un] ∧ isLock (some x4) = false ∧ isLock (some x5) = false ∧ isLock (some x6) = false := ⟨_, fun _ _ _ => Iff.rfl⟩
  refine wp_rng I ((hI _ _ _).mpr ⟨_, _, _, _, _, rfl, rfl, rfl, rfl⟩) ?_ ?_
  · intro i ρ t2 hi hh
    obtain ⟨x2, x3, x4, x5, x6, rfl, h4, h5, h6⟩ := (hI _ _ _).mp hh
    simp_all only [lf_law_6, df_keeps_to, lf_law_7, df_let_next, lf_law_10, df__law_weather, lf_law_16, df__law_made_right, lf_law_17, df__law_rows_right, lf_law_18, df__law_refused_right, lp_law_2, lp_law_10, setE_0 x4 _ _ h4]
    refine wp_weather fun r m s l ok t3 => ?_
    simp_all only [lf_law_6, df_keeps_to, lf_law_7, df_let_next, lf_law_10, df__law_weather, lf_law_16, df__law_made_right, lf_law_17, df__law_rows_right, lf_law_18, df__law_refused_right, lp_law_2, lp_law_10, setE_0 x5 _ _ h5, setE_0 x6 _ _ h6, d_run, d_many, d_span, d_late, fun t => e_mk10 ok t .fz .fz .fz .fz rfl]
    refine e_made ok fun t4 => ?_
    simp_all only [lf_law_6, df_keeps_to, lf_law_7, df_let_next, lf_law_10, df__law_weather, lf_law_16, df__law_made_right, lf_law_17, df__law_rows_right, lf_law_18, df__law_refused_right, lp_law_2, lp_law_10]
    refine e_rows ok fun t5 => ?_
    simp_all only [lf_law_6, df_keeps_to, lf_law_7, df_let_next, lf_law_10, df__law_weather, lf_law_16, df__law_made_right, lf_law_17, df__law_rows_right, lf_law_18, df__law_refused_right, lp_law_2, lp_law_10]
    refine e_refused ok fun t6 => ?_
    simp_all only [lf_law_6, df_keeps_to, lf_law_7, df_let_next, lf_law_10, df__law_weather, lf_law_16, df__law_made_right, lf_law_17, df__law_rows_right, lf_law_18, df__law_refused_right, lp_law_2, lp_law_10]
    exact (hI _ _ _).mpr ⟨_, _, _, _, _, rfl, rfl, rfl, rfl⟩
  · intro ρ t2 hh
    obtain ⟨x2, x3, x4, x5, x6, rfl, h4, h5, h6⟩ := (hI _ _ _).mp hh
    simp_all only [lf_law_6, df_keeps_to, lf_law_7, df_let_next, lf_law_10, df__law_weather, lf_law_16, df__law_made_right, lf_law_17, df__law_rows_right, lf_law_18, df__law_refused_right, lp_law_2, lp_law_10]
    exact (hQ _ _).mpr ⟨_, rfl⟩
end LawX
set_option maxHeartbeats 4000000
namespace LawX
open PySem PySem.Spec PyProof.Rows L2 DE He
theorem lawG {w : World} {K : PySem.W.Frag} {h : Heap} {mg : Str → Option Value} {fa : Addr} (X : K.In h) (G : h.Ns mainGlobals mg) (c : SaysY faL fnL xsL tfL exB h K) (hmg : mg "law" = some (.ref fa)) : LawG (PySem.Challenge.rw_seenandheard_k03_weathers_and_rows_of_lo) w K (CX PG w) 40 63 "script" mg fa h := by
  obtain ⟨fdL, FL⟩ := c.def_ 24 (d := d24) rfl
  obtain ⟨fdB, FB⟩ := c.def_ 10 (d := d10) rfl
  have e := hmg.symm.trans (glo_ok X G (c.fact 28 (f := .glo "law") rfl))
  cases e
  refine ⟨fdL, tfL.map (cT K), spLaw K (TsK K), fun p hp => ?_, fun s u => FunD.bindsA (ps := ["script"]) FL (fun _ _ _ _ _ _ us hl => match us, hl with | [_], _ => rfl) s [u] rfl, fun H a ns len bits tb on hS => ?_, fun base Kb Gb TB => ?_⟩
  · obtain ⟨q, hq, rfl⟩ := List.mem_map.mp hp
    exact ⟨c.empty q hq, c.out q hq, PySem.W.codeHd_of_K X (c.hd q hq)⟩
  · refine ⟨a, ns, rfl, hS, len, bits, fun q hq => ?_, fun b ps e => ?_, fun _ => rfl⟩
    · obtain ⟨p, hp, rfl⟩ := List.mem_map.mp hq
      exact tb _ (List.mem_map.mpr ⟨p, hp, rfl⟩)
    · obtain ⟨q, hq, rfl⟩ := on b ps e
      obtain ⟨p, hp, rfl⟩ := List.mem_map.mp hq
      exact ⟨_, List.mem_map.mpr ⟨p, hp, rfl⟩⟩
  · have okB : FnOk PG w K mg base (CX PG w) 39 _ _ ["script"] (spBegun K) := (begun_ok (k := 0) (bl_free X G c) FB ⟨rfl, rfl, rfl, by decide +kernel, rfl, by decide +kernel, by decide +kernel⟩ (by kernel_rfl)).mono (by omega)
    exact law_go (k := 39) (atr := ATR) (N := N_law) (s := s_law) (rest := (defBody (topS 34)).drop 1) (fun R l cc => known (R := R) (l := l) (cc := cc) X G c fun p hp => TB _ (List.mem_map.mpr ⟨p, hp, rfl⟩)) okB (glo_ok X G (c.fact 14 (f := .glo "_law_begun") rfl)) FB.kp (FB.bindsN fun _ _ _ _ _ _ us hl => match us, hl with | [_], _ => rfl)
      FL ⟨rfl, rfl, rfl, by decide +kernel, rfl, by decide +kernel, by decide +kernel⟩ ⟨_, _, _, _, _, rfl⟩ rfl rfl (.inl rfl) (.inl rfl) rfl rfl c_law plain
end LawX
open PySem PySem.W PySem.Calls PyProof.Rows
theorem PySem.Challenge.cw_seenandheard_k03_weathers_and_rows_of_lo_holds : PySem.Challenge.rw_seenandheard_k03_weathers_and_rows_of_lo.Holds := by
  w_on; o_law
  refine HandSHeadRun.head_any (r := OpenLaw.row PySem.Challenge.rw_seenandheard_k03_weathers_and_rows_of_lo) (q := view (OpenLaw.row PySem.Challenge.rw_seenandheard_k03_weathers_and_rows_of_lo).prog [34]) (H := LawX.hk) (ob := LawX.ob) (M := 4000) (loose := LawX.loose) (d := HandSHeadRun.topDef (OpenLaw.row PySem.Challenge.rw_seenandheard_k03_weathers_and_rows_of_lo).prog 34) (kwd := []) LawX.ob_eq
    (by kernel_rfl) (fun s => by kernel_rfl) LawX.run (by kernel_rfl) (by kernel_rfl) (by kernel_rfl) (by rfl) (by first | assumption | decide +kernel) (by decide +kernel) ⟨rfl, rfl, rfl, rfl, rfl, by decide +kernel⟩ ?hw ?hc
  case hw => w_witness2
  case hc =>
    refine DE.walk_ofY (l := PySem.Challenge.rw_seenandheard_k03_weathers_and_rows_of_lo) (n := 63) (k := 40) (x := "script") (CX := fun w => L2.CX LawX.PG w) rfl (by decide) (by kernel_rfl) ⟨rfl, by decide, by decide⟩ ?F (fun w H s e s' z => by obtain ⟨_, _, _, _, _, _, _, _, _, _, _, _, _, z⟩ := z)
    intro w mg fa h Y G hmg0
    obtain ⟨K, KX, c⟩ := Y
    have hmg : mg ("law" : PySem.Str) = some (.ref fa) := by
      have e : (HandSHeadRun.topDef (OpenLaw.row PySem.Challenge.rw_seenandheard_k03_weathers_and_rows_of_lo).prog 34).name = ("law" : PySem.Str) := by kernel_rfl
      rw [← e]
      exact hmg0
    exact ⟨K, KX, LawX.lawG KX G c hmg⟩
