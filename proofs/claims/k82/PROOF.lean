import PyProof.Rows.All
import Wide.All
import OpenK.AllK
import Wide.FinOn
import HandS.ForMost
import HandS.ForExc
import HandS.TupAny
import HandS.Wide
import HandS.IsInst
import HandS.Flow
import HandS.FStr
import HandS.Style
import HandS.StrMore
import HandS.Deep
import HandS.RaiseMore
import HandS.ExcInit
import HandS.CallSlots
import HandS.EndBits
import HandS.Walk
import HandS.TupMul
import HandS.NoneIn
import PyProof.Rows.StrNews2
import PyProof.MeetsStr3
import KE.GoesEnum
import HandS.WordsExc
import HandS.ReplaceLit
import HandS.Codes
import HandS.Evl
import PyProof.StrLawsLast
import PyProof.ReprLen
import PyProof.StrLawsReplace
import PySem.Challenge.RW_suresieves_k82_snapshots_by_own_writing
set_option Elab.async false
set_option linter.all false
set_option maxRecDepth 100000
set_option autoImplicit false

/-! text PvCore -/
section
/-! Pv, part 1: a small language of expressions and statements over data trees, and what it computes. -/
namespace Pv
open PySem L2

/-- a value at run time: a data tree (never changes), the place of an object in the store, or the script (read alone) -/
inductive RV where
  | d (x : PyData)
  | loc (n : Nat)
  | scr (ns : List Int)

/-- an object of the store -/
inductive Ob where
  | lst (xs : List RV)
  | dict (kvs : List (Key × RV))

abbrev Sto := List Ob

/-- what stands in a slot: a value; a list that is nobody else's; a caught error's attributes -/
inductive Slot where
  | val (v : RV)
  | own (xs : List RV)
  | exc (c : Nat) (fs : List (Str × RV))

abbrev REnv := List (Option Slot)

/-- an outcome: a value; an error (its class by number, its attributes); nothing is said -/
inductive R (α : Type) where
  | ok (a : α) (μ : Sto)
  | ex (c : Nat) (fs : List (Str × RV)) (μ : Sto)
  | bad

def R.bind {α β : Type} (r : R α) (f : α → Sto → R β) : R β :=
  match r with
  | .ok a μ => f a μ
  | .ex c fs μ => .ex c fs μ
  | .bad => .bad
@[simp] theorem R.bind_ok {α β : Type} {a : α} {μ : Sto} {f : α → Sto → R β} : (R.ok a μ).bind f = f a μ := id rfl
@[simp] theorem R.bind_ex {α β : Type} {c : Nat} {fs : List (Str × RV)} {μ : Sto} {f : α → Sto → R β} : (R.ex c fs μ : R α).bind f = .ex c fs μ := id rfl
@[simp] theorem R.bind_bad {α β : Type} {f : α → Sto → R β} : (R.bad : R α).bind f = .bad := id rfl

inductive Bop where
  | add | sub | mul | fdiv | mod | pow | shl | shr | band | bor | bxor
  deriving DecidableEq
inductive Cop where
  | eq | ne | lt | le | gt | ge | is | isnot | mem | notin
  deriving DecidableEq
/-- the types that isinstance is asked of -/
inductive Ty where
  | int | bool | str | tuple | list
  deriving DecidableEq
def tyS : Ty → String
  | .int => "int" | .bool => "bool" | .str => "str" | .tuple => "tuple" | .list => "list"
/-- what is built in: a function of values -/
inductive Bi where
  | len | tuple | list | int | str | abs | min2 | max2 | sum | all | any | repr
  | isin (T : Ty)
  | join | split1 | partition | rpartition | startswith | replace | upper
  deriving DecidableEq

mutual
inductive E where
  | con (x : PyData)
  | var (i : Nat)
  | bin (o : Bop) (a b : E)
  | neg (a : E)
  | cmp (o : Cop) (a b : E)
  | chain (o p : Cop) (a b c : E)
  | and (a b : E)
  | or (a b : E)
  | not (a : E)
  | ite (c a b : E)
  | tup (es : List E)
  | lst (es : List E)
  | idx (a i : E)
  | sli (a : E) (lo hi : Option E)
  | call (f : Nat) (es : List E)
  | callK (f : Nat) (ks : List Str) (kes : List E) (perm : List Nat)
  | bi (b : Bi) (es : List E)
  | mt (b : Bi) (a e : E)
  | comp (elt : E) (t : T) (it : It) (ifs : Option E) (own : List Nat)
  | comp2 (elt : E) (t : T) (it : It) (ifs : Option E) (t2 : T) (it2 : It) (ifs2 : Option E) (own own2 : List Nat)
  | fstr (es : List E)
  | disp (ks : List Key) (es : List E)
  | dsel (ks : List Key) (es : List E) (i : E)
  | dget (a i : E)
  | exa (i : Nat) (f : Str)
  | rep (a : E) (y z : Str)
  | lstT (a : E) (y : Str) (es : List E)
inductive It where
  | seq (e : E)
  | rng1 (e : E)
  | rng2 (a b : E)
  | rng3 (a b c : E)
  | enm (e : E)
  | zip2 (a b : E)
inductive T where
  | nm (i : Nat)
  | tup (ts : List T)
  | sub (o i : E)
end

/-- what is put into slots: a value; a new list that is nobody else's -/
inductive Src where
  | val (e : E)
  | lst (es : List E)
  | cat (a b : E)
/-- what a tried expression is for -/
inductive TK where
  | drop
  | asg (t : T)
  | ret
inductive S where
  | asg (t : T) (e : E)
  | asgL (ts : List T) (e : E)
  | own (i : Nat) (s : Src)
  | par (is : List Nat) (ss : List Src)
  | app (i : Nat) (e : E)
  | frz (i : Nat)
  | ret (e : E)
  | retN
  | ifs (c : E) (t f : List S)
  | fors (t : T) (it : It) (body : List S)
  | whiles (c : E) (body : List S)
  | expr (e : E)
  | raise (c : Nat) (fs : List Str) (es : List E)
  | try1 (k : TK) (e : E) (c : Nat) (i : Nat) (h : E)
  | brk
  | cont
  | pass
end Pv
end

/-! text PvEval -/
section
namespace Pv
open PySem L2

/-! ### values -/
def scalD : PyData → PyData → Bool
  | .none, .none => true | .none, .int _ => true | .int _, .none => true | .none, .bool _ => true | .bool _, .none => true | .none, .str _ => true | .str _, .none => true
  | .int _, .int _ => true | .bool _, .bool _ => true | .str _, .str _ => true
  | .int _, .str _ => true | .str _, .int _ => true | .bool _, .str _ => true | .str _, .bool _ => true
  | _, _ => false
def flatD : PyData → Bool
  | .none => true | .bool _ => true | .int _ => true | .str _ => true
  | _ => false
def addF : PyData → PyData → Option PyData
  | .int i, .int j => some (.int (i + j))
  | .str x, .str y => if x.length + y.length ≤ sizeLine then some (.str (x ++ y)) else none
  | .list xs, .list ys => if xs.length + ys.length ≤ sizeLine then some (.list (xs ++ ys)) else none
  | .tuple xs, .tuple ys => if xs.length + ys.length ≤ sizeLine then some (.tuple (xs ++ ys)) else none
  | _, _ => none
def mulF : PyData → PyData → Option PyData
  | .int i, .int j => if i.natAbs.log2 + j.natAbs.log2 < 1000000 then some (.int (i * j)) else none
  | .list xs, .int k => if k.natAbs < 4611686018427387904 ∧ xs.length * k.toNat ≤ sizeLine then some (.list (List.replicate k.toNat xs).flatten) else none
  | .tuple xs, .int k => if xs ≠ [] ∧ 2 ≤ k ∧ k ≤ 1000 ∧ xs.length ≤ 1000 then some (.tuple (List.replicate k.toNat xs).flatten) else none
  | _, _ => none
def intF (g : Int → Int → Option Int) : PyData → PyData → Option PyData
  | .int i, .int j => (g i j).map .int
  | _, _ => none
def binF : Bop → PyData → PyData → Option PyData
  | .add => addF
  | .mul => mulF
  | .sub => intF fun i j => some (i - j)
  | .fdiv => intF fun i j => if 0 < j ∧ j.natAbs.log2 < 9000 then some (i / j) else none
  | .mod => intF fun i j => if 0 < j then some (i % j) else none
  | .pow => intF fun i j => if 0 ≤ j ∧ j.natAbs ≤ 1000000 ∧ i.natAbs < 2 ^ 64 then some (i ^ j.toNat) else none
  | .shl => intF fun i j => if 0 ≤ j ∧ j.natAbs ≤ 1000000 ∧ i.natAbs < 2 ^ 64 then some (i * 2 ^ j.toNat) else none
  | .shr => intF fun i j => if 0 ≤ j then some (i / 2 ^ j.toNat) else none
  | .band => intF fun i j => some (Builtin.bitAnd i j)
  | .bor => intF fun i j => some (Builtin.bitOr i j)
  | .bxor => intF fun i j => some (Builtin.bitXor i j)
def eqF (x y : PyData) : Option Bool :=
  if scalD x y then some (PyData.eqv x y) else if SeqAt.shaped x && SeqAt.shaped y then some (PyData.eqv x y) else none
def ltF (g : Int → Int → Bool) (h : List Nat → List Nat → Bool) : PyData → PyData → Option Bool
  | .int i, .int j => some (g i j)
  | .str x, .str y => some (h x.cps.toList y.cps.toList)
  | _, _ => none
def inStr (x y : Str) : Bool :=
  match x.cps.toList with
  | [c] => decide (c ∈ y.cps.toList)
  | _ => !(Builtin.Str.occurrences y x 0 y.length 1).isEmpty
def memL (x : PyData) (ds : List PyData) : Option Bool := if flatD x && ds.all flatD then some (ds.any fun y => PyData.eqv y x) else none
def memF : PyData → PyData → Option Bool
  | .str x, .str y => some (inStr x y)
  | x, .list ds => memL x ds
  | x, .tuple ds => memL x ds
  | _, _ => none
def isNone : PyData → Bool
  | .none => true
  | _ => false
def isF (x y : PyData) : Option Bool := if isNone y then some (isNone x) else none
def cmpF : Cop → PyData → PyData → Option Bool
  | .eq => eqF
  | .ne => fun x y => (eqF x y).map (! ·)
  | .lt => ltF (fun i j => decide (i < j)) (fun a b => decide (a < b))
  | .le => ltF (fun i j => decide (i ≤ j)) (fun a b => !decide (b < a))
  | .gt => ltF (fun i j => decide (j < i)) (fun a b => decide (b < a))
  | .ge => ltF (fun i j => decide (j ≤ i)) (fun a b => !decide (a < b))
  | .is => isF
  | .isnot => fun x y => (isF x y).map (! ·)
  | .mem => memF
  | .notin => fun x y => (memF x y).map (! ·)
def truD : PyData → Option Bool
  | .none => some false
  | .bool b => some b
  | .int i => some (i != 0)
  | .str y => if y.length ≤ sizeLine then some ((y.length : Int) != 0) else none
  | .list xs => some (!xs.isEmpty)
  | .tuple xs => some (!xs.isEmpty)
  | _ => none
def truR : RV → Option Bool
  | .d x => truD x
  | _ => none
def idxF : PyData → PyData → Option PyData
  | .list xs, .int i => atI xs i
  | .tuple xs, .int i => atI xs i
  | .str z, .int i => if z.length ≤ sizeLine then (atI z.cps.toList i).map (fun c => .str ⟨#[c]⟩) else none
  | _, _ => none
def cutD {α : Type} (xs : List α) (lo hi : Option Int) : List α := (xs.drop (HT.sIx xs.length 0 lo)).take (HT.sIx xs.length xs.length hi - HT.sIx xs.length 0 lo)
def sliF (lo hi : Option Int) : PyData → Option PyData
  | .list xs => some (.list (cutD xs lo hi))
  | .tuple xs => some (.tuple (cutD xs lo hi))
  | .str z => if z.length ≤ sizeLine then some (.str (cutS z lo hi)) else none
  | _ => none
def isTy : Ty → PyData → Option Bool
  | _, .dict _ => none
  | .int, .int _ => some true
  | .int, .bool _ => some true
  | .bool, .bool _ => some true
  | .str, .str _ => some true
  | .tuple, .tuple _ => some true
  | .list, .list _ => some true
  | _, _ => some false
def asInt : PyData → Option Int
  | .int i => some i
  | _ => none
def asBool : PyData → Option Bool
  | .bool i => some i
  | _ => none
def asStr : PyData → Option Str
  | .str i => some i
  | _ => none
def asSeq : PyData → Option (List PyData)
  | .list xs => some xs
  | .tuple xs => some xs
  | _ => none
/-- all of a list by f, none if one is none -/
def allBy {α β : Type} (f : α → Option β) : List α → Option (List β)
  | [] => some []
  | x :: xs => match f x, allBy f xs with
    | some y, some ys => some (y :: ys)
    | _, _ => none
def pureR : RV → Option PyData
  | .d x => some x
  | _ => none
/-- repr: what the library shows of data -/
def repF (x : PyData) : Option Str := if x.showable = true ∧ x.hasDict = false ∧ x.depth ≤ 64 ∧ x.shown.length ≤ sizeLine then some x.shown else none
/-- {x} in an f-string -/
def fmtD : PyData → Option Str
  | .str y => if y.length ≤ sizeLine then some y else none
  | .int i => if i.natAbs.log2 < 1920 then some (toString i) else none
  | _ => none
def lenD : PyData → Option Int
  | .list xs => some xs.length
  | .tuple xs => some xs.length
  | .str z => if z.length ≤ sizeLine then some z.length else none
  | _ => none
def intOf : PyData → Option Int
  | .int i => some i
  | .bool b => some (if b then 1 else 0)
  | .str a => if a.length ≤ 640 then intText? a else none
  | _ => none
def strOf : PyData → Option Str
  | .int i => if i.natAbs.log2 < 1920 then some (toString i) else none
  | .str a => some a
  | _ => none
def absI (i : Int) : Int := if i < 0 then -i else i
def maxI (i j : Int) : Int := if j > i then j else i
def minI (i j : Int) : Int := if j < i then j else i
def joinF (a : Str) (x : PyData) : Option Str :=
  match (asSeq x).bind (allBy asStr) with
  | some ys => if (ys.map (·.length)).sum + ys.length * a.length ≤ 16777216 then some (Txt.join a ys) else none
  | none => none
def biD : Bi → List PyData → Option PyData
  | .len, [x] => (lenD x).map .int
  | .tuple, [x] => (asSeq x).map .tuple
  | .list, [x] => (asSeq x).map .list
  | .int, [x] => (intOf x).map .int
  | .str, [x] => (strOf x).map .str
  | .abs, [.int i] => some (.int (absI i))
  | .max2, [.int i, .int j] => some (.int (maxI i j))
  | .min2, [.int i, .int j] => some (.int (minI i j))
  | .sum, [.list ds] => (allBy asInt ds).map fun ns => .int ns.sum
  | .all, [.list ds] => (allBy asBool ds).map fun bs => .bool (bs.all id)
  | .any, [.list ds] => (allBy asBool ds).map fun bs => .bool (bs.any id)
  | .repr, [x] => (repF x).map .str
  | .isin T, [x] => (isTy T x).map .bool
  | .join, [.str a, x] => (joinF a x).map .str
  | .split1, [.str a, .str b] => if (b.length == 0) = false ∧ a.length + 2 ≤ sizeLine then some (.list ((Txt.split a b).map .str)) else none
  | .partition, [.str a, .str b] => if (b.length == 0) = false ∧ a.length ≤ sizeLine then
      some (.tuple [.str (Txt.partition a b).1, .str (Txt.partition a b).2.1, .str (Txt.partition a b).2.2]) else none
  | .rpartition, [.str a, .str b] => if (b.length == 0) = false ∧ a.length ≤ sizeLine then
      some (.tuple [.str (Txt.rpartition a b).1, .str (Txt.rpartition a b).2.1, .str (Txt.rpartition a b).2.2]) else none
  | .startswith, [.str a, .str b] => some (.bool (Txt.startswith a b))
  | .upper, [.str a] => if a.length ≤ 5592405 then some (.str (Txt.upper a)) else none
  | _, _ => none
def biF (b : Bi) (vs : List RV) : Option RV := match b, vs with
  | .len, [.scr ns] => some (.d (.int ns.length))
  | b, vs => match allBy pureR vs with
    | some ds => (biD b ds).map .d
    | none => none
def idxR : RV → RV → Option RV
  | .d x, .d y => (idxF x y).map .d
  | .scr ns, .d (.int i) => (atI ns i).map fun z => .d (.int z)
  | _, _ => none
def idxS (μ : Sto) : RV → RV → Option RV
  | .loc n, .d (.int i) => match μ[n]? with
    | some (.lst xs) => atI xs i
    | _ => none
  | x, y => idxR x y
def sliR (lo hi : Option Int) : RV → Option RV
  | .d x => (sliF lo hi x).map .d
  | .scr ns => some (.d (.list ((cutD ns lo hi).map .int)))
  | _ => none
def two (f : PyData → PyData → Option PyData) : RV → RV → Option RV
  | .d x, .d y => (f x y).map .d
  | _, _ => none
def twoB (f : PyData → PyData → Option Bool) : RV → RV → Option Bool
  | .d x, .d y => f x y
  | _, _ => none

/-! ### environments, targets -/
def wipeR (ρ : REnv) : List Nat → REnv
  | [] => ρ
  | v :: vs => (wipeR ρ vs).set v none
/-- without the lists that are nobody else's -/
def noOwn (ρ : REnv) : REnv := ρ.map fun s => match s with
  | some (.own _) => none
  | some (.exc _ _) => none
  | s => s
inductive Item where
  | one (v : RV)
  | two (a b : RV)
mutual
def asgN : T → RV → REnv → Option REnv
  | .nm i, v, ρ => if i < ρ.length then some (ρ.set i (some (.val v))) else none
  | .tup ts, .d (.tuple ds), ρ => asgNs ts (ds.map .d) ρ
  | _, _, _ => none
def asgNs : List T → List RV → REnv → Option REnv
  | [], [], ρ => some ρ
  | t :: ts, v :: vs, ρ => match asgN t v ρ with
    | some ρ' => asgNs ts vs ρ'
    | none => none
  | _, _, _ => none
end
/-- (a, b, ..) = a list -/
def asgLn (ts : List T) (v : RV) (ρ : REnv) : Option REnv := match v with
  | .d (.list ds) => asgNs ts (ds.map .d) ρ
  | _ => none
def asgI : T → Item → REnv → Option REnv
  | t, .one v, ρ => asgN t v ρ
  | .tup ts, .two a b, ρ => asgNs ts [a, b] ρ
  | _, _, _ => none
abbrev CallF := Nat → List RV → Sto → R RV
def lift {α : Type} (o : Option α) (μ : Sto) : R α := match o with
  | some a => .ok a μ
  | none => .bad
@[simp] theorem lift_some {α : Type} {a : α} {μ : Sto} : lift (some a) μ = .ok a μ := id rfl
@[simp] theorem lift_none {α : Type} {μ : Sto} : lift (none : Option α) μ = .bad := id rfl
def compL (turn : Item → Sto → R (List RV)) : List Item → Sto → R (List RV)
  | [], μ => .ok [] μ
  | x :: xs, μ => (turn x μ).bind fun vs μ1 => (compL turn xs μ1).bind fun ws μ2 => .ok (vs ++ ws) μ2
def pureL (vs : List RV) (μ : Sto) : R RV := match allBy pureR vs with
  | some ds => if ds.length ≤ sizeLine then .ok (.d (.list ds)) μ else .bad
  | none => .bad
def rngItems (lo : Int) (n : Nat) : List Item := (List.range n).map fun (i : Nat) => .one (.d (.int (lo + (i : Int))))
def rngItemsC (lo c : Int) (n : Nat) : List Item := (List.range n).map fun (i : Nat) => .one (.d (.int (lo + (i : Int) * c)))
def inLim (i : Int) : Bool := decide (i.natAbs < 4611686018427387904)
def seqItems : PyData → Option (List PyData)
  | .list xs => some xs
  | .tuple xs => some xs
  | .str z => some (z.cps.toList.map fun c => .str ⟨#[c]⟩)
  | _ => none
def enmItems (xs : List PyData) : List Item := xs.zipIdx.map fun p => .two (.d (.int (p.2 : Nat))) (.d p.1)
def zipItems (xs ys : List PyData) : List Item := (xs.zip ys).map fun p => .two (.d p.1) (.d p.2)
def kidx : Key → PyData
  | .inl i => .int i
  | .inr x => .str x
def keyD : PyData → Option Key
  | .int i => some (.inl i)
  | .str x => some (.inr x)
  | _ => none
def getK {α : Type} (kvs : List (Key × α)) (k : Key) : Option α := (kvs.find? fun kv => decide (kv.1 = k)).map (·.2)
def putK {α : Type} (kvs : List (Key × α)) (k : Key) (v : α) : List (Key × α) :=
  if (kvs.any fun kv => decide (kv.1 = k)) = true then kvs.map (fun kv => if kv.1 = k then (kv.1, v) else kv) else kvs ++ [(k, v)]
def dictOf {α : Type} (kvs : List (Key × α)) : List (Key × α) := kvs.foldl (fun a kv => putK a kv.1 kv.2) []
/-- no error within -/
def noEx {α : Type} : R α → R α
  | .ok a μ => .ok a μ
  | _ => .bad
def fmtR : RV → Option Str
  | .d x => fmtD x
  | _ => none

/-! ### expressions -/
mutual
def evE (c : CallF) (ρ : REnv) : E → Sto → R RV
  | .con x, μ => .ok (.d x) μ
  | .var i, μ => match ρ[i]? with
    | some (some (.val v)) => .ok v μ
    | _ => .bad
  | .bin o a b, μ => (evE c ρ a μ).bind fun x μ1 => (evE c ρ b μ1).bind fun y μ2 => lift (two (binF o) x y) μ2
  | .neg a, μ => (evE c ρ a μ).bind fun x μ1 => match x with
    | .d (.int i) => .ok (.d (.int (-i))) μ1
    | _ => .bad
  | .cmp o a b, μ => (evE c ρ a μ).bind fun x μ1 => (evE c ρ b μ1).bind fun y μ2 => lift ((twoB (cmpF o) x y).map fun k => .d (.bool k)) μ2
  | .chain o p a b e, μ => (evE c ρ a μ).bind fun x μ1 => (evE c ρ b μ1).bind fun y μ2 => match twoB (cmpF o) x y with
    | some true => (evE c ρ e μ2).bind fun z μ3 => lift ((twoB (cmpF p) y z).map fun k => .d (.bool k)) μ3
    | some false => .ok (.d (.bool false)) μ2
    | none => .bad
  | .and a b, μ => (evE c ρ a μ).bind fun x μ1 => match truR x with
    | some true => evE c ρ b μ1
    | some false => .ok x μ1
    | none => .bad
  | .or a b, μ => (evE c ρ a μ).bind fun x μ1 => match truR x with
    | some true => .ok x μ1
    | some false => evE c ρ b μ1
    | none => .bad
  | .not a, μ => (evE c ρ a μ).bind fun x μ1 => lift ((truR x).map fun k => .d (.bool (!k))) μ1
  | .ite t a b, μ => (evE c ρ t μ).bind fun x μ1 => match truR x with
    | some true => evE c ρ a μ1
    | some false => evE c ρ b μ1
    | none => .bad
  | .tup es, μ => (evEs c ρ es μ).bind fun vs μ1 => match allBy pureR vs with
    | some ds => if ds.length ≤ sizeLine then .ok (.d (.tuple ds)) μ1 else .bad
    | none => .bad
  | .lst es, μ => (evEs c ρ es μ).bind fun vs μ1 => pureL vs μ1
  | .idx a i, μ => (evE c ρ a μ).bind fun x μ1 => (evE c ρ i μ1).bind fun y μ2 => lift (idxS μ2 x y) μ2
  | .sli a lo hi, μ => (evE c ρ a μ).bind fun x μ1 => (evO c ρ lo μ1).bind fun l μ2 => (evO c ρ hi μ2).bind fun h μ3 => lift (sliR l h x) μ3
  | .call f es, μ => (evEs c ρ es μ).bind fun vs μ1 => c f vs μ1
  | .callK f _ kes perm, μ => (evEs c ρ kes μ).bind fun ws μ1 => match allBy (fun j => ws[j]?) perm with
    | some us => c f us μ1
    | none => .bad
  | .bi b es, μ => (evEs c ρ es μ).bind fun vs μ1 => lift (biF b vs) μ1
  | .mt b a e, μ => (evE c ρ a μ).bind fun v μ1 => match v with
    | .d (.str x) => (evE c ρ e μ1).bind fun u μ2 => lift (biF b [.d (.str x), u]) μ2
    | _ => .bad
  | .comp elt t it ifs own, μ => (evI c ρ it μ).bind fun items μ1 =>
    (noEx <| compL (fun x μ => match asgI t x (noOwn (wipeR ρ own)) with
      | some ρ1 => (evT c ρ1 ifs μ).bind fun k μ2 => if k then (evE c ρ1 elt μ2).bind fun v μ3 => .ok [v] μ3 else .ok [] μ2
      | none => .bad) items μ1).bind pureL
  | .comp2 elt t it ifs t2 it2 ifs2 own own2, μ => (evI c ρ it μ).bind fun items μ1 =>
    (noEx <| compL (fun x μ => match asgI t x (noOwn (wipeR ρ own)) with
      | some ρ1 => (evT c ρ1 ifs μ).bind fun k μ2 => if k then
          (evI c ρ1 it2 μ2).bind fun items2 μ3 => compL (fun x μ => match asgI t2 x (wipeR ρ1 own2) with
            | some ρ2 => (evT c ρ2 ifs2 μ).bind fun k μ2 => if k then (evE c ρ2 elt μ2).bind fun v μ3 => .ok [v] μ3 else .ok [] μ2
            | none => .bad) items2 μ3
        else .ok [] μ2
      | none => .bad) items μ1).bind pureL
  | .fstr es, μ => evFs c ρ es Str.empty μ
  | .disp ks es, μ => (evEs c ρ es μ).bind fun vs μ1 =>
    if vs.length = ks.length then .ok (.loc μ1.length) (μ1 ++ [.dict (dictOf (ks.zip vs))]) else .bad
  | .dsel ks es i, μ => (evEs c ρ es μ).bind fun vs μ1 => (evE c ρ i μ1).bind fun y μ2 =>
    if vs.length = ks.length then match y with
      | .d z => match keyD z with
        | some k => lift (getK (dictOf (ks.zip vs)) k) μ2
        | none => .bad
      | _ => .bad
    else .bad
  | .dget a i, μ => (evE c ρ a μ).bind fun x μ1 => (evE c ρ i μ1).bind fun y μ2 => match x, y with
    | .loc n, .d z => match μ2[n]?, keyD z with
      | some (.dict kvs), some k => lift (getK kvs k) μ2
      | _, _ => .bad
    | _, _ => .bad
  | .exa i f, μ => match ρ[i]? with
    | some (some (.exc _ fs)) => lift (fs.lookup f) μ
    | _ => .bad
  | .rep a y z, μ => (evE c ρ a μ).bind fun v μ1 => match v with
    | .d (.str x) => if x.length + (x.length + 1) * z.length ≤ 16777216 then .ok (.d (.str (Txt.replace x y z))) μ1 else .bad
    | _ => .bad
  | .lstT a y es, μ => (evE c ρ a μ).bind fun v μ1 => (lift (two addF v (.d (.str y))) μ1).bind fun w μ2 => (evEs c ρ es μ2).bind fun vs μ3 => pureL (w :: vs) μ3
def evFs (c : CallF) (ρ : REnv) : List E → Str → Sto → R RV
  | [], acc, μ => .ok (.d (.str acc)) μ
  | e :: es, acc, μ => (evE c ρ e μ).bind fun v μ1 => match fmtR v with
    | some y => if (acc ++ y).length ≤ sizeLine then evFs c ρ es (acc ++ y) μ1 else .bad
    | none => .bad
def evEs (c : CallF) (ρ : REnv) : List E → Sto → R (List RV)
  | [], μ => .ok [] μ
  | e :: es, μ => (evE c ρ e μ).bind fun v μ1 => (evEs c ρ es μ1).bind fun vs μ2 => .ok (v :: vs) μ2
def evO (c : CallF) (ρ : REnv) : Option E → Sto → R (Option Int)
  | none, μ => .ok none μ
  | some e, μ => (evE c ρ e μ).bind fun v μ1 => match v with
    | .d (.int i) => .ok (some i) μ1
    | _ => .bad
def evT (c : CallF) (ρ : REnv) : Option E → Sto → R Bool
  | none, μ => .ok true μ
  | some e, μ => (evE c ρ e μ).bind fun v μ1 => lift (truR v) μ1
def evI (c : CallF) (ρ : REnv) : It → Sto → R (List Item)
  | .seq e, μ => (evE c ρ e μ).bind fun v μ1 => match v with
    | .d x => lift ((seqItems x).map fun xs => xs.map fun y => .one (.d y)) μ1
    | _ => .bad
  | .rng1 e, μ => (evE c ρ e μ).bind fun v μ1 => match v with
    | .d (.int j) => if inLim j then .ok (rngItems 0 j.toNat) μ1 else .bad
    | _ => .bad
  | .rng2 a b, μ => (evE c ρ a μ).bind fun v μ1 => (evE c ρ b μ1).bind fun w μ2 => match v, w with
    | .d (.int i), .d (.int j) => if inLim i && inLim j then .ok (rngItems i (j - i).toNat) μ2 else .bad
    | _, _ => .bad
  | .rng3 a b e, μ => (evE c ρ a μ).bind fun v μ1 => (evE c ρ b μ1).bind fun w μ2 => (evE c ρ e μ2).bind fun u μ3 => match v, w, u with
    | .d (.int i), .d (.int j), .d (.int k) => if decide (k ≠ 0) && decide (k.natAbs < 1073741824) && Builtin.Range.small i j k && decide (0 ≤ Builtin.Range.rangeSize i j k) then .ok (rngItemsC i k (Builtin.Range.rangeSize i j k).toNat) μ3 else .bad
    | _, _, _ => .bad
  | .enm e, μ => (evE c ρ e μ).bind fun v μ1 => match v with
    | .d x => lift ((seqItems x).map enmItems) μ1
    | _ => .bad
  | .zip2 a b, μ => (evE c ρ a μ).bind fun v μ1 => (evE c ρ b μ1).bind fun w μ2 => match v, w with
    | .d x, .d y => match seqItems x, seqItems y with
      | some xs, some ys => .ok (zipItems xs ys) μ2
      | _, _ => .bad
    | _, _ => .bad
end

/-! ### statements -/
inductive F where
  | next (ρ : REnv)
  | ret (v : RV)
  | brk (ρ : REnv)
  | cont (ρ : REnv)
def forL (t : T) (body : REnv → Sto → R F) : List Item → REnv → Sto → R F
  | [], ρ, μ => .ok (.next ρ) μ
  | x :: xs, ρ, μ => match asgI t x ρ with
    | some ρ1 => (body ρ1 μ).bind fun f μ1 => match f with
      | .next ρ2 => forL t body xs ρ2 μ1
      | .cont ρ2 => forL t body xs ρ2 μ1
      | .brk ρ2 => .ok (.next ρ2) μ1
      | .ret v => .ok (.ret v) μ1
    | none => .bad
def whileL (test : REnv → Sto → R Bool) (body : REnv → Sto → R F) : Nat → REnv → Sto → R F
  | 0, _, _ => .bad
  | n + 1, ρ, μ => (test ρ μ).bind fun k μ1 => if k then
      (body ρ μ1).bind fun f μ2 => match f with
        | .next ρ2 => whileL test body n ρ2 μ2
        | .cont ρ2 => whileL test body n ρ2 μ2
        | .brk ρ2 => .ok (.next ρ2) μ2
        | .ret v => .ok (.ret v) μ2
    else .ok (.next ρ) μ1
def whileMost : Nat := 1000000
/-- o[i] = v for values -/
def subR (o i v : RV) (μ : Sto) : Option Sto := match o, i with
  | .loc n, .d z => match μ[n]?, keyD z with
    | some (.dict kvs), some k => if kvs.length + 1 ≤ sizeLine then some (μ.set n (.dict (putK kvs k v))) else none
    | _, _ => none
  | _, _ => none
mutual
def asgT (c : CallF) : T → RV → REnv → Sto → R REnv
  | .nm i, v, ρ, μ => if i < ρ.length then .ok (ρ.set i (some (.val v))) μ else .bad
  | .tup ts, v, ρ, μ => match v with
    | .d (.tuple ds) => asgTs c ts (ds.map .d) ρ μ
    | _ => .bad
  | .sub o i, v, ρ, μ => (evE c ρ o μ).bind fun x μ1 => (evE c ρ i μ1).bind fun y μ2 => match subR x y v μ2 with
    | some μ3 => .ok ρ μ3
    | none => .bad
def asgTs (c : CallF) : List T → List RV → REnv → Sto → R REnv
  | [], [], ρ, μ => .ok ρ μ
  | t :: ts, v :: vs, ρ, μ => (asgT c t v ρ μ).bind fun ρ1 μ1 => asgTs c ts vs ρ1 μ1
  | _, _, _, _ => .bad
end
def evSrc (c : CallF) (ρ : REnv) : Src → Sto → R Slot
  | .val e, μ => (evE c ρ e μ).bind fun v μ1 => .ok (.val v) μ1
  | .lst es, μ => (evEs c ρ es μ).bind fun vs μ1 => if vs.length ≤ sizeLine then .ok (.own vs) μ1 else .bad
  | .cat a b, μ => (evE c ρ a μ).bind fun x μ1 => (evE c ρ b μ1).bind fun y μ2 => match x, y with
    | .d (.list xs), .d (.list ys) => if xs.length + ys.length ≤ sizeLine then .ok (.own ((xs ++ ys).map .d)) μ2 else .bad
    | _, _ => .bad
def evSrcs (c : CallF) (ρ : REnv) : List Src → Sto → R (List Slot)
  | [], μ => .ok [] μ
  | s :: ss, μ => (evSrc c ρ s μ).bind fun v μ1 => (evSrcs c ρ ss μ1).bind fun vs μ2 => .ok (v :: vs) μ2
def setAll (ρ : REnv) : List Nat → List Slot → Option REnv
  | [], [] => some ρ
  | i :: is, s :: ss => if i < ρ.length then setAll (ρ.set i (some s)) is ss else none
  | _, _ => none
def noExc (ρ : REnv) : Bool := ρ.all fun s => match s with
  | some (.exc _ _) => false
  | _ => true
def tkE (k : TK) (ρ : REnv) (v : RV) (μ : Sto) : R F := match k with
  | .drop => .ok (.next ρ) μ
  | .asg t => (lift (asgN t v ρ) μ).bind fun ρ1 μ2 => .ok (.next ρ1) μ2
  | .ret => .ok (.ret v) μ
def tryE (r : R RV) (k : TK) (cl i : Nat) (h : REnv → Sto → R RV) (ρ : REnv) : R F := match r with
  | .ok v μ1 => tkE k ρ v μ1
  | .ex cl' fs μ1 => if cl' = cl ∧ i < ρ.length then (noEx (h ((noOwn ρ).set i (some (.exc cl fs))) μ1)).bind fun v μ2 => .ok (.ret v) μ2 else .bad
  | .bad => .bad
mutual
def exS (c : CallF) : S → REnv → Sto → R F
  | .asg t e, ρ, μ => (evE c ρ e μ).bind fun v μ1 => (asgT c t v ρ μ1).bind fun ρ1 μ2 => .ok (.next ρ1) μ2
  | .asgL ts e, ρ, μ => (evE c ρ e μ).bind fun v μ1 => (lift (asgLn ts v ρ) μ1).bind fun ρ1 μ2 => .ok (.next ρ1) μ2
  | .own i s, ρ, μ => (evSrc c ρ s μ).bind fun v μ1 => if i < ρ.length then .ok (.next (ρ.set i (some v))) μ1 else .bad
  | .par is ss, ρ, μ => (evSrcs c ρ ss μ).bind fun vs μ1 => match setAll ρ is vs with
    | some ρ1 => .ok (.next ρ1) μ1
    | none => .bad
  | .app i e, ρ, μ => match ρ[i]? with
    | some (some (.own xs)) => (evE c ρ e μ).bind fun v μ1 => if xs.length < sizeLine then .ok (.next (ρ.set i (some (.own (xs ++ [v]))))) μ1 else .bad
    | _ => .bad
  | .frz i, ρ, μ => match ρ[i]? with
    | some (some (.own xs)) => match allBy pureR xs with
      | some ds => .ok (.next (ρ.set i (some (.val (.d (.list ds)))))) μ
      | none => .bad
    | _ => .bad
  | .ret e, ρ, μ => (evE c ρ e μ).bind fun v μ1 => .ok (.ret v) μ1
  | .retN, _, μ => .ok (.ret (.d .none)) μ
  | .ifs t a b, ρ, μ => (evE c ρ t μ).bind fun v μ1 => match truR v with
    | some true => exSs c a ρ μ1
    | some false => exSs c b ρ μ1
    | none => .bad
  | .fors t it body, ρ, μ => (evI c ρ it μ).bind fun items μ1 => forL t (fun ρ μ => exSs c body ρ μ) items ρ μ1
  | .whiles t body, ρ, μ => whileL (fun ρ μ => (evE c ρ t μ).bind fun v μ1 => lift (truR v) μ1) (fun ρ μ => exSs c body ρ μ) whileMost ρ μ
  | .expr e, ρ, μ => (evE c ρ e μ).bind fun _ μ1 => .ok (.next ρ) μ1
  | .raise cl fs es, ρ, μ => (evEs c ρ es μ).bind fun vs μ1 => if vs.length = fs.length then .ex cl (fs.zip vs) μ1 else .bad
  | .try1 k e cl i h, ρ, μ => if noExc ρ then tryE (evE c ρ e μ) k cl i (fun ρ μ => evE c ρ h μ) ρ else .bad
  | .brk, ρ, μ => .ok (.brk ρ) μ
  | .cont, ρ, μ => .ok (.cont ρ) μ
  | .pass, ρ, μ => .ok (.next ρ) μ
def exSs (c : CallF) : List S → REnv → Sto → R F
  | [], ρ, μ => .ok (.next ρ) μ
  | s :: ss, ρ, μ => (exS c s ρ μ).bind fun f μ1 => match f with
    | .next ρ1 => exSs c ss ρ1 μ1
    | f => .ok f μ1
end

/-! ### programs -/
structure Fn where
  name : Str
  ps : List Str
  N : List Str
  body : List S
def startR (N : Nat) (vs : List RV) : REnv := vs.map (fun v => some (.val v)) ++ List.replicate (N - vs.length) none
def runFn (c : CallF) (f : Fn) (vs : List RV) (μ : Sto) : R RV :=
  if vs.length = f.ps.length then
    (exSs c f.body (startR f.N.length vs) μ).bind fun r μ1 => match r with
      | .ret v => .ok v μ1
      | .next _ => .ok (.d .none) μ1
      | _ => .bad
  else .bad
def callF (fs : List Fn) : Nat → CallF
  | 0 => fun _ _ _ => .bad
  | n + 1 => fun f vs μ => match fs[f]? with
    | some fn => runFn (callF fs n) fn vs μ
    | none => .bad
end Pv
end

/-! text PvRep -/
section
/-! Pv, part 2: how values, stores and environments lie in the layer's abstract heap. -/
namespace Pv
open PySem L2

theorem same_none {G H : Hp} {a : Addr} (h : Same G H) (e : H a = none) : G a = none := h.free e

/-! ### data trees -/
theorem rd_same {G G' : Hp} (h : Same G G') {a : Addr} {o : HO} (r : Rd G a o) : Rd G' a o := by
  rcases r with r | ⟨ob, r⟩
  · exact .inl (h _ _ r)
  · exact .inr ⟨ob, h _ _ r⟩
mutual
/-- a value of the layer is this tree, in the part G of the heap that stays -/
inductive Rp (K : PySem.W.Frag) (G : Hp) : V → PyData → Prop
  | non : Rp K G .non .none
  | bl (b : Bool) : Rp K G (.bl b) (.bool b)
  | int (i : Int) : Rp K G (.int i) (.int i)
  | str (x : Str) : Rp K G (.str x) (.str x)
  | lst {a : Addr} {vs : List V} {xs : List PyData} : G a = some (.lst vs) → RpAll K G vs xs → Rp K G (.ref a) (.list xs)
  | tup {a : Addr} {vs : List V} {xs : List PyData} : SqT K G a vs → RpAll K G vs xs → Rp K G (.ref a) (.tuple xs)
inductive RpAll (K : PySem.W.Frag) (G : Hp) : List V → List PyData → Prop
  | nil : RpAll K G [] []
  | cons {v : V} {vs : List V} {x : PyData} {xs : List PyData} : Rp K G v x → RpAll K G vs xs → RpAll K G (v :: vs) (x :: xs)
end
mutual
theorem Rp.dp {K : PySem.W.Frag} {G : Hp} : ∀ (x : PyData) (v : V), Rp K G v x → Dp K G v x
  | .none, _, .non => .non
  | .bool _, _, .bl b => .bl b
  | .int _, _, .int i => .int i
  | .str _, _, .str s => .str s
  | .list ds, _, .lst hs ha => .lst (.inl (.inl hs)) (RpAll.dp ds _ ha)
  | .tuple ds, _, .tup hs ha => .tup hs (RpAll.dp ds _ ha)
theorem RpAll.dp {K : PySem.W.Frag} {G : Hp} : ∀ (xs : List PyData) (vs : List V), RpAll K G vs xs → DpAll K G vs xs
  | [], _, .nil => .nil
  | x :: xs, _, .cons a b => .cons (Rp.dp x _ a) (RpAll.dp xs _ b)
end
mutual
theorem dp_same {K : PySem.W.Frag} {G G' : Hp} (h : Same G G') : ∀ (x : PyData) (v : V), Rp K G v x → Rp K G' v x
  | .none, _, .non => .non
  | .bool _, _, .bl b => .bl b
  | .int _, _, .int i => .int i
  | .str _, _, .str s => .str s
  | .list ds, _, .lst hs ha => .lst (h _ _ hs) (dpAll_same h ds _ ha)
  | .tuple ds, _, .tup hs ha => .tup (by
      rcases hs with hs | hs
      · exact .inl (rd_same h hs)
      · exact .inr hs) (dpAll_same h ds _ ha)
theorem dpAll_same {K : PySem.W.Frag} {G G' : Hp} (h : Same G G') : ∀ (xs : List PyData) (vs : List V), RpAll K G vs xs → RpAll K G' vs xs
  | [], _, .nil => .nil
  | x :: xs, _, .cons a b => .cons (dp_same h x _ a) (dpAll_same h xs _ b)
end
theorem sqT_same {K : PySem.W.Frag} {H H' : Hp} {a : Addr} {xs : List V} (e : Same H H') (h : SqT K H a xs) : SqT K H' a xs := by
  rcases h with (h | ⟨o, h⟩) | h
  · exact .inl (.inl (e _ _ h))
  · exact .inl (.inr ⟨o, e _ _ h⟩)
  · exact .inr h
theorem dpAll_length {K : PySem.W.Frag} {G : Hp} : ∀ {vs : List V} {xs : List PyData}, RpAll K G vs xs → vs.length = xs.length
  | _, _, .nil => rfl
  | _, _, .cons _ t => by simp [dpAll_length t]
theorem dpAll_get {K : PySem.W.Frag} {G : Hp} : ∀ {vs : List V} {xs : List PyData} {i : Nat} {x : PyData}, RpAll K G vs xs → xs[i]? = some x → ∃ v, vs[i]? = some v ∧ Rp K G v x
  | _, _, _, _, .nil, e => by simp at e
  | _, _, 0, _, .cons a _, e => by
    simp at e; subst e
    exact ⟨_, rfl, a⟩
  | _, _, i + 1, _, .cons _ t, e => by
    obtain ⟨v, h1, h2⟩ := dpAll_get (i := i) t (by simpa using e)
    exact ⟨v, by simpa using h1, h2⟩
theorem dpAll_append {K : PySem.W.Frag} {G : Hp} : ∀ {vs ws : List V} {xs ys : List PyData}, RpAll K G vs xs → RpAll K G ws ys → RpAll K G (vs ++ ws) (xs ++ ys)
  | _, _, _, _, .nil, s => s
  | _, _, _, _, .cons a t, s => .cons a (dpAll_append t s)
theorem dpAll_take {K : PySem.W.Frag} {G : Hp} : ∀ {vs : List V} {xs : List PyData} (n : Nat), RpAll K G vs xs → RpAll K G (vs.take n) (xs.take n)
  | _, _, 0, _ => .nil
  | _, _, _ + 1, .nil => .nil
  | _, _, n + 1, .cons a t => .cons a (dpAll_take n t)
theorem dpAll_drop {K : PySem.W.Frag} {G : Hp} : ∀ {vs : List V} {xs : List PyData} (n : Nat), RpAll K G vs xs → RpAll K G (vs.drop n) (xs.drop n)
  | _, _, 0, r => r
  | _, _, _ + 1, .nil => .nil
  | _, _, n + 1, .cons a t => dpAll_drop n t

inductive RVr (K : PySem.W.Frag) (G : Hp) (m : List Addr) : RV → V → Prop where
  | d {x : PyData} {v : V} (h : Rp K G v x) : RVr K G m (.d x) v
  | loc {n : Nat} {a : Addr} (h : m[n]? = some a) : RVr K G m (.loc n) (.ref a)
  | scr {ns : List Int} {a : Addr} (h : SqL K G a (ns.map V.int)) : RVr K G m (.scr ns) (.ref a)
abbrev RVs (K : PySem.W.Frag) (G : Hp) (m : List Addr) : List RV → List V → Prop := Paired (RVr K G m)
def ObR (K : PySem.W.Frag) (G : Hp) (m : List Addr) : Ob → HO → Prop
  | .lst xs, .lst vs => RVs K G m xs vs
  | .dict kvs, .dK kws => Paired (fun (p : Key × RV) (q : Key × V) => p.1 = q.1 ∧ RVr K G m p.2 q.2) kvs kws
  | _, _ => False
structure Sok (K : PySem.W.Frag) (G : Hp) (m : List Addr) (μ : Sto) (H : Hp) : Prop where
  len : m.length = μ.length
  nd : m.Nodup
  same : Same G H
  off : ∀ a ∈ m, G a = none
  obs : ∀ (n : Nat) (a : Addr) (ob : Ob), m[n]? = some a → μ[n]? = some ob → ∃ ho, H a = some ho ∧ ObR K G m ob ho
/-- which caught error lies where: its class by number, its address, its own dict's -/
abbrev Lk := Nat → List Str → Addr → Addr → Prop
def SlR (K : PySem.W.Frag) (lk : Lk) (G : Hp) (m : List Addr) (H : Hp) : Slot → V → Prop
  | .val v, x => RVr K G m v x
  | .own xs, x => ∃ a vs, x = .ref a ∧ H a = some (.lst vs) ∧ RVs K G m xs vs ∧ G a = none ∧ a ∉ m
  | .exc c fs, x => ∃ a dd vs, x = .ref a ∧ lk c (fs.map (·.1)) a dd ∧ H dd = some (.xd ((fs.map (·.1)).zip vs)) ∧ RVs K G m (fs.map (·.2)) vs ∧ G dd = none ∧ dd ∉ m
structure Eok (K : PySem.W.Frag) (lk : Lk) (G : Hp) (m : List Addr) (H : Hp) (ρ : REnv) (σ : St) : Prop where
  len : ρ.length = σ.length
  sl : ∀ (i : Nat) (s : Slot), ρ[i]? = some (some s) → ∃ x, σ[i]? = some (some x) ∧ SlR K lk G m H s x
  ap : ∀ (i j : Nat) (xs ys : List RV) (a b : Addr), i ≠ j → ρ[i]? = some (some (.own xs)) → ρ[j]? = some (some (.own ys)) → σ[i]? = some (some (.ref a)) → σ[j]? = some (some (.ref b)) → a ≠ b
structure Ext (G : Hp) (m : List Addr) (H : Hp) (G' : Hp) (m' : List Addr) (H' : Hp) : Prop where
  g : Same G G'
  mx : ∃ t, m' = m ++ t
  kp : ∀ b o, H b = some o → b ∉ m → H' b = some o
  th : ∀ b o, H b = some o → ∃ o', H' b = some o'
  nw : ∀ a ∈ m', a ∈ m ∨ H a = none
  gn : ∀ a o, G a = none → H a = some o → G' a = none
theorem Ext.refl {G : Hp} {m : List Addr} {H : Hp} : Ext G m H G m H := ⟨Same.refl G, ⟨[], by simp⟩, fun _ _ h _ => h, fun _ o h => ⟨o, h⟩, fun _ h => .inl h, fun _ _ h _ => h⟩
section
variable {K : PySem.W.Frag} {lk : Lk} {G G1 G2 H H1 H2 : Hp} {m m1 m2 : List Addr} {μ : Sto} {ρ : REnv} {σ : St}
theorem Ext.trans (a : Ext G m H G1 m1 H1) (b : Ext G1 m1 H1 G2 m2 H2) : Ext G m H G2 m2 H2 := by
  obtain ⟨t1, e1⟩ := a.mx
  obtain ⟨t2, e2⟩ := b.mx
  refine ⟨a.g.trans b.g, ⟨t1 ++ t2, by rw [e2, e1, List.append_assoc]⟩, fun x o h hm => ?_, fun x o h => ?_, fun x hx => ?_, fun x o h1 h2 => ?_⟩
  · refine b.kp x o (a.kp x o h hm) fun hx => ?_
    rcases a.nw x hx with z | z
    · exact hm z
    · rw [h] at z; cases z
  · obtain ⟨o', h'⟩ := a.th x o h
    exact b.th x o' h'
  · rcases b.nw x hx with z | z
    · exact a.nw x z
    · right
      cases e : H x with
      | none => rfl
      | some o =>
        obtain ⟨o', h'⟩ := a.th x o e
        rw [h'] at z; cases z
  · obtain ⟨o', h'⟩ := a.th x o h2
    exact b.gn x o' (a.gn x o h1 h2) h'
theorem Ext.get (a : Ext G m H G1 m1 H1) {n : Nat} {x : Addr} (h : m[n]? = some x) : m1[n]? = some x := by
  obtain ⟨t, e⟩ := a.mx
  rw [e, List.getElem?_append_left (List.getElem?_eq_some_iff.mp h).1]
  exact h
theorem RVr.ext {v : RV} {x : V} (h : RVr K G m v x) (e : Ext G m H G1 m1 H1) : RVr K G1 m1 v x := by
  cases h with
  | d h => exact .d (dp_same e.g _ _ h)
  | loc h => exact .loc (e.get h)
  | scr h => exact .scr (e.g.seq h)
theorem RVs.ext {vs : List RV} {xs : List V} (h : RVs K G m vs xs) (e : Ext G m H G1 m1 H1) : RVs K G1 m1 vs xs := Paired.mapP h fun _ _ z => z.ext e
theorem Eok.ext (h : Eok K lk G m H ρ σ) (e : Ext G m H G1 m1 H1) : Eok K lk G1 m1 H1 ρ σ := by
  refine ⟨h.len, fun i s hi => ?_, h.ap⟩
  obtain ⟨x, hx, r⟩ := h.sl i s hi
  refine ⟨x, hx, ?_⟩
  cases s with
  | val v => exact RVr.ext (H := H) r e
  | own xs =>
    obtain ⟨a, vs, e1, e2, e3, e4, e5⟩ := r
    refine ⟨a, vs, e1, e.kp _ _ e2 e5, RVs.ext (H := H) e3 e, e.gn _ _ e4 e2, fun hm => ?_⟩
    rcases e.nw _ hm with z | z
    · exact e5 z
    · rw [e2] at z; cases z
  | exc c fs =>
    obtain ⟨a, dd, vs, e1, e2, e3, e4, e5, e6⟩ := r
    refine ⟨a, dd, vs, e1, e2, e.kp _ _ e3 e6, RVs.ext (H := H) e4 e, e.gn _ _ e5 e3, fun hm => ?_⟩
    rcases e.nw _ hm with z | z
    · exact e6 z
    · rw [e3] at z; cases z
/-- a new object that is known, not of the store -/
theorem ext_new {p : Addr} {o : HO} (hp : H p = none) (hs : Same G H) : Ext G m H G m (upd H p o) :=
  ⟨Same.refl G, ⟨[], by simp⟩, fun b o' h _ => by rw [upd_ne (ne_of_none h hp)]; exact h, fun b o' h => ⟨o', by rw [upd_ne (ne_of_none h hp)]; exact h⟩, fun _ h => .inl h, fun _ _ h _ => h⟩
theorem ext_frz {p : Addr} {o : HO} (hp : H p = none) (hs : Same G H) : Ext G m H (upd G p o) m (upd H p o) :=
  ⟨fun b o' h => by rw [upd_ne (ne_of_none h (hs.free hp))]; exact h, ⟨[], by simp⟩, fun b o' h _ => by rw [upd_ne (ne_of_none h hp)]; exact h, fun b o' h => ⟨o', by rw [upd_ne (ne_of_none h hp)]; exact h⟩, fun _ h => .inl h,
    fun a o' h1 h2 => by rw [upd_ne (ne_of_none h2 hp)]; exact h1⟩
theorem same_upd2 {p : Addr} {o : HO} (hs : Same G H) : Same (upd G p o) (upd H p o) := fun b o' h => by
  by_cases e : b = p
  · subst e; rw [upd_same] at h ⊢; exact h
  · rw [upd_ne e] at h ⊢; exact hs _ _ h
theorem same_upd1 {p : Addr} {o : HO} (hs : Same G H) (hp : H p = none) : Same G (upd H p o) := fun b o' h => by
  have h' := hs _ _ h
  rw [upd_ne (ne_of_none h' hp)]; exact h'
theorem ObR.ext {ob : Ob} {ho : HO} (h : ObR K G m ob ho) (e : Ext G m H G1 m1 H1) : ObR K G1 m1 ob ho := by
  cases ob with
  | lst xs => cases ho <;> first | exact RVs.ext (H := H) h e | exact h
  | dict kvs => cases ho <;> first | exact Paired.mapP h fun _ _ z => ⟨z.1, z.2.ext e⟩ | exact h
theorem Sok.new {p : Addr} {o : HO} (h : Sok K G m μ H) (hp : H p = none) : Sok K G m μ (upd H p o) := by
  refine ⟨h.len, h.nd, same_upd1 h.same hp, h.off, fun n a ob h1 h2 => ?_⟩
  obtain ⟨ho, e1, e2⟩ := h.obs n a ob h1 h2
  exact ⟨ho, by rw [upd_ne (ne_of_none e1 hp)]; exact e1, e2⟩
theorem Sok.there (h : Sok K G m μ H) {a : Addr} (ha : a ∈ m) : ∃ o, H a = some o := by
  obtain ⟨n, hn, e⟩ := List.getElem_of_mem ha
  have h1 : m[n]? = some a := by rw [List.getElem?_eq_getElem hn, e]
  obtain ⟨ho, e1, _⟩ := h.obs n a (μ[n]'(by rw [← h.len]; exact hn)) h1 (by simp)
  exact ⟨ho, e1⟩
theorem Sok.frz {p : Addr} {o : HO} (h : Sok K G m μ H) (hp : H p = none) : Sok K (upd G p o) m μ (upd H p o) := by
  have nm : ∀ a ∈ m, a ≠ p := fun a ha e => by
    obtain ⟨o', h'⟩ := h.there ha
    rw [e, hp] at h'; cases h'
  refine ⟨h.len, h.nd, same_upd2 h.same, fun a ha => by rw [upd_ne (nm a ha)]; exact h.off a ha, fun n a ob h1 h2 => ?_⟩
  obtain ⟨ho, e1, e2⟩ := h.obs n a ob h1 h2
  exact ⟨ho, by rw [upd_ne (ne_of_none e1 hp)]; exact e1, e2.ext (H := H) (ext_frz hp h.same)⟩
end

/-! ### knowing -/
/-- the layout of a program: its defs, its error classes (with their attributes), by number -/
structure Lay where
  P : Program
  w : World
  K : PySem.W.Frag
  mg : Str → Option Value
  base : Heap
  fs : List Fn
  cls : List (Addr × List Str)
  lk : Lk

/-- an error of class c with attributes fs lies so -/
def ExR (L : Lay) (G : Hp) (m : List Addr) (H : Hp) (c : Nat) (fs : List (Str × RV)) (cls : Value) (d : Option Addr) : Prop :=
  ∃ C names, L.cls[c]? = some (C, names) ∧ cls = .ref C ∧ fs.map (·.1) = names ∧
    ((names = [] ∧ d = none) ∨ (names ≠ [] ∧ ∃ dx vs, d = some dx ∧ H dx = some (.xd (names.zip vs)) ∧ RVs L.K G m (fs.map (·.2)) vs ∧ G dx = none ∧ dx ∉ m))

/-- what is known behind r, from (G, m, H): Q of what it gives; W of its error -/
def Kn {α β : Type} (L : Lay) (W : Value → Option Addr → Hp → Prop) (Rel : Hp → List Addr → α → β → Prop) (G : Hp) (m : List Addr) (H : Hp) (r : R α) (Q : β → Hp → Prop) : Prop :=
  match r with
  | .ok a μ' => ∀ G' m' H' b, Ext G m H G' m' H' → Sok L.K G' m' μ' H' → Rel G' m' a b → Q b H'
  | .ex c fs μ' => ∀ G' m' H' cls d, Ext G m H G' m' H' → Sok L.K G' m' μ' H' → ExR L G' m' H' c fs cls d → W cls d H'
  | .bad => False
section
variable {α β γ δ : Type} {L : Lay} {W : Value → Option Addr → Hp → Prop} {Rel : Hp → List Addr → α → β → Prop} {Rel2 : Hp → List Addr → γ → δ → Prop} {G H : Hp} {m : List Addr} {r : R α} {Q : β → Hp → Prop}
/-- one thing behind another -/
theorem Kn.bind {f : α → Sto → R γ} {Q2 : δ → Hp → Prop} (h : Kn L W Rel2 G m H (r.bind f) Q2) :
    Kn L W Rel G m H r fun b H1 => ∃ G1 m1 μ1 a, Ext G m H G1 m1 H1 ∧ Sok L.K G1 m1 μ1 H1 ∧ Rel G1 m1 a b ∧ Kn L W Rel2 G1 m1 H1 (f a μ1) Q2 := by
  cases r with
  | ok a μ =>
    intro G1 m1 H1 b e s rl
    refine ⟨G1, m1, μ, a, e, s, rl, ?_⟩
    have h : Kn L W Rel2 G m H (f a μ) Q2 := h
    cases q : f a μ with
    | ok c μ2 =>
      rw [q] at h
      intro G2 m2 H2 b2 e2 s2 r2
      exact h G2 m2 H2 b2 (e.trans e2) s2 r2
    | ex c fs μ2 =>
      rw [q] at h
      intro G2 m2 H2 cl d e2 s2 r2
      exact h G2 m2 H2 cl d (e.trans e2) s2 r2
    | bad =>
      rw [q] at h
      exact h
  | ex c fs μ => exact h
  | bad => exact h
theorem Kn.mono {Q' : β → Hp → Prop} (h : Kn L W Rel G m H r Q) (k : ∀ b H', Q b H' → Q' b H') : Kn L W Rel G m H r Q' := by
  cases r with
  | ok a μ => exact fun G' m' H' b e s rl => k _ _ (h G' m' H' b e s rl)
  | ex c fs μ => exact h
  | bad => exact h
theorem Kn.done {a : α} {μ : Sto} {b : β} (h : Kn L W Rel G m H (.ok a μ) Q) (s : Sok L.K G m μ H) (rl : Rel G m a b) : Q b H := h G m H b Ext.refl s rl
end
abbrev RelV' (L : Lay) : Hp → List Addr → RV → V → Prop := fun G m v x => RVr L.K G m v x
abbrev RelL (L : Lay) : Hp → List Addr → List RV → List V → Prop := fun G m v x => RVs L.K G m v x
abbrev RelB : Hp → List Addr → Bool → Bool → Prop := fun _ _ a b => a = b
/-- the reading of an expression that the evaluator knows -/
def tV (L : Lay) (W : WX) (ev : REnv → Sto → R RV) : TE := fun σ H Q => ∃ G m μ ρ, Sok L.K G m μ H ∧ Eok L.K L.lk G m H ρ σ ∧ Kn L (fun c d H' => W c d σ H') (RelV' L) G m H (ev ρ μ) Q
def tVs (L : Lay) (W : WX) (ev : REnv → Sto → R (List RV)) : TA := fun σ H Q => ∃ G m μ ρ, Sok L.K G m μ H ∧ Eok L.K L.lk G m H ρ σ ∧ Kn L (fun c d H' => W c d σ H') (RelL L) G m H (ev ρ μ) Q
def tB' (L : Lay) (W : WX) (ev : REnv → Sto → R Bool) : TT := fun σ H Q => ∃ G m μ ρ, Sok L.K G m μ H ∧ Eok L.K L.lk G m H ρ σ ∧ Kn L (fun c d H' => W c d σ H') RelB G m H (ev ρ μ) Q
theorem PE.weak {X : Cx} {e : Expr} {t t' : TE} (h : PE X e t) (k : ∀ σ H Q, t' σ H Q → t σ H Q) : PE X e t' := ⟨fun pins s σ H Q I q => h.run pins s σ H Q I (k _ _ _ q)⟩
theorem PT.weak {X : Cx} {e : Expr} {t t' : TT} (h : PT X e t) (k : ∀ σ H Q, t' σ H Q → t σ H Q) : PT X e t' := ⟨fun pins s σ H Q I q => h.run pins s σ H Q I (k _ _ _ q)⟩
theorem PA.weak {X : Cx} {e : List Expr} {t t' : TA} (h : PA X e t) (k : ∀ σ H Q, t' σ H Q → t σ H Q) : PA X e t' := ⟨fun pos pins s σ H Q I q => h.run pos pins s σ H Q I (k _ _ _ q)⟩
theorem PS.weak {X : Cx} {e : Stmt} {t t' : TS} (h : PS X e t) (k : ∀ D σ H, t' D σ H → t D σ H) : PS X e t' := ⟨fun pins s σ H D I q => h.run pins s σ H D I (k _ _ _ q)⟩
theorem PSs.weak {X : Cx} {e : List Stmt} {t t' : TS} (h : PSs X e t) (k : ∀ D σ H, t' D σ H → t D σ H) : PSs X e t' := ⟨fun pins s σ H D I q => h.run pins s σ H D I (k _ _ _ q)⟩
/-- from the knowledge of a whole to its first part -/
theorem tV_bind {α β : Type} {L : Lay} {W : WX} {Rel2 : Hp → List Addr → α → β → Prop} {G m μ ρ σ H} {ev : REnv → Sto → R RV} {f : RV → Sto → R α} {Q2 : β → Hp → Prop}
    (s : Sok L.K G m μ H) (e : Eok L.K L.lk G m H ρ σ) (h : Kn L (fun c d H' => W c d σ H') Rel2 G m H ((ev ρ μ).bind f) Q2) :
    tV L W ev σ H fun b H1 => ∃ G1 m1 μ1 a, Ext G m H G1 m1 H1 ∧ Sok L.K G1 m1 μ1 H1 ∧ Eok L.K L.lk G1 m1 H1 ρ σ ∧ RVr L.K G1 m1 a b ∧ Kn L (fun c d H' => W c d σ H') Rel2 G1 m1 H1 (f a μ1) Q2 :=
  ⟨G, m, μ, ρ, s, e, (Kn.bind h).mono fun _ _ ⟨G1, m1, μ1, a, x, y, z, k⟩ => ⟨G1, m1, μ1, a, x, y, e.ext x, z, k⟩⟩
theorem tVs_bind {α β : Type} {L : Lay} {W : WX} {Rel2 : Hp → List Addr → α → β → Prop} {G m μ ρ σ H} {ev : REnv → Sto → R (List RV)} {f : List RV → Sto → R α} {Q2 : β → Hp → Prop}
    (s : Sok L.K G m μ H) (e : Eok L.K L.lk G m H ρ σ) (h : Kn L (fun c d H' => W c d σ H') Rel2 G m H ((ev ρ μ).bind f) Q2) :
    tVs L W ev σ H fun b H1 => ∃ G1 m1 μ1 a, Ext G m H G1 m1 H1 ∧ Sok L.K G1 m1 μ1 H1 ∧ Eok L.K L.lk G1 m1 H1 ρ σ ∧ RVs L.K G1 m1 a b ∧ Kn L (fun c d H' => W c d σ H') Rel2 G1 m1 H1 (f a μ1) Q2 :=
  ⟨G, m, μ, ρ, s, e, (Kn.bind h).mono fun _ _ ⟨G1, m1, μ1, a, x, y, z, k⟩ => ⟨G1, m1, μ1, a, x, y, e.ext x, z, k⟩⟩
end Pv
end

/-! text PvOps -/
section
/-! Pv, part 3: operators over data trees are the layer's operators. -/
namespace Pv
open PySem L2

/-- nothing has changed, or one new object has come and is known -/
def New1 (G H G' H' : Hp) : Prop := (G' = G ∧ H' = H) ∨ ∃ p o, H p = none ∧ G' = upd G p o ∧ H' = upd H p o
theorem New1.ext {G H G' H' : Hp} {m : List Addr} (n : New1 G H G' H') (s : Same G H) : Ext G m H G' m H' := by
  rcases n with ⟨rfl, rfl⟩ | ⟨p, o, hp, rfl, rfl⟩
  · exact Ext.refl
  · exact ext_frz hp s
theorem New1.sok {K : PySem.W.Frag} {G H G' H' : Hp} {m : List Addr} {μ : Sto} (n : New1 G H G' H') (s : Sok K G m μ H) : Sok K G' m μ H' := by
  rcases n with ⟨rfl, rfl⟩ | ⟨p, o, hp, rfl, rfl⟩
  · exact s
  · exact s.frz hp
theorem New1.same {G H G' H' : Hp} (n : New1 G H G' H') (s : Same G H) : Same G G' := (n.ext (m := []) s).g

def rF2 (K : PySem.W.Frag) (f : PyData → PyData → Option PyData) : R2 := fun x y H Q => ∃ G dx dy dz, Same G H ∧ Rp K G x dx ∧ Rp K G y dy ∧ f dx dy = some dz ∧ ∀ G' H' z, New1 G H G' H' → Rp K G' z dz → Q z H'
def rB2 (K : PySem.W.Frag) (f : PyData → PyData → Option Bool) : R2 := fun x y H Q => ∃ G dx dy b, Same G H ∧ Rp K G x dx ∧ Rp K G y dy ∧ f dx dy = some b ∧ Q (.bl b) H

section
variable {X : Cx} {pins : List (Addr × Obj)} {σ : St} {H : Hp} {s : Shared}
theorem Inv.lstR {a : Addr} {vs : List V} (I : Inv X pins σ H s) (h : Rd H a (.lst vs)) : vs.length ≤ sizeLine ∧ ∃ (its : List Value) (n : Nat), Vals vs its ∧ s.heap.get? a = some { cls := .type "list", data := .seq its.toArray n } := h.ok I.hok
theorem rd_of {G H : Hp} {a : Addr} {o : HO} (h : Same G H) (r : Rd G a o) : Rd H a o := rd_same h r
theorem sqt_of {K : PySem.W.Frag} {G H : Hp} {a : Addr} {vs : List V} (h : Same G H) (r : SqT K G a vs) : SqT K H a vs := by
  rcases r with r | r
  · exact .inl (rd_same h r)
  · exact .inr r
theorem rpAll_length {K : PySem.W.Frag} {G : Hp} {vs : List V} {xs : List PyData} (h : RpAll K G vs xs) : vs.length = xs.length := dpAll_length h
/-- what is known of a new list, a new tuple -/
theorem rp_newL {K : PySem.W.Frag} {G : Hp} {p : Addr} {vs : List V} {xs : List PyData} (hp : G p = none) (h : RpAll K G vs xs) : Rp K (upd G p (.lst vs)) (.ref p) (.list xs) :=
  .lst upd_same (dpAll_same (fun b o e => by rw [upd_ne (ne_of_none e hp)]; exact e) _ _ h)
theorem rp_newT {K : PySem.W.Frag} {G : Hp} {p : Addr} {vs : List V} {xs : List PyData} (hp : G p = none) (h : RpAll K G vs xs) : Rp K (upd G p (.tup vs)) (.ref p) (.tuple xs) :=
  .tup (.inl (.inl upd_same)) (dpAll_same (fun b o e => by rw [upd_ne (ne_of_none e hp)]; exact e) _ _ h)

theorem addListR {l b : Addr} {vs ws : List V} {Q : VK} (I : Inv X pins σ H s) (h1 : Rd H l (.lst vs)) (h2 : Rd H b (.lst ws)) (hz : vs.length + ws.length ≤ sizeLine)
    (q : ∀ p, H p = none → Q (.ref p) (upd H p (.lst (vs ++ ws)))) : wpAny (model X.prog X.w) X.A (binaryOp .Add (.ref l) (.ref b)) (EP X pins σ Q) X.xe s := by
  obtain ⟨z1, i1, n1, r1, e1⟩ := Pv.Inv.lstR I h1
  obtain ⟨z2, i2, n2, r2, e2⟩ := Pv.Inv.lstR I h2
  have l1 := r1.length
  have l2 := r2.length
  refine PySem.P.add_list e1 e2 ?_ (by simp; omega)
  have cat : i1.toArray ++ i2.toArray = (i1 ++ i2).toArray := by simp
  rw [cat]
  exact ⟨.ref _, _, I.lnew (t' := s.toks) (r1.append r2) (by rw [List.length_append]; omega), rfl, q _ I.fresh⟩

theorem oAdd : OpR X (binaryOp .Add) (rF2 X.K addF) := by
  intro pins s σ H x y v u Q I rx ry ⟨G, dx, dy, dz, sg, h1, h2, hf, k⟩
  cases h1 with
  | int i =>
    cases h2 with
    | int j =>
      cases hf
      exact op_add pins s σ H _ _ v u Q I rx ry ⟨i, j, rfl, rfl, k G H _ (.inl ⟨rfl, rfl⟩) (.int _)⟩
    | _ => cases hf
  | str i =>
    cases h2 with
    | str j =>
      simp only [addF] at hf
      split at hf
      · rename_i hl
        cases hf
        exact op_add_str pins s σ H _ _ v u Q I rx ry ⟨i, j, rfl, rfl, hl, k G H _ (.inl ⟨rfl, rfl⟩) (.str _)⟩
      · cases hf
    | _ => cases hf
  | lst a1 b1 =>
    cases h2 with
    | lst a2 b2 =>
      simp only [addF] at hf
      split at hf
      · rename_i hl
        cases hf
        cases rx
        cases ry
        refine addListR I (.inl (sg _ _ a1)) (.inl (sg _ _ a2)) (by rw [rpAll_length b1, rpAll_length b2]; exact hl) fun p hp => ?_
        exact k (upd G p _) _ _ (.inr ⟨p, _, hp, rfl, rfl⟩) (rp_newL (sg.free hp) (dpAll_append b1 b2))
      · cases hf
    | _ => cases hf
  | tup a1 b1 =>
    cases h2 with
    | tup a2 b2 =>
      simp only [addF] at hf
      split at hf
      · rename_i hl
        cases hf
        refine op_catA pins s σ H _ _ v u Q I rx ry ⟨_, _, _, _, rfl, rfl, sqt_of sg a1, sqt_of sg a2, by rw [rpAll_length b1, rpAll_length b2]; exact hl, fun e => ?_, fun e e2 => ?_, fun _ _ p hp => ?_⟩
        · subst e
          cases b1
          exact k G H _ (.inl ⟨rfl, rfl⟩) (.tup a2 b2)
        · subst e2
          cases b2
          refine k G H _ (.inl ⟨rfl, rfl⟩) (.tup a1 ?_)
          rw [List.append_nil]
          exact b1
        · exact k (upd G p _) _ _ (.inr ⟨p, _, hp, rfl, rfl⟩) (rp_newT (sg.free hp) (dpAll_append b1 b2))
      · cases hf
    | _ => cases hf
  | _ => cases h2 <;> cases hf

/-- ints alone -/
theorem oInt {f : Value → Value → Sem Value} {r : R2} {g : Int → Int → Option Int} (h : OpR X f r) (hr : ∀ (i j z : Int) (H : Hp) (Q : VK), g i j = some z → Q (.int z) H → r (.int i) (.int j) H Q) : OpR X f (rF2 X.K (intF g)) := by
  intro pins s σ H x y v u Q I rx ry ⟨G, dx, dy, dz, sg, h1, h2, hf, k⟩
  cases h1 with
  | int i =>
    cases h2 with
    | int j =>
      have hf : (g i j).map PyData.int = some dz := hf
      cases e : g i j with
      | none => rw [e] at hf; cases hf
      | some z =>
        rw [e] at hf
        cases hf
        exact h pins s σ H _ _ v u Q I rx ry (hr i j z H Q e (k G H _ (.inl ⟨rfl, rfl⟩) (.int _)))
    | _ => cases hf
  | _ => cases h2 <;> cases hf
theorem oSub : OpR X (binaryOp .Sub) (rF2 X.K (binF .sub)) := oInt op_sub fun i j z H Q e q => ⟨i, j, rfl, rfl, by cases e; exact q⟩
theorem oFdiv : OpR X (binaryOp .FloorDiv) (rF2 X.K (binF .fdiv)) := oInt op_fdivW fun i j z H Q e q => by
  split at e
  · rename_i h; cases e; exact ⟨i, j, rfl, rfl, h, q⟩
  · cases e
theorem oMod : OpR X (binaryOp .Mod) (rF2 X.K (binF .mod)) := oInt op_mod fun i j z H Q e q => by
  split at e
  · rename_i h; cases e; exact ⟨i, j, rfl, rfl, h, q⟩
  · cases e
theorem oPow : OpR X (binaryOp .Pow) (rF2 X.K (binF .pow)) := oInt op_pow fun i j z H Q e q => by
  split at e
  · rename_i h; cases e; exact ⟨i, j, rfl, rfl, ⟨h.1, by omega, h.2.2⟩, q⟩
  · cases e
theorem oShl : OpR X (binaryOp .LShift) (rF2 X.K (binF .shl)) := oInt op_shl fun i j z H Q e q => by
  split at e
  · rename_i h; cases e; exact ⟨i, j, rfl, rfl, ⟨h.1, by omega, h.2.2⟩, q⟩
  · cases e
theorem oShr : OpR X (binaryOp .RShift) (rF2 X.K (binF .shr)) := oInt op_shr fun i j z H Q e q => by
  split at e
  · rename_i h; cases e; exact ⟨i, j, rfl, rfl, h, q⟩
  · cases e
theorem oBand : OpR X (binaryOp .BitAnd) (rF2 X.K (binF .band)) := oInt op_and fun i j z H Q e q => ⟨i, j, rfl, rfl, by cases e; exact q⟩
theorem oBor : OpR X (binaryOp .BitOr) (rF2 X.K (binF .bor)) := oInt op_or fun i j z H Q e q => ⟨i, j, rfl, rfl, by cases e; exact q⟩
theorem oBxor : OpR X (binaryOp .BitXor) (rF2 X.K (binF .bxor)) := oInt op_xor fun i j z H Q e q => ⟨i, j, rfl, rfl, by cases e; exact q⟩
end
end Pv
end

/-! text PvCmp -/
section
namespace Pv
open PySem L2
section
variable {X : Cx}
/-- a flat tree's value -/
def flatVof : PyData → V
  | .bool b => .bl b
  | .int i => .int i
  | .str s => .str s
  | _ => .non
theorem rp_flat {K : PySem.W.Frag} {G : Hp} {x : PyData} {v : V} (h : Rp K G v x) (f : flatD x = true) : v = flatVof x ∧ flatV v = true := by
  cases h with
  | non => exact ⟨rfl, rfl⟩
  | bl b => exact ⟨rfl, rfl⟩
  | int i => exact ⟨rfl, rfl⟩
  | str s => exact ⟨rfl, rfl⟩
  | lst _ _ => cases f
  | tup _ _ => cases f
theorem eqV_eqv {x y : PyData} (fx : flatD x = true) (fy : flatD y = true) : eqV (flatVof x) (flatVof y) = PyData.eqv x y := by
  cases x <;> cases y <;> first | rfl | cases fx | cases fy | skip
  all_goals first | (simp [flatVof, eqV, PyData.eqv]; done) | (simp [flatD] at fx; done) | (simp [flatD] at fy; done) | skip
theorem rpAll_flat {K : PySem.W.Frag} {G : Hp} : ∀ {vs : List V} {xs : List PyData}, RpAll K G vs xs → xs.all flatD = true → vs = xs.map flatVof ∧ vs.all flatV = true
  | _, _, .nil, _ => ⟨rfl, rfl⟩
  | _, _, .cons a t, f => by
    rw [List.all_cons, Bool.and_eq_true] at f
    obtain ⟨e1, e2⟩ := rp_flat a f.1
    obtain ⟨e3, e4⟩ := rpAll_flat t f.2
    exact ⟨by rw [List.map_cons, ← e1, ← e3], by rw [List.all_cons, e2, e4]; rfl⟩
theorem inV_any {x : PyData} : ∀ {xs : List PyData}, flatD x = true → xs.all flatD = true → inV (flatVof x) (xs.map flatVof) = xs.any fun y => PyData.eqv y x
  | [], _, _ => rfl
  | y :: ys, fx, f => by
    rw [List.all_cons, Bool.and_eq_true] at f
    have ih := inV_any fx f.2
    unfold inV at ih ⊢
    rw [List.map_cons, List.any_cons, List.any_cons, ih, eqV_eqv f.1 fx]
theorem scal_eqv {K : PySem.W.Frag} {G : Hp} {x y : PyData} {v u : V} (h1 : Rp K G v x) (h2 : Rp K G u y) (s : scalD x y = true) : scal v u = true ∧ decide (v = u) = PyData.eqv x y := by
  cases h1 <;> cases h2 <;> first | exact ⟨rfl, rfl⟩ | cases s | skip
  all_goals
    refine ⟨rfl, ?_⟩
    simp [PyData.eqv]
  all_goals first | rfl | (rw [Bool.eq_iff_iff]; simp)
theorem eqF_cases {x y : PyData} {b : Bool} (h : eqF x y = some b) : b = PyData.eqv x y ∧ (scalD x y = true ∨ (SeqAt.shaped x = true ∧ SeqAt.shaped y = true)) := by
  unfold eqF at h
  split at h
  · rename_i s
    cases h
    exact ⟨rfl, .inl s⟩
  · split at h
    · rename_i s
      cases h
      rw [Bool.and_eq_true] at s
      exact ⟨rfl, .inr s⟩
    · cases h
theorem cEq (hu : X.A.units + 64 < cLine) : OpR X (compareOp .Eq) (rB2 X.K (cmpF .eq)) := by
  intro pins s σ H x y v u Q I rx ry ⟨G, dx, dy, b, sg, h1, h2, hf, k⟩
  obtain ⟨e, h⟩ := eqF_cases hf
  subst e
  rcases h with h | ⟨ha, hb⟩
  · obtain ⟨h3, h4⟩ := scal_eqv h1 h2 h
    exact op_eq pins s σ H x y v u Q I rx ry ⟨h3, by rw [h4]; exact k⟩
  · exact op_eqD hu pins s σ H x y v u Q I rx ry ⟨dx, dy, (dp_same sg _ _ h1).dp, (dp_same sg _ _ h2).dp, ha, hb, k⟩
theorem cNe (hu : X.A.units + 64 < cLine) : OpR X (compareOp .NotEq) (rB2 X.K (cmpF .ne)) := by
  intro pins s σ H x y v u Q I rx ry ⟨G, dx, dy, b, sg, h1, h2, hf, k⟩
  have hf : (eqF dx dy).map (! ·) = some b := hf
  cases q : eqF dx dy with
  | none => rw [q] at hf; cases hf
  | some c =>
    rw [q] at hf
    cases hf
    obtain ⟨e, h⟩ := eqF_cases q
    subst e
    rcases h with h | ⟨ha, hb⟩
    · obtain ⟨h3, h4⟩ := scal_eqv h1 h2 h
      exact op_ne pins s σ H x y v u Q I rx ry ⟨h3, by rw [h4]; exact k⟩
    · exact op_neD hu pins s σ H x y v u Q I rx ry ⟨dx, dy, (dp_same sg _ _ h1).dp, (dp_same sg _ _ h2).dp, ha, hb, k⟩
theorem cLtF {op : CmpOp} {g : Int → Int → Bool} {h : List Nat → List Nat → Bool}
    (r1 : OpR X (compareOp op) (rI0 fun i j => .bl (g i j))) (r2 : OpR X (compareOp op) (fun x y H Q => ∃ i j, x = .str i ∧ y = .str j ∧ Q (.bl (h i.cps.toList j.cps.toList)) H)) : OpR X (compareOp op) (rB2 X.K (ltF g h)) := by
  intro pins s σ H x y v u Q I rx ry ⟨G, dx, dy, b, sg, h1, h2, hf, k⟩
  cases h1 with
  | int i =>
    cases h2 with
    | int j =>
      cases hf
      exact r1 pins s σ H _ _ v u Q I rx ry ⟨i, j, rfl, rfl, k⟩
    | _ => cases hf
  | str i =>
    cases h2 with
    | str j =>
      cases hf
      exact r2 pins s σ H _ _ v u Q I rx ry ⟨i, j, rfl, rfl, k⟩
    | _ => cases hf
  | _ => cases h2 <;> cases hf
theorem cLt : OpR X (compareOp .Lt) (rB2 X.K (cmpF .lt)) := cLtF (g := fun i j => decide (i < j)) (h := fun a b => decide (a < b)) op_lt op_lt_str
theorem cLe : OpR X (compareOp .LtE) (rB2 X.K (cmpF .le)) := cLtF (g := fun i j => decide (i ≤ j)) (h := fun a b => !decide (b < a)) op_le op_le_str
theorem cGt : OpR X (compareOp .Gt) (rB2 X.K (cmpF .gt)) := cLtF (g := fun i j => decide (j < i)) (h := fun a b => decide (b < a)) op_gt op_gt_str
theorem cGe : OpR X (compareOp .GtE) (rB2 X.K (cmpF .ge)) := cLtF (g := fun i j => decide (j ≤ i)) (h := fun a b => !decide (a < b)) op_ge op_ge_str
theorem isNone_rp {K : PySem.W.Frag} {G : Hp} {x : PyData} {v : V} (h : Rp K G v x) : decide (v = .non) = isNone x := by
  cases h <;> simp [isNone]
theorem isF_cases {x y : PyData} {b : Bool} (h : isF x y = some b) : y = .none ∧ b = isNone x := by
  unfold isF at h
  split at h
  · rename_i s
    cases h
    cases y <;> first | exact ⟨rfl, rfl⟩ | cases s
  · cases h
theorem cIs : OpR X (compareOp .Is) (rB2 X.K (cmpF .is)) := by
  intro pins s σ H x y v u Q I rx ry ⟨G, dx, dy, b, sg, h1, h2, hf, k⟩
  obtain ⟨e1, e2⟩ := isF_cases hf
  subst e1 e2
  cases h2
  exact op_isN pins s σ H x _ v u Q I rx ry ⟨rfl, by rw [isNone_rp h1]; exact k⟩
theorem cIsNot : OpR X (compareOp .IsNot) (rB2 X.K (cmpF .isnot)) := by
  intro pins s σ H x y v u Q I rx ry ⟨G, dx, dy, b, sg, h1, h2, hf, k⟩
  have hf : (isF dx dy).map (! ·) = some b := hf
  cases q : isF dx dy with
  | none => rw [q] at hf; cases hf
  | some c =>
    rw [q] at hf
    cases hf
    obtain ⟨e1, e2⟩ := isF_cases q
    subst e1 e2
    cases h2
    exact op_notN pins s σ H x _ v u Q I rx ry ⟨rfl, by rw [isNone_rp h1]; exact k⟩
theorem memL_cases {x : PyData} {xs : List PyData} {b : Bool} (h : memL x xs = some b) : flatD x = true ∧ xs.all flatD = true ∧ b = xs.any fun y => PyData.eqv y x := by
  unfold memL at h
  split at h
  · rename_i s
    cases h
    rw [Bool.and_eq_true] at s
    exact ⟨s.1, s.2, rfl⟩
  · cases h
theorem str_one {x : Str} {c : Nat} (h : x.cps.toList = [c]) : x = ⟨#[c]⟩ := by
  obtain ⟨a⟩ := x
  congr 1
  exact Array.toList_inj.mp h
theorem memF_str {x : PyData} {xs : List PyData} {b : Bool} (h : memF x (.list xs) = some b) : memL x xs = some b := by
  cases x <;> exact h
theorem memF_tup {x : PyData} {xs : List PyData} {b : Bool} (h : memF x (.tuple xs) = some b) : memL x xs = some b := by
  cases x <;> exact h
theorem cInG {op : CmpOp} {n : Bool} (r1 : OpR X (compareOp op) (rIn X.K n))
    (r2 : OpR X (compareOp op) (fun x y H Q => ∃ i j, x = .str i ∧ y = .str j ∧ Q (.bl (if n then !(!(Builtin.Str.occurrences j i 0 j.length 1).isEmpty) else !(Builtin.Str.occurrences j i 0 j.length 1).isEmpty)) H))
    (r3 : OpR X (compareOp op) (fun x y H Q => ∃ (c : Nat) (z : Str), x = .str ⟨#[c]⟩ ∧ y = .str z ∧ Q (.bl (if n then !decide (c ∈ z.cps.toList) else decide (c ∈ z.cps.toList))) H)) :
    OpR X (compareOp op) (rB2 X.K (fun x y => (memF x y).map fun b => if n then !b else b)) := by
  intro pins s σ H x y v u Q I rx ry ⟨G, dx, dy, b, sg, h1, h2, hf, k⟩
  have hf : (memF dx dy).map (fun b => if n then !b else b) = some b := hf
  cases q : memF dx dy with
  | none => rw [q] at hf; cases hf
  | some c =>
    rw [q] at hf
    cases hf
    cases h2 with
    | str j =>
      cases h1 with
      | str i =>
        cases q
        unfold inStr at k
        split at k
        · rename_i c e
          have e' := str_one e
          subst e'
          exact r3 pins s σ H _ _ v u Q I rx ry ⟨c, j, rfl, rfl, k⟩
        · exact r2 pins s σ H _ _ v u Q I rx ry ⟨i, j, rfl, rfl, k⟩
      | _ => cases q
    | lst a2 b2 =>
      obtain ⟨e1, e2, e3⟩ := memL_cases (memF_str q)
      obtain ⟨f1, f2⟩ := rp_flat h1 e1
      obtain ⟨f3, f4⟩ := rpAll_flat b2 e2
      refine r1 pins s σ H _ _ v u Q I rx ry ⟨_, _, rfl, .inl (.inl (.inl (sg _ _ a2))), f2, f4, ?_⟩
      rw [f1, f3, inV_any e1 e2, ← e3]
      exact k
    | tup a2 b2 =>
      obtain ⟨e1, e2, e3⟩ := memL_cases (memF_tup q)
      obtain ⟨f1, f2⟩ := rp_flat h1 e1
      obtain ⟨f3, f4⟩ := rpAll_flat b2 e2
      refine r1 pins s σ H _ _ v u Q I rx ry ⟨_, _, rfl, .inr (sqt_of sg a2), f2, f4, ?_⟩
      rw [f1, f3, inV_any e1 e2, ← e3]
      exact k
    | _ => cases h1 <;> cases q
theorem cIn : OpR X (compareOp .In) (rB2 X.K (cmpF .mem)) := by
  have h := cInG (X := X) (op := .In) (n := false) op_in_seq op_in_str op_in_sign
  intro pins s σ H x y v u Q I rx ry ⟨G, dx, dy, b, sg, h1, h2, hf, k⟩
  have hf : memF dx dy = some b := hf
  exact h pins s σ H x y v u Q I rx ry ⟨G, dx, dy, b, sg, h1, h2, by simp [hf], k⟩
theorem cNotIn : OpR X (compareOp .NotIn) (rB2 X.K (cmpF .notin)) := by
  have h := cInG (X := X) (op := .NotIn) (n := true) op_notIn_seq op_notIn_str op_notIn_sign
  intro pins s σ H x y v u Q I rx ry ⟨G, dx, dy, b, sg, h1, h2, hf, k⟩
  exact h pins s σ H x y v u Q I rx ry ⟨G, dx, dy, b, sg, h1, h2, hf, k⟩

/-! ### * -/
theorem rpAll_rep {K : PySem.W.Frag} {G : Hp} {vs : List V} {xs : List PyData} (h : RpAll K G vs xs) : ∀ n : Nat, RpAll K G (List.replicate n vs).flatten (List.replicate n xs).flatten
  | 0 => .nil
  | n + 1 => by
    rw [List.replicate_succ, List.replicate_succ, List.flatten_cons, List.flatten_cons]
    exact dpAll_append h (rpAll_rep h n)
theorem oMul : OpR X (binaryOp .Mult) (rF2 X.K mulF) := by
  intro pins s σ H x y v u Q I rx ry ⟨G, dx, dy, dz, sg, h1, h2, hf, k⟩
  cases h2 with
  | int j =>
    cases h1 with
    | int i =>
      simp only [mulF] at hf
      split at hf
      · rename_i hl
        cases hf
        exact op_mulW pins s σ H _ _ v u Q I rx ry ⟨i, j, rfl, rfl, hl, k G H _ (.inl ⟨rfl, rfl⟩) (.int _)⟩
      · cases hf
    | lst a1 b1 =>
      simp only [mulF] at hf
      split at hf
      · rename_i hl
        cases hf
        refine op_rep pins s σ H _ _ v u Q I rx ry ⟨_, j, _, rfl, rfl, sg _ _ a1, by omega, by omega, by rw [rpAll_length b1]; exact hl.2, fun p hp => ?_⟩
        exact k (upd G p _) _ _ (.inr ⟨p, _, hp, rfl, rfl⟩) (rp_newL (sg.free hp) (rpAll_rep b1 _))
      · cases hf
    | tup a1 b1 =>
      simp only [mulF] at hf
      split at hf
      · rename_i hl
        cases hf
        refine op_repT pins s σ H _ _ v u Q I rx ry ⟨_, j, _, rfl, rfl, sqt_of sg a1, fun e => ?_, hl.2.1, hl.2.2.1, by rw [rpAll_length b1]; exact hl.2.2.2, fun p hp => ?_⟩
        · subst e
          cases b1
          exact hl.1 rfl
        · exact k (upd G p _) _ _ (.inr ⟨p, _, hp, rfl, rfl⟩) (rp_newT (sg.free hp) (rpAll_rep b1 _))
      · cases hf
    | _ => cases hf
  | _ => cases h1 <;> cases hf
end
end Pv
end

/-! text PvExpr -/
section
/-! Pv, part 4: expressions. -/
namespace Pv
open PySem L2
/-- the errors that a suite holds -/
def lkOf (X : Cx) (cls : List (Addr × List Str)) : Lk := fun c names a dd => ∃ C oe, cls[c]? = some (C, names) ∧ (a, oe) ∈ X.pn ∧ oe.cls = .ref C ∧ oe.dict = some dd ∧ ∃ vs, oe.data = .fields vs
abbrev layOf (X : Cx) (fs : List Fn) (cls : List (Addr × List Str)) : Lay := ⟨X.prog, X.w, X.K, X.mg, X.base, fs, cls, lkOf X cls⟩
theorem tV.mono {L : Lay} {W : WX} {ev : REnv → Sto → R RV} {σ : St} {H : Hp} {Q Q' : VK} (h : tV L W ev σ H Q) (k : ∀ b H', Q b H' → Q' b H') : tV L W ev σ H Q' := by
  obtain ⟨G, m, μ, ρ, s, e, z⟩ := h
  exact ⟨G, m, μ, ρ, s, e, z.mono k⟩
theorem tVs.mono {L : Lay} {W : WX} {ev : REnv → Sto → R (List RV)} {σ : St} {H : Hp} {Q Q' : List V → Hp → Prop} (h : tVs L W ev σ H Q) (k : ∀ b H', Q b H' → Q' b H') : tVs L W ev σ H Q' := by
  obtain ⟨G, m, μ, ρ, s, e, z⟩ := h
  exact ⟨G, m, μ, ρ, s, e, z.mono k⟩
theorem two_cases {f : PyData → PyData → Option PyData} {a b w : RV} (h : two f a b = some w) : ∃ x y z, a = .d x ∧ b = .d y ∧ f x y = some z ∧ w = .d z := by
  cases a <;> cases b <;> first | cases h | skip
  rename_i x y
  have h : (f x y).map RV.d = some w := h
  cases e : f x y with
  | none => rw [e] at h; cases h
  | some z => rw [e] at h; cases h; exact ⟨x, y, z, rfl, rfl, e, rfl⟩
theorem twoB_cases {f : PyData → PyData → Option Bool} {a b : RV} {k : Bool} (h : twoB f a b = some k) : ∃ x y, a = .d x ∧ b = .d y ∧ f x y = some k := by
  cases a <;> cases b <;> first | cases h | skip
  rename_i x y
  exact ⟨x, y, rfl, rfl, h⟩
theorem rvD {K : PySem.W.Frag} {G : Hp} {m : List Addr} {x : PyData} {v : V} (h : RVr K G m (.d x) v) : Rp K G v x := by
  cases h with
  | d h => exact h
theorem kn_lift {α β : Type} {L : Lay} {W : Value → Option Addr → Hp → Prop} {Rel : Hp → List Addr → α → β → Prop} {G H : Hp} {m : List Addr} {μ : Sto} {o : Option α} {Q : β → Hp → Prop} (h : Kn L W Rel G m H (lift o μ) Q) :
    ∃ a, o = some a ∧ Kn L W Rel G m H (.ok a μ) Q := by
  cases o with
  | none => exact h.elim
  | some a => exact ⟨a, rfl, h⟩
theorem kn_ok {α β : Type} {L : Lay} {W : Value → Option Addr → Hp → Prop} {Rel : Hp → List Addr → α → β → Prop} {G H : Hp} {m : List Addr} {μ : Sto} {a : α} {Q : β → Hp → Prop} (h : Kn L W Rel G m H (.ok a μ) Q)
    {G' H' : Hp} {b : β} (n : New1 G H G' H') (s : Sok L.K G m μ H) (r : Rel G' m a b) : Q b H' := h G' m H' b (n.ext s.same) (n.sok s) r
theorem New1.refl {G H : Hp} : New1 G H G H := .inl ⟨rfl, rfl⟩
theorem tru_of {K : PySem.W.Frag} {G H : Hp} {m : List Addr} {a : RV} {x : V} {k : Bool} (r : RVr K G m a x) (sg : Same G H) (h : truR a = some k) : TruV K x H k := by
  cases r with
  | loc _ => cases h
  | scr _ => cases h
  | d r =>
    have h := h
    cases r with
    | non => cases h; exact rfl
    | bl b => cases h; exact rfl
    | int i => cases h; exact rfl
    | str s =>
      simp only [truR, truD] at h
      split at h
      · rename_i hl; cases h; exact ⟨hl, rfl⟩
      · cases h
    | @lst p vs xs h1 h2 =>
      cases h
      refine .inl ⟨vs, .inl (.inl (sg _ _ h1)), ?_⟩
      cases h2 <;> rfl
    | @tup p vs xs h1 h2 =>
      cases h
      refine .inr (.inl ⟨vs, sqt_of sg h1, ?_⟩)
      cases h2 <;> rfl

section
variable {X : Cx} {fs : List Fn} {cls : List (Addr × List Str)} {W : WX} {a b c e : Expr} {ea eb ec : REnv → Sto → R RV} {pos : Pos}

theorem s_con {x : PyData} {v : V} (h : PE X e (tC v)) (r : ∀ G, Rp X.K G v x) : PE X e (tV (layOf X fs cls) W fun _ μ => .ok (.d x) μ) :=
  PE.weak h fun σ H Q ⟨G, m, μ, ρ, s, en, k⟩ => k.done s (.d (r G))
theorem s_var {i : Nat} {x : Str} (hN : X.N[i]? = some x) (hv : Vis X.env.scope x) (hd : (x == ("__debug__" : Str)) = false) (hcd : (x == ("__classdict__" : Str)) = false) :
    PE X (.Name x pos) (tV (layOf X fs cls) W fun ρ μ => match ρ[i]? with | some (some (.val v)) => .ok v μ | _ => .bad) :=
  PE.weak (pe_var hN hv hd hcd) fun σ H Q ⟨G, m, μ, ρ, s, en, k⟩ => by
    dsimp only at k
    split at k
    · rename_i v hv
      obtain ⟨z, h1, h2⟩ := en.sl _ _ hv
      exact ⟨z, h1, k.done s h2⟩
    · exact k.elim
theorem s_bin {op : Operator} {f : PyData → PyData → Option PyData} (ho : OpR X (binaryOp op) (rF2 X.K f)) (ha : PE X a (tV (layOf X fs cls) W ea)) (hb : PE X b (tV (layOf X fs cls) W eb)) :
    PE X (.BinOp a op b pos) (tV (layOf X fs cls) W fun ρ μ => (ea ρ μ).bind fun x μ1 => (eb ρ μ1).bind fun y μ2 => lift (two f x y) μ2) :=
  PE.weak (pe_op ho ha hb) fun σ H Q ⟨G, m, μ, ρ, s, en, k⟩ => (tV_bind s en k).mono fun x H1 ⟨G1, m1, μ1, va, x1, s1, e1, r1, k1⟩ => (tV_bind s1 e1 k1).mono fun y H2 ⟨G2, m2, μ2, vb, x2, s2, e2, r2, k2⟩ => by
    obtain ⟨w, hw, k3⟩ := kn_lift k2
    obtain ⟨dx, dy, dz, rfl, rfl, hf, rfl⟩ := two_cases hw
    exact ⟨G2, dx, dy, dz, s2.same, rvD (r1.ext x2), rvD r2, hf, fun G' H' z n rz => kn_ok k3 n s2 (.d rz)⟩
theorem s_neg (ha : PE X a (tV (layOf X fs cls) W ea)) :
    PE X (.UnaryOp .USub a pos) (tV (layOf X fs cls) W fun ρ μ => (ea ρ μ).bind fun x μ1 => match x with | .d (.int i) => .ok (.d (.int (-i))) μ1 | _ => .bad) :=
  PE.weak (pe_un un_neg ha) fun σ H Q ⟨G, m, μ, ρ, s, en, k⟩ => (tV_bind s en k).mono fun x H1 ⟨G1, m1, μ1, va, x1, s1, e1, r1, k1⟩ => by
    split at k1
    · rename_i i
      cases rvD r1
      exact ⟨i, rfl, k1.done s1 (.d (.int _))⟩
    · exact k1.elim
theorem s_cmp {op : CmpOp} {f : PyData → PyData → Option Bool} (ho : OpR X (compareOp op) (rB2 X.K f)) (hm : behindInMarks op b = false) (ha : PE X a (tV (layOf X fs cls) W ea)) (hb : PE X b (tV (layOf X fs cls) W eb)) :
    PE X (.Compare a [op] [b] pos) (tV (layOf X fs cls) W fun ρ μ => (ea ρ μ).bind fun x μ1 => (eb ρ μ1).bind fun y μ2 => lift ((twoB f x y).map fun k => .d (.bool k)) μ2) :=
  PE.weak (pe_cmpR ho ha hb hm) fun σ H Q ⟨G, m, μ, ρ, s, en, k⟩ => (tV_bind s en k).mono fun x H1 ⟨G1, m1, μ1, va, x1, s1, e1, r1, k1⟩ => (tV_bind s1 e1 k1).mono fun y H2 ⟨G2, m2, μ2, vb, x2, s2, e2, r2, k2⟩ => by
    obtain ⟨w, hw, k3⟩ := kn_lift k2
    cases q : twoB f va vb with
    | none => rw [q] at hw; cases hw
    | some t =>
      rw [q] at hw
      cases hw
      obtain ⟨dx, dy, rfl, rfl, hf⟩ := twoB_cases q
      exact ⟨G2, dx, dy, t, s2.same, rvD (r1.ext x2), rvD r2, hf, k3.done s2 (.d (.bl _))⟩
theorem s_chain {op op' : CmpOp} {f g : PyData → PyData → Option Bool} (ho : OpR X (compareOp op) (rB2 X.K f)) (ho' : OpR X (compareOp op') (rB2 X.K g)) (hm : lastMarks [op, op'] [b, c] = false)
    (ha : PE X a (tV (layOf X fs cls) W ea)) (hb : PE X b (tV (layOf X fs cls) W eb)) (hc : PE X c (tV (layOf X fs cls) W ec)) :
    PE X (.Compare a [op, op'] [b, c] pos) (tV (layOf X fs cls) W fun ρ μ => (ea ρ μ).bind fun x μ1 => (eb ρ μ1).bind fun y μ2 => match twoB f x y with
      | some true => (ec ρ μ2).bind fun z μ3 => lift ((twoB g y z).map fun k => .d (.bool k)) μ3
      | some false => .ok (.d (.bool false)) μ2
      | none => .bad) :=
  PE.weak (pe_chain ho ho' ha hb hc hm) fun σ H Q ⟨G, m, μ, ρ, s, en, k⟩ => (tV_bind s en k).mono fun x H1 ⟨G1, m1, μ1, va, x1, s1, e1, r1, k1⟩ => (tV_bind s1 e1 k1).mono fun y H2 ⟨G2, m2, μ2, vb, x2, s2, e2, r2, k2⟩ => by
    cases q : twoB f va vb with
    | none => rw [q] at k2; exact k2.elim
    | some t =>
      rw [q] at k2
      obtain ⟨dx, dy, rfl, rfl, hf⟩ := twoB_cases q
      refine ⟨G2, dx, dy, t, s2.same, rvD (r1.ext x2), rvD r2, hf, t, rfl, ?_⟩
      cases t with
      | false =>
        rw [if_neg Bool.false_ne_true]
        exact k2.done s2 (.d (.bl _))
      | true =>
        rw [if_pos rfl]
        refine (tV_bind s2 e2 k2).mono fun z H3 ⟨G3, m3, μ3, vc, x3, s3, e3, r3, k3⟩ => ?_
        obtain ⟨w, hw, k4⟩ := kn_lift k3
        cases q2 : twoB g (.d dy) vc with
        | none => rw [q2] at hw; cases hw
        | some t =>
          rw [q2] at hw
          cases hw
          obtain ⟨dy', dz, hy, rfl, hg⟩ := twoB_cases q2
          cases hy
          exact ⟨G3, dy, dz, t, s3.same, rvD (r2.ext x3), rvD r3, hg, k4.done s3 (.d (.bl _))⟩
theorem s_not (ha : PE X a (tV (layOf X fs cls) W ea)) : PE X (.UnaryOp .Not a pos) (tV (layOf X fs cls) W fun ρ μ => (ea ρ μ).bind fun x μ1 => lift ((truR x).map fun k => .d (.bool (!k))) μ1) :=
  PE.weak (pe_notT ha) fun σ H Q ⟨G, m, μ, ρ, s, en, k⟩ => (tV_bind s en k).mono fun x H1 ⟨G1, m1, μ1, va, x1, s1, e1, r1, k1⟩ => by
    obtain ⟨w, hw, k2⟩ := kn_lift k1
    cases q : truR va with
    | none => rw [q] at hw; cases hw
    | some t =>
      rw [q] at hw
      cases hw
      exact ⟨t, tru_of r1 s1.same q, k2.done s1 (.d (.bl _))⟩
theorem s_and {rest : List Expr} (ha : PE X a (tV (layOf X fs cls) W ea)) (hb : PE X (.BoolOp .And (b :: rest) pos) (tV (layOf X fs cls) W eb)) :
    PE X (.BoolOp .And (a :: b :: rest) pos) (tV (layOf X fs cls) W fun ρ μ => (ea ρ μ).bind fun x μ1 => match truR x with
      | some true => eb ρ μ1
      | some false => .ok x μ1
      | none => .bad) :=
  PE.weak (pe_andT ha hb) fun σ H Q ⟨G, m, μ, ρ, s, en, k⟩ => (tV_bind s en k).mono fun x H1 ⟨G1, m1, μ1, va, x1, s1, e1, r1, k1⟩ => by
    cases q : truR va with
    | none => rw [q] at k1; exact k1.elim
    | some t =>
      rw [q] at k1
      refine ⟨t, tru_of r1 s1.same q, ?_⟩
      cases t with
      | false => rw [if_neg Bool.false_ne_true]; exact k1.done s1 r1
      | true => rw [if_pos rfl]; exact ⟨G1, m1, μ1, ρ, s1, e1, k1⟩
theorem s_or {rest : List Expr} (ha : PE X a (tV (layOf X fs cls) W ea)) (hb : PE X (.BoolOp .Or (b :: rest) pos) (tV (layOf X fs cls) W eb)) :
    PE X (.BoolOp .Or (a :: b :: rest) pos) (tV (layOf X fs cls) W fun ρ μ => (ea ρ μ).bind fun x μ1 => match truR x with
      | some true => .ok x μ1
      | some false => eb ρ μ1
      | none => .bad) :=
  PE.weak (pe_orT ha hb) fun σ H Q ⟨G, m, μ, ρ, s, en, k⟩ => (tV_bind s en k).mono fun x H1 ⟨G1, m1, μ1, va, x1, s1, e1, r1, k1⟩ => by
    cases q : truR va with
    | none => rw [q] at k1; exact k1.elim
    | some t =>
      rw [q] at k1
      refine ⟨t, tru_of r1 s1.same q, ?_⟩
      cases t with
      | true => rw [if_pos rfl]; exact k1.done s1 r1
      | false => rw [if_neg Bool.false_ne_true]; exact ⟨G1, m1, μ1, ρ, s1, e1, k1⟩

/-! ### tests -/
/-- the test's reading: the value's truth -/
def tT (L : Lay) (W : WX) (ev : REnv → Sto → R RV) : TT := tB' L W fun ρ μ => (ev ρ μ).bind fun v μ1 => lift (truR v) μ1
theorem st_val (ha : PE X a (tV (layOf X fs cls) W ea)) (he : ∀ whole, isTrue a X.env whole = (do let v ← whole; standAt a.pos; holding [v] (truthy v))) : PT X a (tT (layOf X fs cls) W ea) :=
  PT.weak (pt_truth ha he) fun σ H Q ⟨G, m, μ, ρ, s, en, k⟩ => (tV_bind s en k).mono fun x H1 ⟨G1, m1, μ1, va, x1, s1, e1, r1, k1⟩ => by
    obtain ⟨t, ht, k2⟩ := kn_lift k1
    exact ⟨t, tru_of r1 s1.same ht, k2.done s1 rfl⟩
theorem tt_bind {α β : Type} {L : Lay} {Rel2 : Hp → List Addr → α → β → Prop} {G H : Hp} {m : List Addr} {μ : Sto} {ρ : REnv} {σ : St} {f : Bool → Sto → R α} {Q2 : β → Hp → Prop}
    (s : Sok L.K G m μ H) (en : Eok L.K L.lk G m H ρ σ) (h : Kn L (fun c d H' => W c d σ H') Rel2 G m H ((ea ρ μ).bind fun v μ1 => (lift (truR v) μ1).bind f) Q2) :
    tT L W ea σ H fun t H1 => ∃ G1 m1 μ1, Ext G m H G1 m1 H1 ∧ Sok L.K G1 m1 μ1 H1 ∧ Eok L.K L.lk G1 m1 H1 ρ σ ∧ Kn L (fun c d H' => W c d σ H') Rel2 G1 m1 H1 (f t μ1) Q2 := by
  refine ⟨G, m, μ, ρ, s, en, ?_⟩
  have h' : Kn L (fun c d H' => W c d σ H') Rel2 G m H (((ea ρ μ).bind fun v μ1 => lift (truR v) μ1).bind f) Q2 := by
    cases q : ea ρ μ <;> rw [q] at h <;> exact h
  exact (Kn.bind (Rel := RelB) h').mono fun t H1 ⟨G1, m1, μ1, u, x1, s1, e1, k1⟩ => by
    have e1 : u = t := e1
    subst e1
    exact ⟨G1, m1, μ1, x1, s1, en.ext x1, k1⟩
theorem tT.mono {L : Lay} {σ : St} {H : Hp} {Q Q' : Bool → Hp → Prop} (h : tT L W ea σ H Q) (k : ∀ b H', Q b H' → Q' b H') : tT L W ea σ H Q' := by
  obtain ⟨G, m, μ, ρ, s, e, z⟩ := h
  exact ⟨G, m, μ, ρ, s, e, z.mono k⟩
/-- a test's meaning by cases, as one of bind -/
theorem tru_match {α : Type} (v : RV) (μ : Sto) (A B : R α) : (match truR v with | some true => A | some false => B | none => R.bad) = (lift (truR v) μ).bind fun t _ => if t then A else B := by
  cases truR v with
  | none => rfl
  | some t => cases t <;> rfl
theorem s_ite {t : Expr} {et : REnv → Sto → R RV} (ht : PT X t (tT (layOf X fs cls) W et)) (ha : PE X a (tV (layOf X fs cls) W ea)) (hb : PE X b (tV (layOf X fs cls) W eb)) :
    PE X (.IfExp t a b pos) (tV (layOf X fs cls) W fun ρ μ => (et ρ μ).bind fun x μ1 => match truR x with
      | some true => ea ρ μ1
      | some false => eb ρ μ1
      | none => .bad) :=
  PE.weak (pe_ifExp ht ha hb) fun σ H Q ⟨G, m, μ, ρ, s, en, k⟩ => by
    have k' : Kn (layOf X fs cls) (fun c d H' => W c d σ H') (RelV' (layOf X fs cls)) G m H ((et ρ μ).bind fun v μ1 => (lift (truR v) μ1).bind fun t μ2 => if t then ea ρ μ2 else eb ρ μ2) Q := by
      have e : (fun (v : RV) (μ1 : Sto) => (match truR v with | some true => ea ρ μ1 | some false => eb ρ μ1 | none => R.bad)) = fun v μ1 => (lift (truR v) μ1).bind fun t μ2 => if t then ea ρ μ2 else eb ρ μ2 := by
        funext v μ1
        cases truR v with
        | none => rfl
        | some t => cases t <;> rfl
      rw [← e]
      exact k
    refine (tt_bind s en k').mono fun t H1 ⟨G1, m1, μ1, x1, s1, e1, k1⟩ => ?_
    cases t with
    | true => exact ⟨G1, m1, μ1, ρ, s1, e1, k1⟩
    | false => exact ⟨G1, m1, μ1, ρ, s1, e1, k1⟩
/-- and, or, not as tests: by PW -/
theorem st_not (ha : PT X a (tT (layOf X fs cls) W ea)) : PT X (.UnaryOp .Not a pos) (tT (layOf X fs cls) W fun ρ μ => (ea ρ μ).bind fun x μ1 => lift ((truR x).map fun k => .d (.bool (!k))) μ1) :=
  PT.weak (pt_not ha) fun σ H Q ⟨G, m, μ, ρ, s, en, k⟩ => by
    have k' : Kn (layOf X fs cls) (fun c d H' => W c d σ H') RelB G m H ((ea ρ μ).bind fun v μ1 => (lift (truR v) μ1).bind fun t μ2 => .ok (!t) μ2) Q := by
      have e : (((ea ρ μ).bind fun x μ1 => lift ((truR x).map fun k => RV.d (.bool (!k))) μ1).bind fun v μ1 => lift (truR v) μ1) = (ea ρ μ).bind fun v μ1 => (lift (truR v) μ1).bind fun t μ2 => .ok (!t) μ2 := by
        cases ea ρ μ with
        | ok v μ1 =>
          show ((lift ((truR v).map fun k => RV.d (.bool (!k))) μ1).bind fun v μ1 => lift (truR v) μ1) = (lift (truR v) μ1).bind fun t μ2 => .ok (!t) μ2
          cases truR v <;> rfl
        | ex _ _ _ => rfl
        | bad => rfl
      rw [← e]
      exact k
    exact (tt_bind s en k').mono fun t H1 ⟨G1, m1, μ1, x1, s1, e1, k1⟩ => k1.done s1 rfl
theorem bool_bind {α β : Type} (r : R α) (f : α → Sto → R RV) (g : RV → Sto → R β) : (r.bind f).bind g = r.bind fun x μ => (f x μ).bind g := by
  cases r <;> rfl
theorem sw_and {rest : List Expr} (ha : PT X a (tT (layOf X fs cls) W ea)) (hb : PW X (.BoolOp .And (b :: rest) pos) (tT (layOf X fs cls) W eb)) :
    PW X (.BoolOp .And (a :: b :: rest) pos) (tT (layOf X fs cls) W fun ρ μ => (ea ρ μ).bind fun x μ1 => match truR x with
      | some true => eb ρ μ1
      | some false => .ok x μ1
      | none => .bad) := by
  refine ⟨fun whole pins st σ H Q I h => (pw_and ha hb).run whole pins st σ H Q I ?_⟩
  obtain ⟨G, m, μ, ρ, s, en, k⟩ := h
  have k' : Kn (layOf X fs cls) (fun c d H' => W c d σ H') RelB G m H ((ea ρ μ).bind fun v μ1 => (lift (truR v) μ1).bind fun t μ2 => if t then (eb ρ μ2).bind fun v μ1 => lift (truR v) μ1 else .ok false μ2) Q := by
    have e : (((ea ρ μ).bind fun x μ1 => match truR x with | some true => eb ρ μ1 | some false => .ok x μ1 | none => .bad).bind fun v μ1 => lift (truR v) μ1) =
        (ea ρ μ).bind fun v μ1 => (lift (truR v) μ1).bind fun t μ2 => if t then (eb ρ μ2).bind fun v μ1 => lift (truR v) μ1 else .ok false μ2 := by
      rw [bool_bind]
      congr 1
      funext v μ1
      cases q : truR v with
      | none => rfl
      | some t =>
        cases t with
        | true => rfl
        | false =>
          show lift (truR v) μ1 = _
          rw [q]
          rfl
    rw [← e]
    exact k
  refine (tt_bind s en k').mono fun t H1 ⟨G1, m1, μ1, x1, s1, e1, k1⟩ => ?_
  cases t with
  | true => rw [if_pos rfl]; exact ⟨G1, m1, μ1, ρ, s1, e1, k1⟩
  | false => rw [if_neg Bool.false_ne_true]; exact k1.done s1 rfl
theorem sw_or {rest : List Expr} (ha : PT X a (tT (layOf X fs cls) W ea)) (hb : PW X (.BoolOp .Or (b :: rest) pos) (tT (layOf X fs cls) W eb)) :
    PW X (.BoolOp .Or (a :: b :: rest) pos) (tT (layOf X fs cls) W fun ρ μ => (ea ρ μ).bind fun x μ1 => match truR x with
      | some true => .ok x μ1
      | some false => eb ρ μ1
      | none => .bad) := by
  refine ⟨fun whole pins st σ H Q I h => (pw_or ha hb).run whole pins st σ H Q I ?_⟩
  obtain ⟨G, m, μ, ρ, s, en, k⟩ := h
  have k' : Kn (layOf X fs cls) (fun c d H' => W c d σ H') RelB G m H ((ea ρ μ).bind fun v μ1 => (lift (truR v) μ1).bind fun t μ2 => if t then .ok true μ2 else (eb ρ μ2).bind fun v μ1 => lift (truR v) μ1) Q := by
    have e : (((ea ρ μ).bind fun x μ1 => match truR x with | some true => .ok x μ1 | some false => eb ρ μ1 | none => .bad).bind fun v μ1 => lift (truR v) μ1) =
        (ea ρ μ).bind fun v μ1 => (lift (truR v) μ1).bind fun t μ2 => if t then .ok true μ2 else (eb ρ μ2).bind fun v μ1 => lift (truR v) μ1 := by
      rw [bool_bind]
      congr 1
      funext v μ1
      cases q : truR v with
      | none => rfl
      | some t =>
        cases t with
        | false => rfl
        | true =>
          show lift (truR v) μ1 = _
          rw [q]
          rfl
    rw [← e]
    exact k
  refine (tt_bind s en k').mono fun t H1 ⟨G1, m1, μ1, x1, s1, e1, k1⟩ => ?_
  cases t with
  | true => rw [if_pos rfl]; exact k1.done s1 rfl
  | false => rw [if_neg Bool.false_ne_true]; exact ⟨G1, m1, μ1, ρ, s1, e1, k1⟩
theorem sw_and1 (ha : PT X a (tT (layOf X fs cls) W ea)) : PW X (.BoolOp .And [a] pos) (tT (layOf X fs cls) W ea) := pw_and1 ha
theorem sw_or1 (ha : PT X a (tT (layOf X fs cls) W ea)) : PW X (.BoolOp .Or [a] pos) (tT (layOf X fs cls) W ea) := pw_or1 ha
end
end Pv
end

/-! text PvExpr2 -/
section
namespace Pv
open PySem L2
theorem rvs_length {K : PySem.W.Frag} {G : Hp} {m : List Addr} {vs : List RV} {xs : List V} (h : RVs K G m vs xs) : vs.length = xs.length := Paired.length h
/-- values that are all data trees -/
theorem rvs_pure {K : PySem.W.Frag} {G : Hp} {m : List Addr} : ∀ {vs : List RV} {xs : List V} {ds : List PyData}, RVs K G m vs xs → allBy pureR vs = some ds → RpAll K G xs ds ∧ vs = ds.map .d
  | [], _, _, .nil, h => by cases h; exact ⟨.nil, rfl⟩
  | v :: vs, _, ds, .cons a t, h => by
    cases v with
    | d x =>
      simp only [allBy, pureR] at h
      cases q : allBy pureR vs with
      | none => rw [q] at h; cases h
      | some ws =>
        rw [q] at h
        cases h
        obtain ⟨h1, h2⟩ := rvs_pure t q
        exact ⟨.cons (rvD a) h1, by rw [List.map_cons, ← h2]⟩
    | loc n => cases h
    | scr n => cases h
theorem allBy_length {α β : Type} {f : α → Option β} : ∀ {xs : List α} {ys : List β}, allBy f xs = some ys → ys.length = xs.length
  | [], _, h => by cases h; rfl
  | x :: xs, ys, h => by
    simp only [allBy] at h
    split at h
    · rename_i y ys' h1 h2
      cases h
      simp [allBy_length h2]
    · cases h
theorem rvs_d {K : PySem.W.Frag} {G : Hp} {m : List Addr} : ∀ {xs : List V} {ds : List PyData}, RpAll K G xs ds → RVs K G m (ds.map .d) xs
  | _, _, .nil => .nil
  | _, _, .cons a t => .cons (.d a) (rvs_d t)

theorem paired_get {α β : Type} {F : α → β → Prop} : ∀ {xs : List α} {ys : List β} {i : Nat} {x : α}, Paired F xs ys → xs[i]? = some x → ∃ y, ys[i]? = some y ∧ F x y
  | _, _, _, _, .nil, e => by simp at e
  | _, _, 0, _, .cons a _, e => by
    simp at e; subst e
    exact ⟨_, rfl, a⟩
  | _, _, i + 1, _, .cons _ t, e => by
    obtain ⟨v, h1, h2⟩ := paired_get (i := i) t (by simpa using e)
    exact ⟨v, by simpa using h1, h2⟩
section
variable {X : Cx} {fs : List Fn} {cls : List (Addr × List Str)} {W : WX} {a b c e : Expr} {es : List Expr} {ea eb ec : REnv → Sto → R RV} {eas : REnv → Sto → R (List RV)} {pos : Pos}
theorem s_nil : PA X [] (tVs (layOf X fs cls) W fun _ μ => .ok [] μ) := PA.weak pa_nil fun σ H Q ⟨G, m, μ, ρ, s, en, k⟩ => k.done s .nil
theorem s_cons (ha : PE X e (tV (layOf X fs cls) W ea)) (hr : PA X es (tVs (layOf X fs cls) W eas)) (hs : starEach (e :: es) X.env = (false, eval e X.env) :: starEach es X.env) :
    PA X (e :: es) (tVs (layOf X fs cls) W fun ρ μ => (ea ρ μ).bind fun v μ1 => (eas ρ μ1).bind fun vs μ2 => .ok (v :: vs) μ2) :=
  PA.weak (pa_cons ha hr hs) fun σ H Q ⟨G, m, μ, ρ, s, en, k⟩ => (tV_bind s en k).mono fun x H1 ⟨G1, m1, μ1, va, x1, s1, e1, r1, k1⟩ => (tVs_bind s1 e1 k1).mono fun xs H2 ⟨G2, m2, μ2, vs, x2, s2, e2, r2, k2⟩ =>
    k2.done s2 (.cons (r1.ext x2) r2)
theorem s_tup {k1 : Nat} (h : PA X es (tVs (layOf X fs cls) W eas)) : PE X (.Tuple es k1 pos) (tV (layOf X fs cls) W fun ρ μ => (eas ρ μ).bind fun vs μ1 => match allBy pureR vs with
    | some ds => if ds.length ≤ sizeLine then .ok (.d (.tuple ds)) μ1 else .bad
    | none => .bad) :=
  PE.weak (pe_tup h) fun σ H Q ⟨G, m, μ, ρ, s, en, k⟩ => (tVs_bind s en k).mono fun xs H1 ⟨G1, m1, μ1, vs, x1, s1, e1, r1, k1⟩ => by
    cases q : allBy pureR vs with
    | none => rw [q] at k1; exact k1.elim
    | some ds =>
      rw [q] at k1
      dsimp only at k1
      split at k1
      · rename_i hl
        obtain ⟨ra, rfl⟩ := rvs_pure r1 q
        refine ⟨by rw [rpAll_length ra]; exact hl, fun p hp => ?_⟩
        exact kn_ok k1 (.inr ⟨p, _, hp, rfl, rfl⟩) s1 (.d (rp_newT (s1.same.free hp) ra))
      · exact k1.elim
theorem s_lst (h : PA X es (tVs (layOf X fs cls) W eas)) : PE X (.List es pos) (tV (layOf X fs cls) W fun ρ μ => (eas ρ μ).bind fun vs μ1 => pureL vs μ1) :=
  PE.weak (pe_lst h) fun σ H Q ⟨G, m, μ, ρ, s, en, k⟩ => (tVs_bind s en k).mono fun xs H1 ⟨G1, m1, μ1, vs, x1, s1, e1, r1, k1⟩ => by
    unfold pureL at k1
    cases q : allBy pureR vs with
    | none => rw [q] at k1; exact k1.elim
    | some ds =>
      rw [q] at k1
      dsimp only at k1
      split at k1
      · rename_i hl
        obtain ⟨ra, rfl⟩ := rvs_pure r1 q
        refine ⟨by rw [rpAll_length ra]; exact hl, fun p hp => ?_⟩
        exact kn_ok k1 (.inr ⟨p, _, hp, rfl, rfl⟩) s1 (.d (rp_newL (s1.same.free hp) ra))
      · exact k1.elim

/-! ### subscripts -/
theorem atI_rp {K : PySem.W.Frag} {G : Hp} {vs : List V} {xs : List PyData} {i : Int} {x : PyData} (h : RpAll K G vs xs) (e : atI xs i = some x) : ∃ v, atI vs i = some v ∧ Rp K G v x := by
  unfold atI at e ⊢
  rw [rpAll_length h]
  cases q : ixN xs.length i with
  | none => rw [q] at e; cases e
  | some j =>
    rw [q] at e
    exact dpAll_get h e
theorem atI_rvs {K : PySem.W.Frag} {G : Hp} {m : List Addr} {vs : List RV} {xs : List V} {i : Int} {x : RV} (h : RVs K G m vs xs) (e : atI vs i = some x) : ∃ v, atI xs i = some v ∧ RVr K G m x v := by
  unfold atI at e ⊢
  rw [← rvs_length h]
  cases q : ixN vs.length i with
  | none => rw [q] at e; cases e
  | some j =>
    rw [q] at e
    exact paired_get h e
theorem s_idx (hs : PlainIx b) (ha : PE X a (tV (layOf X fs cls) W ea)) (hb : PE X b (tV (layOf X fs cls) W eb)) :
    PE X (.Subscript a b pos) (tV (layOf X fs cls) W fun ρ μ => (ea ρ μ).bind fun x μ1 => (eb ρ μ1).bind fun y μ2 => lift (idxS μ2 x y) μ2) :=
  PE.weak (pe_ix ix_seq ha hb hs) fun σ H Q ⟨G, m, μ, ρ, s, en, k⟩ => (tV_bind s en k).mono fun x H1 ⟨G1, m1, μ1, va, x1, s1, e1, r1, k1⟩ => (tV_bind s1 e1 k1).mono fun y H2 ⟨G2, m2, μ2, vb, x2, s2, e2, r2, k2⟩ => by
    obtain ⟨w, hw, k3⟩ := kn_lift k2
    have r1 := r1.ext x2
    cases r1 with
    | @d dx _ r1 =>
      cases r2 with
      | loc _ => cases hw
      | scr _ => cases hw
      | @d dy _ r2 =>
        have hw : (idxF dx dy).map RV.d = some w := hw
        cases q : idxF dx dy with
        | none => rw [q] at hw; cases hw
        | some z =>
          rw [q] at hw
          cases hw
          cases r2 with
          | int i =>
            cases r1 with
            | @lst p vs xs h1 h2 =>
              obtain ⟨v, h3, h4⟩ := atI_rp h2 q
              exact .inl ⟨p, vs, i, v, rfl, rfl, .inl (.inl (s2.same _ _ h1)), h3, k3.done s2 (.d h4)⟩
            | @tup p vs xs h1 h2 =>
              obtain ⟨v, h3, h4⟩ := atI_rp h2 q
              exact .inr (.inl ⟨p, vs, i, v, rfl, rfl, sqt_of s2.same h1, h3, k3.done s2 (.d h4)⟩)
            | str z =>
              simp only [idxF] at q
              split at q
              · rename_i hl
                cases q2 : atI z.cps.toList i with
                | none => rw [q2] at q; cases q
                | some c =>
                  rw [q2] at q
                  cases q
                  exact .inr (.inr ⟨z, i, c, rfl, rfl, hl, q2, k3.done s2 (.d (.str _))⟩)
              · cases q
            | _ => cases q
          | _ => cases r1 <;> cases q
    | @loc n ad hn =>
      cases r2 with
      | loc _ => cases hw
      | scr _ => cases hw
      | d r2 =>
        cases r2 with
        | int i =>
          simp only [idxS] at hw
          cases q : μ2[n]? with
          | none => rw [q] at hw; cases hw
          | some ob =>
            rw [q] at hw
            cases ob with
            | lst xs =>
              obtain ⟨ho, h1, h2⟩ := s2.obs _ _ _ hn q
              cases ho <;> first | exact h2.elim | skip
              obtain ⟨v, h3, h4⟩ := atI_rvs h2 hw
              exact .inl ⟨ad, _, i, v, rfl, rfl, .inl (.inl h1), h3, k3.done s2 h4⟩
            | dict _ => cases hw
        | _ => cases hw
    | @scr ns ad hn =>
      cases r2 with
      | loc _ => cases hw
      | scr _ => cases hw
      | d r2 =>
        cases r2 with
        | int i =>
          have hw : (atI ns i).map (fun z => RV.d (.int z)) = some w := hw
          cases q : atI ns i with
          | none => rw [q] at hw; cases hw
          | some z =>
            rw [q] at hw
            cases hw
            refine .inl ⟨ad, ns.map V.int, i, .int z, rfl, rfl, s2.same.seq hn, ?_, k3.done s2 (.d (.int _))⟩
            unfold atI at q ⊢
            rw [List.length_map]
            cases q2 : ixN ns.length i with
            | none => rw [q2] at q; cases q
            | some j =>
              rw [q2] at q
              have q : ns[j]? = some z := q
              show (ns.map V.int)[j]? = _
              rw [List.getElem?_map, q]
              rfl
        | _ => cases hw

/-! ### slices -/
def tVO (L : Lay) (W : WX) (ev : REnv → Sto → R (Option Int)) : TO := fun σ H Q => ∃ G m μ ρ, Sok L.K G m μ H ∧ Eok L.K L.lk G m H ρ σ ∧ Kn L (fun c d H' => W c d σ H') (fun _ _ a b => a = b) G m H (ev ρ μ) Q
theorem PO.weak {X : Cx} {e : Option Expr} {t t' : TO} (h : PO X e t) (k : ∀ σ H Q, t' σ H Q → t σ H Q) : PO X e t' := ⟨fun pins s σ H Q I q => h.run pins s σ H Q I (k _ _ _ q)⟩
theorem so_none : PO X none (tVO (layOf X fs cls) W fun _ μ => .ok none μ) := PO.weak po_none fun σ H Q ⟨G, m, μ, ρ, s, en, k⟩ => k.done s rfl
theorem so_some (ha : PE X a (tV (layOf X fs cls) W ea)) : PO X (some a) (tVO (layOf X fs cls) W fun ρ μ => (ea ρ μ).bind fun v μ1 => match v with
    | .d (.int i) => .ok (some i) μ1
    | _ => .bad) :=
  PO.weak (po_some ha) fun σ H Q ⟨G, m, μ, ρ, s, en, k⟩ => (tV_bind s en k).mono fun x H1 ⟨G1, m1, μ1, va, x1, s1, e1, r1, k1⟩ => by
    split at k1
    · rename_i i
      cases rvD r1
      exact ⟨i, rfl, k1.done s1 rfl⟩
    · exact k1.elim
theorem tVO_bind {α β : Type} {L : Lay} {Rel2 : Hp → List Addr → α → β → Prop} {G H : Hp} {m : List Addr} {μ : Sto} {ρ : REnv} {σ : St} {ev : REnv → Sto → R (Option Int)} {f : Option Int → Sto → R α} {Q2 : β → Hp → Prop}
    (s : Sok L.K G m μ H) (e : Eok L.K L.lk G m H ρ σ) (h : Kn L (fun c d H' => W c d σ H') Rel2 G m H ((ev ρ μ).bind f) Q2) :
    tVO L W ev σ H fun b H1 => ∃ G1 m1 μ1, Ext G m H G1 m1 H1 ∧ Sok L.K G1 m1 μ1 H1 ∧ Eok L.K L.lk G1 m1 H1 ρ σ ∧ Kn L (fun c d H' => W c d σ H') Rel2 G1 m1 H1 (f b μ1) Q2 :=
  ⟨G, m, μ, ρ, s, e, (Kn.bind (Rel := fun _ _ a b => a = b) h).mono fun _ _ ⟨G1, m1, μ1, a, x, y, z, k⟩ => by
    have z : a = _ := z
    subst z
    exact ⟨G1, m1, μ1, x, y, e.ext x, k⟩⟩
theorem tVO.mono {L : Lay} {ev : REnv → Sto → R (Option Int)} {σ : St} {H : Hp} {Q Q' : Option Int → Hp → Prop} (h : tVO L W ev σ H Q) (k : ∀ b H', Q b H' → Q' b H') : tVO L W ev σ H Q' := by
  obtain ⟨G, m, μ, ρ, s, e, z⟩ := h
  exact ⟨G, m, μ, ρ, s, e, z.mono k⟩
theorem cutD_rp {K : PySem.W.Frag} {G : Hp} {vs : List V} {xs : List PyData} {lo hi : Option Int} (h : RpAll K G vs xs) : RpAll K G (cutV vs lo hi) (cutD xs lo hi) := by
  unfold cutV cutD
  rw [rpAll_length h]
  exact dpAll_take _ (dpAll_drop _ h)
theorem cut_whole {α : Type} {xs : List α} {lo hi : Option Int} (h : HT.sIx xs.length 0 lo = 0 ∧ HT.sIx xs.length xs.length hi = xs.length) : cutD xs lo hi = xs := by
  unfold cutD
  rw [h.1, h.2]
  simp
theorem rp_ints {K : PySem.W.Frag} {G : Hp} : ∀ ns : List Int, RpAll K G (ns.map V.int) (ns.map .int)
  | [] => .nil
  | n :: ns => .cons (.int n) (rp_ints ns)
theorem s_sli {lo hi : Option Expr} {el eh : REnv → Sto → R (Option Int)} {p2 : Pos} (ha : PE X a (tV (layOf X fs cls) W ea)) (hl : PO X lo (tVO (layOf X fs cls) W el)) (hh : PO X hi (tVO (layOf X fs cls) W eh)) :
    PE X (.Subscript a (.Slice lo hi none p2) pos) (tV (layOf X fs cls) W fun ρ μ => (ea ρ μ).bind fun x μ1 => (el ρ μ1).bind fun l μ2 => (eh ρ μ2).bind fun h μ3 => lift (sliR l h x) μ3) :=
  PE.weak (pe_slice (SlR.or (SlR.or sl_list sl_tupA) sl_str) ha hl hh) fun σ H Q ⟨G, m, μ, ρ, s, en, k⟩ => (tV_bind s en k).mono fun x H1 ⟨G1, m1, μ1, va, x1, s1, e1, r1, k1⟩ =>
    (tVO_bind s1 e1 k1).mono fun l H2 ⟨G2, m2, μ2, x2, s2, e2, k2⟩ => (tVO_bind s2 e2 k2).mono fun h H3 ⟨G3, m3, μ3, x3, s3, e3, k3⟩ => by
      obtain ⟨w, hw, k4⟩ := kn_lift k3
      have r1 := (r1.ext x2).ext x3
      cases r1 with
      | loc _ => cases hw
      | @d dx _ r1 =>
        have hw : (sliF l h dx).map RV.d = some w := hw
        cases q : sliF l h dx with
        | none => rw [q] at hw; cases hw
        | some z =>
          rw [q] at hw
          cases hw
          cases r1 with
          | @lst p vs xs h1 h2 =>
            cases q
            exact .inl (.inl ⟨p, vs, rfl, .inl (.inl (s3.same _ _ h1)), fun p hp => kn_ok k4 (.inr ⟨p, _, hp, rfl, rfl⟩) s3 (.d (rp_newL (s3.same.free hp) (cutD_rp h2)))⟩)
          | @tup p vs xs h1 h2 =>
            cases q
            refine .inl (.inr ⟨p, vs, rfl, sqt_of s3.same h1, fun e => ?_, fun _ p hp => kn_ok k4 (.inr ⟨p, _, hp, rfl, rfl⟩) s3 (.d (rp_newT (s3.same.free hp) (cutD_rp h2)))⟩)
            rw [rpAll_length h2] at e
            rw [cut_whole e] at k4
            exact k4.done s3 (.d (.tup h1 h2))
          | str z =>
            simp only [sliF] at q
            split at q
            · rename_i hl
              cases q
              exact .inr ⟨z, rfl, hl, k4.done s3 (.d (.str _))⟩
            · cases q
          | _ => cases q
      | @scr ns ad hn =>
        cases hw
        refine .inl (.inl ⟨ad, _, rfl, s3.same.seq hn, fun p hp => kn_ok k4 (.inr ⟨p, _, hp, rfl, rfl⟩) s3 (.d (rp_newL (s3.same.free hp) ?_))⟩)
        have e : cutV (ns.map V.int) l h = (cutD ns l h).map V.int := by
          unfold cutV cutD
          rw [List.length_map, List.map_take, List.map_drop]
        rw [e]
        exact rp_ints _
end
end Pv
end

/-! text PvCall -/
section
namespace Pv
open PySem L2 PySem.Spec PyProof.Rows
/-- a def's promise: what the evaluator's call says -/
def spF (L : Lay) (c : CallF) (f : Nat) (many : Nat) : Sp := fun vs H Q E => vs.length = many ∧ ∃ G m μ rs, Sok L.K G m μ H ∧ RVs L.K G m rs vs ∧ Kn L (fun cl d H' => E cl d H') (RelV' L) G m H (c f rs μ) Q
/-- a def keeps its promise where nothing is being written by repr around it (as FnOk of the layer, with that premise) -/
structure FnG (P : Program) (w : World) (K : PySem.W.Frag) (mg : Str → Option Value) (base : Heap) (CX : CXT) (k : Nat) (f : Addr) (fd : FuncData) (ps : List Str) (sp : Sp) : Prop where
  len : ∀ vs H Q E, sp vs H Q E → vs.length = ps.length
  run : ∀ (B : Around) (fr : List PySem.Env) (st : Shared) (H : Hp) (ar : Args) (ws : List Value) (vs : List V) (Q : VK) (E : XK), Room k B → B.guards = some [] → Env0 P w K mg base B fr st H → BindsTo st fd ar (ps.zip ws) → Vals vs ws → sp vs H Q E →
    codeAny (model P w) B (.call (.ref f) ar) (CR CX fr P w H st Q E) st
theorem FnG.mono {P : Program} {w : World} {K : PySem.W.Frag} {mg : Str → Option Value} {base : Heap} {CX : CXT} {j k : Nat} {f : Addr} {fd : FuncData} {ps : List Str} {sp : Sp} (F : FnG P w K mg base CX j f fd ps sp) (h : j ≤ k) :
    FnG P w K mg base CX k f fd ps sp := ⟨F.len, fun B fr st H ar ws vs Q E rm => F.run B fr st H ar ws vs Q E (rm.mono h)⟩
section
variable {X : Cx} {CX : CXT} {k : Nat} {f : Addr} {fd : FuncData} {ps : List Str} {sp : Sp} {W : WX}
/-- a callee's end is the call's end -/
theorem endG {pins : List (Addr × Obj)} {σ : L2.St} {H : Hp} {st : Shared} {Q : VK} (tk : Takes X W) (I : Inv X pins σ H st) {rs : Result} {s' : Shared} (h : CR (L2.CX X.prog X.w) X.stack X.prog X.w H st Q (WE W σ) rs s') :
    match rs with
    | .ok (.ret u) => EP X pins σ Q u s'
    | .ok _ => False
    | .error e => X.xe e s' := by
  cases rs with
  | error er => exact passAt tk σ pins H st er s' I h
  | ok fl => cases fl <;> first | exact I.after h | exact h
theorem callG {pins : List (Addr × Obj)} {σ : L2.St} {H : Hp} {st : Shared} {Q : VK} {ar : Args} {ws : List Value} {vs : List V} (F : FnG X.prog X.w X.K X.mg X.base (L2.CX X.prog X.w) k f fd ps sp) (rm : Room k X.A) (gd : X.A.guards = some []) (tk : Takes X W)
    (I : Inv X pins σ H st) (bd : BindsTo st fd ar (ps.zip ws)) (r : Vals vs ws) (h : sp vs H Q (WE W σ)) : wpAny (model X.prog X.w) X.A (call (.ref f) ar.pos ar.kw) (EP X pins σ Q) X.xe st := by
  refine wpAny_call (codeAny_mono (F.run X.A X.stack st H ar ws vs Q (WE W σ) rm gd I.env0 bd r h) fun rs s' hq => ?_)
  have q := endG tk I hq
  cases rs with
  | error er => exact q
  | ok fl => cases fl <;> first | exact q | exact q.elim
end
/-- THE RULE for a def, by its body -/
theorem fnG_of {CX : CXT} {P : Program} {w : World} {K : PySem.W.Frag} {mg : Str → Option Value} {base : Heap} {k : Nat} {f : Addr} {x qual : Str} {prm : Arguments} {body : List Stmt} {sc : Scope} {dV kV doc pm cdv ct oc : Value} {an od : Option Addr}
    {osl : Array (Option Value)} {N ps : List Str} {sp : Sp} (at_ : K.lookup f = some ⟨oc, od, .func (PySem.W.fnOf x qual prm body sc dV kV doc pm an cdv ct), osl⟩) (code : PySem.W.codeIn K cdv qual = true) (S : FnScope N ps sc)
    (len : ∀ vs H Q E, sp vs H Q E → vs.length = ps.length)
    (walk : ∀ (B : Around) (fr : List PySem.Env) (st : Shared) (H : Hp) (vs : List V) (Q : VK) (E : XK), Room k (B.deeper (envOfC qual sc st.heap.objs.size f cdv)) → (B.deeper (envOfC qual sc st.heap.objs.size f cdv)).guards = some [] → sp vs H Q E →
      ∃ t, PSs (cxOf CX P w K mg base N qual sc f cdv B fr st H E) body t ∧ t { nx := fun _ H' => Q .non H', rt := Q } (start N vs) H) :
    FnG P w K mg base CX (k + 1) f (PySem.W.fnOf x qual prm body sc dV kV doc pm an cdv ct) ps sp := by
  refine ⟨len, fun B fr st H ar ws vs Q E rm gd e0 bd rv hsp => ?_⟩
  have many := len _ _ _ _ hsp
  have kst : K.In st.heap := e0.mod.kin.keeps fun b o e => (e0.bs b o e).1
  have free : st.heap.NoLimit := e0.mod.nolimit.keeps fun b o e => (e0.bs b o e).1
  have kinds : ∀ y ∈ ps.zip ws, sc.names.lookup y.1 = some .local ∨ (sc.names.lookup y.1 = some .cell ∧ ((cellsFrom (st.heap.objs.size + 1) sc.names []).lookup y.1).isSome = true) := by
    rintro ⟨n, v⟩ hy
    rcases S.par n (List.of_mem_zip hy).1 with q | q
    · exact .inl q
    · exact .inr ⟨q, PySem.W.cellsFrom_some _ _ _ (.inl q)⟩
  refine codeAny_call_function rm.depth (kst _ _ at_) rfl S.co S.gen rfl (PySem.W.codeRec_of kst code) (bd _ _ _ _ ?_)
  refine wpAny_newFunctionEnv_cells S.kind kinds fun env he st1 z => ?_
  subst he
  refine ⟨free.keeps z.toInCall.keep, codeAny_func ?_⟩
  obtain ⟨t, ht, hq⟩ := walk B fr st H vs Q E (rm.deeper _) gd hsp
  have J : Inv (cxOf CX P w K mg base N qual sc f cdv B fr st H E) [] (start N vs) H st1 := inv_start S rm.hd e0 many rv z
  refine wpAny_mono (ht.run [] st1 (start N vs) H _ J hq) (fun fl s' hs => ?_) fun e s' hs => hs
  cases fl with
  | ret u =>
    obtain ⟨v, σ', H', I, r, q⟩ := hs
    exact ⟨v, H', I.os, I.bare, I.base, I.hok, r, q⟩
  | next =>
    obtain ⟨σ', H', I, q⟩ := hs
    exact ⟨V.non, H', I.os, I.bare, I.base, I.hok, rfl, q⟩
  | brk =>
    obtain ⟨_, _, _, q⟩ := hs
    exact q.elim
  | cont =>
    obtain ⟨_, _, _, q⟩ := hs
    exact q.elim
/-- the def f stands, with the promise that c says of it -/
structure FnS (L : Lay) (c : CallF) (lev : Nat) (f : Nat) (fn : Fn) (a : Addr) (fd : FuncData) : Prop where
  ok : FnG L.P L.w L.K L.mg L.base (L2.CX L.P L.w) lev a fd fn.ps (spF L c f fn.ps.length)
  at_ : L.mg fn.name = some (.ref a)
  kp : PySem.W.keepIn L.K (.ref a) = true
  bd : Binds L.K fd fn.ps []
/-- a call with another number of arguments says nothing -/
def LenOk (c : CallF) (f : Nat) (n : Nat) : Prop := ∀ rs μ, rs.length ≠ n → c f rs μ = .bad
section
variable {X : Cx} {fs : List Fn} {cls : List (Addr × List Str)} {W : WX} {e : Expr} {es : List Expr} {eas : REnv → Sto → R (List RV)} {pos p : Pos} {c : CallF} {lev f : Nat} {fn : Fn} {ad : Addr} {fd : FuncData} {x : Str}
theorem spF_of {vs : List V} {H : Hp} {Q : VK} {E : XK} {G : Hp} {m : List Addr} {μ : Sto} {rs : List RV} {n : Nat} {L : Lay} (hl : LenOk c f n) (s : Sok L.K G m μ H) (r : RVs L.K G m rs vs)
    (k : Kn L (fun cl d H' => E cl d H') (RelV' L) G m H (c f rs μ) Q) : spF L c f n vs H Q E := by
  refine ⟨?_, G, m, μ, rs, s, r, k⟩
  rw [← rvs_length r]
  by_cases q : rs.length = n
  · exact q
  · rw [hl rs μ q] at k
    exact k.elim
/-- without keywords, all given -/
theorem bindG {st : Shared} {K : PySem.W.Frag} {ps : List Str} (bd : Binds K fd ps []) (h : K.In st.heap) {ws : List Value} (hl : ws.length = ps.length) : BindsTo st fd ⟨ws, []⟩ (ps.zip ws) := by
  have b := bd st ws h (by rw [List.append_nil]; exact hl)
  rw [List.append_nil] at b
  exact b
theorem s_call (F : FnS (layOf X fs cls) c lev f fn ad fd) (hl : LenOk c f fn.ps.length) (hr : Room lev X.A) (gd : X.A.guards = some []) (hx : x = fn.name) (hg : Gl X x) (tk : Takes X W) (ha : PA X (e :: es) (tVs (layOf X fs cls) W eas)) (hdb : (x == ("__debug__" : Str)) = false)
    (he : starEach (e :: es) X.env = (false, eval e X.env) :: starEach es X.env) (hpl : (backTo pos (starEach es X.env)).any (·.1) = false) :
    PE X (.Call (.Name x p) (e :: es) [] pos) (tV (layOf X fs cls) W fun ρ μ => (eas ρ μ).bind fun vs μ1 => c f vs μ1) := by
  subst hx
  refine ⟨fun pins st σ H Q I ⟨G, m, μ, ρ, s, en, k⟩ => ?_⟩
  refine wpAny_Call_Name_kw (ld_glob I hg F.at_ ?_ hdb)
  refine PySem.W.callWith_K (h₀ := X.base) I.ok.mod.kin F.kp (thn (ha.run pos pins st σ H _ I (tVs_bind s en k)) fun us s1 ⟨vs, H1, I1, r, G1, m1, μ1, rs, x1, s2, e1, r1, k1⟩ => ⟨I1.kIn, ?_⟩) he hpl
  have hsp := spF_of hl s2 r1 k1
  exact callG (ar := ⟨us, []⟩) F.ok hr gd tk I1 (bindG F.bd I1.kIn (by rw [← r.length]; exact F.ok.len _ _ _ _ hsp)) r hsp
theorem s_call0 (F : FnS (layOf X fs cls) c lev f fn ad fd) (hl : LenOk c f fn.ps.length) (hr : Room lev X.A) (gd : X.A.guards = some []) (hx : x = fn.name) (hg : Gl X x) (tk : Takes X W) (hdb : (x == ("__debug__" : Str)) = false) :
    PE X (.Call (.Name x p) [] [] pos) (tV (layOf X fs cls) W fun ρ μ => (R.ok [] μ : R (List RV)).bind fun vs μ1 => c f vs μ1) := by
  subst hx
  refine ⟨fun pins st σ H Q I ⟨G, m, μ, ρ, s, en, k⟩ => ?_⟩
  refine wpAny_Call_Name_kw (ld_glob I hg F.at_ ?_ hdb)
  have hsp := spF_of hl s .nil k
  exact PySem.W.callWith_K0 I.kIn F.kp (callG (ar := ⟨[], []⟩) (ws := []) (vs := []) F.ok hr gd tk I (bindG F.bd I.kIn (F.ok.len _ _ _ _ hsp)) .nil hsp)
/-! ### keywords -/
/-- how keywords bind, by a permutation -/
def permG {α : Type} (perm : List Nat) (ws : List α) : List α := perm.filterMap fun j => ws[j]?
theorem permG_rel {perm : List Nat} {zs : List V} {ws : List Value} (h : Vals zs ws) : Vals (permG perm zs) (permG perm ws) := by
  unfold permG
  induction perm with
  | nil => exact .nil
  | cons j r ih =>
    cases q : zs[j]? with
    | none =>
      have q2 := h.none_of q
      simp only [List.filterMap_cons, q, q2]
      exact ih
    | some x =>
      obtain ⟨u, h3, h4⟩ := h.get q
      simp only [List.filterMap_cons, q, h3]
      exact .cons h4 ih
theorem permG_rvs {K : PySem.W.Frag} {G : Hp} {m : List Addr} {ts : List RV} {zs : List V} : ∀ {perm : List Nat} {us : List RV}, RVs K G m ts zs → allBy (fun j => ts[j]?) perm = some us → RVs K G m us (permG perm zs)
  | [], us, _, h => by cases h; exact .nil
  | j :: r, us, h2, h => by
    simp only [allBy] at h
    cases q : ts[j]? with
    | none => rw [q] at h; cases h
    | some v =>
      rw [q] at h
      cases q2 : allBy (fun j => ts[j]?) r with
      | none => rw [q2] at h; cases h
      | some ws =>
        rw [q2] at h
        cases h
        obtain ⟨y, h3, h4⟩ := paired_get h2 q
        unfold permG
        simp only [List.filterMap_cons, h3]
        exact .cons h4 (permG_rvs h2 q2)
theorem sk_nil : PK X [] (tVs (layOf X fs cls) W fun _ μ => .ok [] μ) := ⟨fun pos pins st σ H Q I ⟨G, m, μ, ρ, s, en, k⟩ => pk_nil.run pos pins st σ H Q I (k.done s .nil)⟩
theorem sk_cons {kws : List Keyword} {nm : Option Str} {kpos : Pos} {ea : REnv → Sto → R RV} (ha : PE X e (tV (layOf X fs cls) W ea)) (hr : PK X kws (tVs (layOf X fs cls) W eas)) :
    PK X (⟨nm, e, kpos⟩ :: kws) (tVs (layOf X fs cls) W fun ρ μ => (ea ρ μ).bind fun v μ1 => (eas ρ μ1).bind fun vs μ2 => .ok (v :: vs) μ2) :=
  ⟨fun pos pins st σ H Q I ⟨G, m, μ, ρ, s, en, k⟩ => (pk_cons ha hr).run pos pins st σ H Q I ((tV_bind s en k).mono fun x H1 ⟨G1, m1, μ1, va, x1, s1, e1, r1, k1⟩ => (tVs_bind s1 e1 k1).mono fun xs H2 ⟨G2, m2, μ2, vs, x2, s2, e2, r2, k2⟩ =>
    k2.done s2 (.cons (r1.ext x2) r2))⟩
/-- how the keywords ks of a call bind, in the parameters' order by perm -/
def KB (K : PySem.W.Frag) (fd : FuncData) (ps ks : List Str) (perm : List Nat) : Prop := ∀ (s : Shared) (ws : List Value), K.In s.heap → (permG perm ws).length = ps.length → BindsTo s fd ⟨[], ks.zip ws⟩ (ps.zip (permG perm ws))
theorem s_callK {kws : List Keyword} {ks : List Str} {perm : List Nat} (F : FnS (layOf X fs cls) c lev f fn ad fd) (hl : LenOk c f fn.ps.length) (hr : Room lev X.A) (gd : X.A.guards = some []) (hx : x = fn.name) (hg : Gl X x) (tk : Takes X W) (hkw : PK X kws (tVs (layOf X fs cls) W eas)) (hb : KB X.K fd fn.ps ks perm)
    (hall : (backToKw pos (keywordEach kws X.env)).all (·.1.isSome) = true) (hks : (backToKw pos (keywordEach kws X.env)).filterMap (·.1) = ks) (hdb : (x == ("__debug__" : Str)) = false)
    (hpl : ((backTo pos (starEach [] X.env)).any (·.1) || (backToKw pos (keywordEach kws X.env)).any (·.1.isNone)) = false) :
    PE X (.Call (.Name x p) [] kws pos) (tV (layOf X fs cls) W fun ρ μ => (eas ρ μ).bind fun ws μ1 => match allBy (fun j => ws[j]?) perm with
      | some us => c f us μ1
      | none => .bad) := by
  subst hx
  refine ⟨fun pins st σ H Q I ⟨G, m, μ, ρ, s, en, k⟩ => ?_⟩
  refine wpAny_Call_Name_kw (ld_glob I hg F.at_ ?_ hdb)
  refine PySem.W.callWith_KW0 (h₀ := X.base) I.ok.mod.kin F.kp hall (thn (hkw.run pos pins st σ H _ I (tVs_bind s en k)) fun ws s2 ⟨zs, H2, I2, rz, G1, m1, μ1, vs, x1, s1, e1, r1, k1⟩ => ⟨I2.kIn, ?_⟩) hpl
  rw [hks]
  cases q : allBy (fun j => vs[j]?) perm with
  | none => rw [q] at k1; exact k1.elim
  | some us =>
    rw [q] at k1
    have hsp := spF_of hl s1 (permG_rvs r1 q) k1
    have rv := permG_rel (perm := perm) rz
    have ln : (permG perm ws).length = fn.ps.length := by rw [← rv.length]; exact F.ok.len _ _ _ _ hsp
    exact callG (ar := ⟨[], ks.zip ws⟩) F.ok hr gd tk I2 (hb s2 ws I2.kIn ln) rv hsp
end
end Pv
end

/-! text PvBi -/
section
/-! Pv, part 5: what is built in. -/
namespace Pv
open PySem L2
/-- a built-in function by values, as biD says -/
def rBi (K : PySem.W.Frag) (b : Bi) : List V → Hp → VK → Prop := fun xs H Q => ∃ G ds dz, Same G H ∧ RpAll K G xs ds ∧ biD b ds = some dz ∧ ∀ G' H' z, New1 G H G' H' → Rp K G' z dz → Q z H'
/-- a method -/
def rMt (K : PySem.W.Frag) (b : Bi) : V → List V → Hp → VK → Prop := fun x xs H Q => rBi K b (x :: xs) H Q
section
variable {X : Cx}
theorem rp1 {K : PySem.W.Frag} {G : Hp} {xs : List V} {x : PyData} (h : RpAll K G xs [x]) : ∃ v, xs = [v] ∧ Rp K G v x := by
  cases h with
  | cons a t => cases t; exact ⟨_, rfl, a⟩
theorem rp2 {K : PySem.W.Frag} {G : Hp} {xs : List V} {x y : PyData} (h : RpAll K G xs [x, y]) : ∃ v w, xs = [v, w] ∧ Rp K G v x ∧ Rp K G w y := by
  cases h with
  | cons a t =>
    obtain ⟨w, rfl, r⟩ := rp1 t
    exact ⟨_, w, rfl, a, r⟩
theorem bi1 {b : Bi} {f : PyData → Option PyData} (hb : ∀ ds, biD b ds = match ds with | [x] => f x | _ => none) {ds : List PyData} {dz : PyData} (h : biD b ds = some dz) : ∃ x, ds = [x] ∧ f x = some dz := by
  rw [hb] at h
  split at h
  · exact ⟨_, rfl, h⟩
  · cases h
theorem map_some {α β : Type} {o : Option α} {f : α → β} {z : β} (h : o.map f = some z) : ∃ a, o = some a ∧ f a = z := by
  cases o with
  | none => cases h
  | some a => exact ⟨a, rfl, by cases h; rfl⟩
theorem biLen {ds : List PyData} {dz : PyData} (h : biD .len ds = some dz) : ∃ x n, ds = [x] ∧ lenD x = some n ∧ dz = .int n := by
  match ds, h with
  | [x], h =>
    obtain ⟨n, h1, h2⟩ := map_some (show (lenD x).map .int = some dz from h)
    exact ⟨x, n, rfl, h1, h2.symm⟩
theorem bLen : CallR X (.builtin "len") (rBi X.K .len) := by
  intro pins s σ H xs us Q I rv ⟨G, ds, dz, sg, h1, hf, k⟩
  obtain ⟨x, n, rfl, h2, rfl⟩ := biLen hf
  obtain ⟨v, rfl, rv'⟩ := rp1 h1
  cases rv' with
  | @lst p vs ws a1 a2 =>
    cases h2
    refine call_len_seq pins s σ H _ us Q I rv ⟨p, vs, rfl, .inl (.inl (.inl (sg _ _ a1))), ?_⟩
    rw [rpAll_length a2]
    exact k G H _ New1.refl (.int _)
  | @tup p vs ws a1 a2 =>
    cases h2
    refine call_len_seq pins s σ H _ us Q I rv ⟨p, vs, rfl, .inr (sqt_of sg a1), ?_⟩
    rw [rpAll_length a2]
    exact k G H _ New1.refl (.int _)
  | str z =>
    simp only [lenD] at h2
    split at h2
    · rename_i hl
      cases h2
      exact call_len_str pins s σ H _ us Q I rv ⟨z, rfl, hl, k G H _ New1.refl (.int _)⟩
    · cases h2
  | _ => cases h2
theorem biSeq {b : Bi} {g : List PyData → PyData} (hb : ∀ x, biD b [x] = (asSeq x).map g) (hn : ∀ ds, ds.length ≠ 1 → biD b ds = none) {ds : List PyData} {dz : PyData} (h : biD b ds = some dz) :
    ∃ xs, (ds = [.list xs] ∨ ds = [.tuple xs]) ∧ dz = g xs := by
  by_cases hl : ds.length = 1
  · obtain ⟨x, rfl⟩ := List.length_eq_one_iff.mp hl
    rw [hb] at h
    obtain ⟨xs, h1, h2⟩ := map_some h
    refine ⟨xs, ?_, h2.symm⟩
    cases x <;> cases h1
    · exact .inl rfl
    · exact .inr rfl
  · rw [hn ds hl] at h; cases h
theorem bTuple : CallR X (.type "tuple") (rBi X.K .tuple) := by
  intro pins s σ H xs us Q I rv ⟨G, ds, dz, sg, h1, hf, k⟩
  obtain ⟨ys, h2, rfl⟩ := biSeq (b := .tuple) (g := .tuple) (fun _ => rfl) (fun ds hl => by
    match ds, hl with
    | [], _ => rfl
    | _ :: _ :: _, _ => rfl
    | [_], hl => exact absurd rfl hl) hf
  rcases h2 with rfl | rfl
  · obtain ⟨v, rfl, rv'⟩ := rp1 h1
    cases rv' with
    | @lst p vs ws a1 a2 =>
      exact call_tuple_of pins s σ H _ us Q I rv ⟨p, vs, rfl, .inl ⟨.inl (.inl (sg _ _ a1)), fun l hl => k (upd G l _) _ _ (.inr ⟨l, _, hl, rfl, rfl⟩) (rp_newT (sg.free hl) a2)⟩⟩
  · obtain ⟨v, rfl, rv'⟩ := rp1 h1
    cases rv' with
    | @tup p vs ws a1 a2 => exact call_tuple_of pins s σ H _ us Q I rv ⟨p, vs, rfl, .inr ⟨sqt_of sg a1, k G H _ New1.refl (.tup a1 a2)⟩⟩
theorem bList : CallR X (.type "list") (rBi X.K .list) := by
  intro pins s σ H xs us Q I rv ⟨G, ds, dz, sg, h1, hf, k⟩
  obtain ⟨ys, h2, rfl⟩ := biSeq (b := .list) (g := .list) (fun _ => rfl) (fun ds hl => by
    match ds, hl with
    | [], _ => rfl
    | _ :: _ :: _, _ => rfl
    | [_], hl => exact absurd rfl hl) hf
  rcases h2 with rfl | rfl
  · obtain ⟨v, rfl, rv'⟩ := rp1 h1
    cases rv' with
    | @lst p vs ws a1 a2 =>
      exact call_list_of pins s σ H _ us Q I rv ⟨p, vs, rfl, .inl (.inl (.inl (sg _ _ a1))), fun l hl => k (upd G l _) _ _ (.inr ⟨l, _, hl, rfl, rfl⟩) (rp_newL (sg.free hl) a2)⟩
  · obtain ⟨v, rfl, rv'⟩ := rp1 h1
    cases rv' with
    | @tup p vs ws a1 a2 =>
      exact call_list_of pins s σ H _ us Q I rv ⟨p, vs, rfl, .inr (sqt_of sg a1), fun l hl => k (upd G l _) _ _ (.inr ⟨l, _, hl, rfl, rfl⟩) (rp_newL (sg.free hl) a2)⟩
theorem bi_one {b : Bi} {ds : List PyData} {dz : PyData} (hn : ∀ ds, ds.length ≠ 1 → biD b ds = none) (h : biD b ds = some dz) : ∃ x, ds = [x] ∧ biD b [x] = some dz := by
  by_cases hl : ds.length = 1
  · obtain ⟨x, rfl⟩ := List.length_eq_one_iff.mp hl
    exact ⟨x, rfl, h⟩
  · rw [hn ds hl] at h; cases h
theorem bInt : CallR X (.type "int") (rBi X.K .int) := by
  intro pins s σ H xs us Q I rv ⟨G, ds, dz, sg, h1, hf, k⟩
  obtain ⟨x, rfl, hf⟩ := bi_one (fun ds hl => by
    match ds, hl with
    | [], _ => rfl
    | _ :: _ :: _, _ => rfl
    | [_], hl => exact absurd rfl hl) hf
  obtain ⟨v, rfl, rv'⟩ := rp1 h1
  obtain ⟨n, h2, rfl⟩ := map_some (show (intOf x).map .int = some dz from hf)
  cases rv' with
  | int i => cases h2; exact call_int1 pins s σ H _ us Q I rv (.inl ⟨_, rfl, k G H _ New1.refl (.int _)⟩)
  | bl i => cases h2; exact call_int1 pins s σ H _ us Q I rv (.inr ⟨i, rfl, k G H _ New1.refl (.int _)⟩)
  | str a =>
    simp only [intOf] at h2
    split at h2
    · rename_i hl
      exact call_int_str pins s σ H _ us Q I rv ⟨a, n, rfl, h2, hl, k G H _ New1.refl (.int _)⟩
    · cases h2
  | _ => cases h2
theorem bStr : CallR X (.type "str") (rBi X.K .str) := by
  intro pins s σ H xs us Q I rv ⟨G, ds, dz, sg, h1, hf, k⟩
  obtain ⟨x, rfl, hf⟩ := bi_one (fun ds hl => by
    match ds, hl with
    | [], _ => rfl
    | _ :: _ :: _, _ => rfl
    | [_], hl => exact absurd rfl hl) hf
  obtain ⟨v, rfl, rv'⟩ := rp1 h1
  obtain ⟨n, h2, rfl⟩ := map_some (show (strOf x).map .str = some dz from hf)
  cases rv' with
  | int i =>
    simp only [strOf] at h2
    split at h2
    · rename_i hl
      cases h2
      exact call_str_int pins s σ H _ us Q I rv ⟨i, rfl, hl, k G H _ New1.refl (.str _)⟩
    · cases h2
  | str a => cases h2; exact SkE.call_str_str pins s σ H _ us Q I rv ⟨_, rfl, k G H _ New1.refl (.str _)⟩
  | _ => cases h2
theorem bAbs : CallR X (.builtin "abs") (rBi X.K .abs) := by
  intro pins s σ H xs us Q I rv ⟨G, ds, dz, sg, h1, hf, k⟩
  match ds, hf, h1 with
  | [.int i], hf, h1 =>
    cases hf
    obtain ⟨v, rfl, rv'⟩ := rp1 h1
    cases rv'
    exact call_abs pins s σ H _ us Q I rv ⟨i, rfl, k G H _ New1.refl (.int _)⟩
theorem bMax2 (hc : X.calm = true) : CallR X (.builtin "max") (rBi X.K .max2) := by
  intro pins s σ H xs us Q I rv ⟨G, ds, dz, sg, h1, hf, k⟩
  match ds, hf, h1 with
  | [.int i, .int j], hf, h1 =>
    cases hf
    obtain ⟨v, w, rfl, r1, r2⟩ := rp2 h1
    cases r1; cases r2
    exact call_max2 hc pins s σ H _ us Q I rv ⟨i, j, rfl, k G H _ New1.refl (.int _)⟩
theorem bMin2 (hc : X.calm = true) : CallR X (.builtin "min") (rBi X.K .min2) := by
  intro pins s σ H xs us Q I rv ⟨G, ds, dz, sg, h1, hf, k⟩
  match ds, hf, h1 with
  | [.int i, .int j], hf, h1 =>
    cases hf
    obtain ⟨v, w, rfl, r1, r2⟩ := rp2 h1
    cases r1; cases r2
    exact call_min2 hc pins s σ H _ us Q I rv ⟨i, j, rfl, k G H _ New1.refl (.int _)⟩
theorem rp_allInt {K : PySem.W.Frag} {G : Hp} : ∀ {vs : List V} {xs : List PyData} {ns : List Int}, RpAll K G vs xs → allBy asInt xs = some ns → vs = ns.map V.int
  | _, _, _, .nil, h => by cases h; rfl
  | _, x :: xs, ns, .cons a t, h => by
    simp only [allBy] at h
    split at h
    · rename_i y ys h1 h2
      cases h
      cases a <;> cases h1
      rw [rp_allInt t h2]
      rfl
    · cases h
theorem rp_allBool {K : PySem.W.Frag} {G : Hp} : ∀ {vs : List V} {xs : List PyData} {ns : List Bool}, RpAll K G vs xs → allBy asBool xs = some ns → vs = ns.map V.bl
  | _, _, _, .nil, h => by cases h; rfl
  | _, x :: xs, ns, .cons a t, h => by
    simp only [allBy] at h
    split at h
    · rename_i y ys h1 h2
      cases h
      cases a <;> cases h1
      rw [rp_allBool t h2]
      rfl
    · cases h
theorem rp_allStr {K : PySem.W.Frag} {G : Hp} : ∀ {vs : List V} {xs : List PyData} {ns : List Str}, RpAll K G vs xs → allBy asStr xs = some ns → vs = ns.map V.str
  | _, _, _, .nil, h => by cases h; rfl
  | _, x :: xs, ns, .cons a t, h => by
    simp only [allBy] at h
    split at h
    · rename_i y ys h1 h2
      cases h
      cases a <;> cases h1
      rw [rp_allStr t h2]
      rfl
    · cases h
theorem bSum (hc : X.calm = true) : CallR X (.builtin "sum") (rBi X.K .sum) := by
  intro pins s σ H xs us Q I rv ⟨G, ds, dz, sg, h1, hf, k⟩
  match ds, hf, h1 with
  | [.list es], hf, h1 =>
    obtain ⟨ns, h2, rfl⟩ := map_some (show (allBy asInt es).map (fun ns => PyData.int ns.sum) = some dz from hf)
    obtain ⟨v, rfl, r1⟩ := rp1 h1
    cases r1 with
    | lst a1 a2 =>
      have e := rp_allInt a2 h2
      subst e
      exact cr_sum hc pins s σ H _ us Q I rv ⟨_, ns, rfl, .inl (.inl (sg _ _ a1)), k G H _ New1.refl (.int _)⟩
theorem bAll (hc : X.calm = true) : CallR X (.builtin "all") (rBi X.K .all) := by
  intro pins s σ H xs us Q I rv ⟨G, ds, dz, sg, h1, hf, k⟩
  match ds, hf, h1 with
  | [.list es], hf, h1 =>
    obtain ⟨ns, h2, rfl⟩ := map_some (show (allBy asBool es).map (fun ns => PyData.bool (ns.all id)) = some dz from hf)
    obtain ⟨v, rfl, r1⟩ := rp1 h1
    cases r1 with
    | lst a1 a2 =>
      have e := rp_allBool a2 h2
      subst e
      exact cr_all hc pins s σ H _ us Q I rv ⟨_, ns, rfl, .inl (.inl (sg _ _ a1)), k G H _ New1.refl (.bl _)⟩
theorem bAny (hc : X.calm = true) : CallR X (.builtin "any") (rBi X.K .any) := by
  intro pins s σ H xs us Q I rv ⟨G, ds, dz, sg, h1, hf, k⟩
  match ds, hf, h1 with
  | [.list es], hf, h1 =>
    obtain ⟨ns, h2, rfl⟩ := map_some (show (allBy asBool es).map (fun ns => PyData.bool (ns.any id)) = some dz from hf)
    obtain ⟨v, rfl, r1⟩ := rp1 h1
    cases r1 with
    | lst a1 a2 =>
      have e := rp_allBool a2 h2
      subst e
      exact cr_any hc pins s σ H _ us Q I rv ⟨_, ns, rfl, .inl (.inl (sg _ _ a1)), k G H _ New1.refl (.bl _)⟩
/-! ### isinstance -/
def tyName : PyData → String
  | .none => "NoneType" | .bool _ => "bool" | .int _ => "int" | .str _ => "str" | .list _ => "list" | .tuple _ => "tuple" | .dict _ => "dict"
theorem tyx_of {K : PySem.W.Frag} {G H : Hp} {v : V} {x : PyData} (h : Rp K G v x) (sg : Same G H) : TyX K H v (.type (tyName x)) := by
  cases h with
  | non => exact .base .non
  | bl b => exact .base (.bl b)
  | int i => exact .base (.int i)
  | str s => exact .base (.str s)
  | lst a b => exact .base (.lst (sg _ _ a))
  | tup a b =>
    rcases a with (a | ⟨o, a⟩) | ⟨o, its, n, a, c, _⟩
    · exact .base (.tup (sg _ _ a))
    · exact .fTuple (sg _ _ a)
    · exact .kTuple a c
theorem isTy_kit {K : PySem.W.Frag} {G : Hp} {v : V} {T : Ty} {x : PyData} {b : Bool} (hr : Rp K G v x) (h : isTy T x = some b) : PySem.W.kitOne K (.type (tyName x)) (.type (tyS T)) = some b := by
  cases T <;> cases hr <;> cases h <;> (refine kit_ty ?_; simp only [tyName, tyS]; decide +kernel)
theorem bIsin {T : Ty} : CallR X (.builtin "isinstance") (fun xs H Q => ∃ G v x b, Same G H ∧ xs = [v, .ty (tyS T)] ∧ Rp X.K G v x ∧ isTy T x = some b ∧ Q (.bl b) H) := by
  intro pins s σ H xs us Q I rv ⟨G, v, x, b, sg, h1, h2, h3, k⟩
  exact call_isi pins s σ H xs us Q I rv ⟨v, .ty (tyS T), _, _, b, h1, .ty (tyS T), tyx_of h2 sg, isTy_kit h2 h3, k⟩
/-! ### texts -/
theorem mJoin : MtR X "str.join" (rMt X.K .join) := by
  intro pins s σ H x xs v us Q I rx rv ⟨G, ds, dz, sg, h1, hf, k⟩
  match ds, hf, h1 with
  | [.str a, y], hf, .cons ra rb =>
    obtain ⟨z, h2, rfl⟩ := map_some (show (joinF a y).map .str = some dz from hf)
    obtain ⟨w, rfl, rw'⟩ := rp1 rb
    cases ra
    unfold joinF at h2
    split at h2
    · rename_i ys hy
      split at h2
      · rename_i hl
        cases h2
        cases rw' with
        | lst a1 a2 =>
          have e := rp_allStr a2 hy
          subst e
          exact mt_join pins s σ H _ _ v us Q I rx rv ⟨a, _, ys, rfl, rfl, .inl (.inl (.inl (sg _ _ a1))), hl, k G H _ New1.refl (.str _)⟩
        | tup a1 a2 =>
          have e := rp_allStr a2 hy
          subst e
          exact mt_join pins s σ H _ _ v us Q I rx rv ⟨a, _, ys, rfl, rfl, .inr (sqt_of sg a1), hl, k G H _ New1.refl (.str _)⟩
        | _ => cases hy
      · cases h2
    · cases h2
theorem rp_strs {K : PySem.W.Frag} {G : Hp} : ∀ l : List Str, RpAll K G (l.map V.str) (l.map .str)
  | [] => .nil
  | x :: l => .cons (.str x) (rp_strs l)
theorem mSplit : MtR X "str.split" (rMt X.K .split1) := by
  intro pins s σ H x xs v us Q I rx rv ⟨G, ds, dz, sg, h1, hf, k⟩
  match ds, hf, h1 with
  | [.str a, .str b], hf, .cons ra rb =>
    obtain ⟨w, rfl, rw'⟩ := rp1 rb
    cases ra
    cases rw'
    simp only [biD] at hf
    split at hf
    · rename_i hl
      cases hf
      exact mt_split pins s σ H _ _ v us Q I rx rv ⟨a, b, rfl, rfl, hl.1, hl.2, fun p hp => k (upd G p _) _ _ (.inr ⟨p, _, hp, rfl, rfl⟩) (rp_newL (sg.free hp) (rp_strs _))⟩
    · cases hf
theorem rp_three {K : PySem.W.Frag} {G : Hp} {a b c : Str} : RpAll K G [.str a, .str b, .str c] [.str a, .str b, .str c] := .cons (.str _) (.cons (.str _) (.cons (.str _) .nil))
theorem mPartition : MtR X "str.partition" (rMt X.K .partition) := by
  intro pins s σ H x xs v us Q I rx rv ⟨G, ds, dz, sg, h1, hf, k⟩
  match ds, hf, h1 with
  | [.str a, .str b], hf, .cons ra rb =>
    obtain ⟨w, rfl, rw'⟩ := rp1 rb
    cases ra
    cases rw'
    simp only [biD] at hf
    split at hf
    · rename_i hl
      cases hf
      exact mt_partition pins s σ H _ _ v us Q I rx rv ⟨a, b, rfl, rfl, hl.1, hl.2, fun p hp => k (upd G p _) _ _ (.inr ⟨p, _, hp, rfl, rfl⟩) (rp_newT (sg.free hp) rp_three)⟩
    · cases hf
theorem mRpartition : MtR X "str.rpartition" (rMt X.K .rpartition) := by
  intro pins s σ H x xs v us Q I rx rv ⟨G, ds, dz, sg, h1, hf, k⟩
  match ds, hf, h1 with
  | [.str a, .str b], hf, .cons ra rb =>
    obtain ⟨w, rfl, rw'⟩ := rp1 rb
    cases ra
    cases rw'
    simp only [biD] at hf
    split at hf
    · rename_i hl
      cases hf
      obtain ⟨t, rfl⟩ := rx
      cases rv with
      | cons r1 rs =>
        cases rs
        obtain ⟨u, rfl⟩ := r1
        have k' : ∀ p, H p = none → Q (.ref p) (upd H p (.tup [.str (Txt.rpartition a b).1, .str (Txt.rpartition a b).2.1, .str (Txt.rpartition a b).2.2])) := fun p hp =>
          k (upd G p _) _ _ (.inr ⟨p, _, hp, rfl, rfl⟩) (rp_newT (sg.free hp) rp_three)
        refine call_meets F.slot_str_rpartition (typeIs_str _ _ _) F.entry_str_rpartition (F.args_str_rpartition_2 _ _) (meets_str_rpartition a b t u hl.1 hl.2) ?_
        unfold Txt.rpartition at k'
        revert k'
        cases Builtin.Str.lastOccurrence a b 0 a.length with
        | none => intro k'; exact laid_parts I k'
        | some i => intro k'; exact laid_parts I k'
    · cases hf
theorem mStarts : MtR X "str.startswith" (rMt X.K .startswith) := by
  intro pins s σ H x xs v us Q I rx rv ⟨G, ds, dz, sg, h1, hf, k⟩
  match ds, hf, h1 with
  | [.str a, .str b], hf, .cons ra rb =>
    obtain ⟨w, rfl, rw'⟩ := rp1 rb
    cases ra
    cases rw'
    cases hf
    exact mt_startswith pins s σ H _ _ v us Q I rx rv ⟨a, b, rfl, rfl, k G H _ New1.refl (.bl _)⟩
theorem mUpper : MtR X "str.upper" (rMt X.K .upper) := by
  intro pins s σ H x xs v us Q I rx rv ⟨G, ds, dz, sg, h1, hf, k⟩
  match ds, hf, h1 with
  | [.str a], hf, .cons ra rb =>
    cases ra
    cases rb
    simp only [biD] at hf
    split at hf
    · rename_i hl
      cases hf
      exact mt_upper pins s σ H _ _ v us Q I rx rv ⟨a, rfl, rfl, hl, k G H _ New1.refl (.str _)⟩
    · cases hf
end
end Pv
end

/-! text PvRepr -/
section
/-! Pv, part 6: repr of data trees. -/
namespace Pv
open PySem L2 Builtin Builtin.Str Builtin.Int
section
variable {prog : Program} {w : World} {A : Around} {E : Value → Shared → Prop} {s : Shared}
theorem callRepr_tuple {a : Addr} {o : Obj} {its : Array Value} {n : Nat} {ts : List Str} {as : List Addr} {d : Nat} {Q : Value → Shared → Prop} (h1 : s.heap.get? a = some o) (h2 : o.cls = .type "tuple") (h3 : o.data = .seq its n) (hna : a ∉ as)
    (hk : ReprAllK prog w as s.heap d its.toList ts) (gd : A.guards = some []) (hu : A.units + 1 + (d + 1) < cLine) (hz : (tupleText ts).length ≤ sizeLine)
    (hq : ∀ h' u tk, (∀ b o, s.heap.get? b = some o → h'.get? b = some o) → Q (.str (tupleText ts) u) { s with heap := h', toks := tk }) : wpAny (model prog w) A (call (.builtin "repr") [.ref a]) Q E s := by
  have ty : s.TypeIs (.ref a) "tuple" := ⟨o, h1, h2⟩
  have hu1 : A.in1.units + (d + 1) < cLine := hu
  refine Calls.call_function_entry F.kind_repr F.plain_repr F.entry_repr (F.args_repr1 _) ?_
  unfold Builtin.«repr»
  refine wpAny_bind (m := oneArg "repr" _) (wpAny_pure ?_)
  refine wpAny_bind (wpAny_cRoomFor (by omega) (wpAny_bind (wpAny_specialOf (name := Str.ofString "__repr__") ty F.slot_tuple_repr.lookup ?_)))
  refine wpAny_bind (m := callSpecialIfBound? (.ref a) (Str.ofString "__repr__")) (wpAny_callSpecialIfBound?_slotG (name := Str.ofString "__repr__") ty F.slot_tuple_repr
    (call_tuple_reprK (h₀ := s.heap) h1 h2 h3 hna hk (show A.in1.guards = some [] from gd) (fun b _ => Clear.nil b) hu1 (fun _ _ e => e) (fun h' u tk kp => ?_) hz))
  exact wpAny_bind (wpAny_isInstance (T := "str") (b := true) rfl isSubtype_str_str (wpAny_pure ⟨_, rfl, hq h' u tk kp⟩))
theorem callRepr_list {a : Addr} {o : Obj} {x : Value} {l : List Value} {n : Nat} {ts : List Str} {as : List Addr} {d : Nat} {Q : Value → Shared → Prop} (h1 : s.heap.get? a = some o) (h2 : o.cls = .type "list") (h3 : o.data = .seq (x :: l).toArray n) (hna : a ∉ as)
    (hk : ReprAllK prog w as s.heap d (x :: l) ts) (gd : A.guards = some []) (hu : A.units + 1 + (d + 1) < cLine) (hz : (listText ts).length ≤ sizeLine)
    (hq : ∀ h' u tk, (∀ b o, s.heap.get? b = some o → h'.get? b = some o) → Q (.str (listText ts) u) { s with heap := h', toks := tk }) : wpAny (model prog w) A (call (.builtin "repr") [.ref a]) Q E s := by
  have ty : s.TypeIs (.ref a) "list" := ⟨o, h1, h2⟩
  have hu1 : A.in1.units + (d + 1) < cLine := hu
  refine Calls.call_function_entry F.kind_repr F.plain_repr F.entry_repr (F.args_repr1 _) ?_
  unfold Builtin.«repr»
  refine wpAny_bind (m := oneArg "repr" _) (wpAny_pure ?_)
  refine wpAny_bind (wpAny_cRoomFor (by omega) (wpAny_bind (wpAny_specialOf (name := Str.ofString "__repr__") ty F.slot_list_repr.lookup ?_)))
  refine wpAny_bind (m := callSpecialIfBound? (.ref a) (Str.ofString "__repr__")) (wpAny_callSpecialIfBound?_slot (name := Str.ofString "__repr__") ty F.slot_list_repr
    (call_list_reprK (h₀ := s.heap) h1 h2 h3 hna (by simpa using hk.length_eq) (fun i y e => hk.item i y (by simpa using e)) (show A.in1.guards = some [] from gd) (fun b _ => Clear.nil b) hu1 (fun _ _ e => e) (fun h' u tk kp => ?_) hz))
  exact wpAny_bind (wpAny_isInstance (T := "str") (b := true) rfl isSubtype_str_str (wpAny_pure ⟨_, rfl, hq h' u tk kp⟩))
theorem callRepr_empty {a : Addr} {o : Obj} {n : Nat} {Q : Value → Shared → Prop} (h1 : s.heap.get? a = some o) (h2 : o.cls = .type "list") (h3 : o.data = .seq #[] n) (hu : A.units + 2 < cLine)
    (hq : ∀ tk u, Q (.str "[]" u) { s with toks := tk }) : wpAny (model prog w) A (call (.builtin "repr") [.ref a]) Q E s := by
  have ty : s.TypeIs (.ref a) "list" := ⟨o, h1, h2⟩
  have hu1 : A.in1.units + 1 < cLine := hu
  refine Calls.call_function_entry F.kind_repr F.plain_repr F.entry_repr (F.args_repr1 _) ?_
  unfold Builtin.«repr»
  refine wpAny_bind (m := oneArg "repr" _) (wpAny_pure ?_)
  refine wpAny_bind (wpAny_cRoomFor (by omega) (wpAny_bind (wpAny_specialOf (name := Str.ofString "__repr__") ty F.slot_list_repr.lookup ?_)))
  refine wpAny_bind (m := callSpecialIfBound? (.ref a) (Str.ofString "__repr__")) (wpAny_callSpecialIfBound?_slot (name := Str.ofString "__repr__") ty F.slot_list_repr (call_list_repr_empty ty h1 h3 ?_))
  exact wpAny_bind (wpAny_isInstance (T := "str") (b := true) rfl isSubtype_str_str (wpAny_pure ⟨_, rfl, hq _ _⟩))
end
section
variable {X : Cx}
theorem noDict_hsm' {d : PyData} {as : List Addr} (h : d.hasDict = false) : d.hasDict = true → sysModules ∉ as := fun q => by rw [h] at q; cases q
theorem bRepr (gd : X.A.guards = some []) (hu : X.A.units + 70 < cLine) : CallR X (.builtin "repr") (rBi X.K .repr) := by
  intro pins st σ H xs us Q I rv ⟨G, ds, dz, sg, h1, hf, k⟩
  match ds, hf, h1 with
  | [x], hf, h1 =>
    obtain ⟨t, h2, rfl⟩ := map_some (show (repF x).map .str = some dz from hf)
    obtain ⟨v, rfl, r1⟩ := rp1 h1
    unfold repF at h2
    split at h2
    · rename_i hc
      obtain ⟨c1, c2, c3, c4⟩ := hc
      cases h2
      have r2 := (dp_same sg _ _ r1).dp
      obtain ⟨u, rfl, ru⟩ := vals1 rv
      obtain ⟨as, rd⟩ := Dp.reads I x v u r2 ru
      have kq : ∀ (h' : Heap) (tk : Tok) (u : Tok), (∀ b o, st.heap.get? b = some o → h'.get? b = some o) → EP X pins σ Q (.str x.shown u) { st with heap := h', toks := tk } := fun h' tk u kp =>
        ⟨.str x.shown, H, I.kept kp, ⟨u, rfl⟩, k G H _ New1.refl (.str _)⟩
      cases rd with
      | none =>
        refine PySem.P.repr_of_none ?_
        have q := kq st.heap (st.toks + 1) st.toks fun _ _ e => e
        simp only [PyData.shown] at q
        exact q
      | bool b =>
        refine PySem.P.repr_of_bool ?_
        have q := kq st.heap (st.toks + 1) st.toks fun _ _ e => e
        simp only [PyData.shown] at q
        exact q
      | int i t =>
        refine PySem.P.repr_of_int (by simpa [PyData.showable] using c1) ?_
        have q := kq st.heap (st.toks + 1) st.toks fun _ _ e => e
        simp only [PyData.shown] at q
        exact q
      | str y t =>
        refine PySem.P.repr_of_str ?_ (by simpa only [PyData.shown] using c4)
        have q := kq st.heap (st.toks + 1) st.toks fun _ _ e => e
        simp only [PyData.shown] at q
        exact q
      | @list a o vs n xs as e1 e2 e3 e4 =>
        have c4' : (listText (PyData.shownAll xs)).length ≤ sizeLine := by simpa only [PyData.shown] using c4
        obtain ⟨bs, hb, hk⟩ := ReprAllK.of_readsAll (prog := X.prog) (w := X.w) e4 (by simpa [PyData.showable] using c1) (fun hx hm => noDict_hsm' (as := []) c2 (by simpa [PyData.hasDict] using hx) (by
          have := noDict_hsm' (as := [sysModules]) c2 (by simpa [PyData.hasDict] using hx)
          simp at this)) (fun t ht => Nat.le_trans (listText_mem_le ht) c4')
        have r : Reads st.heap (.ref a) (.list xs) _ := .list e1 e2 e3 e4
        have hna : a ∉ bs := not_mem_of_deeper r (by simp only [PyData.depth]; omega) hb
        simp only [PyData.depth] at c3
        obtain ⟨l⟩ := vs
        cases l with
        | nil =>
          have e4' : ReadsAll st.heap [] xs _ := e4
          cases e4'
          refine callRepr_empty e1 e2 e3 (by omega) fun tk u => ?_
          have q := kq st.heap tk u fun _ _ e => e
          simp only [PyData.shown, PyData.shownAll, listText_nil] at q
          exact q
        | cons y l =>
          refine callRepr_list e1 e2 e3 hna hk gd (by omega) c4' fun h' u tk kp => ?_
          have q := kq h' tk u kp
          simp only [PyData.shown] at q
          exact q
      | @tuple a o vs n xs as e1 e2 e3 e4 =>
        have c4' : (tupleText (PyData.shownAll xs)).length ≤ sizeLine := by simpa only [PyData.shown] using c4
        obtain ⟨bs, hb, hk⟩ := ReprAllK.of_readsAll (prog := X.prog) (w := X.w) e4 (by simpa [PyData.showable] using c1) (fun hx hm => by
          have := noDict_hsm' (as := [sysModules]) c2 (by simpa [PyData.hasDict] using hx)
          simp at this) (fun t ht => Nat.le_trans (tupleText_mem_le ht) c4')
        have r : Reads st.heap (.ref a) (.tuple xs) _ := .tuple e1 e2 e3 e4
        have hna : a ∉ bs := not_mem_of_deeper r (by simp only [PyData.depth]; omega) hb
        simp only [PyData.depth] at c3
        refine callRepr_tuple e1 e2 e3 hna hk gd (by omega) c4' fun h' u tk kp => ?_
        have q := kq h' tk u kp
        simp only [PyData.shown] at q
        exact q
      | dict _ _ _ _ _ => cases r1
    · cases h2
end
end Pv
end

/-! text PvBi2 -/
section
namespace Pv
open PySem L2 PySem.Spec PyProof.Rows
def rBiR (K : PySem.W.Frag) (b : Bi) : List V → Hp → VK → Prop := fun xs H Q => ∃ G m rs w, Same G H ∧ RVs K G m rs xs ∧ biF b rs = some w ∧ ∀ G' H' z, New1 G H G' H' → RVr K G' m w z → Q z H'
theorem biF_pure {b : Bi} {vs : List RV} {w : RV} (hb : b ≠ .len) (h : biF b vs = some w) : ∃ ds dz, allBy pureR vs = some ds ∧ biD b ds = some dz ∧ w = .d dz := by
  unfold biF at h
  split at h
  · exact absurd rfl hb
  · split at h
    · rename_i ds h2
      obtain ⟨dz, h3, h4⟩ := map_some h
      exact ⟨ds, dz, h2, h3, h4.symm⟩
    · cases h
theorem biF_len {vs : List RV} {w : RV} (h : biF .len vs = some w) : (∃ ns, vs = [.scr ns] ∧ w = .d (.int ns.length)) ∨ ∃ ds dz, allBy pureR vs = some ds ∧ biD .len ds = some dz ∧ w = .d dz := by
  unfold biF at h
  split at h
  · cases h
    exact .inl ⟨_, rfl, rfl⟩
  · split at h
    · rename_i ds h2
      obtain ⟨dz, h3, h4⟩ := map_some h
      exact .inr ⟨ds, dz, h2, h3, h4.symm⟩
    · cases h
theorem rBiR_of {X : Cx} {b : Bi} {f : Value} (hc : CallR X f (rBi X.K b)) (hb : b ≠ .len) : CallR X f (rBiR X.K b) := by
  intro pins s σ H xs us Q I rv ⟨G, m, rs, w, sg, h1, h2, k⟩
  obtain ⟨ds, dz, h3, h4, rfl⟩ := biF_pure hb h2
  obtain ⟨h5, rfl⟩ := rvs_pure h1 h3
  exact hc pins s σ H xs us Q I rv ⟨G, ds, dz, sg, h5, h4, fun G' H' z n r => k G' H' z n (.d r)⟩
theorem rBiR_len {X : Cx} : CallR X (.builtin "len") (rBiR X.K .len) := by
  intro pins s σ H xs us Q I rv ⟨G, m, rs, w, sg, h1, h2, k⟩
  rcases biF_len h2 with ⟨ns, rfl, rfl⟩ | ⟨ds, dz, h3, h4, rfl⟩
  · cases h1 with
    | cons a t =>
      cases t
      cases a with
      | scr q =>
        refine call_len_seq pins s σ H _ us Q I rv ⟨_, ns.map V.int, rfl, .inl (sg.seq q), ?_⟩
        rw [List.length_map]
        exact k G H _ New1.refl (.d (.int _))
  · obtain ⟨h5, rfl⟩ := rvs_pure h1 h3
    exact bLen pins s σ H xs us Q I rv ⟨G, ds, dz, sg, h5, h4, fun G' H' z n r => k G' H' z n (.d r)⟩
/-- a method by values -/
def rMtR (K : PySem.W.Frag) (b : Bi) : V → List V → Hp → VK → Prop := fun x xs H Q => rBiR K b (x :: xs) H Q
theorem rMtR_of {X : Cx} {b : Bi} {id : String} (hc : MtR X id (rMt X.K b)) (hb : b ≠ .len) : MtR X id (rMtR X.K b) := by
  intro pins s σ H x xs v us Q I rx rv ⟨G, m, rs, w, sg, h1, h2, k⟩
  obtain ⟨ds, dz, h3, h4, rfl⟩ := biF_pure hb h2
  obtain ⟨h5, rfl⟩ := rvs_pure h1 h3
  exact hc pins s σ H x xs v us Q I rx rv ⟨G, ds, dz, sg, h5, h4, fun G' H' z n r => k G' H' z n (.d r)⟩
section
variable {X : Cx} {fs : List Fn} {cls : List (Addr × List Str)} {W : WX} {e a : Expr} {es : List Expr} {ea eb : REnv → Sto → R RV} {eas : REnv → Sto → R (List RV)} {pos p apos : Pos} {x : Str} {id T : String} {b : Bi}
/-- a built-in by the reading of its arguments -/
theorem tcb_of {σ : L2.St} {H : Hp} {Q : VK} (h : tV (layOf X fs cls) W (fun ρ μ => (eas ρ μ).bind fun vs μ1 => lift (biF b vs) μ1) σ H Q) : tCB (rBiR X.K b) (tVs (layOf X fs cls) W eas) σ H Q := by
  obtain ⟨G, m, μ, ρ, s, en, k⟩ := h
  refine (tVs_bind s en k).mono fun xs H1 ⟨G1, m1, μ1, vs, x1, s1, e1, r1, k1⟩ => ?_
  obtain ⟨w, hw, k2⟩ := kn_lift k1
  exact ⟨G1, m1, vs, w, s1.same, r1, hw, fun G' H' z n rz => kn_ok k2 n s1 rz⟩
theorem s_biB (hc : CallR X (.builtin id) (rBiR X.K b)) (hg : Gl X x) (hm : X.mg x = none) (hv : bootBuiltins x = some (.builtin id)) (ha : PA X (e :: es) (tVs (layOf X fs cls) W eas)) (hn : x ≠ "__name__") (hdb : (x == ("__debug__" : Str)) = false)
    (he : starEach (e :: es) X.env = (false, eval e X.env) :: starEach es X.env) (hpl : (backTo pos (starEach es X.env)).any (·.1) = false) :
    PE X (.Call (.Name x p) (e :: es) [] pos) (tV (layOf X fs cls) W fun ρ μ => (eas ρ μ).bind fun vs μ1 => lift (biF b vs) μ1) :=
  PE.weak (pe_callB hc hg hm hv ha hn hdb he hpl) fun σ H Q h => tcb_of h
theorem s_biTy (hc : CallR X (.type T) (rBiR X.K b)) (hg : Gl X x) (hm : X.mg x = none) (hv : bootBuiltins x = some (.type T)) (ha : PA X (e :: es) (tVs (layOf X fs cls) W eas)) (hn : x ≠ "__name__") (hdb : (x == ("__debug__" : Str)) = false)
    (he : starEach (e :: es) X.env = (false, eval e X.env) :: starEach es X.env) (hpl : (backTo pos (starEach es X.env)).any (·.1) = false) :
    PE X (.Call (.Name x p) (e :: es) [] pos) (tV (layOf X fs cls) W fun ρ μ => (eas ρ μ).bind fun vs μ1 => lift (biF b vs) μ1) :=
  PE.weak (pe_callTy hc hg hm hv ha hn hdb he hpl) fun σ H Q h => tcb_of h
/-- isinstance(e, T) -/
theorem s_isin {Ty' : Ty} {t : Str} {pt : Pos} (hg : Gl X "isinstance") (hm : X.mg "isinstance" = none) (hgt : Gl X t) (hmt : X.mg t = none) (hvt : bootBuiltins t = some (.type (tyS Ty'))) (ha : PE X e (tV (layOf X fs cls) W ea)) (hnt : t ≠ "__name__") (hdt : (t == ("__debug__" : Str)) = false)
    (h1 : starEach [e, .Name t pt] X.env = (false, eval e X.env) :: starEach [.Name t pt] X.env) (h2 : starEach [.Name t pt] X.env = (false, eval (.Name t pt) X.env) :: starEach [] X.env) (hpl : (backTo pos (starEach [.Name t pt] X.env)).any (·.1) = false) :
    PE X (.Call (.Name "isinstance" p) [e, .Name t pt] [] pos) (tV (layOf X fs cls) W fun ρ μ => (ea ρ μ).bind fun v μ1 => lift (biF (.isin Ty') [v]) μ1) :=
  PE.weak (pe_callB bIsin hg hm boot_isinstance (pa_cons ha (pa_cons (pe_bltn (v := .ty (tyS Ty')) hgt hmt hvt rfl hnt hdt) pa_nil h2) h1) (by decide) (by decide) h1 hpl) fun σ H Q ⟨G, m, μ, ρ, s, en, k⟩ => by
    refine (tV_bind s en k).mono fun x H1 ⟨G1, m1, μ1, va, x1, s1, e1, r1, k1⟩ => ?_
    obtain ⟨w, hw, k2⟩ := kn_lift k1
    obtain ⟨ds, dz, h3, h4, rfl⟩ := biF_pure (by exact fun q => nomatch q) hw
    cases va with
    | loc n => cases h3
    | scr n => cases h3
    | d y =>
      cases h3
      obtain ⟨t, h5, h6⟩ := map_some (show (isTy Ty' y).map PyData.bool = some dz from h4)
      subst h6
      exact ⟨G1, x, y, t, s1.same, rfl, rvD r1, h5, k2.done s1 (.d (.bl _))⟩
/-! methods of texts -/
theorem s_m0 {name : Str} (slot : PySem.Slot "str" name id) (ty : typeOf (.builtin id) = pure (.type "method_descriptor")) (rule : MtR X id (rMt X.K b)) (hb : b ≠ .len) (hs : ∀ (v : PyData) w, biD b [v] = some w → ∃ y, v = .str y) (ha : PE X a (tV (layOf X fs cls) W ea))
    (hbase : attributeBase a name X.env (eval a X.env) = eval a X.env) (hline : (apos.endLine == pos.line) = true) :
    PE X (.Call (.Attribute a name apos) [] [] pos) (tV (layOf X fs cls) W fun ρ μ => (ea ρ μ).bind fun v μ1 => lift (biF b [v]) μ1) :=
  PE.weak (pe_m0 slot ty rule ha hbase hline) fun σ H Q ⟨G, m, μ, ρ, s, en, k⟩ => by
    refine (tV_bind s en k).mono fun x H1 ⟨G1, m1, μ1, va, x1, s1, e1, r1, k1⟩ => ?_
    obtain ⟨w, hw, k2⟩ := kn_lift k1
    obtain ⟨ds, dz, h3, h4, rfl⟩ := biF_pure hb hw
    cases va with
    | loc n => cases h3
    | scr n => cases h3
    | d y =>
      cases h3
      obtain ⟨z, rfl⟩ := hs _ _ h4
      cases rvD r1
      exact ⟨⟨z, rfl⟩, G1, [.str z], dz, s1.same, .cons (.str z) .nil, h4, fun G' H' z n rz => kn_ok k2 n s1 (.d rz)⟩
theorem s_m1 {name : Str} (slot : PySem.Slot "str" name id) (ty : typeOf (.builtin id) = pure (.type "method_descriptor")) (rule : MtR X id (rMt X.K b)) (hb : b ≠ .len) (ha : PE X a (tV (layOf X fs cls) W ea)) (he : PE X e (tV (layOf X fs cls) W eb))
    (hst : starEach [e] X.env = [(false, eval e X.env)]) (hbase : attributeBase a name X.env (eval a X.env) = eval a X.env) (hline : (apos.endLine == pos.line) = true) :
    PE X (.Call (.Attribute a name apos) [e] [] pos) (tV (layOf X fs cls) W fun ρ μ => (ea ρ μ).bind fun v μ1 => match v with
      | .d (.str x) => (eb ρ μ1).bind fun u μ2 => lift (biF b [.d (.str x), u]) μ2
      | _ => .bad) :=
  PE.weak (pe_m1 slot ty rule ha he hst hbase hline) fun σ H Q ⟨G, m, μ, ρ, s, en, k⟩ => by
    refine (tV_bind s en k).mono fun x H1 ⟨G1, m1, μ1, va, x1, s1, e1, r1, k1⟩ => ?_
    split at k1
    · rename_i z
      cases rvD r1
      refine ⟨⟨z, rfl⟩, (tV_bind s1 e1 k1).mono fun y H2 ⟨G2, m2, μ2, vb, x2, s2, e2, r2, k2⟩ => ?_⟩
      obtain ⟨w, hw, k3⟩ := kn_lift k2
      obtain ⟨ds, dz, h3, h4, rfl⟩ := biF_pure hb hw
      cases vb with
      | loc n => cases h3
      | scr n => cases h3
      | d u =>
        cases h3
        exact ⟨G2, [.str z, u], dz, s2.same, .cons (.str z) (.cons (rvD r2) .nil), h4, fun G' H' z n rz => kn_ok k3 n s2 (.d rz)⟩
    · exact k1.elim
end
end Pv
end

/-! text PvIter -/
section
/-! Pv, part 6: what is walked. -/
namespace Pv
open PySem L2
/-! ### iterators that give new pairs -/
def Jp (N : Nat) (hold : Hp → Prop) (Y : Nat → V → V → Prop) : L2.It :=
  ⟨fun i H => i < N ∧ hold H, fun i H v H' => ∃ T y z, v = .ref T ∧ H T = none ∧ H' = upd H T (.tup [y, z]) ∧ Y i y z, fun i H => i = N ∧ hold H⟩
theorem turn_pair {P : Program} {w : World} {K : PySem.W.Frag} {elts : List Expr} {kk : Nat} {tpos : Pos} {I : Addr} {fpT wr : List Addr} {tn : Nat → Heap → Prop} {N : Nat} {hold : Hp → Prop} {Y : Nat → V → V → Prop}
    (mem : I ∈ fpT) (sub : ∀ b ∈ wr, b ∈ fpT) (obj : ∀ i h, tn i h → ∀ b ∈ fpT, ∃ o, h.get? b = some o ∧ ∀ v, o.data ≠ .cell v) (keep : ∀ i h h', tn i h → (∀ b ∈ fpT, ∀ o, h.get? b = some o → h'.get? b = some o) → tn i h')
    (self : ∀ (A : Around) (i : Nat) (s : Shared) (Q : Value → Shared → Prop) (E : Value → Shared → Prop), tn i s.heap → Q (.ref I) s → wpAny (model P w) A (pyIter (.ref I)) Q E s)
    (wk : ∀ (X : Cx), X.prog = P → X.w = w → X.K = K → X.calm = true → ∀ (i : Nat) (pins : List (Addr × Obj)) (s : Shared) (σ : L2.St) (H : Hp), Inv X pins σ H s → tn i s.heap → hold H →
      ∃ (fp : List Addr) (n : Nat) (Pt : Nat → Array Value → Prop) (St : Nat → Heap → Prop) (Mid : Nat → Addr → Heap → Prop), WalksT P w X.A I fp wr n Pt St Mid ∧ n = N ∧ St i s.heap ∧ (∀ j h, St j h → tn j h) ∧
        ∀ vals, Pt i vals → i < N → ∃ y z u1 u2, vals = #[u1, u2] ∧ RelV y u1 ∧ RelV z u2 ∧ Y i y z) :
    Turn P w K (.Tuple elts kk tpos) (Jp N hold Y) fpT I tn where
  mem := mem
  obj := obj
  keep := keep
  item := by
    intro X hP hw hK hc i pins s σ H E IV hf st hg
    obtain ⟨fp, n, Pt, St, Mid, W, rfl, st0, hst, hpt⟩ := wk X hP hw hK hc i pins s σ H IV st hg.2
    refine W.item i s _ _ hg.1 st0 fun T vals h' tk hP2 hge hT hmid hk => ?_
    refine ⟨_, rfl, W.go elts kk tpos i T { s with heap := h', toks := tk } _ _ hmid fun h'' st1 hk2 => ?_⟩
    obtain ⟨y, z, u1, u2, rfl, r1, r2, hy⟩ := hpt vals hP2 hg.1
    have hT2 : h''.IsTuple T #[u1, u2] := hT.at fun o e => hk2 T o (W.apart _ _ _ hmid) e
    subst hP hw
    have new : ObjOk X.prog X.w (upd H T (.tup [y, z])) h'' T (.tup [y, z]) :=
      ⟨by show 2 ≤ sizeLine; decide, [u1, u2], .cons r1 (.cons r2 .nil), hT2⟩
    have I1 : Inv X pins σ (upd H T (.tup [y, z])) { s with heap := h'', toks := tk } :=
      IV.turnedNew (ch := wr) (fun b ob hb q => hk2 b ob hb (hk b ob hb q)) (fun b hb => hf b (sub b hb)) hge new
    refine ⟨.ref T, _, I1, rfl, ⟨T, y, z, rfl, IV.hok.fresh hge, rfl, hy⟩, hst _ _ st1, fun b hb => ?_⟩
    obtain ⟨o, e, _⟩ := obj i _ st b hb
    rw [upd_ne (Nat.ne_of_lt (Nat.lt_of_lt_of_le (Heap.lt_size e) hge))]
    exact (hf b hb).1
  done := by
    intro X hP hw hK hc i pins s σ H E IV hf st hg
    obtain ⟨fp, n, Pt, St, Mid, W, rfl, st0, hst, hpt⟩ := wk X hP hw hK hc i pins s σ H IV st hg.2
    obtain ⟨rfl, _⟩ := hg
    exact W.done s _ _ st0 fun h' tk hk => ⟨rfl, IV.turnedL (ch := wr) hk fun b hb => hf b (sub b hb)⟩
  self := self

/-! ### what gives the items -/
theorem vals_back : ∀ {xs : List V} {us : List Value} {i : Nat} {u : Value}, Vals xs us → us[i]? = some u → ∃ x, xs[i]? = some x ∧ RelV x u
  | _, _, _, _, .nil, e => by simp at e
  | _, _, 0, _, .cons r _, e => by simp at e; subst e; exact ⟨_, rfl, r⟩
  | _, _, i + 1, _, .cons _ t, e => by
    obtain ⟨x, h1, h2⟩ := vals_back (i := i) t (by simpa using e)
    exact ⟨x, by simpa using h1, h2⟩
inductive Kd where
  | l (a : Addr)
  | t (a : Addr)
  | s (z : Str) (u : Tok)
def Kd.val : Kd → Value
  | .l a => .ref a
  | .t a => .ref a
  | .s z u => .str z u
def Kd.st : Kd → Addr → Nat → Heap → Prop
  | .l a, it, i, h => h.IsListIter it a i
  | .t a, it, i, h => h.IsTupleIter it a i
  | .s z u, it, i, h => h.IsStrIter it (strIterType z) z u i
def Kd.obj : Kd → Obj
  | .l a => { cls := .type "list_iterator", data := .fields #[.ref a, .int 0 0] }
  | .t a => { cls := .type "tuple_iterator", data := .fields #[.ref a, .int 0 0] }
  | .s z u => { cls := .type (strIterType z), data := .fields #[.str z u, .int 0 0] }
def Kd.holds (K : PySem.W.Frag) (H : Hp) (ys : List V) : Kd → Prop
  | .l a => SqL K H a ys
  | .t a => SqT K H a ys
  | .s z _ => ys = z.cps.toList.map fun c => .str ⟨#[c]⟩
theorem Kd.st_obj {k : Kd} {it : Addr} {i : Nat} {h : Heap} (x : k.st it i h) : ∃ o, h.get? it = some o ∧ ∀ v, o.data ≠ .cell v := by
  cases k <;> (obtain ⟨o, e, c, d⟩ := x; exact ⟨o, e, fun v q => by rw [d] at q; cases q⟩)
theorem Kd.st_at {k : Kd} {it : Addr} {i : Nat} {h h' : Heap} (x : k.st it i h) (e : ∀ o, h.get? it = some o → h'.get? it = some o) : k.st it i h' := by
  cases k <;> (obtain ⟨o, h1, c, d⟩ := x; exact ⟨o, e o h1, c, d⟩)
theorem Kd.st_self {prog : Program} {w : World} {A : Around} {k : Kd} {it : Addr} {i : Nat} {s : Shared} {Q : Value → Shared → Prop} {E : Value → Shared → Prop} (x : k.st it i s.heap) (h : Q (.ref it) s) : wpAny (model prog w) A (pyIter (.ref it)) Q E s := by
  cases k with
  | l a => exact wpAny_pyIter_listiter x h
  | t a => exact wpAny_pyIter_tupleiter x h
  | s z u =>
    have x : s.heap.IsStrIter it (strIterType z) z u i := x
    cases ha : z.cps.all (· < 128)
    · simp only [strIterType, ha, Bool.false_eq_true, if_false] at x
      exact wpAny_pyIter_striter_wide x h
    · simp only [strIterType, ha, if_true] at x
      exact wpAny_pyIter_striter_ascii x h
theorem Kd.free (k : Kd) : k.obj.isFreed = false := by cases k <;> rfl
/-- the first state -/
theorem Kd.first {k : Kd} {it : Addr} {h : Heap} (e : h.get? it = some k.obj) : k.st it 0 h := by
  cases k <;> exact ⟨_, e, rfl, rfl⟩
section
variable {X : Cx} {pins : List (Addr × Obj)} {σ : L2.St} {H : Hp} {s : Shared} {ys : List V}
theorem Kd.begins {k : Kd} (I : Inv X pins σ H s) (h : k.holds X.K H ys) : ∃ C : Heap → Prop, Begins k.val k.obj C ∧ C s.heap := by
  cases k with
  | l a =>
    obtain ⟨its, rv, p, hz⟩ := I.list h
    exact ⟨_, begins_list a its.toArray, p.isList⟩
  | t a =>
    obtain ⟨its, rv, p, hz⟩ := I.tuple h
    exact ⟨_, begins_tuple a its.toArray, p⟩
  | s z u => exact ⟨_, begins_text z u, trivial⟩
/-- the objects that the items stand in -/
def Kd.adr : Kd → List Addr
  | .l a => [a]
  | .t a => [a]
  | .s _ _ => []
theorem Kd.below {k : Kd} (I : Inv X pins σ H s) (h : k.holds X.K H ys) : ∀ b ∈ k.adr, b < s.heap.objs.size := by
  cases k with
  | l a =>
    intro b hb
    have e : b = a := by simpa [Kd.adr] using hb
    obtain ⟨its, rv, p, hz⟩ := I.list h
    obtain ⟨o, q, _⟩ := p.isList
    rw [e]
    exact Heap.lt_size q
  | t a =>
    intro b hb
    have e : b = a := by simpa [Kd.adr] using hb
    obtain ⟨its, rv, p, hz⟩ := I.tuple h
    obtain ⟨o, q, _⟩ := p
    rw [e]
    exact Heap.lt_size q
  | s z u =>
    intro b hb
    exact absurd hb (by simp [Kd.adr])
theorem Kd.draws {k : Kd} {it : Addr} {A : Around} (I : Inv X pins σ H s) (hh : A.handled = none) (h : k.holds X.K H ys) (ne : it ∉ k.adr) {i : Nat} (st : k.st it i s.heap) : ∃ (P : Nat → Value → Prop) (St : Nat → Heap → Prop),
    Draws X.prog X.w A it (it :: k.adr) ys.length P St ∧ St i s.heap ∧ (∀ j h, St j h → k.st it j h) ∧ ∀ j v, P j v → ∃ y, ys[j]? = some y ∧ RelV y v := by
  cases k with
  | l a =>
    obtain ⟨its, rv, p, hz⟩ := I.list h
    have hl := rv.length
    have ne : a ≠ it := fun q => ne (by simp [Kd.adr, q])
    have D := Draws.list (prog := X.prog) (w := X.w) hh it a ne its.toArray
    rw [List.size_toArray, ← hl] at D
    refine ⟨_, _, D, ⟨st, p.isList⟩, fun j h x => x.1, fun j v x => ?_⟩
    have x : its[j]? = some v := by simpa using x
    exact vals_back rv x
  | t a =>
    obtain ⟨its, rv, p, hz⟩ := I.tuple h
    have p : s.heap.IsTuple a its.toArray := p
    have hl := rv.length
    have ne : a ≠ it := fun q => ne (by simp [Kd.adr, q])
    have D := Draws.tuple (prog := X.prog) (w := X.w) hh it a ne its.toArray
    rw [List.size_toArray, ← hl] at D
    refine ⟨_, _, D, ⟨st, p⟩, fun j h x => x.1, fun j v x => ?_⟩
    have x : its[j]? = some v := by simpa using x
    exact vals_back rv x
  | s z u =>
    have h : ys = z.cps.toList.map fun c => V.str ⟨#[c]⟩ := h
    subst h
    have D := Draws.text (prog := X.prog) (w := X.w) hh it z u
    rw [← Array.length_toList, ← List.length_map (f := fun c => V.str ⟨#[c]⟩)] at D
    refine ⟨_, _, D, st, fun j h x => x, fun j v x => ?_⟩
    obtain ⟨c, t, h1, rfl⟩ := x
    refine ⟨.str ⟨#[c]⟩, ?_, ⟨t, rfl⟩⟩
    rw [List.getElem?_map, Array.getElem?_toList, h1]
    rfl
end
/-- enumerate -/
theorem turn_enumK {P : Program} {w : World} {K : PySem.W.Frag} {elts : List Expr} {kk : Nat} {tpos : Pos} {ys : List V} (k : Kd) (e it : Addr) (hei : e ≠ it) (ha : e ∉ k.adr) (hb : it ∉ k.adr) :
    Turn P w K (.Tuple elts kk tpos) (Jp ys.length (fun H => k.holds K H ys) fun i y z => y = .int (i : Nat) ∧ ys[i]? = some z) [e, it] e (fun i h => (∃ old, IsEnum h e it (0 + (i : Int)) old) ∧ k.st it i h) := by
  refine turn_pair (wr := [e, it]) (by simp) (fun b h => h) (fun i h st b hb => ?_) (fun i h h' st kp => ?_) (fun A i s Q E st h => ?_) fun X hP hw hK hc i pins s σ H I st hd => ?_
  · obtain ⟨⟨old, he⟩, hi⟩ := st
    have e' : b = e ∨ b = it := by simpa using hb
    rcases e' with q | q
    · rw [q]; exact ⟨_, he, fun v q => nomatch q⟩
    · rw [q]; exact (Kd.st_obj hi)
  · obtain ⟨⟨old, he⟩, hi⟩ := st
    exact ⟨⟨old, kp e (by simp) _ he⟩, Kd.st_at hi (fun o q => kp it (by simp) o q)⟩
  · obtain ⟨⟨old, he⟩, hi⟩ := st
    exact wpAny_pyIter_enum he h
  · subst hP hw hK
    obtain ⟨P, St, D, s0, s1, s2⟩ := Kd.draws (A := X.A.in1) I (I.ok.hd hc) hd hb st.2
    refine ⟨_, _, _, _, _, WalksT.enumFrom 0 D e hei (by simp [hei, ha]) (by simp), rfl, ⟨st.1, s0⟩, fun j h q => ⟨q.1, s1 _ _ q.2⟩, fun vals hv hi => ?_⟩
    obtain ⟨t, x, hx, rfl⟩ := hv
    obtain ⟨y, h1, h2⟩ := s2 _ _ hx
    exact ⟨.int (i : Nat), y, _, _, rfl, ⟨t, by rw [Int.zero_add]⟩, h2, rfl, h1⟩
/-- zip -/
theorem turn_zipK {P : Program} {w : World} {K : PySem.W.Frag} {elts : List Expr} {kk : Nat} {tpos : Pos} {xs ys : List V} {N : Nat} (hN : N = min xs.length ys.length) (k1 k2 : Kd) (z TI TO i1 i2 : Addr) (S : ZipSep2 z TI TO i1 i2 (i1 :: k1.adr) (i2 :: k2.adr)) (n1 : i1 ∉ k1.adr) (n2 : i2 ∉ k2.adr) :
    Turn P w K (.Tuple elts kk tpos) (Jp N (fun H => k1.holds K H xs ∧ k2.holds K H ys) fun i y u => xs[i]? = some y ∧ ys[i]? = some u) [z, TI, TO, i1, i2] z
      (fun i h => IsZip h z TI TO .none ∧ IsTupOf2 h TI (.ref i1) (.ref i2) ∧ (∃ a b, IsTupOf2 h TO a b) ∧ k1.st i1 i h ∧ k2.st i2 i h) := by
  refine turn_pair (wr := [z, TO, i1, i2]) (by simp) (fun b h => ?_) (fun i h st b hb => ?_) (fun i h h' st kp => ?_) (fun A i s Q E st h => ?_) fun X hP hw hK hc i pins s σ H I st hd => ?_
  · have h' : b = z ∨ b = TO ∨ b = i1 ∨ b = i2 := by simpa using h
    rcases h' with q | q | q | q <;> simp [q]
  · obtain ⟨h1, h2, ⟨a, b', h3⟩, h4, h5⟩ := st
    have e' : b = z ∨ b = TI ∨ b = TO ∨ b = i1 ∨ b = i2 := by simpa using hb
    rcases e' with q | q | q | q | q
    · rw [q]; exact ⟨_, h1, fun v q => nomatch q⟩
    · rw [q]; exact ⟨_, h2, fun v q => nomatch q⟩
    · rw [q]; exact ⟨_, h3, fun v q => nomatch q⟩
    · rw [q]; exact (Kd.st_obj h4)
    · rw [q]; exact (Kd.st_obj h5)
  · obtain ⟨h1, h2, ⟨a, b', h3⟩, h4, h5⟩ := st
    exact ⟨kp z (by simp) _ h1, kp TI (by simp) _ h2, ⟨a, b', kp TO (by simp) _ h3⟩, Kd.st_at h4 (fun o q => kp i1 (by simp) o q), Kd.st_at h5 (fun o q => kp i2 (by simp) o q)⟩
  · exact wpAny_pyIter_zip st.1 h
  · subst hP hw hK
    obtain ⟨P1, St1, D1, a0, a1, a2⟩ := Kd.draws (A := X.A.in1) I (I.ok.hd hc) hd.1 n1 st.2.2.2.1
    obtain ⟨P2, St2, D2, b0, b1, b2⟩ := Kd.draws (A := X.A.in1) I (I.ok.hd hc) hd.2 n2 st.2.2.2.2
    refine ⟨_, _, _, _, _, WalksT.zipD2 S D1 D2, hN.symm, ⟨st.1, st.2.1, st.2.2.1, a0, b0⟩, fun j h q => ⟨q.1, q.2.1, q.2.2.1, a1 _ _ q.2.2.2.1, b1 _ _ q.2.2.2.2⟩, fun vals hv hi => ?_⟩
    obtain ⟨x1, x2, p1, p2, rfl⟩ := hv
    obtain ⟨y, h1, h2⟩ := a2 _ _ p1
    obtain ⟨u, h3, h4⟩ := b2 _ _ p2
    exact ⟨y, u, _, _, rfl, h2, h4, h1, h3⟩

/-! ### enumerate(v) begins -/
theorem meets_enumK {v : Value} {o : Obj} {C : Heap → Prop} (B : Begins v o C) :
    Meets (Builtin.«enumerate.__new__» ⟨[.type "enumerate", v], []⟩) (fun _ R s => C s.heap ∧
      R (.ok (.ret (.ref (s.heap.push o).objs.size))) { s with heap := (s.heap.push o).push { cls := .type "enumerate", data := .fields #[.none, .bool false, .ref s.heap.objs.size, rawInt 0, .none, .none] } }) :=
  .of_wp fun prog w A R s h => by
    obtain ⟨hp, g, d, tk, os⟩ := s
    obtain ⟨h1, h⟩ := h
    have hsub := sub_enumerate
    have q1 : ∀ {A' : Around} {E : Value → Shared → Prop} {Q : Value → Shared → Prop}, Q (.ref hp.objs.size) ⟨hp.push o, g, d, tk, os⟩ → wpAny (model prog w) A' (pyIter v) Q E ⟨hp, g, d, tk, os⟩ :=
      fun q => B.iter prog w _ _ ⟨hp, g, d, tk, os⟩ _ h1 q
    wp_walk using q1
    refine wpAny_stack_any fun st => wpAny_pure ?_
    split
    · rename_i c _ _ _ _ _
      cases (c == Value.type "enumerate")
      · wp_walk using q1
        exact ⟨_, rfl, h⟩
      · wp_walk using q1
        exact ⟨_, rfl, h⟩
    · wp_walk using q1
      exact ⟨_, rfl, h⟩
theorem enumK_begins {prog : Program} {w : World} {A : Around} {E : Value → Shared → Prop} {s : Shared} {v : Value} {o : Obj} {C : Heap → Prop} {Q : Value → Shared → Prop} (B : Begins v o C) (h1 : C s.heap)
    (h : ∀ h', IsEnum h' (s.heap.objs.size + 1) s.heap.objs.size 0 .none → h'.get? s.heap.objs.size = some o →
      (∀ b o, s.heap.get? b = some o → h'.get? b = some o) → Q (.ref (s.heap.objs.size + 1)) { s with heap := h' }) :
    wpAny (model prog w) A (call (.type "enumerate") [v]) Q E s := by
  refine callType_new F.called_enumerate (by decide) (F.typeCall_enumerate_1 _) (F.newCall_enumerate_1 _) (fun obj => F.args_object_init_2 obj _) F.entry_enumerate_new (meets_enumK B) ⟨h1, ?_⟩
  have hz : (s.heap.push o).objs.size = s.heap.objs.size + 1 := Heap.size_push ..
  show _ ∧ _
  rw [hz]
  have he := Heap.get?_push_size (s.heap.push o) (o := { cls := .type "enumerate", data := .fields #[.none, .bool false, .ref s.heap.objs.size, rawInt 0, .none, .none] }) rfl
  rw [hz] at he
  exact ⟨⟨_, he, rfl⟩, h _ he (Heap.get?_push_of_some _ (Heap.get?_push_size _ B.free)) fun b o x => Heap.get?_push_of_some _ (Heap.get?_push_of_some _ x)⟩
end Pv
end

/-! text PvIter2 -/
section
namespace Pv
open PySem L2 PySem.Spec PyProof.Rows
/-- what comes at a turn -/
def ItY (K : PySem.W.Frag) (G : Hp) (m : List Addr) (it : Item) (H : Hp) (x : V) (H' : Hp) : Prop :=
  match it with
  | .one v => H' = H ∧ RVr K G m v x
  | .two a b => ∃ T y z, x = .ref T ∧ H T = none ∧ H' = upd H T (.tup [y, z]) ∧ RVr K G m a y ∧ RVr K G m b z
def IW (K : PySem.W.Frag) (G : Hp) (m : List Addr) (items : List Item) (J : L2.It) : Prop :=
  Walk J items.length (fun H => Same G H) (fun i H x H' => ∃ it, items[i]? = some it ∧ ItY K G m it H x H')
abbrev RelI (L : Lay) : Hp → List Addr → List Item → L2.It → Prop := fun G m a b => IW L.K G m a b
def tI (L : Lay) (W : WX) (ev : REnv → Sto → R (List Item)) : TI := fun σ H R => ∃ G m μ ρ, Sok L.K G m μ H ∧ Eok L.K L.lk G m H ρ σ ∧ Kn L (fun c d H' => W c d σ H') (RelI L) G m H (ev ρ μ) R
theorem Kd.same {K : PySem.W.Frag} {G H : Hp} {ys : List V} {k : Kd} (h : k.holds K G ys) (s : Same G H) : k.holds K H ys := by
  cases k with
  | l a => exact s.seq h
  | t a => exact sqt_of s h
  | s z u => exact h
theorem rp_signs {K : PySem.W.Frag} {G : Hp} : ∀ l : List Nat, RpAll K G (l.map fun c => V.str ⟨#[c]⟩) (l.map fun c => .str ⟨#[c]⟩)
  | [] => .nil
  | c :: l => .cons (.str _) (rp_signs l)
/-- what a data tree is walked by -/
theorem kd_of {K : PySem.W.Frag} {G : Hp} {v : V} {u : Value} {x : PyData} {xs : List PyData} (r : Rp K G v x) (rv : RelV v u) (h : seqItems x = some xs) : ∃ (k : Kd) (ys : List V), u = k.val ∧ k.holds K G ys ∧ RpAll K G ys xs := by
  cases r with
  | @lst a vs ds h1 h2 =>
    cases h
    exact ⟨.l a, vs, rv, .inl (.inl h1), h2⟩
  | @tup a vs ds h1 h2 =>
    cases h
    exact ⟨.t a, vs, rv, h1, h2⟩
  | str z =>
    cases h
    obtain ⟨t, rfl⟩ := rv
    exact ⟨.s z t, _, rfl, rfl, rp_signs _⟩
  | _ => cases h
def Kd.it (K : PySem.W.Frag) : Kd → L2.It
  | .l a => Itl K a
  | .t a => Itt K a
  | .s z _ => Its z
theorem Kd.walk {K : PySem.W.Frag} {G : Hp} {m : List Addr} {ys : List V} {xs : List PyData} {k : Kd} (h : k.holds K G ys) (r : RpAll K G ys xs) : IW K G m (xs.map fun y => .one (.d y)) (k.it K) := by
  have hl := rpAll_length r
  have at_ : ∀ (i : Nat) (x : V), ys[i]? = some x → ∃ it : Item, (xs.map fun y => Item.one (.d y))[i]? = some it ∧ ∀ H, ItY K G m it H x H := fun i x e => by
    have hi := (List.getElem?_eq_some_iff.mp e).1
    have hx : xs[i]? = some xs[i] := by simp [hl ▸ hi]
    obtain ⟨v, h1, h2⟩ := dpAll_get r hx
    rw [e] at h1
    cases h1
    exact ⟨.one (.d xs[i]), by rw [List.getElem?_map, hx]; rfl, fun H => ⟨rfl, .d h2⟩⟩
  unfold IW
  rw [List.length_map, ← hl]
  cases k with
  | l a =>
    refine walk_list.mono (fun H s => Kd.same (k := .l a) h s) fun i H x H' hi s y => ?_
    obtain ⟨rfl, e⟩ := y
    obtain ⟨it, h1, h2⟩ := at_ i x e
    exact ⟨it, h1, h2 _⟩
  | t a =>
    refine walk_tup.mono (fun H s => Kd.same (k := .t a) h s) fun i H x H' hi s y => ?_
    obtain ⟨rfl, e⟩ := y
    obtain ⟨it, h1, h2⟩ := at_ i x e
    exact ⟨it, h1, h2 _⟩
  | s z u =>
    have h : ys = z.cps.toList.map fun c => V.str ⟨#[c]⟩ := h
    have hn : ys.length = z.cps.size := by rw [h, List.length_map, Array.length_toList]
    rw [hn]
    refine walk_str.mono (fun H s => trivial) fun i H x H' hi s y => ?_
    obtain ⟨rfl, c, e, rfl⟩ := y
    obtain ⟨it, h1, h2⟩ := at_ i _ (by rw [h, List.getElem?_map, Array.getElem?_toList, e]; rfl)
    exact ⟨it, h1, h2 _⟩
section
variable {X : Cx} {pins : List (Addr × Obj)} {σ : L2.St} {H : Hp} {s : Shared} {ys : List V} {tg : Expr} {R : L2.It → Hp → Prop} {E : Value → Shared → Prop}
theorem Kd.laid {k : Kd} (I : Inv X pins σ H s) (h : k.holds X.K H ys) (q : R (k.it X.K) H) : wpAny (model X.prog X.w) X.A (pyIter k.val) (PIE X pins σ tg R) E s := by
  cases k with
  | l a =>
    obtain ⟨its, rv, p, hz⟩ := I.list h
    exact wpAny_pyIter_list p.isList (pi_one (tk := s.toks) I _ (turn_list a _) ⟨_, Heap.get?_push_size _ rfl, rfl, rfl⟩ q)
  | t a =>
    obtain ⟨its, rv, p, hz⟩ := I.tuple h
    exact wpAny_pyIter_tuple (show s.heap.IsTuple a its.toArray from p) (pi_one (tk := s.toks) I _ (turn_tuple a _) ⟨_, Heap.get?_push_size _ rfl, rfl, rfl⟩ q)
  | s z t =>
    cases ha : z.cps.all (· < 128)
    · exact wpAny_pyIter_wide ha (pi_one (tk := s.toks) I _ (turn_str _ z t "str_iterator" (.inr rfl)) ⟨_, Heap.get?_push_size _ rfl, rfl, rfl⟩ q)
    · exact wpAny_pyIter_ascii ha (pi_one (tk := s.toks) I _ (turn_str _ z t "str_ascii_iterator" (.inl rfl)) ⟨_, Heap.get?_push_size _ rfl, rfl, rfl⟩ q)
end
section
variable {X : Cx} {fs : List Fn} {cls : List (Addr × List Str)} {W : WX} {e a b c tg : Expr} {ea eb ec : REnv → Sto → R RV} {pos p tpos : Pos} {elts : List Expr} {kk : Nat}
theorem s_iseq (he : PE X e (tV (layOf X fs cls) W ea)) : PI X tg e (tI (layOf X fs cls) W fun ρ μ => (ea ρ μ).bind fun v μ1 => match v with
    | .d x => lift ((seqItems x).map fun xs => xs.map fun y => .one (.d y)) μ1
    | _ => .bad) := by
  refine ⟨fun pins st σ H R I ⟨G, m, μ, ρ, s, en, k⟩ => ?_⟩
  refine thn (he.run pins st σ H _ I (tV_bind s en k)) fun u s1 ⟨x, H1, I1, r1, G1, m1, μ1, v, x1, s2, e1, rr, k1⟩ => ?_
  cases v with
  | loc n => exact k1.elim
  | scr n => exact k1.elim
  | d y =>
    obtain ⟨items, hi, k2⟩ := kn_lift k1
    obtain ⟨xs, h1, rfl⟩ := map_some hi
    obtain ⟨k, ys, rfl, h2, h3⟩ := kd_of (rvD rr) r1 h1
    exact Kd.laid I1 (Kd.same h2 s2.same) (k2.done s2 (Kd.walk h2 h3))
theorem inLim_of {i : Int} (h : inLim i = true) : -(2 ^ 62) ≤ i ∧ i < 2 ^ 62 := by
  unfold inLim at h
  have h := of_decide_eq_true h
  omega
theorem iw_rng {K : PySem.W.Frag} {G : Hp} {m : List Addr} {lo : Int} {n : Nat} : IW K G m (rngItems lo n) (Itr lo n) := by
  unfold IW rngItems
  rw [List.length_map, List.length_range]
  refine walk_range.mono (fun H s => trivial) fun i H x H' hi s y => ?_
  obtain ⟨rfl, rfl⟩ := y
  exact ⟨.one (.d (.int (lo + (i : Int)))), by rw [List.getElem?_map, List.getElem?_range hi]; rfl, rfl, .d (.int _)⟩
theorem iw_rngC {K : PySem.W.Frag} {G : Hp} {m : List Addr} {lo c : Int} {n : Nat} : IW K G m (rngItemsC lo c n) (Itc lo c n) := by
  unfold IW rngItemsC
  rw [List.length_map, List.length_range]
  refine walk_rangeC.mono (fun H s => trivial) fun i H x H' hi s y => ?_
  obtain ⟨rfl, rfl⟩ := y
  exact ⟨.one (.d (.int (lo + (i : Int) * c))), by rw [List.getElem?_map, List.getElem?_range hi]; rfl, rfl, .d (.int _)⟩
theorem PI.weak {tg iter : Expr} {t t' : TI} (h : PI X tg iter t) (k : ∀ σ H R, t' σ H R → t σ H R) : PI X tg iter t' := ⟨fun pins s σ H R I q => h.run pins s σ H R I (k _ _ _ q)⟩
theorem s_irng1 (hg : Gl X "range") (hm : X.mg "range" = none) (ha : PE X a (tV (layOf X fs cls) W ea)) (hs : starEach [a] X.env = (false, eval a X.env) :: starEach [] X.env) (hs' : starEach [a] X.env = [(false, eval a X.env)]) :
    PI X tg (.Call (.Name "range" p) [a] [] pos) (tI (layOf X fs cls) W fun ρ μ => (ea ρ μ).bind fun v μ1 => match v with
    | .d (.int j) => if inLim j then .ok (rngItems 0 j.toNat) μ1 else .bad
    | _ => .bad) :=
  PI.weak (pi_range1 hg hm (pa_cons ha pa_nil hs) hs') fun σ H R ⟨G, m, μ, ρ, s, en, k⟩ => by
    refine (tV_bind s en k).mono fun x H1 ⟨G1, m1, μ1, v, x1, s1, e1, r1, k1⟩ => ?_
    split at k1
    · rename_i j
      split at k1
      · rename_i hj
        cases rvD r1
        exact ⟨j, rfl, (inLim_of hj).1, (inLim_of hj).2, k1.done s1 iw_rng⟩
      · exact k1.elim
    · exact k1.elim
theorem s_irng2 (hg : Gl X "range") (hm : X.mg "range" = none) (ha : PE X a (tV (layOf X fs cls) W ea)) (hb : PE X b (tV (layOf X fs cls) W eb)) (hs : starEach [a, b] X.env = (false, eval a X.env) :: starEach [b] X.env) (hs2 : starEach [b] X.env = (false, eval b X.env) :: starEach [] X.env)
    (hs' : starEach [a, b] X.env = [(false, eval a X.env), (false, eval b X.env)]) (hs2' : starEach [b] X.env = [(false, eval b X.env)]) :
    PI X tg (.Call (.Name "range" p) [a, b] [] pos) (tI (layOf X fs cls) W fun ρ μ => (ea ρ μ).bind fun v μ1 => (eb ρ μ1).bind fun w μ2 => match v, w with
    | .d (.int i), .d (.int j) => if inLim i && inLim j then .ok (rngItems i (j - i).toNat) μ2 else .bad
    | _, _ => .bad) :=
  PI.weak (pi_range2 hg hm (pa_cons ha (pa_cons hb pa_nil hs2) hs) hs' hs2') fun σ H R ⟨G, m, μ, ρ, s, en, k⟩ => by
    refine (tV_bind s en k).mono fun x H1 ⟨G1, m1, μ1, v, x1, s1, e1, r1, k1⟩ => (tV_bind s1 e1 k1).mono fun y H2 ⟨G2, m2, μ2, w, x2, s2, e2, r2, k2⟩ => ?_
    have nb : ∃ i j, v = .d (.int i) ∧ w = .d (.int j) := by
      cases v with
      | d v => cases v with
        | int i => cases w with
          | d w => cases w with
            | int j => exact ⟨i, j, rfl, rfl⟩
            | _ => exact k2.elim
          | _ => exact k2.elim
        | _ => exact k2.elim
      | _ => exact k2.elim
    obtain ⟨i, j, rfl, rfl⟩ := nb
    dsimp only at k2
    split at k2
    · rename_i hj
      rw [Bool.and_eq_true] at hj
      cases rvD r1
      cases rvD r2
      exact ⟨i, j, rfl, ⟨(inLim_of hj.1).1, (inLim_of hj.1).2, (inLim_of hj.2).1, (inLim_of hj.2).2⟩, k2.done s2 iw_rng⟩
    · exact k2.elim
theorem s_irng3 (hg : Gl X "range") (hm : X.mg "range" = none) (ha : PE X a (tV (layOf X fs cls) W ea)) (hb : PE X b (tV (layOf X fs cls) W eb)) (hc : PE X c (tV (layOf X fs cls) W ec)) (hs : starEach [a, b, c] X.env = (false, eval a X.env) :: starEach [b, c] X.env)
    (hs1 : starEach [b, c] X.env = (false, eval b X.env) :: starEach [c] X.env) (hs2 : starEach [c] X.env = (false, eval c X.env) :: starEach [] X.env) (hpl : (backTo pos (starEach [b, c] X.env)).any (·.1) = false) :
    PI X tg (.Call (.Name "range" p) [a, b, c] [] pos) (tI (layOf X fs cls) W fun ρ μ => (ea ρ μ).bind fun v μ1 => (eb ρ μ1).bind fun w μ2 => (ec ρ μ2).bind fun u μ3 => match v, w, u with
    | .d (.int i), .d (.int j), .d (.int k) => if decide (k ≠ 0) && decide (k.natAbs < 1073741824) && Builtin.Range.small i j k && decide (0 ≤ Builtin.Range.rangeSize i j k) then .ok (rngItemsC i k (Builtin.Range.rangeSize i j k).toNat) μ3 else .bad
    | _, _, _ => .bad) :=
  PI.weak (pi_range3 hg hm (pa_cons ha (pa_cons hb (pa_cons hc pa_nil hs2) hs1) hs) hs hpl) fun σ H R ⟨G, m, μ, ρ, s, en, k⟩ => by
    refine (tV_bind s en k).mono fun x H1 ⟨G1, m1, μ1, v, x1, s1, e1, r1, k1⟩ => (tV_bind s1 e1 k1).mono fun y H2 ⟨G2, m2, μ2, w, x2, s2, e2, r2, k2⟩ => (tV_bind s2 e2 k2).mono fun z H3 ⟨G3, m3, μ3, u, x3, s3, e3, r3, k3⟩ => ?_
    have nb : ∃ i j l, v = .d (.int i) ∧ w = .d (.int j) ∧ u = .d (.int l) := by
      cases v with
      | d v => cases v with
        | int i => cases w with
          | d w => cases w with
            | int j => cases u with
              | d u => cases u with
                | int l => exact ⟨i, j, l, rfl, rfl, rfl⟩
                | _ => exact k3.elim
              | _ => exact k3.elim
            | _ => exact k3.elim
          | _ => exact k3.elim
        | _ => exact k3.elim
      | _ => exact k3.elim
    obtain ⟨i, j, l, rfl, rfl, rfl⟩ := nb
    dsimp only at k3
    split at k3
    · rename_i hj
      simp only [Bool.and_eq_true, decide_eq_true_eq] at hj
      cases rvD r1
      cases rvD r2
      cases rvD r3
      exact ⟨i, j, l, _, rfl, ⟨hj.1.1.1, hj.1.1.2, hj.1.2, (Int.toNat_of_nonneg hj.2).symm⟩, k3.done s3 iw_rngC⟩
    · exact k3.elim
theorem iw_pair {K : PySem.W.Frag} {G : Hp} {m : List Addr} {items : List Item} {N : Nat} {hold : Hp → Prop} {Y : Nat → V → V → Prop} (hN : N = items.length) (hh : ∀ H, Same G H → hold H)
    (hy : ∀ i y z, i < N → Y i y z → ∃ a b, items[i]? = some (.two a b) ∧ RVr K G m a y ∧ RVr K G m b z) : IW K G m items (Jp N hold Y) := by
  subst hN
  refine ⟨fun i H hi s => ⟨hi, hh H s⟩, fun H s => ⟨rfl, hh H s⟩, fun i H x H' hi s y => ?_⟩
  obtain ⟨T, y, z, h1, h2, h3, h4⟩ := y
  obtain ⟨a, b, h5, h6, h7⟩ := hy i y z hi h4
  exact ⟨.two a b, h5, T, y, z, h1, h2, h3, h6, h7⟩
theorem args1 {α : Type} {F : RV → Sto → R α} {ρ : REnv} {μ : Sto} : (((ea ρ μ).bind fun v μ1 => (R.ok ([] : List RV) μ1).bind fun vs μ2 => .ok (v :: vs) μ2).bind fun vs μ3 => match vs with | [v] => F v μ3 | _ => .bad) = (ea ρ μ).bind F := by
  cases ea ρ μ <;> rfl
theorem args2 {α : Type} {F : RV → RV → Sto → R α} {ρ : REnv} {μ : Sto} :
    (((ea ρ μ).bind fun v μ1 => ((eb ρ μ1).bind fun w μ2 => (R.ok ([] : List RV) μ2).bind fun vs μ3 => .ok (w :: vs) μ3).bind fun vs μ2 => .ok (v :: vs) μ2).bind fun vs μ3 => match vs with | [v, w] => F v w μ3 | _ => .bad) = (ea ρ μ).bind fun v μ1 => (eb ρ μ1).bind fun w μ2 => F v w μ2 := by
  cases ea ρ μ with
  | ok v μ1 =>
    show ((((eb ρ μ1).bind fun w μ2 => (R.ok ([] : List RV) μ2).bind fun vs μ3 => .ok (w :: vs) μ3).bind fun vs μ2 => .ok (v :: vs) μ2).bind _) = (eb ρ μ1).bind fun w μ2 => F v w μ2
    cases eb ρ μ1 <;> rfl
  | ex _ _ _ => rfl
  | bad => rfl
theorem s_ienum (hg : Gl X "enumerate") (hm : X.mg "enumerate" = none) (ha : PE X a (tV (layOf X fs cls) W ea)) (hs : starEach [a] X.env = (false, eval a X.env) :: starEach [] X.env) (hpl : (backTo pos (starEach [] X.env)).any (·.1) = false) :
    PI X (.Tuple elts kk tpos) (.Call (.Name "enumerate" p) [a] [] pos) (tI (layOf X fs cls) W fun ρ μ => (ea ρ μ).bind fun v μ1 => match v with
    | .d x => lift ((seqItems x).map enmItems) μ1
    | _ => .bad) := by
  refine ⟨fun pins st σ H R I ⟨G, m, μ, ρ, s, en, k⟩ => ?_⟩
  have k' : Kn (layOf X fs cls) (fun c d H' => W c d σ H') (RelI (layOf X fs cls)) G m H (((ea ρ μ).bind fun v μ1 => (Pv.R.ok ([] : List RV) μ1).bind fun vs μ2 => .ok (v :: vs) μ2).bind fun vs μ3 => match vs with
      | [v] => (fun v μ1 => match v with | RV.d x => lift ((seqItems x).map enmItems) μ1 | _ => .bad) v μ3
      | _ => .bad) R := by
    rw [args1]
    exact k
  refine Call_ (ld_blt I hg hm boot_enumerate (PyProof.Rows.callWith_type1 (thn ((s_cons ha s_nil hs).run pos pins st σ H _ I (tVs_bind s en k')) fun us s1 ⟨vs, H1, I1, r1, q1⟩ => ?_) hs hpl))
  obtain ⟨G1, m1, μ1, rs, x1, s2, e1, rr, k1⟩ := q1
  have hv : ∃ v, rs = [v] := by
    split at k1
    · exact ⟨_, rfl⟩
    · exact k1.elim
  obtain ⟨v, rfl⟩ := hv
  cases rr with
  | cons rr rn =>
  cases rn
  cases r1 with
  | cons r rq =>
    cases rq
    cases v with
    | loc n => exact k1.elim
    | scr n => exact k1.elim
    | d y =>
      obtain ⟨items, hi, k2⟩ := kn_lift k1
      obtain ⟨xs, h1, rfl⟩ := map_some hi
      obtain ⟨k, ys, rfl, h2, h3⟩ := kd_of (rvD rr) r h1
      obtain ⟨C, B, hC⟩ := Kd.begins I1 (Kd.same h2 s2.same)
      have bel := Kd.below I1 (Kd.same h2 s2.same)
      have hl := rpAll_length h3
      refine enumK_begins B hC fun h' he hit hk => wpAny_pyIter_enum he ?_
      have I2 : Inv X pins σ H1 { s1 with heap := h' } := I1.kept (t' := s1.toks) hk
      have n1 : s1.heap.objs.size ∉ k.adr := fun q => Nat.lt_irrefl _ (bel _ q)
      have n2 : s1.heap.objs.size + 1 ∉ k.adr := fun q => Nat.lt_irrefl _ (Nat.lt_of_le_of_lt (Nat.le_succ _) (bel _ q))
      refine ⟨s1.heap.objs.size + 1, [s1.heap.objs.size + 1, s1.heap.objs.size], _, _, H1, rfl, I2, turn_enumK (ys := ys) k (s1.heap.objs.size + 1) s1.heap.objs.size (Nat.succ_ne_self _) n2 n1, ⟨⟨.none, he⟩, Kd.first hit⟩, fun b hb => ?_, ?_⟩
      · have e' : b = s1.heap.objs.size + 1 ∨ b = s1.heap.objs.size := by simpa using hb
        have hle : s1.heap.objs.size ≤ b := by
          rcases e' with z | z
          · rw [z]; exact Nat.le_add_right _ _
          · rw [z]; exact Nat.le_refl _
        exact I1.fpOk hle (I1.hok.fresh hle)
      · refine k2.done s2 (iw_pair (by rw [enmItems, List.length_map, List.length_zipIdx, hl]) (fun H s => Kd.same h2 s) fun i y z hi q => ?_)
        obtain ⟨rfl, q⟩ := q
        have hx : xs[i]? = some (xs[i]'(hl ▸ hi)) := by simp
        obtain ⟨v, h4, h5⟩ := dpAll_get h3 hx
        rw [q] at h4
        cases h4
        exact ⟨.d (.int (i : Nat)), .d _, by rw [enmItems, List.getElem?_map, List.getElem?_zipIdx, hx]; simp, .d (.int _), .d h5⟩
theorem s_izip (hg : Gl X "zip") (hm : X.mg "zip" = none) (ha : PE X a (tV (layOf X fs cls) W ea)) (hb : PE X b (tV (layOf X fs cls) W eb)) (hs : starEach [a, b] X.env = (false, eval a X.env) :: starEach [b] X.env) (hs2 : starEach [b] X.env = (false, eval b X.env) :: starEach [] X.env) (hpl : (backTo pos (starEach [b] X.env)).any (·.1) = false) :
    PI X (.Tuple elts kk tpos) (.Call (.Name "zip" p) [a, b] [] pos) (tI (layOf X fs cls) W fun ρ μ => (ea ρ μ).bind fun v μ1 => (eb ρ μ1).bind fun w μ2 => match v, w with
    | .d x, .d y => match seqItems x, seqItems y with
      | some xs, some ys => .ok (zipItems xs ys) μ2
      | _, _ => .bad
    | _, _ => .bad) := by
  refine ⟨fun pins st σ H R I ⟨G, m, μ, ρ, s, en, k⟩ => ?_⟩
  have k' : Kn (layOf X fs cls) (fun c d H' => W c d σ H') (RelI (layOf X fs cls)) G m H (((ea ρ μ).bind fun v μ1 => ((eb ρ μ1).bind fun w μ2 => (Pv.R.ok ([] : List RV) μ2).bind fun vs μ3 => .ok (w :: vs) μ3).bind fun vs μ2 => .ok (v :: vs) μ2).bind fun vs μ3 => match vs with
      | [v, w] => (fun v w μ2 => match v, w with
        | RV.d x, RV.d y => match seqItems x, seqItems y with
          | some xs, some ys => Pv.R.ok (zipItems xs ys) μ2
          | _, _ => .bad
        | _, _ => .bad) v w μ3
      | _ => .bad) R := by
    rw [args2]
    exact k
  refine Call_ (ld_blt I hg hm PyProof.Rows.boot_zip (PyProof.Rows.callWith_type1 (thn ((s_cons ha (s_cons hb s_nil hs2) hs).run pos pins st σ H _ I (tVs_bind s en k')) fun us s1 ⟨vs, H1, I1, r1, q1⟩ => ?_) hs hpl))
  obtain ⟨G1, m1, μ1, rs, x1, s2, e1, rr, k1⟩ := q1
  have hv : ∃ v w, rs = [v, w] := by
    split at k1
    · exact ⟨_, _, rfl⟩
    · exact k1.elim
  obtain ⟨v, w, rfl⟩ := hv
  cases rr with
  | cons rr rn =>
  cases rn with
  | cons ru rn =>
  cases rn
  cases r1 with
  | cons r rq =>
  cases rq with
  | cons r' rq =>
  cases rq
  cases v with
  | loc n => exact k1.elim
  | scr n => exact k1.elim
  | d x =>
  cases w with
  | loc n => exact k1.elim
  | scr n => exact k1.elim
  | d y =>
  dsimp only at k1
  cases h1 : seqItems x with
  | none => rw [h1] at k1; exact k1.elim
  | some xs =>
  cases h2 : seqItems y with
  | none => rw [h1, h2] at k1; exact k1.elim
  | some ys =>
  rw [h1, h2] at k1
  obtain ⟨ka, vs, rfl, a2, a3⟩ := kd_of (rvD rr) r h1
  obtain ⟨kb, ws, rfl, b2, b3⟩ := kd_of (rvD ru) r' h2
  obtain ⟨C1, B1, hC1⟩ := Kd.begins I1 (Kd.same a2 s2.same)
  obtain ⟨C2, B2, hC2⟩ := Kd.begins I1 (Kd.same b2 s2.same)
  have l1 := rpAll_length a3
  have l2 := rpAll_length b3
  have be1 := Kd.below I1 (Kd.same a2 s2.same)
  have be2 := Kd.below I1 (Kd.same b2 s2.same)
  refine zip_begins2 B1 B2 hC1 hC2 fun h' hz hTI hTO hi1 hi2 hsz hk => wpAny_pyIter_zip hz ?_
  have I2 : Inv X pins σ H1 { s1 with heap := h' } := I1.kept (t' := s1.toks) hk
  have n1 : s1.heap.objs.size ∉ ka.adr := fun q => Nat.lt_irrefl _ (be1 _ q)
  have n2 : s1.heap.objs.size + 1 ∉ kb.adr := fun q => Nat.lt_irrefl _ (Nat.lt_of_le_of_lt (Nat.le_succ _) (be2 _ q))
  refine ⟨s1.heap.objs.size + 4, [s1.heap.objs.size + 4, s1.heap.objs.size + 2, s1.heap.objs.size + 3, s1.heap.objs.size, s1.heap.objs.size + 1], _, _, H1, rfl, I2,
    turn_zipK (xs := vs) (ys := ws) rfl ka kb (s1.heap.objs.size + 4) (s1.heap.objs.size + 2) (s1.heap.objs.size + 3) s1.heap.objs.size (s1.heap.objs.size + 1) (zip_sep2 be1 be2) n1 n2, ⟨hz, hTI, ⟨_, _, hTO⟩, Kd.first hi1, Kd.first hi2⟩, fun c hcm => ?_, ?_⟩
  · have e' : c = s1.heap.objs.size + 4 ∨ c = s1.heap.objs.size + 2 ∨ c = s1.heap.objs.size + 3 ∨ c = s1.heap.objs.size ∨ c = s1.heap.objs.size + 1 := by simpa using hcm
    have hle : s1.heap.objs.size ≤ c := by
      rcases e' with z | z | z | z | z
      · rw [z]; exact Nat.le_add_right _ _
      · rw [z]; exact Nat.le_add_right _ _
      · rw [z]; exact Nat.le_add_right _ _
      · rw [z]; exact Nat.le_refl _
      · rw [z]; exact Nat.le_add_right _ _
    exact I1.fpOk hle (I1.hok.fresh hle)
  · refine k1.done s2 (iw_pair (by rw [zipItems, List.length_map, List.length_zip, l1, l2]) (fun H s => ⟨Kd.same a2 s, Kd.same b2 s⟩) fun i y z hi q => ?_)
    have q1 : i < xs.length := by omega
    have q2 : i < ys.length := by omega
    have hx : xs[i]? = some xs[i] := by simp [q1]
    have hy : ys[i]? = some ys[i] := by simp [q2]
    obtain ⟨v, h4, h5⟩ := dpAll_get a3 hx
    obtain ⟨u, h6, h7⟩ := dpAll_get b3 hy
    rw [q.1] at h4
    cases h4
    rw [q.2] at h6
    cases h6
    exact ⟨.d _, .d _, by rw [zipItems, List.getElem?_map, show (xs.zip ys)[i]? = some (xs[i], ys[i]) from List.getElem?_zip_eq_some.mpr ⟨hx, hy⟩]; rfl, .d h5, .d h7⟩
end
end Pv
end

/-! text PvTest -/
section
/-! Pv, part 7: comparisons as tests; and, or of one part. -/
namespace Pv
open PySem L2
section
variable {X : Cx} {fs : List Fn} {cls : List (Addr × List Str)} {W : WX} {a b c e : Expr} {ea eb ec : REnv → Sto → R RV} {pos : Pos}
theorem tT_tV {L : Lay} {ev : REnv → Sto → R RV} {σ : L2.St} {H : Hp} {Q : Bool → Hp → Prop} (hb : ∀ ρ μ v μ', ev ρ μ = .ok v μ' → ∃ k, v = .d (.bool k)) (h : tT L W ev σ H Q) : tV L W ev σ H fun x H' => ∃ k, x = .bl k ∧ Q k H' := by
  obtain ⟨G, m, μ, ρ, s, en, k⟩ := h
  refine ⟨G, m, μ, ρ, s, en, ?_⟩
  cases q : ev ρ μ with
  | ok v μ' =>
    obtain ⟨t, rfl⟩ := hb _ _ _ _ q
    have k : Kn L (fun c d H' => W c d σ H') RelB G m H ((ev ρ μ).bind fun v μ1 => lift (truR v) μ1) Q := k
    rw [q] at k
    intro G' m' H' x x1 s1 r
    cases rvD r
    exact ⟨t, rfl, k G' m' H' t x1 s1 rfl⟩
  | ex c f μ' =>
    have k : Kn L (fun c d H' => W c d σ H') RelB G m H ((ev ρ μ).bind fun v μ1 => lift (truR v) μ1) Q := k
    rw [q] at k
    exact k
  | bad =>
    have k : Kn L (fun c d H' => W c d σ H') RelB G m H ((ev ρ μ).bind fun v μ1 => lift (truR v) μ1) Q := k
    rw [q] at k
    exact k.elim
def cmpE (f : PyData → PyData → Option Bool) (ea eb : REnv → Sto → R RV) : REnv → Sto → R RV := fun ρ μ => (ea ρ μ).bind fun x μ1 => (eb ρ μ1).bind fun y μ2 => lift ((twoB f x y).map fun k => .d (.bool k)) μ2
theorem cmpE_bool {f : PyData → PyData → Option Bool} : ∀ ρ μ v μ', cmpE f ea eb ρ μ = .ok v μ' → ∃ k, v = .d (.bool k) := by
  intro ρ μ v μ' h
  unfold cmpE at h
  cases q : ea ρ μ with
  | ok x μ1 =>
    rw [q] at h
    have h : ((eb ρ μ1).bind fun y μ2 => lift ((twoB f x y).map fun k => RV.d (.bool k)) μ2) = .ok v μ' := h
    cases q2 : eb ρ μ1 with
    | ok y μ2 =>
      rw [q2] at h
      have h : lift ((twoB f x y).map fun k => RV.d (.bool k)) μ2 = .ok v μ' := h
      cases q3 : twoB f x y with
      | none => rw [q3] at h; cases h
      | some t => rw [q3] at h; cases h; exact ⟨t, rfl⟩
    | ex _ _ _ => rw [q2] at h; cases h
    | bad => rw [q2] at h; cases h
  | ex _ _ _ => rw [q] at h; cases h
  | bad => rw [q] at h; cases h
theorem w_cmp {f : PyData → PyData → Option Bool} {σ : L2.St} {H : Hp} {Q : VK} (h : tV (layOf X fs cls) W (cmpE f ea eb) σ H Q) : tOp (rB2 X.K f) (tV (layOf X fs cls) W ea) (tV (layOf X fs cls) W eb) σ H Q := by
  obtain ⟨G, m, μ, ρ, s, en, k⟩ := h
  refine (tV_bind s en k).mono fun x H1 ⟨G1, m1, μ1, va, x1, s1, e1, r1, k1⟩ => (tV_bind s1 e1 k1).mono fun y H2 ⟨G2, m2, μ2, vb, x2, s2, e2, r2, k2⟩ => ?_
  obtain ⟨w, hw, k3⟩ := kn_lift k2
  cases q : twoB f va vb with
  | none => rw [q] at hw; cases hw
  | some t =>
    rw [q] at hw
    cases hw
    obtain ⟨dx, dy, rfl, rfl, hf⟩ := twoB_cases q
    exact ⟨G2, dx, dy, t, s2.same, rvD (r1.ext x2), rvD r2, hf, k3.done s2 (.d (.bl _))⟩
theorem st_cmp {op : CmpOp} {f : PyData → PyData → Option Bool} (ho : OpR X (compareOp op) (rB2 X.K f)) (hm : behindInMarks op b = false) (ha : PE X a (tV (layOf X fs cls) W ea)) (hb : PE X b (tV (layOf X fs cls) W eb)) :
    PT X (.Compare a [op] [b] pos) (tT (layOf X fs cls) W (cmpE f ea eb)) := PT.weak (pt_cmpR ho ha hb hm) fun σ H Q h => w_cmp (tT_tV cmpE_bool h)
def chainE (f g : PyData → PyData → Option Bool) (ea eb ec : REnv → Sto → R RV) : REnv → Sto → R RV := fun ρ μ => (ea ρ μ).bind fun x μ1 => (eb ρ μ1).bind fun y μ2 => match twoB f x y with
  | some true => (ec ρ μ2).bind fun z μ3 => lift ((twoB g y z).map fun k => .d (.bool k)) μ3
  | some false => .ok (.d (.bool false)) μ2
  | none => .bad
theorem chainE_bool {f g : PyData → PyData → Option Bool} : ∀ ρ μ v μ', chainE f g ea eb ec ρ μ = .ok v μ' → ∃ k, v = .d (.bool k) := by
  intro ρ μ v μ' h
  unfold chainE at h
  cases q : ea ρ μ with
  | ok x μ1 =>
    rw [q, R.bind_ok] at h
    cases q2 : eb ρ μ1 with
    | ok y μ2 =>
      rw [q2, R.bind_ok] at h
      cases q3 : twoB f x y with
      | none => rw [q3] at h; cases h
      | some t =>
        rw [q3] at h
        cases t with
        | false => cases h; exact ⟨_, rfl⟩
        | true =>
          dsimp only at h
          cases q4 : ec ρ μ2 with
          | ok z μ3 =>
            rw [q4, R.bind_ok] at h
            cases q5 : twoB g y z with
            | none => rw [q5] at h; cases h
            | some t => rw [q5] at h; cases h; exact ⟨t, rfl⟩
          | ex _ _ _ => rw [q4] at h; cases h
          | bad => rw [q4] at h; cases h
    | ex _ _ _ => rw [q2] at h; cases h
    | bad => rw [q2] at h; cases h
  | ex _ _ _ => rw [q] at h; cases h
  | bad => rw [q] at h; cases h
theorem w_chain {f g : PyData → PyData → Option Bool} {σ : L2.St} {H : Hp} {Q : VK} (h : tV (layOf X fs cls) W (chainE f g ea eb ec) σ H Q) : tChain (rB2 X.K f) (rB2 X.K g) (tV (layOf X fs cls) W ea) (tV (layOf X fs cls) W eb) (tV (layOf X fs cls) W ec) σ H Q := by
  obtain ⟨G, m, μ, ρ, s, en, k⟩ := h
  refine (tV_bind s en k).mono fun x H1 ⟨G1, m1, μ1, va, x1, s1, e1, r1, k1⟩ => (tV_bind s1 e1 k1).mono fun y H2 ⟨G2, m2, μ2, vb, x2, s2, e2, r2, k2⟩ => ?_
  cases q : twoB f va vb with
  | none => rw [q] at k2; exact k2.elim
  | some t =>
    rw [q] at k2
    obtain ⟨dx, dy, rfl, rfl, hf⟩ := twoB_cases q
    refine ⟨G2, dx, dy, t, s2.same, rvD (r1.ext x2), rvD r2, hf, t, rfl, ?_⟩
    cases t with
    | false =>
      rw [if_neg Bool.false_ne_true]
      exact k2.done s2 (.d (.bl _))
    | true =>
      rw [if_pos rfl]
      refine (tV_bind s2 e2 k2).mono fun z H3 ⟨G3, m3, μ3, vc, x3, s3, e3, r3, k3⟩ => ?_
      obtain ⟨w, hw, k4⟩ := kn_lift k3
      cases q2 : twoB g (.d dy) vc with
      | none => rw [q2] at hw; cases hw
      | some t =>
        rw [q2] at hw
        cases hw
        obtain ⟨dy', dz, hy, rfl, hg⟩ := twoB_cases q2
        cases hy
        exact ⟨G3, dy, dz, t, s3.same, rvD (r2.ext x3), rvD r3, hg, k4.done s3 (.d (.bl _))⟩
theorem st_chain {op op' : CmpOp} {f g : PyData → PyData → Option Bool} (ho : OpR X (compareOp op) (rB2 X.K f)) (ho' : OpR X (compareOp op') (rB2 X.K g)) (hm : lastMarks [op, op'] [b, c] = false)
    (ha : PE X a (tV (layOf X fs cls) W ea)) (hb : PE X b (tV (layOf X fs cls) W eb)) (hc : PE X c (tV (layOf X fs cls) W ec)) :
    PT X (.Compare a [op, op'] [b, c] pos) (tT (layOf X fs cls) W (chainE f g ea eb ec)) := PT.weak (pt_chain ho ho' ha hb hc hm) fun σ H Q h => w_chain (tT_tV chainE_bool h)
theorem s_bool1 {op : BoolOp} {t : TE} (h : PE X a t) : PE X (.BoolOp op [a] pos) t := ⟨fun pins s σ H Q I q => h.run pins s σ H Q I q⟩
end
end Pv
end

/-! text PvDict -/
section
/-! Pv, part 8: texts from values, dicts. -/
namespace Pv
open PySem L2
section
variable {X : Cx} {fs : List Fn} {cls : List (Addr × List Str)} {W : WX} {a b c e : Expr} {parts : List Expr} {ea eb ec : REnv → Sto → R RV} {eas : REnv → Sto → R (List RV)} {pos p : Pos} {j : Nat}
def SJ (X : Cx) (fs : List Fn) (cls : List (Addr × List Str)) (W : WX) (parts : List Expr) (ev : Str → REnv → Sto → R RV) : Prop :=
  ∃ ts, PJ X parts ts ∧ ∀ acc σ H Q, tV (layOf X fs cls) W (ev acc) σ H Q → tJs ts acc σ H fun out H1 => Q (.str out) H1
theorem sj_nil : SJ X fs cls W [] (fun acc _ μ => .ok (.d (.str acc)) μ) :=
  ⟨[], .nil, fun acc σ H Q ⟨G, m, μ, ρ, s, en, k⟩ => k.done s (.d (.str _))⟩
theorem fmt_of {K : PySem.W.Frag} {G : Hp} {m : List Addr} {v : RV} {x : V} {y : Str} (r : RVr K G m v x) (h : fmtR v = some y) : (x = .str y ∧ y.length ≤ sizeLine) ∨ ∃ i : Int, x = .int i ∧ i.natAbs.log2 < 1920 ∧ y = toString i := by
  cases v with
  | loc n => cases h
  | scr n => cases h
  | d dx =>
    have h : fmtD dx = some y := h
    cases rvD r with
    | str z =>
      simp only [fmtD] at h
      split at h
      · rename_i hl; cases h; exact .inl ⟨rfl, hl⟩
      · cases h
    | int i =>
      simp only [fmtD] at h
      split at h
      · rename_i hl; cases h; exact .inr ⟨i, rfl, hl, rfl⟩
      · cases h
    | _ => cases h
theorem fmt_bind {ev : Str → REnv → Sto → R RV} {acc : Str} {σ : L2.St} {H : Hp} {Q : VK}
    (h : tV (layOf X fs cls) W (fun ρ μ => (ea ρ μ).bind fun v μ1 => match fmtR v with | some y => if (acc ++ y).length ≤ sizeLine then ev (acc ++ y) ρ μ1 else .bad | none => .bad) σ H Q) :
    tV (layOf X fs cls) W ea σ H fun x H1 => ∃ y : Str, ((x = .str y ∧ y.length ≤ sizeLine) ∨ ∃ i : Int, x = .int i ∧ i.natAbs.log2 < 1920 ∧ y = toString i) ∧ (acc ++ y).length ≤ sizeLine ∧ tV (layOf X fs cls) W (ev (acc ++ y)) σ H1 Q := by
  obtain ⟨G, m, μ, ρ, s, en, k⟩ := h
  refine (tV_bind s en k).mono fun x H1 ⟨G1, m1, μ1, v, x1, s1, e1, r1, k1⟩ => ?_
  cases q : fmtR v with
  | none => rw [q] at k1; exact k1.elim
  | some y =>
    rw [q] at k1
    dsimp only at k1
    split at k1
    · rename_i hl
      exact ⟨y, fmt_of r1 q, hl, G1, m1, μ1, ρ, s1, e1, k1⟩
    · exact k1.elim
theorem sj_fmt {ev : Str → REnv → Sto → R RV} (ha : PE X e (tV (layOf X fs cls) W ea)) (hr : SJ X fs cls W parts ev) :
    SJ X fs cls W (.FormattedValue e (-1) none p :: parts) (fun acc ρ μ => (ea ρ μ).bind fun v μ1 => match fmtR v with | some y => if (acc ++ y).length ≤ sizeLine then ev (acc ++ y) ρ μ1 else .bad | none => .bad) := by
  obtain ⟨ts, h1, h2⟩ := hr
  refine ⟨_, .cons (pe_fmt ha) h1, fun acc σ H Q h => ?_⟩
  refine (fmt_bind h).mono fun x H1 ⟨y, hx, hl, hq⟩ => ?_
  rcases hx with ⟨rfl, hy⟩ | ⟨i, rfl, hi, rfl⟩
  · exact .inl ⟨y, rfl, hy, y, rfl, hl, h2 _ _ _ _ hq⟩
  · exact .inr ⟨i, rfl, hi, _, rfl, hl, h2 _ _ _ _ hq⟩
theorem sj_str {ev : Str → REnv → Sto → R RV} {x : Str} (hr : SJ X fs cls W parts ev) :
    SJ X fs cls W (.Constant (.str x) j p :: parts) (fun acc ρ μ => (R.ok (.d (.str x)) μ : R RV).bind fun v μ1 => match fmtR v with | some y => if (acc ++ y).length ≤ sizeLine then ev (acc ++ y) ρ μ1 else .bad | none => .bad) := by
  obtain ⟨ts, h1, h2⟩ := hr
  refine ⟨_, .cons pe_str h1, fun acc σ H Q h => ?_⟩
  obtain ⟨G, m, μ, ρ, s, en, k⟩ := fmt_bind h
  obtain ⟨y, hx, hl, hq⟩ := k.done s (.d (.str x))
  rcases hx with ⟨e, hy⟩ | ⟨i, e, _⟩
  · cases e
    exact ⟨x, rfl, hl, h2 _ _ _ _ hq⟩
  · cases e
theorem s_joined {v1 v2 : Expr} {rest : List Expr} {ev : Str → REnv → Sto → R RV} (h : SJ X fs cls W (v1 :: v2 :: rest) ev) : PE X (.JoinedStr (v1 :: v2 :: rest) pos) (tV (layOf X fs cls) W (ev Str.empty)) := by
  obtain ⟨ts, h1, h2⟩ := h
  exact PE.weak (pe_joined h1) fun σ H Q h => h2 _ _ _ _ h
theorem str_empty_append (y : Str) : Str.empty ++ y = y := by
  cases y
  show (⟨#[] ++ _⟩ : Str) = _
  simp
theorem s_joined1 (ha : PE X e (tV (layOf X fs cls) W ea)) : PE X (.JoinedStr [.FormattedValue e (-1) none p] pos) (tV (layOf X fs cls) W (fun ρ μ => (ea ρ μ).bind fun v μ1 => match fmtR v with
    | some y => if (Str.empty ++ y).length ≤ sizeLine then .ok (.d (.str (Str.empty ++ y))) μ1 else .bad
    | none => .bad)) :=
  PE.weak (pe_joined1 (pe_fmt ha)) fun σ H Q h => by
    refine (fmt_bind (ev := fun acc _ μ => .ok (.d (.str acc)) μ) h).mono fun x H1 ⟨y, hx, hl, hq⟩ => ?_
    obtain ⟨G, m, μ, ρ, s, en, k⟩ := hq
    have q := k.done s (.d (.str _))
    rw [str_empty_append] at q
    rcases hx with ⟨rfl, hy⟩ | ⟨i, rfl, hi, rfl⟩
    · exact .inl ⟨y, rfl, hy, q⟩
    · exact .inr ⟨i, rfl, hi, q⟩

/-! ### dicts -/
abbrev KR (K : PySem.W.Frag) (G : Hp) (m : List Addr) : List (Key × RV) → List (Key × V) → Prop := Paired fun p q => p.1 = q.1 ∧ RVr K G m p.2 q.2
theorem kr_get {K : PySem.W.Frag} {G : Hp} {m : List Addr} {k : Key} {v : RV} : ∀ {kvs : List (Key × RV)} {kws : List (Key × V)}, KR K G m kvs kws → getK kvs k = some v → ∃ x, valV kws k = some x ∧ RVr K G m v x
  | _, _, .nil, h => by cases h
  | _, _, .cons (a := p) (b := q) ⟨e, r⟩ t, h => by
    by_cases hk : p.1 = k
    · have h1 : ∀ l, getK (p :: l) k = some p.2 := fun l => by simp [getK, List.find?_cons, hk]
      rw [h1] at h
      cases h
      exact ⟨q.2, valV_pos (by rw [← e]; exact hk), r⟩
    · have h1 : ∀ r, getK (p :: r) k = getK r k := fun r => by simp [getK, List.find?_cons, hk]
      rw [h1] at h
      obtain ⟨x, h2, h3⟩ := kr_get t h
      exact ⟨x, by rw [valV_neg (by rw [← e]; exact hk)]; exact h2, h3⟩
theorem kr_any {K : PySem.W.Frag} {G : Hp} {m : List Addr} {k : Key} {kvs : List (Key × RV)} {kws : List (Key × V)} (h : KR K G m kvs kws) : (kvs.any fun kv => decide (kv.1 = k)) = (kws.any fun kv => decide (kv.1 = k)) := by
  induction h with
  | nil => rfl
  | cons a t ih => simp only [List.any_cons, ih, a.1]
theorem kr_put {K : PySem.W.Frag} {G : Hp} {m : List Addr} {k : Key} {v : RV} {x : V} {kvs : List (Key × RV)} {kws : List (Key × V)} (h : KR K G m kvs kws) (r : RVr K G m v x) : KR K G m (putK kvs k v) (L2.putK kws k x) := by
  unfold putK L2.putK
  rw [kr_any h]
  generalize (kws.any fun kv => decide (kv.1 = k)) = bb
  cases bb
  rotate_left
  · rw [if_pos rfl, if_pos rfl]
    induction h with
    | nil => exact .nil
    | @cons p q _ _ a t ih =>
      obtain ⟨e, rr⟩ := a
      simp only [List.map_cons]
      refine .cons ?_ ih
      by_cases hk : p.1 = k
      · rw [if_pos hk, if_pos (e ▸ hk)]; exact ⟨e, r⟩
      · rw [if_neg hk, if_neg (e ▸ hk)]; exact ⟨e, rr⟩
  · rw [if_neg Bool.false_ne_true, if_neg Bool.false_ne_true]
    induction h with
    | nil => exact .cons ⟨rfl, r⟩ .nil
    | cons a t ih => exact .cons a ih
theorem kr_merge {K : PySem.W.Frag} {G : Hp} {m : List Addr} {more : List (Key × RV)} {more' : List (Key × V)} (h : KR K G m more more') : ∀ {kvs : List (Key × RV)} {kws : List (Key × V)}, KR K G m kvs kws →
    KR K G m (more.foldl (fun a kv => putK a kv.1 kv.2) kvs) (mergeK kws more') := by
  induction h with
  | nil => exact fun h => h
  | @cons p q _ _ a t ih =>
    intro kvs kws h
    have z := ih (kr_put (k := p.1) h a.2)
    unfold mergeK at z ⊢
    rw [List.foldl_cons, List.foldl_cons, ← a.1]
    exact z
theorem kr_dict {K : PySem.W.Frag} {G : Hp} {m : List Addr} {kvs : List (Key × RV)} {kws : List (Key × V)} (h : KR K G m kvs kws) : KR K G m (dictOf kvs) (mergeK [] kws) := kr_merge h .nil
theorem kr_zip {K : PySem.W.Frag} {G : Hp} {m : List Addr} : ∀ {ks : List Key} {vs : List RV} {xs : List V}, RVs K G m vs xs → KR K G m (ks.zip vs) (ks.zip xs)
  | [], _, _, _ => .nil
  | _ :: _, _, _, .nil => .nil
  | k :: ks, _, _, .cons a t => .cons ⟨rfl, a⟩ (kr_zip t)
/-- a display's pairs -/
def SP' (X : Cx) (fs : List Fn) (cls : List (Addr × List Str)) (W : WX) (pos : Pos) (keys : List (Option Expr)) (values : List Expr) (ks : List Key) (ev : REnv → Sto → R (List RV)) : Prop :=
  ∃ trs, PPs X pos keys values trs ∧ keys.all (·.isSome) = true ∧ keys.length = values.length ∧ keys.length = ks.length ∧ values.length = ks.length ∧
    ∀ σ H (Q : List V → Hp → Prop) (Q' : List (V × V) → Hp → Prop), tVs (layOf X fs cls) W ev σ H Q → (∀ vs H1, vs.length = ks.length → Q vs H1 → Q' ((ks.map kV).zip vs) H1) → tPairs trs σ H Q'
def keyC : Const → Option Key
  | .int i => some (.inl i)
  | .str x => some (.inr x)
  | _ => none
theorem pe_key {k : Key} {cn : Const} (h : keyC cn = some k) : PE X (.Constant cn j p) (tC (kV k)) := by
  cases cn <;> cases h
  · exact pe_int
  · exact pe_str
theorem sp_nil : SP' X fs cls W pos [] [] [] (fun _ μ => .ok [] μ) :=
  ⟨[], pps_nil, rfl, rfl, rfl, rfl, fun σ H Q Q' ⟨G, m, μ, ρ, s, en, k⟩ hq => hq [] H rfl (k.done s .nil)⟩
theorem sp_cons {k : Key} {kx : Expr} {keys : List (Option Expr)} {values : List Expr} {ks : List Key} (hk : PE X kx (tC (kV k))) (ha : PE X e (tV (layOf X fs cls) W ea)) (hr : SP' X fs cls W pos keys values ks eas) :
    SP' X fs cls W pos (some kx :: keys) (e :: values) (k :: ks) (fun ρ μ => (ea ρ μ).bind fun v μ1 => (eas ρ μ1).bind fun vs μ2 => .ok (v :: vs) μ2) := by
  obtain ⟨trs, h1, h2, h3, h4, h6, h5⟩ := hr
  refine ⟨_, pps_cons hk ha h1, by simp only [List.all_cons, h2, Option.isSome_some, Bool.and_self], by simp [h3], by simp [h4], by simp [h6], fun σ H Q Q' ⟨G, m, μ, ρ, s, en, k⟩ hq => ?_⟩
  refine (tV_bind s en k).mono fun x H1 ⟨G1, m1, μ1, va, x1, s1, e1, r1, k1⟩ => ?_
  exact h5 σ H1 _ _ (tVs_bind s1 e1 k1) fun xs H2 hl ⟨G2, m2, μ2, vs, x2, s2, e2, r2, k2⟩ => hq (x :: xs) H2 (by simp [hl]) (k2.done s2 (.cons (r1.ext x2) r2))
end
end Pv
end

/-! text PvDict2 -/
section
namespace Pv
open PySem L2
section
variable {α β γ δ : Type} {L : Lay} {W : Value → Option Addr → Hp → Prop} {Rel : Hp → List Addr → α → β → Prop} {Rel2 : Hp → List Addr → γ → δ → Prop} {G G1 H H1 : Hp} {m m1 : List Addr} {r : R α} {Q : β → Hp → Prop}
theorem Kn.ext (e : Ext G m H G1 m1 H1) (h : Kn L W Rel G m H r Q) : Kn L W Rel G1 m1 H1 r Q := by
  cases r with
  | ok a μ => exact fun G' m' H' b e' s rl => h G' m' H' b (e.trans e') s rl
  | ex c fs μ => exact fun G' m' H' cls d e' s rl => h G' m' H' cls d (e.trans e') s rl
  | bad => exact h
/-- as Kn.bind; the rest as seen from the first state -/
theorem Kn.bind0 {f : α → Sto → R γ} {Q2 : δ → Hp → Prop} (h : Kn L W Rel2 G m H (r.bind f) Q2) :
    Kn L W Rel G m H r fun b H1 => ∃ G1 m1 μ1 a, Ext G m H G1 m1 H1 ∧ Sok L.K G1 m1 μ1 H1 ∧ Rel G1 m1 a b ∧ Kn L W Rel2 G m H (f a μ1) Q2 := by
  cases r with
  | ok a μ => exact fun G1 m1 H1 b e s rl => ⟨G1, m1, μ, a, e, s, rl, h⟩
  | ex c fs μ => exact h
  | bad => exact h
theorem Kn.bindAt {G0 H0 : Hp} {m0 : List Addr} {f : α → Sto → R γ} {Q2 : δ → Hp → Prop} (x : Ext G m H G0 m0 H0) (h : Kn L W Rel2 G m H (r.bind f) Q2) :
    Kn L W Rel G0 m0 H0 r fun b H1 => ∃ G1 m1 μ1 a, Ext G0 m0 H0 G1 m1 H1 ∧ Sok L.K G1 m1 μ1 H1 ∧ Rel G1 m1 a b ∧ Kn L W Rel2 G m H (f a μ1) Q2 := by
  cases r with
  | ok a μ => exact fun G1 m1 H1 b e s rl => ⟨G1, m1, μ, a, e, s, rl, h⟩
  | ex c fs μ => exact Kn.ext (r := (.ex c fs μ : R α)) (Q := fun _ _ => True) (Rel := Rel) x h
  | bad => exact h
theorem RVr.up {K : PySem.W.Frag} {v : RV} {x : V} (h : RVr K G m v x) (g : Same G G1) (mx : ∃ t, m1 = m ++ t) : RVr K G1 m1 v x := by
  obtain ⟨t, rfl⟩ := mx
  cases h with
  | d h => exact .d (dp_same g _ _ h)
  | loc h => exact .loc (by rw [List.getElem?_append_left (List.getElem?_eq_some_iff.mp h).1]; exact h)
  | scr h => exact .scr (g.seq h)
theorem ObR.up {K : PySem.W.Frag} {ob : Ob} {ho : HO} (h : ObR K G m ob ho) (g : Same G G1) (mx : ∃ t, m1 = m ++ t) : ObR K G1 m1 ob ho := by
  cases ob with
  | lst xs => cases ho <;> first | exact Paired.mapP h fun _ _ z => RVr.up z g mx | exact h
  | dict kvs => cases ho <;> first | exact Paired.mapP h fun _ _ z => ⟨z.1, RVr.up z.2 g mx⟩ | exact h
end
section
variable {K : PySem.W.Frag} {lk : Lk} {G G1 H H1 : Hp} {m m1 : List Addr} {μ μ1 : Sto} {p : Addr} {o o' : HO} {ob : Ob}
theorem Ext.chg (x : Ext G m H G1 m1 H1) (hp : H p = none) : Ext G m H G1 m1 (upd H1 p o') :=
  ⟨x.g, x.mx, fun b u h hm => by rw [upd_ne (ne_of_none h hp)]; exact x.kp b u h hm, fun b u h => by rw [upd_ne (ne_of_none h hp)]; exact x.th b u h, x.nw, x.gn⟩
theorem Sok.other (s : Sok K G m μ H) (pm : p ∉ m) (gp : G p = none) : Sok K G m μ (upd H p o') :=
  ⟨s.len, s.nd, fun b u h => by rw [upd_ne (ne_of_none h gp)]; exact s.same _ _ h, s.off, fun n a ob h1 h2 => by
    obtain ⟨ho, e1, e2⟩ := s.obs _ _ _ h1 h2
    exact ⟨ho, by rw [upd_ne (fun q => pm (by rw [← q]; exact List.mem_of_getElem? h1))]; exact e1, e2⟩⟩
theorem Eok.other {ρ : REnv} {σ : L2.St} (e : Eok K lk G m H ρ σ) (hp : ∀ vs, H p ≠ some (.lst vs)) (hx : ∀ vs, H p ≠ some (.xd vs)) : Eok K lk G m (upd H p o') ρ σ := by
  refine ⟨e.len, fun i sl hi => ?_, e.ap⟩
  obtain ⟨x, hx', r⟩ := e.sl i sl hi
  refine ⟨x, hx', ?_⟩
  cases sl with
  | val v => exact r
  | own xs =>
    obtain ⟨a, vs, e1, e2, e3, e4, e5⟩ := r
    exact ⟨a, vs, e1, by rw [upd_ne (fun q => hp vs (by rw [← q]; exact e2))]; exact e2, e3, e4, e5⟩
  | exc c fs =>
    obtain ⟨a, dd, vs, e1, e2, e3, e4, e5, e6⟩ := r
    exact ⟨a, dd, vs, e1, e2, by rw [upd_ne (fun q => hx _ (by rw [← q]; exact e3))]; exact e3, e4, e5, e6⟩
/-- an object laid at p, then written, is of the store -/
theorem ext_push (hp : H p = none) (s : Sok K G m μ H) (x : Ext G m (upd H p o) G1 m1 H1) : Ext G m H G1 (m1 ++ [p]) (upd H1 p o') := by
  obtain ⟨t, rfl⟩ := x.mx
  refine ⟨x.g, ⟨t ++ [p], by rw [List.append_assoc]⟩, fun b u h hm => ?_, fun b u h => ?_, fun a ha => ?_, fun a u h1 h2 => ?_⟩
  · have n := ne_of_none h hp
    rw [upd_ne n]
    exact x.kp b u (by rw [upd_ne n]; exact h) hm
  · have n := ne_of_none h hp
    rw [upd_ne n]
    exact x.th b u (by rw [upd_ne n]; exact h)
  · rcases List.mem_append.mp ha with q | q
    · rcases x.nw a q with z | z
      · exact .inl z
      · by_cases e : a = p
        · rw [e]; exact .inr hp
        · rw [upd_ne e] at z; exact .inr z
    · rw [List.mem_singleton.mp q]; exact .inr hp
  · exact x.gn a u h1 (by rw [upd_ne (ne_of_none h2 hp)]; exact h2)
theorem sok_push (hp : H p = none) (s : Sok K G m μ H) (x : Ext G m (upd H p o) G1 m1 H1) (s1 : Sok K G1 m1 μ1 H1) (r : ObR K G1 m1 ob o') : Sok K G1 (m1 ++ [p]) (μ1 ++ [ob]) (upd H1 p o') := by
  have pm : p ∉ m := fun q => by
    obtain ⟨u, e⟩ := s.there q
    rw [hp] at e; cases e
  have pm1 : p ∉ m1 := fun q => by
    rcases x.nw p q with z | z
    · exact pm z
    · rw [upd_same] at z; cases z
  have g1 : G1 p = none := x.gn p o (s.same.free hp) upd_same
  have up : ∃ t, m1 ++ [p] = m1 ++ t := ⟨[p], rfl⟩
  refine ⟨by simp [s1.len], ?_, fun b u h => ?_, fun a ha => ?_, fun n a ob' h1 h2 => ?_⟩
  · rw [List.nodup_append]
    exact ⟨s1.nd, by simp, fun a ha b hb => by
      have e : b = p := by simpa using hb
      rw [e]
      exact fun q => pm1 (q ▸ ha)⟩
  · rw [upd_ne (ne_of_none h g1)]
    exact s1.same _ _ h
  · rcases List.mem_append.mp ha with q | q
    · exact s1.off a q
    · rw [List.mem_singleton.mp q]; exact g1
  · by_cases hn : n < m1.length
    · rw [List.getElem?_append_left hn] at h1
      rw [List.getElem?_append_left (by rw [← s1.len]; exact hn)] at h2
      obtain ⟨ho, e1, e2⟩ := s1.obs _ _ _ h1 h2
      have na : a ≠ p := fun q => pm1 (by rw [← q]; exact List.mem_of_getElem? h1)
      exact ⟨ho, by rw [upd_ne na]; exact e1, e2.up (Same.refl _) up⟩
    · rw [List.getElem?_append_right (by omega)] at h1
      rw [List.getElem?_append_right (by rw [← s1.len]; omega)] at h2
      have e0 : n - m1.length = 0 := by
        have := (List.getElem?_eq_some_iff.mp h1).1
        simp at this
        omega
      rw [e0] at h1
      rw [← s1.len, e0] at h2
      simp at h1 h2
      subst h1 h2
      exact ⟨o', upd_same, r.up (Same.refl _) up⟩
end
section
variable {X : Cx} {fs : List Fn} {cls : List (Addr × List Str)} {W : WX} {a b c e : Expr} {ea eb ec : REnv → Sto → R RV} {eas : REnv → Sto → R (List RV)} {pos p : Pos} {j : Nat} {keys : List (Option Expr)} {values : List Expr} {ks : List Key}
theorem zip_kV : ∀ (ks : List Key) (xs : List V), (ks.map kV).zip xs = (ks.zip xs).map fun kv => (kV kv.1, kv.2)
  | [], _ => rfl
  | _ :: _, [] => rfl
  | k :: ks, x :: xs => by simp [zip_kV ks xs]
theorem w_disp (hs : SP' X fs cls W pos keys values ks eas) (h0 : keys ≠ []) (h15 : keys.length ≤ 15) : ∃ trs, PPs X pos keys values trs ∧ ∀ σ H Q, tV (layOf X fs cls) W (fun ρ μ => (eas ρ μ).bind fun vs μ1 => if vs.length = ks.length then .ok (.loc μ1.length) (μ1 ++ [.dict (dictOf (ks.zip vs))]) else .bad) σ H Q → tDisp trs σ H Q := by
  obtain ⟨trs, h1, h2, h3, h4, h6, h5⟩ := hs
  refine ⟨trs, h1, fun σ H Q ⟨G, m, μ, ρ, s, en, k⟩ p hp => ?_⟩
  have x0 : Ext G m H G m (upd H p (.dK [])) := ext_new hp s.same
  refine h5 σ _ _ _ ⟨G, m, μ, ρ, s.new hp, en.ext x0, Kn.bindAt x0 k⟩ fun xs H1 hl ⟨G1, m1, μ1, vs, x1, s1, r1, k1⟩ => ?_
  have pm : p ∉ m := fun q => by
    obtain ⟨u, e⟩ := s.there q
    rw [hp] at e; cases e
  refine ⟨x1.kp _ _ upd_same pm, ks.zip xs, zip_kV _ _, by rw [List.length_zip, hl]; omega, ?_⟩
  rw [if_pos (by rw [rvs_length r1]; exact hl)] at k1
  refine k1 G1 (m1 ++ [p]) _ _ (ext_push hp s x1) (sok_push (ob := .dict (dictOf (ks.zip vs))) hp s x1 s1 (kr_dict (kr_zip r1))) (.loc ?_)
  rw [← s1.len]
  simp
theorem s_disp (hs : SP' X fs cls W pos keys values ks eas) (h0 : keys ≠ []) (h15 : keys.length ≤ 15) : PE X (.Dict keys values pos) (tV (layOf X fs cls) W fun ρ μ => (eas ρ μ).bind fun vs μ1 => if vs.length = ks.length then .ok (.loc μ1.length) (μ1 ++ [.dict (dictOf (ks.zip vs))]) else .bad) := by
  have hs' := hs
  obtain ⟨trs, h1, h2⟩ := w_disp hs h0 h15
  obtain ⟨_, _, g2, g3, _⟩ := hs'
  exact PE.weak (pe_disp h1 g2 g3 h0 h15) h2
theorem keyD_rel {K : PySem.W.Frag} {G : Hp} {z : PyData} {y : V} {k : Key} (r : Rp K G y z) (h : keyD z = some k) : y = kV k := by
  cases r <;> cases h <;> rfl
/-- d[i], d a dict of the store -/
theorem s_dget (hu : X.A.units + 1 < cLine) (hn : NoSl b) (ha : PE X a (tV (layOf X fs cls) W ea)) (hb : PE X b (tV (layOf X fs cls) W eb)) :
    PE X (.Subscript a b pos) (tV (layOf X fs cls) W fun ρ μ => (ea ρ μ).bind fun x μ1 => (eb ρ μ1).bind fun y μ2 => match x, y with
    | .loc n, .d z => match μ2[n]?, keyD z with
      | some (.dict kvs), some k => lift (getK kvs k) μ2
      | _, _ => .bad
    | _, _ => .bad) :=
  PE.weak (pe_dget hu ha hb hn) fun σ H Q ⟨G, m, μ, ρ, s, en, k⟩ => by
    refine (tV_bind s en k).mono fun x H1 ⟨G1, m1, μ1, va, x1, s1, e1, r1, k1⟩ => (tV_bind s1 e1 k1).mono fun y H2 ⟨G2, m2, μ2, vb, x2, s2, e2, r2, k2⟩ => ?_
    cases va with
    | d _ => cases vb <;> exact k2.elim
    | scr _ => cases vb <;> exact k2.elim
    | loc n =>
      cases vb with
      | loc _ => exact k2.elim
      | scr _ => exact k2.elim
      | d z =>
        dsimp only at k2
        cases q : μ2[n]? with
        | none => rw [q] at k2; exact k2.elim
        | some ob =>
          cases ob with
          | lst _ => rw [q] at k2; exact k2.elim
          | dict kvs =>
            cases q2 : keyD z with
            | none => rw [q, q2] at k2; exact k2.elim
            | some ky =>
              rw [q, q2] at k2
              obtain ⟨w, hw, k3⟩ := kn_lift k2
              cases r1.ext x2 with
              | loc hl =>
                obtain ⟨ho, h1, h2⟩ := s2.obs _ _ _ hl q
                cases ho <;> first | exact h2.elim | skip
                rename_i kws
                obtain ⟨v, h3, h4⟩ := kr_get h2 hw
                have g := DGet.k (k := ky) h1
                rw [h3] at g
                rw [keyD_rel (rvD r2) q2]
                exact ⟨_, v, rfl, g, k3.done s2 h4⟩
/-- {..}[i] -/
theorem s_dsel (hu : X.A.units + 1 < cLine) (hn : NoSl b) (hs : SP' X fs cls W p keys values ks eas) (h0 : keys ≠ []) (h15 : keys.length ≤ 15) (hb : PE X b (tV (layOf X fs cls) W eb)) :
    PE X (.Subscript (.Dict keys values p) b pos) (tV (layOf X fs cls) W fun ρ μ => (eas ρ μ).bind fun vs μ1 => (eb ρ μ1).bind fun y μ2 =>
    if vs.length = ks.length then match y with
      | .d z => match keyD z with
        | some k => lift (getK (dictOf (ks.zip vs)) k) μ2
        | none => .bad
      | _ => .bad
    else .bad) := by
  have hs' := hs
  obtain ⟨trs, g1, g2, g3, g4, g6, h5⟩ := hs
  refine PE.weak (pe_dget hu (pe_disp g1 g2 g3 h0 h15) hb hn) fun σ H Q ⟨G, m, μ, ρ, s, en, k⟩ p hp => ?_
  have x0 : Ext G m H G m (upd H p (.dK [])) := ext_new hp s.same
  refine h5 σ _ _ _ ⟨G, m, μ, ρ, s.new hp, en.ext x0, Kn.bindAt x0 k⟩ fun xs H1 hl ⟨G1, m1, μ1, vs, x1, s1, r1, k1⟩ => ?_
  have pm : p ∉ m := fun q => by
    obtain ⟨u, e⟩ := s.there q
    rw [hp] at e; cases e
  refine ⟨x1.kp _ _ upd_same pm, ks.zip xs, zip_kV _ _, by rw [List.length_zip, hl]; omega, ?_⟩
  have h1p : H1 p = some (.dK []) := x1.kp _ _ upd_same pm
  have g1p : G1 p = none := x1.gn p _ (s.same.free hp) upd_same
  have pm1 : p ∉ m1 := fun q => by
    rcases x1.nw p q with z | z
    · exact pm z
    · rw [upd_same] at z; cases z
  have x01 := (x0.trans x1).chg (p := p) (o' := .dK (mergeK [] (ks.zip xs))) hp
  have e1 : Eok X.K (lkOf X cls) G1 m1 H1 ρ σ := (en.ext x0).ext x1
  refine tV.mono (Q := fun y H2 => ∃ G2 m2 μ2 vb, Ext G1 m1 (upd H1 p (.dK (mergeK [] (ks.zip xs)))) G2 m2 H2 ∧ Sok X.K G2 m2 μ2 H2 ∧ RVr X.K G2 m2 vb y ∧ Kn (layOf X fs cls) (fun c d H' => W c d σ H') (RelV' (layOf X fs cls)) G m H (if vs.length = ks.length then match vb with
      | .d z => match keyD z with
        | some k => lift (getK (dictOf (ks.zip vs)) k) μ2
        | none => .bad
      | _ => .bad
    else .bad) Q) ⟨G1, m1, μ1, ρ, s1.other pm1 g1p, e1.other (fun vs q => by rw [h1p] at q; cases q) (fun vs q => by rw [h1p] at q; cases q), Kn.bindAt x01 k1⟩ fun y H2 ⟨G2, m2, μ2, vb, x2, s2, r2, k2⟩ => ?_
  rw [if_pos (by rw [rvs_length r1]; exact hl)] at k2
  cases vb with
  | loc _ => exact k2.elim
  | scr _ => exact k2.elim
  | d z =>
    dsimp only at k2
    cases q2 : keyD z with
    | none => rw [q2] at k2; exact k2.elim
    | some ky =>
      rw [q2] at k2
      obtain ⟨w, hw, k3⟩ := kn_lift k2
      obtain ⟨v, h3, h4⟩ := kr_get (kr_dict (kr_zip r1)) hw
      have g := DGet.k (k := ky) (x2.kp _ _ upd_same pm1)
      rw [h3] at g
      rw [keyD_rel (rvD r2) q2]
      exact ⟨p, v, rfl, g, k3 G2 m2 H2 v (x01.trans x2) s2 (RVr.up h4 x2.g x2.mx)⟩
end
end Pv
end

/-! text PvComp -/
section
/-! Pv, part 9: targets, comprehensions. -/
namespace Pv
open PySem L2
mutual
def gOf (K : PySem.W.Frag) : T → TG
  | .nm i => gName i
  | .tup ts => gTup K ts.length (gsOf K ts)
  | .sub _ _ => fun _ _ _ _ => False
def gsOf (K : PySem.W.Frag) : List T → TGs
  | [] => gNil
  | t :: ts => gCons (gOf K t) (gsOf K ts)
end
mutual
def tVars : T → List Nat
  | .nm i => [i]
  | .tup ts => tsVars ts
  | .sub _ _ => []
def tsVars : List T → List Nat
  | [] => []
  | t :: ts => tVars t ++ tsVars ts
end
theorem asgNs_len : ∀ {ts : List T} {vs : List RV} {ρ ρ1 : REnv}, asgNs ts vs ρ = some ρ1 → ts.length = vs.length
  | [], [], _, _, _ => rfl
  | t :: ts, v :: vs, ρ, ρ1, h => by
    unfold asgNs at h
    split at h
    · simp [asgNs_len h]
    · cases h
  | [], _ :: _, _, _, h => by simp [asgNs] at h
  | _ :: _, [], _, _, h => by simp [asgNs] at h
section
variable {K : PySem.W.Frag} {lk : Lk} {G H H' : Hp} {m : List Addr} {μ : Sto}
theorem Eok.setv {ρ : REnv} {σ : L2.St} {i : Nat} {v : RV} {x : V} (e : Eok K lk G m H ρ σ) (r : RVr K G m v x) : Eok K lk G m H (ρ.set i (some (.val v))) (σ.set i (some x)) := by
  refine ⟨by simp [e.len], fun j sl hj => ?_, fun j l xs ys a b hjl h1 h2 h3 h4 => ?_⟩
  · by_cases hij : i = j
    · subst hij
      have hi : i < ρ.length := by
        have := (List.getElem?_eq_some_iff.mp hj).1
        simpa using this
      rw [List.getElem?_set_self hi] at hj
      cases hj
      exact ⟨x, by rw [List.getElem?_set_self (by rw [← e.len]; exact hi)], r⟩
    · rw [List.getElem?_set_ne hij] at hj
      obtain ⟨y, h1, h2⟩ := e.sl j sl hj
      exact ⟨y, by rw [List.getElem?_set_ne hij]; exact h1, h2⟩
  · have nj : i ≠ j := fun q => by
      subst q
      have hi : i < ρ.length := by
        have := (List.getElem?_eq_some_iff.mp h1).1
        simpa using this
      rw [List.getElem?_set_self hi] at h1
      cases h1
    have nl : i ≠ l := fun q => by
      subst q
      have hi : i < ρ.length := by
        have := (List.getElem?_eq_some_iff.mp h2).1
        simpa using this
      rw [List.getElem?_set_self hi] at h2
      cases h2
    rw [List.getElem?_set_ne nj] at h1 h3
    rw [List.getElem?_set_ne nl] at h2 h4
    exact e.ap j l xs ys a b hjl h1 h2 h3 h4
theorem Eok.drop {ρ : REnv} {σ : L2.St} {i : Nat} (e : Eok K lk G m H ρ σ) : Eok K lk G m H (ρ.set i none) (σ.set i none) := by
  refine ⟨by simp [e.len], fun j sl hj => ?_, fun j l xs ys a b hjl h1 h2 h3 h4 => ?_⟩
  · by_cases hij : i = j
    · subst hij
      by_cases hi : i < ρ.length
      · rw [List.getElem?_set_self hi] at hj; cases hj
      · rw [List.getElem?_eq_none (by simp; omega)] at hj; cases hj
    · rw [List.getElem?_set_ne hij] at hj
      obtain ⟨y, h1, h2⟩ := e.sl j sl hj
      exact ⟨y, by rw [List.getElem?_set_ne hij]; exact h1, h2⟩
  · have nj : i ≠ j := fun q => by
      subst q
      by_cases hi : i < ρ.length
      · rw [List.getElem?_set_self hi] at h1; cases h1
      · rw [List.getElem?_eq_none (by simp; omega)] at h1; cases h1
    have nl : i ≠ l := fun q => by
      subst q
      by_cases hi : i < ρ.length
      · rw [List.getElem?_set_self hi] at h2; cases h2
      · rw [List.getElem?_eq_none (by simp; omega)] at h2; cases h2
    rw [List.getElem?_set_ne nj] at h1 h3
    rw [List.getElem?_set_ne nl] at h2 h4
    exact e.ap j l xs ys a b hjl h1 h2 h3 h4
theorem Eok.wipe {ρ : REnv} {σ : L2.St} (e : Eok K lk G m H ρ σ) : ∀ vs : List Nat, Eok K lk G m H (wipeR ρ vs) (L2.wipe σ vs)
  | [] => e
  | _ :: vs => (Eok.wipe e vs).drop
theorem wipe_set {σ : L2.St} {i : Nat} {x : Option V} : ∀ {vs : List Nat}, i ∈ vs → L2.wipe (σ.set i x) vs = L2.wipe σ vs
  | v :: vs, h => by
    show (L2.wipe (σ.set i x) vs).set v none = (L2.wipe σ vs).set v none
    by_cases hi : i ∈ vs
    · rw [wipe_set hi]
    · have e : i = v := by
        rcases List.mem_cons.mp h with q | q
        · exact q
        · exact absurd q hi
      subst e
      have comm : ∀ ws : List Nat, i ∉ ws → L2.wipe (σ.set i x) ws = (L2.wipe σ ws).set i x := by
        intro ws
        induction ws with
        | nil => intro _; rfl
        | cons w ws ih =>
          intro hw
          show (L2.wipe (σ.set i x) ws).set w none = ((L2.wipe σ ws).set w none).set i x
          rw [ih (fun q => hw (List.mem_cons_of_mem _ q)), List.set_comm _ _ (fun q => hw (by rw [q]; exact List.mem_cons_self))]
      rw [comm vs hi, List.set_set]
theorem wipe_wipe {σ : L2.St} {vs : List Nat} : L2.wipe (L2.wipe σ vs) vs = L2.wipe σ vs := by
  have gen : ∀ us : List Nat, (∀ u ∈ us, u ∈ vs) → L2.wipe (L2.wipe σ us) vs = L2.wipe σ vs := by
    intro us
    induction us with
    | nil => intro _; rfl
    | cons u us ih =>
      intro h
      show L2.wipe ((L2.wipe σ us).set u none) vs = _
      rw [wipe_set (h u List.mem_cons_self)]
      exact ih fun w hw => h w (List.mem_cons_of_mem _ hw)
  exact gen vs fun _ h => h
mutual
theorem gOf_ok (sg : Same G H) : ∀ (t : T) (v : RV) (ρ ρ1 : REnv) (x : V) (σ : L2.St) (Q : L2.St → Hp → Prop), asgN t v ρ = some ρ1 → RVr K G m v x → Eok K lk G m H ρ σ →
    (∀ σ', Eok K lk G m H ρ1 σ' → (∀ own, (∀ i ∈ tVars t, i ∈ own) → L2.wipe σ' own = L2.wipe σ own) → Q σ' H) → gOf K t x σ H Q
  | .nm i, v, ρ, ρ1, x, σ, Q, h, r, e, k => by
    unfold asgN at h
    split at h
    · cases h
      unfold gOf gName
      exact k _ (e.setv r) fun own ho => wipe_set (ho i (by unfold tVars; simp))
    · cases h
  | .tup ts, .d (.tuple ds), ρ, ρ1, x, σ, Q, h, r, e, k => by
    have h : asgNs ts (ds.map .d) ρ = some ρ1 := by rw [← h]; rfl
    unfold gOf
    cases rvD r with
    | @tup a vs xs h1 h2 =>
      have hl := asgNs_len h
      refine ⟨a, vs, rfl, sqt_of sg h1, by rw [rpAll_length h2]; simpa using hl.symm, gsOf_ok sg ts _ ρ ρ1 vs σ Q h (rvs_d h2) e fun σ' e' w => k σ' e' fun own ho => w own (by unfold tVars at ho; exact ho)⟩
  | .tup ts, .d .none, ρ, ρ1, x, σ, Q, h, r, e, k => by simp [asgN] at h
  | .tup ts, .d (.bool _), ρ, ρ1, x, σ, Q, h, r, e, k => by simp [asgN] at h
  | .tup ts, .d (.int _), ρ, ρ1, x, σ, Q, h, r, e, k => by simp [asgN] at h
  | .tup ts, .d (.str _), ρ, ρ1, x, σ, Q, h, r, e, k => by simp [asgN] at h
  | .tup ts, .d (.list _), ρ, ρ1, x, σ, Q, h, r, e, k => by simp [asgN] at h
  | .tup ts, .d (.dict _), ρ, ρ1, x, σ, Q, h, r, e, k => by simp [asgN] at h
  | .tup ts, .loc _, ρ, ρ1, x, σ, Q, h, r, e, k => by simp [asgN] at h
  | .tup ts, .scr _, ρ, ρ1, x, σ, Q, h, r, e, k => by simp [asgN] at h
  | .sub _ _, v, ρ, ρ1, x, σ, Q, h, r, e, k => by simp [asgN] at h
theorem gsOf_ok (sg : Same G H) : ∀ (ts : List T) (vs : List RV) (ρ ρ1 : REnv) (xs : List V) (σ : L2.St) (Q : L2.St → Hp → Prop), asgNs ts vs ρ = some ρ1 → RVs K G m vs xs → Eok K lk G m H ρ σ →
    (∀ σ', Eok K lk G m H ρ1 σ' → (∀ own, (∀ i ∈ tsVars ts, i ∈ own) → L2.wipe σ' own = L2.wipe σ own) → Q σ' H) → gsOf K ts xs σ H Q
  | [], [], ρ, ρ1, xs, σ, Q, h, r, e, k => by
    unfold asgNs at h
    cases h
    cases r
    unfold gsOf
    exact ⟨rfl, k σ e fun _ _ => rfl⟩
  | t :: ts, v :: vs, ρ, ρ1, xs, σ, Q, h, r, e, k => by
    unfold asgNs at h
    cases r with
    | @cons _ x _ xs a b =>
      unfold gsOf
      refine ⟨x, xs, rfl, ?_⟩
      split at h
      · rename_i ρ' h1
        refine gOf_ok sg t v ρ ρ' x σ _ h1 a e fun σ' e' w => gsOf_ok sg ts vs ρ' ρ1 xs σ' Q h b e' fun σ'' e'' w' => k σ'' e'' fun own ho => ?_
        unfold tsVars at ho
        rw [w' own fun i hi => ho i (List.mem_append_right _ hi), w own fun i hi => ho i (List.mem_append_left _ hi)]
      · cases h
  | [], _ :: _, ρ, ρ1, xs, σ, Q, h, r, e, k => by simp [asgNs] at h
  | _ :: _, [], ρ, ρ1, xs, σ, Q, h, r, e, k => by simp [asgNs] at h
end
/-- an item that comes is stored -/
theorem gOf_item {it : Item} {t : T} {ρ ρ1 : REnv} {x : V} {σ : L2.St} {Q : L2.St → Hp → Prop} (s : Sok K G m μ H) (e : Eok K lk G m H ρ σ) (y : ItY K G m it H x H') (h : asgI t it ρ = some ρ1)
    (k : ∀ σ', Eok K lk G m H' ρ1 σ' → Sok K G m μ H' → Ext G m H G m H' → (∀ own, (∀ i ∈ tVars t, i ∈ own) → L2.wipe σ' own = L2.wipe σ own) → Q σ' H') : gOf K t x σ H' Q := by
  cases it with
  | one v =>
    obtain ⟨rfl, r⟩ := y
    have h : asgN t v ρ = some ρ1 := by cases t <;> exact h
    exact gOf_ok s.same t v ρ ρ1 x σ Q h r e fun σ' e' w => k σ' e' s Ext.refl w
  | two a b =>
    obtain ⟨T', y, z, rfl, h1, rfl, r1, r2⟩ := y
    have x0 : Ext G m H G m (upd H T' (.tup [y, z])) := ext_new h1 s.same
    cases t with
    | tup ts =>
      have h : asgNs ts [a, b] ρ = some ρ1 := h
      have hl := asgNs_len h
      unfold gOf
      refine ⟨T', [y, z], rfl, .inl (.inl upd_same), by rw [hl]; rfl, gsOf_ok (x0.g.trans (s.new h1).same) ts [a, b] ρ ρ1 [y, z] σ Q h (.cons r1 (.cons r2 .nil)) (e.ext x0) fun σ' e' w => k σ' e' (s.new h1) x0 fun own ho => w own (by unfold tVars at ho; exact ho)⟩
    | nm _ => cases h
    | sub _ _ => cases h
end
end Pv
end

/-! text PvComp2 -/
section
namespace Pv
open PySem L2
/-! ### environments without own lists -/
def NoOwn (ρ : REnv) : Prop := ∀ (i : Nat) (s : Slot), ρ[i]? = some (some s) → ∃ v, s = .val v
theorem noOwn_noOwn (ρ : REnv) : NoOwn (noOwn ρ) := fun i s h => by
  unfold noOwn at h
  rw [List.getElem?_map] at h
  cases q : ρ[i]? with
  | none => rw [q] at h; cases h
  | some t =>
    rw [q] at h
    cases t with
    | none => cases h
    | some t =>
      cases t <;> cases h
      exact ⟨_, rfl⟩
theorem NoOwn.set {ρ : REnv} {i : Nat} {s : Option Slot} (h : NoOwn ρ) (hs : ∀ t, s = some t → ∃ v, t = .val v) : NoOwn (ρ.set i s) := fun j t q => by
  by_cases e : i = j
  · subst e
    by_cases hi : i < ρ.length
    · rw [List.getElem?_set_self hi] at q
      exact hs t (Option.some.inj q)
    · rw [List.getElem?_eq_none (by simp; omega)] at q; cases q
  · rw [List.getElem?_set_ne e] at q
    exact h j t q
theorem NoOwn.wipe {ρ : REnv} (h : NoOwn ρ) : ∀ vs, NoOwn (wipeR ρ vs)
  | [] => h
  | v :: vs => (NoOwn.wipe h vs).set fun t q => by cases q
mutual
theorem NoOwn.asgN : ∀ {t : T} {v : RV} {ρ ρ1 : REnv}, NoOwn ρ → Pv.asgN t v ρ = some ρ1 → NoOwn ρ1
  | .nm i, v, ρ, ρ1, h, e => by
    unfold Pv.asgN at e
    split at e
    · cases e; exact h.set fun t q => by cases q; exact ⟨_, rfl⟩
    · cases e
  | .tup ts, v, ρ, ρ1, h, e => by
    cases v with
    | d x => cases x <;> first | (simp [Pv.asgN] at e; done) | exact NoOwn.asgNs h (show Pv.asgNs ts _ ρ = some ρ1 from e)
    | loc _ => simp [Pv.asgN] at e
    | scr _ => simp [Pv.asgN] at e
  | .sub _ _, v, ρ, ρ1, h, e => by simp [Pv.asgN] at e
theorem NoOwn.asgNs : ∀ {ts : List T} {vs : List RV} {ρ ρ1 : REnv}, NoOwn ρ → Pv.asgNs ts vs ρ = some ρ1 → NoOwn ρ1
  | [], [], ρ, ρ1, h, e => by unfold Pv.asgNs at e; cases e; exact h
  | t :: ts, v :: vs, ρ, ρ1, h, e => by
    unfold Pv.asgNs at e
    split at e
    · rename_i ρ' h1
      exact NoOwn.asgNs (NoOwn.asgN h h1) e
    · cases e
  | [], _ :: _, _, _, _, e => by simp [Pv.asgNs] at e
  | _ :: _, [], _, _, _, e => by simp [Pv.asgNs] at e
end
theorem NoOwn.asgI {t : T} {it : Item} {ρ ρ1 : REnv} (h : NoOwn ρ) (e : asgI t it ρ = some ρ1) : NoOwn ρ1 := by
  cases it with
  | one v => cases t <;> exact NoOwn.asgN h e
  | two a b =>
    cases t with
    | tup ts => exact NoOwn.asgNs h (show Pv.asgNs ts [a, b] ρ = some ρ1 from e)
    | nm _ => cases e
    | sub _ _ => cases e
section
variable {K : PySem.W.Frag} {lk : Lk} {G G1 H H1 : Hp} {m m1 : List Addr} {ρ : REnv} {σ : L2.St}
theorem Eok.noOwn {lk' : Lk} (e : Eok K lk G m H ρ σ) : Eok K lk' G m H (noOwn ρ) σ := by
  refine ⟨by unfold Pv.noOwn; simp [e.len], fun i s h => ?_, fun i j xs ys a b _ h1 _ _ _ => ?_⟩
  · unfold Pv.noOwn at h
    rw [List.getElem?_map] at h
    cases q : ρ[i]? with
    | none => rw [q] at h; cases h
    | some t =>
      rw [q] at h
      cases t with
      | none => cases h
      | some t =>
        cases t with
        | own _ => cases h
        | val v => cases h; exact e.sl i _ q
        | exc _ _ => cases h
  · obtain ⟨v, h⟩ := noOwn_noOwn ρ i _ h1
    cases h
/-- an environment of values alone, further on -/
theorem Eok.upV {lk' : Lk} (e : Eok K lk G m H ρ σ) (n : NoOwn ρ) (g : Same G G1) (mx : ∃ t, m1 = m ++ t) : Eok K lk' G1 m1 H1 ρ σ := by
  refine ⟨e.len, fun i s h => ?_, fun i j xs ys a b _ h1 _ _ _ => ?_⟩
  · obtain ⟨x, hx, r⟩ := e.sl i s h
    obtain ⟨v, rfl⟩ := n i s h
    exact ⟨x, hx, RVr.up r g mx⟩
  · obtain ⟨v, h⟩ := n i _ h1
    cases h
end
/-! ### walking -/
theorem walk_gen {J : L2.It} {n : Nat} {Gp : Hp → Prop} {Y : Nat → Hp → V → Hp → Prop} {C : (Hp → Prop) → V → Hp → Prop} {H0 : Hp} {Qd : Hp → Prop} (w : Walk J n Gp Y) (Pv : Nat → Hp → Prop) (h0 : Pv 0 H0) (hG : ∀ i H, i ≤ n → Pv i H → Gp H)
    (hs : ∀ i x H H', i < n → Pv i H → Y i H x H' → C (Pv (i + 1)) x H') (hd : ∀ H, Pv n H → Qd H) :
    ∃ W : Nat → Nat → Hp → Prop, (∃ m, W 0 m H0) ∧ ∀ i m H, W i m H →
      (J.stop i H ∧ Qd H) ∨ (J.go i H ∧ ∃ Nx : Hp → Prop, (∀ H', Nx H' → ∃ m', m' < m ∧ W (i + 1) m' H') ∧ ∀ x H', J.yld i H x H' → C Nx x H') := by
  refine ⟨fun i m H => m = n - i ∧ i ≤ n ∧ Pv i H, ⟨n, by simp, Nat.zero_le _, h0⟩, ?_⟩
  rintro i m H ⟨rfl, hi, p⟩
  have q := hG i H hi p
  by_cases hlt : i < n
  · exact .inr ⟨w.goes i H hlt q, Pv (i + 1), fun H' p' => ⟨n - (i + 1), by omega, rfl, hlt, p'⟩, fun x H' y => hs i x H H' hlt p (w.yields i H x H' hlt q y)⟩
  · have e : i = n := by omega
    subst e
    exact .inl ⟨w.stops H q, hd H p⟩
/-! ### the new list of a comprehension -/
structure LcS (K : PySem.W.Frag) (D : Addr) (Gb : Hp) (mb : List Addr) (Hb : Hp) (Gi : Hp) (mi : List Addr) (accR : List RV) (G2 : Hp) (m2 : List Addr) (μ : Sto) (H : Hp) : Prop where
  ext : Ext Gb mb Hb G2 m2 H
  sg : Same Gi G2
  pre : ∃ t, m2 = mi ++ t
  sok : Sok K G2 m2 μ H
  acc : ∃ acc, H D = some (.lst acc) ∧ RVs K G2 m2 accR acc
  gd : G2 D = none
  dm : D ∉ m2
section
variable {K : PySem.W.Frag} {lk : Lk} {D : Addr} {Gb Hb Gi G2 H G3 H3 : Hp} {mb mi m2 m3 : List Addr} {accR : List RV} {μ μ3 : Sto}
theorem LcS.step (c : LcS K D Gb mb Hb Gi mi accR G2 m2 μ H) (e : Ext G2 m2 H G3 m3 H3) (s : Sok K G3 m3 μ3 H3) : LcS K D Gb mb Hb Gi mi accR G3 m3 μ3 H3 := by
  obtain ⟨acc, h1, h2⟩ := c.acc
  obtain ⟨t, h3⟩ := c.pre
  obtain ⟨t2, h4⟩ := e.mx
  refine ⟨c.ext.trans e, c.sg.trans e.g, ⟨t ++ t2, by rw [h4, h3, List.append_assoc]⟩, s, ⟨acc, e.kp _ _ h1 c.dm, RVs.ext (H := H) h2 e⟩, e.gn _ _ c.gd h1, fun q => ?_⟩
  rcases e.nw _ q with z | z
  · exact c.dm z
  · rw [h1] at z; cases z
theorem LcS.app (c : LcS K D Gb mb Hb Gi mi accR G2 m2 μ H) (hb : Hb D = none) {v : RV} {y : V} (r : RVr K G2 m2 v y) :
    ∃ acc, H D = some (.lst acc) ∧ acc.length = accR.length ∧ LcS K D Gb mb Hb Gi mi (accR ++ [v]) G2 m2 μ (upd H D (.lst (acc ++ [y]))) := by
  obtain ⟨acc, h1, h2⟩ := c.acc
  exact ⟨acc, h1, (rvs_length h2).symm, c.ext.chg hb, c.sg, c.pre, c.sok.other c.dm c.gd, ⟨_, upd_same, Paired.snoc h2 r⟩, c.gd, c.dm⟩
/-- the iterator's base anew -/
theorem LcS.rebase (c : LcS K D Gb mb Hb Gi mi accR G2 m2 μ H) : LcS K D Gb mb Hb G2 m2 accR G2 m2 μ H := ⟨c.ext, Same.refl _, ⟨[], by simp⟩, c.sok, c.acc, c.gd, c.dm⟩
theorem LcS.back {Gj : Hp} {mj : List Addr} (c : LcS K D Gb mb Hb Gi mi accR G2 m2 μ H) (g : Same Gj Gi) (mx : ∃ t, mi = mj ++ t) : LcS K D Gb mb Hb Gj mj accR G2 m2 μ H := by
  obtain ⟨t, h3⟩ := c.pre
  obtain ⟨t2, h4⟩ := mx
  exact ⟨c.ext, g.trans c.sg, ⟨t2 ++ t, by rw [h3, h4, List.append_assoc]⟩, c.sok, c.acc, c.gd, c.dm⟩
end
/-- one turn, by its reading -/
def turnE (t : T) (evt : REnv → Sto → R Bool) (eel : REnv → Sto → R RV) (ρ : REnv) (x : Item) (μ : Sto) : R (List RV) :=
  match asgI t x ρ with
  | some ρ1 => (evt ρ1 μ).bind fun k μ2 => if k then (eel ρ1 μ2).bind fun v μ3 => .ok [v] μ3 else .ok [] μ2
  | none => .bad
theorem turnE_ok {t : T} {evt : REnv → Sto → R Bool} {eel : REnv → Sto → R RV} {ρ : REnv} {x : Item} {μ μ' : Sto} {vs : List RV} (h : turnE t evt eel ρ x μ = .ok vs μ') :
    ∃ ρ1 k μ2, asgI t x ρ = some ρ1 ∧ evt ρ1 μ = .ok k μ2 ∧ ((k = false ∧ vs = [] ∧ μ' = μ2) ∨ (k = true ∧ ∃ v, eel ρ1 μ2 = .ok v μ' ∧ vs = [v])) := by
  unfold turnE at h
  cases q : asgI t x ρ with
  | none => rw [q] at h; cases h
  | some ρ1 =>
    rw [q] at h
    dsimp only at h
    cases q2 : evt ρ1 μ with
    | ok k μ2 =>
      rw [q2, R.bind_ok] at h
      refine ⟨ρ1, k, μ2, rfl, q2, ?_⟩
      cases k with
      | false =>
        rw [if_neg Bool.false_ne_true] at h
        cases h
        exact .inl ⟨rfl, rfl, rfl⟩
      | true =>
        rw [if_pos rfl] at h
        cases q3 : eel ρ1 μ2 with
        | ok v μ3 => rw [q3] at h; cases h; exact .inr ⟨rfl, v, rfl, rfl⟩
        | ex _ _ _ => rw [q3] at h; cases h
        | bad => rw [q3] at h; cases h
    | ex _ _ _ => rw [q2] at h; cases h
    | bad => rw [q2] at h; cases h
theorem compL_cons {f : Item → Sto → R (List RV)} {x : Item} {xs : List Item} {μ μF : Sto} {ws : List RV} (h : compL f (x :: xs) μ = .ok ws μF) : ∃ vs μ1 us, f x μ = .ok vs μ1 ∧ compL f xs μ1 = .ok us μF ∧ ws = vs ++ us := by
  unfold compL at h
  cases q : f x μ with
  | ok vs μ1 =>
    rw [q, R.bind_ok] at h
    cases q2 : compL f xs μ1 with
    | ok us μ2 => rw [q2] at h; cases h; exact ⟨vs, μ1, us, rfl, q2, rfl⟩
    | ex _ _ _ => rw [q2] at h; cases h
    | bad => rw [q2] at h; cases h
  | ex _ _ _ => rw [q] at h; cases h
  | bad => rw [q] at h; cases h
abbrev WF : WX := fun _ _ _ _ => False
/-- the loop of a clause that gives elements -/
theorem loop1 {L : Lay} {t : T} {evt : REnv → Sto → R Bool} {eel : REnv → Sto → R RV} {D : Addr} {Gb Hb Gi Gk mHk H0 : Hp} {mb mi mk : List Addr} {μ μF : Sto} {accR ws : List RV} {items : List Item} {J : L2.It} {ρ0 : REnv} {σ : L2.St} {vs : List Nat} {Qd : Hp → Prop}
    (iw : IW L.K Gi mi items J) (no : NoOwn ρ0) (en : Eok L.K L.lk Gi mi mHk ρ0 (L2.wipe σ vs)) (hv : ∀ i ∈ tVars t, i ∈ vs) (hb : Hb D = none) (c0 : LcS L.K D Gb mb Hb Gi mi accR Gk mk μ H0) (hl : compL (turnE t evt eel ρ0) items μ = .ok ws μF) (hz : accR.length + ws.length ≤ sizeLine)
    (hd : ∀ G2 m2 H, LcS L.K D Gb mb Hb Gi mi (accR ++ ws) G2 m2 μF H → Qd H) :
    ∃ W : Nat → Nat → Hp → Prop, (∃ m, W 0 m H0) ∧ ∀ i m H, W i m H →
      (J.stop i H ∧ Qd H) ∨ (J.go i H ∧ ∃ Nx : Hp → Prop, (∀ H', Nx H' → ∃ m', m' < m ∧ W (i + 1) m' H') ∧ ∀ x H', J.yld i H x H' → gOf L.K t x (L2.wipe σ vs) H' fun σ2 H2 => L2.wipe σ2 vs = L2.wipe σ vs ∧ tB' L WF evt σ2 H2 fun b H3 =>
        if b = true then tV L WF eel σ2 H3 fun y H4 => ∃ acc, H4 D = some (.lst acc) ∧ acc.length < sizeLine ∧ Nx (upd H4 D (.lst (acc ++ [y]))) else Nx H3) := by
  refine walk_gen (C := fun Nx x H' => gOf L.K t x (L2.wipe σ vs) H' fun σ2 H2 => L2.wipe σ2 vs = L2.wipe σ vs ∧ tB' L WF evt σ2 H2 fun b H3 =>
        if b = true then tV L WF eel σ2 H3 fun y H4 => ∃ acc, H4 D = some (.lst acc) ∧ acc.length < sizeLine ∧ Nx (upd H4 D (.lst (acc ++ [y]))) else Nx H3) iw
    (fun i H => ∃ G2 m2 μi accI wsI, LcS L.K D Gb mb Hb Gi mi accI G2 m2 μi H ∧ compL (turnE t evt eel ρ0) (items.drop i) μi = .ok wsI μF ∧ accI ++ wsI = accR ++ ws) ⟨Gk, mk, μ, accR, ws, c0, by simpa using hl, rfl⟩
    (fun i H _ ⟨G2, m2, μi, accI, wsI, c, _, _⟩ => c.sg.trans c.sok.same) (fun i x H H' hi ⟨G2, m2, μi, accI, wsI, c, h1, h2⟩ ⟨it, hit, hy⟩ => ?_) fun H ⟨G2, m2, μi, accI, wsI, c, h1, h2⟩ => ?_
  · have hdr : items.drop i = it :: items.drop (i + 1) := by
      rw [List.drop_eq_getElem_cons hi]
      congr 1
      rw [List.getElem?_eq_getElem hi] at hit
      exact Option.some.inj hit
    rw [hdr] at h1
    obtain ⟨vs1, μ1, us, h3, h4, rfl⟩ := compL_cons h1
    obtain ⟨ρ1, k, μ2, h5, h6, h7⟩ := turnE_ok h3
    have en2 : Eok L.K L.lk G2 m2 H ρ0 (L2.wipe σ vs) := en.upV no c.sg c.pre
    have hy2 : ItY L.K G2 m2 it H x H' := by
      cases it with
      | one v => exact ⟨hy.1, RVr.up hy.2 c.sg c.pre⟩
      | two a b =>
        obtain ⟨T', y, z, e1, e2, e3, e4, e5⟩ := hy
        exact ⟨T', y, z, e1, e2, e3, RVr.up e4 c.sg c.pre, RVr.up e5 c.sg c.pre⟩
    refine gOf_item c.sok en2 hy2 h5 fun σ2 e2 s2 x2 w2 => ⟨?_, G2, m2, μi, ρ1, s2, e2, ?_⟩
    · rw [w2 vs hv, wipe_wipe]
    rw [h6]
    intro G3 m3 H3 b x3 s3 hbk
    have hbk : k = b := hbk
    subst hbk
    have c3 := (c.step x2 s2).step x3 s3
    rcases h7 with ⟨rfl, rfl, rfl⟩ | ⟨rfl, v, h8, rfl⟩
    · rw [if_neg Bool.false_ne_true]
      exact ⟨G3, m3, _, accI, us, c3, h4, by simpa using h2⟩
    · rw [if_pos rfl]
      refine ⟨G3, m3, μ2, ρ1, s3, e2.ext x3, ?_⟩
      rw [h8]
      intro G4 m4 H4 y x4 s4 r4
      obtain ⟨acc, a1, a2, a3⟩ := (c3.step x4 s4).app hb r4
      refine ⟨acc, a1, ?_, G4, m4, μ1, accI ++ [v], us, a3, h4, by simpa using h2⟩
      have := congrArg List.length h2
      simp at this
      omega
  · rw [List.drop_eq_nil_of_le (Nat.le_refl _)] at h1
    cases h1
    rw [List.append_nil] at h2
    subst h2
    exact hd G2 m2 H c
end Pv
end

/-! text PvComp3 -/
section
namespace Pv
open PySem L2
/-- the new list is one that stays -/
theorem lc_end {L : Lay} {W : Value → Option Addr → Hp → Prop} {D : Addr} {Gb Hb Gi G2 H : Hp} {mb mi m2 : List Addr} {accR : List RV} {μ : Sto} {Q : VK} (c : LcS L.K D Gb mb Hb Gi mi accR G2 m2 μ H) (hb : Hb D = none) (sb : Same Gb Hb)
    (k : Kn L W (RelV' L) Gb mb Hb (pureL accR μ) Q) : Q (.ref D) H := by
  unfold pureL at k
  cases q : allBy pureR accR with
  | none => rw [q] at k; exact k.elim
  | some ds =>
    rw [q] at k
    dsimp only at k
    split at k
    · obtain ⟨acc, h1, h2⟩ := c.acc
      obtain ⟨h3, rfl⟩ := rvs_pure h2 q
      have gD : Same G2 (upd G2 D (.lst acc)) := fun b o e => by rw [upd_ne (ne_of_none e c.gd)]; exact e
      refine k (upd G2 D (.lst acc)) m2 H _ ⟨c.ext.g.trans gD, c.ext.mx, c.ext.kp, c.ext.th, c.ext.nw, fun a o h4 h5 => ?_⟩ ⟨c.sok.len, c.sok.nd, fun b o e => ?_, fun a ha => ?_, fun n a ob h4 h5 => ?_⟩ (.d (.lst upd_same (dpAll_same gD _ _ h3)))
      · rw [upd_ne (ne_of_none h5 hb)]
        exact c.ext.gn _ _ h4 h5
      · by_cases e1 : b = D
        · subst e1
          rw [upd_same] at e
          cases e
          exact h1
        · rw [upd_ne e1] at e
          exact c.sok.same _ _ e
      · rw [upd_ne (fun q : a = D => c.dm (by rw [← q]; exact ha))]
        exact c.sok.off _ ha
      · obtain ⟨ho, e1, e2⟩ := c.sok.obs _ _ _ h4 h5
        exact ⟨ho, e1, e2.up gD ⟨[], by simp⟩⟩
    · exact k.elim
theorem pureL_len {vs : List RV} {μ : Sto} {α β : Type} {L : Lay} {W : Value → Option Addr → Hp → Prop} {Rel : Hp → List Addr → RV → β → Prop} {G H : Hp} {m : List Addr} {Q : β → Hp → Prop} (k : Kn L W Rel G m H (pureL vs μ) Q) : vs.length ≤ sizeLine := by
  unfold pureL at k
  cases q : allBy pureR vs with
  | none => rw [q] at k; exact k.elim
  | some ds =>
    rw [q] at k
    dsimp only at k
    split at k
    · rename_i h
      rw [← allBy_length q]
      exact h
    · exact k.elim
theorem noEx_ok {α β γ : Type} {L : Lay} {W : Value → Option Addr → Hp → Prop} {Rel : Hp → List Addr → γ → β → Prop} {G H : Hp} {m : List Addr} {Q : β → Hp → Prop} {r : R α} {f : α → Sto → R γ} (k : Kn L W Rel G m H ((noEx r).bind f) Q) : ∃ a μ, r = .ok a μ ∧ Kn L W Rel G m H (f a μ) Q := by
  cases r with
  | ok a μ => exact ⟨a, μ, rfl, k⟩
  | ex _ _ _ => exact k.elim
  | bad => exact k.elim
theorem tI_bind {α β : Type} {L : Lay} {W : WX} {Rel2 : Hp → List Addr → α → β → Prop} {G H : Hp} {m : List Addr} {μ : Sto} {ρ : REnv} {σ : L2.St} {ev : REnv → Sto → R (List Item)} {f : List Item → Sto → R α} {Q2 : β → Hp → Prop}
    (s : Sok L.K G m μ H) (e : Eok L.K L.lk G m H ρ σ) (h : Kn L (fun c d H' => W c d σ H') Rel2 G m H ((ev ρ μ).bind f) Q2) :
    tI L W ev σ H fun J H1 => ∃ G1 m1 μ1 items, Ext G m H G1 m1 H1 ∧ Sok L.K G1 m1 μ1 H1 ∧ Eok L.K L.lk G1 m1 H1 ρ σ ∧ IW L.K G1 m1 items J ∧ Kn L (fun c d H' => W c d σ H') Rel2 G1 m1 H1 (f items μ1) Q2 :=
  ⟨G, m, μ, ρ, s, e, (Kn.bind h).mono fun _ _ ⟨G1, m1, μ1, a, x, y, z, k⟩ => ⟨G1, m1, μ1, a, x, y, e.ext x, z, k⟩⟩
theorem tI.mono {L : Lay} {W : WX} {ev : REnv → Sto → R (List Item)} {σ : L2.St} {H : Hp} {R R' : L2.It → Hp → Prop} (h : tI L W ev σ H R) (k : ∀ b H', R b H' → R' b H') : tI L W ev σ H R' := by
  obtain ⟨G, m, μ, ρ, s, e, z⟩ := h
  exact ⟨G, m, μ, ρ, s, e, z.mono k⟩
def lcE (evi : REnv → Sto → R (List Item)) (t : T) (evt : REnv → Sto → R Bool) (eel : REnv → Sto → R RV) (own : List Nat) : REnv → Sto → R RV := fun ρ μ =>
  (evi ρ μ).bind fun items μ1 => (noEx <| compL (turnE t evt eel (noOwn (wipeR ρ own))) items μ1).bind pureL
def lc2E (evi : REnv → Sto → R (List Item)) (t : T) (evt : REnv → Sto → R Bool) (evi2 : REnv → Sto → R (List Item)) (t2 : T) (evt2 : REnv → Sto → R Bool) (eel : REnv → Sto → R RV) (own own2 : List Nat) : REnv → Sto → R RV := fun ρ μ =>
  (evi ρ μ).bind fun items μ1 => (noEx <| compL (fun x μ => match asgI t x (noOwn (wipeR ρ own)) with
      | some ρ1 => (evt ρ1 μ).bind fun k μ2 => if k then (evi2 ρ1 μ2).bind fun items2 μ3 => compL (turnE t2 evt2 eel (wipeR ρ1 own2)) items2 μ3 else .ok [] μ2
      | none => .bad) items μ1).bind pureL
/-- no error is held -/
def lk0 (cls : List (Addr × List Str)) : Lk := fun c names a dd => ∃ C oe, cls[c]? = some (C, names) ∧ (a, oe) ∈ ([] : List (Addr × Obj)) ∧ oe.cls = .ref C ∧ oe.dict = some dd ∧ ∃ vs, oe.data = .fields vs
/-- the layout within a block -/
abbrev layB (X : Cx) (fs : List Fn) (cls : List (Addr × List Str)) : Lay := ⟨X.prog, X.w, X.K, X.mg, X.base, fs, cls, lk0 cls⟩
theorem layB_blk {X : Cx} {fs : List Fn} {cls : List (Addr × List Str)} {s : Shared} {H : Hp} {scope : Scope} {ce : PySem.Env} {fp : List Addr} : layOf (X.blk s H scope ce fp) fs cls = layB X fs cls := rfl
section
variable {X : Cx} {fs : List Fn} {cls : List (Addr × List Str)} {W : WX} {evi evi2 : REnv → Sto → R (List Item)} {evt evt2 : REnv → Sto → R Bool} {eel : REnv → Sto → R RV} {t t2 : T} {vs vs2 : List Nat}
theorem w_lc (hv : ∀ i ∈ tVars t, i ∈ vs) {σ : L2.St} {H : Hp} {Q : VK} (h : tV (layOf X fs cls) W (lcE evi t evt eel vs) σ H Q) : tLc (tI (layOf X fs cls) W evi) (gOf X.K t) (tB' (layB X fs cls) WF evt) (tV (layB X fs cls) WF eel) vs σ H Q := by
  obtain ⟨G, m, μ, ρ, s, en, k⟩ := h
  refine (tI_bind s en k).mono fun J H1 ⟨G1, m1, μ1, items, x1, s1, e1, iw, k1⟩ D hD => ?_
  obtain ⟨ws, μF, hl, k2⟩ := noEx_ok k1
  have x0 : Ext G1 m1 H1 G1 m1 (upd H1 D (.lst [])) := ext_new hD s1.same
  have dm : D ∉ m1 := fun q => by
    obtain ⟨u, e⟩ := s1.there q
    rw [hD] at e; cases e
  have c0 : LcS X.K D G1 m1 H1 G1 m1 [] G1 m1 μ1 (upd H1 D (.lst [])) := ⟨x0, Same.refl _, ⟨[], by simp⟩, s1.new hD, ⟨[], upd_same, .nil⟩, s1.same.free hD, dm⟩
  refine loop1 (L := (layB X fs cls)) iw ((noOwn_noOwn _)) (mHk := H1) ?_ hv hD c0 hl (by simpa using pureL_len (α := Nat) k2) fun G2 m2 H c => ?_
  · exact (e1.wipe vs).noOwn
  · rw [List.nil_append] at c
    exact lc_end c hD s1.same k2
def turn2 (t : T) (evt : REnv → Sto → R Bool) (evi2 : REnv → Sto → R (List Item)) (t2 : T) (evt2 : REnv → Sto → R Bool) (eel : REnv → Sto → R RV) (vs2 : List Nat) (ρ0 : REnv) (x : Item) (μ : Sto) : R (List RV) :=
  match asgI t x ρ0 with
  | some ρ1 => (evt ρ1 μ).bind fun k μ2 => if k then (evi2 ρ1 μ2).bind fun items2 μ3 => compL (turnE t2 evt2 eel (wipeR ρ1 vs2)) items2 μ3 else .ok [] μ2
  | none => .bad
theorem turn2_ok {ρ0 : REnv} {x : Item} {μ μ' : Sto} {us : List RV} (h : turn2 t evt evi2 t2 evt2 eel vs2 ρ0 x μ = .ok us μ') :
    ∃ ρ1 k μ2, asgI t x ρ0 = some ρ1 ∧ evt ρ1 μ = .ok k μ2 ∧ ((k = false ∧ us = [] ∧ μ' = μ2) ∨ (k = true ∧ ∃ items2 μ3, evi2 ρ1 μ2 = .ok items2 μ3 ∧ compL (turnE t2 evt2 eel (wipeR ρ1 vs2)) items2 μ3 = .ok us μ')) := by
  unfold turn2 at h
  cases q : asgI t x ρ0 with
  | none => rw [q] at h; cases h
  | some ρ1 =>
    rw [q] at h
    dsimp only at h
    cases q2 : evt ρ1 μ with
    | ok k μ2 =>
      rw [q2, R.bind_ok] at h
      refine ⟨ρ1, k, μ2, rfl, q2, ?_⟩
      cases k with
      | false =>
        rw [if_neg Bool.false_ne_true] at h
        cases h
        exact .inl ⟨rfl, rfl, rfl⟩
      | true =>
        rw [if_pos rfl] at h
        cases q3 : evi2 ρ1 μ2 with
        | ok v μ3 => rw [q3] at h; exact .inr ⟨rfl, v, μ3, rfl, h⟩
        | ex _ _ _ => rw [q3] at h; cases h
        | bad => rw [q3] at h; cases h
    | ex _ _ _ => rw [q2] at h; cases h
    | bad => rw [q2] at h; cases h
theorem w_lc2 (hv : ∀ i ∈ tVars t, i ∈ vs) (hv2 : ∀ i ∈ tVars t2, i ∈ vs2) {σ : L2.St} {H : Hp} {Q : VK} (h : tV (layOf X fs cls) W (lc2E evi t evt evi2 t2 evt2 eel vs vs2) σ H Q) :
    tLc2 (tI (layOf X fs cls) W evi) (gOf X.K t) (tB' (layB X fs cls) WF evt) (tI (layB X fs cls) WF evi2) (gOf X.K t2) (tB' (layB X fs cls) WF evt2) (tV (layB X fs cls) WF eel) vs vs2 σ H Q := by
  obtain ⟨G, m, μ, ρ, s, en, k⟩ := h
  refine (tI_bind s en k).mono fun J H1 ⟨G1, m1, μ1, items, x1, s1, e1, iw, k1⟩ D hD => ?_
  obtain ⟨ws, μF, hl, k2⟩ := noEx_ok k1
  have hl : compL (turn2 t evt evi2 t2 evt2 eel vs2 (noOwn (wipeR ρ vs))) items μ1 = .ok ws μF := hl
  have x0 : Ext G1 m1 H1 G1 m1 (upd H1 D (.lst [])) := ext_new hD s1.same
  have dm : D ∉ m1 := fun q => by
    obtain ⟨u, e⟩ := s1.there q
    rw [hD] at e; cases e
  have c0 : LcS X.K D G1 m1 H1 G1 m1 [] G1 m1 μ1 (upd H1 D (.lst [])) := ⟨x0, Same.refl _, ⟨[], by simp⟩, s1.new hD, ⟨[], upd_same, .nil⟩, s1.same.free hD, dm⟩
  have hz := pureL_len (α := Nat) k2
  have no := noOwn_noOwn (wipeR ρ vs)
  have en0 : Eok X.K (lk0 cls) G1 m1 H1 _ _ := (e1.wipe vs).noOwn
  refine walk_gen (C := fun Nx x H' => gOf X.K t x (L2.wipe σ vs) H' fun σ2 H2 => L2.wipe σ2 vs = L2.wipe σ vs ∧ tB' (layB X fs cls) WF evt σ2 H2 fun b H3 =>
    if b = true then tI (layB X fs cls) WF evi2 σ2 H3 fun J1 H4 => ∃ W1 : Nat → Nat → Hp → Prop, (∃ m, W1 0 m H4) ∧ ∀ j k H, W1 j k H →
      (J1.stop j H ∧ Nx H) ∨ (J1.go j H ∧ ∃ Nx1 : Hp → Prop, (∀ H', Nx1 H' → ∃ k', k' < k ∧ W1 (j + 1) k' H') ∧ ∀ x H', J1.yld j H x H' → gOf X.K t2 x (L2.wipe σ2 vs2) H' fun σ3 H5 => L2.wipe σ3 vs2 = L2.wipe σ2 vs2 ∧ tB' (layB X fs cls) WF evt2 σ3 H5 fun b H6 =>
        if b = true then tV (layB X fs cls) WF eel σ3 H6 fun y H7 => ∃ acc, H7 D = some (.lst acc) ∧ acc.length < sizeLine ∧ Nx1 (upd H7 D (.lst (acc ++ [y]))) else Nx1 H6)
    else Nx H3) iw
    (fun i H => ∃ G2 m2 μi accI wsI, LcS X.K D G1 m1 H1 G1 m1 accI G2 m2 μi H ∧ compL (turn2 t evt evi2 t2 evt2 eel vs2 (noOwn (wipeR ρ vs))) (items.drop i) μi = .ok wsI μF ∧ accI ++ wsI = ws) ⟨G1, m1, μ1, [], ws, c0, by simpa using hl, rfl⟩
    (fun i H _ ⟨G2, m2, μi, accI, wsI, c, _, _⟩ => c.sg.trans c.sok.same) (fun i x H H' hi ⟨G2, m2, μi, accI, wsI, c, h1, h2⟩ ⟨it, hit, hy⟩ => ?_) fun H ⟨G2, m2, μi, accI, wsI, c, h1, h2⟩ => ?_
  · have hdr : items.drop i = it :: items.drop (i + 1) := by
      rw [List.drop_eq_getElem_cons hi]
      congr 1
      rw [List.getElem?_eq_getElem hi] at hit
      exact Option.some.inj hit
    rw [hdr] at h1
    obtain ⟨vs1, μa, us, h3, h4, rfl⟩ := compL_cons h1
    obtain ⟨ρ1, k, μ2, h5, h6, h7⟩ := turn2_ok h3
    have en2 : Eok X.K (lk0 cls) G2 m2 H (noOwn (wipeR ρ vs)) (L2.wipe σ vs) := en0.upV no c.sg c.pre
    have hy2 : ItY X.K G2 m2 it H x H' := by
      cases it with
      | one v => exact ⟨hy.1, RVr.up hy.2 c.sg c.pre⟩
      | two a b =>
        obtain ⟨T', y, z, e1, e2, e3, e4, e5⟩ := hy
        exact ⟨T', y, z, e1, e2, e3, RVr.up e4 c.sg c.pre, RVr.up e5 c.sg c.pre⟩
    refine gOf_item c.sok en2 hy2 h5 fun σ2 e2 s2 x2 w2 => ⟨?_, G2, m2, μi, ρ1, s2, e2, ?_⟩
    · rw [w2 vs hv, wipe_wipe]
    rw [h6]
    intro G3 m3 H3 b x3 s3 hbk
    have hbk : k = b := hbk
    subst hbk
    have c3 := (c.step x2 s2).step x3 s3
    rcases h7 with ⟨rfl, rfl, rfl⟩ | ⟨rfl, items2, μ3, h8, h9⟩
    · rw [if_neg Bool.false_ne_true]
      exact ⟨G3, m3, _, accI, us, c3, h4, by simpa using h2⟩
    · rw [if_pos rfl]
      refine ⟨G3, m3, μ2, ρ1, s3, e2.ext x3, ?_⟩
      rw [h8]
      intro G4 m4 H4 J1 x4 s4 iw2
      have c4 := c3.step x4 s4
      have no1 : NoOwn ρ1 := no.asgI h5
      have hlen := congrArg List.length h2
      simp only [List.length_append] at hlen
      refine loop1 (L := (layB X fs cls)) (accR := accI) (ws := vs1) (Gk := G4) (mk := m4) iw2 (no1.wipe vs2) (mHk := H4) (((e2.ext x3).ext x4).wipe vs2) hv2 hD c4.rebase h9 (by omega) fun G5 m5 H5 c5 => ?_
      exact ⟨G5, m5, μa, accI ++ vs1, us, c5.back c4.sg c4.pre, h4, by simpa using h2⟩
  · rw [List.drop_eq_nil_of_le (Nat.le_refl _)] at h1
    cases h1
    rw [List.append_nil] at h2
    subst h2
    exact lc_end c hD s1.same k2
end
end Pv
end

/-! text PvStmt -/
section
/-! Pv, part 10: statements. -/
namespace Pv
open PySem L2
/-! ### new lists that are nobody else's -/
def FreshO (H : Hp) : Slot → V → Prop
  | .own _, x => ∃ a, x = .ref a ∧ H a = none
  | _, _ => True
def KnO (L : Lay) (W : Value → Option Addr → Hp → Prop) (G : Hp) (m : List Addr) (H : Hp) (r : R Slot) (Q : VK) : Prop :=
  match r with
  | .ok s μ' => ∀ G' m' H' x, Ext G m H G' m' H' → Sok L.K G' m' μ' H' → SlR L.K L.lk G' m' H' s x → FreshO H s x → Q x H'
  | .ex c fs μ' => ∀ G' m' H' cls d, Ext G m H G' m' H' → Sok L.K G' m' μ' H' → ExR L G' m' H' c fs cls d → W cls d H'
  | .bad => False
def KnOs (L : Lay) (W : Value → Option Addr → Hp → Prop) (G : Hp) (m : List Addr) (H : Hp) (r : R (List Slot)) (Q : List V → Hp → Prop) : Prop :=
  match r with
  | .ok s μ' => ∀ G' m' H' xs, Ext G m H G' m' H' → Sok L.K G' m' μ' H' → Paired (SlR L.K L.lk G' m' H') s xs → Paired (FreshO H) s xs →
      (s.zip xs).Pairwise (fun p q => ∀ l l', p.1 = .own l → q.1 = .own l' → p.2 ≠ q.2) → Q xs H'
  | .ex c fs μ' => ∀ G' m' H' cls d, Ext G m H G' m' H' → Sok L.K G' m' μ' H' → ExR L G' m' H' c fs cls d → W cls d H'
  | .bad => False
def tO (L : Lay) (W : WX) (ev : REnv → Sto → R Slot) : TE := fun σ H Q => ∃ G m μ ρ, Sok L.K G m μ H ∧ Eok L.K L.lk G m H ρ σ ∧ KnO L (fun c d H' => W c d σ H') G m H (ev ρ μ) Q
def tOs (L : Lay) (W : WX) (ev : REnv → Sto → R (List Slot)) : TA := fun σ H Q => ∃ G m μ ρ, Sok L.K G m μ H ∧ Eok L.K L.lk G m H ρ σ ∧ KnOs L (fun c d H' => W c d σ H') G m H (ev ρ μ) Q
theorem SlR.ext {K : PySem.W.Frag} {lk : Lk} {G H G1 H1 : Hp} {m m1 : List Addr} {s : Slot} {x : V} (r : SlR K lk G m H s x) (e : Ext G m H G1 m1 H1) : SlR K lk G1 m1 H1 s x := by
  cases s with
  | val v => exact RVr.ext (H := H) r e
  | own xs =>
    obtain ⟨a, vs, e1, e2, e3, e4, e5⟩ := r
    refine ⟨a, vs, e1, e.kp _ _ e2 e5, RVs.ext (H := H) e3 e, e.gn _ _ e4 e2, fun hm => ?_⟩
    rcases e.nw _ hm with z | z
    · exact e5 z
    · rw [e2] at z; cases z
  | exc c fs =>
    obtain ⟨a, dd, vs, e1, e2, e3, e4, e5, e6⟩ := r
    refine ⟨a, dd, vs, e1, e2, e.kp _ _ e3 e6, RVs.ext (H := H) e4 e, e.gn _ _ e5 e3, fun hm => ?_⟩
    rcases e.nw _ hm with z | z
    · exact e6 z
    · rw [e3] at z; cases z
section
variable {L : Lay} {W : Value → Option Addr → Hp → Prop} {G H : Hp} {m : List Addr}
theorem KnO.bindAt {α β : Type} {r : R α} {f : α → Sto → R Slot} {Q : VK} {Rel : Hp → List Addr → α → β → Prop} (h : KnO L W G m H (r.bind f) Q) :
    Kn L W Rel G m H r fun b H1 => ∃ G1 m1 μ1 a, Ext G m H G1 m1 H1 ∧ Sok L.K G1 m1 μ1 H1 ∧ Rel G1 m1 a b ∧ KnO L W G m H (f a μ1) Q := by
  cases r with
  | ok a μ => exact fun G1 m1 H1 b e s rl => ⟨G1, m1, μ, a, e, s, rl, h⟩
  | ex c fs μ => exact h
  | bad => exact h
theorem KnO.ext {G1 H1 : Hp} {m1 : List Addr} {r : R Slot} {Q : VK} (e : Ext G m H G1 m1 H1) (h : KnO L W G m H r Q) : KnO L W G1 m1 H1 r Q := by
  cases r with
  | ok s μ =>
    exact fun G' m' H' x e' s' rl fr => h G' m' H' x (e.trans e') s' rl (by
      cases s with
      | own xs =>
        obtain ⟨a, h1, h2⟩ := fr
        refine ⟨a, h1, ?_⟩
        cases q : H a with
        | none => rfl
        | some o =>
          obtain ⟨o', q'⟩ := e.th a o q
          rw [h2] at q'; cases q'
      | val _ => trivial
      | exc _ _ => trivial)
  | ex c fs μ => exact fun G' m' H' cls d e' s rl => h G' m' H' cls d (e.trans e') s rl
  | bad => exact h
end
section
variable {X : Cx} {fs : List Fn} {cls : List (Addr × List Str)} {W : WX} {e a b : Expr} {es : List Expr} {ea eb : REnv → Sto → R RV} {eas : REnv → Sto → R (List RV)} {pos : Pos}
theorem so_val (ha : PE X e (tV (layOf X fs cls) W ea)) : PE X e (tO (layOf X fs cls) W fun ρ μ => (ea ρ μ).bind fun v μ1 => .ok (.val v) μ1) :=
  PE.weak ha fun σ H Q ⟨G, m, μ, ρ, s, en, k⟩ => ⟨G, m, μ, ρ, s, en, (KnO.bindAt (Rel := RelV' (layOf X fs cls)) k).mono fun x H1 ⟨G1, m1, μ1, v, x1, s1, r1, k1⟩ => k1 G1 m1 H1 x x1 s1 r1 trivial⟩
theorem so_lst (h : PA X es (tVs (layOf X fs cls) W eas)) : PE X (.List es pos) (tO (layOf X fs cls) W fun ρ μ => (eas ρ μ).bind fun vs μ1 => if vs.length ≤ sizeLine then .ok (.own vs) μ1 else .bad) :=
  PE.weak (pe_lst h) fun σ H Q ⟨G, m, μ, ρ, s, en, k⟩ => ⟨G, m, μ, ρ, s, en, (KnO.bindAt (Rel := RelL (layOf X fs cls)) k).mono fun xs H1 ⟨G1, m1, μ1, vs, x1, s1, r1, k1⟩ => by
    split at k1
    · rename_i hl
      refine ⟨by rw [← rvs_length r1]; exact hl, fun p hp => ?_⟩
      have hH : H p = none := by
        cases q : H p with
        | none => rfl
        | some o =>
          obtain ⟨o', q'⟩ := x1.th p o q
          rw [hp] at q'; cases q'
      exact k1 G1 m1 (upd H1 p (.lst xs)) _ (x1.trans (ext_new hp s1.same)) (s1.new hp) ⟨p, xs, rfl, upd_same, r1, s1.same.free hp, fun q => by
        obtain ⟨u, e⟩ := s1.there q
        rw [hp] at e; cases e⟩ ⟨p, rfl, hH⟩
    · exact k1.elim⟩
/-- a + b of two lists, not frozen -/
def rCat (K : PySem.W.Frag) : R2 := fun x y H Q => ∃ G p q vs ws xs ys, Same G H ∧ x = .ref p ∧ y = .ref q ∧ G p = some (.lst vs) ∧ G q = some (.lst ws) ∧ RpAll K G vs xs ∧ RpAll K G ws ys ∧ vs.length + ws.length ≤ sizeLine ∧ ∀ l, H l = none → Q (.ref l) (upd H l (.lst (vs ++ ws)))
theorem oCat : OpR X (binaryOp .Add) (rCat X.K) := by
  intro pins s σ H x y v u Q I rx ry ⟨G, p, q, vs, ws, xs, ys, sg, hx, hy, h1, h2, h3, h4, hl, k⟩
  subst hx hy
  cases rx
  cases ry
  exact addListR I (.inl (sg _ _ h1)) (.inl (sg _ _ h2)) hl k
theorem so_cat (ha : PE X a (tV (layOf X fs cls) W ea)) (hb : PE X b (tV (layOf X fs cls) W eb)) : PE X (.BinOp a .Add b pos) (tO (layOf X fs cls) W fun ρ μ => (ea ρ μ).bind fun x μ1 => (eb ρ μ1).bind fun y μ2 => match x, y with
    | .d (.list xs), .d (.list ys) => if xs.length + ys.length ≤ sizeLine then .ok (.own ((xs ++ ys).map .d)) μ2 else .bad
    | _, _ => .bad) :=
  PE.weak (pe_op oCat ha hb) fun σ H Q ⟨G, m, μ, ρ, s, en, k⟩ => ⟨G, m, μ, ρ, s, en, (KnO.bindAt (Rel := RelV' (layOf X fs cls)) k).mono fun x H1 ⟨G1, m1, μ1, va, x1, s1, r1, k1⟩ => by
    refine ⟨G1, m1, μ1, ρ, s1, en.ext x1, (KnO.bindAt (Rel := RelV' (layOf X fs cls)) (k1.ext x1)).mono fun y H2 ⟨G2, m2, μ2, vb, x2, s2, r2, k2⟩ => ?_⟩
    have nb : ∃ xs ys, va = .d (.list xs) ∧ vb = .d (.list ys) := by
      cases va with
      | d v => cases v with
        | list i => cases vb with
          | d w => cases w with
            | list j => exact ⟨i, j, rfl, rfl⟩
            | _ => exact k2.elim
          | _ => exact k2.elim
        | _ => exact k2.elim
      | _ => exact k2.elim
    obtain ⟨xs, ys, rfl, rfl⟩ := nb
    dsimp only at k2
    split at k2
    · rename_i hl
      cases rvD (r1.ext x2) with
      | @lst p vs _ h1 h2 =>
        cases rvD r2 with
        | @lst q ws _ h3 h4 =>
          refine ⟨G2, p, q, vs, ws, xs, ys, s2.same, rfl, rfl, h1, h3, h2, h4, by rw [rpAll_length h2, rpAll_length h4]; exact hl, fun l hp => ?_⟩
          have hH : H1 l = none := by
            cases q : H1 l with
            | none => rfl
            | some o =>
              obtain ⟨o', q'⟩ := x2.th l o q
              rw [hp] at q'; cases q'
          exact k2 G2 m2 _ _ (x2.trans (ext_new hp s2.same)) (s2.new hp) ⟨l, vs ++ ws, rfl, upd_same, rvs_d (dpAll_append h2 h4), s2.same.free hp, fun q => by
            obtain ⟨u, e⟩ := s2.there q
            rw [hp] at e; cases e⟩ ⟨l, rfl, hH⟩
    · exact k2.elim⟩
theorem sos_nil : PA X [] (tOs (layOf X fs cls) W fun _ μ => .ok [] μ) := PA.weak pa_nil fun σ H Q ⟨G, m, μ, ρ, s, en, k⟩ => k G m H [] Ext.refl s .nil .nil .nil
theorem fresh_back {G H G1 H1 : Hp} {m m1 : List Addr} (e : Ext G m H G1 m1 H1) {s : Slot} {x : V} (h : FreshO H1 s x) : FreshO H s x := by
  cases s with
  | own xs =>
    obtain ⟨a, h1, h2⟩ := h
    refine ⟨a, h1, ?_⟩
    cases q : H a with
    | none => rfl
    | some o =>
      obtain ⟨o', q'⟩ := e.th a o q
      rw [h2] at q'; cases q'
  | val _ => trivial
  | exc _ _ => trivial
theorem sos_cons {es0 : REnv → Sto → R Slot} {ess : REnv → Sto → R (List Slot)} (ha : PE X e (tO (layOf X fs cls) W es0)) (hr : PA X es (tOs (layOf X fs cls) W ess)) (hs : starEach (e :: es) X.env = (false, eval e X.env) :: starEach es X.env) :
    PA X (e :: es) (tOs (layOf X fs cls) W fun ρ μ => (es0 ρ μ).bind fun v μ1 => (ess ρ μ1).bind fun vs μ2 => .ok (v :: vs) μ2) :=
  PA.weak (pa_cons ha hr hs) fun σ H Q ⟨G, m, μ, ρ, s, en, k⟩ => by
    refine ⟨G, m, μ, ρ, s, en, ?_⟩
    dsimp only at k
    cases q : es0 ρ μ with
    | ok v μ1 =>
      rw [q] at k
      intro G1 m1 H1 x x1 s1 r1 f1
      refine ⟨G1, m1, μ1, ρ, s1, en.ext x1, ?_⟩
      have k : KnOs (layOf X fs cls) (fun c d H' => W c d σ H') G m H ((ess ρ μ1).bind fun vs μ2 => .ok (v :: vs) μ2) Q := k
      cases q2 : ess ρ μ1 with
      | ok vs μ2 =>
        rw [q2] at k
        intro G2 m2 H2 xs x2 s2 r2 f2 d2
        refine k G2 m2 H2 (x :: xs) (x1.trans x2) s2 (.cons (r1.ext x2) r2) (.cons f1 (Paired.mapP f2 fun _ _ z => fresh_back x1 z)) (.cons ?_ d2)
        rintro ⟨s', y⟩ hp l l' h1 h2 h3
        cases h1
        cases h2
        have h3 : x = y := h3
        subst h3
        obtain ⟨a, vs', e1, e3, _, _⟩ : ∃ a vs, x = .ref a ∧ H1 a = some (.lst vs) ∧ True ∧ True := by
          obtain ⟨a, vs, z1, z2, _⟩ := (show SlR X.K (lkOf X cls) G1 m1 H1 (.own l) x from r1)
          exact ⟨a, vs, z1, z2, trivial, trivial⟩
        have fr : FreshO H1 (.own l') x := by
          have gen : ∀ {ss : List Slot} {ys : List V}, Paired (FreshO H1) ss ys → (Slot.own l', x) ∈ ss.zip ys → FreshO H1 (.own l') x := by
            intro ss ys hpr
            induction hpr with
            | nil => intro h; cases h
            | cons a t ih =>
              intro h
              rcases List.mem_cons.mp h with h | h
              · cases h; exact a
              · exact ih h
          exact gen f2 hp
        obtain ⟨a', z1, z2⟩ := fr
        rw [e1] at z1
        cases z1
        rw [e3] at z2
        cases z2
      | ex c f μ2 =>
        rw [q2] at k
        exact fun G' m' H' cls d e' s rl => k G' m' H' cls d (x1.trans e') s rl
      | bad => rw [q2] at k; exact k
    | ex c f μ1 =>
      rw [q] at k
      exact k
    | bad => rw [q] at k; exact k
end
end Pv
end

/-! text PvStmt2 -/
section
namespace Pv
open PySem L2
/-- where a def's run began, and what a walk around leans on -/
structure Bs where
  G0 : Hp
  m0 : List Addr
  H0 : Hp
  Gi : Hp
  mi : List Addr
structure Bs.at (b : Bs) (G : Hp) (m : List Addr) (H : Hp) : Prop where
  ext : Ext b.G0 b.m0 b.H0 G m H
  sg : Same b.Gi G
  pre : ∃ t, m = b.mi ++ t
theorem Bs.at.step {b : Bs} {G H G1 H1 : Hp} {m m1 : List Addr} (c : b.at G m H) (e : Ext G m H G1 m1 H1) : b.at G1 m1 H1 := by
  obtain ⟨t, h3⟩ := c.pre
  obtain ⟨t2, h4⟩ := e.mx
  exact ⟨c.ext.trans e, c.sg.trans e.g, ⟨t ++ t2, by rw [h4, h3, List.append_assoc]⟩⟩
/-- slots: own lists are younger than the run -/
structure Eob (K : PySem.W.Frag) (lk : Lk) (b : Bs) (G : Hp) (m : List Addr) (H : Hp) (ρ : REnv) (σ : L2.St) : Prop where
  ok : Eok K lk G m H ρ σ
  yg : ∀ (i : Nat) (xs : List RV) (a : Addr), ρ[i]? = some (some (.own xs)) → σ[i]? = some (some (.ref a)) → b.H0 a = none
theorem Eob.ext {K : PySem.W.Frag} {lk : Lk} {b : Bs} {G H G1 H1 : Hp} {m m1 : List Addr} {ρ : REnv} {σ : L2.St} (e : Eob K lk b G m H ρ σ) (x : Ext G m H G1 m1 H1) : Eob K lk b G1 m1 H1 ρ σ := ⟨e.ok.ext x, e.yg⟩
theorem Eob.setv {K : PySem.W.Frag} {lk : Lk} {b : Bs} {G H : Hp} {m : List Addr} {ρ : REnv} {σ : L2.St} {i : Nat} {v : RV} {x : V} (e : Eob K lk b G m H ρ σ) (r : RVr K G m v x) : Eob K lk b G m H (ρ.set i (some (.val v))) (σ.set i (some x)) := by
  refine ⟨e.ok.setv r, fun j xs a h1 h2 => ?_⟩
  have nj : i ≠ j := fun q => by
    subst q
    have hi : i < ρ.length := by
      have := (List.getElem?_eq_some_iff.mp h1).1
      simpa using this
    rw [List.getElem?_set_self hi] at h1
    cases h1
  rw [List.getElem?_set_ne nj] at h1 h2
  exact e.yg j xs a h1 h2
def KnS (L : Lay) (W : WX) (b : Bs) (r : R F) (D : Ends) : Prop :=
  match r with
  | .ok (.next ρ) μ => ∀ G m H σ, b.at G m H → Sok L.K G m μ H → Eob L.K L.lk b G m H ρ σ → D.nx σ H
  | .ok (.ret v) μ => ∀ G m H x, b.at G m H → Sok L.K G m μ H → RVr L.K G m v x → D.rt x H
  | .ok (.brk ρ) μ => ∀ G m H σ, b.at G m H → Sok L.K G m μ H → Eob L.K L.lk b G m H ρ σ → D.bk σ H
  | .ok (.cont ρ) μ => ∀ G m H σ, b.at G m H → Sok L.K G m μ H → Eob L.K L.lk b G m H ρ σ → D.ct σ H
  | .ex c fs μ => ∀ G m H σ cls d, b.at G m H → Sok L.K G m μ H → ExR L G m H c fs cls d → W cls d σ H
  | .bad => False
def tSt (L : Lay) (W : WX) (b : Bs) (ev : REnv → Sto → R F) : TS := fun D σ H => ∃ G m μ ρ, b.at G m H ∧ Sok L.K G m μ H ∧ Eob L.K L.lk b G m H ρ σ ∧ KnS L W b (ev ρ μ) D
section
variable {L : Lay} {W : WX} {b : Bs} {D : Ends}
theorem KnS.bindAt {α β : Type} {r : R α} {f : α → Sto → R F} {G H : Hp} {m : List Addr} {σ : L2.St} {Rel : Hp → List Addr → α → β → Prop} (x : b.at G m H) (h : KnS L W b (r.bind f) D) :
    Kn L (fun c d H' => W c d σ H') Rel G m H r fun z H1 => ∃ G1 m1 μ1 a, Ext G m H G1 m1 H1 ∧ Sok L.K G1 m1 μ1 H1 ∧ Rel G1 m1 a z ∧ KnS L W b (f a μ1) D := by
  cases r with
  | ok a μ => exact fun G1 m1 H1 z e s rl => ⟨G1, m1, μ, a, e, s, rl, h⟩
  | ex c fs μ => exact fun G1 m1 H1 cls d e s r => h G1 m1 H1 σ cls d (x.step e) s r
  | bad => exact h
theorem KnS.bindAtO {r : R Slot} {f : Slot → Sto → R F} {G H : Hp} {m : List Addr} {σ : L2.St} (x : b.at G m H) (h : KnS L W b (r.bind f) D) :
    KnO L (fun c d H' => W c d σ H') G m H r fun z H1 => ∃ G1 m1 μ1 a, Ext G m H G1 m1 H1 ∧ Sok L.K G1 m1 μ1 H1 ∧ SlR L.K L.lk G1 m1 H1 a z ∧ FreshO H a z ∧ KnS L W b (f a μ1) D := by
  cases r with
  | ok a μ => exact fun G1 m1 H1 z e s rl fr => ⟨G1, m1, μ, a, e, s, rl, fr, h⟩
  | ex c fs μ => exact fun G1 m1 H1 cls d e s r => h G1 m1 H1 σ cls d (x.step e) s r
  | bad => exact h
theorem KnS.bindAtOs {r : R (List Slot)} {f : List Slot → Sto → R F} {G H : Hp} {m : List Addr} {σ : L2.St} (x : b.at G m H) (h : KnS L W b (r.bind f) D) :
    KnOs L (fun c d H' => W c d σ H') G m H r fun z H1 => ∃ G1 m1 μ1 a, Ext G m H G1 m1 H1 ∧ Sok L.K G1 m1 μ1 H1 ∧ Paired (SlR L.K L.lk G1 m1 H1) a z ∧ Paired (FreshO H) a z ∧ (a.zip z).Pairwise (fun p q => ∀ l l', p.1 = .own l → q.1 = .own l' → p.2 ≠ q.2) ∧ KnS L W b (f a μ1) D := by
  cases r with
  | ok a μ => exact fun G1 m1 H1 z e s rl fr dd => ⟨G1, m1, μ, a, e, s, rl, fr, dd, h⟩
  | ex c fs μ => exact fun G1 m1 H1 cls d e s r => h G1 m1 H1 σ cls d (x.step e) s r
  | bad => exact h
/-- a value comes first -/
theorem st_bind {α : Type} {ev : REnv → Sto → R RV} {f : RV → Sto → R F} {G H : Hp} {m : List Addr} {μ : Sto} {ρ : REnv} {σ : L2.St} (x : b.at G m H) (s : Sok L.K G m μ H) (e : Eob L.K L.lk b G m H ρ σ) (k : KnS L W b ((ev ρ μ).bind f) D) :
    tV L W ev σ H fun z H1 => ∃ G1 m1 μ1 a, b.at G1 m1 H1 ∧ Sok L.K G1 m1 μ1 H1 ∧ Eob L.K L.lk b G1 m1 H1 ρ σ ∧ RVr L.K G1 m1 a z ∧ KnS L W b (f a μ1) D :=
  ⟨G, m, μ, ρ, s, e.ok, (KnS.bindAt x k).mono fun z H1 ⟨G1, m1, μ1, a, y, s1, r1, k1⟩ => ⟨G1, m1, μ1, a, x.step y, s1, e.ext y, r1, k1⟩⟩
theorem stt_bind2 {ev : REnv → Sto → R RV} {f : Bool → Sto → R F} {G H : Hp} {m : List Addr} {μ : Sto} {ρ : REnv} {σ : L2.St} (x : b.at G m H) (s : Sok L.K G m μ H) (e : Eob L.K L.lk b G m H ρ σ) (k : KnS L W b (((ev ρ μ).bind fun v μ1 => lift (truR v) μ1).bind f) D) :
    tT L W ev σ H fun t H1 => ∃ G1 m1 μ1, b.at G1 m1 H1 ∧ Sok L.K G1 m1 μ1 H1 ∧ Eob L.K L.lk b G1 m1 H1 ρ σ ∧ KnS L W b (f t μ1) D := by
  refine ⟨G, m, μ, ρ, s, e.ok, ?_⟩
  exact (KnS.bindAt (Rel := RelB) x k).mono fun t H1 ⟨G1, m1, μ1, u, y, s1, e1, k1⟩ => by
    have e1 : u = t := e1
    subst e1
    exact ⟨G1, m1, μ1, x.step y, s1, e.ext y, k1⟩
theorem stt_bind {ev : REnv → Sto → R RV} {f : Bool → Sto → R F} {G H : Hp} {m : List Addr} {μ : Sto} {ρ : REnv} {σ : L2.St} (x : b.at G m H) (s : Sok L.K G m μ H) (e : Eob L.K L.lk b G m H ρ σ) (k : KnS L W b ((ev ρ μ).bind fun v μ1 => (lift (truR v) μ1).bind f) D) :
    tT L W ev σ H fun t H1 => ∃ G1 m1 μ1, b.at G1 m1 H1 ∧ Sok L.K G1 m1 μ1 H1 ∧ Eob L.K L.lk b G1 m1 H1 ρ σ ∧ KnS L W b (f t μ1) D := by
  refine ⟨G, m, μ, ρ, s, e.ok, ?_⟩
  have k' : KnS L W b (((ev ρ μ).bind fun v μ1 => lift (truR v) μ1).bind f) D := by
    cases q : ev ρ μ <;> rw [q] at k <;> exact k
  exact (KnS.bindAt (Rel := RelB) x k').mono fun t H1 ⟨G1, m1, μ1, u, y, s1, e1, k1⟩ => by
    have e1 : u = t := e1
    subst e1
    exact ⟨G1, m1, μ1, x.step y, s1, e.ext y, k1⟩
end
def seqE (ev1 ev2 : REnv → Sto → R F) : REnv → Sto → R F := fun ρ μ => (ev1 ρ μ).bind fun f μ1 => match f with
  | .next ρ1 => ev2 ρ1 μ1
  | f => .ok f μ1
section
variable {X : Cx} {fs : List Fn} {cls : List (Addr × List Str)} {W : WX} {b : Bs} {e c : Expr} {es : List Expr} {st : Stmt} {rest p q : List Stmt} {ea : REnv → Sto → R RV} {eo : REnv → Sto → R Slot} {eos : REnv → Sto → R (List Slot)} {ev1 ev2 : REnv → Sto → R F} {pos pos' : Pos} {i : Nat} {x : Str}
theorem ss_nil : PSs X [] (tSt (layOf X fs cls) W b fun ρ μ => .ok (.next ρ) μ) := PSs.weak pss_nil fun D σ H ⟨G, m, μ, ρ, a, s, en, k⟩ => k G m H σ a s en
theorem seq_k {D : Ends} {r : R F} {f : F → Sto → R F} {ev2 : REnv → Sto → R F} (hf : ∀ g μ1, f g μ1 = match g with | .next ρ1 => ev2 ρ1 μ1 | g => .ok g μ1) (k : KnS (layOf X fs cls) W b (r.bind f) D) : KnS (layOf X fs cls) W b r { D with nx := tSt (layOf X fs cls) W b ev2 D } := by
  cases r with
  | bad => exact k
  | ex c' fs' μ' => exact k
  | ok g μ1 =>
    have k : KnS (layOf X fs cls) W b (f g μ1) D := k
    rw [hf] at k
    cases g with
    | next ρ1 => exact fun G m H σ a s en => ⟨G, m, μ1, ρ1, a, s, en, k⟩
    | ret v => exact k
    | brk ρ1 => exact k
    | cont ρ1 => exact k
theorem ss_cons (h1 : PS X st (tSt (layOf X fs cls) W b ev1)) (h2 : PSs X rest (tSt (layOf X fs cls) W b ev2)) : PSs X (st :: rest) (tSt (layOf X fs cls) W b (seqE ev1 ev2)) :=
  PSs.weak (pss_cons h1 h2) fun D σ H ⟨G, m, μ, ρ, a, s, en, k⟩ => ⟨G, m, μ, ρ, a, s, en, seq_k (fun g μ1 => by cases g <;> rfl) k⟩
theorem s_ret (he : PE X e (tV (layOf X fs cls) W ea)) : PS X (.Return (some e) pos) (tSt (layOf X fs cls) W b fun ρ μ => (ea ρ μ).bind fun v μ1 => .ok (.ret v) μ1) :=
  PS.weak (ps_ret he) fun D σ H ⟨G, m, μ, ρ, a, s, en, k⟩ => (st_bind (α := Nat) a s en k).mono fun z H1 ⟨G1, m1, μ1, v, a1, s1, e1, r1, k1⟩ => k1 G1 m1 H1 z a1 s1 r1
theorem s_retN : PS X (.Return none pos) (tSt (layOf X fs cls) W b fun _ μ => .ok (.ret (.d .none)) μ) := PS.weak ps_retN fun D σ H ⟨G, m, μ, ρ, a, s, en, k⟩ => k G m H _ a s (.d .non)
theorem s_brk : PS X (.Break pos) (tSt (layOf X fs cls) W b fun ρ μ => .ok (.brk ρ) μ) := PS.weak ps_break fun D σ H ⟨G, m, μ, ρ, a, s, en, k⟩ => k G m H σ a s en
theorem s_cont : PS X (.Continue pos) (tSt (layOf X fs cls) W b fun ρ μ => .ok (.cont ρ) μ) := PS.weak ps_continue fun D σ H ⟨G, m, μ, ρ, a, s, en, k⟩ => k G m H σ a s en
theorem s_pass : PS X (.Pass pos) (tSt (layOf X fs cls) W b fun ρ μ => .ok (.next ρ) μ) := PS.weak ps_pass fun D σ H ⟨G, m, μ, ρ, a, s, en, k⟩ => k G m H σ a s en
theorem s_expr (he : PE X e (tV (layOf X fs cls) W ea)) (hs : swapsWith e none pos.line X.env = pure false) : PS X (.Expr e pos) (tSt (layOf X fs cls) W b fun ρ μ => (ea ρ μ).bind fun _ μ1 => .ok (.next ρ) μ1) :=
  PS.weak (ps_expr he hs) fun D σ H ⟨G, m, μ, ρ, a, s, en, k⟩ => (st_bind (α := Nat) a s en k).mono fun z H1 ⟨G1, m1, μ1, v, a1, s1, e1, r1, k1⟩ => k1 G1 m1 H1 σ a1 s1 e1
theorem s_if (hc : PT X c (tT (layOf X fs cls) W ea)) (ha : PSs X p (tSt (layOf X fs cls) W b ev1)) (hb : PSs X q (tSt (layOf X fs cls) W b ev2)) :
    PS X (.If c p q pos) (tSt (layOf X fs cls) W b fun ρ μ => (ea ρ μ).bind fun v μ1 => match truR v with | some true => ev1 ρ μ1 | some false => ev2 ρ μ1 | none => .bad) :=
  PS.weak (ps_if hc ha hb) fun D σ H ⟨G, m, μ, ρ, a, s, en, k⟩ => by
    have k' : KnS (layOf X fs cls) W b ((ea ρ μ).bind fun v μ1 => (lift (truR v) μ1).bind fun t μ2 => if t then ev1 ρ μ2 else ev2 ρ μ2) D := by
      have e : (fun (v : RV) (μ1 : Sto) => (match truR v with | some true => ev1 ρ μ1 | some false => ev2 ρ μ1 | none => R.bad)) = fun v μ1 => (lift (truR v) μ1).bind fun t μ2 => if t then ev1 ρ μ2 else ev2 ρ μ2 := by
        funext v μ1
        cases truR v with
        | none => rfl
        | some t => cases t <;> rfl
      rw [← e]
      exact k
    refine (stt_bind a s en k').mono fun t H1 ⟨G1, m1, μ1, a1, s1, e1, k1⟩ => ?_
    cases t with
    | true => exact ⟨G1, m1, μ1, ρ, a1, s1, e1, k1⟩
    | false => exact ⟨G1, m1, μ1, ρ, a1, s1, e1, k1⟩
theorem s_while (hp : PassesOwn (model X.prog X.w) X.A X.env X.xe) (hc : PT X c (tT (layOf X fs cls) W ea)) (hb : PSs X p (tSt (layOf X fs cls) W b ev1)) :
    PS X (.While c p [] pos) (tSt (layOf X fs cls) W b fun ρ μ => whileL (fun ρ μ => (ea ρ μ).bind fun v μ1 => lift (truR v) μ1) ev1 whileMost ρ μ) :=
  PS.weak (ps_while hp hc hb) fun D σ H ⟨G, m, μ, ρ, a, s, en, k⟩ => by
    refine ⟨fun n σ H => ∃ G m μ ρ, b.at G m H ∧ Sok X.K G m μ H ∧ Eob X.K (lkOf X cls) b G m H ρ σ ∧ KnS (layOf X fs cls) W b (whileL (fun ρ μ => (ea ρ μ).bind fun v μ1 => lift (truR v) μ1) ev1 n ρ μ) D, ⟨whileMost, G, m, μ, ρ, a, s, en, k⟩, fun n σ H ⟨G, m, μ, ρ, a, s, en, k⟩ => ?_⟩
    cases n with
    | zero => exact k.elim
    | succ n =>
      have k : KnS (layOf X fs cls) W b (((ea ρ μ).bind fun v μ1 => lift (truR v) μ1).bind fun t μ1 => if t then
        (ev1 ρ μ1).bind fun f μ2 => match f with
          | .next ρ2 => whileL (fun ρ μ => (ea ρ μ).bind fun v μ1 => lift (truR v) μ1) ev1 n ρ2 μ2
          | .cont ρ2 => whileL (fun ρ μ => (ea ρ μ).bind fun v μ1 => lift (truR v) μ1) ev1 n ρ2 μ2
          | .brk ρ2 => .ok (.next ρ2) μ2
          | .ret v => .ok (.ret v) μ2
        else .ok (.next ρ) μ1) D := k
      refine (stt_bind2 a s en k).mono fun t H1 ⟨G1, m1, μ1, a1, s1, e1, k1⟩ => ?_
      cases t with
      | false =>
        rw [if_neg Bool.false_ne_true] at k1 ⊢
        exact k1 G1 m1 H1 σ a1 s1 e1
      | true =>
        rw [if_pos rfl] at k1 ⊢
        refine ⟨_, fun σ' H' z => ⟨n, Nat.lt_succ_self n, z⟩, G1, m1, μ1, ρ, a1, s1, e1, ?_⟩
        cases q : ev1 ρ μ1 with
        | bad => rw [q] at k1; exact k1
        | ex c' fs' μ' => rw [q] at k1; exact k1
        | ok g μ2 =>
          rw [q] at k1
          cases g with
          | next ρ1 => exact fun G m H σ a s en => ⟨G, m, μ2, ρ1, a, s, en, k1⟩
          | cont ρ1 => exact fun G m H σ a s en => ⟨G, m, μ2, ρ1, a, s, en, k1⟩
          | ret v => exact k1
          | brk ρ1 => exact k1
end
end Pv
end

/-! text PvStmt3 -/
section
namespace Pv
open PySem L2
section
variable {K : PySem.W.Frag} {lk : Lk} {G H H' : Hp} {m : List Addr} {μ : Sto}
mutual
theorem gOf_okP (sg : Same G H) (P : REnv → L2.St → Prop) (hP : ∀ ρ σ i v x, P ρ σ → RVr K G m v x → P (ρ.set i (some (.val v))) (σ.set i (some x))) : ∀ (t : T) (v : RV) (ρ ρ1 : REnv) (x : V) (σ : L2.St) (Q : L2.St → Hp → Prop), asgN t v ρ = some ρ1 → RVr K G m v x → P ρ σ →
    (∀ σ', P ρ1 σ' → Q σ' H) → gOf K t x σ H Q
  | .nm i, v, ρ, ρ1, x, σ, Q, h, r, e, k => by
    unfold asgN at h
    split at h
    · cases h
      unfold gOf gName
      exact k _ (hP _ _ _ _ _ e r)
    · cases h
  | .tup ts, .d (.tuple ds), ρ, ρ1, x, σ, Q, h, r, e, k => by
    have h : asgNs ts (ds.map .d) ρ = some ρ1 := by rw [← h]; rfl
    unfold gOf
    cases rvD r with
    | @tup a vs xs h1 h2 =>
      have hl := asgNs_len h
      exact ⟨a, vs, rfl, sqt_of sg h1, by rw [rpAll_length h2]; simpa using hl.symm, gsOf_okP sg P hP ts _ ρ ρ1 vs σ Q h (rvs_d h2) e k⟩
  | .tup ts, .d .none, ρ, ρ1, x, σ, Q, h, r, e, k => by simp [asgN] at h
  | .tup ts, .d (.bool _), ρ, ρ1, x, σ, Q, h, r, e, k => by simp [asgN] at h
  | .tup ts, .d (.int _), ρ, ρ1, x, σ, Q, h, r, e, k => by simp [asgN] at h
  | .tup ts, .d (.str _), ρ, ρ1, x, σ, Q, h, r, e, k => by simp [asgN] at h
  | .tup ts, .d (.list _), ρ, ρ1, x, σ, Q, h, r, e, k => by simp [asgN] at h
  | .tup ts, .d (.dict _), ρ, ρ1, x, σ, Q, h, r, e, k => by simp [asgN] at h
  | .tup ts, .loc _, ρ, ρ1, x, σ, Q, h, r, e, k => by simp [asgN] at h
  | .tup ts, .scr _, ρ, ρ1, x, σ, Q, h, r, e, k => by simp [asgN] at h
  | .sub _ _, v, ρ, ρ1, x, σ, Q, h, r, e, k => by simp [asgN] at h
theorem gsOf_okP (sg : Same G H) (P : REnv → L2.St → Prop) (hP : ∀ ρ σ i v x, P ρ σ → RVr K G m v x → P (ρ.set i (some (.val v))) (σ.set i (some x))) : ∀ (ts : List T) (vs : List RV) (ρ ρ1 : REnv) (xs : List V) (σ : L2.St) (Q : L2.St → Hp → Prop), asgNs ts vs ρ = some ρ1 → RVs K G m vs xs → P ρ σ →
    (∀ σ', P ρ1 σ' → Q σ' H) → gsOf K ts xs σ H Q
  | [], [], ρ, ρ1, xs, σ, Q, h, r, e, k => by
    unfold asgNs at h
    cases h
    cases r
    unfold gsOf
    exact ⟨rfl, k σ e⟩
  | t :: ts, v :: vs, ρ, ρ1, xs, σ, Q, h, r, e, k => by
    unfold asgNs at h
    cases r with
    | @cons _ x _ xs a b =>
      unfold gsOf
      refine ⟨x, xs, rfl, ?_⟩
      split at h
      · rename_i ρ' h1
        exact gOf_okP sg P hP t v ρ ρ' x σ _ h1 a e fun σ' e' => gsOf_okP sg P hP ts vs ρ' ρ1 xs σ' Q h b e' k
      · cases h
  | [], _ :: _, ρ, ρ1, xs, σ, Q, h, r, e, k => by simp [asgNs] at h
  | _ :: _, [], ρ, ρ1, xs, σ, Q, h, r, e, k => by simp [asgNs] at h
end
theorem gOf_itemB {b : Bs} {it : Item} {t : T} {ρ ρ1 : REnv} {x : V} {σ : L2.St} {Q : L2.St → Hp → Prop} (s : Sok K G m μ H) (e : Eob K lk b G m H ρ σ) (y : ItY K G m it H x H') (h : asgI t it ρ = some ρ1)
    (k : ∀ σ', Eob K lk b G m H' ρ1 σ' → Sok K G m μ H' → Ext G m H G m H' → Q σ' H') : gOf K t x σ H' Q := by
  cases it with
  | one v =>
    obtain ⟨rfl, r⟩ := y
    have h : asgN t v ρ = some ρ1 := by cases t <;> exact h
    exact gOf_okP s.same (fun ρ σ => Eob K lk b G m H' ρ σ) (fun ρ σ i v x e r => e.setv r) t v ρ ρ1 x σ Q h r e fun σ' e' => k σ' e' s Ext.refl
  | two a c =>
    obtain ⟨T', y, z, rfl, h1, rfl, r1, r2⟩ := y
    have x0 : Ext G m H G m (upd H T' (.tup [y, z])) := ext_new h1 s.same
    cases t with
    | tup ts =>
      have h : asgNs ts [a, c] ρ = some ρ1 := h
      have hl := asgNs_len h
      unfold gOf
      exact ⟨T', [y, z], rfl, .inl (.inl upd_same), by rw [hl]; rfl, gsOf_okP (x0.g.trans (s.new h1).same) (fun ρ σ => Eob K lk b G m (upd H T' (.tup [y, z])) ρ σ) (fun ρ σ i v x e r => e.setv r) ts [a, c] ρ ρ1 [y, z] σ Q h (.cons r1 (.cons r2 .nil)) (e.ext x0) fun σ' e' => k σ' e' (s.new h1) x0⟩
    | nm _ => cases h
    | sub _ _ => cases h
end
mutual
/-- targets of names alone -/
def namesOnly : T → Bool
  | .nm _ => true
  | .tup ts => namesOnlys ts
  | .sub _ _ => false
def namesOnlys : List T → Bool
  | [] => true
  | t :: ts => namesOnly t && namesOnlys ts
end
mutual
theorem asgT_names (c : CallF) : ∀ (t : T) (v : RV) (ρ : REnv) (μ : Sto), namesOnly t = true → asgT c t v ρ μ = lift (asgN t v ρ) μ
  | .nm i, v, ρ, μ, _ => by
    unfold asgT asgN
    split <;> rfl
  | .tup ts, v, ρ, μ, h => by
    unfold namesOnly at h
    cases v with
    | d x =>
      cases x with
      | tuple ds =>
        show asgTs c ts (ds.map .d) ρ μ = lift (asgNs ts (ds.map .d) ρ) μ
        exact asgTs_names c ts _ ρ μ h
      | _ => simp [asgT, asgN]
    | _ => simp [asgT, asgN]
  | .sub _ _, v, ρ, μ, h => by unfold namesOnly at h; cases h
theorem asgTs_names (c : CallF) : ∀ (ts : List T) (vs : List RV) (ρ : REnv) (μ : Sto), namesOnlys ts = true → asgTs c ts vs ρ μ = lift (asgNs ts vs ρ) μ
  | [], [], ρ, μ, _ => by unfold asgTs asgNs; rfl
  | t :: ts, v :: vs, ρ, μ, h => by
    unfold namesOnlys at h
    rw [Bool.and_eq_true] at h
    unfold asgTs asgNs
    rw [asgT_names c t v ρ μ h.1]
    cases asgN t v ρ with
    | none => rfl
    | some ρ' => exact asgTs_names c ts vs ρ' μ h.2
  | [], _ :: _, ρ, μ, _ => by unfold asgTs asgNs; rfl
  | _ :: _, [], ρ, μ, _ => by unfold asgTs asgNs; rfl
end
section
variable {X : Cx} {fs : List Fn} {cls : List (Addr × List Str)} {W : WX} {b : Bs} {e tg iter : Expr} {es : List Expr} {st : Stmt} {rest body : List Stmt} {ea : REnv → Sto → R RV} {eo : REnv → Sto → R Slot} {eos : REnv → Sto → R (List Slot)} {ev1 ev2 : REnv → Sto → R F} {evi : REnv → Sto → R (List Item)} {pos pos' : Pos} {i : Nat} {x : Str} {t : T}
theorem KnS.mono {L : Lay} {b b' : Bs} {r : R F} {D : Ends} (h : ∀ G m H, b'.at G m H → b.at G m H) (hh : b.H0 = b'.H0) (k : KnS L W b r D) : KnS L W b' r D := by
  cases r with
  | bad => exact k
  | ex c f μ => exact fun G m H σ cls d a => k G m H σ cls d (h _ _ _ a)
  | ok g μ =>
    cases g with
    | next ρ => exact fun G m H σ a s e => k G m H σ (h _ _ _ a) s ⟨e.ok, by rw [hh]; exact e.yg⟩
    | ret v => exact fun G m H x a => k G m H x (h _ _ _ a)
    | brk ρ => exact fun G m H σ a s e => k G m H σ (h _ _ _ a) s ⟨e.ok, by rw [hh]; exact e.yg⟩
    | cont ρ => exact fun G m H σ a s e => k G m H σ (h _ _ _ a) s ⟨e.ok, by rw [hh]; exact e.yg⟩
theorem s_for (hp : PassesOwn (model X.prog X.w) X.A X.env X.xe) (hc : X.calm = true) (hi : PI X tg iter (tI (layOf X fs cls) W evi)) (hg : PG X tg (gOf X.K t)) (hb : ∀ b, PSs X body (tSt (layOf X fs cls) W b ev1)) (hs : ∀ x, foldedSetIterable iter X.env x = pure x) :
    PS X (.For tg iter body [] pos) (tSt (layOf X fs cls) W b fun ρ μ => (evi ρ μ).bind fun items μ1 => forL t ev1 items ρ μ1) := by
  have hb' : PSs X body (fun D σ H => ∃ b, tSt (layOf X fs cls) W b ev1 D σ H) := ⟨fun pins s σ H D I ⟨b, q⟩ => (hb b).run pins s σ H D I q⟩
  refine PS.weak (ps_for hp hc hi hg hb' hs) fun D σ H ⟨G, m, μ, ρ, a, s, en, k⟩ => ?_
  refine ⟨G, m, μ, ρ, s, en.ok, (KnS.bindAt (Rel := RelI (layOf X fs cls)) a k).mono fun J H1 ⟨G1, m1, μ1, items, x1, s1, iw, k1⟩ => ?_⟩
  have a1 := a.step x1
  let b' : Bs := ⟨b.G0, b.m0, b.H0, G1, m1⟩
  have up : ∀ G m H, b'.at G m H → b.at G m H := fun G m H c => by
    obtain ⟨t, h3⟩ := c.pre
    obtain ⟨t2, h4⟩ := a1.pre
    exact ⟨c.ext, a1.sg.trans c.sg, ⟨t2 ++ t, by rw [h3]; show m1 ++ t = _; rw [h4, List.append_assoc]⟩⟩
  refine for_it (g := gOf X.K t) (tb := fun D σ H => ∃ b, tSt (layOf X fs cls) W b ev1 D σ H) (D := D) iw (fun i σ H => ∃ G m μ ρ, b'.at G m H ∧ Sok X.K G m μ H ∧ Eob X.K (lkOf X cls) b' G m H ρ σ ∧ KnS (layOf X fs cls) W b' (forL t ev1 (items.drop i) ρ μ) D)
    ⟨G1, m1, μ1, ρ, ⟨a1.ext, Same.refl _, ⟨[], by simp [b']⟩⟩, s1, ⟨en.ok.ext x1, en.yg⟩, KnS.mono up rfl (by simpa using k1)⟩
    (fun i σ H _ ⟨G, m, μ, ρ, a, s, en, k⟩ => a.sg.trans s.same) (fun i x σ H H' hi p1 p2 => ?_) fun σ H p1 => ?_
  · obtain ⟨G, m, μ, ρ, a, s, en, k⟩ := p1
    obtain ⟨it, hit, hy⟩ := p2
    have hdr : items.drop i = it :: items.drop (i + 1) := by
      rw [List.drop_eq_getElem_cons hi]
      congr 1
      rw [List.getElem?_eq_getElem hi] at hit
      exact Option.some.inj hit
    rw [hdr] at k
    unfold forL at k
    cases q : asgI t it ρ with
    | none => rw [q] at k; exact k.elim
    | some ρ1 =>
      rw [q] at k
      dsimp only at k
      have hy2 : ItY X.K G m it H x H' := by
        cases it with
        | one v => exact ⟨hy.1, RVr.up hy.2 a.sg a.pre⟩
        | two a' b'' =>
          obtain ⟨T', y, z, e1, e2, e3, e4, e5⟩ := hy
          exact ⟨T', y, z, e1, e2, e3, RVr.up e4 a.sg a.pre, RVr.up e5 a.sg a.pre⟩
      refine gOf_itemB s en hy2 q fun σ2 e2 s2 x2 => ⟨b', G, m, μ, ρ1, a.step x2, s2, e2, ?_⟩
      cases q2 : ev1 ρ1 μ with
      | bad => rw [q2] at k; exact k
      | ex c' fs' μ' => rw [q2] at k; exact k
      | ok g μ2 =>
        rw [q2] at k
        cases g with
        | next ρ2 => exact fun G m H σ a s en => ⟨G, m, μ2, ρ2, a, s, en, k⟩
        | cont ρ2 => exact fun G m H σ a s en => ⟨G, m, μ2, ρ2, a, s, en, k⟩
        | ret v => exact k
        | brk ρ2 => exact k
  · obtain ⟨G, m, μ, ρ, a, s, en, k⟩ := p1
    rw [List.drop_eq_nil_of_le (Nat.le_refl _)] at k
    exact k G m H σ a s en
theorem s_asg1 (hN : X.N.Nodup) (hi : X.N[i]? = some x) (hx : Loc X.env.scope x) (he : PE X e (tV (layOf X fs cls) W ea)) (hs : swapsWith e (some (.Name x pos')) pos.line X.env = pure false) (hf : X.fn x = true ∨ X.env.scope.names.lookup x = some .local) :
    PS X (.Assign [.Name x pos'] e pos) (tSt (layOf X fs cls) W b fun ρ μ => (ea ρ μ).bind fun v μ1 => (if i < ρ.length then R.ok (ρ.set i (some (.val v))) μ1 else .bad).bind fun ρ1 μ2 => .ok (.next ρ1) μ2) :=
  PS.weak (ps_set hN hi hx he hs hf) fun D σ H ⟨G, m, μ, ρ, a, s, en, k⟩ => (st_bind (α := Nat) a s en k).mono fun z H1 ⟨G1, m1, μ1, v, a1, s1, e1, r1, k1⟩ => by
    split at k1
    · exact k1 G1 m1 H1 _ a1 s1 (e1.setv r1)
    · exact k1.elim
theorem s_asg (he : PE X e (tV (layOf X fs cls) W ea)) (hg : PG X tg (gOf X.K t)) (hs : swapsWithSole [tg] e pos.line X.env = pure false) (hw : swappedStores [tg] e X.env = pure none) (h1 : (assignEach [tg] X.env).map (·.2) = [assign tg X.env]) :
    PS X (.Assign [tg] e pos) (tSt (layOf X fs cls) W b fun ρ μ => (ea ρ μ).bind fun v μ1 => (lift (asgN t v ρ) μ1).bind fun ρ1 μ2 => .ok (.next ρ1) μ2) :=
  PS.weak (ps_asg he hg hs hw h1) fun D σ H ⟨G, m, μ, ρ, a, s, en, k⟩ => (st_bind (α := Nat) a s en k).mono fun z H1 ⟨G1, m1, μ1, v, a1, s1, e1, r1, k1⟩ => by
    cases q : asgN t v ρ with
    | none => rw [q] at k1; exact k1.elim
    | some ρ1 =>
      rw [q] at k1
      exact gOf_okP s1.same (fun ρ σ => Eob X.K (lkOf X cls) b G1 m1 H1 ρ σ) (fun ρ σ i v x e r => e.setv r) t v ρ ρ1 z σ _ q r1 e1 fun σ' e' => k1 G1 m1 H1 σ' a1 s1 e'
/-- (a, b, ..) = a list -/
theorem s_asgL {ts : List T} (he : PE X e (tV (layOf X fs cls) W ea)) (hg : PG X tg (gUnl X.K ts.length (gsOf X.K ts))) (hs : swapsWithSole [tg] e pos.line X.env = pure false) (hw : swappedStores [tg] e X.env = pure none) (h1 : (assignEach [tg] X.env).map (·.2) = [assign tg X.env]) :
    PS X (.Assign [tg] e pos) (tSt (layOf X fs cls) W b fun ρ μ => (ea ρ μ).bind fun v μ1 => (lift (asgLn ts v ρ) μ1).bind fun ρ1 μ2 => .ok (.next ρ1) μ2) :=
  PS.weak (ps_asg he hg hs hw h1) fun D σ H ⟨G, m, μ, ρ, a, s, en, k⟩ => (st_bind (α := Nat) a s en k).mono fun z H1 ⟨G1, m1, μ1, v, a1, s1, e1, r1, k1⟩ => by
    cases q : asgLn ts v ρ with
    | none => rw [q] at k1; exact k1.elim
    | some ρ1 =>
      rw [q] at k1
      unfold asgLn at q
      split at q
      · cases rvD r1 with
        | @lst a vs xs h1 h2 =>
          have hl := asgNs_len q
          exact ⟨a, vs, rfl, .inl (.inl (s1.same _ _ h1)), by rw [rpAll_length h2]; simpa using hl.symm, gsOf_okP s1.same (fun ρ σ => Eob X.K (lkOf X cls) b G1 m1 H1 ρ σ) (fun ρ σ i v x e r => e.setv r) ts _ ρ ρ1 vs σ _ q (rvs_d h2) e1 fun σ' e' => k1 G1 m1 H1 σ' a1 s1 e'⟩
      · cases q
end
end Pv
end

/-! text PvStmt4 -/
section
namespace Pv
open PySem L2
section
variable {K : PySem.W.Frag} {lk : Lk} {b : Bs} {G H : Hp} {m : List Addr} {ρ : REnv} {σ : L2.St} {i : Nat} {s : Slot} {x : V} {μ : Sto}
theorem set_get {α : Type} {l : List α} {i j : Nat} {a y : α} (h : (l.set i a)[j]? = some y) : (i = j ∧ i < l.length ∧ a = y) ∨ (i ≠ j ∧ l[j]? = some y) := by
  by_cases e : i = j
  · subst e
    have hi : i < l.length := by
      have := (List.getElem?_eq_some_iff.mp h).1
      simpa using this
    rw [List.getElem?_set_self hi] at h
    exact .inl ⟨rfl, hi, Option.some.inj h⟩
  · rw [List.getElem?_set_ne e] at h
    exact .inr ⟨e, h⟩
theorem Eob.sets (e : Eob K lk b G m H ρ σ) (r : SlR K lk G m H s x) (hf : ∀ xs, s = .own xs → ∃ a, x = .ref a ∧ b.H0 a = none ∧ ∀ j ys c, j ≠ i → ρ[j]? = some (some (.own ys)) → σ[j]? = some (some (.ref c)) → c ≠ a) :
    Eob K lk b G m H (ρ.set i (some s)) (σ.set i (some x)) := by
  refine ⟨⟨by simp [e.ok.len], fun j sl hj => ?_, fun j l xs ys a c hjl h1 h2 h3 h4 => ?_⟩, fun j xs a h1 h2 => ?_⟩
  · rcases set_get hj with ⟨rfl, hi, q⟩ | ⟨n, q⟩
    · cases q
      exact ⟨x, by rw [List.getElem?_set_self (by rw [← e.ok.len]; exact hi)], r⟩
    · obtain ⟨y, z1, z2⟩ := e.ok.sl j sl q
      exact ⟨y, by rw [List.getElem?_set_ne n]; exact z1, z2⟩
  · rcases set_get h1 with ⟨rfl, hi, q⟩ | ⟨n, q⟩
    · rcases set_get h2 with ⟨rfl, _, _⟩ | ⟨n2, q2⟩
      · exact absurd rfl hjl
      · cases q
        obtain ⟨a', z1, z2, z3⟩ := hf _ rfl
        rw [List.getElem?_set_self (by rw [← e.ok.len]; exact hi)] at h3
        cases h3
        cases z1
        rw [List.getElem?_set_ne n2] at h4
        exact fun q3 => z3 l ys c (Ne.symm n2) q2 h4 q3.symm
    · rcases set_get h2 with ⟨rfl, hi, q2⟩ | ⟨n2, q2⟩
      · cases q2
        obtain ⟨a', z1, z2, z3⟩ := hf _ rfl
        rw [List.getElem?_set_self (by rw [← e.ok.len]; exact hi)] at h4
        cases h4
        cases z1
        rw [List.getElem?_set_ne n] at h3
        exact z3 j xs a (Ne.symm n) q h3
      · rw [List.getElem?_set_ne n] at h3
        rw [List.getElem?_set_ne n2] at h4
        exact e.ok.ap j l xs ys a c hjl q q2 h3 h4
  · rcases set_get h1 with ⟨rfl, hi, q⟩ | ⟨n, q⟩
    · cases q
      obtain ⟨a', z1, z2, z3⟩ := hf _ rfl
      rw [List.getElem?_set_self (by rw [← e.ok.len]; exact hi)] at h2
      cases h2
      cases z1
      exact z2
    · rw [List.getElem?_set_ne n] at h2
      exact e.yg j xs a q h2
theorem Bs.at.fresh (a : b.at G m H) {p : Addr} (h : H p = none) : b.H0 p = none := by
  cases q : b.H0 p with
  | none => rfl
  | some o =>
    obtain ⟨o', q'⟩ := a.ext.th p o q
    rw [h] at q'; cases q'
/-- own lists stand in the heap -/
theorem Eok.own_ne (e : Eok K lk G m H ρ σ) {p c : Addr} (h : H p = none) {j : Nat} {ys : List RV} (h1 : ρ[j]? = some (some (.own ys))) (h2 : σ[j]? = some (some (.ref c))) : c ≠ p := by
  obtain ⟨x, z1, a, vs, z2, z3, _⟩ := e.sl j _ h1
  rw [h2] at z1
  cases z1
  cases z2
  exact fun q => by rw [q, h] at z3; cases z3
end
section
variable {X : Cx} {fs : List Fn} {cls : List (Addr × List Str)} {W : WX} {b : Bs} {e tg iter e1 e2 e3 : Expr} {es : List Expr} {st : Stmt} {rest body : List Stmt} {ea eo1 ei : REnv → Sto → R RV} {eo : REnv → Sto → R Slot} {eos : REnv → Sto → R (List Slot)} {ev1 ev2 : REnv → Sto → R F} {pos pos' : Pos} {i j l : Nat} {x y z : Str}
theorem s_own (hN : X.N.Nodup) (hi : X.N[i]? = some x) (hx : Loc X.env.scope x) (he : PE X e (tO (layOf X fs cls) W eo)) (hs : swapsWith e (some (.Name x pos')) pos.line X.env = pure false) (hf : X.fn x = true ∨ X.env.scope.names.lookup x = some .local) :
    PS X (.Assign [.Name x pos'] e pos) (tSt (layOf X fs cls) W b fun ρ μ => (eo ρ μ).bind fun v μ1 => if i < ρ.length then .ok (.next (ρ.set i (some v))) μ1 else .bad) :=
  PS.weak (ps_set hN hi hx he hs hf) fun D σ H ⟨G, m, μ, ρ, a, s, en, k⟩ => ⟨G, m, μ, ρ, s, en.ok, by
    have k := KnS.bindAtO (σ := σ) a k
    cases q : eo ρ μ with
    | bad => rw [q] at k; exact k
    | ex c' fs' μ' => rw [q] at k; exact k
    | ok v μ1 =>
      rw [q] at k
      intro G1 m1 H1 z x1 s1 r1 f1
      obtain ⟨G2, m2, μ2, v2, x2, s2, r2, f2, k2⟩ := k G1 m1 H1 z x1 s1 r1 f1
      split at k2
      · refine k2 G2 m2 H1 _ (a.step x2) s2 ((en.ext x2).sets r2 fun xs hxs => ?_)
        subst hxs
        obtain ⟨p, h1, h2⟩ := f2
        exact ⟨p, h1, a.fresh h2, fun j ys c _ h3 h4 => en.ok.own_ne h2 h3 h4⟩
      · exact k2.elim⟩
theorem s_par2 (hc : X.calm = true) (hN : X.N.Nodup) (hi : X.N[i]? = some x) (hj : X.N[j]? = some y) (hij : i ≠ j) (hx : X.env.scope.names.lookup x = some .local) (hy : X.env.scope.names.lookup y = some .local) {px py pt : Pos} {kt k2 : Nat} {pt2 : Pos}
    (ha : PA X [e1, e2] (tOs (layOf X fs cls) W eos)) (hw : swappedStores [.Tuple [.Name x px, .Name y py] kt pt] (.Tuple [e1, e2] k2 pt2) X.env = pure (some [x, y])) (hs : swapsWithSole [.Tuple [.Name x px, .Name y py] kt pt] (.Tuple [e1, e2] k2 pt2) pos.line X.env = pure false) :
    PS X (.Assign [.Tuple [.Name x px, .Name y py] kt pt] (.Tuple [e1, e2] k2 pt2) pos) (tSt (layOf X fs cls) W b fun ρ μ => (eos ρ μ).bind fun vs μ1 => match setAll ρ [i, j] vs with
      | some ρ1 => .ok (.next ρ1) μ1
      | none => .bad) :=
  PS.weak (ps_par hc hN hi hj hij hx hy ha hw hs) fun D σ H ⟨G, m, μ, ρ, a, s, en, k⟩ => ⟨G, m, μ, ρ, s, en.ok, by
    have k := KnS.bindAtOs (σ := σ) a k
    cases q : eos ρ μ with
    | bad => rw [q] at k; exact k
    | ex c' fs' μ' => rw [q] at k; exact k
    | ok vs μ1 =>
      rw [q] at k
      intro G1 m1 H1 zs x1 s1 r1 f1 d1
      obtain ⟨G2, m2, μ2, v2, x2, s2, r2, f2, d2, k2⟩ := k G1 m1 H1 zs x1 s1 r1 f1 d1
      match v2, zs, r2, f2, d2, k2 with
      | [s1', s2'], _, .cons ra (.cons rb .nil), .cons fa (.cons fb .nil), d2, k2 =>
        rename_i za zb
        refine ⟨za, zb, rfl, ?_⟩
        unfold setAll at k2
        split at k2
        · rename_i ρ1 hq
          split at hq
          · rename_i hi'
            unfold setAll at hq
            split at hq
            · unfold setAll at hq
              cases hq
              have e1 := (en.ext x2).sets (i := i) ra fun xs hxs => by
                subst hxs
                obtain ⟨p, h1, h2⟩ := fa
                exact ⟨p, h1, a.fresh h2, fun j ys c _ h3 h4 => en.ok.own_ne h2 h3 h4⟩
              refine k2 G2 m2 H1 _ (a.step x2) s2 (e1.sets (i := j) rb fun xs hxs => ?_)
              subst hxs
              obtain ⟨p, h1, h2⟩ := fb
              refine ⟨p, h1, a.fresh h2, fun j' ys c hne h3 h4 => ?_⟩
              rcases set_get h3 with ⟨rfl, _, q3⟩ | ⟨n, q3⟩
              · cases q3
                rcases set_get h4 with ⟨_, _, q4⟩ | ⟨n', _⟩
                · cases q4
                  have dd := (List.pairwise_cons.mp d2).1 (.own xs, zb) (by simp) ys xs rfl rfl
                  intro q5
                  exact dd (by rw [h1, q5])
                · exact absurd rfl n'
              · rw [List.getElem?_set_ne n] at h4
                exact en.ok.own_ne h2 q3 h4
            · cases hq
          · cases hq
        · exact k2.elim
      | [], _, _, _, _, k2 => exact k2.elim
      | [_], _, _, _, _, k2 => exact (by
          unfold setAll at k2
          split at k2
          · rename_i hq
            split at hq
            · unfold setAll at hq; cases hq
            · cases hq
          · exact k2.elim)
      | _ :: _ :: _ :: _, _, _, _, _, k2 => exact (by
          unfold setAll at k2
          split at k2
          · rename_i hq
            split at hq
            · unfold setAll at hq
              split at hq
              · unfold setAll at hq; cases hq
              · cases hq
            · cases hq
          · exact k2.elim)⟩
end
end Pv
end

/-! text PvStmt5 -/
section
namespace Pv
open PySem L2
def setV (σ : L2.St) : List Nat → List V → L2.St
  | i :: is, x :: xs => setV (σ.set i (some x)) is xs
  | _, _ => σ
theorem setAll_ok {K : PySem.W.Frag} {lk : Lk} {b : Bs} {G H : Hp} {m : List Addr} : ∀ (is : List Nat) (ss : List Slot) (xs : List V) (ρ ρ1 : REnv) (σ : L2.St), setAll ρ is ss = some ρ1 → Paired (SlR K lk G m H) ss xs → Paired (FreshO b.H0) ss xs →
    (ss.zip xs).Pairwise (fun p q => ∀ l l', p.1 = Slot.own l → q.1 = Slot.own l' → p.2 ≠ q.2) → (∀ (j : Nat) (ys : List RV) (c : Addr), ρ[j]? = some (some (Slot.own ys)) → σ[j]? = some (some (V.ref c)) → ∀ p ∈ ss.zip xs, ∀ l, p.1 = Slot.own l → p.2 ≠ V.ref c) → Eob K lk b G m H ρ σ → Eob K lk b G m H ρ1 (setV σ is xs)
  | [], [], _, ρ, ρ1, σ, h, .nil, _, _, _, e => by
    unfold setAll at h
    cases h
    exact e
  | i :: is, s :: ss, _, ρ, ρ1, σ, h, .cons (b := x) ra rr, .cons fa ff, d, ho, e => by
    unfold setAll at h
    split at h
    · rename_i hi
      have d' := List.pairwise_cons.mp d
      refine setAll_ok is ss _ (ρ.set i (some s)) ρ1 (σ.set i (some x)) h rr ff d'.2 (fun j ys c h1 h2 p hp l hl => ?_) (e.sets ra fun xs hxs => ?_)
      · rcases set_get h1 with ⟨rfl, _, q⟩ | ⟨n, q⟩
        · cases q
          rcases set_get h2 with ⟨_, _, q4⟩ | ⟨n', _⟩
          · cases q4
            exact fun q5 => d'.1 p hp ys l rfl hl q5.symm
          · exact absurd rfl n'
        · rw [List.getElem?_set_ne n] at h2
          exact ho j ys c q h2 p (List.mem_cons_of_mem _ hp) l hl
      · subst hxs
        obtain ⟨p, h1, h2⟩ := fa
        exact ⟨p, h1, h2, fun j ys c _ h3 h4 q => ho j ys c h3 h4 (.own xs, x) (by simp) xs rfl (by rw [h1, q])⟩
    · cases h
  | [], _ :: _, _, ρ, ρ1, σ, h, _, _, _, _, e => by unfold setAll at h; cases h
  | _ :: _, [], _, ρ, ρ1, σ, h, _, _, _, _, e => by unfold setAll at h; cases h
section
variable {X : Cx} {fs : List Fn} {cls : List (Addr × List Str)} {W : WX} {b : Bs} {e tg iter e1 e2 e3 : Expr} {es : List Expr} {st : Stmt} {rest body : List Stmt} {ea eo1 ei eb : REnv → Sto → R RV} {eo : REnv → Sto → R Slot} {eos : REnv → Sto → R (List Slot)} {ev1 ev2 : REnv → Sto → R F} {pos pos' : Pos} {i j l : Nat} {x y z : Str}
theorem paired3 {α β : Type} {F : α → β → Prop} {xs : List α} {ys : List β} (h : Paired F xs ys) (hl : xs.length = 3) : ∃ a b c, ys = [a, b, c] := by
  have h2 := Paired.length h
  rw [hl] at h2
  match ys, h2 with
  | [a, b, c], _ => exact ⟨a, b, c, rfl⟩
theorem setAll_len : ∀ {is : List Nat} {ss : List Slot} {ρ ρ1 : REnv}, setAll ρ is ss = some ρ1 → ss.length = is.length
  | [], [], _, _, _ => rfl
  | i :: is, s :: ss, ρ, ρ1, h => by
    unfold setAll at h
    split at h
    · simp [setAll_len h]
    · cases h
  | [], _ :: _, _, _, h => by unfold setAll at h; cases h
  | _ :: _, [], _, _, h => by unfold setAll at h; cases h
theorem fresh_own {H : Hp} {ss : List Slot} {xs : List V} (h : Paired (FreshO H) ss xs) : ∀ p ∈ ss.zip xs, ∀ l, p.1 = .own l → ∃ a, p.2 = .ref a ∧ H a = none := by
  induction h with
  | nil => intro p hp; cases hp
  | cons a t ih =>
    intro p hp l hl
    rcases List.mem_cons.mp hp with q | q
    · cases q
      simp only at hl
      subst hl
      exact a
    · exact ih p q l hl
theorem s_par3 (hc : X.calm = true) (hN : X.N.Nodup) (hi : X.N[i]? = some x) (hj : X.N[j]? = some y) (hk : X.N[l]? = some z) (hij : i ≠ j) (hil : i ≠ l) (hjl : j ≠ l) (hx : X.env.scope.names.lookup x = some .local) (hy : X.env.scope.names.lookup y = some .local) (hz : X.env.scope.names.lookup z = some .local) {px py pz pt : Pos} {kt k2 : Nat} {pt2 : Pos}
    (ha : PA X [e1, e2, e3] (tOs (layOf X fs cls) W eos)) (hw : swappedStores [.Tuple [.Name x px, .Name y py, .Name z pz] kt pt] (.Tuple [e1, e2, e3] k2 pt2) X.env = pure (some [x, y, z])) (hs : swapsWithSole [.Tuple [.Name x px, .Name y py, .Name z pz] kt pt] (.Tuple [e1, e2, e3] k2 pt2) pos.line X.env = pure false) :
    PS X (.Assign [.Tuple [.Name x px, .Name y py, .Name z pz] kt pt] (.Tuple [e1, e2, e3] k2 pt2) pos) (tSt (layOf X fs cls) W b fun ρ μ => (eos ρ μ).bind fun vs μ1 => match setAll ρ [i, j, l] vs with
      | some ρ1 => .ok (.next ρ1) μ1
      | none => .bad) :=
  PS.weak (ps_par3 hc hN hi hj hk hij hil hjl hx hy hz ha hw hs) fun D σ H ⟨G, m, μ, ρ, a, s, en, k⟩ => ⟨G, m, μ, ρ, s, en.ok, by
    have k := KnS.bindAtOs (σ := σ) a k
    cases q : eos ρ μ with
    | bad => rw [q] at k; exact k
    | ex c' fs' μ' => rw [q] at k; exact k
    | ok vs μ1 =>
      rw [q] at k
      intro G1 m1 H1 zs x1 s1 r1 f1 d1
      obtain ⟨G2, m2, μ2, v2, x2, s2, r2, f2, d2, k2⟩ := k G1 m1 H1 zs x1 s1 r1 f1 d1
      cases q2 : setAll ρ [i, j, l] v2 with
      | none => rw [q2] at k2; exact k2.elim
      | some ρ1 =>
        rw [q2] at k2
        obtain ⟨za, zb, zc, rfl⟩ := paired3 r2 (setAll_len q2)
        refine ⟨za, zb, zc, rfl, ?_⟩
        refine k2 G2 m2 H1 _ (a.step x2) s2 (setAll_ok [i, j, l] v2 [za, zb, zc] ρ ρ1 σ q2 r2 (Paired.mapP f2 fun s y fr => ?_) d2 (fun j ys c h1 h2 p hp l hl q => ?_) (en.ext x2))
        · cases s with
          | own xs => obtain ⟨p, h1, h2⟩ := fr; exact ⟨p, h1, a.fresh h2⟩
          | val _ => trivial
          | exc _ _ => trivial
        · obtain ⟨p', h3, h4⟩ := fresh_own f2 p hp l hl
          rw [q] at h3
          cases h3
          exact en.ok.own_ne h4 h1 h2 rfl⟩
/-- a.append(e), a an own list -/
theorem s_app {na : Str} {p p2 : Pos} (hi : X.N[i]? = some na) (hv : Vis X.env.scope na) (hd : (na == ("__debug__" : Str)) = false) (hcd : (na == ("__classdict__" : Str)) = false) (he : PE X e (tV (layOf X fs cls) W ea))
    (hst : starEach [e] X.env = (false, eval e X.env) :: starEach [] X.env) (hbase : attributeBase (.Name na p) "append" X.env (eval (.Name na p) X.env) = eval (.Name na p) X.env)
    (hfew : ((backTo pos' (starEach [e] X.env)).all (fun x => !x.1) && (backToKw pos' (keywordEach [] X.env)).all (fun x => x.1.isSome) && decide (([e] : List Expr).length + ([] : List Keyword).length + (if ([] : List Keyword).isEmpty then 0 else 1) < 30)) = true)
    (hline : (p2.endLine == pos'.line) = true) (hpl : (backTo pos' (starEach [] X.env)).any (·.1) = false) (hs : swapsWith (.Call (.Attribute (.Name na p) "append" p2) [e] [] pos') none pos.line X.env = pure false) :
    PS X (.Expr (.Call (.Attribute (.Name na p) "append" p2) [e] [] pos') pos) (tSt (layOf X fs cls) W b fun ρ μ => match ρ[i]? with
    | some (some (.own xs)) => (ea ρ μ).bind fun v μ1 => if xs.length < sizeLine then .ok (.next (ρ.set i (some (.own (xs ++ [v]))))) μ1 else .bad
    | _ => .bad) := by
  refine PS.weak (ps_expr (pe_bm PySem.F.plainAttrs_list PySem.F.slot_list_append PySem.F.type_list_append mt_append (pe_var hi hv hd hcd) (s_cons he s_nil hst) hbase hfew hline hst hpl) hs) fun D σ H ⟨G, m, μ, ρ, a, s, en, k⟩ => ?_
  dsimp only at k
  split at k
  · rename_i xs hx
    obtain ⟨y, h1, p, vs, rfl, h3, h4, h5, h6⟩ := en.ok.sl i _ hx
    have hp0 := en.yg i xs p hx h1
    refine ⟨.ref p, h1, .inl ⟨rfl, vs, .inl (.inl h3)⟩, ?_⟩
    refine ⟨G, m, μ, ρ, s, en.ok, ?_⟩
    have k' : KnS (layOf X fs cls) W b (((ea ρ μ).bind fun v μ1 => (R.ok ([] : List RV) μ1).bind fun vs μ2 => .ok (v :: vs) μ2).bind fun vs μ3 => match vs with
      | [v] => (fun v μ1 => if xs.length < sizeLine then R.ok (F.next (ρ.set i (some (.own (xs ++ [v]))))) μ1 else .bad) v μ3
      | _ => .bad) D := by
      cases q : ea ρ μ <;> rw [q] at k <;> exact k
    refine (KnS.bindAt (Rel := RelL (layOf X fs cls)) a k').mono fun ys H1 ⟨G1, m1, μ1, vs1, x1, s1, r1, k1⟩ => ?_
    have hv : ∃ v, vs1 = [v] := by
      split at k1
      · exact ⟨_, rfl⟩
      · exact k1.elim
    obtain ⟨v, rfl⟩ := hv
    cases r1 with
    | @cons _ w _ _ rv rn =>
      cases rn
      dsimp only at k1
      split at k1
      · rename_i hl
        have h3' := x1.kp _ _ h3 h6
        have g1 := x1.gn _ _ h5 h3
        have n1 : p ∉ m1 := fun q => by
          rcases x1.nw _ q with z | z
          · exact h6 z
          · rw [h3] at z; cases z
        refine ⟨p, vs, w, rfl, rfl, h3', by rw [← rvs_length h4]; exact hl, ?_⟩
        have a2 : b.at G1 m1 (upd H1 p (.lst (vs ++ [w]))) := ⟨(a.step x1).ext.chg hp0, (a.step x1).sg, (a.step x1).pre⟩
        refine k1 G1 m1 (upd H1 p (.lst (vs ++ [w]))) σ a2 (s1.other n1 g1) ?_
        have e1 := en.ext x1
        refine ⟨⟨by simp [e1.ok.len], fun j sl hj => ?_, fun j l xs' ys' a' c' hjl q1 q2 q3 q4 => ?_⟩, fun j xs' a' q1 q2 => ?_⟩
        · rcases set_get hj with ⟨rfl, _, q⟩ | ⟨n, q⟩
          · cases q
            exact ⟨.ref p, h1, p, vs ++ [w], rfl, upd_same, Paired.snoc (RVs.ext (H := H) h4 x1) rv, g1, n1⟩
          · obtain ⟨z, z1, z2⟩ := e1.ok.sl j sl q
            refine ⟨z, z1, ?_⟩
            cases sl with
            | val _ => exact z2
            | exc c fs =>
              obtain ⟨a', dd, vs', w1, w2, w3, w4⟩ := z2
              have nd : dd ≠ p := fun q5 => by rw [q5, h3'] at w3; cases w3
              exact ⟨a', dd, vs', w1, w2, by rw [upd_ne nd]; exact w3, w4⟩
            | own ys =>
              obtain ⟨c', vs', w1, w2, w3⟩ := z2
              subst w1
              have nc : c' ≠ p := fun q5 => en.ok.ap i j xs ys p c' n hx q h1 z1 q5.symm
              exact ⟨c', vs', rfl, by rw [upd_ne nc]; exact w2, w3⟩
        · have f1 : ∃ xs'', ρ[j]? = some (some (.own xs'')) := by
            rcases set_get q1 with ⟨rfl, _, _⟩ | ⟨_, q⟩
            · exact ⟨_, hx⟩
            · exact ⟨_, q⟩
          have f2 : ∃ xs'', ρ[l]? = some (some (.own xs'')) := by
            rcases set_get q2 with ⟨rfl, _, _⟩ | ⟨_, q⟩
            · exact ⟨_, hx⟩
            · exact ⟨_, q⟩
          obtain ⟨u1, f1⟩ := f1
          obtain ⟨u2, f2⟩ := f2
          exact en.ok.ap j l u1 u2 a' c' hjl f1 f2 q3 q4
        · rcases set_get q1 with ⟨rfl, _, _⟩ | ⟨_, q⟩
          · rw [h1] at q2; cases q2; exact hp0
          · exact en.yg j xs' a' q q2
      · exact k1.elim
  · exact k.elim
/-- from here on the own list stays as it is -/
theorem s_frz (h : PSs X rest (tSt (layOf X fs cls) W b ev2)) : PSs X rest (tSt (layOf X fs cls) W b (seqE (fun ρ μ => match ρ[i]? with
    | some (some (.own xs)) => match allBy pureR xs with
      | some ds => .ok (.next (ρ.set i (some (.val (.d (.list ds)))))) μ
      | none => .bad
    | _ => .bad) ev2)) := by
  refine PSs.weak h fun D σ H ⟨G, m, μ, ρ, a, s, en, k⟩ => ?_
  unfold seqE at k
  dsimp only at k
  split at k
  · rename_i xs hx
    cases q : allBy pureR xs with
    | none => rw [q] at k; exact k.elim
    | some ds =>
      rw [q] at k
      have k : KnS (layOf X fs cls) W b (ev2 (ρ.set i (some (.val (.d (.list ds))))) μ) D := k
      obtain ⟨y, h1, p, vs, rfl, h3, h4, h5, h6⟩ := en.ok.sl i _ hx
      have hp0 := en.yg i xs p hx h1
      obtain ⟨h7, rfl⟩ := rvs_pure h4 q
      have gp : Same G (upd G p (.lst vs)) := fun c o e => by rw [upd_ne (ne_of_none e h5)]; exact e
      refine ⟨upd G p (.lst vs), m, μ, _, ⟨⟨a.ext.g.trans gp, a.ext.mx, a.ext.kp, a.ext.th, a.ext.nw, fun c o w1 w2 => ?_⟩, a.sg.trans gp, a.pre⟩, ⟨s.len, s.nd, fun c o w => ?_, fun c w => ?_, fun n c ob w1 w2 => ?_⟩, ?_, k⟩
      · rw [upd_ne (ne_of_none w2 hp0)]
        exact a.ext.gn _ _ w1 w2
      · by_cases e1 : c = p
        · subst e1
          rw [upd_same] at w
          cases w
          exact h3
        · rw [upd_ne e1] at w
          exact s.same _ _ w
      · rw [upd_ne (fun q : c = p => h6 (by rw [← q]; exact w))]
        exact s.off _ w
      · obtain ⟨ho, e1, e2⟩ := s.obs _ _ _ w1 w2
        exact ⟨ho, e1, e2.up gp ⟨[], by simp⟩⟩
      · have hl : i < ρ.length := (List.getElem?_eq_some_iff.mp hx).1
        refine ⟨⟨by simp [en.ok.len], fun j sl hj => ?_, fun j l xs' ys' a' c' hjl q1 q2 q3 q4 => ?_⟩, fun j xs' a' q1 q2 => ?_⟩
        · rcases set_get hj with ⟨rfl, _, q⟩ | ⟨n, q⟩
          · cases q
            exact ⟨.ref p, h1, .d (.lst upd_same (dpAll_same gp _ _ h7))⟩
          · obtain ⟨z, z1, z2⟩ := en.ok.sl j sl q
            refine ⟨z, z1, ?_⟩
            cases sl with
            | val _ => exact RVr.up z2 gp ⟨[], by simp⟩
            | exc c fs =>
              obtain ⟨a', dd, vs', w1, w2, w3, w4, w5, w6⟩ := z2
              have nd : dd ≠ p := fun q5 => by rw [q5, h3] at w3; cases w3
              exact ⟨a', dd, vs', w1, w2, w3, Paired.mapP w4 fun _ _ z => RVr.up z gp ⟨[], by simp⟩, by rw [upd_ne nd]; exact w5, w6⟩
            | own ys =>
              obtain ⟨c', vs', w1, w2, w3, w4, w5⟩ := z2
              subst w1
              have nc : c' ≠ p := fun q5 => en.ok.ap i j _ ys p c' n hx q h1 z1 q5.symm
              exact ⟨c', vs', rfl, w2, Paired.mapP w3 fun _ _ z => RVr.up z gp ⟨[], by simp⟩, by rw [upd_ne nc]; exact w4, w5⟩
        · rcases set_get q1 with ⟨_, _, q⟩ | ⟨_, q⟩
          · cases q
          · rcases set_get q2 with ⟨_, _, q5⟩ | ⟨_, q5⟩
            · cases q5
            · exact en.ok.ap j l xs' ys' a' c' hjl q q5 q3 q4
        · rcases set_get q1 with ⟨_, _, q⟩ | ⟨_, q⟩
          · cases q
          · exact en.yg j xs' a' q q2
  · exact k.elim
end
end Pv
end

/-! text PvExc -/
section
/-! Pv, part 11: errors of the program's own. -/
namespace Pv
open PySem L2
/-! ### __init__ with one attribute -/
def spInit (K : PySem.W.Frag) (f : Str) : Sp := fun vs H Q E => ∃ (a C : Addr) (v : V), vs = [.ref a, v] ∧ OexC K C ∧ PySem.W.findIn K (.ref C) f = some none ∧ H a = some (exo a C none) ∧
  ∀ dx, H dx = none → dx ≠ a → Q .non (upd (upd H dx (exd dx [(f, v)])) a (exo a C (some dx)))
theorem fn_init {P : Program} {w : World} {K : PySem.W.Frag} {mg : Str → Option Value} {base : Heap} {qual se p f : Str} {st : Stmt} {fI : Addr} {fd : FuncData} {q1 q2 q3 q4 : Pos} (F : Fun K "__init__" qual st fI fd)
    (hb : defBody st = [.Assign [.Attribute (.Name se q1) f q2] (.Name p q3) q4]) (S : FnScope [se, p] [se, p] (defScope st)) (v0 : Vis (defScope st) se) (v1 : Vis (defScope st) p)
    (h1 : (se == ("__debug__" : Str)) = false) (h2 : (se == ("__classdict__" : Str)) = false) (h3 : (p == ("__debug__" : Str)) = false) (h4 : (p == ("__classdict__" : Str)) = false) :
    FnOk P w K mg base (L2.CX P w) 1 fI fd [se, p] (spInit K f) := by
  refine F.okX (k := 0) S (fun vs H Q E h => ?_) (fun cdv A outer s H vs Q E hr h => ?_)
  · obtain ⟨a, C, v, rfl, _⟩ := h
    rfl
  · rw [hb]
    refine ⟨_, pss_one (ps_ost (pe_var (i := 0) rfl v0 h1 h2) (pe_var (i := 1) rfl v1 h3 h4) rfl), ?_⟩
    obtain ⟨a, C, v, rfl, T, nf, e, k⟩ := h
    exact ⟨v, rfl, .ref a, rfl, a, C, rfl, T, nf, .inl ⟨e, fun dx h1 h2 => k dx h1 h2⟩⟩
/-- the error class number c, at C, of one attribute -/
structure Exc1 (L : Lay) (c : Nat) (x : Str) (C : Addr) (f : Str) (fI : Addr) (fd : FuncData) (ps : List Str) : Prop where
  cl : L.cls[c]? = some (C, [f])
  at_ : L.mg x = some (.ref C)
  T : OexC L.K C
  iC : PySem.W.findIn L.K (.ref C) "__init__" = some (some (.ref fI))
  tI : PySem.W.typeIn L.K (.ref fI) = some (.type "function")
  nf : PySem.W.findIn L.K (.ref C) f = some none
  ok : FnOk L.P L.w L.K L.mg L.base (L2.CX L.P L.w) 1 fI fd ps (spInit L.K f)
  bd : Binds L.K fd ps []
theorem del_end {H1 : Hp} {a dx C : Addr} {f : Str} {v : V} {d0 : Option Addr} (ha : H1 a = none) (ne : dx ≠ a) {o1 o2 o3 : HO} : upd (del (upd (upd (upd H1 a o1) dx o2) a o3) a) dx (.xd [(f, v)]) = upd H1 dx (.xd [(f, v)]) := by
  funext b
  by_cases hb : b = dx
  · subst hb; rw [upd_same, upd_same]
  · rw [upd_ne hb, upd_ne hb]
    by_cases hba : b = a
    · subst hba; rw [del_same, ha]
    · rw [del_ne hba, upd_ne hba, upd_ne hb, upd_ne hba]
section
variable {X : Cx} {fs : List Fn} {cls : List (Addr × List Str)} {W : WX} {b : Bs} {e : Expr} {es : List Expr} {eas : REnv → Sto → R (List RV)} {pos pos' p : Pos} {i c k : Nat} {x f : Str} {C fI : Addr} {fd : FuncData} {ps : List Str}
theorem raise_end {D : Ends} {G1 H1 : Hp} {m1 : List Addr} {μ1 : Sto} {v : RV} {y : V} {σ : L2.St} (hcl : cls[c]? = some (C, [f])) (a : b.at G1 m1 H1) (s1 : Sok X.K G1 m1 μ1 H1) (ra : RVr X.K G1 m1 v y) (k1 : KnS (layOf X fs cls) W b (.ex c ([f].zip [v]) μ1) D) :
    ∀ dx, H1 dx = none → W (.ref C) (some dx) σ (upd H1 dx (.xd [(f, y)])) := fun dx h1 => by
  have x2 : Ext G1 m1 H1 G1 m1 (upd H1 dx (.xd [(f, y)])) := ext_new h1 s1.same
  exact k1 G1 m1 (upd H1 dx (.xd [(f, y)])) σ (.ref C) (some dx) (a.step x2) (s1.new h1) ⟨C, [f], hcl, rfl, rfl, .inr ⟨by simp, dx, [y], rfl, upd_same, .cons (ra.ext x2) .nil, s1.same.free h1, fun q => by
    obtain ⟨u, e⟩ := s1.there q
    rw [h1] at e; cases e⟩⟩
theorem init_end {H1 : Hp} {ad : Addr} {y : V} {Q : XK} (had : H1 ad = none) (k : ∀ dx, H1 dx = none → Q (.ref C) (some dx) (upd H1 dx (.xd [(f, y)]))) (dx : Addr) (hdx : upd H1 ad (exo ad C none) dx = none) (ne : dx ≠ ad) :
    (fun (v : V) (H2 : Hp) => v = .non ∧ ∃ (d : Addr) (fs : List (Str × V)), H2 ad = some (exo ad C (some d)) ∧ H2 d = some (exd d fs) ∧ H1 d = none ∧ Q (.ref C) (some d) (upd (del H2 ad) d (.xd fs)))
      .non (upd (upd (upd H1 ad (exo ad C none)) dx (exd dx [(f, y)])) ad (exo ad C (some dx))) := by
  have h1 : H1 dx = none := by rw [upd_ne ne] at hdx; exact hdx
  refine ⟨rfl, dx, [(f, y)], upd_same, by rw [upd_ne ne, upd_same], h1, ?_⟩
  rw [del_end (C := C) (d0 := none) had ne]
  exact k dx h1
theorem s_raise1 (Ex : Exc1 (layOf X fs cls) c x C f fI fd ps) (hc : X.calm = true) (tk : Takes X W) (hr : Room 2 X.A) (hg : Gl X x) (hdb : (x == ("__debug__" : Str)) = false) (ha : PA X (e :: es) (tVs (layOf X fs cls) W eas))
    (he : starEach (e :: es) X.env = (false, eval e X.env) :: starEach es X.env) (hpl : (backTo pos (starEach es X.env)).any (·.1) = false) :
    PS X (.Raise (some (.Call (.Name x p) (e :: es) [] pos)) none pos') (tSt (layOf X fs cls) W b fun ρ μ => (eas ρ μ).bind fun vs μ1 => if vs.length = [f].length then .ex c ([f].zip vs) μ1 else .bad) := by
  refine PS.weak (ps_raise hc tk (pmk_oex (k := 1) (ds := []) (dvs := []) Ex.T Ex.iC Ex.tI Ex.ok hr Ex.bd .nil (passes_call tk fun _ _ _ _ h => h.elim) hg Ex.at_ ha hdb he hpl)) fun D σ H ⟨G, m, μ, ρ, a, s, en, k⟩ => ?_
  refine ⟨G, m, μ, ρ, s, en.ok, (KnS.bindAt (Rel := RelL (layOf X fs cls)) (σ := σ) a k).mono fun xs H1 ⟨G1, m1, μ1, vs, x1, s1, r1, k1⟩ => ?_⟩
  split at k1
  · rename_i hl
    obtain ⟨v, rfl⟩ := List.length_eq_one_iff.mp hl
    cases r1 with
    | @cons _ y _ _ ra rn =>
      cases rn
      have k2 := raise_end (σ := σ) (D := D) (y := y) Ex.cl (a.step x1) s1 ra k1
      exact ⟨Nat.le_of_ble_eq_true rfl, fun ad had => ⟨ad, C, y, rfl, Ex.T, Ex.nf, upd_same, init_end (C := C) (f := f) (y := y) (Q := fun cls d H' => W cls d σ H') had k2⟩⟩
  · exact k1.elim
/-! ### e.f, e a caught error -/
structure ExaT (K : PySem.W.Frag) (C : Addr) (f : Str) : Prop where
  ga : PySem.W.findIn K (.ref C) "__getattribute__" = some (some (.builtin "BaseException.__getattribute__"))
  gg : PySem.W.findIn K (.ref C) "__getattr__" = some none
  exC : PySem.W.subIn K (.ref C) (.type "BaseException") = some true
  hdC : PySem.W.hasDictIn K C = true
  nf : PySem.W.findIn K (.ref C) f = some none
theorem lookup_rvs {K : PySem.W.Frag} {G : Hp} {m : List Addr} {f : Str} {w : RV} : ∀ {fs : List (Str × RV)} {vs : List V}, RVs K G m (fs.map (·.2)) vs → fs.lookup f = some w → ∃ v, ((fs.map (·.1)).zip vs).lookup f = some v ∧ RVr K G m w v
  | [], _, _, h => by cases h
  | (g, u) :: fs, _, .cons (b := v) a t, h => by
    by_cases hf : f == g
    · have h1 : List.lookup f ((g, u) :: fs) = some u := by simp [List.lookup, hf]
      rw [h1] at h
      cases h
      exact ⟨v, by simp [List.lookup, hf], a⟩
    · have h1 : List.lookup f ((g, u) :: fs) = List.lookup f fs := by simp [List.lookup, hf]
      rw [h1] at h
      obtain ⟨v', h2, h3⟩ := lookup_rvs t h
      exact ⟨v', by simp only [List.map_cons, List.zip_cons_cons, List.lookup, hf]; exact h2, h3⟩
theorem s_exa {n : Str} {p0 : Pos} (hE : ∀ (c : Nat) (C : Addr) (names : List Str), cls[c]? = some (C, names) → f ∈ names → ExaT X.K C f) (hN : X.N[i]? = some n) (hv : Vis X.env.scope n) (hd : (n == ("__debug__" : Str)) = false) (hcd : (n == ("__classdict__" : Str)) = false)
    (hb : attributeBase (.Name n p0) f X.env (eval (.Name n p0) X.env) = eval (.Name n p0) X.env) :
    PE X (.Attribute (.Name n p0) f pos) (tV (layOf X fs cls) W fun ρ μ => match ρ[i]? with
      | some (some (.exc _ fs)) => lift (fs.lookup f) μ
      | _ => .bad) := by
  refine ⟨fun pins st σ H Q I ⟨G, m, μ, ρ, s, en, k⟩ => ?_⟩
  dsimp only at k
  split at k
  · rename_i c gs hx
    · obtain ⟨w, hw, k1⟩ := kn_lift k
      obtain ⟨y, h1, a, dd, vs, rfl, ⟨C, oe, z1, z2, z3, z4, fv, z5⟩, h4, h5, h6, h7⟩ := en.sl i _ hx
      have hmem : f ∈ gs.map (·.1) := by
        have : ∀ {l : List (Str × RV)}, l.lookup f = some w → f ∈ l.map (·.1) := by
          intro l
          induction l with
          | nil => intro h; cases h
          | cons q l ih =>
            obtain ⟨g, u⟩ := q
            intro h
            by_cases hf : f == g
            · simp only [List.map_cons, List.mem_cons]
              exact .inl (by simpa using hf)
            · have h1 : List.lookup f ((g, u) :: l) = List.lookup f l := by simp [List.lookup, hf]
              rw [h1] at h
              exact List.mem_cons_of_mem _ (ih h)
        exact this hw
      have T := hE c C _ z1 hmem
      obtain ⟨v, l1, l2⟩ := lookup_rvs h5 hw
      refine attr_of hb (thn ((pe_var hN hv hd hcd).run pins st σ H (fun x H1 => x = .ref a ∧ H1 = H) I ⟨.ref a, h1, rfl, rfl⟩) fun u s1 hh => ?_)
      obtain ⟨x, H1, I1, rx, rfl, rfl⟩ := hh
      obtain rfl : u = Value.ref a := rx
      obtain ⟨ha, _⟩ := I1.pin (a, oe) (List.mem_append_left _ z2)
      obtain ⟨mA, hns1, hr⟩ : ObjOk X.prog X.w H1 s1.heap dd (.xd ((gs.map (·.1)).zip vs)) := I1.hok dd _ h4
      obtain ⟨od, ho, hl⟩ := lookIn_ns hns1
      obtain ⟨u, hu, ru⟩ := RelO.some_of (v := v) (o := mA f) (by rw [← l1]; exact hr f)
      have J : PySem.W.InstAt s1.heap a oe C (some od) := ⟨ha, z3, by unfold PySem.W.notCls; rw [z5] <;> rfl, by rw [z4]; exact ho⟩
      exact HandSPX.exc_get I1.kIn J T.ga T.gg T.exC (PySem.W.findObj_own T.hdC T.nf rfl (by rw [hl, hu])) (handed_of ru) ⟨v, H1, I1.tok _, ru, k1.done s l2⟩
  · exact k.elim
end
end Pv
end

/-! text PvTry -/
section
namespace Pv
open PySem L2
abbrev layL (X : Cx) (fs : List Fn) (cls : List (Addr × List Str)) (lk : Lk) : Lay := ⟨X.prog, X.w, X.K, X.mg, X.base, fs, cls, lk⟩
theorem Eok.noExc {K : PySem.W.Frag} {lk lk' : Lk} {G H : Hp} {m : List Addr} {ρ : REnv} {σ : L2.St} (e : Eok K lk G m H ρ σ) (h : noExc ρ = true) : Eok K lk' G m H ρ σ := by
  refine ⟨e.len, fun i s hi => ?_, e.ap⟩
  obtain ⟨x, hx, r⟩ := e.sl i s hi
  refine ⟨x, hx, ?_⟩
  cases s with
  | val v => exact r
  | own xs => exact r
  | exc c fs =>
    unfold Pv.noExc at h
    rw [List.all_eq_true] at h
    have q := h _ (List.mem_of_getElem? hi)
    cases q
section
variable {X : Cx} {fs : List Fn} {cls : List (Addr × List Str)} {W : WX} {b : Bs} {e h : Expr} {es : List Expr} {eh ea : REnv → Sto → R RV} {pos pos' np p1 p2 : Pos} {i c k : Nat} {x f n : Str} {C : Addr} {names : List Str} {st : Stmt} {tk : TK}
/-- what a tried statement wishes -/
def tTk (lk : Lk) (X : Cx) (fs : List Fn) (cls : List (Addr × List Str)) (tk : TK) (W : WX) (ea : REnv → Sto → R RV) : TS := match tk with
  | .drop => tDrop (tV (layL X fs cls lk) W ea)
  | .asg t => tAsg (tV (layL X fs cls lk) W ea) (gOf X.K t)
  | .ret => tRet (tV (layL X fs cls lk) W ea)
def tsuite (X : Cx) (fs : List Fn) (cls : List (Addr × List Str)) (eh : REnv → Sto → R RV) (a : Addr) (cv : Value) (d : Option Addr) : TS := fun D σ H =>
  ∀ lk : Lk, (∀ c C names dd, cls[c]? = some (C, names) → cv = .ref C → d = some dd → lk c names a dd) → tRet (tV (layL X fs cls lk) WF eh) D σ H
theorem s_try (hs : X.stack = X.env :: X.outer) (hf : X.env.frame = some X.env.locals) (hN : X.N.Nodup) (hi : X.N[i]? = some n) (hln : X.env.kindOf n = some .local) (hcn : Names X x (.ref C)) (hcl : cls[c]? = some (C, names)) (hne : names ≠ [])
    (te : PySem.W.exmOne X.K (.ref C) (.ref C) = some true)
    (hb : ∀ (W : WX) (pn : List (Addr × Obj)) (xe : Value → Shared → Prop), Takes (X.tr pn xe) W → PassesOwn (model X.prog X.w) X.A X.env xe → PSs (X.tr pn xe) [st] (tTk (lkOf (X.tr pn xe) cls) X fs cls tk W ea))
    (hh : ∀ (a : Addr) (pn : List (Addr × Obj)), PE (X.suite a pn) h (tV (layOf (X.suite a pn) fs cls) WF eh)) :
    PS X (.Try [st] [.ExceptHandler (some (.Name x np)) (some n) [.Return (some h) p1] p2] [] [] pos) (tSt (layOf X fs cls) W b fun ρ μ => if noExc ρ then tryE (ea ρ μ) tk c i eh ρ else .bad) := by
  refine PS.weak (ps_try_as (i := i) (tb := fun W D σ H => ∀ lk, tTk lk X fs cls tk W ea D σ H) (ts := tsuite X fs cls eh) (Wout := fun _ _ _ _ => False) hs hf hN hi hln hcn takes0
    (fun W pn xe tk' pw => PSs.weak (hb W pn xe tk' pw) fun D σ H q => q _) (fun a oe cv d pn hz hd => PSs.weak (pss_one (ps_ret (hh a ((a, oe) :: pn)))) fun D σ H q => q _ fun c C names dd h1 h2 h3 => ?_)) fun D σ H ⟨G, m, μ, ρ, a, s, en, k⟩ lk => ?_
  · exact ⟨C, oe, h1, List.mem_cons_self, by rw [hz.1, h2], by rw [hz.2, h3], hd⟩
  · dsimp only at k
    by_cases hx : noExc ρ = true
    · rw [if_pos hx] at k
      have core : ∀ Qd : VK, (∀ v μ1 G1 m1 H1 z, ea ρ μ = .ok v μ1 → b.at G1 m1 H1 → Sok X.K G1 m1 μ1 H1 → Eob X.K (lkOf X cls) b G1 m1 H1 ρ σ → RVr X.K G1 m1 v z → Qd z H1) →
          tV (layL X fs cls lk) (wAs X.K (.ref C) i (tsuite X fs cls eh) (fun _ _ _ _ => False) D) ea σ H Qd := by
        intro Qd hok
        refine ⟨G, m, μ, ρ, s, en.ok.noExc hx, ?_⟩
        cases q : ea ρ μ with
        | bad => rw [q] at k; exact k
        | ok v μ1 => exact fun G1 m1 H1 z x1 s1 r1 => hok v μ1 G1 m1 H1 z q (a.step x1) s1 (en.ext x1) r1
        | ex cl' gs μ1 =>
          rw [q] at k
          have k : KnS (layOf X fs cls) W b (if cl' = c ∧ i < ρ.length then (noEx (eh ((noOwn ρ).set i (some (.exc c gs))) μ1)).bind fun v μ2 => .ok (.ret v) μ2 else .bad) D := k
          split at k
          · rename_i hcond
            obtain ⟨rfl, hil⟩ := hcond
            intro G1 m1 H1 cv d x1 s1 ⟨C', names', z1, z2, z3, z4⟩
            rw [hcl] at z1
            cases z1
            subst z2
            rcases z4 with ⟨z4, _⟩ | ⟨_, dd, vs, z5, z6, z7, z8, z9⟩
            · exact absurd z4 hne
            refine ⟨true, te, fun _ ad had lk' hlk => ?_, fun q => by cases q⟩
            have en1 := en.ext x1
            have e0 : Eok X.K lk' G1 m1 H1 (noOwn ρ) σ := en1.ok.noOwn
            refine ⟨G1, m1, μ1, (noOwn ρ).set i (some (.exc cl' gs)), s1, ⟨by simp [e0.len], fun j sl hj => ?_, fun j l xs ys a' c' _ w1 _ _ _ => ?_⟩, ?_⟩
            · rcases set_get hj with ⟨rfl, hl, w⟩ | ⟨nj, w⟩
              · cases w
                exact ⟨.ref ad, by rw [List.getElem?_set_self (by rw [← e0.len]; exact hl)], ad, dd, vs, rfl, by rw [z3]; exact hlk _ _ _ _ hcl rfl z5, by rw [z3]; exact z6, z7, z8, z9⟩
              · obtain ⟨y, w1, w2⟩ := e0.sl j sl w
                exact ⟨y, by rw [List.getElem?_set_ne nj]; exact w1, w2⟩
            · rcases set_get w1 with ⟨_, _, w⟩ | ⟨_, w⟩
              · cases w
              · obtain ⟨v, w'⟩ := noOwn_noOwn ρ j _ w
                cases w'
            · cases q2 : eh ((noOwn ρ).set i (some (.exc cl' gs))) μ1 with
              | bad => rw [q2] at k; exact k
              | ok v μ2 =>
                rw [q2] at k
                exact fun G2 m2 H2 z x2 s2 r2 => k G2 m2 H2 z ((a.step x1).step x2) s2 r2
              | ex c2 g2 μ2 => rw [q2] at k; exact (show False from k).elim
          · exact k.elim
      cases tk with
      | drop =>
        refine core _ fun v μ1 G1 m1 H1 z q a1 s1 e1 r1 => ?_
        rw [q] at k
        exact k G1 m1 H1 σ a1 s1 e1
      | ret =>
        refine core _ fun v μ1 G1 m1 H1 z q a1 s1 e1 r1 => ?_
        rw [q] at k
        exact k G1 m1 H1 z a1 s1 r1
      | asg t =>
        refine core _ fun v μ1 G1 m1 H1 z q a1 s1 e1 r1 => ?_
        rw [q] at k
        have k : KnS (layOf X fs cls) W b ((lift (asgN t v ρ) μ1).bind fun ρ1 μ2 => .ok (.next ρ1) μ2) D := k
        cases q3 : asgN t v ρ with
        | none => rw [q3] at k; exact k.elim
        | some ρ1 =>
          rw [q3] at k
          exact gOf_okP s1.same (fun ρ σ => Eob X.K (lkOf X cls) b G1 m1 H1 ρ σ) (fun ρ σ i v x e r => e.setv r) t v ρ ρ1 z σ _ q3 r1 e1 fun σ' e' => k G1 m1 H1 σ' a1 s1 e'
    · rw [if_neg hx] at k
      exact k.elim
end
end Pv
end

/-! text PvStore -/
section
/-! Pv, part 12: writing into dicts of the store. -/
namespace Pv
open PySem L2
section
variable {K : PySem.W.Frag} {G H : Hp} {m : List Addr} {μ : Sto} {n : Nat} {a : Addr} {ob : Ob} {ho : HO}
theorem ext_wr (hm : a ∈ m) (ha : ∃ o, H a = some o) : Ext G m H G m (upd H a ho) := by
  refine ⟨Same.refl G, ⟨[], by simp⟩, fun b o h hb => ?_, fun b o h => ?_, fun _ h => .inl h, fun _ _ h _ => h⟩
  · rw [upd_ne (fun q => hb (by rw [q]; exact hm))]; exact h
  · by_cases e : b = a
    · exact ⟨ho, by rw [e, upd_same]⟩
    · exact ⟨o, by rw [upd_ne e]; exact h⟩
theorem sok_wr (s : Sok K G m μ H) (hn : m[n]? = some a) (r : ObR K G m ob ho) : Sok K G m (μ.set n ob) (upd H a ho) := by
  have hm : a ∈ m := List.mem_of_getElem? hn
  refine ⟨by simp [s.len], s.nd, fun b o h => ?_, s.off, fun n' a' ob' h1 h2 => ?_⟩
  · have ga := s.off a hm
    rw [upd_ne (ne_of_none h ga)]
    exact s.same _ _ h
  · by_cases e : n = n'
    · subst e
      rw [hn] at h1
      cases h1
      have hl : n < μ.length := by
        have := (List.getElem?_eq_some_iff.mp hn).1
        rw [s.len] at this
        exact this
      rw [List.getElem?_set_self hl] at h2
      cases h2
      exact ⟨ho, upd_same, r⟩
    · rw [List.getElem?_set_ne e] at h2
      obtain ⟨ho', e1, e2⟩ := s.obs _ _ _ h1 h2
      have na : a' ≠ a := fun q => by
        subst q
        obtain ⟨l1, q1⟩ := List.getElem?_eq_some_iff.mp hn
        obtain ⟨l2, q2⟩ := List.getElem?_eq_some_iff.mp h1
        exact e ((List.getElem_inj s.nd).mp (q1.trans q2.symm))
      exact ⟨ho', by rw [upd_ne na]; exact e1, e2⟩
end
section
variable {X : Cx} {fs : List Fn} {cls : List (Addr × List Str)} {W : WX} {b : Bs} {e o i : Expr} {ea eo ei : REnv → Sto → R RV} {pos pos' : Pos}
theorem s_dput (hu : X.A.units + 1 < cLine) (hv : PE X e (tV (layOf X fs cls) W ea)) (ho : PE X o (tV (layOf X fs cls) W eo)) (hi : PE X i (tV (layOf X fs cls) W ei)) (hs : swapsWith e (some (.Subscript o i pos')) pos.line X.env = pure false) :
    PS X (.Assign [.Subscript o i pos'] e pos) (tSt (layOf X fs cls) W b fun ρ μ => (ea ρ μ).bind fun v μ1 => ((eo ρ μ1).bind fun x μ2 => (ei ρ μ2).bind fun y μ3 => match (match x, y with
      | .loc n, .d z => match μ3[n]?, keyD z with
        | some (.dict kvs), some k => if kvs.length + 1 ≤ sizeLine then some (μ3.set n (.dict (putK kvs k v))) else none
        | _, _ => none
      | _, _ => none) with
      | some μ4 => .ok ρ μ4
      | none => .bad).bind fun ρ1 μ5 => .ok (.next ρ1) μ5) := by
  refine PS.weak (ps_dput hu ho hi hv hs) fun D σ H ⟨G, m, μ, ρ, a, s, en, k⟩ => ?_
  refine (st_bind (α := Nat) a s en k).mono fun z H1 ⟨G1, m1, μ1, v, a1, s1, e1, r1, k1⟩ => ?_
  have k1' : KnS (layOf X fs cls) W b ((eo ρ μ1).bind fun x μ2 => ((ei ρ μ2).bind fun y μ3 => match (match x, y with
      | .loc n, .d z => match μ3[n]?, keyD z with
        | some (.dict kvs), some k => if kvs.length + 1 ≤ sizeLine then some (μ3.set n (.dict (putK kvs k v))) else none
        | _, _ => none
      | _, _ => none) with
      | some μ4 => R.ok ρ μ4
      | none => .bad).bind fun ρ1 μ5 => .ok (.next ρ1) μ5) D := by
    cases q : eo ρ μ1 <;> rw [q] at k1 <;> exact k1
  refine ⟨G1, m1, μ1, ρ, s1, e1.ok, (KnS.bindAt (Rel := RelV' (layOf X fs cls)) (σ := σ) a1 k1').mono fun x H2 ⟨G2, m2, μ2, va, x2, s2, r2, k2⟩ => ?_⟩
  have k2' : KnS (layOf X fs cls) W b ((ei ρ μ2).bind fun y μ3 => (match (match va, y with
      | .loc n, .d z => match μ3[n]?, keyD z with
        | some (.dict kvs), some k => if kvs.length + 1 ≤ sizeLine then some (μ3.set n (.dict (putK kvs k v))) else none
        | _, _ => none
      | _, _ => none) with
      | some μ4 => R.ok ρ μ4
      | none => .bad).bind fun ρ1 μ5 => .ok (.next ρ1) μ5) D := by
    cases q : ei ρ μ2 <;> rw [q] at k2 <;> exact k2
  have a2 := a1.step x2
  have e2 := e1.ext x2
  refine ⟨G2, m2, μ2, ρ, s2, e2.ok, (KnS.bindAt (Rel := RelV' (layOf X fs cls)) (σ := σ) a2 k2').mono fun y H3 ⟨G3, m3, μ3, vb, x3, s3, r3, k3⟩ => ?_⟩
  have a3 := a2.step x3
  have e3 := e2.ext x3
  cases va with
  | d _ => cases vb <;> exact (show False from k3).elim
  | scr _ => cases vb <;> exact (show False from k3).elim
  | loc n =>
    cases vb with
    | loc _ => exact (show False from k3).elim
    | scr _ => exact (show False from k3).elim
    | d w =>
      dsimp only at k3
      cases q : μ3[n]? with
      | none => rw [q] at k3; exact (show False from k3).elim
      | some ob =>
        cases ob with
        | lst _ => rw [q] at k3; exact (show False from k3).elim
        | dict kvs =>
          cases q2 : keyD w with
          | none => rw [q, q2] at k3; exact (show False from k3).elim
          | some ky =>
            rw [q, q2] at k3
            dsimp only at k3
            split at k3
            · rename_i μ4 hq
              split at hq
              · rename_i hlen
                cases hq
                have r2' := r2.ext x3
                cases r2' with
                | @loc _ ad hl =>
                obtain ⟨ho', h1, h2⟩ := s3.obs _ _ _ hl q
                cases ho' <;> first | exact h2.elim | skip
                rename_i kws
                have h2 : KR X.K G3 m3 kvs kws := h2
                have rv := (r1.ext x2).ext x3
                rw [keyD_rel (rvD r3) q2]
                have hlen' : kws.length < sizeLine := by
                  have := Paired.length h2
                  omega
                refine ⟨ad, upd H3 ad (.dK (L2.putK kws ky z)), rfl, DPut.k h1 hlen', ?_⟩
                have hm : ad ∈ m3 := List.mem_of_getElem? hl
                have x4 : Ext G3 m3 H3 G3 m3 (upd H3 ad (.dK (L2.putK kws ky z))) := ext_wr hm ⟨_, h1⟩
                exact k3 G3 m3 _ σ (a3.step x4) (sok_wr (ob := .dict (putK kvs ky v)) s3 hl (kr_put h2 rv)) (e3.ext x4)
              · cases hq
            · exact (show False from k3).elim
end
end Pv
end

/-! text PvTok -/
section
/-! Pv: str.replace wants that a token is out; within a list display whose first item is a text and a written text, one is. -/
namespace Pv
open PySem L2
section
variable {X : Cx} {fs : List Fn} {cls : List (Addr × List Str)} {W : WX} {e a b o : Expr} {es : List Expr} {ea eb : REnv → Sto → R RV} {eas : REnv → Sto → R (List RV)} {pos p1 p2 c0 c1 : Pos} {j k : Nat} {y z : Str}
theorem PET.weak {t t' : TE} (h : PET X e t) (q : ∀ σ H Q, t' σ H Q → t σ H Q) : PET X e t' := fun pins s σ H Q h0 I w => h pins s σ H Q h0 I (q _ _ _ w)
theorem PAT.weak {t t' : TA} (h : PAT X es t) (q : ∀ σ H Q, t' σ H Q → t σ H Q) : PAT X es t' := fun pos pins s σ H Q h0 I w => h pos pins s σ H Q h0 I (q _ _ _ w)
theorem w_bin {f : PyData → PyData → Option PyData} {σ : L2.St} {H : Hp} {Q : VK} (h : tV (layOf X fs cls) W (fun ρ μ => (ea ρ μ).bind fun x μ1 => (eb ρ μ1).bind fun y μ2 => lift (two f x y) μ2) σ H Q) : tOp (rF2 X.K f) (tV (layOf X fs cls) W ea) (tV (layOf X fs cls) W eb) σ H Q := by
  obtain ⟨G, m, μ, ρ, s, en, k⟩ := h
  refine (tV_bind s en k).mono fun x H1 ⟨G1, m1, μ1, va, x1, s1, e1, r1, k1⟩ => (tV_bind s1 e1 k1).mono fun y H2 ⟨G2, m2, μ2, vb, x2, s2, e2, r2, k2⟩ => ?_
  obtain ⟨w, hw, k3⟩ := kn_lift k2
  obtain ⟨dx, dy, dz, rfl, rfl, hf, rfl⟩ := two_cases hw
  exact ⟨G2, dx, dy, dz, s2.same, rvD (r1.ext x2), rvD r2, hf, fun G' H' z n rz => kn_ok k3 n s2 (.d rz)⟩
theorem st_bin {op : Operator} {f : PyData → PyData → Option PyData} (ho : OpR X (binaryOp op) (rF2 X.K f)) (ha : PET X a (tV (layOf X fs cls) W ea)) (hb : PET X b (tV (layOf X fs cls) W eb)) :
    PET X (.BinOp a op b pos) (tV (layOf X fs cls) W fun ρ μ => (ea ρ μ).bind fun x μ1 => (eb ρ μ1).bind fun y μ2 => lift (two f x y) μ2) := PET.weak (CwR.pet_op ho ha hb) fun σ H Q h => w_bin h
theorem st_rep (ho : PE X o (tV (layOf X fs cls) W ea)) (hyz : (y == z) = false) (hbase : attributeBase o "replace" X.env (eval o X.env) = eval o X.env) (hline : (p1.endLine == pos.line) = true) :
    PET X (.Call (.Attribute o "replace" p1) [.Constant (.str y) j c0, .Constant (.str z) k c1] [] pos) (tV (layOf X fs cls) W fun ρ μ => (ea ρ μ).bind fun v μ1 => match v with
      | .d (.str x) => if x.length + (x.length + 1) * z.length ≤ 16777216 then .ok (.d (.str (Txt.replace x y z))) μ1 else .bad
      | _ => .bad) :=
  PET.weak (CwR.pet_replC ho hyz rfl hbase hline) fun σ H Q ⟨G, m, μ, ρ, s, en, k⟩ => (tV_bind s en k).mono fun x H1 ⟨G1, m1, μ1, va, x1, s1, e1, r1, k1⟩ => by
    split at k1
    · split at k1
      · rename_i hb
        cases rvD r1
        exact ⟨_, rfl, hb, k1.done s1 (.d (.str _))⟩
      · exact k1.elim
    · exact k1.elim
theorem stT_nil : PAT X [] (tVs (layOf X fs cls) W fun _ μ => .ok [] μ) := PAT.weak pat_nil fun σ H Q ⟨G, m, μ, ρ, s, en, k⟩ => k.done s .nil
theorem stT_cons (ha : PET X e (tV (layOf X fs cls) W ea)) (hr : PAT X es (tVs (layOf X fs cls) W eas)) (hs : starEach (e :: es) X.env = (false, eval e X.env) :: starEach es X.env) :
    PAT X (e :: es) (tVs (layOf X fs cls) W fun ρ μ => (ea ρ μ).bind fun v μ1 => (eas ρ μ1).bind fun vs μ2 => .ok (v :: vs) μ2) :=
  PAT.weak (pat_cons ha hr hs) fun σ H Q ⟨G, m, μ, ρ, s, en, k⟩ => (tV_bind s en k).mono fun x H1 ⟨G1, m1, μ1, va, x1, s1, e1, r1, k1⟩ => (tVs_bind s1 e1 k1).mono fun xs H2 ⟨G2, m2, μ2, vs, x2, s2, e2, r2, k2⟩ =>
    k2.done s2 (.cons (r1.ext x2) r2)
/-- a + 'y' gives out a token -/
theorem pa_tok {op : Operator} {r : R2} {tu : TE} {t : TA} (ho : OpR X (binaryOp op) r) (h1 : PE X a tu) (hr : PAT X es t) : PA X (.BinOp a op (.Constant (.str y) j c0) pos :: es) (tCons (tOp r tu (tC (.str y))) t) := by
  refine ⟨fun pos' pins s σ H Q I h => ?_⟩
  show wpAny _ _ (spliced ((false, eval (.BinOp a op (.Constant (.str y) j c0) pos) X.env) :: backTo pos' (starEach es X.env))) _ _ s
  refine Calls.spliced_cons (wpAny_BinOp (thn (h1.run pins s σ H _ I h) fun v s1 hv => ?_))
  obtain ⟨x, H1, I1, r1, q1⟩ := hv
  refine Calls.Constant_str (wpAny_mono (PySem.wpAny_toks (ho pins { s1 with toks := s1.toks + 1 } σ H1 x (.str y) v _ _ (I1.tok _) r1 ⟨_, rfl⟩ q1)) (fun w s2 q => ?_) fun _ _ z => z.2)
  obtain ⟨hk, u, H2, I2, r2, q2⟩ := q
  have hk : s1.toks + 1 ≤ s2.toks := hk
  exact thn (hr pos' pins s2 σ H2 _ (by omega) I2 q2) fun us s3 ⟨xs, H3, I3, r3, q3⟩ => ⟨u :: xs, H3, I3, .cons r2 r3, q3⟩
theorem s_lstT (h1 : PE X a (tV (layOf X fs cls) W ea)) (hr : PAT X es (tVs (layOf X fs cls) W eas)) : PE X (.List (.BinOp a .Add (.Constant (.str y) j c0) p1 :: es) pos)
    (tV (layOf X fs cls) W fun ρ μ => (ea ρ μ).bind fun v μ1 => (lift (two addF v (.d (.str y))) μ1).bind fun w μ2 => (eas ρ μ2).bind fun vs μ3 => pureL (w :: vs) μ3) :=
  PE.weak (pe_lst (pa_tok oAdd h1 hr)) fun σ H Q ⟨G, m, μ, ρ, s, en, k⟩ => (tV_bind s en k).mono fun x H1 ⟨G1, m1, μ1, va, x1, s1, e1, r1, k1⟩ => by
    cases q : two addF va (.d (.str y)) with
    | none => rw [q] at k1; exact k1.elim
    | some w =>
      rw [q] at k1
      obtain ⟨dx, dy, dz, rfl, hy, hf, rfl⟩ := two_cases q
      cases hy
      refine ⟨G1, dx, .str y, dz, s1.same, rvD r1, .str y, hf, fun G' H' z n rz => ?_⟩
      have x2 : Ext G1 m1 H1 G' m1 H' := n.ext s1.same
      have s2 := n.sok s1
      have k1 : Kn (layOf X fs cls) (fun c d H' => W c d σ H') (RelV' (layOf X fs cls)) G1 m1 H1 ((eas ρ μ1).bind fun vs μ3 => pureL (.d dz :: vs) μ3) Q := k1
      refine (tVs_bind s2 (e1.ext x2) (k1.ext x2)).mono fun xs H2 ⟨G2, m2, μ2, vs, x3, s3, e3, r3, k2⟩ => ?_
      have rz2 : RVr X.K G2 m2 (.d dz) z := (RVr.d rz).ext x3
      unfold pureL at k2
      cases q2 : allBy pureR (.d dz :: vs) with
      | none => rw [q2] at k2; exact k2.elim
      | some ds =>
        rw [q2] at k2
        dsimp only at k2
        split at k2
        · rename_i hl
          obtain ⟨ra, _⟩ := rvs_pure (.cons rz2 r3) q2
          refine ⟨by rw [rpAll_length ra]; exact hl, fun p hp => ?_⟩
          exact kn_ok k2 (.inr ⟨p, _, hp, rfl, rfl⟩) s3 (.d (rp_newL (s3.same.free hp) ra))
        · exact k2.elim
end
end Pv
end

/-! text PvMatch -/
section
/-! Pv, part 13: does a written text say this expression, this statement? -/
namespace Pv
open PySem L2
mutual
def eqD : PyData → PyData → Bool
  | .none, .none => true
  | .bool a, .bool b => a == b
  | .int a, .int b => decide (a = b)
  | .str a, .str b => decide (a = b)
  | .list a, .list b => eqDs a b
  | .tuple a, .tuple b => eqDs a b
  | _, _ => false
def eqDs : List PyData → List PyData → Bool
  | [], [] => true
  | a :: as, b :: bs => eqD a b && eqDs as bs
  | _, _ => false
end
mutual
theorem eqD_ok : ∀ {x y : PyData}, eqD x y = true → x = y
  | .none, y, h => by cases y <;> first | rfl | (simp [eqD] at h)
  | .bool a, y, h => by cases y <;> first | (simp [eqD] at h; done) | (simp [eqD] at h; rw [h])
  | .int a, y, h => by cases y <;> first | (simp [eqD] at h; done) | (simp [eqD] at h; rw [h])
  | .str a, y, h => by cases y <;> first | (simp [eqD] at h; done) | (simp [eqD] at h; rw [h])
  | .list a, y, h => by
    cases y with
    | list b => rw [eqDs_ok (show eqDs a b = true by simpa [eqD] using h)]
    | _ => simp [eqD] at h
  | .tuple a, y, h => by
    cases y with
    | tuple b => rw [eqDs_ok (show eqDs a b = true by simpa [eqD] using h)]
    | _ => simp [eqD] at h
  | .dict a, y, h => by simp [eqD] at h
theorem eqDs_ok : ∀ {x y : List PyData}, eqDs x y = true → x = y
  | [], y, h => by cases y <;> first | rfl | (simp [eqDs] at h)
  | a :: as, y, h => by
    cases y with
    | nil => simp [eqDs] at h
    | cons b bs =>
      simp only [eqDs, Bool.and_eq_true] at h
      rw [eqD_ok h.1, eqDs_ok h.2]
end
/-- what is known of the program around: constants, defs, error classes, the built-in names that are left, calls by keywords -/
structure Gi where
  con : List (Str × PyData)
  fns : List Str
  exs : List (Str × Str)
  blt : List Str
  kbs : List (Nat × List Str × List Nat)
/-- .. and of the block -/
structure Cn where
  g : Gi
  N : List Str
  sc : Scope
  fnb : Str → Bool
  calm : Bool
def dbg : Str := "__debug__"
def cdc : Str := "__classdict__"
def Cn.glob (cn : Cn) (x : Str) : Bool := decide (cn.sc.names.lookup x = some .globalImplicit) && !(x == dbg)
def Cn.vis (cn : Cn) (x : Str) : Bool := (match cn.sc.names.lookup x with | some .local => true | some .cell => true | some .free => true | _ => false) && !(x == dbg) && !(x == cdc)
def Cn.loc (cn : Cn) (x : Str) : Bool := match cn.sc.names.lookup x with | some .local => true | some .cell => cn.fnb x | _ => false
def Cn.isLocal (cn : Cn) (x : Str) : Bool := decide (cn.sc.names.lookup x = some .local)
def Cn.bltn (cn : Cn) (x : Str) : Bool := cn.glob x && decide (x ∈ cn.g.blt)
def opB : Operator → Option Bop
  | .Add => some .add | .Sub => some .sub | .Mult => some .mul | .FloorDiv => some .fdiv | .Mod => some .mod | .Pow => some .pow
  | .LShift => some .shl | .RShift => some .shr | .BitAnd => some .band | .BitOr => some .bor | .BitXor => some .bxor
  | _ => none
def opC : CmpOp → Cop
  | .Eq => .eq | .NotEq => .ne | .Lt => .lt | .LtE => .le | .Gt => .gt | .GtE => .ge | .Is => .is | .IsNot => .isnot | .In => .mem | .NotIn => .notin
def constD : Const → Option PyData
  | .none => some .none | .bool b => some (.bool b) | .int i => some (.int i) | .str x => some (.str x)
  | _ => none
def isStar : Expr → Bool
  | .Starred _ _ => true
  | _ => false
def isSet : Expr → Bool
  | .Set _ _ _ => true
  | _ => false
def isSlice : Expr → Bool
  | .Slice _ _ _ _ => true
  | _ => false
def isComp : Expr → Bool
  | .ListComp _ _ _ _ => true | .SetComp _ _ _ _ => true | .DictComp _ _ _ _ _ => true
  | _ => false
/-- tests that are read in parts -/
def isTst : Expr → Bool
  | .UnaryOp .Not _ _ => true | .BoolOp _ _ _ => true | .IfExp _ _ _ _ => true | .Compare _ _ _ _ => true
  | _ => false
def isCall0 : Expr → Bool
  | .Call (.Name _ _) [] [] _ => true
  | _ => false
/-! views -/
def vName : Expr → Option (Str × Pos)
  | .Name x p => some (x, p)
  | _ => none
def vConst : Expr → Option (Const × Nat × Pos)
  | .Constant c j p => some (c, j, p)
  | _ => none
def vBin : Expr → Option (Expr × Operator × Expr × Pos)
  | .BinOp a o b p => some (a, o, b, p)
  | _ => none
def vUn : Expr → Option (UnaryOp × Expr × Pos)
  | .UnaryOp o a p => some (o, a, p)
  | _ => none
def vCmp : Expr → Option (Expr × CmpOp × Expr × Pos)
  | .Compare a [o] [b] p => some (a, o, b, p)
  | _ => none
def vCmp2 : Expr → Option (Expr × CmpOp × CmpOp × Expr × Expr × Pos)
  | .Compare a [o, q] [b, c] p => some (a, o, q, b, c, p)
  | _ => none
def vBool : Expr → Option (BoolOp × Expr × Expr × List Expr × Pos)
  | .BoolOp o (a :: b :: r) p => some (o, a, b, r, p)
  | _ => none
def vIte : Expr → Option (Expr × Expr × Expr × Pos)
  | .IfExp t a b p => some (t, a, b, p)
  | _ => none
def vTup : Expr → Option (List Expr × Nat × Pos)
  | .Tuple es k p => some (es, k, p)
  | _ => none
def vLst : Expr → Option (List Expr × Pos)
  | .List es p => some (es, p)
  | _ => none
def vSub : Expr → Option (Expr × Expr × Pos)
  | .Subscript a i p => some (a, i, p)
  | _ => none
def vSli : Expr → Option (Option Expr × Option Expr × Pos)
  | .Slice lo hi none p => some (lo, hi, p)
  | _ => none
def vCall : Expr → Option (Expr × List Expr × List Keyword × Pos)
  | .Call f es kw p => some (f, es, kw, p)
  | _ => none
def vAttr : Expr → Option (Expr × Str × Pos)
  | .Attribute a f p => some (a, f, p)
  | _ => none
def vComp : Expr → Option (Expr × Expr × Expr × List Expr × Scope × Pos)
  | .ListComp e [⟨t, it, ifs, 0⟩] sc p => some (e, t, it, ifs, sc, p)
  | _ => none
def vComp2 : Expr → Option (Expr × Expr × Expr × List Expr × Expr × Expr × List Expr × Scope × Pos)
  | .ListComp e [⟨t, it, ifs, 0⟩, ⟨t2, it2, ifs2, 0⟩] sc p => some (e, t, it, ifs, t2, it2, ifs2, sc, p)
  | _ => none
def vDict : Expr → Option (List (Option Expr) × List Expr × Pos)
  | .Dict ks vs p => some (ks, vs, p)
  | _ => none
def vJoin : Expr → Option (List Expr × Pos)
  | .JoinedStr es p => some (es, p)
  | _ => none
def vFmt : Expr → Option (Expr × Pos)
  | .FormattedValue e (-1) none p => some (e, p)
  | _ => none
theorem vName_ok {e : Expr} {x : Str} {p : Pos} (h : vName e = some (x, p)) : e = .Name x p := by cases e <;> cases h; rfl
theorem vConst_ok {e : Expr} {c : Const} {j : Nat} {p : Pos} (h : vConst e = some (c, j, p)) : e = .Constant c j p := by cases e <;> cases h; rfl
theorem vBin_ok {e a b : Expr} {o : Operator} {p : Pos} (h : vBin e = some (a, o, b, p)) : e = .BinOp a o b p := by cases e <;> cases h; rfl
theorem vUn_ok {e a : Expr} {o : UnaryOp} {p : Pos} (h : vUn e = some (o, a, p)) : e = .UnaryOp o a p := by cases e <;> cases h; rfl
theorem vCmp_ok {e a b : Expr} {o : CmpOp} {p : Pos} (h : vCmp e = some (a, o, b, p)) : e = .Compare a [o] [b] p := by
  unfold vCmp at h
  split at h
  · cases h; rfl
  · cases h
theorem vCmp2_ok {e a b c : Expr} {o q : CmpOp} {p : Pos} (h : vCmp2 e = some (a, o, q, b, c, p)) : e = .Compare a [o, q] [b, c] p := by
  unfold vCmp2 at h
  split at h
  · cases h; rfl
  · cases h
theorem vBool_ok {e a b : Expr} {o : BoolOp} {r : List Expr} {p : Pos} (h : vBool e = some (o, a, b, r, p)) : e = .BoolOp o (a :: b :: r) p := by
  unfold vBool at h
  split at h
  · cases h; rfl
  · cases h
theorem vIte_ok {e t a b : Expr} {p : Pos} (h : vIte e = some (t, a, b, p)) : e = .IfExp t a b p := by cases e <;> cases h; rfl
theorem vTup_ok {e : Expr} {es : List Expr} {k : Nat} {p : Pos} (h : vTup e = some (es, k, p)) : e = .Tuple es k p := by cases e <;> cases h; rfl
theorem vLst_ok {e : Expr} {es : List Expr} {p : Pos} (h : vLst e = some (es, p)) : e = .List es p := by cases e <;> cases h; rfl
theorem vSub_ok {e a i : Expr} {p : Pos} (h : vSub e = some (a, i, p)) : e = .Subscript a i p := by cases e <;> cases h; rfl
theorem vSli_ok {e : Expr} {lo hi : Option Expr} {p : Pos} (h : vSli e = some (lo, hi, p)) : e = .Slice lo hi none p := by
  unfold vSli at h
  split at h
  · cases h; rfl
  · cases h
theorem vCall_ok {e f : Expr} {es : List Expr} {kw : List Keyword} {p : Pos} (h : vCall e = some (f, es, kw, p)) : e = .Call f es kw p := by cases e <;> cases h; rfl
theorem vAttr_ok {e a : Expr} {f : Str} {p : Pos} (h : vAttr e = some (a, f, p)) : e = .Attribute a f p := by cases e <;> cases h; rfl
theorem vComp_ok {e x t it : Expr} {ifs : List Expr} {sc : Scope} {p : Pos} (h : vComp e = some (x, t, it, ifs, sc, p)) : e = .ListComp x [⟨t, it, ifs, 0⟩] sc p := by
  unfold vComp at h
  split at h
  · cases h; rfl
  · cases h
theorem vComp2_ok {e x t it t2 it2 : Expr} {ifs ifs2 : List Expr} {sc : Scope} {p : Pos} (h : vComp2 e = some (x, t, it, ifs, t2, it2, ifs2, sc, p)) : e = .ListComp x [⟨t, it, ifs, 0⟩, ⟨t2, it2, ifs2, 0⟩] sc p := by
  unfold vComp2 at h
  split at h
  · cases h; rfl
  · cases h
theorem vDict_ok {e : Expr} {ks : List (Option Expr)} {vs : List Expr} {p : Pos} (h : vDict e = some (ks, vs, p)) : e = .Dict ks vs p := by cases e <;> cases h; rfl
theorem vJoin_ok {e : Expr} {es : List Expr} {p : Pos} (h : vJoin e = some (es, p)) : e = .JoinedStr es p := by cases e <;> cases h; rfl
theorem vFmt_ok {e a : Expr} {p : Pos} (h : vFmt e = some (a, p)) : e = .FormattedValue a (-1) none p := by
  unfold vFmt at h
  split at h
  · cases h; rfl
  · cases h
/-- functions and types that are built in, by name -/
def biFun : Bi → Option (Str × Bool)
  | .len => some ("len", false) | .tuple => some ("tuple", true) | .list => some ("list", true) | .int => some ("int", true) | .str => some ("str", true)
  | .abs => some ("abs", false) | .min2 => some ("min", false) | .max2 => some ("max", false) | .sum => some ("sum", false) | .all => some ("all", false) | .any => some ("any", false)
  | .repr => some ("repr", false)
  | _ => none
def isinOf : Bi → Option Ty
  | .isin ty => some ty
  | _ => none
theorem isinOf_ok {b : Bi} {ty : Ty} (h : isinOf b = some ty) : b = .isin ty := by cases b <;> cases h; rfl
def biMt : Bi → Option Str
  | .join => some "join" | .split1 => some "split" | .partition => some "partition" | .rpartition => some "rpartition" | .startswith => some "startswith"
  | _ => none
/-- those that want a calm block -/
def biCalm : Bi → Bool
  | .min2 => true | .max2 => true | .sum => true | .all => true | .any => true
  | _ => false
def blkS (cn : Cn) (sc : Scope) : Cn := { cn with sc := relS sc cn.sc, fnb := fun x => decide (sc.names.lookup x = some .cell) }
def ownOf (N : List Str) (own : List Nat) : List (Str × Nat) := own.filterMap fun i => (N[i]?).map fun x => (x, i)
def kwNames : List Keyword → Option (List Str)
  | [] => some []
  | ⟨some x, _, _⟩ :: r => (kwNames r).map (x :: ·)
  | _ => none
/-- a test that is read as a value, or in parts that are -/
def tOk : Expr → Bool
  | .IfExp _ _ _ _ => false
  | _ => true
def mKs (cn : Cn) : List Key → List (Option Expr) → Bool
  | [], [] => true
  | k :: ks, some x :: xs => (match vConst x with
    | some (c, _, _) => decide (keyC c = some k)
    | none => (match vName x with
      | some (n, _) => cn.glob n && (match cn.g.con.lookup n with | some d => decide (keyD d = some k) | none => false)
      | none => false)) && mKs cn ks xs
  | _, _ => false
def subset (xs ys : List Nat) : Bool := xs.all fun x => decide (x ∈ ys)
mutual
def mT (cn : Cn) : T → Expr → Bool
  | .nm i, x => match vName x with
    | some (n, _) => decide (cn.N[i]? = some n) && cn.loc n
    | none => false
  | .tup ts, x => match vTup x with
    | some (es, _, _) => mTs cn ts es
    | none => false
  | .sub _ _, _ => false
def mTs (cn : Cn) : List T → List Expr → Bool
  | [], [] => true
  | t :: ts, x :: xs => mT cn t x && !isStar x && mTs cn ts xs
  | _, _ => false
end
mutual
def mE (cn : Cn) : E → Expr → Bool
  | .con d, x => match vConst x with
    | some (c, _, _) => (match constD c with | some d' => eqD d' d | none => false)
    | none => match vName x with
      | some (n, _) => cn.glob n && (match cn.g.con.lookup n with | some d' => eqD d' d | none => false)
      | none => false
  | .var i, x => match vName x with
    | some (n, _) => decide (cn.N[i]? = some n) && cn.vis n
    | none => false
  | .bin o a b, x => match vBin x with
    | some (u, q, v, _) => decide (opB q = some o) && mE cn a u && mE cn b v
    | none => false
  | .neg a, x => match vUn x with
    | some (.USub, u, _) => mE cn a u
    | _ => false
  | .not a, x => match vUn x with
    | some (.Not, u, _) => mE cn a u && tOk u
    | _ => false
  | .cmp o a b, x => match vCmp x with
    | some (u, q, v, _) => decide (opC q = o) && !isSet v && mE cn a u && mE cn b v
    | none => false
  | .chain o p a b c, x => match vCmp2 x with
    | some (u, q, r, v, w, _) => decide (opC q = o) && decide (opC r = p) && !isSet w && mE cn a u && mE cn b v && mE cn c w
    | none => false
  | .and a b, x => match vBool x with
    | some (.And, u, v, r, p) => mE cn a u && tOk u && (!r.isEmpty || tOk v) && mE cn b (if r.isEmpty then v else .BoolOp .And (v :: r) p)
    | _ => false
  | .or a b, x => match vBool x with
    | some (.Or, u, v, r, p) => mE cn a u && tOk u && (!r.isEmpty || tOk v) && mE cn b (if r.isEmpty then v else .BoolOp .Or (v :: r) p)
    | _ => false
  | .ite t a b, x => match vIte x with
    | some (w, u, v, _) => mE cn t w && tOk w && mE cn a u && mE cn b v
    | none => false
  | .tup es, x => match vTup x with
    | some (xs, _, _) => mEs cn es xs
    | none => false
  | .lst es, x => match vLst x with
    | some (xs, _) => mEs cn es xs
    | none => false
  | .idx a i, x => match vSub x with
    | some (u, v, _) => !isSlice v && mE cn a u && mE cn i v
    | none => false
  | .sli a lo hi, x => match vSub x with
    | some (u, s, _) => (match vSli s with
      | some (l, h, _) => mE cn a u && mO cn lo l && mO cn hi h
      | none => false)
    | none => false
  | .call f es, x => match vCall x with
    | some (g, xs, [], _) => (match vName g with
      | some (n, _) => decide (cn.g.fns[f]? = some n) && cn.glob n && cn.calm && mEs cn es xs
      | none => false)
    | _ => false
  | .callK f ks kes perm, x => match vCall x with
    | some (g, [], kw :: kws, _) => (match vName g with
      | some (n, _) => decide (cn.g.fns[f]? = some n) && cn.glob n && cn.calm && decide ((f, ks, perm) ∈ cn.g.kbs) && decide (kwNames (kw :: kws) = some ks) && mEs cn kes ((kw :: kws).map fun k => k.value)
      | none => false)
    | _ => false
  | .bi b es, x => match vCall x with
    | some (g, xs, [], q) => (match isinOf b with
      | some ty => (match xs with
        | [u, t] => (match vName g with
          | some (n, _) => (match vName t with
            | some (tn, _) => decide (n = "isinstance") && cn.bltn n && decide (tn = Str.ofString (tyS ty)) && cn.bltn tn && !isStar u && mEs cn es [u]
            | none => false)
          | none => false)
        | _ => false)
      | none => (match biFun b with
        | some (bn, _) => (match vName g with
          | some (n, _) => decide (n = bn) && cn.bltn n && (cn.calm || !biCalm b) && !xs.isEmpty && mEs cn es xs
          | none => false)
        | none => (match vAttr g with
          | some (u, f, p) => decide (b = .upper) && decide (f = "upper") && xs.isEmpty && !isCall0 u && decide (p.endLine = q.line) && mEs cn es [u]
          | none => false)))
    | _ => false
  | .mt b a e, x => match vCall x with
    | some (g, [v], [], q) => (match vAttr g with
      | some (u, f, p) => decide (biMt b = some f) && !isCall0 u && !isStar v && decide (p.endLine = q.line) && mE cn a u && mE cn e v
      | none => false)
    | _ => false
  | .comp elt t it ifs own, x => match vComp x with
    | some (u, tg, i, fs, sc, _) => cn.calm && !isSet i && mI cn it i tg && blkC cn.N cn.sc sc (ownOf cn.N own) && decide ((ownOf cn.N own).map (·.2) = own) && subset (tVars t) own && mT (blkS cn sc) t tg && mF (blkS cn sc) ifs fs && mE (blkS cn sc) elt u
    | none => false
  | .comp2 elt t it ifs t2 it2 ifs2 own own2, x => match vComp2 x with
    | some (u, tg, i, fs, tg2, i2, fs2, sc, _) => cn.calm && !isSet i && !isSet i2 && mI cn it i tg && blkC cn.N cn.sc sc (ownOf cn.N own) && decide ((ownOf cn.N own).map (·.2) = own) && subset (tVars t) own && subset (tVars t2) own2 && subset own2 own &&
        mT (blkS cn sc) t tg && mF (blkS cn sc) ifs fs && mI (blkS cn sc) it2 i2 tg2 && mT (blkS cn sc) t2 tg2 && mF (blkS cn sc) ifs2 fs2 && mE (blkS cn sc) elt u
    | none => false
  | .fstr es, x => match vJoin x with
    | some (xs, _) => mJs cn es xs && decide (2 ≤ xs.length) || (match xs with | [y] => (match vFmt y with | some (u, _) => mJs cn es [.FormattedValue u (-1) none y.pos] | none => false) | _ => false)
    | none => false
  | .disp ks es, x => match vDict x with
    | some (qs, xs, _) => mKs cn ks qs && decide (ks.length = xs.length) && decide (qs.length ≤ 15) && !qs.isEmpty && mEs cn es xs
    | none => false
  | .dsel ks es i, x => match vSub x with
    | some (u, v, _) => (match vDict u with
      | some (qs, xs, _) => !isSlice v && mKs cn ks qs && decide (ks.length = xs.length) && decide (qs.length ≤ 15) && !qs.isEmpty && mEs cn es xs && mE cn i v
      | none => false)
    | none => false
  | .dget a i, x => match vSub x with
    | some (u, v, _) => !isSlice v && mE cn a u && mE cn i v
    | none => false
  | .exa i f, x => match vAttr x with
    | some (u, g, _) => (match vName u with
      | some (n, _) => decide (f = g) && decide (cn.N[i]? = some n) && cn.vis n
      | none => false)
    | none => false
  | .rep _ _ _, _ => false
  | .lstT a y es, x => match vLst x with
    | some (x1 :: xs, _) => (match vBin x1 with
      | some (u, .Add, v, _) => (match vConst v with
        | some (.str y', _, _) => decide (y' = y) && mE cn a u && mEsT cn es xs
        | _ => false)
      | _ => false)
    | _ => false
def mET (cn : Cn) : E → Expr → Bool
  | .rep a y z, x => match vCall x with
    | some (g, [u, v], [], q) => (match vAttr g with
      | some (o, f, p) => (match vConst u with
        | some (.str y', _, _) => (match vConst v with
          | some (.str z', _, _) => decide (f = "replace") && decide (y' = y) && decide (z' = z) && !(y == z) && !isCall0 o && decide (p.endLine = q.line) && mE cn a o
          | _ => false)
        | _ => false)
      | none => false)
    | _ => false
  | .bin o a b, x => match vBin x with
    | some (u, q, v, _) => decide (opB q = some o) && mET cn a u && mET cn b v
    | none => false
  | .con d, x => match vConst x with
    | some (c, _, _) => (match constD c with | some d' => eqD d' d | none => false)
    | none => false
  | .var i, x => match vName x with
    | some (n, _) => decide (cn.N[i]? = some n) && cn.vis n
    | none => false
  | .bi b es, x => match vCall x with
    | some (g, [], [], q) => (match vAttr g with
      | some (u, f, p) => decide (b = .upper) && decide (f = "upper") && !isCall0 u && decide (p.endLine = q.line) && mEs cn es [u]
      | none => false)
    | _ => false
  | _, _ => false
def mEsT (cn : Cn) : List E → List Expr → Bool
  | [], [] => true
  | e :: es, x :: xs => mET cn e x && !isStar x && mEsT cn es xs
  | _, _ => false
def mEs (cn : Cn) : List E → List Expr → Bool
  | [], [] => true
  | e :: es, x :: xs => mE cn e x && !isStar x && mEs cn es xs
  | _, _ => false
def mO (cn : Cn) : Option E → Option Expr → Bool
  | none, none => true
  | some e, some x => mE cn e x
  | _, _ => false
def mF (cn : Cn) : Option E → List Expr → Bool
  | none, [] => true
  | some e, [x] => mE cn e x && tOk x
  | _, _ => false
def mI (cn : Cn) : It → Expr → Expr → Bool
  | .seq e, x, _ => mE cn e x
  | .rng1 e, x, _ => match vCall x with
    | some (g, [u], [], _) => (match vName g with
      | some (n, _) => decide (n = "range") && cn.bltn n && !isStar u && mE cn e u
      | none => false)
    | _ => false
  | .rng2 a b, x, _ => match vCall x with
    | some (g, [u, v], [], _) => (match vName g with
      | some (n, _) => decide (n = "range") && cn.bltn n && !isStar u && !isStar v && mE cn a u && mE cn b v
      | none => false)
    | _ => false
  | .rng3 a b c, x, _ => match vCall x with
    | some (g, [u, v, w], [], _) => (match vName g with
      | some (n, _) => decide (n = "range") && cn.bltn n && !isStar u && !isStar v && !isStar w && mE cn a u && mE cn b v && mE cn c w
      | none => false)
    | _ => false
  | .enm a, x, tg => match vCall x with
    | some (g, [u], [], _) => (match vName g with
      | some (n, _) => decide (n = "enumerate") && cn.bltn n && (vTup tg).isSome && !isStar u && mE cn a u
      | none => false)
    | _ => false
  | .zip2 a b, x, tg => match vCall x with
    | some (g, [u, v], [], _) => (match vName g with
      | some (n, _) => decide (n = "zip") && cn.bltn n && (vTup tg).isSome && !isStar u && !isStar v && mE cn a u && mE cn b v
      | none => false)
    | _ => false
def mJs (cn : Cn) : List E → List Expr → Bool
  | [], [] => true
  | e :: es, x :: xs => (match vFmt x with
    | some (u, _) => mE cn e u
    | none => match vConst x with
      | some (.str y, _, _) => (match e with | .con d => eqD (.str y) d | _ => false)
      | _ => false) && mJs cn es xs
  | _, _ => false
end
end Pv
end

/-! text PvSound -/
section
/-! Pv, part 14: what matches is so (expressions). -/
namespace Pv
open PySem L2
/-- the program around, as the matching has it -/
structure GiOk (L : Lay) (g : Gi) (c : CallF) (lev : Nat) : Prop where
  con : ∀ x d, g.con.lookup x = some d → ∃ v u, L.mg x = some u ∧ RelV v u ∧ ∀ G, Rp L.K G v d
  blt : ∀ x ∈ g.blt, L.mg x = none
  fns : ∀ (f : Nat) x, g.fns[f]? = some x → ∃ fn ad fd, fn.name = x ∧ FnS L c lev f fn ad fd ∧ LenOk c f fn.ps.length ∧ ∀ ks perm, (f, ks, perm) ∈ g.kbs → KB L.K fd fn.ps ks perm
  exs : ∀ (k : Nat) x f, g.exs[k]? = some (x, f) → ∃ C fI fd ps, Exc1 L k x C f fI fd ps ∧ PySem.W.exmOne L.K (.ref C) (.ref C) = some true
  exa : ∀ (k : Nat) (C : Addr) (names : List Str), L.cls[k]? = some (C, names) → ∀ f ∈ names, ExaT L.K C f
/-- the block, as the matching has it -/
structure CnOk (X : Cx) (cn : Cn) (lev : Nat) : Prop where
  N : X.N = cn.N
  nd : cn.N.Nodup
  sc : X.env.scope = cn.sc
  fn : ∀ x, cn.fnb x = true → X.fn x = true
  calm : cn.calm = true → X.calm = true
  rm : cn.calm = true → Room lev X.A
  gd : X.A.guards = some []
  un : X.A.units + 70 < cLine
  lv : 2 ≤ lev
section
variable {X : Cx} {cn : Cn} {lev : Nat}
theorem CnOk.ix (h : CnOk X cn lev) {i : Nat} {x : Str} (q : cn.N[i]? = some x) : X.N[i]? = some x := by rw [h.N]; exact q
theorem CnOk.vis (h : CnOk X cn lev) {x : Str} (q : cn.vis x = true) : Vis X.env.scope x ∧ (x == dbg) = false ∧ (x == cdc) = false := by
  unfold Cn.vis at q
  simp only [Bool.and_eq_true, Bool.not_eq_true'] at q
  refine ⟨?_, q.1.2, q.2⟩
  rw [h.sc]
  have q1 := q.1.1
  unfold Vis
  split at q1
  · exact .inl (by assumption)
  · exact .inr (.inl (by assumption))
  · exact .inr (.inr (by assumption))
  · cases q1
theorem CnOk.glob (h : CnOk X cn lev) {x : Str} (q : cn.glob x = true) : Gl X x ∧ (x == dbg) = false := by
  unfold Cn.glob at q
  simp only [Bool.and_eq_true, Bool.not_eq_true', decide_eq_true_eq] at q
  refine ⟨?_, q.2⟩
  show X.env.scope.names.lookup x = _
  rw [h.sc]
  exact q.1
theorem CnOk.loc (h : CnOk X cn lev) {x : Str} (q : cn.loc x = true) : Loc X.env.scope x ∧ (X.fn x = true ∨ X.env.scope.names.lookup x = some .local) := by
  unfold Cn.loc at q
  rw [h.sc]
  split at q
  · exact ⟨.inl (by assumption), .inr (by assumption)⟩
  · exact ⟨.inr (by assumption), .inl (h.fn x q)⟩
  · cases q
end
theorem star_of {e : Expr} {es : List Expr} {env : PySem.Env} (h : isStar e = false) : starEach (e :: es) env = (false, eval e env) :: starEach es env := by
  cases e <;> first | rfl | cases h
theorem nostar_any {pos : Pos} {env : PySem.Env} : ∀ {es : List Expr}, es.all (fun e => !isStar e) = true → (backTo pos (starEach es env)).any (·.1) = false
  | [], _ => rfl
  | e :: es, h => by
    simp only [List.all_cons, Bool.and_eq_true, Bool.not_eq_true'] at h
    rw [star_of h.1]
    have ih := nostar_any (pos := pos) (env := env) h.2
    unfold backTo at ih ⊢
    simp only [List.map_cons, List.any_cons, Bool.false_or]
    exact ih
theorem mark_of {op : CmpOp} {e : Expr} (h : isSet e = false) : behindInMarks op e = false := by
  cases e <;> first | rfl | cases h
theorem mark2_of {op op' : CmpOp} {b e : Expr} (h : isSet e = false) : lastMarks [op, op'] [b, e] = false := mark_of h
theorem fold_of {e : Expr} {env : PySem.Env} (h : isSet e = false) (x : Value) : foldedSetIterable e env x = pure x := by
  cases e <;> first | rfl | cases h
theorem base_of {e : Expr} {f : Str} {env : PySem.Env} {w : Sem Value} (h : isCall0 e = false) : attributeBase e f env w = w := by
  unfold attributeBase
  split
  · cases h
  · rfl
theorem ix_of {e : Expr} (h : isSlice e = false) : PlainIx e := fun o i => by
  cases e <;> first | rfl | cases h
theorem nosl_of {e : Expr} (h : isSlice e = false) : NoSl e := fun o i => by
  cases e <;> first | rfl | cases h
theorem tst_of {e : Expr} {env : PySem.Env} (h : isTst e = false) (whole : Sem Value) : isTrue e env whole = (do let v ← whole; standAt e.pos; holding [v] (truthy v)) := by
  cases e with
  | UnaryOp o _ _ => cases o <;> first | rfl | cases h
  | _ => first | rfl | cases h
theorem FnS.lk {L : Lay} {lk' : Lk} {c : CallF} {lev f : Nat} {fn : Fn} {a : Addr} {fd : FuncData} (h : FnS L c lev f fn a fd) : FnS ⟨L.P, L.w, L.K, L.mg, L.base, L.fs, L.cls, lk'⟩ c lev f fn a fd := ⟨h.ok, h.at_, h.kp, h.bd⟩
theorem ocmp {X : Cx} {op : CmpOp} (hu : X.A.units + 70 < cLine) : OpR X (compareOp op) (rB2 X.K (cmpF (opC op))) := by
  have h : X.A.units + 64 < cLine := by omega
  cases op
  · exact cEq h
  · exact cNe h
  · exact cLt
  · exact cLe
  · exact cGt
  · exact cGe
  · exact cIs
  · exact cIsNot
  · exact cIn
  · exact cNotIn
theorem obin {X : Cx} {op : Operator} {o : Bop} (h : opB op = some o) : OpR X (binaryOp op) (rF2 X.K (binF o)) := by
  cases op <;> cases h
  · exact oAdd
  · exact oSub
  · exact oMul
  · exact oMod
  · exact oPow
  · exact oShl
  · exact oShr
  · exact oBor
  · exact oBxor
  · exact oBand
  · exact oFdiv
theorem bfun {X : Cx} {b : Bi} {x : Str} {t : Bool} (hc : biCalm b = true → X.calm = true) (gd : X.A.guards = some []) (hu : X.A.units + 70 < cLine) (h : biFun b = some (x, t)) :
    ∃ id : String, x = Str.ofString id ∧ x ≠ "__name__" ∧ ((t = false ∧ bootBuiltins x = some (.builtin id) ∧ CallR X (.builtin id) (rBiR X.K b)) ∨ (t = true ∧ bootBuiltins x = some (.type id) ∧ CallR X (.type id) (rBiR X.K b))) := by
  cases b <;> cases h
  · exact ⟨"len", rfl, by decide, .inl ⟨rfl, (by decide +kernel), rBiR_len⟩⟩
  · exact ⟨"tuple", rfl, by decide, .inr ⟨rfl, (by decide +kernel), rBiR_of bTuple (fun q => nomatch q)⟩⟩
  · exact ⟨"list", rfl, by decide, .inr ⟨rfl, (by decide +kernel), rBiR_of bList (fun q => nomatch q)⟩⟩
  · exact ⟨"int", rfl, by decide, .inr ⟨rfl, (by decide +kernel), rBiR_of bInt (fun q => nomatch q)⟩⟩
  · exact ⟨"str", rfl, by decide, .inr ⟨rfl, (by decide +kernel), rBiR_of bStr (fun q => nomatch q)⟩⟩
  · exact ⟨"abs", rfl, by decide, .inl ⟨rfl, (by decide +kernel), rBiR_of bAbs (fun q => nomatch q)⟩⟩
  · exact ⟨"min", rfl, by decide, .inl ⟨rfl, (by decide +kernel), rBiR_of (bMin2 (hc rfl)) (fun q => nomatch q)⟩⟩
  · exact ⟨"max", rfl, by decide, .inl ⟨rfl, (by decide +kernel), rBiR_of (bMax2 (hc rfl)) (fun q => nomatch q)⟩⟩
  · exact ⟨"sum", rfl, by decide, .inl ⟨rfl, (by decide +kernel), rBiR_of (bSum (hc rfl)) (fun q => nomatch q)⟩⟩
  · exact ⟨"all", rfl, by decide, .inl ⟨rfl, (by decide +kernel), rBiR_of (bAll (hc rfl)) (fun q => nomatch q)⟩⟩
  · exact ⟨"any", rfl, by decide, .inl ⟨rfl, (by decide +kernel), rBiR_of (bAny (hc rfl)) (fun q => nomatch q)⟩⟩
  · exact ⟨"repr", rfl, by decide, .inl ⟨rfl, (by decide +kernel), rBiR_of (bRepr gd hu) (fun q => nomatch q)⟩⟩
theorem bmt {X : Cx} {b : Bi} {f : Str} (h : biMt b = some f) : ∃ id : String, PySem.Slot "str" f id ∧ typeOf (.builtin id) = pure (.type "method_descriptor") ∧ MtR X id (rMt X.K b) ∧ b ≠ .len := by
  cases b <;> cases h
  · exact ⟨"str.join", PySem.F.slot_str_join, PySem.F.type_str_join, mJoin, fun q => nomatch q⟩
  · exact ⟨"str.split", PySem.F.slot_str_split, PySem.F.type_str_split, mSplit, fun q => nomatch q⟩
  · exact ⟨"str.partition", PySem.F.slot_str_partition, PySem.F.type_str_partition, mPartition, fun q => nomatch q⟩
  · exact ⟨"str.rpartition", PySem.F.slot_str_rpartition, PySem.F.type_str_rpartition, mRpartition, fun q => nomatch q⟩
  · exact ⟨"str.startswith", PySem.F.slot_str_startswith, PySem.F.type_str_startswith, mStarts, fun q => nomatch q⟩
theorem boot_ty (ty : Ty) : bootBuiltins (Str.ofString (tyS ty)) = some (.type (tyS ty)) ∧ Str.ofString (tyS ty) ≠ "__name__" := by
  cases ty
  · exact ⟨(by decide +kernel), by decide⟩
  · exact ⟨(by decide +kernel), by decide⟩
  · exact ⟨(by decide +kernel), by decide⟩
  · exact ⟨(by decide +kernel), by decide⟩
  · exact ⟨(by decide +kernel), by decide⟩
theorem kw_ok {pos : Pos} {env : PySem.Env} : ∀ {kws : List Keyword} {ks : List Str}, kwNames kws = some ks → (backToKw pos (keywordEach kws env)).all (·.1.isSome) = true ∧ (backToKw pos (keywordEach kws env)).filterMap (·.1) = ks ∧ (backToKw pos (keywordEach kws env)).any (·.1.isNone) = false
  | [], ks, h => by cases h; exact ⟨rfl, rfl, rfl⟩
  | ⟨some x, v, p⟩ :: r, ks, h => by
    unfold kwNames at h
    cases q : kwNames r with
    | none => rw [q] at h; cases h
    | some ys =>
      rw [q] at h
      cases h
      obtain ⟨h1, h2, h3⟩ := kw_ok (pos := pos) (env := env) q
      unfold backToKw at h1 h2 h3 ⊢
      refine ⟨?_, ?_, ?_⟩
      · show ((some x).isSome && _) = true
        rw [Bool.and_eq_true]
        exact ⟨rfl, h1⟩
      · show x :: _ = _
        rw [← h2]
      · show ((some x).isNone || _) = false
        exact h3
  | ⟨none, v, p⟩ :: r, ks, h => by unfold kwNames at h; cases h
theorem rp_const {K : PySem.W.Frag} {c : Const} {d : PyData} {j : Nat} {p : Pos} {X : Cx} (h : constD c = some d) : ∃ v, PE X (.Constant c j p) (tC v) ∧ ∀ G, Rp K G v d := by
  cases c <;> cases h
  · exact ⟨.non, pe_non, fun _ => .non⟩
  · exact ⟨.bl _, pe_bl, fun _ => .bl _⟩
  · exact ⟨.int _, pe_int, fun _ => .int _⟩
  · exact ⟨.str _, pe_str, fun _ => .str _⟩
end Pv
end

/-! text PvSound2 -/
section
namespace Pv
open PySem L2
section
variable {X : Cx} {fs : List Fn} {cls : List (Addr × List Str)} {W : WX} {cn : Cn} {lev : Nat} {c : CallF}
theorem t_sound (h : CnOk X cn lev) (hc : X.calm = true) : ∀ (t : T) (x : Expr), mT cn t x = true → PG X x (gOf X.K t)
  | .nm i, x, q => by
    unfold mT at q
    split at q
    · rename_i n p hv
      rw [vName_ok hv]
      simp only [Bool.and_eq_true, decide_eq_true_eq] at q
      obtain ⟨l1, l2⟩ := h.loc q.2
      unfold gOf
      exact pg_name (by rw [h.N]; exact h.nd) (h.ix q.1) l1 l2
    · cases q
  | .tup ts, x, q => by
    unfold mT at q
    split at q
    · rename_i es k p hv
      rw [vTup_ok hv]
      unfold gOf
      obtain ⟨h1, h2, h3⟩ := go h hc ts es q
      exact pg_tup hc h1 h2 h3
    · cases q
  | .sub _ _, x, q => by unfold mT at q; cases q
where
  go (h : CnOk X cn lev) (hc : X.calm = true) : ∀ (ts : List T) (xs : List Expr), mTs cn ts xs = true → PGs X xs (gsOf X.K ts) ∧ (assignEach xs X.env).length = ts.length ∧ (assignEach xs X.env).findIdx? (·.1) = none
    | [], [], _ => ⟨by unfold gsOf; exact pgs_nil, rfl, rfl⟩
    | t :: ts, x :: xs, q => by
      unfold mTs at q
      simp only [Bool.and_eq_true, Bool.not_eq_true'] at q
      obtain ⟨h1, h2, h3⟩ := go h hc ts xs q.2
      have e : assignEach (x :: xs) X.env = (false, assign x X.env) :: assignEach xs X.env := by
        have qs := q.1.2
        cases x <;> first | rfl | cases qs
      refine ⟨?_, by rw [e]; simp [h2], by rw [e, List.findIdx?_cons, h3]; rfl⟩
      unfold gsOf
      exact pgs_cons (t_sound h hc t x q.1.1) h1 (by rw [e]; rfl)
    | [], _ :: _, q => by unfold mTs at q; cases q
    | _ :: _, [], q => by unfold mTs at q; cases q
theorem t_soundL (h : CnOk X cn lev) (hc : X.calm = true) (ts : List T) (x : Expr) (q : mT cn (.tup ts) x = true) : PG X x (gUnl X.K ts.length (gsOf X.K ts)) := by
  unfold mT at q
  split at q
  · rename_i es k p hv
    rw [vTup_ok hv]
    obtain ⟨h1, h2, h3⟩ := t_sound.go h hc ts es q
    exact pg_unl hc h1 h2 h3
  · cases q
end

theorem GiOk.lk {L : Lay} {lk' : Lk} {g : Gi} {c : CallF} {lev : Nat} (h : GiOk L g c lev) : GiOk ⟨L.P, L.w, L.K, L.mg, L.base, L.fs, L.cls, lk'⟩ g c lev :=
  ⟨h.con, h.blt, fun f x q => by
    obtain ⟨fn, ad, fd, h1, h2, h3, h4⟩ := h.fns f x q
    exact ⟨fn, ad, fd, h1, h2.lk, h3, h4⟩, fun k x f q => by
    obtain ⟨C, fI, fd, ps, h1, h2⟩ := h.exs k x f q
    exact ⟨C, fI, fd, ps, ⟨h1.cl, h1.at_, h1.T, h1.iC, h1.tI, h1.nf, h1.ok, h1.bd⟩, h2⟩, h.exa⟩
theorem CnOk.blk {X : Cx} {cn : Cn} {lev : Nat} (h : CnOk X cn lev) {s : Shared} {H : Hp} {sc : Scope} {C : Addr} {cl : List (Str × Addr)} {fp : List Addr} : CnOk (X.blk s H sc (compEnvC sc cl C X.env) fp) (blkS cn sc) lev :=
  ⟨h.N, h.nd, by
    show relabel sc X.env = relS sc cn.sc
    rw [← h.sc]
    rfl, fun x q => by
    have q : decide (sc.names.lookup x = some .cell) = true := q
    show (sc.names.lookup x == some .cell) = true
    rw [of_decide_eq_true q]
    rfl, h.calm, h.rm, h.gd, h.un, h.lv⟩
/-- what is known of an expression that matches -/
structure Snd (X : Cx) (fs : List Fn) (cls : List (Addr × List Str)) (W : WX) (x : Expr) (ev : REnv → Sto → R RV) : Prop where
  pe : PE X x (tV (layOf X fs cls) W ev)
  pt : tOk x = true → PT X x (tT (layOf X fs cls) W ev)
  pw : ∀ op l p, x = .BoolOp op l p → PW X x (tT (layOf X fs cls) W ev)
theorem Snd.leaf {X : Cx} {fs : List Fn} {cls : List (Addr × List Str)} {W : WX} {x : Expr} {ev : REnv → Sto → R RV} (h : PE X x (tV (layOf X fs cls) W ev)) (q : isTst x = false) : Snd X fs cls W x ev :=
  ⟨h, fun _ => st_val h (tst_of q), fun op l p e => by subst e; cases q⟩
theorem one_of {X : Cx} {fs : List Fn} {cls : List (Addr × List Str)} {W : WX} {c : CallF} {e : E} {b : Bi} {σ : L2.St} {H : Hp} {Q : VK} (hq : tV (layOf X fs cls) W (fun ρ μ => evE c ρ (.bi b [e]) μ) σ H Q) :
    tV (layOf X fs cls) W (fun ρ μ => (evE c ρ e μ).bind fun v μ1 => lift (biF b [v]) μ1) σ H Q := by
  obtain ⟨G, m, μ, ρ, s, en, k⟩ := hq
  refine ⟨G, m, μ, ρ, s, en, ?_⟩
  have e1 : evE c ρ (.bi b [e]) μ = (evE c ρ e μ).bind fun v μ1 => lift (biF b [v]) μ1 := by
    show (((evE c ρ e μ).bind fun v μ1 => (R.ok ([] : List RV) μ1).bind fun vs μ2 => .ok (v :: vs) μ2).bind fun vs μ1 => lift (biF b vs) μ1) = _
    cases evE c ρ e μ <;> rfl
  dsimp only
  rw [← e1]
  exact k
/-- a clause's tests -/
theorem pts_sound0 {X : Cx} {L : Lay} {W : WX} : PTs X [] (tB' L W fun _ μ => .ok true μ) := ⟨fun pins s σ H Q I ⟨G, m, μ, ρ, so, en, k⟩ => pts_nil.run pins s σ H Q I (k.done so rfl)⟩
theorem sub_ok {xs ys : List Nat} (h : subset xs ys = true) : ∀ i ∈ xs, i ∈ ys := fun i hi => by
  unfold subset at h
  rw [List.all_eq_true] at h
  exact of_decide_eq_true (h i hi)
theorem keys_ok {X : Cx} {fs : List Fn} {cls : List (Addr × List Str)} {W : WX} {cn : Cn} {lev : Nat} {c : CallF} {pos : Pos} (h0 : CnOk X cn lev) (g : GiOk (layOf X fs cls) cn.g c lev) : ∀ (es : List E) (ks : List Key) (qs : List (Option Expr)) (xs : List Expr), mKs cn ks qs = true → ks.length = xs.length → (∀ e x, (e, x) ∈ es.zip xs → PE X x (tV (layOf X fs cls) W fun ρ μ => evE c ρ e μ)) → es.length = xs.length →
    SP' X fs cls W pos qs xs ks (fun ρ μ => evEs c ρ es μ)
  | [], [], [], [], _, _, _, _ => sp_nil
  | e :: es, k :: ks, some y :: qs, x :: xs, h, hl, hp, hle => by
    unfold mKs at h
    rw [Bool.and_eq_true] at h
    have h1 := h.1
    have hk : PE X y (tC (kV k)) := by
      split at h1
      · rename_i cc j p hv
        rw [vConst_ok hv]
        exact pe_key (of_decide_eq_true h1)
      · split at h1
        · rename_i n p hv
          rw [vName_ok hv]
          rw [Bool.and_eq_true] at h1
          obtain ⟨g1, g2⟩ := h0.glob h1.1
          have h3 := h1.2
          split at h3
          · rename_i d hd
            obtain ⟨v, u, w1, w2, w3⟩ := g.con n d hd
            have e1 := keyD_rel (w3 (fun _ => none)) (of_decide_eq_true h3)
            rw [e1] at w2
            exact pe_glob g1 w1 w2 g2
          · cases h3
        · cases h1
    exact sp_cons hk (hp e x (by simp)) (keys_ok h0 g es ks qs xs h.2 (by simpa using hl) (fun e' x' hm => hp e' x' (by simp [hm])) (by simpa using hle))
  | [], k :: ks, _, [], _, hl, _, _ => by simp at hl
  | [], [], _ :: _, [], h, _, _, _ => by simp [mKs] at h
  | _ :: _, _, _, [], _, _, _, hle => by simp at hle
  | [], _, _, _ :: _, _, _, _, hle => by simp at hle
  | e :: es, [], _, x :: xs, h, hl, _, _ => by simp at hl
  | e :: es, k :: ks, [], x :: xs, h, _, _, _ => by simp [mKs] at h
  | e :: es, k :: ks, none :: qs, x :: xs, h, _, _, _ => by simp [mKs] at h
section
variable {fs : List Fn} {cls : List (Addr × List Str)} {lev : Nat} {c : CallF}
mutual
theorem e_sound : ∀ (e : E) (X : Cx) (cn : Cn) (W : WX) (x : Expr), CnOk X cn lev → GiOk (layOf X fs cls) cn.g c lev → Takes X W → mE cn e x = true → Snd X fs cls W x (fun ρ μ => evE c ρ e μ)
  | .con d, X, cn, W, x, h, g, tk, q => by
    unfold mE at q
    split at q
    · rename_i k j p hv
      rw [vConst_ok hv]
      split at q
      · rename_i d' hd
        obtain ⟨v, h1, h2⟩ := rp_const (K := X.K) (X := X) (j := j) (p := p) hd
        rw [eqD_ok q] at h2
        exact .leaf (s_con h1 h2) rfl
      · cases q
    · split at q
      · rename_i n p hv
        rw [vName_ok hv]
        rw [Bool.and_eq_true] at q
        obtain ⟨g1, g2⟩ := h.glob q.1
        have q2 := q.2
        split at q2
        · rename_i d' hd
          obtain ⟨v, u, h1, h2, h3⟩ := g.con n d' hd
          rw [eqD_ok q2] at h3
          exact .leaf (s_con (pe_glob g1 h1 h2 g2) h3) rfl
        · cases q2
      · cases q
  | .var i, X, cn, W, x, h, g, tk, q => by
    unfold mE at q
    split at q
    · rename_i n p hv
      rw [vName_ok hv]
      simp only [Bool.and_eq_true, decide_eq_true_eq] at q
      obtain ⟨v1, v2, v3⟩ := h.vis q.2
      exact .leaf (s_var (h.ix q.1) v1 v2 v3) rfl
    · cases q
  | .bin o a b, X, cn, W, x, h, g, tk, q => by
    unfold mE at q
    split at q
    · rename_i u op v p hv
      rw [vBin_ok hv]
      simp only [Bool.and_eq_true, decide_eq_true_eq] at q
      exact .leaf (s_bin (obin q.1.1) (e_sound a X cn W u h g tk q.1.2).pe (e_sound b X cn W v h g tk q.2).pe) rfl
    · cases q
  | .neg a, X, cn, W, x, h, g, tk, q => by
    unfold mE at q
    split at q
    · rename_i u p hv
      rw [vUn_ok hv]
      exact .leaf (s_neg (e_sound a X cn W u h g tk q).pe) rfl
    · cases q
  | .not a, X, cn, W, x, h, g, tk, q => by
    unfold mE at q
    split at q
    · rename_i u p hv
      rw [vUn_ok hv]
      rw [Bool.and_eq_true] at q
      have s := e_sound a X cn W u h g tk q.1
      exact ⟨s_not s.pe, fun _ => st_not (s.pt q.2), fun op l p e => by cases e⟩
    · cases q
  | .cmp o a b, X, cn, W, x, h, g, tk, q => by
    unfold mE at q
    split at q
    · rename_i u op v p hv
      rw [vCmp_ok hv]
      simp only [Bool.and_eq_true, decide_eq_true_eq, Bool.not_eq_true'] at q
      obtain ⟨⟨⟨rfl, q1⟩, q2⟩, q3⟩ := q
      have sa := (e_sound a X cn W u h g tk q2).pe
      have sb := (e_sound b X cn W v h g tk q3).pe
      exact ⟨s_cmp (ocmp h.un) (mark_of q1) sa sb, fun _ => st_cmp (ocmp h.un) (mark_of q1) sa sb, fun op l p e => by cases e⟩
    · cases q
  | .chain o o2 a b d, X, cn, W, x, h, g, tk, q => by
    unfold mE at q
    split at q
    · rename_i u op op2 v w p hv
      rw [vCmp2_ok hv]
      simp only [Bool.and_eq_true, decide_eq_true_eq, Bool.not_eq_true'] at q
      obtain ⟨⟨⟨⟨⟨rfl, rfl⟩, q1⟩, q2⟩, q3⟩, q4⟩ := q
      have sa := (e_sound a X cn W u h g tk q2).pe
      have sb := (e_sound b X cn W v h g tk q3).pe
      have sd := (e_sound d X cn W w h g tk q4).pe
      exact ⟨s_chain (ocmp h.un) (ocmp h.un) (mark2_of q1) sa sb sd, fun _ => st_chain (ocmp h.un) (ocmp h.un) (mark2_of q1) sa sb sd, fun op l p e => by cases e⟩
    · cases q
  | .and a b, X, cn, W, x, h, g, tk, q => by
    unfold mE at q
    split at q
    · rename_i u v r p hv
      rw [vBool_ok hv]
      simp only [Bool.and_eq_true] at q
      obtain ⟨⟨⟨q1, q2⟩, q3⟩, q4⟩ := q
      have sa := e_sound a X cn W u h g tk q1
      have sb := e_sound b X cn W _ h g tk q4
      cases r with
      | nil =>
        have w : PW X (.BoolOp .And [u, v] p) (tT (layOf X fs cls) W _) := sw_and (sa.pt q2) (sw_and1 (sb.pt (by simpa using q3)))
        exact ⟨s_and sa.pe (s_bool1 sb.pe), fun _ => w.pt, fun op l p e => by cases e; exact w⟩
      | cons z r =>
        have w : PW X (.BoolOp .And (u :: v :: z :: r) p) (tT (layOf X fs cls) W _) := sw_and (sa.pt q2) (sb.pw _ _ _ rfl)
        exact ⟨s_and sa.pe sb.pe, fun _ => w.pt, fun op l p e => by cases e; exact w⟩
    · cases q
  | .or a b, X, cn, W, x, h, g, tk, q => by
    unfold mE at q
    split at q
    · rename_i u v r p hv
      rw [vBool_ok hv]
      simp only [Bool.and_eq_true] at q
      obtain ⟨⟨⟨q1, q2⟩, q3⟩, q4⟩ := q
      have sa := e_sound a X cn W u h g tk q1
      have sb := e_sound b X cn W _ h g tk q4
      cases r with
      | nil =>
        have w : PW X (.BoolOp .Or [u, v] p) (tT (layOf X fs cls) W _) := sw_or (sa.pt q2) (sw_or1 (sb.pt (by simpa using q3)))
        exact ⟨s_or sa.pe (s_bool1 sb.pe), fun _ => w.pt, fun op l p e => by cases e; exact w⟩
      | cons z r =>
        have w : PW X (.BoolOp .Or (u :: v :: z :: r) p) (tT (layOf X fs cls) W _) := sw_or (sa.pt q2) (sb.pw _ _ _ rfl)
        exact ⟨s_or sa.pe sb.pe, fun _ => w.pt, fun op l p e => by cases e; exact w⟩
    · cases q
  | .ite t a b, X, cn, W, x, h, g, tk, q => by
    unfold mE at q
    split at q
    · rename_i w u v p hv
      rw [vIte_ok hv]
      simp only [Bool.and_eq_true] at q
      obtain ⟨⟨⟨q1, q2⟩, q3⟩, q4⟩ := q
      exact ⟨s_ite ((e_sound t X cn W w h g tk q1).pt q2) (e_sound a X cn W u h g tk q3).pe (e_sound b X cn W v h g tk q4).pe, fun e => (by cases e), fun op l p e => (by cases e)⟩
    · cases q
  | .tup es, X, cn, W, x, h, g, tk, q => by
    unfold mE at q
    split at q
    · rename_i xs k p hv
      rw [vTup_ok hv]
      exact .leaf (s_tup (es_sound es X cn W xs h g tk q).1) rfl
    · cases q
  | .lst es, X, cn, W, x, h, g, tk, q => by
    unfold mE at q
    split at q
    · rename_i xs p hv
      rw [vLst_ok hv]
      exact .leaf (s_lst (es_sound es X cn W xs h g tk q).1) rfl
    · cases q
  | .idx a i, X, cn, W, x, h, g, tk, q => by
    unfold mE at q
    split at q
    · rename_i u v p hv
      rw [vSub_ok hv]
      simp only [Bool.and_eq_true, Bool.not_eq_true'] at q
      exact .leaf (s_idx (ix_of q.1.1) (e_sound a X cn W u h g tk q.1.2).pe (e_sound i X cn W v h g tk q.2).pe) rfl
    · cases q
  | .sli a lo hi, X, cn, W, x, h, g, tk, q => by
    unfold mE at q
    split at q
    · rename_i u s p hv
      rw [vSub_ok hv]
      split at q
      · rename_i l hh p2 hs
        rw [vSli_ok hs]
        simp only [Bool.and_eq_true] at q
        exact .leaf (s_sli (e_sound a X cn W u h g tk q.1.1).pe (o_sound lo X cn W l h g tk q.1.2) (o_sound hi X cn W hh h g tk q.2)) rfl
      · cases q
    · cases q
  | .call f es, X, cn, W, x, h, g, tk, q => by
    unfold mE at q
    split at q
    · rename_i gx xs p hv
      rw [vCall_ok hv]
      split at q
      · rename_i n p0 hn
        rw [vName_ok hn]
        simp only [Bool.and_eq_true, decide_eq_true_eq] at q
        obtain ⟨⟨⟨q1, q2⟩, q3⟩, q4⟩ := q
        obtain ⟨fn, ad, fd, f1, f2, f3, f4⟩ := g.fns f n q1
        obtain ⟨g1, g2⟩ := h.glob q2
        obtain ⟨sa, st⟩ := es_sound es X cn W xs h g tk q4
        cases xs with
        | nil =>
          cases es with
          | nil => exact .leaf (s_call0 f2 f3 (h.rm q3) h.gd f1.symm g1 tk g2) rfl
          | cons _ _ => unfold mEs at q4; cases q4
        | cons y ys =>
          simp only [List.all_cons, Bool.and_eq_true, Bool.not_eq_true'] at st
          exact .leaf (s_call f2 f3 (h.rm q3) h.gd f1.symm g1 tk sa g2 (star_of st.1) (nostar_any st.2)) rfl
      · cases q
    · cases q
  | .callK f ks kes perm, X, cn, W, x, h, g, tk, q => by
    unfold mE at q
    split at q
    · rename_i gx kw kws p hv
      rw [vCall_ok hv]
      split at q
      · rename_i n p0 hn
        rw [vName_ok hn]
        simp only [Bool.and_eq_true, decide_eq_true_eq] at q
        obtain ⟨⟨⟨⟨⟨q1, q2⟩, q3⟩, q4⟩, q5⟩, q6⟩ := q
        obtain ⟨fn, ad, fd, f1, f2, f3, f4⟩ := g.fns f n q1
        obtain ⟨g1, g2⟩ := h.glob q2
        obtain ⟨k1, k2, k3⟩ := kw_ok (pos := p) (env := X.env) q5
        exact .leaf (s_callK f2 f3 (h.rm q3) h.gd f1.symm g1 tk (ks_sound kes X cn W (kw :: kws) h g tk q6) (f4 ks perm q4) k1 k2 g2 (by rw [k3]; rfl)) rfl
      · cases q
    · cases q
  | .bi b es, X, cn, W, x, h, g, tk, q => by
    unfold mE at q
    split at q
    · rename_i gx xs p hv
      rw [vCall_ok hv]
      split at q
      · rename_i ty hty
        rw [isinOf_ok hty]
        split at q
        · rename_i u t
          split at q
          · rename_i n p0 hn
            split at q
            · rename_i tn p1 ht
              rw [vName_ok hn, vName_ok ht]
              simp only [Bool.and_eq_true, decide_eq_true_eq, Bool.not_eq_true'] at q
              obtain ⟨⟨⟨⟨⟨rfl, b1⟩, rfl⟩, b2⟩, st⟩, qs⟩ := q
              unfold Cn.bltn at b1 b2
              simp only [Bool.and_eq_true, decide_eq_true_eq] at b1 b2
              obtain ⟨g1, g2⟩ := h.glob b1.1
              obtain ⟨g3, g4⟩ := h.glob b2.1
              cases es with
              | nil => unfold mEs at qs; cases qs
              | cons e es =>
                cases es with
                | cons _ _ => simp [mEs] at qs
                | nil =>
                  unfold mEs at qs
                  simp only [Bool.and_eq_true] at qs
                  have se := (e_sound e X cn W u h g tk qs.1.1).pe
                  refine .leaf (PE.weak (s_isin (Ty' := ty) g1 (g.blt _ b1.2) g3 (g.blt _ b2.2) (boot_ty ty).1 se (boot_ty ty).2 g4 (star_of st) (star_of rfl) (nostar_any rfl)) fun σ H Q hq => one_of hq) rfl
            · cases q
          · cases q
        · cases q
      · split at q
        · rename_i bn t hb
          split at q
          · rename_i n p0 hn
            rw [vName_ok hn]
            simp only [Bool.and_eq_true, decide_eq_true_eq, Bool.not_eq_true', Bool.or_eq_true] at q
            obtain ⟨⟨⟨⟨rfl, q2⟩, q3⟩, q4⟩, q5⟩ := q
            unfold Cn.bltn at q2
            simp only [Bool.and_eq_true, decide_eq_true_eq] at q2
            obtain ⟨g1, g2⟩ := h.glob q2.1
            obtain ⟨sa, st⟩ := es_sound es X cn W xs h g tk q5
            cases xs with
            | nil => cases q4
            | cons y ys =>
              simp only [List.all_cons, Bool.and_eq_true, Bool.not_eq_true'] at st
              obtain ⟨id, rfl, hne, hh⟩ := bfun (X := X) (fun hcb => h.calm (by
                rcases q3 with q3 | q3
                · exact q3
                · rw [hcb] at q3; cases q3)) h.gd h.un hb
              rcases hh with ⟨_, hbt, hc⟩ | ⟨_, hbt, hc⟩
              · exact .leaf (s_biB hc g1 (g.blt _ q2.2) hbt sa hne g2 (star_of st.1) (nostar_any st.2)) rfl
              · exact .leaf (s_biTy hc g1 (g.blt _ q2.2) hbt sa hne g2 (star_of st.1) (nostar_any st.2)) rfl
          · cases q
        · split at q
          · rename_i u f p0 hn
            rw [vAttr_ok hn]
            simp only [Bool.and_eq_true, decide_eq_true_eq, Bool.not_eq_true'] at q
            obtain ⟨⟨⟨⟨⟨rfl, rfl⟩, q3⟩, q4⟩, q5⟩, q6⟩ := q
            cases xs with
            | cons _ _ => cases q3
            | nil =>
              cases es with
              | nil => unfold mEs at q6; cases q6
              | cons e es =>
                cases es with
                | cons _ _ => simp [mEs] at q6
                | nil =>
                  unfold mEs at q6
                  simp only [Bool.and_eq_true] at q6
                  have se := (e_sound e X cn W u h g tk q6.1.1).pe
                  refine .leaf (PE.weak (s_m0 (b := .upper) PySem.F.slot_str_upper PySem.F.type_str_upper mUpper (fun q => nomatch q) (fun v w hw => ?_) se (base_of q4) (by simp [q5])) fun σ H Q hq => one_of hq) rfl
                  cases v <;> first | exact ⟨_, rfl⟩ | cases hw
          · cases q
    · cases q
  | .mt b a e, X, cn, W, x, h, g, tk, q => by
    unfold mE at q
    split at q
    · rename_i gx v p hv
      rw [vCall_ok hv]
      split at q
      · rename_i u f p0 hn
        rw [vAttr_ok hn]
        simp only [Bool.and_eq_true, decide_eq_true_eq, Bool.not_eq_true'] at q
        obtain ⟨⟨⟨⟨⟨q1, q2⟩, q3⟩, q4⟩, q5⟩, q6⟩ := q
        obtain ⟨id, m1, m2, m3, m4⟩ := bmt (X := X) q1
        exact .leaf (s_m1 m1 m2 m3 m4 (e_sound a X cn W u h g tk q5).pe (e_sound e X cn W v h g tk q6).pe (star_of q3) (base_of q2) (by simp [q4])) rfl
      · cases q
    · cases q
  | .dget a i, X, cn, W, x, h, g, tk, q => by
    unfold mE at q
    split at q
    · rename_i u v p hv
      rw [vSub_ok hv]
      simp only [Bool.and_eq_true, Bool.not_eq_true'] at q
      exact .leaf (s_dget (by have := h.un; omega) (nosl_of q.1.1) (e_sound a X cn W u h g tk q.1.2).pe (e_sound i X cn W v h g tk q.2).pe) rfl
    · cases q
  | .exa i f, X, cn, W, x, h, g, tk, q => by
    unfold mE at q
    split at q
    · rename_i u f' p hv
      rw [vAttr_ok hv]
      split at q
      · rename_i n p0 hn
        rw [vName_ok hn]
        simp only [Bool.and_eq_true, decide_eq_true_eq] at q
        obtain ⟨⟨rfl, q2⟩, q3⟩ := q
        obtain ⟨v1, v2, v3⟩ := h.vis q3
        exact .leaf (s_exa (fun k C names hk hf => g.exa k C names hk _ hf) (h.ix q2) v1 v2 v3 (base_of rfl)) rfl
      · cases q
    · cases q
  | .disp ks es, X, cn, W, x, h, g, tk, q => by
    unfold mE at q
    split at q
    · rename_i qs xs p hv
      rw [vDict_ok hv]
      simp only [Bool.and_eq_true, decide_eq_true_eq, Bool.not_eq_true'] at q
      obtain ⟨⟨⟨⟨q1, q2⟩, q3⟩, q4⟩, q5⟩ := q
      obtain ⟨hz, hl⟩ := zs_sound es X cn W xs h g tk q5
      exact .leaf (s_disp (keys_ok h g es ks qs xs q1 q2 hz hl) (fun e => by rw [e] at q4; cases q4) q3) rfl
    · cases q
  | .dsel ks es i, X, cn, W, x, h, g, tk, q => by
    unfold mE at q
    split at q
    · rename_i u v p hv
      rw [vSub_ok hv]
      split at q
      · rename_i qs xs p2 hd
        rw [vDict_ok hd]
        simp only [Bool.and_eq_true, decide_eq_true_eq, Bool.not_eq_true'] at q
        obtain ⟨⟨⟨⟨⟨⟨q0, q1⟩, q2⟩, q3⟩, q4⟩, q5⟩, q6⟩ := q
        obtain ⟨hz, hl⟩ := zs_sound es X cn W xs h g tk q5
        exact .leaf (s_dsel (by have := h.un; omega) (nosl_of q0) (keys_ok h g es ks qs xs q1 q2 hz hl) (fun e => by rw [e] at q4; cases q4) q3 (e_sound i X cn W v h g tk q6).pe) rfl
      · cases q
    · cases q
  | .fstr es, X, cn, W, x, h, g, tk, q => by
    unfold mE at q
    split at q
    · rename_i xs p hv
      rw [vJoin_ok hv]
      rw [Bool.or_eq_true] at q
      rcases q with q | q
      · rw [Bool.and_eq_true] at q
        have hs := js_sound es X cn W xs h g tk q.1
        match xs, of_decide_eq_true q.2, hs with
        | v1 :: v2 :: rest, _, hs => exact .leaf (s_joined hs) rfl
      · split at q
        · rename_i y
          split at q
          · rename_i u p2 hy
            match es, q with
            | [], q => simp [mJs] at q
            | _ :: _ :: _, q => simp [mJs] at q
            | [e], q =>
              have q' : mE cn e u = true := by simpa [mJs, vFmt] using q
              rw [vFmt_ok hy]
              exact .leaf (s_joined1 (e_sound e X cn W u h g tk q').pe) rfl
          · cases q
        · cases q
    · cases q
  | .comp elt t it ifs own, X, cn, W, x, h, g, tk, q => by
    unfold mE at q
    split at q
    · rename_i u tg i fl sc p hv
      rw [vComp_ok hv]
      simp only [Bool.and_eq_true, decide_eq_true_eq, Bool.not_eq_true'] at q
      obtain ⟨⟨⟨⟨⟨⟨⟨⟨q1, q2⟩, q3⟩, q4⟩, q5⟩, q6⟩, q7⟩, q8⟩, q9⟩ := q
      have ok := blkOk_by q4
      have hc := h.calm q1
      refine .leaf (PE.weak (pe_lc (own := ownOf cn.N own) (g := gOf X.K t) (tt := tB' (layB X fs cls) WF fun ρ μ => evT c ρ ifs μ) (te := tV (layB X fs cls) WF fun ρ μ => evE c ρ elt μ) hc (by rw [h.N]; exact h.nd) (i_sound it X cn W i tg h g tk q3) (by rw [h.N, h.sc]; exact ok) (fun s H C cl fp => t_sound (h.blk) hc t tg q7)
        (fun s H C cl fp => f_sound ifs _ _ WF fl h.blk g.lk takes0 q8) (fun s H C cl fp => (e_sound elt _ _ WF u h.blk g.lk takes0 q9).pe) (fold_of q2)) fun σ H Q hq => ?_) rfl
      rw [q5]
      exact w_lc (sub_ok q6) hq
    · cases q
  | .comp2 elt t it ifs t2 it2 ifs2 own own2, X, cn, W, x, h, g, tk, q => by
    unfold mE at q
    split at q
    · rename_i u tg i fl tg2 i2 fl2 sc p hv
      rw [vComp2_ok hv]
      simp only [Bool.and_eq_true, decide_eq_true_eq, Bool.not_eq_true'] at q
      obtain ⟨⟨⟨⟨⟨⟨⟨⟨⟨⟨⟨⟨⟨⟨q1, q2⟩, q2'⟩, q3⟩, q4⟩, q5⟩, q6⟩, q6'⟩, q6''⟩, q7⟩, q8⟩, q9⟩, q10⟩, q11⟩, q12⟩ := q
      have ok := blkOk_by q4
      have hc := h.calm q1
      refine .leaf (PE.weak (pe_lc2 (own := ownOf cn.N own) (vs1 := own2) (g := gOf X.K t) (g1 := gOf X.K t2) (tt := tB' (layB X fs cls) WF fun ρ μ => evT c ρ ifs μ) (tt1 := tB' (layB X fs cls) WF fun ρ μ => evT c ρ ifs2 μ) (wi1 := tI (layB X fs cls) WF fun ρ μ => evI c ρ it2 μ) (te := tV (layB X fs cls) WF fun ρ μ => evE c ρ elt μ) hc (by rw [h.N]; exact h.nd) (i_sound it X cn W i tg h g tk q3) (by rw [h.N, h.sc]; exact ok) (by rw [q5]; exact sub_ok q6'') (fun s H C cl fp => t_sound (h.blk) hc t tg q7)
        (fun s H C cl fp => f_sound ifs _ _ WF fl h.blk g.lk takes0 q8) (fun s H C cl fp => i_sound it2 _ _ WF i2 tg2 h.blk g.lk takes0 q9) (fun s H C cl fp => t_sound (h.blk) hc t2 tg2 q10) (fun s H C cl fp => f_sound ifs2 _ _ WF fl2 h.blk g.lk takes0 q11)
        (fun s H C cl fp => (e_sound elt _ _ WF u h.blk g.lk takes0 q12).pe) (fold_of q2) (fun env => fold_of q2')) fun σ H Q hq => ?_) rfl
      rw [q5]
      exact w_lc2 (sub_ok q6) (sub_ok q6') hq
    · cases q
  | .rep _ _ _, X, cn, W, x, h, g, tk, q => by unfold mE at q; cases q
  | .lstT a y es, X, cn, W, x, h, g, tk, q => by
    unfold mE at q
    split at q
    · rename_i x1 xs p hv
      rw [vLst_ok hv]
      split at q
      · rename_i u v p1 hb
        rw [vBin_ok hb]
        split at q
        · rename_i y' j p2 hc
          rw [vConst_ok hc]
          simp only [Bool.and_eq_true, decide_eq_true_eq] at q
          obtain ⟨⟨rfl, q1⟩, q2⟩ := q
          exact .leaf (s_lstT (e_sound a X cn W u h g tk q1).pe (est_sound es X cn W xs h g tk q2)) rfl
        · cases q
      · cases q
    · cases q
theorem et_sound : ∀ (e : E) (X : Cx) (cn : Cn) (W : WX) (x : Expr), CnOk X cn lev → GiOk (layOf X fs cls) cn.g c lev → Takes X W → mET cn e x = true → PET X x (tV (layOf X fs cls) W fun ρ μ => evE c ρ e μ)
  | .rep a y z, X, cn, W, x, h, g, tk, q => by
    unfold mET at q
    split at q
    · rename_i gx u v p hv
      rw [vCall_ok hv]
      split at q
      · rename_i o f p1 ha
        rw [vAttr_ok ha]
        split at q
        · rename_i y' j c0 hy
          rw [vConst_ok hy]
          split at q
          · rename_i z' k c1 hz
            rw [vConst_ok hz]
            simp only [Bool.and_eq_true, decide_eq_true_eq, Bool.not_eq_true'] at q
            obtain ⟨⟨⟨⟨⟨⟨rfl, rfl⟩, rfl⟩, q4⟩, q5⟩, q6⟩, q7⟩ := q
            exact st_rep (e_sound a X cn W o h g tk q7).pe q4 (base_of q5) (by simp [q6])
          · cases q
        · cases q
      · cases q
    · cases q
  | .bin o a b, X, cn, W, x, h, g, tk, q => by
    unfold mET at q
    split at q
    · rename_i u op v p hv
      rw [vBin_ok hv]
      simp only [Bool.and_eq_true, decide_eq_true_eq] at q
      exact st_bin (obin q.1.1) (et_sound a X cn W u h g tk q.1.2) (et_sound b X cn W v h g tk q.2)
    · cases q
  | .con d, X, cn, W, x, h, g, tk, q => by
    unfold mET at q
    split at q
    · rename_i k j p hv
      rw [vConst_ok hv]
      split at q
      · rename_i d' hd
        obtain ⟨v, h1, h2⟩ := rp_const (K := X.K) (X := X) (j := j) (p := p) hd
        rw [eqD_ok q] at h2
        exact CwR.PET.of (s_con h1 h2)
      · cases q
    · cases q
  | .var i, X, cn, W, x, h, g, tk, q => by
    unfold mET at q
    split at q
    · rename_i n p hv
      rw [vName_ok hv]
      simp only [Bool.and_eq_true, decide_eq_true_eq] at q
      obtain ⟨v1, v2, v3⟩ := h.vis q.2
      exact CwR.PET.of (s_var (h.ix q.1) v1 v2 v3)
    · cases q
  | .bi b es, X, cn, W, x, h, g, tk, q => by
    unfold mET at q
    split at q
    · rename_i gx p hv
      rw [vCall_ok hv]
      split at q
      · rename_i u f p0 hn
        rw [vAttr_ok hn]
        simp only [Bool.and_eq_true, decide_eq_true_eq, Bool.not_eq_true'] at q
        obtain ⟨⟨⟨⟨rfl, rfl⟩, q4⟩, q5⟩, q6⟩ := q
        cases es with
        | nil => unfold mEs at q6; cases q6
        | cons e es =>
          cases es with
          | cons _ _ => simp [mEs] at q6
          | nil =>
            unfold mEs at q6
            simp only [Bool.and_eq_true] at q6
            have se := (e_sound e X cn W u h g tk q6.1.1).pe
            refine CwR.PET.of (PE.weak (s_m0 (b := .upper) PySem.F.slot_str_upper PySem.F.type_str_upper mUpper (fun q => nomatch q) (fun v w hw => ?_) se (base_of q4) (by simp [q5])) fun σ H Q hq => one_of hq)
            cases v <;> first | exact ⟨_, rfl⟩ | cases hw
      · cases q
    · cases q
  | .neg _, X, cn, W, x, h, g, tk, q => by unfold mET at q; cases q
  | .cmp _ _ _, X, cn, W, x, h, g, tk, q => by unfold mET at q; cases q
  | .chain _ _ _ _ _, X, cn, W, x, h, g, tk, q => by unfold mET at q; cases q
  | .and _ _, X, cn, W, x, h, g, tk, q => by unfold mET at q; cases q
  | .or _ _, X, cn, W, x, h, g, tk, q => by unfold mET at q; cases q
  | .not _, X, cn, W, x, h, g, tk, q => by unfold mET at q; cases q
  | .ite _ _ _, X, cn, W, x, h, g, tk, q => by unfold mET at q; cases q
  | .tup _, X, cn, W, x, h, g, tk, q => by unfold mET at q; cases q
  | .lst _, X, cn, W, x, h, g, tk, q => by unfold mET at q; cases q
  | .idx _ _, X, cn, W, x, h, g, tk, q => by unfold mET at q; cases q
  | .sli _ _ _, X, cn, W, x, h, g, tk, q => by unfold mET at q; cases q
  | .call _ _, X, cn, W, x, h, g, tk, q => by unfold mET at q; cases q
  | .callK _ _ _ _, X, cn, W, x, h, g, tk, q => by unfold mET at q; cases q
  | .mt _ _ _, X, cn, W, x, h, g, tk, q => by unfold mET at q; cases q
  | .comp _ _ _ _ _, X, cn, W, x, h, g, tk, q => by unfold mET at q; cases q
  | .comp2 _ _ _ _ _ _ _ _ _, X, cn, W, x, h, g, tk, q => by unfold mET at q; cases q
  | .fstr _, X, cn, W, x, h, g, tk, q => by unfold mET at q; cases q
  | .disp _ _, X, cn, W, x, h, g, tk, q => by unfold mET at q; cases q
  | .dsel _ _ _, X, cn, W, x, h, g, tk, q => by unfold mET at q; cases q
  | .dget _ _, X, cn, W, x, h, g, tk, q => by unfold mET at q; cases q
  | .exa _ _, X, cn, W, x, h, g, tk, q => by unfold mET at q; cases q
  | .lstT _ _ _, X, cn, W, x, h, g, tk, q => by unfold mET at q; cases q
theorem est_sound : ∀ (es : List E) (X : Cx) (cn : Cn) (W : WX) (xs : List Expr), CnOk X cn lev → GiOk (layOf X fs cls) cn.g c lev → Takes X W → mEsT cn es xs = true → PAT X xs (tVs (layOf X fs cls) W fun ρ μ => evEs c ρ es μ)
  | [], X, cn, W, [], h, g, tk, q => stT_nil
  | e :: es, X, cn, W, x :: xs, h, g, tk, q => by
    unfold mEsT at q
    simp only [Bool.and_eq_true, Bool.not_eq_true'] at q
    exact stT_cons (et_sound e X cn W x h g tk q.1.1) (est_sound es X cn W xs h g tk q.2) (star_of q.1.2)
  | [], X, cn, W, _ :: _, h, g, tk, q => by unfold mEsT at q; cases q
  | _ :: _, X, cn, W, [], h, g, tk, q => by unfold mEsT at q; cases q
theorem f_sound : ∀ (e : Option E) (X : Cx) (cn : Cn) (W : WX) (xs : List Expr), CnOk X cn lev → GiOk (layOf X fs cls) cn.g c lev → Takes X W → mF cn e xs = true → PTs X xs (tB' (layOf X fs cls) W fun ρ μ => evT c ρ e μ)
  | none, X, cn, W, [], h, g, tk, q => pts_sound0
  | some e, X, cn, W, [x], h, g, tk, q => by
    unfold mF at q
    rw [Bool.and_eq_true] at q
    exact pts_one ((e_sound e X cn W x h g tk q.1).pt q.2)
  | none, X, cn, W, _ :: _, h, g, tk, q => by unfold mF at q; cases q
  | some _, X, cn, W, [], h, g, tk, q => by unfold mF at q; cases q
  | some _, X, cn, W, _ :: _ :: _, h, g, tk, q => by unfold mF at q; cases q
theorem zs_sound : ∀ (es : List E) (X : Cx) (cn : Cn) (W : WX) (xs : List Expr), CnOk X cn lev → GiOk (layOf X fs cls) cn.g c lev → Takes X W → mEs cn es xs = true →
    (∀ e x, (e, x) ∈ es.zip xs → PE X x (tV (layOf X fs cls) W fun ρ μ => evE c ρ e μ)) ∧ es.length = xs.length
  | [], X, cn, W, [], h, g, tk, q => ⟨fun _ _ hm => by simp at hm, rfl⟩
  | e :: es, X, cn, W, x :: xs, h, g, tk, q => by
    unfold mEs at q
    simp only [Bool.and_eq_true, Bool.not_eq_true'] at q
    have h1 := zs_sound es X cn W xs h g tk q.2
    have h0 := (e_sound e X cn W x h g tk q.1.1).pe
    refine ⟨fun e' x' hm => ?_, by simp [h1.2]⟩
    rcases List.mem_cons.mp (by simpa using hm : (e', x') ∈ (e, x) :: es.zip xs) with z | z
    · cases z; exact h0
    · exact h1.1 e' x' z
  | [], X, cn, W, _ :: _, h, g, tk, q => by unfold mEs at q; cases q
  | _ :: _, X, cn, W, [], h, g, tk, q => by unfold mEs at q; cases q
theorem js_sound : ∀ (es : List E) (X : Cx) (cn : Cn) (W : WX) (xs : List Expr), CnOk X cn lev → GiOk (layOf X fs cls) cn.g c lev → Takes X W → mJs cn es xs = true → SJ X fs cls W xs (fun acc ρ μ => evFs c ρ es acc μ)
  | [], X, cn, W, [], h, g, tk, q => sj_nil
  | e :: es, X, cn, W, x :: xs, h, g, tk, q => by
    unfold mJs at q
    rw [Bool.and_eq_true] at q
    have hr := js_sound es X cn W xs h g tk q.2
    have q1 := q.1
    split at q1
    · rename_i u p hv
      rw [vFmt_ok hv]
      exact sj_fmt (e_sound e X cn W u h g tk q1).pe hr
    · split at q1
      · rename_i y j p hv
        rw [vConst_ok hv]
        split at q1
        · rename_i d
          rw [← eqD_ok q1]
          exact sj_str hr
        · cases q1
      · cases q1
  | [], X, cn, W, _ :: _, h, g, tk, q => by unfold mJs at q; cases q
  | _ :: _, X, cn, W, [], h, g, tk, q => by unfold mJs at q; cases q
theorem i_sound : ∀ (it : It) (X : Cx) (cn : Cn) (W : WX) (x tg : Expr), CnOk X cn lev → GiOk (layOf X fs cls) cn.g c lev → Takes X W → mI cn it x tg = true → PI X tg x (tI (layOf X fs cls) W fun ρ μ => evI c ρ it μ)
  | .seq e, X, cn, W, x, tg, h, g, tk, q => s_iseq (e_sound e X cn W x h g tk (by unfold mI at q; exact q)).pe
  | .rng1 a, X, cn, W, x, tg, h, g, tk, q => by
    unfold mI at q
    split at q
    · rename_i gx u p hv
      rw [vCall_ok hv]
      split at q
      · rename_i n p0 hn
        rw [vName_ok hn]
        simp only [Bool.and_eq_true, decide_eq_true_eq, Bool.not_eq_true'] at q
        obtain ⟨⟨⟨rfl, b1⟩, st⟩, q1⟩ := q
        unfold Cn.bltn at b1
        simp only [Bool.and_eq_true, decide_eq_true_eq] at b1
        exact s_irng1 (h.glob b1.1).1 (g.blt _ b1.2) (e_sound a X cn W u h g tk q1).pe (star_of st) (star_of st)
      · cases q
    · cases q
  | .rng2 a b, X, cn, W, x, tg, h, g, tk, q => by
    unfold mI at q
    split at q
    · rename_i gx u v p hv
      rw [vCall_ok hv]
      split at q
      · rename_i n p0 hn
        rw [vName_ok hn]
        simp only [Bool.and_eq_true, decide_eq_true_eq, Bool.not_eq_true'] at q
        obtain ⟨⟨⟨⟨⟨rfl, b1⟩, st⟩, st2⟩, q1⟩, q2⟩ := q
        unfold Cn.bltn at b1
        simp only [Bool.and_eq_true, decide_eq_true_eq] at b1
        exact s_irng2 (h.glob b1.1).1 (g.blt _ b1.2) (e_sound a X cn W u h g tk q1).pe (e_sound b X cn W v h g tk q2).pe (star_of st) (star_of st2) (by rw [star_of st, star_of st2]; rfl) (star_of st2)
      · cases q
    · cases q
  | .rng3 a b d, X, cn, W, x, tg, h, g, tk, q => by
    unfold mI at q
    split at q
    · rename_i gx u v w p hv
      rw [vCall_ok hv]
      split at q
      · rename_i n p0 hn
        rw [vName_ok hn]
        simp only [Bool.and_eq_true, decide_eq_true_eq, Bool.not_eq_true'] at q
        obtain ⟨⟨⟨⟨⟨⟨⟨rfl, b1⟩, st⟩, st2⟩, st3⟩, q1⟩, q2⟩, q3⟩ := q
        unfold Cn.bltn at b1
        simp only [Bool.and_eq_true, decide_eq_true_eq] at b1
        exact s_irng3 (h.glob b1.1).1 (g.blt _ b1.2) (e_sound a X cn W u h g tk q1).pe (e_sound b X cn W v h g tk q2).pe (e_sound d X cn W w h g tk q3).pe (star_of st) (star_of st2) (star_of st3) (nostar_any (by simp [st2, st3]))
      · cases q
    · cases q
  | .enm a, X, cn, W, x, tg, h, g, tk, q => by
    unfold mI at q
    split at q
    · rename_i gx u p hv
      rw [vCall_ok hv]
      split at q
      · rename_i n p0 hn
        rw [vName_ok hn]
        simp only [Bool.and_eq_true, decide_eq_true_eq, Bool.not_eq_true'] at q
        obtain ⟨⟨⟨⟨rfl, b1⟩, tt⟩, st⟩, q1⟩ := q
        unfold Cn.bltn at b1
        simp only [Bool.and_eq_true, decide_eq_true_eq] at b1
        obtain ⟨⟨es, k, p3⟩, ht⟩ := Option.isSome_iff_exists.mp tt
        rw [vTup_ok ht]
        exact s_ienum (h.glob b1.1).1 (g.blt _ b1.2) (e_sound a X cn W u h g tk q1).pe (star_of st) rfl
      · cases q
    · cases q
  | .zip2 a b, X, cn, W, x, tg, h, g, tk, q => by
    unfold mI at q
    split at q
    · rename_i gx u v p hv
      rw [vCall_ok hv]
      split at q
      · rename_i n p0 hn
        rw [vName_ok hn]
        simp only [Bool.and_eq_true, decide_eq_true_eq, Bool.not_eq_true'] at q
        obtain ⟨⟨⟨⟨⟨⟨rfl, b1⟩, tt⟩, st⟩, st2⟩, q1⟩, q2⟩ := q
        unfold Cn.bltn at b1
        simp only [Bool.and_eq_true, decide_eq_true_eq] at b1
        obtain ⟨⟨es, k, p3⟩, ht⟩ := Option.isSome_iff_exists.mp tt
        rw [vTup_ok ht]
        exact s_izip (h.glob b1.1).1 (g.blt _ b1.2) (e_sound a X cn W u h g tk q1).pe (e_sound b X cn W v h g tk q2).pe (star_of st) (star_of st2) (nostar_any (by simp [st2]))
      · cases q
    · cases q
theorem es_sound : ∀ (es : List E) (X : Cx) (cn : Cn) (W : WX) (xs : List Expr), CnOk X cn lev → GiOk (layOf X fs cls) cn.g c lev → Takes X W → mEs cn es xs = true →
    PA X xs (tVs (layOf X fs cls) W fun ρ μ => evEs c ρ es μ) ∧ xs.all (fun e => !isStar e) = true
  | [], X, cn, W, [], h, g, tk, q => ⟨s_nil, rfl⟩
  | e :: es, X, cn, W, x :: xs, h, g, tk, q => by
    unfold mEs at q
    simp only [Bool.and_eq_true, Bool.not_eq_true'] at q
    obtain ⟨h1, h2⟩ := es_sound es X cn W xs h g tk q.2
    exact ⟨s_cons (e_sound e X cn W x h g tk q.1.1).pe h1 (star_of q.1.2), by simp only [List.all_cons, q.1.2, h2]; rfl⟩
  | [], X, cn, W, _ :: _, h, g, tk, q => by unfold mEs at q; cases q
  | _ :: _, X, cn, W, [], h, g, tk, q => by unfold mEs at q; cases q
theorem ks_sound : ∀ (es : List E) (X : Cx) (cn : Cn) (W : WX) (kws : List Keyword), CnOk X cn lev → GiOk (layOf X fs cls) cn.g c lev → Takes X W → mEs cn es (kws.map fun k => k.value) = true →
    PK X kws (tVs (layOf X fs cls) W fun ρ μ => evEs c ρ es μ)
  | [], X, cn, W, [], h, g, tk, q => sk_nil
  | e :: es, X, cn, W, ⟨nm, v, p⟩ :: kws, h, g, tk, q => by
    have q : (mE cn e v && !isStar v && mEs cn es (kws.map fun k => k.value)) = true := by
      rw [← q]
      show _ = mEs cn (e :: es) (v :: kws.map fun k => k.value)
      conv => rhs; unfold mEs
    simp only [Bool.and_eq_true, Bool.not_eq_true'] at q
    exact sk_cons (e_sound e X cn W v h g tk q.1.1).pe (ks_sound es X cn W kws h g tk q.2)
  | [], X, cn, W, _ :: _, h, g, tk, q => by simp [mEs] at q
  | _ :: _, X, cn, W, [], h, g, tk, q => by simp [mEs] at q
theorem o_sound : ∀ (e : Option E) (X : Cx) (cn : Cn) (W : WX) (x : Option Expr), CnOk X cn lev → GiOk (layOf X fs cls) cn.g c lev → Takes X W → mO cn e x = true → PO X x (tVO (layOf X fs cls) W fun ρ μ => evO c ρ e μ)
  | none, X, cn, W, none, h, g, tk, q => so_none
  | some e, X, cn, W, some x, h, g, tk, q => so_some (e_sound e X cn W x h g tk q).pe
  | none, X, cn, W, some _, h, g, tk, q => by unfold mO at q; cases q
  | some _, X, cn, W, none, h, g, tk, q => by unfold mO at q; cases q
end
end
end Pv
end

/-! text PvMatch2 -/
section
/-! Pv, part 15: statements that match. -/
namespace Pv
open PySem L2
def isFun (sc : Scope) : Bool := decide (sc.kind = .function)
def swS (cn : Cn) (y : Str) (py p : Pos) (s : Scope) : Bool := isFun cn.sc && cn.isLocal y && decide (py.line = p.line) && !(s.names.any fun nk => nk.1 == y && (nk.2 == .local || nk.2 == .cell))
/-- whether the store is the comprehension's own -/
def swB (cn : Cn) (y : Str) (py : Pos) : Expr → Bool
  | .ListComp _ _ s p => swS cn y py p s
  | .SetComp _ _ s p => swS cn y py p s
  | .DictComp _ _ _ s p => swS cn y py p s
  | _ => false
/-- stores from the right -/
def swPar (cn : Cn) (names : List (Str × Pos)) (vs : List Expr) : Bool :=
  isFun cn.sc && names.all (fun n => cn.isLocal n.1 && decide (n.2.line = (names.head?.map (·.2.line)).getD 0)) && decide (names.map (·.1)).Nodup && !(vs.any isStar) && !(vs.all (foldedForSure 8)) && !(vs.all (constantsAlone 8))
/-- stores from the left, out of a tuple -/
def swNone (cn : Cn) (tg v : Expr) : Bool := match vTup tg with
  | none => true
  | some (ts, _, _) => (match vTup v with
    | none => true
    | some (vs, _, _) => (!(decide (ts.length = 2) || decide (ts.length = 3)) || (!(vs.any isStar) && vs.all (foldedForSure 8)) ||
        (ts.any fun t => match vName t with | some (n, _) => !cn.isLocal n | none => true)))
def vNames : List Expr → Option (List (Str × Pos))
  | [] => some []
  | e :: es => match vName e, vNames es with
    | some n, some ns => some (n :: ns)
    | _, _ => none
def mSrc (cn : Cn) : Src → Expr → Bool
  | .val e, x => mE cn e x
  | .lst es, x => match vLst x with
    | some (xs, _) => mEs cn es xs
    | none => false
  | .cat a b, x => match vBin x with
    | some (u, .Add, v, _) => mE cn a u && mE cn b v
    | _ => false
def mSrcs (cn : Cn) : List Src → List Expr → Bool
  | [], [] => true
  | s :: ss, x :: xs => mSrc cn s x && !isStar x && mSrcs cn ss xs
  | _, _ => false
def vAsg : Stmt → Option (Expr × Expr × Pos)
  | .Assign [t] v p => some (t, v, p)
  | _ => none
def vExpr : Stmt → Option (Expr × Pos)
  | .Expr v p => some (v, p)
  | _ => none
def vRet : Stmt → Option (Option Expr × Pos)
  | .Return v p => some (v, p)
  | _ => none
def vIf : Stmt → Option (Expr × List Stmt × List Stmt × Pos)
  | .If t a b p => some (t, a, b, p)
  | _ => none
def vFor : Stmt → Option (Expr × Expr × List Stmt × Pos)
  | .For t i b [] p => some (t, i, b, p)
  | _ => none
def vWhile : Stmt → Option (Expr × List Stmt × Pos)
  | .While t b [] p => some (t, b, p)
  | _ => none
def vRaise : Stmt → Option (Expr × Pos)
  | .Raise (some e) none p => some (e, p)
  | _ => none
def vTry : Stmt → Option (Stmt × Str × Pos × Str × Expr × Pos × Pos × Pos)
  | .Try [st] [.ExceptHandler (some (.Name x np)) (some n) [.Return (some h) p1] p2] [] [] p => some (st, x, np, n, h, p1, p2, p)
  | _ => none
def isBrk : Stmt → Bool
  | .Break _ => true
  | _ => false
def isCont : Stmt → Bool
  | .Continue _ => true
  | _ => false
def isPass : Stmt → Bool
  | .Pass _ => true
  | _ => false
theorem vAsg_ok {x : Stmt} {t v : Expr} {p : Pos} (h : vAsg x = some (t, v, p)) : x = .Assign [t] v p := by
  unfold vAsg at h
  split at h
  · cases h; rfl
  · cases h
theorem vExpr_ok {x : Stmt} {v : Expr} {p : Pos} (h : vExpr x = some (v, p)) : x = .Expr v p := by cases x <;> cases h; rfl
theorem vRet_ok {x : Stmt} {v : Option Expr} {p : Pos} (h : vRet x = some (v, p)) : x = .Return v p := by cases x <;> cases h; rfl
theorem vIf_ok {x : Stmt} {t : Expr} {a b : List Stmt} {p : Pos} (h : vIf x = some (t, a, b, p)) : x = .If t a b p := by cases x <;> cases h; rfl
theorem vFor_ok {x : Stmt} {t i : Expr} {b : List Stmt} {p : Pos} (h : vFor x = some (t, i, b, p)) : x = .For t i b [] p := by
  unfold vFor at h
  split at h
  · cases h; rfl
  · cases h
theorem vWhile_ok {x : Stmt} {t : Expr} {b : List Stmt} {p : Pos} (h : vWhile x = some (t, b, p)) : x = .While t b [] p := by
  unfold vWhile at h
  split at h
  · cases h; rfl
  · cases h
theorem vRaise_ok {x : Stmt} {e : Expr} {p : Pos} (h : vRaise x = some (e, p)) : x = .Raise (some e) none p := by
  unfold vRaise at h
  split at h
  · cases h; rfl
  · cases h
theorem vTry_ok {x st : Stmt} {y n : Str} {h : Expr} {np p1 p2 p : Pos} (q : vTry x = some (st, y, np, n, h, p1, p2, p)) : x = .Try [st] [.ExceptHandler (some (.Name y np)) (some n) [.Return (some h) p1] p2] [] [] p := by
  unfold vTry at q
  split at q
  · cases q; rfl
  · cases q
theorem isBrk_ok {x : Stmt} (h : isBrk x = true) : ∃ p, x = .Break p := by cases x <;> first | exact ⟨_, rfl⟩ | cases h
theorem isCont_ok {x : Stmt} (h : isCont x = true) : ∃ p, x = .Continue p := by cases x <;> first | exact ⟨_, rfl⟩ | cases h
theorem isPass_ok {x : Stmt} (h : isPass x = true) : ∃ p, x = .Pass p := by cases x <;> first | exact ⟨_, rfl⟩ | cases h
def isCompE : E → Bool
  | .comp _ _ _ _ _ => true
  | .comp2 _ _ _ _ _ _ _ _ _ => true
  | _ => false
/-- a tried statement -/
def mTk (cn : Cn) (k : TK) (e : E) (st : Stmt) : Bool := match k with
  | .drop => (match vExpr st with
    | some (v, _) => !isComp v && mE cn e v
    | none => false)
  | .asg t => (match vAsg st with
    | some (tg, v, _) => !isComp v && mE cn e v && mT cn t tg && swNone cn tg v && !isStar tg
    | none => false)
  | .ret => (match vRet st with
    | some (some v, _) => mE cn e v
    | _ => false)
mutual
def mS (cn : Cn) : S → Stmt → Bool
  | .asg (.sub o i) e, x => match vAsg x with
    | some (tg, v, _) => (match vSub tg with
      | some (ox, ix, _) => !isComp v && mE cn o ox && mE cn i ix && mE cn e v
      | none => false)
    | none => false
  | .asg (.nm i) e, x => match vAsg x with
    | some (tg, v, _) => (match vName tg with
      | some (y, yp) => decide (cn.N[i]? = some y) && cn.loc y && isFun cn.sc && (!swB cn y yp v || isCompE e) && mE cn e v
      | none => false)
    | none => false
  | .asg (.tup ts) e, x => match vAsg x with
    | some (tg, v, _) => (vTup tg).isSome && !isComp v && mE cn e v && mT cn (.tup ts) tg && swNone cn tg v
    | none => false
  | .asgL ts e, x => match vAsg x with
    | some (tg, v, _) => (vTup tg).isSome && !isComp v && mE cn e v && mT cn (.tup ts) tg && swNone cn tg v
    | none => false
  | .own i s, x => match vAsg x with
    | some (tg, v, _) => (match vName tg with
      | some (y, _) => decide (cn.N[i]? = some y) && cn.loc y && !isComp v && mSrc cn s v
      | none => false)
    | none => false
  | .par is ss, x => match vAsg x with
    | some (tg, v, _) => (match vTup tg, vTup v with
      | some (ts, _, _), some (vs, _, _) => (match vNames ts with
        | some ns => swPar cn ns vs && decide (ns.map (fun n => some n.1) = is.map fun i => cn.N[i]?) && decide (vs.length = ns.length) && (decide (ns.length = 2) || decide (ns.length = 3)) && mSrcs cn ss vs
        | none => false)
      | _, _ => false)
    | none => false
  | .app i e, x => match vExpr x with
    | some (v, _) => (match vCall v with
      | some (g, [u], [], q) => (match vAttr g with
        | some (a, f, p) => (match vName a with
          | some (n, _) => decide (f = "append") && decide (cn.N[i]? = some n) && cn.vis n && !isStar u && decide (p.endLine = q.line) && mE cn e u
          | none => false)
        | none => false)
      | _ => false)
    | none => false
  | .frz _, _ => false
  | .ret e, x => match vRet x with
    | some (some v, _) => mE cn e v
    | _ => false
  | .retN, x => match vRet x with
    | some (none, _) => true
    | _ => false
  | .ifs t a b, x => match vIf x with
    | some (u, p, q, _) => mE cn t u && tOk u && mSs cn a p && mSs cn b q
    | none => false
  | .fors t it body, x => match vFor x with
    | some (tg, i, p, _) => !isSet i && mI cn it i tg && mT cn t tg && mSs cn body p
    | none => false
  | .whiles t body, x => match vWhile x with
    | some (u, p, _) => mE cn t u && tOk u && mSs cn body p
    | none => false
  | .expr e, x => match vExpr x with
    | some (v, _) => !isComp v && mE cn e v
    | none => false
  | .raise c fs es, x => match vRaise x with
    | some (v, _) => (match vCall v with
      | some (g, xs, [], _) => (match vName g with
        | some (n, _) => cn.glob n && !xs.isEmpty && (match cn.g.exs[c]? with | some (m, f) => decide (m = n) && decide (fs = [f]) | none => false) && mEs cn es xs
        | none => false)
      | _ => false)
    | none => false
  | .try1 k e c i h, x => match vTry x with
    | some (st, y, _, n, hx, _, _, _) => cn.glob y && decide (cn.N[i]? = some n) && cn.isLocal n && (match cn.g.exs[c]? with | some (m, _) => decide (m = y) | none => false) && mTk cn k e st && mE { cn with calm := false } h hx
    | none => false
  | .brk, x => isBrk x
  | .cont, x => isCont x
  | .pass, x => isPass x
def mSs (cn : Cn) : List S → List Stmt → Bool
  | [], [] => true
  | .frz _ :: ss, xs => mSs cn ss xs
  | s :: ss, x :: xs => mS cn s x && mSs cn ss xs
  | _, _ => false
end
/-! ### stores -/
section
variable {X : Cx} {cn : Cn} {lev : Nat}
theorem kind_blk (h : X.env.scope = cn.sc) (hk : isFun cn.sc = true) : X.env.blockKind = .function := by
  unfold PySem.Env.blockKind
  rw [h, of_decide_eq_true hk]
  rfl
theorem sw_of (h : X.env.scope = cn.sc) (hk : isFun cn.sc = true) {v : Expr} {y : Str} {py : Pos} {line : Nat} : swapsWith v (some (.Name y py)) line X.env = pure (swB cn y py v) := by
  have hb := kind_blk h hk
  have hl : X.env.kindOf y = cn.sc.names.lookup y := by show X.env.scope.names.lookup y = _; rw [h]
  have e1 : (X.env.blockKind == .function) = true := by rw [hb]; rfl
  have e2 : (X.env.kindOf y == some .local) = cn.isLocal y := by
    rw [hl]
    unfold Cn.isLocal
    cases q : cn.sc.names.lookup y with
    | none => rfl
    | some k => cases k <;> rfl
  have e3 : ∀ a b : Nat, (a == b) = decide (a = b) := fun a b => by by_cases q : a = b <;> simp [q]
  have key : ∀ (s : Scope) (p : Pos), (X.env.blockKind == .function && X.env.kindOf y == some .local && py.line == p.line && !(s.names.any fun (n, k) => n == y && (k == .local || k == .cell))) = swS cn y py p s := fun s p => by
    unfold swS
    rw [e1, e2, e3, hk]
  cases v <;> first | rfl | (show (pure _ : Sem Bool) = pure _; exact congrArg pure (key _ _))
theorem sw_comp {v : Expr} {tg : Option Expr} {line : Nat} {env : PySem.Env} (h : isComp v = false) : swapsWith v tg line env = pure false := by
  cases v <;> first | rfl | cases h
end
end Pv
end

/-! text PvSwap -/
section
namespace Pv
open PySem L2
theorem fm_lt {α β : Type} {f : α → Option β} : ∀ {l : List α}, (∃ a ∈ l, f a = none) → (l.filterMap f).length < l.length
  | [], h => by obtain ⟨a, ha, _⟩ := h; cases ha
  | a :: l, h => by
    rw [List.filterMap_cons]
    have le : (l.filterMap f).length ≤ l.length := List.length_filterMap_le f l
    cases q : f a with
    | none => simp only [List.length_cons]; omega
    | some b =>
      obtain ⟨a', h1, h2⟩ := h
      rcases List.mem_cons.mp h1 with e | e
      · subst e; rw [q] at h2; cases h2
      · have := fm_lt ⟨a', e, h2⟩
        simp only [List.length_cons]
        omega
section
variable {X : Cx} {cn : Cn}
theorem loc_of (h : X.env.scope = cn.sc) (y : Str) : (X.env.kindOf y == some .local) = cn.isLocal y := by
  have hl : X.env.kindOf y = cn.sc.names.lookup y := by show X.env.scope.names.lookup y = _; rw [h]
  rw [hl]
  unfold Cn.isLocal
  cases q : cn.sc.names.lookup y with
  | none => rfl
  | some k => cases k <;> rfl
theorem swNone_tup (h : X.env.scope = cn.sc) {ts : List Expr} {k : Nat} {p : Pos} {v : Expr} (q : swNone cn (.Tuple ts k p) v = true) : swappedStores [.Tuple ts k p] v X.env = pure none := by
  unfold swNone at q
  cases v with
  | Tuple vs k2 p2 =>
    have q : (!(decide (ts.length = 2) || decide (ts.length = 3)) || (!(vs.any isStar) && vs.all (foldedForSure 8)) || (ts.any fun t => match vName t with | some (n, _) => !cn.isLocal n | none => true)) = true := q
    unfold swappedStores
    dsimp only
    split
    · rfl
    · rename_i h1
      split
      · rfl
      · split
        · rfl
        · rename_i h3
          split
          · rfl
          · rename_i h4
            exfalso
            simp only [Bool.or_eq_true, Bool.and_eq_true, Bool.not_eq_true'] at q
            rcases q with (q | q) | q
            · apply h1
              simp only [Bool.or_eq_false_iff, decide_eq_false_iff_not] at q
              have e2 : (ts.length == 2) = false := by simpa using q.1
              have e3 : (ts.length == 3) = false := by simpa using q.2
              rw [e2, e3]
              rfl
            · exact h4 q.2
            · apply h3
              rw [List.any_eq_true] at q
              obtain ⟨t, ht, hn⟩ := q
              rw [Bool.or_eq_true]
              refine .inl ?_
              rw [bne_iff_ne]
              refine Nat.ne_of_lt (fm_lt ⟨t, ht, ?_⟩)
              cases t with
              | Name n pp =>
                have hn : (!cn.isLocal n) = true := hn
                simp only [Bool.not_eq_true'] at hn
                show (if _ then _ else _) = none
                rw [if_neg]
                rw [loc_of h, hn]
                simp
              | _ => rfl
  | _ => rfl
theorem swNone_name {x : Str} {p : Pos} {v : Expr} : swappedStores [.Name x p] v X.env = pure none := by
  cases v <;> rfl
theorem par2_of (h : X.env.scope = cn.sc) {x y : Str} {px py p p2 : Pos} {a b : Expr} {k k2 : Nat} (q : swPar cn [(x, px), (y, py)] [a, b] = true) :
    swappedStores [.Tuple [Expr.Name x px, Expr.Name y py] k p] (.Tuple [a, b] k2 p2) X.env = pure (some [x, y]) ∧ X.env.scope.names.lookup x = some .local ∧ X.env.scope.names.lookup y = some .local ∧ x ≠ y := by
  unfold swPar at q
  simp only [Bool.and_eq_true, Bool.not_eq_true', List.all_cons, List.all_nil, List.map_cons, List.map_nil, List.head?_cons, Option.map_some, Option.getD_some, decide_eq_true_eq, Bool.and_true, List.nodup_cons, List.mem_cons, List.not_mem_nil, or_false, not_or] at q
  obtain ⟨⟨⟨⟨⟨q1, ⟨⟨l1, e1⟩, ⟨l2, e2⟩⟩⟩, q3⟩, q4⟩, q5⟩, q6⟩ := q
  have hb := kind_blk h q1
  have hx : X.env.scope.names.lookup x = some .local := by rw [h]; exact of_decide_eq_true l1
  have hxl : (X.env.kindOf x == some .local) = true := by rw [loc_of h]; exact l1
  have hy : X.env.scope.names.lookup y = some .local := by rw [h]; exact of_decide_eq_true l2
  have hyl : (X.env.kindOf y == some .local) = true := by rw [loc_of h]; exact l2
  have f2 : (py.line == px.line) = true := beq_iff_eq.mpr (of_decide_eq_true e2)
  refine ⟨?_, hx, hy, q3.1⟩
  have hyx : ¬ y = x := fun e => q3.1 e.symm
  unfold swappedStores
  dsimp only
  refine (if_neg (by rw [hb]; simp)).trans ?_
  refine (if_neg fun e => ?_).trans ?_
  · rw [List.any_eq_true] at e
    obtain ⟨t, ht, hs⟩ := e
    rw [List.any_eq_false] at q4
    have q7 := q4 t ht
    cases t <;> first | exact q7 rfl | cases hs
  have e0 : (([Expr.Name x px, Expr.Name y py].head?.map (·.pos.line)).getD 0) = px.line := rfl
  simp only [e0, List.filterMap_cons, List.filterMap_nil, hxl, hyl, f2, beq_self_eq_true, Bool.and_self, if_true]
  refine (if_neg (by simp [List.eraseDups_cons, hyx])).trans ?_
  refine (if_neg (by simpa using q5)).trans ?_
  exact if_neg (by simpa using q6)
theorem par3_of (h : X.env.scope = cn.sc) {x y z : Str} {px py pz p p2 : Pos} {a b c : Expr} {k k2 : Nat} (q : swPar cn [(x, px), (y, py), (z, pz)] [a, b, c] = true) :
    swappedStores [.Tuple [Expr.Name x px, Expr.Name y py, Expr.Name z pz] k p] (.Tuple [a, b, c] k2 p2) X.env = pure (some [x, y, z]) ∧ X.env.scope.names.lookup x = some .local ∧ X.env.scope.names.lookup y = some .local ∧ X.env.scope.names.lookup z = some .local ∧ x ≠ y ∧ x ≠ z ∧ y ≠ z := by
  unfold swPar at q
  simp only [Bool.and_eq_true, Bool.not_eq_true', List.all_cons, List.all_nil, List.map_cons, List.map_nil, List.head?_cons, Option.map_some, Option.getD_some, decide_eq_true_eq, Bool.and_true, List.nodup_cons, List.mem_cons, List.not_mem_nil, or_false, not_or] at q
  obtain ⟨⟨⟨⟨⟨q1, ⟨⟨l1, e1⟩, ⟨l2, e2⟩, ⟨l3, e3⟩⟩⟩, q3⟩, q4⟩, q5⟩, q6⟩ := q
  have hb := kind_blk h q1
  have hx : X.env.scope.names.lookup x = some .local := by rw [h]; exact of_decide_eq_true l1
  have hxl : (X.env.kindOf x == some .local) = true := by rw [loc_of h]; exact l1
  have hy : X.env.scope.names.lookup y = some .local := by rw [h]; exact of_decide_eq_true l2
  have hyl : (X.env.kindOf y == some .local) = true := by rw [loc_of h]; exact l2
  have f2 : (py.line == px.line) = true := beq_iff_eq.mpr (of_decide_eq_true e2)
  have hz : X.env.scope.names.lookup z = some .local := by rw [h]; exact of_decide_eq_true l3
  have hzl : (X.env.kindOf z == some .local) = true := by rw [loc_of h]; exact l3
  have f3 : (pz.line == px.line) = true := beq_iff_eq.mpr (of_decide_eq_true e3)
  refine ⟨?_, hx, hy, hz, q3.1.1, q3.1.2, q3.2.1⟩
  have hyx : ¬ y = x := fun e => q3.1.1 e.symm
  have hzx : ¬ z = x := fun e => q3.1.2 e.symm
  have hzy : ¬ z = y := fun e => q3.2.1 e.symm
  unfold swappedStores
  dsimp only
  refine (if_neg (by rw [hb]; simp)).trans ?_
  refine (if_neg fun e => ?_).trans ?_
  · rw [List.any_eq_true] at e
    obtain ⟨t, ht, hs⟩ := e
    rw [List.any_eq_false] at q4
    have q7 := q4 t ht
    cases t <;> first | exact q7 rfl | cases hs
  have e0 : (([Expr.Name x px, Expr.Name y py, Expr.Name z pz].head?.map (·.pos.line)).getD 0) = px.line := rfl
  simp only [e0, List.filterMap_cons, List.filterMap_nil, hxl, hyl, hzl, f2, f3, beq_self_eq_true, Bool.and_self, if_true]
  refine (if_neg (by simp [List.eraseDups_cons, hyx, hzx, hzy])).trans ?_
  refine (if_neg (by simpa using q5)).trans ?_
  exact if_neg (by simpa using q6)
end
end Pv
end

/-! text PvSound3 -/
section
namespace Pv
open PySem L2
structure StOk (X : Cx) : Prop where
  po : PassesOwn (model X.prog X.w) X.A X.env X.xe
  hs : X.stack = X.env :: X.outer
  hf : X.env.frame = some X.env.locals
section
variable {fs : List Fn} {cls : List (Addr × List Str)} {lev : Nat} {c : CallF} {X : Cx} {cn : Cn} {W : WX} {b : Bs}
theorem src_sound : ∀ (s : Src) (x : Expr), CnOk X cn lev → GiOk (layOf X fs cls) cn.g c lev → Takes X W → mSrc cn s x = true → PE X x (tO (layOf X fs cls) W fun ρ μ => evSrc c ρ s μ)
  | .val e, x, h, g, tk, q => so_val (e_sound e X cn W x h g tk q).pe
  | .lst es, x, h, g, tk, q => by
    simp only [mSrc] at q
    split at q
    · rename_i xs p hv
      rw [vLst_ok hv]
      exact so_lst (es_sound es X cn W xs h g tk q).1
    · cases q
  | .cat a d, x, h, g, tk, q => by
    simp only [mSrc] at q
    split at q
    · rename_i u v p hv
      rw [vBin_ok hv]
      rw [Bool.and_eq_true] at q
      exact so_cat (e_sound a X cn W u h g tk q.1).pe (e_sound d X cn W v h g tk q.2).pe
    · cases q
theorem srcs_sound : ∀ (ss : List Src) (xs : List Expr), CnOk X cn lev → GiOk (layOf X fs cls) cn.g c lev → Takes X W → mSrcs cn ss xs = true → PA X xs (tOs (layOf X fs cls) W fun ρ μ => evSrcs c ρ ss μ)
  | [], [], h, g, tk, q => sos_nil
  | s :: ss, x :: xs, h, g, tk, q => by
    unfold mSrcs at q
    simp only [Bool.and_eq_true, Bool.not_eq_true'] at q
    exact sos_cons (src_sound s x h g tk q.1.1) (srcs_sound ss xs h g tk q.2) (star_of q.1.2)
  | [], _ :: _, h, g, tk, q => by unfold mSrcs at q; cases q
  | _ :: _, [], h, g, tk, q => by unfold mSrcs at q; cases q
/-- name = [..] that stores itself -/
theorem setLc_sound {e : E} {v : Expr} {i : Nat} {y : Str} {yp p : Pos} (h : CnOk X cn lev) (g : GiOk (layOf X fs cls) cn.g c lev) (tk : Takes X W) (hc : X.calm = true) (hi : cn.N[i]? = some y) (hf : isFun cn.sc = true) (hsw : swB cn y yp v = true) (he : isCompE e = true) (q : mE cn e v = true) :
    PS X (.Assign [.Name y yp] v p) (tSt (layOf X fs cls) W b fun ρ μ => (evE c ρ e μ).bind fun w μ1 => (if i < ρ.length then R.ok (ρ.set i (some (.val w))) μ1 else .bad).bind fun ρ1 μ2 => .ok (.next ρ1) μ2) := by
  have swt : swapsWith v (some (.Name y yp)) p.line X.env = pure true := by rw [sw_of h.sc hf, hsw]
  have hl : X.env.scope.names.lookup y = some .local := by
    rw [h.sc]
    have gen : ∀ (py p : Pos) (s : Scope), swS cn y py p s = true → cn.sc.names.lookup y = some .local := fun py p s w => by
      unfold swS at w
      simp only [Bool.and_eq_true] at w
      exact of_decide_eq_true w.1.1.2
    cases v <;> first | exact gen _ _ _ hsw | cases hsw
  have fin : ∀ {te : TE}, (∀ σ H Q, tV (layOf X fs cls) W (fun ρ μ => evE c ρ e μ) σ H Q → te σ H Q) → PS X (.Assign [.Name y yp] v p) (tAsg te (gName i)) → PS X (.Assign [.Name y yp] v p) (tSt (layOf X fs cls) W b fun ρ μ => (evE c ρ e μ).bind fun w μ1 => (if i < ρ.length then R.ok (ρ.set i (some (.val w))) μ1 else .bad).bind fun ρ1 μ2 => .ok (.next ρ1) μ2) :=
    fun hw hp => PS.weak hp fun D σ H ⟨G, m, μ, ρ, a, s, en, k⟩ => hw σ H _ ((st_bind (α := Nat) a s en k).mono fun z H1 ⟨G1, m1, μ1, w, a1, s1, e1, r1, k1⟩ => by
      split at k1
      · exact k1 G1 m1 H1 _ a1 s1 (e1.setv r1)
      · exact k1.elim)
  cases e with
  | comp elt t it ifs own =>
    unfold mE at q
    split at q
    · rename_i u tg i' fl sc p' hv
      rw [vComp_ok hv] at swt fin ⊢
      simp only [Bool.and_eq_true, decide_eq_true_eq, Bool.not_eq_true'] at q
      obtain ⟨⟨⟨⟨⟨⟨⟨⟨q1, q2⟩, q3⟩, q4⟩, q5⟩, q6⟩, q7⟩, q8⟩, q9⟩ := q
      have ok := blkOk_by q4
      refine fin (fun σ H Q hq => ?_) (ps_setLc (own := ownOf cn.N own) (g := gOf X.K t) (tt := tB' (layB X fs cls) WF fun ρ μ => evT c ρ ifs μ) (te := tV (layB X fs cls) WF fun ρ μ => evE c ρ elt μ) hc (by rw [h.N]; exact h.nd) (h.ix hi) hl swt (i_sound it X cn W i' tg h g tk q3) (by rw [h.N, h.sc]; exact ok)
        (fun s H C cl fp => t_sound (h.blk) hc t tg q7) (fun s H C cl fp => f_sound ifs _ _ WF fl h.blk g.lk takes0 q8) (fun s H C cl fp => (e_sound elt _ _ WF u h.blk g.lk takes0 q9).pe) (fold_of q2))
      rw [q5]
      exact w_lc (sub_ok q6) hq
    · cases q
  | comp2 elt t it ifs t2 it2 ifs2 own own2 =>
    unfold mE at q
    split at q
    · rename_i u tg i' fl tg2 i2 fl2 sc p' hv
      rw [vComp2_ok hv] at swt fin ⊢
      simp only [Bool.and_eq_true, decide_eq_true_eq, Bool.not_eq_true'] at q
      obtain ⟨⟨⟨⟨⟨⟨⟨⟨⟨⟨⟨⟨⟨⟨q1, q2⟩, q2'⟩, q3⟩, q4⟩, q5⟩, q6⟩, q6'⟩, q6''⟩, q7⟩, q8⟩, q9⟩, q10⟩, q11⟩, q12⟩ := q
      have ok := blkOk_by q4
      refine fin (fun σ H Q hq => ?_) (ps_setLc2 (own := ownOf cn.N own) (vs1 := own2) (g := gOf X.K t) (g1 := gOf X.K t2) (tt := tB' (layB X fs cls) WF fun ρ μ => evT c ρ ifs μ) (tt1 := tB' (layB X fs cls) WF fun ρ μ => evT c ρ ifs2 μ) (wi1 := tI (layB X fs cls) WF fun ρ μ => evI c ρ it2 μ) (te := tV (layB X fs cls) WF fun ρ μ => evE c ρ elt μ) hc (by rw [h.N]; exact h.nd) (h.ix hi) hl swt
        (i_sound it X cn W i' tg h g tk q3) (by rw [h.N, h.sc]; exact ok) (by rw [q5]; exact sub_ok q6'') (fun s H C cl fp => t_sound (h.blk) hc t tg q7)
        (fun s H C cl fp => f_sound ifs _ _ WF fl h.blk g.lk takes0 q8) (fun s H C cl fp => i_sound it2 _ _ WF i2 tg2 h.blk g.lk takes0 q9) (fun s H C cl fp => t_sound (h.blk) hc t2 tg2 q10) (fun s H C cl fp => f_sound ifs2 _ _ WF fl2 h.blk g.lk takes0 q11)
        (fun s H C cl fp => (e_sound elt _ _ WF u h.blk g.lk takes0 q12).pe) (fold_of q2) (fun env => fold_of q2'))
      rw [q5]
      exact w_lc2 (sub_ok q6) (sub_ok q6') hq
    · cases q
  | _ => cases he
end
end Pv
end

/-! text PvSound4 -/
section
namespace Pv
open PySem L2
theorem sole_comp {v t : Expr} {line : Nat} {env : PySem.Env} (h : isComp v = false) : swapsWithSole [t] v line env = pure false := by
  unfold swapsWithSole
  exact sw_comp h
theorem asg_names {c : CallF} {t : T} {v : RV} {ρ : REnv} {μ : Sto} (h : namesOnly t = true) : asgT c t v ρ μ = lift (asgN t v ρ) μ := asgT_names c t v ρ μ h
mutual
theorem mT_names {cn : Cn} : ∀ {t : T} {x : Expr}, mT cn t x = true → namesOnly t = true
  | .nm _, _, _ => by unfold namesOnly; rfl
  | .tup ts, x, q => by
    unfold mT at q
    unfold namesOnly
    split at q
    · exact mTs_names q
    · cases q
  | .sub _ _, _, q => by unfold mT at q; cases q
theorem mTs_names {cn : Cn} : ∀ {ts : List T} {xs : List Expr}, mTs cn ts xs = true → namesOnlys ts = true
  | [], _, _ => by unfold namesOnlys; rfl
  | t :: ts, x :: xs, q => by
    unfold mTs at q
    simp only [Bool.and_eq_true] at q
    unfold namesOnlys
    rw [mT_names q.1.1, mTs_names q.2]
    rfl
  | _ :: _, [], q => by unfold mTs at q; cases q
end
theorem vNames2 {ts : List Expr} {ns : List (Str × Pos)} (h : vNames ts = some ns) (hl : ns.length = 2) : ∃ x px y py, ts = [.Name x px, .Name y py] ∧ ns = [(x, px), (y, py)] := by
  match ns, hl with
  | [(x, px), (y, py)], _ =>
    match ts, h with
    | [a, b], h =>
      simp only [vNames] at h
      cases h1 : vName a with
      | none => rw [h1] at h; simp at h
      | some n1 =>
        cases h2 : vName b with
        | none => rw [h1, h2] at h; simp at h
        | some n2 =>
          rw [h1, h2] at h
          obtain ⟨a1, a2⟩ := n1
          obtain ⟨b1, b2⟩ := n2
          simp at h
          obtain ⟨⟨rfl, rfl⟩, rfl, rfl⟩ := h
          exact ⟨_, _, _, _, by rw [vName_ok h1, vName_ok h2], rfl⟩
    | [], h => simp [vNames] at h
    | [a], h =>
      simp only [vNames] at h
      cases h1 : vName a <;> rw [h1] at h <;> simp at h
    | a :: b :: d :: r, h =>
      simp only [vNames] at h
      cases h1 : vName a <;> cases h2 : vName b <;> cases h3 : vName d <;> cases h4 : vNames r <;> simp [h1, h2, h3, h4] at h
theorem vNames3 {ts : List Expr} {ns : List (Str × Pos)} (h : vNames ts = some ns) (hl : ns.length = 3) : ∃ x px y py z pz, ts = [.Name x px, .Name y py, .Name z pz] ∧ ns = [(x, px), (y, py), (z, pz)] := by
  match ts, h with
  | [], h => simp [vNames] at h; subst h; cases hl
  | a :: r, h =>
    simp only [vNames] at h
    cases h1 : vName a with
    | none => rw [h1] at h; simp at h
    | some n1 =>
      cases h2 : vNames r with
      | none => rw [h1, h2] at h; simp at h
      | some ms =>
        rw [h1, h2] at h
        simp at h
        subst h
        obtain ⟨x, px⟩ := n1
        obtain ⟨y, py, z, pz, rfl, rfl⟩ := vNames2 h2 (by simpa using hl)
        exact ⟨x, px, y, py, z, pz, by rw [vName_ok h1], rfl⟩
theorem CnOk.tr {X : Cx} {cn : Cn} {lev : Nat} (h : CnOk X cn lev) {pn : List (Addr × Obj)} {xe : Value → Shared → Prop} : CnOk (X.tr pn xe) cn lev := ⟨h.N, h.nd, h.sc, h.fn, h.calm, h.rm, h.gd, h.un, h.lv⟩
theorem CnOk.suite {X : Cx} {cn : Cn} {lev : Nat} (h : CnOk X cn lev) {a : Addr} {pn : List (Addr × Obj)} : CnOk (X.suite a pn) { cn with calm := false } lev :=
  ⟨h.N, h.nd, h.sc, h.fn, fun q => (nomatch q), fun q => (nomatch q), h.gd, h.un, h.lv⟩
section
variable {fs : List Fn} {cls : List (Addr × List Str)} {lev : Nat} {c : CallF}
theorem tk_sound {k : TK} {e : E} {st : Stmt} {X : Cx} {cn : Cn} (h : CnOk X cn lev) (hc : X.calm = true) (g : GiOk (layOf X fs cls) cn.g c lev) (q : mTk cn k e st = true) (W : WX) (pn : List (Addr × Obj)) (xe : Value → Shared → Prop) (tk : Takes (X.tr pn xe) W) :
    PSs (X.tr pn xe) [st] (tTk (lkOf (X.tr pn xe) cls) X fs cls k W fun ρ μ => evE c ρ e μ) := by
  refine pss_one ?_
  have h' : CnOk (X.tr pn xe) cn lev := h.tr
  have g' : GiOk (layOf (X.tr pn xe) fs cls) cn.g c lev := g.lk
  cases k with
  | drop =>
    simp only [mTk] at q
    split at q
    · rename_i v p hv
      rw [vExpr_ok hv]
      simp only [Bool.and_eq_true, Bool.not_eq_true'] at q
      exact ps_expr (e_sound e _ cn W v h' g' tk q.2).pe (sw_comp q.1)
    · cases q
  | ret =>
    simp only [mTk] at q
    split at q
    · rename_i v p hv
      rw [vRet_ok hv]
      exact ps_ret (e_sound e _ cn W v h' g' tk q).pe
    · cases q
  | asg t =>
    simp only [mTk] at q
    split at q
    · rename_i tg v p hv
      rw [vAsg_ok hv]
      simp only [Bool.and_eq_true, Bool.not_eq_true'] at q
      obtain ⟨⟨⟨⟨q1, q2⟩, q3⟩, q4⟩, q5⟩ := q
      have pg := t_sound h' hc t tg q3
      have hw : swappedStores [tg] v X.env = pure none := by
        cases t with
        | nm i =>
          unfold mT at q3
          split at q3
          · rename_i n p0 hn
            rw [vName_ok hn]
            exact swNone_name
          · cases q3
        | tup ts =>
          unfold mT at q3
          split at q3
          · rename_i es k0 p0 hn
            rw [vTup_ok hn] at q4 ⊢
            exact swNone_tup h.sc q4
          · cases q3
        | sub _ _ => unfold mT at q3; cases q3
      exact ps_asg (e_sound e _ cn W v h' g' tk q2).pe pg (sw_comp q1) hw (by
        cases tg <;> first | rfl | cases q5)
    · cases q
mutual
theorem s_sound : ∀ (s : S) (X : Cx) (cn : Cn) (W : WX) (b : Bs) (x : Stmt), CnOk X cn lev → cn.calm = true → StOk X → GiOk (layOf X fs cls) cn.g c lev → Takes X W → mS cn s x = true → PS X x (tSt (layOf X fs cls) W b fun ρ μ => exS c s ρ μ)
  | .asg (.nm i) e, X, cn, W, b, x, h, cm, so, g, tk, q => by
    unfold mS at q
    split at q
    · rename_i tg v p hv
      rw [vAsg_ok hv]
      split at q
      · rename_i y yp hn
        rw [vName_ok hn]
        simp only [Bool.and_eq_true, decide_eq_true_eq, Bool.or_eq_true, Bool.not_eq_true'] at q
        obtain ⟨⟨⟨⟨q1, q2⟩, q3⟩, q4⟩, q5⟩ := q
        obtain ⟨l1, l2⟩ := h.loc q2
        by_cases hsw : swB cn y yp v = true
        · have he : isCompE e = true := by
            rcases q4 with q4 | q4
            · rw [hsw] at q4; cases q4
            · exact q4
          exact setLc_sound h g tk (h.calm cm) q1 q3 hsw he q5
        · exact s_asg1 (by rw [h.N]; exact h.nd) (h.ix q1) l1 (e_sound e X cn W v h g tk q5).pe (by rw [sw_of h.sc q3]; simp [hsw]) l2
      · cases q
    · cases q
  | .asg (.tup ts) e, X, cn, W, b, x, h, cm, so, g, tk, q => by
    unfold mS at q
    split at q
    · rename_i tg v p hv
      rw [vAsg_ok hv]
      simp only [Bool.and_eq_true, Bool.not_eq_true'] at q
      obtain ⟨⟨⟨⟨q1, q2⟩, q3⟩, q4⟩, q5⟩ := q
      obtain ⟨⟨es, k, p3⟩, ht⟩ := Option.isSome_iff_exists.mp q1
      have pg := t_sound h (h.calm cm) (.tup ts) tg q4
      have hno := mT_names q4
      rw [vTup_ok ht] at q5 pg ⊢
      have r := s_asg (b := b) (W := W) (fs := fs) (cls := cls) (t := .tup ts) (pos := p) (e_sound e X cn W v h g tk q3).pe pg (sole_comp q2) (swNone_tup h.sc q5) rfl
      refine PS.weak r fun D σ H hq => ?_
      obtain ⟨G, m, μ, ρ, a, s, en, k⟩ := hq
      refine ⟨G, m, μ, ρ, a, s, en, ?_⟩
      have e1 : exS c (.asg (.tup ts) e) ρ μ = (evE c ρ e μ).bind fun v μ1 => (lift (asgN (.tup ts) v ρ) μ1).bind fun ρ1 μ2 => .ok (F.next ρ1) μ2 := by
        show ((evE c ρ e μ).bind fun v μ1 => (asgT c (.tup ts) v ρ μ1).bind fun ρ1 μ2 => .ok (F.next ρ1) μ2) = _
        congr 1
        funext v μ1
        rw [asg_names hno]
      dsimp only
      rw [← e1]
      exact k
    · cases q
  | .asg (.sub o i) e, X, cn, W, b, x, h, cm, so, g, tk, q => by
    unfold mS at q
    split at q
    · rename_i tg v p hv
      rw [vAsg_ok hv]
      split at q
      · rename_i ox ix p2 hs
        rw [vSub_ok hs]
        simp only [Bool.and_eq_true, Bool.not_eq_true'] at q
        obtain ⟨⟨⟨q1, q2⟩, q3⟩, q4⟩ := q
        exact s_dput (by have := h.un; omega) (e_sound e X cn W v h g tk q4).pe (e_sound o X cn W ox h g tk q2).pe (e_sound i X cn W ix h g tk q3).pe (sw_comp q1)
      · cases q
    · cases q
  | .asgL ts e, X, cn, W, b, x, h, cm, so, g, tk, q => by
    unfold mS at q
    split at q
    · rename_i tg v p hv
      rw [vAsg_ok hv]
      simp only [Bool.and_eq_true, Bool.not_eq_true'] at q
      obtain ⟨⟨⟨⟨q1, q2⟩, q3⟩, q4⟩, q5⟩ := q
      obtain ⟨⟨es, k, p3⟩, ht⟩ := Option.isSome_iff_exists.mp q1
      have pg := t_soundL h (h.calm cm) ts tg q4
      rw [vTup_ok ht] at q5 pg ⊢
      exact s_asgL (b := b) (W := W) (fs := fs) (cls := cls) (ts := ts) (pos := p) (e_sound e X cn W v h g tk q3).pe pg (sole_comp q2) (swNone_tup h.sc q5) rfl
    · cases q
  | .own i s, X, cn, W, b, x, h, cm, so, g, tk, q => by
    unfold mS at q
    split at q
    · rename_i tg v p hv
      rw [vAsg_ok hv]
      split at q
      · rename_i y yp hn
        rw [vName_ok hn]
        simp only [Bool.and_eq_true, decide_eq_true_eq, Bool.not_eq_true'] at q
        obtain ⟨⟨⟨q1, q2⟩, q3⟩, q4⟩ := q
        obtain ⟨l1, l2⟩ := h.loc q2
        exact s_own (by rw [h.N]; exact h.nd) (h.ix q1) l1 (src_sound s v h g tk q4) (sw_comp q3) l2
      · cases q
    · cases q
  | .par is ss, X, cn, W, b, x, h, cm, so, g, tk, q => by
    unfold mS at q
    split at q
    · rename_i tg v p hv
      rw [vAsg_ok hv]
      split at q
      · rename_i ts k1 p1 vs k2 p2 ht hvs
        rw [vTup_ok ht, vTup_ok hvs]
        split at q
        · rename_i ns hns
          simp only [Bool.and_eq_true, decide_eq_true_eq, Bool.or_eq_true] at q
          obtain ⟨⟨⟨⟨q1, q2⟩, q3⟩, q4⟩, q5⟩ := q
          have nd : X.N.Nodup := by rw [h.N]; exact h.nd
          have sa := srcs_sound ss vs h g tk q5
          rcases q4 with q4 | q4
          · obtain ⟨x, px, y, py, rfl, rfl⟩ := vNames2 hns q4
            match vs, q3, q1, sa with
            | [a, d], _, q1, sa =>
              match is, q2 with
              | [i, j], q2 =>
                simp only [List.map_cons, List.map_nil, List.cons.injEq, and_true] at q2
                obtain ⟨w, lx, ly, ne⟩ := par2_of (k := k1) (k2 := k2) (p := p1) (p2 := p2) h.sc q1
                have ij : i ≠ j := fun e => by
                  subst e
                  rw [← q2.1] at q2
                  exact ne (Option.some.inj q2.2).symm
                exact s_par2 (h.calm cm) nd (h.ix q2.1.symm) (h.ix q2.2.symm) ij lx ly sa w rfl
              | [], q2 => simp at q2
              | [_], q2 => simp at q2
              | _ :: _ :: _ :: _, q2 => simp at q2
          · obtain ⟨x, px, y, py, z, pz, rfl, rfl⟩ := vNames3 hns q4
            match vs, q3, q1, sa with
            | [a, d, f], _, q1, sa =>
              match is, q2 with
              | [i, j, l], q2 =>
                simp only [List.map_cons, List.map_nil, List.cons.injEq, and_true] at q2
                obtain ⟨w, lx, ly, lz, n1, n2, n3⟩ := par3_of (k := k1) (k2 := k2) (p := p1) (p2 := p2) h.sc q1
                obtain ⟨qi, qj, ql⟩ := q2
                have ij : i ≠ j := fun e => by
                  subst e
                  rw [← qi] at qj
                  exact n1 (Option.some.inj qj).symm
                have il : i ≠ l := fun e => by
                  subst e
                  rw [← qi] at ql
                  exact n2 (Option.some.inj ql).symm
                have jl : j ≠ l := fun e => by
                  subst e
                  rw [← qj] at ql
                  exact n3 (Option.some.inj ql).symm
                exact s_par3 (h.calm cm) nd (h.ix qi.symm) (h.ix qj.symm) (h.ix ql.symm) ij il jl lx ly lz sa w rfl
              | [], q2 => simp at q2
              | [_], q2 => simp at q2
              | [_, _], q2 => simp at q2
              | _ :: _ :: _ :: _ :: _, q2 => simp at q2
        · cases q
      · cases q
    · cases q
  | .app i e, X, cn, W, b, x, h, cm, so, g, tk, q => by
    unfold mS at q
    split at q
    · rename_i v p hv
      rw [vExpr_ok hv]
      split at q
      · rename_i gx u qq hc
        rw [vCall_ok hc]
        split at q
        · rename_i a f p1 ha
          rw [vAttr_ok ha]
          split at q
          · rename_i n p2 hn
            rw [vName_ok hn]
            simp only [Bool.and_eq_true, decide_eq_true_eq, Bool.not_eq_true'] at q
            obtain ⟨⟨⟨⟨⟨rfl, q2⟩, q3⟩, q4⟩, q5⟩, q6⟩ := q
            obtain ⟨v1, v2, v3⟩ := h.vis q3
            exact s_app (h.ix q2) v1 v2 v3 (e_sound e X cn W u h g tk q6).pe (star_of q4) (base_of rfl) (by rw [star_of q4]; rfl) (by simp [q5]) rfl (sw_comp rfl)
          · cases q
        · cases q
      · cases q
    · cases q
  | .frz i, X, cn, W, b, x, h, cm, so, g, tk, q => by unfold mS at q; cases q
  | .ret e, X, cn, W, b, x, h, cm, so, g, tk, q => by
    unfold mS at q
    split at q
    · rename_i v p hv
      rw [vRet_ok hv]
      exact s_ret (e_sound e X cn W v h g tk q).pe
    · cases q
  | .retN, X, cn, W, b, x, h, cm, so, g, tk, q => by
    unfold mS at q
    split at q
    · rename_i p hv
      rw [vRet_ok hv]
      exact s_retN
    · cases q
  | .ifs t a d, X, cn, W, b, x, h, cm, so, g, tk, q => by
    unfold mS at q
    split at q
    · rename_i u p r p2 hv
      rw [vIf_ok hv]
      simp only [Bool.and_eq_true] at q
      obtain ⟨⟨⟨q1, q2⟩, q3⟩, q4⟩ := q
      exact s_if ((e_sound t X cn W u h g tk q1).pt q2) (ss_sound a X cn W b p h cm so g tk q3) (ss_sound d X cn W b r h cm so g tk q4)
    · cases q
  | .fors t it body, X, cn, W, b, x, h, cm, so, g, tk, q => by
    unfold mS at q
    split at q
    · rename_i tg i p p2 hv
      rw [vFor_ok hv]
      simp only [Bool.and_eq_true, Bool.not_eq_true'] at q
      obtain ⟨⟨⟨q1, q2⟩, q3⟩, q4⟩ := q
      exact s_for so.po (h.calm cm) (i_sound it X cn W i tg h g tk q2) (t_sound h (h.calm cm) t tg q3) (fun b => ss_sound body X cn W b p h cm so g tk q4) (fold_of q1)
    · cases q
  | .whiles t body, X, cn, W, b, x, h, cm, so, g, tk, q => by
    unfold mS at q
    split at q
    · rename_i u p p2 hv
      rw [vWhile_ok hv]
      simp only [Bool.and_eq_true] at q
      obtain ⟨⟨q1, q2⟩, q3⟩ := q
      exact s_while so.po ((e_sound t X cn W u h g tk q1).pt q2) (ss_sound body X cn W b p h cm so g tk q3)
    · cases q
  | .expr e, X, cn, W, b, x, h, cm, so, g, tk, q => by
    unfold mS at q
    split at q
    · rename_i v p hv
      rw [vExpr_ok hv]
      simp only [Bool.and_eq_true, Bool.not_eq_true'] at q
      exact s_expr (e_sound e X cn W v h g tk q.2).pe (sw_comp q.1)
    · cases q
  | .raise k fl es, X, cn, W, b, x, h, cm, so, g, tk, q => by
    unfold mS at q
    split at q
    · rename_i v p hv
      rw [vRaise_ok hv]
      split at q
      · rename_i gx xs p1 hc
        rw [vCall_ok hc]
        split at q
        · rename_i n p2 hn
          rw [vName_ok hn]
          simp only [Bool.and_eq_true, Bool.not_eq_true'] at q
          obtain ⟨⟨⟨q1, q2⟩, q3⟩, q4⟩ := q
          split at q3
          · rename_i m f hx
            simp only [Bool.and_eq_true, decide_eq_true_eq] at q3
            obtain ⟨rfl, rfl⟩ := q3
            obtain ⟨C, fI, fd, ps, ex, _⟩ := g.exs k m f hx
            obtain ⟨g1, g2⟩ := h.glob q1
            obtain ⟨sa, st⟩ := es_sound es X cn W xs h g tk q4
            cases xs with
            | nil => cases q2
            | cons y ys =>
              simp only [List.all_cons, Bool.and_eq_true, Bool.not_eq_true'] at st
              exact s_raise1 ex (h.calm cm) tk ((h.rm cm).mono h.lv) g1 g2 sa (star_of st.1) (nostar_any st.2)
          · cases q3
        · cases q
      · cases q
    · cases q
  | .try1 k e ci i hd, X, cn, W, b, x, h, cm, so, g, tk, q => by
    unfold mS at q
    split at q
    · rename_i st y np n hx p1 p2 p3 hv
      rw [vTry_ok hv]
      simp only [Bool.and_eq_true, decide_eq_true_eq] at q
      obtain ⟨⟨⟨⟨⟨q1, q2⟩, q3⟩, q4⟩, q5⟩, q6⟩ := q
      split at q4
      · rename_i m f hm
        have q4 := of_decide_eq_true q4
        subst q4
        obtain ⟨C, fI, fd, ps, ex, te⟩ := g.exs ci m f hm
        obtain ⟨g1, g2⟩ := h.glob q1
        refine s_try so.hs so.hf (by rw [h.N]; exact h.nd) (h.ix q2) ?_ ⟨g1, g2, .inl ex.at_⟩ ex.cl (by simp) te (fun W pn xe tk' _ => tk_sound h (h.calm cm) g q5 W pn xe tk') (fun a pn => (e_sound hd _ { cn with calm := false } WF hx h.suite g.lk takes0 q6).pe)
        show X.env.scope.names.lookup n = _
        rw [h.sc]
        exact of_decide_eq_true q3
      · cases q4
    · cases q
  | .brk, X, cn, W, b, x, h, cm, so, g, tk, q => by
    unfold mS at q
    obtain ⟨p, rfl⟩ := isBrk_ok q
    exact s_brk
  | .cont, X, cn, W, b, x, h, cm, so, g, tk, q => by
    unfold mS at q
    obtain ⟨p, rfl⟩ := isCont_ok q
    exact s_cont
  | .pass, X, cn, W, b, x, h, cm, so, g, tk, q => by
    unfold mS at q
    obtain ⟨p, rfl⟩ := isPass_ok q
    exact s_pass
theorem ss_sound : ∀ (ss : List S) (X : Cx) (cn : Cn) (W : WX) (b : Bs) (xs : List Stmt), CnOk X cn lev → cn.calm = true → StOk X → GiOk (layOf X fs cls) cn.g c lev → Takes X W → mSs cn ss xs = true → PSs X xs (tSt (layOf X fs cls) W b fun ρ μ => exSs c ss ρ μ)
  | [], X, cn, W, b, [], h, cm, so, g, tk, q => ss_nil
  | [], X, cn, W, b, _ :: _, h, cm, so, g, tk, q => by unfold mSs at q; cases q
  | s :: ss, X, cn, W, b, xs, h, cm, so, g, tk, q => by
    have gen : (∃ i, s = .frz i ∧ mSs cn ss xs = true) ∨ ∃ y ys, xs = y :: ys ∧ mS cn s y = true ∧ mSs cn ss ys = true := by
      cases xs with
      | nil => cases s <;> first | exact .inl ⟨_, rfl, q⟩ | (simp [mSs] at q; done)
      | cons y ys =>
        cases s <;> first
          | exact .inl ⟨_, rfl, q⟩
          | (rw [mSs, Bool.and_eq_true] at q
             · exact .inr ⟨y, ys, rfl, q.1, q.2⟩
             · exact fun _ e => by cases e)
    rcases gen with ⟨i, rfl, q1⟩ | ⟨y, ys, rfl, q1, q2⟩
    · exact s_frz (ss_sound ss X cn W b xs h cm so g tk q1)
    · exact ss_cons (s_sound s X cn W b y h cm so g tk q1) (ss_sound ss X cn W b ys h cm so g tk q2)
end
end
end Pv
end

/-! text PvFn -/
section
/-! Pv, part 16: a whole program. -/
namespace Pv
open PySem L2 PySem.Spec PyProof.Rows
/-- a program whose defs match -/
structure Prg (L : Lay) (g : Gi) : Prop where
  con : ∀ x d, g.con.lookup x = some d → ∃ v u, L.mg x = some u ∧ RelV v u ∧ ∀ G, Rp L.K G v d
  blt : ∀ x ∈ g.blt, L.mg x = none
  fns : ∀ (f : Nat) x, g.fns[f]? = some x → ∃ fn a fd st, L.fs[f]? = some fn ∧ fn.name = x ∧ Fun L.K x x st a fd ∧ FnScope fn.N fn.ps (defScope st) ∧ mSs ⟨g, fn.N, defScope st, fun _ => true, true⟩ fn.body (defBody st) = true ∧
    L.mg x = some (.ref a) ∧ PySem.W.keepIn L.K (.ref a) = true ∧ Binds L.K fd fn.ps [] ∧ ∀ ks perm, (f, ks, perm) ∈ g.kbs → KB L.K fd fn.ps ks perm
  exs : ∀ (k : Nat) x f, g.exs[k]? = some (x, f) → ∃ C fI fd ps, Exc1 L k x C f fI fd ps ∧ PySem.W.exmOne L.K (.ref C) (.ref C) = some true
  exa : ∀ (k : Nat) (C : Addr) (names : List Str), L.cls[k]? = some (C, names) → ∀ f ∈ names, ExaT L.K C f
theorem callF_len {fs : List Fn} {f : Nat} {fn : Fn} (h : fs[f]? = some fn) : ∀ n, LenOk (callF fs n) f fn.ps.length
  | 0 => fun _ _ _ => rfl
  | n + 1 => fun rs μ hl => by
    show (match fs[f]? with | some fn => runFn (callF fs n) fn rs μ | none => .bad) = _
    rw [h]
    show runFn (callF fs n) fn rs μ = _
    unfold runFn
    rw [if_neg hl]
theorem start_len {N : List Str} {vs : List V} (h : vs.length ≤ N.length) : (L2.start N vs).length = N.length := by
  unfold L2.start
  simp
  omega
theorem eok_start {K : PySem.W.Frag} {lk : Lk} {G H : Hp} {m : List Addr} {N : List Str} {rs : List RV} {vs : List V} (r : RVs K G m rs vs) (hl : vs.length ≤ N.length) : Eok K lk G m H (startR N.length rs) (L2.start N vs) := by
  have e := rvs_length r
  have val : ∀ (i : Nat) (s : Slot), (startR N.length rs)[i]? = some (some s) → ∃ v, rs[i]? = some v ∧ s = .val v := fun i s h => by
    unfold startR at h
    by_cases hi : i < rs.length
    · rw [List.getElem?_append_left (by simpa using hi), List.getElem?_map] at h
      cases q : rs[i]? with
      | none => rw [q] at h; cases h
      | some v => rw [q] at h; cases h; exact ⟨v, rfl, rfl⟩
    · rw [List.getElem?_append_right (by simp; omega)] at h
      rw [List.getElem?_replicate] at h
      split at h <;> cases h
  refine ⟨?_, fun i s h => ?_, fun i j xs ys a b _ h1 _ _ _ => ?_⟩
  · rw [start_len hl]
    unfold startR
    simp
    omega
  · obtain ⟨v, h1, rfl⟩ := val i s h
    obtain ⟨x, h2, h3⟩ := paired_get r h1
    refine ⟨x, ?_, h3⟩
    have hi := (List.getElem?_eq_some_iff.mp h2).1
    unfold L2.start
    rw [List.getElem?_append_left (by simpa using hi), List.getElem?_map, h2]
    rfl
  · obtain ⟨v, _, h2⟩ := val i _ h1
    cases h2
theorem fn_sound {L : Lay} {g : Gi} {n f lev : Nat} {fn : Fn} {x : Str} {st : Stmt} {a : Addr} {fd : FuncData} (hg : GiOk L g (callF L.fs n) lev) (hl : 2 ≤ lev) (hf : L.fs[f]? = some fn) (F : Fun L.K x x st a fd) (S : FnScope fn.N fn.ps (defScope st))
    (hm : mSs ⟨g, fn.N, defScope st, fun _ => true, true⟩ fn.body (defBody st) = true) : FnG L.P L.w L.K L.mg L.base (L2.CX L.P L.w) (lev + 1) a fd fn.ps (spF L (callF L.fs (n + 1)) f fn.ps.length) := by
  obtain ⟨oc, od, kV, doc, pm, an, cdv, ct, osl, rfl, lk, hcd⟩ := F.ex
  refine fnG_of lk hcd S (fun vs H Q E h => h.1) fun B fr s H vs Q E rm gd h => ?_
  obtain ⟨hlen, G, m, μ, rs, so, r, k⟩ := h
  have hpl : vs.length ≤ fn.N.length := by
    have := congrArg List.length S.pre
    rw [List.length_take] at this
    omega
  have un : (B.deeper (envOfC x (defScope st) s.heap.objs.size a cdv)).units + 70 < cLine := by have := rm.un; omega
  refine ⟨_, ss_sound (fs := L.fs) (cls := L.cls) (lev := lev) (c := callF L.fs n) fn.body (cxOf (L2.CX L.P L.w) L.P L.w L.K L.mg L.base fn.N x (defScope st) a cdv B fr s H E) ⟨g, fn.N, defScope st, fun _ => true, true⟩ (fun cls d _ H => E cls d H) ⟨G, m, H, G, m⟩ (defBody st)
    ⟨rfl, S.nd, rfl, fun _ _ => rfl, fun _ => rfl, fun _ => rm, gd, un, hl⟩ rfl ⟨passes_of rfl, rfl, rfl⟩ hg.lk (takes_of rfl rfl rfl rfl) hm, ?_⟩
  refine ⟨G, m, μ, startR fn.N.length rs, ⟨Ext.refl, Same.refl _, ⟨[], by simp⟩⟩, so, ⟨eok_start r hpl, fun i xs a' h1 _ => ?_⟩, ?_⟩
  · obtain ⟨v, h2, h3⟩ := (eok_start (K := L.K) (lk := L.lk) (H := H) r hpl).sl i _ h1
    obtain ⟨p, vs', e1, e2, e3, e4, e5⟩ := h3
    exfalso
    unfold startR at h1
    by_cases hi : i < rs.length
    · rw [List.getElem?_append_left (by simpa using hi), List.getElem?_map] at h1
      cases q : rs[i]? with
      | none => rw [q] at h1; cases h1
      | some v => rw [q] at h1; cases h1
    · rw [List.getElem?_append_right (by simp; omega), List.getElem?_replicate] at h1
      split at h1 <;> cases h1
  · dsimp only
    have k : Kn L (fun cl d H' => E cl d H') (RelV' L) G m H ((match L.fs[f]? with | some fn => runFn (callF L.fs n) fn rs μ | none => .bad)) Q := k
    rw [hf] at k
    have k : Kn L (fun cl d H' => E cl d H') (RelV' L) G m H (runFn (callF L.fs n) fn rs μ) Q := k
    unfold runFn at k
    rw [if_pos (by rw [rvs_length r]; exact hlen)] at k
    cases q : exSs (callF L.fs n) fn.body (startR fn.N.length rs) μ with
    | bad => rw [q] at k; exact k
    | ex c f' μ' => rw [q] at k; exact fun G' m' H' σ cls d a' s' e' => k G' m' H' cls d a'.ext s' e'
    | ok fl μ' =>
      rw [q] at k
      cases fl with
      | next ρ => exact fun G' m' H' σ a' s' e' => k G' m' H' .non a'.ext s' (.d .non)
      | ret v => exact fun G' m' H' z a' s' r' => k G' m' H' z a'.ext s' r'
      | brk ρ => exact k.elim
      | cont ρ => exact k.elim
theorem prg_ok {L : Lay} {g : Gi} (h : Prg L g) : ∀ n, GiOk L g (callF L.fs n) (n + 2)
  | 0 => ⟨h.con, h.blt, fun f x q => by
      obtain ⟨fn, a, fd, st, h1, h2, h3, h4, h5, h6, h7, h8, h9⟩ := h.fns f x q
      refine ⟨fn, a, fd, h2, ⟨⟨fun vs H Q E z => z.1, fun B fr s H ar ws vs Q E _ _ _ _ _ z => ?_⟩, by rw [h2]; exact h6, h7, h8⟩, callF_len h1 0, h9⟩
      obtain ⟨_, G, m, μ, rs, _, _, k⟩ := z
      exact k.elim, h.exs, h.exa⟩
  | n + 1 => ⟨h.con, h.blt, fun f x q => by
      obtain ⟨fn, a, fd, st, h1, h2, h3, h4, h5, h6, h7, h8, h9⟩ := h.fns f x q
      exact ⟨fn, a, fd, h2, ⟨fn_sound (prg_ok h n) (by omega) h1 h3 h4 h5, by rw [h2]; exact h6, h7, h8⟩, callF_len h1 _, h9⟩, h.exs, h.exa⟩
end Pv
end

/-! text PvEnd -/
section
/-! Pv, part 17: the law is asked. -/
namespace Pv
open PySem L2 PySem.Spec PyProof.Rows
/-- the script, as it is known when the law is called: it never changes -/
def scriptH (K : PySem.W.Frag) (a : Addr) (us : List Value) (zs : List Int) : Hp := fun b =>
  if b = a ∧ K.lookup a = none then some (.frz { cls := .type "list", data := .seq us.toArray } (.lst (zs.map V.int))) else none
theorem scriptH_some {K : PySem.W.Frag} {a b : Addr} {us : List Value} {zs : List Int} {u : HO} (h : scriptH K a us zs b = some u) : b = a ∧ K.lookup a = none ∧ u = .frz { cls := .type "list", data := .seq us.toArray } (.lst (zs.map V.int)) := by
  unfold scriptH at h
  split at h
  · rename_i q
    cases h
    exact ⟨q.1, q.2, rfl⟩
  · cases h
theorem law_run {P : Program} {w : World} {K : PySem.W.Frag} {gm bm : Str → Option Value} {lev : Nat} {fa a : Addr} {x : Str} {st : Shared} {us : List Value} {zs : List Int}
    (kin : K.In st.heap) (nsG : st.heap.Ns mainGlobals gm) (nsB : st.heap.Ns builtinsNs bm) (boot : ∀ y : Str, y ≠ "__name__" → bm y = bootBuiltins y) (free : st.heap.NoLimit) (gens : st.gens = #[])
    (obj : st.heap.get? a = some { cls := .type "list", data := .seq us.toArray }) (hin : IntsAre us zs) (hlen : zs.length ≤ sizeLine) (rm : Room lev callerA)
    (F : ∀ base : Heap, K.In base → base.Ns mainGlobals gm → ∃ (fd : FuncData) (sp : Sp), BindsTo st fd ⟨[.ref a], []⟩ [(x, .ref a)] ∧ FnG P w K gm base (L2.CX P w) lev fa fd [x] sp ∧
      (SqL K (scriptH K a us zs) a (zs.map V.int) → sp [.ref a] (scriptH K a us zs) (fun v _ => v = .bl true) fun _ _ _ => False)) :
    codeAny (model P w) callerA (.call (.ref fa) ⟨[.ref a], []⟩) (fun r s' => r = .ok (.ret (.bool true)) ∧ OldK st.heap s'.heap ∧ s'.os = st.os ∧ AllBare s'.gens) st := by
  have vals := vals_ints hin
  have el := hin.length
  -- an object that is no list of the script's is seen in what is hidden from it
  have seen : ∀ {b : Addr} {o : Obj}, st.heap.get? b = some o → (b = a → K.lookup a = none → False) → (hidT st.heap (scriptH K a us zs)).get? b = some o := fun {b o} e n => hidT_get e (by
    cases q : scriptH K a us zs b with
    | none => rfl
    | some u =>
      obtain ⟨q1, q2, _⟩ := scriptH_some q
      exact (n q1 q2).elim)
  have seenNs : ∀ {b : Addr} {mm : Str → Option Value}, st.heap.Ns b mm → (hidT st.heap (scriptH K a us zs)).Ns b mm := fun {b mm} ⟨o, es, ep, e, d, r⟩ => ⟨o, es, ep, seen e (fun q _ => by
    rw [q, obj] at e
    cases e
    exact nomatch (show Data.seq us.toArray _ = Data.dict es ep from d)), d, r⟩
  have kinB : K.In (hidT st.heap (scriptH K a us zs)) := fun b o e => seen (kin b o e) fun q1 q2 => by rw [q1, q2] at e; cases e
  have md : Mod K gm (hidT st.heap (scriptH K a us zs)) := ⟨kinB, seenNs nsG, ⟨bm, seenNs nsB, boot⟩, by
    obtain ⟨mc, f1, f2⟩ := free
    exact ⟨mc, seenNs f1, f2⟩⟩
  have sq : SqL K (scriptH K a us zs) a (zs.map V.int) := by
    cases q : K.lookup a with
    | none => exact .inl (.inr ⟨{ cls := .type "list", data := .seq us.toArray }, if_pos ⟨rfl, q⟩⟩)
    | some o =>
      have e := kin a o q
      rw [obj] at e
      cases e
      exact .inr ⟨_, us.toArray, _, q, rfl, rfl, rfl, by rw [List.size_toArray, el]; exact hlen, by simpa using vals⟩
  have good : HOk P w (scriptH K a us zs) st.heap := fun b u q => by
    obtain ⟨rfl, _, rfl⟩ := scriptH_some q
    exact ⟨obj, by rw [List.length_map]; exact hlen, us, _, vals, obj⟩
  have env : Env0 P w K gm (hidT st.heap (scriptH K a us zs)) callerA [] st (scriptH K a us zs) :=
    ⟨rfl, md, fun b o e => of_hidT e, Nat.le_of_eq (hidT_size _ _), trivial, fun b q => (nomatch q), good, .of_eq gens⟩
  obtain ⟨fd, sp, bd, fg, hsp⟩ := F _ kinB (seenNs nsG)
  have run := fg.run callerA [] st (scriptH K a us zs) ⟨[.ref a], []⟩ [.ref a] [.ref a] _ _ rm rfl env bd (.cons rfl .nil) (hsp sq)
  refine codeAny_mono run fun r s' q => ?_
  cases r with
  | error e =>
    obtain ⟨_, _, _, _, _, _, _, _, _, _, _, _, z⟩ := q
    exact z.elim
  | ok fl =>
    cases fl with
    | next => exact q.elim
    | brk => exact q.elim
    | cont => exact q.elim
    | ret u =>
      obtain ⟨v, H', hos, bare, un, ok', rel, e1⟩ := q
      have e1 : v = .bl true := e1
      subst e1
      have e2 : u = Value.bool true := rel
      subst e2
      refine ⟨rfl, OldK.of_keep fun b o e => ?_, hos, bare⟩
      cases q : scriptH K a us zs b with
      | none => exact un.keep b o e q (fun z => nomatch z) (fun z => nomatch z)
      | some u =>
        obtain ⟨rfl, _, rfl⟩ := scriptH_some q
        obtain ⟨k1, _⟩ := good b _ q
        obtain ⟨k2, _⟩ := ok' b _ (un.frzs b _ _ q)
        rw [e] at k1
        cases k1
        exact k2
/-- THE END: a law whose program matches, and whose own computing answers True -/
theorem law_holds {l : PySem.W.OpenLaw} {q : Program} {loose : List Str} {XP : (Str → Option Value) → Heap → Prop} {YP : World → Heap → Prop} {d : DefRec} {K : Params → PySem.W.Frag} {fs : List Fn} {g : Gi} {f n : Nat} {x : Str}
    (hn : l.most = some 63) (hdf : d.params.defaults = []) (hr : Room (n + 3) callerA) (hY : ∀ (w : World) (h : Heap), YP w h → (K w.params).In h) (hgf : g.fns[f]? = some d.name) (hps : ∀ fn, fs[f]? = some fn → fn.ps = [x])
    (F : ∀ (w : World) (gm : Str → Option Value) (h : Heap), (K w.params).In h → h.Ns mainGlobals gm → ∃ cls : List (Addr × List Str), ∀ base : Heap, (K w.params).In base → base.Ns mainGlobals gm → Prg ⟨l.prog, w, K w.params, gm, base, fs, cls, lk0 cls⟩ g)
    (hev : ∀ zs : List Int, zs.length ≤ 63 → (∀ z ∈ zs, Builtin.Int.intBits z ≤ 1048576) → ∃ μ, callF fs (n + 1) f [.scr zs] [] = .ok (.d (.bool true)) μ) :
    PySem.W.WalkO q loose XP YP l.row.toRowW d [] (fun f vs => PySem.call f vs) := by
  refine Att.attach_callB hn hdf fun w s₀ st gm bm fa o pm cd doc a us zs gr Y ho hd hcd hfa obj hin hlen hbits hg => ?_
  have kin := hY w _ Y
  obtain ⟨cls, hF⟩ := F w gm _ kin gr.T.g
  refine law_run (x := x) kin gr.T.g gr.T.b gr.T.builtins gr.T.nolimit hg obj hin (Nat.le_trans hlen (by decide)) hr fun base kb nb => ?_
  have P := hF base kb nb
  obtain ⟨fn, ad, fd, st', h1, h2, h3, h4, h5, h6, h7, h8, h9⟩ := P.fns f d.name hgf
  have hp := hps fn h1
  have e : fa = ad := by
    have h6 : gm d.name = some (.ref ad) := h6
    rw [hfa] at h6
    cases h6
    rfl
  subst e
  have bd := h8 st [.ref a] kin (by rw [hp]; rfl)
  rw [hp] at bd
  have fg := fn_sound (prg_ok P n) (by omega) h1 h3 h4 h5
  rw [hp] at fg
  refine ⟨fd, _, bd, fg, fun sq => ⟨rfl, scriptH (K w.params) a us zs, [], [], [.scr zs], ⟨rfl, List.nodup_nil, Same.refl _, fun _ h => (nomatch h), fun _ _ _ h => (nomatch h)⟩, .cons (.scr sq) .nil, ?_⟩⟩
  obtain ⟨μ, hev⟩ := hev zs hlen hbits
  show Kn _ _ _ _ _ _ (callF fs (n + 1) f [.scr zs] []) _
  rw [hev]
  intro G' m' H' v x1 s1 r1
  cases rvD r1
  rfl
end Pv
end

/-! text PvPrg -/
section
/-! Pv, part 18: a program made of what is written of it, and of its heap. -/
namespace Pv
open PySem L2 PySem.Spec PyProof.Rows
/-- what is fixed of a def: the table's entry, the text, how it binds -/
structure FnStat (g : Gi) (f : Nat) (x : Str) (fn : Fn) (st : Stmt) : Prop where
  nm : fn.name = x
  sc : FnScope fn.N fn.ps (defScope st)
  ms : mSs ⟨g, fn.N, defScope st, fun _ => true, true⟩ fn.body (defBody st) = true
  bd : ∀ (kV doc pm : Value) (an : Option Addr) (cdv ct : Value) (us : List Value), us.length = fn.ps.length → bindArgs (PySem.W.fnOf x x (defArgs st) (defBody st) (defScope st) .none kV doc pm an cdv ct) ⟨us, []⟩ = pure (fn.ps.zip us)
  kb : ∀ ks perm, (f, ks, perm) ∈ g.kbs → ∀ (kV doc pm : Value) (an : Option Addr) (cdv ct : Value) (ws : List Value), (permG perm ws).length = fn.ps.length → bindArgs (PySem.W.fnOf x x (defArgs st) (defBody st) (defScope st) .none kV doc pm an cdv ct) ⟨[], ks.zip ws⟩ = pure (fn.ps.zip (permG perm ws))
def StatAll (g : Gi) (fs : List Fn) : Nat → List (Str × Stmt) → Prop
  | _, [] => True
  | k, (x, st) :: r => (∃ fn, fs[k]? = some fn ∧ FnStat g k x fn st) ∧ StatAll g fs (k + 1) r
theorem StatAll.get {g : Gi} {fs : List Fn} {x : Str} {st : Stmt} : ∀ {l : List (Str × Stmt)} {k i : Nat}, StatAll g fs k l → l[i]? = some (x, st) → ∃ fn, fs[k + i]? = some fn ∧ FnStat g (k + i) x fn st
  | [], _, _, _, h => by cases h
  | (y, s) :: r, k, 0, h, q => by cases q; exact h.1
  | (y, s) :: r, k, i + 1, h, q => by
    have := StatAll.get (k := k + 1) (i := i) h.2 q
    rw [show k + (i + 1) = k + 1 + i from by omega]
    exact this
/-- what the heap says of a def -/
def FnHeap (K : PySem.W.Frag) (mg : Str → Option Value) (x : Str) (st : Stmt) : Prop := ∃ (a : Addr) (fd : FuncData), Fun K x x st a fd ∧ mg x = some (.ref a) ∧ PySem.W.keepIn K (.ref a) = true
theorem fn_heap {K : PySem.W.Frag} {mg : Str → Option Value} {h : Heap} {x : Str} {st : Stmt} {f : Addr} {oc : Value} {od an : Option Addr} {osl : Array (Option Value)} {kV doc pm cdv ct : Value} (X : K.In h) (G : h.Ns mainGlobals mg)
    (a : PySem.W.nsIn K mainGlobals x = some (some (.ref f))) (l : K.lookup f = some ⟨oc, od, .func (PySem.W.fnOf x x (defArgs st) (defBody st) (defScope st) .none kV doc pm an cdv ct), osl⟩)
    (c : PySem.W.codeIn K cdv x = true) (k : PySem.W.keepIn K (.ref f) = true) : FnHeap K mg x st := ⟨f, _, fun_mk l c k, PySem.W.mg_of X G a, k⟩
def HeapAll (K : PySem.W.Frag) (mg : Str → Option Value) : List (Str × Stmt) → Prop
  | [] => True
  | (x, st) :: r => FnHeap K mg x st ∧ HeapAll K mg r
theorem HeapAll.get {K : PySem.W.Frag} {mg : Str → Option Value} {x : Str} {st : Stmt} : ∀ {l : List (Str × Stmt)} {i : Nat}, HeapAll K mg l → l[i]? = some (x, st) → FnHeap K mg x st
  | [], _, _, h => by cases h
  | (y, s) :: r, 0, h, q => by cases q; exact h.1
  | (y, s) :: r, i + 1, h, q => HeapAll.get (i := i) h.2 q
/-- a constant that the top has bound -/
def ConIs (K : PySem.W.Frag) (mg : Str → Option Value) (x : Str) (d : PyData) : Prop := ∃ v u, mg x = some u ∧ RelV v u ∧ ∀ G, Rp K G v d
def ConAll (K : PySem.W.Frag) (mg : Str → Option Value) : List (Str × PyData) → Prop
  | [] => True
  | (x, d) :: r => ConIs K mg x d ∧ ConAll K mg r
theorem ConAll.get {K : PySem.W.Frag} {mg : Str → Option Value} {x : Str} {d : PyData} : ∀ {l : List (Str × PyData)}, ConAll K mg l → l.lookup x = some d → ConIs K mg x d
  | [], _, h => by cases h
  | (y, e) :: r, h, q => by
    by_cases c : x = y
    · subst c
      have : List.lookup x ((x, e) :: r) = some e := by simp [List.lookup]
      rw [this] at q
      cases q
      exact h.1
    · have c' : (x == y) = false := by simpa using c
      have : List.lookup x ((y, e) :: r) = List.lookup x r := by simp [List.lookup, c']
      rw [this] at q
      exact h.2.get q
/-- the data that a value of the written heap is -/
def datum (K : PySem.W.Frag) : Nat → Value → Option (V × PyData)
  | 0, _ => none
  | _ + 1, .none => some (.non, .none)
  | _ + 1, .bool b => some (.bl b, .bool b)
  | _ + 1, .int i _ => some (.int i, .int i)
  | _ + 1, .str s _ => some (.str s, .str s)
  | n + 1, .ref a => match K.lookup a with
    | some ⟨.type t, _, .seq its _, _⟩ => if t = "tuple" ∧ its.size ≤ sizeLine then (its.toList.mapM (datum K n)).map fun ps => (.ref a, .tuple (ps.map (·.2))) else none
    | _ => none
  | _ + 1, _ => none
theorem datum_list {K : PySem.W.Frag} {n : Nat} (ih : ∀ u v d, datum K n u = some (v, d) → RelV v u ∧ ∀ G, Rp K G v d) : ∀ (us : List Value) (ps : List (V × PyData)), us.mapM (datum K n) = some ps → Vals (ps.map (·.1)) us ∧ ∀ G, RpAll K G (ps.map (·.1)) (ps.map (·.2))
  | [], ps, h => by
    rw [List.mapM_nil] at h
    cases h
    exact ⟨.nil, fun _ => .nil⟩
  | u :: us, ps, h => by
    rw [List.mapM_cons] at h
    cases q : datum K n u with
    | none => rw [q] at h; cases h
    | some p =>
      rw [q] at h
      cases q2 : us.mapM (datum K n) with
      | none =>
        have h : (us.mapM (datum K n)).bind (fun x => some (p :: x)) = some ps := h
        rw [q2] at h
        cases h
      | some qs =>
        have h : (us.mapM (datum K n)).bind (fun x => some (p :: x)) = some ps := h
        rw [q2] at h
        cases h
        obtain ⟨r1, r2⟩ := ih u p.1 p.2 q
        obtain ⟨s1, s2⟩ := datum_list ih us qs q2
        exact ⟨.cons r1 s1, fun G => .cons (r2 G) (s2 G)⟩
theorem datum_ok {K : PySem.W.Frag} : ∀ (n : Nat) (u : Value) (v : V) (d : PyData), datum K n u = some (v, d) → RelV v u ∧ ∀ G, Rp K G v d
  | 0, _, _, _, h => by cases h
  | n + 1, u, v, d, h => by
    unfold datum at h
    split at h
    · cases h
    · cases h; exact ⟨rfl, fun _ => .non⟩
    · cases h; exact ⟨rfl, fun _ => .bl _⟩
    · cases h; exact ⟨⟨_, rfl⟩, fun _ => .int _⟩
    · cases h; exact ⟨⟨_, rfl⟩, fun _ => .str _⟩
    · rename_i m a hm
      cases hm
      split at h
      · rename_i t od its k sl hk
        split at h
        · rename_i hc
          obtain ⟨rfl, hs⟩ := hc
          cases q : its.toList.mapM (datum K n) with
          | none => rw [q] at h; cases h
          | some ps =>
            rw [q] at h
            cases h
            obtain ⟨r1, r2⟩ := datum_list (datum_ok n) _ _ q
            exact ⟨rfl, fun G => .tup (.inr ⟨_, its, k, hk, rfl, rfl, hs, r1⟩) (r2 G)⟩
        · cases h
      · cases h
    · cases h
theorem con_is {K : PySem.W.Frag} {mg : Str → Option Value} {h : Heap} {x : Str} {u : Value} {d : PyData} {n : Nat} (X : K.In h) (G : h.Ns mainGlobals mg) (a : PySem.W.nsIn K mainGlobals x = some (some u)) (q : (datum K n u).map (·.2) = some d) : ConIs K mg x d := by
  cases e : datum K n u with
  | none => rw [e] at q; cases q
  | some p =>
    rw [e] at q
    cases q
    obtain ⟨r1, r2⟩ := datum_ok n u p.1 p.2 e
    exact ⟨p.1, u, PySem.W.mg_of X G a, r1, r2⟩
/-- an error of the class at S is what «except S» names -/
theorem exm_self {K : PySem.W.Frag} {S : Addr} (h1 : PySem.W.subIn K (.ref S) (.type "BaseException") = some true) (h2 : PySem.W.isClsIn K S = true) (h3 : PySem.W.typeIn K (.ref S) = some (.type "type")) (h4 : PySem.W.subIn K (.ref S) (.ref S) = some true) :
    PySem.W.exmOne K (.ref S) (.ref S) = some true := by
  have e1 : (PySem.W.subIn K (.ref S) (.type "BaseException") == some true) = true := by rw [h1] <;> rfl
  have e2 : ((PySem.W.clsIn K S).isSome && PySem.W.typeIn K (.ref S) == some (.type "type")) = true := by
    have h2' : (PySem.W.clsIn K S).isSome = true := h2
    rw [h2', h3] <;> rfl
  show (if (PySem.W.subIn K (.ref S) (.type "BaseException") == some true) = true then (if ((PySem.W.clsIn K S).isSome && PySem.W.typeIn K (.ref S) == some (.type "type")) = true then PySem.W.subIn K (.ref S) (.ref S) else none) else none) = some true
  rw [if_pos e1, if_pos e2]
  exact h4
/-- what is fixed of an error class's __init__ -/
structure ExStat (x qual f : Str) (st : Stmt) (se p : Str) : Prop where
  hb : ∃ q1 q2 q3 q4, defBody st = [.Assign [.Attribute (.Name se q1) f q2] (.Name p q3) q4]
  sc : FnScope [se, p] [se, p] (defScope st)
  v0 : Vis (defScope st) se
  v1 : Vis (defScope st) p
  nd : (se == ("__debug__" : Str)) = false ∧ (se == ("__classdict__" : Str)) = false ∧ (p == ("__debug__" : Str)) = false ∧ (p == ("__classdict__" : Str)) = false
  bd : ∀ (kV doc pm : Value) (an : Option Addr) (cdv ct : Value) (us : List Value), us.length = [se, p].length → bindArgs (PySem.W.fnOf "__init__" qual (defArgs st) (defBody st) (defScope st) .none kV doc pm an cdv ct) ⟨us, []⟩ = pure ([se, p].zip us)
/-- what the heap says of an error class -/
structure ExHeap (K : PySem.W.Frag) (mg : Str → Option Value) (x qual f : Str) (st : Stmt) (C : Addr) : Prop where
  at_ : mg x = some (.ref C)
  T : OexC K C
  ini : ∃ fI fd, PySem.W.findIn K (.ref C) "__init__" = some (some (.ref fI)) ∧ PySem.W.typeIn K (.ref fI) = some (.type "function") ∧ Fun K "__init__" qual st fI fd
  te : PySem.W.exmOne K (.ref C) (.ref C) = some true
  xa : ExaT K C f
theorem ex_heap {K : PySem.W.Frag} {mg : Str → Option Value} {h : Heap} {x qual f nm q : Str} {st : Stmt} {C N fI : Addr} {bs bm sub : List Value} {sn : List Str} {ab : Bool} {col : Option Bool} {dd : Option Addr} {m0 m1 m2 m3 m5 : Option Value}
    {oc : Value} {od an : Option Addr} {osl : Array (Option Value)} {kV doc pm cdv ct : Value} (X : K.In h) (G : h.Ns mainGlobals mg)
    (aC : PySem.W.nsIn K mainGlobals x = some (some (.ref C)))
    (xC : K.lookup C = some (excClassObj nm q C N bs bm true sn sub ab col dd m0 m1 m2 m3 m5 "ValueError.__new__")) (bC : PySem.HandSPX.refsVE bm = true)
    (sa : PySem.W.findIn K (.ref C) "__setattr__" = some (some (.builtin "object.__setattr__"))) (ga : PySem.W.findIn K (.ref C) "__getattribute__" = some (some (.builtin "BaseException.__getattribute__"))) (gg : PySem.W.findIn K (.ref C) "__getattr__" = some none) (nb : PySem.W.findIn K (.ref C) f = some none)
    (a1 : PySem.W.findIn K (.ref C) "__init__" = some (some (.ref fI))) (t1 : PySem.W.typeIn K (.ref fI) = some (.type "function"))
    (l1 : K.lookup fI = some ⟨oc, od, .func (PySem.W.fnOf "__init__" qual (defArgs st) (defBody st) (defScope st) .none kV doc pm an cdv ct), osl⟩) (c1 : PySem.W.codeIn K cdv qual = true) (k1 : PySem.W.keepIn K (.ref fI) = true)
    (kC : PySem.W.keepIn K (.ref C) = true) (eC : PySem.W.subIn K (.ref C) (.type "BaseException") = some true) (tC : PySem.W.typeIn K (.ref C) = some (.type "type")) (hC : PySem.W.hasDictIn K C = true) (iC : PySem.W.isClsIn K C = true) (sC : PySem.W.subIn K (.ref C) (.ref C) = some true) :
    ExHeap K mg x qual f st C :=
  ⟨PySem.W.mg_of X G aC, ⟨⟨_, _, _, _, _, _, _, _, _, _, _, _, _, _, _, xC, bC⟩, sa, eC, tC, kC⟩, ⟨fI, _, a1, t1, fun_mk l1 c1 k1⟩, exm_self eC iC tC sC, ⟨ga, gg, eC, hC, nb⟩⟩
theorem exc1_of {L : Lay} {c : Nat} {x qual f se p : Str} {st : Stmt} {C : Addr} (hcl : L.cls[c]? = some (C, [f])) (S : ExStat x qual f st se p) (T : ExHeap L.K L.mg x qual f st C) : ∃ C' fI fd ps, Exc1 L c x C' f fI fd ps ∧ PySem.W.exmOne L.K (.ref C') (.ref C') = some true := by
  obtain ⟨fI, fd, i1, i2, F⟩ := T.ini
  obtain ⟨q1, q2, q3, q4, hb⟩ := S.hb
  exact ⟨C, fI, fd, [se, p], ⟨hcl, T.at_, T.T, i1, i2, T.xa.nf, fn_init F hb S.sc S.v0 S.v1 S.nd.1 S.nd.2.1 S.nd.2.2.1 S.nd.2.2.2, F.binds S.bd⟩, T.te⟩
def ExsAll (K : PySem.W.Frag) (mg : Str → Option Value) (cls : List (Addr × List Str)) : Nat → List (Str × Str) → Prop
  | _, [] => True
  | k, (x, f) :: r => ((∃ qual st se p C, cls[k]? = some (C, [f]) ∧ ExStat x qual f st se p ∧ ExHeap K mg x qual f st C)) ∧ ExsAll K mg cls (k + 1) r
theorem ExsAll.get {K : PySem.W.Frag} {mg : Str → Option Value} {cls : List (Addr × List Str)} {x f : Str} : ∀ {l : List (Str × Str)} {k i : Nat}, ExsAll K mg cls k l → l[i]? = some (x, f) → ∃ qual st se p C, cls[k + i]? = some (C, [f]) ∧ ExStat x qual f st se p ∧ ExHeap K mg x qual f st C
  | [], _, _, _, h => by cases h
  | (y, s) :: r, k, 0, h, q => by cases q; exact h.1
  | (y, s) :: r, k, i + 1, h, q => by
    have := ExsAll.get (k := k + 1) (i := i) h.2 q
    rw [show k + (i + 1) = k + 1 + i from by omega]
    exact this
def BltAll (mg : Str → Option Value) : List Str → Prop
  | [] => True
  | x :: r => mg x = none ∧ BltAll mg r
theorem BltAll.get {mg : Str → Option Value} {x : Str} : ∀ {l : List Str}, BltAll mg l → x ∈ l → mg x = none
  | [], _, h => by cases h
  | y :: r, h, q => by
    cases q with
    | head => exact h.1
    | tail _ q => exact BltAll.get h.2 q
theorem prg_mk {P : Program} {w : World} {K : PySem.W.Frag} {mg : Str → Option Value} {base : Heap} {fs : List Fn} {cls : List (Addr × List Str)} {lk : Lk} {g : Gi} {defs : List (Str × Stmt)} (hd : g.fns = defs.map (·.1)) (hl : cls.length = g.exs.length) (S : StatAll g fs 0 defs)
    (Hp : HeapAll K mg defs) (C : ConAll K mg g.con) (B : BltAll mg g.blt) (X : ExsAll K mg cls 0 g.exs) : Prg ⟨P, w, K, mg, base, fs, cls, lk⟩ g where
  con := fun x d h => C.get h
  blt := fun x h => B.get h
  fns := fun f x h => by
    rw [hd, List.getElem?_map] at h
    cases q : defs[f]? with
    | none => rw [q] at h; cases h
    | some p =>
      obtain ⟨y, st⟩ := p
      rw [q] at h
      cases h
      obtain ⟨fn, h1, h2⟩ := S.get q
      rw [Nat.zero_add] at h1 h2
      obtain ⟨a, fd, F, h3, h4⟩ := Hp.get q
      refine ⟨fn, a, fd, st, h1, h2.nm, F, h2.sc, h2.ms, h3, h4, F.binds h2.bd, fun ks perm hk s ws hin hl => ?_⟩
      obtain ⟨oc, od, kV, doc, pm, an, cdv, ct, osl, rfl, lk, hcd⟩ := F.ex
      exact .of_eq (h2.kb ks perm hk kV doc pm an cdv ct ws hl)
  exs := fun k x f h => by
    obtain ⟨qual, st, se, p, C, h1, h2, h3⟩ := X.get h
    rw [Nat.zero_add] at h1
    exact exc1_of (L := ⟨P, w, K, mg, base, fs, cls, lk⟩) h1 h2 h3
  exa := fun k C names h f hf => by
    have h : cls[k]? = some (C, names) := h
    have hk : k < g.exs.length := by
      have := (List.getElem?_eq_some_iff.mp h).1
      omega
    obtain ⟨qual, st, se, p, C', h1, h2, h3⟩ := X.get (List.getElem?_eq_getElem hk)
    rw [Nat.zero_add] at h1
    rw [h] at h1
    cases h1
    cases hf with
    | head => exact h3.xa
    | tail _ q => cases q
end Pv
namespace Pv
theorem kb_of {g : Gi} {f : Nat} {l : List (Nat × List PySem.Str × List Nat)} {P : List PySem.Str → List Nat → Prop} (h : g.kbs.filter (fun e => e.1 == f) = l) (H : ∀ e ∈ l, P e.2.1 e.2.2) : ∀ ks perm, (f, ks, perm) ∈ g.kbs → P ks perm :=
  fun ks perm hm => H (f, ks, perm) (by rw [← h]; exact List.mem_filter.mpr ⟨hm, by simp⟩)
end Pv
end

/-! text PvRun -/
section
/-! Pv, part 20: computing with the evaluator. -/
namespace Pv
open PySem L2
section
variable {c : CallF} {ρ : REnv} {μ : Sto} {e a b i : E} {es : List E} {s : S} {ss : List S} {n : Nat}
@[simp] theorem ev_con {x : PyData} : evE c ρ (.con x) μ = .ok (.d x) μ := rfl
@[simp] theorem ev_var {k : Nat} : evE c ρ (.var k) μ = match ρ[k]? with | some (some (.val v)) => .ok v μ | _ => .bad := rfl
@[simp] theorem ev_bin {o : Bop} : evE c ρ (.bin o a b) μ = (evE c ρ a μ).bind fun x μ1 => (evE c ρ b μ1).bind fun y μ2 => lift (two (binF o) x y) μ2 := id rfl
@[simp] theorem ev_cmp {o : Cop} : evE c ρ (.cmp o a b) μ = (evE c ρ a μ).bind fun x μ1 => (evE c ρ b μ1).bind fun y μ2 => lift ((twoB (cmpF o) x y).map fun k => .d (.bool k)) μ2 := rfl
@[simp] theorem ev_chain {o p : Cop} : evE c ρ (.chain o p a b e) μ = (evE c ρ a μ).bind fun x μ1 => (evE c ρ b μ1).bind fun y μ2 => match twoB (cmpF o) x y with
    | some true => (evE c ρ e μ2).bind fun z μ3 => lift ((twoB (cmpF p) y z).map fun k => .d (.bool k)) μ3
    | some false => .ok (.d (.bool false)) μ2
    | none => .bad := rfl
@[simp] theorem ev_and : evE c ρ (.and a b) μ = (evE c ρ a μ).bind fun x μ1 => match truR x with
    | some true => evE c ρ b μ1
    | some false => .ok x μ1
    | none => .bad := rfl
@[simp] theorem ev_or : evE c ρ (.or a b) μ = (evE c ρ a μ).bind fun x μ1 => match truR x with
    | some true => .ok x μ1
    | some false => evE c ρ b μ1
    | none => .bad := rfl
@[simp] theorem ev_not : evE c ρ (.not a) μ = (evE c ρ a μ).bind fun x μ1 => lift ((truR x).map fun k => .d (.bool (!k))) μ1 := rfl
@[simp] theorem ev_ite : evE c ρ (.ite e a b) μ = (evE c ρ e μ).bind fun x μ1 => match truR x with
    | some true => evE c ρ a μ1
    | some false => evE c ρ b μ1
    | none => .bad := rfl
@[simp] theorem ev_call {f : Nat} : evE c ρ (.call f es) μ = (evEs c ρ es μ).bind fun vs μ1 => c f vs μ1 := rfl
@[simp] theorem ev_bi {k : Bi} : evE c ρ (.bi k es) μ = (evEs c ρ es μ).bind fun vs μ1 => lift (biF k vs) μ1 := rfl
@[simp] theorem evs_nil : evEs c ρ [] μ = .ok [] μ := rfl
@[simp] theorem evs_cons : evEs c ρ (e :: es) μ = (evE c ρ e μ).bind fun v μ1 => (evEs c ρ es μ1).bind fun vs μ2 => .ok (v :: vs) μ2 := rfl
@[simp] theorem xs_nil : exSs c [] ρ μ = .ok (.next ρ) μ := rfl
@[simp] theorem xs_cons : exSs c (s :: ss) ρ μ = (exS c s ρ μ).bind fun f μ1 => match f with
    | .next ρ1 => exSs c ss ρ1 μ1
    | f => .ok f μ1 := rfl
@[simp] theorem x_ret : exS c (.ret e) ρ μ = (evE c ρ e μ).bind fun v μ1 => .ok (.ret v) μ1 := rfl
@[simp] theorem ev_neg : evE c ρ (.neg a) μ = (evE c ρ a μ).bind fun x μ1 => match x with
    | .d (.int i) => .ok (.d (.int (-i))) μ1
    | _ => .bad := rfl
@[simp] theorem ev_tup : evE c ρ (.tup es) μ = (evEs c ρ es μ).bind fun vs μ1 => match allBy pureR vs with
    | some ds => if ds.length ≤ sizeLine then .ok (.d (.tuple ds)) μ1 else .bad
    | none => .bad := rfl
@[simp] theorem ev_lst : evE c ρ (.lst es) μ = (evEs c ρ es μ).bind fun vs μ1 => pureL vs μ1 := rfl
@[simp] theorem ev_idx : evE c ρ (.idx a i) μ = (evE c ρ a μ).bind fun x μ1 => (evE c ρ i μ1).bind fun y μ2 => lift (idxS μ2 x y) μ2 := rfl
@[simp] theorem ev_sli {lo hi : Option E} : evE c ρ (.sli a lo hi) μ = (evE c ρ a μ).bind fun x μ1 => (evO c ρ lo μ1).bind fun l μ2 => (evO c ρ hi μ2).bind fun h μ3 => lift (sliR l h x) μ3 := rfl
@[simp] theorem evo_none : evO c ρ none μ = .ok none μ := rfl
@[simp] theorem evo_some : evO c ρ (some e) μ = (evE c ρ e μ).bind fun v μ1 => match v with
    | .d (.int i) => .ok (some i) μ1
    | _ => .bad := rfl
@[simp] theorem ev_callK {f : Nat} {ks : List Str} {perm : List Nat} : evE c ρ (.callK f ks es perm) μ = (evEs c ρ es μ).bind fun ws μ1 => match allBy (fun j => ws[j]?) perm with
    | some us => c f us μ1
    | none => .bad := rfl
@[simp] theorem ev_mt {k : Bi} : evE c ρ (.mt k a e) μ = (evE c ρ a μ).bind fun v μ1 => match v with
    | .d (.str x) => (evE c ρ e μ1).bind fun u μ2 => lift (biF k [.d (.str x), u]) μ2
    | _ => .bad := rfl
@[simp] theorem ev_fstr : evE c ρ (.fstr es) μ = evFs c ρ es Str.empty μ := rfl
@[simp] theorem evf_nil {acc : Str} : evFs c ρ [] acc μ = .ok (.d (.str acc)) μ := rfl
@[simp] theorem evf_cons {acc : Str} : evFs c ρ (e :: es) acc μ = (evE c ρ e μ).bind fun v μ1 => match fmtR v with
    | some y => if (acc ++ y).length ≤ sizeLine then evFs c ρ es (acc ++ y) μ1 else .bad
    | none => .bad := rfl
@[simp] theorem ev_disp {ks : List Key} : evE c ρ (.disp ks es) μ = (evEs c ρ es μ).bind fun vs μ1 =>
    if vs.length = ks.length then .ok (.loc μ1.length) (μ1 ++ [.dict (dictOf (ks.zip vs))]) else .bad := rfl
@[simp] theorem ev_dsel {ks : List Key} : evE c ρ (.dsel ks es i) μ = (evEs c ρ es μ).bind fun vs μ1 => (evE c ρ i μ1).bind fun y μ2 =>
    if vs.length = ks.length then match y with
      | .d z => match keyD z with
        | some k => lift (getK (dictOf (ks.zip vs)) k) μ2
        | none => .bad
      | _ => .bad
    else .bad := rfl
@[simp] theorem ev_dget : evE c ρ (.dget a i) μ = (evE c ρ a μ).bind fun x μ1 => (evE c ρ i μ1).bind fun y μ2 => match x, y with
    | .loc n, .d z => match μ2[n]?, keyD z with
      | some (.dict kvs), some k => lift (getK kvs k) μ2
      | _, _ => .bad
    | _, _ => .bad := rfl
@[simp] theorem ev_exa {k : Nat} {f : Str} : evE c ρ (.exa k f) μ = match ρ[k]? with
    | some (some (.exc _ fs)) => lift (fs.lookup f) μ
    | _ => .bad := rfl
@[simp] theorem ev_rep {y z : Str} : evE c ρ (.rep a y z) μ = (evE c ρ a μ).bind fun v μ1 => match v with
    | .d (.str x) => if x.length + (x.length + 1) * z.length ≤ 16777216 then .ok (.d (.str (Txt.replace x y z))) μ1 else .bad
    | _ => .bad := rfl
@[simp] theorem ev_lstT {y : Str} : evE c ρ (.lstT a y es) μ = (evE c ρ a μ).bind fun v μ1 => (lift (two addF v (.d (.str y))) μ1).bind fun w μ2 => (evEs c ρ es μ2).bind fun vs μ3 => pureL (w :: vs) μ3 := rfl
@[simp] theorem evt_none : evT c ρ none μ = .ok true μ := rfl
@[simp] theorem evt_some : evT c ρ (some e) μ = (evE c ρ e μ).bind fun v μ1 => lift (truR v) μ1 := rfl
@[simp] theorem evi_seq : evI c ρ (.seq e) μ = (evE c ρ e μ).bind fun v μ1 => match v with
    | .d x => lift ((seqItems x).map fun xs => xs.map fun y => .one (.d y)) μ1
    | _ => .bad := rfl
@[simp] theorem evi_rng1 : evI c ρ (.rng1 e) μ = (evE c ρ e μ).bind fun v μ1 => match v with
    | .d (.int j) => if inLim j then .ok (rngItems 0 j.toNat) μ1 else .bad
    | _ => .bad := rfl
@[simp] theorem evi_rng3 : evI c ρ (.rng3 a b e) μ = (evE c ρ a μ).bind fun v μ1 => (evE c ρ b μ1).bind fun w μ2 => (evE c ρ e μ2).bind fun u μ3 => match v, w, u with
    | .d (.int i), .d (.int j), .d (.int k) => if decide (k ≠ 0) && decide (k.natAbs < 1073741824) && Builtin.Range.small i j k && decide (0 ≤ Builtin.Range.rangeSize i j k) then .ok (rngItemsC i k (Builtin.Range.rangeSize i j k).toNat) μ3 else .bad
    | _, _, _ => .bad := rfl
@[simp] theorem evi_enm : evI c ρ (.enm e) μ = (evE c ρ e μ).bind fun v μ1 => match v with
    | .d x => lift ((seqItems x).map enmItems) μ1
    | _ => .bad := rfl
@[simp] theorem evi_zip2 : evI c ρ (.zip2 a b) μ = (evE c ρ a μ).bind fun v μ1 => (evE c ρ b μ1).bind fun w μ2 => match v, w with
    | .d x, .d y => match seqItems x, seqItems y with
      | some xs, some ys => .ok (zipItems xs ys) μ2
      | _, _ => .bad
    | _, _ => .bad := rfl
@[simp] theorem x_asg {t : T} : exS c (.asg t e) ρ μ = (evE c ρ e μ).bind fun v μ1 => (asgT c t v ρ μ1).bind fun ρ1 μ2 => .ok (.next ρ1) μ2 := rfl
@[simp] theorem x_own {k : Nat} {q : Src} : exS c (.own k q) ρ μ = (evSrc c ρ q μ).bind fun v μ1 => if k < ρ.length then .ok (.next (ρ.set k (some v))) μ1 else .bad := rfl
@[simp] theorem x_par {is : List Nat} {qs : List Src} : exS c (.par is qs) ρ μ = (evSrcs c ρ qs μ).bind fun vs μ1 => match setAll ρ is vs with
    | some ρ1 => .ok (.next ρ1) μ1
    | none => .bad := rfl
@[simp] theorem x_app {k : Nat} : exS c (.app k e) ρ μ = match ρ[k]? with
    | some (some (.own xs)) => (evE c ρ e μ).bind fun v μ1 => if xs.length < sizeLine then .ok (.next (ρ.set k (some (.own (xs ++ [v]))))) μ1 else .bad
    | _ => .bad := rfl
@[simp] theorem x_frz {k : Nat} : exS c (.frz k) ρ μ = match ρ[k]? with
    | some (some (.own xs)) => match allBy pureR xs with
      | some ds => .ok (.next (ρ.set k (some (.val (.d (.list ds)))))) μ
      | none => .bad
    | _ => .bad := rfl
@[simp] theorem x_retN : exS c .retN ρ μ = .ok (.ret (.d .none)) μ := rfl
@[simp] theorem x_ifs {f g : List S} : exS c (.ifs e f g) ρ μ = (evE c ρ e μ).bind fun v μ1 => match truR v with
    | some true => exSs c f ρ μ1
    | some false => exSs c g ρ μ1
    | none => .bad := rfl
theorem x_fors {t : T} {it : It} : exS c (.fors t it ss) ρ μ = (evI c ρ it μ).bind fun items μ1 => forL t (fun ρ μ => exSs c ss ρ μ) items ρ μ1 := rfl
@[simp] theorem x_expr : exS c (.expr e) ρ μ = (evE c ρ e μ).bind fun _ μ1 => .ok (.next ρ) μ1 := rfl
@[simp] theorem x_raise {k : Nat} {fs : List Str} : exS c (.raise k fs es) ρ μ = (evEs c ρ es μ).bind fun vs μ1 => if vs.length = fs.length then .ex k (fs.zip vs) μ1 else .bad := rfl
@[simp] theorem x_try1 {k : TK} {cl j : Nat} : exS c (.try1 k e cl j a) ρ μ = if noExc ρ then tryE (evE c ρ e μ) k cl j (fun ρ μ => evE c ρ a μ) ρ else .bad := rfl
@[simp] theorem at_nm {k : Nat} {v : RV} : asgT c (.nm k) v ρ μ = if k < ρ.length then .ok (ρ.set k (some (.val v))) μ else .bad := rfl
@[simp] theorem at_tup {ts : List T} {v : RV} : asgT c (.tup ts) v ρ μ = match v with
    | .d (.tuple ds) => asgTs c ts (ds.map .d) ρ μ
    | _ => .bad := rfl
@[simp] theorem at_sub {v : RV} : asgT c (.sub a i) v ρ μ = (evE c ρ a μ).bind fun x μ1 => (evE c ρ i μ1).bind fun y μ2 => match subR x y v μ2 with
    | some μ3 => .ok ρ μ3
    | none => .bad := rfl
@[simp] theorem ats_nil : asgTs c [] [] ρ μ = .ok ρ μ := rfl
@[simp] theorem ats_cons {t : T} {ts : List T} {v : RV} {vs : List RV} : asgTs c (t :: ts) (v :: vs) ρ μ = (asgT c t v ρ μ).bind fun ρ1 μ1 => asgTs c ts vs ρ1 μ1 := rfl
@[simp] theorem src_val : evSrc c ρ (.val e) μ = (evE c ρ e μ).bind fun v μ1 => .ok (.val v) μ1 := rfl
@[simp] theorem src_lst : evSrc c ρ (.lst es) μ = (evEs c ρ es μ).bind fun vs μ1 => if vs.length ≤ sizeLine then .ok (.own vs) μ1 else .bad := rfl
@[simp] theorem src_cat : evSrc c ρ (.cat a b) μ = (evE c ρ a μ).bind fun x μ1 => (evE c ρ b μ1).bind fun y μ2 => match x, y with
    | .d (.list xs), .d (.list ys) => if xs.length + ys.length ≤ sizeLine then .ok (.own ((xs ++ ys).map .d)) μ2 else .bad
    | _, _ => .bad := rfl
@[simp] theorem srcs_nil : evSrcs c ρ [] μ = .ok [] μ := rfl
@[simp] theorem srcs_cons {q : Src} {qs : List Src} : evSrcs c ρ (q :: qs) μ = (evSrc c ρ q μ).bind fun v μ1 => (evSrcs c ρ qs μ1).bind fun vs μ2 => .ok (v :: vs) μ2 := rfl
/-! ### comprehensions, loops -/
theorem compL_does {ι : Type} (f : ι → Item) (g : ι → PyData) (p : ι → Bool) (turn : Item → Sto → R (List RV)) : ∀ xs : List ι, (∀ x ∈ xs, turn (f x) μ = .ok (if p x then [.d (g x)] else []) μ) → compL turn (xs.map f) μ = .ok (((xs.filter p).map g).map .d) μ
  | [], _ => rfl
  | x :: xs, h => by
    show (turn (f x) μ).bind _ = _
    rw [h x List.mem_cons_self, R.bind_ok]
    show (compL turn (xs.map f) μ).bind _ = _
    rw [compL_does f g p turn xs fun y hy => h y (List.mem_cons_of_mem _ hy), R.bind_ok]
    cases q : p x <;> simp [q]
theorem allBy_pure : ∀ ds : List PyData, allBy pureR (ds.map RV.d) = some ds
  | [] => rfl
  | d :: ds => by
    simp only [List.map_cons, allBy, pureR, allBy_pure ds]
theorem pureL_ok {ds : List PyData} (h : ds.length ≤ sizeLine) : pureL (ds.map .d) μ = .ok (.d (.list ds)) μ := by
  unfold pureL
  rw [allBy_pure]
  exact if_pos h
theorem ev_comp {ι : Type} (xs : List ι) (f : ι → Item) (g : ι → PyData) {own : List Nat} {t : T} {it : It} (hi : evI c ρ it μ = .ok (xs.map f) μ) (hl : xs.length ≤ sizeLine)
    (ht : ∀ x ∈ xs, ∃ ρ1, asgI t (f x) (noOwn (wipeR ρ own)) = some ρ1 ∧ evE c ρ1 e μ = .ok (.d (g x)) μ) : evE c ρ (.comp e t it none own) μ = .ok (.d (.list (xs.map g))) μ := by
  show (evI c ρ it μ).bind _ = _
  rw [hi, R.bind_ok]
  rw [compL_does f g (fun _ => true) _ xs fun x hx => by
    obtain ⟨ρ1, h1, h2⟩ := ht x hx
    simp only [h1, evt_none, R.bind_ok, h2, if_true]]
  rw [List.filter_eq_self.mpr fun _ _ => rfl]
  show (R.ok _ μ).bind pureL = _
  rw [R.bind_ok, pureL_ok (by simpa using hl)]
theorem ev_compF {ι : Type} (xs : List ι) (f : ι → Item) (g : ι → PyData) (p : ι → Bool) {own : List Nat} {t : T} {it : It} {q : E} (hi : evI c ρ it μ = .ok (xs.map f) μ) (hl : xs.length ≤ sizeLine)
    (ht : ∀ x ∈ xs, ∃ ρ1, asgI t (f x) (noOwn (wipeR ρ own)) = some ρ1 ∧ evE c ρ1 q μ = .ok (.d (.bool (p x))) μ ∧ (p x = true → evE c ρ1 e μ = .ok (.d (g x)) μ)) :
    evE c ρ (.comp e t it (some q) own) μ = .ok (.d (.list ((xs.filter p).map g))) μ := by
  show (evI c ρ it μ).bind _ = _
  rw [hi, R.bind_ok]
  rw [compL_does f g p _ xs fun x hx => by
    obtain ⟨ρ1, h1, h2, h3⟩ := ht x hx
    simp only [h1, evt_some, h2, R.bind_ok, truR, truD, lift_some]
    cases w : p x with
    | true => simp [h3 w]
    | false => simp]
  show (R.ok _ μ).bind pureL = _
  rw [R.bind_ok, pureL_ok (by
    rw [List.length_map]
    exact Nat.le_trans (List.length_filter_le _ _) hl)]
/-- it answers, and of the answer holds Q -/
def Does {α : Type} (r : R α) (Q : α → Sto → Prop) : Prop := match r with
  | .ok a μ => Q a μ
  | _ => False
@[simp] theorem does_ok {α : Type} {x : α} {Q : α → Sto → Prop} : Does (.ok x μ) Q = Q x μ := rfl
@[simp] theorem does_bind {α β : Type} {r : R α} {f : α → Sto → R β} {Q : β → Sto → Prop} : Does (r.bind f) Q = Does r fun x μ1 => Does (f x μ1) Q := by cases r <;> rfl
theorem Does.mono {α : Type} {r : R α} {Q Q' : α → Sto → Prop} (h : Does r Q) (k : ∀ x μ, Q x μ → Q' x μ) : Does r Q' := by
  cases r with
  | ok x μ1 => exact k x μ1 h
  | ex => exact h.elim
  | bad => exact h.elim
theorem does_eq {α : Type} {r : R α} {v : α} : Does r (fun x μ1 => x = v ∧ μ1 = μ) ↔ r = .ok v μ := by
  cases r with
  | ok x μ1 => constructor <;> intro h <;> simp_all [Does]
  | ex => constructor <;> intro h <;> first | exact h.elim | cases h
  | bad => constructor <;> intro h <;> first | exact h.elim | cases h
theorem forL_does {ι : Type} (f : ι → Item) {t : T} {body : REnv → Sto → R F} (P : List ι → REnv → Sto → Prop) {Q : F → Sto → Prop}
    (step : ∀ x r ρ μ, P (x :: r) ρ μ → ∃ ρ1, asgI t (f x) ρ = some ρ1 ∧ Does (body ρ1 μ) fun fl μ1 => match fl with
      | .next ρ2 => P r ρ2 μ1
      | .cont ρ2 => P r ρ2 μ1
      | .brk ρ2 => Q (.next ρ2) μ1
      | .ret v => Q (.ret v) μ1)
    (done : ∀ ρ μ, P [] ρ μ → Q (.next ρ) μ) : ∀ (xs : List ι) (ρ : REnv) (μ : Sto), P xs ρ μ → Does (forL t body (xs.map f) ρ μ) Q
  | [], ρ, μ, h => done ρ μ h
  | x :: xs, ρ, μ, h => by
    obtain ⟨ρ1, h1, h2⟩ := step x xs ρ μ h
    show Does (match asgI t (f x) ρ with | some ρ1 => _ | none => _) Q
    rw [h1]
    show Does ((body ρ1 μ).bind _) Q
    rw [does_bind]
    refine h2.mono fun fl μ1 k => ?_
    cases fl with
    | next ρ2 => exact forL_does f P step done xs ρ2 μ1 k
    | cont ρ2 => exact forL_does f P step done xs ρ2 μ1 k
    | brk ρ2 => exact k
    | ret v => exact k
/-- while, by a measure that falls -/
theorem whileL_does {test : REnv → Sto → R Bool} {body : REnv → Sto → R F} (P : Nat → REnv → Sto → Prop) {Q : F → Sto → Prop}
    (step : ∀ k ρ μ, P k ρ μ → Does (test ρ μ) fun b μ1 => if b = true then Does (body ρ μ1) fun fl μ2 => match fl with
      | .next ρ2 => ∃ j, j < k ∧ P j ρ2 μ2
      | .cont ρ2 => ∃ j, j < k ∧ P j ρ2 μ2
      | .brk ρ2 => Q (.next ρ2) μ2
      | .ret v => Q (.ret v) μ2 else Q (.next ρ) μ1) : ∀ (fuel k : Nat) (ρ : REnv) (μ : Sto), k < fuel → P k ρ μ → Does (whileL test body fuel ρ μ) Q
  | 0, k, _, _, h, _ => absurd h (Nat.not_lt_zero _)
  | fuel + 1, k, ρ, μ, hk, h => by
    show Does ((test ρ μ).bind _) Q
    rw [does_bind]
    refine (step k ρ μ h).mono fun b μ1 q => ?_
    cases b with
    | false => exact q
    | true =>
      show Does ((body ρ μ1).bind _) Q
      rw [does_bind]
      have q : Does (body ρ μ1) _ := q
      refine q.mono fun fl μ2 z => ?_
      cases fl with
      | next ρ2 => obtain ⟨j, h1, h2⟩ := z; exact whileL_does P step fuel j ρ2 μ2 (by omega) h2
      | cont ρ2 => obtain ⟨j, h1, h2⟩ := z; exact whileL_does P step fuel j ρ2 μ2 (by omega) h2
      | brk ρ2 => exact z
      | ret v => exact z
theorem callF_step {fs : List Fn} {f : Nat} {fn : Fn} {vs : List RV} (h : fs[f]? = some fn) (hl : vs.length = fn.ps.length) : callF fs (n + 1) f vs μ = (match exSs (callF fs n) fn.body (startR fn.N.length vs) μ with
    | .ok (.ret v) μ1 => .ok v μ1
    | .ok (.next _) μ1 => .ok (.d .none) μ1
    | .ok _ _ => .bad
    | .ex k fs μ1 => .ex k fs μ1
    | .bad => .bad) := by
  show (match fs[f]? with | some fn => runFn (callF fs n) fn vs μ | none => .bad) = _
  rw [h]
  show runFn (callF fs n) fn vs μ = _
  unfold runFn
  rw [if_pos hl]
  cases exSs (callF fs n) fn.body (startR fn.N.length vs) μ with
  | ok f μ1 => cases f <;> rfl
  | ex => rfl
  | bad => rfl
end
section
variable {μ : Sto} {x y : PyData} {ds : List PyData} {s a : Str}
@[simp] theorem two_d {f : PyData → PyData → Option PyData} : two f (.d x) (.d y) = (f x y).map .d := id rfl
@[simp] theorem twoB_d {f : PyData → PyData → Option Bool} : twoB f (.d x) (.d y) = f x y := rfl
@[simp] theorem idxS_d : idxS μ (.d x) (.d y) = (idxF x y).map .d := by unfold idxS; rfl
@[simp] theorem truR_b {k : Bool} : truR (.d (.bool k)) = some k := rfl
@[simp] theorem bi_isin {t : Ty} : biF (.isin t) [.d x] = (isTy t x).map fun b => .d (.bool b) := by show ((isTy t x).map PyData.bool).map RV.d = _; rw [Option.map_map]; rfl
@[simp] theorem bi_lenT : biF .len [.d (.tuple ds)] = some (.d (.int ds.length)) := rfl
@[simp] theorem bi_lenL : biF .len [.d (.list ds)] = some (.d (.int ds.length)) := rfl
theorem bi_lenS (h : s.length ≤ sizeLine) : biF .len [.d (.str s)] = some (.d (.int s.length)) := by
  show ((lenD (.str s)).map PyData.int).map RV.d = _
  rw [show lenD (.str s) = some (s.length : Int) from if_pos h]
  rfl
@[simp] theorem bi_tup : biF .tuple [.d (.list ds)] = some (.d (.tuple ds)) := rfl
@[simp] theorem bi_list : biF .list [.d (.tuple ds)] = some (.d (.list ds)) := rfl
theorem allBy_bool : ∀ bs : List Bool, allBy asBool (bs.map PyData.bool) = some bs
  | [] => rfl
  | b :: bs => by simp only [List.map_cons, allBy, asBool, allBy_bool bs]
theorem bi_all {bs : List Bool} : biF .all [.d (.list (bs.map .bool))] = some (.d (.bool (bs.all id))) := by
  show ((allBy asBool (bs.map PyData.bool)).map fun bs => PyData.bool (bs.all id)).map RV.d = _
  rw [allBy_bool]; rfl
theorem bi_allF {ι : Type} {xs : List ι} {p : ι → Bool} : biF .all [.d (.list (xs.map fun x => .bool (p x)))] = some (.d (.bool (xs.all p))) := by
  have h := bi_all (bs := xs.map p)
  rw [List.map_map, List.all_map] at h
  exact h
theorem cut_from {α : Type} (xs : List α) (k : Nat) : cutD xs (some (k : Int)) none = xs.drop k := by
  unfold cutD
  rw [HT.sIx_nat, HT.sIx_none]
  rcases Nat.le_total k xs.length with h | h
  · rw [Nat.min_eq_left h, List.take_of_length_le (by simp)]
  · rw [Nat.min_eq_right h, List.drop_eq_nil_of_le h]; simp
theorem cut_to {α : Type} (xs : List α) (k : Nat) : cutD xs none (some (k : Int)) = xs.take k := by
  unfold cutD
  rw [HT.sIx_nat, HT.sIx_none, Nat.sub_zero, List.drop_zero]
  rcases Nat.le_total k xs.length with h | h
  · rw [Nat.min_eq_left h]
  · rw [Nat.min_eq_right h, List.take_of_length_le h, List.take_of_length_le (Nat.le_refl _)]
theorem cut_two {α : Type} (xs : List α) (i j : Nat) : cutD xs (some (i : Int)) (some (j : Int)) = (xs.drop i).take (j - i) := by
  unfold cutD
  rw [HT.sIx_nat, HT.sIx_nat]
  rcases Nat.le_total i xs.length with h | h
  · rw [Nat.min_eq_left h]
    rcases Nat.le_total j xs.length with h2 | h2
    · rw [Nat.min_eq_left h2]
    · rw [Nat.min_eq_right h2, List.take_of_length_le (by simp), List.take_of_length_le (by simp; omega)]
  · rw [Nat.min_eq_right h, List.drop_eq_nil_of_le h, List.drop_eq_nil_of_le (Nat.le_refl _)]; simp
end
end Pv
end

/-! text PvRun2 -/
section
/-! Pv, part 21: computing with the evaluator: loops as they stand, items, texts. -/
namespace Pv
open PySem L2
@[simp] theorem x_asgL {c : CallF} {ρ : REnv} {μ : Sto} {e : E} {ts : List T} : exS c (.asgL ts e) ρ μ = (evE c ρ e μ).bind fun v μ1 => (lift (asgLn ts v ρ) μ1).bind fun ρ1 μ2 => .ok (.next ρ1) μ2 := id rfl
def wh (c : CallF) (t : E) (b : List S) (fuel : Nat) (ρ : REnv) (μ : Sto) : R F :=
  whileL (fun ρ μ => (evE c ρ t μ).bind fun v μ1 => lift (truR v) μ1) (fun ρ μ => exSs c b ρ μ) fuel ρ μ
def fo (c : CallF) (t : T) (b : List S) (xs : List Item) (ρ : REnv) (μ : Sto) : R F := forL t (fun ρ μ => exSs c b ρ μ) xs ρ μ
section
variable {c : CallF} {ρ : REnv} {μ : Sto} {e : E} {b : List S} {t : T} {fuel : Nat}
theorem x_wh : exS c (.whiles e b) ρ μ = wh c e b whileMost ρ μ := rfl
theorem x_fo {it : It} : exS c (.fors t it b) ρ μ = (evI c ρ it μ).bind fun xs μ1 => fo c t b xs ρ μ1 := rfl
theorem wh_yes {μ1 : Sto} (h : evE c ρ e μ = .ok (.d (.bool true)) μ1) : wh c e b (fuel + 1) ρ μ = (exSs c b ρ μ1).bind fun f μ2 => match f with
    | .next ρ2 => wh c e b fuel ρ2 μ2
    | .cont ρ2 => wh c e b fuel ρ2 μ2
    | .brk ρ2 => .ok (.next ρ2) μ2
    | .ret v => .ok (.ret v) μ2 := by
  show ((evE c ρ e μ).bind _).bind _ = _
  rw [h]; rfl
theorem wh_no {μ1 : Sto} (h : evE c ρ e μ = .ok (.d (.bool false)) μ1) : wh c e b (fuel + 1) ρ μ = .ok (.next ρ) μ1 := by
  show ((evE c ρ e μ).bind _).bind _ = _
  rw [h]; rfl
theorem fo_nil : fo c t b [] ρ μ = .ok (.next ρ) μ := rfl
theorem fo_cons {x : Item} {xs : List Item} : fo c t b (x :: xs) ρ μ = match asgI t x ρ with
    | some ρ1 => (exSs c b ρ1 μ).bind fun f μ1 => match f with
      | .next ρ2 => fo c t b xs ρ2 μ1
      | .cont ρ2 => fo c t b xs ρ2 μ1
      | .brk ρ2 => .ok (.next ρ2) μ1
      | .ret v => .ok (.ret v) μ1
    | none => .bad := rfl
@[simp] theorem asgI_one {v : RV} {k : Nat} : asgI (.nm k) (.one v) ρ = if k < ρ.length then some (ρ.set k (some (.val v))) else none := rfl
@[simp] theorem asgI_two {x y : RV} {ts : List T} : asgI (.tup ts) (.two x y) ρ = asgNs ts [x, y] ρ := rfl
@[simp] theorem asgI_tup {ds : List PyData} {ts : List T} : asgI (.tup ts) (.one (.d (.tuple ds))) ρ = asgNs ts (ds.map .d) ρ := rfl
@[simp] theorem asgNs_nil : asgNs [] [] ρ = some ρ := rfl
@[simp] theorem asgNs_cons {ts : List T} {v : RV} {vs : List RV} : asgNs (t :: ts) (v :: vs) ρ = match asgN t v ρ with
    | some ρ' => asgNs ts vs ρ'
    | none => none := rfl
@[simp] theorem asgN_nm {k : Nat} {v : RV} : asgN (.nm k) v ρ = if k < ρ.length then some (ρ.set k (some (.val v))) else none := rfl
@[simp] theorem asgN_tup {ds : List PyData} {ts : List T} : asgN (.tup ts) (.d (.tuple ds)) ρ = asgNs ts (ds.map .d) ρ := rfl
end
section
variable {α : Type} {xs : List α}
theorem atI_n (k : Nat) : atI xs (k : Int) = xs[k]? := by
  unfold atI
  by_cases h : k < xs.length
  · have e : ixN xs.length (k : Int) = some k := by unfold ixN; rw [if_pos (by omega), if_pos (by omega)]; simp
    rw [e]; rfl
  · have : ixN xs.length (k : Int) = none := by unfold ixN; rw [if_pos (by omega), if_neg (by omega)]
    rw [this]
    exact (List.getElem?_eq_none (by omega)).symm
@[simp] theorem atI_0 : atI xs 0 = xs[0]? := atI_n 0
@[simp] theorem atI_1 : atI xs 1 = xs[1]? := atI_n 1
@[simp] theorem atI_2 : atI xs 2 = xs[2]? := atI_n 2
@[simp] theorem atI_3 : atI xs 3 = xs[3]? := atI_n 3
@[simp] theorem atI_4 : atI xs 4 = xs[4]? := atI_n 4
@[simp] theorem atI_5 : atI xs 5 = xs[5]? := atI_n 5
@[simp] theorem atI_6 : atI xs 6 = xs[6]? := atI_n 6
@[simp] theorem atI_7 : atI xs 7 = xs[7]? := atI_n 7
@[simp] theorem atI_8 : atI xs 8 = xs[8]? := atI_n 8
@[simp] theorem atI_9 : atI xs 9 = xs[9]? := atI_n 9
@[simp] theorem atI_10 : atI xs 10 = xs[10]? := atI_n 10
@[simp] theorem atI_11 : atI xs 11 = xs[11]? := atI_n 11
@[simp] theorem atI_12 : atI xs 12 = xs[12]? := atI_n 12
@[simp] theorem atI_13 : atI xs 13 = xs[13]? := atI_n 13
@[simp] theorem atI_14 : atI xs 14 = xs[14]? := atI_n 14
@[simp] theorem atI_15 : atI xs 15 = xs[15]? := atI_n 15
@[simp] theorem atI_16 : atI xs 16 = xs[16]? := atI_n 16
@[simp] theorem atI_17 : atI xs 17 = xs[17]? := atI_n 17
@[simp] theorem atI_18 : atI xs 18 = xs[18]? := atI_n 18
@[simp] theorem atI_19 : atI xs 19 = xs[19]? := atI_n 19
@[simp] theorem atI_20 : atI xs 20 = xs[20]? := atI_n 20
end
section
variable {x y : Str} {i j : Int} {xs ys : List PyData}
variable {b : Bool}
@[simp] theorem isTy_int_none : isTy .int .none = some false := rfl
@[simp] theorem isTy_int_bool : isTy .int (.bool b) = some true := rfl
@[simp] theorem isTy_int_int : isTy .int (.int i) = some true := rfl
@[simp] theorem isTy_int_str : isTy .int (.str x) = some false := rfl
@[simp] theorem isTy_int_list : isTy .int (.list xs) = some false := rfl
@[simp] theorem isTy_int_tuple : isTy .int (.tuple xs) = some false := rfl
@[simp] theorem isTy_bool_none : isTy .bool .none = some false := rfl
@[simp] theorem isTy_bool_bool : isTy .bool (.bool b) = some true := rfl
@[simp] theorem isTy_bool_int : isTy .bool (.int i) = some false := rfl
@[simp] theorem isTy_bool_str : isTy .bool (.str x) = some false := rfl
@[simp] theorem isTy_bool_list : isTy .bool (.list xs) = some false := rfl
@[simp] theorem isTy_bool_tuple : isTy .bool (.tuple xs) = some false := rfl
@[simp] theorem isTy_str_none : isTy .str .none = some false := rfl
@[simp] theorem isTy_str_bool : isTy .str (.bool b) = some false := rfl
@[simp] theorem isTy_str_int : isTy .str (.int i) = some false := rfl
@[simp] theorem isTy_str_str : isTy .str (.str x) = some true := rfl
@[simp] theorem isTy_str_list : isTy .str (.list xs) = some false := rfl
@[simp] theorem isTy_str_tuple : isTy .str (.tuple xs) = some false := rfl
@[simp] theorem isTy_tuple_none : isTy .tuple .none = some false := rfl
@[simp] theorem isTy_tuple_bool : isTy .tuple (.bool b) = some false := rfl
@[simp] theorem isTy_tuple_int : isTy .tuple (.int i) = some false := rfl
@[simp] theorem isTy_tuple_str : isTy .tuple (.str x) = some false := rfl
@[simp] theorem isTy_tuple_list : isTy .tuple (.list xs) = some false := rfl
@[simp] theorem isTy_tuple_tuple : isTy .tuple (.tuple xs) = some true := rfl
@[simp] theorem isTy_list_none : isTy .list .none = some false := rfl
@[simp] theorem isTy_list_bool : isTy .list (.bool b) = some false := rfl
@[simp] theorem isTy_list_int : isTy .list (.int i) = some false := rfl
@[simp] theorem isTy_list_str : isTy .list (.str x) = some false := rfl
@[simp] theorem isTy_list_list : isTy .list (.list xs) = some true := rfl
@[simp] theorem isTy_list_tuple : isTy .list (.tuple xs) = some false := rfl
@[simp] theorem eq_int_none : cmpF .eq (.int i) .none = some false := rfl
@[simp] theorem ne_int_none : cmpF .ne (.int i) .none = some true := rfl
@[simp] theorem eq_bool_none : cmpF .eq (.bool b) .none = some false := rfl
@[simp] theorem ne_bool_none : cmpF .ne (.bool b) .none = some true := rfl
@[simp] theorem eq_str_none : cmpF .eq (.str x) .none = some false := rfl
@[simp] theorem ne_str_none : cmpF .ne (.str x) .none = some true := rfl
@[simp] theorem is_none : cmpF .is .none .none = some true := rfl
@[simp] theorem isnot_none : cmpF .isnot .none .none = some false := rfl
@[simp] theorem is_int : cmpF .is (.int i) .none = some false := rfl
@[simp] theorem isnot_int : cmpF .isnot (.int i) .none = some true := rfl
@[simp] theorem is_bool : cmpF .is (.bool b) .none = some false := rfl
@[simp] theorem isnot_bool : cmpF .isnot (.bool b) .none = some true := rfl
@[simp] theorem is_str : cmpF .is (.str x) .none = some false := rfl
@[simp] theorem isnot_str : cmpF .isnot (.str x) .none = some true := rfl
@[simp] theorem is_list : cmpF .is (.list xs) .none = some false := rfl
@[simp] theorem isnot_list : cmpF .isnot (.list xs) .none = some true := rfl
@[simp] theorem is_tuple : cmpF .is (.tuple xs) .none = some false := rfl
@[simp] theorem isnot_tuple : cmpF .isnot (.tuple xs) .none = some true := rfl
@[simp] theorem truR_none : truR (.d .none) = some false := rfl
@[simp] theorem truR_int : truR (.d (.int i)) = some (i != 0) := rfl
@[simp] theorem truR_list : truR (.d (.list xs)) = some (!xs.isEmpty) := rfl
@[simp] theorem truR_tup : truR (.d (.tuple xs)) = some (!xs.isEmpty) := rfl
@[simp] theorem idx_tup : idxF (.tuple xs) (.int i) = atI xs i := rfl
@[simp] theorem idx_lst : idxF (.list xs) (.int i) = atI xs i := rfl
@[simp] theorem eq_str : cmpF .eq (.str x) (.str y) = some (x == y) := rfl
@[simp] theorem ne_str : cmpF .ne (.str x) (.str y) = some (!(x == y)) := rfl
@[simp] theorem eq_int : cmpF .eq (.int i) (.int j) = some (i == j) := rfl
@[simp] theorem ne_int : cmpF .ne (.int i) (.int j) = some (!(i == j)) := rfl
@[simp] theorem lt_int : cmpF .lt (.int i) (.int j) = some (decide (i < j)) := rfl
@[simp] theorem le_int : cmpF .le (.int i) (.int j) = some (decide (i ≤ j)) := rfl
@[simp] theorem gt_int : cmpF .gt (.int i) (.int j) = some (decide (j < i)) := rfl
@[simp] theorem ge_int : cmpF .ge (.int i) (.int j) = some (decide (j ≤ i)) := rfl
@[simp] theorem add_int : binF .add (.int i) (.int j) = some (.int (i + j)) := rfl
@[simp] theorem sub_int : binF .sub (.int i) (.int j) = some (.int (i - j)) := rfl
@[simp] theorem sizeLine_is : sizeLine = 16777216 := by decide
theorem add_str (h : x.length + y.length ≤ sizeLine) : binF .add (.str x) (.str y) = some (.str (x ++ y)) := if_pos h
theorem add_list (h : xs.length + ys.length ≤ sizeLine) : binF .add (.list xs) (.list ys) = some (.list (xs ++ ys)) := if_pos h
theorem add_tup (h : xs.length + ys.length ≤ sizeLine) : binF .add (.tuple xs) (.tuple ys) = some (.tuple (xs ++ ys)) := if_pos h
theorem mul_is : binF .mul = mulF := rfl
theorem mul_one {d : PyData} {k : Nat} (h : k ≤ 1000) : binF .mul (.list [d]) (.int (k : Int)) = some (.list (List.replicate k d)) := by
  rw [mul_is]
  simp only [mulF]
  rw [if_pos ⟨by omega, by simp; omega⟩]
  simp
theorem fmt_str (h : x.length ≤ sizeLine) : fmtR (.d (.str x)) = some x := if_pos h
theorem fmt_nat {k : Nat} (h : k.log2 < 1920) : fmtR (.d (.int (k : Int))) = some (SX.S (TL.numL k)) := by
  show (if (k : Int).natAbs.log2 < 1920 then some (Str.ofString (toString (k : Int))) else none) = _
  rw [SX.num_S, if_pos (by simpa using h)]
theorem str_nat {k : Nat} (h : k.log2 < 1920) : strOf (.int (k : Int)) = some (SX.S (TL.numL k)) := by
  show (if (k : Int).natAbs.log2 < 1920 then some (Str.ofString (toString (k : Int))) else none) = _
  rw [SX.num_S, if_pos (by simpa using h)]
theorem mem_tup {d : PyData} : cmpF .mem d (.tuple xs) = memL d xs := by cases d <;> rfl
theorem mem_lst {d : PyData} : cmpF .mem d (.list xs) = memL d xs := by cases d <;> rfl
theorem notin_tup {d : PyData} : cmpF .notin d (.tuple xs) = (memL d xs).map (! ·) := by cases d <;> rfl
@[simp] theorem flat_none : flatD .none = true := rfl
@[simp] theorem flat_bool : flatD (.bool b) = true := rfl
@[simp] theorem flat_int : flatD (.int i) = true := rfl
@[simp] theorem flat_str : flatD (.str x) = true := rfl
@[simp] theorem eqv_int : PyData.eqv (.int i) (.int j) = (i == j) := by simp [PyData.eqv]
@[simp] theorem eqv_str : PyData.eqv (.str x) (.str y) = (x == y) := by simp [PyData.eqv]
@[simp] theorem allBy_nil {β γ : Type} {f : β → Option γ} : allBy f [] = some [] := rfl
@[simp] theorem allBy_d {x : PyData} {vs : List RV} : allBy pureR (.d x :: vs) = (allBy pureR vs).map (x :: ·) := by
  simp only [allBy, pureR]
  cases allBy pureR vs <;> rfl
@[simp] theorem pureL_nil {μ : Sto} : pureL [] μ = .ok (.d (.list [])) μ := pureL_ok (ds := []) (Nat.zero_le _)
@[simp] theorem pureL_one {μ : Sto} {x : PyData} : pureL [.d x] μ = .ok (.d (.list [x])) μ := pureL_ok (ds := [x]) (by rw [sizeLine_is]; simp)
theorem eq_shaped {a b : PyData} (h1 : scalD a b = false) (h2 : SeqAt.shaped a = true) (h3 : SeqAt.shaped b = true) : cmpF .eq a b = some (PyData.eqv a b) := by
  show eqF a b = _
  unfold eqF
  rw [h1, h2, h3]; rfl
end
section
variable {c : CallF} {ρ : REnv} {μ : Sto} {e : E}
theorem xs_next {s : S} {ss : List S} {ρ1 : REnv} {μ1 : Sto} (h : exS c s ρ μ = .ok (.next ρ1) μ1) : exSs c (s :: ss) ρ μ = exSs c ss ρ1 μ1 := by
  rw [xs_cons, h, R.bind_ok]
theorem xs_done {s : S} {ss : List S} {v : RV} {μ1 : Sto} (h : exS c s ρ μ = .ok (.ret v) μ1) : exSs c (s :: ss) ρ μ = .ok (.ret v) μ1 := by
  rw [xs_cons, h, R.bind_ok]
theorem call_ret {fs : List Fn} {n f : Nat} {fn : Fn} {vs : List RV} {v : RV} {μ1 : Sto} (h : fs[f]? = some fn) (hl : vs.length = fn.ps.length) (hb : exSs (callF fs n) fn.body (startR fn.N.length vs) μ = .ok (.ret v) μ1) : callF fs (n + 1) f vs μ = .ok v μ1 := by
  rw [callF_step h hl, hb]
theorem asg_nm {k : Nat} {v : RV} {μ1 : Sto} (h : evE c ρ e μ = .ok v μ1) (hk : k < ρ.length) : exS c (.asg (.nm k) e) ρ μ = .ok (.next (ρ.set k (some (.val v)))) μ1 := by
  rw [x_asg, h, R.bind_ok, at_nm, if_pos hk, R.bind_ok]
theorem if_yes {f g : List S} {μ1 : Sto} (h : evE c ρ e μ = .ok (.d (.bool true)) μ1) : exS c (.ifs e f g) ρ μ = exSs c f ρ μ1 := by
  rw [x_ifs, h, R.bind_ok, truR_b]
theorem if_no {f g : List S} {μ1 : Sto} (h : evE c ρ e μ = .ok (.d (.bool false)) μ1) : exS c (.ifs e f g) ρ μ = exSs c g ρ μ1 := by
  rw [x_ifs, h, R.bind_ok, truR_b]
theorem ret_is {v : RV} {μ1 : Sto} (h : evE c ρ e μ = .ok v μ1) : exS c (.ret e) ρ μ = .ok (.ret v) μ1 := by
  rw [x_ret, h, R.bind_ok]
theorem compL_flat {ι : Type} (f : ι → Item) (w : ι → List PyData) (turn : Item → Sto → R (List RV)) : ∀ xs : List ι, (∀ x ∈ xs, turn (f x) μ = .ok ((w x).map .d) μ) → compL turn (xs.map f) μ = .ok ((xs.flatMap w).map .d) μ
  | [], _ => rfl
  | x :: xs, h => by
    show (turn (f x) μ).bind _ = _
    rw [h x List.mem_cons_self, R.bind_ok]
    show (compL turn (xs.map f) μ).bind _ = _
    rw [compL_flat f w turn xs fun y hy => h y (List.mem_cons_of_mem _ hy), R.bind_ok]
    simp
theorem ev_comp2 {ι κ : Type} (xs : List ι) (f : ι → Item) (ys : ι → List κ) (g : ι → κ → Item) (v : ι → κ → PyData) {own own2 : List Nat} {t t2 : T} {it it2 : It} (hi : evI c ρ it μ = .ok (xs.map f) μ) (hl : (xs.flatMap fun x => (ys x).map (v x)).length ≤ sizeLine)
    (ht : ∀ x ∈ xs, ∃ ρ1, asgI t (f x) (noOwn (wipeR ρ own)) = some ρ1 ∧ evI c ρ1 it2 μ = .ok ((ys x).map (g x)) μ ∧ ∀ y ∈ ys x, ∃ ρ2, asgI t2 (g x y) (wipeR ρ1 own2) = some ρ2 ∧ evE c ρ2 e μ = .ok (.d (v x y)) μ) :
    evE c ρ (.comp2 e t it none t2 it2 none own own2) μ = .ok (.d (.list (xs.flatMap fun x => (ys x).map (v x)))) μ := by
  show (evI c ρ it μ).bind _ = _
  rw [hi, R.bind_ok]
  rw [compL_flat f (fun x => (ys x).map (v x)) _ xs fun x hx => by
    obtain ⟨ρ1, h1, h2, h3⟩ := ht x hx
    simp only [h1, evt_none, R.bind_ok, h2, if_true]
    exact (compL_flat (g x) (fun y => [v x y]) _ (ys x) fun y hy => by
      obtain ⟨ρ2, k1, k2⟩ := h3 y hy
      simp only [k1, evt_none, R.bind_ok, k2, if_true]
      rfl).trans (by rw [List.map_eq_flatMap (f := v x)])]
  show (R.ok _ μ).bind pureL = _
  rw [R.bind_ok, pureL_ok hl]
end
end Pv
end

/-! text K82Pure -/
section
/-! k82, the plain law: rows of numbers as texts (lists of signs), and back. -/
namespace K82
open PySem L2
open TL (numL spl joinL par pre)
/-! ### groups of the same number -/
def lead (x : Nat) : List Nat → Nat
  | [] => 0
  | y :: r => if y = x then lead x r + 1 else 0
def grp : List Nat → List (Nat × Nat)
  | [] => []
  | x :: r => match grp r with
    | [] => [(1, x)]
    | (k, y) :: t => if y = x then (k + 1, y) :: t else (1, x) :: (k, y) :: t
theorem grp_lead (x : Nat) : ∀ r : List Nat, grp (x :: r) = (lead x r + 1, x) :: grp (r.drop (lead x r))
  | [] => rfl
  | y :: r => by
    have ih := grp_lead y r
    show (match grp (y :: r) with | [] => [(1, x)] | (k, z) :: t => if z = x then (k + 1, z) :: t else (1, x) :: (k, z) :: t) = _
    rw [ih]
    by_cases h : y = x
    · subst h
      simp [lead]
    · simp only [lead, if_neg h, List.drop_zero, ih]
theorem lead_le (x : Nat) : ∀ r : List Nat, lead x r ≤ r.length
  | [] => Nat.le_refl _
  | y :: r => by
    unfold lead
    split
    · have := lead_le x r; simp; omega
    · omega
def flat : List (Nat × Nat) → List Nat
  | [] => []
  | (k, v) :: t => List.replicate k v ++ flat t
theorem flat_grp : ∀ l : List Nat, flat (grp l) = l
  | [] => rfl
  | x :: r => by
    have ih := flat_grp r
    unfold grp
    cases q : grp r with
    | nil => rw [q] at ih; simp only [flat] at ih; subst ih; rfl
    | cons p t =>
      obtain ⟨k, y⟩ := p
      rw [q] at ih
      simp only
      split
      · rename_i h
        subst h
        simp only [flat, List.replicate_succ, List.cons_append] at ih ⊢
        rw [ih]
      · simp only [flat, List.replicate_one, List.cons_append, List.nil_append] at ih ⊢
        rw [ih]
theorem flat_len : ∀ G : List (Nat × Nat), (flat G).length = (G.map (·.1)).sum
  | [] => rfl
  | (k, v) :: t => by simp [flat, flat_len t]
theorem grp_pos : ∀ (l : List Nat), ∀ p ∈ grp l, 1 ≤ p.1 ∧ p.2 ∈ l
  | [], p, h => by cases h
  | x :: r, p, h => by
    have ih := grp_pos r
    unfold grp at h
    cases q : grp r with
    | nil =>
      rw [q] at h
      simp only [List.mem_singleton] at h
      subst h
      exact ⟨Nat.le_refl _, List.mem_cons_self⟩
    | cons a t =>
      obtain ⟨k, y⟩ := a
      rw [q] at h ih
      simp only at h
      split at h
      · rename_i e
        subst e
        rcases List.mem_cons.mp h with rfl | h
        · exact ⟨by simp, List.mem_cons_self⟩
        · exact ⟨(ih p (List.mem_cons_of_mem _ h)).1, List.mem_cons_of_mem _ (ih p (List.mem_cons_of_mem _ h)).2⟩
      · rcases List.mem_cons.mp h with rfl | h
        · exact ⟨Nat.le_refl _, List.mem_cons_self⟩
        · exact ⟨(ih p h).1, List.mem_cons_of_mem _ (ih p h).2⟩
/-- neighbours differ -/
def apart : List (Nat × Nat) → Prop
  | p :: q :: t => p.2 ≠ q.2 ∧ apart (q :: t)
  | _ => True
theorem grp_apart : ∀ l : List Nat, apart (grp l)
  | [] => trivial
  | x :: r => by
    have ih := grp_apart r
    unfold grp
    cases q : grp r with
    | nil => trivial
    | cons a t =>
      obtain ⟨k, y⟩ := a
      rw [q] at ih
      simp only
      split
      · cases t with
        | nil => trivial
        | cons b t => exact ih
      · rename_i h
        exact ⟨fun e => h e.symm, ih⟩
/-! ### words, rows, lines -/
def word (p : Nat × Nat) : List Nat := if p.1 = 1 then numL p.2 else numL p.1 ++ 42 :: numL p.2
def rowT (ns : List Nat) : List Nat := joinL [32] ((grp ns).map word)
def lineT (h ns : List Nat) : List Nat := if ns = [] then h else h ++ 32 :: rowT ns
def figs (t : List Nat) (m : Nat) : Bool := decide (1 ≤ t.length) && decide (t.length ≤ m) && t.all fun c => decide (48 ≤ c) && decide (c ≤ 57)
def rpar : List Nat → Option (List Nat × List Nat)
  | [] => none
  | c :: r => match rpar r with
    | some (a, b) => some (c :: a, b)
    | none => if c = 42 then some ([], r) else none
def timesOf (w : List Nat) : List Nat := match rpar w with | some (a, _) => a | none => [49]
def numOf (w : List Nat) : List Nat := match rpar w with | some (_, b) => b | none => w
open NumText (digitsVal AllDigits)
def numsGo : List (List Nat) → List Nat → Option (List Nat)
  | [], found => some found
  | w :: ws, found => if figs (timesOf w) 3 && figs (numOf w) 400 then
      (if (found ++ List.replicate (digitsVal (timesOf w)) (digitsVal (numOf w))).length > 256 then none else numsGo ws (found ++ List.replicate (digitsVal (timesOf w)) (digitsVal (numOf w))))
    else none
def numsOf (t : List Nat) : Option (List Nat) := numsGo (spl [32] 0 [] t) []
def rowIn (line h : List Nat) : Option (List Nat) :=
  if line = h then some [] else if (h ++ [32]).isPrefixOf line then
    match numsOf (line.drop (h.length + 1)) with
    | some ns => if line = lineT h ns then some ns else none
    | none => none
  else none
theorem rowIn_line {line h ns : List Nat} (e : rowIn line h = some ns) : line = lineT h ns := by
  unfold rowIn at e
  split at e
  · cases e; simpa [lineT]
  · split at e
    · split at e
      · split at e
        · cases e; assumption
        · cases e
      · cases e
    · cases e
theorem rpar_none : ∀ {w : List Nat}, 42 ∉ w → rpar w = none
  | [], _ => rfl
  | c :: r, h => by
    have h1 : c ≠ 42 := fun e => h (by simp [e])
    have h2 : 42 ∉ r := fun e => h (List.mem_cons_of_mem _ e)
    simp [rpar, rpar_none h2, h1]
theorem rpar_star {b : List Nat} (hb : 42 ∉ b) : ∀ a : List Nat, rpar (a ++ 42 :: b) = some (a, b)
  | [] => by simp [rpar, rpar_none hb]
  | c :: a => by simp [rpar, rpar_star hb a]
theorem numL_all (n : Nat) : (numL n).all (fun c => decide (48 ≤ c) && decide (c ≤ 57)) = true := by
  rw [List.all_eq_true]
  intro c hc
  by_cases h : 48 ≤ c ∧ c ≤ 57
  · simp [h.1, h.2]
  · exact absurd hc (TL.numL_free (by omega))
theorem figs_num {n m : Nat} (h : (numL n).length ≤ m) : figs (numL n) m = true := by
  unfold figs
  rw [numL_all]
  have h1 : 0 < (numL n).length := List.length_pos_iff.mpr (TL.numL_ne n)
  have h2 : 1 ≤ (numL n).length := h1
  simp [h, h2]
theorem star_num (n : Nat) : 42 ∉ numL n := TL.numL_free (by omega)
theorem blank_num (n : Nat) : 32 ∉ numL n := TL.numL_free (by omega)
theorem word_parts (p : Nat × Nat) : timesOf (word p) = numL p.1 ∧ numOf (word p) = numL p.2 := by
  unfold word
  split
  · rename_i h
    unfold timesOf numOf
    rw [rpar_none (star_num _), h]
    exact ⟨by decide, rfl⟩
  · unfold timesOf numOf
    rw [rpar_star (star_num _)]
    exact ⟨rfl, rfl⟩
theorem word_blank (p : Nat × Nat) : 32 ∉ word p := by
  unfold word
  split
  · exact blank_num _
  · intro h
    rcases List.mem_append.mp h with h | h
    · exact blank_num _ h
    · rcases List.mem_cons.mp h with h | h
      · cases h
      · exact blank_num _ h
theorem numsGo_words : ∀ (G : List (Nat × Nat)) (found : List Nat), (∀ p ∈ G, p.1 ≤ 999 ∧ (numL p.2).length ≤ 400) → (found ++ flat G).length ≤ 256 → numsGo (G.map word) found = some (found ++ flat G)
  | [], found, _, _ => by simp [numsGo, flat]
  | (k, v) :: t, found, h, hl => by
    obtain ⟨h1, h2⟩ := h (k, v) List.mem_cons_self
    obtain ⟨e1, e2⟩ := word_parts (k, v)
    have e3 : figs (numL k) 3 = true := figs_num (TL.numL_len (by decide) (by simp only at h1; omega))
    simp only [List.map_cons, numsGo, e1, e2, TL.numL_val, e3, figs_num h2, Bool.and_self, if_true]
    have hl2 : ¬ (found ++ List.replicate k v).length > 256 := by
      simp only [flat, List.length_append, List.length_replicate] at hl ⊢
      omega
    rw [if_neg hl2, numsGo_words t _ (fun p hp => h p (List.mem_cons_of_mem _ hp)) (by simpa [flat, List.append_assoc] using hl)]
    simp [flat, List.append_assoc]
theorem le_sum {a : Nat} : ∀ {l : List Nat}, a ∈ l → a ≤ l.sum
  | [], h => by cases h
  | b :: l, h => by
    rcases List.mem_cons.mp h with rfl | h
    · simp
    · have := le_sum h; simp; omega
theorem grp_len (l : List Nat) : ∀ p ∈ grp l, p.1 ≤ l.length := fun p hp => by
  have h := flat_len (grp l)
  rw [flat_grp] at h
  rw [h]
  exact le_sum (List.mem_map_of_mem (f := (·.1)) hp)
theorem grp_ne {l : List Nat} (h : l ≠ []) : grp l ≠ [] := fun e => h (by rw [← flat_grp l, e]; rfl)
theorem numsOf_row {ns : List Nat} (hne : ns ≠ []) (hl : ns.length ≤ 256) (hv : ∀ v ∈ ns, (numL v).length ≤ 400) : numsOf (rowT ns) = some ns := by
  unfold numsOf rowT
  rw [TL.spl_join (by simpa using grp_ne hne) (fun p hp => by
    obtain ⟨q, _, rfl⟩ := List.mem_map.mp hp
    exact word_blank q)]
  rw [numsGo_words _ _ (fun p hp => ⟨by have := grp_len ns p hp; omega, hv _ (grp_pos ns p hp).2⟩) (by simpa [flat_grp] using hl)]
  simp [flat_grp]
theorem rowIn_back {h ns : List Nat} (hl : ns.length ≤ 256) (hv : ∀ v ∈ ns, (numL v).length ≤ 400) : rowIn (lineT h ns) h = some ns := by
  unfold rowIn
  by_cases hne : ns = []
  · subst hne; simp [lineT]
  · have e : lineT h ns = h ++ 32 :: rowT ns := if_neg hne
    have e2 : (h ++ 32 :: rowT ns).drop (h.length + 1) = rowT ns := by
      rw [show h ++ 32 :: rowT ns = (h ++ [32]) ++ rowT ns from by simp, List.drop_left' (by simp)]
    rw [e, if_neg (by simp), if_pos (by simp [List.isPrefixOf_iff_prefix]), e2, numsOf_row hne hl hv]
    simp [e]
end K82
end

/-! text K82Bad -/
section
/-! k82, the plain law: what is no line. -/
namespace K82
open PySem L2
open TL (numL spl joinL par pre)
theorem num_end (n : Nat) : ∃ p d, numL n = p ++ [d] ∧ 48 ≤ d ∧ d ≤ 57 := by
  have hne := TL.numL_ne n
  refine ⟨(numL n).dropLast, (numL n).getLast hne, (List.dropLast_concat_getLast hne).symm, ?_⟩
  have h := List.all_eq_true.mp (numL_all n) _ (List.getLast_mem hne)
  simpa using h
theorem word_end (q : Nat × Nat) : ∃ p d, word q = p ++ [d] ∧ 48 ≤ d ∧ d ≤ 57 := by
  obtain ⟨p, d, h, h1⟩ := num_end q.2
  unfold word
  split
  · exact ⟨p, d, h, h1⟩
  · exact ⟨numL q.1 ++ 42 :: p, d, by rw [h]; simp, h1⟩
theorem join_end : ∀ G : List (Nat × Nat), G ≠ [] → ∃ p d, joinL [32] (G.map word) = p ++ [d] ∧ 48 ≤ d ∧ d ≤ 57
  | [], h => absurd rfl h
  | [q], _ => word_end q
  | q :: r :: t, _ => by
    obtain ⟨p, d, h, h1⟩ := join_end (r :: t) (by simp)
    refine ⟨word q ++ 32 :: p, d, ?_, h1⟩
    rw [List.map_cons, List.map_cons, joinL, ← List.map_cons, h]
    simp
theorem row_end {ns : List Nat} (h : ns ≠ []) : ∃ p d, rowT ns = p ++ [d] ∧ 48 ≤ d ∧ d ≤ 57 := join_end _ (grp_ne h)
theorem snoc_inj {p q : List Nat} {c d : Nat} (h : p ++ [c] = q ++ [d]) : p = q ∧ c = d := by
  have := List.append_inj' h rfl
  exact ⟨this.1, by simpa using this.2⟩
theorem rowIn_none {line h : List Nat} (H : ∀ ns, line ≠ lineT h ns) : rowIn line h = none := by
  cases e : rowIn line h with
  | none => rfl
  | some ns => exact absurd (rowIn_line e) (H ns)
/-- the last sign is none -/
theorem line_last {h p q : List Nat} {c d : Nat} (hh : h = q ++ [d]) (hc : ¬ (48 ≤ c ∧ c ≤ 57)) (hd : d ≠ c) (ns : List Nat) : p ++ [c] ≠ lineT h ns := fun e => by
  unfold lineT at e
  split at e
  · rw [hh] at e
    exact hd (snoc_inj e).2.symm
  · rename_i hne
    obtain ⟨r, x, h1, h2⟩ := row_end hne
    rw [h1, show h ++ 32 :: (r ++ [x]) = (h ++ 32 :: r) ++ [x] from by simp] at e
    have := (snoc_inj e).2
    subst this
    exact hc h2
/-- the first sign is none -/
theorem line_first {h p : List Nat} {a c : Nat} (hh : h.head? = some a) (hc : a ≠ c) (ns : List Nat) : c :: p ≠ lineT h ns := fun e => by
  cases h with
  | nil => cases hh
  | cons b t =>
    cases hh
    unfold lineT at e
    split at e
    · exact hc (List.cons.inj e).1.symm
    · exact hc (List.cons.inj e).1.symm
theorem line_nil {h : List Nat} (hh : h ≠ []) (ns : List Nat) : [] ≠ lineT h ns := fun e => by
  unfold lineT at e
  split at e
  · exact hh e.symm
  · simp at e
theorem spl_cons (acc r : List Nat) (c : Nat) : spl [32] 0 acc (c :: r) = if c = 32 then acc :: spl [32] 0 [] r else spl [32] 0 (acc ++ [c]) r := by
  split
  · rename_i h
    subst h
    exact TL.spl_hit (by simp [TL.pre])
  · rename_i h
    exact TL.spl_miss (TL.pre_of_head [] r h)
theorem spl_cat (b : List Nat) : ∀ (a acc : List Nat), spl [32] 0 acc (a ++ 32 :: b) = spl [32] 0 acc a ++ spl [32] 0 [] b
  | [], acc => by
    rw [List.nil_append, spl_cons, if_pos rfl, TL.spl_nil]
    rfl
  | c :: a, acc => by
    rw [List.cons_append, spl_cons, spl_cons]
    split
    · rw [spl_cat b a []]; rfl
    · exact spl_cat b a _
theorem word_zero {p : Nat × Nat} (h : word p = [48]) : p.2 = 0 := by
  unfold word at h
  split at h
  · have := TL.numL_val p.2
    rw [h] at this
    rw [← this]
    decide
  · have h1 : 0 < (numL p.1).length := List.length_pos_iff.mpr (TL.numL_ne _)
    have := congrArg List.length h
    simp at this
    omega
theorem apart_end {p q : Nat × Nat} : ∀ t : List (Nat × Nat), apart (t ++ [q, p]) → q.2 ≠ p.2
  | [], h => h.1
  | [a], h => apart_end [] h.2
  | a :: b :: t, h => apart_end (b :: t) h.2
/-- two equal words at the end are no row -/
theorem line_twice {h x q : List Nat} {d : Nat} (hh : h = q ++ [d]) (hd : d ≠ 48) (hs : (spl [32] 0 [] h).getLast? ≠ some [48]) (ns : List Nat) : x ++ [32, 48, 32, 48] ≠ lineT h ns := fun e => by
  unfold lineT at e
  split at e
  · rw [hh, show x ++ [32, 48, 32, 48] = (x ++ [32, 48, 32]) ++ [48] from by simp] at e
    exact hd (snoc_inj e).2.symm
  · rename_i hne
    have e2 := congrArg (spl [32] 0 []) e
    rw [show x ++ [32, 48, 32, 48] = x ++ 32 :: ([48] ++ 32 :: [48]) from rfl, spl_cat, spl_cat, spl_cat] at e2
    unfold rowT at e2
    rw [TL.spl_join (by simpa using grp_ne hne) (fun p hp => by
      obtain ⟨q, _, rfl⟩ := List.mem_map.mp hp
      exact word_blank q)] at e2
    rw [show spl [32] 0 [] [48] = [[48]] from by decide] at e2
    have e3 := congrArg List.reverse e2
    simp only [List.reverse_append, List.reverse_cons, List.reverse_nil, List.nil_append, List.cons_append, ← List.map_reverse] at e3
    have ga := grp_apart ns
    rw [← List.reverse_reverse (grp ns)] at ga
    cases hg : (grp ns).reverse with
    | nil => exact grp_ne hne (by simpa using hg)
    | cons p t =>
      rw [hg] at e3 ga
      cases t with
      | nil =>
        simp only [List.map_cons, List.map_nil, List.cons_append, List.nil_append, List.cons.injEq] at e3
        apply hs
        rw [← List.head?_reverse, ← e3.2]
        rfl
      | cons r t =>
        simp only [List.map_cons, List.cons_append, List.cons.injEq] at e3
        have z1 := word_zero e3.1.symm
        have z2 := word_zero e3.2.1.symm
        simp only [List.reverse_cons, List.append_assoc, List.cons_append, List.nil_append] at ga
        exact apart_end _ ga (by rw [z1, z2])
end K82
end

/-! text K82End -/
section
/-! k82, the plain law: ends and tables. -/
namespace K82
open PySem L2
open TL (numL spl joinL par pre)
open NumText (digitsVal AllDigits)
def T (s : String) : List Nat := (Str.ofString s).cps.toList
inductive End where
  | none
  | ans (n : Nat)
  | fault (k : List Nat)
def kinds : List (List Nat) := [T "place", T "table", T "index", T "handle", T "packet", T "grant"]
def endT : End → List Nat
  | .none => T "end none"
  | .ans n => T "end answer " ++ numL n
  | .fault k => T "end fault " ++ k
def endOk : End → Prop
  | .none => True
  | .ans n => n ≤ 65535
  | .fault k => k ∈ kinds
def endIn (line : List Nat) : Option End :=
  if line = T "end none" then some .none else
  match par [32] [] (line.drop 4) with
  | some (w, r) =>
    if w = T "answer" ∧ figs r 5 = true then (if digitsVal r ≤ 65535 ∧ line = endT (.ans (digitsVal r)) then some (.ans (digitsVal r)) else none)
    else if w = T "fault" ∧ r ∈ kinds ∧ line = endT (.fault r) then some (.fault r) else none
  | none => none
theorem endIn_line {line : List Nat} {e : End} (h : endIn line = some e) : line = endT e ∧ endOk e := by
  unfold endIn at h
  split at h
  · cases h; exact ⟨by assumption, trivial⟩
  · split at h
    · split at h
      · split at h
        · rename_i q; cases h; exact ⟨q.2, q.1⟩
        · cases h
      · split at h
        · rename_i q; cases h; exact ⟨q.2.2, q.2.1⟩
        · cases h
    · cases h
theorem end_cut {w r : List Nat} (hw : 32 ∉ w) : par [32] [] ((T "end " ++ (w ++ ([32] ++ r))).drop 4) = some (w, r) := by
  rw [List.drop_left' (by decide +kernel)]
  exact TL.par_part1 hw
theorem ans_is (n : Nat) : endT (.ans n) = T "end " ++ (T "answer" ++ ([32] ++ numL n)) := by
  show T "end answer " ++ numL n = _
  rw [show T "end answer " = T "end " ++ (T "answer" ++ [32]) from by decide +kernel]
  simp
theorem fault_is (k : List Nat) : endT (.fault k) = T "end " ++ (T "fault" ++ ([32] ++ k)) := by
  show T "end fault " ++ k = _
  rw [show T "end fault " = T "end " ++ (T "fault" ++ [32]) from by decide +kernel]
  simp
theorem none_is : T "end none" = T "end " ++ T "none" := by decide +kernel
theorem endIn_back {e : End} (h : endOk e) : endIn (endT e) = some e := by
  cases e with
  | none => exact if_pos rfl
  | ans n =>
    have h : n ≤ 65535 := h
    have hf : figs (numL n) 5 = true := figs_num (TL.numL_len (by decide) (by omega))
    unfold endIn
    rw [if_neg (fun e => by
      rw [ans_is, none_is] at e
      have := List.append_cancel_left e
      rw [show T "answer" = 97 :: (T "answer").tail from by decide +kernel, show T "none" = 110 :: (T "none").tail from by decide +kernel] at this
      cases this), ans_is, end_cut (by decide +kernel)]
    simp only [hf, TL.numL_val, ← ans_is, h, and_self, if_true]
  | fault k =>
    have h : k ∈ kinds := h
    unfold endIn
    rw [if_neg (fun e => by
      rw [fault_is, none_is] at e
      have := List.append_cancel_left e
      rw [show T "fault" = 102 :: (T "fault").tail from by decide +kernel, show T "none" = 110 :: (T "none").tail from by decide +kernel] at this
      cases this), fault_is, end_cut (by decide +kernel)]
    simp only [← fault_is, show ¬ (T "fault" = T "answer") from by decide +kernel, h, false_and, if_false, and_self, if_true]
/-! bad ends -/
theorem endIn_none {line : List Nat} (H : ∀ e, endOk e → line ≠ endT e) : endIn line = none := by
  cases h : endIn line with
  | none => rfl
  | some e => exact absurd (endIn_line h).1 (H e (endIn_line h).2)
theorem end_first {e : End} : ∃ t, endT e = 101 :: t := by
  cases e with
  | none => exact ⟨(T "end none").tail, by decide +kernel⟩
  | ans n => exact ⟨(T "end answer ").tail ++ numL n, by
      rw [← List.cons_append, show 101 :: (T "end answer ").tail = T "end answer " from by decide +kernel]; rfl⟩
  | fault k => exact ⟨(T "end fault ").tail ++ k, by
      rw [← List.cons_append, show 101 :: (T "end fault ").tail = T "end fault " from by decide +kernel]; rfl⟩
theorem kinds_end : ∀ k ∈ kinds, k.getLast? ≠ some 32 ∧ 32 ∉ k ∧ k ≠ [] ∧ (∀ k' ∈ kinds, k ≠ k' ++ [120]) := by decide +kernel
theorem end_last {e : End} (h : endOk e) : (endT e).getLast? ≠ some 32 := by
  cases e with
  | none => decide +kernel
  | ans n =>
    obtain ⟨p, d, h1, h2⟩ := num_end n
    show (T "end answer " ++ numL n).getLast? ≠ _
    rw [h1, ← List.append_assoc, List.getLast?_concat]
    intro e; cases e; omega
  | fault k =>
    obtain ⟨h1, _, h3, _⟩ := kinds_end k h
    show (T "end fault " ++ k).getLast? ≠ _
    rw [List.getLast?_append]
    cases q : k.getLast? with
    | none => exact absurd (List.getLast?_eq_none_iff.mp q) h3
    | some c => rw [q] at h1; simpa using h1
theorem end_blanks {e : End} (h : endOk e) : 1 ≤ (endT e).count 32 ∧ (endT e).count 32 ≤ 2 := by
  cases e with
  | none => decide +kernel
  | ans n =>
    show 1 ≤ (T "end answer " ++ numL n).count 32 ∧ (T "end answer " ++ numL n).count 32 ≤ 2
    rw [List.count_append, List.count_eq_zero.mpr (blank_num n)]
    decide +kernel
  | fault k =>
    show 1 ≤ (T "end fault " ++ k).count 32 ∧ (T "end fault " ++ k).count 32 ≤ 2
    rw [List.count_append, List.count_eq_zero.mpr (kinds_end k h).2.1]
    decide +kernel
/-- an end with an x behind it is none -/
theorem end_x {e e' : End} (h : endOk e) (h' : endOk e') : endT e ++ [120] ≠ endT e' := fun q => by
  cases e' with
  | none =>
    have := congrArg List.getLast? q
    rw [List.getLast?_concat] at this
    revert this
    decide +kernel
  | ans n =>
    obtain ⟨p, d, h1, h2⟩ := num_end n
    have q : endT e ++ [120] = T "end answer " ++ numL n := q
    rw [h1, ← List.append_assoc] at q
    have := (snoc_inj q).2
    omega
  | fault k' =>
    rw [fault_is] at q
    cases e with
    | none =>
      rw [show endT .none ++ [120] = T "end " ++ (T "none" ++ [120]) from by decide +kernel] at q
      have := List.append_cancel_left q
      rw [show T "fault" = 102 :: (T "fault").tail from by decide +kernel, show T "none" = 110 :: (T "none").tail from by decide +kernel] at this
      cases this
    | ans n =>
      rw [ans_is, List.append_assoc] at q
      have := List.append_cancel_left q
      rw [show T "fault" = 102 :: (T "fault").tail from by decide +kernel, show T "answer" = 97 :: (T "answer").tail from by decide +kernel] at this
      cases this
    | fault k =>
      rw [fault_is, List.append_assoc, List.append_assoc, List.append_assoc] at q
      have := List.append_cancel_left (List.append_cancel_left (List.append_cancel_left q))
      exact (kinds_end k' h').2.2.2 k h this.symm
end K82
end

/-! text K82Told -/
section
/-! k82, the plain law: tables; what each head's line tells. -/
namespace K82
open PySem L2
open TL (numL spl joinL par pre)
open NumText (digitsVal AllDigits)
theorem line_head {h h' ns ms : List Nat} (hl : h.length = h'.length) (e : lineT h ns = lineT h' ms) : h = h' := by
  have e1 : (lineT h ns).take h.length = h := by unfold lineT; split <;> simp
  have e2 : (lineT h' ms).take h'.length = h' := by unfold lineT; split <;> simp
  rw [← e1, e, hl, e2]
inductive Tab where
  | arr (m : Nat) (ns : List Nat)
  | prs (m : Nat) (ps : List (Nat × Nat))
def flatP : List (Nat × Nat) → List Nat
  | [] => []
  | (a, b) :: t => a :: b :: flatP t
def pairUp : List Nat → List (Nat × Nat)
  | a :: b :: t => (a, b) :: pairUp t
  | _ => []
theorem pair_flat : ∀ ps : List (Nat × Nat), pairUp (flatP ps) = ps
  | [] => rfl
  | (a, b) :: t => by simp [flatP, pairUp, pair_flat t]
theorem flat_pair : ∀ ns : List Nat, ns.length % 2 ≠ 1 → flatP (pairUp ns) = ns
  | [], _ => rfl
  | [a], h => absurd rfl h
  | a :: b :: t, h => by
    simp only [pairUp, flatP]
    rw [flat_pair t (by simp only [List.length_cons] at h; omega)]
theorem flatP_len : ∀ ps : List (Nat × Nat), (flatP ps).length = 2 * ps.length
  | [] => rfl
  | (a, b) :: t => by simp [flatP, flatP_len t]; omega
def incr : List (Nat × Nat) → Bool
  | p :: q :: t => decide (p.1 < q.1) && incr (q :: t)
  | _ => true
def headT (s : List Nat) (m : Nat) : List Nat := s ++ 32 :: (numL m ++ [58])
def tabT : Tab → List Nat
  | .arr m ns => lineT (headT (T "array") m) ns
  | .prs m ps => lineT (headT (T "pairs") m) (flatP ps)
def tabOk : Tab → Bool
  | .arr m ns => decide (m ≤ 1) && decide (1 ≤ ns.length) && decide (ns.length ≤ 32) && ns.all fun n => decide (n ≤ 65535)
  | .prs m ps => decide (m ≤ 1) && decide (ps.length ≤ 16) && (ps.all fun p => decide (p.1 ≤ 65535) && decide (p.2 ≤ 65535)) && incr ps
def tryT (p : Bool) (m : Nat) (line : List Nat) : Option (Option Tab) :=
  match rowIn line (headT (T (if p then "pairs" else "array")) m) with
  | none => none
  | some ns => some (if p then (if ns.length % 2 = 1 then none else if tabOk (.prs m (pairUp ns)) then some (.prs m (pairUp ns)) else none) else if tabOk (.arr m ns) then some (.arr m ns) else none)
def tableIn (line : List Nat) : Option Tab :=
  match tryT false 0 line with
  | some r => r
  | none => match tryT false 1 line with
    | some r => r
    | none => match tryT true 0 line with
      | some r => r
      | none => match tryT true 1 line with
        | some r => r
        | none => none
theorem tryT_line {p : Bool} {m : Nat} {line : List Nat} {t : Tab} (h : tryT p m line = some (some t)) : line = tabT t ∧ tabOk t = true := by
  unfold tryT at h
  split at h
  · cases h
  · rename_i ns hns
    have hl := rowIn_line hns
    cases p with
    | true =>
      simp only [if_true, Option.some.injEq] at h hl
      split at h
      · cases h
      · rename_i hodd
        split at h
        · rename_i hok
          cases h
          exact ⟨by rw [hl]; show _ = lineT _ (flatP (pairUp ns)); rw [flat_pair ns hodd], hok⟩
        · cases h
    | false =>
      simp only [Bool.false_eq_true, if_false, Option.some.injEq] at h hl
      split at h
      · rename_i hok
        cases h
        exact ⟨hl, hok⟩
      · cases h
theorem tableIn_line {line : List Nat} {t : Tab} (h : tableIn line = some t) : line = tabT t ∧ tabOk t = true := by
  unfold tableIn at h
  split at h
  · subst h; exact tryT_line (by assumption)
  · split at h
    · subst h; exact tryT_line (by assumption)
    · split at h
      · subst h; exact tryT_line (by assumption)
      · split at h
        · subst h; exact tryT_line (by assumption)
        · cases h
theorem head_len {s : List Nat} (hs : s.length = 5) {m : Nat} (hm : m ≤ 1) : (headT s m).length = 8 := by
  have : (numL m).length = 1 := by rw [TL.numL_lt (by omega)]; rfl
  simp [headT, hs, this]
theorem try_other {p : Bool} {m : Nat} {h ns : List Nat} (hl : h.length = 8) (hm : m ≤ 1) (hne : h ≠ headT (T (if p then "pairs" else "array")) m) : tryT p m (lineT h ns) = none := by
  unfold tryT
  rw [rowIn_none fun ms e => hne (line_head (by rw [hl, head_len (by cases p <;> decide +kernel) hm]) e)]
theorem tab_small {n : Nat} (h : n ≤ 65535) : (numL n).length ≤ 400 := Nat.le_trans (TL.numL_len (k := 5) (by decide) (by omega)) (by decide)
theorem flatP_all : ∀ ps : List (Nat × Nat), (ps.all fun p => decide (p.1 ≤ 65535) && decide (p.2 ≤ 65535)) = true → ∀ v ∈ flatP ps, v ≤ 65535
  | [], _, v, h => by cases h
  | (a, b) :: t, hh, v, h => by
    simp only [List.all_cons, Bool.and_eq_true, decide_eq_true_eq] at hh
    rcases List.mem_cons.mp h with rfl | h
    · exact hh.1.1
    · rcases List.mem_cons.mp h with rfl | h
      · exact hh.1.2
      · exact flatP_all t hh.2 v h
theorem try_own {t : Tab} (h : tabOk t = true) : match t with
    | .arr m ns => tryT false m (tabT t) = some (some t)
    | .prs m ps => tryT true m (tabT t) = some (some t) := by
  cases t with
  | arr m ns =>
    have hh := h
    simp only [tabOk, Bool.and_eq_true, decide_eq_true_eq, List.all_eq_true] at hh
    obtain ⟨⟨⟨h1, h2⟩, h3⟩, h4⟩ := hh
    show tryT false m (lineT (headT (T "array") m) ns) = _
    unfold tryT
    simp only [Bool.false_eq_true, if_false]
    rw [rowIn_back (by omega) fun v hv => tab_small (h4 v hv)]
    simp only [h, if_true]
  | prs m ps =>
    have hh := h
    simp only [tabOk, Bool.and_eq_true, decide_eq_true_eq] at hh
    obtain ⟨⟨⟨h1, h2⟩, h3⟩, h4⟩ := hh
    show tryT true m (lineT (headT (T "pairs") m) (flatP ps)) = _
    unfold tryT
    simp only [if_true]
    have hl := flatP_len ps
    rw [rowIn_back (by omega) fun v hv => tab_small (flatP_all ps h3 v hv)]
    simp only [pair_flat, h, if_true]
    rw [if_neg (by omega)]
theorem tableIn_back {t : Tab} (h : tabOk t = true) : tableIn (tabT t) = some t := by
  have own := try_own h
  cases t with
  | arr m ns =>
    have hm : m ≤ 1 := by simp only [tabOk, Bool.and_eq_true, decide_eq_true_eq] at h; exact h.1.1.1
    have own : tryT false m (tabT (.arr m ns)) = _ := own
    unfold tableIn
    rcases (by omega : m = 0 ∨ m = 1) with rfl | rfl
    · rw [own]
    · rw [show tryT false 0 (tabT (.arr 1 ns)) = none from try_other (head_len (by decide +kernel) (by decide)) (by decide) (by decide +kernel), own]
  | prs m ps =>
    have hm : m ≤ 1 := by simp only [tabOk, Bool.and_eq_true, decide_eq_true_eq] at h; exact h.1.1.1
    have own : tryT true m (tabT (.prs m ps)) = _ := own
    unfold tableIn
    rcases (by omega : m = 0 ∨ m = 1) with rfl | rfl
    · rw [show tryT false 0 (tabT (.prs 0 ps)) = none from try_other (head_len (by decide +kernel) (by decide)) (by decide) (by decide +kernel),
        show tryT false 1 (tabT (.prs 0 ps)) = none from try_other (head_len (by decide +kernel) (by decide)) (by decide) (by decide +kernel), own]
    · rw [show tryT false 0 (tabT (.prs 1 ps)) = none from try_other (head_len (by decide +kernel) (by decide)) (by decide) (by decide +kernel),
        show tryT false 1 (tabT (.prs 1 ps)) = none from try_other (head_len (by decide +kernel) (by decide)) (by decide) (by decide +kernel),
        show tryT true 0 (tabT (.prs 1 ps)) = none from try_other (head_len (by decide +kernel) (by decide)) (by decide) (by decide +kernel), own]
theorem tableIn_none {line : List Nat} (H : ∀ t, tabOk t = true → line ≠ tabT t) : tableIn line = none := by
  cases h : tableIn line with
  | none => rfl
  | some t => exact absurd (tableIn_line h).1 (H t (tableIn_line h).2)
end K82
end

/-! text K82Heads -/
section
/-! k82, the plain law: the nine heads, and the lines that are spoilt. -/
namespace K82
open PySem L2
open TL (numL spl joinL par pre)
structure HeadOk (h : List Nat) : Prop where
  e : ∃ q d, h = q ++ [d] ∧ d ≠ 32 ∧ d ≠ 48 ∧ d ≠ 120
  f : ∃ a, h.head? = some a ∧ a ≠ 120 ∧ 97 ≤ a
  s : (spl [32] 0 [] h).getLast? ≠ some [48]
/-- what no row's line is -/
inductive Wrong : List Nat → Prop where
  | blank (p : List Nat) : Wrong (p ++ [32])
  | first (c : Nat) (p : List Nat) : c < 97 → Wrong (c :: p)
  | nil : Wrong []
  | twice (x : List Nat) : Wrong (x ++ [32, 48, 32, 48])
  | ex (p : List Nat) : Wrong (p ++ [120])
theorem Wrong.no {b h : List Nat} (w : Wrong b) (H : HeadOk h) (ns : List Nat) : b ≠ lineT h ns := by
  obtain ⟨q, d, e1, e2, e3, e4⟩ := H.e
  obtain ⟨a, f1, f2, f3⟩ := H.f
  cases w with
  | blank p => exact line_last e1 (by omega) e2 ns
  | first c p hc => exact line_first f1 (by omega) ns
  | nil => exact line_nil (by rw [e1]; simp) ns
  | twice x => exact line_twice e1 e3 H.s ns
  | ex p => exact line_last e1 (by omega) e4 ns
theorem Wrong.row {b h : List Nat} (w : Wrong b) (H : HeadOk h) : rowIn b h = none := rowIn_none (w.no H)
def headB (h : List Nat) : Bool :=
  (match h.getLast? with | some d => decide (d ≠ 32) && decide (d ≠ 48) && decide (d ≠ 120) | none => false) && (match h.head? with | some a => decide (a ≠ 120) && decide (97 ≤ a) | none => false) && decide ((spl [32] 0 [] h).getLast? ≠ some [48])
theorem headB_ok {h : List Nat} (e : headB h = true) : HeadOk h := by
  unfold headB at e
  simp only [Bool.and_eq_true, decide_eq_true_eq] at e
  obtain ⟨⟨e1, e2⟩, e3⟩ := e
  refine ⟨?_, ?_, e3⟩
  · cases q : h.getLast? with
    | none => rw [q] at e1; cases e1
    | some d =>
      rw [q] at e1
      simp only [Bool.and_eq_true, decide_eq_true_eq] at e1
      obtain ⟨p, hp⟩ := List.getLast?_eq_some_iff.mp q
      exact ⟨p, d, hp, e1.1.1, e1.1.2, e1.2⟩
  · cases q : h.head? with
    | none => rw [q] at e2; cases e2
    | some a =>
      rw [q] at e2
      simp only [Bool.and_eq_true, decide_eq_true_eq] at e2
      exact ⟨a, rfl, e2.1, e2.2⟩
theorem tab_head {p : Bool} {m : Nat} (hm : m ≤ 1) : HeadOk (headT (T (if p then "pairs" else "array")) m) := by
  rcases (by omega : m = 0 ∨ m = 1) with rfl | rfl <;> cases p <;> exact headB_ok (by decide +kernel)
theorem Wrong.tab {b : List Nat} (w : Wrong b) : tableIn b = none := tableIn_none fun t h => by
  cases t with
  | arr m ns =>
    have hm : m ≤ 1 := by simp only [tabOk, Bool.and_eq_true, decide_eq_true_eq] at h; exact h.1.1.1
    exact w.no (tab_head (p := false) hm) ns
  | prs m ps =>
    have hm : m ≤ 1 := by simp only [tabOk, Bool.and_eq_true, decide_eq_true_eq] at h; exact h.1.1.1
    exact w.no (tab_head (p := true) hm) (flatP ps)
/-! the heads -/
inductive Hd where
  | num (h : List Nat) (m : Option Nat)
  | fin
  | row (h : List Nat) (k : Option Nat) (m : Nat)
def heads : List Hd := [.num (T "steps") none, .num (T "place") (some 120), .fin, .num (T "clock") (some 65535), .num (T "writable") (some 1),
  .row (T "registers") (some 8) 65535, .row (T "slots") (some 16) 65535, .row (T "counters") (some 4) 100, .row (T "packet") none 255]
inductive Told where
  | num (n : Nat)
  | fin (e : End)
  | row (ns : List Nat)
def le? (n : Nat) : Option Nat → Bool
  | none => true
  | some m => decide (n ≤ m)
def len? (n : Nat) : Option Nat → Bool
  | none => true
  | some m => decide (n = m)
def told : Hd → List Nat → Option Told
  | .num h m, l => match rowIn l h with
    | some [n] => if le? n m = true then some (.num n) else none
    | _ => none
  | .fin, l => (endIn l).map .fin
  | .row h k m, l => match rowIn l h with
    | some ns => if (len? ns.length k && ns.all fun n => decide (n ≤ m)) = true then some (.row ns) else none
    | none => none
/-- the own line of what is told -/
def toldT : Hd → Told → List Nat
  | .num h _, .num n => lineT h [n]
  | .fin, .fin e => endT e
  | .row h _ _, .row ns => lineT h ns
  | _, _ => []
def toldOk : Hd → Told → Prop
  | .num _ m, .num n => le? n m = true ∧ (numL n).length ≤ 400
  | .fin, .fin e => endOk e
  | .row _ k m, .row ns => len? ns.length k = true ∧ (∀ n ∈ ns, n ≤ m) ∧ m ≤ 65535 ∧ ns.length ≤ 256
  | _, _ => False
theorem told_back {H : Hd} {v : Told} (h : toldOk H v) : told H (toldT H v) = some v := by
  cases H with
  | num hd m =>
    cases v with
    | num n =>
      show (match rowIn (lineT hd [n]) hd with | some [n] => if le? n m = true then some (Told.num n) else none | _ => none) = _
      rw [rowIn_back (by simp) (by simpa using h.2)]
      simp [h.1]
    | fin e => exact h.elim
    | row ns => exact h.elim
  | fin =>
    cases v with
    | fin e =>
      show (endIn (endT e)).map Told.fin = _
      rw [endIn_back h]; rfl
    | num n => exact h.elim
    | row ns => exact h.elim
  | row hd k m =>
    cases v with
    | row ns =>
      obtain ⟨h1, h2, h3, h4⟩ := h
      show (match rowIn (lineT hd ns) hd with | some ns => if (len? ns.length k && ns.all fun n => decide (n ≤ m)) = true then some (Told.row ns) else none | none => none) = _
      rw [rowIn_back h4 fun v hv => tab_small (by have := h2 v hv; omega)]
      simp [h1]
      exact h2
    | num n => exact h.elim
    | fin e => exact h.elim
theorem told_wrong {H : Hd} {b : List Nat} (w : Wrong b) (hh : match H with | .num h _ => HeadOk h | .fin => False | .row h _ _ => HeadOk h) : told H b = none := by
  cases H with
  | num h m => show (match rowIn b h with | some [n] => _ | _ => _) = _; rw [w.row hh]
  | fin => exact hh.elim
  | row h k m => show (match rowIn b h with | some ns => _ | none => _) = _; rw [w.row hh]
/-- a spoilt end -/
inductive WrongE (e : End) : List Nat → Prop where
  | blank (p : List Nat) : WrongE e (p ++ [32])
  | first (c : Nat) (p : List Nat) : c ≠ 101 → WrongE e (c :: p)
  | nil : WrongE e []
  | twice : WrongE e (endT e ++ [32, 48, 32, 48])
  | ex : WrongE e (endT e ++ [120])
theorem WrongE.no {e : End} {b : List Nat} (w : WrongE e b) (h : endOk e) : endIn b = none := endIn_none fun e' h' => by
  intro q
  obtain ⟨t, ht⟩ := end_first (e := e')
  cases w with
  | blank p =>
    have := end_last h'
    rw [← q, List.getLast?_concat] at this
    exact this rfl
  | first c p hc =>
    rw [ht] at q
    exact hc (List.cons.inj q).1
  | nil => rw [ht] at q; cases q
  | twice =>
    have h1 := (end_blanks h').2
    have h2 := (end_blanks h).1
    rw [← q, List.count_append] at h1
    have : List.count 32 [32, 48, 32, 48] = 2 := by decide
    omega
  | ex => exact end_x h h' q
end K82
end

/-! text K82Const -/
section
/-! k82, the plain law: the spoilt lines that are written out. -/
namespace K82
open PySem L2
def more : List (List String) := [["steps 00", "steps -1", "place 0"], ["place 121", "place 00", "place"], ["end answer", "end fault x"], ["clock 65536", "clock 0x1"], ["writable 2", "writable"], ["registers 7*0", "registers 9*0"],
  ["slots 15*3", "slots 16*65536", "slots 8*0 8*0"], ["counters 4*101", "counters 0 0 0 0"], ["packet 256", "packet 1*1", "packet 2*1 1", "packet ", "packet 257*0"]]
def moreT : List String := ["array 2: 0", "array 1:", "pairs 1: 3", "pairs 1: 3 4 3 5", "array 0: 65536", "array 0: 33*1", "pairs 1: "]
theorem more_bad : ((heads.zip more).all fun q => q.2.all fun s => (told q.1 (T s)).isNone) = true := by decide +kernel
theorem moreT_bad : (moreT.all fun s => (tableIn (T s)).isNone) = true := by decide +kernel
theorem x_bad : (tableIn (T "x")).isNone = true := by decide +kernel
theorem heads_ok : (heads.all fun H => match H with | .num h _ => headB h | .fin => true | .row h _ _ => headB h) = true := by decide +kernel
theorem seventh : (tableIn (T "array 1: 5")).isSome = true := by decide +kernel
end K82
end

/-! text K82Rp -/
section
namespace K82
open PySem L2
open SX (S)
open PySem.Builtin PySem.Builtin.Str PySem.StrLaws
theorem rpar_some : ∀ {w a b : List Nat}, rpar w = some (a, b) → w = a ++ 42 :: b ∧ 42 ∉ b
  | [], _, _, h => by cases h
  | c :: r, a, b, h => by
    unfold rpar at h
    cases q : rpar r with
    | some p =>
      obtain ⟨a', b'⟩ := p
      rw [q] at h
      simp only [Option.some.injEq, Prod.mk.injEq] at h
      obtain ⟨rfl, rfl⟩ := h
      obtain ⟨e, f⟩ := rpar_some q
      exact ⟨by rw [e]; rfl, f⟩
    | none =>
      rw [q] at h
      simp only at h
      split at h
      · rename_i hc
        simp only [Option.some.injEq, Prod.mk.injEq] at h
        obtain ⟨rfl, rfl⟩ := h
        refine ⟨by rw [hc]; rfl, fun hm => ?_⟩
        have : ∀ {l : List Nat}, 42 ∈ l → rpar l ≠ none := by
          intro l
          induction l with
          | nil => intro h; cases h
          | cons x l ih =>
            intro h e
            unfold rpar at e
            cases z : rpar l with
            | some p => rw [z] at e; cases e
            | none =>
              rw [z] at e
              simp only at e
              split at e
              · cases e
              · rename_i hx
                rcases List.mem_cons.mp h with h | h
                · exact hx h.symm
                · exact ih h z
        exact this hm q
      · cases h
theorem rpar_no {w : List Nat} (h : rpar w = none) : 42 ∉ w := fun hm => by
  obtain ⟨a, b, rfl, hb⟩ : ∃ a b, w = a ++ 42 :: b ∧ 42 ∉ b := by
    induction w with
    | nil => cases hm
    | cons x l ih =>
      by_cases hl : 42 ∈ l
      · have : rpar l = none := by
          unfold rpar at h
          cases z : rpar l with
          | none => rfl
          | some p => rw [z] at h; cases h
        obtain ⟨a, b, e, f⟩ := ih this hl
        exact ⟨x :: a, b, by rw [e]; rfl, f⟩
      · rcases List.mem_cons.mp hm with h1 | h1
        · exact ⟨[], l, by rw [← h1]; rfl, hl⟩
        · exact absurd h1 hl
  rw [rpar_star hb] at h
  cases h
theorem at_star (w : List Nat) (i : Nat) : StrLaws.At (S w) (S [42]) (S w).length i ↔ w[i]? = some 42 := by
  rw [TL.at_iff (by simp [TL.tl])]
  show TL.pre [42] (w.drop i) = true ↔ _
  rw [← List.head?_drop]
  cases w.drop i with
  | nil => simp [TL.pre]
  | cons c r => simp [TL.pre]
theorem rpart_S (w : List Nat) : Txt.rpartition (S w) (S [42]) = match rpar w with | some (a, b) => (S a, S [42], S b) | none => (S [], S [], S w) := by
  unfold Txt.rpartition
  rcases StrLaws.last_spec (S w) (S [42]) with ⟨e, h⟩ | ⟨i, e, h, h2⟩
  · rw [e]
    have : rpar w = none := by
      cases q : rpar w with
      | none => rfl
      | some p =>
        obtain ⟨a, b⟩ := p
        obtain ⟨e, _⟩ := rpar_some q
        exact absurd ((at_star w a.length).mpr (by rw [e]; simp)) (h _)
    rw [this]
    rfl
  · rw [e]
    have hi := (at_star w i).mp h
    cases q : rpar w with
    | none => exact absurd (List.mem_of_getElem? hi) (rpar_no q)
    | some p =>
      obtain ⟨a, b⟩ := p
      obtain ⟨ew, hb⟩ := rpar_some q
      have hi2 : i = a.length := by
        rcases Nat.lt_trichotomy i a.length with hl | hl | hl
        · exact absurd ((at_star w a.length).mpr (by rw [ew]; simp)) (h2 _ hl)
        · exact hl
        · exfalso
          rw [ew, List.getElem?_append_right (by omega), show i - a.length = (i - a.length - 1) + 1 from by omega, List.getElem?_cons_succ] at hi
          exact hb (List.mem_of_getElem? hi)
      subst hi2
      show (strSub (S w) 0 a.length, S [42], strSub (S w) (a.length + (S [42]).length) (S w).length) = _
      have e1 : strSub (S w) 0 a.length = S a := TL.ext_tl (by rw [TL.tl_strSub]; show (w.drop 0).take _ = a; rw [ew]; simp)
      have e2 : strSub (S w) (a.length + (S [42]).length) (S w).length = S b := TL.ext_tl (by rw [TL.tl_strSub_end]; show w.drop (a.length + 1) = b; rw [ew]; simp)
      rw [e1, e2]
end K82
end

/-! text K82Size -/
section
/-! k82, the plain law: sizes. -/
namespace K82
open PySem L2
open TL (numL spl joinL par pre)
open NumText (digitsVal AllDigits)
theorem digits_lt : ∀ (n : Nat) (l : List Nat), l.length = n → (∀ c ∈ l, c ≤ 57) → digitsVal l < 10 ^ n
  | 0, l, h, _ => by
    have : l = [] := List.length_eq_zero_iff.mp h
    subst this
    decide
  | n + 1, l, h, hc => by
    have hne : l ≠ [] := by intro e; subst e; cases h
    have e := (List.dropLast_concat_getLast hne)
    rw [← e, NumText.digitsVal_snoc]
    have ih := digits_lt n l.dropLast (by simp; omega) fun c hm => hc c (List.dropLast_subset _ hm)
    have := hc _ (List.getLast_mem hne)
    rw [Nat.pow_succ]
    omega
theorem figs_all {t : List Nat} {m : Nat} (h : figs t m = true) : 1 ≤ t.length ∧ t.length ≤ m ∧ t.all (fun c => decide (48 ≤ c) && decide (c ≤ 57)) = true := by
  unfold figs at h
  simp only [Bool.and_eq_true, decide_eq_true_eq] at h
  exact ⟨h.1.1, h.1.2, h.2⟩
theorem figs_lt {t : List Nat} {m : Nat} (h : figs t m = true) : digitsVal t < 10 ^ m := by
  obtain ⟨h1, h2, h3⟩ := figs_all h
  have := digits_lt t.length t rfl fun c hc => by
    have := List.all_eq_true.mp h3 c hc
    simp only [Bool.and_eq_true, decide_eq_true_eq] at this
    exact this.2
  exact Nat.lt_of_lt_of_le this (Nat.pow_le_pow_right (by decide) h2)
def small (v : Nat) : Prop := v < 10 ^ 400
theorem small_len {v : Nat} (h : small v) : (numL v).length ≤ 400 := TL.numL_len (by decide) h
theorem small_le {v : Nat} (h : v ≤ 65535) : small v := Nat.lt_of_le_of_lt h (by decide +kernel)
theorem small_log {v : Nat} (h : small v) : v.log2 < 1920 := by
  rcases Nat.eq_zero_or_pos v with rfl | hp
  · decide
  · refine (Nat.log2_lt (by omega)).mpr (Nat.lt_trans h ?_)
    decide +kernel
theorem join_len : ∀ (ws : List (List Nat)) (k : Nat), (∀ w ∈ ws, w.length ≤ k) → (joinL [32] ws).length ≤ ws.length * (k + 1)
  | [], k, _ => by simp [joinL]
  | [w], k, h => by have := h w (by simp); simp [joinL]; omega
  | w :: x :: t, k, h => by
    have ih := join_len (x :: t) k fun w hw => h w (List.mem_cons_of_mem _ hw)
    have := h w (by simp)
    simp only [joinL, List.length_append, List.length_cons, List.length_nil, Nat.add_mul] at ih ⊢
    omega
theorem word_len {p : Nat × Nat} (h1 : p.1 ≤ 999) (h2 : small p.2) : (word p).length ≤ 404 := by
  have a : (numL p.1).length ≤ 3 := TL.numL_len (by decide) (by omega)
  have b := small_len h2
  unfold word
  split
  · omega
  · simp only [List.length_append, List.length_cons]; omega
theorem grp_le : ∀ ns : List Nat, (grp ns).length ≤ ns.length
  | [] => Nat.le_refl _
  | x :: r => by
    have ih := grp_le r
    unfold grp
    cases q : grp r with
    | nil => simp
    | cons p t =>
      obtain ⟨k, y⟩ := p
      rw [q] at ih
      simp only [List.length_cons] at ih
      simp only
      split <;> simp only [List.length_cons] <;> omega
theorem row_len {ns : List Nat} (hl : ns.length ≤ 256) (hv : ∀ v ∈ ns, small v) : (rowT ns).length ≤ 103680 := by
  have := join_len ((grp ns).map word) 404 fun w hw => by
    obtain ⟨p, hp, rfl⟩ := List.mem_map.mp hw
    have h1 := grp_len ns p hp
    exact word_len (by omega) (hv _ (grp_pos ns p hp).2)
  have h2 := grp_le ns
  rw [List.length_map] at this
  unfold rowT
  omega
theorem lineT_len {h ns : List Nat} (hh : h.length ≤ 20) (hl : ns.length ≤ 256) (hv : ∀ v ∈ ns, small v) : (lineT h ns).length ≤ 103701 := by
  have := row_len hl hv
  unfold lineT
  split
  · omega
  · simp only [List.length_append, List.length_cons]; omega
theorem numsGo_small : ∀ (ws : List (List Nat)) (f ns : List Nat), numsGo ws f = some ns → f.length ≤ 256 → (∀ v ∈ f, small v) → ns.length ≤ 256 ∧ ∀ v ∈ ns, small v
  | [], f, ns, h, h1, h2 => by
    cases h; exact ⟨h1, h2⟩
  | w :: ws, f, ns, h, h1, h2 => by
    unfold numsGo at h
    split at h
    · rename_i hf
      simp only [Bool.and_eq_true] at hf
      split at h
      · cases h
      · rename_i hl
        refine numsGo_small ws _ ns h (by omega) fun v hv => ?_
        rcases List.mem_append.mp hv with hv | hv
        · exact h2 v hv
        · rw [List.mem_replicate] at hv
          rw [hv.2]
          exact figs_lt hf.2
    · cases h
theorem numsOf_small {t ns : List Nat} (h : numsOf t = some ns) : ns.length ≤ 256 ∧ ∀ v ∈ ns, small v := numsGo_small _ _ _ h (by simp) (by simp)
theorem rowIn_small {l h ns : List Nat} (e : rowIn l h = some ns) : ns.length ≤ 256 ∧ ∀ v ∈ ns, small v := by
  unfold rowIn at e
  split at e
  · cases e; simp
  · split at e
    · split at e
      · rename_i ms hm
        split at e
        · cases e; exact numsOf_small hm
        · cases e
      · cases e
    · cases e
end K82
end

/-! text K82Tab -/
section
namespace K82
open Pv PySem L2 PySem.Spec PyProof.Rows
def f0 : Fn := ⟨"is_whole", ["value"], ["value"], [
  .ret (.and (.bi (.isin .int) [.var 0]) (.not (.bi (.isin .bool) [.var 0])))]⟩
def f1 : Fn := ⟨"is_between", ["value", "low", "high"], ["value", "low", "high"], [
  .ret (.and (.call 0 [.var 0]) (.chain .le .le (.var 1) (.var 0) (.var 2)))]⟩
def f2 : Fn := ⟨"are_between", ["value", "many", "low", "high"], ["value", "many", "low", "high", "each"], [
  .ret (.and (.bi (.isin .tuple) [.var 0]) (.and (.cmp .eq (.bi .len [.var 0]) (.var 1)) (.bi .all [.comp (.call 1 [.var 4, .var 2, .var 3]) (.nm 4) (.seq (.var 0)) none [4]])))]⟩
def f3 : Fn := ⟨"wrong_in_packet", ["value"], ["value", "index", "each"], [
  .ifs (.or (.not (.bi (.isin .tuple) [.var 0])) (.cmp .gt (.bi .len [.var 0]) (.con (.int 256)))) [.ret (.lst [.con (.none)])] [],
  .ret (.sli (.comp (.var 1) (.tup [(.nm 1), (.nm 2)]) (.enm (.var 0)) (some (.not (.call 1 [.var 2, .con (.int 0), .con (.int 255)]))) [1, 2]) none (some (.con (.int 1))))]⟩
def f4 : Fn := ⟨"are_pairs", ["value"], ["value", "each", "one", "two"], [
  .ifs (.or (.not (.bi (.isin .tuple) [.var 0])) (.cmp .gt (.bi .len [.var 0]) (.con (.int 16)))) [.ret (.con (.bool false))] [],
  .ifs (.not (.bi .all [.comp (.call 2 [.var 1, .con (.int 2), .con (.int 0), .bin .sub (.con (.int 65536)) (.con (.int 1))]) (.nm 1) (.seq (.var 0)) none [1]])) [.ret (.con (.bool false))] [],
  .ret (.bi .all [.comp (.cmp .lt (.idx (.var 2) (.con (.int 0))) (.idx (.var 3) (.con (.int 0)))) (.tup [(.nm 2), (.nm 3)]) (.zip2 (.var 0) (.sli (.var 0) (some (.con (.int 1))) none)) none [2, 3]])]⟩
def f5 : Fn := ⟨"is_sort", ["value"], ["value"], [
  .ifs (.or (.not (.bi (.isin .tuple) [.var 0])) (.or (.cmp .ne (.bi .len [.var 0]) (.con (.int 3))) (.not (.bi (.isin .str) [.idx (.var 0) (.con (.int 0))])))) [.ret (.con (.bool false))] [],
  .ret (.and (.cmp .mem (.idx (.var 0) (.con (.int 0))) (.tup [.con (.str "array"), .con (.str "pairs")])) (.call 1 [.idx (.var 0) (.con (.int 1)), .con (.int 0), .con (.int 1)]))]⟩
def f6 : Fn := ⟨"is_table_by", ["value"], ["value", "is_row"], [
  .ifs (.not (.call 5 [.var 0])) [.ret (.con (.bool false))] [],
  .ifs (.cmp .eq (.idx (.var 0) (.con (.int 0))) (.con (.str "pairs"))) [.ret (.call 4 [.idx (.var 0) (.con (.int 2))])] [],
  .asg (.nm 1) (.and (.bi (.isin .tuple) [.idx (.var 0) (.con (.int 2))]) (.chain .le .le (.con (.int 1)) (.bi .len [.idx (.var 0) (.con (.int 2))]) (.con (.int 32)))),
  .ret (.and (.var 1) (.call 2 [.idx (.var 0) (.con (.int 2)), .bi .len [.idx (.var 0) (.con (.int 2))], .con (.int 0), .bin .sub (.con (.int 65536)) (.con (.int 1))]))]⟩
def f7 : Fn := ⟨"wrong_in_tables", ["value"], ["value", "index", "each"], [
  .ifs (.or (.not (.bi (.isin .tuple) [.var 0])) (.cmp .gt (.bi .len [.var 0]) (.con (.int 6)))) [.ret (.lst [.con (.none)])] [],
  .ret (.sli (.comp (.var 1) (.tup [(.nm 1), (.nm 2)]) (.enm (.var 0)) (some (.not (.call 6 [.var 2]))) [1, 2]) none (some (.con (.int 1))))]⟩
def f8 : Fn := ⟨"is_end", ["value"], ["value"], [
  .ifs (.cmp .is (.var 0) (.con (.none))) [.ret (.con (.bool true))] [],
  .ifs (.or (.not (.bi (.isin .tuple) [.var 0])) (.or (.cmp .ne (.bi .len [.var 0]) (.con (.int 2))) (.not (.bi (.isin .str) [.idx (.var 0) (.con (.int 0))])))) [.ret (.con (.bool false))] [],
  .ifs (.cmp .eq (.idx (.var 0) (.con (.int 0))) (.con (.str "answer"))) [.ret (.call 1 [.idx (.var 0) (.con (.int 1)), .con (.int 0), .bin .sub (.con (.int 65536)) (.con (.int 1))])] [],
  .ret (.and (.cmp .eq (.idx (.var 0) (.con (.int 0))) (.con (.str "fault"))) (.and (.bi (.isin .str) [.idx (.var 0) (.con (.int 1))]) (.cmp .mem (.idx (.var 0) (.con (.int 1))) (.con (.tuple [.str "place", .str "table", .str "index", .str "handle", .str "packet", .str "grant"])))))]⟩
def f9 : Fn := ⟨"is_element", ["value", "place"], ["value", "place", "each"], [
  .asg (.nm 2) (.idx (.var 0) (.var 1)),
  .ifs (.cmp .mem (.var 1) (.tup [.con (.int 0), .con (.int 1)])) [.ret (.call 2 [.var 2, .ite (.cmp .eq (.var 1) (.con (.int 0))) (.con (.int 8)) (.con (.int 16)), .con (.int 0), .bin .sub (.con (.int 65536)) (.con (.int 1))])] [],
  .ifs (.cmp .eq (.var 1) (.con (.int 2))) [.ret (.call 2 [.var 2, .con (.int 4), .con (.int 0), .con (.int 100)])] [],
  .ifs (.cmp .eq (.var 1) (.con (.int 4))) [.ret (.cmp .eq (.call 3 [.var 2]) (.lst []))] [],
  .ifs (.cmp .eq (.var 1) (.con (.int 5))) [.ret (.cmp .eq (.call 7 [.var 2]) (.lst []))] [],
  .ifs (.cmp .eq (.var 1) (.con (.int 7))) [.ret (.and (.call 0 [.var 2]) (.cmp .ge (.var 2) (.con (.int 0))))] [],
  .ifs (.cmp .eq (.var 1) (.con (.int 8))) [.ret (.call 8 [.var 2])] [],
  .ret (.call 1 [.var 2, .con (.int 0), .dsel [.inl 3, .inl 6, .inl 9] [.con (.int 120), .bin .sub (.con (.int 65536)) (.con (.int 1)), .con (.int 1)] (.var 1)])]⟩
def f10 : Fn := ⟨"wrong_in_run", ["value"], ["value", "place"], [
  .ifs (.or (.not (.bi (.isin .tuple) [.var 0])) (.cmp .ne (.bi .len [.var 0]) (.con (.int 10)))) [.ret (.lst [.con (.none)])] [],
  .ret (.sli (.comp (.var 1) (.nm 1) (.rng1 (.con (.int 10))) (some (.not (.call 9 [.var 0, .var 1]))) [1]) none (some (.con (.int 1))))]⟩
def f11 : Fn := ⟨"check_run", ["value"], ["value", "found"], [
  .asg (.nm 1) (.call 10 [.var 0]),
  .ifs (.cmp .ne (.var 1) (.lst [])) [.raise 0 ["index"] [.idx (.var 1) (.con (.int 0))]] []]⟩
def f12 : Fn := ⟨"row_by", ["numbers"], ["numbers", "found", "at", "end"], [
  .par [1, 2] [.lst [], .val (.con (.int 0))],
  .whiles (.cmp .lt (.var 2) (.bi .len [.var 0])) [.asg (.nm 3) (.var 2), .whiles (.and (.cmp .lt (.var 3) (.bi .len [.var 0])) (.cmp .eq (.idx (.var 0) (.var 3)) (.idx (.var 0) (.var 2)))) [.asg (.nm 3) (.bin .add (.var 3) (.con (.int 1)))], .app 1 (.ite (.cmp .eq (.bin .sub (.var 3) (.var 2)) (.con (.int 1))) (.fstr [.idx (.var 0) (.var 2)]) (.fstr [.bin .sub (.var 3) (.var 2), .con (.str "*"), .idx (.var 0) (.var 2)])), .asg (.nm 2) (.var 3)],
  .frz 1,
  .ret (.mt .join (.con (.str " ")) (.var 1))]⟩
def f13 : Fn := ⟨"line_by", ["head", "numbers"], ["head", "numbers"], [
  .ret (.ite (.cmp .eq (.bi .len [.var 1]) (.con (.int 0))) (.var 0) (.bin .add (.bin .add (.var 0) (.con (.str " "))) (.call 12 [.var 1])))]⟩
def f14 : Fn := ⟨"are_figures", ["text", "most"], ["text", "most", "sign"], [
  .ret (.and (.chain .le .le (.con (.int 1)) (.bi .len [.var 0]) (.var 1)) (.bi .all [.comp (.cmp .mem (.var 2) (.con (.str "0123456789"))) (.nm 2) (.seq (.var 0)) none [2]]))]⟩
def f15 : Fn := ⟨"numbers_of", ["text"], ["text", "found", "word", "times", "star", "number"], [
  .asg (.nm 1) (.lst []),
  .fors (.nm 2) (.seq (.mt .split1 (.var 0) (.con (.str " ")))) [.asg (.tup [(.nm 3), (.nm 4), (.nm 5)]) (.mt .rpartition (.var 2) (.con (.str "*"))), .ifs (.cmp .eq (.var 4) (.con (.str ""))) [.asg (.nm 3) (.con (.str "1"))] [], .ifs (.or (.not (.call 14 [.var 3, .con (.int 3)])) (.not (.call 14 [.var 5, .con (.int 400)]))) [.ret (.lst [])] [], .asg (.nm 1) (.bin .add (.var 1) (.bin .mul (.lst [.bi .int [.var 5]]) (.bi .int [.var 3]))), .ifs (.cmp .gt (.bi .len [.var 1]) (.con (.int 256))) [.ret (.lst [])] []],
  .ret (.lst [.bi .tuple [.var 1]])]⟩
def f16 : Fn := ⟨"row_in", ["line", "head"], ["line", "head", "found"], [
  .ifs (.cmp .eq (.var 0) (.var 1)) [.ret (.lst [.tup []])] [],
  .ifs (.not (.mt .startswith (.var 0) (.bin .add (.var 1) (.con (.str " "))))) [.ret (.lst [])] [],
  .asg (.nm 2) (.call 15 [.sli (.var 0) (some (.bin .add (.bi .len [.var 1]) (.con (.int 1)))) none]),
  .ret (.ite (.and (.cmp .ne (.var 2) (.lst [])) (.cmp .eq (.var 0) (.call 13 [.var 1, .idx (.var 2) (.con (.int 0))]))) (.var 2) (.lst []))]⟩
def f17 : Fn := ⟨"end_by", ["end"], ["end"], [
  .ret (.ite (.cmp .is (.var 0) (.con (.none))) (.con (.str "end none")) (.fstr [.con (.str "end "), .idx (.var 0) (.con (.int 0)), .con (.str " "), .idx (.var 0) (.con (.int 1))]))]⟩
def f18 : Fn := ⟨"table_by", ["table"], ["table", "rows", "pair", "number"], [
  .asg (.nm 1) (.ite (.cmp .eq (.idx (.var 0) (.con (.int 0))) (.con (.str "array"))) (.idx (.var 0) (.con (.int 2))) (.comp2 (.var 3) (.nm 2) (.seq (.idx (.var 0) (.con (.int 2)))) none (.nm 3) (.seq (.var 2)) none [2, 3] [3])),
  .ret (.call 13 [.fstr [.idx (.var 0) (.con (.int 0)), .con (.str " "), .idx (.var 0) (.con (.int 1)), .con (.str ":")], .var 1])]⟩
def f19 : Fn := ⟨"written_by", ["run"], ["run", "lines", "registers", "slots", "counters", "place", "packet", "tables", "clock", "steps", "end", "writable", "head", "row", "table"], [
  .asg (.tup [(.nm 2), (.nm 3), (.nm 4), (.nm 5), (.nm 6), (.nm 7), (.nm 8), (.nm 9), (.nm 10), (.nm 11)]) (.var 0),
  .asg (.nm 1) (.lst [.fstr [.con (.str "steps "), .var 9], .fstr [.con (.str "place "), .var 5], .call 17 [.var 10], .fstr [.con (.str "clock "), .var 8], .fstr [.con (.str "writable "), .var 11]]),
  .asg (.nm 1) (.bin .add (.var 1) (.comp (.call 13 [.var 12, .var 13]) (.tup [(.nm 12), (.nm 13)]) (.zip2 (.con (.tuple [.str "registers", .str "slots", .str "counters", .str "packet"])) (.tup [.var 2, .var 3, .var 4, .var 6])) none [12, 13])),
  .ret (.mt .join (.con (.str "\n")) (.bin .add (.var 1) (.comp (.call 18 [.var 14]) (.nm 14) (.seq (.var 7)) none [14])))]⟩
def f20 : Fn := ⟨"end_in", ["line"], ["line", "end", "word", "_", "rest"], [
  .ifs (.cmp .eq (.var 0) (.con (.str "end none"))) [.ret (.lst [.con (.none)])] [],
  .asg (.tup [(.nm 2), (.nm 3), (.nm 4)]) (.mt .partition (.sli (.var 0) (some (.con (.int 4))) none) (.con (.str " "))),
  .asg (.nm 1) (.tup [.var 2, .ite (.and (.cmp .eq (.var 2) (.con (.str "answer"))) (.call 14 [.var 4, .con (.int 5)])) (.bi .int [.var 4]) (.var 4)]),
  .ret (.ite (.and (.call 8 [.var 1]) (.cmp .eq (.var 0) (.call 17 [.var 1]))) (.lst [.var 1]) (.lst []))]⟩
def f21 : Fn := ⟨"number_in", ["line", "head"], ["line", "head", "found"], [
  .asg (.nm 2) (.call 16 [.var 0, .var 1]),
  .ret (.ite (.and (.cmp .ne (.var 2) (.lst [])) (.cmp .eq (.bi .len [.idx (.var 2) (.con (.int 0))]) (.con (.int 1)))) (.bi .list [.idx (.var 2) (.con (.int 0))]) (.lst []))]⟩
def f22 : Fn := ⟨"is_fit", ["head", "value"], ["head", "value"], [
  .ifs (.cmp .mem (.var 0) (.tup [.con (.str "steps"), .con (.str "end")])) [.ret (.con (.bool true))] [],
  .ifs (.cmp .mem (.var 0) (.tup [.con (.str "place"), .con (.str "clock"), .con (.str "writable")])) [.ret (.chain .le .le (.con (.int 0)) (.var 1) (.dsel [.inr "place", .inr "clock", .inr "writable"] [.con (.int 120), .bin .sub (.con (.int 65536)) (.con (.int 1)), .con (.int 1)] (.var 0)))] [],
  .ifs (.cmp .eq (.var 0) (.con (.str "packet"))) [.ret (.call 2 [.var 1, .bi .len [.var 1], .con (.int 0), .con (.int 255)])] [],
  .ifs (.cmp .eq (.var 0) (.con (.str "counters"))) [.ret (.call 2 [.var 1, .con (.int 4), .con (.int 0), .con (.int 100)])] [],
  .ret (.call 2 [.var 1, .ite (.cmp .eq (.var 0) (.con (.str "registers"))) (.con (.int 8)) (.con (.int 16)), .con (.int 0), .bin .sub (.con (.int 65536)) (.con (.int 1))])]⟩
def f23 : Fn := ⟨"told_in", ["line", "head"], ["line", "head", "found"], [
  .ifs (.cmp .eq (.var 1) (.con (.str "end"))) [.ret (.call 20 [.var 0])] [],
  .asg (.nm 2) (.ite (.cmp .mem (.var 1) (.con (.tuple [.str "registers", .str "slots", .str "counters", .str "packet"]))) (.call 16 [.var 0, .var 1]) (.call 21 [.var 0, .var 1])),
  .ret (.ite (.and (.cmp .ne (.var 2) (.lst [])) (.call 22 [.var 1, .idx (.var 2) (.con (.int 0))])) (.var 2) (.lst []))]⟩
def f24 : Fn := ⟨"table_in", ["line"], ["line", "sort", "may", "found", "numbers", "pairs", "table", "at"], [
  .fors (.nm 1) (.seq (.tup [.con (.str "array"), .con (.str "pairs")])) [.fors (.nm 2) (.rng1 (.con (.int 2))) [.asg (.nm 3) (.call 16 [.var 0, .fstr [.var 1, .con (.str " "), .var 2, .con (.str ":")]]), .ifs (.cmp .ne (.var 3) (.lst [])) [.asg (.nm 4) (.idx (.var 3) (.con (.int 0))), .ifs (.and (.cmp .eq (.var 1) (.con (.str "pairs"))) (.cmp .eq (.bin .mod (.bi .len [.var 4]) (.con (.int 2))) (.con (.int 1)))) [.ret (.lst [])] [], .asg (.nm 5) (.bi .tuple [.comp (.sli (.var 4) (some (.var 7)) (some (.bin .add (.var 7) (.con (.int 2))))) (.nm 7) (.rng3 (.con (.int 0)) (.bi .len [.var 4]) (.con (.int 2))) none [7]]), .asg (.nm 6) (.tup [.var 1, .var 2, .ite (.cmp .eq (.var 1) (.con (.str "array"))) (.var 4) (.var 5)]), .ret (.ite (.call 6 [.var 6]) (.lst [.var 6]) (.lst []))] []]],
  .ret (.lst [])]⟩
def f25 : Fn := ⟨"read_by", ["writing"], ["writing", "lines", "told", "tables", "index", "head", "found", "line", "steps", "place", "end", "clock", "writable", "registers", "slots", "counters", "packet"], [
  .par [1, 2, 3] [.val (.mt .split1 (.var 0) (.con (.str "\n"))), .lst [], .lst []],
  .fors (.tup [(.nm 4), (.nm 5)]) (.enm (.con (.tuple [.str "steps", .str "place", .str "end", .str "clock", .str "writable", .str "registers", .str "slots", .str "counters", .str "packet"]))) [.asg (.nm 6) (.ite (.cmp .lt (.var 4) (.bi .len [.var 1])) (.call 23 [.idx (.var 1) (.var 4), .var 5]) (.lst [])), .ifs (.cmp .eq (.var 6) (.lst [])) [.ret (.tup [.lst [.var 4], .tup []])] [], .app 2 (.idx (.var 6) (.con (.int 0)))],
  .fors (.tup [(.nm 4), (.nm 7)]) (.enm (.sli (.var 1) (some (.bi .len [.con (.tuple [.str "steps", .str "place", .str "end", .str "clock", .str "writable", .str "registers", .str "slots", .str "counters", .str "packet"])])) none)) [.asg (.nm 6) (.ite (.cmp .lt (.var 4) (.con (.int 6))) (.call 24 [.var 7]) (.lst [])), .ifs (.cmp .eq (.var 6) (.lst [])) [.ret (.tup [.lst [.bin .add (.var 4) (.bi .len [.con (.tuple [.str "steps", .str "place", .str "end", .str "clock", .str "writable", .str "registers", .str "slots", .str "counters", .str "packet"])])], .tup []])] [], .app 3 (.idx (.var 6) (.con (.int 0)))],
  .frz 2,
  .asgL [(.nm 8), (.nm 9), (.nm 10), (.nm 11), (.nm 12), (.nm 13), (.nm 14), (.nm 15), (.nm 16)] (.var 2),
  .frz 3,
  .ret (.tup [.lst [], .tup [.var 13, .var 14, .var 15, .var 9, .var 16, .bi .tuple [.var 3], .var 11, .var 8, .var 10, .var 12]])]⟩
def f26 : Fn := ⟨"write_snapshot", ["run"], ["run"], [
  .expr (.call 11 [.var 0]),
  .ret (.call 19 [.var 0])]⟩
def f27 : Fn := ⟨"read_snapshot", ["writing"], ["writing", "wrong", "run"], [
  .ifs (.not (.bi (.isin .str) [.var 0])) [.raise 1 ["line"] [.con (.none)]] [],
  .asg (.tup [(.nm 1), (.nm 2)]) (.call 25 [.var 0]),
  .ifs (.cmp .ne (.var 1) (.lst [])) [.raise 1 ["line"] [.idx (.var 1) (.con (.int 0))]] [],
  .ret (.var 2)]⟩
def f28 : Fn := ⟨"_law_well", ["_law_script", "_law_turn"], ["_law_script", "_law_turn", "_law_mixed", "_law_cell", "_law_own", "_law_seed"], [
  .asg (.nm 2) (.bin .add (.con (.int 410009)) (.bin .mul (.con (.int 9173)) (.var 1))),
  .fors (.nm 3) (.seq (.sli (.var 0) none (some (.con (.int 9))))) [.asg (.nm 2) (.bin .mod (.bi .int [.bin .add (.bin .add (.bin .mul (.var 2) (.con (.int 69069))) (.bin .mod (.bi .int [.var 3]) (.con (.int 2147483563)))) (.con (.int 31))]) (.con (.int 2147483629)))],
  .asg (.nm 4) (.ite (.cmp .lt (.var 1) (.bi .len [.var 0])) (.bi .int [.idx (.var 0) (.var 1)]) (.bin .add (.bin .mul (.con (.int 7213)) (.var 1)) (.con (.int 211)))),
  .asg (.nm 5) (.bin .mod (.bi .int [.bin .add (.bin .add (.bin .mul (.var 2) (.con (.int 97))) (.bin .mul (.bin .mod (.bi .int [.var 4]) (.con (.int 2147483563))) (.con (.int 6007)))) (.con (.int 5))]) (.con (.int 2147483629))),
  .ret (.disp [.inr "left", .inr "seed", .inr "many"] [.ite (.cmp .ge (.bi .abs [.var 4]) (.bin .pow (.con (.int 10)) (.con (.int 18)))) (.bi .abs [.var 4]) (.con (.int 0)), .var 5, .con (.int 0)])]⟩
def f29 : Fn := ⟨"_law_draw", ["_law_well_here", "_law_most"], ["_law_well_here", "_law_most", "_law_seed", "_law_figure"], [
  .ifs (.cmp .gt (.dget (.var 0) (.con (.str "left"))) (.con (.int 0))) [.asg (.nm 3) (.bin .mod (.bi .int [.dget (.var 0) (.con (.str "left"))]) (.var 1)), .asg (.sub (.var 0) (.con (.str "left"))) (.bin .fdiv (.bi .int [.dget (.var 0) (.con (.str "left"))]) (.var 1)), .ret (.var 3)] [],
  .asg (.sub (.var 0) (.con (.str "many"))) (.bin .add (.dget (.var 0) (.con (.str "many"))) (.con (.int 1))),
  .asg (.nm 2) (.bin .mod (.bi .int [.bin .add (.bin .add (.bin .mul (.dget (.var 0) (.con (.str "seed"))) (.con (.int 48271))) (.bin .mul (.dget (.var 0) (.con (.str "many"))) (.con (.int 30011)))) (.con (.int 7))]) (.con (.int 2147483629))),
  .asg (.sub (.var 0) (.con (.str "seed"))) (.var 2),
  .ret (.bin .mod (.bi .int [.bin .fdiv (.bin .mod (.bi .int [.bin .mul (.var 2) (.bin .add (.bin .mod (.bi .int [.var 2]) (.con (.int 65537))) (.con (.int 9)))]) (.con (.int 2147483563))) (.con (.int 211))]) (.var 1))]⟩
def f30 : Fn := ⟨"_law_pick", ["_law_well_here", "_law_some"], ["_law_well_here", "_law_some"], [
  .ret (.idx (.var 1) (.call 29 [.var 0, .bi .len [.var 1]]))]⟩
def f31 : Fn := ⟨"_law_words", ["_law_well_here", "_law_many", "_law_most"], ["_law_well_here", "_law_many", "_law_most", "_law_found", "_law_turn"], [
  .asg (.nm 3) (.tup []),
  .fors (.nm 4) (.rng1 (.var 1)) [.ifs (.and (.cmp .ne (.var 3) (.tup [])) (.cmp .eq (.call 29 [.var 0, .con (.int 2)]) (.con (.int 0)))) [.asg (.nm 3) (.bin .add (.var 3) (.sli (.var 3) (some (.neg (.con (.int 1)))) none))] [.asg (.nm 3) (.bin .add (.var 3) (.tup [.call 30 [.var 0, .lst [.con (.int 0), .con (.int 1), .var 2, .call 29 [.var 0, .bin .add (.var 2) (.con (.int 1))]]]]))]],
  .ret (.var 3)]⟩
def f32 : Fn := ⟨"_law_any_tables", ["_law_well_here"], ["_law_well_here", "_law_found", "_law_turn", "_law_may", "_law_rows", "_law_key", "_law_pair"], [
  .asg (.nm 1) (.tup []),
  .fors (.nm 2) (.rng1 (.call 29 [.var 0, .con (.int 7)])) [.par [3, 4, 5] [.val (.call 29 [.var 0, .con (.int 2)]), .val (.tup []), .val (.call 29 [.var 0, .con (.int 3)])], .ifs (.cmp .eq (.call 29 [.var 0, .con (.int 2)]) (.con (.int 0))) [.asg (.nm 1) (.bin .add (.var 1) (.tup [.tup [.con (.str "array"), .var 3, .call 31 [.var 0, .bin .add (.con (.int 1)) (.call 29 [.var 0, .con (.int 32)]), .con (.int 65535)]]]))] [.fors (.nm 6) (.rng1 (.call 29 [.var 0, .con (.int 17)])) [.asg (.nm 4) (.bin .add (.var 4) (.tup [.tup [.var 5, .call 30 [.var 0, .lst [.var 5, .con (.int 0), .con (.int 65535)]]]])), .asg (.nm 5) (.bin .add (.bin .add (.var 5) (.con (.int 1))) (.call 29 [.var 0, .con (.int 900)]))], .asg (.nm 1) (.bin .add (.var 1) (.tup [.tup [.con (.str "pairs"), .var 3, .var 4]]))]],
  .ret (.var 1)]⟩
def f33 : Fn := ⟨"_law_any_run", ["_law_well_here"], ["_law_well_here", "_law_kind", "_law_end", "_law_steps", "_law_packet", "_law_regs", "_law_slots", "_law_counters", "_law_place", "_law_clock"], [
  .asg (.nm 1) (.call 30 [.var 0, .lst [.con (.str "place"), .con (.str "table"), .con (.str "index"), .con (.str "handle"), .con (.str "packet"), .con (.str "grant")]]),
  .asg (.nm 2) (.call 30 [.var 0, .lst [.con (.none), .tup [.con (.str "answer"), .call 29 [.var 0, .con (.int 65536)]], .tup [.con (.str "answer"), .con (.int 0)], .tup [.con (.str "fault"), .var 1]]]),
  .asg (.nm 3) (.call 30 [.var 0, .lst [.con (.int 0), .con (.int 7), .call 29 [.var 0, .bin .pow (.con (.int 10)) (.con (.int 9))], .bin .add (.bin .pow (.con (.int 10)) (.con (.int 29))) (.con (.int 1))]]),
  .asg (.nm 4) (.call 31 [.var 0, .call 30 [.var 0, .lst [.con (.int 0), .con (.int 1), .con (.int 9), .con (.int 256)]], .con (.int 255)]),
  .par [5, 6, 7] [.val (.call 31 [.var 0, .con (.int 8), .con (.int 65535)]), .val (.call 31 [.var 0, .con (.int 16), .con (.int 65535)]), .val (.call 31 [.var 0, .con (.int 4), .con (.int 100)])],
  .par [8, 9] [.val (.call 29 [.var 0, .con (.int 121)]), .val (.call 29 [.var 0, .con (.int 65536)])],
  .ret (.tup [.var 5, .var 6, .var 7, .var 8, .var 4, .call 32 [.var 0], .var 9, .var 3, .var 2, .call 29 [.var 0, .con (.int 2)]])]⟩
def f34 : Fn := ⟨"_law_row", ["_law_ahead", "_law_numbers"], ["_law_ahead", "_law_numbers", "_law_parts", "_law_at", "_law_many"], [
  .par [2, 3] [.lst [.var 0], .val (.con (.int 0))],
  .whiles (.cmp .lt (.var 3) (.bi .len [.var 1])) [.asg (.nm 4) (.con (.int 1)), .whiles (.and (.cmp .lt (.bin .add (.var 3) (.var 4)) (.bi .len [.var 1])) (.cmp .eq (.idx (.var 1) (.bin .add (.var 3) (.var 4))) (.idx (.var 1) (.var 3)))) [.asg (.nm 4) (.bin .add (.var 4) (.con (.int 1)))], .app 2 (.ite (.cmp .eq (.var 4) (.con (.int 1))) (.bi .str [.idx (.var 1) (.var 3)]) (.bin .add (.bin .add (.bi .str [.var 4]) (.con (.str "*"))) (.bi .str [.idx (.var 1) (.var 3)]))), .asg (.nm 3) (.bin .add (.var 3) (.var 4))],
  .frz 2,
  .ret (.mt .join (.con (.str " ")) (.var 2))]⟩
def f35 : Fn := ⟨"_law_lines", ["_law_run"], ["_law_run", "_law_end", "_law_found", "_law_sort", "_law_may", "_law_rows", "_law_numbers", "_law_key", "_law_value"], [
  .asg (.nm 1) (.ite (.cmp .is (.idx (.var 0) (.con (.int 8))) (.con (.none))) (.con (.str "none")) (.bin .add (.bin .add (.idx (.idx (.var 0) (.con (.int 8))) (.con (.int 0))) (.con (.str " "))) (.bi .str [.idx (.idx (.var 0) (.con (.int 8))) (.con (.int 1))]))),
  .own 2 (.lst [.bin .add (.con (.str "steps ")) (.bi .str [.idx (.var 0) (.con (.int 7))]), .bin .add (.con (.str "place ")) (.bi .str [.idx (.var 0) (.con (.int 3))]), .bin .add (.con (.str "end ")) (.var 1), .bin .add (.con (.str "clock ")) (.bi .str [.idx (.var 0) (.con (.int 6))])]),
  .frz 2,
  .own 2 (.cat (.var 2) (.lst [.bin .add (.con (.str "writable ")) (.bi .str [.idx (.var 0) (.con (.int 9))]), .call 34 [.con (.str "registers"), .idx (.var 0) (.con (.int 0))], .call 34 [.con (.str "slots"), .idx (.var 0) (.con (.int 1))]])),
  .frz 2,
  .own 2 (.cat (.var 2) (.lst [.call 34 [.con (.str "counters"), .idx (.var 0) (.con (.int 2))], .call 34 [.con (.str "packet"), .idx (.var 0) (.con (.int 4))]])),
  .fors (.tup [(.nm 3), (.nm 4), (.nm 5)]) (.seq (.idx (.var 0) (.con (.int 5)))) [.asg (.nm 6) (.var 5), .ifs (.cmp .eq (.var 3) (.con (.str "pairs"))) [.asg (.nm 6) (.tup []), .fors (.tup [(.nm 7), (.nm 8)]) (.seq (.var 5)) [.asg (.nm 6) (.bin .add (.var 6) (.tup [.var 7, .var 8]))]] [], .app 2 (.call 34 [.bin .add (.bin .add (.bin .add (.var 3) (.con (.str " "))) (.bi .str [.var 4])) (.con (.str ":")), .var 6])],
  .frz 2,
  .ret (.var 2)]⟩
def f36 : Fn := ⟨"_law_refused", ["_law_writing", "_law_due"], ["_law_writing", "_law_due", "e"], [
  .try1 .drop (.call 27 [.var 0]) 1 2 (.cmp .eq (.bi .repr [.exa 2 "line"]) (.bi .repr [.var 1])),
  .ret (.con (.bool false))]⟩
def f37 : Fn := ⟨"_law_spoilt", ["_law_well_here", "_law_lines_here", "_law_at"], ["_law_well_here", "_law_lines_here", "_law_at", "_law_line", "_law_bad", "_law_more"], [
  .asg (.nm 3) (.idx (.var 1) (.var 2)),
  .asg (.nm 4) (.lstT (.var 3) " " [.bin .add (.con (.str " ")) (.var 3), .con (.str ""), .bin .add (.var 3) (.con (.str " 0 0")), .bin .add (.rep (.var 3) " " "  ") (.con (.str " ")), .bi .upper [.var 3], .con (.str "x"), .bin .add (.var 3) (.con (.str "x"))]),
  .asg (.nm 5) (.lst [.lst [.con (.str "steps 00"), .con (.str "steps -1"), .con (.str "place 0")], .lst [.con (.str "place 121"), .con (.str "place 00"), .con (.str "place")], .lst [.con (.str "end answer"), .con (.str "end fault x")]]),
  .asg (.nm 5) (.bin .add (.var 5) (.lst [.lst [.con (.str "clock 65536"), .con (.str "clock 0x1")], .lst [.con (.str "writable 2"), .con (.str "writable")], .lst [.con (.str "registers 7*0"), .con (.str "registers 9*0")]])),
  .asg (.nm 5) (.bin .add (.var 5) (.lst [.lst [.con (.str "slots 15*3"), .con (.str "slots 16*65536"), .con (.str "slots 8*0 8*0")], .lst [.con (.str "counters 4*101"), .con (.str "counters 0 0 0 0")]])),
  .asg (.nm 5) (.bin .add (.var 5) (.lst [.lst [.con (.str "packet 256"), .con (.str "packet 1*1"), .con (.str "packet 2*1 1"), .con (.str "packet "), .con (.str "packet 257*0")]])),
  .ifs (.cmp .lt (.var 2) (.con (.int 9))) [.asg (.nm 4) (.bin .add (.var 4) (.idx (.var 5) (.var 2)))] [.asg (.nm 4) (.bin .add (.var 4) (.lst [.con (.str "array 2: 0"), .con (.str "array 1:"), .con (.str "pairs 1: 3"), .con (.str "pairs 1: 3 4 3 5"), .con (.str "array 0: 65536")])), .asg (.nm 4) (.bin .add (.var 4) (.lst [.con (.str "array 0: 33*1"), .con (.str "pairs 1: ")]))],
  .ret (.call 30 [.var 0, .var 4])]⟩
def f38 : Fn := ⟨"_law_right", ["_law_well_here"], ["_law_well_here", "_law_run", "_law_lines_here", "_law_writing", "_law_turn", "_law_at", "_law_many", "_law_other"], [
  .asg (.nm 1) (.call 33 [.var 0]),
  .asg (.nm 2) (.call 35 [.var 1]),
  .asg (.nm 3) (.mt .join (.con (.str "\n")) (.var 2)),
  .ifs (.or (.cmp .ne (.call 26 [.var 1]) (.var 3)) (.cmp .ne (.callK 26 ["run"] [.var 1] [0]) (.var 3))) [.ret (.con (.bool false))] [],
  .ifs (.or (.cmp .ne (.bi .repr [.call 27 [.var 3]]) (.bi .repr [.var 1])) (.cmp .ne (.bi .repr [.callK 27 ["writing"] [.var 3] [0]]) (.bi .repr [.var 1]))) [.ret (.con (.bool false))] [],
  .fors (.nm 4) (.rng1 (.con (.int 4))) [.asg (.nm 5) (.call 29 [.var 0, .bi .len [.var 2]]), .ifs (.not (.call 36 [.mt .join (.con (.str "\n")) (.bin .add (.bin .add (.sli (.var 2) none (some (.var 5))) (.lst [.call 37 [.var 0, .var 2, .var 5]])) (.sli (.var 2) (some (.bin .add (.var 5) (.con (.int 1)))) none)), .var 5])) [.ret (.con (.bool false))] []],
  .asg (.nm 5) (.call 29 [.var 0, .con (.int 9)]),
  .ifs (.or (.not (.call 36 [.mt .join (.con (.str "\n")) (.sli (.var 2) none (some (.var 5))), .var 5])) (.not (.call 36 [.mt .join (.con (.str "\n")) (.bin .add (.var 2) (.lst [.con (.str "x")])), .bi .len [.var 2]]))) [.ret (.con (.bool false))] [],
  .par [6, 7] [.val (.bin .add (.sli (.var 2) none (some (.con (.int 9)))) (.bin .mul (.lst [.con (.str "array 1: 5")]) (.con (.int 7)))), .val (.call 30 [.var 0, .lst [.con (.none), .con (.int 5), .var 2, .con (.bool true), .lst [], .tup [.con (.str "x")]]])],
  .ret (.and (.call 36 [.mt .join (.con (.str "\n")) (.var 6), .con (.int 15)]) (.call 36 [.var 7, .con (.none)]))]⟩
def f39 : Fn := ⟨"law", ["_law_script"], ["_law_script", "_law_turn"], [
  .ret (.bi .all [.comp (.call 38 [.call 28 [.var 0, .var 1]]) (.nm 1) (.rng1 (.bi .max2 [.con (.int 1), .bi .min2 [.bi .len [.var 0], .con (.int 2)]])) none [1]])]⟩
def tab : List Fn := [f0, f1, f2, f3, f4, f5, f6, f7, f8, f9, f10, f11, f12, f13, f14, f15] ++ [f16, f17, f18, f19, f20, f21, f22, f23, f24, f25, f26, f27, f28, f29, f30, f31] ++ [f32, f33, f34, f35, f36, f37, f38, f39]
def gCon : List (Str × PyData) := ([("WORD", .int 65536), ("MOST_BYTES", .int 256), ("MOST_TABLES", .int 6), ("MOST_CELLS", .int 32), ("MOST_PAIRS", .int 16), ("MOST_ROWS", .int 120), ("MOST_SLOTS", .int 16), ("MOST_AGAIN", .int 100), ("REGISTERS", .int 0), ("SLOTS", .int 1), ("COUNTERS", .int 2), ("PLACE", .int 3), ("PACKET", .int 4), ("TABLES", .int 5), ("CLOCK", .int 6), ("STEPS", .int 7)] : List (Str × PyData)) ++ ([("END", .int 8), ("WRITABLE", .int 9), ("KINDS", .tuple [.str "place", .str "table", .str "index", .str "handle", .str "packet", .str "grant"]), ("FIGURES", .str "0123456789"), ("MOST_FIGURES", .int 400), ("MOST_ROW", .int 256), ("ROWS", .tuple [.str "registers", .str "slots", .str "counters", .str "packet"]), ("HEADS", .tuple [.str "steps", .str "place", .str "end", .str "clock", .str "writable", .str "registers", .str "slots", .str "counters", .str "packet"])] : List (Str × PyData))
def gFns : List Str := (["is_whole", "is_between", "are_between", "wrong_in_packet", "are_pairs", "is_sort", "is_table_by", "wrong_in_tables", "is_end", "is_element", "wrong_in_run", "check_run", "row_by", "line_by", "are_figures", "numbers_of"] : List Str) ++ (["row_in", "end_by", "table_by", "written_by", "end_in", "number_in", "is_fit", "told_in", "table_in", "read_by", "write_snapshot", "read_snapshot", "_law_well", "_law_draw", "_law_pick", "_law_words"] : List Str) ++ (["_law_any_tables", "_law_any_run", "_law_row", "_law_lines", "_law_refused", "_law_spoilt", "_law_right", "law"] : List Str)
def gi : Gi := ⟨gCon, gFns,
  [("InvalidRun", "index"), ("InvalidSnapshot", "line")],
  ["abs", "all", "bool", "enumerate", "int", "isinstance", "len", "list", "max", "min", "range", "repr", "str", "tuple", "zip"],
  [(26, ["run"], [0]), (27, ["writing"], [0])]⟩

def top (i : Nat) : Stmt := PySem.Challenge.pw_suresieves_k82_snapshots_by_own_writing.main.body.getD i (.Pass ⟨0, 0, 0, 0⟩)
abbrev st0 : Stmt := top 6
theorem sc0 : FnScope f0.N f0.ps (defScope st0) := ⟨rfl, rfl, rfl, by decide +kernel, rfl, by decide +kernel, by decide +kernel⟩
theorem ms0 : mSs ⟨gi, f0.N, defScope st0, fun _ => true, true⟩ f0.body (defBody st0) = true := by decide +kernel
theorem sf0 : FnStat gi 0 "is_whole" f0 st0 := ⟨rfl, sc0, ms0, fun _ _ _ _ _ _ us hl => match us, hl with | [_], _ => rfl, kb_of (l := []) (by decide +kernel) (List.forall_mem_nil _)⟩
abbrev st1 : Stmt := top 7
theorem sc1 : FnScope f1.N f1.ps (defScope st1) := ⟨rfl, rfl, rfl, by decide +kernel, rfl, by decide +kernel, by decide +kernel⟩
theorem ms1 : mSs ⟨gi, f1.N, defScope st1, fun _ => true, true⟩ f1.body (defBody st1) = true := by decide +kernel
theorem sf1 : FnStat gi 1 "is_between" f1 st1 := ⟨rfl, sc1, ms1, fun _ _ _ _ _ _ us hl => match us, hl with | [_, _, _], _ => rfl, kb_of (l := []) (by decide +kernel) (List.forall_mem_nil _)⟩
abbrev st2 : Stmt := top 8
theorem sc2 : FnScope f2.N f2.ps (defScope st2) := ⟨rfl, rfl, rfl, by decide +kernel, rfl, by decide +kernel, by decide +kernel⟩
theorem ms2 : mSs ⟨gi, f2.N, defScope st2, fun _ => true, true⟩ f2.body (defBody st2) = true := by decide +kernel
theorem sf2 : FnStat gi 2 "are_between" f2 st2 := ⟨rfl, sc2, ms2, fun _ _ _ _ _ _ us hl => match us, hl with | [_, _, _, _], _ => rfl, kb_of (l := []) (by decide +kernel) (List.forall_mem_nil _)⟩
abbrev st3 : Stmt := top 14
theorem sc3 : FnScope f3.N f3.ps (defScope st3) := ⟨rfl, rfl, rfl, by decide +kernel, rfl, by decide +kernel, by decide +kernel⟩
theorem ms3 : mSs ⟨gi, f3.N, defScope st3, fun _ => true, true⟩ f3.body (defBody st3) = true := by decide +kernel
theorem sf3 : FnStat gi 3 "wrong_in_packet" f3 st3 := ⟨rfl, sc3, ms3, fun _ _ _ _ _ _ us hl => match us, hl with | [_], _ => rfl, kb_of (l := []) (by decide +kernel) (List.forall_mem_nil _)⟩
abbrev st4 : Stmt := top 15
theorem sc4 : FnScope f4.N f4.ps (defScope st4) := ⟨rfl, rfl, rfl, by decide +kernel, rfl, by decide +kernel, by decide +kernel⟩
theorem ms4 : mSs ⟨gi, f4.N, defScope st4, fun _ => true, true⟩ f4.body (defBody st4) = true := by decide +kernel
theorem sf4 : FnStat gi 4 "are_pairs" f4 st4 := ⟨rfl, sc4, ms4, fun _ _ _ _ _ _ us hl => match us, hl with | [_], _ => rfl, kb_of (l := []) (by decide +kernel) (List.forall_mem_nil _)⟩
abbrev st5 : Stmt := top 16
theorem sc5 : FnScope f5.N f5.ps (defScope st5) := ⟨rfl, rfl, rfl, by decide +kernel, rfl, by decide +kernel, by decide +kernel⟩
theorem ms5 : mSs ⟨gi, f5.N, defScope st5, fun _ => true, true⟩ f5.body (defBody st5) = true := by decide +kernel
theorem sf5 : FnStat gi 5 "is_sort" f5 st5 := ⟨rfl, sc5, ms5, fun _ _ _ _ _ _ us hl => match us, hl with | [_], _ => rfl, kb_of (l := []) (by decide +kernel) (List.forall_mem_nil _)⟩
abbrev st6 : Stmt := top 17
theorem sc6 : FnScope f6.N f6.ps (defScope st6) := ⟨rfl, rfl, rfl, by decide +kernel, rfl, by decide +kernel, by decide +kernel⟩
theorem ms6 : mSs ⟨gi, f6.N, defScope st6, fun _ => true, true⟩ f6.body (defBody st6) = true := by decide +kernel
theorem sf6 : FnStat gi 6 "is_table_by" f6 st6 := ⟨rfl, sc6, ms6, fun _ _ _ _ _ _ us hl => match us, hl with | [_], _ => rfl, kb_of (l := []) (by decide +kernel) (List.forall_mem_nil _)⟩
abbrev st7 : Stmt := top 18
theorem sc7 : FnScope f7.N f7.ps (defScope st7) := ⟨rfl, rfl, rfl, by decide +kernel, rfl, by decide +kernel, by decide +kernel⟩
theorem ms7 : mSs ⟨gi, f7.N, defScope st7, fun _ => true, true⟩ f7.body (defBody st7) = true := by decide +kernel
theorem sf7 : FnStat gi 7 "wrong_in_tables" f7 st7 := ⟨rfl, sc7, ms7, fun _ _ _ _ _ _ us hl => match us, hl with | [_], _ => rfl, kb_of (l := []) (by decide +kernel) (List.forall_mem_nil _)⟩
abbrev st8 : Stmt := top 34
theorem sc8 : FnScope f8.N f8.ps (defScope st8) := ⟨rfl, rfl, rfl, by decide +kernel, rfl, by decide +kernel, by decide +kernel⟩
theorem ms8 : mSs ⟨gi, f8.N, defScope st8, fun _ => true, true⟩ f8.body (defBody st8) = true := by decide +kernel
theorem sf8 : FnStat gi 8 "is_end" f8 st8 := ⟨rfl, sc8, ms8, fun _ _ _ _ _ _ us hl => match us, hl with | [_], _ => rfl, kb_of (l := []) (by decide +kernel) (List.forall_mem_nil _)⟩
abbrev st9 : Stmt := top 35
theorem sc9 : FnScope f9.N f9.ps (defScope st9) := ⟨rfl, rfl, rfl, by decide +kernel, rfl, by decide +kernel, by decide +kernel⟩
theorem ms9 : mSs ⟨gi, f9.N, defScope st9, fun _ => true, true⟩ f9.body (defBody st9) = true := by decide +kernel
theorem sf9 : FnStat gi 9 "is_element" f9 st9 := ⟨rfl, sc9, ms9, fun _ _ _ _ _ _ us hl => match us, hl with | [_, _], _ => rfl, kb_of (l := []) (by decide +kernel) (List.forall_mem_nil _)⟩
abbrev st10 : Stmt := top 36
theorem sc10 : FnScope f10.N f10.ps (defScope st10) := ⟨rfl, rfl, rfl, by decide +kernel, rfl, by decide +kernel, by decide +kernel⟩
theorem ms10 : mSs ⟨gi, f10.N, defScope st10, fun _ => true, true⟩ f10.body (defBody st10) = true := by decide +kernel
theorem sf10 : FnStat gi 10 "wrong_in_run" f10 st10 := ⟨rfl, sc10, ms10, fun _ _ _ _ _ _ us hl => match us, hl with | [_], _ => rfl, kb_of (l := []) (by decide +kernel) (List.forall_mem_nil _)⟩
abbrev st11 : Stmt := top 38
theorem sc11 : FnScope f11.N f11.ps (defScope st11) := ⟨rfl, rfl, rfl, by decide +kernel, rfl, by decide +kernel, by decide +kernel⟩
theorem ms11 : mSs ⟨gi, f11.N, defScope st11, fun _ => true, true⟩ f11.body (defBody st11) = true := by decide +kernel
theorem sf11 : FnStat gi 11 "check_run" f11 st11 := ⟨rfl, sc11, ms11, fun _ _ _ _ _ _ us hl => match us, hl with | [_], _ => rfl, kb_of (l := []) (by decide +kernel) (List.forall_mem_nil _)⟩
abbrev st12 : Stmt := top 45
theorem sc12 : FnScope f12.N f12.ps (defScope st12) := ⟨rfl, rfl, rfl, by decide +kernel, rfl, by decide +kernel, by decide +kernel⟩
theorem ms12 : mSs ⟨gi, f12.N, defScope st12, fun _ => true, true⟩ f12.body (defBody st12) = true := by decide +kernel
theorem sf12 : FnStat gi 12 "row_by" f12 st12 := ⟨rfl, sc12, ms12, fun _ _ _ _ _ _ us hl => match us, hl with | [_], _ => rfl, kb_of (l := []) (by decide +kernel) (List.forall_mem_nil _)⟩
abbrev st13 : Stmt := top 46
theorem sc13 : FnScope f13.N f13.ps (defScope st13) := ⟨rfl, rfl, rfl, by decide +kernel, rfl, by decide +kernel, by decide +kernel⟩
theorem ms13 : mSs ⟨gi, f13.N, defScope st13, fun _ => true, true⟩ f13.body (defBody st13) = true := by decide +kernel
theorem sf13 : FnStat gi 13 "line_by" f13 st13 := ⟨rfl, sc13, ms13, fun _ _ _ _ _ _ us hl => match us, hl with | [_, _], _ => rfl, kb_of (l := []) (by decide +kernel) (List.forall_mem_nil _)⟩
abbrev st14 : Stmt := top 47
theorem sc14 : FnScope f14.N f14.ps (defScope st14) := ⟨rfl, rfl, rfl, by decide +kernel, rfl, by decide +kernel, by decide +kernel⟩
theorem ms14 : mSs ⟨gi, f14.N, defScope st14, fun _ => true, true⟩ f14.body (defBody st14) = true := by decide +kernel
theorem sf14 : FnStat gi 14 "are_figures" f14 st14 := ⟨rfl, sc14, ms14, fun _ _ _ _ _ _ us hl => match us, hl with | [_, _], _ => rfl, kb_of (l := []) (by decide +kernel) (List.forall_mem_nil _)⟩
abbrev st15 : Stmt := top 48
theorem sc15 : FnScope f15.N f15.ps (defScope st15) := ⟨rfl, rfl, rfl, by decide +kernel, rfl, by decide +kernel, by decide +kernel⟩
theorem ms15 : mSs ⟨gi, f15.N, defScope st15, fun _ => true, true⟩ f15.body (defBody st15) = true := by decide +kernel
theorem sf15 : FnStat gi 15 "numbers_of" f15 st15 := ⟨rfl, sc15, ms15, fun _ _ _ _ _ _ us hl => match us, hl with | [_], _ => rfl, kb_of (l := []) (by decide +kernel) (List.forall_mem_nil _)⟩
abbrev st16 : Stmt := top 49
theorem sc16 : FnScope f16.N f16.ps (defScope st16) := ⟨rfl, rfl, rfl, by decide +kernel, rfl, by decide +kernel, by decide +kernel⟩
theorem ms16 : mSs ⟨gi, f16.N, defScope st16, fun _ => true, true⟩ f16.body (defBody st16) = true := by decide +kernel
theorem sf16 : FnStat gi 16 "row_in" f16 st16 := ⟨rfl, sc16, ms16, fun _ _ _ _ _ _ us hl => match us, hl with | [_, _], _ => rfl, kb_of (l := []) (by decide +kernel) (List.forall_mem_nil _)⟩
abbrev st17 : Stmt := top 50
theorem sc17 : FnScope f17.N f17.ps (defScope st17) := ⟨rfl, rfl, rfl, by decide +kernel, rfl, by decide +kernel, by decide +kernel⟩
theorem ms17 : mSs ⟨gi, f17.N, defScope st17, fun _ => true, true⟩ f17.body (defBody st17) = true := by decide +kernel
theorem sf17 : FnStat gi 17 "end_by" f17 st17 := ⟨rfl, sc17, ms17, fun _ _ _ _ _ _ us hl => match us, hl with | [_], _ => rfl, kb_of (l := []) (by decide +kernel) (List.forall_mem_nil _)⟩
abbrev st18 : Stmt := top 51
theorem sc18 : FnScope f18.N f18.ps (defScope st18) := ⟨rfl, rfl, rfl, by decide +kernel, rfl, by decide +kernel, by decide +kernel⟩
theorem ms18 : mSs ⟨gi, f18.N, defScope st18, fun _ => true, true⟩ f18.body (defBody st18) = true := by decide +kernel
theorem sf18 : FnStat gi 18 "table_by" f18 st18 := ⟨rfl, sc18, ms18, fun _ _ _ _ _ _ us hl => match us, hl with | [_], _ => rfl, kb_of (l := []) (by decide +kernel) (List.forall_mem_nil _)⟩
abbrev st19 : Stmt := top 52
theorem sc19 : FnScope f19.N f19.ps (defScope st19) := ⟨rfl, rfl, rfl, by decide +kernel, rfl, by decide +kernel, by decide +kernel⟩
theorem ms19 : mSs ⟨gi, f19.N, defScope st19, fun _ => true, true⟩ f19.body (defBody st19) = true := by decide +kernel
theorem sf19 : FnStat gi 19 "written_by" f19 st19 := ⟨rfl, sc19, ms19, fun _ _ _ _ _ _ us hl => match us, hl with | [_], _ => rfl, kb_of (l := []) (by decide +kernel) (List.forall_mem_nil _)⟩
abbrev st20 : Stmt := top 53
theorem sc20 : FnScope f20.N f20.ps (defScope st20) := ⟨rfl, rfl, rfl, by decide +kernel, rfl, by decide +kernel, by decide +kernel⟩
theorem ms20 : mSs ⟨gi, f20.N, defScope st20, fun _ => true, true⟩ f20.body (defBody st20) = true := by decide +kernel
theorem sf20 : FnStat gi 20 "end_in" f20 st20 := ⟨rfl, sc20, ms20, fun _ _ _ _ _ _ us hl => match us, hl with | [_], _ => rfl, kb_of (l := []) (by decide +kernel) (List.forall_mem_nil _)⟩
abbrev st21 : Stmt := top 54
theorem sc21 : FnScope f21.N f21.ps (defScope st21) := ⟨rfl, rfl, rfl, by decide +kernel, rfl, by decide +kernel, by decide +kernel⟩
theorem ms21 : mSs ⟨gi, f21.N, defScope st21, fun _ => true, true⟩ f21.body (defBody st21) = true := by decide +kernel
theorem sf21 : FnStat gi 21 "number_in" f21 st21 := ⟨rfl, sc21, ms21, fun _ _ _ _ _ _ us hl => match us, hl with | [_, _], _ => rfl, kb_of (l := []) (by decide +kernel) (List.forall_mem_nil _)⟩
abbrev st22 : Stmt := top 55
theorem sc22 : FnScope f22.N f22.ps (defScope st22) := ⟨rfl, rfl, rfl, by decide +kernel, rfl, by decide +kernel, by decide +kernel⟩
theorem ms22 : mSs ⟨gi, f22.N, defScope st22, fun _ => true, true⟩ f22.body (defBody st22) = true := by decide +kernel
theorem sf22 : FnStat gi 22 "is_fit" f22 st22 := ⟨rfl, sc22, ms22, fun _ _ _ _ _ _ us hl => match us, hl with | [_, _], _ => rfl, kb_of (l := []) (by decide +kernel) (List.forall_mem_nil _)⟩
abbrev st23 : Stmt := top 56
theorem sc23 : FnScope f23.N f23.ps (defScope st23) := ⟨rfl, rfl, rfl, by decide +kernel, rfl, by decide +kernel, by decide +kernel⟩
theorem ms23 : mSs ⟨gi, f23.N, defScope st23, fun _ => true, true⟩ f23.body (defBody st23) = true := by decide +kernel
theorem sf23 : FnStat gi 23 "told_in" f23 st23 := ⟨rfl, sc23, ms23, fun _ _ _ _ _ _ us hl => match us, hl with | [_, _], _ => rfl, kb_of (l := []) (by decide +kernel) (List.forall_mem_nil _)⟩
abbrev st24 : Stmt := top 57
theorem sc24 : FnScope f24.N f24.ps (defScope st24) := ⟨rfl, rfl, rfl, by decide +kernel, rfl, by decide +kernel, by decide +kernel⟩
theorem ms24 : mSs ⟨gi, f24.N, defScope st24, fun _ => true, true⟩ f24.body (defBody st24) = true := by decide +kernel
theorem sf24 : FnStat gi 24 "table_in" f24 st24 := ⟨rfl, sc24, ms24, fun _ _ _ _ _ _ us hl => match us, hl with | [_], _ => rfl, kb_of (l := []) (by decide +kernel) (List.forall_mem_nil _)⟩
abbrev st25 : Stmt := top 58
theorem sc25 : FnScope f25.N f25.ps (defScope st25) := ⟨rfl, rfl, rfl, by decide +kernel, rfl, by decide +kernel, by decide +kernel⟩
theorem ms25 : mSs ⟨gi, f25.N, defScope st25, fun _ => true, true⟩ f25.body (defBody st25) = true := by decide +kernel
theorem sf25 : FnStat gi 25 "read_by" f25 st25 := ⟨rfl, sc25, ms25, fun _ _ _ _ _ _ us hl => match us, hl with | [_], _ => rfl, kb_of (l := []) (by decide +kernel) (List.forall_mem_nil _)⟩
abbrev st26 : Stmt := top 60
theorem sc26 : FnScope f26.N f26.ps (defScope st26) := ⟨rfl, rfl, rfl, by decide +kernel, rfl, by decide +kernel, by decide +kernel⟩
theorem ms26 : mSs ⟨gi, f26.N, defScope st26, fun _ => true, true⟩ f26.body (defBody st26) = true := by decide +kernel
theorem sf26 : FnStat gi 26 "write_snapshot" f26 st26 := ⟨rfl, sc26, ms26, fun _ _ _ _ _ _ us hl => match us, hl with | [_], _ => rfl, kb_of (l := [(26, ["run"], [0])]) (by decide +kernel) (List.forall_mem_cons.mpr ⟨fun _ _ _ _ _ _ ws hl => match ws, hl with | _ :: _, _ => rfl, List.forall_mem_nil _⟩)⟩
abbrev st27 : Stmt := top 61
theorem sc27 : FnScope f27.N f27.ps (defScope st27) := ⟨rfl, rfl, rfl, by decide +kernel, rfl, by decide +kernel, by decide +kernel⟩
theorem ms27 : mSs ⟨gi, f27.N, defScope st27, fun _ => true, true⟩ f27.body (defBody st27) = true := by decide +kernel
theorem sf27 : FnStat gi 27 "read_snapshot" f27 st27 := ⟨rfl, sc27, ms27, fun _ _ _ _ _ _ us hl => match us, hl with | [_], _ => rfl, kb_of (l := [(27, ["writing"], [0])]) (by decide +kernel) (List.forall_mem_cons.mpr ⟨fun _ _ _ _ _ _ ws hl => match ws, hl with | _ :: _, _ => rfl, List.forall_mem_nil _⟩)⟩
abbrev st28 : Stmt := top 63
theorem sc28 : FnScope f28.N f28.ps (defScope st28) := ⟨rfl, rfl, rfl, by decide +kernel, rfl, by decide +kernel, by decide +kernel⟩
theorem ms28 : mSs ⟨gi, f28.N, defScope st28, fun _ => true, true⟩ f28.body (defBody st28) = true := by decide +kernel
theorem sf28 : FnStat gi 28 "_law_well" f28 st28 := ⟨rfl, sc28, ms28, fun _ _ _ _ _ _ us hl => match us, hl with | [_, _], _ => rfl, kb_of (l := []) (by decide +kernel) (List.forall_mem_nil _)⟩
abbrev st29 : Stmt := top 64
theorem sc29 : FnScope f29.N f29.ps (defScope st29) := ⟨rfl, rfl, rfl, by decide +kernel, rfl, by decide +kernel, by decide +kernel⟩
theorem ms29 : mSs ⟨gi, f29.N, defScope st29, fun _ => true, true⟩ f29.body (defBody st29) = true := by decide +kernel
theorem sf29 : FnStat gi 29 "_law_draw" f29 st29 := ⟨rfl, sc29, ms29, fun _ _ _ _ _ _ us hl => match us, hl with | [_, _], _ => rfl, kb_of (l := []) (by decide +kernel) (List.forall_mem_nil _)⟩
abbrev st30 : Stmt := top 65
theorem sc30 : FnScope f30.N f30.ps (defScope st30) := ⟨rfl, rfl, rfl, by decide +kernel, rfl, by decide +kernel, by decide +kernel⟩
theorem ms30 : mSs ⟨gi, f30.N, defScope st30, fun _ => true, true⟩ f30.body (defBody st30) = true := by decide +kernel
theorem sf30 : FnStat gi 30 "_law_pick" f30 st30 := ⟨rfl, sc30, ms30, fun _ _ _ _ _ _ us hl => match us, hl with | [_, _], _ => rfl, kb_of (l := []) (by decide +kernel) (List.forall_mem_nil _)⟩
abbrev st31 : Stmt := top 66
theorem sc31 : FnScope f31.N f31.ps (defScope st31) := ⟨rfl, rfl, rfl, by decide +kernel, rfl, by decide +kernel, by decide +kernel⟩
theorem ms31 : mSs ⟨gi, f31.N, defScope st31, fun _ => true, true⟩ f31.body (defBody st31) = true := by decide +kernel
theorem sf31 : FnStat gi 31 "_law_words" f31 st31 := ⟨rfl, sc31, ms31, fun _ _ _ _ _ _ us hl => match us, hl with | [_, _, _], _ => rfl, kb_of (l := []) (by decide +kernel) (List.forall_mem_nil _)⟩
abbrev st32 : Stmt := top 67
theorem sc32 : FnScope f32.N f32.ps (defScope st32) := ⟨rfl, rfl, rfl, by decide +kernel, rfl, by decide +kernel, by decide +kernel⟩
theorem ms32 : mSs ⟨gi, f32.N, defScope st32, fun _ => true, true⟩ f32.body (defBody st32) = true := by decide +kernel
theorem sf32 : FnStat gi 32 "_law_any_tables" f32 st32 := ⟨rfl, sc32, ms32, fun _ _ _ _ _ _ us hl => match us, hl with | [_], _ => rfl, kb_of (l := []) (by decide +kernel) (List.forall_mem_nil _)⟩
abbrev st33 : Stmt := top 68
theorem sc33 : FnScope f33.N f33.ps (defScope st33) := ⟨rfl, rfl, rfl, by decide +kernel, rfl, by decide +kernel, by decide +kernel⟩
theorem ms33 : mSs ⟨gi, f33.N, defScope st33, fun _ => true, true⟩ f33.body (defBody st33) = true := by decide +kernel
theorem sf33 : FnStat gi 33 "_law_any_run" f33 st33 := ⟨rfl, sc33, ms33, fun _ _ _ _ _ _ us hl => match us, hl with | [_], _ => rfl, kb_of (l := []) (by decide +kernel) (List.forall_mem_nil _)⟩
abbrev st34 : Stmt := top 69
theorem sc34 : FnScope f34.N f34.ps (defScope st34) := ⟨rfl, rfl, rfl, by decide +kernel, rfl, by decide +kernel, by decide +kernel⟩
theorem ms34 : mSs ⟨gi, f34.N, defScope st34, fun _ => true, true⟩ f34.body (defBody st34) = true := by decide +kernel
theorem sf34 : FnStat gi 34 "_law_row" f34 st34 := ⟨rfl, sc34, ms34, fun _ _ _ _ _ _ us hl => match us, hl with | [_, _], _ => rfl, kb_of (l := []) (by decide +kernel) (List.forall_mem_nil _)⟩
abbrev st35 : Stmt := top 70
theorem sc35 : FnScope f35.N f35.ps (defScope st35) := ⟨rfl, rfl, rfl, by decide +kernel, rfl, by decide +kernel, by decide +kernel⟩
theorem ms35 : mSs ⟨gi, f35.N, defScope st35, fun _ => true, true⟩ f35.body (defBody st35) = true := by decide +kernel
theorem sf35 : FnStat gi 35 "_law_lines" f35 st35 := ⟨rfl, sc35, ms35, fun _ _ _ _ _ _ us hl => match us, hl with | [_], _ => rfl, kb_of (l := []) (by decide +kernel) (List.forall_mem_nil _)⟩
abbrev st36 : Stmt := top 71
theorem sc36 : FnScope f36.N f36.ps (defScope st36) := ⟨rfl, rfl, rfl, by decide +kernel, rfl, by decide +kernel, by decide +kernel⟩
theorem ms36 : mSs ⟨gi, f36.N, defScope st36, fun _ => true, true⟩ f36.body (defBody st36) = true := by decide +kernel
theorem sf36 : FnStat gi 36 "_law_refused" f36 st36 := ⟨rfl, sc36, ms36, fun _ _ _ _ _ _ us hl => match us, hl with | [_, _], _ => rfl, kb_of (l := []) (by decide +kernel) (List.forall_mem_nil _)⟩
abbrev st37 : Stmt := top 72
theorem sc37 : FnScope f37.N f37.ps (defScope st37) := ⟨rfl, rfl, rfl, by decide +kernel, rfl, by decide +kernel, by decide +kernel⟩
theorem ms37 : mSs ⟨gi, f37.N, defScope st37, fun _ => true, true⟩ f37.body (defBody st37) = true := by decide +kernel
theorem sf37 : FnStat gi 37 "_law_spoilt" f37 st37 := ⟨rfl, sc37, ms37, fun _ _ _ _ _ _ us hl => match us, hl with | [_, _, _], _ => rfl, kb_of (l := []) (by decide +kernel) (List.forall_mem_nil _)⟩
abbrev st38 : Stmt := top 73
theorem sc38 : FnScope f38.N f38.ps (defScope st38) := ⟨rfl, rfl, rfl, by decide +kernel, rfl, by decide +kernel, by decide +kernel⟩
theorem ms38 : mSs ⟨gi, f38.N, defScope st38, fun _ => true, true⟩ f38.body (defBody st38) = true := by decide +kernel
theorem sf38 : FnStat gi 38 "_law_right" f38 st38 := ⟨rfl, sc38, ms38, fun _ _ _ _ _ _ us hl => match us, hl with | [_], _ => rfl, kb_of (l := []) (by decide +kernel) (List.forall_mem_nil _)⟩
abbrev st39 : Stmt := top 74
theorem sc39 : FnScope f39.N f39.ps (defScope st39) := ⟨rfl, rfl, rfl, by decide +kernel, rfl, by decide +kernel, by decide +kernel⟩
theorem ms39 : mSs ⟨gi, f39.N, defScope st39, fun _ => true, true⟩ f39.body (defBody st39) = true := by decide +kernel
theorem sf39 : FnStat gi 39 "law" f39 st39 := ⟨rfl, sc39, ms39, fun _ _ _ _ _ _ us hl => match us, hl with | [_], _ => rfl, kb_of (l := []) (by decide +kernel) (List.forall_mem_nil _)⟩
def defs : List (Str × Stmt) := ([("is_whole", st0), ("is_between", st1), ("are_between", st2), ("wrong_in_packet", st3), ("are_pairs", st4), ("is_sort", st5), ("is_table_by", st6), ("wrong_in_tables", st7), ("is_end", st8), ("is_element", st9), ("wrong_in_run", st10), ("check_run", st11), ("row_by", st12), ("line_by", st13), ("are_figures", st14), ("numbers_of", st15)] : List (Str × Stmt)) ++ ([("row_in", st16), ("end_by", st17), ("table_by", st18), ("written_by", st19), ("end_in", st20), ("number_in", st21), ("is_fit", st22), ("told_in", st23), ("table_in", st24), ("read_by", st25), ("write_snapshot", st26), ("read_snapshot", st27), ("_law_well", st28), ("_law_draw", st29), ("_law_pick", st30), ("_law_words", st31)] : List (Str × Stmt)) ++ ([("_law_any_tables", st32), ("_law_any_run", st33), ("_law_row", st34), ("_law_lines", st35), ("_law_refused", st36), ("_law_spoilt", st37), ("_law_right", st38), ("law", st39)] : List (Str × Stmt))
theorem stat : StatAll gi tab 0 defs := ⟨⟨_, rfl, sf0⟩, ⟨⟨_, rfl, sf1⟩, ⟨⟨_, rfl, sf2⟩, ⟨⟨_, rfl, sf3⟩, ⟨⟨_, rfl, sf4⟩, ⟨⟨_, rfl, sf5⟩, ⟨⟨_, rfl, sf6⟩, ⟨⟨_, rfl, sf7⟩, ⟨⟨_, rfl, sf8⟩, ⟨⟨_, rfl, sf9⟩, ⟨⟨_, rfl, sf10⟩, ⟨⟨_, rfl, sf11⟩, ⟨⟨_, rfl, sf12⟩, ⟨⟨_, rfl, sf13⟩, ⟨⟨_, rfl, sf14⟩, ⟨⟨_, rfl, sf15⟩, ⟨⟨_, rfl, sf16⟩, ⟨⟨_, rfl, sf17⟩, ⟨⟨_, rfl, sf18⟩, ⟨⟨_, rfl, sf19⟩, ⟨⟨_, rfl, sf20⟩, ⟨⟨_, rfl, sf21⟩, ⟨⟨_, rfl, sf22⟩, ⟨⟨_, rfl, sf23⟩, ⟨⟨_, rfl, sf24⟩, ⟨⟨_, rfl, sf25⟩, ⟨⟨_, rfl, sf26⟩, ⟨⟨_, rfl, sf27⟩, ⟨⟨_, rfl, sf28⟩, ⟨⟨_, rfl, sf29⟩, ⟨⟨_, rfl, sf30⟩, ⟨⟨_, rfl, sf31⟩, ⟨⟨_, rfl, sf32⟩, ⟨⟨_, rfl, sf33⟩, ⟨⟨_, rfl, sf34⟩, ⟨⟨_, rfl, sf35⟩, ⟨⟨_, rfl, sf36⟩, ⟨⟨_, rfl, sf37⟩, ⟨⟨_, rfl, sf38⟩, ⟨⟨_, rfl, sf39⟩, trivial⟩⟩⟩⟩⟩⟩⟩⟩⟩⟩⟩⟩⟩⟩⟩⟩⟩⟩⟩⟩⟩⟩⟩⟩⟩⟩⟩⟩⟩⟩⟩⟩⟩⟩⟩⟩⟩⟩⟩⟩
abbrev xs0 : Stmt := inClass (top 2) 0
theorem xt0 : ExStat "InvalidRun" "InvalidRun.__init__" "index" xs0 "self" "index" := ⟨⟨_, _, _, _, rfl⟩, ⟨rfl, rfl, rfl, by decide +kernel, rfl, by decide +kernel, by decide +kernel⟩, .inl rfl, .inl rfl, ⟨rfl, rfl, rfl, rfl⟩, fun _ _ _ _ _ _ us hl => match us, hl with | [_, _], _ => rfl⟩
abbrev xs1 : Stmt := inClass (top 3) 0
theorem xt1 : ExStat "InvalidSnapshot" "InvalidSnapshot.__init__" "line" xs1 "self" "line" := ⟨⟨_, _, _, _, rfl⟩, ⟨rfl, rfl, rfl, by decide +kernel, rfl, by decide +kernel, by decide +kernel⟩, .inl rfl, .inl rfl, ⟨rfl, rfl, rfl, rfl⟩, fun _ _ _ _ _ _ us hl => match us, hl with | [_, _], _ => rfl⟩
end K82
end

/-! text K82S1 -/
section
/-! k82: what each function computes. -/
namespace K82
open Pv PySem L2
open TL (numL spl joinL par pre)
variable {n : Nat} {μ : Sto}
theorem t0 (h : 1 ≤ n) (i : Int) : callF tab n 0 [.d (.int i)] μ = .ok (.d (.bool true)) μ := by
  obtain ⟨m, rfl⟩ : ∃ m, n = m + 1 := ⟨n - 1, by omega⟩
  rfl
theorem t0s (h : 1 ≤ n) (s : Str) : callF tab n 0 [.d (.str s)] μ = .ok (.d (.bool false)) μ := by
  obtain ⟨m, rfl⟩ : ∃ m, n = m + 1 := ⟨n - 1, by omega⟩
  rfl
theorem t1 (h : 2 ≤ n) (i lo hi : Int) : callF tab n 1 [.d (.int i), .d (.int lo), .d (.int hi)] μ = .ok (.d (.bool (decide (lo ≤ i) && decide (i ≤ hi)))) μ := by
  obtain ⟨m, rfl⟩ : ∃ m, n = m + 1 := ⟨n - 1, by omega⟩
  rw [callF_step (fn := f1) rfl rfl]
  simp [f1, startR, t0 (n := m) (by omega), truR, truD, twoB, cmpF, ltF]
  by_cases h : lo ≤ i <;> simp [h]
theorem t1s (h : 2 ≤ n) (s : Str) (lo hi : Int) : callF tab n 1 [.d (.str s), .d (.int lo), .d (.int hi)] μ = .ok (.d (.bool false)) μ := by
  obtain ⟨m, rfl⟩ : ∃ m, n = m + 1 := ⟨n - 1, by omega⟩
  rw [callF_step (fn := f1) rfl rfl]
  simp [f1, startR, t0s (n := m) (by omega), truR, truD, twoB, cmpF, ltF]
/-- a number, a row of numbers -/
abbrev nD (k : Nat) : PyData := .int (k : Int)
def rD (ns : List Nat) : PyData := .tuple (ns.map nD)
theorem all_bools (bs : List Bool) : allBy asBool (bs.map PyData.bool) = some bs := by
  induction bs with
  | nil => rfl
  | cons b bs ih => simp only [List.map_cons, allBy, asBool, ih]
theorem seqItems_t (ds : List PyData) : seqItems (.tuple ds) = some ds := rfl
theorem t2 (h : 3 ≤ n) (ns : List Nat) (hl : ns.length ≤ sizeLine) (many hi : Int) : callF tab n 2 [.d (rD ns), .d (.int many), .d (.int 0), .d (.int hi)] μ = .ok (.d (.bool (decide ((ns.length : Int) = many) && ns.all fun (k : Nat) => decide ((k : Int) ≤ hi)))) μ := by
  obtain ⟨m, rfl⟩ : ∃ m, n = m + 1 := ⟨n - 1, by omega⟩
  rw [callF_step (fn := f2) rfl rfl]
  have hc : evE (callF tab m) [some (.val (.d (.tuple (ns.map nD)))), some (.val (.d (.int many))), some (.val (.d (.int 0))), some (.val (.d (.int hi))), none] (.comp (.call 1 [.var 4, .var 2, .var 3]) (.nm 4) (.seq (.var 0)) none [4]) μ =
      .ok (.d (.list (ns.map fun (k : Nat) => .bool (decide ((k : Int) ≤ hi))))) μ := by
    refine ev_comp ns (fun (k : Nat) => .one (.d (nD k))) (fun (k : Nat) => .bool (decide ((k : Int) ≤ hi))) ?_ hl fun k _ => ⟨_, rfl, ?_⟩
    · simp [rD, seqItems_t]
    · simp [wipeR, noOwn, t1 (n := m) (by omega)]
  have ha : allBy asBool (ns.map fun (k : Nat) => PyData.bool (decide ((k : Int) ≤ hi))) = some (ns.map fun (k : Nat) => decide ((k : Int) ≤ hi)) := by
    rw [← all_bools, List.map_map]; rfl
  have h1 : biF (.isin .tuple) [.d (.tuple (ns.map nD))] = some (.d (.bool true)) := rfl
  have h2 : biF .len [.d (.tuple (ns.map nD))] = some (.d (.int ns.length)) := by simp [biF, allBy, pureR, biD, lenD]
  have h3 : biF .all [.d (.list (ns.map fun (k : Nat) => .bool (decide ((k : Int) ≤ hi))))] = some (.d (.bool (ns.all fun (k : Nat) => decide ((k : Int) ≤ hi)))) := by
    show ((allBy asBool _).map fun bs => PyData.bool (bs.all id)).map RV.d = _
    rw [ha]
    simp [List.all_map]
  simp only [f2, startR, rD] at *
  simp [hc, h1, h2, h3, truR, truD, twoB, cmpF, eqF, scalD, PyData.eqv]
  by_cases q : (ns.length : Int) = many
  · simp [q]
  · have q2 : ((ns.length : Int) == many) = false := by simpa using q
    simp [q, q2]
theorem t3 (h : 3 ≤ n) (ns : List Nat) (hl : ns.length ≤ 256) (hm : ∀ k ∈ ns, k ≤ 255) : callF tab n 3 [.d (rD ns)] μ = .ok (.d (.list [])) μ := by
  obtain ⟨m, rfl⟩ : ∃ m, n = m + 1 := ⟨n - 1, by omega⟩
  rw [callF_step (fn := f3) rfl rfl]
  have hc : evE (callF tab m) [some (.val (.d (.tuple (ns.map nD)))), none, none] (.comp (.var 1) (.tup [(.nm 1), (.nm 2)]) (.enm (.var 0)) (some (.not (.call 1 [.var 2, .con (.int 0), .con (.int 255)]))) [1, 2]) μ = .ok (.d (.list [])) μ := by
    have e := ev_compF (c := callF tab m) (ρ := [some (.val (.d (.tuple (ns.map nD)))), none, none]) (μ := μ) (e := .var 1) (own := [1, 2]) (t := .tup [(.nm 1), (.nm 2)]) (it := .enm (.var 0)) (q := .not (.call 1 [.var 2, .con (.int 0), .con (.int 255)]))
      ns.zipIdx (fun p => .two (.d (.int (p.2 : Nat))) (.d (nD p.1))) (fun p => .int (p.2 : Nat)) (fun _ => false) ?_ ?_ ?_
    · rw [e, show List.filter (fun (_ : Nat × Nat) => false) ns.zipIdx = [] from List.filter_eq_nil_iff.mpr (by simp)]; rfl
    · simp [seqItems_t, enmItems, List.zipIdx_map]
    · have : (256 : Nat) ≤ sizeLine := by decide
      simp; omega
    · intro p hp
      refine ⟨_, rfl, ?_, fun h => by cases h⟩
      have := hm p.1 (List.fst_mem_of_mem_zipIdx hp)
      simp [wipeR, noOwn, t1 (n := m) (by omega)]
      omega
  have hl2 : ¬ (256 : Int) < ns.length := by omega
  simp [f3, startR, rD, hc, isTy, truD, cmpF, ltF, hl2, sliR, sliF, cutD]
end K82
end

/-! text K82S2 -/
section
namespace K82
open Pv PySem L2
open TL (numL spl joinL par pre)
open SX (S)
variable {n : Nat} {μ : Sto}
theorem fig_in (c : Nat) : inStr ⟨#[c]⟩ "0123456789" = (decide (48 ≤ c) && decide (c ≤ 57)) := by
  show decide (c ∈ ("0123456789" : Str).cps.toList) = _
  rw [show ("0123456789" : Str).cps.toList = [48, 49, 50, 51, 52, 53, 54, 55, 56, 57] from by decide +kernel]
  rw [← Bool.decide_and]
  refine decide_eq_decide.mpr ⟨fun h => ?_, fun h => ?_⟩
  · simp at h; omega
  · have : c = 48 ∨ c = 49 ∨ c = 50 ∨ c = 51 ∨ c = 52 ∨ c = 53 ∨ c = 54 ∨ c = 55 ∨ c = 56 ∨ c = 57 := by omega
    simpa using this
theorem t14 (h : 1 ≤ n) (l : List Nat) (hl : l.length ≤ sizeLine) (most : Nat) : callF tab n 14 [.d (.str (S l)), .d (.int most)] μ = .ok (.d (.bool (figs l most))) μ := by
  obtain ⟨m, rfl⟩ : ∃ m, n = m + 1 := ⟨n - 1, by omega⟩
  rw [callF_step (fn := f14) rfl rfl]
  have hc : evE (callF tab m) [some (.val (.d (.str (S l)))), some (.val (.d (.int most))), none] (.comp (.cmp .mem (.var 2) (.con (.str "0123456789"))) (.nm 2) (.seq (.var 0)) none [2]) μ =
      .ok (.d (.list (l.map fun (c : Nat) => .bool (decide (48 ≤ c) && decide (c ≤ 57))))) μ := by
    refine ev_comp l (fun (c : Nat) => .one (.d (.str ⟨#[c]⟩))) (fun (c : Nat) => .bool (decide (48 ≤ c) && decide (c ≤ 57))) ?_ hl fun k _ => ⟨_, rfl, ?_⟩
    · simp [seqItems]
    · simp [wipeR, noOwn, cmpF, memF, fig_in]
  have hlen : (S l).length = l.length := SX.S_len l
  simp only [f14, startR] at *
  simp [hc, bi_lenS (s := S l) (by rw [hlen]; exact hl), hlen, cmpF, ltF, bi_allF, figs]
  have i1 : decide ((1 : Int) ≤ l.length) = decide (1 ≤ l.length) := decide_eq_decide.mpr (by omega)
  rw [i1]
  by_cases q : 1 ≤ l.length <;> by_cases q2 : l.length ≤ most <;> simp [q, q2, hc, bi_allF]
def pD (ps : List (Nat × Nat)) : PyData := .tuple (ps.map fun (p : Nat × Nat) => rD [p.1, p.2])
def incrL (ps : List (Nat × Nat)) : Bool := (ps.zip (ps.drop 1)).all fun q => decide (q.1.1 < q.2.1)
theorem incr_eq : ∀ ps : List (Nat × Nat), incrL ps = incr ps
  | [] => rfl
  | [a] => rfl
  | a :: b :: t => by
    have := incr_eq (b :: t)
    simp only [incrL, List.drop_succ_cons, List.drop_zero, List.zip_cons_cons, List.all_cons, incr] at this ⊢
    rw [← this]
theorem t4 (h : 4 ≤ n) (ps : List (Nat × Nat)) (hl : ps.length ≤ 1000) : callF tab n 4 [.d (pD ps)] μ = .ok (.d (.bool (decide (ps.length ≤ 16) && (ps.all fun p => decide (p.1 ≤ 65535) && decide (p.2 ≤ 65535)) && incr ps))) μ := by
  obtain ⟨m, rfl⟩ : ∃ m, n = m + 1 := ⟨n - 1, by omega⟩
  rw [callF_step (fn := f4) rfl rfl]
  have big : (1000 : Nat) ≤ sizeLine := by decide
  have hc : evE (callF tab m) [some (.val (.d (.tuple (ps.map fun (p : Nat × Nat) => rD [p.1, p.2])))), none, none, none] (.comp (.call 2 [.var 1, .con (.int 2), .con (.int 0), .bin .sub (.con (.int 65536)) (.con (.int 1))]) (.nm 1) (.seq (.var 0)) none [1]) μ =
      .ok (.d (.list (ps.map fun (p : Nat × Nat) => .bool (decide (p.1 ≤ 65535) && decide (p.2 ≤ 65535))))) μ := by
    refine ev_comp ps (fun (p : Nat × Nat) => .one (.d (rD [p.1, p.2]))) (fun (p : Nat × Nat) => .bool (decide (p.1 ≤ 65535) && decide (p.2 ≤ 65535))) ?_ (by omega) fun p _ => ⟨_, rfl, ?_⟩
    · simp [seqItems_t]
    · have e1 : decide ((p.1 : Int) ≤ 65535) = decide (p.1 ≤ 65535) := decide_eq_decide.mpr (by omega)
      have e2 : decide ((p.2 : Int) ≤ 65535) = decide (p.2 ≤ 65535) := decide_eq_decide.mpr (by omega)
      simp [wipeR, noOwn, binF, intF, t2 (n := m) (by omega) [p.1, p.2] (by simp <;> omega), e1, e2]
  have hd : evE (callF tab m) [some (.val (.d (.tuple (ps.map fun (p : Nat × Nat) => rD [p.1, p.2])))), none, none, none] (.comp (.cmp .lt (.idx (.var 2) (.con (.int 0))) (.idx (.var 3) (.con (.int 0)))) (.tup [(.nm 2), (.nm 3)]) (.zip2 (.var 0) (.sli (.var 0) (some (.con (.int 1))) none)) none [2, 3]) μ =
      .ok (.d (.list ((ps.zip (ps.drop 1)).map fun q => .bool (decide (q.1.1 < q.2.1))))) μ := by
    refine ev_comp (ps.zip (ps.drop 1)) (fun q => .two (.d (rD [q.1.1, q.1.2])) (.d (rD [q.2.1, q.2.2]))) (fun q => .bool (decide (q.1.1 < q.2.1))) ?_ (by simp; omega) fun p _ => ⟨_, rfl, ?_⟩
    · have e := cut_from (ps.map fun (p : Nat × Nat) => rD [p.1, p.2]) 1
      have e : cutD (ps.map fun (p : Nat × Nat) => rD [p.1, p.2]) (some 1) none = _ := e
      simp only [evi_zip2, ev_var, ev_sli, evo_some, evo_none, ev_con, List.getElem?_cons_zero, R.bind_ok, sliR, sliF, e, Option.map_some, lift_some, seqItems_t, zipItems]
      rw [← List.map_drop, List.zip_map, List.map_map]
      rfl
    · have i0 : ixN 2 0 = some 0 := by decide
      simp [wipeR, noOwn, rD, idxF, atI, cmpF, ltF, i0]
  have l16 : decide ((16 : Int) < ps.length) = !decide (ps.length ≤ 16) := by
    rw [← decide_not]; exact decide_eq_decide.mpr (by omega)
  rw [← incr_eq, incrL]
  by_cases q1 : ps.length ≤ 16 <;> cases q2 : (ps.all fun p => decide (p.1 ≤ 65535) && decide (p.2 ≤ 65535)) <;>
    simp [f4, startR, pD, hc, hd, bi_allF, isTy, truD, cmpF, ltF, l16, q1, q2]
end K82
end

/-! text K82S3 -/
section
namespace K82
open Pv PySem L2
open TL (numL spl joinL par pre)
open SX (S)
variable {n : Nat} {μ : Sto}
def tabD : Tab → PyData
  | .arr m ns => .tuple [.str "array", nD m, rD ns]
  | .prs m ps => .tuple [.str "pairs", nD m, pD ps]
theorem ix30 : ixN 3 0 = some 0 := by decide
theorem ix31 : ixN 3 1 = some 1 := by decide
theorem ix32 : ixN 3 2 = some 2 := by decide
theorem t5 (h : 3 ≤ n) (t : Tab) : callF tab n 5 [.d (tabD t)] μ = .ok (.d (.bool (match t with | .arr m _ => decide (m ≤ 1) | .prs m _ => decide (m ≤ 1)))) μ := by
  obtain ⟨m, rfl⟩ : ∃ m, n = m + 1 := ⟨n - 1, by omega⟩
  rw [callF_step (fn := f5) rfl rfl]
  have e1 : memF (.str "array") (.tuple [.str "array", .str "pairs"]) = some true := by decide +kernel
  have e2 : memF (.str "pairs") (.tuple [.str "array", .str "pairs"]) = some true := by decide +kernel
  have i3 : (3 : Nat) ≤ sizeLine := by decide
  have i2 : (2 : Nat) ≤ sizeLine := by decide
  cases t with
  | arr k ns =>
    have e3 : decide ((k : Int) ≤ 1) = decide (k ≤ 1) := decide_eq_decide.mpr (by omega)
    simp [f5, startR, tabD, isTy, truD, cmpF, eqF, scalD, PyData.eqv, idxF, atI, ix30, ix31, e1, allBy, pureR, i2, t1 (n := m) (by omega), e3]
  | prs k ps =>
    have e3 : decide ((k : Int) ≤ 1) = decide (k ≤ 1) := decide_eq_decide.mpr (by omega)
    simp [f5, startR, tabD, isTy, truD, cmpF, eqF, scalD, PyData.eqv, idxF, atI, ix30, ix31, e2, allBy, pureR, i2, t1 (n := m) (by omega), e3]
end K82
end

/-! text K82S4 -/
section
namespace K82
open Pv PySem L2
open TL (numL spl joinL par pre)
open SX (S)
variable {n : Nat} {μ : Sto}
theorem len_le (a b : Nat) : decide ((a : Int) ≤ (b : Int)) = decide (a ≤ b) := decide_eq_decide.mpr (by omega)
@[simp] theorem isTy_r {ns : List Nat} : isTy .tuple (rD ns) = some true := rfl
@[simp] theorem isTy_p {ns : List (Nat × Nat)} : isTy .tuple (pD ns) = some true := rfl
@[simp] theorem len_r {ns : List Nat} : biF .len [.d (rD ns)] = some (.d (.int ns.length)) := by
  show biF .len [.d (.tuple (ns.map nD))] = _
  rw [bi_lenT, List.length_map]
@[simp] theorem seq_r {ns : List Nat} : seqItems (rD ns) = some (ns.map nD) := rfl
theorem idx_r {ns : List Nat} (k : Nat) : idxF (rD ns) (.int (k : Int)) = (ns[k]?).map nD := by
  show atI (ns.map nD) (k : Int) = _
  rw [atI_n, List.getElem?_map]
@[simp] theorem idx_r0 {ns : List Nat} : idxF (rD ns) (.int 0) = (ns[0]?).map nD := idx_r 0
def tabLen : Tab → Nat
  | .arr _ ns => ns.length
  | .prs _ ps => ps.length
theorem t6 (h : 5 ≤ n) (t : Tab) (hl : tabLen t ≤ 256) : callF tab n 6 [.d (tabD t)] μ = .ok (.d (.bool (tabOk t))) μ := by
  obtain ⟨m, rfl⟩ : ∃ m, n = m + 1 := ⟨n - 1, by omega⟩
  rw [callF_step (fn := f6) rfl rfl]
  have h5 := t5 (n := m) (μ := μ) (by omega) t
  have e1 : ((("array" : Str) == "pairs") : Bool) = false := by decide +kernel
  have s := sizeLine_is
  cases t with
  | arr k ns =>
    have hl : ns.length ≤ 256 := hl
    simp only [tabD] at *
    have e2 : decide ((1 : Int) ≤ ns.length) = decide (1 ≤ ns.length) := decide_eq_decide.mpr (by omega)
    have e3 : decide ((ns.length : Int) ≤ 32) = decide (ns.length ≤ 32) := decide_eq_decide.mpr (by omega)
    have e4 : (ns.all fun (k : Nat) => decide ((k : Int) ≤ 65535)) = ns.all fun n => decide (n ≤ 65535) := by
      congr 1; funext x; exact decide_eq_decide.mpr (by omega)
    have h2 := t2 (n := m) (μ := μ) (by omega) ns (by omega) (ns.length : Int) 65535
    rw [e4] at h2
    by_cases q : k ≤ 1
    · by_cases q2 : 1 ≤ ns.length
      · simp [f6, startR, h5, q, e1, e2, e3, q2] at h2 ⊢
        by_cases q3 : ns.length ≤ 32
        · simp [q3, h2, tabOk, q, q2]
        · simp [q3, tabOk]
      · simp [f6, startR, h5, q, e1, e2, e3, q2, tabOk]
    · simp [f6, startR, h5, q, tabOk]
  | prs k ps =>
    have hl : ps.length ≤ 256 := hl
    simp only [tabD] at *
    have h4 := t4 (n := m) (μ := μ) (by omega) ps (by omega)
    by_cases q : k ≤ 1
    · simp [f6, startR, h5, q, h4, tabOk]
    · simp [f6, startR, h5, q, tabOk]
end K82
end

/-! text K82S5 -/
section
namespace K82
open Pv PySem L2
open TL (numL spl joinL par pre)
open SX (S)
variable {n : Nat} {μ : Sto}
structure Run where
  regs : List Nat
  slots : List Nat
  ctrs : List Nat
  place : Nat
  pkt : List Nat
  tabs : List Tab
  clock : Nat
  steps : Nat
  fin : End
  wr : Nat
structure RunOk (r : Run) : Prop where
  regs : r.regs.length = 8 ∧ ∀ v ∈ r.regs, v ≤ 65535
  slots : r.slots.length = 16 ∧ ∀ v ∈ r.slots, v ≤ 65535
  ctrs : r.ctrs.length = 4 ∧ ∀ v ∈ r.ctrs, v ≤ 100
  place : r.place ≤ 120
  pkt : r.pkt.length ≤ 256 ∧ ∀ v ∈ r.pkt, v ≤ 255
  tabs : r.tabs.length ≤ 6 ∧ ∀ t ∈ r.tabs, tabOk t = true
  clock : r.clock ≤ 65535
  steps : r.steps < 10 ^ 100
  fin : endOk r.fin
  wr : r.wr ≤ 1
def endD : End → PyData
  | .none => .none
  | .ans n => .tuple [.str "answer", nD n]
  | .fault k => .tuple [.str "fault", .str (S k)]
def runD (r : Run) : PyData := .tuple [rD r.regs, rD r.slots, rD r.ctrs, nD r.place, rD r.pkt, .tuple (r.tabs.map tabD), nD r.clock, nD r.steps, endD r.fin, nD r.wr]
theorem strq (s : String) (r : List Nat) : ((s : Str) == S r) = decide (T s = r) := by
  rw [← SX.S_tl (Str.ofString s), SX.S_beq_eq]; rfl
theorem strq' (s : String) (r : List Nat) : (S r == (s : Str)) = decide (r = T s) := by
  rw [← SX.S_tl (Str.ofString s), SX.S_beq_eq]; rfl
theorem T_S (s : String) : S (T s) = (s : Str) := SX.S_tl _
theorem tab_sizes {t : Tab} (h : tabOk t = true) : tabLen t ≤ 256 := by
  cases t with
  | arr m ns => simp only [tabOk, Bool.and_eq_true, decide_eq_true_eq] at h; show ns.length ≤ 256; omega
  | prs m ps => simp only [tabOk, Bool.and_eq_true, decide_eq_true_eq] at h; show ps.length ≤ 256; omega
theorem t7 (h : 6 ≤ n) (ts : List Tab) (hl : ts.length ≤ 6) (ho : ∀ t ∈ ts, tabOk t = true) : callF tab n 7 [.d (.tuple (ts.map tabD))] μ = .ok (.d (.list [])) μ := by
  obtain ⟨m, rfl⟩ : ∃ m, n = m + 1 := ⟨n - 1, by omega⟩
  rw [callF_step (fn := f7) rfl rfl]
  have s := sizeLine_is
  have hc : evE (callF tab m) [some (.val (.d (.tuple (ts.map tabD)))), none, none] (.comp (.var 1) (.tup [(.nm 1), (.nm 2)]) (.enm (.var 0)) (some (.not (.call 6 [.var 2]))) [1, 2]) μ = .ok (.d (.list [])) μ := by
    have e := ev_compF (c := callF tab m) (ρ := [some (.val (.d (.tuple (ts.map tabD)))), none, none]) (μ := μ) (e := .var 1) (own := [1, 2]) (t := .tup [(.nm 1), (.nm 2)]) (it := .enm (.var 0)) (q := .not (.call 6 [.var 2]))
      ts.zipIdx (fun p => .two (.d (.int (p.2 : Nat))) (.d (tabD p.1))) (fun p => .int (p.2 : Nat)) (fun _ => false) ?_ ?_ ?_
    · rw [e, show List.filter (fun (_ : Tab × Nat) => false) ts.zipIdx = [] from List.filter_eq_nil_iff.mpr (by simp)]; rfl
    · simp [seqItems_t, enmItems, List.zipIdx_map]
    · simp; omega
    · intro p hp
      refine ⟨_, rfl, ?_, fun h => by cases h⟩
      have := ho p.1 (List.fst_mem_of_mem_zipIdx hp)
      simp [wipeR, noOwn, t6 (n := m) (by omega) p.1 (tab_sizes this), this]
  have hl2 : ¬ (6 : Int) < ts.length := by omega
  simp [f7, startR, hc, hl2, sliR, sliF, cutD]
theorem mem_kinds (r : List Nat) : memF (.str (S r)) (.tuple [.str "place", .str "table", .str "index", .str "handle", .str "packet", .str "grant"]) = some (decide (r ∈ kinds)) := by
  show memL _ _ = _
  unfold memL
  rw [if_pos (by simp [flatD])]
  simp only [List.any_cons, List.any_nil, PyData.eqv, strq, kinds, List.mem_cons, List.not_mem_nil, or_false, Bool.or_false]
  congr 1
  simp only [← Bool.decide_or]
  refine decide_eq_decide.mpr ?_
  simp only [eq_comm]
theorem ans_ne : ¬ T "answer" = T "fault" := by decide +kernel
theorem t8n (h : 1 ≤ n) : callF tab n 8 [.d .none] μ = .ok (.d (.bool true)) μ := by
  obtain ⟨m, rfl⟩ : ∃ m, n = m + 1 := ⟨n - 1, by omega⟩
  rfl
theorem t8a (h : 3 ≤ n) (v : Nat) : callF tab n 8 [.d (.tuple [.str "answer", nD v])] μ = .ok (.d (.bool (decide (v ≤ 65535)))) μ := by
  obtain ⟨m, rfl⟩ : ∃ m, n = m + 1 := ⟨n - 1, by omega⟩
  rw [callF_step (fn := f8) rfl rfl]
  have e : decide ((v : Int) ≤ 65535) = decide (v ≤ 65535) := decide_eq_decide.mpr (by omega)
  simp [f8, startR, t1 (n := m) (by omega), e]
theorem t8w (h : 3 ≤ n) (w r : List Nat) : callF tab n 8 [.d (.tuple [.str (S w), .str (S r)])] μ = .ok (.d (.bool (decide (w = T "fault" ∧ r ∈ kinds)))) μ := by
  obtain ⟨m, rfl⟩ : ∃ m, n = m + 1 := ⟨n - 1, by omega⟩
  rw [callF_step (fn := f8) rfl rfl]
  have e1 : cmpF .is (.tuple [.str (S w), .str (S r)]) .none = some false := rfl
  have e2 : cmpF .mem (.str (S r)) (.tuple [.str "place", .str "table", .str "index", .str "handle", .str "packet", .str "grant"]) = some (decide (r ∈ kinds)) := mem_kinds r
  by_cases q : w = T "answer"
  · subst q
    have : ¬ (T "answer" = T "fault" ∧ r ∈ kinds) := fun x => ans_ne x.1
    simp only [decide_eq_false this]
    simp [f8, startR, e1, T_S, t1s (n := m) (by omega)]
  · by_cases q2 : w = T "fault"
    · subst q2
      simp [f8, startR, e1, strq', q, e2]
    · simp [f8, startR, e1, strq', q, q2]
theorem t8 (h : 3 ≤ n) {e : End} (he : endOk e) : callF tab n 8 [.d (endD e)] μ = .ok (.d (.bool true)) μ := by
  cases e with
  | none => exact t8n (by omega)
  | ans v =>
    have he : v ≤ 65535 := he
    show callF tab n 8 [.d (.tuple [.str "answer", nD v])] μ = _
    rw [t8a h, decide_eq_true he]
  | fault k =>
    have he : k ∈ kinds := he
    show callF tab n 8 [.d (.tuple [.str "fault", .str (S k)])] μ = _
    rw [← T_S, t8w h, decide_eq_true ⟨rfl, he⟩]
end K82
end

/-! text K82S6 -/
section
namespace K82
open Pv PySem L2
open TL (numL spl joinL par pre)
open SX (S)
variable {n : Nat} {μ : Sto}
theorem all_le {ns : List Nat} {b : Nat} (h : ∀ v ∈ ns, v ≤ b) : (ns.all fun (k : Nat) => decide ((k : Int) ≤ (b : Int))) = true := by
  rw [List.all_eq_true]; intro v hv; have := h v hv; simp; omega
theorem t2ok (h : 3 ≤ n) {ns : List Nat} {k b : Nat} (h1 : ns.length = k) (h2 : ∀ v ∈ ns, v ≤ b) (hk : k ≤ 1000) : callF tab n 2 [.d (rD ns), .d (.int (k : Int)), .d (.int 0), .d (.int (b : Int))] μ = .ok (.d (.bool true)) μ := by
  have s := sizeLine_is
  rw [t2 h ns (by omega), all_le h2, h1]
  simp
theorem t9 (h : 7 ≤ n) {r : Run} (o : RunOk r) (i : Nat) (hi : i < 10) : callF tab n 9 [.d (runD r), .d (.int (i : Int))] μ = .ok (.d (.bool true)) μ := by
  obtain ⟨m, rfl⟩ : ∃ m, n = m + 1 := ⟨n - 1, by omega⟩
  rw [callF_step (fn := f9) rfl rfl]
  have M : ∀ i : Int, cmpF .mem (.int i) (.tuple [.int 0, .int 1]) = some (0 == i || 1 == i) := fun i => by
    rw [mem_tup]
    simp [memL]
  have E : cmpF .eq (.list []) (.list []) = some true := by decide +kernel
  have a0 := t2ok (n := m) (μ := μ) (by omega) o.regs.1 o.regs.2 (by omega)
  have a1 := t2ok (n := m) (μ := μ) (by omega) o.slots.1 o.slots.2 (by omega)
  have a2 := t2ok (n := m) (μ := μ) (by omega) o.ctrs.1 o.ctrs.2 (by omega)
  have a4 := t3 (n := m) (μ := μ) (by omega) r.pkt o.pkt.1 o.pkt.2
  have a5 := t7 (n := m) (μ := μ) (by omega) r.tabs o.tabs.1 o.tabs.2
  have a7 := t0 (n := m) (μ := μ) (by omega) r.steps
  have a8 := t8 (n := m) (μ := μ) (by omega) o.fin
  have a3 := t1 (n := m) (μ := μ) (by omega) r.place 0 120
  have a6 := t1 (n := m) (μ := μ) (by omega) r.clock 0 65535
  have a9 := t1 (n := m) (μ := μ) (by omega) r.wr 0 1
  have b3 : ((r.place : Int) ≤ 120) := by have := o.place; omega
  have b6 : ((r.clock : Int) ≤ 65535) := by have := o.clock; omega
  have b9 : ((r.wr : Int) ≤ 1) := by have := o.wr; omega
  have d3 : getK (dictOf [(.inl 3, RV.d (.int 120)), (.inl 6, .d (.int 65535)), (.inl 9, .d (.int 1))]) (.inl 3) = some (.d (.int 120)) := rfl
  have d6 : getK (dictOf [(.inl 3, RV.d (.int 120)), (.inl 6, .d (.int 65535)), (.inl 9, .d (.int 1))]) (.inl 6) = some (.d (.int 65535)) := rfl
  have d9 : getK (dictOf [(.inl 3, RV.d (.int 120)), (.inl 6, .d (.int 65535)), (.inl 9, .d (.int 1))]) (.inl 9) = some (.d (.int 1)) := rfl
  rcases (by omega : i = 0 ∨ i = 1 ∨ i = 2 ∨ i = 3 ∨ i = 4 ∨ i = 5 ∨ i = 6 ∨ i = 7 ∨ i = 8 ∨ i = 9) with rfl | rfl | rfl | rfl | rfl | rfl | rfl | rfl | rfl | rfl
  · simp at a0; simp [f9, startR, runD, M, a0]
  · simp at a1; simp [f9, startR, runD, M, a1]
  · simp at a2; simp [f9, startR, runD, M, a2]
  · simp [f9, startR, runD, M, a3, b3, keyD, d3]
  · simp [f9, startR, runD, M, a4, E]
  · simp [f9, startR, runD, M, a5, E]
  · simp [f9, startR, runD, M, a6, b6, keyD, d6]
  · simp [f9, startR, runD, M, a7]
  · simp [f9, startR, runD, M, a8]
  · simp [f9, startR, runD, M, a9, b9, keyD, d9]
theorem t10 (h : 8 ≤ n) {r : Run} (o : RunOk r) : callF tab n 10 [.d (runD r)] μ = .ok (.d (.list [])) μ := by
  obtain ⟨m, rfl⟩ : ∃ m, n = m + 1 := ⟨n - 1, by omega⟩
  rw [callF_step (fn := f10) rfl rfl]
  have hc : evE (callF tab m) [some (.val (.d (runD r))), none] (.comp (.var 1) (.nm 1) (.rng1 (.con (.int 10))) (some (.not (.call 9 [.var 0, .var 1]))) [1]) μ = .ok (.d (.list [])) μ := by
    have e := ev_compF (c := callF tab m) (ρ := [some (.val (.d (runD r))), none]) (μ := μ) (e := .var 1) (own := [1]) (t := .nm 1) (it := .rng1 (.con (.int 10))) (q := .not (.call 9 [.var 0, .var 1]))
      (List.range 10) (fun i => .one (.d (.int (0 + (i : Int))))) (fun i => .int (0 + (i : Int))) (fun _ => false) ?_ ?_ ?_
    · rw [e]; rfl
    · rfl
    · decide
    · intro i hi
      refine ⟨_, rfl, ?_, fun h => by cases h⟩
      simp [wipeR, noOwn, t9 (n := m) (by omega) o i (List.mem_range.mp hi)]
  have e1 : isTy .tuple (runD r) = some true := rfl
  have e2 : biF .len [.d (runD r)] = some (.d (.int 10)) := rfl
  simp [f10, startR, hc, e1, e2, sliR, sliF, cutD]
theorem t11 (h : 9 ≤ n) {r : Run} (o : RunOk r) : callF tab n 11 [.d (runD r)] μ = .ok (.d .none) μ := by
  obtain ⟨m, rfl⟩ : ∃ m, n = m + 1 := ⟨n - 1, by omega⟩
  rw [callF_step (fn := f11) rfl rfl]
  have E : cmpF .ne (.list []) (.list []) = some false := by decide +kernel
  simp [f11, startR, t10 (n := m) (by omega) o, E]
end K82
end

/-! text K82S7 -/
section
namespace K82
open Pv PySem L2
open TL (numL spl joinL par pre)
open SX (S)
variable {n : Nat} {μ : Sto}
theorem drop_cons {α : Type} {l : List α} {i : Nat} {x : α} {r : List α} (h : l.drop i = x :: r) : l[i]? = some x ∧ l.drop (i + 1) = r ∧ i < l.length := by
  have h0 : i < l.length := by
    rcases Nat.lt_or_ge i l.length with h2 | h2
    · exact h2
    · rw [List.drop_eq_nil_of_le h2] at h; cases h
  refine ⟨?_, ?_, h0⟩
  · rw [← List.head?_drop, h]; rfl
  · rw [show i + 1 = i + 1 from rfl, ← List.drop_drop, h]; rfl
theorem drop_nil {α : Type} {l : List α} {i : Nat} (h : l.drop i = []) : l.length ≤ i := by
  have := congrArg List.length h
  simp at this; omega
abbrev t12i : E := .and (.cmp .lt (.var 3) (.bi .len [.var 0])) (.cmp .eq (.idx (.var 0) (.var 3)) (.idx (.var 0) (.var 2)))
structure Row (D : PyData) (ns : List Nat) : Prop where
  len : biF .len [.d D] = some (.d (.int ns.length))
  idx : ∀ k : Nat, idxF D (.int (k : Int)) = (ns[k]?).map nD
theorem row_t (ns : List Nat) : Row (rD ns) ns := ⟨len_r, idx_r⟩
theorem row_l (ns : List Nat) : Row (.list (ns.map nD)) ns := ⟨by rw [bi_lenL, List.length_map], fun k => by
  show atI (ns.map nD) (k : Int) = _
  rw [atI_n, List.getElem?_map]⟩
theorem w12i (c : CallF) {ns : List Nat} {D : PyData} (hD : Row D ns) {x a : Nat} {own : Option Slot} (hx : ns[a]? = some x) : ∀ (L : List Nat) (i fuel : Nat), ns.drop i = L → L.length < fuel → i ≤ ns.length →
    wh c t12i [.asg (.nm 3) (.bin .add (.var 3) (.con (.int 1)))] fuel [some (.val (.d D)), own, some (.val (.d (.int a))), some (.val (.d (.int (i : Int))))] μ =
      .ok (.next [some (.val (.d D)), own, some (.val (.d (.int a))), some (.val (.d (.int ((i + lead x L : Nat) : Int))))]) μ
  | [], i, 0, _, hf, _ => by simp at hf
  | [], i, f + 1, h, hf, hi => by
    have := drop_nil h
    rw [wh_no (μ1 := μ)]
    · simp [lead]
    · have e : ¬ (i : Int) < ns.length := by omega
      simp [e, hD.len]
  | y :: L, i, 0, _, hf, _ => by simp at hf
  | y :: L, i, f + 1, h, hf, hi => by
    obtain ⟨h1, h2, h3⟩ := drop_cons h
    have e : (i : Int) < ns.length := by omega
    by_cases q : y = x
    · rw [wh_yes (μ1 := μ)]
      · have ih := w12i c hD (own := own) hx L (i + 1) f h2 (by simp at hf; omega) (by omega)
        simp at ih ⊢
        rw [ih]
        simp [lead, q]; omega
      · simp [e, hD.len, hD.idx, h1, hx, q]
    · rw [wh_no (μ1 := μ)]
      · simp [lead, q]
      · have q' : ((y : Int) == (x : Int)) = false := by simp; omega
        simp [e, hD.len, hD.idx, h1, hx, q']
def wsR (ws : List (List Nat)) : List RV := ws.map fun w => .d (.str (S w))
theorem fmtS {l : List Nat} (h : l.length ≤ 16777216) : fmtR (.d (.str (S l))) = some (S l) := fmt_str (by rw [SX.S_len, sizeLine_is]; exact h)
theorem S_nil_cat (l : List Nat) : Str.empty ++ S l = S l := SX.S_cat [] l
abbrev t12b : List S := [.asg (.nm 3) (.var 2), .whiles t12i [.asg (.nm 3) (.bin .add (.var 3) (.con (.int 1)))], .app 1 (.ite (.cmp .eq (.bin .sub (.var 3) (.var 2)) (.con (.int 1))) (.fstr [.idx (.var 0) (.var 2)]) (.fstr [.bin .sub (.var 3) (.var 2), .con (.str "*"), .idx (.var 0) (.var 2)])), .asg (.nm 2) (.var 3)]
theorem whileMost_is : whileMost = 999999 + 1 := rfl
theorem star_S : ("*" : Str) = S [42] := by decide +kernel
theorem b12 (c : CallF) {ns : List Nat} {D : PyData} (hD : Row D ns) (hl : ns.length ≤ 256) (hs : ∀ v ∈ ns, small v) {a x : Nat} {r : List Nat} (h : ns.drop a = x :: r) {ws : List (List Nat)} (hw : ws.length ≤ a) {e3 : Option Slot} :
    exSs c t12b [some (.val (.d D)), some (.own (wsR ws)), some (.val (.d (.int (a : Int)))), e3] μ =
      .ok (.next [some (.val (.d D)), some (.own (wsR (ws ++ [word (lead x r + 1, x)]))), some (.val (.d (.int ((a + (lead x r + 1) : Nat) : Int)))), some (.val (.d (.int ((a + (lead x r + 1) : Nat) : Int))))]) μ := by
  obtain ⟨h1, h2, h3⟩ := drop_cons h
  have hx : small x := hs x (List.mem_of_getElem? h1)
  have hle := lead_le x r
  have hlr : r.length ≤ 256 := by rw [← h2]; simp; omega
  have w := w12i (μ := μ) c hD (own := some (.own (wsR ws))) h1 (x :: r) a whileMost h (by rw [whileMost_is]; simp; omega) (by omega)
  have e : lead x (x :: r) = lead x r + 1 := by simp [lead]
  rw [e] at w
  have f1 := fmt_nat (small_log hx)
  have f2 := fmt_nat (small_log (small_le (v := lead x r + 1) (by omega)))
  have f3 : fmtR (.d (.str "*")) = some (S [42]) := by rw [star_S]; exact fmtS (by simp)
  have l1 := small_len hx
  have l2 := small_len (small_le (v := lead x r + 1) (by omega))
  have l3 : ws.length < 16777216 := by omega
  have e5 : ((a + (lead x r + 1) : Nat) : Int) - (a : Int) = ((lead x r + 1 : Nat) : Int) := by omega
  simp only [t12b, xs_cons, x_wh, x_asg, ev_var, List.getElem?_cons_zero, List.getElem?_cons_succ, R.bind_ok, at_nm, List.length_cons, List.length_nil, List.set_cons_succ, List.set_cons_zero, if_pos (show 3 < 0 + 1 + 1 + 1 + 1 by omega)]
  rw [w]
  by_cases q : lead x r = 0
  · simp only [q, Nat.zero_add] at *
    have e6 : ((a : Int) + 1 - (a : Int) == 1) = true := by simp; omega
    simp [hD.idx, h1, f1, S_nil_cat, SX.S_len, word, e5, e6, l3, wsR, show (numL x).length ≤ 16777216 by omega]
  · have q2 : ¬ (((lead x r + 1 : Nat) : Int) == 1) = true := by simp; omega
    have q3 : (((lead x r : Nat) : Int) + 1 == 1) = false := by simp; omega
    simp only [ev_ite, ev_cmp, ev_bin, x_app, xs_cons, xs_nil, ev_var, ev_con, ev_fstr, evf_cons, evf_nil, x_asg, at_nm, List.getElem?_cons_zero, List.getElem?_cons_succ, R.bind_ok, two_d, sub_int, Option.map_some, lift_some, e5, twoB_d, eq_int, truR_b, ev_idx, idxS_d, hD.idx, h1, f1, f2, f3, S_nil_cat, SX.S_len, SX.S_cat, List.length_append, List.length_cons, List.length_nil]
    simp [q3, q, wsR, show (numL (lead x r + 1)).length + 1 + (numL x).length ≤ 16777216 by omega, word, l3, S_nil_cat, SX.S_cat, SX.S_len, f1, show (numL (lead x r + 1)).length ≤ 16777216 by omega, show (numL (lead x r + 1)).length + 1 ≤ 16777216 by omega, show (numL (lead x r + 1)).length + (1 + (numL x).length) ≤ 16777216 by omega, show (numL (lead x r + 1)).length + ((numL x).length + 1) ≤ 16777216 by omega]
theorem w12 (c : CallF) {ns : List Nat} {D : PyData} (hD : Row D ns) (hl : ns.length ≤ 256) (hs : ∀ v ∈ ns, small v) : ∀ (fuel : Nat) (R : List Nat) (a : Nat) (ws : List (List Nat)) (e3 : Option Slot), ns.drop a = R → R.length < fuel → a ≤ ns.length → ws.length ≤ a → ∃ e4,
    wh c (.cmp .lt (.var 2) (.bi .len [.var 0])) t12b fuel [some (.val (.d D)), some (.own (wsR ws)), some (.val (.d (.int (a : Int)))), e3] μ =
      .ok (.next [some (.val (.d D)), some (.own (wsR (ws ++ (grp R).map word))), some (.val (.d (.int (ns.length : Int)))), e4]) μ
  | 0, _, _, _, _, _, hf, _, _ => by omega
  | f + 1, [], a, ws, e3, h, hf, hi, hw => by
    have := drop_nil h
    have e : a = ns.length := by omega
    subst e
    refine ⟨e3, ?_⟩
    rw [wh_no (μ1 := μ)]
    · simp [grp]
    · simp [hD.len]
  | f + 1, x :: r, a, ws, e3, h, hf, hi, hw => by
    obtain ⟨h1, h2, h3⟩ := drop_cons h
    have hle := lead_le x r
    have hlr : a + 1 + r.length = ns.length := by rw [← h2]; simp; omega
    obtain ⟨e4, ih⟩ := w12 c hD hl hs f (r.drop (lead x r)) (a + (lead x r + 1)) (ws ++ [word (lead x r + 1, x)]) (some (.val (.d (.int ((a + (lead x r + 1) : Nat) : Int))))) (by
      have : ∀ k, ns.drop (a + (k + 1)) = r.drop k := fun k => by rw [← h2, List.drop_drop]; congr 1; omega
      exact this _) (by simp at hf ⊢; omega) (by omega) (by simp; omega)
    refine ⟨e4, ?_⟩
    have e : (a : Int) < ns.length := by omega
    rw [wh_yes (μ1 := μ)]
    · rw [b12 c hD hl hs h hw, R.bind_ok]
      simp only
      rw [ih, grp_lead]
      simp
    · simp [e, hD.len]
theorem all_str : ∀ ws : List (List Nat), allBy asStr (ws.map fun w => .str (S w)) = some (ws.map S)
  | [] => rfl
  | w :: ws => by simp only [List.map_cons, allBy, asStr, all_str ws]
theorem joinLen (sep : List Nat) : ∀ ws : List (List Nat), (joinL sep ws).length ≤ (ws.map List.length).sum + ws.length * sep.length
  | [] => by simp [joinL]
  | [w] => by simp [joinL]
  | w :: x :: t => by
    have ih := joinLen sep (x :: t)
    simp only [joinL, List.length_append, List.map_cons, List.sum_cons, List.length_cons, Nat.add_mul] at ih ⊢
    omega
theorem join_bi {sep : List Nat} {ws : List (List Nat)} (h : (ws.map List.length).sum + ws.length * sep.length ≤ 16777216) : biF .join [.d (.str (S sep)), .d (.list (ws.map fun w => .str (S w)))] = some (.d (.str (S (joinL sep ws)))) := by
  show ((joinF (S sep) (.list _)).map PyData.str).map RV.d = _
  have : joinF (S sep) (.list (ws.map fun w => .str (S w))) = some (S (joinL sep ws)) := by
    unfold joinF
    simp only [asSeq, Option.bind_some, all_str]
    rw [if_pos, SX.join_S]
    rw [SX.lens, List.length_map, SX.S_len]
    exact h
  rw [this]; rfl
theorem allBy_wsR : ∀ ws : List (List Nat), allBy pureR (wsR ws) = some (ws.map fun w => .str (S w))
  | [] => rfl
  | w :: ws => by
    show allBy pureR (.d (.str (S w)) :: wsR ws) = _
    rw [allBy_d, allBy_wsR ws]; rfl
theorem sum_le {l : List Nat} {k : Nat} (h : ∀ v ∈ l, v ≤ k) : l.sum ≤ l.length * k := by
  induction l with
  | nil => simp
  | cons x l ih =>
    have := ih fun v hv => h v (List.mem_cons_of_mem _ hv)
    have := h x (by simp)
    simp only [List.sum_cons, List.length_cons, Nat.add_mul]; omega
theorem words_sum {ns : List Nat} (hl : ns.length ≤ 256) (hs : ∀ v ∈ ns, small v) : (((grp ns).map word).map List.length).sum ≤ 256 * 404 := by
  have := sum_le (l := ((grp ns).map word).map List.length) (k := 404) fun v hv => by
    obtain ⟨w, hw, rfl⟩ := List.mem_map.mp hv
    obtain ⟨p, hp, rfl⟩ := List.mem_map.mp hw
    have h1 := grp_len ns p hp
    exact word_len (by omega) (hs _ (grp_pos ns p hp).2)
  have h2 := grp_le ns
  simp only [List.length_map] at this
  omega
theorem blank_S : (" " : Str) = S [32] := by decide +kernel
theorem t12' (h : 1 ≤ n) {ns : List Nat} {D : PyData} (hD : Row D ns) (hl : ns.length ≤ 256) (hs : ∀ v ∈ ns, small v) : callF tab n 12 [.d D] μ = .ok (.d (.str (S (rowT ns)))) μ := by
  obtain ⟨m, rfl⟩ : ∃ m, n = m + 1 := ⟨n - 1, by omega⟩
  rw [callF_step (fn := f12) rfl rfl]
  obtain ⟨e4, w⟩ := w12 (μ := μ) (callF tab m) hD hl hs whileMost ns 0 [] none rfl (by rw [whileMost_is]; omega) (by omega) (by simp)
  have e0 : ((0 : Nat) : Int) = 0 := rfl
  rw [e0] at w
  have w : wh (callF tab m) (.cmp .lt (.var 2) (.bi .len [.var 0])) t12b whileMost [some (.val (.d D)), some (.own []), some (.val (.d (.int 0))), none] μ = _ := w
  have j := join_bi (sep := [32]) (ws := (grp ns).map word) (by
    have h1 := words_sum hl hs
    have h2 := grp_le ns
    simp only [List.length_map, List.length_cons, List.length_nil] at h1 ⊢
    omega)
  simp [f12, startR, x_wh, setAll]
  rw [w]
  rw [List.map_map] at j
  simp [allBy_wsR, blank_S, j, rowT]
theorem t12 (h : 1 ≤ n) {ns : List Nat} (hl : ns.length ≤ 256) (hs : ∀ v ∈ ns, small v) : callF tab n 12 [.d (rD ns)] μ = .ok (.d (.str (S (rowT ns)))) μ := t12' h (row_t ns) hl hs
theorem sN (l : List Nat) : (S l).length = l.length := SX.S_len l
theorem t13' (h : 2 ≤ n) {ns : List Nat} {D : PyData} (hD : Row D ns) (hl : ns.length ≤ 256) (hs : ∀ v ∈ ns, small v) {hd : List Nat} (hh : hd.length ≤ 20) : callF tab n 13 [.d (.str (S hd)), .d D] μ = .ok (.d (.str (S (lineT hd ns)))) μ := by
  obtain ⟨m, rfl⟩ : ∃ m, n = m + 1 := ⟨n - 1, by omega⟩
  rw [callF_step (fn := f13) rfl rfl]
  have r := row_len hl hs
  have b1 : binF .add (.str (S hd)) (.str (S [32])) = some (.str (S (hd ++ [32]))) := by
    rw [add_str (by simp [sN]; omega), SX.S_cat]
  have b2 : binF .add (.str (S (hd ++ [32]))) (.str (S (rowT ns))) = some (.str (S (hd ++ 32 :: rowT ns))) := by
    rw [add_str (by simp [sN]; omega), SX.S_cat]; simp
  by_cases q : ns = []
  · subst q
    simp [f13, startR, lineT, hD.len]
  · have q2 : ((ns.length : Int) == 0) = false := by
      have := List.length_pos_iff.mpr q
      simp; omega
    simp [f13, startR, lineT, q, q2, hD.len, t12' (n := m) (by omega) hD hl hs, blank_S, b1, b2]
theorem t13 (h : 2 ≤ n) {ns : List Nat} (hl : ns.length ≤ 256) (hs : ∀ v ∈ ns, small v) {hd : List Nat} (hh : hd.length ≤ 20) : callF tab n 13 [.d (.str (S hd)), .d (rD ns)] μ = .ok (.d (.str (S (lineT hd ns)))) μ := t13' h (row_t ns) hl hs hh
end K82
end

/-! text K82S8 -/
section
namespace K82
open Pv PySem L2
open TL (numL spl joinL par pre)
open SX (S)
open NumText (digitsVal AllDigits)
variable {n : Nat} {μ : Sto}
theorem spl_mem : ∀ (l acc w : List Nat), w ∈ spl [32] 0 acc l → w.length ≤ acc.length + l.length
  | [], acc, w, h => by rw [TL.spl_nil] at h; simp at h; simp [h]
  | c :: l, acc, w, h => by
    rw [spl_cons] at h
    split at h
    · rcases List.mem_cons.mp h with h | h
      · simp [h]
      · have := spl_mem l [] w h; simp at this ⊢; omega
    · have := spl_mem l _ w h; simp at this ⊢; omega
theorem int_figs {l : List Nat} {k : Nat} (h : figs l k = true) (hk : k ≤ 400) : biF .int [.d (.str (S l))] = some (.d (.int (digitsVal l : Nat))) := by
  obtain ⟨h1, h2, h3⟩ := figs_all h
  have : intOf (.str (S l)) = some ((digitsVal l : Nat) : Int) := by
    show (if (S l).length ≤ 640 then intText? (S l) else none) = _
    rw [sN, if_pos (by omega)]
    exact SX.int_S h3 (by intro e; subst e; simp at h1) (by omega)
  show ((intOf (.str (S l))).map PyData.int).map RV.d = _
  rw [this]; rfl
abbrev b15 : List Pv.S := [.asg (.tup [(.nm 3), (.nm 4), (.nm 5)]) (.mt .rpartition (.var 2) (.con (.str "*"))), .ifs (.cmp .eq (.var 4) (.con (.str ""))) [.asg (.nm 3) (.con (.str "1"))] [], .ifs (.or (.not (.call 14 [.var 3, .con (.int 3)])) (.not (.call 14 [.var 5, .con (.int 400)]))) [.ret (.lst [])] [], .asg (.nm 1) (.bin .add (.var 1) (.bin .mul (.lst [.bi .int [.var 5]]) (.bi .int [.var 3]))), .ifs (.cmp .gt (.bi .len [.var 1]) (.con (.int 256))) [.ret (.lst [])] []]
theorem rp_bi {w : List Nat} (h : w.length ≤ 16777216) : biF .rpartition [.d (.str (S w)), .d (.str (S [42]))] = some (.d (match rpar w with | some (a, b) => .tuple [.str (S a), .str (S [42]), .str (S b)] | none => .tuple [.str (S []), .str (S []), .str (S w)])) := by
  show ((biD .rpartition [.str (S w), .str (S [42])]).map RV.d) = _
  simp only [biD]
  rw [if_pos ⟨by rfl, by rw [sN, sizeLine_is]; exact h⟩, rpart_S]
  cases rpar w with
  | none => rfl
  | some p => rfl
theorem one_S : ("1" : Str) = S [49] := by decide +kernel
theorem nil_S : ("" : Str) = S [] := by decide +kernel
theorem b15k {m : Nat} (hm : 1 ≤ m) {w f : List Nat} (hf : f.length ≤ 256) {x0 : Option Slot} (a b : List Nat) (st : Str) (ha : a.length ≤ 16777216) (hb : b.length ≤ 16777216) : exSs (callF tab m) (b15.drop 2) [x0, some (.val (.d (.list (f.map nD)))), some (.val (.d (.str (S w)))), some (.val (.d (.str (S a)))), some (.val (.d (.str st))), some (.val (.d (.str (S b))))] μ =
      if figs a 3 && figs b 400 then
        (if (f ++ List.replicate (digitsVal a) (digitsVal b)).length > 256 then .ok (.ret (.d (.list []))) μ else
          .ok (.next [x0, some (.val (.d (.list ((f ++ List.replicate (digitsVal a) (digitsVal b)).map nD)))), some (.val (.d (.str (S w)))), some (.val (.d (.str (S a)))), some (.val (.d (.str st))), some (.val (.d (.str (S b))))]) μ)
      else .ok (.ret (.d (.list []))) μ := by
  have c1 : callF tab m 14 [.d (.str (S a)), .d (.int 3)] μ = .ok (.d (.bool (figs a 3))) μ := t14 hm a (by rw [sizeLine_is]; exact ha) 3
  have c2 : callF tab m 14 [.d (.str (S b)), .d (.int 400)] μ = .ok (.d (.bool (figs b 400))) μ := t14 hm b (by rw [sizeLine_is]; exact hb) 400
  cases q1 : figs a 3 with
  | false => simp [b15, c1, q1]
  | true =>
    cases q2 : figs b 400 with
    | false => simp [b15, c1, q1, c2, q2]
    | true =>
      have l1 := figs_lt q1
      have e1 := int_figs q1 (by decide)
      have e2 := int_figs q2 (by decide)
      have e3 : binF .mul (.list [nD (digitsVal b)]) (.int (digitsVal a : Nat)) = some (.list (List.replicate (digitsVal a) (nD (digitsVal b)))) := mul_one (by omega)
      have e4 : binF .add (.list (f.map nD)) (.list (List.replicate (digitsVal a) (nD (digitsVal b)))) = some (.list ((f ++ List.replicate (digitsVal a) (digitsVal b)).map nD)) := by
        rw [add_list (by simp; omega), List.map_append, List.map_replicate]
      have e5 : decide ((256 : Int) < (((f ++ List.replicate (digitsVal a) (digitsVal b)).map nD).length : Int)) = decide ((f ++ List.replicate (digitsVal a) (digitsVal b)).length > 256) := decide_eq_decide.mpr (by rw [List.length_map]; omega)
      generalize f ++ List.replicate (digitsVal a) (digitsVal b) = g at *
      have e6 : callF tab m 14 [.d (.str (S a)), .d (.int 3)] μ = .ok (.d (.bool true)) μ := by rw [c1, q1]
      have e7 : callF tab m 14 [.d (.str (S b)), .d (.int 400)] μ = .ok (.d (.bool true)) μ := by rw [c2, q2]
      clear c1 c2 q1 q2 l1
      by_cases q : g.length > 256
      · have e8 : (256 : Int) < g.length := by omega
        simp [b15, e6, e7, e1, e2, e3, e4, e8, q]
      · have e8 : ¬ (256 : Int) < g.length := by omega
        simp [b15, e6, e7, e1, e2, e3, e4, e8, q]
/-- one word -/
theorem b15_ok {m : Nat} (hm : 1 ≤ m) {w f : List Nat} (hw : w.length ≤ 16777216) (hf : f.length ≤ 256) {x0 x2 x3 x4 x5 : Option Slot} :
    ∃ y3 y4 y5, exSs (callF tab m) b15 [x0, some (.val (.d (.list (f.map nD)))), some (.val (.d (.str (S w)))), x3, x4, x5] μ =
      if figs (timesOf w) 3 && figs (numOf w) 400 then
        (if (f ++ List.replicate (digitsVal (timesOf w)) (digitsVal (numOf w))).length > 256 then .ok (.ret (.d (.list []))) μ else
          .ok (.next [x0, some (.val (.d (.list ((f ++ List.replicate (digitsVal (timesOf w)) (digitsVal (numOf w))).map nD)))), some (.val (.d (.str (S w)))), y3, y4, y5]) μ)
      else .ok (.ret (.d (.list []))) μ := by
  have hr := rp_bi hw
  have key := @b15k μ m hm w f hf x0
  cases q : rpar w with
  | none =>
    rw [q] at hr
    refine ⟨some (.val (.d (.str (S [49])))), some (.val (.d (.str (S [])))), some (.val (.d (.str (S w)))), ?_⟩
    have k := key [49] w (S []) (by simp) hw
    have ht : timesOf w = [49] := by unfold timesOf; rw [q]
    have hn : numOf w = w := by unfold numOf; rw [q]
    rw [ht, hn, ← k]
    simp [b15, star_S, nil_S, one_S, hr]
  | some p =>
    obtain ⟨a, b⟩ := p
    rw [q] at hr
    obtain ⟨e, _⟩ := rpar_some q
    refine ⟨some (.val (.d (.str (S a)))), some (.val (.d (.str (S [42])))), some (.val (.d (.str (S b)))), ?_⟩
    have k := key a b (S [42]) (by rw [e] at hw; simp at hw; omega) (by rw [e] at hw; simp at hw; omega)
    have ht : timesOf w = a := by unfold timesOf; rw [q]
    have hn : numOf w = b := by unfold numOf; rw [q]
    rw [ht, hn, ← k]
    have z : (S [42] == S []) = false := by decide
    simp [b15, star_S, nil_S, hr, z]
theorem fo15 {m : Nat} (hm : 1 ≤ m) {x0 : Option Slot} : ∀ (ws : List (List Nat)) (f : List Nat) (x2 x3 x4 x5 : Option Slot), f.length ≤ 256 → (∀ w ∈ ws, w.length ≤ 16777216) →
    match numsGo ws f with
    | none => fo (callF tab m) (.nm 2) b15 (ws.map fun w => .one (.d (.str (S w)))) [x0, some (.val (.d (.list (f.map nD)))), x2, x3, x4, x5] μ = .ok (.ret (.d (.list []))) μ
    | some ns => ∃ y2 y3 y4 y5, fo (callF tab m) (.nm 2) b15 (ws.map fun w => .one (.d (.str (S w)))) [x0, some (.val (.d (.list (f.map nD)))), x2, x3, x4, x5] μ = .ok (.next [x0, some (.val (.d (.list (ns.map nD)))), y2, y3, y4, y5]) μ
  | [], f, x2, x3, x4, x5, _, _ => ⟨x2, x3, x4, x5, rfl⟩
  | w :: ws, f, x2, x3, x4, x5, hf, hw => by
    obtain ⟨y3, y4, y5, e⟩ := b15_ok (μ := μ) hm (hw w (by simp)) hf (x0 := x0) (x2 := x2) (x3 := x3) (x4 := x4) (x5 := x5)
    rw [List.map_cons, fo_cons]
    simp only [asgI_one, List.length_cons, List.length_nil, if_pos (show 2 < 0 + 1 + 1 + 1 + 1 + 1 + 1 by omega), List.set_cons_succ, List.set_cons_zero]
    rw [e]
    have u : numsGo (w :: ws) f = if figs (timesOf w) 3 && figs (numOf w) 400 then
      (if (f ++ List.replicate (digitsVal (timesOf w)) (digitsVal (numOf w))).length > 256 then none else numsGo ws (f ++ List.replicate (digitsVal (timesOf w)) (digitsVal (numOf w)))) else none := rfl
    rw [u]
    generalize f ++ List.replicate (digitsVal (timesOf w)) (digitsVal (numOf w)) = g
    by_cases h1 : (figs (timesOf w) 3 && figs (numOf w) 400) = true
    · by_cases h2 : g.length > 256
      · simp only [if_pos h1, if_pos h2, R.bind_ok]
      · simp only [if_pos h1, if_neg h2, R.bind_ok]
        exact fo15 hm ws _ _ _ _ _ (by omega) fun w hw' => hw w (List.mem_cons_of_mem _ hw')
    · simp only [if_neg h1, R.bind_ok]
theorem spl_bi {t : List Nat} {c : Nat} (hc : c < 256) (h : t.length + 2 ≤ 16777216) : biF .split1 [.d (.str (S t)), .d (.str (S [c]))] = some (.d (.list ((spl [c] 0 [] t).map fun w => .str (S w)))) := by
  show ((biD .split1 [.str (S t), .str (S [c])]).map RV.d) = _
  simp only [biD]
  rw [if_pos ⟨by rfl, by rw [sN, sizeLine_is]; exact h⟩, SX.split_S (by simp) (by simp [hc]), List.map_map]
  rfl
theorem t15 (h : 2 ≤ n) {t : List Nat} (hl : t.length ≤ 1000000) : callF tab n 15 [.d (.str (S t))] μ = .ok (.d (.list (match numsOf t with | some ns => [rD ns] | none => []))) μ := by
  obtain ⟨m, rfl⟩ : ∃ m, n = m + 1 := ⟨n - 1, by omega⟩
  rw [callF_step (fn := f15) rfl rfl]
  have sp := spl_bi (t := t) (c := 32) (by decide) (by omega)
  have w := fo15 (μ := μ) (m := m) (by omega) (x0 := some (.val (.d (.str (S t))))) (spl [32] 0 [] t) [] none none none none (by simp) (fun w hw => by have := spl_mem t [] w hw; simp at this; omega)
  have hn : numsOf t = numsGo (spl [32] 0 [] t) [] := rfl
  rw [hn]
  have sq : ∀ xs : List (List Nat), seqItems (.list (xs.map fun w => .str (S w))) = some (xs.map fun w => .str (S w)) := fun _ => rfl
  cases q : numsGo (spl [32] 0 [] t) [] with
  | none =>
    rw [q] at w
    simp only [List.map_nil] at w
    simp [f15, startR, x_fo, blank_S, sp, sq, Function.comp_def, w]
  | some ns =>
    rw [q] at w
    obtain ⟨y2, y3, y4, y5, w⟩ := w
    simp only [List.map_nil] at w
    simp [f15, startR, x_fo, blank_S, sp, sq, Function.comp_def, w, rD]
end K82
end

/-! text K82S9 -/
section
namespace K82
open Pv PySem L2
open TL (numL spl joinL par pre)
open SX (S)
open NumText (digitsVal AllDigits)
variable {n : Nat} {μ : Sto}
theorem starts_S (a b : List Nat) : Txt.startswith (S a) (S b) = b.isPrefixOf a := by
  unfold Txt.startswith
  rw [StrLaws.subAt_eq, sN, sN]
  show (decide (0 + b.length ≤ a.length) && (a.drop 0).take b.length == b) = _
  rw [List.drop_zero, Nat.zero_add, Bool.eq_iff_iff]
  rw [List.isPrefixOf_iff_prefix, Bool.and_eq_true, decide_eq_true_eq, beq_iff_eq]
  constructor
  · rintro ⟨_, h⟩
    exact ⟨a.drop b.length, by conv => lhs; lhs; rw [← h]
                               exact List.take_append_drop _ _⟩
  · rintro ⟨t, rfl⟩
    simp
theorem starts_bi (a b : List Nat) : biF .startswith [.d (.str (S a)), .d (.str (S b))] = some (.d (.bool (b.isPrefixOf a))) := by
  show some (RV.d (.bool (Txt.startswith (S a) (S b)))) = _
  rw [starts_S]
theorem sli_from {a : List Nat} {k : Nat} (h : a.length ≤ 16777216) : sliR (some (k : Int)) none (.d (.str (S a))) = some (.d (.str (S (a.drop k)))) := by
  have : sliF (some (k : Int)) none (.str (S a)) = some (.str (S (a.drop k))) := by
    show (if (S a).length ≤ sizeLine then some (PyData.str (cutS (S a) (some (k : Int)) none)) else none) = _
    rw [sN, sizeLine_is, if_pos h, C8.cutS_slice, SX.slice_from (by omega)]
    simp
  show (sliF _ _ _).map RV.d = _
  rw [this]; rfl
theorem canLay_map {α : Type} (f : α → PyData) (h : ∀ x, (f x).canLay0 = true) : ∀ xs : List α, PyData.canLayAll0 (xs.map f) = true
  | [] => rfl
  | x :: xs => by
    show ((f x).canLay0 && PyData.canLayAll0 (xs.map f)) = true
    rw [h, canLay_map f h xs]; rfl
theorem depth_map {α : Type} (f : α → PyData) {k : Nat} (h : ∀ x, (f x).depth ≤ k) : ∀ xs : List α, PyData.depthAll (xs.map f) ≤ k
  | [] => Nat.zero_le _
  | x :: xs => by
    show max (f x).depth (PyData.depthAll (xs.map f)) ≤ k
    exact Nat.max_le.mpr ⟨h x, depth_map f h xs⟩
theorem canLay_r (ns : List Nat) : (rD ns).canLay0 = true := canLay_map nD (fun _ => rfl) ns
theorem depth_r (ns : List Nat) : (rD ns).depth ≤ 1 := Nat.succ_le_succ (depth_map nD (fun _ => Nat.le_refl _) ns)
theorem canLay_p (ps : List (Nat × Nat)) : (pD ps).canLay0 = true := canLay_map (fun (p : Nat × Nat) => rD [p.1, p.2]) (fun p => canLay_r [p.1, p.2]) ps
theorem depth_p (ps : List (Nat × Nat)) : (pD ps).depth ≤ 2 := Nat.succ_le_succ (depth_map (fun (p : Nat × Nat) => rD [p.1, p.2]) (fun p => depth_r [p.1, p.2]) ps)
theorem shaped_of {d : PyData} (h1 : d.canLay0 = true) (h2 : d.depth ≤ 60) : SeqAt.shaped (.list [d]) = true := by
  show ((d.canLay0 && true) && decide (max d.depth 0 + 1 ≤ 64)) = true
  rw [h1, decide_eq_true (by simp; omega)]; rfl
theorem ne_one {d : PyData} (h1 : d.canLay0 = true) (h2 : d.depth ≤ 60) : cmpF .ne (.list [d]) (.list []) = some true := by
  have : cmpF .eq (.list [d]) (.list []) = some false := by
    rw [eq_shaped rfl (shaped_of h1 h2) (by decide +kernel)]
    simp [PyData.eqv, PyData.eqvAll]
  show (cmpF .eq (.list [d]) (.list [])).map (! ·) = _
  rw [this]; rfl
theorem eq_one {d : PyData} (h1 : d.canLay0 = true) (h2 : d.depth ≤ 60) : cmpF .eq (.list [d]) (.list []) = some false := by
  rw [eq_shaped rfl (shaped_of h1 h2) (by decide +kernel)]
  simp [PyData.eqv, PyData.eqvAll]
theorem ne_nil : cmpF .ne (.list []) (.list []) = some false := by decide +kernel
theorem eq_nil : cmpF .eq (.list []) (.list []) = some true := by decide +kernel
theorem ne_r (ns : List Nat) : cmpF .ne (.list [rD ns]) (.list []) = some true := ne_one (canLay_r ns) (Nat.le_trans (depth_r ns) (by decide))
/-- a list of what is told, or none -/
def optL {α : Type} (f : α → PyData) : Option α → PyData
  | some x => .list [f x]
  | none => .list []
theorem rD_nil : rD [] = .tuple [] := rfl
theorem t16 (h : 3 ≤ n) {l hd : List Nat} (hl : l.length ≤ 1000000) (hh : hd.length ≤ 20) : callF tab n 16 [.d (.str (S l)), .d (.str (S hd))] μ = .ok (.d (optL rD (rowIn l hd))) μ := by
  obtain ⟨m, rfl⟩ : ∃ m, n = m + 1 := ⟨n - 1, by omega⟩
  rw [callF_step (fn := f16) rfl rfl]
  have b1 : binF .add (.str (S hd)) (.str (S [32])) = some (.str (S (hd ++ [32]))) := by
    rw [add_str (by simp [sN]; omega), SX.S_cat]
  have e1 : biF .len [.d (.str (S hd))] = some (.d (.int hd.length)) := by
    rw [bi_lenS (by rw [sN, sizeLine_is]; omega), sN]
  have e2 : sliR (some ((hd.length : Int) + 1)) none (.d (.str (S l))) = some (.d (.str (S (l.drop (hd.length + 1))))) := sli_from (k := hd.length + 1) (by omega)
  have c1 := t15 (n := m) (μ := μ) (by omega) (t := l.drop (hd.length + 1)) (by simp; omega)
  unfold rowIn
  by_cases q : l = hd
  · simp [f16, startR, SX.S_beq_eq, q, optL, rD]
  · simp only [if_neg q]
    by_cases q2 : (hd ++ [32]).isPrefixOf l = true
    · simp only [if_pos q2]
      cases q3 : numsOf (l.drop (hd.length + 1)) with
      | none =>
        rw [q3] at c1
        simp [f16, startR, SX.S_beq_eq, q, optL, blank_S, b1, starts_bi, q2, e1, e2, c1, ne_nil]
      | some ns =>
        rw [q3] at c1
        obtain ⟨s1, s2⟩ := numsOf_small q3
        have c2 := t13 (n := m) (μ := μ) (by omega) s1 s2 (hd := hd) hh
        by_cases q4 : l = lineT hd ns
        · simp only [if_pos q4]
          simp [f16, startR, SX.S_beq_eq, q, optL, blank_S, b1, starts_bi, q2, e1, e2, c1, ne_r, c2, ← q4]
        · simp only [if_neg q4]
          simp [f16, startR, SX.S_beq_eq, q, optL, blank_S, b1, starts_bi, q2, e1, e2, c1, ne_r, c2, q4]
    · have q2 : (hd ++ [32]).isPrefixOf l = false := Bool.eq_false_iff.mpr q2
      simp [f16, startR, SX.S_beq_eq, q, optL, blank_S, b1, starts_bi, q2]
end K82
end

/-! text K82S10 -/
section
namespace K82
open Pv PySem L2
open TL (numL spl joinL par pre)
open SX (S)
open NumText (digitsVal AllDigits)
variable {n : Nat} {μ : Sto}
theorem end_S : ("end " : Str) = S (T "end ") := (T_S _).symm
theorem T_end : (T "end ").length = 4 := by decide +kernel
theorem T_none : (T "end none").length = 8 := by decide +kernel
theorem t17n (h : 1 ≤ n) : callF tab n 17 [.d .none] μ = .ok (.d (.str (S (T "end none")))) μ := by
  obtain ⟨m, rfl⟩ : ∃ m, n = m + 1 := ⟨n - 1, by omega⟩
  rw [T_S]; rfl
theorem t17a (h : 1 ≤ n) {w : List Nat} (hw : w.length ≤ 1000000) {v : Nat} (hv : small v) : callF tab n 17 [.d (.tuple [.str (S w), nD v])] μ = .ok (.d (.str (S (T "end " ++ (w ++ 32 :: numL v))))) μ := by
  obtain ⟨m, rfl⟩ : ∃ m, n = m + 1 := ⟨n - 1, by omega⟩
  rw [callF_step (fn := f17) rfl rfl]
  have l := small_len hv
  have l4 := T_end
  have f1 := fmtS (l := T "end ") (by omega)
  have f2 := fmtS (l := w) (by omega)
  have f3 := fmtS (l := [32]) (by simp)
  have f4 := fmt_nat (small_log hv)
  simp [f17, startR, end_S, blank_S, f1, f2, f3, f4, S_nil_cat, SX.S_cat, sN, l4, show 4 + w.length ≤ 16777216 by omega, show 4 + w.length + 1 ≤ 16777216 by omega, show 4 + w.length + 1 + (numL v).length ≤ 16777216 by omega, show 4 + (w.length + 1) ≤ 16777216 by omega, show 4 + (w.length + (1 + (numL v).length)) ≤ 16777216 by omega, show 4 + (w.length + ((numL v).length + 1)) ≤ 16777216 by omega]
theorem t17s (h : 1 ≤ n) {w v : List Nat} (hw : w.length ≤ 1000000) (l : v.length ≤ 1000000) : callF tab n 17 [.d (.tuple [.str (S w), .str (S v)])] μ = .ok (.d (.str (S (T "end " ++ (w ++ 32 :: v))))) μ := by
  obtain ⟨m, rfl⟩ : ∃ m, n = m + 1 := ⟨n - 1, by omega⟩
  rw [callF_step (fn := f17) rfl rfl]
  have l4 := T_end
  have f1 := fmtS (l := T "end ") (by omega)
  have f2 := fmtS (l := w) (by omega)
  have f3 := fmtS (l := [32]) (by simp)
  have f4 := fmtS (l := v) (by omega)
  simp [f17, startR, end_S, blank_S, f1, f2, f3, f4, S_nil_cat, SX.S_cat, sN, l4, show 4 + w.length ≤ 16777216 by omega, show 4 + w.length + 1 ≤ 16777216 by omega, show 4 + w.length + 1 + v.length ≤ 16777216 by omega, show 4 + (w.length + 1) ≤ 16777216 by omega, show 4 + (w.length + (1 + v.length)) ≤ 16777216 by omega, show 4 + (w.length + (v.length + 1)) ≤ 16777216 by omega]
theorem endT_ans (v : Nat) : endT (.ans v) = T "end " ++ (T "answer" ++ 32 :: numL v) := by rw [ans_is]; simp
theorem endT_fault (k : List Nat) : endT (.fault k) = T "end " ++ (T "fault" ++ 32 :: k) := by rw [fault_is]; simp
theorem kinds_len : ∀ k ∈ kinds, k.length ≤ 6 := by decide +kernel
theorem t17 (h : 1 ≤ n) {e : End} (he : endOk e) : callF tab n 17 [.d (endD e)] μ = .ok (.d (.str (S (endT e)))) μ := by
  cases e with
  | none => exact t17n h
  | ans v =>
    have he : v ≤ 65535 := he
    show callF tab n 17 [.d (.tuple [.str "answer", nD v])] μ = _
    rw [← T_S, t17a h (by decide +kernel) (small_le he), endT_ans]
  | fault k =>
    have he : k ∈ kinds := he
    have := kinds_len k he
    show callF tab n 17 [.d (.tuple [.str "fault", .str (S k)])] μ = _
    rw [← T_S, t17s h (by decide +kernel) (by omega), endT_fault]
theorem flatP_map : ∀ ps : List (Nat × Nat), (ps.flatMap fun p => [nD p.1, nD p.2]) = (flatP ps).map nD
  | [] => rfl
  | (a, b) :: t => by
    rw [List.flatMap_cons, flatP_map t]; rfl
theorem headT_len (s : List Nat) (hs : s.length = 5) {m : Nat} (hm : m ≤ 1) : (headT s m).length = 8 := head_len hs hm
theorem arr_S : ("array" : Str) = S (T "array") := (T_S _).symm
theorem prs_S : ("pairs" : Str) = S (T "pairs") := (T_S _).symm
theorem colon_S : (":" : Str) = S [58] := by decide +kernel
theorem num1 {m : Nat} (hm : m ≤ 1) : (numL m).length = 1 := by rw [TL.numL_lt (by omega)]; rfl
theorem fhead {c : CallF} {ρ : REnv} {e1 e2 : E} {s : List Nat} (hs : s.length = 5) {m : Nat} (hm : m ≤ 1) (h1 : evE c ρ e1 μ = .ok (.d (.str (S s))) μ) (h2 : evE c ρ e2 μ = .ok (.d (nD m)) μ) : evE c ρ (.fstr [e1, .con (.str " "), e2, .con (.str ":")]) μ = .ok (.d (.str (S (headT s m)))) μ := by
  have l := num1 hm
  have f1 := fmtS (l := s) (by omega)
  have f3 := fmtS (l := [32]) (by simp)
  have f4 := fmt_nat (small_log (small_le (v := m) (by omega)))
  have f5 := fmtS (l := [58]) (by simp)
  simp [h1, h2, blank_S, colon_S, f1, f3, f4, f5, S_nil_cat, SX.S_cat, sN, hs, l, headT]
theorem t18 (h : 3 ≤ n) {t : Tab} (ht : tabOk t = true) : callF tab n 18 [.d (tabD t)] μ = .ok (.d (.str (S (tabT t)))) μ := by
  obtain ⟨m, rfl⟩ : ∃ m, n = m + 1 := ⟨n - 1, by omega⟩
  rw [callF_step (fn := f18) rfl rfl]
  cases t with
  | arr k ns =>
    simp only [tabOk, Bool.and_eq_true, decide_eq_true_eq, List.all_eq_true] at ht
    obtain ⟨⟨⟨h1, h2⟩, h3⟩, h4⟩ := ht
    have c := t13 (n := m) (μ := μ) (by omega) (ns := ns) (by omega) (fun v hv => small_le (h4 v hv)) (hd := headT (T "array") k) (by rw [head_len (by decide +kernel) h1]; decide)
    have f := fhead (μ := μ) (c := callF tab m) (ρ := [some (.val (.d (tabD (.arr k ns)))), some (.val (.d (rD ns))), none, none]) (e1 := .idx (.var 0) (.con (.int 0))) (e2 := .idx (.var 0) (.con (.int 1))) (s := T "array") (by decide +kernel) h1 (by simp [tabD, arr_S]) (by simp [tabD])
    have g : evE (callF tab m) [some (.val (.d (tabD (.arr k ns)))), none, none, none] (.ite (.cmp .eq (.idx (.var 0) (.con (.int 0))) (.con (.str "array"))) (.idx (.var 0) (.con (.int 2))) (.comp2 (.var 3) (.nm 2) (.seq (.idx (.var 0) (.con (.int 2)))) none (.nm 3) (.seq (.var 2)) none [2, 3] [3])) μ = .ok (.d (rD ns)) μ := by simp [tabD]
    simp only [f18, startR, xs_cons, xs_nil, x_asg]
    simp only [List.map_cons, List.map_nil, List.length_cons, List.length_nil, List.cons_append, List.nil_append, List.replicate, Nat.reduceSub, Nat.reduceAdd]
    rw [g, R.bind_ok]
    simp only [at_nm, List.length_cons, List.length_nil, List.set_cons_succ, List.set_cons_zero, x_ret, ev_call, evs_cons, evs_nil]
    simp only [if_pos (show 1 < 0 + 1 + 1 + 1 + 1 by omega), R.bind_ok, f]
    simp [c, tabT]
  | prs k ps =>
    simp only [tabOk, Bool.and_eq_true, decide_eq_true_eq] at ht
    obtain ⟨⟨⟨h1, h2⟩, h3⟩, h4⟩ := ht
    have fl := flatP_len ps
    have c := t13' (n := m) (μ := μ) (by omega) (row_l (flatP ps)) (by omega) (fun v hv => small_le (flatP_all ps h3 v hv)) (hd := headT (T "pairs") k) (by rw [head_len (by decide +kernel) h1]; decide)
    have f := fhead (μ := μ) (c := callF tab m) (ρ := [some (.val (.d (tabD (.prs k ps)))), some (.val (.d (.list ((flatP ps).map nD)))), none, none]) (e1 := .idx (.var 0) (.con (.int 0))) (e2 := .idx (.var 0) (.con (.int 1))) (s := T "pairs") (by decide +kernel) h1 (by simp [tabD, prs_S]) (by simp [tabD])
    have e1 : ((("pairs" : Str) == "array") : Bool) = false := by decide +kernel
    have g2 : evE (callF tab m) [some (.val (.d (tabD (.prs k ps)))), none, none, none] (.comp2 (.var 3) (.nm 2) (.seq (.idx (.var 0) (.con (.int 2)))) none (.nm 3) (.seq (.var 2)) none [2, 3] [3]) μ = .ok (.d (.list ((flatP ps).map nD))) μ := by
      rw [← flatP_map]
      refine ev_comp2 ps (fun p => .one (.d (rD [p.1, p.2]))) (fun p => [p.1, p.2]) (fun _ y => .one (.d (nD y))) (fun _ y => nD y) ?_ ?_ fun p hp => ⟨_, rfl, ?_, fun y hy => ⟨_, rfl, ?_⟩⟩
      · have : seqItems (pD ps) = some (ps.map fun (p : Nat × Nat) => rD [p.1, p.2]) := rfl
        simp [tabD, this]
      · have := congrArg List.length (flatP_map ps)
        simp only [List.length_map] at this
        simp only [List.map_cons, List.map_nil, this, sizeLine_is]
        omega
      · simp [wipeR, noOwn]
      · simp [wipeR, noOwn]
    have g : evE (callF tab m) [some (.val (.d (tabD (.prs k ps)))), none, none, none] (.ite (.cmp .eq (.idx (.var 0) (.con (.int 0))) (.con (.str "array"))) (.idx (.var 0) (.con (.int 2))) (.comp2 (.var 3) (.nm 2) (.seq (.idx (.var 0) (.con (.int 2)))) none (.nm 3) (.seq (.var 2)) none [2, 3] [3])) μ = .ok (.d (.list ((flatP ps).map nD))) μ := by
      have g3 : evE (callF tab m) [some (.val (.d (tabD (.prs k ps)))), none, none, none] (.cmp .eq (.idx (.var 0) (.con (.int 0))) (.con (.str "array"))) μ = .ok (.d (.bool false)) μ := by simp [tabD, e1]
      rw [ev_ite, g3, R.bind_ok]
      simp only [truR_b]
      exact g2
    simp only [f18, startR, xs_cons, xs_nil, x_asg]
    simp only [List.map_cons, List.map_nil, List.length_cons, List.length_nil, List.cons_append, List.nil_append, List.replicate, Nat.reduceSub, Nat.reduceAdd]
    rw [g, R.bind_ok]
    simp only [at_nm, List.length_cons, List.length_nil, List.set_cons_succ, List.set_cons_zero, x_ret, ev_call, evs_cons, evs_nil]
    simp only [if_pos (show 1 < 0 + 1 + 1 + 1 + 1 by omega), R.bind_ok, f]
    simp [c, tabT]
end K82
end

/-! text K82S11 -/
section
namespace K82
open Pv PySem L2
open TL (numL spl joinL par pre)
open SX (S)
open NumText (digitsVal AllDigits)
variable {n : Nat} {μ : Sto}
def nine (r : Run) : List (List Nat) := [lineT (T "steps") [r.steps], lineT (T "place") [r.place], endT r.fin, lineT (T "clock") [r.clock], lineT (T "writable") [r.wr], lineT (T "registers") r.regs, lineT (T "slots") r.slots, lineT (T "counters") r.ctrs, lineT (T "packet") r.pkt]
def linesT (r : Run) : List (List Nat) := nine r ++ r.tabs.map tabT
def textT (ls : List (List Nat)) : List Nat := joinL [10] ls
theorem steps_small {r : Run} (o : RunOk r) : small r.steps := Nat.lt_trans o.steps (by decide +kernel)
theorem line_one (h : List Nat) (v : Nat) : lineT h [v] = h ++ 32 :: numL v := by
  simp [lineT, rowT, grp, word, joinL]
theorem endT_len {e : End} (h : endOk e) : (endT e).length ≤ 100 := by
  cases e with
  | none => decide +kernel
  | ans v =>
    have h : v ≤ 65535 := h
    have := TL.numL_len (k := 5) (by decide) (show v < 10 ^ 5 by omega)
    have l : (T "end answer ").length = 11 := by decide +kernel
    show (T "end answer " ++ numL v).length ≤ 100
    rw [List.length_append]; omega
  | fault k =>
    have := kinds_len k h
    have l : (T "end fault ").length = 10 := by decide +kernel
    show (T "end fault " ++ k).length ≤ 100
    rw [List.length_append]; omega
theorem tabT_len {t : Tab} (ht : tabOk t = true) : (tabT t).length ≤ 103701 := by
  cases t with
  | arr k ns =>
    simp only [tabOk, Bool.and_eq_true, decide_eq_true_eq, List.all_eq_true] at ht
    obtain ⟨⟨⟨h1, h2⟩, h3⟩, h4⟩ := ht
    exact lineT_len (by rw [head_len (by decide +kernel) h1]; decide) (by omega) fun v hv => small_le (h4 v hv)
  | prs k ps =>
    simp only [tabOk, Bool.and_eq_true, decide_eq_true_eq] at ht
    obtain ⟨⟨⟨h1, h2⟩, h3⟩, h4⟩ := ht
    have fl := flatP_len ps
    exact lineT_len (by rw [head_len (by decide +kernel) h1]; decide) (by omega) fun v hv => small_le (flatP_all ps h3 v hv)
theorem one_len {h : List Nat} {v : Nat} (hh : h.length ≤ 20) (hv : small v) : (lineT h [v]).length ≤ 103701 := lineT_len hh (by simp) (by simpa using hv)
theorem row_small {ns : List Nat} {k : Nat} (h : ∀ v ∈ ns, v ≤ k) (hk : k ≤ 65535) : ∀ v ∈ ns, small v := fun v hv => small_le (Nat.le_trans (h v hv) hk)
theorem nine_len {r : Run} (o : RunOk r) : ∀ l ∈ nine r, l.length ≤ 103701 := by
  have := o.place; have := o.clock; have := o.wr
  have := o.regs.1; have := o.slots.1; have := o.ctrs.1; have := o.pkt.1
  intro l hl
  simp only [nine, List.mem_cons, List.not_mem_nil, or_false] at hl
  rcases hl with rfl | rfl | rfl | rfl | rfl | rfl | rfl | rfl | rfl
  · exact one_len (by decide +kernel) (steps_small o)
  · exact one_len (by decide +kernel) (small_le (by omega))
  · exact Nat.le_trans (endT_len o.fin) (by decide)
  · exact one_len (by decide +kernel) (small_le (by omega))
  · exact one_len (by decide +kernel) (small_le (by omega))
  · exact lineT_len (by decide +kernel) (by omega) (row_small o.regs.2 (by decide))
  · exact lineT_len (by decide +kernel) (by omega) (row_small o.slots.2 (by decide))
  · exact lineT_len (by decide +kernel) (by omega) (row_small o.ctrs.2 (by decide))
  · exact lineT_len (by decide +kernel) (by omega) (row_small o.pkt.2 (by decide))
theorem lines_len {r : Run} (o : RunOk r) : ∀ l ∈ linesT r, l.length ≤ 103701 := by
  intro l hl
  rcases List.mem_append.mp hl with hl | hl
  · exact nine_len o l hl
  · obtain ⟨t, ht, rfl⟩ := List.mem_map.mp hl
    exact tabT_len (o.tabs.2 t ht)
theorem lines_many {r : Run} (o : RunOk r) : (linesT r).length ≤ 15 := by
  have := o.tabs.1
  simp [linesT, nine]; omega
theorem fone {c : CallF} {ρ : REnv} {e : E} {hd : List Nat} (hh : hd.length ≤ 20) {v : Nat} (hv : small v) (h1 : evE c ρ e μ = .ok (.d (nD v)) μ) : evE c ρ (.fstr [.con (.str (S (hd ++ [32]))), e]) μ = .ok (.d (.str (S (lineT hd [v])))) μ := by
  have l := small_len hv
  have f1 := fmtS (l := hd ++ [32]) (by simp; omega)
  have f4 := fmt_nat (small_log hv)
  simp [h1, f1, f4, S_nil_cat, SX.S_cat, sN, line_one, show hd.length + 1 ≤ 16777216 by omega, show hd.length + 1 + (numL v).length ≤ 16777216 by omega, show hd.length + (1 + (numL v).length) ≤ 16777216 by omega, show hd.length + ((numL v).length + 1) ≤ 16777216 by omega]
theorem steps_S : ("steps " : Str) = S (T "steps" ++ [32]) := by decide +kernel
theorem place_S : ("place " : Str) = S (T "place" ++ [32]) := by decide +kernel
theorem clock_S : ("clock " : Str) = S (T "clock" ++ [32]) := by decide +kernel
theorem wr_S : ("writable " : Str) = S (T "writable" ++ [32]) := by decide +kernel
def rows4 (r : Run) : List (String × List Nat) := [("registers", r.regs), ("slots", r.slots), ("counters", r.ctrs), ("packet", r.pkt)]
theorem map_wsD (ls : List (List Nat)) : (ls.map fun w => PyData.str (S w)) = ls.map fun w => .str (S w) := rfl
theorem t19 (h : 4 ≤ n) {r : Run} (o : RunOk r) : callF tab n 19 [.d (runD r)] μ = .ok (.d (.str (S (textT (linesT r))))) μ := by
  obtain ⟨m, rfl⟩ : ∃ m, n = m + 1 := ⟨n - 1, by omega⟩
  have b1 := o.place; have b2 := o.clock; have b3 := o.wr
  have k1 := o.regs.1; have k2 := o.slots.1; have k3 := o.ctrs.1; have k4 := o.pkt.1; have k5 := o.tabs.1
  have many := lines_many o
  have lens := lines_len o
  let ρ (x1 x12 x13 x14 : Option Slot) : REnv := [some (.val (.d (runD r))), x1, some (.val (.d (rD r.regs))), some (.val (.d (rD r.slots))), some (.val (.d (rD r.ctrs))), some (.val (.d (nD r.place))), some (.val (.d (rD r.pkt))), some (.val (.d (.tuple (r.tabs.map tabD)))), some (.val (.d (nD r.clock))), some (.val (.d (nD r.steps))), some (.val (.d (endD r.fin))), some (.val (.d (nD r.wr))), x12, x13, x14]
  have a1 := fone (μ := μ) (c := callF tab m) (ρ := ρ none none none none) (e := .var 9) (hd := T "steps") (by decide +kernel) (steps_small o) rfl
  have a2 := fone (μ := μ) (c := callF tab m) (ρ := ρ none none none none) (e := .var 5) (hd := T "place") (v := r.place) (by decide +kernel) (small_le (by omega)) rfl
  have a3 := t17 (n := m) (μ := μ) (by omega) o.fin
  have a4 := fone (μ := μ) (c := callF tab m) (ρ := ρ none none none none) (e := .var 8) (hd := T "clock") (v := r.clock) (by decide +kernel) (small_le (by omega)) rfl
  have a5 := fone (μ := μ) (c := callF tab m) (ρ := ρ none none none none) (e := .var 11) (hd := T "writable") (v := r.wr) (by decide +kernel) (small_le (by omega)) rfl
  rw [← steps_S] at a1
  rw [← place_S] at a2
  rw [← clock_S] at a4
  rw [← wr_S] at a5
  have c1 : ∀ x1, evE (callF tab m) (ρ x1 none none none) (.comp (.call 13 [.var 12, .var 13]) (.tup [(.nm 12), (.nm 13)]) (.zip2 (.con (.tuple [.str "registers", .str "slots", .str "counters", .str "packet"])) (.tup [.var 2, .var 3, .var 4, .var 6])) none [12, 13]) μ =
      .ok (.d (.list ((rows4 r).map fun p => .str (S (lineT (T p.1) p.2))))) μ := by
    intro x1
    refine ev_comp (rows4 r) (fun p => .two (.d (.str (p.1 : Str))) (.d (rD p.2))) (fun p => .str (S (lineT (T p.1) p.2))) ?_ (by simp [rows4]) fun p hp => ⟨_, rfl, ?_⟩
    · simp [ρ, seqItems, zipItems, rows4]
    · have hp2 : (T p.1).length ≤ 20 ∧ p.2.length ≤ 256 ∧ ∀ v ∈ p.2, small v := by
        simp only [rows4, List.mem_cons, List.not_mem_nil, or_false] at hp
        rcases hp with rfl | rfl | rfl | rfl
        · exact ⟨(by decide +kernel : (T "registers").length ≤ 20), by simp only; omega, row_small o.regs.2 (by decide)⟩
        · exact ⟨(by decide +kernel : (T "slots").length ≤ 20), by simp only; omega, row_small o.slots.2 (by decide)⟩
        · exact ⟨(by decide +kernel : (T "counters").length ≤ 20), by simp only; omega, row_small o.ctrs.2 (by decide)⟩
        · exact ⟨(by decide +kernel : (T "packet").length ≤ 20), by simp only; omega, row_small o.pkt.2 (by decide)⟩
      have c := t13 (n := m) (μ := μ) (by omega) hp2.2.1 hp2.2.2 hp2.1
      rw [T_S] at c
      simp [ρ, wipeR, noOwn, c]
  have c2 : ∀ x1, evE (callF tab m) (ρ x1 none none none) (.comp (.call 18 [.var 14]) (.nm 14) (.seq (.var 7)) none [14]) μ = .ok (.d (.list (r.tabs.map fun t => .str (S (tabT t))))) μ := by
    intro x1
    refine ev_comp r.tabs (fun t => .one (.d (tabD t))) (fun t => .str (S (tabT t))) ?_ (by rw [sizeLine_is]; omega) fun t ht => ⟨_, rfl, ?_⟩
    · simp [ρ, seqItems]
    · simp [ρ, wipeR, noOwn, t18 (n := m) (μ := μ) (by omega) (o.tabs.2 t ht)]
  have j := join_bi (sep := [10]) (ws := linesT r) (by
    have := sum_le (l := (linesT r).map List.length) (k := 103701) fun v hv => by
      obtain ⟨l, hl, rfl⟩ := List.mem_map.mp hv
      exact lens l hl
    simp only [List.length_map, List.length_cons, List.length_nil] at this ⊢
    omega)
  have nl : ("\n" : Str) = S [10] := by decide +kernel
  have hr : asgTs (callF tab m) [.nm 2, .nm 3, .nm 4, .nm 5, .nm 6, .nm 7, .nm 8, .nm 9, .nm 10, .nm 11] ([rD r.regs, rD r.slots, rD r.ctrs, nD r.place, rD r.pkt, .tuple (r.tabs.map tabD), nD r.clock, nD r.steps, endD r.fin, nD r.wr].map .d) (startR 15 [.d (runD r)]) μ = .ok (ρ none none none none) μ := rfl
  have e0 : evE (callF tab m) (startR 15 [.d (runD r)]) (.var 0) μ = .ok (.d (runD r)) μ := rfl
  have N : f19.N.length = 15 := rfl
  have l1 : evE (callF tab m) (ρ none none none none) (.lst [.fstr [.con (.str "steps "), .var 9], .fstr [.con (.str "place "), .var 5], .call 17 [.var 10], .fstr [.con (.str "clock "), .var 8], .fstr [.con (.str "writable "), .var 11]]) μ = .ok (.d (.list ((nine r).take 5 |>.map fun w => .str (S w)))) μ := by
    have a3' : evE (callF tab m) (ρ none none none none) (.call 17 [.var 10]) μ = .ok (.d (.str (S (endT r.fin)))) μ := by simp [ρ, a3]
    simp only [ev_lst, evs_cons, evs_nil, a1, a2, a3', a4, a5, R.bind_ok]
    exact pureL_ok (ds := (nine r).take 5 |>.map fun w => .str (S w)) (by simp [nine])
  have k5' : ((nine r).take 5).length = 5 := rfl
  have k6' : (rows4 r).length = 4 := rfl
  have e9 : (nine r).take 5 ++ (rows4 r).map (fun p => lineT (T p.1) p.2) = nine r := rfl
  have s1 : exS (callF tab m) (.asg (.tup [(.nm 2), (.nm 3), (.nm 4), (.nm 5), (.nm 6), (.nm 7), (.nm 8), (.nm 9), (.nm 10), (.nm 11)]) (.var 0)) (startR 15 [.d (runD r)]) μ = .ok (.next (ρ none none none none)) μ := by
    rw [x_asg, e0, R.bind_ok, at_tup]
    refine (congrArg (fun z => R.bind z _) hr).trans ?_
    rw [R.bind_ok]
  refine call_ret (fs := tab) (f := 19) (fn := f19) (vs := [.d (runD r)]) (n := m) rfl rfl ?_
  rw [N]
  refine (xs_next s1).trans ?_
  refine (xs_next (asg_nm l1 (Nat.lt_of_sub_pos (Nat.succ_pos 13)))).trans ?_
  refine (xs_next (asg_nm (v := .d (.list ((nine r).map fun w => .str (S w)))) (μ1 := μ) ?_ (Nat.lt_of_sub_pos (Nat.succ_pos 13)))).trans ?_
  · have c := c1 (some (.val (.d (.list ((nine r).take 5 |>.map fun w => .str (S w))))))
    rw [ev_bin, show evE (callF tab m) ((ρ none none none none).set 1 (some (.val (.d (.list ((nine r).take 5 |>.map fun w => .str (S w))))))) (.var 1) μ = .ok (.d (.list ((nine r).take 5 |>.map fun w => .str (S w)))) μ from rfl, R.bind_ok]
    refine (congrArg (fun z => R.bind z _) c).trans ?_
    rw [R.bind_ok, two_d, add_list (by simp [k6', nine])]
    rw [← e9, List.map_append, List.map_map]
    rfl
  · refine xs_done (ret_is ?_)
    have c := c2 (some (.val (.d (.list ((nine r).map fun w => .str (S w))))))
    rw [nl, ev_mt, ev_con, R.bind_ok]
    show ((evE (callF tab m) (ρ (some (.val (.d (.list ((nine r).map fun w => .str (S w)))))) none none none) (.bin .add (.var 1) (.comp (.call 18 [.var 14]) (.nm 14) (.seq (.var 7)) none [14])) μ).bind _) = _
    rw [ev_bin, show evE (callF tab m) (ρ (some (.val (.d (.list ((nine r).map fun w => .str (S w)))))) none none none) (.var 1) μ = .ok (.d (.list ((nine r).map fun w => .str (S w)))) μ from rfl, R.bind_ok, c, R.bind_ok, two_d, add_list (by simp [nine]; omega)]
    have jj : ((nine r).map fun w => PyData.str (S w)) ++ (r.tabs.map fun t => .str (S (tabT t))) = (linesT r).map fun w => .str (S w) := by
      simp [linesT]
    rw [jj, Option.map_some, lift_some, R.bind_ok, j, lift_some]
    rfl
end K82
end

/-! text K82S12 -/
section
namespace K82
open Pv PySem L2
open TL (numL spl joinL par pre)
open SX (S)
open NumText (digitsVal AllDigits)
variable {n : Nat} {μ : Sto}
theorem pt_bi {w : List Nat} (h : w.length ≤ 16777216) : biF .partition [.d (.str (S w)), .d (.str (S [32]))] = some (.d (match par [32] [] w with | some (a, b) => .tuple [.str (S a), .str (S [32]), .str (S b)] | none => .tuple [.str (S w), .str (S []), .str (S [])])) := by
  show ((biD .partition [.str (S w), .str (S [32])]).map RV.d) = _
  simp only [biD]
  rw [if_pos ⟨by rfl, by rw [sN, sizeLine_is]; exact h⟩]
  cases q : par [32] [] w with
  | none => rw [SX.partition_none (by simp) q]; rfl
  | some p =>
    obtain ⟨a, b⟩ := p
    rw [SX.partition_some (by simp) q]; rfl
theorem par_len : ∀ (l acc a b : List Nat), par [32] acc l = some (a, b) → a.length + b.length + 1 = acc.length + l.length
  | [], acc, a, b, h => by cases h
  | c :: l, acc, a, b, h => by
    by_cases q : c = 32
    · subst q
      rw [TL.par_hit (by simp [TL.pre])] at h
      simp at h
      obtain ⟨rfl, rfl⟩ := h
      simp; omega
    · rw [TL.par_miss (TL.pre_of_head [] l q)] at h
      have := par_len l _ a b h
      simp at this ⊢; omega
theorem nil_kinds : ¬ ([] : List Nat) ∈ kinds := by decide +kernel
theorem ne_nil1 : cmpF .ne (.list [.none]) (.list []) = some true := by decide +kernel
theorem t20 (h : 4 ≤ n) {l : List Nat} (hl : l.length ≤ 1000000) : callF tab n 20 [.d (.str (S l))] μ = .ok (.d (optL endD (endIn l))) μ := by
  obtain ⟨m, rfl⟩ : ∃ m, n = m + 1 := ⟨n - 1, by omega⟩
  rw [callF_step (fn := f20) rfl rfl]
  have e2 : sliR (some 4) none (.d (.str (S l))) = some (.d (.str (S (l.drop 4)))) := sli_from (k := 4) (by omega)
  have p := pt_bi (w := l.drop 4) (by simp; omega)
  unfold endIn
  by_cases q : l = T "end none"
  · simp [f20, startR, strq', q, optL, endD]
  · simp only [if_neg q]
    cases q2 : par [32] [] (l.drop 4) with
    | none =>
      rw [q2] at p
      have c1 : callF tab m 14 [.d (.str (S [])), .d (.int 5)] μ = .ok (.d (.bool (figs [] 5))) μ := t14 (by omega) [] (by simp) 5
      have z : figs [] 5 = false := by decide
      rw [z] at c1
      have c2 := t8w (n := m) (μ := μ) (by omega) (l.drop 4) []
      rw [decide_eq_false (fun x => nil_kinds x.2)] at c2
      by_cases q3 : l.drop 4 = T "answer"
      · rw [q3] at p c2 e2
        simp [f20, startR, strq', q, optL, e2, blank_S, p, c1, c2]
      · simp [f20, startR, strq', q, optL, e2, blank_S, p, c1, c2, q3]
    | some ab =>
      obtain ⟨w, r⟩ := ab
      rw [q2] at p
      have pl := par_len _ _ _ _ q2
      have pl : w.length ≤ 1000000 ∧ r.length ≤ 1000000 := by simp at pl; omega
      have c1 : callF tab m 14 [.d (.str (S r)), .d (.int 5)] μ = .ok (.d (.bool (figs r 5))) μ := t14 (by omega) r (by rw [sizeLine_is]; omega) 5
      by_cases q3 : w = T "answer" ∧ figs r 5 = true
      · obtain ⟨rfl, q4⟩ := q3
        simp only [q4, and_self, if_true]
        rw [q4] at c1
        have i := int_figs q4 (by decide)
        have c2 := t8a (n := m) (μ := μ) (by omega) (digitsVal r)
        have c3 := t17a (n := m) (μ := μ) (by omega) (w := T "answer") (by decide +kernel) (v := digitsVal r) (Nat.lt_trans (figs_lt q4) (by decide +kernel))
        rw [← endT_ans] at c3
        simp only [T_S] at p c3
        by_cases q5 : digitsVal r ≤ 65535
        · rw [decide_eq_true q5] at c2
          by_cases q6 : l = endT (.ans (digitsVal r))
          · simp only [q5, ← q6, and_self, if_true]
            rw [← q6] at c3
            simp [f20, startR, strq', q, optL, e2, blank_S, p, c1, i, c2, c3, endD]
          · simp only [q5, q6, and_false, if_false]
            simp [f20, startR, strq', q, optL, e2, blank_S, p, c1, i, c2, c3, endD, SX.S_beq_eq, q6]
        · rw [decide_eq_false q5] at c2
          simp only [q5, false_and, if_false]
          simp [f20, startR, strq', q, optL, e2, blank_S, p, c1, i, c2, c3, endD]
      · simp only [if_neg q3]
        have c2 := t8w (n := m) (μ := μ) (by omega) w r
        have c3 := t17s (n := m) (μ := μ) (by omega) pl.1 pl.2
        have body : ∀ tl : PyData, tl = .tuple [.str (S w), .str (S r)] → exSs (callF tab m) (f20.body.drop 3) [some (.val (.d (.str (S l)))), some (.val (.d tl)), some (.val (.d (.str (S w)))), some (.val (.d (.str (S [32])))), some (.val (.d (.str (S r))))] μ = .ok (.ret (.d (optL endD (if w = T "fault" ∧ r ∈ kinds ∧ l = endT (.fault r) then some (.fault r) else none)))) μ := by
          rintro _ rfl
          by_cases q4 : w = T "fault" ∧ r ∈ kinds
          · obtain ⟨rfl, q5⟩ := q4
            rw [decide_eq_true ⟨rfl, q5⟩] at c2
            rw [← endT_fault] at c3
            by_cases q6 : l = endT (.fault r)
            · simp only [q5, ← q6, and_self, if_true]
              rw [← q6] at c3
              have eF : endD (.fault r) = .tuple [.str (S (T "fault")), .str (S r)] := by rw [T_S]; rfl
              simp [f20, optL, c2, c3, eF]
            · simp only [q6, and_false, if_false]
              simp [f20, optL, c2, c3, endD, SX.S_beq_eq, q6]
          · rw [decide_eq_false q4] at c2
            simp only [if_neg (fun x : w = T "fault" ∧ r ∈ kinds ∧ l = endT (.fault r) => q4 ⟨x.1, x.2.1⟩)]
            simp [f20, optL, c2]
        have body := body _ rfl
        simp only [f20, List.drop_succ_cons, List.drop_zero] at body
        by_cases q4 : w = T "answer"
        · have q5 : figs r 5 = false := by
            cases z : figs r 5 with
            | false => rfl
            | true => exact absurd ⟨q4, z⟩ q3
          rw [q5] at c1
          subst q4
          simp only [f20, startR, xs_cons] at body ⊢
          simp [strq', q, e2, blank_S, p, c1] at body ⊢
          rw [body]
        · simp only [f20, startR, xs_cons] at body ⊢
          simp [strq', q, e2, blank_S, p, q4] at body ⊢
          rw [body]
end K82
end

/-! text K82S13 -/
section
namespace K82
open Pv PySem L2
open TL (numL spl joinL par pre)
open SX (S)
open NumText (digitsVal AllDigits)
variable {n : Nat} {μ : Sto}
def numIn (l h : List Nat) : Option Nat := match rowIn l h with
  | some [k] => some k
  | _ => none
theorem ne_n (k : Nat) : cmpF .ne (.list [nD k]) (.list []) = some true := ne_one rfl (Nat.zero_le 60)
theorem t21 (h : 4 ≤ n) {l hd : List Nat} (hl : l.length ≤ 1000000) (hh : hd.length ≤ 20) : callF tab n 21 [.d (.str (S l)), .d (.str (S hd))] μ = .ok (.d (optL nD (numIn l hd))) μ := by
  obtain ⟨m, rfl⟩ : ∃ m, n = m + 1 := ⟨n - 1, by omega⟩
  rw [callF_step (fn := f21) rfl rfl]
  have c := t16 (n := m) (μ := μ) (by omega) hl hh
  unfold numIn
  cases q : rowIn l hd with
  | none =>
    rw [q] at c
    simp [f21, startR, c, optL, ne_nil]
  | some ns =>
    rw [q] at c
    have e : biF .list [.d (rD ns)] = some (.d (.list (ns.map nD))) := rfl
    cases ns with
    | nil => simp [f21, startR, c, optL, ne_r]
    | cons k t =>
      cases t with
      | nil => simp [f21, startR, c, optL, ne_r, e]
      | cons k2 t =>
        have z : (((t.length : Int) + 1 + 1 == 1) : Bool) = false := by simp; omega
        simp [f21, startR, c, optL, ne_r, z]
def names : List String := ["steps", "place", "end", "clock", "writable", "registers", "slots", "counters", "packet"]
theorem m1 : cmpF .mem (.str "steps") (.tuple [.str "steps", .str "end"]) = some true := by decide +kernel
theorem m2 : cmpF .mem (.str "place") (.tuple [.str "steps", .str "end"]) = some false := by decide +kernel
theorem m3 : cmpF .mem (.str "clock") (.tuple [.str "steps", .str "end"]) = some false := by decide +kernel
theorem m4 : cmpF .mem (.str "writable") (.tuple [.str "steps", .str "end"]) = some false := by decide +kernel
theorem m5 : cmpF .mem (.str "registers") (.tuple [.str "steps", .str "end"]) = some false := by decide +kernel
theorem m6 : cmpF .mem (.str "slots") (.tuple [.str "steps", .str "end"]) = some false := by decide +kernel
theorem m7 : cmpF .mem (.str "counters") (.tuple [.str "steps", .str "end"]) = some false := by decide +kernel
theorem m8 : cmpF .mem (.str "packet") (.tuple [.str "steps", .str "end"]) = some false := by decide +kernel
theorem p2 : cmpF .mem (.str "place") (.tuple [.str "place", .str "clock", .str "writable"]) = some true := by decide +kernel
theorem p3 : cmpF .mem (.str "clock") (.tuple [.str "place", .str "clock", .str "writable"]) = some true := by decide +kernel
theorem p4 : cmpF .mem (.str "writable") (.tuple [.str "place", .str "clock", .str "writable"]) = some true := by decide +kernel
theorem p5 : cmpF .mem (.str "registers") (.tuple [.str "place", .str "clock", .str "writable"]) = some false := by decide +kernel
theorem p6 : cmpF .mem (.str "slots") (.tuple [.str "place", .str "clock", .str "writable"]) = some false := by decide +kernel
theorem p7 : cmpF .mem (.str "counters") (.tuple [.str "place", .str "clock", .str "writable"]) = some false := by decide +kernel
theorem p8 : cmpF .mem (.str "packet") (.tuple [.str "place", .str "clock", .str "writable"]) = some false := by decide +kernel
theorem q5 : ((("registers" : Str) == "packet") : Bool) = false := by decide +kernel
theorem q6 : ((("slots" : Str) == "packet") : Bool) = false := by decide +kernel
theorem q7 : ((("counters" : Str) == "packet") : Bool) = false := by decide +kernel
theorem r5 : ((("registers" : Str) == "counters") : Bool) = false := by decide +kernel
theorem r6 : ((("slots" : Str) == "counters") : Bool) = false := by decide +kernel
theorem s6 : ((("slots" : Str) == "registers") : Bool) = false := by decide +kernel
theorem dict3 (a b c : PyData) : getK (dictOf [(.inr ("place" : Str), RV.d a), (.inr ("clock" : Str), .d b), (.inr ("writable" : Str), .d c)]) (.inr ("place" : Str)) = some (.d a) ∧
    getK (dictOf [(.inr ("place" : Str), RV.d a), (.inr ("clock" : Str), .d b), (.inr ("writable" : Str), .d c)]) (.inr ("clock" : Str)) = some (.d b) ∧
    getK (dictOf [(.inr ("place" : Str), RV.d a), (.inr ("clock" : Str), .d b), (.inr ("writable" : Str), .d c)]) (.inr ("writable" : Str)) = some (.d c) := ⟨rfl, rfl, rfl⟩
theorem t22s (h : 1 ≤ n) (v : RV) : callF tab n 22 [.d (.str "steps"), v] μ = .ok (.d (.bool true)) μ := by
  obtain ⟨m, rfl⟩ : ∃ m, n = m + 1 := ⟨n - 1, by omega⟩
  rw [callF_step (fn := f22) rfl rfl]
  simp [f22, startR, m1]
theorem t22p (h : 1 ≤ n) (v : Nat) : callF tab n 22 [.d (.str "place"), .d (nD v)] μ = .ok (.d (.bool (decide (v ≤ 120)))) μ := by
  obtain ⟨m, rfl⟩ : ∃ m, n = m + 1 := ⟨n - 1, by omega⟩
  rw [callF_step (fn := f22) rfl rfl]
  have e : decide ((v : Int) ≤ 120) = decide (v ≤ 120) := decide_eq_decide.mpr (by omega)
  simp [f22, startR, m2, p2, keyD, (dict3 _ _ _).1, e]
theorem t22c (h : 1 ≤ n) (v : Nat) : callF tab n 22 [.d (.str "clock"), .d (nD v)] μ = .ok (.d (.bool (decide (v ≤ 65535)))) μ := by
  obtain ⟨m, rfl⟩ : ∃ m, n = m + 1 := ⟨n - 1, by omega⟩
  rw [callF_step (fn := f22) rfl rfl]
  have e : decide ((v : Int) ≤ 65535) = decide (v ≤ 65535) := decide_eq_decide.mpr (by omega)
  simp [f22, startR, m3, p3, keyD, (dict3 _ _ _).2.1, e]
theorem t22w (h : 1 ≤ n) (v : Nat) : callF tab n 22 [.d (.str "writable"), .d (nD v)] μ = .ok (.d (.bool (decide (v ≤ 1)))) μ := by
  obtain ⟨m, rfl⟩ : ∃ m, n = m + 1 := ⟨n - 1, by omega⟩
  rw [callF_step (fn := f22) rfl rfl]
  have e : decide ((v : Int) ≤ 1) = decide (v ≤ 1) := decide_eq_decide.mpr (by omega)
  simp [f22, startR, m4, p4, keyD, (dict3 _ _ _).2.2, e]
theorem all_eq (ns : List Nat) (b : Nat) : (ns.all fun (k : Nat) => decide ((k : Int) ≤ (b : Int))) = ns.all fun k => decide (k ≤ b) := by
  congr 1; funext k; exact decide_eq_decide.mpr (by omega)
theorem len_eq (ns : List Nat) (k : Nat) : decide ((ns.length : Int) = (k : Int)) = decide (ns.length = k) := decide_eq_decide.mpr (by omega)
theorem t2n (h : 3 ≤ n) {ns : List Nat} (hl : ns.length ≤ 256) (k b : Nat) : callF tab n 2 [.d (rD ns), .d (.int (k : Int)), .d (.int 0), .d (.int (b : Int))] μ = .ok (.d (.bool (decide (ns.length = k) && ns.all fun k => decide (k ≤ b)))) μ := by
  rw [t2 h ns (by rw [sizeLine_is]; omega), all_eq, len_eq]
theorem t22r (h : 4 ≤ n) {ns : List Nat} (hl : ns.length ≤ 256) : callF tab n 22 [.d (.str "registers"), .d (rD ns)] μ = .ok (.d (.bool (decide (ns.length = 8) && ns.all fun k => decide (k ≤ 65535)))) μ := by
  obtain ⟨m, rfl⟩ : ∃ m, n = m + 1 := ⟨n - 1, by omega⟩
  rw [callF_step (fn := f22) rfl rfl]
  have c : callF tab m 2 [.d (rD ns), .d (.int 8), .d (.int 0), .d (.int 65535)] μ = _ := t2n (n := m) (μ := μ) (by omega) hl 8 65535
  simp only [f22, startR] at c ⊢
  simp [m5, p5, q5, r5, c]
theorem t22l (h : 4 ≤ n) {ns : List Nat} (hl : ns.length ≤ 256) : callF tab n 22 [.d (.str "slots"), .d (rD ns)] μ = .ok (.d (.bool (decide (ns.length = 16) && ns.all fun k => decide (k ≤ 65535)))) μ := by
  obtain ⟨m, rfl⟩ : ∃ m, n = m + 1 := ⟨n - 1, by omega⟩
  rw [callF_step (fn := f22) rfl rfl]
  have c : callF tab m 2 [.d (rD ns), .d (.int 16), .d (.int 0), .d (.int 65535)] μ = _ := t2n (n := m) (μ := μ) (by omega) hl 16 65535
  simp [f22, startR, m6, p6, q6, r6, s6, c]
theorem t22k (h : 4 ≤ n) {ns : List Nat} (hl : ns.length ≤ 256) : callF tab n 22 [.d (.str "counters"), .d (rD ns)] μ = .ok (.d (.bool (decide (ns.length = 4) && ns.all fun k => decide (k ≤ 100)))) μ := by
  obtain ⟨m, rfl⟩ : ∃ m, n = m + 1 := ⟨n - 1, by omega⟩
  rw [callF_step (fn := f22) rfl rfl]
  have c : callF tab m 2 [.d (rD ns), .d (.int 4), .d (.int 0), .d (.int 100)] μ = _ := t2n (n := m) (μ := μ) (by omega) hl 4 100
  simp [f22, startR, m7, p7, q7, c]
theorem t22q (h : 4 ≤ n) {ns : List Nat} (hl : ns.length ≤ 256) : callF tab n 22 [.d (.str "packet"), .d (rD ns)] μ = .ok (.d (.bool (ns.all fun k => decide (k ≤ 255)))) μ := by
  obtain ⟨m, rfl⟩ : ∃ m, n = m + 1 := ⟨n - 1, by omega⟩
  rw [callF_step (fn := f22) rfl rfl]
  have c : callF tab m 2 [.d (rD ns), .d (.int (ns.length : Int)), .d (.int 0), .d (.int 255)] μ = _ := t2n (n := m) (μ := μ) (by omega) hl ns.length 255
  rw [decide_eq_true rfl, Bool.true_and] at c
  simp [f22, startR, m8, p8, c]
end K82
end

/-! text K82S14 -/
section
namespace K82
open Pv PySem L2
open TL (numL spl joinL par pre)
open SX (S)
open NumText (digitsVal AllDigits)
variable {n : Nat} {μ : Sto}
def toldD : Told → PyData
  | .num k => nD k
  | .fin e => endD e
  | .row ns => rD ns
theorem t23_steps (h : 6 ≤ n) {l : List Nat} (hl : l.length ≤ 1000000) : callF tab n 23 [.d (.str (S l)), .d (.str "steps")] μ = .ok (.d (optL toldD (told (.num (T "steps") none) l))) μ := by
  obtain ⟨m, rfl⟩ : ∃ m, n = m + 1 := ⟨n - 1, by omega⟩
  rw [callF_step (fn := f23) rfl rfl]
  have e1 : ((("steps" : Str) == "end") : Bool) = false := by decide +kernel
  have e2 : cmpF .mem (.str "steps") (.tuple [.str "registers", .str "slots", .str "counters", .str "packet"]) = some false := by decide +kernel
  have c := t21 (n := m) (μ := μ) (by omega) hl (hd := T "steps") (by decide +kernel)
  rw [T_S] at c
  have tn : told (.num (T "steps") none) l = match numIn l (T "steps") with | some k => if le? k none = true then some (.num k) else none | none => none := by
    show (match rowIn l _ with | some [n] => _ | _ => _) = _
    unfold numIn
    rcases rowIn l (T "steps") with _ | (_ | ⟨k, _ | ⟨k2, t⟩⟩) <;> rfl
  rw [tn]
  cases q : numIn l (T "steps") with
  | none =>
    rw [q] at c
    simp [f23, startR, e1, e2, c, optL, ne_nil]
  | some k =>
    rw [q] at c
    have c2 := t22s (n := m) (μ := μ) (by omega) (.d (nD k))
    simp [f23, startR, e1, e2, c, optL, ne_n, c2, le?, toldD]
theorem t23_place (h : 6 ≤ n) {l : List Nat} (hl : l.length ≤ 1000000) : callF tab n 23 [.d (.str (S l)), .d (.str "place")] μ = .ok (.d (optL toldD (told (.num (T "place") (some 120)) l))) μ := by
  obtain ⟨m, rfl⟩ : ∃ m, n = m + 1 := ⟨n - 1, by omega⟩
  rw [callF_step (fn := f23) rfl rfl]
  have e1 : ((("place" : Str) == "end") : Bool) = false := by decide +kernel
  have e2 : cmpF .mem (.str "place") (.tuple [.str "registers", .str "slots", .str "counters", .str "packet"]) = some false := by decide +kernel
  have c := t21 (n := m) (μ := μ) (by omega) hl (hd := T "place") (by decide +kernel)
  rw [T_S] at c
  have tn : told (.num (T "place") (some 120)) l = match numIn l (T "place") with | some k => if le? k (some 120) = true then some (.num k) else none | none => none := by
    show (match rowIn l _ with | some [n] => _ | _ => _) = _
    unfold numIn
    rcases rowIn l (T "place") with _ | (_ | ⟨k, _ | ⟨k2, t⟩⟩) <;> rfl
  rw [tn]
  cases q : numIn l (T "place") with
  | none =>
    rw [q] at c
    simp [f23, startR, e1, e2, c, optL, ne_nil]
  | some k =>
    rw [q] at c
    have c2 := t22p (n := m) (μ := μ) (by omega) k
    by_cases z : k ≤ 120
    · simp [f23, startR, e1, e2, c, optL, ne_n, c2, le?, toldD, z]
    · simp [f23, startR, e1, e2, c, optL, ne_n, c2, le?, toldD, z]
theorem t23_clock (h : 6 ≤ n) {l : List Nat} (hl : l.length ≤ 1000000) : callF tab n 23 [.d (.str (S l)), .d (.str "clock")] μ = .ok (.d (optL toldD (told (.num (T "clock") (some 65535)) l))) μ := by
  obtain ⟨m, rfl⟩ : ∃ m, n = m + 1 := ⟨n - 1, by omega⟩
  rw [callF_step (fn := f23) rfl rfl]
  have e1 : ((("clock" : Str) == "end") : Bool) = false := by decide +kernel
  have e2 : cmpF .mem (.str "clock") (.tuple [.str "registers", .str "slots", .str "counters", .str "packet"]) = some false := by decide +kernel
  have c := t21 (n := m) (μ := μ) (by omega) hl (hd := T "clock") (by decide +kernel)
  rw [T_S] at c
  have tn : told (.num (T "clock") (some 65535)) l = match numIn l (T "clock") with | some k => if le? k (some 65535) = true then some (.num k) else none | none => none := by
    show (match rowIn l _ with | some [n] => _ | _ => _) = _
    unfold numIn
    rcases rowIn l (T "clock") with _ | (_ | ⟨k, _ | ⟨k2, t⟩⟩) <;> rfl
  rw [tn]
  cases q : numIn l (T "clock") with
  | none =>
    rw [q] at c
    simp [f23, startR, e1, e2, c, optL, ne_nil]
  | some k =>
    rw [q] at c
    have c2 := t22c (n := m) (μ := μ) (by omega) k
    by_cases z : k ≤ 65535
    · simp [f23, startR, e1, e2, c, optL, ne_n, c2, le?, toldD, z]
    · simp [f23, startR, e1, e2, c, optL, ne_n, c2, le?, toldD, z]
theorem t23_writable (h : 6 ≤ n) {l : List Nat} (hl : l.length ≤ 1000000) : callF tab n 23 [.d (.str (S l)), .d (.str "writable")] μ = .ok (.d (optL toldD (told (.num (T "writable") (some 1)) l))) μ := by
  obtain ⟨m, rfl⟩ : ∃ m, n = m + 1 := ⟨n - 1, by omega⟩
  rw [callF_step (fn := f23) rfl rfl]
  have e1 : ((("writable" : Str) == "end") : Bool) = false := by decide +kernel
  have e2 : cmpF .mem (.str "writable") (.tuple [.str "registers", .str "slots", .str "counters", .str "packet"]) = some false := by decide +kernel
  have c := t21 (n := m) (μ := μ) (by omega) hl (hd := T "writable") (by decide +kernel)
  rw [T_S] at c
  have tn : told (.num (T "writable") (some 1)) l = match numIn l (T "writable") with | some k => if le? k (some 1) = true then some (.num k) else none | none => none := by
    show (match rowIn l _ with | some [n] => _ | _ => _) = _
    unfold numIn
    rcases rowIn l (T "writable") with _ | (_ | ⟨k, _ | ⟨k2, t⟩⟩) <;> rfl
  rw [tn]
  cases q : numIn l (T "writable") with
  | none =>
    rw [q] at c
    simp [f23, startR, e1, e2, c, optL, ne_nil]
  | some k =>
    rw [q] at c
    have c2 := t22w (n := m) (μ := μ) (by omega) k
    by_cases z : k ≤ 1
    · simp [f23, startR, e1, e2, c, optL, ne_n, c2, le?, toldD, z]
    · simp [f23, startR, e1, e2, c, optL, ne_n, c2, le?, toldD, z]
theorem t23_registers (h : 6 ≤ n) {l : List Nat} (hl : l.length ≤ 1000000) : callF tab n 23 [.d (.str (S l)), .d (.str "registers")] μ = .ok (.d (optL toldD (told (.row (T "registers") (some 8) 65535) l))) μ := by
  obtain ⟨m, rfl⟩ : ∃ m, n = m + 1 := ⟨n - 1, by omega⟩
  rw [callF_step (fn := f23) rfl rfl]
  have e1 : ((("registers" : Str) == "end") : Bool) = false := by decide +kernel
  have e2 : cmpF .mem (.str "registers") (.tuple [.str "registers", .str "slots", .str "counters", .str "packet"]) = some true := by decide +kernel
  have c := t16 (n := m) (μ := μ) (by omega) hl (hd := T "registers") (by decide +kernel)
  rw [T_S] at c
  show _ = R.ok (RV.d (optL toldD (match rowIn l (T "registers") with | some ns => if (len? ns.length (some 8) && ns.all fun n => decide (n ≤ 65535)) = true then some (.row ns) else none | none => none))) μ
  cases q : rowIn l (T "registers") with
  | none =>
    rw [q] at c
    simp [f23, startR, e1, e2, c, optL, ne_nil]
  | some ns =>
    rw [q] at c
    have c2 := t22r (n := m) (μ := μ) (by omega) (rowIn_small q).1
    have c3 : (decide (ns.length = 8) && ns.all fun k => decide (k ≤ 65535)) = (len? ns.length (some 8) && ns.all fun n => decide (n ≤ 65535)) := rfl
    rw [c3] at c2
    dsimp only
    cases z : (len? ns.length (some 8) && ns.all fun n => decide (n ≤ 65535)) with
    | false =>
      rw [z] at c2
      simp [f23, startR, e1, e2, c, optL, ne_r, c2]
    | true =>
      rw [z] at c2
      simp [f23, startR, e1, e2, c, optL, ne_r, c2, toldD]
theorem t23_slots (h : 6 ≤ n) {l : List Nat} (hl : l.length ≤ 1000000) : callF tab n 23 [.d (.str (S l)), .d (.str "slots")] μ = .ok (.d (optL toldD (told (.row (T "slots") (some 16) 65535) l))) μ := by
  obtain ⟨m, rfl⟩ : ∃ m, n = m + 1 := ⟨n - 1, by omega⟩
  rw [callF_step (fn := f23) rfl rfl]
  have e1 : ((("slots" : Str) == "end") : Bool) = false := by decide +kernel
  have e2 : cmpF .mem (.str "slots") (.tuple [.str "registers", .str "slots", .str "counters", .str "packet"]) = some true := by decide +kernel
  have c := t16 (n := m) (μ := μ) (by omega) hl (hd := T "slots") (by decide +kernel)
  rw [T_S] at c
  show _ = R.ok (RV.d (optL toldD (match rowIn l (T "slots") with | some ns => if (len? ns.length (some 16) && ns.all fun n => decide (n ≤ 65535)) = true then some (.row ns) else none | none => none))) μ
  cases q : rowIn l (T "slots") with
  | none =>
    rw [q] at c
    simp [f23, startR, e1, e2, c, optL, ne_nil]
  | some ns =>
    rw [q] at c
    have c2 := t22l (n := m) (μ := μ) (by omega) (rowIn_small q).1
    have c3 : (decide (ns.length = 16) && ns.all fun k => decide (k ≤ 65535)) = (len? ns.length (some 16) && ns.all fun n => decide (n ≤ 65535)) := rfl
    rw [c3] at c2
    dsimp only
    cases z : (len? ns.length (some 16) && ns.all fun n => decide (n ≤ 65535)) with
    | false =>
      rw [z] at c2
      simp [f23, startR, e1, e2, c, optL, ne_r, c2]
    | true =>
      rw [z] at c2
      simp [f23, startR, e1, e2, c, optL, ne_r, c2, toldD]
theorem t23_counters (h : 6 ≤ n) {l : List Nat} (hl : l.length ≤ 1000000) : callF tab n 23 [.d (.str (S l)), .d (.str "counters")] μ = .ok (.d (optL toldD (told (.row (T "counters") (some 4) 100) l))) μ := by
  obtain ⟨m, rfl⟩ : ∃ m, n = m + 1 := ⟨n - 1, by omega⟩
  rw [callF_step (fn := f23) rfl rfl]
  have e1 : ((("counters" : Str) == "end") : Bool) = false := by decide +kernel
  have e2 : cmpF .mem (.str "counters") (.tuple [.str "registers", .str "slots", .str "counters", .str "packet"]) = some true := by decide +kernel
  have c := t16 (n := m) (μ := μ) (by omega) hl (hd := T "counters") (by decide +kernel)
  rw [T_S] at c
  show _ = R.ok (RV.d (optL toldD (match rowIn l (T "counters") with | some ns => if (len? ns.length (some 4) && ns.all fun n => decide (n ≤ 100)) = true then some (.row ns) else none | none => none))) μ
  cases q : rowIn l (T "counters") with
  | none =>
    rw [q] at c
    simp [f23, startR, e1, e2, c, optL, ne_nil]
  | some ns =>
    rw [q] at c
    have c2 := t22k (n := m) (μ := μ) (by omega) (rowIn_small q).1
    have c3 : (decide (ns.length = 4) && ns.all fun k => decide (k ≤ 100)) = (len? ns.length (some 4) && ns.all fun n => decide (n ≤ 100)) := rfl
    rw [c3] at c2
    dsimp only
    cases z : (len? ns.length (some 4) && ns.all fun n => decide (n ≤ 100)) with
    | false =>
      rw [z] at c2
      simp [f23, startR, e1, e2, c, optL, ne_r, c2]
    | true =>
      rw [z] at c2
      simp [f23, startR, e1, e2, c, optL, ne_r, c2, toldD]
theorem t23_packet (h : 6 ≤ n) {l : List Nat} (hl : l.length ≤ 1000000) : callF tab n 23 [.d (.str (S l)), .d (.str "packet")] μ = .ok (.d (optL toldD (told (.row (T "packet") none 255) l))) μ := by
  obtain ⟨m, rfl⟩ : ∃ m, n = m + 1 := ⟨n - 1, by omega⟩
  rw [callF_step (fn := f23) rfl rfl]
  have e1 : ((("packet" : Str) == "end") : Bool) = false := by decide +kernel
  have e2 : cmpF .mem (.str "packet") (.tuple [.str "registers", .str "slots", .str "counters", .str "packet"]) = some true := by decide +kernel
  have c := t16 (n := m) (μ := μ) (by omega) hl (hd := T "packet") (by decide +kernel)
  rw [T_S] at c
  show _ = R.ok (RV.d (optL toldD (match rowIn l (T "packet") with | some ns => if (len? ns.length none && ns.all fun n => decide (n ≤ 255)) = true then some (.row ns) else none | none => none))) μ
  cases q : rowIn l (T "packet") with
  | none =>
    rw [q] at c
    simp [f23, startR, e1, e2, c, optL, ne_nil]
  | some ns =>
    rw [q] at c
    have c2 := t22q (n := m) (μ := μ) (by omega) (rowIn_small q).1
    have c3 : (ns.all fun k => decide (k ≤ 255)) = (len? ns.length none && ns.all fun n => decide (n ≤ 255)) := rfl
    rw [c3] at c2
    dsimp only
    cases z : (len? ns.length none && ns.all fun n => decide (n ≤ 255)) with
    | false =>
      rw [z] at c2
      simp [f23, startR, e1, e2, c, optL, ne_r, c2]
    | true =>
      rw [z] at c2
      simp [f23, startR, e1, e2, c, optL, ne_r, c2, toldD]
theorem t23_end (h : 6 ≤ n) {l : List Nat} (hl : l.length ≤ 1000000) : callF tab n 23 [.d (.str (S l)), .d (.str "end")] μ = .ok (.d (optL toldD (told .fin l))) μ := by
  obtain ⟨m, rfl⟩ : ∃ m, n = m + 1 := ⟨n - 1, by omega⟩
  rw [callF_step (fn := f23) rfl rfl]
  have c := t20 (n := m) (μ := μ) (by omega) hl
  have e : optL toldD (told .fin l) = optL endD (endIn l) := by
    show optL toldD ((endIn l).map Told.fin) = _
    cases endIn l <;> rfl
  rw [e]
  simp [f23, startR, c]
theorem t23 (h : 6 ≤ n) {l : List Nat} (hl : l.length ≤ 1000000) : ∀ i (hi : i < 9), ∀ (s : String) (H : Hd), names[i]? = some s → heads[i]? = some H → callF tab n 23 [.d (.str (S l)), .d (.str (s : Str))] μ = .ok (.d (optL toldD (told H l))) μ := by
  intro i hi s H h1 h2
  rcases (by omega : i = 0 ∨ i = 1 ∨ i = 2 ∨ i = 3 ∨ i = 4 ∨ i = 5 ∨ i = 6 ∨ i = 7 ∨ i = 8) with rfl | rfl | rfl | rfl | rfl | rfl | rfl | rfl | rfl <;> cases h1 <;> cases h2
  · exact t23_steps h hl
  · exact t23_place h hl
  · exact t23_end h hl
  · exact t23_clock h hl
  · exact t23_writable h hl
  · exact t23_registers h hl
  · exact t23_slots h hl
  · exact t23_counters h hl
  · exact t23_packet h hl
end K82
end

/-! text K82S15 -/
section
namespace K82
open Pv PySem L2
open TL (numL spl joinL par pre)
open SX (S)
open NumText (digitsVal AllDigits)
variable {n : Nat} {μ : Sto}
def chunks (ns : List Nat) : List (List Nat) := (List.range ((ns.length + 1) / 2)).map fun i => (ns.drop (2 * i)).take 2
theorem rs2 (k : Nat) : Builtin.Range.rangeSize 0 (k : Int) 2 = (((k + 1) / 2 : Nat) : Int) := by
  unfold Builtin.Range.rangeSize
  rw [if_pos (by decide)]
  split <;> omega
theorem small2 {k : Nat} (h : k ≤ 1000) : Builtin.Range.small 0 (k : Int) 2 = true := by
  have f : ∀ x : Int, 0 ≤ x → x ≤ 2000 → Builtin.Range.rangeFitsLong x = true := fun x h1 h2 => by
    unfold Builtin.Range.rangeFitsLong
    simp
    omega
  unfold Builtin.Range.small
  rw [rs2, f 0 (by omega) (by omega), f k (by omega) (by omega), f 2 (by omega) (by omega), f _ (by omega) (by omega), if_pos (by decide), f _ (by omega) (by omega)]
  simp
theorem it2 {k : Nat} (h : k ≤ 1000) : (decide ((2 : Int) ≠ 0) && decide ((2 : Int).natAbs < 1073741824) && Builtin.Range.small 0 (k : Int) 2 && decide (0 ≤ Builtin.Range.rangeSize 0 (k : Int) 2)) = true := by
  rw [small2 h, rs2, decide_eq_true (show (0 : Int) ≤ (((k + 1) / 2 : Nat) : Int) by omega)]
  rfl
theorem sli_r {ns : List Nat} (i j : Nat) : sliR (some (i : Int)) (some (j : Int)) (.d (rD ns)) = some (.d (rD ((ns.drop i).take (j - i)))) := by
  show some (RV.d (.tuple (cutD (ns.map nD) (some (i : Int)) (some (j : Int))))) = _
  rw [cut_two, ← List.map_drop, ← List.map_take]
  rfl
theorem chunks_pairs : ∀ ns : List Nat, ns.length % 2 ≠ 1 → (chunks ns).map rD = (pairUp ns).map fun p => rD [p.1, p.2]
  | [], _ => rfl
  | [a], h => absurd rfl h
  | a :: b :: t, h => by
    have ih := chunks_pairs t (by simp only [List.length_cons] at h; omega)
    have e : (List.length (a :: b :: t) + 1) / 2 = (t.length + 1) / 2 + 1 := by simp only [List.length_cons]; omega
    have e2 : chunks (a :: b :: t) = [a, b] :: chunks t := by
      unfold chunks
      rw [e, List.range_succ_eq_map, List.map_cons, List.map_map]
      congr 1
    rw [e2, List.map_cons, ih]
    rfl
end K82
namespace K82
open Pv PySem L2
open TL (numL spl joinL par pre)
open SX (S)
variable {n : Nat} {μ : Sto}
abbrev b24i : List Pv.S := [.ifs (.and (.cmp .eq (.var 1) (.con (.str "pairs"))) (.cmp .eq (.bin .mod (.bi .len [.var 4]) (.con (.int 2))) (.con (.int 1)))) [.ret (.lst [])] [], .asg (.nm 5) (.bi .tuple [.comp (.sli (.var 4) (some (.var 7)) (some (.bin .add (.var 7) (.con (.int 2))))) (.nm 7) (.rng3 (.con (.int 0)) (.bi .len [.var 4]) (.con (.int 2))) none [7]]), .asg (.nm 6) (.tup [.var 1, .var 2, .ite (.cmp .eq (.var 1) (.con (.str "array"))) (.var 4) (.var 5)]), .ret (.ite (.call 6 [.var 6]) (.lst [.var 6]) (.lst []))]
abbrev b24 : List Pv.S := [.asg (.nm 3) (.call 16 [.var 0, .fstr [.var 1, .con (.str " "), .var 2, .con (.str ":")]]), .ifs (.cmp .ne (.var 3) (.lst [])) (.asg (.nm 4) (.idx (.var 3) (.con (.int 0))) :: b24i) []]
theorem comp24 {m : Nat} {ns : List Nat} (hl : ns.length ≤ 256) {x0 x1 x2 x3 x5 x6 x7 : Option Slot} (h0 : ∀ xs, x0 ≠ some (.own xs)) :
    evE (callF tab m) [x0, x1, x2, x3, some (.val (.d (rD ns))), x5, x6, x7] (.bi .tuple [.comp (.sli (.var 4) (some (.var 7)) (some (.bin .add (.var 7) (.con (.int 2))))) (.nm 7) (.rng3 (.con (.int 0)) (.bi .len [.var 4]) (.con (.int 2))) none [7]]) μ = .ok (.d (.tuple ((chunks ns).map rD))) μ := by
  have c : evE (callF tab m) [x0, x1, x2, x3, some (.val (.d (rD ns))), x5, x6, x7] (.comp (.sli (.var 4) (some (.var 7)) (some (.bin .add (.var 7) (.con (.int 2))))) (.nm 7) (.rng3 (.con (.int 0)) (.bi .len [.var 4]) (.con (.int 2))) none [7]) μ = .ok (.d (.list ((chunks ns).map rD))) μ := by
    unfold chunks
    rw [List.map_map]
    refine ev_comp (List.range ((ns.length + 1) / 2)) (fun i => .one (.d (.int (0 + (i : Int) * 2)))) (fun i => rD ((ns.drop (2 * i)).take 2)) ?_ (by simp; omega) fun i hi => ⟨_, rfl, ?_⟩
    · have t := it2 (k := ns.length) (by omega)
      rw [evi_rng3, ev_con, R.bind_ok]
      simp only [ev_bi, evs_cons, evs_nil, ev_var, List.getElem?_cons_succ, List.getElem?_cons_zero, R.bind_ok, len_r, lift_some, ev_con]
      rw [if_pos t, rs2]
      rfl
    · have s := sli_r (ns := ns) (2 * i) (2 * i + 2)
      rw [show 2 * i + 2 - 2 * i = 2 by omega] at s
      have e1 : (((2 * i : Nat) : Int)) = (i : Int) * 2 := by omega
      have e2 : (((2 * i + 2 : Nat) : Int)) = (i : Int) * 2 + 2 := by omega
      rw [e1, e2] at s
      simp [wipeR, noOwn, s]
  simp only [ev_bi, evs_cons, evs_nil, c, R.bind_ok, bi_tup, lift_some]
theorem mod2 (k : Nat) : binF .mod (.int (k : Int)) (.int 2) = some (.int ((k % 2 : Nat) : Int)) := by
  show (if (0 : Int) < 2 then some ((k : Int) % 2) else none).map PyData.int = _
  rw [if_pos (by decide)]
  simp
theorem b24i_a {m : Nat} (hm : 5 ≤ m) {ns : List Nat} (hl : ns.length ≤ 256) {mv : Nat} {x0 x3 x5 x6 x7 : Option Slot} (h0 : ∀ xs, x0 ≠ some (.own xs)) :
    exSs (callF tab m) b24i [x0, some (.val (.d (.str "array"))), some (.val (.d (nD mv))), x3, some (.val (.d (rD ns))), x5, x6, x7] μ = .ok (.ret (.d (optL tabD (if tabOk (.arr mv ns) then some (.arr mv ns) else none)))) μ := by
  have e1 : ((("array" : Str) == "pairs") : Bool) = false := by decide +kernel
  have c := comp24 (μ := μ) (m := m) hl (x0 := x0) (x1 := some (.val (.d (.str "array")))) (x2 := some (.val (.d (nD mv)))) (x3 := x3) (x5 := x5) (x6 := x6) (x7 := x7) h0
  have c6 := t6 (n := m) (μ := μ) hm (.arr mv ns) hl
  refine (xs_next (ρ1 := [x0, some (.val (.d (.str "array"))), some (.val (.d (nD mv))), x3, some (.val (.d (rD ns))), x5, x6, x7]) (μ1 := μ) (by simp [e1])).trans ?_
  refine (xs_next (asg_nm c (Nat.lt_of_sub_pos (Nat.succ_pos 2)))).trans ?_
  simp only [tabD] at c6
  cases q : tabOk (.arr mv ns) with
  | true => rw [q] at c6; simp [c6, optL, tabD]
  | false => rw [q] at c6; simp [c6, optL]
theorem b24i_p {m : Nat} (hm : 5 ≤ m) {ns : List Nat} (hl : ns.length ≤ 256) {mv : Nat} {x0 x3 x5 x6 x7 : Option Slot} (h0 : ∀ xs, x0 ≠ some (.own xs)) :
    exSs (callF tab m) b24i [x0, some (.val (.d (.str "pairs"))), some (.val (.d (nD mv))), x3, some (.val (.d (rD ns))), x5, x6, x7] μ = .ok (.ret (.d (optL tabD (if ns.length % 2 = 1 then none else if tabOk (.prs mv (pairUp ns)) then some (.prs mv (pairUp ns)) else none)))) μ := by
  have e1 : ((("pairs" : Str) == "array") : Bool) = false := by decide +kernel
  have c := comp24 (μ := μ) (m := m) hl (x0 := x0) (x1 := some (.val (.d (.str "pairs")))) (x2 := some (.val (.d (nD mv)))) (x3 := x3) (x5 := x5) (x6 := x6) (x7 := x7) h0
  by_cases q : ns.length % 2 = 1
  · rw [if_pos q]
    have e : ((ns.length : Int) % 2 == 1) = true := by simp; omega
    have e2 := mod2 ns.length
    rw [q] at e2
    simp [e2, optL]
  · have e : ((((ns.length % 2 : Nat) : Int) == 1) : Bool) = false := by simp; omega
    have e2 := mod2 ns.length
    have z : ns.length % 2 = 0 := by omega
    rw [z] at e2
    have c6 := t6 (n := m) (μ := μ) hm (.prs mv (pairUp ns)) (by
      show (pairUp ns).length ≤ 256
      have := flatP_len (pairUp ns)
      rw [flat_pair ns q] at this
      omega)
    refine (xs_next (ρ1 := [x0, some (.val (.d (.str "pairs"))), some (.val (.d (nD mv))), x3, some (.val (.d (rD ns))), x5, x6, x7]) (μ1 := μ) (by simp [e2])).trans ?_
    refine (xs_next (asg_nm c (Nat.lt_of_sub_pos (Nat.succ_pos 2)))).trans ?_
    have cp : PyData.tuple ((chunks ns).map rD) = pD (pairUp ns) := congrArg PyData.tuple (chunks_pairs ns q)
    rw [cp, if_neg q]
    simp only [tabD] at c6
    cases q : tabOk (.prs mv (pairUp ns)) with
    | true => rw [q] at c6; simp [c6, optL, tabD, e1]
    | false => rw [q] at c6; simp [c6, optL, e1]
end K82
namespace K82
open Pv PySem L2
open TL (numL spl joinL par pre)
open SX (S)
variable {n : Nat} {μ : Sto}
def sortS (p : Bool) : Str := if p then ("pairs" : Str) else ("array" : Str)
theorem b24_ok {m : Nat} (hm : 5 ≤ m) {l : List Nat} (hl : l.length ≤ 1000000) (p : Bool) {mv : Nat} (hv : mv ≤ 1) {x3 x4 x5 x6 x7 : Option Slot} :
    exSs (callF tab m) b24 [some (.val (.d (.str (S l)))), some (.val (.d (.str (sortS p)))), some (.val (.d (nD mv))), x3, x4, x5, x6, x7] μ = match tryT p mv l with
      | none => .ok (.next [some (.val (.d (.str (S l)))), some (.val (.d (.str (sortS p)))), some (.val (.d (nD mv))), some (.val (.d (.list []))), x4, x5, x6, x7]) μ
      | some r => .ok (.ret (.d (optL tabD r))) μ := by
  have hd : (headT (T (if p then "pairs" else "array")) mv).length ≤ 20 := by rw [head_len (by cases p <;> decide +kernel) hv]; decide
  have c := t16 (n := m) (μ := μ) (by omega) hl hd
  have sp : (sortS p) = S (T (if p then "pairs" else "array")) := by cases p <;> exact (T_S _).symm
  have f := fhead (μ := μ) (c := callF tab m) (ρ := [some (.val (.d (.str (S l)))), some (.val (.d (.str (sortS p)))), some (.val (.d (nD mv))), x3, x4, x5, x6, x7]) (e1 := .var 1) (e2 := .var 2) (s := T (if p then "pairs" else "array")) (by cases p <;> decide +kernel) hv (by rw [← sp]; rfl) rfl
  have e : evE (callF tab m) [some (.val (.d (.str (S l)))), some (.val (.d (.str (sortS p)))), some (.val (.d (nD mv))), x3, x4, x5, x6, x7] (.call 16 [.var 0, .fstr [.var 1, .con (.str " "), .var 2, .con (.str ":")]]) μ = .ok (.d (optL rD (rowIn l (headT (T (if p then "pairs" else "array")) mv)))) μ := by
    simp only [ev_call, evs_cons, evs_nil, f, R.bind_ok, c, ev_var, List.getElem?_cons_zero]
  refine (xs_next (asg_nm e (Nat.lt_of_sub_pos (Nat.succ_pos 4)))).trans ?_
  unfold tryT
  cases q : rowIn l (headT (T (if p then "pairs" else "array")) mv) with
  | none => simp [optL, ne_nil]
  | some ns =>
    have hs := (rowIn_small q).1
    simp only [List.set_cons_succ, List.set_cons_zero, optL]
    rw [xs_cons, if_yes (μ1 := μ) (by simp [ne_r])]
    have nx : exSs (callF tab m) (.asg (.nm 4) (.idx (.var 3) (.con (.int 0))) :: b24i) [some (.val (.d (.str (S l)))), some (.val (.d (.str (sortS p)))), some (.val (.d (nD mv))), some (.val (.d (.list [rD ns]))), x4, x5, x6, x7] μ =
        exSs (callF tab m) b24i [some (.val (.d (.str (S l)))), some (.val (.d (.str (sortS p)))), some (.val (.d (nD mv))), some (.val (.d (.list [rD ns]))), some (.val (.d (rD ns))), x5, x6, x7] μ := xs_next (by simp)
    rw [nx]
    cases p with
    | false =>
      rw [show sortS false = ("array" : Str) from rfl, b24i_a hm hs (fun xs h => by cases h)]
      rfl
    | true =>
      rw [show sortS true = ("pairs" : Str) from rfl, b24i_p hm hs (fun xs h => by cases h)]
      rfl
theorem in24 {m : Nat} (hm : 5 ≤ m) {l : List Nat} (hl : l.length ≤ 1000000) (p : Bool) {x2 x3 x4 x5 x6 x7 : Option Slot} :
    exSs (callF tab m) [.fors (.nm 2) (.rng1 (.con (.int 2))) b24] [some (.val (.d (.str (S l)))), some (.val (.d (.str (sortS p)))), x2, x3, x4, x5, x6, x7] μ = match tryT p 0 l with
      | some r => .ok (.ret (.d (optL tabD r))) μ
      | none => match tryT p 1 l with
        | some r => .ok (.ret (.d (optL tabD r))) μ
        | none => .ok (.next [some (.val (.d (.str (S l)))), some (.val (.d (.str (sortS p)))), some (.val (.d (nD 1))), some (.val (.d (.list []))), x4, x5, x6, x7]) μ := by
  have b0 := b24_ok (μ := μ) hm hl p (mv := 0) (by omega) (x3 := x3) (x4 := x4) (x5 := x5) (x6 := x6) (x7 := x7)
  have b1 := b24_ok (μ := μ) hm hl p (mv := 1) (by omega) (x3 := some (.val (.d (.list [])))) (x4 := x4) (x5 := x5) (x6 := x6) (x7 := x7)
  have it : evI (callF tab m) [some (.val (.d (.str (S l)))), some (.val (.d (.str (sortS p)))), x2, x3, x4, x5, x6, x7] (.rng1 (.con (.int 2))) μ = .ok [.one (.d (nD 0)), .one (.d (nD 1))] μ := rfl
  rw [xs_cons, x_fo, it, R.bind_ok, fo_cons]
  have a0 : asgI (.nm 2) (.one (.d (nD 0))) [some (.val (.d (.str (S l)))), some (.val (.d (.str (sortS p)))), x2, x3, x4, x5, x6, x7] = some [some (.val (.d (.str (S l)))), some (.val (.d (.str (sortS p)))), some (.val (.d (nD 0))), x3, x4, x5, x6, x7] := rfl
  rw [a0]
  dsimp only
  rw [b0]
  cases q : tryT p 0 l with
  | some r => simp only [R.bind_ok]
  | none =>
    simp only [R.bind_ok]
    rw [fo_cons]
    have a1 : asgI (.nm 2) (.one (.d (nD 1))) [some (.val (.d (.str (S l)))), some (.val (.d (.str (sortS p)))), some (.val (.d (nD 0))), some (.val (.d (.list []))), x4, x5, x6, x7] = some [some (.val (.d (.str (S l)))), some (.val (.d (.str (sortS p)))), some (.val (.d (nD 1))), some (.val (.d (.list []))), x4, x5, x6, x7] := rfl
    rw [a1]
    dsimp only
    rw [b1]
    cases q : tryT p 1 l with
    | some r => simp only [R.bind_ok]
    | none => simp only [R.bind_ok, fo_nil, xs_nil]
theorem t24 (h : 6 ≤ n) {l : List Nat} (hl : l.length ≤ 1000000) : callF tab n 24 [.d (.str (S l))] μ = .ok (.d (optL tabD (tableIn l))) μ := by
  obtain ⟨m, rfl⟩ : ∃ m, n = m + 1 := ⟨n - 1, by omega⟩
  refine call_ret (fs := tab) (f := 24) (fn := f24) (vs := [.d (.str (S l))]) (n := m) rfl rfl ?_
  have i0 := in24 (μ := μ) (m := m) (by omega) hl false (x2 := none) (x3 := none) (x4 := none) (x5 := none) (x6 := none) (x7 := none)
  have i1 := in24 (μ := μ) (m := m) (by omega) hl true (x2 := some (.val (.d (nD 1)))) (x3 := some (.val (.d (.list [])))) (x4 := none) (x5 := none) (x6 := none) (x7 := none)
  have it : evI (callF tab m) [some (.val (.d (.str (S l)))), none, none, none, none, none, none, none] (.seq (.tup [.con (.str "array"), .con (.str "pairs")])) μ = .ok [.one (.d (.str (sortS false))), .one (.d (.str (sortS true)))] μ := by simp [seqItems, sortS]
  have st : startR f24.N.length [.d (.str (S l))] = [some (.val (.d (.str (S l)))), none, none, none, none, none, none, none] := rfl
  have bd : f24.body = [.fors (.nm 1) (.seq (.tup [.con (.str "array"), .con (.str "pairs")])) [.fors (.nm 2) (.rng1 (.con (.int 2))) b24], .ret (.lst [])] := rfl
  rw [st, bd, xs_cons, x_fo, it, R.bind_ok, fo_cons]
  have a0 : asgI (.nm 1) (.one (.d (.str (sortS false)))) [some (.val (.d (.str (S l)))), none, none, none, none, none, none, none] = some [some (.val (.d (.str (S l)))), some (.val (.d (.str (sortS false)))), none, none, none, none, none, none] := rfl
  rw [a0]
  dsimp only
  rw [i0]
  unfold tableIn
  cases q0 : tryT false 0 l with
  | some r => simp only [R.bind_ok]
  | none =>
    cases q1 : tryT false 1 l with
    | some r => simp only [R.bind_ok]
    | none =>
      simp only [R.bind_ok]
      rw [fo_cons]
      have a1 : asgI (.nm 1) (.one (.d (.str (sortS true)))) [some (.val (.d (.str (S l)))), some (.val (.d (.str (sortS false)))), some (.val (.d (nD 1))), some (.val (.d (.list []))), none, none, none, none] = some [some (.val (.d (.str (S l)))), some (.val (.d (.str (sortS true)))), some (.val (.d (nD 1))), some (.val (.d (.list []))), none, none, none, none] := rfl
      rw [a1]
      dsimp only
      rw [i1]
      cases q2 : tryT true 0 l with
      | some r => simp only [R.bind_ok]
      | none =>
        cases q3 : tryT true 1 l with
        | some r => simp only [R.bind_ok]
        | none =>
          simp only [R.bind_ok, fo_nil]
          exact xs_done (ret_is (by simp [optL]))
end K82
end

/-! text K82S16 -/
section
namespace K82
open Pv PySem L2
open TL (numL spl joinL par pre)
open SX (S)
open NumText (digitsVal AllDigits)
variable {n : Nat} {μ : Sto}
theorem canLay_end {e : End} (h : endOk e) : (endD e).canLay0 = true ∧ (endD e).depth ≤ 60 := by
  cases e with
  | none => exact ⟨rfl, by decide⟩
  | ans v => exact ⟨by
      show (PyData.strOk ("answer" : Str) && (true && true)) = true
      decide +kernel, Nat.succ_le_succ (Nat.zero_le _)⟩
  | fault k =>
    have h : k ∈ kinds := h
    have : ∀ k ∈ kinds, (endD (.fault k)).canLay0 = true ∧ (endD (.fault k)).depth ≤ 60 := by decide +kernel
    exact this k h
theorem canLay_told {H : Hd} {l : List Nat} {v : Told} (h : told H l = some v) : (toldD v).canLay0 = true ∧ (toldD v).depth ≤ 60 := by
  cases v with
  | num k => exact ⟨rfl, Nat.zero_le _⟩
  | row ns => exact ⟨canLay_r ns, Nat.le_trans (depth_r ns) (by decide)⟩
  | fin e =>
    cases H with
    | num hd m =>
      exfalso
      revert h
      show (match rowIn l hd with | some [n] => if le? n m = true then some (Told.num n) else none | _ => none) ≠ _
      rcases rowIn l hd with _ | (_ | ⟨k, _ | ⟨k2, t⟩⟩) <;> simp
    | fin =>
      have h : (endIn l).map Told.fin = some (.fin e) := h
      cases q : endIn l with
      | none => rw [q] at h; cases h
      | some e' =>
        rw [q] at h
        cases h
        exact canLay_end (endIn_line q).2
    | row hd k m =>
      exfalso
      revert h
      show (match rowIn l hd with | some ns => if (len? ns.length k && ns.all fun n => decide (n ≤ m)) = true then some (Told.row ns) else none | none => none) ≠ _
      cases rowIn l hd <;> simp
theorem canLay_tab (t : Tab) : (tabD t).canLay0 = true ∧ (tabD t).depth ≤ 60 := by
  have a : PyData.strOk ("array" : Str) = true := by decide +kernel
  have b : PyData.strOk ("pairs" : Str) = true := by decide +kernel
  cases t with
  | arr m ns =>
    refine ⟨?_, ?_⟩
    · show (PyData.strOk ("array" : Str) && (true && ((rD ns).canLay0 && true))) = true
      rw [a, canLay_r]; rfl
    · show max 0 (max 0 (max (rD ns).depth 0)) + 1 ≤ 60
      have := depth_r ns
      simp; omega
  | prs m ps =>
    refine ⟨?_, ?_⟩
    · show (PyData.strOk ("pairs" : Str) && (true && ((pD ps).canLay0 && true))) = true
      rw [b, canLay_p]; rfl
    · show max 0 (max 0 (max (pD ps).depth 0)) + 1 ≤ 60
      have := depth_p ps
      simp; omega
/-! the mirror -/
def rdM (L : List (List Nat)) : Nat → Nat → List Told → Nat ⊕ List Told
  | 0, _, vs => .inr vs
  | k + 1, i, vs => match L[i]? with
    | none => .inl i
    | some l => match told (heads.getD i .fin) l with
      | none => .inl i
      | some v => rdM L k (i + 1) (vs ++ [v])
def rdT : List (List Nat) → Nat → List Tab → Nat ⊕ List Tab
  | [], _, ts => .inr ts
  | l :: r, j, ts => if j < 6 then match tableIn l with
    | some t => rdT r (j + 1) (ts ++ [t])
    | none => .inl (9 + j) else .inl (9 + j)
def badD (i : Nat) : PyData := .tuple [.list [nD i], .tuple []]
def item9 (j : Nat) : Item := .two (.d (nD j)) (.d (.str ((names.getD j "" : String) : Str)))
abbrev rvL (vs : List Told) : List RV := vs.map fun v => .d (toldD v)
abbrev b25a : List Pv.S := [.asg (.nm 6) (.ite (.cmp .lt (.var 4) (.bi .len [.var 1])) (.call 23 [.idx (.var 1) (.var 4), .var 5]) (.lst [])), .ifs (.cmp .eq (.var 6) (.lst [])) [.ret (.tup [.lst [.var 4], .tup []])] [], .app 2 (.idx (.var 6) (.con (.int 0)))]
theorem idx_L {L : List (List Nat)} (i : Nat) : idxF (.list (L.map fun w => .str (S w))) (.int (i : Int)) = (L[i]?).map fun w => .str (S w) := by
  show atI _ (i : Int) = _
  rw [atI_n, List.getElem?_map]
theorem b25_ok {m : Nat} (hm : 6 ≤ m) {L : List (List Nat)} (hL : ∀ l ∈ L, l.length ≤ 1000000) {i : Nat} (hi : i < 9) {vs : List Told} (hv : vs.length ≤ 100) {x0 x3 x6 : Option Slot} {RR : List (Option Slot)} :
    exSs (callF tab m) b25a (x0 :: some (.val (.d (.list (L.map fun w => .str (S w))))) :: some (.own (rvL vs)) :: x3 :: some (.val (.d (nD i))) :: some (.val (.d (.str ((names.getD i "" : String) : Str)))) :: x6 ::  RR) μ =
      match L[i]? with
      | none => .ok (.ret (.d (badD i))) μ
      | some l => match told (heads.getD i .fin) l with
        | none => .ok (.ret (.d (badD i))) μ
        | some v => .ok (.next (x0 :: some (.val (.d (.list (L.map fun w => .str (S w))))) :: some (.own (rvL (vs ++ [v]))) :: x3 :: some (.val (.d (nD i))) :: some (.val (.d (.str ((names.getD i "" : String) : Str)))) :: some (.val (.d (.list [toldD v]))) ::  RR)) μ := by
  have lt : ∀ x6 RR, (x0 :: some (Slot.val (.d (.list (L.map fun w => .str (S w))))) :: some (.own (rvL vs)) :: x3 :: some (.val (.d (nD i))) :: some (.val (.d (.str ((names.getD i "" : String) : Str)))) :: x6 ::  RR).length > 6 := fun x6 RR => by simp
  cases q : L[i]? with
  | none =>
    have h1 : ¬ (i : Int) < L.length := by have := List.getElem?_eq_none_iff.mp q; omega
    simp [h1, eq_nil, badD]
  | some l =>
    have h1 : (i : Int) < L.length := by have := (List.getElem?_eq_some_iff.mp q).1; omega
    have hl : l.length ≤ 1000000 := hL l (List.mem_of_getElem? q)
    have c := t23 (n := m) (μ := μ) hm hl i hi (names.getD i "") (heads.getD i .fin) (by
      rw [List.getD_eq_getElem?_getD, List.getElem?_eq_getElem (show i < names.length by exact hi)]; rfl) (by
      rw [List.getD_eq_getElem?_getD, List.getElem?_eq_getElem (show i < heads.length by exact hi)]; rfl)
    have hv2 : vs.length < 16777216 := by omega
    generalize names.getD i "" = nm at c ⊢
    generalize heads.getD i .fin = H at c ⊢
    dsimp only
    cases q2 : told H l with
    | none =>
      rw [q2] at c
      simp [h1, atI_n, q, c, optL, eq_nil, badD]
    | some v =>
      rw [q2] at c
      obtain ⟨w1, w2⟩ := canLay_told q2
      simp [h1, atI_n, q, c, optL, eq_one w1 w2, hv2, rvL]
theorem fo25a {m : Nat} (hm : 6 ≤ m) {L : List (List Nat)} (hL : ∀ l ∈ L, l.length ≤ 1000000) {x0 x3 : Option Slot} {RR : List (Option Slot)} : ∀ (k i : Nat) (vs : List Told) (x4 x5 x6 : Option Slot), i + k = 9 → vs.length ≤ i →
    match rdM L k i vs with
    | .inl j => fo (callF tab m) (.tup [(.nm 4), (.nm 5)]) b25a ((List.range' i k).map item9) (x0 :: some (.val (.d (.list (L.map fun w => .str (S w))))) :: some (.own (rvL vs)) :: x3 :: x4 :: x5 :: x6 ::  RR) μ = .ok (.ret (.d (badD j))) μ
    | .inr ws => ∃ y4 y5 y6, fo (callF tab m) (.tup [(.nm 4), (.nm 5)]) b25a ((List.range' i k).map item9) (x0 :: some (.val (.d (.list (L.map fun w => .str (S w))))) :: some (.own (rvL vs)) :: x3 :: x4 :: x5 :: x6 ::  RR) μ = .ok (.next (x0 :: some (.val (.d (.list (L.map fun w => .str (S w))))) :: some (.own (rvL ws)) :: x3 :: y4 :: y5 :: y6 ::  RR)) μ
  | 0, i, vs, x4, x5, x6, _, _ => ⟨x4, x5, x6, rfl⟩
  | k + 1, i, vs, x4, x5, x6, h, hv => by
    have b := b25_ok (μ := μ) hm hL (i := i) (by omega) (vs := vs) (by omega) (x0 := x0) (x3 := x3) (x6 := x6) (RR := RR)
    rw [List.range'_succ, List.map_cons, fo_cons]
    have a : asgI (.tup [(.nm 4), (.nm 5)]) (item9 i) (x0 :: some (.val (.d (.list (L.map fun w => .str (S w))))) :: some (.own (rvL vs)) :: x3 :: x4 :: x5 :: x6 ::  RR) = some (x0 :: some (.val (.d (.list (L.map fun w => .str (S w))))) :: some (.own (rvL vs)) :: x3 :: some (.val (.d (nD i))) :: some (.val (.d (.str ((names.getD i "" : String) : Str)))) :: x6 ::  RR) := by
      simp [item9]
    rw [a]
    dsimp only
    rw [b]
    unfold rdM
    cases q : L[i]? with
    | none => simp only [R.bind_ok]
    | some l =>
      dsimp only
      cases q2 : told (heads.getD i .fin) l with
      | none => simp only [R.bind_ok]
      | some v =>
        simp only [R.bind_ok]
        exact fo25a hm hL k (i + 1) (vs ++ [v]) _ _ _ (by omega) (by rw [List.length_append]; simp; omega)
end K82
end

/-! text K82S17 -/
section
namespace K82
open Pv PySem L2
open TL (numL spl joinL par pre)
open SX (S)
open NumText (digitsVal AllDigits)
variable {n : Nat} {μ : Sto}
abbrev HEADS : PyData := .tuple [.str "steps", .str "place", .str "end", .str "clock", .str "writable", .str "registers", .str "slots", .str "counters", .str "packet"]
abbrev b25b : List Pv.S := [.asg (.nm 6) (.ite (.cmp .lt (.var 4) (.con (.int 6))) (.call 24 [.var 7]) (.lst [])), .ifs (.cmp .eq (.var 6) (.lst [])) [.ret (.tup [.lst [.bin .add (.var 4) (.bi .len [.con HEADS])], .tup []])] [], .app 3 (.idx (.var 6) (.con (.int 0)))]
abbrev tvL (ts : List Tab) : List RV := ts.map fun t => .d (tabD t)
theorem b25b_ok {m : Nat} (hm : 6 ≤ m) {l : List Nat} (hl : l.length ≤ 1000000) {j : Nat} {ts : List Tab} (hv : ts.length ≤ 100) {x0 x1 x2 x5 x6 : Option Slot} {RR : List (Option Slot)} :
    exSs (callF tab m) b25b (x0 :: x1 :: x2 :: some (.own (tvL ts)) :: some (.val (.d (nD j))) :: x5 :: x6 :: some (.val (.d (.str (S l)))) :: RR) μ =
      if j < 6 then match tableIn l with
        | none => .ok (.ret (.d (badD (9 + j)))) μ
        | some t => .ok (.next (x0 :: x1 :: x2 :: some (.own (tvL (ts ++ [t]))) :: some (.val (.d (nD j))) :: x5 :: some (.val (.d (.list [tabD t]))) :: some (.val (.d (.str (S l)))) :: RR)) μ
      else .ok (.ret (.d (badD (9 + j)))) μ := by
  have c := t24 (n := m) (μ := μ) hm hl
  have hv2 : ts.length < 16777216 := by omega
  have e9 : ((j : Int) + 9) = (((9 + j : Nat)) : Int) := by omega
  have e9' : ((j : Int) + 9) = 9 + (j : Int) := by omega
  by_cases q : j < 6
  · have h1 : (j : Int) < 6 := by omega
    rw [if_pos q]
    cases q2 : tableIn l with
    | none =>
      rw [q2] at c
      simp [h1, c, optL, eq_nil, badD, e9']
    | some t =>
      rw [q2] at c
      obtain ⟨w1, w2⟩ := canLay_tab t
      simp [h1, c, optL, eq_one w1 w2, hv2, tvL]
  · have h1 : ¬ (j : Int) < 6 := by omega
    rw [if_neg q]
    simp [h1, eq_nil, badD, e9']
def itemT (L : List (List Nat)) (j : Nat) : List Item := (L.zipIdx j).map fun p => .two (.d (nD p.2)) (.d (.str (S p.1)))
theorem fo25b {m : Nat} (hm : 6 ≤ m) {x0 x1 x2 : Option Slot} {RR : List (Option Slot)} : ∀ (L : List (List Nat)) (j : Nat) (ts : List Tab) (x4 x5 x6 x7 : Option Slot), (∀ l ∈ L, l.length ≤ 1000000) → ts.length ≤ j →
    match rdT L j ts with
    | .inl i => fo (callF tab m) (.tup [(.nm 4), (.nm 7)]) b25b (itemT L j) (x0 :: x1 :: x2 :: some (.own (tvL ts)) :: x4 :: x5 :: x6 :: x7 :: RR) μ = .ok (.ret (.d (badD i))) μ
    | .inr us => ∃ y4 y6 y7, fo (callF tab m) (.tup [(.nm 4), (.nm 7)]) b25b (itemT L j) (x0 :: x1 :: x2 :: some (.own (tvL ts)) :: x4 :: x5 :: x6 :: x7 :: RR) μ = .ok (.next (x0 :: x1 :: x2 :: some (.own (tvL us)) :: y4 :: x5 :: y6 :: y7 :: RR)) μ
  | [], j, ts, x4, x5, x6, x7, _, _ => ⟨x4, x6, x7, rfl⟩
  | l :: L, j, ts, x4, x5, x6, x7, hL, hv => by
    have a : asgI (.tup [(.nm 4), (.nm 7)]) (.two (.d (nD j)) (.d (.str (S l)))) (x0 :: x1 :: x2 :: some (.own (tvL ts)) :: x4 :: x5 :: x6 :: x7 :: RR) = some (x0 :: x1 :: x2 :: some (.own (tvL ts)) :: some (.val (.d (nD j))) :: x5 :: x6 :: some (.val (.d (.str (S l)))) :: RR) := by
      simp
    have u : itemT (l :: L) j = .two (.d (nD j)) (.d (.str (S l))) :: itemT L (j + 1) := rfl
    rw [u, fo_cons, a]
    dsimp only
    unfold rdT
    by_cases q : j < 6
    · have b := b25b_ok (μ := μ) hm (hL l (by simp)) (j := j) (ts := ts) (by omega) (x0 := x0) (x1 := x1) (x2 := x2) (x5 := x5) (x6 := x6) (RR := RR)
      rw [if_pos q] at b ⊢
      cases q2 : tableIn l with
      | none => rw [q2] at b; dsimp only at b ⊢; rw [b]; simp only [R.bind_ok]
      | some t =>
        rw [q2] at b
        dsimp only at b ⊢
        rw [b]
        simp only [R.bind_ok]
        exact fo25b hm L (j + 1) (ts ++ [t]) _ _ _ _ (fun l hl => hL l (List.mem_cons_of_mem _ hl)) (by rw [List.length_append]; simp; omega)
    · rw [if_neg q]
      dsimp only
      have b : exSs (callF tab m) b25b (x0 :: x1 :: x2 :: some (.own (tvL ts)) :: some (.val (.d (nD j))) :: x5 :: x6 :: some (.val (.d (.str (S l)))) :: RR) μ = .ok (.ret (.d (badD (9 + j)))) μ := by
        have h1 : ¬ (j : Int) < 6 := by omega
        have e9' : ((j : Int) + 9) = 9 + (j : Int) := by omega
        simp [h1, eq_nil, badD, e9']
      rw [b]; simp only [R.bind_ok]
/-! reading -/
inductive Read where
  | bad (i : Nat)
  | ok (vs : List Told) (ts : List Tab)
def readL (L : List (List Nat)) : Read := match rdM L 9 0 [] with
  | .inl i => .bad i
  | .inr vs => match rdT (L.drop 9) 0 [] with
    | .inl i => .bad i
    | .inr ts => .ok vs ts
def nth (vs : List Told) (i : Nat) : PyData := toldD (vs.getD i (.num 0))
def readD : Read → PyData
  | .bad i => .tuple [.list [nD i], .tuple []]
  | .ok vs ts => .tuple [.list [], .tuple [nth vs 5, nth vs 6, nth vs 7, nth vs 1, nth vs 8, .tuple (ts.map tabD), nth vs 3, nth vs 0, nth vs 2, nth vs 4]]
theorem rdM_len {L : List (List Nat)} : ∀ (k i : Nat) (vs ws : List Told), rdM L k i vs = .inr ws → ws.length = vs.length + k
  | 0, _, vs, ws, h => by cases h; rfl
  | k + 1, i, vs, ws, h => by
    unfold rdM at h
    split at h
    · cases h
    · split at h
      · cases h
      · have := rdM_len k _ _ ws h
        rw [List.length_append] at this
        simp at this; omega
end K82
end

/-! text K82S18 -/
section
namespace K82
open Pv PySem L2
open TL (numL spl joinL par pre)
open SX (S)
open NumText (digitsVal AllDigits)
variable {n : Nat} {μ : Sto}
theorem nl_S : ("\n" : Str) = S [10] := by decide +kernel
theorem allBy_map {α : Type} (f : α → PyData) : ∀ xs : List α, allBy pureR (xs.map fun x => RV.d (f x)) = some (xs.map f)
  | [] => rfl
  | x :: xs => by
    show allBy pureR (.d (f x) :: xs.map fun x => RV.d (f x)) = _
    rw [allBy_d, allBy_map f xs]; rfl
theorem t25 (h : 7 ≤ n) {t : List Nat} {L : List (List Nat)} (ht : t.length ≤ 16000000) (hS : spl [10] 0 [] t = L) (hL : ∀ l ∈ L, l.length ≤ 1000000) : callF tab n 25 [.d (.str (S t))] μ = .ok (.d (readD (readL L))) μ := by
  obtain ⟨m, rfl⟩ : ∃ m, n = m + 1 := ⟨n - 1, by omega⟩
  refine call_ret (fs := tab) (f := 25) (fn := f25) (vs := [.d (.str (S t))]) (n := m) rfl rfl ?_
  have sp := spl_bi (t := t) (c := 10) (by decide) (by omega)
  rw [hS] at sp
  let LD : PyData := .list (L.map fun w => .str (S w))
  have s0 : exS (callF tab m) (.par [1, 2, 3] [.val (.mt .split1 (.var 0) (.con (.str "\n"))), .lst [], .lst []]) (startR f25.N.length [.d (.str (S t))]) μ = .ok (.next [some (.val (.d (.str (S t)))), some (.val (.d LD)), some (.own []), some (.own []), none, none, none, none, none, none, none, none, none, none, none, none, none]) μ := by
    simp [f25, startR, nl_S, sp, setAll, LD]
  refine (xs_next s0).trans ?_
  have i1 : evI (callF tab m) [some (.val (.d (.str (S t)))), some (.val (.d LD)), some (.own []), some (.own []), none, none, none, none, none, none, none, none, none, none, none, none, none] (.enm (.con HEADS)) μ = .ok ((List.range' 0 9).map item9) μ := rfl
  have w1 := fo25a (μ := μ) (m := m) (by omega) hL (x0 := some (.val (.d (.str (S t))))) (x3 := some (.own [])) (RR := [none, none, none, none, none, none, none, none, none, none]) 9 0 [] none none none rfl (Nat.le_refl _)
  rw [xs_cons, x_fo, i1, R.bind_ok]
  unfold readL
  cases q : rdM L 9 0 [] with
  | inl i =>
    rw [q] at w1
    dsimp only at w1 ⊢
    refine (congrArg (fun z => R.bind z _) w1).trans ?_
    rw [R.bind_ok]
    rfl
  | inr vs =>
    rw [q] at w1
    obtain ⟨y4, y5, y6, w1⟩ := w1
    refine (congrArg (fun z => R.bind z _) w1).trans ?_
    rw [R.bind_ok]
    dsimp only
    have i2 : evI (callF tab m) (some (.val (.d (.str (S t)))) :: some (.val (.d LD)) :: some (.own (rvL vs)) :: some (.own []) :: y4 :: y5 :: y6 :: [none, none, none, none, none, none, none, none, none, none]) (.enm (.sli (.var 1) (some (.bi .len [.con HEADS])) none)) μ = .ok (itemT (L.drop 9) 0) μ := by
      have e1 : biF .len [.d HEADS] = some (.d (.int 9)) := rfl
      have e2 : sliR (some 9) none (.d LD) = some (.d (.list ((L.drop 9).map fun w => .str (S w)))) := by
        show some (RV.d (.list (cutD (L.map fun w => PyData.str (S w)) (some ((9 : Nat) : Int)) none))) = _
        rw [cut_from, List.map_drop]
      have e3 : ∀ xs : List (List Nat), seqItems (.list (xs.map fun w => .str (S w))) = some (xs.map fun w => .str (S w)) := fun _ => rfl
      simp only [evi_enm, ev_sli, ev_var, evo_some, evo_none, ev_bi, evs_cons, ev_con, List.getElem?_cons_succ, List.getElem?_cons_zero, R.bind_ok, evs_nil, e1, lift_some, e2, e3, Option.map_some]
      congr 1
      unfold enmItems itemT
      rw [List.zipIdx_map, List.map_map]
      rfl
    have w2 := fo25b (μ := μ) (m := m) (by omega) (x0 := some (.val (.d (.str (S t))))) (x1 := some (.val (.d LD))) (x2 := some (.own (rvL vs))) (RR := [none, none, none, none, none, none, none, none, none]) (L.drop 9) 0 [] y4 y5 y6 none (fun l hl => hL l (List.mem_of_mem_drop hl)) (Nat.le_refl _)
    rw [xs_cons, x_fo, i2, R.bind_ok]
    cases q2 : rdT (L.drop 9) 0 [] with
    | inl i =>
      rw [q2] at w2
      dsimp only at w2 ⊢
      refine (congrArg (fun z => R.bind z _) w2).trans ?_
      rw [R.bind_ok]
      rfl
    | inr ts =>
      rw [q2] at w2
      obtain ⟨z4, z6, z7, w2⟩ := w2
      refine (congrArg (fun z => R.bind z _) w2).trans ?_
      rw [R.bind_ok]
      dsimp only
      have len := rdM_len _ _ _ _ q
      simp only [List.length_nil, Nat.zero_add] at len
      obtain ⟨v0, v1, v2, v3, v4, v5, v6, v7, v8, rfl⟩ : ∃ v0 v1 v2 v3 v4 v5 v6 v7 v8, vs = [v0, v1, v2, v3, v4, v5, v6, v7, v8] := by
        match vs, len with
        | [v0, v1, v2, v3, v4, v5, v6, v7, v8], _ => exact ⟨v0, v1, v2, v3, v4, v5, v6, v7, v8, rfl⟩
      have a1 := allBy_map toldD [v0, v1, v2, v3, v4, v5, v6, v7, v8]
      have a2 := allBy_map tabD ts
      simp only [List.map_cons, List.map_nil] at a1
      simp [rvL, a1, a2, asgLn, readD, nth]
end K82
end

/-! text K82S19 -/
section
namespace K82
open Pv PySem L2
open TL (numL spl joinL par pre)
open SX (S)
open NumText (digitsVal AllDigits)
variable {n : Nat} {μ : Sto}
def shl (d : PyData) : Nat := d.shown.length
theorem shownAll_map {α : Type} (f : α → PyData) : ∀ xs : List α, PyData.shownAll (xs.map f) = xs.map fun x => (f x).shown
  | [] => rfl
  | x :: xs => by
    show (f x).shown :: PyData.shownAll (xs.map f) = _
    rw [shownAll_map f xs]; rfl
theorem shl_tup {α : Type} (f : α → PyData) (xs : List α) {k : Nat} (h : ∀ x ∈ xs, shl (f x) ≤ k) : shl (.tuple (xs.map f)) ≤ xs.length * (k + 2) + 3 := by
  have e : (PyData.tuple (xs.map f)).shown = tupleText (PyData.shownAll (xs.map f)) := by simp only [PyData.shown]
  unfold shl
  rw [e, shownAll_map]
  refine Nat.le_trans (tupleText_len_le _) ?_
  have := sum_le (l := ((xs.map fun x => (f x).shown).map (·.length))) (k := k) fun v hv => by
    simp only [List.map_map, List.mem_map, Function.comp_def] at hv
    obtain ⟨x, hx, rfl⟩ := hv
    exact h x hx
  simp only [List.length_map, List.length_map] at this ⊢
  rw [Nat.mul_add]
  omega
theorem shl_id (xs : List PyData) {k : Nat} (h : ∀ x ∈ xs, shl x ≤ k) : shl (.tuple xs) ≤ xs.length * (k + 2) + 3 := by
  have := shl_tup id xs (k := k) h
  rwa [List.map_id] at this
theorem shl_n {k : Nat} (h : small k) : shl (nD k) ≤ 400 := by
  have e : (nD k).shown = S (numL k) := by
    show Str.ofString (toString (k : Int)) = _
    exact SX.num_S k
  unfold shl
  rw [e, sN]
  exact small_len h
theorem shl_r {ns : List Nat} (hl : ns.length ≤ 256) (hs : ∀ v ∈ ns, small v) : shl (rD ns) ≤ 102915 := by
  have := shl_tup nD ns (k := 400) fun v hv => shl_n (hs v hv)
  unfold rD
  omega
theorem shl_r32 {ns : List Nat} (hl : ns.length ≤ 32) (hs : ∀ v ∈ ns, small v) : shl (rD ns) ≤ 12950 := by
  have := shl_tup nD ns (k := 400) fun v hv => shl_n (hs v hv)
  unfold rD
  omega
theorem shl_p {ps : List (Nat × Nat)} (hl : ps.length ≤ 16) (hs : ∀ p ∈ ps, p.1 ≤ 65535 ∧ p.2 ≤ 65535) : shl (pD ps) ≤ 12950 := by
  have := shl_tup (fun (p : Nat × Nat) => rD [p.1, p.2]) ps (k := 807) fun p hp => by
    have := shl_tup nD [p.1, p.2] (k := 400) fun v hv => by
      simp only [List.mem_cons, List.not_mem_nil, or_false] at hv
      rcases hv with rfl | rfl
      · exact shl_n (small_le (hs p hp).1)
      · exact shl_n (small_le (hs p hp).2)
    simpa [rD] using this
  unfold pD
  omega
theorem shl_tab {t : Tab} (ht : tabOk t = true) : shl (tabD t) ≤ 38859 := by
  have a : shl (.str "array") ≤ 12950 := by decide +kernel
  have b : shl (.str "pairs") ≤ 12950 := by decide +kernel
  cases t with
  | arr m ns =>
    simp only [tabOk, Bool.and_eq_true, decide_eq_true_eq, List.all_eq_true] at ht
    obtain ⟨⟨⟨h1, h2⟩, h3⟩, h4⟩ := ht
    have := shl_id [.str "array", nD m, rD ns] (k := 12950) fun v hv => by
      simp only [List.mem_cons, List.not_mem_nil, or_false] at hv
      rcases hv with rfl | rfl | rfl
      · exact a
      · exact Nat.le_trans (shl_n (small_le (by omega))) (by decide)
      · exact shl_r32 h3 fun v hv => small_le (h4 v hv)
    simpa [tabD] using this
  | prs m ps =>
    simp only [tabOk, Bool.and_eq_true, decide_eq_true_eq, List.all_eq_true] at ht
    obtain ⟨⟨⟨h1, h2⟩, h3⟩, h4⟩ := ht
    have := shl_id [.str "pairs", nD m, pD ps] (k := 12950) fun v hv => by
      simp only [List.mem_cons, List.not_mem_nil, or_false] at hv
      rcases hv with rfl | rfl | rfl
      · exact b
      · exact Nat.le_trans (shl_n (small_le (by omega))) (by decide)
      · exact shl_p h2 h3
    simpa [tabD] using this
theorem shl_end {e : End} (h : endOk e) : shl (endD e) ≤ 102915 := by
  have a : shl (.str "answer") ≤ 400 := by decide +kernel
  cases e with
  | none => decide +kernel
  | ans v =>
    have h : v ≤ 65535 := h
    have := shl_id [.str "answer", nD v] (k := 400) fun x hx => by
      simp only [List.mem_cons, List.not_mem_nil, or_false] at hx
      rcases hx with rfl | rfl
      · exact a
      · exact shl_n (small_le h)
    have : shl (endD (.ans v)) ≤ _ := this
    simp at this
    omega
  | fault k =>
    have h : k ∈ kinds := h
    have : ∀ k ∈ kinds, shl (endD (.fault k)) ≤ 102915 := by decide +kernel
    exact this k h
def parts (r : Run) : List PyData := [rD r.regs, rD r.slots, rD r.ctrs, nD r.place, rD r.pkt, .tuple (r.tabs.map tabD), nD r.clock, nD r.steps, endD r.fin, nD r.wr]
theorem parts_all {r : Run} {P : PyData → Prop} (h0 : P (rD r.regs)) (h1 : P (rD r.slots)) (h2 : P (rD r.ctrs)) (h3 : P (nD r.place)) (h4 : P (rD r.pkt)) (h5 : P (.tuple (r.tabs.map tabD))) (h6 : P (nD r.clock)) (h7 : P (nD r.steps)) (h8 : P (endD r.fin)) (h9 : P (nD r.wr)) : ∀ d ∈ parts r, P d := by
  intro d hd
  simp only [parts, List.mem_cons, List.not_mem_nil, or_false] at hd
  rcases hd with rfl | rfl | rfl | rfl | rfl | rfl | rfl | rfl | rfl | rfl <;> assumption
theorem shl_run {r : Run} (o : RunOk r) : shl (runD r) ≤ 16777216 := by
  have b1 := o.place; have b2 := o.clock; have b3 := o.wr
  have k1 := o.regs.1; have k2 := o.slots.1; have k3 := o.ctrs.1; have k4 := o.pkt.1; have k5 := o.tabs.1
  have t := shl_tup tabD r.tabs (k := 38859) fun t ht => shl_tab (o.tabs.2 t ht)
  have t5 : shl (.tuple (r.tabs.map tabD)) ≤ 300000 := by omega
  have := shl_id (parts r) (k := 300000) (parts_all (P := fun d => shl d ≤ 300000)
    (Nat.le_trans (shl_r (by omega) (row_small o.regs.2 (by decide))) (by decide))
    (Nat.le_trans (shl_r (by omega) (row_small o.slots.2 (by decide))) (by decide))
    (Nat.le_trans (shl_r (by omega) (row_small o.ctrs.2 (by decide))) (by decide))
    (Nat.le_trans (shl_n (small_le (by omega))) (by decide))
    (Nat.le_trans (shl_r (by omega) (row_small o.pkt.2 (by decide))) (by decide))
    t5
    (Nat.le_trans (shl_n (small_le (by omega))) (by decide))
    (Nat.le_trans (shl_n (steps_small o)) (by decide))
    (Nat.le_trans (shl_end o.fin) (by decide))
    (Nat.le_trans (shl_n (small_le (by omega))) (by decide)))
  have l : (parts r).length = 10 := rfl
  rw [l] at this
  exact Nat.le_trans this (by decide)
theorem showAll_map {α : Type} (f : α → PyData) : ∀ xs : List α, (∀ x ∈ xs, (f x).showable = true) → PyData.showableAll (xs.map f) = true
  | [], _ => rfl
  | x :: xs, h => by
    show ((f x).showable && PyData.showableAll (xs.map f)) = true
    rw [h x (by simp), showAll_map f xs fun y hy => h y (List.mem_cons_of_mem _ hy)]; rfl
theorem showAll_id (xs : List PyData) (h : ∀ x ∈ xs, x.showable = true) : PyData.showableAll xs = true := by
  have := showAll_map id xs h
  rwa [List.map_id] at this
theorem show_n {k : Nat} (h : small k) : (nD k).showable = true := decide_eq_true (by simpa using small_log h)
theorem show_r {ns : List Nat} (hs : ∀ v ∈ ns, small v) : (rD ns).showable = true := showAll_map nD ns fun v hv => show_n (hs v hv)
theorem show_tab {t : Tab} (ht : tabOk t = true) : (tabD t).showable = true := by
  cases t with
  | arr m ns =>
    simp only [tabOk, Bool.and_eq_true, decide_eq_true_eq, List.all_eq_true] at ht
    obtain ⟨⟨⟨h1, h2⟩, h3⟩, h4⟩ := ht
    refine showAll_id [.str "array", nD m, rD ns] fun v hv => ?_
    simp only [List.mem_cons, List.not_mem_nil, or_false] at hv
    rcases hv with rfl | rfl | rfl
    · rfl
    · exact show_n (small_le (by omega))
    · exact show_r fun v hv => small_le (h4 v hv)
  | prs m ps =>
    simp only [tabOk, Bool.and_eq_true, decide_eq_true_eq, List.all_eq_true] at ht
    obtain ⟨⟨⟨h1, h2⟩, h3⟩, h4⟩ := ht
    refine showAll_id [.str "pairs", nD m, pD ps] fun v hv => ?_
    simp only [List.mem_cons, List.not_mem_nil, or_false] at hv
    rcases hv with rfl | rfl | rfl
    · rfl
    · exact show_n (small_le (by omega))
    · refine showAll_map (fun (p : Nat × Nat) => rD [p.1, p.2]) ps fun p hp => show_r fun v hv => ?_
      simp only [List.mem_cons, List.not_mem_nil, or_false] at hv
      rcases hv with rfl | rfl
      · exact small_le (h3 p hp).1
      · exact small_le (h3 p hp).2
theorem show_end {e : End} (h : endOk e) : (endD e).showable = true := by
  cases e with
  | none => rfl
  | ans v =>
    have h : v ≤ 65535 := h
    refine showAll_id [.str "answer", nD v] fun x hx => ?_
    simp only [List.mem_cons, List.not_mem_nil, or_false] at hx
    rcases hx with rfl | rfl
    · rfl
    · exact show_n (small_le h)
  | fault k => rfl
theorem canLay_id (xs : List PyData) (h : ∀ x ∈ xs, x.canLay0 = true) : PyData.canLayAll0 xs = true := by
  induction xs with
  | nil => rfl
  | cons x xs ih =>
    show (x.canLay0 && PyData.canLayAll0 xs) = true
    rw [h x (by simp), ih fun y hy => h y (List.mem_cons_of_mem _ hy)]; rfl
theorem depth_id (xs : List PyData) {k : Nat} (h : ∀ x ∈ xs, x.depth ≤ k) : PyData.depthAll xs ≤ k := by
  induction xs with
  | nil => exact Nat.zero_le _
  | cons x xs ih =>
    show max x.depth (PyData.depthAll xs) ≤ k
    exact Nat.max_le.mpr ⟨h x (by simp), ih fun y hy => h y (List.mem_cons_of_mem _ hy)⟩
theorem depth_tup {xs : List PyData} {k : Nat} (h : PyData.depthAll xs ≤ k) : (PyData.tuple xs).depth ≤ k + 1 := Nat.succ_le_succ h
theorem rep_run {r : Run} (o : RunOk r) : biF .repr [.d (runD r)] = some (.d (.str (runD r).shown)) := by
  have b1 := o.place; have b2 := o.clock; have b3 := o.wr
  have h1 : (runD r).showable = true := showAll_id (parts r) (parts_all (P := fun d => d.showable = true)
    (show_r (row_small o.regs.2 (by decide))) (show_r (row_small o.slots.2 (by decide))) (show_r (row_small o.ctrs.2 (by decide))) (show_n (small_le (by omega))) (show_r (row_small o.pkt.2 (by decide)))
    (showAll_map tabD r.tabs fun t ht => show_tab (o.tabs.2 t ht)) (show_n (small_le (by omega))) (show_n (steps_small o)) (show_end o.fin) (show_n (small_le (by omega))))
  have h2 : (runD r).canLay0 = true := canLay_id (parts r) (parts_all (P := fun d => d.canLay0 = true) (canLay_r _) (canLay_r _) (canLay_r _) rfl (canLay_r _) (canLay_map tabD (fun t => (canLay_tab t).1) r.tabs) rfl rfl (canLay_end o.fin).1 rfl)
  have h3 : (runD r).depth ≤ 64 := depth_tup (k := 63) (depth_id (parts r) (parts_all (P := fun d => d.depth ≤ 63) (Nat.le_trans (depth_r _) (by decide)) (Nat.le_trans (depth_r _) (by decide)) (Nat.le_trans (depth_r _) (by decide)) (Nat.zero_le _) (Nat.le_trans (depth_r _) (by decide)) (depth_tup (k := 62) (Nat.le_trans (depth_map tabD (fun t => (canLay_tab t).2) r.tabs) (by decide))) (Nat.zero_le _) (Nat.zero_le _) (Nat.le_trans (canLay_end o.fin).2 (by decide)) (Nat.zero_le _)))
  show ((repF (runD r)).map PyData.str).map RV.d = _
  have : repF (runD r) = some (runD r).shown := by
    unfold repF
    exact if_pos ⟨h1, PyData.hasDict_of_canLay _ h2, h3, by rw [sizeLine_is]; exact shl_run o⟩
  rw [this]; rfl
end K82
end

/-! text K82S20 -/
section
namespace K82
open Pv PySem L2
open TL (numL spl joinL par pre)
open SX (S)
open NumText (digitsVal AllDigits)
variable {n : Nat} {μ : Sto}
/-! what is read of lines -/
def tolds (r : Run) : List Told := [.num r.steps, .num r.place, .fin r.fin, .num r.clock, .num r.wr, .row r.regs, .row r.slots, .row r.ctrs, .row r.pkt]
def vAt (r : Run) (j : Nat) : Told := (tolds r).getD j (.num 0)
def lAt (r : Run) (j : Nat) : List Nat := (nine r).getD j []
theorem nine_told {r : Run} (o : RunOk r) (j : Nat) (hj : j < 9) : (nine r)[j]? = some (lAt r j) ∧ told (heads.getD j .fin) (lAt r j) = some (vAt r j) := by
  have b1 := o.place; have b2 := o.clock; have b3 := o.wr
  have s := small_len (steps_small o)
  have f : ∀ {v}, v ≤ 65535 → (numL v).length ≤ 400 := fun h => small_len (small_le h)
  rcases (by omega : j = 0 ∨ j = 1 ∨ j = 2 ∨ j = 3 ∨ j = 4 ∨ j = 5 ∨ j = 6 ∨ j = 7 ∨ j = 8) with rfl | rfl | rfl | rfl | rfl | rfl | rfl | rfl | rfl <;> refine ⟨rfl, ?_⟩
  · exact told_back (H := .num (T "steps") none) (v := .num r.steps) ⟨rfl, s⟩
  · exact told_back (H := .num (T "place") (some 120)) (v := .num r.place) ⟨decide_eq_true b1, f (by omega)⟩
  · exact told_back (H := .fin) (v := .fin r.fin) o.fin
  · exact told_back (H := .num (T "clock") (some 65535)) (v := .num r.clock) ⟨decide_eq_true b2, f (by omega)⟩
  · exact told_back (H := .num (T "writable") (some 1)) (v := .num r.wr) ⟨decide_eq_true b3, f (by omega)⟩
  · exact told_back (H := .row (T "registers") (some 8) 65535) (v := .row r.regs) ⟨decide_eq_true o.regs.1, o.regs.2, by decide, by rw [o.regs.1]; decide⟩
  · exact told_back (H := .row (T "slots") (some 16) 65535) (v := .row r.slots) ⟨decide_eq_true o.slots.1, o.slots.2, by decide, by rw [o.slots.1]; decide⟩
  · exact told_back (H := .row (T "counters") (some 4) 100) (v := .row r.ctrs) ⟨decide_eq_true o.ctrs.1, o.ctrs.2, by decide, by rw [o.ctrs.1]; decide⟩
  · exact told_back (H := .row (T "packet") none 255) (v := .row r.pkt) ⟨rfl, o.pkt.2, by decide, o.pkt.1⟩
theorem rdM_run {L : List (List Nat)} {V : Nat → Told} : ∀ (k i : Nat) (acc : List Told), (∀ j, i ≤ j → j < i + k → ∃ l, L[j]? = some l ∧ told (heads.getD j .fin) l = some (V j)) → rdM L k i acc = .inr (acc ++ (List.range' i k).map V)
  | 0, i, acc, _ => by simp [rdM]
  | k + 1, i, acc, h => by
    obtain ⟨l, h1, h2⟩ := h i (Nat.le_refl _) (by omega)
    unfold rdM
    rw [h1]
    dsimp only
    rw [h2]
    dsimp only
    rw [rdM_run k (i + 1) _ fun j h3 h4 => h j (by omega) (by omega), List.range'_succ]
    simp
theorem rdM_bad {L : List (List Nat)} {V : Nat → Told} {a : Nat} (ha : L[a]? = none ∨ ∃ l, L[a]? = some l ∧ told (heads.getD a .fin) l = none) : ∀ (k i : Nat) (acc : List Told), i ≤ a → a < i + k → (∀ j, i ≤ j → j < a → ∃ l, L[j]? = some l ∧ told (heads.getD j .fin) l = some (V j)) → rdM L k i acc = .inl a
  | 0, i, acc, h1, h2, _ => by omega
  | k + 1, i, acc, h1, h2, h => by
    unfold rdM
    by_cases q : i = a
    · subst q
      rcases ha with e | ⟨l, e, e2⟩
      · rw [e]
      · rw [e]
        dsimp only
        rw [e2]
    · obtain ⟨l, e1, e2⟩ := h i (Nat.le_refl _) (by omega)
      rw [e1]
      dsimp only
      rw [e2]
      dsimp only
      exact rdM_bad ha k (i + 1) _ (by omega) (by omega) fun j h3 h4 => h j (by omega) h4
theorem rdT_run : ∀ (ts : List Tab) (j : Nat) (acc : List Tab), (∀ t ∈ ts, tabOk t = true) → j + ts.length ≤ 6 → rdT (ts.map tabT) j acc = .inr (acc ++ ts)
  | [], j, acc, _, _ => by simp [rdT]
  | t :: ts, j, acc, h, hl => by
    rw [List.map_cons]
    unfold rdT
    simp only [List.length_cons] at hl
    rw [if_pos (by omega), tableIn_back (h t (by simp))]
    dsimp only
    rw [rdT_run ts (j + 1) _ (fun t ht => h t (List.mem_cons_of_mem _ ht)) (by omega)]
    simp
theorem rdT_bad {l : List Nat} {rest : List (List Nat)} : ∀ (ts : List Tab) (j : Nat) (acc : List Tab), (∀ t ∈ ts, tabOk t = true) → j + ts.length ≤ 6 → (tableIn l = none ∨ j + ts.length = 6) → rdT (ts.map tabT ++ l :: rest) j acc = .inl (9 + (j + ts.length))
  | [], j, acc, _, hl, hb => by
    show rdT (l :: rest) j acc = _
    unfold rdT
    rcases hb with hb | hb
    · rw [hb]; split <;> rfl
    · simp only [List.length_nil] at hb ⊢
      rw [if_neg (by omega)]; rfl
  | t :: ts, j, acc, h, hl, hb => by
    rw [List.map_cons, List.cons_append]
    unfold rdT
    simp only [List.length_cons] at hl hb ⊢
    rw [if_pos (by omega), tableIn_back (h t (by simp))]
    dsimp only
    rw [rdT_bad ts (j + 1) _ (fun t ht => h t (List.mem_cons_of_mem _ ht)) (by omega) (hb.imp id fun h => by omega)]
    congr 1; omega
theorem range_vAt (r : Run) : (List.range' 0 9).map (vAt r) = tolds r := rfl
theorem get_nine {r : Run} {M : List (List Nat)} {j : Nat} (hj : j < 9) : (nine r ++ M)[j]? = (nine r)[j]? := List.getElem?_append_left (by exact hj)
theorem drop_nine {r : Run} {M : List (List Nat)} : (nine r ++ M).drop 9 = M := List.drop_left' rfl
theorem good_nine {r : Run} (o : RunOk r) (M : List (List Nat)) : rdM (nine r ++ M) 9 0 [] = .inr (tolds r) := by
  have := rdM_run (L := nine r ++ M) (V := vAt r) 9 0 [] fun j _ h => by
    obtain ⟨h1, h2⟩ := nine_told o j (by omega)
    exact ⟨_, by rw [get_nine (by omega)]; exact h1, h2⟩
  rw [range_vAt] at this
  simpa using this
theorem read_good {r : Run} (o : RunOk r) : readL (linesT r) = .ok (tolds r) r.tabs := by
  have hd : (linesT r).drop 9 = r.tabs.map tabT := drop_nine
  unfold readL
  rw [show linesT r = nine r ++ r.tabs.map tabT from rfl, good_nine o]
  dsimp only
  rw [drop_nine, rdT_run r.tabs 0 [] o.tabs.2 (by have := o.tabs.1; omega)]
  rfl
theorem readD_good (r : Run) : readD (.ok (tolds r) r.tabs) = .tuple [.list [], runD r] := rfl
/-- a bad line among the nine -/
theorem read_head {r : Run} (o : RunOk r) {a : Nat} (ha : a < 9) {b : List Nat} (hb : told (heads.getD a .fin) b = none) (M : List (List Nat)) : readL ((linesT r).take a ++ b :: M) = .bad a := by
  have e : (linesT r).take a = (nine r).take a := by
    unfold linesT
    rw [List.take_append_of_le_length (by exact Nat.le_of_lt ha)]
  have hl : ((nine r).take a).length = a := by rw [List.length_take]; exact Nat.min_eq_left (Nat.le_of_lt ha)
  unfold readL
  rw [e, rdM_bad (V := vAt r) (a := a) (.inr ⟨b, by rw [List.getElem?_append_right (by omega), hl]; simp, hb⟩) 9 0 [] (by omega) (by omega) fun j _ h => by
    obtain ⟨h1, h2⟩ := nine_told o j (by omega)
    exact ⟨_, by rw [List.getElem?_append_left (by omega), List.getElem?_take_of_lt h]; exact h1, h2⟩]
/-- the lines end among the nine -/
theorem read_short {r : Run} (o : RunOk r) {a : Nat} (ha : a < 9) : readL ((linesT r).take a) = .bad a := by
  have e : (linesT r).take a = (nine r).take a := by
    unfold linesT
    rw [List.take_append_of_le_length (by exact Nat.le_of_lt ha)]
  have hl : ((nine r).take a).length = a := by rw [List.length_take]; exact Nat.min_eq_left (Nat.le_of_lt ha)
  unfold readL
  rw [e, rdM_bad (V := vAt r) (a := a) (.inl (List.getElem?_eq_none (by omega))) 9 0 [] (by omega) (by omega) fun j _ h => by
    obtain ⟨h1, h2⟩ := nine_told o j (by omega)
    exact ⟨_, by rw [List.getElem?_take_of_lt h]; exact h1, h2⟩]
/-- a bad line behind the nine -/
theorem read_tab {r : Run} (o : RunOk r) {ts : List Tab} (hts : ∀ t ∈ ts, tabOk t = true) (h6 : ts.length ≤ 6) {b : List Nat} (hb : tableIn b = none ∨ ts.length = 6) (M : List (List Nat)) : readL (nine r ++ (ts.map tabT ++ b :: M)) = .bad (9 + ts.length) := by
  unfold readL
  rw [good_nine o]
  dsimp only
  rw [drop_nine, rdT_bad ts 0 [] hts (by omega) (by simpa using hb)]
  simp
/-! no line feed -/
theorem nl_num (k : Nat) : 10 ∉ numL k := TL.numL_free (by omega)
theorem nl_word (p : Nat × Nat) : 10 ∉ word p := by
  unfold word
  split
  · exact nl_num _
  · intro h
    rcases List.mem_append.mp h with h | h
    · exact nl_num _ h
    · rcases List.mem_cons.mp h with h | h
      · cases h
      · exact nl_num _ h
theorem nl_join : ∀ ws : List (List Nat), (∀ w ∈ ws, 10 ∉ w) → 10 ∉ joinL [32] ws
  | [], _ => by simp [joinL]
  | [w], h => h w (by simp)
  | w :: x :: t, h => by
    have ih := nl_join (x :: t) fun w hw => h w (List.mem_cons_of_mem _ hw)
    have h1 := h w (by simp)
    simp only [joinL, List.mem_append, List.mem_cons, List.not_mem_nil, or_false, not_or]
    first | exact ⟨⟨h1, by omega⟩, ih⟩ | exact ⟨h1, by omega, ih⟩
theorem nl_line {h ns : List Nat} (hh : 10 ∉ h) : 10 ∉ lineT h ns := by
  have : 10 ∉ rowT ns := nl_join _ fun w hw => by
    obtain ⟨p, _, rfl⟩ := List.mem_map.mp hw
    exact nl_word p
  unfold lineT
  split
  · exact hh
  · simp only [List.mem_append, List.mem_cons, not_or]
    exact ⟨hh, by omega, this⟩
theorem nl_end {e : End} (h : endOk e) : 10 ∉ endT e := by
  cases e with
  | none => decide +kernel
  | ans v =>
    have a : 10 ∉ T "end answer " := by decide +kernel
    show 10 ∉ T "end answer " ++ numL v
    rw [List.mem_append, not_or]
    exact ⟨a, nl_num v⟩
  | fault k =>
    have h : k ∈ kinds := h
    have a : ∀ k ∈ kinds, 10 ∉ T "end fault " ++ k := by decide +kernel
    exact a k h
theorem nl_head {s : List Nat} (hs : 10 ∉ s) (m : Nat) : 10 ∉ headT s m := by
  have := nl_num m
  unfold headT
  simp only [List.mem_append, List.mem_cons, List.not_mem_nil, or_false, not_or]
  exact ⟨hs, by omega, this, by omega⟩
theorem nl_tab (t : Tab) : 10 ∉ tabT t := by
  cases t with
  | arr m ns => exact nl_line (nl_head (by decide +kernel) m)
  | prs m ps => exact nl_line (nl_head (by decide +kernel) m)
theorem nl_nine {r : Run} (o : RunOk r) : ∀ l ∈ nine r, 10 ∉ l := by
  intro l hl
  simp only [nine, List.mem_cons, List.not_mem_nil, or_false] at hl
  rcases hl with rfl | rfl | rfl | rfl | rfl | rfl | rfl | rfl | rfl
  · exact nl_line (by decide +kernel)
  · exact nl_line (by decide +kernel)
  · exact nl_end o.fin
  · exact nl_line (by decide +kernel)
  · exact nl_line (by decide +kernel)
  · exact nl_line (by decide +kernel)
  · exact nl_line (by decide +kernel)
  · exact nl_line (by decide +kernel)
  · exact nl_line (by decide +kernel)
theorem nl_lines {r : Run} (o : RunOk r) : ∀ l ∈ linesT r, 10 ∉ l := by
  intro l hl
  rcases List.mem_append.mp hl with hl | hl
  · exact nl_nine o l hl
  · obtain ⟨t, ht, rfl⟩ := List.mem_map.mp hl
    exact nl_tab t
end K82
end

/-! text K82S21 -/
section
namespace K82
open Pv PySem L2
open TL (numL spl joinL par pre)
open SX (S)
open NumText (digitsVal AllDigits)
variable {n : Nat} {μ : Sto}
theorem t26 (h : 10 ≤ n) {r : Run} (o : RunOk r) : callF tab n 26 [.d (runD r)] μ = .ok (.d (.str (S (textT (linesT r))))) μ := by
  obtain ⟨m, rfl⟩ : ∃ m, n = m + 1 := ⟨n - 1, by omega⟩
  rw [callF_step (fn := f26) rfl rfl]
  simp [f26, startR, t11 (n := m) (μ := μ) (by omega) o, t19 (n := m) (μ := μ) (by omega) o]
/-- lines that can be joined and split -/
structure Lines (L : List (List Nat)) : Prop where
  ne : L ≠ []
  nl : ∀ l ∈ L, 10 ∉ l
  len : ∀ l ∈ L, l.length ≤ 1000000
  many : L.length ≤ 16
  sz : (textT L).length ≤ 16000000
theorem Lines.spl {L : List (List Nat)} (h : Lines L) : spl [10] 0 [] (textT L) = L := TL.spl_join h.ne h.nl
theorem text_len {L : List (List Nat)} (h1 : ∀ l ∈ L, l.length ≤ 520000) (h2 : L.length ≤ 16) : (textT L).length ≤ 16000000 := by
  have a := joinLen [10] L
  have b := sum_le (l := L.map List.length) (k := 520000) fun v hv => by
    obtain ⟨l, hl, rfl⟩ := List.mem_map.mp hv
    exact h1 l hl
  simp only [List.length_map, List.length_cons, List.length_nil] at a b
  show (joinL [10] L).length ≤ _
  omega
theorem Lines.mk' {L : List (List Nat)} (ne : L ≠ []) (nl : ∀ l ∈ L, 10 ∉ l) (len : ∀ l ∈ L, l.length ≤ 520000) (many : L.length ≤ 16) : Lines L :=
  ⟨ne, nl, fun l hl => Nat.le_trans (len l hl) (by decide), many, text_len len many⟩
theorem t27g (h : 8 ≤ n) {r : Run} (o : RunOk r) (hL : Lines (linesT r)) : callF tab n 27 [.d (.str (S (textT (linesT r))))] μ = .ok (.d (runD r)) μ := by
  obtain ⟨m, rfl⟩ : ∃ m, n = m + 1 := ⟨n - 1, by omega⟩
  rw [callF_step (fn := f27) rfl rfl]
  have c := t25 (n := m) (μ := μ) (by omega) hL.sz hL.spl hL.len
  rw [read_good o, readD_good] at c
  simp [f27, startR, c, ne_nil]
theorem t27b (h : 8 ≤ n) {L : List (List Nat)} (hL : Lines L) {i : Nat} (hb : readL L = .bad i) : callF tab n 27 [.d (.str (S (textT L)))] μ = .ex 1 [("line", .d (nD i))] μ := by
  obtain ⟨m, rfl⟩ : ∃ m, n = m + 1 := ⟨n - 1, by omega⟩
  rw [callF_step (fn := f27) rfl rfl]
  have c := t25 (n := m) (μ := μ) (by omega) hL.sz hL.spl hL.len
  rw [hb] at c
  simp only [readD] at c
  simp [f27, startR, c, ne_n]
theorem t27e (h : 8 ≤ n) (hL : readL [[]] = .bad 0) : callF tab n 27 [.d (.str (S []))] μ = .ex 1 [("line", .d (nD 0))] μ := by
  obtain ⟨m, rfl⟩ : ∃ m, n = m + 1 := ⟨n - 1, by omega⟩
  rw [callF_step (fn := f27) rfl rfl]
  have c := t25 (n := m) (μ := μ) (t := []) (L := [[]]) (by omega) (by simp) (by decide) (by simp)
  rw [hL] at c
  simp only [readD] at c
  have e := ne_n 0
  simp [f27, startR, c] at e ⊢
  simp [e]
theorem t27o (h : 1 ≤ n) {x : PyData} (hx : isTy .str x = some false) : callF tab n 27 [.d x] μ = .ex 1 [("line", .d .none)] μ := by
  obtain ⟨m, rfl⟩ : ∃ m, n = m + 1 := ⟨n - 1, by omega⟩
  rw [callF_step (fn := f27) rfl rfl]
  simp [f27, startR, hx]
theorem rep_nat {k : Nat} (h : small k) : biF .repr [.d (nD k)] = some (.d (.str (S (numL k)))) := by
  show ((repF (nD k)).map PyData.str).map RV.d = _
  have e : (nD k).shown = S (numL k) := by
    show Str.ofString (toString (k : Int)) = _
    exact SX.num_S k
  have : repF (nD k) = some (S (numL k)) := by
    unfold repF
    rw [e]
    exact if_pos ⟨show_n h, rfl, Nat.zero_le _, by rw [sN, sizeLine_is]; have := small_len h; omega⟩
  rw [this]; rfl
theorem rep_none : biF .repr [.d .none] = some (.d (.str "None")) := rfl
theorem t36x {m : Nat} {x d : PyData} {s : Str} (h27 : callF tab m 27 [.d x] μ = .ex 1 [("line", .d d)] μ) (hr : biF .repr [.d d] = some (.d (.str s))) : callF tab (m + 1) 36 [.d x, .d d] μ = .ok (.d (.bool true)) μ := by
  rw [callF_step (fn := f36) rfl rfl]
  have e : ((([some (Slot.val (.d x)), some (.val (.d d)), none] : REnv)).length) = 3 := rfl
  simp [f36, startR, noExc, h27, tryE, noOwn, List.lookup, hr, noEx]
theorem t36b (h : 9 ≤ n) {L : List (List Nat)} (hL : Lines L) {i : Nat} (hi : i ≤ 100) (hb : readL L = .bad i) : callF tab n 36 [.d (.str (S (textT L))), .d (nD i)] μ = .ok (.d (.bool true)) μ := by
  obtain ⟨m, rfl⟩ : ∃ m, n = m + 1 := ⟨n - 1, by omega⟩
  exact t36x (t27b (by omega) hL hb) (rep_nat (small_le (by omega)))
theorem t36e (h : 9 ≤ n) : callF tab n 36 [.d (.str (S [])), .d (nD 0)] μ = .ok (.d (.bool true)) μ := by
  obtain ⟨m, rfl⟩ : ∃ m, n = m + 1 := ⟨n - 1, by omega⟩
  exact t36x (t27e (by omega) (by
    have : told (heads.getD 0 .fin) [] = none := by decide +kernel
    unfold readL rdM
    simp only [List.getElem?_cons_zero, this])) (rep_nat (small_le (by omega)))
theorem t36o (h : 2 ≤ n) {x : PyData} (hx : isTy .str x = some false) : callF tab n 36 [.d x, .d .none] μ = .ok (.d (.bool true)) μ := by
  obtain ⟨m, rfl⟩ : ∃ m, n = m + 1 := ⟨n - 1, by omega⟩
  exact t36x (t27o (by omega) hx) rep_none
theorem lines_ok {r : Run} (o : RunOk r) : Lines (linesT r) :=
  Lines.mk' (by simp [linesT, nine]) (nl_lines o) (fun l hl => Nat.le_trans (lines_len o l hl) (by decide)) (Nat.le_trans (lines_many o) (by decide))
end K82
end

/-! text K82S22 -/
section
namespace K82
open Pv PySem L2
open TL (numL spl joinL par pre)
open SX (S)
open NumText (digitsVal AllDigits)
variable {n : Nat} {μ : Sto}
theorem str_bi {k : Nat} (h : small k) : biF .str [.d (nD k)] = some (.d (.str (S (numL k)))) := by
  show ((strOf (.int (k : Int))).map PyData.str).map RV.d = _
  rw [str_nat (small_log h)]; rfl
abbrev t34i : E := .and (.cmp .lt (.bin .add (.var 3) (.var 4)) (.bi .len [.var 1])) (.cmp .eq (.idx (.var 1) (.bin .add (.var 3) (.var 4))) (.idx (.var 1) (.var 3)))
theorem w34i (c : CallF) {ns : List Nat} {x a : Nat} {x0 own : Option Slot} (hx : ns[a]? = some x) : ∀ (L : List Nat) (k fuel : Nat), ns.drop (a + k) = L → L.length < fuel → a + k ≤ ns.length →
    wh c t34i [.asg (.nm 4) (.bin .add (.var 4) (.con (.int 1)))] fuel [x0, some (.val (.d (rD ns))), own, some (.val (.d (.int a))), some (.val (.d (.int (k : Int))))] μ =
      .ok (.next [x0, some (.val (.d (rD ns))), own, some (.val (.d (.int a))), some (.val (.d (.int ((k + lead x L : Nat) : Int))))]) μ
  | [], k, 0, _, hf, _ => by simp at hf
  | [], k, f + 1, h, hf, hi => by
    have := drop_nil h
    rw [wh_no (μ1 := μ)]
    · simp [lead]
    · have e : ¬ (a : Int) + k < ns.length := by omega
      simp [e]
  | y :: L, k, 0, _, hf, _ => by simp at hf
  | y :: L, k, f + 1, h, hf, hi => by
    obtain ⟨h1, h2, h3⟩ := drop_cons h
    have e : (a : Int) + k < ns.length := by omega
    have e2 : (a : Int) + (k : Int) = ((a + k : Nat) : Int) := by omega
    by_cases q : y = x
    · rw [wh_yes (μ1 := μ)]
      · have ih := w34i c (x0 := x0) (own := own) hx L (k + 1) f h2 (by simp at hf; omega) (by omega)
        simp at ih ⊢
        rw [ih]
        simp [lead, q]; omega
      · have i1 := idx_r (ns := ns) (a + k)
        rw [h1, ← e2] at i1
        simp [e, i1, idx_r, hx, q]
    · rw [wh_no (μ1 := μ)]
      · simp [lead, q]
      · have q' : ((y : Int) == (x : Int)) = false := by simp; omega
        have i1 := idx_r (ns := ns) (a + k)
        rw [h1, ← e2] at i1
        simp [e, i1, idx_r, hx, q']
abbrev t34b : List Pv.S := [.asg (.nm 4) (.con (.int 1)), .whiles t34i [.asg (.nm 4) (.bin .add (.var 4) (.con (.int 1)))], .app 2 (.ite (.cmp .eq (.var 4) (.con (.int 1))) (.bi .str [.idx (.var 1) (.var 3)]) (.bin .add (.bin .add (.bi .str [.var 4]) (.con (.str "*"))) (.bi .str [.idx (.var 1) (.var 3)]))), .asg (.nm 3) (.bin .add (.var 3) (.var 4))]
theorem b34 (c : CallF) {ns : List Nat} (hl : ns.length ≤ 256) (hs : ∀ v ∈ ns, small v) {a x : Nat} {r : List Nat} (h : ns.drop a = x :: r) {ws : List (List Nat)} (hw : ws.length ≤ a + 1) {x0 e4 : Option Slot} :
    exSs c t34b [x0, some (.val (.d (rD ns))), some (.own (wsR ws)), some (.val (.d (.int (a : Int)))), e4] μ =
      .ok (.next [x0, some (.val (.d (rD ns))), some (.own (wsR (ws ++ [word (lead x r + 1, x)]))), some (.val (.d (.int ((a + (lead x r + 1) : Nat) : Int)))), some (.val (.d (.int ((lead x r + 1 : Nat) : Int))))]) μ := by
  obtain ⟨h1, h2, h3⟩ := drop_cons h
  have hx : small x := hs x (List.mem_of_getElem? h1)
  have hle := lead_le x r
  have hlr : r.length ≤ 256 := by rw [← h2]; simp; omega
  have w := w34i (μ := μ) c (x0 := x0) (own := some (.own (wsR ws))) h1 r 1 whileMost h2 (by rw [whileMost_is]; omega) (by omega)
  have hk : small (lead x r + 1) := small_le (by omega)
  have f1 := str_bi hx
  have f2 := str_bi hk
  have l1 := small_len hx
  have l2 := small_len hk
  have l3 : ws.length < 16777216 := by omega
  have s1 : exS c (.asg (.nm 4) (.con (.int 1))) [x0, some (.val (.d (rD ns))), some (.own (wsR ws)), some (.val (.d (.int (a : Int)))), e4] μ = .ok (.next [x0, some (.val (.d (rD ns))), some (.own (wsR ws)), some (.val (.d (.int (a : Int)))), some (.val (.d (.int ((1 : Nat) : Int))))]) μ := by simp
  refine (xs_next s1).trans ?_
  refine (xs_next (by rw [x_wh]; exact w)).trans ?_
  rw [show 1 + lead x r = lead x r + 1 from Nat.add_comm _ _]
  have ev : evE c [x0, some (.val (.d (rD ns))), some (.own (wsR ws)), some (.val (.d (.int (a : Int)))), some (.val (.d (.int ((lead x r + 1 : Nat) : Int))))] (.ite (.cmp .eq (.var 4) (.con (.int 1))) (.bi .str [.idx (.var 1) (.var 3)]) (.bin .add (.bin .add (.bi .str [.var 4]) (.con (.str "*"))) (.bi .str [.idx (.var 1) (.var 3)]))) μ = .ok (.d (.str (S (word (lead x r + 1, x))))) μ := by
    have b1 : binF .add (.str (S (numL (lead x r + 1)))) (.str (S [42])) = some (.str (S (numL (lead x r + 1) ++ [42]))) := by
      rw [add_str (by simp [sN]; omega), SX.S_cat]
    have b2 : binF .add (.str (S (numL (lead x r + 1) ++ [42]))) (.str (S (numL x))) = some (.str (S (numL (lead x r + 1) ++ 42 :: numL x))) := by
      rw [add_str (by simp [sN]; omega), SX.S_cat]; simp
    by_cases q : lead x r = 0
    · simp only [q, Nat.zero_add] at *
      simp [idx_r, h1, f1, word]
    · have q3 : (((lead x r : Nat) : Int) + 1 == 1) = false := by simp; omega
      have f2 : biF .str [.d (.int ((lead x r : Int) + 1))] = some (.d (.str (S (numL (lead x r + 1))))) := f2
      simp [idx_r, h1, f1, f2, word, q, q3, star_S, b1, b2]
  have s3 : exS c (.app 2 (.ite (.cmp .eq (.var 4) (.con (.int 1))) (.bi .str [.idx (.var 1) (.var 3)]) (.bin .add (.bin .add (.bi .str [.var 4]) (.con (.str "*"))) (.bi .str [.idx (.var 1) (.var 3)])))) [x0, some (.val (.d (rD ns))), some (.own (wsR ws)), some (.val (.d (.int (a : Int)))), some (.val (.d (.int ((lead x r + 1 : Nat) : Int))))] μ = .ok (.next [x0, some (.val (.d (rD ns))), some (.own (wsR (ws ++ [word (lead x r + 1, x)]))), some (.val (.d (.int (a : Int)))), some (.val (.d (.int ((lead x r + 1 : Nat) : Int))))]) μ := by
    rw [x_app]
    simp only [List.getElem?_cons_succ, List.getElem?_cons_zero]
    rw [ev, R.bind_ok]
    simp [wsR, l3]
  refine (xs_next s3).trans ?_
  simp
theorem w34 (c : CallF) {ns : List Nat} (hl : ns.length ≤ 256) (hs : ∀ v ∈ ns, small v) {x0 : Option Slot} : ∀ (fuel : Nat) (R : List Nat) (a : Nat) (ws : List (List Nat)) (e3 : Option Slot), ns.drop a = R → R.length < fuel → a ≤ ns.length → ws.length ≤ a + 1 → ∃ e4,
    wh c (.cmp .lt (.var 3) (.bi .len [.var 1])) t34b fuel [x0, some (.val (.d (rD ns))), some (.own (wsR ws)), some (.val (.d (.int (a : Int)))), e3] μ =
      .ok (.next [x0, some (.val (.d (rD ns))), some (.own (wsR (ws ++ (grp R).map word))), some (.val (.d (.int (ns.length : Int)))), e4]) μ
  | 0, _, _, _, _, _, hf, _, _ => by omega
  | f + 1, [], a, ws, e3, h, hf, hi, hw => by
    have := drop_nil h
    have e : a = ns.length := by omega
    subst e
    refine ⟨e3, ?_⟩
    rw [wh_no (μ1 := μ)]
    · simp [grp]
    · simp
  | f + 1, x :: r, a, ws, e3, h, hf, hi, hw => by
    obtain ⟨h1, h2, h3⟩ := drop_cons h
    have hle := lead_le x r
    have hlr : a + 1 + r.length = ns.length := by rw [← h2]; simp; omega
    obtain ⟨e4, ih⟩ := w34 c hl hs (x0 := x0) f (r.drop (lead x r)) (a + (lead x r + 1)) (ws ++ [word (lead x r + 1, x)]) (some (.val (.d (.int ((lead x r + 1 : Nat) : Int))))) (by
      have : ∀ k, ns.drop (a + (k + 1)) = r.drop k := fun k => by rw [← h2, List.drop_drop]; congr 1; omega
      exact this _) (by simp at hf ⊢; omega) (by omega) (by simp; omega)
    refine ⟨e4, ?_⟩
    have e : (a : Int) < ns.length := by omega
    rw [wh_yes (μ1 := μ)]
    · rw [b34 c hl hs h hw, R.bind_ok]
      simp only
      rw [ih, grp_lead]
      simp
    · simp [e]
theorem join_line (h ns : List Nat) : joinL [32] (h :: (grp ns).map word) = lineT h ns := by
  unfold lineT rowT
  by_cases q : ns = []
  · subst q; rfl
  · rw [if_neg q]
    have := grp_ne q
    cases g : grp ns with
    | nil => exact absurd g this
    | cons p t => simp [joinL]
theorem t34 (h : 1 ≤ n) {ns hd : List Nat} (hl : ns.length ≤ 256) (hs : ∀ v ∈ ns, small v) (hh : hd.length ≤ 100) : callF tab n 34 [.d (.str (S hd)), .d (rD ns)] μ = .ok (.d (.str (S (lineT hd ns)))) μ := by
  obtain ⟨m, rfl⟩ : ∃ m, n = m + 1 := ⟨n - 1, by omega⟩
  refine call_ret (fs := tab) (f := 34) (fn := f34) (vs := [.d (.str (S hd)), .d (rD ns)]) (n := m) rfl rfl ?_
  obtain ⟨e4, w⟩ := w34 (μ := μ) (callF tab m) hl hs (x0 := some (.val (.d (.str (S hd))))) whileMost ns 0 [hd] none rfl (by rw [whileMost_is]; omega) (by omega) (by simp)
  have s0 : exS (callF tab m) (.par [2, 3] [.lst [.var 0], .val (.con (.int 0))]) (startR f34.N.length [.d (.str (S hd)), .d (rD ns)]) μ = .ok (.next [some (.val (.d (.str (S hd)))), some (.val (.d (rD ns))), some (.own (wsR [hd])), some (.val (.d (.int ((0 : Nat) : Int)))), none]) μ := by
    simp [f34, startR, setAll, wsR]
  refine (xs_next s0).trans ?_
  refine (xs_next (by rw [x_wh]; exact w)).trans ?_
  have j := join_bi (sep := [32]) (ws := hd :: (grp ns).map word) (by
    have h1 := words_sum hl hs
    have h2 := grp_le ns
    simp only [List.length_map, List.length_cons, List.length_nil, List.map_cons, List.sum_cons] at h1 ⊢
    omega)
  rw [join_line] at j
  have a := allBy_wsR (hd :: (grp ns).map word)
  rw [show [hd] ++ (grp ns).map word = hd :: (grp ns).map word from rfl]
  generalize hd :: (grp ns).map word = W at j a ⊢
  simp [a, blank_S, j]
end K82
end

/-! text K82S23 -/
section
namespace K82
open Pv PySem L2
open TL (numL spl joinL par pre)
open SX (S)
open NumText (digitsVal AllDigits)
variable {n : Nat} {μ : Sto}
theorem flatP_app : ∀ a b : List (Nat × Nat), flatP (a ++ b) = flatP a ++ flatP b
  | [], b => rfl
  | (x, y) :: a, b => by simp [flatP, flatP_app a b]
abbrev b35p : List Pv.S := [.asg (.nm 6) (.bin .add (.var 6) (.tup [.var 7, .var 8]))]
theorem fo35p (c : CallF) {x0 x1 x2 x3 x4 x5 : Option Slot} : ∀ (ps : List (Nat × Nat)) (acc : List Nat) (x7 x8 : Option Slot), acc.length + 2 * ps.length ≤ 1000 → ∃ y7 y8,
    fo c (.tup [(.nm 7), (.nm 8)]) b35p (ps.map fun p => .one (.d (rD [p.1, p.2]))) [x0, x1, x2, x3, x4, x5, some (.val (.d (rD acc))), x7, x8] μ =
      .ok (.next [x0, x1, x2, x3, x4, x5, some (.val (.d (rD (acc ++ flatP ps)))), y7, y8]) μ
  | [], acc, x7, x8, _ => ⟨x7, x8, by simp [fo_nil, flatP]⟩
  | (a, b) :: ps, acc, x7, x8, h => by
    simp only [List.length_cons] at h
    obtain ⟨y7, y8, ih⟩ := fo35p c (x0 := x0) (x1 := x1) (x2 := x2) (x3 := x3) (x4 := x4) (x5 := x5) ps (acc ++ [a, b]) (some (.val (.d (nD a)))) (some (.val (.d (nD b)))) (by simp; omega)
    refine ⟨y7, y8, ?_⟩
    have e : binF .add (rD acc) (.tuple [nD a, nD b]) = some (rD (acc ++ [a, b])) := by
      show binF .add (.tuple (acc.map nD)) (.tuple ([a, b].map nD)) = _
      rw [add_tup (by simp; omega), ← List.map_append]; rfl
    have bd : exSs c b35p [x0, x1, x2, x3, x4, x5, some (.val (.d (rD acc))), some (.val (.d (nD a))), some (.val (.d (nD b)))] μ = .ok (.next [x0, x1, x2, x3, x4, x5, some (.val (.d (rD (acc ++ [a, b])))), some (.val (.d (nD a))), some (.val (.d (nD b)))]) μ := by
      simp [e]
    have ai : asgI (.tup [(.nm 7), (.nm 8)]) (.one (.d (rD [a, b]))) [x0, x1, x2, x3, x4, x5, some (.val (.d (rD acc))), x7, x8] = some [x0, x1, x2, x3, x4, x5, some (.val (.d (rD acc))), some (.val (.d (nD a))), some (.val (.d (nD b)))] := rfl
    rw [List.map_cons, fo_cons, ai]
    dsimp only
    rw [bd, R.bind_ok]
    dsimp only
    rw [ih]
    simp [flatP]
abbrev b35 : List Pv.S := [.asg (.nm 6) (.var 5), .ifs (.cmp .eq (.var 3) (.con (.str "pairs"))) [.asg (.nm 6) (.tup []), .fors (.tup [(.nm 7), (.nm 8)]) (.seq (.var 5)) b35p] [], .app 2 (.call 34 [.bin .add (.bin .add (.bin .add (.var 3) (.con (.str " "))) (.bi .str [.var 4])) (.con (.str ":")), .var 6])]
theorem ahead35 (c : CallF) {ρ : REnv} {s : List Nat} (hs : s.length = 5) {mv : Nat} (hm : mv ≤ 1) (h3 : ρ[3]? = some (some (.val (.d (.str (S s)))))) (h4 : ρ[4]? = some (some (.val (.d (nD mv))))) :
    evE c ρ (.bin .add (.bin .add (.bin .add (.var 3) (.con (.str " "))) (.bi .str [.var 4])) (.con (.str ":"))) μ = .ok (.d (.str (S (headT s mv)))) μ := by
  have l := num1 hm
  have f := str_bi (small_le (v := mv) (by omega))
  have b1 : binF .add (.str (S s)) (.str (S [32])) = some (.str (S (s ++ [32]))) := by rw [add_str (by simp [sN]; omega), SX.S_cat]
  have b2 : binF .add (.str (S (s ++ [32]))) (.str (S (numL mv))) = some (.str (S (s ++ [32] ++ numL mv))) := by rw [add_str (by simp [sN]; omega), SX.S_cat]
  have b3 : binF .add (.str (S (s ++ [32] ++ numL mv))) (.str (S [58])) = some (.str (S (headT s mv))) := by
    rw [add_str (by simp [sN]; omega), SX.S_cat]; simp [headT]
  simp only [ev_bin, ev_var, h3, h4, ev_con, ev_bi, evs_cons, evs_nil, R.bind_ok, two_d, blank_S, colon_S, b1, Option.map_some, lift_some, f, b2, b3]
def tS : Tab → PyData
  | .arr _ _ => .str "array"
  | .prs _ _ => .str "pairs"
def tM : Tab → PyData
  | .arr k _ => nD k
  | .prs k _ => nD k
def tR : Tab → PyData
  | .arr _ ns => rD ns
  | .prs _ ps => pD ps
theorem b35_ok {m : Nat} (hm : 1 ≤ m) {t : Tab} (ht : tabOk t = true) {ws : List (List Nat)} (hw : ws.length ≤ 100) {x0 x1 x6 x7 x8 : Option Slot} : ∃ y6 y7 y8,
    exSs (callF tab m) b35 [x0, x1, some (.own (wsR ws)), some (.val (.d (tS t))), some (.val (.d (tM t))), some (.val (.d (tR t))), x6, x7, x8] μ =
      .ok (.next [x0, x1, some (.own (wsR (ws ++ [tabT t]))), some (.val (.d (tS t))), some (.val (.d (tM t))), some (.val (.d (tR t))), y6, y7, y8]) μ := by
  have e1 : ((("array" : Str) == "pairs") : Bool) = false := by decide +kernel
  have hw2 : ws.length < 16777216 := by omega
  cases t with
  | arr k ns =>
    simp only [tabOk, Bool.and_eq_true, decide_eq_true_eq, List.all_eq_true] at ht
    obtain ⟨⟨⟨h1, h2⟩, h3⟩, h4⟩ := ht
    refine ⟨some (.val (.d (rD ns))), x7, x8, ?_⟩
    simp only [tS, tM, tR]
    have c := t34 (n := m) (μ := μ) hm (ns := ns) (by omega) (fun v hv => small_le (h4 v hv)) (hd := headT (T "array") k) (by rw [head_len (by decide +kernel) h1]; decide)
    have a := ahead35 (μ := μ) (callF tab m) (ρ := [x0, x1, some (.own (wsR ws)), some (.val (.d (.str "array"))), some (.val (.d (nD k))), some (.val (.d (rD ns))), some (.val (.d (rD ns))), x7, x8]) (s := T "array") (by decide +kernel) h1 (by rw [T_S]; rfl) rfl
    refine (xs_next (ρ1 := [x0, x1, some (.own (wsR ws)), some (.val (.d (.str "array"))), some (.val (.d (nD k))), some (.val (.d (rD ns))), some (.val (.d (rD ns))), x7, x8]) (μ1 := μ) (by simp)).trans ?_
    refine (xs_next (ρ1 := [x0, x1, some (.own (wsR ws)), some (.val (.d (.str "array"))), some (.val (.d (nD k))), some (.val (.d (rD ns))), some (.val (.d (rD ns))), x7, x8]) (μ1 := μ) (by simp [e1])).trans ?_
    rw [xs_cons, x_app]
    simp only [List.getElem?_cons_succ, List.getElem?_cons_zero, ev_call, evs_cons, evs_nil, a, R.bind_ok, ev_var, c]
    simp [wsR, hw2, tabT]
  | prs k ps =>
    simp only [tabOk, Bool.and_eq_true, decide_eq_true_eq] at ht
    obtain ⟨⟨⟨h1, h2⟩, h3⟩, h4⟩ := ht
    have fl := flatP_len ps
    obtain ⟨y7, y8, f⟩ := fo35p (μ := μ) (callF tab m) (x0 := x0) (x1 := x1) (x2 := some (.own (wsR ws))) (x3 := some (.val (.d (.str "pairs")))) (x4 := some (.val (.d (nD k)))) (x5 := some (.val (.d (pD ps)))) ps [] x7 x8 (by simp; omega)
    refine ⟨some (.val (.d (rD (flatP ps)))), y7, y8, ?_⟩
    simp only [tS, tM, tR]
    have c := t34 (n := m) (μ := μ) hm (ns := flatP ps) (by omega) (fun v hv => small_le (flatP_all ps h3 v hv)) (hd := headT (T "pairs") k) (by rw [head_len (by decide +kernel) h1]; decide)
    have a := ahead35 (μ := μ) (callF tab m) (ρ := [x0, x1, some (.own (wsR ws)), some (.val (.d (.str "pairs"))), some (.val (.d (nD k))), some (.val (.d (pD ps))), some (.val (.d (rD (flatP ps)))), y7, y8]) (s := T "pairs") (by decide +kernel) h1 (by rw [T_S]; rfl) rfl
    have sq : seqItems (pD ps) = some (ps.map fun (p : Nat × Nat) => rD [p.1, p.2]) := rfl
    refine (xs_next (ρ1 := [x0, x1, some (.own (wsR ws)), some (.val (.d (.str "pairs"))), some (.val (.d (nD k))), some (.val (.d (pD ps))), some (.val (.d (pD ps))), x7, x8]) (μ1 := μ) (by simp)).trans ?_
    have iff1 : exS (callF tab m) (.ifs (.cmp .eq (.var 3) (.con (.str "pairs"))) [.asg (.nm 6) (.tup []), .fors (.tup [(.nm 7), (.nm 8)]) (.seq (.var 5)) b35p] []) [x0, x1, some (.own (wsR ws)), some (.val (.d (.str "pairs"))), some (.val (.d (nD k))), some (.val (.d (pD ps))), some (.val (.d (pD ps))), x7, x8] μ = .ok (.next [x0, x1, some (.own (wsR ws)), some (.val (.d (.str "pairs"))), some (.val (.d (nD k))), some (.val (.d (pD ps))), some (.val (.d (rD (flatP ps)))), y7, y8]) μ := by
      rw [if_yes (μ1 := μ) (by simp)]
      refine (xs_next (ρ1 := [x0, x1, some (.own (wsR ws)), some (.val (.d (.str "pairs"))), some (.val (.d (nD k))), some (.val (.d (pD ps))), some (.val (.d (rD []))), x7, x8]) (μ1 := μ) (by simp [rD])).trans ?_
      have it : evI (callF tab m) [x0, x1, some (.own (wsR ws)), some (.val (.d (.str "pairs"))), some (.val (.d (nD k))), some (.val (.d (pD ps))), some (.val (.d (rD []))), x7, x8] (.seq (.var 5)) μ = .ok (ps.map fun p => .one (.d (rD [p.1, p.2]))) μ := by
        simp [sq]
      rw [xs_cons, x_fo, it, R.bind_ok, f, R.bind_ok]
      dsimp only
      rw [xs_nil, List.nil_append]
    refine (xs_next iff1).trans ?_
    rw [xs_cons, x_app]
    simp only [List.getElem?_cons_succ, List.getElem?_cons_zero, ev_call, evs_cons, evs_nil, a, R.bind_ok, ev_var, c]
    simp [wsR, hw2, tabT]
theorem fo35 {m : Nat} (hm : 1 ≤ m) {x0 x1 : Option Slot} : ∀ (ts : List Tab) (ws : List (List Nat)) (x3 x4 x5 x6 x7 x8 : Option Slot), (∀ t ∈ ts, tabOk t = true) → ws.length + ts.length ≤ 100 → ∃ y3 y4 y5 y6 y7 y8,
    fo (callF tab m) (.tup [(.nm 3), (.nm 4), (.nm 5)]) b35 (ts.map fun t => .one (.d (tabD t))) [x0, x1, some (.own (wsR ws)), x3, x4, x5, x6, x7, x8] μ = .ok (.next [x0, x1, some (.own (wsR (ws ++ ts.map tabT))), y3, y4, y5, y6, y7, y8]) μ
  | [], ws, x3, x4, x5, x6, x7, x8, _, _ => ⟨x3, x4, x5, x6, x7, x8, by simp [fo_nil]⟩
  | t :: ts, ws, x3, x4, x5, x6, x7, x8, h, hl => by
    simp only [List.length_cons] at hl
    obtain ⟨y6, y7, y8, b⟩ := b35_ok (μ := μ) hm (h t (by simp)) (ws := ws) (by omega) (x0 := x0) (x1 := x1) (x6 := x6) (x7 := x7) (x8 := x8)
    obtain ⟨z3, z4, z5, z6, z7, z8, ih⟩ := fo35 hm (x0 := x0) (x1 := x1) ts (ws ++ [tabT t]) (some (.val (.d (tS t)))) (some (.val (.d (tM t)))) (some (.val (.d (tR t)))) y6 y7 y8 (fun t ht => h t (List.mem_cons_of_mem _ ht)) (by simp; omega)
    refine ⟨z3, z4, z5, z6, z7, z8, ?_⟩
    have ai : asgI (.tup [(.nm 3), (.nm 4), (.nm 5)]) (.one (.d (tabD t))) [x0, x1, some (.own (wsR ws)), x3, x4, x5, x6, x7, x8] = some [x0, x1, some (.own (wsR ws)), some (.val (.d (tS t))), some (.val (.d (tM t))), some (.val (.d (tR t))), x6, x7, x8] := by
      cases t <;> rfl
    rw [List.map_cons, fo_cons, ai]
    dsimp only
    rw [b, R.bind_ok]
    dsimp only
    rw [ih]
    simp
end K82
end

/-! text K82S24 -/
section
namespace K82
open Pv PySem L2
open TL (numL spl joinL par pre)
open SX (S)
open NumText (digitsVal AllDigits)
variable {n : Nat} {μ : Sto}
theorem one35 (c : CallF) {ρ : REnv} {e : E} {hd : List Nat} (hh : hd.length ≤ 20) {v : Nat} (hv : small v) (h1 : evE c ρ e μ = .ok (.d (nD v)) μ) : evE c ρ (.bin .add (.con (.str (S (hd ++ [32])))) (.bi .str [e])) μ = .ok (.d (.str (S (lineT hd [v])))) μ := by
  have l := small_len hv
  have f := str_bi hv
  have b1 : binF .add (.str (S (hd ++ [32]))) (.str (S (numL v))) = some (.str (S (lineT hd [v]))) := by
    rw [add_str (by simp [sN]; omega), SX.S_cat, line_one]; simp
  simp only [ev_bin, ev_con, ev_bi, evs_cons, evs_nil, R.bind_ok, h1, f, lift_some, two_d, b1, Option.map_some]
def endW : End → List Nat
  | .none => T "none"
  | .ans v => T "answer" ++ 32 :: numL v
  | .fault k => T "fault" ++ 32 :: k
theorem endW_T (e : End) : endT e = T "end " ++ endW e := by
  cases e with
  | none => exact none_is
  | ans v => exact endT_ans v
  | fault k => exact endT_fault k
theorem endW_len {e : End} (h : endOk e) : (endW e).length ≤ 100 := by
  have := endT_len h
  rw [endW_T, List.length_append] at this
  omega
theorem str_str (s : Str) : biF .str [.d (.str s)] = some (.d (.str s)) := rfl
theorem end35 (c : CallF) {ρ : REnv} {r : Run} (o : RunOk r) (h0 : ρ[0]? = some (some (.val (.d (runD r))))) :
    evE c ρ (.ite (.cmp .is (.idx (.var 0) (.con (.int 8))) (.con (.none))) (.con (.str "none")) (.bin .add (.bin .add (.idx (.idx (.var 0) (.con (.int 8))) (.con (.int 0))) (.con (.str " "))) (.bi .str [.idx (.idx (.var 0) (.con (.int 8))) (.con (.int 1))]))) μ = .ok (.d (.str (S (endW r.fin)))) μ := by
  have i8 : idxF (runD r) (.int 8) = some (endD r.fin) := rfl
  have o' := o.fin
  cases q : r.fin with
  | none =>
    rw [q] at i8
    simp only [endD] at i8
    simp only [ev_ite, ev_cmp, ev_idx, ev_var, h0, ev_con, R.bind_ok, idxS_d, i8, Option.map_some, lift_some, twoB_d, Pv.is_none, truR_b]
    simp only [endW, T_S]
  | ans v =>
    rw [q] at i8 o'
    have o' : v ≤ 65535 := o'
    have l := small_len (small_le o')
    have f := str_bi (small_le o')
    have la : (T "answer").length = 6 := by decide +kernel
    have b1 : binF .add (.str "answer") (.str (S [32])) = some (.str (S (T "answer" ++ [32]))) := by rw [← T_S, add_str (by simp [sN, la]), SX.S_cat]
    have b2 : binF .add (.str (S (T "answer" ++ [32]))) (.str (S (numL v))) = some (.str (S (T "answer" ++ 32 :: numL v))) := by rw [add_str (by simp [sN, la]; omega), SX.S_cat]; simp
    simp only [endD] at i8
    simp only [ev_ite, ev_cmp, ev_idx, ev_var, h0, ev_con, R.bind_ok, idxS_d, i8, Option.map_some, lift_some, twoB_d, Pv.is_tuple, truR_b, ev_bin, ev_bi, evs_cons, evs_nil, idx_tup, atI_0, atI_1, List.getElem?_cons_zero, List.getElem?_cons_succ, blank_S, two_d, b1, f, b2]
    simp only [endW]
  | fault k =>
    rw [q] at i8 o'
    have o' : k ∈ kinds := o'
    have l := kinds_len k o'
    have la : (T "fault").length = 5 := by decide +kernel
    have b1 : binF .add (.str "fault") (.str (S [32])) = some (.str (S (T "fault" ++ [32]))) := by rw [← T_S, add_str (by simp [sN, la]), SX.S_cat]
    have b2 : binF .add (.str (S (T "fault" ++ [32]))) (.str (S k)) = some (.str (S (T "fault" ++ 32 :: k))) := by rw [add_str (by simp [sN, la]; omega), SX.S_cat]; simp
    simp only [endD] at i8
    simp only [ev_ite, ev_cmp, ev_idx, ev_var, h0, ev_con, R.bind_ok, idxS_d, i8, Option.map_some, lift_some, twoB_d, Pv.is_tuple, truR_b, ev_bin, ev_bi, evs_cons, evs_nil, idx_tup, atI_0, atI_1, List.getElem?_cons_zero, List.getElem?_cons_succ, blank_S, two_d, b1, str_str, b2]
    simp only [endW]
theorem call35 {m : Nat} (hm : 1 ≤ m) {ρ : REnv} {e : E} {s : String} (hh : (T s).length ≤ 20) {ns : List Nat} (hl : ns.length ≤ 256) (hs : ∀ v ∈ ns, small v) (h1 : evE (callF tab m) ρ e μ = .ok (.d (rD ns)) μ) : evE (callF tab m) ρ (.call 34 [.con (.str (s : Str)), e]) μ = .ok (.d (.str (S (lineT (T s) ns)))) μ := by
  have c := t34 (n := m) (μ := μ) hm hl hs (hd := T s) (by omega)
  rw [T_S] at c
  simp only [ev_call, evs_cons, evs_nil, ev_con, R.bind_ok, h1, c]
theorem frz_ok {c : CallF} {ρ : REnv} {k : Nat} {ws : List (List Nat)} (h : ρ[k]? = some (some (.own (wsR ws)))) : exS c (.frz k) ρ μ = .ok (.next (ρ.set k (some (.val (.d (.list (ws.map fun w => .str (S w)))))))) μ := by
  rw [x_frz, h]
  dsimp only
  rw [allBy_wsR]
theorem wsR_is (ws : List (List Nat)) : wsR ws = (ws.map fun w => PyData.str (S w)).map .d := by
  unfold wsR; rw [List.map_map]; rfl
theorem cat_ok {c : CallF} {ρ : REnv} {k : Nat} {a b : E} {us ws : List (List Nat)} (hk : k < ρ.length) (h1 : evE c ρ a μ = .ok (.d (.list (us.map fun w => .str (S w)))) μ) (h2 : evE c ρ b μ = .ok (.d (.list (ws.map fun w => .str (S w)))) μ) (hl : us.length + ws.length ≤ 1000) : exS c (.own k (.cat a b)) ρ μ = .ok (.next (ρ.set k (some (.own (wsR (us ++ ws)))))) μ := by
  rw [x_own, src_cat, h1, R.bind_ok, h2, R.bind_ok]
  dsimp only
  rw [if_pos (by simp; omega), R.bind_ok, if_pos hk, wsR_is]
  simp only [List.map_append]
theorem lst1 {c : CallF} {ρ : REnv} {es : List E} {ws : List (List Nat)} (h : evEs c ρ es μ = .ok (wsR ws) μ) (hl : ws.length ≤ 1000) : evE c ρ (.lst es) μ = .ok (.d (.list (ws.map fun w => .str (S w)))) μ := by
  rw [ev_lst, h, R.bind_ok, wsR_is]
  exact pureL_ok (by simp; omega)
theorem evs_ok {c : CallF} {ρ : REnv} {e : E} {es : List E} {w : List Nat} {ws : List (List Nat)} (h1 : evE c ρ e μ = .ok (.d (.str (S w))) μ) (h2 : evEs c ρ es μ = .ok (wsR ws) μ) : evEs c ρ (e :: es) μ = .ok (wsR (w :: ws)) μ := by
  rw [evs_cons, h1, R.bind_ok, h2, R.bind_ok]; rfl
theorem t35 (h : 2 ≤ n) {r : Run} (o : RunOk r) : callF tab n 35 [.d (runD r)] μ = .ok (.d (.list ((linesT r).map fun w => .str (S w)))) μ := by
  obtain ⟨m, rfl⟩ : ∃ m, n = m + 1 := ⟨n - 1, by omega⟩
  have hm : 1 ≤ m := by omega
  refine call_ret (fs := tab) (f := 35) (fn := f35) (vs := [.d (runD r)]) (n := m) rfl rfl ?_
  have b1 := o.place; have b2 := o.clock; have b3 := o.wr
  have k1 := o.regs.1; have k2 := o.slots.1; have k3 := o.ctrs.1; have k4 := o.pkt.1; have k5 := o.tabs.1
  let ρ (x1 x2 : Option Slot) : REnv := [some (.val (.d (runD r))), x1, x2, none, none, none, none, none, none]
  have E1 : Option Slot := some (.val (.d (.str (S (endW r.fin)))))
  have s0 := asg_nm (k := 1) (end35 (μ := μ) (callF tab m) (ρ := ρ none none) o rfl) (Nat.lt_of_sub_pos (Nat.succ_pos 7))
  refine (xs_next s0).trans ?_
  show exSs (callF tab m) _ (ρ (some (.val (.d (.str (S (endW r.fin)))))) none) μ = _
  generalize hE : some (Slot.val (.d (.str (S (endW r.fin))))) = E1
  have l1 : evEs (callF tab m) (ρ E1 none) [.bin .add (.con (.str "steps ")) (.bi .str [.idx (.var 0) (.con (.int 7))]), .bin .add (.con (.str "place ")) (.bi .str [.idx (.var 0) (.con (.int 3))]), .bin .add (.con (.str "end ")) (.var 1), .bin .add (.con (.str "clock ")) (.bi .str [.idx (.var 0) (.con (.int 6))])] μ = .ok (wsR ((nine r).take 4)) μ := by
    refine evs_ok ?_ (evs_ok ?_ (evs_ok ?_ (evs_ok ?_ rfl)))
    · rw [steps_S]; exact one35 _ (by decide +kernel) (steps_small o) (by simp [ρ, runD])
    · rw [place_S]; exact one35 _ (by decide +kernel) (small_le (by omega)) (by simp [ρ, runD])
    · subst hE
      have l := endW_len o.fin
      have l4 := T_end
      have b : binF .add (.str (S (T "end "))) (.str (S (endW r.fin))) = some (.str (S (endT r.fin))) := by
        rw [add_str (by simp [sN, l4]; omega), SX.S_cat, endW_T]
      simp [ρ, end_S, b]
    · rw [clock_S]; exact one35 _ (by decide +kernel) (small_le (by omega)) (by simp [ρ, runD])
  have s1 : exS (callF tab m) (.own 2 (.lst [.bin .add (.con (.str "steps ")) (.bi .str [.idx (.var 0) (.con (.int 7))]), .bin .add (.con (.str "place ")) (.bi .str [.idx (.var 0) (.con (.int 3))]), .bin .add (.con (.str "end ")) (.var 1), .bin .add (.con (.str "clock ")) (.bi .str [.idx (.var 0) (.con (.int 6))])])) (ρ E1 none) μ = .ok (.next (ρ E1 (some (.own (wsR ((nine r).take 4)))))) μ := by
    rw [x_own, src_lst, l1, R.bind_ok, if_pos (by rw [sizeLine_is]; simp [wsR, nine]), R.bind_ok]
    rfl
  refine (xs_next s1).trans ?_
  refine (xs_next (frz_ok (ws := (nine r).take 4) rfl)).trans ?_
  have l2 : evE (callF tab m) (ρ E1 (some (.val (.d (.list (((nine r).take 4).map fun w => .str (S w))))))) (.lst [.bin .add (.con (.str "writable ")) (.bi .str [.idx (.var 0) (.con (.int 9))]), .call 34 [.con (.str "registers"), .idx (.var 0) (.con (.int 0))], .call 34 [.con (.str "slots"), .idx (.var 0) (.con (.int 1))]]) μ = .ok (.d (.list ((((nine r).drop 4).take 3).map fun w => .str (S w)))) μ := by
    refine lst1 (evs_ok ?_ (evs_ok ?_ (evs_ok ?_ rfl))) (by simp [nine])
    · rw [wr_S]; exact one35 _ (by decide +kernel) (small_le (by omega)) (by simp [ρ, runD])
    · exact call35 hm (s := "registers") (by decide +kernel) (by omega) (row_small o.regs.2 (by decide)) (by simp [ρ, runD])
    · exact call35 hm (s := "slots") (by decide +kernel) (by omega) (row_small o.slots.2 (by decide)) (by simp [ρ, runD])
  refine (xs_next (cat_ok (k := 2) (us := (nine r).take 4) (ws := ((nine r).drop 4).take 3) (by exact Nat.lt_of_sub_pos (Nat.succ_pos 6)) (by rfl) l2 (by simp [nine]))).trans ?_
  refine (xs_next (frz_ok (ws := (nine r).take 4 ++ ((nine r).drop 4).take 3) rfl)).trans ?_
  have l3 : evE (callF tab m) (ρ E1 (some (.val (.d (.list (((nine r).take 4 ++ ((nine r).drop 4).take 3).map fun w => .str (S w))))))) (.lst [.call 34 [.con (.str "counters"), .idx (.var 0) (.con (.int 2))], .call 34 [.con (.str "packet"), .idx (.var 0) (.con (.int 4))]]) μ = .ok (.d (.list (((nine r).drop 7).map fun w => .str (S w)))) μ := by
    refine lst1 (evs_ok ?_ (evs_ok ?_ rfl)) (by simp [nine])
    · exact call35 hm (s := "counters") (by decide +kernel) (by omega) (row_small o.ctrs.2 (by decide)) (by simp [ρ, runD])
    · exact call35 hm (s := "packet") (by decide +kernel) (by omega) (row_small o.pkt.2 (by decide)) (by simp [ρ, runD])
  refine (xs_next (cat_ok (k := 2) (us := (nine r).take 4 ++ ((nine r).drop 4).take 3) (ws := (nine r).drop 7) (by exact Nat.lt_of_sub_pos (Nat.succ_pos 6)) (by rfl) l3 (by simp [nine]))).trans ?_
  obtain ⟨y3, y4, y5, y6, y7, y8, f⟩ := fo35 (μ := μ) hm (x0 := some (.val (.d (runD r)))) (x1 := E1) r.tabs (nine r) none none none none none none o.tabs.2 (by simp [nine]; omega)
  have it : evI (callF tab m) (ρ E1 (some (.own (wsR (nine r))))) (.seq (.idx (.var 0) (.con (.int 5)))) μ = .ok (r.tabs.map fun t => .one (.d (tabD t))) μ := by
    simp [ρ, runD, seqItems]
  have e9 : (ρ E1 (some (.own (wsR (nine r))))) = (ρ E1 none).set 2 (some (.own (wsR (nine r)))) := rfl
  refine (xs_next (ρ1 := [some (.val (.d (runD r))), E1, some (.own (wsR (linesT r))), y3, y4, y5, y6, y7, y8]) (μ1 := μ) ?_).trans ?_
  · show exS (callF tab m) (.fors (.tup [(.nm 3), (.nm 4), (.nm 5)]) (.seq (.idx (.var 0) (.con (.int 5)))) b35) (ρ E1 (some (.own (wsR (nine r))))) μ = _
    rw [x_fo, it, R.bind_ok]
    exact f
  refine (xs_next (frz_ok (ws := linesT r) rfl)).trans ?_
  exact xs_done (ret_is rfl)
end K82
end

/-! text K82S25 -/
section
namespace K82
open Pv PySem L2
open TL (numL spl joinL par pre)
open SX (S)
open NumText (digitsVal AllDigits)
variable {n : Nat} {μ : Sto} {a B : Nat}
def kvsW (l s k : Int) : List (Key × RV) := [(.inr "left", .d (.int l)), (.inr "seed", .d (.int s)), (.inr "many", .d (.int k))]
theorem getL (l s k : Int) : getK (kvsW l s k) (.inr "left") = some (.d (.int l)) := rfl
theorem getS (l s k : Int) : getK (kvsW l s k) (.inr "seed") = some (.d (.int s)) := rfl
theorem getM (l s k : Int) : getK (kvsW l s k) (.inr "many") = some (.d (.int k)) := rfl
theorem putL (l s k x : Int) : putK (kvsW l s k) (.inr "left") (.d (.int x)) = kvsW x s k := rfl
theorem putS (l s k x : Int) : putK (kvsW l s k) (.inr "seed") (.d (.int x)) = kvsW l x k := rfl
theorem putM (l s k x : Int) : putK (kvsW l s k) (.inr "many") (.d (.int x)) = kvsW l s x := rfl
def Well (a : Nat) (μ : Sto) (B : Nat) : Prop := ∃ l s k : Int, μ[a]? = some (.dict (kvsW l s k)) ∧ 0 ≤ s ∧ s ≤ 2147483629 ∧ 0 ≤ k ∧ k ≤ B
theorem Well.mono {B' : Nat} (h : Well a μ B) (hb : B ≤ B') : Well a μ B' := by
  obtain ⟨l, s, k, h1, h2, h3, h4, h5⟩ := h
  exact ⟨l, s, k, h1, h2, h3, h4, by omega⟩
theorem dgetW {c : CallF} {ρ : REnv} {i : Nat} {l s k v : Int} {x : Str} (h0 : ρ[i]? = some (some (.val (.loc a)))) (h : μ[a]? = some (.dict (kvsW l s k))) (hv : getK (kvsW l s k) (.inr x) = some (.d (.int v))) : evE c ρ (.dget (.var i) (.con (.str x))) μ = .ok (.d (.int v)) μ := by
  rw [ev_dget, ev_var, h0]
  simp only [R.bind_ok, ev_con, h, keyD, hv, lift_some]
theorem subW {c : CallF} {ρ : REnv} {i : Nat} {e : E} {l s k l' s' k' v : Int} {x : Str} (h0 : ρ[i]? = some (some (.val (.loc a)))) (he : evE c ρ e μ = .ok (.d (.int v)) μ) (h : μ[a]? = some (.dict (kvsW l s k))) (hv : putK (kvsW l s k) (.inr x) (.d (.int v)) = kvsW l' s' k') :
    exS c (.asg (.sub (.var i) (.con (.str x))) e) ρ μ = .ok (.next ρ) (μ.set a (.dict (kvsW l' s' k'))) := by
  have e1 : subR (.loc a) (.d (.str x)) (.d (.int v)) μ = some (μ.set a (.dict (kvsW l' s' k'))) := by
    unfold subR
    simp only [h, keyD, hv]
    rw [if_pos (by rw [sizeLine_is]; simp [kvsW])]
  rw [x_asg, he, R.bind_ok, at_sub, ev_var, h0]
  simp only [R.bind_ok, ev_con, e1]
theorem set_get {l s k l' s' k' : Int} (h : μ[a]? = some (.dict (kvsW l s k))) : (μ.set a (.dict (kvsW l' s' k')))[a]? = some (.dict (kvsW l' s' k')) := by
  rw [List.getElem?_set]
  have := (List.getElem?_eq_some_iff.mp h).1
  simp [this]
theorem mod_pos {i j : Int} (h : 0 < j) : binF .mod (.int i) (.int j) = some (.int (i % j)) := by
  show (if 0 < j then some (i % j) else none).map PyData.int = _
  rw [if_pos h]; rfl
theorem fdiv_pos {i j : Int} (h : 0 < j) (h2 : j.natAbs.log2 < 9000) : binF .fdiv (.int i) (.int j) = some (.int (i / j)) := by
  show (if 0 < j ∧ j.natAbs.log2 < 9000 then some (i / j) else none).map PyData.int = _
  rw [if_pos ⟨h, h2⟩]; rfl
theorem mul_int {i j : Int} (h : i.natAbs.log2 + j.natAbs.log2 < 1000000) : binF .mul (.int i) (.int j) = some (.int (i * j)) := by
  rw [mul_is]
  simp only [mulF]
  rw [if_pos h]
theorem int_int (i : Int) : biF .int [.d (.int i)] = some (.d (.int i)) := rfl
theorem log_le {i : Int} {k : Nat} (h : i.natAbs < 2 ^ k) (hk : 0 < k) : i.natAbs.log2 < k := by
  rcases Nat.eq_zero_or_pos i.natAbs with q | q
  · rw [q]; simpa using hk
  · exact (Nat.log2_lt (by omega)).mpr h
/-- a result that draws -/
def Drawn {α : Type} (a : Nat) (r : R α) (B : Nat) (P : α → Prop) : Prop := ∃ x μ1, r = .ok x μ1 ∧ P x ∧ Well a μ1 B
theorem t29 (h : 1 ≤ n) (W : Well a μ B) {most : Nat} (h0 : 0 < most) (h1 : most < 2 ^ 40) (hB : B < 2 ^ 40) : Drawn a (callF tab n 29 [.loc a, .d (.int (most : Int))] μ) (B + 1) fun v => ∃ r : Nat, v = .d (nD r) ∧ r < most := by
  obtain ⟨m, rfl⟩ : ∃ m, n = m + 1 := ⟨n - 1, by omega⟩
  obtain ⟨l, s, k, w1, w2, w3, w4, w5⟩ := W
  have lm : (most : Int).natAbs.log2 < 9000 := Nat.lt_trans (log_le (k := 40) (by simpa using h1) (by decide)) (by decide)
  have p0 : (0 : Int) < (most : Int) := by omega
  let ρ (x y : Option Slot) : REnv := [some (.val (.loc a)), some (.val (.d (.int (most : Int)))), x, y]
  have gl : ∀ x y, evE (callF tab m) (ρ x y) (.dget (.var 0) (.con (.str "left"))) μ = .ok (.d (.int l)) μ := fun x y => dgetW rfl w1 (getL l s k)
  by_cases q : 0 < l
  · refine ⟨.d (.int (l % most)), μ.set a (.dict (kvsW (l / most) s k)), ?_, ⟨(l % most).toNat, ?_, ?_⟩, _, _, _, set_get w1, w2, w3, w4, by omega⟩
    · refine call_ret (fs := tab) (f := 29) (fn := f29) (vs := [.loc a, .d (.int (most : Int))]) (n := m) rfl rfl ?_
      show exSs (callF tab m) _ (ρ none none) μ = _
      refine xs_done ?_
      rw [if_yes (μ1 := μ) (by rw [ev_cmp, gl]; simp [q])]
      refine (xs_next (asg_nm (v := .d (.int (l % most))) (μ1 := μ) ?_ (by exact Nat.lt_of_sub_pos (Nat.succ_pos 0)))).trans ?_
      · simp only [ev_bin, ev_bi, evs_cons, evs_nil, gl, R.bind_ok, int_int, lift_some]
        simp only [ev_var, ρ, List.getElem?_cons_succ, List.getElem?_cons_zero, R.bind_ok, two_d, mod_pos p0, Option.map_some, lift_some]
      refine (xs_next (subW (a := a) (l := l) (s := s) (k := k) (v := l / most) rfl ?_ w1 (putL l s k _))).trans ?_
      · have g2 := gl none (some (.val (.d (.int (l % most)))))
        show evE (callF tab m) (ρ none (some (.val (.d (.int (l % most)))))) _ μ = _
        simp only [ev_bin, ev_bi, evs_cons, evs_nil, g2, R.bind_ok, int_int, lift_some]
        simp only [ev_var, ρ, List.getElem?_cons_succ, List.getElem?_cons_zero, R.bind_ok, two_d, fdiv_pos p0 lm, Option.map_some, lift_some]
      · exact xs_done (ret_is rfl)
    · show RV.d (.int (l % most)) = .d (.int ((l % most).toNat : Int))
      rw [Int.toNat_of_nonneg (Int.emod_nonneg _ (by omega))]
    · have := Int.emod_lt_of_pos l p0
      have := Int.emod_nonneg l (show (most : Int) ≠ 0 by omega)
      omega
  · let s' : Int := (s * 48271 + (k + 1) * 30011 + 7) % 2147483629
    have s0 : 0 ≤ s' := Int.emod_nonneg _ (by decide)
    have s1 : s' < 2147483629 := Int.emod_lt_of_pos _ (by decide)
    let v : Int := (s' * (s' % 65537 + 9)) % 2147483563 / 211 % most
    have v0 : 0 ≤ v := Int.emod_nonneg _ (by omega)
    have v1 : v < most := Int.emod_lt_of_pos _ p0
    have r0 : 0 ≤ s' % 65537 := Int.emod_nonneg _ (by decide)
    have r1 : s' % 65537 < 65537 := Int.emod_lt_of_pos _ (by decide)
    have lg : ∀ i : Int, 0 ≤ i → i < 2 ^ 60 → i.natAbs.log2 < 60 := fun i h1 h2 => log_le (by omega) (by decide)
    have m1 : binF .mul (.int s) (.int 48271) = some (.int (s * 48271)) := mul_int (by have := lg s w2 (by omega); have := lg 48271 (by decide) (by decide); omega)
    have m2 : binF .mul (.int (k + 1)) (.int 30011) = some (.int ((k + 1) * 30011)) := mul_int (by have := lg (k + 1) (by omega) (by omega); have := lg 30011 (by decide) (by decide); omega)
    have m3 : binF .mul (.int s') (.int (s' % 65537 + 9)) = some (.int (s' * (s' % 65537 + 9))) := mul_int (by have := lg s' s0 (by omega); have := lg (s' % 65537 + 9) (by omega) (by omega); omega)
    refine ⟨.d (.int v), ((μ.set a (.dict (kvsW l s (k + 1)))).set a (.dict (kvsW l s' (k + 1)))), ?_, ⟨v.toNat, ?_, by omega⟩, _, _, _, set_get (set_get w1), s0, by omega, by omega, by omega⟩
    · refine call_ret (fs := tab) (f := 29) (fn := f29) (vs := [.loc a, .d (.int (most : Int))]) (n := m) rfl rfl ?_
      show exSs (callF tab m) _ (ρ none none) μ = _
      refine (xs_next (ρ1 := ρ none none) (μ1 := μ) ?_).trans ?_
      · rw [if_no (μ1 := μ) (by rw [ev_cmp, gl]; simp [q])]; rfl
      refine (xs_next (subW (a := a) (l := l) (s := s) (k := k) (v := k + 1) rfl ?_ w1 (putM l s k _))).trans ?_
      · rw [ev_bin, dgetW (a := a) rfl w1 (getM l s k)]
        simp
      have w1' := set_get (l' := l) (s' := s) (k' := k + 1) w1
      generalize μ.set a (.dict (kvsW l s (k + 1))) = μ2 at w1' ⊢
      have gs : ∀ x y, evE (callF tab m) (ρ x y) (.dget (.var 0) (.con (.str "seed"))) μ2 = .ok (.d (.int s)) μ2 := fun x y => dgetW rfl w1' (getS l s (k + 1))
      have gm : ∀ x y, evE (callF tab m) (ρ x y) (.dget (.var 0) (.con (.str "many"))) μ2 = .ok (.d (.int (k + 1))) μ2 := fun x y => dgetW rfl w1' (getM l s (k + 1))
      refine (xs_next (asg_nm (v := .d (.int s')) (μ1 := μ2) ?_ (by exact Nat.lt_of_sub_pos (Nat.succ_pos 1)))).trans ?_
      · simp only [ev_bin, ev_bi, evs_cons, evs_nil, gs, gm, R.bind_ok, int_int, lift_some, ev_con, two_d, m1, m2, Option.map_some, add_int, mod_pos (show (0 : Int) < 2147483629 by decide)]
        rfl
      refine (xs_next (subW (a := a) (l := l) (s := s) (k := k + 1) (v := s') (μ := μ2) rfl rfl w1' (putS l s (k + 1) _))).trans ?_
      refine xs_done (ret_is ?_)
      show evE (callF tab m) (ρ (some (.val (.d (.int s')))) none) _ _ = _
      simp only [ev_bin, ev_bi, evs_cons, evs_nil, ev_con, ev_var, ρ, List.getElem?_cons_succ, List.getElem?_cons_zero, R.bind_ok, int_int, lift_some, two_d, Option.map_some, mod_pos (show (0 : Int) < 65537 by decide), add_int, m3, mod_pos (show (0 : Int) < 2147483563 by decide), fdiv_pos (show (0 : Int) < 211 by decide) (show (211 : Int).natAbs.log2 < 9000 by decide), mod_pos p0]
      rfl
    · show RV.d (.int v) = .d (.int (v.toNat : Int))
      rw [Int.toNat_of_nonneg v0]
end K82
end

/-! text K82S26 -/
section
namespace K82
open Pv PySem L2
open TL (numL spl joinL par pre)
open SX (S)
open NumText (digitsVal AllDigits)
variable {n : Nat} {μ : Sto} {a B : Nat}
theorem t30 (h : 2 ≤ n) (W : Well a μ B) {xs : List PyData} (h0 : xs ≠ []) (h1 : xs.length < 1000) (hB : B < 2 ^ 40) : Drawn a (callF tab n 30 [.loc a, .d (.list xs)] μ) (B + 1) fun v => ∃ x, v = .d x ∧ x ∈ xs := by
  obtain ⟨m, rfl⟩ : ∃ m, n = m + 1 := ⟨n - 1, by omega⟩
  obtain ⟨_, μ1, e, ⟨r, rfl, hr⟩, W1⟩ := t29 (n := m) (by omega) W (most := xs.length) (List.length_pos_iff.mpr h0) (by omega) hB
  refine ⟨.d xs[r], μ1, ?_, ⟨xs[r], rfl, List.getElem_mem hr⟩, W1⟩
  refine call_ret (fs := tab) (f := 30) (fn := f30) (vs := [.loc a, .d (.list xs)]) (n := m) rfl rfl ?_
  refine xs_done (ret_is ?_)
  have st : startR f30.N.length [.loc a, .d (.list xs)] = [some (.val (.loc a)), some (.val (.d (.list xs)))] := rfl
  rw [st]
  simp only [ev_idx, ev_var, List.getElem?_cons_succ, List.getElem?_cons_zero, R.bind_ok, ev_call, evs_cons, evs_nil, ev_bi, bi_lenL, lift_some, e, idxS_d, idx_lst, atI_n, List.getElem?_eq_getElem hr, Option.map_some]
theorem cut_last {α : Type} (xs : List α) : cutD xs (some (-1)) none = xs.drop (xs.length - 1) := by
  unfold cutD
  rw [HT.sIx_none]
  have e : HT.sIx xs.length 0 (some (-1)) = xs.length - 1 := by
    show (if (-1 : Int) < 0 then ((-1 : Int) + (xs.length : Int)).toNat else min (-1 : Int).toNat xs.length) = _
    rw [if_pos (by decide)]; omega
  rw [e, List.take_of_length_le (by simp)]
theorem drop_last {α : Type} {xs : List α} (h : xs ≠ []) : xs.drop (xs.length - 1) = [xs.getLast h] := by
  conv => lhs; rw [← List.dropLast_concat_getLast h]
  have : (xs.dropLast ++ [xs.getLast h]).length - 1 = xs.dropLast.length := by simp
  rw [this, List.drop_left]
theorem eqvAll_nil : ∀ xs : List PyData, PyData.eqvAll xs [] = xs.isEmpty
  | [] => rfl
  | x :: xs => rfl
theorem ne_empty (ns : List Nat) : cmpF .ne (rD ns) (.tuple []) = some (!ns.isEmpty) := by
  have h1 : SeqAt.shaped (rD ns) = true := by
    show ((rD ns).canLay0 && decide ((rD ns).depth ≤ 64)) = true
    rw [canLay_r, decide_eq_true (Nat.le_trans (depth_r ns) (by decide))]; rfl
  have : cmpF .eq (rD ns) (.tuple []) = some ns.isEmpty := by
    rw [eq_shaped rfl h1 (by decide +kernel)]
    show some (PyData.eqvAll (ns.map nD) []) = _
    rw [eqvAll_nil]; simp
  show (cmpF .eq (rD ns) (.tuple [])).map (! ·) = _
  rw [this]; rfl
abbrev b31 : List Pv.S := [.ifs (.and (.cmp .ne (.var 3) (.tup [])) (.cmp .eq (.call 29 [.var 0, .con (.int 2)]) (.con (.int 0)))) [.asg (.nm 3) (.bin .add (.var 3) (.sli (.var 3) (some (.neg (.con (.int 1)))) none))] [.asg (.nm 3) (.bin .add (.var 3) (.tup [.call 30 [.var 0, .lst [.con (.int 0), .con (.int 1), .var 2, .call 29 [.var 0, .bin .add (.var 2) (.con (.int 1))]]]]))]]
theorem b31_ok {m : Nat} (hm : 2 ≤ m) (W : Well a μ B) (hB : B + 3 < 2 ^ 40) {most : Nat} (hmost : 1 ≤ most ∧ most ≤ 65535) {ns : List Nat} (hl : ns.length ≤ 1000) (hs : ∀ v ∈ ns, v ≤ most) {x1 x4 : Option Slot} :
    Drawn a (exSs (callF tab m) b31 [some (.val (.loc a)), x1, some (.val (.d (nD most))), some (.val (.d (rD ns))), x4] μ) (B + 3) fun f => ∃ v, v ≤ most ∧ f = .next [some (.val (.loc a)), x1, some (.val (.d (nD most))), some (.val (.d (rD (ns ++ [v])))), x4] := by
  have e31 : binF .add (.int (most : Int)) (.int 1) = some (.int ((most + 1 : Nat) : Int)) := by simp
  have other : ∀ {μ : Sto} {B' : Nat}, Well a μ B' → B' ≤ B + 1 → Drawn a (exS (callF tab m) (.asg (.nm 3) (.bin .add (.var 3) (.tup [.call 30 [.var 0, .lst [.con (.int 0), .con (.int 1), .var 2, .call 29 [.var 0, .bin .add (.var 2) (.con (.int 1))]]]]))) [some (.val (.loc a)), x1, some (.val (.d (nD most))), some (.val (.d (rD ns))), x4] μ) (B + 3) fun f => ∃ v, v ≤ most ∧ f = .next [some (.val (.loc a)), x1, some (.val (.d (nD most))), some (.val (.d (rD (ns ++ [v])))), x4] := by
    intro μ B' W hb
    obtain ⟨_, μ1, e1, ⟨r, rfl, hr⟩, W1⟩ := t29 (n := m) (by omega) W (most := most + 1) (by omega) (by omega) (by omega)
    obtain ⟨_, μ2, e2, ⟨x, rfl, hx⟩, W2⟩ := t30 (n := m) (by omega) W1 (xs := [nD 0, nD 1, nD most, nD r]) (by simp) (by simp) (by omega)
    obtain ⟨v, rfl, hv⟩ : ∃ v : Nat, x = nD v ∧ v ≤ most := by
      simp only [List.mem_cons, List.not_mem_nil, or_false] at hx
      rcases hx with rfl | rfl | rfl | rfl
      · exact ⟨0, rfl, by omega⟩
      · exact ⟨1, rfl, by omega⟩
      · exact ⟨most, rfl, by omega⟩
      · exact ⟨r, rfl, by omega⟩
    have e1 : callF tab m 29 [.loc a, .d (.int ((most : Int) + 1))] μ = .ok (.d (nD r)) μ1 := e1
    have e2 : callF tab m 30 [.loc a, .d (.list [.int 0, .int 1, nD most, nD r])] μ1 = .ok (.d (nD v)) μ2 := e2
    have e3 : pureL [.d (.int 0), .d (.int 1), .d (nD most), .d (nD r)] μ1 = .ok (.d (.list [.int 0, .int 1, nD most, nD r])) μ1 := pureL_ok (ds := [.int 0, .int 1, nD most, nD r]) (by rw [sizeLine_is]; simp)
    have e4 : binF .add (rD ns) (.tuple [nD v]) = some (rD (ns ++ [v])) := by
      show binF .add (.tuple (ns.map nD)) (.tuple ([v].map nD)) = _
      rw [add_tup (by simp; omega), ← List.map_append]; rfl
    refine ⟨_, μ2, ?_, ⟨v, hv, rfl⟩, W2.mono (by omega)⟩
    refine (asg_nm (v := .d (rD (ns ++ [v]))) (μ1 := μ2) ?_ (by exact Nat.lt_of_sub_pos (Nat.succ_pos 1))).trans rfl
    simp only [ev_bin, ev_var, List.getElem?_cons_succ, List.getElem?_cons_zero, R.bind_ok, ev_tup, evs_cons, evs_nil, ev_call, ev_lst, ev_con, two_d, add_int, Option.map_some, lift_some, e1, e3, e2, allBy_d, allBy_nil]
    simp [e4]
  cases q : ns with
  | nil =>
    subst q
    obtain ⟨f, μ2, e, ⟨v, hv, rfl⟩, W2⟩ := other W (by omega)
    refine ⟨_, μ2, ?_, ⟨v, hv, rfl⟩, W2⟩
    rw [xs_cons, if_no (μ1 := μ) (by
      have z := ne_empty []
      simp at z
      simp [z]), xs_cons, e]
    simp
  | cons y t =>
    rw [← q]
    have nn : ns ≠ [] := by rw [q]; simp
    obtain ⟨_, μ1, e1, ⟨r, rfl, hr⟩, W1⟩ := t29 (n := m) (by omega) W (most := 2) (by omega) (by omega) (by omega)
    have e1 : callF tab m 29 [.loc a, .d (.int 2)] μ = .ok (.d (nD r)) μ1 := e1
    have z := ne_empty ns
    rw [show ns.isEmpty = false by rw [q]; rfl] at z
    have z : cmpF .ne (rD ns) (.tuple []) = some true := z
    rcases (by omega : r = 0 ∨ r = 1) with rfl | rfl
    · have gl := List.getLast_mem nn
      have e4 : binF .add (rD ns) (rD [ns.getLast nn]) = some (rD (ns ++ [ns.getLast nn])) := by
        show binF .add (.tuple (ns.map nD)) (.tuple ([ns.getLast nn].map nD)) = _
        rw [add_tup (by simp; omega), ← List.map_append]; rfl
      have e5 : sliR (some (-1)) none (.d (rD ns)) = some (.d (rD [ns.getLast nn])) := by
        show some (RV.d (.tuple (cutD (ns.map nD) (some (-1)) none))) = _
        rw [cut_last, List.length_map, ← List.map_drop, drop_last nn]; rfl
      refine ⟨_, μ1, ?_, ⟨_, hs _ gl, rfl⟩, W1.mono (by omega)⟩
      rw [xs_cons, if_yes (μ1 := μ1) (by simp [z, e1])]
      simp [e5, e4]
    · obtain ⟨f, μ2, e, ⟨v, hv, rfl⟩, W2⟩ := other W1 (by omega)
      refine ⟨_, μ2, ?_, ⟨v, hv, rfl⟩, W2⟩
      rw [xs_cons, if_no (μ1 := μ1) (by simp [z, e1]), xs_cons, e]
      simp
theorem fo31 {m : Nat} (hm : 2 ≤ m) {most : Nat} (hmost : 1 ≤ most ∧ most ≤ 65535) {x1 : Option Slot} : ∀ (k i : Nat) (ns : List Nat) (x4 : Option Slot) (μ : Sto) (B : Nat), Well a μ B → B + 3 * k < 2 ^ 40 → ns.length + k ≤ 1000 → (∀ v ∈ ns, v ≤ most) →
    Drawn a (fo (callF tab m) (.nm 4) b31 ((List.range' i k).map fun (j : Nat) => .one (.d (.int (0 + (j : Int))))) [some (.val (.loc a)), x1, some (.val (.d (nD most))), some (.val (.d (rD ns))), x4] μ) (B + 3 * k) fun f => ∃ ws y4, (∀ v ∈ ws, v ≤ most) ∧ ws.length = ns.length + k ∧ f = .next [some (.val (.loc a)), x1, some (.val (.d (nD most))), some (.val (.d (rD ws))), y4]
  | 0, i, ns, x4, μ, B, W, _, _, hs => ⟨_, μ, rfl, ⟨ns, x4, hs, rfl, rfl⟩, W⟩
  | k + 1, i, ns, x4, μ, B, W, hB, hl, hs => by
    obtain ⟨_, μ1, e, ⟨v, hv, rfl⟩, W1⟩ := b31_ok (μ := μ) hm W (by omega) hmost (ns := ns) (by omega) hs (x1 := x1) (x4 := some (.val (.d (.int (0 + (i : Int))))))
    obtain ⟨f, μ2, e2, ⟨ws, y4, h1, h2, rfl⟩, W2⟩ := fo31 hm hmost (x1 := x1) k (i + 1) (ns ++ [v]) (some (.val (.d (.int (0 + (i : Int)))))) μ1 (B + 3) W1 (by omega) (by simp; omega) (fun w hw => by
      rcases List.mem_append.mp hw with hw | hw
      · exact hs w hw
      · simp at hw; subst hw; exact hv)
    refine ⟨_, μ2, ?_, ⟨ws, y4, h1, by simp at h2; omega, rfl⟩, W2.mono (by omega)⟩
    rw [List.range'_succ, List.map_cons, fo_cons]
    have ai : asgI (.nm 4) (.one (.d (.int (0 + (i : Int))))) [some (.val (.loc a)), x1, some (.val (.d (nD most))), some (.val (.d (rD ns))), x4] = some [some (.val (.loc a)), x1, some (.val (.d (nD most))), some (.val (.d (rD ns))), some (.val (.d (.int (0 + (i : Int)))))] := rfl
    rw [ai]
    dsimp only
    rw [e, R.bind_ok]
    exact e2
theorem inLim_small {k : Nat} (h : k ≤ 100000) : inLim (k : Int) = true := by
  unfold inLim
  exact decide_eq_true (by omega)
theorem t31 (h : 3 ≤ n) (W : Well a μ B) {many most : Nat} (hB : B + 1000 < 2 ^ 40) (hm : many ≤ 256) (hmost : 1 ≤ most ∧ most ≤ 65535) : Drawn a (callF tab n 31 [.loc a, .d (nD many), .d (nD most)] μ) (B + 1000) fun v => ∃ ns : List Nat, v = .d (rD ns) ∧ ns.length = many ∧ ∀ v ∈ ns, v ≤ most := by
  obtain ⟨m, rfl⟩ : ∃ m, n = m + 1 := ⟨n - 1, by omega⟩
  obtain ⟨f, μ2, e, ⟨ws, y4, h1, h2, rfl⟩, W2⟩ := fo31 (m := m) (by omega) hmost (x1 := some (.val (.d (nD many)))) many 0 [] none μ B W (by omega) (by simp; omega) (by simp)
  refine ⟨.d (rD ws), μ2, ?_, ⟨ws, rfl, by simpa using h2, h1⟩, W2.mono (by omega)⟩
  refine call_ret (fs := tab) (f := 31) (fn := f31) (vs := [.loc a, .d (nD many), .d (nD most)]) (n := m) rfl rfl ?_
  have st : startR f31.N.length [.loc a, .d (nD many), .d (nD most)] = [some (.val (.loc a)), some (.val (.d (nD many))), some (.val (.d (nD most))), none, none] := rfl
  rw [st]
  refine (xs_next (ρ1 := [some (.val (.loc a)), some (.val (.d (nD many))), some (.val (.d (nD most))), some (.val (.d (rD []))), none]) (μ1 := μ) (by simp [rD])).trans ?_
  have it : evI (callF tab m) [some (.val (.loc a)), some (.val (.d (nD many))), some (.val (.d (nD most))), some (.val (.d (rD []))), none] (.rng1 (.var 1)) μ = .ok ((List.range' 0 many).map fun (j : Nat) => .one (.d (.int (0 + (j : Int))))) μ := by
    have il := inLim_small (k := many) (by omega)
    rw [evi_rng1, ev_var]
    simp only [List.getElem?_cons_succ, List.getElem?_cons_zero, R.bind_ok, il, if_true]
    rw [show (many : Int).toNat = many by omega]
    unfold rngItems
    rw [List.range_eq_range']
  refine (xs_next (ρ1 := [some (.val (.loc a)), some (.val (.d (nD many))), some (.val (.d (nD most))), some (.val (.d (rD ws))), y4]) (μ1 := μ2) ?_).trans ?_
  · rw [x_fo, it, R.bind_ok]
    exact e
  · exact xs_done (ret_is rfl)
end K82
end

/-! text K82S27 -/
section
namespace K82
open Pv PySem L2
open TL (numL spl joinL par pre)
open SX (S)
open NumText (digitsVal AllDigits)
variable {n : Nat} {μ : Sto} {a B : Nat}
theorem incr_snoc {K v : Nat} : ∀ ps : List (Nat × Nat), incr ps = true → (∀ p ∈ ps, p.1 < K) → incr (ps ++ [(K, v)]) = true
  | [], _, _ => rfl
  | [p], _, h => by
    have := h p (by simp)
    simp [incr, this]
  | p :: q :: t, h1, h2 => by
    have h1 : (decide (p.1 < q.1) && incr (q :: t)) = true := h1
    rw [Bool.and_eq_true] at h1
    show (decide (p.1 < q.1) && incr (q :: t ++ [(K, v)])) = true
    rw [h1.1, incr_snoc (q :: t) h1.2 fun p hp => h2 p (List.mem_cons_of_mem _ hp)]
    rfl
abbrev b32p : List Pv.S := [.asg (.nm 4) (.bin .add (.var 4) (.tup [.tup [.var 5, .call 30 [.var 0, .lst [.var 5, .con (.int 0), .con (.int 65535)]]]])), .asg (.nm 5) (.bin .add (.bin .add (.var 5) (.con (.int 1))) (.call 29 [.var 0, .con (.int 900)]))]
structure PsOk (ps : List (Nat × Nat)) (K : Nat) : Prop where
  inc : incr ps = true
  lt : ∀ p ∈ ps, p.1 < K
  v : ∀ p ∈ ps, p.2 ≤ 65535
  K : K ≤ 2 + 900 * ps.length
theorem pD_snoc (ps : List (Nat × Nat)) (x v : Nat) (h : ps.length ≤ 100) : binF .add (pD ps) (.tuple [.tuple [nD x, nD v]]) = some (pD (ps ++ [(x, v)])) := by
  show binF .add (.tuple (ps.map fun (p : Nat × Nat) => rD [p.1, p.2])) (.tuple ([(x, v)].map fun (p : Nat × Nat) => rD [p.1, p.2])) = _
  rw [add_tup (by simp; omega), ← List.map_append]; rfl
theorem b32p_ok {m : Nat} (hm : 2 ≤ m) (W : Well a μ B) (hB : B + 2 < 2 ^ 40) {ps : List (Nat × Nat)} {K : Nat} (P : PsOk ps K) (hl : ps.length ≤ 15) {x1 x2 x3 x6 : Option Slot} :
    Drawn a (exSs (callF tab m) b32p [some (.val (.loc a)), x1, x2, x3, some (.val (.d (pD ps))), some (.val (.d (nD K))), x6] μ) (B + 2) fun f => ∃ v K', PsOk (ps ++ [(K, v)]) K' ∧ f = .next [some (.val (.loc a)), x1, x2, x3, some (.val (.d (pD (ps ++ [(K, v)])))), some (.val (.d (nD K'))), x6] := by
  have hK := P.K
  obtain ⟨_, μ1, e1, ⟨x, rfl, hx⟩, W1⟩ := t30 (n := m) (by omega) W (xs := [nD K, nD 0, nD 65535]) (by simp) (by simp) (by omega)
  obtain ⟨v, rfl, hv⟩ : ∃ v : Nat, x = nD v ∧ v ≤ 65535 := by
    simp only [List.mem_cons, List.not_mem_nil, or_false] at hx
    rcases hx with rfl | rfl | rfl
    · exact ⟨K, rfl, by omega⟩
    · exact ⟨0, rfl, by omega⟩
    · exact ⟨65535, rfl, by omega⟩
  obtain ⟨_, μ2, e2, ⟨r, rfl, hr⟩, W2⟩ := t29 (n := m) (by omega) W1 (most := 900) (by omega) (by omega) (by omega)
  have e1 : callF tab m 30 [.loc a, .d (.list [nD K, .int 0, .int 65535])] μ = .ok (.d (nD v)) μ1 := e1
  have e2 : callF tab m 29 [.loc a, .d (.int 900)] μ1 = .ok (.d (nD r)) μ2 := e2
  have e3 : pureL [.d (nD K), .d (.int 0), .d (.int 65535)] μ = .ok (.d (.list [nD K, .int 0, .int 65535])) μ := pureL_ok (ds := [nD K, .int 0, .int 65535]) (by rw [sizeLine_is]; simp)
  have e4 := pD_snoc ps K v (by omega)
  refine ⟨_, μ2, ?_, ⟨v, K + 1 + r, ⟨incr_snoc ps P.inc P.lt, fun p hp => ?_, fun p hp => ?_, ?_⟩, rfl⟩, W2⟩
  · refine (xs_next (asg_nm (v := .d (pD (ps ++ [(K, v)]))) (μ1 := μ1) ?_ (by exact Nat.lt_of_sub_pos (Nat.succ_pos 2)))).trans ?_
    · simp only [ev_bin, ev_var, List.getElem?_cons_succ, List.getElem?_cons_zero, R.bind_ok, ev_tup, evs_cons, evs_nil, ev_call, ev_lst, ev_con, e3, e1, allBy_d, allBy_nil, Option.map_some]
      simp [e4]
    · refine (xs_next (asg_nm (v := .d (nD (K + 1 + r))) (μ1 := μ2) ?_ (by exact Nat.lt_of_sub_pos (Nat.succ_pos 1)))).trans rfl
      simp only [List.set_cons_succ, List.set_cons_zero, ev_bin, ev_var, List.getElem?_cons_succ, List.getElem?_cons_zero, R.bind_ok, ev_con, two_d, add_int, Option.map_some, lift_some, ev_call, evs_cons, evs_nil, e2]
      simp
  · rcases List.mem_append.mp hp with hp | hp
    · have := P.lt p hp; omega
    · simp at hp; subst hp; simp only; omega
  · rcases List.mem_append.mp hp with hp | hp
    · exact P.v p hp
    · simp at hp; subst hp; exact hv
  · simp only [List.length_append, List.length_cons, List.length_nil]; omega
theorem fo32p {m : Nat} (hm : 2 ≤ m) {x1 x2 x3 : Option Slot} : ∀ (k i : Nat) (ps : List (Nat × Nat)) (K : Nat) (x6 : Option Slot) (μ : Sto) (B : Nat), Well a μ B → B + 2 * k < 2 ^ 40 → ps.length + k ≤ 16 → PsOk ps K →
    Drawn a (fo (callF tab m) (.nm 6) b32p ((List.range' i k).map fun (j : Nat) => .one (.d (.int (0 + (j : Int))))) [some (.val (.loc a)), x1, x2, x3, some (.val (.d (pD ps))), some (.val (.d (nD K))), x6] μ) (B + 2 * k) fun f => ∃ qs K' y6, PsOk qs K' ∧ qs.length ≤ 16 ∧ f = .next [some (.val (.loc a)), x1, x2, x3, some (.val (.d (pD qs))), some (.val (.d (nD K'))), y6]
  | 0, i, ps, K, x6, μ, B, W, _, hl, P => ⟨_, μ, rfl, ⟨ps, K, x6, P, by omega, rfl⟩, W⟩
  | k + 1, i, ps, K, x6, μ, B, W, hB, hl, P => by
    obtain ⟨_, μ1, e, ⟨v, K', P1, rfl⟩, W1⟩ := b32p_ok (μ := μ) hm W (by omega) P (by omega) (x1 := x1) (x2 := x2) (x3 := x3) (x6 := some (.val (.d (.int (0 + (i : Int))))))
    obtain ⟨f, μ2, e2, ⟨qs, K2, y6, P2, hq, rfl⟩, W2⟩ := fo32p hm (x1 := x1) (x2 := x2) (x3 := x3) k (i + 1) (ps ++ [(K, v)]) K' (some (.val (.d (.int (0 + (i : Int)))))) μ1 (B + 2) W1 (by omega) (by simp; omega) P1
    refine ⟨_, μ2, ?_, ⟨qs, K2, y6, P2, hq, rfl⟩, W2.mono (by omega)⟩
    rw [List.range'_succ, List.map_cons, fo_cons]
    have ai : asgI (.nm 6) (.one (.d (.int (0 + (i : Int))))) [some (.val (.loc a)), x1, x2, x3, some (.val (.d (pD ps))), some (.val (.d (nD K))), x6] = some [some (.val (.loc a)), x1, x2, x3, some (.val (.d (pD ps))), some (.val (.d (nD K))), some (.val (.d (.int (0 + (i : Int)))))] := rfl
    rw [ai]
    dsimp only
    rw [e, R.bind_ok]
    exact e2
theorem it_rng {c : CallF} {ρ : REnv} {e : E} {k : Nat} {μ1 : Sto} (h : evE c ρ e μ = .ok (.d (nD k)) μ1) (hk : k ≤ 1000) : evI c ρ (.rng1 e) μ = .ok ((List.range' 0 k).map fun (j : Nat) => .one (.d (.int (0 + (j : Int))))) μ1 := by
  have il := inLim_small (k := k) (by omega)
  rw [evi_rng1, h, R.bind_ok]
  simp only [il, if_true]
  rw [show (k : Int).toNat = k by omega]
  unfold rngItems
  rw [List.range_eq_range']
def tsD (ts : List Tab) : PyData := .tuple (ts.map tabD)
theorem ts_snoc (ts : List Tab) (t : Tab) (h : ts.length ≤ 100) : binF .add (tsD ts) (.tuple [tabD t]) = some (tsD (ts ++ [t])) := by
  show binF .add (.tuple (ts.map tabD)) (.tuple ([t].map tabD)) = _
  rw [add_tup (by simp; omega), ← List.map_append]; rfl
abbrev b32 : List Pv.S := [.par [3, 4, 5] [.val (.call 29 [.var 0, .con (.int 2)]), .val (.tup []), .val (.call 29 [.var 0, .con (.int 3)])], .ifs (.cmp .eq (.call 29 [.var 0, .con (.int 2)]) (.con (.int 0))) [.asg (.nm 1) (.bin .add (.var 1) (.tup [.tup [.con (.str "array"), .var 3, .call 31 [.var 0, .bin .add (.con (.int 1)) (.call 29 [.var 0, .con (.int 32)]), .con (.int 65535)]]]))] [.fors (.nm 6) (.rng1 (.call 29 [.var 0, .con (.int 17)])) b32p, .asg (.nm 1) (.bin .add (.var 1) (.tup [.tup [.con (.str "pairs"), .var 3, .var 4]]))]]
theorem b32_ok {m : Nat} (hm : 3 ≤ m) (W : Well a μ B) (hB : B + 1100 < 2 ^ 40) {ts : List Tab} (hl : ts.length ≤ 100) {x2 x3 x4 x5 x6 : Option Slot} :
    Drawn a (exSs (callF tab m) b32 [some (.val (.loc a)), some (.val (.d (tsD ts))), x2, x3, x4, x5, x6] μ) (B + 1100) fun f => ∃ t y3 y4 y5 y6, tabOk t = true ∧ f = .next [some (.val (.loc a)), some (.val (.d (tsD (ts ++ [t])))), x2, y3, y4, y5, y6] := by
  obtain ⟨_, μ1, e1, ⟨mv, rfl, hmv⟩, W1⟩ := t29 (n := m) (by omega) W (most := 2) (by omega) (by omega) (by omega)
  obtain ⟨_, μ2, e2, ⟨K, rfl, hK⟩, W2⟩ := t29 (n := m) (by omega) W1 (most := 3) (by omega) (by omega) (by omega)
  obtain ⟨_, μ3, e3, ⟨c, rfl, hc⟩, W3⟩ := t29 (n := m) (by omega) W2 (most := 2) (by omega) (by omega) (by omega)
  have e1 : callF tab m 29 [.loc a, .d (.int 2)] μ = .ok (.d (nD mv)) μ1 := e1
  have e2 : callF tab m 29 [.loc a, .d (.int 3)] μ1 = .ok (.d (nD K)) μ2 := e2
  have e3 : callF tab m 29 [.loc a, .d (.int 2)] μ2 = .ok (.d (nD c)) μ3 := e3
  have s0 : exS (callF tab m) (.par [3, 4, 5] [.val (.call 29 [.var 0, .con (.int 2)]), .val (.tup []), .val (.call 29 [.var 0, .con (.int 3)])]) [some (.val (.loc a)), some (.val (.d (tsD ts))), x2, x3, x4, x5, x6] μ = .ok (.next [some (.val (.loc a)), some (.val (.d (tsD ts))), x2, some (.val (.d (nD mv))), some (.val (.d (pD []))), some (.val (.d (nD K))), x6]) μ2 := by
    simp [e1, e2, setAll, pD]
  rcases (by omega : c = 0 ∨ c = 1) with rfl | rfl
  · obtain ⟨_, μ4, e4, ⟨r, rfl, hr⟩, W4⟩ := t29 (n := m) (by omega) W3 (most := 32) (by omega) (by omega) (by omega)
    obtain ⟨_, μ5, e5, ⟨ns, rfl, h1, h2⟩, W5⟩ := t31 (n := m) hm W4 (many := 1 + r) (most := 65535) (by omega) (by omega) (by omega)
    have e4 : callF tab m 29 [.loc a, .d (.int 32)] μ3 = .ok (.d (nD r)) μ4 := e4
    have e5 : callF tab m 31 [.loc a, .d (.int (1 + (r : Int))), .d (.int 65535)] μ4 = .ok (.d (rD ns)) μ5 := by
      have : ((1 + r : Nat) : Int) = 1 + (r : Int) := by omega
      rw [← this]; exact e5
    have ok : tabOk (.arr mv ns) = true := by
      simp only [tabOk, Bool.and_eq_true, decide_eq_true_eq, List.all_eq_true]
      exact ⟨⟨⟨by omega, by omega⟩, by omega⟩, h2⟩
    have e6 := ts_snoc ts (.arr mv ns) hl
    simp only [tabD] at e6
    refine ⟨_, μ5, ?_, ⟨.arr mv ns, some (.val (.d (nD mv))), some (.val (.d (pD []))), some (.val (.d (nD K))), x6, ok, rfl⟩, W5.mono (by omega)⟩
    refine (xs_next s0).trans ?_
    rw [xs_cons, if_yes (μ1 := μ3) (by simp [e3]), xs_cons]
    rw [asg_nm (v := .d (tsD (ts ++ [.arr mv ns]))) (μ1 := μ5) ?_ (by exact Nat.lt_of_sub_pos (Nat.succ_pos 5))]
    · simp
    · simp only [ev_bin, ev_var, List.getElem?_cons_succ, List.getElem?_cons_zero, R.bind_ok, ev_tup, evs_cons, evs_nil, ev_call, ev_con, e4, two_d, add_int, Option.map_some, lift_some, e5, allBy_d, allBy_nil]
      simp [e6]
  · obtain ⟨_, μ4, e4, ⟨r, rfl, hr⟩, W4⟩ := t29 (n := m) (by omega) W3 (most := 17) (by omega) (by omega) (by omega)
    have e4 : callF tab m 29 [.loc a, .d (.int 17)] μ3 = .ok (.d (nD r)) μ4 := e4
    obtain ⟨_, μ5, e5, ⟨qs, K', y6, P, hq, rfl⟩, W5⟩ := fo32p (a := a) (m := m) (by omega) (x1 := some (.val (.d (tsD ts)))) (x2 := x2) (x3 := some (.val (.d (nD mv)))) r 0 [] K x6 μ4 _ W4 (by omega) (by simp; omega) ⟨rfl, by simp, by simp, by simp; omega⟩
    have hb := P.K
    have ok : tabOk (.prs mv qs) = true := by
      simp only [tabOk, Bool.and_eq_true, decide_eq_true_eq, List.all_eq_true]
      refine ⟨⟨⟨by omega, by omega⟩, fun p hp => ⟨?_, P.v p hp⟩⟩, P.inc⟩
      have := P.lt p hp
      omega
    have e6 := ts_snoc ts (.prs mv qs) hl
    simp only [tabD] at e6
    refine ⟨_, μ5, ?_, ⟨.prs mv qs, some (.val (.d (nD mv))), some (.val (.d (pD qs))), some (.val (.d (nD K'))), y6, ok, rfl⟩, W5.mono (by omega)⟩
    refine (xs_next s0).trans ?_
    have it := it_rng (c := callF tab m) (ρ := [some (.val (.loc a)), some (.val (.d (tsD ts))), x2, some (.val (.d (nD mv))), some (.val (.d (pD []))), some (.val (.d (nD K))), x6]) (e := .call 29 [.var 0, .con (.int 17)]) (μ := μ3) (μ1 := μ4) (k := r) (by simp [e4]) (by omega)
    rw [xs_cons, if_no (μ1 := μ3) (by simp [e3]), xs_cons, x_fo, it, R.bind_ok, e5, R.bind_ok]
    dsimp only
    rw [xs_cons, asg_nm (v := .d (tsD (ts ++ [.prs mv qs]))) (μ1 := μ5) ?_ (by exact Nat.lt_of_sub_pos (Nat.succ_pos 5))]
    · simp
    · simp only [ev_bin, ev_var, List.getElem?_cons_succ, List.getElem?_cons_zero, R.bind_ok, ev_tup, evs_cons, evs_nil, ev_con, allBy_d, allBy_nil, Option.map_some]
      simp [e6]
end K82
end

/-! text K82S28 -/
section
namespace K82
open Pv PySem L2
open TL (numL spl joinL par pre)
open SX (S)
open NumText (digitsVal AllDigits)
variable {n : Nat} {μ : Sto} {a B : Nat}
theorem pow_ten {k : Nat} (h : k ≤ 100) : binF .pow (.int 10) (.int (k : Int)) = some (.int (10 ^ k)) := by
  show (if (0 : Int) ≤ (k : Int) ∧ (k : Int).natAbs ≤ 1000000 ∧ (10 : Int).natAbs < 2 ^ 64 then some ((10 : Int) ^ (k : Int).toNat) else none).map PyData.int = _
  rw [if_pos ⟨by omega, by omega, by decide⟩]; rfl
theorem fo32 {m : Nat} (hm : 3 ≤ m) : ∀ (k i : Nat) (ts : List Tab) (x2 x3 x4 x5 x6 : Option Slot) (μ : Sto) (B : Nat), Well a μ B → B + 1100 * k < 2 ^ 40 → ts.length + k ≤ 100 → (∀ t ∈ ts, tabOk t = true) →
    Drawn a (fo (callF tab m) (.nm 2) b32 ((List.range' i k).map fun (j : Nat) => .one (.d (.int (0 + (j : Int))))) [some (.val (.loc a)), some (.val (.d (tsD ts))), x2, x3, x4, x5, x6] μ) (B + 1100 * k) fun f => ∃ us y2 y3 y4 y5 y6, (∀ t ∈ us, tabOk t = true) ∧ us.length = ts.length + k ∧ f = .next [some (.val (.loc a)), some (.val (.d (tsD us))), y2, y3, y4, y5, y6]
  | 0, i, ts, x2, x3, x4, x5, x6, μ, B, W, _, _, ho => ⟨_, μ, rfl, ⟨ts, x2, x3, x4, x5, x6, ho, rfl, rfl⟩, W⟩
  | k + 1, i, ts, x2, x3, x4, x5, x6, μ, B, W, hB, hl, ho => by
    obtain ⟨_, μ1, e, ⟨t, y3, y4, y5, y6, ht, rfl⟩, W1⟩ := b32_ok (μ := μ) hm W (by omega) (ts := ts) (by omega) (x2 := some (.val (.d (.int (0 + (i : Int)))))) (x3 := x3) (x4 := x4) (x5 := x5) (x6 := x6)
    obtain ⟨f, μ2, e2, ⟨us, z2, z3, z4, z5, z6, h1, h2, rfl⟩, W2⟩ := fo32 hm k (i + 1) (ts ++ [t]) (some (.val (.d (.int (0 + (i : Int)))))) y3 y4 y5 y6 μ1 (B + 1100) W1 (by omega) (by simp; omega) (fun u hu => by
      rcases List.mem_append.mp hu with hu | hu
      · exact ho u hu
      · simp at hu; subst hu; exact ht)
    refine ⟨_, μ2, ?_, ⟨us, z2, z3, z4, z5, z6, h1, by simp at h2; omega, rfl⟩, W2.mono (by omega)⟩
    rw [List.range'_succ, List.map_cons, fo_cons]
    have ai : asgI (.nm 2) (.one (.d (.int (0 + (i : Int))))) [some (.val (.loc a)), some (.val (.d (tsD ts))), x2, x3, x4, x5, x6] = some [some (.val (.loc a)), some (.val (.d (tsD ts))), some (.val (.d (.int (0 + (i : Int))))), x3, x4, x5, x6] := rfl
    rw [ai]
    dsimp only
    rw [e, R.bind_ok]
    exact e2
theorem t32 (h : 4 ≤ n) (W : Well a μ B) (hB : B + 7000 < 2 ^ 40) : Drawn a (callF tab n 32 [.loc a] μ) (B + 7000) fun v => ∃ ts : List Tab, v = .d (tsD ts) ∧ ts.length ≤ 6 ∧ ∀ t ∈ ts, tabOk t = true := by
  obtain ⟨m, rfl⟩ : ∃ m, n = m + 1 := ⟨n - 1, by omega⟩
  obtain ⟨_, μ1, e1, ⟨k, rfl, hk⟩, W1⟩ := t29 (n := m) (by omega) W (most := 7) (by omega) (by omega) (by omega)
  have e1 : callF tab m 29 [.loc a, .d (.int 7)] μ = .ok (.d (nD k)) μ1 := e1
  obtain ⟨_, μ2, e, ⟨us, y2, y3, y4, y5, y6, h1, h2, rfl⟩, W2⟩ := fo32 (a := a) (m := m) (by omega) k 0 [] none none none none none μ1 (B + 1) W1 (by omega) (by simp; omega) (by simp)
  refine ⟨.d (tsD us), μ2, ?_, ⟨us, rfl, by simp at h2; omega, h1⟩, W2.mono (by omega)⟩
  refine call_ret (fs := tab) (f := 32) (fn := f32) (vs := [.loc a]) (n := m) rfl rfl ?_
  have st : startR f32.N.length [.loc a] = [some (.val (.loc a)), none, none, none, none, none, none] := rfl
  rw [st]
  refine (xs_next (ρ1 := [some (.val (.loc a)), some (.val (.d (tsD []))), none, none, none, none, none]) (μ1 := μ) (by simp [tsD])).trans ?_
  have it := it_rng (c := callF tab m) (ρ := [some (.val (.loc a)), some (.val (.d (tsD []))), none, none, none, none, none]) (e := .call 29 [.var 0, .con (.int 7)]) (μ := μ) (μ1 := μ1) (k := k) (by simp [e1]) (by omega)
  refine (xs_next (ρ1 := [some (.val (.loc a)), some (.val (.d (tsD us))), y2, y3, y4, y5, y6]) (μ1 := μ2) ?_).trans ?_
  · rw [x_fo, it, R.bind_ok]
    exact e
  · exact xs_done (ret_is rfl)
theorem kinds_S : ([.str "place", .str "table", .str "index", .str "handle", .str "packet", .str "grant"] : List PyData) = kinds.map fun k => .str (S k) := by
  simp only [kinds, List.map_cons, List.map_nil, T_S]
theorem t33 (h : 5 ≤ n) (W : Well a μ B) (hB : B + 20000 < 2 ^ 40) : Drawn a (callF tab n 33 [.loc a] μ) (B + 20000) fun v => ∃ r : Run, v = .d (runD r) ∧ RunOk r := by
  obtain ⟨m, rfl⟩ : ∃ m, n = m + 1 := ⟨n - 1, by omega⟩
  obtain ⟨_, μ1, e1, ⟨x1, rfl, hx1⟩, W1⟩ := t30 (n := m) (by omega) W (xs := [.str "place", .str "table", .str "index", .str "handle", .str "packet", .str "grant"]) (by simp) (by simp) (by omega)
  rw [kinds_S] at hx1
  obtain ⟨k, hk, rfl⟩ := List.mem_map.mp hx1
  obtain ⟨_, μ2, e2, ⟨v2, rfl, hv2⟩, W2⟩ := t29 (n := m) (by omega) W1 (most := 65536) (by omega) (by omega) (by omega)
  obtain ⟨_, μ3, e3, ⟨x3, rfl, hx3⟩, W3⟩ := t30 (n := m) (by omega) W2 (xs := [.none, .tuple [.str "answer", nD v2], .tuple [.str "answer", .int 0], .tuple [.str "fault", .str (S k)]]) (by simp) (by simp) (by omega)
  obtain ⟨fin, rfl, hfin⟩ : ∃ e : End, x3 = endD e ∧ endOk e := by
    simp only [List.mem_cons, List.not_mem_nil, or_false] at hx3
    rcases hx3 with rfl | rfl | rfl | rfl
    · exact ⟨.none, rfl, trivial⟩
    · exact ⟨.ans v2, rfl, by show v2 ≤ 65535; omega⟩
    · exact ⟨.ans 0, rfl, by show 0 ≤ 65535; omega⟩
    · exact ⟨.fault k, rfl, hk⟩
  obtain ⟨_, μ4, e4, ⟨v4, rfl, hv4⟩, W4⟩ := t29 (n := m) (by omega) W3 (most := 10 ^ 9) (by omega) (by omega) (by omega)
  obtain ⟨_, μ5, e5, ⟨x5, rfl, hx5⟩, W5⟩ := t30 (n := m) (by omega) W4 (xs := [.int 0, .int 7, nD v4, .int (10 ^ 29 + 1)]) (by simp) (by simp) (by omega)
  obtain ⟨st, rfl, hst⟩ : ∃ k : Nat, x5 = nD k ∧ k < 10 ^ 100 := by
    simp only [List.mem_cons, List.not_mem_nil, or_false] at hx5
    rcases hx5 with rfl | rfl | rfl | rfl
    · exact ⟨0, rfl, by decide +kernel⟩
    · exact ⟨7, rfl, by decide +kernel⟩
    · exact ⟨v4, rfl, Nat.lt_trans hv4 (by decide +kernel)⟩
    · exact ⟨10 ^ 29 + 1, rfl, by decide +kernel⟩
  obtain ⟨_, μ6, e6, ⟨x6, rfl, hx6⟩, W6⟩ := t30 (n := m) (by omega) W5 (xs := [.int 0, .int 1, .int 9, .int 256]) (by simp) (by simp) (by omega)
  obtain ⟨pm, rfl, hpm⟩ : ∃ k : Nat, x6 = nD k ∧ k ≤ 256 := by
    simp only [List.mem_cons, List.not_mem_nil, or_false] at hx6
    rcases hx6 with rfl | rfl | rfl | rfl
    · exact ⟨0, rfl, by omega⟩
    · exact ⟨1, rfl, by omega⟩
    · exact ⟨9, rfl, by omega⟩
    · exact ⟨256, rfl, by omega⟩
  obtain ⟨_, μ7, e7, ⟨pkt, rfl, hp1, hp2⟩, W7⟩ := t31 (n := m) (by omega) W6 (many := pm) (most := 255) (by omega) hpm (by omega)
  obtain ⟨_, μ8, e8, ⟨regs, rfl, hr1, hr2⟩, W8⟩ := t31 (n := m) (by omega) W7 (many := 8) (most := 65535) (by omega) (by omega) (by omega)
  obtain ⟨_, μ9, e9, ⟨slots, rfl, hs1, hs2⟩, W9⟩ := t31 (n := m) (by omega) W8 (many := 16) (most := 65535) (by omega) (by omega) (by omega)
  obtain ⟨_, μ10, e10, ⟨ctrs, rfl, hc1, hc2⟩, W10⟩ := t31 (n := m) (by omega) W9 (many := 4) (most := 100) (by omega) (by omega) (by omega)
  obtain ⟨_, μ11, e11, ⟨pl, rfl, hpl⟩, W11⟩ := t29 (n := m) (by omega) W10 (most := 121) (by omega) (by omega) (by omega)
  obtain ⟨_, μ12, e12, ⟨ck, rfl, hck⟩, W12⟩ := t29 (n := m) (by omega) W11 (most := 65536) (by omega) (by omega) (by omega)
  obtain ⟨_, μ13, e13, ⟨ts, rfl, ht1, ht2⟩, W13⟩ := t32 (n := m) (by omega) W12 (by omega)
  obtain ⟨_, μ14, e14, ⟨wr, rfl, hwr⟩, W14⟩ := t29 (n := m) (by omega) W13 (most := 2) (by omega) (by omega) (by omega)
  have e2 : callF tab m 29 [.loc a, .d (.int 65536)] μ1 = .ok (.d (nD v2)) μ2 := e2
  have e4 : callF tab m 29 [.loc a, .d (.int (10 ^ 9))] μ3 = .ok (.d (nD v4)) μ4 := e4
  have e7 : callF tab m 31 [.loc a, .d (nD pm), .d (.int 255)] μ6 = .ok (.d (rD pkt)) μ7 := e7
  have e8 : callF tab m 31 [.loc a, .d (.int 8), .d (.int 65535)] μ7 = .ok (.d (rD regs)) μ8 := e8
  have e9 : callF tab m 31 [.loc a, .d (.int 16), .d (.int 65535)] μ8 = .ok (.d (rD slots)) μ9 := e9
  have e10 : callF tab m 31 [.loc a, .d (.int 4), .d (.int 100)] μ9 = .ok (.d (rD ctrs)) μ10 := e10
  have e11 : callF tab m 29 [.loc a, .d (.int 121)] μ10 = .ok (.d (nD pl)) μ11 := e11
  have e12 : callF tab m 29 [.loc a, .d (.int 65536)] μ11 = .ok (.d (nD ck)) μ12 := e12
  have e14 : callF tab m 29 [.loc a, .d (.int 2)] μ13 = .ok (.d (nD wr)) μ14 := e14
  let r : Run := ⟨regs, slots, ctrs, pl, pkt, ts, ck, st, fin, wr⟩
  refine ⟨.d (runD r), μ14, ?_, ⟨r, rfl, ⟨⟨hr1, hr2⟩, ⟨hs1, hs2⟩, ⟨hc1, hc2⟩, by show pl ≤ 120; omega, ⟨by show pkt.length ≤ 256; omega, hp2⟩, ⟨ht1, ht2⟩, by show ck ≤ 65535; omega, hst, hfin, by show wr ≤ 1; omega⟩⟩, W14.mono (by omega)⟩
  refine call_ret (fs := tab) (f := 33) (fn := f33) (vs := [.loc a]) (n := m) rfl rfl ?_
  have p9 : binF .pow (.int 10) (.int 9) = some (.int (10 ^ 9)) := pow_ten (k := 9) (by decide)
  have p29 : binF .pow (.int 10) (.int 29) = some (.int (10 ^ 29)) := pow_ten (k := 29) (by decide)
  have pl6 : ∀ μ, pureL [.d (.str "place"), .d (.str "table"), .d (.str "index"), .d (.str "handle"), .d (.str "packet"), .d (.str "grant")] μ = .ok (.d (.list [.str "place", .str "table", .str "index", .str "handle", .str "packet", .str "grant"])) μ := fun μ => pureL_ok (ds := [.str "place", .str "table", .str "index", .str "handle", .str "packet", .str "grant"]) (by rw [sizeLine_is]; simp)
  have pl4 : ∀ (a b c d : PyData) μ, pureL [.d a, .d b, .d c, .d d] μ = .ok (.d (.list [a, b, c, d])) μ := fun a b c d μ => pureL_ok (ds := [a, b, c, d]) (by rw [sizeLine_is]; simp)
  let ρ (x1 x2 x3 x4 x5 x6 x7 x8 x9 : Option Slot) : REnv := [some (.val (.loc a)), x1, x2, x3, x4, x5, x6, x7, x8, x9]
  let k1 : Option Slot := some (.val (.d (.str (S k))))
  let k2 : Option Slot := some (.val (.d (endD fin)))
  let k3 : Option Slot := some (.val (.d (nD st)))
  let k4 : Option Slot := some (.val (.d (rD pkt)))
  let k5 : Option Slot := some (.val (.d (rD regs)))
  let k6 : Option Slot := some (.val (.d (rD slots)))
  let k7 : Option Slot := some (.val (.d (rD ctrs)))
  let k8 : Option Slot := some (.val (.d (nD pl)))
  let k9 : Option Slot := some (.val (.d (nD ck)))
  show exSs (callF tab m) f33.body (ρ none none none none none none none none none) μ = _
  refine (xs_next (ρ1 := ρ k1 none none none none none none none none) (μ1 := μ1) ?_).trans ?_
  · refine (asg_nm (v := .d (.str (S k))) (μ1 := μ1) ?_ (by exact Nat.lt_of_sub_pos (Nat.succ_pos 8))).trans rfl
    simp [ρ, pl6, e1]
  refine (xs_next (ρ1 := ρ k1 k2 none none none none none none none) (μ1 := μ3) ?_).trans ?_
  · refine (asg_nm (v := .d (endD fin)) (μ1 := μ3) ?_ (by exact Nat.lt_of_sub_pos (Nat.succ_pos 7))).trans rfl
    simp [ρ, k1, e2, pl4, e3]
  refine (xs_next (ρ1 := ρ k1 k2 k3 none none none none none none) (μ1 := μ5) ?_).trans ?_
  · refine (asg_nm (v := .d (nD st)) (μ1 := μ5) ?_ (by exact Nat.lt_of_sub_pos (Nat.succ_pos 6))).trans rfl
    simp only [ev_call, evs_cons, evs_nil, ev_var, ρ, List.getElem?_cons_zero, R.bind_ok, ev_lst, ev_con, ev_bin, two_d, p9, p29, Option.map_some, lift_some, e4, add_int, pl4, e5]
  refine (xs_next (ρ1 := ρ k1 k2 k3 k4 none none none none none) (μ1 := μ7) ?_).trans ?_
  · refine (asg_nm (v := .d (rD pkt)) (μ1 := μ7) ?_ (by exact Nat.lt_of_sub_pos (Nat.succ_pos 5))).trans rfl
    simp [ρ, pl4, e6, e7]
  refine (xs_next (ρ1 := ρ k1 k2 k3 k4 k5 k6 k7 none none) (μ1 := μ10) ?_).trans ?_
  · simp [ρ, setAll, e8, e9, e10, k5, k6, k7]
  refine (xs_next (ρ1 := ρ k1 k2 k3 k4 k5 k6 k7 k8 k9) (μ1 := μ12) ?_).trans ?_
  · simp [ρ, setAll, e11, e12, k8, k9]
  refine xs_done (ret_is ?_)
  simp [ρ, e13, e14, k1, k2, k3, k4, k5, k6, k7, k8, k9, runD, r, tsD]
end K82
end

/-! text K82S29 -/
section
namespace K82
open Pv PySem L2
open TL (numL spl joinL par pre)
open SX (S)
open NumText (digitsVal AllDigits)
variable {n : Nat} {μ : Sto} {a B : Nat}
abbrev b28 : List Pv.S := [.asg (.nm 2) (.bin .mod (.bi .int [.bin .add (.bin .add (.bin .mul (.var 2) (.con (.int 69069))) (.bin .mod (.bi .int [.var 3]) (.con (.int 2147483563)))) (.con (.int 31))]) (.con (.int 2147483629)))]
theorem lg60 {i : Int} (h1 : 0 ≤ i) (h2 : i < 2 ^ 60) : i.natAbs.log2 < 60 := log_le (by omega) (by decide)
theorem b28_ok (c : CallF) {M z : Int} (h1 : 0 ≤ M) (h2 : M ≤ 2147483629) {x0 x1 x4 x5 : Option Slot} : ∃ M', 0 ≤ M' ∧ M' ≤ 2147483629 ∧ exSs c b28 [x0, x1, some (.val (.d (.int M))), some (.val (.d (.int z))), x4, x5] μ = .ok (.next [x0, x1, some (.val (.d (.int M'))), some (.val (.d (.int z))), x4, x5]) μ := by
  have m1 : binF .mul (.int M) (.int 69069) = some (.int (M * 69069)) := mul_int (by have := lg60 h1 (by omega); have := lg60 (i := 69069) (by decide) (by decide); omega)
  refine ⟨(M * 69069 + z % 2147483563 + 31) % 2147483629, Int.emod_nonneg _ (by decide), Int.le_of_lt (Int.emod_lt_of_pos _ (by decide)), ?_⟩
  refine (xs_next (asg_nm (v := .d (.int ((M * 69069 + z % 2147483563 + 31) % 2147483629))) (μ1 := μ) ?_ (by exact Nat.lt_of_sub_pos (Nat.succ_pos 3)))).trans rfl
  simp only [ev_bin, ev_bi, evs_cons, evs_nil, ev_con, ev_var, List.getElem?_cons_succ, List.getElem?_cons_zero, R.bind_ok, int_int, lift_some, two_d, Option.map_some, m1, mod_pos (show (0 : Int) < 2147483563 by decide), add_int, mod_pos (show (0 : Int) < 2147483629 by decide)]
theorem fo28 (c : CallF) {x0 x1 x4 x5 : Option Slot} : ∀ (zs : List Int) (M : Int) (x3 : Option Slot), 0 ≤ M → M ≤ 2147483629 → ∃ M' y3, 0 ≤ M' ∧ M' ≤ 2147483629 ∧ fo c (.nm 3) b28 (zs.map fun z => .one (.d (.int z))) [x0, x1, some (.val (.d (.int M))), x3, x4, x5] μ = .ok (.next [x0, x1, some (.val (.d (.int M'))), y3, x4, x5]) μ
  | [], M, x3, h1, h2 => ⟨M, x3, h1, h2, rfl⟩
  | z :: zs, M, x3, h1, h2 => by
    obtain ⟨M1, a1, a2, e1⟩ := b28_ok (μ := μ) c (z := z) h1 h2 (x0 := x0) (x1 := x1) (x4 := x4) (x5 := x5)
    obtain ⟨M2, y3, c1, c2, e2⟩ := fo28 c (x0 := x0) (x1 := x1) (x4 := x4) (x5 := x5) zs M1 (some (.val (.d (.int z)))) a1 a2
    refine ⟨M2, y3, c1, c2, ?_⟩
    rw [List.map_cons, fo_cons]
    have ai : asgI (.nm 3) (.one (.d (.int z))) [x0, x1, some (.val (.d (.int M))), x3, x4, x5] = some [x0, x1, some (.val (.d (.int M))), some (.val (.d (.int z))), x4, x5] := rfl
    rw [ai]
    dsimp only
    rw [e1, R.bind_ok]
    exact e2
theorem abs_bi (i : Int) : biF .abs [.d (.int i)] = some (.d (.int (absI i))) := rfl
theorem scr_len (zs : List Int) : biF .len [.scr zs] = some (.d (.int zs.length)) := rfl
theorem t28 (h : 1 ≤ n) (zs : List Int) (j : Nat) (hj : j ≤ 100) : ∃ μ1, callF tab n 28 [.scr zs, .d (nD j)] μ = .ok (.loc μ.length) μ1 ∧ Well μ.length μ1 0 := by
  obtain ⟨m, rfl⟩ : ∃ m, n = m + 1 := ⟨n - 1, by omega⟩
  let M0 : Int := 410009 + 9173 * (j : Int)
  obtain ⟨M, y3, hM1, hM2, e⟩ := fo28 (μ := μ) (callF tab m) (x0 := some (.val (.scr zs))) (x1 := some (.val (.d (nD j)))) (x4 := none) (x5 := none) (cutD zs none (some 9)) M0 none (by omega) (by omega)
  have m0 : binF .mul (.int 9173) (.int (j : Int)) = some (.int (9173 * (j : Int))) := mul_int (by have := lg60 (i := (j : Int)) (by omega) (by omega); have := lg60 (i := 9173) (by decide) (by decide); omega)
  have m2 : binF .mul (.int 7213) (.int (j : Int)) = some (.int (7213 * (j : Int))) := mul_int (by have := lg60 (i := (j : Int)) (by omega) (by omega); have := lg60 (i := 7213) (by decide) (by decide); omega)
  let own : Int := match zs[j]? with | some z => z | none => 7213 * (j : Int) + 211
  have q0 : 0 ≤ own % 2147483563 := Int.emod_nonneg _ (by decide)
  have q1 : own % 2147483563 < 2147483563 := Int.emod_lt_of_pos _ (by decide)
  have m3 : binF .mul (.int M) (.int 97) = some (.int (M * 97)) := mul_int (by have := lg60 (i := M) hM1 (by omega); have := lg60 (i := 97) (by decide) (by decide); omega)
  have m4 : binF .mul (.int (own % 2147483563)) (.int 6007) = some (.int (own % 2147483563 * 6007)) := mul_int (by have := lg60 (i := own % 2147483563) q0 (by omega); have := lg60 (i := 6007) (by decide) (by decide); omega)
  let seed : Int := (M * 97 + own % 2147483563 * 6007 + 5) % 2147483629
  have s0 : 0 ≤ seed := Int.emod_nonneg _ (by decide)
  have s1 : seed < 2147483629 := Int.emod_lt_of_pos _ (by decide)
  let left : Int := if 10 ^ 18 ≤ absI own then absI own else 0
  have dz : dictOf [((.inr "left" : Key), RV.d (.int left)), (.inr "seed", .d (.int seed)), (.inr "many", .d (.int 0))] = kvsW left seed 0 := rfl
  refine ⟨μ ++ [.dict (kvsW left seed 0)], ?_, left, seed, 0, by simp, s0, by omega, by omega, by omega⟩
  refine call_ret (fs := tab) (f := 28) (fn := f28) (vs := [.scr zs, .d (nD j)]) (n := m) rfl rfl ?_
  let ρ (x2 x3 x4 x5 : Option Slot) : REnv := [some (.val (.scr zs)), some (.val (.d (nD j))), x2, x3, x4, x5]
  show exSs (callF tab m) f28.body (ρ none none none none) μ = _
  refine (xs_next (asg_nm (v := .d (.int M0)) (μ1 := μ) ?_ (by exact Nat.lt_of_sub_pos (Nat.succ_pos 3)))).trans ?_
  · simp [ρ, m0, M0]
  refine (xs_next (ρ1 := ρ (some (.val (.d (.int M)))) y3 none none) (μ1 := μ) ?_).trans ?_
  · have it : evI (callF tab m) (ρ (some (.val (.d (.int M0)))) none none none) (.seq (.sli (.var 0) none (some (.con (.int 9))))) μ = .ok ((cutD zs none (some 9)).map fun z => .one (.d (.int z))) μ := by
      have e1 : sliR none (some 9) (.scr zs) = some (.d (.list ((cutD zs none (some 9)).map .int))) := rfl
      have e2 : seqItems (.list ((cutD zs none (some 9)).map .int)) = some ((cutD zs none (some 9)).map .int) := rfl
      simp only [evi_seq, ev_sli, ev_var, ρ, List.getElem?_cons_zero, R.bind_ok, evo_none, evo_some, ev_con, e1, lift_some, e2, Option.map_some, List.map_map]
      rfl
    show exS (callF tab m) (.fors (.nm 3) (.seq (.sli (.var 0) none (some (.con (.int 9))))) b28) (ρ (some (.val (.d (.int M0)))) none none none) μ = _
    rw [x_fo, it, R.bind_ok]
    exact e
  refine (xs_next (ρ1 := ρ (some (.val (.d (.int M)))) y3 (some (.val (.d (.int own)))) none) (μ1 := μ) ?_).trans ?_
  · refine (asg_nm (v := .d (.int own)) (μ1 := μ) ?_ (by exact Nat.lt_of_sub_pos (Nat.succ_pos 1))).trans rfl
    have ix : idxS μ (.scr zs) (.d (.int (j : Int))) = (zs[j]?).map fun z => .d (.int z) := by
      show (atI zs (j : Int)).map (fun z => RV.d (.int z)) = _
      rw [atI_n]
    by_cases q : j < zs.length
    · have q' : (j : Int) < zs.length := by omega
      have o : own = zs[j] := by show (match zs[j]? with | some z => z | none => _) = _; rw [List.getElem?_eq_getElem q]
      rw [List.getElem?_eq_getElem q] at ix
      rw [o]
      simp [ρ, scr_len, q', ix, int_int]
    · have q' : ¬ (j : Int) < zs.length := by omega
      have o : own = 7213 * (j : Int) + 211 := by show (match zs[j]? with | some z => z | none => _) = _; rw [List.getElem?_eq_none (by omega)]
      rw [o]
      simp [ρ, scr_len, q', m2]
  refine (xs_next (ρ1 := ρ (some (.val (.d (.int M)))) y3 (some (.val (.d (.int own)))) (some (.val (.d (.int seed))))) (μ1 := μ) ?_).trans ?_
  · refine (asg_nm (v := .d (.int seed)) (μ1 := μ) ?_ (by exact Nat.lt_of_sub_pos (Nat.succ_pos 0))).trans rfl
    simp only [ev_bin, ev_bi, evs_cons, evs_nil, ev_con, ev_var, ρ, List.getElem?_cons_succ, List.getElem?_cons_zero, R.bind_ok, int_int, lift_some, two_d, Option.map_some, m3, m4, mod_pos (show (0 : Int) < 2147483563 by decide), add_int, mod_pos (show (0 : Int) < 2147483629 by decide)]
    rfl
  refine xs_done (ret_is ?_)
  have p18 : binF .pow (.int 10) (.int 18) = some (.int (10 ^ 18)) := pow_ten (k := 18) (by decide)
  have lf : evE (callF tab m) (ρ (some (.val (.d (.int M)))) y3 (some (.val (.d (.int own)))) (some (.val (.d (.int seed))))) (.ite (.cmp .ge (.bi .abs [.var 4]) (.bin .pow (.con (.int 10)) (.con (.int 18)))) (.bi .abs [.var 4]) (.con (.int 0))) μ = .ok (.d (.int left)) μ := by
    have a1 : evE (callF tab m) (ρ (some (.val (.d (.int M)))) y3 (some (.val (.d (.int own)))) (some (.val (.d (.int seed))))) (.bi .abs [.var 4]) μ = .ok (.d (.int (absI own))) μ := by
      simp only [ev_bi, evs_cons, evs_nil, ev_var, ρ, List.getElem?_cons_succ, List.getElem?_cons_zero, R.bind_ok, abs_bi, lift_some]
    simp only [ev_ite, ev_cmp, a1, ev_bin, ev_con, R.bind_ok, two_d, p18, Option.map_some, lift_some, twoB_d, ge_int, truR_b]
    by_cases q : (10 ^ 18 : Int) ≤ absI own
    · simp only [decide_eq_true q]
      show R.ok (RV.d (.int (absI own))) μ = .ok (.d (.int (if 10 ^ 18 ≤ absI own then absI own else 0))) μ
      rw [if_pos q]
    · simp only [decide_eq_false q]
      show R.ok (RV.d (.int 0)) μ = .ok (.d (.int (if 10 ^ 18 ≤ absI own then absI own else 0))) μ
      rw [if_neg q]
  simp only [ev_disp, evs_cons, evs_nil, lf, R.bind_ok, ev_var, ρ, List.getElem?_cons_succ, List.getElem?_cons_zero, ev_con, List.length_cons, List.length_nil, if_true]
  rfl
end K82
end

/-! text K82S30 -/
section
namespace K82
open Pv PySem L2
open TL (numL spl joinL par pre)
open SX (S)
open NumText (digitsVal AllDigits)
open PyProof.Rows (up1)
variable {n : Nat} {μ : Sto} {a B : Nat}
def asc (l : List Nat) : Prop := ∀ c ∈ l, c < 128
theorem asc_app {l m : List Nat} (h1 : asc l) (h2 : asc m) : asc (l ++ m) := fun c hc => by
  rcases List.mem_append.mp hc with h | h
  · exact h1 c h
  · exact h2 c h
theorem asc_of {l : List Nat} (h : l.all (· < 128) = true) : asc l := fun c hc => by simpa using List.all_eq_true.mp h c hc
theorem asc_num (k : Nat) : asc (numL k) := fun c hc => by
  have := List.all_eq_true.mp (numL_all k) c hc
  simp only [Bool.and_eq_true, decide_eq_true_eq] at this
  omega
theorem asc_word (p : Nat × Nat) : asc (word p) := by
  unfold word
  split
  · exact asc_num _
  · exact asc_app (asc_num _) (fun c hc => by
      rcases List.mem_cons.mp hc with h | h
      · omega
      · exact asc_num _ c h)
theorem asc_join : ∀ ws : List (List Nat), (∀ w ∈ ws, asc w) → asc (joinL [32] ws)
  | [], _ => fun c hc => by simp [joinL] at hc
  | [w], h => h w (by simp)
  | w :: x :: t, h => by
    have ih := asc_join (x :: t) fun w hw => h w (List.mem_cons_of_mem _ hw)
    have h1 := h w (by simp)
    show asc (w ++ ([32] ++ joinL [32] (x :: t)))
    first
    | exact asc_app h1 (asc_app (asc_of (by decide)) ih)
theorem asc_line {h ns : List Nat} (hh : asc h) : asc (lineT h ns) := by
  have : asc (rowT ns) := asc_join _ fun w hw => by
    obtain ⟨p, _, rfl⟩ := List.mem_map.mp hw
    exact asc_word p
  unfold lineT
  split
  · exact hh
  · exact asc_app hh (fun c hc => by
      rcases List.mem_cons.mp hc with h | h
      · omega
      · exact this c h)
theorem asc_end {e : End} (h : endOk e) : asc (endT e) := by
  cases e with
  | none => exact asc_of (by decide +kernel)
  | ans v => exact asc_app (asc_of (by decide +kernel)) (asc_num v)
  | fault k =>
    have h : k ∈ kinds := h
    have a : ∀ k ∈ kinds, (T "end fault " ++ k).all (· < 128) = true := by decide +kernel
    exact asc_of (a k h)
theorem asc_tab (t : Tab) : asc (tabT t) := by
  have hd : ∀ (s : List Nat) m, asc s → asc (headT s m) := fun s m h => asc_app h (fun c hc => by
    rcases List.mem_cons.mp hc with h | h
    · omega
    · exact asc_app (asc_num m) (asc_of (by decide)) c h)
  cases t with
  | arr m ns => exact asc_line (hd _ m (asc_of (by decide +kernel)))
  | prs m ps => exact asc_line (hd _ m (asc_of (by decide +kernel)))
theorem asc_lines {r : Run} (o : RunOk r) : ∀ l ∈ linesT r, asc l := by
  intro l hl
  rcases List.mem_append.mp hl with hl | hl
  · simp only [nine, List.mem_cons, List.not_mem_nil, or_false] at hl
    rcases hl with rfl | rfl | rfl | rfl | rfl | rfl | rfl | rfl | rfl
    · exact asc_line (asc_of (by decide +kernel))
    · exact asc_line (asc_of (by decide +kernel))
    · exact asc_end o.fin
    · exact asc_line (asc_of (by decide +kernel))
    · exact asc_line (asc_of (by decide +kernel))
    · exact asc_line (asc_of (by decide +kernel))
    · exact asc_line (asc_of (by decide +kernel))
    · exact asc_line (asc_of (by decide +kernel))
    · exact asc_line (asc_of (by decide +kernel))
  · obtain ⟨t, ht, rfl⟩ := List.mem_map.mp hl
    exact asc_tab t
/-- the first sign is a small letter -/
def low (l : List Nat) : Prop := ∃ c t, l = c :: t ∧ 97 ≤ c ∧ c ≤ 122
theorem low_line {h ns : List Nat} (hh : low h) : low (lineT h ns) := by
  obtain ⟨c, t, rfl, h1, h2⟩ := hh
  unfold lineT
  split
  · exact ⟨c, t, rfl, h1, h2⟩
  · exact ⟨c, _, rfl, h1, h2⟩
theorem low_of {l : List Nat} (h : (match l.head? with | some c => decide (97 ≤ c) && decide (c ≤ 122) | none => false) = true) : low l := by
  cases l with
  | nil => cases h
  | cons c t =>
    simp only [List.head?_cons, Bool.and_eq_true, decide_eq_true_eq] at h
    exact ⟨c, t, rfl, h.1, h.2⟩
theorem low_app {l m : List Nat} (h : low l) : low (l ++ m) := by
  obtain ⟨c, t, rfl, h1, h2⟩ := h
  exact ⟨c, t ++ m, rfl, h1, h2⟩
theorem low_end (e : End) : low (endT e) := by
  cases e with
  | none => exact low_of (by decide +kernel)
  | ans v => exact low_app (low_of (by decide +kernel))
  | fault k => exact low_app (low_of (by decide +kernel))
theorem low_tab (t : Tab) : low (tabT t) := by
  cases t with
  | arr m ns => exact low_line (low_app (low_of (by decide +kernel)))
  | prs m ps => exact low_line (low_app (low_of (by decide +kernel)))
theorem low_lines (r : Run) : ∀ l ∈ linesT r, low l := by
  intro l hl
  rcases List.mem_append.mp hl with hl | hl
  · simp only [nine, List.mem_cons, List.not_mem_nil, or_false] at hl
    rcases hl with rfl | rfl | rfl | rfl | rfl | rfl | rfl | rfl | rfl
    · exact low_line (low_of (by decide +kernel))
    · exact low_line (low_of (by decide +kernel))
    · exact low_end _
    · exact low_line (low_of (by decide +kernel))
    · exact low_line (low_of (by decide +kernel))
    · exact low_line (low_of (by decide +kernel))
    · exact low_line (low_of (by decide +kernel))
    · exact low_line (low_of (by decide +kernel))
    · exact low_line (low_of (by decide +kernel))
  · obtain ⟨t, ht, rfl⟩ := List.mem_map.mp hl
    exact low_tab t
def base8 (l : List Nat) : List (List Nat) := [l ++ [32], 32 :: l, [], l ++ [32, 48, 32, 48], StrLaws.dbl 32 l ++ [32], l.map up1, [120], l ++ [120]]
theorem up_first {l : List Nat} (h : low l) : ∃ c t, l.map up1 = c :: t ∧ c < 97 := by
  obtain ⟨c, t, rfl, h1, h2⟩ := h
  refine ⟨up1 c, t.map up1, rfl, ?_⟩
  unfold up1
  rw [if_pos ⟨h1, h2⟩]; omega
theorem base_wrong {l b : List Nat} (h : low l) (hb : b ∈ base8 l) : Wrong b := by
  obtain ⟨c, t, e, hc⟩ := up_first h
  simp only [base8, List.mem_cons, List.not_mem_nil, or_false] at hb
  rcases hb with rfl | rfl | rfl | rfl | rfl | rfl | rfl | rfl
  · exact .blank l
  · exact .first 32 l (by decide)
  · exact .nil
  · exact .twice l
  · exact .blank _
  · rw [e]; exact .first c t hc
  · exact .ex []
  · exact .ex l
theorem base_wrongE {e : End} {b : List Nat} (hb : b ∈ base8 (endT e)) : WrongE e b := by
  obtain ⟨c, t, e1, hc⟩ := up_first (low_end e)
  simp only [base8, List.mem_cons, List.not_mem_nil, or_false] at hb
  rcases hb with rfl | rfl | rfl | rfl | rfl | rfl | rfl | rfl
  · exact .blank _
  · exact .first 32 _ (by decide)
  · exact .nil
  · exact .twice
  · exact .blank _
  · rw [e1]; exact .first c t (by omega)
  · exact .first 120 [] (by decide)
  · exact .ex
theorem dbl_mem {c : Nat} : ∀ (l : List Nat) (x : Nat), x ∈ StrLaws.dbl c l → x ∈ l
  | [], x, h => by cases h
  | k :: r, x, h => by
    unfold StrLaws.dbl at h
    split at h
    · rcases List.mem_cons.mp h with h | h
      · exact h ▸ List.mem_cons_self
      · rcases List.mem_cons.mp h with h | h
        · exact h ▸ List.mem_cons_self
        · exact List.mem_cons_of_mem _ (dbl_mem r x h)
    · rcases List.mem_cons.mp h with h | h
      · exact h ▸ List.mem_cons_self
      · exact List.mem_cons_of_mem _ (dbl_mem r x h)
theorem dbl_len {c : Nat} : ∀ l : List Nat, (StrLaws.dbl c l).length ≤ 2 * l.length
  | [] => by simp [StrLaws.dbl]
  | k :: r => by
    have := dbl_len (c := c) r
    unfold StrLaws.dbl
    split <;> simp only [List.length_cons] <;> omega
theorem base_nl {l b : List Nat} (h : 10 ∉ l) (hl : l.length ≤ 103701) (hb : b ∈ base8 l) : 10 ∉ b ∧ b.length ≤ 520000 := by
  have d := dbl_len (c := 32) l
  have u : 10 ∉ l.map up1 := fun hm => by
    obtain ⟨c, hc, e⟩ := List.mem_map.mp hm
    unfold up1 at e
    split at e
    · omega
    · exact h (e ▸ hc)
  simp only [base8, List.mem_cons, List.not_mem_nil, or_false] at hb
  rcases hb with rfl | rfl | rfl | rfl | rfl | rfl | rfl | rfl
  · exact ⟨by simp [h], by simp; omega⟩
  · exact ⟨by simp [h], by simp; omega⟩
  · exact ⟨by simp, by simp⟩
  · exact ⟨by simp [h], by simp; omega⟩
  · refine ⟨?_, by simp; omega⟩
    simp only [List.mem_append, List.mem_cons, List.not_mem_nil, or_false, not_or]
    exact ⟨fun hm => h (dbl_mem l 10 hm), by decide⟩
  · exact ⟨u, by simp; omega⟩
  · exact ⟨by decide, by simp⟩
  · exact ⟨by simp [h], by simp; omega⟩
def cands (l : List Nat) (i : Nat) : List (List Nat) := base8 l ++ (if i < 9 then (more.getD i []).map T else moreT.map T)
theorem more_small : (more.all fun q => q.all fun s => decide (10 ∉ T s) && decide ((T s).length ≤ 520000)) = true := by decide +kernel
theorem moreT_small : (moreT.all fun s => decide (10 ∉ T s) && decide ((T s).length ≤ 520000)) = true := by decide +kernel
theorem more_at {i : Nat} (hi : i < 9) : more.getD i [] ∈ more ∧ (heads.getD i .fin, more.getD i []) ∈ heads.zip more := by
  rcases (by omega : i = 0 ∨ i = 1 ∨ i = 2 ∨ i = 3 ∨ i = 4 ∨ i = 5 ∨ i = 6 ∨ i = 7 ∨ i = 8) with rfl | rfl | rfl | rfl | rfl | rfl | rfl | rfl | rfl <;> simp [more, heads]
theorem cand_nl {l b : List Nat} {i : Nat} (h : 10 ∉ l) (hl : l.length ≤ 103701) (hb : b ∈ cands l i) : 10 ∉ b ∧ b.length ≤ 520000 := by
  rcases List.mem_append.mp hb with hb | hb
  · exact base_nl h hl hb
  · split at hb
    · rename_i hi
      obtain ⟨s, hs, rfl⟩ := List.mem_map.mp hb
      have := List.all_eq_true.mp (List.all_eq_true.mp more_small _ (more_at hi).1) s hs
      simpa using this
    · obtain ⟨s, hs, rfl⟩ := List.mem_map.mp hb
      have := List.all_eq_true.mp moreT_small s hs
      simpa using this
theorem head_ok {i : Nat} (hi : i < 9) : match heads.getD i .fin with | .num h _ => HeadOk h | .fin => i = 2 | .row h _ _ => HeadOk h := by
  have := heads_ok
  simp only [heads, List.all_cons, List.all_nil, Bool.and_eq_true, Bool.and_true] at this
  obtain ⟨a0, a1, _, a3, a4, a5, a6, a7, a8⟩ := this
  rcases (by omega : i = 0 ∨ i = 1 ∨ i = 2 ∨ i = 3 ∨ i = 4 ∨ i = 5 ∨ i = 6 ∨ i = 7 ∨ i = 8) with rfl | rfl | rfl | rfl | rfl | rfl | rfl | rfl | rfl
  · exact headB_ok a0
  · exact headB_ok a1
  · rfl
  · exact headB_ok a3
  · exact headB_ok a4
  · exact headB_ok a5
  · exact headB_ok a6
  · exact headB_ok a7
  · exact headB_ok a8
theorem cand_head {r : Run} (o : RunOk r) {i : Nat} (hi : i < 9) {b : List Nat} (hb : b ∈ cands (lAt r i) i) : told (heads.getD i .fin) b = none := by
  rcases List.mem_append.mp hb with hb | hb
  · by_cases q : i = 2
    · subst q
      have hb : b ∈ base8 (endT r.fin) := hb
      show (endIn b).map Told.fin = none
      rw [(base_wrongE hb).no o.fin]; rfl
    · have lw : low (lAt r i) := low_lines r _ (by
        refine List.mem_append_left _ ?_
        exact List.mem_of_getElem? (nine_told o i hi).1)
      have hh := head_ok hi
      refine told_wrong (base_wrong lw hb) ?_
      revert hh
      cases heads.getD i .fin with
      | num h m => exact fun h => h
      | fin => exact fun h => (q h).elim
      | row h k m => exact fun h => h
  · rw [if_pos hi] at hb
    obtain ⟨s, hs, rfl⟩ := List.mem_map.mp hb
    have := List.all_eq_true.mp (List.all_eq_true.mp more_bad _ (more_at hi).2) s hs
    exact Option.isNone_iff_eq_none.mp this
theorem cand_tab {l b : List Nat} {i : Nat} (hi : ¬ i < 9) (hl : low l) (hb : b ∈ cands l i) : tableIn b = none := by
  rcases List.mem_append.mp hb with hb | hb
  · exact (base_wrong hl hb).tab
  · rw [if_neg hi] at hb
    obtain ⟨s, hs, rfl⟩ := List.mem_map.mp hb
    have := List.all_eq_true.mp moreT_bad s hs
    exact Option.isNone_iff_eq_none.mp this
end K82
end

/-! text K82S31 -/
section
namespace K82
open Pv PySem L2
open TL (numL spl joinL par pre)
open SX (S)
open NumText (digitsVal AllDigits)
open PyProof.Rows (up1)
variable {n : Nat} {μ : Sto} {a B : Nat}
def tD (ws : List (List Nat)) : PyData := .list (ws.map fun w => .str (S w))
def cD (ss : List String) : PyData := .list (ss.map fun (s : String) => .str (s : Str))
theorem cD_tD (ss : List String) : cD ss = tD (ss.map T) := by
  unfold cD tD
  rw [List.map_map]
  congr 1
theorem pl2 (a b : PyData) : pureL [.d a, .d b] μ = .ok (.d (.list [a, b])) μ := pureL_ok (ds := [a, b]) (by rw [sizeLine_is]; simp)
theorem pl3 (a b c : PyData) : pureL [.d a, .d b, .d c] μ = .ok (.d (.list [a, b, c])) μ := pureL_ok (ds := [a, b, c]) (by rw [sizeLine_is]; simp)
theorem pl5 (a b c d e : PyData) : pureL [.d a, .d b, .d c, .d d, .d e] μ = .ok (.d (.list [a, b, c, d, e])) μ := pureL_ok (ds := [a, b, c, d, e]) (by rw [sizeLine_is]; simp)
theorem pl8 (a b c d e f g h : PyData) : pureL [.d a, .d b, .d c, .d d, .d e, .d f, .d g, .d h] μ = .ok (.d (.list [a, b, c, d, e, f, g, h])) μ := pureL_ok (ds := [a, b, c, d, e, f, g, h]) (by rw [sizeLine_is]; simp)
theorem rep_S (l : List Nat) : Txt.replace (S l) (S [32]) (S [32, 32]) = S (StrLaws.dbl 32 l) := TL.ext_tl (StrLaws.replace_double (S l) 32)
theorem up_bi {l : List Nat} (h : asc l) (hl : l.length ≤ 5000000) : biF .upper [.d (.str (S l))] = some (.d (.str (S (l.map up1)))) := by
  show ((biD .upper [.str (S l)]).map RV.d) = _
  simp only [biD]
  rw [if_pos (by rw [sN]; omega), SX.upper_S (by rw [List.all_eq_true]; intro c hc; simpa using h c hc)]
  rfl
theorem blank2_S : ("  " : Str) = S [32, 32] := by decide +kernel
theorem x_S : ("x" : Str) = S [120] := by decide +kernel
theorem noughts_S : (" 0 0" : Str) = S [32, 48, 32, 48] := by decide +kernel
theorem base37 {c : CallF} {ρ : REnv} {l : List Nat} (h : asc l) (hl : l.length ≤ 103701) (h3 : ρ[3]? = some (some (.val (.d (.str (S l)))))) :
    evE c ρ (.lstT (.var 3) " " [.bin .add (.con (.str " ")) (.var 3), .con (.str ""), .bin .add (.var 3) (.con (.str " 0 0")), .bin .add (.rep (.var 3) " " "  ") (.con (.str " ")), .bi .upper [.var 3], .con (.str "x"), .bin .add (.var 3) (.con (.str "x"))]) μ = .ok (.d (tD (base8 l))) μ := by
  have d := dbl_len (c := 32) l
  have ad : ∀ u w : List Nat, u.length ≤ 1000000 → w.length ≤ 1000000 → binF .add (.str (S u)) (.str (S w)) = some (.str (S (u ++ w))) := fun u w h1 h2 => by
    rw [add_str (by rw [sN, sN, sizeLine_is]; omega), SX.S_cat]
  have ad' : ∀ u w : List Nat, u.length ≤ 1000000 → w.length ≤ 1000000 → addF (.str (S u)) (.str (S w)) = some (.str (S (u ++ w))) := ad
  have u := up_bi h (by omega)
  have rp : ((S l).length + ((S l).length + 1) * (S [32, 32]).length ≤ 16777216) := by rw [sN, sN]; simp; omega
  have a1 := ad' l [32] (by omega) (by simp)
  have a2 := ad [32] l (by simp) (by omega)
  have a3 := ad l [32, 48, 32, 48] (by omega) (by simp)
  have a4 := ad (StrLaws.dbl 32 l) [32] (by omega) (by simp)
  have a5 := ad l [120] (by omega) (by simp)
  have r1 : evE c ρ (.rep (.var 3) " " "  ") μ = .ok (.d (.str (S (StrLaws.dbl 32 l)))) μ := by
    rw [ev_rep, ev_var, h3]
    simp only [R.bind_ok, blank_S, blank2_S]
    rw [if_pos rp, rep_S]
  rw [ev_lstT]
  simp only [ev_var, h3, R.bind_ok, blank_S, two_d, a1, Option.map_some, lift_some, evs_cons, evs_nil, ev_bin, ev_con, a2, noughts_S, a3, a4, x_S, a5, ev_bi, u, nil_S]
  simp only [← blank_S, r1, R.bind_ok, two_d]
  simp only [blank_S, a4, Option.map_some, lift_some, R.bind_ok, pl8]
  rfl
def moreD : PyData := .list (more.map cD)
theorem len_more : ∀ ss ∈ more, ss.length ≤ 5 := by decide
theorem addL {x y : List PyData} (h1 : x.length ≤ 1000) (h2 : y.length ≤ 1000) : binF .add (.list x) (.list y) = some (.list (x ++ y)) := add_list (by rw [sizeLine_is]; omega)
theorem t37 (h : 3 ≤ n) (W : Well a μ B) (hB : B < 2 ^ 40) {r : Run} (o : RunOk r) {i : Nat} {l : List Nat} (hi : (linesT r)[i]? = some l) : Drawn a (callF tab n 37 [.loc a, .d (tD (linesT r)), .d (nD i)] μ) (B + 1) fun v => ∃ b, v = .d (.str (S b)) ∧ b ∈ cands l i := by
  obtain ⟨m, rfl⟩ : ∃ m, n = m + 1 := ⟨n - 1, by omega⟩
  have hm := List.mem_of_getElem? hi
  have hasc := asc_lines o l hm
  have hlen := lines_len o l hm
  have cl : (cands l i).length ≤ 100 := by
    unfold cands
    rw [List.length_append]
    have b8 : (base8 l).length = 8 := rfl
    split
    · rename_i q
      have := len_more _ (more_at q).1
      rw [List.length_map]; omega
    · rw [List.length_map]; simp [moreT, b8]
  obtain ⟨_, μ1, e, ⟨x, rfl, hx⟩, W1⟩ := t30 (n := m) (by omega) W (xs := (cands l i).map fun w => .str (S w)) (by simp [cands, base8]) (by rw [List.length_map]; omega) hB
  obtain ⟨b, hb, rfl⟩ := List.mem_map.mp hx
  refine ⟨_, μ1, ?_, ⟨b, rfl, hb⟩, W1⟩
  refine call_ret (fs := tab) (f := 37) (fn := f37) (vs := [.loc a, .d (tD (linesT r)), .d (nD i)]) (n := m) rfl rfl ?_
  let ρ (x3 x4 x5 : Option Slot) : REnv := [some (.val (.loc a)), some (.val (.d (tD (linesT r)))), some (.val (.d (nD i))), x3, x4, x5]
  let L3 : Option Slot := some (.val (.d (.str (S l))))
  let L4 : Option Slot := some (.val (.d (tD (base8 l))))
  show exSs (callF tab m) f37.body (ρ none none none) μ = _
  refine (xs_next (ρ1 := ρ L3 none none) (μ1 := μ) ?_).trans ?_
  · refine (asg_nm (v := .d (.str (S l))) (μ1 := μ) ?_ (by exact Nat.lt_of_sub_pos (Nat.succ_pos 2))).trans rfl
    simp [ρ, tD, atI_n, hi]
  refine (xs_next (ρ1 := ρ L3 L4 none) (μ1 := μ) ?_).trans ?_
  · exact (asg_nm (base37 hasc hlen rfl) (by exact Nat.lt_of_sub_pos (Nat.succ_pos 1))).trans rfl
  refine (xs_next (ρ1 := ρ L3 L4 (some (.val (.d (.list ((more.take 3).map cD)))))) (μ1 := μ) ?_).trans ?_
  · refine (asg_nm (v := .d (.list ((more.take 3).map cD))) (μ1 := μ) ?_ (by exact Nat.lt_of_sub_pos (Nat.succ_pos 0))).trans rfl
    simp only [ev_lst, evs_cons, evs_nil, ev_con, R.bind_ok, pl2, pl3]
    rfl
  refine (xs_next (ρ1 := ρ L3 L4 (some (.val (.d (.list ((more.take 6).map cD)))))) (μ1 := μ) ?_).trans ?_
  · refine (asg_nm (v := .d (.list ((more.take 6).map cD))) (μ1 := μ) ?_ (by exact Nat.lt_of_sub_pos (Nat.succ_pos 0))).trans rfl
    simp only [ev_bin, ev_var, ρ, List.getElem?_cons_succ, List.getElem?_cons_zero, ev_lst, evs_cons, evs_nil, ev_con, R.bind_ok, pl2, pl3, two_d]
    rw [addL (by decide) (by simp)]
    rfl
  refine (xs_next (ρ1 := ρ L3 L4 (some (.val (.d (.list ((more.take 8).map cD)))))) (μ1 := μ) ?_).trans ?_
  · refine (asg_nm (v := .d (.list ((more.take 8).map cD))) (μ1 := μ) ?_ (by exact Nat.lt_of_sub_pos (Nat.succ_pos 0))).trans rfl
    simp only [ev_bin, ev_var, ρ, List.getElem?_cons_succ, List.getElem?_cons_zero, ev_lst, evs_cons, evs_nil, ev_con, R.bind_ok, pl2, pl3, two_d]
    rw [addL (by decide) (by simp)]
    rfl
  refine (xs_next (ρ1 := ρ L3 L4 (some (.val (.d moreD)))) (μ1 := μ) ?_).trans ?_
  · refine (asg_nm (v := .d moreD) (μ1 := μ) ?_ (by exact Nat.lt_of_sub_pos (Nat.succ_pos 0))).trans rfl
    simp only [ev_bin, ev_var, ρ, List.getElem?_cons_succ, List.getElem?_cons_zero, ev_lst, evs_cons, evs_nil, ev_con, R.bind_ok, pureL_one, pl5, two_d]
    rw [addL (by decide) (by simp)]
    rfl
  refine (xs_next (ρ1 := ρ L3 (some (.val (.d (tD (cands l i))))) (some (.val (.d moreD)))) (μ1 := μ) ?_).trans ?_
  · by_cases q : i < 9
    · have q' : (i : Int) < 9 := by omega
      rw [if_yes (μ1 := μ) (by simp [ρ, q'])]
      have e1 : evE (callF tab m) (ρ L3 L4 (some (.val (.d moreD)))) (.bin .add (.var 4) (.idx (.var 5) (.var 2))) μ = .ok (.d (tD (cands l i))) μ := by
        have e2 : idxF moreD (.int (i : Int)) = some (tD ((more.getD i []).map T)) := by
          show atI _ (i : Int) = _
          rw [atI_n, List.getElem?_map, ← cD_tD, List.getD_eq_getElem?_getD]
          rcases (by omega : i = 0 ∨ i = 1 ∨ i = 2 ∨ i = 3 ∨ i = 4 ∨ i = 5 ∨ i = 6 ∨ i = 7 ∨ i = 8) with rfl | rfl | rfl | rfl | rfl | rfl | rfl | rfl | rfl <;> rfl
        have cl2 := len_more _ (more_at q).1
        simp only [ev_bin, ev_var, ρ, L4, List.getElem?_cons_succ, List.getElem?_cons_zero, R.bind_ok, ev_idx, idxS_d, e2, Option.map_some, lift_some, two_d, tD]
        rw [addL (by simp [base8]) (by rw [List.length_map, List.length_map]; omega), ← List.map_append]
        unfold cands
        rw [if_pos q]; rfl
      exact (xs_next (asg_nm e1 (by exact Nat.lt_of_sub_pos (Nat.succ_pos 1)))).trans rfl
    · have q' : ¬ (i : Int) < 9 := by omega
      rw [if_no (μ1 := μ) (by simp [ρ, q'])]
      have c5 : evE (callF tab m) (ρ L3 L4 (some (.val (.d moreD)))) (.bin .add (.var 4) (.lst [.con (.str "array 2: 0"), .con (.str "array 1:"), .con (.str "pairs 1: 3"), .con (.str "pairs 1: 3 4 3 5"), .con (.str "array 0: 65536")])) μ = .ok (.d (tD (base8 l ++ (moreT.take 5).map T))) μ := by
        simp only [ev_bin, ev_var, ρ, L4, List.getElem?_cons_succ, List.getElem?_cons_zero, R.bind_ok, ev_lst, evs_cons, evs_nil, ev_con, pl5, two_d, tD]
        rw [addL (by simp [base8]) (by simp), show ([.str "array 2: 0", .str "array 1:", .str "pairs 1: 3", .str "pairs 1: 3 4 3 5", .str "array 0: 65536"] : List PyData) = ((moreT.take 5).map T).map fun w => .str (S w) by simp [moreT, T_S], ← List.map_append]
        rfl
      refine (xs_next (ρ1 := ρ L3 (some (.val (.d (tD (base8 l ++ (moreT.take 5).map T))))) (some (.val (.d moreD)))) (μ1 := μ) ((asg_nm c5 (by exact Nat.lt_of_sub_pos (Nat.succ_pos 1))).trans rfl)).trans ?_
      have c7 : evE (callF tab m) (ρ L3 (some (.val (.d (tD (base8 l ++ (moreT.take 5).map T))))) (some (.val (.d moreD)))) (.bin .add (.var 4) (.lst [.con (.str "array 0: 33*1"), .con (.str "pairs 1: ")])) μ = .ok (.d (tD (cands l i))) μ := by
        simp only [ev_bin, ev_var, ρ, List.getElem?_cons_succ, List.getElem?_cons_zero, R.bind_ok, ev_lst, evs_cons, evs_nil, ev_con, pl2, two_d, tD]
        rw [addL (by simp [base8, moreT]) (by simp), show ([.str "array 0: 33*1", .str "pairs 1: "] : List PyData) = ((moreT.drop 5).map T).map fun w => .str (S w) by simp [moreT, T_S], ← List.map_append]
        unfold cands
        rw [if_neg q, List.append_assoc, ← List.map_append, List.take_append_drop]; rfl
      exact (xs_next (asg_nm c7 (by exact Nat.lt_of_sub_pos (Nat.succ_pos 1)))).trans rfl
  refine xs_done (ret_is ?_)
  simp only [ev_call, evs_cons, evs_nil, ev_var, ρ, List.getElem?_cons_succ, List.getElem?_cons_zero, R.bind_ok]
  exact e
end K82
end

/-! text K82S32 -/
section
namespace K82
open Pv PySem L2
open TL (numL spl joinL par pre)
open SX (S)
open NumText (digitsVal AllDigits)
variable {n : Nat} {μ : Sto} {a B : Nat}
theorem join_L {L : List (List Nat)} (h1 : ∀ l ∈ L, l.length ≤ 520000) (h2 : L.length ≤ 16) : biF .join [.d (.str (S [10])), .d (tD L)] = some (.d (.str (S (textT L)))) := join_bi (by
  have b := sum_le (l := L.map List.length) (k := 520000) fun v hv => by
    obtain ⟨l, hl, rfl⟩ := List.mem_map.mp hv
    exact h1 l hl
  simp only [List.length_map, List.length_cons, List.length_nil] at b ⊢
  omega)
theorem take_L {L : List (List Nat)} (i : Nat) : sliR none (some (i : Int)) (.d (tD L)) = some (.d (tD (L.take i))) := by
  show some (RV.d (.list (cutD (L.map fun w => PyData.str (S w)) none (some (i : Int))))) = _
  rw [cut_to, ← List.map_take]; rfl
theorem drop_L {L : List (List Nat)} (i : Nat) : sliR (some (i : Int)) none (.d (tD L)) = some (.d (tD (L.drop i))) := by
  show some (RV.d (.list (cutD (L.map fun w => PyData.str (S w)) (some (i : Int)) none))) = _
  rw [cut_from, ← List.map_drop]; rfl
theorem add_L {K L : List (List Nat)} (h1 : K.length ≤ 1000) (h2 : L.length ≤ 1000) : binF .add (tD K) (tD L) = some (tD (K ++ L)) := by
  unfold tD
  rw [addL (by simpa using h1) (by simpa using h2), ← List.map_append]
theorem len_L {L : List (List Nat)} : biF .len [.d (tD L)] = some (.d (.int L.length)) := by
  show biF .len [.d (.list (L.map fun w => PyData.str (S w)))] = _
  rw [bi_lenL, List.length_map]
/-- the lines with one spoilt -/
theorem spoilt_ok {r : Run} (o : RunOk r) {i : Nat} {l b : List Nat} (hi : (linesT r)[i]? = some l) (hb : b ∈ cands l i) :
    Lines ((linesT r).take i ++ b :: (linesT r).drop (i + 1)) ∧ readL ((linesT r).take i ++ b :: (linesT r).drop (i + 1)) = .bad i ∧ i ≤ 100 := by
  have hm := List.mem_of_getElem? hi
  have hil := (List.getElem?_eq_some_iff.mp hi).1
  have many := lines_many o
  obtain ⟨nb, lb⟩ := cand_nl (nl_lines o l hm) (lines_len o l hm) hb
  refine ⟨Lines.mk' (by simp) (fun w hw => ?_) (fun w hw => ?_) (by simp; omega), ?_, by omega⟩
  · rcases List.mem_append.mp hw with hw | hw
    · exact nl_lines o w (List.mem_of_mem_take hw)
    · rcases List.mem_cons.mp hw with rfl | hw
      · exact nb
      · exact nl_lines o w (List.mem_of_mem_drop hw)
  · rcases List.mem_append.mp hw with hw | hw
    · exact Nat.le_trans (lines_len o w (List.mem_of_mem_take hw)) (by decide)
    · rcases List.mem_cons.mp hw with rfl | hw
      · exact lb
      · exact Nat.le_trans (lines_len o w (List.mem_of_mem_drop hw)) (by decide)
  · by_cases q : i < 9
    · have e : l = lAt r i := by
        have h2 := (nine_told o i q).1
        have : (linesT r)[i]? = some (lAt r i) := by
          show (nine r ++ r.tabs.map tabT)[i]? = _
          rw [get_nine q]; exact h2
        rw [hi] at this
        exact Option.some.inj this
      subst e
      exact read_head o q (cand_head o q hb) _
    · obtain ⟨j, rfl⟩ : ∃ j, i = 9 + j := ⟨i - 9, by omega⟩
      have tl : (linesT r).length = 9 + r.tabs.length := by simp [linesT, nine]; omega
      have e : (linesT r).take (9 + j) = nine r ++ (r.tabs.take j).map tabT := by
        unfold linesT
        have : (nine r).length = 9 := rfl
        rw [List.take_append, List.take_of_length_le (by omega), this, show 9 + j - 9 = j by omega, List.map_take]
      have hj : (r.tabs.take j).length = j := by rw [List.length_take]; exact Nat.min_eq_left (by omega)
      have := o.tabs.1
      have rt := read_tab o (ts := r.tabs.take j) (fun t ht => o.tabs.2 t (List.mem_of_mem_take ht)) (by omega) (b := b) (.inl (cand_tab q (low_lines r l hm) hb)) ((linesT r).drop (9 + j + 1))
      rw [hj] at rt
      rw [e, List.append_assoc]
      exact rt
theorem more_ok {r : Run} (o : RunOk r) : Lines (linesT r ++ [T "x"]) ∧ readL (linesT r ++ [T "x"]) = .bad (linesT r).length ∧ (linesT r).length ≤ 100 := by
  have many := lines_many o
  have hx : 10 ∉ T "x" ∧ (T "x").length ≤ 520000 := by decide +kernel
  refine ⟨Lines.mk' (by simp) (fun w hw => ?_) (fun w hw => ?_) (by simp; omega), ?_, by omega⟩
  · rcases List.mem_append.mp hw with hw | hw
    · exact nl_lines o w hw
    · simp only [List.mem_cons, List.not_mem_nil, or_false] at hw; subst hw; exact hx.1
  · rcases List.mem_append.mp hw with hw | hw
    · exact Nat.le_trans (lines_len o w hw) (by decide)
    · simp only [List.mem_cons, List.not_mem_nil, or_false] at hw; subst hw; exact hx.2
  · have tl : (linesT r).length = 9 + r.tabs.length := by simp [linesT, nine]; omega
    have rt := read_tab o o.tabs.2 o.tabs.1 (b := T "x") (.inl (Option.isNone_iff_eq_none.mp x_bad)) []
    rw [tl, ← rt]
    unfold linesT
    rw [List.append_assoc]
theorem seven_ok {r : Run} (o : RunOk r) : Lines (nine r ++ List.replicate 7 (T "array 1: 5")) ∧ readL (nine r ++ List.replicate 7 (T "array 1: 5")) = .bad 15 := by
  have hx : 10 ∉ T "array 1: 5" ∧ (T "array 1: 5").length ≤ 520000 := by decide +kernel
  refine ⟨Lines.mk' (by simp [nine]) (fun w hw => ?_) (fun w hw => ?_) (by simp [nine]), ?_⟩
  · rcases List.mem_append.mp hw with hw | hw
    · exact nl_nine o w hw
    · rw [List.mem_replicate] at hw; rw [hw.2]; exact hx.1
  · rcases List.mem_append.mp hw with hw | hw
    · exact Nat.le_trans (nine_len o w hw) (by decide)
    · rw [List.mem_replicate] at hw; rw [hw.2]; exact hx.2
  · have e : tabT (.arr 1 [5]) = T "array 1: 5" := by decide +kernel
    have rt := read_tab o (ts := List.replicate 6 (.arr 1 [5])) (fun t ht => by rw [List.mem_replicate] at ht; rw [ht.2]; decide) (by simp) (b := T "array 1: 5") (.inr (by simp)) []
    rw [List.map_replicate, e] at rt
    exact rt
theorem short_ok {r : Run} (o : RunOk r) {i : Nat} (hi : i < 9) (h0 : i ≠ 0) : Lines ((linesT r).take i) ∧ readL ((linesT r).take i) = .bad i := by
  have many := lines_many o
  have tl : (linesT r).length = 9 + r.tabs.length := by simp [linesT, nine]; omega
  refine ⟨Lines.mk' (fun e => ?_) (fun w hw => nl_lines o w (List.mem_of_mem_take hw)) (fun w hw => Nat.le_trans (lines_len o w (List.mem_of_mem_take hw)) (by decide)) (by simp; omega), read_short o hi⟩
  have := congrArg List.length e
  rw [List.length_take, tl] at this
  simp only [List.length_nil] at this
  omega
abbrev b38 : List Pv.S := [.asg (.nm 5) (.call 29 [.var 0, .bi .len [.var 2]]), .ifs (.not (.call 36 [.mt .join (.con (.str "\n")) (.bin .add (.bin .add (.sli (.var 2) none (some (.var 5))) (.lst [.call 37 [.var 0, .var 2, .var 5]])) (.sli (.var 2) (some (.bin .add (.var 5) (.con (.int 1)))) none)), .var 5])) [.ret (.con (.bool false))] []]
theorem b38_ok {m : Nat} (hm : 9 ≤ m) (W : Well a μ B) (hB : B + 2 < 2 ^ 40) {r : Run} (o : RunOk r) {x1 x3 x4 x5 x6 x7 : Option Slot} :
    Drawn a (exSs (callF tab m) b38 [some (.val (.loc a)), x1, some (.val (.d (tD (linesT r)))), x3, x4, x5, x6, x7] μ) (B + 2) fun f => ∃ y5, f = .next [some (.val (.loc a)), x1, some (.val (.d (tD (linesT r)))), x3, x4, y5, x6, x7] := by
  have many := lines_many o
  have tl : (linesT r).length = 9 + r.tabs.length := by simp [linesT, nine]; omega
  obtain ⟨_, μ1, e1, ⟨i, rfl, hi⟩, W1⟩ := t29 (n := m) (by omega) W (most := (linesT r).length) (by omega) (by omega) (by omega)
  obtain ⟨_, μ2, e2, ⟨b, rfl, hb⟩, W2⟩ := t37 (n := m) (by omega) W1 (by omega) o (List.getElem?_eq_getElem hi)
  obtain ⟨hL, hr, h100⟩ := spoilt_ok o (List.getElem?_eq_getElem hi) hb
  have c := t36b (n := m) (μ := μ2) hm hL h100 hr
  have nl := nl_S
  refine ⟨_, μ2, ?_, ⟨some (.val (.d (nD i))), rfl⟩, W2⟩
  refine (xs_next (ρ1 := [some (.val (.loc a)), x1, some (.val (.d (tD (linesT r)))), x3, x4, some (.val (.d (nD i))), x6, x7]) (μ1 := μ1) ?_).trans ?_
  · exact (asg_nm (v := .d (nD i)) (μ1 := μ1) (by simp [len_L, e1]) (by exact Nat.lt_of_sub_pos (Nat.succ_pos 2))).trans rfl
  have j := join_L (L := (linesT r).take i ++ b :: (linesT r).drop (i + 1)) (fun w hw => by
    have hm := List.getElem_mem hi
    obtain ⟨nb, lb⟩ := cand_nl (nl_lines o _ hm) (lines_len o _ hm) hb
    rcases List.mem_append.mp hw with hw | hw
    · exact Nat.le_trans (lines_len o w (List.mem_of_mem_take hw)) (by decide)
    · rcases List.mem_cons.mp hw with rfl | hw
      · exact lb
      · exact Nat.le_trans (lines_len o w (List.mem_of_mem_drop hw)) (by decide)) (by simp; omega)
  have d1 := take_L (L := linesT r) i
  have d2 : sliR (some ((i : Int) + 1)) none (.d (tD (linesT r))) = some (.d (tD ((linesT r).drop (i + 1)))) := drop_L (i + 1)
  have a1 : binF .add (tD ((linesT r).take i)) (.list [.str (S b)]) = some (tD ((linesT r).take i ++ [b])) := add_L (L := [b]) (by simp; omega) (by simp)
  have a2 := add_L (K := (linesT r).take i ++ [b]) (L := (linesT r).drop (i + 1)) (by simp; omega) (by simp; omega)
  rw [show (linesT r).take i ++ [b] ++ (linesT r).drop (i + 1) = (linesT r).take i ++ b :: (linesT r).drop (i + 1) by simp] at a2
  have jn : evE (callF tab m) [some (.val (.loc a)), x1, some (.val (.d (tD (linesT r)))), x3, x4, some (.val (.d (nD i))), x6, x7] (.mt .join (.con (.str "\n")) (.bin .add (.bin .add (.sli (.var 2) none (some (.var 5))) (.lst [.call 37 [.var 0, .var 2, .var 5]])) (.sli (.var 2) (some (.bin .add (.var 5) (.con (.int 1)))) none))) μ1 = .ok (.d (.str (S (textT ((linesT r).take i ++ b :: (linesT r).drop (i + 1)))))) μ2 := by
    simp only [ev_mt, ev_con, R.bind_ok, ev_bin, ev_sli, ev_var, List.getElem?_cons_succ, List.getElem?_cons_zero, evo_none, evo_some, d1, lift_some, ev_lst, evs_cons, evs_nil, ev_call, e2, pureL_one, two_d, a1, Option.map_some, add_int, d2, a2, nl_S, j]
  have t : evE (callF tab m) [some (.val (.loc a)), x1, some (.val (.d (tD (linesT r)))), x3, x4, some (.val (.d (nD i))), x6, x7] (.not (.call 36 [.mt .join (.con (.str "\n")) (.bin .add (.bin .add (.sli (.var 2) none (some (.var 5))) (.lst [.call 37 [.var 0, .var 2, .var 5]])) (.sli (.var 2) (some (.bin .add (.var 5) (.con (.int 1)))) none)), .var 5])) μ1 = .ok (.d (.bool false)) μ2 := by
    simp only [ev_not, ev_call, evs_cons, evs_nil]
    simp only [← ev_call, jn, R.bind_ok, ev_var, List.getElem?_cons_succ, List.getElem?_cons_zero, c, truR_b, Option.map_some, lift_some, Bool.not_true]
  rw [xs_cons, if_no t, xs_nil, R.bind_ok]
  simp
theorem fo38 {m : Nat} (hm : 9 ≤ m) {r : Run} (o : RunOk r) {x1 x3 x6 x7 : Option Slot} : ∀ (k i : Nat) (x4 x5 : Option Slot) (μ : Sto) (B : Nat), Well a μ B → B + 2 * k < 2 ^ 40 →
    Drawn a (fo (callF tab m) (.nm 4) b38 ((List.range' i k).map fun (j : Nat) => .one (.d (.int (0 + (j : Int))))) [some (.val (.loc a)), x1, some (.val (.d (tD (linesT r)))), x3, x4, x5, x6, x7] μ) (B + 2 * k) fun f => ∃ y4 y5, f = .next [some (.val (.loc a)), x1, some (.val (.d (tD (linesT r)))), x3, y4, y5, x6, x7]
  | 0, i, x4, x5, μ, B, W, _ => ⟨_, μ, rfl, ⟨x4, x5, rfl⟩, W⟩
  | k + 1, i, x4, x5, μ, B, W, hB => by
    obtain ⟨_, μ1, e, ⟨y5, rfl⟩, W1⟩ := b38_ok (μ := μ) hm W (by omega) o (x1 := x1) (x3 := x3) (x4 := some (.val (.d (.int (0 + (i : Int)))))) (x5 := x5) (x6 := x6) (x7 := x7)
    obtain ⟨f, μ2, e2, ⟨z4, z5, rfl⟩, W2⟩ := fo38 hm o (x1 := x1) (x3 := x3) (x6 := x6) (x7 := x7) k (i + 1) (some (.val (.d (.int (0 + (i : Int)))))) y5 μ1 (B + 2) W1 (by omega)
    refine ⟨_, μ2, ?_, ⟨z4, z5, rfl⟩, W2.mono (by omega)⟩
    rw [List.range'_succ, List.map_cons, fo_cons]
    have ai : asgI (.nm 4) (.one (.d (.int (0 + (i : Int))))) [some (.val (.loc a)), x1, some (.val (.d (tD (linesT r)))), x3, x4, x5, x6, x7] = some [some (.val (.loc a)), x1, some (.val (.d (tD (linesT r)))), x3, some (.val (.d (.int (0 + (i : Int))))), x5, x6, x7] := rfl
    rw [ai]
    dsimp only
    rw [e, R.bind_ok]
    exact e2
end K82
end

/-! text K82S33 -/
section
namespace K82
open Pv PySem L2
open TL (numL spl joinL par pre)
open SX (S)
open NumText (digitsVal AllDigits)
variable {n : Nat} {μ : Sto} {a B : Nat}
theorem t38 (h : 11 ≤ n) (W : Well a μ B) (hB : B + 30000 < 2 ^ 40) : ∃ μ1, callF tab n 38 [.loc a] μ = .ok (.d (.bool true)) μ1 := by
  obtain ⟨m, rfl⟩ : ∃ m, n = m + 1 := ⟨n - 1, by omega⟩
  obtain ⟨_, μ1, e1, ⟨r, rfl, o⟩, W1⟩ := t33 (n := m) (by omega) W (by omega)
  have tl : (linesT r).length = 9 + r.tabs.length := by simp [linesT, nine]; omega
  have many := lines_many o
  have c35 : callF tab m 35 [.d (runD r)] μ1 = .ok (.d (tD (linesT r))) μ1 := t35 (n := m) (by omega) o
  have jl := join_L (L := linesT r) (fun w hw => Nat.le_trans (lines_len o w hw) (by decide)) (by omega)
  have c26 := t26 (n := m) (μ := μ1) (by omega) o
  have c27 := t27g (n := m) (μ := μ1) (by omega) o (lines_ok o)
  have rr := rep_run o
  obtain ⟨_, μ2, e2, ⟨y4, y5, rfl⟩, W2⟩ := fo38 (a := a) (m := m) (by omega) o (x1 := some (.val (.d (runD r)))) (x3 := some (.val (.d (.str (S (textT (linesT r))))))) (x6 := none) (x7 := none) 4 0 none none μ1 _ W1 (by omega)
  obtain ⟨_, μ3, e3, ⟨i, rfl, hi⟩, W3⟩ := t29 (n := m) (by omega) W2 (most := 9) (by omega) (by omega) (by omega)
  have e3 : callF tab m 29 [.loc a, .d (.int 9)] μ2 = .ok (.d (nD i)) μ3 := e3
  have c36s : callF tab m 36 [.d (.str (S (textT ((linesT r).take i)))), .d (nD i)] μ3 = .ok (.d (.bool true)) μ3 := by
    by_cases q : i = 0
    · subst q; exact t36e (n := m) (by omega)
    · obtain ⟨h1, h2⟩ := short_ok o hi q
      exact t36b (n := m) (by omega) h1 (by omega) h2
  obtain ⟨hm1, hm2, hm3⟩ := more_ok o
  have c36m := t36b (n := m) (μ := μ3) (by omega) hm1 hm3 hm2
  obtain ⟨hs1, hs2⟩ := seven_ok o
  obtain ⟨_, μ4, e4, ⟨x, rfl, hx⟩, W4⟩ := t30 (n := m) (by omega) W3 (xs := [.none, .int 5, tD (linesT r), .bool true, .list [], .tuple [.str "x"]]) (by simp) (by simp) (by omega)
  have hty : isTy .str x = some false := by
    simp only [List.mem_cons, List.not_mem_nil, or_false] at hx
    rcases hx with rfl | rfl | rfl | rfl | rfl | rfl <;> rfl
  have c36v := t36b (n := m) (μ := μ4) (by omega) hs1 (by omega) hs2
  have c36o := t36o (n := m) (μ := μ4) (by omega) hty
  have c36v : callF tab m 36 [.d (.str (S (textT (nine r ++ List.replicate 7 (T "array 1: 5"))))), .d (.int 15)] μ4 = .ok (.d (.bool true)) μ4 := c36v
  refine ⟨μ4, ?_⟩
  refine call_ret (fs := tab) (f := 38) (fn := f38) (vs := [.loc a]) (n := m) rfl rfl ?_
  let ρ (x1 x2 x3 x4 x5 x6 x7 : Option Slot) : REnv := [some (.val (.loc a)), x1, x2, x3, x4, x5, x6, x7]
  let k1 : Option Slot := some (.val (.d (runD r)))
  let k2 : Option Slot := some (.val (.d (tD (linesT r))))
  let k3 : Option Slot := some (.val (.d (.str (S (textT (linesT r))))))
  have sq : ∀ s : Str, (s == s) = true := fun s => beq_self_eq_true s
  show exSs (callF tab m) f38.body (ρ none none none none none none none) μ = _
  refine (xs_next (ρ1 := ρ k1 none none none none none none) (μ1 := μ1) ?_).trans ?_
  · exact (asg_nm (v := .d (runD r)) (μ1 := μ1) (by simp [ρ, e1]) (by exact Nat.lt_of_sub_pos (Nat.succ_pos 6))).trans rfl
  refine (xs_next (ρ1 := ρ k1 k2 none none none none none) (μ1 := μ1) ?_).trans ?_
  · exact (asg_nm (v := .d (tD (linesT r))) (μ1 := μ1) (by simp [ρ, k1, c35]) (by exact Nat.lt_of_sub_pos (Nat.succ_pos 5))).trans rfl
  refine (xs_next (ρ1 := ρ k1 k2 k3 none none none none) (μ1 := μ1) ?_).trans ?_
  · exact (asg_nm (v := .d (.str (S (textT (linesT r))))) (μ1 := μ1) (by simp [ρ, k2, nl_S, jl]) (by exact Nat.lt_of_sub_pos (Nat.succ_pos 4))).trans rfl
  refine (xs_next (ρ1 := ρ k1 k2 k3 none none none none) (μ1 := μ1) ?_).trans ?_
  · rw [if_no (μ1 := μ1) (by simp [ρ, k1, k3, c26, allBy])]; rfl
  refine (xs_next (ρ1 := ρ k1 k2 k3 none none none none) (μ1 := μ1) ?_).trans ?_
  · rw [if_no (μ1 := μ1) (by simp [ρ, k1, k3, c27, rr, allBy])]; rfl
  refine (xs_next (ρ1 := ρ k1 k2 k3 y4 y5 none none) (μ1 := μ2) ?_).trans ?_
  · have it : evI (callF tab m) (ρ k1 k2 k3 none none none none) (.rng1 (.con (.int 4))) μ1 = .ok ((List.range' 0 4).map fun (j : Nat) => .one (.d (.int (0 + (j : Int))))) μ1 := it_rng (k := 4) rfl (by decide)
    show exS (callF tab m) (.fors (.nm 4) (.rng1 (.con (.int 4))) b38) (ρ k1 k2 k3 none none none none) μ1 = _
    rw [x_fo, it, R.bind_ok]
    exact e2
  let k5 : Option Slot := some (.val (.d (nD i)))
  refine (xs_next (ρ1 := ρ k1 k2 k3 y4 k5 none none) (μ1 := μ3) ?_).trans ?_
  · exact (asg_nm (v := .d (nD i)) (μ1 := μ3) (by simp [ρ, e3]) (by exact Nat.lt_of_sub_pos (Nat.succ_pos 2))).trans rfl
  refine (xs_next (ρ1 := ρ k1 k2 k3 y4 k5 none none) (μ1 := μ3) ?_).trans ?_
  · have d1 := take_L (L := linesT r) i
    have j1 := join_L (L := (linesT r).take i) (fun w hw => Nat.le_trans (lines_len o w (List.mem_of_mem_take hw)) (by decide)) (by simp; omega)
    have j2 := join_L (L := linesT r ++ [T "x"]) (fun w hw => by
      rcases List.mem_append.mp hw with hw | hw
      · exact Nat.le_trans (lines_len o w hw) (by decide)
      · simp only [List.mem_cons, List.not_mem_nil, or_false] at hw; subst hw; exact (by decide +kernel : (T "x").length ≤ 520000)) (by simp; omega)
    have a1 : binF .add (tD (linesT r)) (.list [.str "x"]) = some (tD (linesT r ++ [T "x"])) := by
      have := add_L (K := linesT r) (L := [T "x"]) (by omega) (by simp)
      simp only [tD, List.map_cons, List.map_nil, T_S] at this ⊢
      exact this
    have A : evE (callF tab m) (ρ k1 k2 k3 y4 k5 none none) (.not (.call 36 [.mt .join (.con (.str "\n")) (.sli (.var 2) none (some (.var 5))), .var 5])) μ3 = .ok (.d (.bool false)) μ3 := by
      simp only [ev_not, ev_call, evs_cons, evs_nil, ev_mt, ev_con, R.bind_ok, ev_sli, ev_var, ρ, k2, k5, List.getElem?_cons_succ, List.getElem?_cons_zero, evo_none, evo_some, d1, lift_some, nl_S, j1, c36s, truR_b, Option.map_some, Bool.not_true]
    have C : evE (callF tab m) (ρ k1 k2 k3 y4 k5 none none) (.not (.call 36 [.mt .join (.con (.str "\n")) (.bin .add (.var 2) (.lst [.con (.str "x")])), .bi .len [.var 2]])) μ3 = .ok (.d (.bool false)) μ3 := by
      simp only [ev_not, ev_call, evs_cons, evs_nil, ev_mt, ev_con, R.bind_ok, ev_bin, ev_var, ρ, k2, k5, List.getElem?_cons_succ, List.getElem?_cons_zero, ev_lst, pureL_one, two_d, a1, Option.map_some, lift_some, nl_S, j2, ev_bi, len_L, c36m, truR_b, Bool.not_true]
    rw [if_no (μ1 := μ3) (by rw [ev_or, A, R.bind_ok]; simp only [truR_b]; exact C)]; rfl
  let k6 : Option Slot := some (.val (.d (tD (nine r ++ List.replicate 7 (T "array 1: 5")))))
  let k7 : Option Slot := some (.val (.d x))
  refine (xs_next (ρ1 := ρ k1 k2 k3 y4 k5 k6 k7) (μ1 := μ4) ?_).trans ?_
  · have d1 := take_L (L := linesT r) 9
    have t9 : (linesT r).take 9 = nine r := by
      unfold linesT
      rw [List.take_append_of_le_length (by exact Nat.le_refl 9)]
      exact List.take_of_length_le (Nat.le_refl 9)
    rw [t9] at d1
    have d1 : sliR none (some 9) (.d (tD (linesT r))) = some (.d (tD (nine r))) := d1
    have a1 : binF .mul (.list [.str "array 1: 5"]) (.int 7) = some (tD (List.replicate 7 (T "array 1: 5"))) := by
      have := mul_one (d := .str "array 1: 5") (k := 7) (by decide)
      simp only [tD, List.map_replicate, T_S]
      exact this
    have a2 := add_L (K := nine r) (L := List.replicate 7 (T "array 1: 5")) (by simp [nine]) (by simp)
    have pl6 : ∀ μ, pureL [.d .none, .d (.int 5), .d (tD (linesT r)), .d (.bool true), .d (.list []), .d (.tuple [.str "x"])] μ = .ok (.d (.list [.none, .int 5, tD (linesT r), .bool true, .list [], .tuple [.str "x"]])) μ := fun μ => pureL_ok (ds := [.none, .int 5, tD (linesT r), .bool true, .list [], .tuple [.str "x"]]) (by rw [sizeLine_is]; simp)
    have A : evE (callF tab m) (ρ k1 k2 k3 y4 k5 none none) (.bin .add (.sli (.var 2) none (some (.con (.int 9)))) (.bin .mul (.lst [.con (.str "array 1: 5")]) (.con (.int 7)))) μ3 = .ok (.d (tD (nine r ++ List.replicate 7 (T "array 1: 5")))) μ3 := by
      simp only [ev_bin, ev_sli, ev_var, ρ, k2, List.getElem?_cons_succ, List.getElem?_cons_zero, R.bind_ok, evo_none, evo_some, ev_con, d1, lift_some, ev_lst, evs_cons, evs_nil, pureL_one, two_d, a1, Option.map_some, a2]
    have C : evE (callF tab m) (ρ k1 k2 k3 y4 k5 none none) (.call 30 [.var 0, .lst [.con (.none), .con (.int 5), .var 2, .con (.bool true), .lst [], .tup [.con (.str "x")]]]) μ3 = .ok (.d x) μ4 := by
      simp only [ev_call, evs_cons, evs_nil, ev_var, ρ, k2, List.getElem?_cons_succ, List.getElem?_cons_zero, R.bind_ok, ev_lst, ev_con, pureL_nil, ev_tup, allBy_d, allBy_nil, Option.map_some]
      rw [if_pos (by simp)]
      simp only [R.bind_ok, pl6, e4]
    show exS (callF tab m) (.par [6, 7] [.val (.bin .add (.sli (.var 2) none (some (.con (.int 9)))) (.bin .mul (.lst [.con (.str "array 1: 5")]) (.con (.int 7)))), .val (.call 30 [.var 0, .lst [.con (.none), .con (.int 5), .var 2, .con (.bool true), .lst [], .tup [.con (.str "x")]]])]) (ρ k1 k2 k3 y4 k5 none none) μ3 = _
    rw [x_par, srcs_cons, src_val, A, R.bind_ok, R.bind_ok, srcs_cons, src_val, C, R.bind_ok, R.bind_ok, srcs_nil, R.bind_ok, R.bind_ok, R.bind_ok]
    rfl
  refine xs_done (ret_is ?_)
  have j7 := join_L (L := nine r ++ List.replicate 7 (T "array 1: 5")) (fun w hw => by
    rcases List.mem_append.mp hw with hw | hw
    · exact Nat.le_trans (nine_len o w hw) (by decide)
    · rw [List.mem_replicate] at hw; rw [hw.2]; exact (by decide +kernel : (T "array 1: 5").length ≤ 520000)) (by simp [nine])
  simp only [ev_and, ev_call, evs_cons, evs_nil, ev_mt, ev_con, R.bind_ok, ev_var, ρ, k6, k7, List.getElem?_cons_succ, List.getElem?_cons_zero, nl_S, j7, lift_some, c36v, truR_b, c36o]
theorem asked (zs : List Int) : zs.length ≤ 63 → (∀ z ∈ zs, PySem.Builtin.Int.intBits z ≤ 1048576) → ∃ μ, Pv.callF tab (12 + 1) 39 [.scr zs] [] = .ok (.d (.bool true)) μ := by
  intro _ _
  have turn : ∀ (j : Nat) (μ : Sto), j ≤ 100 → ∃ μ1, evE (callF tab 12) [some (.val (.scr zs)), some (.val (.d (.int (0 + (j : Int)))))] (.call 38 [.call 28 [.var 0, .var 1]]) μ = .ok (.d (.bool true)) μ1 := by
    intro j μ hj
    obtain ⟨μ1, e1, W⟩ := t28 (n := 12) (μ := μ) (by decide) zs j hj
    obtain ⟨μ2, e2⟩ := t38 (n := 12) (by decide) W (by decide)
    refine ⟨μ2, ?_⟩
    have e1 : callF tab 12 28 [.scr zs, .d (.int (0 + (j : Int)))] μ = .ok (.loc μ.length) μ1 := by rw [Int.zero_add]; exact e1
    simp only [ev_call, evs_cons, evs_nil, ev_var, List.getElem?_cons_succ, List.getElem?_cons_zero, R.bind_ok, e1, e2]
  have cl : ∀ (k i : Nat) (μ : Sto), i + k ≤ 100 → ∃ μ1, compL (fun x μ => match asgI (.nm 1) x (noOwn (wipeR [some (.val (.scr zs)), none] [1])) with
      | some ρ1 => (evT (callF tab 12) ρ1 none μ).bind fun k μ2 => if k then (evE (callF tab 12) ρ1 (.call 38 [.call 28 [.var 0, .var 1]]) μ2).bind fun v μ3 => .ok [v] μ3 else .ok [] μ2
      | none => .bad) ((List.range' i k).map fun (j : Nat) => .one (.d (.int (0 + (j : Int))))) μ = .ok ((List.replicate k true).map fun b => .d (.bool b)) μ1 := by
    intro k
    induction k with
    | zero => exact fun i μ _ => ⟨μ, rfl⟩
    | succ k ih =>
      intro i μ hi
      obtain ⟨μ1, e1⟩ := turn i μ (by omega)
      obtain ⟨μ2, e2⟩ := ih (i + 1) μ1 (by omega)
      refine ⟨μ2, ?_⟩
      rw [List.range'_succ, List.map_cons]
      show R.bind _ _ = _
      have ai : asgI (.nm 1) (.one (.d (.int (0 + (i : Int))))) (noOwn (wipeR [some (.val (.scr zs)), none] [1])) = some [some (.val (.scr zs)), some (.val (.d (.int (0 + (i : Int)))))] := rfl
      dsimp only
      rw [ai]
      dsimp only
      rw [evt_none, R.bind_ok]
      simp only [if_true]
      rw [e1, R.bind_ok, R.bind_ok]
      refine (congrArg (fun z => R.bind z _) e2).trans ?_
      rw [R.bind_ok]; rfl
  obtain ⟨k, hk, hk2⟩ : ∃ k : Nat, maxI 1 (minI (zs.length : Int) 2) = (k : Int) ∧ k ≤ 2 := by
    unfold maxI minI
    by_cases q1 : (2 : Int) < zs.length
    · exact ⟨2, by rw [if_pos q1]; rfl, by decide⟩
    · rw [if_neg q1]
      by_cases q2 : (zs.length : Int) > 1
      · exact ⟨zs.length, by rw [if_pos q2], by omega⟩
      · exact ⟨1, by rw [if_neg q2]; rfl, by decide⟩
  obtain ⟨μ1, e⟩ := cl k 0 [] (by omega)
  refine ⟨μ1, ?_⟩
  refine call_ret (fs := tab) (f := 39) (fn := f39) (vs := [.scr zs]) (n := 12) rfl rfl ?_
  refine xs_done (ret_is ?_)
  have st : startR f39.N.length [.scr zs] = [some (.val (.scr zs)), none] := rfl
  rw [st]
  have it : evI (callF tab 12) [some (.val (.scr zs)), none] (.rng1 (.bi .max2 [.con (.int 1), .bi .min2 [.bi .len [.var 0], .con (.int 2)]])) [] = .ok ((List.range' 0 k).map fun (j : Nat) => .one (.d (.int (0 + (j : Int))))) [] := by
    refine it_rng (k := k) ?_ (by omega)
    have b1 : biF .min2 [.d (.int zs.length), .d (.int 2)] = some (.d (.int (minI zs.length 2))) := rfl
    have b2 : biF .max2 [.d (.int 1), .d (.int (minI zs.length 2))] = some (.d (.int (maxI 1 (minI zs.length 2)))) := rfl
    simp only [ev_bi, evs_cons, evs_nil, ev_con, ev_var, List.getElem?_cons_zero, R.bind_ok, scr_len, lift_some, b1, b2, hk]
  have c : evE (callF tab 12) [some (.val (.scr zs)), none] (.comp (.call 38 [.call 28 [.var 0, .var 1]]) (.nm 1) (.rng1 (.bi .max2 [.con (.int 1), .bi .min2 [.bi .len [.var 0], .con (.int 2)]])) none [1]) [] = .ok (.d (.list ((List.replicate k true).map PyData.bool))) μ1 := by
    show (evI (callF tab 12) _ _ []).bind _ = _
    rw [it, R.bind_ok]
    refine (congrArg (fun z => (noEx z).bind pureL) e).trans ?_
    show (R.ok _ μ1).bind pureL = _
    rw [R.bind_ok, show ((List.replicate k true).map fun b => RV.d (.bool b)) = ((List.replicate k true).map PyData.bool).map .d by rw [List.map_map]; rfl]
    exact pureL_ok (by rw [sizeLine_is]; simp; omega)
  rw [ev_bi, evs_cons, c, R.bind_ok, evs_nil, R.bind_ok, R.bind_ok, bi_all]
  simp
end K82
end

/-! text K82Head -/
open PySem PySem.W PyProof.Rows
set_option maxRecDepth 100000 in
set_option maxHeartbeats 0 in
theorem PySem.Challenge.cw_suresieves_k82_snapshots_by_own_writing_holds : PySem.Challenge.rw_suresieves_k82_snapshots_by_own_writing.Holds := by
  w_on; o_law; k_head; (case hw => w_witness2)
  k_fill
  refine Pv.law_holds (l := PySem.Challenge.rw_suresieves_k82_snapshots_by_own_writing) (fs := K82.tab) (g := K82.gi) (f := 39) (n := 12) (x := "_law_script") rfl rfl ⟨rfl, by decide, by decide⟩ (fun w h Y => PySem.W.kIn_of Y) rfl (fun fn h => by cases h; rfl) ?F ?E
  case E => exact K82.asked
  case F =>
    intro w gm h KX G
    refine' ⟨[(?C0, ["index"]), (?C1, ["line"])], fun base kb nb => Pv.prg_mk (defs := K82.defs) rfl rfl K82.stat ?HA ?CA ?BA ?XA⟩
    case XA =>
      refine' ⟨⟨_, _, _, _, _, rfl, K82.xt0, Pv.ex_heap KX G ?aC0 ?xC0 ?bC0 ?sa0 ?ga0 ?gg0 ?nb0 ?ai0 ?ti0 ?li0 ?ci0 ?ki0 ?kC0 ?eC0 ?tC0 ?hC0 ?iC0 ?sC0⟩, ⟨⟨_, _, _, _, _, rfl, K82.xt1, Pv.ex_heap KX G ?aC1 ?xC1 ?bC1 ?sa1 ?ga1 ?gg1 ?nb1 ?ai1 ?ti1 ?li1 ?ci1 ?ki1 ?kC1 ?eC1 ?tC1 ?hC1 ?iC1 ?sC1⟩, trivial⟩⟩
      (case aC0 => k_is)
      (case xC0 => k_is)
      (case sa0 => k_is)
      (case ga0 => k_is)
      (case gg0 => k_is)
      (case nb0 => k_is)
      (case ai0 => k_is)
      (case ti0 => k_is)
      (case li0 => k_is)
      (case ci0 => k_is)
      (case ki0 => k_is)
      (case kC0 => k_is)
      (case eC0 => k_is)
      (case tC0 => k_is)
      (case hC0 => k_is)
      (case iC0 => k_is)
      (case bC0 => decide +kernel)
      (case sC0 => first | rfl | k_is)
      (case aC1 => k_is)
      (case xC1 => k_is)
      (case sa1 => k_is)
      (case ga1 => k_is)
      (case gg1 => k_is)
      (case nb1 => k_is)
      (case ai1 => k_is)
      (case ti1 => k_is)
      (case li1 => k_is)
      (case ci1 => k_is)
      (case ki1 => k_is)
      (case kC1 => k_is)
      (case eC1 => k_is)
      (case tC1 => k_is)
      (case hC1 => k_is)
      (case iC1 => k_is)
      (case bC1 => decide +kernel)
      (case sC1 => first | rfl | k_is)
    case HA =>
      refine' ⟨Pv.fn_heap KX G ?a0 ?l0 ?c0 ?k0, ⟨Pv.fn_heap KX G ?a1 ?l1 ?c1 ?k1, ⟨Pv.fn_heap KX G ?a2 ?l2 ?c2 ?k2, ⟨Pv.fn_heap KX G ?a3 ?l3 ?c3 ?k3, ⟨Pv.fn_heap KX G ?a4 ?l4 ?c4 ?k4, ⟨Pv.fn_heap KX G ?a5 ?l5 ?c5 ?k5, ⟨Pv.fn_heap KX G ?a6 ?l6 ?c6 ?k6, ⟨Pv.fn_heap KX G ?a7 ?l7 ?c7 ?k7, ⟨Pv.fn_heap KX G ?a8 ?l8 ?c8 ?k8, ⟨Pv.fn_heap KX G ?a9 ?l9 ?c9 ?k9, ⟨Pv.fn_heap KX G ?a10 ?l10 ?c10 ?k10, ⟨Pv.fn_heap KX G ?a11 ?l11 ?c11 ?k11, ⟨Pv.fn_heap KX G ?a12 ?l12 ?c12 ?k12, ⟨Pv.fn_heap KX G ?a13 ?l13 ?c13 ?k13, ⟨Pv.fn_heap KX G ?a14 ?l14 ?c14 ?k14, ⟨Pv.fn_heap KX G ?a15 ?l15 ?c15 ?k15, ⟨Pv.fn_heap KX G ?a16 ?l16 ?c16 ?k16, ⟨Pv.fn_heap KX G ?a17 ?l17 ?c17 ?k17, ⟨Pv.fn_heap KX G ?a18 ?l18 ?c18 ?k18, ⟨Pv.fn_heap KX G ?a19 ?l19 ?c19 ?k19, ⟨Pv.fn_heap KX G ?a20 ?l20 ?c20 ?k20, ⟨Pv.fn_heap KX G ?a21 ?l21 ?c21 ?k21, ⟨Pv.fn_heap KX G ?a22 ?l22 ?c22 ?k22, ⟨Pv.fn_heap KX G ?a23 ?l23 ?c23 ?k23, ⟨Pv.fn_heap KX G ?a24 ?l24 ?c24 ?k24, ⟨Pv.fn_heap KX G ?a25 ?l25 ?c25 ?k25, ⟨Pv.fn_heap KX G ?a26 ?l26 ?c26 ?k26, ⟨Pv.fn_heap KX G ?a27 ?l27 ?c27 ?k27, ⟨Pv.fn_heap KX G ?a28 ?l28 ?c28 ?k28, ⟨Pv.fn_heap KX G ?a29 ?l29 ?c29 ?k29, ⟨Pv.fn_heap KX G ?a30 ?l30 ?c30 ?k30, ⟨Pv.fn_heap KX G ?a31 ?l31 ?c31 ?k31, ⟨Pv.fn_heap KX G ?a32 ?l32 ?c32 ?k32, ⟨Pv.fn_heap KX G ?a33 ?l33 ?c33 ?k33, ⟨Pv.fn_heap KX G ?a34 ?l34 ?c34 ?k34, ⟨Pv.fn_heap KX G ?a35 ?l35 ?c35 ?k35, ⟨Pv.fn_heap KX G ?a36 ?l36 ?c36 ?k36, ⟨Pv.fn_heap KX G ?a37 ?l37 ?c37 ?k37, ⟨Pv.fn_heap KX G ?a38 ?l38 ?c38 ?k38, ⟨Pv.fn_heap KX G ?a39 ?l39 ?c39 ?k39, trivial⟩⟩⟩⟩⟩⟩⟩⟩⟩⟩⟩⟩⟩⟩⟩⟩⟩⟩⟩⟩⟩⟩⟩⟩⟩⟩⟩⟩⟩⟩⟩⟩⟩⟩⟩⟩⟩⟩⟩⟩
      (case a0 => k_is); (case l0 => k_is); (case c0 => k_is); (case k0 => k_is)
      (case a1 => k_is); (case l1 => k_is); (case c1 => k_is); (case k1 => k_is)
      (case a2 => k_is); (case l2 => k_is); (case c2 => k_is); (case k2 => k_is)
      (case a3 => k_is); (case l3 => k_is); (case c3 => k_is); (case k3 => k_is)
      (case a4 => k_is); (case l4 => k_is); (case c4 => k_is); (case k4 => k_is)
      (case a5 => k_is); (case l5 => k_is); (case c5 => k_is); (case k5 => k_is)
      (case a6 => k_is); (case l6 => k_is); (case c6 => k_is); (case k6 => k_is)
      (case a7 => k_is); (case l7 => k_is); (case c7 => k_is); (case k7 => k_is)
      (case a8 => k_is); (case l8 => k_is); (case c8 => k_is); (case k8 => k_is)
      (case a9 => k_is); (case l9 => k_is); (case c9 => k_is); (case k9 => k_is)
      (case a10 => k_is); (case l10 => k_is); (case c10 => k_is); (case k10 => k_is)
      (case a11 => k_is); (case l11 => k_is); (case c11 => k_is); (case k11 => k_is)
      (case a12 => k_is); (case l12 => k_is); (case c12 => k_is); (case k12 => k_is)
      (case a13 => k_is); (case l13 => k_is); (case c13 => k_is); (case k13 => k_is)
      (case a14 => k_is); (case l14 => k_is); (case c14 => k_is); (case k14 => k_is)
      (case a15 => k_is); (case l15 => k_is); (case c15 => k_is); (case k15 => k_is)
      (case a16 => k_is); (case l16 => k_is); (case c16 => k_is); (case k16 => k_is)
      (case a17 => k_is); (case l17 => k_is); (case c17 => k_is); (case k17 => k_is)
      (case a18 => k_is); (case l18 => k_is); (case c18 => k_is); (case k18 => k_is)
      (case a19 => k_is); (case l19 => k_is); (case c19 => k_is); (case k19 => k_is)
      (case a20 => k_is); (case l20 => k_is); (case c20 => k_is); (case k20 => k_is)
      (case a21 => k_is); (case l21 => k_is); (case c21 => k_is); (case k21 => k_is)
      (case a22 => k_is); (case l22 => k_is); (case c22 => k_is); (case k22 => k_is)
      (case a23 => k_is); (case l23 => k_is); (case c23 => k_is); (case k23 => k_is)
      (case a24 => k_is); (case l24 => k_is); (case c24 => k_is); (case k24 => k_is)
      (case a25 => k_is); (case l25 => k_is); (case c25 => k_is); (case k25 => k_is)
      (case a26 => k_is); (case l26 => k_is); (case c26 => k_is); (case k26 => k_is)
      (case a27 => k_is); (case l27 => k_is); (case c27 => k_is); (case k27 => k_is)
      (case a28 => k_is); (case l28 => k_is); (case c28 => k_is); (case k28 => k_is)
      (case a29 => k_is); (case l29 => k_is); (case c29 => k_is); (case k29 => k_is)
      (case a30 => k_is); (case l30 => k_is); (case c30 => k_is); (case k30 => k_is)
      (case a31 => k_is); (case l31 => k_is); (case c31 => k_is); (case k31 => k_is)
      (case a32 => k_is); (case l32 => k_is); (case c32 => k_is); (case k32 => k_is)
      (case a33 => k_is); (case l33 => k_is); (case c33 => k_is); (case k33 => k_is)
      (case a34 => k_is); (case l34 => k_is); (case c34 => k_is); (case k34 => k_is)
      (case a35 => k_is); (case l35 => k_is); (case c35 => k_is); (case k35 => k_is)
      (case a36 => k_is); (case l36 => k_is); (case c36 => k_is); (case k36 => k_is)
      (case a37 => k_is); (case l37 => k_is); (case c37 => k_is); (case k37 => k_is)
      (case a38 => k_is); (case l38 => k_is); (case c38 => k_is); (case k38 => k_is)
      (case a39 => k_is); (case l39 => k_is); (case c39 => k_is); (case k39 => k_is)
    case CA =>
      refine' ⟨Pv.con_is (n := 5) KX G ?a0 ?d0, ⟨Pv.con_is (n := 5) KX G ?a1 ?d1, ⟨Pv.con_is (n := 5) KX G ?a2 ?d2, ⟨Pv.con_is (n := 5) KX G ?a3 ?d3, ⟨Pv.con_is (n := 5) KX G ?a4 ?d4, ⟨Pv.con_is (n := 5) KX G ?a5 ?d5, ⟨Pv.con_is (n := 5) KX G ?a6 ?d6, ⟨Pv.con_is (n := 5) KX G ?a7 ?d7, ⟨Pv.con_is (n := 5) KX G ?a8 ?d8, ⟨Pv.con_is (n := 5) KX G ?a9 ?d9, ⟨Pv.con_is (n := 5) KX G ?a10 ?d10, ⟨Pv.con_is (n := 5) KX G ?a11 ?d11, ⟨Pv.con_is (n := 5) KX G ?a12 ?d12, ⟨Pv.con_is (n := 5) KX G ?a13 ?d13, ⟨Pv.con_is (n := 5) KX G ?a14 ?d14, ⟨Pv.con_is (n := 5) KX G ?a15 ?d15, ⟨Pv.con_is (n := 5) KX G ?a16 ?d16, ⟨Pv.con_is (n := 5) KX G ?a17 ?d17, ⟨Pv.con_is (n := 5) KX G ?a18 ?d18, ⟨Pv.con_is (n := 5) KX G ?a19 ?d19, ⟨Pv.con_is (n := 5) KX G ?a20 ?d20, ⟨Pv.con_is (n := 5) KX G ?a21 ?d21, ⟨Pv.con_is (n := 5) KX G ?a22 ?d22, ⟨Pv.con_is (n := 5) KX G ?a23 ?d23, trivial⟩⟩⟩⟩⟩⟩⟩⟩⟩⟩⟩⟩⟩⟩⟩⟩⟩⟩⟩⟩⟩⟩⟩⟩
      (case a0 => k_is); (case d0 => kernel_rfl)
      (case a1 => k_is); (case d1 => kernel_rfl)
      (case a2 => k_is); (case d2 => kernel_rfl)
      (case a3 => k_is); (case d3 => kernel_rfl)
      (case a4 => k_is); (case d4 => kernel_rfl)
      (case a5 => k_is); (case d5 => kernel_rfl)
      (case a6 => k_is); (case d6 => kernel_rfl)
      (case a7 => k_is); (case d7 => kernel_rfl)
      (case a8 => k_is); (case d8 => kernel_rfl)
      (case a9 => k_is); (case d9 => kernel_rfl)
      (case a10 => k_is); (case d10 => kernel_rfl)
      (case a11 => k_is); (case d11 => kernel_rfl)
      (case a12 => k_is); (case d12 => kernel_rfl)
      (case a13 => k_is); (case d13 => kernel_rfl)
      (case a14 => k_is); (case d14 => kernel_rfl)
      (case a15 => k_is); (case d15 => kernel_rfl)
      (case a16 => k_is); (case d16 => kernel_rfl)
      (case a17 => k_is); (case d17 => kernel_rfl)
      (case a18 => k_is); (case d18 => kernel_rfl)
      (case a19 => k_is); (case d19 => kernel_rfl)
      (case a20 => k_is); (case d20 => kernel_rfl)
      (case a21 => k_is); (case d21 => kernel_rfl)
      (case a22 => k_is); (case d22 => kernel_rfl)
      (case a23 => k_is); (case d23 => kernel_rfl)
    case BA =>
      refine' ⟨PySem.W.mg_none_of KX G ?b0, ⟨PySem.W.mg_none_of KX G ?b1, ⟨PySem.W.mg_none_of KX G ?b2, ⟨PySem.W.mg_none_of KX G ?b3, ⟨PySem.W.mg_none_of KX G ?b4, ⟨PySem.W.mg_none_of KX G ?b5, ⟨PySem.W.mg_none_of KX G ?b6, ⟨PySem.W.mg_none_of KX G ?b7, ⟨PySem.W.mg_none_of KX G ?b8, ⟨PySem.W.mg_none_of KX G ?b9, ⟨PySem.W.mg_none_of KX G ?b10, ⟨PySem.W.mg_none_of KX G ?b11, ⟨PySem.W.mg_none_of KX G ?b12, ⟨PySem.W.mg_none_of KX G ?b13, ⟨PySem.W.mg_none_of KX G ?b14, trivial⟩⟩⟩⟩⟩⟩⟩⟩⟩⟩⟩⟩⟩⟩⟩
      (case b0 => k_is)
      (case b1 => k_is)
      (case b2 => k_is)
      (case b3 => k_is)
      (case b4 => k_is)
      (case b5 => k_is)
      (case b6 => k_is)
      (case b7 => k_is)
      (case b8 => k_is)
      (case b9 => k_is)
      (case b10 => k_is)
      (case b11 => k_is)
      (case b12 => k_is)
      (case b13 => k_is)
      (case b14 => k_is)
