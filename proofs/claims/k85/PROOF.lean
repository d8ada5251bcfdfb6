import PyProof.Rows.All
import Wide.All
import OpenK.AllK
import Wide.FinOn
import PySem.Syntax
import KE.SortData
import HandS.Base
import HandS.Call
import HandS.List
import HandS.Comp
import HandS.Ends
import HandS.Iter
import HandS.Conv
import HandS.Exc
import HandS.ExcInit
import HandS.ExcOwn
import HandS.Deep
import HandS.DictTup
import HandS.TupLen
import HandS.Defaults
import KE.KDictPairs
import PyProof.ReprRoads
import HandS.Sort
import PyProof.Rows.SortShell
import HandS.TryMany
import HandS.Flow
import HandS.Style
import HandS.IsInst
import HandS.Wide
import HandS.Gcd
import HandS.Zip
import HandS.Words
import HandS.TupAny
import KE.KSortedM
import HandS.HeadEnd
import HandS.HeadHook2
import HandS.HeadHook4
import HandS.Head0
import HandS.Head1
import HandS.Head2
import HandS.HeadHook1
import PySem.Challenge.RW_producttables_k85_whole_paths_listed
set_option Elab.async false
set_option linter.all false
set_option maxRecDepth 100000
/-! PV, the values: trees without addresses; the codes; what they are worth. -/
namespace PV
open PySem

inductive T where
  | non | bl (b : Bool) | int (i : Int) | str (s : Str)
  | lst (xs : List T) | tup (xs : List T) | ins (c : Nat) (fs : List T)
  /-- the script -/
  | scr (ns : List Int)
  /-- dicts: keys are tuples; ints and texts -/
  | dit (ks : List (List (Sum Int Str))) (vs : List T) | dik (ks : List (Sum Int Str)) (vs : List T)
  deriving Inhabited

/-- a slot: nothing, a frozen tree, a list of one's own (k: it may be handed on; else the caller's, to be changed), a list lent -/
inductive Sl where
  | u | v (t : T) | o (k : Bool) (xs : List T) | b (xs : List T)
  deriving Inhabited
abbrev Rho := List Sl

inductive R (α : Type) where
  | ok (a : α) (e : Rho) | exc (c : Nat) (ts : List T) (e : Rho) | bad
def R.bind {α β : Type} (x : R α) (f : α → Rho → R β) : R β := match x with
  | .ok a e => f a e
  | .exc c ts e => .exc c ts e
  | .bad => .bad

/-- a result: a frozen tree, or a new list that nobody else holds -/
inductive A where
  | t (x : T) | f (xs : List T)
/-- an operand: the list in a slot (by reference), a tree, a new list -/
inductive Opd where
  | d (i : Nat) | x (t : T) | f (xs : List T)
/-- a call's end -/
inductive CR where
  | ok (r : A) (ms : List (List T)) | exc (c : Nat) (ts : List T) | bad
abbrev Orc := Nat → List A → CR

/-! ### codes -/
inductive Bin where | add | sub | mul | fdiv | mod | pow | shl
  deriving DecidableEq
inductive Cmp where | eq | ne | lt | le | gt | ge | isin | notin
  deriving DecidableEq
inductive Ty where | int | bool | str | list | tuple | cls (c : Nat)
  deriving DecidableEq
inductive Bi where | len | list | tuple | sorted | all | any | sum | max2 | min2 | abs | int | divmod | gcd | lcm | repr | str | lrange | trange | dict
  deriving DecidableEq

inductive Ex where
  | con (t : T)
  | loc (i : Nat)
  | dk0 | dk1 (k : Int) (e : Ex)
  | lst (es : List Ex) | tup (es : List Ex)
  | bin (o : Bin) (a b : Ex)
  | neg (a : Ex)
  | cmp (o : Cmp) (a b : Ex)
  | chn (o p : Cmp) (a b c : Ex)
  | and_ (a b : Ex) | or_ (a b : Ex) | not_ (a : Ex)
  /-- and, or where a test stands -/
  | tand (a b : Ex) | tor (a b : Ex)
  | ite (c a b : Ex)
  | isn (neg : Bool) (a : Ex)
  | isb (neg : Bool) (a : Ex) (k : Bool)
  | isi (a : Ex) (ts : List Ty)
  | call (f : Nat) (ps : List (Nat ⊕ T)) (es : List Ex)
  | call1 (f : Nat) (e : Ex)
  | mk (c : Nat) (ps : List (Nat ⊕ T)) (es : List Ex)
  | bi (b : Bi) (es : List Ex)
  | app (i : Nat) (e : Ex) | ext (i : Nat) (e : Ex) | pop (i : Nat) | popA (i : Nat) (e : Ex)
  | ixof (a e : Ex)
  | idx (a i : Ex)
  | slc (a : Ex) (lo hi : Option Ex)
  | rev (a : Ex)
  | comp (own : List Nat) (tg : List Nat) (tp : Bool) (k : Nat) (its : List Ex) (cond : Option Ex) (elt : Ex)
  | att (a : Ex) (f : Nat)
  | mth (a : Ex) (m : Nat) (ps : List (Nat ⊕ T)) (es : List Ex)

/-- targets of a store: a name, an item of a list in a slot -/
inductive Tg where
  | nm (i : Nat) | ix (i : Nat) (e : Ex)
/-- what an except suite returns: val f is the caught error's field f -/
inductive XE where
  | val (f : Str) | loc (i : Nat) | con (t : T) | eq (a b : XE)
inductive Sm where
  | ex (e : Ex) | ret (e : Ex) | retN
  | asg (i : Nat) (e : Ex)
  | unp (ts : List Tg) (e : Ex)
  | par (i j : Nat) (a b : Ex)
  | set (i : Nat) (ix e : Ex)
  | aug (i : Nat) (o : Bin) (e : Ex)
  | ite (c : Ex) (a b : List Sm)
  | whl (c : Ex) (b : List Sm)
  | for_ (tg : List Nat) (tp : Bool) (k : Nat) (its : List Ex) (b : List Sm)
  | rai (c : Nat) (es : List Ex)
  /-- try: b except c as (slot i): return e -/
  | try_ (b : List Sm) (c i : Nat) (e : XE)
  | die
  | pass | brk | cont

/-! ### plain values -/
mutual
/-- == -/
def eqT : T → T → Bool
  | .non, .non => true
  | .bl a, .bl b => a == b
  | .bl a, .int j => (if a then 1 else 0) == j
  | .int i, .bl b => i == (if b then 1 else 0)
  | .int i, .int j => i == j
  | .str x, .str y => x == y
  | .lst xs, .lst ys => eqTs xs ys
  | .tup xs, .tup ys => eqTs xs ys
  | _, _ => false
def eqTs : List T → List T → Bool
  | [], [] => true
  | x :: xs, y :: ys => eqT x y && eqTs xs ys
  | _, _ => false
end
def big : Nat := 16777216
def truth : T → Option Bool
  | .non => some false
  | .bl b => some b
  | .int i => some (i != 0)
  | .str s => if s.length ≤ big then some (!(s.length == 0)) else none
  | .lst xs => some (!xs.isEmpty)
  | .tup xs => some (!xs.isEmpty)
  | .ins _ _ => none
  | .scr ns => some (!ns.isEmpty)
  | _ => none
def itemsT : T → Option (List T)
  | .lst xs => some xs
  | .tup xs => some xs
  | _ => none
def listT : T → Option (List T)
  | .lst xs => some xs
  | _ => none
def intsT : List T → Option (List Int)
  | [] => some []
  | .int i :: r => (intsT r).map (i :: ·)
  | _ :: _ => none
def boolsT : List T → Option (List Bool)
  | [] => some []
  | .bl i :: r => (boolsT r).map (i :: ·)
  | _ :: _ => none
def okMul (i j : Int) : Bool := decide (i.natAbs.log2 + j.natAbs.log2 < 1000000)
def repT (xs : List T) : Nat → List T
  | 0 => []
  | n + 1 => xs ++ repT xs n
def binT : Bin → T → T → Option A
  | .add, .int i, .int j => some (.t (.int (i + j)))
  | .add, .str i, .str j => if i.length + j.length ≤ big then some (.t (.str (i ++ j))) else none
  | .add, .lst i, .lst j => if i.length + j.length ≤ big then some (.f (i ++ j)) else none
  | .add, .tup i, .tup j => if i.length + j.length ≤ big then some (.t (.tup (i ++ j))) else none
  | .sub, .int i, .int j => some (.t (.int (i - j)))
  | .mul, .int i, .int j => if okMul i j then some (.t (.int (i * j))) else none
  | .mul, .lst i, .int j => if i.length * j.toNat ≤ big ∧ -(2 ^ 63) ≤ j ∧ j < 2 ^ 63 then some (.f (repT i j.toNat)) else none
  | .fdiv, .int i, .int j => if 0 < j ∧ j.natAbs.log2 < 9000 then some (.t (.int (i / j))) else none
  | .mod, .int i, .int j => if 0 < j then some (.t (.int (i % j))) else none
  | .pow, .int i, .int j => if 0 ≤ j ∧ j ≤ 1000000 ∧ i.natAbs < 2 ^ 64 then some (.t (.int (i ^ j.toNat))) else none
  | .shl, .int i, .int j => if 0 ≤ j ∧ j ≤ 1000000 ∧ i.natAbs < 2 ^ 64 then some (.t (.int (i * 2 ^ j.toNat))) else none
  | _, _, _ => none
def anyEq (x : T) (ys : List T) : Bool := ys.any fun y => eqT y x
def strB (x : Str) : Bool := x.cps.all (· < 0x110000)
/-- data that == goes through: no instance, at most so deep -/
def okT : Nat → T → Bool
  | _, .non => true
  | _, .bl _ => true
  | _, .int _ => true
  | _, .str s => strB s
  | n + 1, .lst xs => xs.all (okT n)
  | n + 1, .tup xs => xs.all (okT n)
  | _, _ => false
def flatT : T → Bool
  | .non => true
  | .bl _ => true
  | .int _ => true
  | .str _ => true
  | _ => false
/-- a key -/
def kyT : T → Option (Sum Int Str)
  | .int i => some (.inl i)
  | .str s => some (.inr s)
  | _ => none
def kysT : List T → Option (List (Sum Int Str))
  | [] => some []
  | x :: xs => match kyT x, kysT xs with
    | some k, some ks => some (k :: ks)
    | _, _ => none
def tkT : T → Option (List (Sum Int Str))
  | .tup xs => kysT xs
  | _ => none
def inT (x : T) : T → Option Bool
  | .dit ks vs => (tkT x).map fun k => ks.any fun j => decide (j = k)
  | .lst ys => if okT 63 x && ys.all (okT 63) then some (anyEq x ys) else none
  | .tup ys => if flatT x && ys.all flatT then some (anyEq x ys) else none
  | _ => none
def cmpT : Cmp → T → T → Option Bool
  | .eq, x, y => if okT 64 x && okT 64 y then some (eqT x y) else none
  | .ne, x, y => if okT 64 x && okT 64 y then some (!eqT x y) else none
  | .lt, .int i, .int j => some (decide (i < j))
  | .le, .int i, .int j => some (decide (i ≤ j))
  | .gt, .int i, .int j => some (decide (j < i))
  | .ge, .int i, .int j => some (decide (j ≤ i))
  | .isin, x, y => inT x y
  | .notin, x, y => (inT x y).map not
  | _, _, _ => none
def isTy : T → Ty → Bool
  | .int _, .int => true
  | .bl _, .int => true
  | .bl _, .bool => true
  | .str _, .str => true
  | .lst _, .list => true
  | .tup _, .tuple => true
  | .ins c _, .cls d => c == d
  | _, _ => false
def ixN (n : Nat) (i : Int) : Option Nat := if 0 ≤ i then (if i < n then some i.toNat else none) else if -(n : Int) ≤ i then some (i + n).toNat else none
def idxT : T → T → Option T
  | .lst xs, .int i => (ixN xs.length i).bind fun j => xs[j]?
  | .tup xs, .int i => (ixN xs.length i).bind fun j => xs[j]?
  | .scr xs, .int i => (ixN xs.length i).bind fun j => (xs[j]?).map .int
  | _, _ => none
def sIx (n d : Nat) : Option Int → Nat
  | none => d
  | some i => if i < 0 then (i + (n : Int)).toNat else min i.toNat n
def cut (xs : List T) (lo hi : Option Int) : List T := (xs.drop (sIx xs.length 0 lo)).take (sIx xs.length xs.length hi - sIx xs.length 0 lo)

/-! ### data, their texts -/
mutual
def toD : T → PyData
  | .non => .none
  | .bl b => .bool b
  | .int i => .int i
  | .str s => .str s
  | .lst xs => .list (toDs xs)
  | .tup xs => .tuple (toDs xs)
  | _ => .none
def toDs : List T → List PyData
  | [] => []
  | x :: xs => toD x :: toDs xs
end
def reprT (x : T) : Option Str := if okT 63 x && (toD x).showable && decide ((toD x).shown.length ≤ big) then some (toD x).shown else none

/-! ### operands -/
def slotT : Sl → Option T
  | .u => none
  | .v t => some t
  | .o _ xs => some (.lst xs)
  | .b xs => some (.lst xs)
/-- what an operand is, now -/
def res (ρ : Rho) : Opd → Option T
  | .d i => (ρ[i]?).bind slotT
  | .x t => some t
  | .f xs => some (.lst xs)
/-- .. handed on: the list in the slot is frozen -/
def frz (ρ : Rho) : Opd → Option (T × Rho)
  | .d i => match ρ[i]? with
    | some (.v t) => some (t, ρ)
    | some (.o true xs) => some (.lst xs, ρ.set i (.v (.lst xs)))
    | _ => none
  | .x t => some (t, ρ)
  | .f xs => some (.lst xs, ρ)
def frzs (ρ : Rho) : List Opd → Option (List T × Rho)
  | [] => some ([], ρ)
  | o :: os => match frz ρ o with
    | some (t, ρ) => match frzs ρ os with
      | some (ts, ρ) => some (t :: ts, ρ)
      | none => none
    | none => none
def ress (ρ : Rho) : List Opd → Option (List T)
  | [] => some []
  | o :: os => match res ρ o with
    | some t => match ress ρ os with
      | some ts => some (t :: ts)
      | none => none
    | none => none
def ofA : A → Opd
  | .t x => .x x
  | .f xs => .f xs
def asT : A → T
  | .t x => x
  | .f xs => .lst xs
section
variable (ih : Ex → Rho → R A)
def evO (e : Ex) (ρ : Rho) : R Opd := match e with
  | .loc i => match (ρ[i]?).bind slotT with
    | some _ => .ok (.d i) ρ
    | none => .bad
  | e => (ih e ρ).bind fun a ρ => .ok (ofA a) ρ
def evOs : List Ex → Rho → R (List Opd)
  | [], ρ => .ok [] ρ
  | e :: es, ρ => (evO ih e ρ).bind fun o ρ => (evOs es ρ).bind fun os ρ => .ok (o :: os) ρ
/-- a tree of an operand, to be read at once -/
def evP (e : Ex) (ρ : Rho) : R T := (evO ih e ρ).bind fun o ρ => match res ρ o with
  | some t => .ok t ρ
  | none => .bad
def evPs (es : List Ex) (ρ : Rho) : R (List T) := (evOs ih es ρ).bind fun os ρ => match ress ρ os with
  | some ts => .ok ts ρ
  | none => .bad
/-- a tree to be kept -/
def evF (e : Ex) (ρ : Rho) : R T := (evO ih e ρ).bind fun o ρ => match frz ρ o with
  | some (t, ρ) => .ok t ρ
  | none => .bad
/-- a test -/
def evB (e : Ex) (ρ : Rho) : R Bool := (evP ih e ρ).bind fun t ρ => match truth t with
  | some b => .ok b ρ
  | none => .bad
end
/-- a slice's part -/
def evS (ih : Ex → Rho → R A) (e : Option Ex) (ρ : Rho) : R (Option Int) := match e with
  | none => .ok none ρ
  | some e => (evP ih e ρ).bind fun t ρ => match t with
    | .int i => .ok (some i) ρ
    | _ => .bad
def cutT (x : T) (lo hi : Option Int) : Option A := match x with
  | .lst xs => some (.f (cut xs lo hi))
  | .tup xs => some (.t (.tup (cut xs lo hi)))
  | _ => none
def findT (y : T) : List T → Option Nat
  | [] => none
  | x :: xs => if eqT x y then some 0 else (findT y xs).map (· + 1)
def ixofT : T → T → Option T
  | .lst xs, y => if okT 63 y && xs.all (okT 63) then (findT y xs).map fun (j : Nat) => T.int (j : Int) else none
  | _, _ => none
def isiT (x : T) (ts : List Ty) : Option Bool := match x with
  | .ins _ _ => none
  | .scr _ => none
  | x => some (ts.any (isTy x))
def ofT (o : Option T) (ρ : Rho) : R A := match o with
  | some t => .ok (.t t) ρ
  | none => .bad
def ofA? (o : Option A) (ρ : Rho) : R A := match o with
  | some a => .ok a ρ
  | none => .bad
def ofB (o : Option Bool) (ρ : Rho) : R A := match o with
  | some b => .ok (.t (.bl b)) ρ
  | none => .bad

/-! ### what a loop walks -/
/-- k: a list (else a tuple) -/
inductive Iv where
  | sq (k : Bool) (o : Opd) | rg (lo : Int) (n : Nat) | en (o : Opd) | zp (a b : Opd)
def tupT : T → Option (List T)
  | .tup xs => some xs
  | _ => none
/-- the turn's item: none: it is at its end -/
def turnAt (ρ : Rho) (i : Nat) : Iv → Option (Option T)
  | .sq true o => ((res ρ o).bind listT).map fun xs => xs[i]?
  | .sq false o => ((res ρ o).bind tupT).map fun xs => xs[i]?
  | .rg lo n => some (if i < n then some (.int (lo + i)) else none)
  | .en o => ((res ρ o).bind listT).map fun xs => (xs[i]?).map fun x => .tup [.int i, x]
  | .zp a b => match (res ρ a).bind listT, (res ρ b).bind listT with
    | some xs, some ys => some (match xs[i]?, ys[i]? with
      | some x, some y => some (.tup [x, y])
      | _, _ => none)
    | _, _ => none
def ivOf (k : Nat) (ρ : Rho) (os : List Opd) : Option Iv := match k, os with
  | 0, [o] => match res ρ o with
    | some (.lst _) => some (.sq true o)
    | some (.tup _) => some (.sq false o)
    | _ => none
  | 1, [o] => match res ρ o with
    | some (.int j) => if -(2 ^ 62) ≤ j ∧ j < 2 ^ 62 then some (.rg 0 j.toNat) else none
    | _ => none
  | 2, [a, b] => match res ρ a, res ρ b with
    | some (.int i), some (.int j) => if -(2 ^ 62) ≤ i ∧ i < 2 ^ 62 ∧ -(2 ^ 62) ≤ j ∧ j < 2 ^ 62 then some (.rg i (j - i).toNat) else none
    | _, _ => none
  | 3, [o] => match res ρ o with
    | some (.lst _) => some (.en o)
    | _ => none
  | 4, [a, b] => match res ρ a, res ρ b with
    | some (.lst _), some (.lst _) => some (.zp a b)
    | _, _ => none
  | _, _ => none
/-- a walk over what is there; over what is handed on -/
def evIv (ih : Ex → Rho → R A) (k : Nat) (its : List Ex) (ρ : Rho) : R Iv := (evOs ih its ρ).bind fun os ρ => match ivOf k ρ os with
  | some iv => .ok iv ρ
  | none => .bad
def evIf (ih : Ex → Rho → R A) (k : Nat) (its : List Ex) (ρ : Rho) : R Iv := (evOs ih its ρ).bind fun os ρ => match frzs ρ os with
  | some (ts, ρ) => match ivOf k ρ (ts.map .x) with
    | some iv => .ok iv ρ
    | none => .bad
  | none => .bad
/-- the walk's things do not stand in these slots -/
def ivFree (own : List Nat) : Iv → Bool
  | .sq _ (.d i) => !own.contains i
  | .sq _ _ => true
  | .rg _ _ => true
  | .en (.d i) => !own.contains i
  | .en _ => true
  | .zp (.d i) (.d j) => !own.contains i && !own.contains j
  | .zp (.d i) _ => !own.contains i
  | .zp _ (.d j) => !own.contains j
  | .zp _ _ => true
def setAll : List Nat → List T → Rho → Option Rho
  | [], [], ρ => some ρ
  | i :: is, t :: ts, ρ => setAll is ts (ρ.set i (.v t))
  | _, _, _ => none
def bindTo (tg : List Nat) (tp : Bool) (t : T) (ρ : Rho) : Option Rho := match tp with
  | false => match tg with
    | [i] => some (ρ.set i (.v t))
    | _ => none
  | true => match t with
    | .tup ts => setAll tg ts ρ
    | _ => none
def wipeE (ρ : Rho) : List Nat → Rho
  | [] => ρ
  | v :: vs => (wipeE ρ vs).set v .u

/-- no lists of one's own in these slots -/
def plainSl (own : List Nat) (ρ : Rho) : Bool := own.all fun v => match ρ[v]? with
  | some (.o _ _) => false
  | some (.b _) => false
  | _ => true
/-- the slots as they were -/
def backE (ρ0 ρ : Rho) : List Nat → Rho
  | [] => ρ
  | v :: vs => (backE ρ0 ρ vs).set v ((ρ0[v]?).getD .u)
/-- a comprehension's turns -/
def compL (turn : T → Rho → R (Option T)) (iv : Iv) : Nat → Nat → List T → Rho → R A
  | 0, _, _, _ => .bad
  | m + 1, i, acc, ρ => match turnAt ρ i iv with
    | none => .bad
    | some none => .ok (.f acc) ρ
    | some (some t) => match turn t ρ with
      | .ok (some y) ρ => if acc.length < big then compL turn iv m (i + 1) (acc ++ [y]) ρ else .bad
      | .ok none ρ => compL turn iv m (i + 1) acc ρ
      | _ => .bad

/-! ### calls -/
/-- the operands in the parameters' order -/
def place (os : List Opd) : List (Nat ⊕ T) → Option (List Opd)
  | [] => some []
  | .inl k :: r => match os[k]? with
    | some o => (place os r).map (o :: ·)
    | none => none
  | .inr t :: r => (place os r).map (.x t :: ·)
/-- a parameter: handed on; lent; to be changed -/
inductive Md where | val | bor | chg
  deriving DecidableEq
/-- one argument; the slot that the callee may change -/
def argOf (ρ : Rho) : Md → Opd → Option (A × Rho)
  | .val, o => (frz ρ o).map fun p => (.t p.1, p.2)
  | .bor, .d i => match ρ[i]? with
    | some (.v t) => some (.t t, ρ)
    | some (.o _ xs) => some (.f xs, ρ)
    | some (.b xs) => some (.f xs, ρ)
    | _ => none
  | .bor, .x t => some (.t t, ρ)
  | .bor, .f xs => some (.t (.lst xs), ρ)
  | .chg, .d i => match ρ[i]? with
    | some (.o _ xs) => some (.f xs, ρ)
    | _ => none
  | .chg, _ => none
def argsOf (ρ : Rho) : List Md → List Opd → Option (List A × Rho)
  | [], [] => some ([], ρ)
  | m :: ms, o :: os => match argOf ρ m o with
    | some (a, ρ) => match argsOf ρ ms os with
      | some (as, ρ) => some (a :: as, ρ)
      | none => none
    | none => none
  | _, _ => none
/-- the slots lent to be changed -/
def mutsOf : List Md → List Opd → List Nat
  | .chg :: ms, .d i :: os => i :: mutsOf ms os
  | _ :: ms, _ :: os => mutsOf ms os
  | _, _ => []
def lentOf : List Md → List Opd → List Nat
  | .bor :: ms, .d i :: os => i :: lentOf ms os
  | _ :: ms, _ :: os => lentOf ms os
  | _, _ => []
def isOwn (ρ : Rho) (i : Nat) : Bool := match ρ[i]? with
  | some (.o _ _) => true
  | _ => false
def putBack (i : Nat) (xs : List T) (ρ : Rho) : Rho := match ρ[i]? with
  | some (.o k _) => ρ.set i (.o k xs)
  | _ => ρ
def callWith (F : Orc) (f : Nat) (md : List Md) (os : List Opd) (ρ : Rho) : R A := match argsOf ρ md os with
  | none => .bad
  | some (as, ρ) => match mutsOf md os with
    | [] => match F f as with
      | .ok r _ => .ok r ρ
      | .exc c ts => .exc c ts ρ
      | .bad => .bad
    | [i] => match isOwn ρ i && !(lentOf md os).contains i with
      | false => .bad
      | true => match F f as with
        | .ok r [xs] => .ok r (putBack i xs ρ)
        | .exc c ts => .exc c ts (ρ.set i .u)
        | _ => .bad
    | _ => .bad
end PV

set_option Elab.async false
set_option linter.all false
set_option maxRecDepth 100000
/-! PV, the evaluator. -/
namespace PV
open PySem
/-- a def: how many slots, its parameters' modes, its body -/
structure Fc where
  slots : Nat
  md : List Md
  body : List Sm
/-- what a program has besides: of each class its fields' number, its __init__; properties, methods, own errors' classes -/
structure Pg where
  fns : List Fc
  /-- is an error of the class c one of c' -/
  sub : Nat → Nat → Option Bool
  nms : Nat → List Str
  att : Nat → Nat → Option (Nat ⊕ Nat)
  mth : Nat → Nat → Option Nat
  mkr : Nat → Option Nat
  flds : Nat → Nat

def insI (x : Int) : List Int → List Int
  | [] => [x]
  | y :: ys => if x ≤ y then x :: y :: ys else y :: insI x ys
def sortI : List Int → List Int
  | [] => []
  | x :: xs => insI x (sortI xs)
def sumI : List Int → Int
  | [] => 0
  | x :: xs => x + sumI xs
/-! ### data in their sequence -/
def leT (a b : T) : Bool := !(PySem.W.dataLt (toD b) (toD a))
def insT (x : T) : List T → List T
  | [] => [x]
  | y :: ys => if leT x y then x :: y :: ys else y :: insT x ys
def sortT : List T → List T
  | [] => []
  | x :: xs => insT x (sortT xs)
def isTp : T → Bool
  | .tup (_ :: _) => true
  | _ => false
/-- tuples that can be told apart place by place -/
def srtOk (xs : List T) : Bool := decide (xs.length ≤ big) && (xs.all (okT 63) && (xs.all isTp && xs.all fun a => xs.all fun b => PySem.W.alike (toD a) (toD b)))
def sortD : T → Option A
  | .lst xs => if srtOk xs then some (.f (sortT xs)) else none
  | _ => none
/-- d[k] = v -/
def putD (m : List (List (Sum Int Str) × T)) (k : List (Sum Int Str)) (v : T) : List (List (Sum Int Str) × T) :=
  if (m.any fun p => decide (p.1 = k)) = true then m.map (fun p => if p.1 = k then (p.1, v) else p) else m ++ [(k, v)]
def pairsD : List T → Option (List (List (Sum Int Str) × T))
  | [] => some []
  | .tup [k, v] :: r => match tkT k, pairsD r with
    | some k, some m => some ((k, v) :: m)
    | _, _ => none
  | _ :: _ => none
def dictD (m : List (List (Sum Int Str) × T)) : List (List (Sum Int Str) × T) := m.foldl (fun d p => putD d p.1 p.2) []
def biT : Bi → List T → Option A
  | .len, [.dit ks vs] => some (.t (.int ks.length))
  | .repr, [x] => (reprT x).map fun s => .t (.str s)
  | .dict, [.lst xs] => if xs.length ≤ big then (pairsD xs).map fun m => .t (.dit ((dictD m).map (·.1)) ((dictD m).map (·.2))) else none
  | .len, [.lst xs] => some (.t (.int xs.length))
  | .len, [.tup xs] => some (.t (.int xs.length))
  | .len, [.scr xs] => some (.t (.int xs.length))
  | .list, [x] => (itemsT x).map .f
  | .tuple, [x] => (itemsT x).map fun xs => .t (.tup xs)
  | .sorted, [x] => (((itemsT x).bind intsT).bind fun is => if is.length < 64 then some (.f ((sortI is).map .int)) else none) <|> sortD x
  | .all, [.lst xs] => (boolsT xs).map fun bs => .t (.bl (bs.all id))
  | .any, [.lst xs] => (boolsT xs).map fun bs => .t (.bl (bs.any id))
  | .sum, [.lst xs] => (intsT xs).map fun is => .t (.int (sumI is))
  | .max2, [.int i, .int j] => some (.t (.int (if j > i then j else i)))
  | .min2, [.int i, .int j] => some (.t (.int (if j < i then j else i)))
  | .abs, [.int i] => some (.t (.int (if i < 0 then -i else i)))
  | .int, [.int i] => some (.t (.int i))
  | .int, [.bl b] => some (.t (.int (if b then 1 else 0)))
  | .divmod, [.int i, .int j] => if 0 < j ∧ j < 1073741824 then some (.t (.tup [.int (i / j), .int (i % j)])) else none
  | .lrange, [.int j] => if 0 ≤ j ∧ j ≤ 16777216 then some (.f ((List.range j.toNat).map fun (k : Nat) => T.int k)) else none
  | .trange, [.int j] => if 0 ≤ j ∧ j ≤ 16777216 then some (.t (.tup ((List.range j.toNat).map fun (k : Nat) => T.int k))) else none
  | _, _ => none

def appC (i : Nat) (t : T) (ρ : Rho) : R A := match ρ[i]? with
  | some (.o k xs) => if xs.length < big then .ok (.t .non) (ρ.set i (.o k (xs ++ [t]))) else .bad
  | _ => .bad
def extC (i : Nat) (t : T) (ρ : Rho) : R A := match ρ[i]?, t with
  | some (.o k xs), .lst ys => if xs.length + ys.length ≤ big then .ok (.t .non) (ρ.set i (.o k (xs ++ ys))) else .bad
  | _, _ => .bad
def popC (i : Nat) (ρ : Rho) : R A := match ρ[i]? with
  | some (.o k xs) => match xs[xs.length - 1]? with
    | some t => .ok (.t t) (ρ.set i (.o k xs.dropLast))
    | none => .bad
  | _ => .bad
def popAC (i : Nat) (t : T) (ρ : Rho) : R A := match ρ[i]?, t with
  | some (.o k xs), .int j => match ixN xs.length j with
    | some m => match xs[m]? with
      | some t => if xs.length ≤ big then .ok (.t t) (ρ.set i (.o k (xs.eraseIdx m))) else .bad
      | none => .bad
    | none => .bad
  | _, _ => .bad
/-- a turn of a comprehension -/
def compTurn (ih : Ex → Rho → R A) (own tg : List Nat) (tp : Bool) (cond : Option Ex) (elt : Ex) (t : T) (ρ : Rho) : R (Option T) := match bindTo tg tp t ρ with
  | none => .bad
  | some ρ => match cond with
    | none => (evF ih elt ρ).bind fun y ρ => .ok (some y) (wipeE ρ own)
    | some c => (evB ih c ρ).bind fun b ρ => match b with
      | true => (evF ih elt ρ).bind fun y ρ => .ok (some y) (wipeE ρ own)
      | false => .ok none (wipeE ρ own)
section
variable (P : Pg) (F : Orc) (L : Nat)
def ev : Nat → Ex → Rho → R A
  | 0, _, _ => .bad
  | n + 1, e, ρ => match e with
    | .con t => .ok (.t t) ρ
    | .loc i => match frz ρ (.d i) with
      | some (t, ρ) => .ok (.t t) ρ
      | none => .bad
    | .dk0 => .ok (.t (.dit [] [])) ρ
    | .dk1 k e => (evF (ev n) e ρ).bind fun t ρ => .ok (.t (.dik [.inl k] [t])) ρ
    | .lst es => (evOs (ev n) es ρ).bind fun os ρ => match frzs ρ os with
      | some (ts, ρ) => if ts.length ≤ big then .ok (.f ts) ρ else .bad
      | none => .bad
    | .tup es => (evOs (ev n) es ρ).bind fun os ρ => match frzs ρ os with
      | some (ts, ρ) => if ts.length ≤ big then .ok (.t (.tup ts)) ρ else .bad
      | none => .bad
    | .bin o a b => (evOs (ev n) [a, b] ρ).bind fun os ρ => match ress ρ os with
      | some [x, y] => ofA? (binT o x y) ρ
      | _ => .bad
    | .neg a => (evP (ev n) a ρ).bind fun x ρ => match x with
      | .int i => .ok (.t (.int (-i))) ρ
      | _ => .bad
    | .cmp o a b => (evOs (ev n) [a, b] ρ).bind fun os ρ => match ress ρ os with
      | some [x, y] => ofB (cmpT o x y) ρ
      | _ => .bad
    | .chn o p a b c => (evOs (ev n) [a, b] ρ).bind fun os ρ => match os with
      | [oa, ob] => match res ρ oa, res ρ ob with
        | some x, some y => match cmpT o x y with
          | some true => (evO (ev n) c ρ).bind fun oc ρ => match res ρ ob, res ρ oc with
            | some y, some z => ofB (cmpT p y z) ρ
            | _, _ => .bad
          | some false => .ok (.t (.bl false)) ρ
          | none => .bad
        | _, _ => .bad
      | _ => .bad
    | .and_ a b => (evP (ev n) a ρ).bind fun x ρ => match x with
      | .bl true => ev n b ρ
      | .bl false => .ok (.t (.bl false)) ρ
      | _ => .bad
    | .or_ a b => (evP (ev n) a ρ).bind fun x ρ => match x with
      | .bl true => .ok (.t (.bl true)) ρ
      | .bl false => ev n b ρ
      | _ => .bad
    | .tand a b => (evB (ev n) a ρ).bind fun x ρ => match x with
      | true => (evB (ev n) b ρ).bind fun y ρ => .ok (.t (.bl y)) ρ
      | false => .ok (.t (.bl false)) ρ
    | .tor a b => (evB (ev n) a ρ).bind fun x ρ => match x with
      | true => .ok (.t (.bl true)) ρ
      | false => (evB (ev n) b ρ).bind fun y ρ => .ok (.t (.bl y)) ρ
    | .not_ a => (evB (ev n) a ρ).bind fun x ρ => .ok (.t (.bl (!x))) ρ
    | .ite c a b => (evB (ev n) c ρ).bind fun x ρ => match x with
      | true => ev n a ρ
      | false => ev n b ρ
    | .isn neg a => (evP (ev n) a ρ).bind fun x ρ => match x with
      | .non => .ok (.t (.bl (!neg))) ρ
      | _ => .ok (.t (.bl neg)) ρ
    | .isb neg a k => (evP (ev n) a ρ).bind fun x ρ => match x with
      | .bl j => .ok (.t (.bl (neg != (j == k)))) ρ
      | _ => .bad
    | .isi a ts => (evP (ev n) a ρ).bind fun x ρ => ofB (isiT x ts) ρ
    | .call f ps es => (evOs (ev n) es ρ).bind fun os ρ => match (if ps.isEmpty then some os else place os ps), P.fns[f]? with
      | some os, some fc => callWith F f fc.md os ρ
      | _, _ => .bad
    | .call1 f e => (ev n e ρ).bind fun a ρ => match P.fns[f]?, a with
      | some fc, .f xs => match fc.md with
        | [.chg] => match F f [.f xs] with
          | .ok r [_] => .ok r ρ
          | .exc c ts => .exc c ts ρ
          | _ => .bad
        | _ => .bad
      | _, _ => .bad
    | .bi b es => (evPs (ev n) es ρ).bind fun ts ρ => ofA? (biT b ts) ρ
    | .app i e => match isOwn ρ i with
      | false => .bad
      | true => (evF (ev n) e ρ).bind (appC i)
    | .ext i e => match isOwn ρ i with
      | false => .bad
      | true => (evP (ev n) e ρ).bind (extC i)
    | .pop i => popC i ρ
    | .popA i e => match isOwn ρ i with
      | false => .bad
      | true => (evP (ev n) e ρ).bind (popAC i)
    | .idx a i => (evOs (ev n) [a, i] ρ).bind fun os ρ => match ress ρ os with
      | some [x, y] => ofT (idxT x y) ρ
      | _ => .bad
    | .ixof a i => (evO (ev n) a ρ).bind fun o ρ => match res ρ o with
      | some (.lst _) => (evP (ev n) i ρ).bind fun y ρ => match res ρ o with
        | some x => ofT (ixofT x y) ρ
        | none => .bad
      | _ => .bad
    | .slc a lo hi => (evO (ev n) a ρ).bind fun o ρ => (evS (ev n) lo ρ).bind fun l ρ => (evS (ev n) hi ρ).bind fun h ρ => match res ρ o with
      | some x => ofA? (cutT x l h) ρ
      | none => .bad
    | .rev a => (evP (ev n) a ρ).bind fun x ρ => match x with
      | .lst xs => .ok (.f xs.reverse) ρ
      | _ => .bad
    | .comp own tg tp k its cond elt => (evIv (ev n) k its ρ).bind fun iv ρ0 => match ivFree own iv && plainSl own ρ0 with
      | false => .bad
      | true => match compL (compTurn (ev n) own tg tp cond elt) iv L 0 [] (wipeE ρ0 own) with
        | .ok a ρ => .ok a (backE ρ0 ρ own)
        | _ => .bad
    | _ => .bad

inductive RS where
  | nx (ρ : Rho) | rt (a : A) (ρ : Rho) | bk (ρ : Rho) | ct (ρ : Rho) | exc (c : Nat) (ts : List T) (ρ : Rho) | bad
def RS.of {α : Type} (x : R α) (f : α → Rho → RS) : RS := match x with
  | .ok a ρ => f a ρ
  | .exc c ts ρ => .exc c ts ρ
  | .bad => .bad
def store1 (i : Nat) (a : A) (ρ : Rho) : Rho := match a with
  | .t x => ρ.set i (.v x)
  | .f xs => ρ.set i (.o true xs)
def setIx (i : Nat) (j : Int) (t : T) (ρ : Rho) : Option Rho := match ρ[i]? with
  | some (.o k xs) => (ixN xs.length j).map fun m => ρ.set i (.o k (xs.set m t))
  | _ => none
def unpT : T → Option (List T) := tupT
def storeAll (ih : Ex → Rho → R A) : List Tg → List T → Rho → R Unit
  | [], [], ρ => .ok () ρ
  | .nm i :: r, t :: ts, ρ => storeAll ih r ts (ρ.set i (.v t))
  | .ix i e :: r, t :: ts, ρ => match isOwn ρ i with
    | false => .bad
    | true => (evP ih e ρ).bind fun j ρ => match j with
      | .int j => match setIx i j t ρ with
        | some ρ => storeAll ih r ts ρ
        | none => .bad
      | _ => .bad
  | _, _, _ => .bad
def whlL (test : Rho → R Bool) (body : Rho → RS) : Nat → Rho → RS
  | 0, _ => .bad
  | m + 1, ρ => RS.of (test ρ) fun b ρ => match b with
    | false => .nx ρ
    | true => match body ρ with
      | .nx ρ => whlL test body m ρ
      | .ct ρ => whlL test body m ρ
      | .bk ρ => .nx ρ
      | r => r
def forL (turn : T → Rho → RS) (iv : Iv) : Nat → Nat → Rho → RS
  | 0, _, _ => .bad
  | m + 1, i, ρ => match turnAt ρ i iv with
    | none => .bad
    | some none => .nx ρ
    | some (some t) => match turn t ρ with
      | .nx ρ => forL turn iv m (i + 1) ρ
      | .ct ρ => forL turn iv m (i + 1) ρ
      | .bk ρ => .nx ρ
      | r => r
def augC (i : Nat) (o : Bin) (a : Int) (t : T) (ρ : Rho) : RS := match t, o with
  | .int b, .add => .nx (ρ.set i (.v (.int (a + b))))
  | .int b, .sub => .nx (ρ.set i (.v (.int (a - b))))
  | _, _ => .bad
def forTurn (tg : List Nat) (tp : Bool) (body : Rho → RS) (t : T) (ρ : Rho) : RS := match bindTo tg tp t ρ with
  | none => .bad
  | some ρ => body ρ
def evX (P : Pg) (c : Nat) (ts : List T) (ρ : Rho) : XE → Option T
  | .val f => ((P.nms c).zip ts).lookup f
  | .loc i => match ρ[i]? with
    | some (.v t) => some t
    | _ => none
  | .con t => some t
  | .eq a b => match evX P c ts ρ a, evX P c ts ρ b with
    | some x, some y => (cmpT .eq x y).map .bl
    | _, _ => none
def suiteX (P : Pg) (c c' i : Nat) (ts : List T) (e : XE) (ρ : Rho) : RS := match P.sub c c' with
  | none => .bad
  | some false => .exc c ts ρ
  | some true => match ρ[i]? with
    | none => .bad
    | some _ => match evX P c ts (ρ.set i .u) e with
      | some t => .rt (.t t) (ρ.set i .u)
      | none => .bad
def raiC (P : Pg) (c : Nat) (ρ : Rho) (os : List Opd) : RS := match frzs ρ os with
  | some (ts, ρ) => if ts.length = (P.nms c).length then .exc c ts ρ else .bad
  | none => .bad
def exs (n0 : Nat) : Nat → List Sm → Rho → RS
  | 0, _, _ => .bad
  | n + 1, ss, ρ => match ss with
    | [] => .nx ρ
    | s :: r => match (match s with
      | .ex e => RS.of (ev P F L n0 e ρ) fun _ ρ => .nx ρ
      | .ret e => match e with
        | .loc i => match ρ[i]? with
          | some (.o true xs) => .rt (.f xs) ρ
          | some (.v t) => .rt (.t t) ρ
          | _ => .bad
        | e => RS.of (ev P F L n0 e ρ) fun a ρ => .rt a ρ
      | .retN => .rt (.t .non) ρ
      | .asg i e => RS.of (ev P F L n0 e ρ) fun a ρ => .nx (store1 i a ρ)
      | .unp ts e => RS.of (evF (ev P F L n0) e ρ) fun t ρ => match unpT t with
        | some xs => if xs.length = ts.length then RS.of (storeAll (ev P F L n0) ts xs ρ) fun _ ρ => .nx ρ else .bad
        | none => .bad
      | .par i j a b => RS.of (ev P F L n0 a ρ) fun x ρ => RS.of (ev P F L n0 b ρ) fun y ρ => .nx (store1 j y (store1 i x ρ))
      | .set i k e => RS.of (evF (ev P F L n0) e ρ) fun t ρ => RS.of (storeAll (ev P F L n0) [.ix i k] [t] ρ) fun _ ρ => .nx ρ
      | .aug i o e => match (ρ[i]?).bind slotT with
        | some (.int a) => RS.of (evP (ev P F L n0) e ρ) fun t ρ => augC i o a t ρ
        | _ => .bad
      | .ite c a b => RS.of (evB (ev P F L n0) c ρ) fun x ρ => match x with
        | true => exs n0 n a ρ
        | false => exs n0 n b ρ
      | .whl c b => whlL (evB (ev P F L n0) c) (exs n0 n b) L ρ
      | .for_ tg tp k its b => RS.of (evIf (ev P F L n0) k its ρ) fun iv ρ => forL (forTurn tg tp (exs n0 n b)) iv L 0 ρ
      | .rai c es => RS.of (evOs (ev P F L n0) es ρ) fun os ρ => raiC P c ρ os
      | .try_ b c' i e => match exs n0 n b ρ with
        | .exc c ts ρ => suiteX P c c' i ts e ρ
        | x => x
      | .die => .bad
      | .pass => .nx ρ
      | .brk => .bk ρ
      | .cont => .ct ρ) with
      | .nx ρ => exs n0 n r ρ
      | x => x
end
def slotOf : Md → A → Option Sl
  | .chg, .f xs => some (.o false xs)
  | .bor, .f xs => some (.b xs)
  | .chg, .t _ => none
  | .val, .f _ => none
  | _, .t x => some (.v x)
def startE (slots : Nat) : List Md → List A → Option Rho
  | [], [] => some (List.replicate slots .u)
  | m :: ms, a :: as => match slots with
    | 0 => none
    | k + 1 => match startE k ms as, slotOf m a with
      | some ρ, some s => some (s :: ρ)
      | _, _ => none
  | _, _ => none
def mutsAt : Nat → List Md → Rho → Option (List (List T))
  | _, [], _ => some []
  | i, .chg :: ms, ρ => match ρ[i]? with
    | some (.o false xs) => (mutsAt (i + 1) ms ρ).map (xs :: ·)
    | _ => none
  | i, _ :: ms, ρ => mutsAt (i + 1) ms ρ
def endC (fc : Fc) (a : A) (ρ : Rho) : CR := match mutsAt 0 fc.md ρ with
  | some ms => .ok a ms
  | none => .bad
def runF (P : Pg) (F : Orc) (L n : Nat) (fc : Fc) (as : List A) : CR := match startE fc.slots fc.md as with
  | none => .bad
  | some ρ => match exs P F L n n fc.body ρ with
    | .nx ρ => endC fc (.t .non) ρ
    | .rt a ρ => endC fc a ρ
    | .exc c ts _ => .exc c ts
    | _ => .bad
/-- calls nested d deep -/
def Fd (P : Pg) (L n : Nat) : Nat → Orc
  | 0, _, _ => .bad
  | d + 1, f, as => match P.fns[f]? with
    | some fc => runF P (Fd P L n d) L n fc as
    | none => .bad
end PV

set_option Elab.async false
set_option linter.all false
set_option maxRecDepth 100000
set_option maxHeartbeats 1000000
/-! PV, new rules of the layer: dict of pairs, repr of data. -/
namespace PV
open PySem PySem.Spec PyProof.Rows
theorem vals_of_refs : ∀ {as : List Addr} {its : List Value}, L2.Vals (as.map L2.V.ref) its → its = as.map Value.ref
  | [], _, h => by cases h; rfl
  | a :: as, _, h => by
    cases h with
    | cons r t =>
      rw [vals_of_refs t, show _ = Value.ref a from r]
      rfl
/-- a pair as it lies: its tuple, its key, the key's tuple, its value -/
abbrev Pr := Addr × List L2.Key × Addr × L2.V
def dictV (m : List (List L2.Key × L2.V)) : List (List L2.Key × L2.V) := m.foldl (fun d p => L2.putK d p.1 p.2) []
def rDict (xs : List L2.V) (H : L2.Hp) (Q : L2.VK) : Prop := ∃ (a : Addr) (ts : List Pr), xs = [.ref a] ∧ H a = some (.lst ((ts.map (·.1)).map L2.V.ref)) ∧
  (∀ t ∈ ts, H t.1 = some (.tup [.ref t.2.2.1, t.2.2.2]) ∧ H t.2.2.1 = some (.tup (t.2.1.map L2.kV))) ∧ ∀ p, H p = none → Q (.ref p) (L2.upd H p (.dT (dictV (ts.map fun t => (t.2.1, t.2.2.2)))))
theorem pair_vals {P : Program} {w : World} {H : L2.Hp} {h : Heap} (ok : L2.HOk P w H h) : ∀ ts : List Pr, (∀ t ∈ ts, H t.1 = some (.tup [.ref t.2.2.1, t.2.2.2])) →
    ∃ zs : List (Pr × Value), zs.map (·.1) = ts ∧ ∀ z ∈ zs, L2.RelV z.1.2.2.2 z.2 ∧ h.IsTuple z.1.1 #[.ref z.1.2.2.1, z.2]
  | [], _ => ⟨[], rfl, fun z hz => nomatch hz⟩
  | t :: ts, ht => by
    obtain ⟨zs, e1, e2⟩ := pair_vals ok ts fun t h => ht t (List.mem_cons_of_mem _ h)
    obtain ⟨_, its, rv, ob, g1, g2, n, g3⟩ := (show L2.ObjOk P w H h t.1 (.tup [.ref t.2.2.1, t.2.2.2]) from ok _ _ (ht t List.mem_cons_self))
    cases rv with
    | cons r1 r2 =>
      cases r2 with
      | cons r2 r3 =>
        cases r3
        cases (show _ = Value.ref _ from r1)
        rename_i bv
        refine ⟨(t, bv) :: zs, by rw [List.map_cons, e1], fun z hz => ?_⟩
        rcases List.mem_cons.mp hz with rfl | hz
        · exact ⟨r2, ob, g1, g2, n, g3⟩
        · exact e2 z hz
theorem kt_all {H : L2.Hp} : ∀ (zs : List (Pr × Value)) (kvs : List (List L2.Key × L2.V)) (xs : List (List L2.Key × Addr × Value)), L2.KT H kvs xs → (∀ z ∈ zs, L2.RelV z.1.2.2.2 z.2 ∧ H z.1.2.2.1 = some (.tup (z.1.2.1.map L2.kV))) →
    L2.KT H ((zs.map fun z => (z.1.2.1, z.1.2.2.2)).foldl (fun d p => L2.putK d p.1 p.2) kvs) (storedAllH xs (zs.map fun z => (z.1.2.1, z.1.2.2.1, z.2)))
  | [], _, _, h, _ => h
  | z :: zs, kvs, xs, h, hz => by
    obtain ⟨h1, h2⟩ := hz z List.mem_cons_self
    exact kt_all zs _ _ (L2.KT.put h z.1.2.1 h2 h1) fun z h => hz z (List.mem_cons_of_mem _ h)
section
variable {X : L2.Cx}
theorem call_dict (hc : X.calm = true) (hu : X.A.units + 65 < cLine) : L2.CallR X (.type "dict") rDict := by
  intro pins s σ H xs us Q I r h
  obtain ⟨a, ts, rfl, ha, ht, q⟩ := h
  obtain ⟨u, rfl, rx⟩ := L2.vals1 r
  obtain rfl : u = .ref a := rx
  obtain ⟨hz, its, n, rv, hob⟩ := (show L2.ObjOk X.prog X.w H s.heap a (.lst ((ts.map (·.1)).map L2.V.ref)) from I.hok a _ ha)
  have ei := vals_of_refs rv
  obtain ⟨zs, ez, hzs⟩ := pair_vals I.hok ts fun t h => (ht t h).1
  have htz : ∀ z ∈ zs, H z.1.2.2.1 = some (.tup (z.1.2.1.map L2.kV)) := fun z h => (ht z.1 (by rw [← ez]; exact List.mem_map_of_mem h)).2
  have lz : zs.length = ts.length := by rw [← ez, List.length_map]
  have ln : zs.length ≤ sizeLine := by rw [List.length_map, List.length_map, ← lz] at hz; exact hz
  let pv : List (Value × Value) := zs.map fun z => (Value.ref z.1.2.2.1, z.2)
  let ps : List (List L2.Key × Addr × Value) := zs.map fun z => (z.1.2.1, z.1.2.2.1, z.2)
  let Ts : Nat → Addr := fun j => ((zs[j]?).map (·.1.1)).getD 0
  have lpv : pv.length = zs.length := List.length_map _
  have lps : ps.length = zs.length := List.length_map _
  have its_eq : its = zs.map fun z => Value.ref z.1.1 := by
    rw [ei, ← ez, List.map_map, List.map_map]
    rfl
  have ok : PlainSeq "list" s.heap a its.toArray ∧ PairItems s.heap its.toArray Ts pv := by
    refine ⟨⟨_, n, hob, rfl, rfl, rfl⟩, ?_, fun j k v hj => ?_⟩
    · rw [lpv, its_eq]; simp
    · obtain ⟨z, hz1, hz2⟩ := List.getElem?_map .. ▸ hj |> Option.map_eq_some_iff.mp
      cases hz2
      have eT : Ts j = z.1.1 := by show ((zs[j]?).map (·.1.1)).getD 0 = _; rw [hz1]; rfl
      refine ⟨?_, .inl ?_⟩
      · rw [eT, its_eq]
        simp [hz1]
      · rw [eT]
        exact (hzs z (List.mem_of_getElem? hz1)).2
  have hst : ∀ (h' : Heap), (∀ b o, b ≠ s.heap.objs.size → b ∉ ([] : List Addr) → s.heap.get? b = some o → h'.get? b = some o) → ∀ x ∈ ps, (tupleKind (L2.mixKind X.prog X.w)).is h' x.1 x.2.1 := by
    intro h' hk x hx
    obtain ⟨z, z1, z2⟩ := List.mem_map.mp hx
    subst z2
    obtain ⟨o, i2, n2, g1, g2, g3, g4⟩ := L2.key_of I.hok (htz z z1)
    exact ⟨o, i2, n2, hk _ _ (Nat.ne_of_lt (Heap.lt_size g1)) (by simp) g1, g2, g3, g4⟩
  refine call_dict_pairsH (knd := tupleKind (L2.mixKind X.prog X.w)) (ps := ps) (PairArg.list a its.toArray Ts pv) (I.ok.hd hc) (by show X.A.units + 1 + 1 < cLine; omega) ok ⟨by rw [lps, lpv], fun i key v hr => ?_⟩ hst (by rw [lpv]; exact ln) fun h' tk hd kp => ?_
  · obtain ⟨z, hz1, hz2⟩ := List.getElem?_map .. ▸ (show pv[i]? = some (key, v) from hr) |> Option.map_eq_some_iff.mp
    cases hz2
    exact ⟨z.1.2.1, z.1.2.2.1, by show (zs.map _)[i]? = _; rw [List.getElem?_map, hz1]; rfl, rfl⟩
  · have kp' : ∀ b o, s.heap.get? b = some o → h'.get? b = some o := fun b o e => kp b o (by simp) e
    have kt := kt_all (H := H) zs [] [] .nil fun z h => ⟨(hzs z h).1, htz z h⟩
    have em : (ts.map fun t => (t.2.1, t.2.2.2)) = zs.map fun z => (z.1.2.1, z.1.2.2.2) := by rw [← ez, List.map_map]; rfl
    have hn : H s.heap.objs.size = none := I.hok.fresh (Nat.le_refl _)
    obtain ⟨o, es, ep, g1, g2, g3, g4, g5, g6⟩ := hd
    have ll := Paired.length kt
    have l2 := storedAllH_length ps ([] : List (List L2.Key × Addr × Value))
    refine ⟨.ref s.heap.objs.size, _, I.laid (t' := tk) (o := .dT (dictV (ts.map fun t => (t.2.1, t.2.2.2)))) kp' (Nat.le_refl _) ?_, rfl, q _ hn⟩
    refine ⟨?_, ?_, storedAllH [] ps, ?_, o, es, ep, g1, g2, g3, g4, g6⟩
    · rw [em]
      unfold dictV
      rw [ll]
      rw [List.length_nil] at l2
      exact Nat.le_trans l2 (by rw [lps]; omega)
    · have := I.big
      exact beq_false_of_ne (Nat.ne_of_gt this)
    · rw [em]
      exact L2.KT.keeps kt fun b ys e => (by rw [L2.upd_ne (L2.ne_of_none e hn)]; exact e)
/-! ### repr -/
def rRepr (K : PySem.W.Frag) (xs : List L2.V) (H : L2.Hp) (Q : L2.VK) : Prop := ∃ v d, xs = [v] ∧ L2.Dp K H v d ∧ d.canLay0 = true ∧ d.depth ≤ 64 ∧ d.showable = true ∧ d.shown.length ≤ sizeLine ∧ Q (.str d.shown) H
theorem call_repr (hg : X.A.guards = some []) (hu : X.A.units + 100 < cLine) : L2.CallR X (.builtin "repr") (rRepr X.K) := by
  intro pins s σ H xs us Q I r h
  obtain ⟨v, d, rfl, hd, hl, hdp, hs, hz, q⟩ := h
  obtain ⟨u, rfl, ru⟩ := L2.vals1 r
  have nd := PyData.hasDict_of_canLay d hl
  have fin : ∀ tk tk', L2.EP X pins σ Q (.str d.shown tk') { s with toks := tk } := fun tk tk' => ⟨.str d.shown, H, I.kept (t' := tk) fun b o e => e, ⟨_, rfl⟩, q⟩
  have big : ∀ a : Addr, u = .ref a → wpAny (model X.prog X.w) X.A (call (.builtin "repr") [u]) (L2.EP X pins σ Q) X.xe s := fun a ea => by
    obtain ⟨as, rd⟩ := L2.Dp.reads I d v u hd ru
    subst ea
    exact repr_of_reads' rd hs (PyData.noDict_hsm nd) hg (by omega) (fun _ _ e => e) (fun h' u tk kp => ⟨.str d.shown, H, I.kept (t' := tk) kp, ⟨_, rfl⟩, q⟩) hz
  cases hd with
  | non =>
    cases (show u = _ from ru)
    exact P.repr_of_none (fin _ _)
  | bl b =>
    cases (show u = _ from ru)
    exact P.repr_of_bool (fin _ _)
  | int i =>
    obtain ⟨t, rfl⟩ := ru
    exact P.repr_of_int (of_decide_eq_true hs) (fin _ _)
  | str x =>
    obtain ⟨t, rfl⟩ := ru
    exact P.repr_of_str (fin _ _) hz
  | lst h1 h2 => exact big _ (show u = _ from ru)
  | tup h1 h2 => exact big _ (show u = _ from ru)
end

/-- where a parameter's value stands among n values by place and those by names -/
def ordOf (ps : List Str) (n : Nat) (ks : List Str) : List Nat := ps.map fun p => (ps.take n ++ ks).idxOf p
/-- n arguments by place, the others by names -/
def KwB (K : PySem.W.Frag) (fd : FuncData) (ps : List Str) (n : Nat) (ks : List Str) : Prop := ∀ (s : Shared) (us ws : List Value), us.length = n → ws.length = ks.length → K.In s.heap → BindsTo s fd ⟨us, ks.zip ws⟩ (ps.zip ((ordOf ps n ks).filterMap fun i => (us ++ ws)[i]?))
/-! ### a def's promise, where no text is being shown -/
section
variable {P : Program} {w : World} {K : PySem.W.Frag} {mg : Str → Option Value} {base : Heap} {CX : L2.CXT} {k : Nat} {f : Addr} {fd : FuncData} {ps : List Str} {sp : L2.Sp}
structure FnG (P : Program) (w : World) (K : PySem.W.Frag) (mg : Str → Option Value) (base : Heap) (CX : L2.CXT) (k : Nat) (f : Addr) (fd : FuncData) (ps : List Str) (sp : L2.Sp) : Prop where
  len : ∀ vs H Q E, sp vs H Q E → vs.length = ps.length
  go : ∀ (A : Around) (st : List PySem.Env) (s0 : Shared) (H : L2.Hp) (ar : Args) (ws : List Value) (vs : List L2.V) (Q : L2.VK) (E : L2.XK), A.guards = some [] → L2.Room k A → L2.Env0 P w K mg base A st s0 H → L2.Vals vs ws →
    BindsTo s0 fd ar (ps.zip ws) → sp vs H Q E → codeAny (model P w) A (.call (.ref f) ar) (L2.CR CX st P w H s0 Q E) s0
/-- .. of a def, by its body -/
theorem FnG.of {name qual : Str} {params : Arguments} {body : List Stmt} {scope : Scope} {dvs : List L2.V} {kws : List (Str × L2.V)} {N : List Str} (F : L2.FunD K name qual params body scope dvs kws f fd) (S : L2.FnScope N ps scope) (len : ∀ vs H Q E, sp vs H Q E → vs.length = ps.length)
    (hb : ∀ (cd : Value) (A : Around) (st : List PySem.Env) (s0 : Shared) (H : L2.Hp) (vs : List L2.V) (Q : L2.VK) (E : L2.XK), L2.Room k (A.deeper (envOfC qual scope s0.heap.objs.size f cd)) → A.guards = some [] → sp vs H Q E →
      ∃ t, L2.PSs (L2.cxOf CX P w K mg base N qual scope f cd A st s0 H E) body t ∧ t { nx := fun _ H' => Q .non H', rt := Q } (L2.start N vs) H) : FnG P w K mg base CX (k + 1) f fd ps sp := by
  obtain ⟨c1, c2, dV, kV, doc, pm, an, cd, ct, osl, rfl, at_f, code, _, _⟩ := F.ex
  refine ⟨len, fun A st s0 H ar ws vs Q E gd room e0 vals bt q => ?_⟩
  have n_args := len _ _ _ _ q
  have inK : K.In s0.heap := e0.mod.kin.keeps fun b o z => (e0.bs b o z).1
  have noLim : s0.heap.NoLimit := e0.mod.nolimit.keeps fun b o z => (e0.bs b o z).1
  refine codeAny_call_function room.depth (inK _ _ at_f) rfl S.co S.gen rfl (PySem.W.codeRec_of inK code) (bt _ _ _ _ ?_)
  have kinds : ∀ y ∈ ps.zip ws, scope.names.lookup y.1 = some .local ∨ (scope.names.lookup y.1 = some .cell ∧ ((cellsFrom (s0.heap.objs.size + 1) scope.names []).lookup y.1).isSome = true) := by
    rintro ⟨x, v⟩ hy
    refine (S.par x (List.of_mem_zip hy).1).imp id fun z => ⟨z, ?_⟩
    exact PySem.W.cellsFrom_some _ _ _ (.inl z)
  refine wpAny_newFunctionEnv_cells S.kind kinds fun env eq s1 made => ?_
  subst eq
  refine ⟨noLim.keeps made.toInCall.keep, codeAny_func ?_⟩
  obtain ⟨t, run, ans⟩ := hb cd A st s0 H vs Q E (room.deeper _) gd q
  have I0 : L2.Inv (L2.cxOf CX P w K mg base N qual scope f cd A st s0 H E) [] (L2.start N vs) H s1 := L2.inv_start S room.hd e0 n_args vals made
  have close : ∀ {σ2 : L2.St} {H2 : L2.Hp} {v : L2.V} {u : Value} {s2 : Shared}, L2.Inv (L2.cxOf CX P w K mg base N qual scope f cd A st s0 H E) [] σ2 H2 s2 → L2.RelV v u → Q v H2 → L2.CE st P w H s0 Q u s2 :=
    fun J rel z => ⟨_, _, J.os, J.bare, J.base, J.hok, rel, z⟩
  refine wpAny_mono (run.run [] s1 (L2.start N vs) H _ I0 ans) ?_ (fun e s2 z => z)
  rintro (_ | _ | _ | u) s2 z
  · obtain ⟨_, _, J, z⟩ := z
    exact close (v := .non) (u := .none) J rfl z
  · obtain ⟨_, _, _, z⟩ := z
    exact z.elim
  · obtain ⟨_, _, _, z⟩ := z
    exact z.elim
  · obtain ⟨_, _, _, J, rel, z⟩ := z
    exact close J rel z
end
section
variable {X : L2.Cx} {CX : L2.CXT} {k : Nat} {f : Addr} {fd : FuncData} {ps : List Str} {sp : L2.Sp}
/-- a call, its arguments bound -/
theorem FnG.call {pins : List (Addr × Obj)} {σ : L2.St} {H : L2.Hp} {s : Shared} {Q : L2.VK} {ws us : List Value} {kw : List (Str × Value)} {vs : List L2.V} {Ex : L2.XK} (F : FnG X.prog X.w X.K X.mg X.base CX k f fd ps sp) (gd : X.A.guards = some []) (room : L2.Room k X.A)
    (bt : BindsTo s fd ⟨us, kw⟩ (ps.zip ws)) (pass : L2.PassesAt CX X σ Ex) (I : L2.Inv X pins σ H s) (vals : L2.Vals vs ws) (q : sp vs H Q Ex) : wpAny (model X.prog X.w) X.A (call (.ref f) us kw) (L2.EP X pins σ Q) X.xe s := by
  refine wpAny_call (codeAny_mono (F.go X.A X.stack s H ⟨us, kw⟩ ws vs Q Ex gd room I.env0 vals bt q) ?_)
  rintro (e | fl) s2 z
  · exact pass pins H s e s2 I z
  · rcases fl with _ | _ | _ | u
    · exact False.elim z
    · exact False.elim z
    · exact False.elim z
    · exact I.after z
end
end PV

set_option Elab.async false
set_option linter.all false
set_option maxRecDepth 100000
set_option maxHeartbeats 1000000
/-! PV, new rules of the layer: a tuple's items sorted. -/
namespace PV
open PySem PySem.Spec PyProof.Rows PyProof.V
section
variable {prog : Program} {w : World} {A : Around} {E : Value → Shared → Prop} {s : Shared}
theorem collect_tupl {t : Addr} {vs : List Value} {Q : List Value → Shared → Prop} (ht : s.heap.IsTuple t vs.toArray) (fits : vs.length ≤ sizeLine)
    (k : Q vs { s with heap := (s.heap.push (seqObj "list" #[] 0)).update s.heap.objs.size (Obj.mapSeq (· ++ vs.toArray)) }) : wpAny (model prog w) A (collect (.ref t)) Q E s := by
  obtain ⟨ob, at_t, cls, n, dat⟩ := id ht
  have there : (s.heap.push (seqObj "list" #[] 0)).get? t = some ob := Heap.get?_push_of_some _ at_t
  unfold collect
  refine wpAny_bind (wpAny_runValue (codeAny_builtin entry_proto_collect' ?_))
  show wpAny _ _ (newList [] >>= fun l => again (.builtin "list.__iadd__" ⟨[l, .ref t], []⟩)) _ _ s
  refine wpAny_bind (wpAny_newList (wpAny_pure ⟨Code.quiet_builtin _ (by decide +kernel), ?_⟩))
  refine codeAny_builtin entry_list_iadd' ?_
  show wpAny _ _ (Builtin.List.listExtendWith (.ref s.heap.objs.size) (.ref t) (.ref s.heap.objs.size)) _ _ ⟨s.heap.push (seqObj "list" #[] 0), s.gens, s.drawn, s.toks, s.os⟩
  unfold Builtin.List.listExtendWith
  refine wpAny_bind (wpAny_typeOf (T := "tuple") ⟨ob, there, cls⟩ ?_)
  rw [if_pos (by rw [show (Value.type "tuple" == Value.type "tuple") = true from rfl]; simp)]
  refine wpAny_bind (listItems_at there dat ?_)
  refine wpAny_bind (listItems_at (xs := #[]) (n := 0) (Heap.get?_push_size _ rfl) rfl ?_)
  rw [if_neg (by simp)]
  refine wpAny_bind (listUpdate_at (xs := #[]) (n := 0) (Heap.get?_push_size _ rfl) rfl ?_ (Nat.zero_le _) ?_)
  · refine wpAny_pure (wpAny_bind (wpAny_load (get?_update_seq (Heap.get?_push_size _ rfl) _) ?_))
    show wpAny _ _ (pure ((#[] : Array Value) ++ vs.toArray).toList) Q E _
    have e : ((#[] : Array Value) ++ vs.toArray).toList = vs := by simp
    rw [e]
    exact wpAny_pure k
  · show ((#[] : Array Value) ++ vs.toArray).size ≤ sizeLine + 1
    simp only [Array.size_append, List.size_toArray, List.length_nil]
    omega
theorem sorted_tupl {t : Addr} {vs : List Value} {ns : List Int} {Q : Value → Shared → Prop} (ht : s.heap.IsTuple t vs.toArray) (hi : IntsAre vs ns) (few : vs.length < 64)
    (k : ∀ (out : Array Value) (ms : List Int), IntsAre out.toList ms → ms.Perm ns → ms.Pairwise (· ≤ ·) → Q (.ref (s.heap.objs.size + 1)) { s with heap := sortedAll s.heap vs out }) : wpAny (model prog w) A (call (.builtin "sorted") [.ref t]) Q E s := by
  refine Calls.call_function_entry kind_sorted plain_sorted entry_sorted (args_sorted1 _) ?_
  unfold Builtin.«sorted»
  refine wpAny_bind (m := checkCount "sorted" 1 1 _) (wpAny_pure (wpAny_bind (collect_tupl ht (by rw [sizeLine_eq]; omega) (wpAny_bind (wpAny_newList ?_)))))
  let mid : Heap := (s.heap.push (seqObj "list" #[] 0)).update s.heap.objs.size (Obj.mapSeq (· ++ vs.toArray))
  have msz : mid.objs.size = s.heap.objs.size + 1 := (Heap.size_update ..).trans (size_push' ..)
  have obL : (mid.push (seqObj "list" vs.toArray 0)).get? (s.heap.objs.size + 1) = some (seqObj "list" vs.toArray 0) := by
    rw [← msz]
    exact Heap.get?_push_size _ rfl
  show wpAny _ _ _ _ _ ⟨mid.push (seqObj "list" vs.toArray 0), s.gens, s.drawn, s.toks, s.os⟩
  rw [show mid.objs.size = s.heap.objs.size + 1 from msz]
  refine wpAny_bind (wpAny_holding (wpAny_call_entry slot_list_sort ⟨_, obL, rfl⟩ entry_list_sort (list_sort_tree obL hi few ?_) (args_list_sort _)))
  intro out ms h1 h2 h3
  exact ⟨_, rfl, wpAny_pure ⟨_, rfl, k out ms h1 h2 h3⟩⟩
end
section
variable {X : L2.Cx}
def rSortTp (xs : List L2.V) (H : L2.Hp) (Q : L2.VK) : Prop := ∃ (a : Addr) (ns : List Int), xs = [.ref a] ∧ H a = some (.tup (ns.map L2.V.int)) ∧ ns.length < 64 ∧ ∀ (ms : List Int) (p : Addr), ms.Perm ns → ms.Pairwise (· ≤ ·) → H p = none → Q (.ref p) (L2.upd H p (.lst (ms.map L2.V.int)))
theorem call_sortTp : L2.CallR X (.builtin "sorted") rSortTp := by
  intro pins s σ H xs us Q I r h
  obtain ⟨a, ns, rfl, ha, few, q⟩ := h
  obtain ⟨u, rfl, ru⟩ := L2.vals1 r
  obtain rfl : u = .ref a := ru
  obtain ⟨_, its, rv, ob, g1, g2, n, g3⟩ := (show L2.ObjOk X.prog X.w H s.heap a (.tup (ns.map L2.V.int)) from I.hok a _ ha)
  have hi := L2.Vals.«ints» rv
  refine sorted_tupl ⟨ob, g1, g2, n, g3⟩ hi (by rw [hi.length]; exact few) ?_
  intro out ms h1 h2 h3
  obtain ⟨ep, at_l⟩ := sortedAll_at s.heap its out
  have lm : (ms.map L2.V.int).length ≤ sizeLine := by rw [List.length_map, h2.length_eq, sizeLine_eq]; omega
  refine ⟨.ref (s.heap.objs.size + 1), L2.upd H (s.heap.objs.size + 1) (.lst (ms.map L2.V.int)), ?_, rfl, q ms _ h2 h3 (I.hok.fresh (Nat.le_succ _))⟩
  exact I.laid (t' := s.toks) (fun _ _ => sortedAll_old) (Nat.le_succ _) ⟨lm, out.toList, ep, L2.vals_of_ints h1, at_l⟩
end
end PV

set_option Elab.async false
set_option linter.all false
set_option maxRecDepth 100000
set_option maxHeartbeats 1000000
/-! PV, new rules of the layer: data sorted. -/
namespace PV
open PySem PySem.Spec PyProof.Rows PySem.W
abbrev TV := T × L2.V
def leTV : TV → TV → Bool := dataLe false fun b : TV => toD b.1
section
variable {X : L2.Cx}
def rSortD (K : PySem.W.Frag) (xs : List L2.V) (H : L2.Hp) (Q : L2.VK) : Prop := ∃ (a : Addr) (bs : List TV), xs = [.ref a] ∧ H a = some (.lst (bs.map (·.2))) ∧ (∀ b ∈ bs, L2.Dp K H b.2 (toD b.1) ∧ (toD b.1).depth ≤ 64) ∧
  AllAlike (bs.map fun b => toD b.1) ∧ Sortable (bs.map fun b => toD b.1) ∧ ∀ p, H p = none → Q (.ref p) (L2.upd H p (.lst ((bs.mergeSort leTV).map (·.2))))
theorem each_of_vals : ∀ {bs : List TV} {its : List Value}, L2.Vals (bs.map (·.2)) its → EachIs (fun v (b : TV) => L2.RelV b.2 v) its bs
  | [], _, h => by cases h; exact .nil
  | b :: bs, _, h => by
    cases h with
    | cons r t => exact .cons r (each_of_vals t)
theorem vals_of_each : ∀ {bs : List TV} {its : List Value}, EachIs (fun v (b : TV) => L2.RelV b.2 v) its bs → L2.Vals (bs.map (·.2)) its
  | _, _, .nil => .nil
  | _, _, .cons r t => .cons r (vals_of_each t)
theorem each_mem {R S : Value → TV → Prop} : ∀ {its : List Value} {bs : List TV}, EachIs R its bs → (∀ v b, b ∈ bs → R v b → S v b) → EachIs S its bs
  | _, _, .nil, _ => .nil
  | _, _, .cons r t, f => .cons (f _ _ List.mem_cons_self r) (each_mem t fun v b h => f v b (List.mem_cons_of_mem _ h))
theorem call_sortD (hu : X.A.units + 100 < cLine) : L2.CallR X (.builtin "sorted") (rSortD X.K) := by
  intro pins s σ H xs us Q I r h
  obtain ⟨a, bs, rfl, ha, hd, hal, hs, q⟩ := h
  obtain ⟨u, rfl, ru⟩ := L2.vals1 r
  obtain rfl : u = .ref a := ru
  obtain ⟨hz, its, n, rv, hob⟩ := (show L2.ObjOk X.prog X.w H s.heap a (.lst (bs.map (·.2))) from I.hok a _ ha)
  have e := each_of_vals rv
  have er : EachIs (fun v (b : TV) => ∃ as, Reads s.heap v (toD b.1) as) its bs := each_mem e fun v b hb rb => L2.Dp.reads I (toD b.1) b.2 v (hd b hb).1 rb
  refine sorted_data (enc := fun b : TV => toD b.1) (s := s) ⟨_, hob, rfl, n, rfl⟩ e er hal hs (by rw [List.length_map] at hz; exact hz) (fun b hb => by have := (hd b hb).2; omega) fun out hl eo => ?_
  obtain ⟨ep, at_l⟩ := sortedAll_at s.heap its (List.toArray out)
  have vo := vals_of_each eo
  have lm : (((bs.mergeSort leTV).map (·.2))).length ≤ sizeLine := by rw [List.length_map, List.length_mergeSort]; rw [List.length_map] at hz; exact hz
  refine ⟨.ref (s.heap.objs.size + 1), L2.upd H (s.heap.objs.size + 1) (.lst ((bs.mergeSort leTV).map (·.2))), ?_, rfl, q _ (I.hok.fresh (Nat.le_succ _))⟩
  exact I.laid (t' := s.toks) (fun _ _ => sortedAll_old) (Nat.le_succ _) ⟨lm, out, ep, vo, by simpa using at_l⟩
end
/-! ### one sequence alone -/
mutual
theorem tok_inj : ∀ (n : Nat) (x y : T), okT n x = true → okT n y = true → alike (toD x) (toD y) = true → ∀ l m, keyToks (toD x) ++ l = keyToks (toD y) ++ m → x = y ∧ l = m
  | n, .non, y, hx, hy, h, l, m, e => by
    cases y <;> first
      | (simp [toD, alike] at h; done)
      | exact ⟨rfl, e⟩
      | (cases n <;> simp [okT] at hy)
  | n, .bl a, y, hx, hy, h, l, m, e => by
    cases y with
    | bl b =>
      injection e with e1 e2
      injection e1 with e1
      refine ⟨?_, e2⟩
      cases a <;> cases b <;> first | rfl | (simp at e1)
    | ins _ _ => cases n <;> simp [okT] at hy
    | scr _ => cases n <;> simp [okT] at hy
    | dit _ _ => cases n <;> simp [okT] at hy
    | dik _ _ => cases n <;> simp [okT] at hy
    | _ => simp [toD, alike] at h
  | n, .int a, y, hx, hy, h, l, m, e => by
    cases y with
    | int b =>
      injection e with e1 e2
      injection e1 with e1
      exact ⟨by rw [e1], e2⟩
    | ins _ _ => cases n <;> simp [okT] at hy
    | scr _ => cases n <;> simp [okT] at hy
    | dit _ _ => cases n <;> simp [okT] at hy
    | dik _ _ => cases n <;> simp [okT] at hy
    | _ => simp [toD, alike] at h
  | n, .str a, y, hx, hy, h, l, m, e => by
    cases y with
    | str b =>
      injection e with e1 e2
      injection e1 with e1
      exact ⟨by rw [str_of_cps e1], e2⟩
    | ins _ _ => cases n <;> simp [okT] at hy
    | scr _ => cases n <;> simp [okT] at hy
    | dit _ _ => cases n <;> simp [okT] at hy
    | dik _ _ => cases n <;> simp [okT] at hy
    | _ => simp [toD, alike] at h
  | 0, .lst xs, y, hx, hy, h, l, m, e => by simp [okT] at hx
  | n + 1, .lst xs, y, hx, hy, h, l, m, e => by
    cases y with
    | lst ys =>
      obtain ⟨e1, e2⟩ := toks_inj n xs ys hx hy (by simpa [toD, alike] using h) l m (by simpa [toD, keyToks] using e)
      exact ⟨by rw [e1], e2⟩
    | ins _ _ => simp [okT] at hy
    | scr _ => simp [okT] at hy
    | dit _ _ => simp [okT] at hy
    | dik _ _ => simp [okT] at hy
    | _ => simp [toD, alike] at h
  | 0, .tup xs, y, hx, hy, h, l, m, e => by simp [okT] at hx
  | n + 1, .tup xs, y, hx, hy, h, l, m, e => by
    cases y with
    | tup ys =>
      obtain ⟨e1, e2⟩ := toks_inj n xs ys hx hy (by simpa [toD, alike] using h) l m (by simpa [toD, keyToks] using e)
      exact ⟨by rw [e1], e2⟩
    | ins _ _ => simp [okT] at hy
    | scr _ => simp [okT] at hy
    | dit _ _ => simp [okT] at hy
    | dik _ _ => simp [okT] at hy
    | _ => simp [toD, alike] at h
  | n, .ins _ _, y, hx, hy, h, l, m, e => by cases n <;> simp [okT] at hx
  | n, .scr _, y, hx, hy, h, l, m, e => by cases n <;> simp [okT] at hx
  | n, .dit _ _, y, hx, hy, h, l, m, e => by cases n <;> simp [okT] at hx
  | n, .dik _ _, y, hx, hy, h, l, m, e => by cases n <;> simp [okT] at hx
theorem toks_inj : ∀ (n : Nat) (xs ys : List T), xs.all (okT n) = true → ys.all (okT n) = true → alikeAll (toDs xs) (toDs ys) = true → ∀ l m, keyToksAll (toDs xs) ++ l = keyToksAll (toDs ys) ++ m → xs = ys ∧ l = m
  | n, [], [], _, _, _, l, m, e => by
    injection e with _ e
    exact ⟨rfl, e⟩
  | n, [], y :: ys, _, _, _, l, m, e => by
    rw [show toDs (y :: ys) = toD y :: toDs ys from rfl, toks_all_cons] at e
    injection e with e _
    injection e with e
    cases e
  | n, x :: xs, [], _, _, _, l, m, e => by
    rw [show toDs (x :: xs) = toD x :: toDs xs from rfl, toks_all_cons] at e
    injection e with e _
    injection e with e
    cases e
  | n, x :: xs, y :: ys, hx, hy, h, l, m, e => by
    rw [List.all_cons, Bool.and_eq_true] at hx hy
    obtain ⟨h1, h2⟩ := alike_all_cons h
    rw [show toDs (x :: xs) = toD x :: toDs xs from rfl, show toDs (y :: ys) = toD y :: toDs ys from rfl, toks_all_cons, toks_all_cons] at e
    have e : keyToks (toD x) ++ (keyToksAll (toDs xs) ++ l) = keyToks (toD y) ++ (keyToksAll (toDs ys) ++ m) := by simpa using e
    obtain ⟨e1, e2⟩ := tok_inj n x y hx.1 hy.1 h1 _ _ e
    obtain ⟨e3, e4⟩ := toks_inj n xs ys hx.2 hy.2 h2 _ _ e2
    exact ⟨by rw [e1, e3], e4⟩
end
theorem leT_eq (a b : T) : leT a b = sortLe (listOrd itemOrd) false (fun x : T => keyToks (toD x)) a b := rfl
theorem leT_total : TotalLe leT := sortLe_total (listOrd itemOrd) false fun x : T => keyToks (toD x)
theorem insT_perm (x : T) : ∀ l : List T, (insT x l).Perm (x :: l)
  | [] => .refl _
  | y :: ys => by
    unfold insT
    split
    · exact .refl _
    · exact ((insT_perm x ys).cons y).trans (.swap x y ys)
theorem sortT_perm : ∀ l : List T, (sortT l).Perm l
  | [] => .refl _
  | x :: xs => (insT_perm x (sortT xs)).trans ((sortT_perm xs).cons x)
theorem insT_sorted (x : T) : ∀ l : List T, l.Pairwise (fun a b => leT a b = true) → (insT x l).Pairwise fun a b => leT a b = true
  | [], _ => by simp [insT]
  | y :: ys, h => by
    rw [List.pairwise_cons] at h
    unfold insT
    split
    · rename_i hxy
      refine List.pairwise_cons.mpr ⟨fun z hz => ?_, List.pairwise_cons.mpr h⟩
      rcases List.mem_cons.mp hz with rfl | hz
      · exact hxy
      · exact leT_total.trans _ _ _ hxy (h.1 z hz)
    · rename_i hxy
      refine List.pairwise_cons.mpr ⟨fun z hz => ?_, insT_sorted x ys h.2⟩
      rcases List.mem_cons.mp ((insT_perm x ys).mem_iff.mp hz) with rfl | hz
      · have := leT_total.total z y
        exact this.resolve_left hxy
      · exact h.1 z hz
theorem sortT_sorted : ∀ l : List T, (sortT l).Pairwise fun a b => leT a b = true
  | [] => .nil
  | x :: xs => insT_sorted x _ (sortT_sorted xs)
end PV
namespace PV
open PySem PySem.Spec PyProof.Rows PySem.W
theorem srt_parts {xs : List T} (h : srtOk xs = true) : xs.length ≤ big ∧ (∀ x ∈ xs, okT 63 x = true) ∧ (∀ x ∈ xs, ∃ y r, x = .tup (y :: r)) ∧ ∀ x ∈ xs, ∀ y ∈ xs, alike (toD x) (toD y) = true := by
  unfold srtOk at h
  rw [Bool.and_eq_true, Bool.and_eq_true, Bool.and_eq_true] at h
  obtain ⟨h1, h2, h3, h4⟩ := h
  refine ⟨of_decide_eq_true h1, List.all_eq_true.mp h2, fun x hx => ?_, fun x hx y hy => List.all_eq_true.mp (List.all_eq_true.mp h4 x hx) y hy⟩
  have z := List.all_eq_true.mp h3 x hx
  cases x with
  | tup r =>
    cases r with
    | nil => cases z
    | cons y r => exact ⟨y, r, rfl⟩
  | _ => cases z
theorem leT_anti {x y : T} (hx : okT 63 x = true) (hy : okT 63 y = true) (ha : alike (toD x) (toD y) = true) (h1 : leT x y = true) (h2 : leT y x = true) : x = y := by
  have z := PyProof.Rows.lex_total (O := itemOrd) (keyToks (toD x)) (keyToks (toD y)) (by simpa [leT, dataLt] using h2) (by simpa [leT, dataLt] using h1)
  exact (tok_inj 63 x y hx hy ha [] [] (by rw [z])).1
theorem srt_same {bs : List TV} (h : srtOk (bs.map (·.1)) = true) : (bs.mergeSort leTV).map (·.1) = sortT (bs.map (·.1)) := by
  obtain ⟨_, h2, _, h4⟩ := srt_parts h
  have tl : TotalLe leTV := sortLe_total (listOrd itemOrd) false fun b : TV => keyToks (toD b.1)
  have p1 : ((bs.mergeSort leTV).map (·.1)).Perm (bs.map (·.1)) := (List.mergeSort_perm bs leTV).map _
  refine List.Perm.eq_of_pairwise (le := fun a b => leT a b = true) (fun x y hx hy h1 h2' => ?_) ?_ (sortT_sorted _) (p1.trans (sortT_perm _).symm)
  · have mx := p1.mem_iff.mp hx
    have my := (sortT_perm _).mem_iff.mp hy
    exact leT_anti (h2 x mx) (h2 y my) (h4 x mx y my) h1 h2'
  · rw [List.pairwise_map]
    exact List.pairwise_mergeSort (fun a b c => tl.trans a b c) (fun a b => by simpa using tl.total a b) bs
end PV

set_option Elab.async false
set_option linter.all false
set_option maxRecDepth 100000
/-! PV, soundness 1: trees in the abstract heap, frames, steps. -/
namespace PV
open PySem PySem.Spec PyProof.Rows

abbrev LSt := L2.St
abbrev FS := Addr → Prop
mutual
/-- v is the tree t, all of it frozen -/
def RepT (K : PySem.W.Frag) (F : FS) (H : L2.Hp) : T → L2.V → Prop
  | .non, v => v = .non
  | .bl b, v => v = .bl b
  | .int i, v => v = .int i
  | .str s, v => v = .str s
  | .lst xs, v => ∃ p vs, v = .ref p ∧ F p ∧ H p = some (.lst vs) ∧ Reps K F H xs vs
  | .tup xs, v => ∃ p vs, v = .ref p ∧ F p ∧ H p = some (.tup vs) ∧ Reps K F H xs vs
  | .ins _ _, _ => False
  | .scr ns, v => ∃ p, v = .ref p ∧ ((F p ∧ ∃ o, H p = some (.frz o (.lst (ns.map L2.V.int)))) ∨
      ∃ (o : Obj) (its : Array Value) (n : Nat), K.lookup p = some o ∧ o.cls = .type "list" ∧ o.dict = none ∧ o.data = .seq its n ∧ its.size ≤ sizeLine ∧ L2.Vals (ns.map L2.V.int) its.toList)
  | .dit ks xs, v => ∃ p vs, v = .ref p ∧ F p ∧ H p = some (.dT (ks.zip vs)) ∧ ks.length = xs.length ∧ Reps K F H xs vs
  | .dik ks xs, v => ∃ p vs, v = .ref p ∧ F p ∧ H p = some (.dK (ks.zip vs)) ∧ ks.length = xs.length ∧ Reps K F H xs vs
def Reps (K : PySem.W.Frag) (F : FS) (H : L2.Hp) : List T → List L2.V → Prop
  | [], vs => vs = []
  | x :: xs, vs => ∃ v r, vs = v :: r ∧ RepT K F H x v ∧ Reps K F H xs r
end
/-- what is frozen stays -/
structure Ext (F : FS) (H : L2.Hp) (F' : FS) (H' : L2.Hp) : Prop where
  sub : ∀ p, F p → F' p
  keep : ∀ p o, F p → H p = some o → H' p = some o
theorem Ext.rfl' {F : FS} {H : L2.Hp} : Ext F H F H := ⟨fun _ h => h, fun _ _ _ h => h⟩
theorem Ext.trans {F F1 F2 : FS} {H H1 H2 : L2.Hp} (a : Ext F H F1 H1) (b : Ext F1 H1 F2 H2) : Ext F H F2 H2 := ⟨fun p h => b.sub p (a.sub p h), fun p o h e => b.keep p o (a.sub p h) (a.keep p o h e)⟩
mutual
theorem RepT.mono {K : PySem.W.Frag} {F F' : FS} {H H' : L2.Hp} (e : Ext F H F' H') : ∀ (t : T) (v : L2.V), RepT K F H t v → RepT K F' H' t v
  | .non, _, h => h
  | .bl _, _, h => h
  | .int _, _, h => h
  | .str _, _, h => h
  | .lst xs, v, h => by
    obtain ⟨p, vs, h1, h2, h3, h4⟩ := h
    exact ⟨p, vs, h1, e.sub p h2, e.keep p _ h2 h3, Reps.mono e xs vs h4⟩
  | .tup xs, v, h => by
    obtain ⟨p, vs, h1, h2, h3, h4⟩ := h
    exact ⟨p, vs, h1, e.sub p h2, e.keep p _ h2 h3, Reps.mono e xs vs h4⟩
  | .ins _ _, _, h => h
  | .scr ns, v, h => by
    obtain ⟨p, h1, h2⟩ := h
    refine ⟨p, h1, ?_⟩
    rcases h2 with ⟨h2, o, h3⟩ | h2
    · exact .inl ⟨e.sub p h2, o, e.keep p _ h2 h3⟩
    · exact .inr h2
  | .dit ks xs, v, h => by
    obtain ⟨p, vs, h1, h2, h3, h5, h4⟩ := h
    exact ⟨p, vs, h1, e.sub p h2, e.keep p _ h2 h3, h5, Reps.mono e xs vs h4⟩
  | .dik ks xs, v, h => by
    obtain ⟨p, vs, h1, h2, h3, h5, h4⟩ := h
    exact ⟨p, vs, h1, e.sub p h2, e.keep p _ h2 h3, h5, Reps.mono e xs vs h4⟩
theorem Reps.mono {K : PySem.W.Frag} {F F' : FS} {H H' : L2.Hp} (e : Ext F H F' H') : ∀ (ts : List T) (vs : List L2.V), Reps K F H ts vs → Reps K F' H' ts vs
  | [], _, h => h
  | x :: xs, _, h => by
    obtain ⟨v, r, h1, h2, h3⟩ := h
    exact ⟨v, r, h1, RepT.mono e x v h2, Reps.mono e xs r h3⟩
end
section
variable {K : PySem.W.Frag} {F : FS} {H : L2.Hp}
theorem Reps.nil : Reps K F H [] [] := rfl
theorem Reps.cons {x : T} {xs : List T} {v : L2.V} {vs : List L2.V} (h : RepT K F H x v) (r : Reps K F H xs vs) : Reps K F H (x :: xs) (v :: vs) := ⟨v, vs, rfl, h, r⟩
theorem Reps.length : ∀ {xs : List T} {vs : List L2.V}, Reps K F H xs vs → xs.length = vs.length
  | [], _, h => by cases (show _ = [] from h); rfl
  | x :: xs, _, h => by
    obtain ⟨v, r, e, _, q⟩ := h
    subst e
    exact congrArg Nat.succ (Reps.length q)
theorem Reps.get : ∀ {xs : List T} {vs : List L2.V} {i : Nat} {t : T}, Reps K F H xs vs → xs[i]? = some t → ∃ v, vs[i]? = some v ∧ RepT K F H t v
  | [], _, _, _, _, e => by simp at e
  | x :: xs, _, 0, t, h, e => by
    obtain ⟨v, r, e1, h1, _⟩ := h
    subst e1
    simp at e
    subst e
    exact ⟨v, rfl, h1⟩
  | x :: xs, _, i + 1, t, h, e => by
    obtain ⟨v, r, e1, _, q⟩ := h
    subst e1
    obtain ⟨u, h2, h3⟩ := Reps.get (i := i) (t := t) q (by simpa using e)
    exact ⟨u, by simpa using h2, h3⟩
theorem Reps.append : ∀ {xs ys : List T} {vs ws : List L2.V}, Reps K F H xs vs → Reps K F H ys ws → Reps K F H (xs ++ ys) (vs ++ ws)
  | [], _, _, _, h, q => by cases (show _ = [] from h); exact q
  | x :: xs, _, _, _, h, q => by
    obtain ⟨v, r, e, h1, h2⟩ := h
    subst e
    exact ⟨v, _, rfl, h1, Reps.append h2 q⟩
theorem Reps.take : ∀ {xs : List T} {vs : List L2.V} (n : Nat), Reps K F H xs vs → Reps K F H (xs.take n) (vs.take n)
  | _, _, 0, _ => by simp; exact Reps.nil
  | [], _, n + 1, h => by cases (show _ = [] from h); exact Reps.nil
  | x :: xs, _, n + 1, h => by
    obtain ⟨v, r, e, h1, h2⟩ := h
    subst e
    exact ⟨v, _, rfl, h1, Reps.take n h2⟩
theorem Reps.drop : ∀ {xs : List T} {vs : List L2.V} (n : Nat), Reps K F H xs vs → Reps K F H (xs.drop n) (vs.drop n)
  | _, _, 0, h => h
  | [], _, n + 1, h => by cases (show _ = [] from h); exact Reps.nil
  | x :: xs, _, n + 1, h => by
    obtain ⟨v, r, e, h1, h2⟩ := h
    subst e
    exact Reps.drop n h2
theorem Reps.set {t : T} {v : L2.V} (ht : RepT K F H t v) : ∀ {xs : List T} {vs : List L2.V} (i : Nat), Reps K F H xs vs → Reps K F H (xs.set i t) (vs.set i v)
  | [], _, _, h => by cases (show _ = [] from h); exact Reps.nil
  | x :: xs, _, 0, h => by
    obtain ⟨u, r, e, h1, h2⟩ := h
    subst e
    exact ⟨v, r, rfl, ht, h2⟩
  | x :: xs, _, i + 1, h => by
    obtain ⟨u, r, e, h1, h2⟩ := h
    subst e
    exact ⟨u, _, rfl, h1, Reps.set ht i h2⟩
theorem Reps.eraseIdx : ∀ {xs : List T} {vs : List L2.V} (i : Nat), Reps K F H xs vs → Reps K F H (xs.eraseIdx i) (vs.eraseIdx i)
  | [], _, _, h => by cases (show _ = [] from h); exact Reps.nil
  | x :: xs, _, 0, h => by
    obtain ⟨u, r, e, h1, h2⟩ := h
    subst e
    exact h2
  | x :: xs, _, i + 1, h => by
    obtain ⟨u, r, e, h1, h2⟩ := h
    subst e
    exact ⟨u, _, rfl, h1, Reps.eraseIdx i h2⟩
theorem Reps.dropLast {xs : List T} {vs : List L2.V} (h : Reps K F H xs vs) : Reps K F H xs.dropLast vs.dropLast := by
  rw [List.dropLast_eq_take, List.dropLast_eq_take, h.length]
  exact h.take _
theorem Reps.reverse : ∀ {xs : List T} {vs : List L2.V}, Reps K F H xs vs → Reps K F H xs.reverse vs.reverse
  | [], _, h => by cases (show _ = [] from h); exact Reps.nil
  | x :: xs, _, h => by
    obtain ⟨u, r, e, h1, h2⟩ := h
    subst e
    simp only [List.reverse_cons]
    exact (Reps.reverse h2).append ⟨u, [], rfl, h1, Reps.nil⟩
theorem Reps.rep {xs : List T} {vs : List L2.V} (h : Reps K F H xs vs) : ∀ n : Nat, Reps K F H (repT xs n) (List.replicate n vs).flatten
  | 0 => Reps.nil
  | n + 1 => by
    rw [List.replicate_succ, List.flatten_cons]
    exact h.append (Reps.rep h n)
end

/-! ### frames -/
/-- fixed through a def's run: the heap, what was frozen, the lists to be changed, at its entry -/
structure FC where
  K : PySem.W.Frag
  H0 : L2.Hp
  F0 : FS
  M : FS
def Own (ρ : Rho) (σ : LSt) (p : Addr) : Prop := ∃ (i : Nat) (k : Bool) (xs : List T), ρ[i]? = some (.o k xs) ∧ σ[i]? = some (some (.ref p))
def Kd (C : FC) : Bool → Addr → Prop
  | true, p => C.H0 p = none
  | false, p => C.M p
def SlRep (C : FC) (F : FS) (H : L2.Hp) : Sl → Option L2.V → Prop
  | .u, _ => True
  | .v t, ov => ∃ v, ov = some v ∧ RepT C.K F H t v
  | .o k xs, ov => ∃ p vs, ov = some (.ref p) ∧ H p = some (.lst vs) ∧ Reps C.K F H xs vs ∧ ¬ F p ∧ Kd C k p
  | .b xs, ov => ∃ p vs, ov = some (.ref p) ∧ H p = some (.lst vs) ∧ Reps C.K F H xs vs ∧ C.H0 p ≠ none ∧ ¬ C.M p
structure Sim (C : FC) (F : FS) (ρ : Rho) (σ : LSt) (H : L2.Hp) : Prop where
  len : ρ.length = σ.length
  sl : ∀ (i : Nat) (s : Sl), ρ[i]? = some s → SlRep C F H s (σ.getD i none)
  dis : ∀ (i j : Nat) (k l : Bool) (xs ys : List T) (p : Addr), ρ[i]? = some (.o k xs) → ρ[j]? = some (.o l ys) → σ[i]? = some (some (.ref p)) → σ[j]? = some (some (.ref p)) → i = j
  frz : ∀ p, F p → H p ≠ none
  frN : ∀ p, F p → C.F0 p ∨ C.H0 p = none
  out : ∀ p o, C.H0 p = some o → ¬ C.M p → H p = some o
  sub : ∀ p, C.F0 p → F p
  mF : ∀ p, C.M p → ¬ C.F0 p ∧ C.H0 p ≠ none
  dom : ∀ p, C.H0 p ≠ none → H p ≠ none
theorem getD_of {σ : LSt} {i : Nat} {v : Option L2.V} (h : σ[i]? = some v) : σ.getD i none = v := by
  rw [List.getD_eq_getElem?_getD, h]; rfl
theorem of_getD {σ : LSt} {i : Nat} {v : L2.V} (h : σ.getD i none = some v) : σ[i]? = some (some v) := by
  rw [List.getD_eq_getElem?_getD] at h
  cases e : σ[i]? with
  | none => rw [e] at h; cases h
  | some u => rw [e] at h; exact congrArg some h
section
variable {C : FC} {F F' : FS} {ρ ρ' : Rho} {σ : LSt} {H H' : L2.Hp}
theorem Sim.mNF (S : Sim C F ρ σ H) {p : Addr} (h : C.M p) : ¬ F p := fun q => by
  obtain ⟨m1, m2⟩ := S.mF p h
  rcases S.frN p q with z | z
  · exact m1 z
  · exact m2 z
theorem Sim.own (S : Sim C F ρ σ H) {i : Nat} {k : Bool} {xs : List T} (h : ρ[i]? = some (.o k xs)) : ∃ p vs, σ[i]? = some (some (.ref p)) ∧ H p = some (.lst vs) ∧ Reps C.K F H xs vs ∧ ¬ F p ∧ Kd C k p := by
  obtain ⟨p, vs, h1, h2⟩ := S.sl i _ h
  exact ⟨p, vs, of_getD h1, h2⟩
theorem Sim.nown (S : Sim C F ρ σ H) {p : Addr} (h : F p) : ¬ Own ρ σ p := fun ⟨i, k, xs, h1, h2⟩ => by
  obtain ⟨q, vs, h3, _, _, h4, _⟩ := S.own h1
  rw [h2] at h3
  cases h3
  exact h4 h
theorem Sim.ownH0 (S : Sim C F ρ σ H) {p : Addr} (h : Own ρ σ p) : C.H0 p = none ∨ C.M p := by
  obtain ⟨i, k, xs, h1, h2⟩ := h
  obtain ⟨q, vs, h3, _, _, _, h4⟩ := S.own h1
  rw [h2] at h3
  cases h3
  cases k with
  | true => exact .inl h4
  | false => exact .inr h4

/-- from one state of the frame to a later one -/
structure Step (C : FC) (ρ : Rho) (σ : LSt) (F : FS) (H : L2.Hp) (ρ' : Rho) (σ' : LSt) (F' : FS) (H' : L2.Hp) : Prop where
  sub : ∀ p, F p → F' p
  keep : ∀ p o, H p = some o → ¬ Own ρ σ p → H' p = some o
  new : ∀ p, F' p → F p ∨ H p = none ∨ Own ρ σ p
  own : ∀ p, Own ρ' σ' p → Own ρ σ p ∨ H p = none
  there : ∀ p, H p ≠ none → H' p ≠ none
  sim : Sim C F' ρ' σ' H'
theorem Step.rfl' (S : Sim C F ρ σ H) : Step C ρ σ F H ρ σ F H := ⟨fun _ h => h, fun _ _ h _ => h, fun _ h => .inl h, fun _ h => .inl h, fun _ h => h, S⟩
theorem Step.trans {ρ1 ρ2 : Rho} {σ1 σ2 : LSt} {F1 F2 : FS} {H1 H2 : L2.Hp} (a : Step C ρ σ F H ρ1 σ1 F1 H1) (b : Step C ρ1 σ1 F1 H1 ρ2 σ2 F2 H2) : Step C ρ σ F H ρ2 σ2 F2 H2 where
  sub := fun p h => b.sub p (a.sub p h)
  keep := fun p o h n => b.keep p o (a.keep p o h n) fun q => by
    rcases a.own p q with z | z
    · exact n z
    · rw [h] at z; cases z
  new := fun p h => by
    rcases b.new p h with h | h | h
    · exact a.new p h
    · refine .inr ?_
      cases e : H p with
      | none => exact .inl rfl
      | some o => exact absurd h (a.there p (by rw [e]; simp))
    · rcases a.own p h with z | z
      · exact .inr (.inr z)
      · exact .inr (.inl z)
  own := fun p h => by
    rcases b.own p h with z | z
    · exact a.own p z
    · cases e : H p with
      | none => exact .inr rfl
      | some o => exact absurd z (a.there p (by rw [e]; simp))
  there := fun p h => b.there p (a.there p h)
  sim := b.sim
theorem Step.ext {σ' : LSt} (S : Sim C F ρ σ H) (a : Step C ρ σ F H ρ' σ' F' H') : Ext F H F' H' := ⟨a.sub, fun p o h e => a.keep p o e (S.nown h)⟩

/-- a result: a frozen tree; a new list (not there at H) that nobody holds -/
def ARep (K : PySem.W.Frag) (σ : LSt) (H : L2.Hp) (ρ' : Rho) (F' : FS) (H' : L2.Hp) : A → L2.V → Prop
  | .t x, v => RepT K F' H' x v
  | .f xs, v => ∃ p vs, v = .ref p ∧ H p = none ∧ H' p = some (.lst vs) ∧ Reps K F' H' xs vs ∧ ¬ F' p ∧ ¬ Own ρ' σ p
/-- an operand; Hs: the heap where the operands' reckoning began -/
def OpRep (K : PySem.W.Frag) (σ : LSt) (Hs : L2.Hp) (ρ : Rho) (F : FS) (H : L2.Hp) : Opd → L2.V → Prop
  | .d i, v => σ[i]? = some (some v)
  | .x t, v => RepT K F H t v
  | .f xs, v => ∃ p vs, v = .ref p ∧ H p = some (.lst vs) ∧ Reps K F H xs vs ∧ Hs p = none ∧ ¬ Own ρ σ p
theorem Sim.h0 (S : Sim C F ρ σ H) {p : Addr} (h : H p = none) : C.H0 p = none := by
  cases e : C.H0 p with
  | none => rfl
  | some o => exact absurd h (S.dom p (by rw [e]; simp))
theorem ARep.op {a : A} {v : L2.V} (h : ARep C.K σ H ρ' F' H' a v) : OpRep C.K σ H ρ' F' H' (ofA a) v := by
  cases a with
  | t x => exact h
  | f xs =>
    obtain ⟨p, vs, h1, h2, h3, h4, h5, h6⟩ := h
    exact ⟨p, vs, h1, h3, h4, h2, h6⟩
theorem OpRep.step {Hs : L2.Hp} (S : Sim C F ρ σ H) {o : Opd} {v : L2.V} (st : Step C ρ σ F H ρ' σ F' H') (h : OpRep C.K σ Hs ρ F H o v) : OpRep C.K σ Hs ρ' F' H' o v := by
  cases o with
  | d i => exact h
  | x t => exact RepT.mono (st.ext S) t v h
  | f xs =>
    obtain ⟨p, vs, h1, h2, h3, h4, h5⟩ := h
    refine ⟨p, vs, h1, st.keep p _ h2 h5, Reps.mono (st.ext S) _ _ h3, h4, fun q => ?_⟩
    rcases st.own p q with z | z
    · exact h5 z
    · rw [h2] at z; cases z
/-- an operand reckoned later is one of the whole -/
theorem OpRep.early {Hs Ht : L2.Hp} {o : Opd} {v : L2.V} (h : OpRep C.K σ Ht ρ F H o v) (e : ∀ p, Hs p ≠ none → Ht p ≠ none) : OpRep C.K σ Hs ρ F H o v := by
  cases o with
  | d i => exact h
  | x t => exact h
  | f xs =>
    obtain ⟨p, vs, h1, h2, h3, h4, h5⟩ := h
    refine ⟨p, vs, h1, h2, h3, ?_, h5⟩
    cases q : Hs p with
    | none => rfl
    | some o => exact absurd h4 (e p (by rw [q]; simp))
/-- a tree that is read at once -/
def PRep (K : PySem.W.Frag) (F : FS) (H : L2.Hp) (t : T) (v : L2.V) : Prop := match t with
  | .lst xs => ∃ p vs, v = .ref p ∧ H p = some (.lst vs) ∧ Reps K F H xs vs
  | t => RepT K F H t v
theorem PRep.of {t : T} {v : L2.V} (h : RepT C.K F H t v) : PRep C.K F H t v := by
  cases t with
  | lst xs => obtain ⟨p, vs, h1, _, h2, h3⟩ := h; exact ⟨p, vs, h1, h2, h3⟩
  | _ => exact h
theorem slot_prep {s : Sl} {ov : Option L2.V} {v : L2.V} {t : T} (h : SlRep C F H s ov) (hv : ov = some v) (e : slotT s = some t) : PRep C.K F H t v := by
  subst hv
  cases s with
  | u => cases e
  | v x =>
    cases e
    obtain ⟨w, h1, h2⟩ := h
    cases h1
    exact .of h2
  | o k xs =>
    cases e
    obtain ⟨p, vs, h1, h2, h3, _⟩ := h
    cases h1
    exact ⟨p, vs, rfl, h2, h3⟩
  | b xs =>
    cases e
    obtain ⟨p, vs, h1, h2, h3, _⟩ := h
    cases h1
    exact ⟨p, vs, rfl, h2, h3⟩
theorem res_prep {Hs : L2.Hp} (S : Sim C F ρ σ H) {o : Opd} {v : L2.V} {t : T} (h : OpRep C.K σ Hs ρ F H o v) (e : res ρ o = some t) : PRep C.K F H t v := by
  cases o with
  | d i =>
    obtain ⟨s, e1, e2⟩ := Option.bind_eq_some_iff.mp (show (ρ[i]?).bind slotT = some t from e)
    exact slot_prep (S.sl i s e1) (getD_of h) e2
  | x x => cases e; exact .of h
  | f xs =>
    cases e
    obtain ⟨p, vs, h1, h2, h3, _⟩ := h
    exact ⟨p, vs, h1, h2, h3⟩
end
end PV

set_option Elab.async false
set_option linter.all false
set_option maxRecDepth 100000
/-! PV, soundness 2: how a frame's state may change. -/
namespace PV
open PySem PySem.Spec PyProof.Rows
section
variable {C : FC} {F F' : FS} {ρ ρ' : Rho} {σ : LSt} {H H' : L2.Hp}
theorem set_get {i j : Nat} {s t : Sl} (h : (ρ.set i s)[j]? = some t) : (j = i ∧ t = s) ∨ (j ≠ i ∧ ρ[j]? = some t) := by
  by_cases e : j = i
  · subst e
    by_cases hl : j < ρ.length
    · rw [List.getElem?_set_self hl] at h
      exact .inl ⟨rfl, (Option.some.inj h).symm⟩
    · rw [List.getElem?_eq_none (by simpa using hl)] at h
      cases h
  · rw [List.getElem?_set_ne (Ne.symm e)] at h
    exact .inr ⟨e, h⟩
theorem Own.set_sub {i : Nat} {s : Sl} {p : Addr} (hs : ∀ k xs, s ≠ .o k xs) (h : Own (ρ.set i s) σ p) : Own ρ σ p := by
  obtain ⟨j, k, xs, h1, h2⟩ := h
  rcases set_get h1 with ⟨_, e⟩ | ⟨_, e⟩
  · exact absurd e.symm (hs k xs)
  · exact ⟨j, k, xs, e, h2⟩
/-- another heap, more frozen; the slots the same -/
theorem Sim.move (S : Sim C F ρ σ H) (e : Ext F H F' H') (frz : ∀ p, F' p → H' p ≠ none) (frN : ∀ p, F' p → C.F0 p ∨ C.H0 p = none) (out : ∀ p o, C.H0 p = some o → ¬ C.M p → H' p = some o) (dom : ∀ p, C.H0 p ≠ none → H' p ≠ none)
    (own : ∀ p, Own ρ σ p → H' p = H p ∧ ¬ F' p) : Sim C F' ρ σ H' where
  len := S.len
  sl := fun i s h => by
    have q := S.sl i s h
    cases s with
    | u => trivial
    | v t =>
      obtain ⟨v, h1, h2⟩ := q
      exact ⟨v, h1, RepT.mono e t v h2⟩
    | o k xs =>
      obtain ⟨p, vs, h1, h2, h3, h4, h5⟩ := q
      obtain ⟨z1, z2⟩ := own p ⟨i, k, xs, h, of_getD h1⟩
      exact ⟨p, vs, h1, z1.trans h2, Reps.mono e _ _ h3, z2, h5⟩
    | b xs =>
      obtain ⟨p, vs, h1, h2, h3, h4, h5⟩ := q
      refine ⟨p, vs, h1, ?_, Reps.mono e _ _ h3, h4, h5⟩
      cases z : C.H0 p with
      | none => exact absurd z h4
      | some o =>
        have a := S.out p o z h5
        rw [h2] at a
        cases a
        exact out p _ z h5
  dis := S.dis
  frz := frz
  frN := frN
  out := out
  sub := fun p h => e.sub p (S.sub p h)
  mF := S.mF
  dom := dom
/-- another slot's content -/
theorem Sim.setSlot (S : Sim C F ρ σ H) {i : Nat} {s : Sl} (h : i < ρ.length → SlRep C F H s (σ.getD i none)) (hd : ∀ (k : Bool) (xs : List T), s = .o k xs → ∀ (j : Nat) (l : Bool) (ys : List T) (p : Addr), ρ[j]? = some (.o l ys) → σ[i]? = some (some (.ref p)) → σ[j]? = some (some (.ref p)) → j = i) : Sim C F (ρ.set i s) σ H where
  len := by rw [List.length_set]; exact S.len
  sl := fun j t ht => by
    rcases set_get ht with ⟨rfl, rfl⟩ | ⟨_, e⟩
    · refine h ?_
      have := (List.getElem?_eq_some_iff.mp ht).1
      simpa using this
    · exact S.sl j t e
  dis := fun a b k l xs ys p h1 h2 h3 h4 => by
    rcases set_get h1 with ⟨rfl, e1⟩ | ⟨n1, e1⟩
    · rcases set_get h2 with ⟨rfl, e2⟩ | ⟨n2, e2⟩
      · rfl
      · exact (hd k xs e1.symm b l ys p e2 h3 h4).symm
    · rcases set_get h2 with ⟨rfl, e2⟩ | ⟨n2, e2⟩
      · exact hd l ys e2.symm a k xs p e1 h4 h3
      · exact S.dis a b k l xs ys p e1 e2 h3 h4
  frz := S.frz
  frN := S.frN
  out := S.out
  sub := S.sub
  mF := S.mF
  dom := S.dom
theorem Sim.setNo (S : Sim C F ρ σ H) {i : Nat} {s : Sl} (h : i < ρ.length → SlRep C F H s (σ.getD i none)) (hs : ∀ k xs, s ≠ .o k xs) : Sim C F (ρ.set i s) σ H :=
  S.setSlot h fun k xs e => absurd e (hs k xs)
theorem Sim.lose (S : Sim C F ρ σ H) (i : Nat) : Sim C F (ρ.set i .u) σ H := S.setNo (fun _ => trivial) (fun _ _ => by simp)
theorem upd_keep {p q : Addr} {o u : L2.HO} (hp : H p = none) (h : H q = some o) : L2.upd H p u q = some o := by
  rw [L2.upd_ne (L2.ne_of_none h hp)]; exact h
theorem upd_there {p q : Addr} {u : L2.HO} (h : H q ≠ none) : L2.upd H p u q ≠ none := by
  unfold L2.upd
  split
  · simp
  · exact h
/-- a new object; it may be frozen at once -/
theorem Sim.alloc (S : Sim C F ρ σ H) {p : Addr} {o : L2.HO} (hp : H p = none) (hF : ∀ q, F q → F' q) (hF' : ∀ q, F' q → F q ∨ q = p) : Sim C F' ρ σ (L2.upd H p o) := by
  have k : ∀ q o', H q = some o' → L2.upd H p o q = some o' := fun q o' h => upd_keep hp h
  refine S.move ⟨hF, fun q o' _ h => k q o' h⟩ (fun q h => ?_) (fun q h => ?_) (fun q o' h1 h2 => k q o' (S.out q o' h1 h2)) (fun q h => upd_there (S.dom q h)) fun q h => ?_
  · rcases hF' q h with z | z
    · exact upd_there (S.frz q z)
    · rw [z, L2.upd_same]; simp
  · rcases hF' q h with z | z
    · exact S.frN q z
    · rw [z]; exact .inr (S.h0 hp)
  · obtain ⟨i, kk, xs, h1, h2⟩ := h
    obtain ⟨q', vs, h3, h4, _, h5, _⟩ := S.own h1
    rw [h2] at h3
    cases h3
    have hqp : q ≠ p := L2.ne_of_none h4 hp
    refine ⟨by rw [L2.upd_ne hqp], fun z => ?_⟩
    rcases hF' q z with z | z
    · exact h5 z
    · exact hqp z
theorem Step.alloc {ρs : Rho} {σs : LSt} {Fs : FS} {Hs : L2.Hp} (st : Step C ρs σs Fs Hs ρ σ F H) {p : Addr} {o : L2.HO} (hp : H p = none) (hF : ∀ q, F q → F' q) (hF' : ∀ q, F' q → F q ∨ q = p) : Step C ρs σs Fs Hs ρ σ F' (L2.upd H p o) :=
  st.trans ⟨hF, fun q o' h _ => upd_keep hp h, fun q h => (hF' q h).imp id fun z => .inl (by rw [z]; exact hp), fun q h => .inl h, fun q h => upd_there h, st.sim.alloc hp hF hF'⟩
/-- a list that was made since the start and that no slot holds is frozen -/
theorem Step.freeze {ρs : Rho} {σs : LSt} {Fs : FS} {Hs : L2.Hp} (st : Step C ρs σs Fs Hs ρ σ F H) {p : Addr} (h0 : Hs p = none) (h0' : C.H0 p = none) (h1 : H p ≠ none) (hn : ¬ Own ρ σ p) : Step C ρs σs Fs Hs ρ σ (fun q => F q ∨ q = p) H where
  sub := fun q h => .inl (st.sub q h)
  keep := st.keep
  new := fun q h => by
    rcases h with h | h
    · exact st.new q h
    · rw [h]; exact .inr (.inl h0)
  own := st.own
  there := st.there
  sim := st.sim.move ⟨fun q h => .inl h, fun _ _ _ h => h⟩ (fun q h => h.elim (st.sim.frz q) fun z => by rw [z]; exact h1) (fun q h => h.elim (st.sim.frN q) fun z => by rw [z]; exact .inr h0') st.sim.out st.sim.dom fun q h => by
    refine ⟨rfl, fun z => ?_⟩
    rcases z with z | z
    · exact st.sim.nown z h
    · subst z; exact hn h
/-- the own list of a slot is frozen -/
theorem Sim.freezeSlot (S : Sim C F ρ σ H) {i : Nat} {xs : List T} {p : Addr} (h : ρ[i]? = some (.o true xs)) (hp : σ[i]? = some (some (.ref p))) :
    Sim C (fun q => F q ∨ q = p) (ρ.set i (.v (.lst xs))) σ H ∧ RepT C.K (fun q => F q ∨ q = p) H (.lst xs) (.ref p) := by
  obtain ⟨q, vs, h1, h2, h3, h4, h5⟩ := S.own h
  rw [hp] at h1
  cases h1
  have e : Ext F H (fun q => F q ∨ q = p) H := ⟨fun q z => .inl z, fun _ _ _ z => z⟩
  have rep : RepT C.K (fun q => F q ∨ q = p) H (.lst xs) (.ref p) := ⟨p, vs, rfl, .inr rfl, h2, Reps.mono e _ _ h3⟩
  have S1 : Sim C (fun q => F q ∨ q = p) (ρ.set i .u) σ H := (S.lose i).move e (fun q z => z.elim (S.frz q) fun z => by rw [z, h2]; simp) (fun q z => z.elim (S.frN q) fun z => by rw [z]; exact .inr h5) S.out S.dom fun q z => by
    refine ⟨rfl, fun z2 => ?_⟩
    obtain ⟨j, k, ys, j1, j2⟩ := z
    rcases set_get j1 with ⟨_, e1⟩ | ⟨n1, e1⟩
    · cases e1
    · rcases z2 with z2 | z2
      · exact S.nown z2 ⟨j, k, ys, e1, j2⟩
      · subst z2
        exact n1 (S.dis j i k true ys xs q e1 h j2 hp)
  have S2 := S1.setNo (i := i) (s := .v (.lst xs)) (fun _ => ⟨.ref p, getD_of hp, rep⟩) (fun _ _ => by simp)
  rw [List.set_set] at S2
  exact ⟨S2, rep⟩
/-- the own list of a slot is changed -/
theorem Sim.write (S : Sim C F ρ σ H) {i : Nat} {k : Bool} {xs ys : List T} {p : Addr} {ws : List L2.V} (h : ρ[i]? = some (.o k xs)) (hp : σ[i]? = some (some (.ref p))) (hw : Reps C.K F H ys ws) :
    Sim C F (ρ.set i (.o k ys)) σ (L2.upd H p (.lst ws)) ∧ Step C ρ σ F H (ρ.set i (.o k ys)) σ F (L2.upd H p (.lst ws)) := by
  obtain ⟨q, vs, h1, h2, h3, h4, h5⟩ := S.own h
  rw [hp] at h1
  cases h1
  have ne : ∀ q, q ≠ p → L2.upd H p (.lst ws) q = H q := fun q n => L2.upd_ne n
  have e : Ext F H F (L2.upd H p (.lst ws)) := ⟨fun q z => z, fun q o z1 z2 => by rw [ne q (fun z => h4 (z ▸ z1))]; exact z2⟩
  have hout : ∀ q o, C.H0 q = some o → ¬ C.M q → L2.upd H p (.lst ws) q = some o := fun q o z1 z2 => by
    rw [ne q ?_]
    · exact S.out q o z1 z2
    · rintro rfl
      cases k with
      | true => have z : C.H0 q = none := h5; rw [z1] at z; cases z
      | false => exact z2 h5
  have S1 : Sim C F (ρ.set i .u) σ (L2.upd H p (.lst ws)) := (S.lose i).move e (fun q z => upd_there (S.frz q z)) S.frN hout (fun q z => upd_there (S.dom q z)) fun q z => by
    obtain ⟨j, l, zs, j1, j2⟩ := z
    rcases set_get j1 with ⟨_, e1⟩ | ⟨n1, e1⟩
    · cases e1
    · obtain ⟨q', us, k1, k2, _, k4, _⟩ := S.own e1
      rw [j2] at k1
      cases k1
      refine ⟨ne q fun z => ?_, k4⟩
      subst z
      exact n1 (S.dis j i l k zs xs q e1 h j2 hp)
  have S2 := S1.setSlot (i := i) (s := .o k ys) (fun _ => ⟨p, ws, getD_of hp, L2.upd_same, Reps.mono e _ _ hw, h4, h5⟩) fun k' xs' _ j l zs q z1 z2 z3 => by
    rcases set_get z1 with ⟨e0, _⟩ | ⟨n1, e1⟩
    · exact e0
    · rw [hp] at z2
      cases z2
      exact S.dis j i l k zs xs p e1 h z3 hp
  rw [List.set_set] at S2
  have ho : ∀ q, Own (ρ.set i (.o k ys)) σ q → Own ρ σ q := fun q z => by
    obtain ⟨j, l, zs, j1, j2⟩ := z
    rcases set_get j1 with ⟨rfl, e1⟩ | ⟨n1, e1⟩
    · exact ⟨j, k, xs, h, j2⟩
    · exact ⟨j, l, zs, e1, j2⟩
  refine ⟨S2, fun q z => z, fun q o z1 z2 => ?_, fun q z => .inl z, fun q z => .inl (ho q z), fun q z => upd_there z, S2⟩
  rw [ne q]
  · exact z1
  · rintro rfl
    exact z2 ⟨i, k, xs, h, hp⟩

/-! ### operands handed on, read -/
theorem frz_ok {ρs : Rho} {Fs : FS} {Hs : L2.Hp} (Ss : Sim C Fs ρs σ Hs) (st : Step C ρs σ Fs Hs ρ σ F H) {o : Opd} {v : L2.V} {t : T} (h : OpRep C.K σ Hs ρ F H o v) (e : frz ρ o = some (t, ρ')) :
    ∃ F', Step C ρs σ Fs Hs ρ' σ F' H ∧ Ext F H F' H ∧ RepT C.K F' H t v ∧ ∀ o' v', OpRep C.K σ Hs ρ F H o' v' → OpRep C.K σ Hs ρ' F' H o' v' := by
  have S := st.sim
  have opx : ∀ {F' : FS} {ρ' : Rho}, Ext F H F' H → (∀ p, Own ρ' σ p → Own ρ σ p) → ∀ o' v', OpRep C.K σ Hs ρ F H o' v' → OpRep C.K σ Hs ρ' F' H o' v' := fun {F' ρ'} x y o' v' q => by
    cases o' with
    | d i => exact q
    | x t => exact RepT.mono x t v' q
    | f xs =>
      obtain ⟨p, vs, h1, h2, h3, h4, h5⟩ := q
      exact ⟨p, vs, h1, h2, Reps.mono x _ _ h3, h4, fun z => h5 (y p z)⟩
  cases o with
  | x x =>
    cases e
    exact ⟨F, st, .rfl', h, fun _ _ q => q⟩
  | f xs =>
    cases e
    obtain ⟨p, vs, h1, h2, h3, h4, h5⟩ := h
    subst h1
    have x : Ext F H (fun q => F q ∨ q = p) H := ⟨fun q z => .inl z, fun _ _ _ z => z⟩
    exact ⟨_, st.freeze h4 (Ss.h0 h4) (by rw [h2]; simp) h5, x, ⟨p, vs, rfl, .inr rfl, h2, Reps.mono x _ _ h3⟩, opx x fun _ z => z⟩
  | d i =>
    have hv : σ[i]? = some (some v) := h
    dsimp only [frz] at e
    cases hs : ρ[i]? with
    | none => rw [hs] at e; cases e
    | some s =>
      rw [hs] at e
      cases s with
      | u => cases e
      | b xs => cases e
      | v x =>
        cases e
        obtain ⟨w, h1, h2⟩ := S.sl i _ hs
        rw [getD_of hv] at h1
        cases h1
        exact ⟨F, st, .rfl', h2, fun _ _ q => q⟩
      | o k xs =>
        cases k with
        | false => cases e
        | true =>
          cases e
          obtain ⟨p, vs, h1, h2, h3, h4, h5⟩ := S.own hs
          rw [hv] at h1
          cases h1
          obtain ⟨S2, rep⟩ := S.freezeSlot hs hv
          have x : Ext F H (fun q => F q ∨ q = p) H := ⟨fun q z => .inl z, fun _ _ _ z => z⟩
          have y : ∀ q, Own (ρ.set i (.v (.lst xs))) σ q → Own ρ σ q := fun q z => z.set_sub (fun _ _ => by simp)
          refine ⟨_, ?_, x, rep, opx x y⟩
          refine st.trans ⟨fun q z => .inl z, fun q o z _ => z, fun q z => ?_, fun q z => .inl (y q z), fun q z => z, S2⟩
          rcases z with z | z
          · exact .inl z
          · subst z
            exact .inr (.inr ⟨i, true, xs, hs, hv⟩)
def OpReps (K : PySem.W.Frag) (σ : LSt) (Hs : L2.Hp) (ρ : Rho) (F : FS) (H : L2.Hp) : List Opd → List L2.V → Prop
  | [], vs => vs = []
  | o :: os, vs => ∃ v r, vs = v :: r ∧ OpRep K σ Hs ρ F H o v ∧ OpReps K σ Hs ρ F H os r
theorem OpReps.map {Hs Hs' : L2.Hp} (f : ∀ o v, OpRep C.K σ Hs ρ F H o v → OpRep C.K σ Hs' ρ' F' H' o v) : ∀ {os : List Opd} {vs : List L2.V}, OpReps C.K σ Hs ρ F H os vs → OpReps C.K σ Hs' ρ' F' H' os vs
  | [], _, h => h
  | o :: os, _, h => by
    obtain ⟨v, r, e, h1, h2⟩ := h
    exact ⟨v, r, e, f o v h1, OpReps.map f h2⟩
theorem OpReps.get {Hs : L2.Hp} : ∀ {os : List Opd} {vs : List L2.V} {i : Nat} {o : Opd}, OpReps C.K σ Hs ρ F H os vs → os[i]? = some o → ∃ v, vs[i]? = some v ∧ OpRep C.K σ Hs ρ F H o v
  | [], _, _, _, _, e => by simp at e
  | x :: xs, _, 0, t, h, e => by
    obtain ⟨v, r, e1, h1, _⟩ := h
    subst e1
    simp at e
    subst e
    exact ⟨v, rfl, h1⟩
  | x :: xs, _, i + 1, t, h, e => by
    obtain ⟨v, r, e1, _, q⟩ := h
    subst e1
    obtain ⟨u, h2, h3⟩ := OpReps.get (i := i) (o := t) q (by simpa using e)
    exact ⟨u, by simpa using h2, h3⟩
theorem frzs_ok {ρs : Rho} {Fs : FS} {Hs : L2.Hp} (Ss : Sim C Fs ρs σ Hs) : ∀ {os : List Opd} {ρ ρ' : Rho} {F : FS} {vs : List L2.V} {ts : List T}, Step C ρs σ Fs Hs ρ σ F H → OpReps C.K σ Hs ρ F H os vs → frzs ρ os = some (ts, ρ') →
    ∃ F', Step C ρs σ Fs Hs ρ' σ F' H ∧ Ext F H F' H ∧ Reps C.K F' H ts vs
  | [], ρ, ρ', F, vs, ts, st, h, e => by
    cases e
    exact ⟨F, st, .rfl', h⟩
  | o :: os, ρ, ρ', F, vs, ts, st, h, e => by
    obtain ⟨v, r, e1, h1, h2⟩ := h
    subst e1
    unfold frzs at e
    cases q : frz ρ o with
    | none => rw [q] at e; cases e
    | some p =>
      obtain ⟨t, ρ1⟩ := p
      rw [q] at e
      dsimp only at e
      cases q2 : frzs ρ1 os with
      | none => rw [q2] at e; cases e
      | some p2 =>
        obtain ⟨us, ρ2⟩ := p2
        rw [q2] at e
        cases e
        obtain ⟨F1, st1, x1, rep, f⟩ := frz_ok Ss st h1 q
        obtain ⟨F2, st2, x2, rs⟩ := frzs_ok Ss st1 (h2.map f) q2
        exact ⟨F2, st2, x1.trans x2, ⟨v, r, rfl, RepT.mono x2 _ _ rep, rs⟩⟩
def PReps (K : PySem.W.Frag) (F : FS) (H : L2.Hp) : List T → List L2.V → Prop
  | [], vs => vs = []
  | t :: ts, vs => ∃ v r, vs = v :: r ∧ PRep K F H t v ∧ PReps K F H ts r
theorem ress_ok {Hs : L2.Hp} (S : Sim C F ρ σ H) : ∀ {os : List Opd} {vs : List L2.V} {ts : List T}, OpReps C.K σ Hs ρ F H os vs → ress ρ os = some ts → PReps C.K F H ts vs
  | [], _, _, h, e => by cases e; exact h
  | o :: os, _, ts, h, e => by
    obtain ⟨v, r, e1, h1, h2⟩ := h
    subst e1
    unfold ress at e
    cases q : res ρ o with
    | none => rw [q] at e; cases e
    | some t =>
      rw [q] at e
      dsimp only at e
      cases q2 : ress ρ os with
      | none => rw [q2] at e; cases e
      | some us =>
        rw [q2] at e
        cases e
        exact ⟨v, r, rfl, res_prep S h1 q, ress_ok S h2 q2⟩
end
end PV

set_option Elab.async false
set_option linter.all false
set_option maxRecDepth 100000
set_option maxHeartbeats 1000000
/-! PV, soundness 3: what an expression's code says of the expression; operators. -/
namespace PV
open PySem PySem.Spec PyProof.Rows

/-- what stands behind the numbers of classes: their addresses, the names of their fields -/
structure Ga where
  ca : Nat → Addr
  nm : Nat → List Str
/-- an exception as it lies -/
def XR (K : PySem.W.Frag) (G : Ga) (F : FS) (H : L2.Hp) (c : Nat) (ts : List T) (cv : Value) (d : Option Addr) : Prop :=
  cv = .ref (G.ca c) ∧ ((ts = [] ∧ d = none) ∨ ∃ dd fs, d = some dd ∧ H dd = some (.xd fs) ∧ ∀ (i : Nat) (t : T) (x : Str), ts[i]? = some t → (G.nm c)[i]? = some x → ∃ v, fs.lookup x = some v ∧ RepT K F H t v)
section
variable (X : L2.Cx) (G : Ga) (W : L2.WX) (C : FC)
def WE (e : Expr) (σ : LSt) (H : L2.Hp) (Q : L2.VK) : Prop := ∀ pins s, L2.Inv X pins σ H s → wpAny (model X.prog X.w) X.A (eval e X.env) (L2.EP X pins σ Q) X.xe s
def WT (e : Expr) (σ : LSt) (H : L2.Hp) (Q : Bool → L2.Hp → Prop) : Prop := ∀ pins s, L2.Inv X pins σ H s → wpAny (model X.prog X.w) X.A (isTrue e X.env (eval e X.env)) (L2.TP X pins σ Q) X.xe s
def WEs : List Expr → LSt → L2.Hp → (List L2.V → L2.Hp → Prop) → Prop
  | [], _, H, K => K [] H
  | e :: es, σ, H, K => WE X e σ H fun v H1 => WEs es σ H1 fun vs H2 => K (v :: vs) H2
def OutX (ρ : Rho) (σ : LSt) (F : FS) (H : L2.Hp) (c : Nat) (ts : List T) (ρ' : Rho) : Prop := ∀ F' H' cv d, Step C ρ σ F H ρ' σ F' H' → XR C.K G F' H' c ts cv d → W cv d σ H'
def OutA (ρ : Rho) (σ : LSt) (F : FS) (H : L2.Hp) (r : R A) (Q : L2.VK) : Prop := match r with
  | .ok a ρ' => ∀ F' H' v, Step C ρ σ F H ρ' σ F' H' → ARep C.K σ H ρ' F' H' a v → Q v H'
  | .exc c ts ρ' => OutX G W C ρ σ F H c ts ρ'
  | .bad => False
def OutO (ρ : Rho) (σ : LSt) (F : FS) (H : L2.Hp) (r : R Opd) (Q : L2.VK) : Prop := match r with
  | .ok o ρ' => ∀ F' H' v, Step C ρ σ F H ρ' σ F' H' → OpRep C.K σ H ρ' F' H' o v → Q v H'
  | .exc c ts ρ' => OutX G W C ρ σ F H c ts ρ'
  | .bad => False
def OutOs (ρ : Rho) (σ : LSt) (F : FS) (H : L2.Hp) (r : R (List Opd)) (Q : List L2.V → L2.Hp → Prop) : Prop := match r with
  | .ok os ρ' => ∀ F' H' vs, Step C ρ σ F H ρ' σ F' H' → OpReps C.K σ H ρ' F' H' os vs → Q vs H'
  | .exc c ts ρ' => OutX G W C ρ σ F H c ts ρ'
  | .bad => False
def OutB (ρ : Rho) (σ : LSt) (F : FS) (H : L2.Hp) (r : R Bool) (Q : Bool → L2.Hp → Prop) : Prop := match r with
  | .ok b ρ' => ∀ F' H', Step C ρ σ F H ρ' σ F' H' → Q b H'
  | .exc c ts ρ' => OutX G W C ρ σ F H c ts ρ'
  | .bad => False
/-- the code says what the expression does -/
def SE (e : Expr) (r : Rho → R A) : Prop := ∀ ρ F σ H Q, Sim C F ρ σ H → OutA G W C ρ σ F H (r ρ) Q → WE X e σ H Q
def SO (e : Expr) (r : Rho → R Opd) : Prop := ∀ ρ F σ H Q, Sim C F ρ σ H → OutO G W C ρ σ F H (r ρ) Q → WE X e σ H Q
def SOs (es : List Expr) (r : Rho → R (List Opd)) : Prop := ∀ ρ F σ H Q, Sim C F ρ σ H → OutOs G W C ρ σ F H (r ρ) Q → WEs X es σ H Q
def SB (e : Expr) (r : Rho → R Bool) : Prop := ∀ ρ F σ H Q, Sim C F ρ σ H → OutB G W C ρ σ F H (r ρ) Q → WT X e σ H Q
end
section
variable {X : L2.Cx} {G : Ga} {W : L2.WX} {C : FC} {ρ ρ' : Rho} {σ : LSt} {F F' : FS} {H H' : L2.Hp} {e a b : Expr} {es : List Expr} {pos : Pos}
theorem pe_we : L2.PE X e (WE X e) := ⟨fun pins s σ H Q I h => h pins s I⟩
theorem we_of {t : L2.TE} {Q : L2.VK} (p : L2.PE X e t) (h : t σ H Q) : WE X e σ H Q := fun pins s I => p.run pins s σ H Q I h
theorem pt_wt : L2.PT X e (WT X e) := ⟨fun pins s σ H Q I h => h pins s I⟩
theorem wt_of {t : L2.TT} {Q : Bool → L2.Hp → Prop} (p : L2.PT X e t) (h : t σ H Q) : WT X e σ H Q := fun pins s I => p.run pins s σ H Q I h
theorem WE.mono {Q Q' : L2.VK} (h : WE X e σ H Q) (k : ∀ v H', Q v H' → Q' v H') : WE X e σ H Q' := fun pins s I =>
  L2.thn (h pins s I) fun u s' ⟨v, H1, I1, r, q⟩ => ⟨v, H1, I1, r, k v H1 q⟩
theorem WEs.mono : ∀ {es : List Expr} {H : L2.Hp} {Q Q' : List L2.V → L2.Hp → Prop}, WEs X es σ H Q → (∀ v H', Q v H' → Q' v H') → WEs X es σ H Q'
  | [], _, _, _, h, k => k _ _ h
  | _ :: es, _, _, _, h, k => WE.mono h fun v H1 q => WEs.mono q fun vs H2 q2 => k _ _ q2

/-! ### later starts -/
theorem ARep.early {Hs : L2.Hp} {r : A} {v : L2.V} (h : ARep C.K σ H ρ' F' H' r v) (e : ∀ p, Hs p ≠ none → H p ≠ none) : ARep C.K σ Hs ρ' F' H' r v := by
  cases r with
  | t x => exact h
  | f xs =>
    obtain ⟨p, vs, h1, h2, h3, h4, h5, h6⟩ := h
    refine ⟨p, vs, h1, ?_, h3, h4, h5, h6⟩
    cases q : Hs p with
    | none => rfl
    | some o => exact absurd h2 (e p (by rw [q]; simp))
theorem OutX.later {ρs : Rho} {Fs : FS} {Hs : L2.Hp} {c : Nat} {ts : List T} (st : Step C ρs σ Fs Hs ρ σ F H) (h : OutX G W C ρs σ Fs Hs c ts ρ') : OutX G W C ρ σ F H c ts ρ' := fun F' H' cv d s x => h F' H' cv d (st.trans s) x
theorem OutA.later {ρs : Rho} {Fs : FS} {Hs : L2.Hp} {r : R A} {Q : L2.VK} (st : Step C ρs σ Fs Hs ρ σ F H) (h : OutA G W C ρs σ Fs Hs r Q) : OutA G W C ρ σ F H r Q := by
  cases r with
  | ok a ρ' => exact fun F' H' v s x => h F' H' v (st.trans s) (x.early st.there)
  | exc c ts ρ' => exact OutX.later st h
  | bad => exact h
theorem OutB.later {ρs : Rho} {Fs : FS} {Hs : L2.Hp} {r : R Bool} {Q : Bool → L2.Hp → Prop} (st : Step C ρs σ Fs Hs ρ σ F H) (h : OutB G W C ρs σ Fs Hs r Q) : OutB G W C ρ σ F H r Q := by
  cases r with
  | ok a ρ' => exact fun F' H' s => h F' H' (st.trans s)
  | exc c ts ρ' => exact OutX.later st h
  | bad => exact h
/-! ### binds -/
theorem outOs_bind {r : R (List Opd)} {f : List Opd → Rho → R A} {Q : L2.VK} {K : List L2.V → L2.Hp → Prop} (h : OutA G W C ρ σ F H (r.bind f) Q)
    (k : ∀ os ρ', OutA G W C ρ σ F H (f os ρ') Q → ∀ F' H' vs, Step C ρ σ F H ρ' σ F' H' → OpReps C.K σ H ρ' F' H' os vs → K vs H') : OutOs G W C ρ σ F H r K := by
  cases r with
  | ok os ρ' => exact k os ρ' h
  | exc c ts ρ' => exact h
  | bad => exact h
theorem outO_bind {r : R Opd} {f : Opd → Rho → R A} {Q : L2.VK} {K : L2.VK} (h : OutA G W C ρ σ F H (r.bind f) Q)
    (k : ∀ o ρ', OutA G W C ρ σ F H (f o ρ') Q → ∀ F' H' v, Step C ρ σ F H ρ' σ F' H' → OpRep C.K σ H ρ' F' H' o v → K v H') : OutO G W C ρ σ F H r K := by
  cases r with
  | ok os ρ' => exact k os ρ' h
  | exc c ts ρ' => exact h
  | bad => exact h
theorem outOB_bind {r : R Opd} {f : Opd → Rho → R Bool} {Q : Bool → L2.Hp → Prop} {K : L2.VK} (h : OutB G W C ρ σ F H (r.bind f) Q)
    (k : ∀ o ρ', OutB G W C ρ σ F H (f o ρ') Q → ∀ F' H' v, Step C ρ σ F H ρ' σ F' H' → OpRep C.K σ H ρ' F' H' o v → K v H') : OutO G W C ρ σ F H r K := by
  cases r with
  | ok os ρ' => exact k os ρ' h
  | exc c ts ρ' => exact h
  | bad => exact h
theorem outB_bind {r : R Bool} {f : Bool → Rho → R A} {Q : L2.VK} {K : Bool → L2.Hp → Prop} (h : OutA G W C ρ σ F H (r.bind f) Q)
    (k : ∀ o ρ', OutA G W C ρ σ F H (f o ρ') Q → ∀ F' H', Step C ρ σ F H ρ' σ F' H' → K o H') : OutB G W C ρ σ F H r K := by
  cases r with
  | ok os ρ' => exact k os ρ' h
  | exc c ts ρ' => exact h
  | bad => exact h
/-- evP's bind, by the operand -/
theorem outP_bind {r : R Opd} {f : T → Rho → R A} {Q : L2.VK} {K : L2.VK} (h : OutA G W C ρ σ F H ((r.bind fun o ρ => match res ρ o with
    | some t => .ok t ρ
    | none => .bad).bind f) Q) (k : ∀ t ρ', OutA G W C ρ σ F H (f t ρ') Q → ∀ F' H' v, Step C ρ σ F H ρ' σ F' H' → PRep C.K F' H' t v → K v H') : OutO G W C ρ σ F H r K := by
  cases r with
  | ok o ρ' =>
    intro F' H' v st op
    have h1 : OutA G W C ρ σ F H (R.bind (match res ρ' o with
      | some t => (.ok t ρ' : R T)
      | none => .bad) f) Q := h
    cases q : res ρ' o with
    | none => rw [q] at h1; exact h1.elim
    | some t =>
      rw [q] at h1
      exact k t ρ' h1 F' H' v st (res_prep st.sim op q)
  | exc c ts ρ' => exact h
  | bad => exact h

/-! ### operands in a row -/
theorem so_of_se {r : Ex → Rho → R A} {c : Ex} (h : SE X G W C e (r c)) (hc : ∀ i, c ≠ .loc i) : SO X G W C e (evO r c) := by
  intro ρ F σ H Q S o
  refine h ρ F σ H Q S ?_
  have e1 : evO r c ρ = (r c ρ).bind fun a ρ => .ok (ofA a) ρ := by
    cases c <;> first | rfl | exact absurd rfl (hc _)
  rw [e1] at o
  cases q : r c ρ with
  | ok a ρ' =>
    rw [q] at o
    exact fun F' H' v st ar => o F' H' v st ar.op
  | exc c ts ρ' => rw [q] at o; exact o
  | bad => rw [q] at o; exact o
theorem sos_nil {ih : Ex → Rho → R A} : SOs X G W C [] (evOs ih []) := fun ρ F σ H Q S o => o F H [] (.rfl' S) rfl
theorem sos_cons {ih : Ex → Rho → R A} {c : Ex} {cs : List Ex} (h : SO X G W C e (evO ih c)) (hs : SOs X G W C es (evOs ih cs)) : SOs X G W C (e :: es) (evOs ih (c :: cs)) := by
  intro ρ F σ H Q S o
  refine h ρ F σ H _ S ?_
  have o1 : OutOs G W C ρ σ F H ((evO ih c ρ).bind fun o ρ => (evOs ih cs ρ).bind fun os ρ => .ok (o :: os) ρ) Q := o
  cases q : evO ih c ρ with
  | exc c ts ρ' => rw [q] at o1; exact o1
  | bad => rw [q] at o1; exact o1
  | ok oo ρ1 =>
    rw [q] at o1
    intro F1 H1 v st1 op1
    refine hs ρ1 F1 σ H1 _ st1.sim ?_
    have o2 : OutOs G W C ρ σ F H ((evOs ih cs ρ1).bind fun os ρ => .ok (oo :: os) ρ) Q := o1
    cases q2 : evOs ih cs ρ1 with
    | exc c ts ρ' => rw [q2] at o2; exact OutX.later st1 o2
    | bad => rw [q2] at o2; exact o2
    | ok os ρ2 =>
      rw [q2] at o2
      intro F2 H2 vs st2 ops
      exact o2 F2 H2 (v :: vs) (st1.trans st2) ⟨v, vs, rfl, op1.step st1.sim st2, ops.map fun o v q => q.early st1.there⟩
end
end PV

set_option Elab.async false
set_option linter.all false
set_option maxRecDepth 100000
set_option maxHeartbeats 1000000
/-! PV, soundness 4: displays, operators, comparisons. -/
namespace PV
open PySem PySem.Spec PyProof.Rows
def isStar : Expr → Bool
  | .Starred _ _ => true
  | _ => false
theorem star_cons {e : Expr} {es : List Expr} {env : PySem.Env} (h : isStar e = false) : starEach (e :: es) env = (false, eval e env) :: starEach es env := by
  cases e <;> first
    | rfl
    | cases h
theorem star_plain {pos : Pos} {env : PySem.Env} : ∀ {es : List Expr}, es.all (fun e => !isStar e) = true → (backTo pos (starEach es env)).any (·.1) = false
  | [], _ => rfl
  | e :: es, h => by
    have h1 : (!isStar e && es.all fun e => !isStar e) = true := h
    rw [Bool.and_eq_true, Bool.not_eq_true'] at h1
    rw [star_cons h1.1]
    exact star_plain (pos := pos) h1.2
section
variable {X : L2.Cx} {G : Ga} {W : L2.WX} {C : FC} {ρ ρ' : Rho} {σ : LSt} {F F' : FS} {H H' : L2.Hp} {e a b : Expr} {es : List Expr} {pos : Pos} {ih : Ex → Rho → R A}
theorem pa_wes : ∀ {es : List Expr}, es.all (fun e => !isStar e) = true → L2.PA X es (WEs X es)
  | [], _ => L2.pa_nil
  | e :: es, h => by
    have h1 : (!isStar e && es.all fun e => !isStar e) = true := h
    rw [Bool.and_eq_true, Bool.not_eq_true'] at h1
    exact L2.pa_cons pe_we (pa_wes h1.2) (star_cons h1.1)
theorem big_eq : (big : Nat) = sizeLine := by rw [sizeLine_eq]; rfl
/-- a new list -/
theorem new_f (S : Sim C F ρ σ H) {p : Addr} {xs : List T} {vs : List L2.V} (hp : H p = none) (h : Reps C.K F H xs vs) :
    Step C ρ σ F H ρ σ F (L2.upd H p (.lst vs)) ∧ ARep C.K σ H ρ F (L2.upd H p (.lst vs)) (.f xs) (.ref p) := by
  have st : Step C ρ σ F H ρ σ F (L2.upd H p (.lst vs)) := (Step.rfl' S).alloc hp (fun _ h => h) fun _ h => .inl h
  refine ⟨st, p, vs, rfl, hp, L2.upd_same, Reps.mono (st.ext S) _ _ h, fun q => ?_, fun q => ?_⟩
  · exact S.frz p q hp
  · obtain ⟨i, k, ys, h1, h2⟩ := q
    obtain ⟨q, us, h3, h4, _⟩ := S.own h1
    rw [h2] at h3
    cases h3
    rw [hp] at h4
    cases h4
/-- a new tuple -/
theorem new_t (S : Sim C F ρ σ H) {p : Addr} {xs : List T} {vs : List L2.V} (hp : H p = none) (h : Reps C.K F H xs vs) :
    Step C ρ σ F H ρ σ (fun q => F q ∨ q = p) (L2.upd H p (.tup vs)) ∧ ARep C.K σ H ρ (fun q => F q ∨ q = p) (L2.upd H p (.tup vs)) (.t (.tup xs)) (.ref p) := by
  have st : Step C ρ σ F H ρ σ (fun q => F q ∨ q = p) (L2.upd H p (.tup vs)) := (Step.rfl' S).alloc hp (fun _ h => .inl h) fun _ h => h
  exact ⟨st, p, vs, rfl, .inr rfl, L2.upd_same, Reps.mono (st.ext S) _ _ h⟩
/-- what a result is wanted for, from here on -/
def Wants (C : FC) (σ : LSt) (ρ : Rho) (F : FS) (H : L2.Hp) (r : A) (Q : L2.VK) : Prop := ∀ F' H' v, Step C ρ σ F H ρ σ F' H' → ARep C.K σ H ρ F' H' r v → Q v H'
theorem Wants.of {ρs : Rho} {Fs : FS} {Hs : L2.Hp} {r : A} {Q : L2.VK} (h : OutA G W C ρs σ Fs Hs (.ok r ρ) Q) (st : Step C ρs σ Fs Hs ρ σ F H) : Wants C σ ρ F H r Q := fun F' H' v s x => h F' H' v (st.trans s) (x.early st.there)
theorem Wants.here {x : T} {Q : L2.VK} {v : L2.V} (w : Wants C σ ρ F H (.t x) Q) (S : Sim C F ρ σ H) (h : RepT C.K F H x v) : Q v H := w F H v (.rfl' S) h
theorem Wants.lst {xs : List T} {vs : List L2.V} {Q : L2.VK} (w : Wants C σ ρ F H (.f xs) Q) (S : Sim C F ρ σ H) (h : Reps C.K F H xs vs) (p : Addr) (hp : H p = none) : Q (.ref p) (L2.upd H p (.lst vs)) :=
  w _ _ _ (new_f S hp h).1 (new_f S hp h).2
theorem Wants.tup {xs : List T} {vs : List L2.V} {Q : L2.VK} (w : Wants C σ ρ F H (.t (.tup xs)) Q) (S : Sim C F ρ σ H) (h : Reps C.K F H xs vs) (p : Addr) (hp : H p = none) : Q (.ref p) (L2.upd H p (.tup vs)) :=
  w _ _ _ (new_t S hp h).1 (new_t S hp h).2

/-! ### constants, names -/
theorem se_of_pe {v : L2.V} {x : T} (p : L2.PE X e (L2.tC v)) (h : ∀ F H, RepT C.K F H x v) : SE X G W C e (fun ρ => .ok (.t x) ρ) := fun ρ F σ H Q S o => we_of p (o F H v (.rfl' S) (h F H))
def NameOk (X : L2.Cx) (i : Nat) (x : Str) : Prop := X.N[i]? = some x ∧ L2.Vis X.env.scope x ∧ (x == ("__debug__" : Str)) = false ∧ (x == ("__classdict__" : Str)) = false
theorem so_loc {i : Nat} {x : Str} (h : NameOk X i x) : SO X G W C (.Name x pos) (evO ih (.loc i)) := by
  intro ρ F σ H Q S o
  refine we_of (L2.pe_var h.1 h.2.1 h.2.2.1 h.2.2.2) ?_
  have o1 : OutO G W C ρ σ F H (match (ρ[i]?).bind slotT with
    | some _ => .ok (.d i) ρ
    | none => .bad) Q := o
  cases q : (ρ[i]?).bind slotT with
  | none => rw [q] at o1; exact o1.elim
  | some t =>
    rw [q] at o1
    obtain ⟨s, e1, e2⟩ := Option.bind_eq_some_iff.mp q
    have r := S.sl i s e1
    have hv : ∃ v, σ.getD i none = some v := by
      cases s with
      | u => cases e2
      | v t => obtain ⟨v, h1, _⟩ := r; exact ⟨v, h1⟩
      | o k xs => obtain ⟨p, _, h1, _⟩ := r; exact ⟨_, h1⟩
      | b xs => obtain ⟨p, _, h1, _⟩ := r; exact ⟨_, h1⟩
    obtain ⟨v, hv⟩ := hv
    exact ⟨v, of_getD hv, o1 F H v (.rfl' S) (of_getD hv)⟩
theorem se_loc {i : Nat} {x : Str} (h : NameOk X i x) : SE X G W C (.Name x pos) (fun ρ => match frz ρ (.d i) with
    | some (t, ρ) => .ok (.t t) ρ
    | none => .bad) := by
  intro ρ F σ H Q S o
  refine we_of (L2.pe_var h.1 h.2.1 h.2.2.1 h.2.2.2) ?_
  dsimp only at o
  cases q : frz ρ (.d i) with
  | none => rw [q] at o; exact o.elim
  | some p =>
    obtain ⟨t, ρ1⟩ := p
    rw [q] at o
    have hv : ∃ v, σ[i]? = some (some v) := by
      dsimp only [frz] at q
      cases hs : ρ[i]? with
      | none => rw [hs] at q; cases q
      | some s =>
        have r := S.sl i s hs
        rw [hs] at q
        cases s with
        | u => cases q
        | b xs => cases q
        | v x => obtain ⟨v, h1, _⟩ := r; exact ⟨v, of_getD h1⟩
        | o k xs => obtain ⟨p, _, h1, _⟩ := r; exact ⟨_, of_getD h1⟩
    obtain ⟨v, hv⟩ := hv
    obtain ⟨F1, st, _, rep, _⟩ := frz_ok S (.rfl' S) (o := .d i) hv q
    exact ⟨v, hv, o F1 H v st rep⟩

/-! ### displays -/
theorem se_lst {cs : List Ex} (h : SOs X G W C es (evOs ih cs)) (hp : es.all (fun e => !isStar e) = true) : SE X G W C (.List es pos) (fun ρ => (evOs ih cs ρ).bind fun os ρ => match frzs ρ os with
    | some (ts, ρ) => if ts.length ≤ big then .ok (.f ts) ρ else .bad
    | none => .bad) := by
  intro ρ F σ H Q S o
  refine we_of (L2.pe_lst (pa_wes hp)) ?_
  refine h ρ F σ H _ S (outOs_bind o fun os ρ1 o1 F1 H1 vs st ops => ?_)
  cases q : frzs ρ1 os with
  | none => rw [q] at o1; exact o1.elim
  | some p =>
    obtain ⟨ts, ρ2⟩ := p
    rw [q] at o1
    dsimp only at o1
    obtain ⟨F2, st2, x, rs⟩ := frzs_ok S st ops q
    by_cases hl : ts.length ≤ big
    · rw [if_pos hl] at o1
      refine ⟨by rw [← rs.length, ← big_eq]; exact hl, fun p hp => ?_⟩
      exact Wants.lst (Wants.of o1 st2) st2.sim rs p hp
    · rw [if_neg hl] at o1; exact o1.elim
theorem se_tup {cs : List Ex} {k : Nat} (h : SOs X G W C es (evOs ih cs)) (hp : es.all (fun e => !isStar e) = true) : SE X G W C (.Tuple es k pos) (fun ρ => (evOs ih cs ρ).bind fun os ρ => match frzs ρ os with
    | some (ts, ρ) => if ts.length ≤ big then .ok (.t (.tup ts)) ρ else .bad
    | none => .bad) := by
  intro ρ F σ H Q S o
  refine we_of (L2.pe_tup (pa_wes hp)) ?_
  refine h ρ F σ H _ S (outOs_bind o fun os ρ1 o1 F1 H1 vs st ops => ?_)
  cases q : frzs ρ1 os with
  | none => rw [q] at o1; exact o1.elim
  | some p =>
    obtain ⟨ts, ρ2⟩ := p
    rw [q] at o1
    dsimp only at o1
    obtain ⟨F2, st2, x, rs⟩ := frzs_ok S st ops q
    by_cases hl : ts.length ≤ big
    · rw [if_pos hl] at o1
      refine ⟨by rw [← rs.length, ← big_eq]; exact hl, fun p hp => ?_⟩
      exact Wants.tup (Wants.of o1 st2) st2.sim rs p hp
    · rw [if_neg hl] at o1; exact o1.elim

/-! ### two operands, read at once -/
theorem two {cs : List Ex} {f : List T → Rho → R A} {K : L2.V → L2.V → L2.VK → L2.Hp → Prop} {Q : L2.VK} {r : T → T → Rho → R A} (h : SOs X G W C [a, b] (evOs ih cs)) (S : Sim C F ρ σ H)
    (o : OutA G W C ρ σ F H ((evOs ih cs ρ).bind fun os ρ => match ress ρ os with
      | some [x, y] => r x y ρ
      | _ => .bad) Q)
    (k : ∀ x y ρ' F' H' v u, Step C ρ σ F H ρ' σ F' H' → PRep C.K F' H' x v → PRep C.K F' H' y u → OutA G W C ρ σ F H (r x y ρ') Q → K v u Q H') :
    WE X a σ H fun v H1 => WE X b σ H1 fun u H2 => K v u Q H2 := by
  have z : WEs X [a, b] σ H (fun vs H2 => match vs with
    | [v, u] => K v u Q H2
    | _ => False) := by
    refine h ρ F σ H _ S (outOs_bind o fun os ρ1 o1 F1 H1 vs st ops => ?_)
    cases q : ress ρ1 os with
    | none => rw [q] at o1; exact o1.elim
    | some ts =>
      rw [q] at o1
      have pr := ress_ok st.sim ops q
      match ts, pr, o1 with
      | [], _, o1 => exact o1.elim
      | [_], _, o1 => exact o1.elim
      | x :: y :: z :: r, _, o1 => exact o1.elim
      | [x, y], pr, o1 =>
        obtain ⟨v, r1, e1, h1, u, r2, e2, h2, e3⟩ := pr
        subst e1 e2 e3
        exact k x y ρ1 F1 H1 v u st h1 h2 o1
  exact z
def opOf : Bin → Operator
  | .add => .Add | .sub => .Sub | .mul => .Mult | .fdiv => .FloorDiv | .mod => .Mod | .pow => .Pow | .shl => .LShift
def binR (K : PySem.W.Frag) : Bin → L2.R2
  | .add => fun x y H Q => L2.rI0 (fun i j => .int (i + j)) x y H Q ∨ (∃ i j, x = .str i ∧ y = .str j ∧ i.length + j.length ≤ sizeLine ∧ Q (.str (i ++ j)) H) ∨ L2.rCat x y H Q ∨ L2.rCatA K x y H Q
  | .sub => L2.rI0 fun i j => .int (i - j)
  | .mul => fun x y H Q => L2.rI L2.CMulW (fun i j => .int (i * j)) x y H Q ∨ L2.rRep x y H Q
  | .fdiv => L2.rI L2.CDivW fun i j => .int (i / j)
  | .mod => L2.rI (fun _ j => 0 < j) fun i j => .int (i % j)
  | .pow => L2.rI L2.CPow fun i j => .int (i ^ j.toNat)
  | .shl => L2.rI L2.CPow fun i j => .int (i * 2 ^ j.toNat)
theorem bin_rule (o : Bin) : L2.OpR X (binaryOp (opOf o)) (binR X.K o) := by
  cases o with
  | add => exact L2.op_add.or (L2.op_add_str.or (L2.op_cat.or L2.op_catA))
  | sub => exact L2.op_sub
  | mul => exact L2.op_mulW.or L2.op_rep
  | fdiv => exact L2.op_fdivW
  | mod => exact L2.op_mod
  | pow => exact L2.op_pow
  | shl => exact L2.op_shl
theorem bin_ok (S : Sim C F ρ σ H) {o : Bin} {x y : T} {v u : L2.V} {r : A} {Q : L2.VK} (hx : PRep C.K F H x v) (hy : PRep C.K F H y u) (e : binT o x y = some r) (w : Wants C σ ρ F H r Q) : binR C.K o v u H Q := by
  cases o with
  | add =>
    cases x <;> cases y <;> try (cases e; done)
    case int.int i j =>
      cases hx; cases hy; cases e
      exact .inl ⟨i, j, rfl, rfl, w.here S rfl⟩
    case str.str i j =>
      cases hx; cases hy
      simp only [binT] at e
      split at e
      · rename_i hl
        cases e
        exact .inr (.inl ⟨i, j, rfl, rfl, by rw [← big_eq]; exact hl, w.here S rfl⟩)
      · cases e
    case lst.lst i j =>
      obtain ⟨p, vs, rfl, h1, h2⟩ := hx
      obtain ⟨q, us, rfl, h3, h4⟩ := hy
      simp only [binT] at e
      split at e
      · rename_i hl
        cases e
        refine .inr (.inr (.inl ⟨p, q, vs, us, rfl, rfl, h1, h3, by rw [← h2.length, ← h4.length, ← big_eq]; exact hl, fun p' hp => ?_⟩))
        exact w.lst S (h2.append h4) p' hp
      · cases e
    case tup.tup i j =>
      obtain ⟨p, vs, rfl, f1, h1, h2⟩ := hx
      obtain ⟨q, us, rfl, f2, h3, h4⟩ := hy
      simp only [binT] at e
      split at e
      · rename_i hl
        cases e
        have l1 := h2.length
        have l2 := h4.length
        refine .inr (.inr (.inr ⟨p, q, vs, us, rfl, rfl, L2.SqT.of h1, L2.SqT.of h3, by rw [← l1, ← l2, ← big_eq]; exact hl, fun z => ?_, fun z1 z2 => ?_, fun _ _ p' hp => ?_⟩))
        · subst z
          have : i = [] := List.length_eq_zero_iff.mp l1
          subst this
          exact w.here S ⟨q, us, rfl, f2, h3, h4⟩
        · subst z2
          have : j = [] := List.length_eq_zero_iff.mp l2
          subst this
          exact w.here S (by rw [List.append_nil]; exact ⟨p, vs, rfl, f1, h1, h2⟩)
        · exact w.tup S (h2.append h4) p' hp
      · cases e
  | sub =>
    cases x <;> cases y <;> try (cases e; done)
    case int.int i j => cases hx; cases hy; cases e; exact ⟨i, j, rfl, rfl, w.here S rfl⟩
  | mul =>
    cases x <;> cases y <;> try (cases e; done)
    case int.int i j =>
      cases hx; cases hy
      simp only [binT] at e
      split at e
      · rename_i hl
        cases e
        exact .inl ⟨i, j, rfl, rfl, of_decide_eq_true (p := i.natAbs.log2 + j.natAbs.log2 < 1000000) hl, w.here S rfl⟩
      · cases e
    case lst.int i j =>
      obtain ⟨p, vs, rfl, h1, h2⟩ := hx
      cases hy
      simp only [binT] at e
      split at e
      · rename_i hl
        cases e
        refine .inr ⟨p, j, vs, rfl, rfl, h1, hl.2.1, hl.2.2, by rw [← h2.length, ← big_eq]; exact hl.1, fun p' hp => ?_⟩
        exact w.lst S (h2.rep _) p' hp
      · cases e
  | fdiv =>
    cases x <;> cases y <;> try (cases e; done)
    case int.int i j =>
      cases hx; cases hy
      simp only [binT] at e
      split at e
      · rename_i hl
        cases e
        exact ⟨i, j, rfl, rfl, hl, w.here S rfl⟩
      · cases e
  | mod =>
    cases x <;> cases y <;> try (cases e; done)
    case int.int i j =>
      cases hx; cases hy
      simp only [binT] at e
      split at e
      · rename_i hl
        cases e
        exact ⟨i, j, rfl, rfl, hl, w.here S rfl⟩
      · cases e
  | pow =>
    cases x <;> cases y <;> try (cases e; done)
    case int.int i j =>
      cases hx; cases hy
      simp only [binT] at e
      split at e
      · rename_i hl
        cases e
        exact ⟨i, j, rfl, rfl, hl, w.here S rfl⟩
      · cases e
  | shl =>
    cases x <;> cases y <;> try (cases e; done)
    case int.int i j =>
      cases hx; cases hy
      simp only [binT] at e
      split at e
      · rename_i hl
        cases e
        exact ⟨i, j, rfl, rfl, hl, w.here S rfl⟩
      · cases e
theorem se_bin {cs : List Ex} {o : Bin} (hK : X.K = C.K) (h : SOs X G W C [a, b] (evOs ih cs)) : SE X G W C (.BinOp a (opOf o) b pos) (fun ρ => (evOs ih cs ρ).bind fun os ρ => match ress ρ os with
    | some [x, y] => ofA? (binT o x y) ρ
    | _ => .bad) := by
  intro ρ F σ H Q S out
  refine we_of (L2.pe_op (bin_rule o) pe_we pe_we) ?_
  refine two (f := fun _ _ => .bad) (K := fun v u Q H => binR X.K o v u H Q) h S out fun x y ρ' F' H' v u st hx hy o1 => ?_
  cases q : binT o x y with
  | none => rw [q] at o1; exact o1.elim
  | some r =>
    rw [q] at o1
    rw [hK]
    exact bin_ok st.sim hx hy q (Wants.of o1 st)
end
end PV

set_option Elab.async false
set_option linter.all false
set_option maxRecDepth 100000
set_option maxHeartbeats 1000000
/-! PV, soundness 5: comparisons, tests. -/
namespace PV
open PySem PySem.Spec PyProof.Rows
/-! ### data -/
theorem okT_ok : ∀ (n : Nat) (x : T), okT n x = true → (toD x).canLay0 = true ∧ (toD x).depth ≤ n := by
  intro n
  induction n with
  | zero =>
    intro x h
    cases x <;> first
      | exact ⟨rfl, Nat.zero_le _⟩
      | exact ⟨h, Nat.zero_le _⟩
      | (simp [okT] at h)
  | succ n ih =>
    have all : ∀ xs : List T, xs.all (okT n) = true → PyData.canLayAll0 (toDs xs) = true ∧ PyData.depthAll (toDs xs) ≤ n := by
      intro xs
      induction xs with
      | nil => intro _; exact ⟨rfl, Nat.zero_le _⟩
      | cons x xs ih2 =>
        intro h
        rw [List.all_cons, Bool.and_eq_true] at h
        obtain ⟨a1, a2⟩ := ih x h.1
        obtain ⟨b1, b2⟩ := ih2 h.2
        refine ⟨?_, ?_⟩
        · show (PyData.canLay0 (toD x) && PyData.canLayAll0 (toDs xs)) = true
          rw [a1, b1] <;> rfl
        · show max (toD x).depth (PyData.depthAll (toDs xs)) ≤ n
          omega
    intro x h
    cases x with
    | lst xs =>
      obtain ⟨a, b⟩ := all xs h
      exact ⟨by simpa [toD, PyData.canLay0] using a, by show PyData.depthAll (toDs xs) + 1 ≤ n + 1; omega⟩
    | tup xs =>
      obtain ⟨a, b⟩ := all xs h
      exact ⟨by simpa [toD, PyData.canLay0] using a, by show PyData.depthAll (toDs xs) + 1 ≤ n + 1; omega⟩
    | ins c fs => simp [okT] at h
    | scr ns => simp [okT] at h
    | dit _ _ => simp [okT] at h
    | dik _ _ => simp [okT] at h
    | str s => exact ⟨h, Nat.zero_le _⟩
    | _ => exact ⟨rfl, Nat.zero_le _⟩
theorem shaped_of {x : T} (h : okT 64 x = true) : SeqAt.shaped (toD x) = true := by
  obtain ⟨a, b⟩ := okT_ok 64 x h
  unfold SeqAt.shaped
  rw [a, decide_eq_true b] <;> rfl
theorem okT_mono : ∀ {n : Nat} {x : T}, okT n x = true → okT (n + 1) x = true := by
  intro n
  induction n with
  | zero => intro x h; cases x <;> first | rfl | exact h | (simp [okT] at h)
  | succ n ih =>
    intro x h
    cases x with
    | lst xs => exact List.all_eq_true.mpr fun y hy => ih (List.all_eq_true.mp (show xs.all (okT n) = true from h) y hy)
    | tup xs => exact List.all_eq_true.mpr fun y hy => ih (List.all_eq_true.mp (show xs.all (okT n) = true from h) y hy)
    | ins c fs => simp [okT] at h
    | scr ns => simp [okT] at h
    | dit _ _ => simp [okT] at h
    | dik _ _ => simp [okT] at h
    | str s => exact h
    | _ => rfl
theorem eqT_toD : ∀ (n : Nat) (x y : T), okT n x = true → okT n y = true → PyData.eqv (toD x) (toD y) = eqT x y := by
  intro n
  induction n with
  | zero =>
    intro x y hx hy
    cases x <;> first
      | (simp [okT] at hx; done)
      | (cases y <;> first
          | (simp [okT] at hy; done)
          | rfl)
  | succ n ih =>
    have all : ∀ xs ys : List T, xs.all (okT n) = true → ys.all (okT n) = true → PyData.eqvAll (toDs xs) (toDs ys) = eqTs xs ys := by
      intro xs
      induction xs with
      | nil => intro ys _ _; cases ys <;> rfl
      | cons x xs ih2 =>
        intro ys hx hy
        cases ys with
        | nil => rfl
        | cons y ys =>
          rw [List.all_cons, Bool.and_eq_true] at hx hy
          show (PyData.eqv (toD x) (toD y) && PyData.eqvAll (toDs xs) (toDs ys)) = (eqT x y && eqTs xs ys)
          rw [ih x y hx.1 hy.1, ih2 ys hx.2 hy.2]
    intro x y hx hy
    cases x with
    | lst xs =>
      cases y with
      | lst ys =>
        show PyData.eqvAll (toDs xs) (toDs ys) = eqTs xs ys
        exact all xs ys hx hy
      | ins _ _ => simp [okT] at hy
      | scr _ => simp [okT] at hy
      | dit _ _ => simp [okT] at hy
      | dik _ _ => simp [okT] at hy
      | _ => rfl
    | tup xs =>
      cases y with
      | tup ys =>
        show PyData.eqvAll (toDs xs) (toDs ys) = eqTs xs ys
        exact all xs ys hx hy
      | ins _ _ => simp [okT] at hy
      | scr _ => simp [okT] at hy
      | dit _ _ => simp [okT] at hy
      | dik _ _ => simp [okT] at hy
      | _ => rfl
    | ins _ _ => simp [okT] at hx
    | scr _ => simp [okT] at hx
    | dit _ _ => simp [okT] at hx
    | dik _ _ => simp [okT] at hx
    | _ =>
      cases y <;> first
        | (simp [okT] at hy; done)
        | rfl
section
variable {K : PySem.W.Frag} {F : FS} {H : L2.Hp}
mutual
theorem RepT.dp : ∀ (n : Nat) (x : T) (v : L2.V), okT n x = true → RepT K F H x v → L2.Dp K H v (toD x)
  | _, .non, v, _, h => by cases (show v = _ from h); exact .non
  | _, .bl b, v, _, h => by cases (show v = _ from h); exact .bl b
  | _, .int i, v, _, h => by cases (show v = _ from h); exact .int i
  | _, .str s, v, _, h => by cases (show v = _ from h); exact .str s
  | 0, .lst xs, v, e, h => by simp [okT] at e
  | 0, .tup xs, v, e, h => by simp [okT] at e
  | n + 1, .lst xs, v, e, h => by
    obtain ⟨p, vs, h1, _, h3, h4⟩ := h
    subst h1
    exact .lst (L2.SqL.of h3) (Reps.dps n xs vs e h4)
  | n + 1, .tup xs, v, e, h => by
    obtain ⟨p, vs, h1, _, h3, h4⟩ := h
    subst h1
    exact .tup (L2.SqT.of h3) (Reps.dps n xs vs e h4)
  | n, .ins _ _, v, e, h => h.elim
  | 0, .scr _, v, e, h => by simp [okT] at e
  | n + 1, .scr _, v, e, h => by simp [okT] at e
  | 0, .dit _ _, v, e, h => by simp [okT] at e
  | n + 1, .dit _ _, v, e, h => by simp [okT] at e
  | 0, .dik _ _, v, e, h => by simp [okT] at e
  | n + 1, .dik _ _, v, e, h => by simp [okT] at e
theorem Reps.dps : ∀ (n : Nat) (xs : List T) (vs : List L2.V), xs.all (okT n) = true → Reps K F H xs vs → L2.DpAll K H vs (toDs xs)
  | _, [], vs, _, h => by cases (show vs = [] from h); exact .nil
  | n, x :: xs, vs, e, h => by
    obtain ⟨v, r, h1, h2, h3⟩ := h
    subst h1
    rw [List.all_cons, Bool.and_eq_true] at e
    exact .cons (RepT.dp n x v e.1 h2) (Reps.dps n xs r e.2 h3)
end
theorem PRep.dp {n : Nat} {x : T} {v : L2.V} (e : okT (n + 1) x = true) (h : PRep K F H x v) : L2.Dp K H v (toD x) := by
  cases x with
  | lst xs =>
    obtain ⟨p, vs, h1, h2, h3⟩ := h
    subst h1
    exact .lst (L2.SqL.of h2) (Reps.dps n xs vs e h3)
  | _ => exact RepT.dp (F := F) _ _ _ e h
theorem any_toD {n : Nat} {x : T} (hx : okT n x = true) : ∀ {ys : List T}, ys.all (okT n) = true → ((toDs ys).any fun z => PyData.eqv z (toD x)) = anyEq x ys
  | [], _ => rfl
  | y :: ys, h => by
    rw [List.all_cons, Bool.and_eq_true] at h
    show (PyData.eqv (toD y) (toD x) || (toDs ys).any fun z => PyData.eqv z (toD x)) = (eqT y x || anyEq x ys)
    rw [eqT_toD n y x h.1 hx, any_toD hx h.2]
theorem flat_v {x : T} {v : L2.V} (e : flatT x = true) (h : RepT K F H x v) : L2.flatV v = true := by
  cases x with
  | non => cases (show v = _ from h); rfl
  | bl b => cases (show v = _ from h); rfl
  | int i => cases (show v = _ from h); rfl
  | str s => cases (show v = _ from h); rfl
  | _ => cases e
theorem flat_eq {x y : T} {v u : L2.V} (ex : flatT x = true) (ey : flatT y = true) (hx : RepT K F H x v) (hy : RepT K F H y u) : L2.eqV v u = eqT x y := by
  cases x with
  | non => cases (show v = _ from hx); cases y <;> first | (cases ey; done) | (cases (show u = _ from hy); rfl)
  | bl b => cases (show v = _ from hx); cases y <;> first | (cases ey; done) | (cases (show u = _ from hy); rfl)
  | int i => cases (show v = _ from hx); cases y <;> first | (cases ey; done) | (cases (show u = _ from hy); rfl)
  | str s => cases (show v = _ from hx); cases y <;> first | (cases ey; done) | (cases (show u = _ from hy); rfl)
  | _ => cases ex
theorem flat_all : ∀ {xs : List T} {vs : List L2.V}, xs.all flatT = true → Reps K F H xs vs → vs.all L2.flatV = true
  | [], _, _, h => by cases (show _ = [] from h); rfl
  | x :: xs, _, e, h => by
    obtain ⟨v, r, h1, h2, h3⟩ := h
    subst h1
    rw [List.all_cons, Bool.and_eq_true] at e
    rw [List.all_cons, flat_v e.1 h2, flat_all e.2 h3] <;> rfl
theorem flat_any {x : T} {u : L2.V} (ex : flatT x = true) (hx : RepT K F H x u) : ∀ {xs : List T} {vs : List L2.V}, xs.all flatT = true → Reps K F H xs vs → L2.inV u vs = anyEq x xs
  | [], _, _, h => by cases (show _ = [] from h); rfl
  | y :: xs, _, e, h => by
    obtain ⟨v, r, h1, h2, h3⟩ := h
    subst h1
    rw [List.all_cons, Bool.and_eq_true] at e
    show (L2.eqV v u || L2.inV u r) = (eqT y x || anyEq x xs)
    rw [flat_eq e.1 ex h2 hx, flat_any ex hx e.2 h3]
end
section
variable {X : L2.Cx} {G : Ga} {W : L2.WX} {C : FC} {ρ ρ' : Rho} {σ : LSt} {F F' : FS} {H H' : L2.Hp} {e a b : Expr} {es : List Expr} {pos : Pos} {ih : Ex → Rho → R A}
def cmpOf : Cmp → CmpOp
  | .eq => .Eq | .ne => .NotEq | .lt => .Lt | .le => .LtE | .gt => .Gt | .ge => .GtE | .isin => .In | .notin => .NotIn
/-- in a dict -/
def rInM (neg : Bool) : L2.R2 := fun x y H Q => ∃ a o, y = .ref a ∧ L2.DGet H a x o ∧ Q (.bl (if neg = true then !o.isSome else o.isSome)) H
theorem op_inM (hu : X.A.units + 65 < cLine) : L2.OpR X (compareOp .In) (rInM false) := by
  intro pins s σ H x y v u Q I rx ry h
  obtain ⟨a, o, rfl, g, q⟩ := h
  obtain rfl : u = .ref a := ry
  exact L2.d_in (by omega) I g rx fun s' I' => ⟨.bl o.isSome, H, I', rfl, q⟩
theorem op_notInM (hu : X.A.units + 65 < cLine) : L2.OpR X (compareOp .NotIn) (rInM true) := by
  intro pins s σ H x y v u Q I rx ry h
  obtain ⟨a, o, rfl, g, q⟩ := h
  obtain rfl : u = .ref a := ry
  exact L2.d_notIn (by omega) I g rx fun s' I' => ⟨.bl (!o.isSome), H, I', rfl, q⟩
def cmpR (K : PySem.W.Frag) : Cmp → L2.R2
  | .eq => L2.rEqD K
  | .ne => L2.rNeD K
  | .lt => L2.rI0 fun i j => .bl (decide (i < j))
  | .le => L2.rI0 fun i j => .bl (decide (i ≤ j))
  | .gt => L2.rI0 fun i j => .bl (decide (j < i))
  | .ge => L2.rI0 fun i j => .bl (decide (j ≤ i))
  | .isin => fun x y H Q => (L2.rInD K x y H Q ∨ L2.rIn K false x y H Q) ∨ rInM false x y H Q
  | .notin => fun x y H Q => (L2.rNotInD K x y H Q ∨ L2.rIn K true x y H Q) ∨ rInM true x y H Q
theorem cmp_rule (hu : X.A.units + 65 < cLine) (o : Cmp) : L2.OpR X (compareOp (cmpOf o)) (cmpR X.K o) := by
  cases o with
  | eq => exact L2.op_eqD (by omega)
  | ne => exact L2.op_neD (by omega)
  | lt => exact L2.op_lt
  | le => exact L2.op_le
  | gt => exact L2.op_gt
  | ge => exact L2.op_ge
  | isin => exact ((L2.op_inD hu).or L2.op_in_seq).or (op_inM hu)
  | notin => exact ((L2.op_notInD hu).or L2.op_notIn_seq).or (op_notInM hu)
theorem PRep.flat {x : T} {v : L2.V} (e : flatT x = true) (h : PRep C.K F H x v) : RepT C.K F H x v := by
  cases x with
  | lst xs => cases e
  | _ => exact h
theorem kys_ok {K : PySem.W.Frag} : ∀ {xs : List T} {vs : List L2.V} {k : List L2.Key}, Reps K F H xs vs → kysT xs = some k → vs = k.map L2.kV
  | [], _, _, h, e => by cases e; exact h
  | x :: xs, _, k, h, e => by
    obtain ⟨v, r, rfl, h1, h2⟩ := h
    unfold kysT at e
    split at e
    · rename_i y ys e1 e2
      cases e
      rw [kys_ok h2 e2]
      cases x with
      | int i => cases e1; cases (show v = _ from h1); rfl
      | str i => cases e1; cases (show v = _ from h1); rfl
      | _ => cases e1
    · cases e
theorem tk_ok {K : PySem.W.Frag} {x : T} {v : L2.V} {k : List L2.Key} (h : RepT K F H x v) (e : tkT x = some k) : ∃ p, v = .ref p ∧ H p = some (.tup (k.map L2.kV)) := by
  cases x with
  | tup xs =>
    obtain ⟨p, vs, h1, h2, h3, h4⟩ := h
    exact ⟨p, h1, by rw [h3, kys_ok h4 e]⟩
  | _ => cases e
theorem val_zip (k : List L2.Key) : ∀ (ks : List (List L2.Key)) (us : List L2.V), ks.length = us.length → (L2.valV (ks.zip us) k).isSome = ks.any fun j => decide (j = k)
  | [], _, _ => rfl
  | a :: ks, [], h => by cases h
  | a :: ks, u :: us, h => by
    rw [List.zip_cons_cons, ← L2.valV_any, List.any_cons, L2.valV_any, val_zip k ks us (Nat.succ.inj h), List.any_cons]
theorem in_ok {x y : T} {v u : L2.V} {k : Bool} {Q : L2.VK} (neg : Bool) (hx : PRep C.K F H x v) (hy : PRep C.K F H y u) (e : inT x y = some k) (q : Q (.bl (if neg = true then !k else k)) H) :
    ((match neg with | false => L2.rInD C.K v u H Q | true => L2.rNotInD C.K v u H Q) ∨ L2.rIn C.K neg v u H Q) ∨ rInM neg v u H Q := by
  cases y with
  | dit ks vs =>
    obtain ⟨kk, e1, e2⟩ := Option.map_eq_some_iff.mp (show (tkT x).map (fun k => ks.any fun j => decide (j = k)) = some k from e)
    subst e2
    obtain ⟨p, us, rfl, _, h2, h3, h4⟩ := hy
    have hx' : RepT C.K F H x v := by
      cases x with
      | tup xs => exact hx
      | _ => cases e1
    obtain ⟨b, rfl, hb⟩ := tk_ok hx' e1
    refine .inr ⟨p, _, rfl, .t h2 hb, ?_⟩
    rw [val_zip kk ks us (by rw [h3]; exact h4.length)]
    exact q
  | lst ys =>
    simp only [inT] at e
    split at e
    · rename_i hh
      rw [Bool.and_eq_true] at hh
      cases e
      obtain ⟨p, vs, h1, h2, h3⟩ := hy
      subst h1
      have dx : L2.Dp C.K H v (toD x) := PRep.dp (okT_mono hh.1) hx
      have dy : L2.Dp C.K H (.ref p) (.list (toDs ys)) := .lst (L2.SqL.of h2) (Reps.dps 63 ys vs hh.2 h3)
      have sx := shaped_of (okT_mono hh.1)
      have sy : SeqAt.shaped (.list (toDs ys)) = true := shaped_of (x := .lst ys) hh.2
      cases neg with
      | false => exact .inl <| .inl ⟨toD x, toDs ys, dx, dy, sx, sy, by rw [any_toD hh.1 hh.2]; exact q⟩
      | true => exact .inl <| .inl ⟨toD x, toDs ys, dx, dy, sx, sy, by rw [any_toD hh.1 hh.2]; exact q⟩
    · cases e
  | tup ys =>
    simp only [inT] at e
    split at e
    · rename_i hh
      rw [Bool.and_eq_true] at hh
      cases e
      obtain ⟨p, vs, h1, _, h2, h3⟩ := hy
      subst h1
      have rx := PRep.flat hh.1 hx
      refine .inl <| .inr ⟨p, vs, rfl, .inr (L2.SqT.of h2), flat_v hh.1 rx, flat_all hh.2 h3, ?_⟩
      rw [flat_any hh.1 rx hh.2 h3]
      exact q
    · cases e
  | _ => cases e
theorem cmp_ok {o : Cmp} {x y : T} {v u : L2.V} {k : Bool} {Q : L2.VK} (hx : PRep C.K F H x v) (hy : PRep C.K F H y u) (e : cmpT o x y = some k) (q : Q (.bl k) H) : cmpR C.K o v u H Q := by
  cases o with
  | eq =>
    simp only [cmpT] at e
    split at e
    · rename_i hh
      rw [Bool.and_eq_true] at hh
      cases e
      exact ⟨toD x, toD y, PRep.dp hh.1 hx, PRep.dp hh.2 hy, shaped_of hh.1, shaped_of hh.2, by rw [eqT_toD 64 x y hh.1 hh.2]; exact q⟩
    · cases e
  | ne =>
    simp only [cmpT] at e
    split at e
    · rename_i hh
      rw [Bool.and_eq_true] at hh
      cases e
      exact ⟨toD x, toD y, PRep.dp hh.1 hx, PRep.dp hh.2 hy, shaped_of hh.1, shaped_of hh.2, by rw [eqT_toD 64 x y hh.1 hh.2]; exact q⟩
    · cases e
  | isin => exact in_ok false hx hy e q
  | notin =>
    simp only [cmpT] at e
    obtain ⟨j, e1, e2⟩ := Option.map_eq_some_iff.mp e
    subst e2
    exact in_ok true hx hy e1 q
  | lt => cases x <;> cases y <;> first | (cases e; done) | (cases hx; cases hy; cases e; exact ⟨_, _, rfl, rfl, q⟩)
  | le => cases x <;> cases y <;> first | (cases e; done) | (cases hx; cases hy; cases e; exact ⟨_, _, rfl, rfl, q⟩)
  | gt => cases x <;> cases y <;> first | (cases e; done) | (cases hx; cases hy; cases e; exact ⟨_, _, rfl, rfl, q⟩)
  | ge => cases x <;> cases y <;> first | (cases e; done) | (cases hx; cases hy; cases e; exact ⟨_, _, rfl, rfl, q⟩)
theorem se_cmp {cs : List Ex} {o : Cmp} (hK : X.K = C.K) (hu : X.A.units + 65 < cLine) (hm : behindInMarks (cmpOf o) b = false) (h : SOs X G W C [a, b] (evOs ih cs)) : SE X G W C (.Compare a [cmpOf o] [b] pos) (fun ρ => (evOs ih cs ρ).bind fun os ρ => match ress ρ os with
    | some [x, y] => ofB (cmpT o x y) ρ
    | _ => .bad) := by
  intro ρ F σ H Q S out
  refine we_of (L2.pe_cmpR (cmp_rule hu o) pe_we pe_we hm) ?_
  refine two (f := fun _ _ => .bad) (K := fun v u Q H => cmpR X.K o v u H Q) h S out fun x y ρ' F' H' v u st hx hy o1 => ?_
  cases q : cmpT o x y with
  | none => rw [q] at o1; exact o1.elim
  | some r =>
    rw [q] at o1
    rw [hK]
    exact cmp_ok hx hy q ((Wants.of o1 st).here st.sim rfl)
end
end PV

set_option Elab.async false
set_option linter.all false
set_option maxRecDepth 100000
set_option maxHeartbeats 1000000
/-! PV, soundness 6: tests, chains, and, or, not, if-else, is. -/
namespace PV
open PySem PySem.Spec PyProof.Rows
section
variable {X : L2.Cx} {G : Ga} {W : L2.WX} {C : FC} {ρ ρ' : Rho} {σ : LSt} {F F' : FS} {H H' : L2.Hp} {e a b c : Expr} {es rest : List Expr} {pos : Pos} {ih ih2 : Ex → Rho → R A} {ce ca cb cc : Ex}
def notLoc : Ex → Bool
  | .loc _ => false
  | _ => true
theorem evO_eq (h : notLoc ce = true) : evO ih ce ρ = (ih ce ρ).bind fun a ρ => .ok (ofA a) ρ := by
  cases ce <;> first | rfl | cases h
/-- a code whose values are bools: its test is its value -/
def IsB (r : Rho → R A) : Prop := ∀ ρ a ρ', r ρ = .ok a ρ' → ∃ k, a = .t (.bl k)
def asTest (Q : Bool → L2.Hp → Prop) : L2.VK := fun x H => ∃ k, x = .bl k ∧ Q k H
theorem outA_of_evB (hn : notLoc ce = true) (hb : IsB (ih ce)) {Q : Bool → L2.Hp → Prop} (o : OutB G W C ρ σ F H (evB ih ce ρ) Q) : OutA G W C ρ σ F H (ih ce ρ) (asTest Q) := by
  have o1 : OutB G W C ρ σ F H (((evO ih ce ρ).bind fun o ρ => match res ρ o with
    | some t => .ok t ρ
    | none => .bad).bind fun t ρ => match truth t with
    | some b => .ok b ρ
    | none => .bad) Q := o
  rw [evO_eq hn] at o1
  cases q : ih ce ρ with
  | exc c ts ρ' => rw [q] at o1; exact o1
  | bad => rw [q] at o1; exact o1
  | ok a ρ' =>
    rw [q] at o1
    obtain ⟨k, rfl⟩ := hb ρ a ρ' q
    exact fun F' H' v st ar => ⟨k, ar, o1 F' H' st⟩
theorem ofB_isB {o : Option Bool} {a : A} (h : ofB o ρ = .ok a ρ') : ∃ k, a = .t (.bl k) := by
  cases o with
  | none => cases h
  | some k => cases h; exact ⟨k, rfl⟩

/-! ### == and its like -/
def cmpC (ih : Ex → Rho → R A) (o : Cmp) (cs : List Ex) (ρ : Rho) : R A := (evOs ih cs ρ).bind fun os ρ => match ress ρ os with
  | some [x, y] => ofB (cmpT o x y) ρ
  | _ => .bad
theorem cmpC_isB {o : Cmp} {cs : List Ex} : IsB (cmpC ih o cs) := by
  intro ρ a ρ' h
  unfold cmpC at h
  cases q : evOs ih cs ρ with
  | exc c ts r => rw [q] at h; cases h
  | bad => rw [q] at h; cases h
  | ok os ρ1 =>
    rw [q] at h
    dsimp only [R.bind] at h
    split at h
    · exact ofB_isB h
    · cases h
theorem rd_cmp {cs : List Ex} {o : Cmp} {Q : L2.VK} (hK : X.K = C.K) (h : SOs X G W C [a, b] (evOs ih cs)) (S : Sim C F ρ σ H) (out : OutA G W C ρ σ F H (cmpC ih o cs ρ) Q) : L2.tOp (cmpR X.K o) (WE X a) (WE X b) σ H Q := by
  refine two (f := fun _ _ => .bad) (K := fun v u Q H => cmpR X.K o v u H Q) h S out fun x y ρ' F' H' v u st hx hy o1 => ?_
  cases q : cmpT o x y with
  | none => rw [q] at o1; exact o1.elim
  | some r =>
    rw [q] at o1
    rw [hK]
    exact cmp_ok hx hy q ((Wants.of o1 st).here st.sim rfl)
theorem sb_cmp {cs : List Ex} {o : Cmp} (hK : X.K = C.K) (hu : X.A.units + 65 < cLine) (hm : behindInMarks (cmpOf o) b = false) (h : SOs X G W C [a, b] (evOs ih cs)) (hc : notLoc ce = true) (he : ih2 ce = cmpC ih o cs) : SB X G W C (.Compare a [cmpOf o] [b] pos) (evB ih2 ce) := by
  intro ρ F σ H Q S o
  have o2 := outA_of_evB hc (by rw [he]; exact cmpC_isB) o
  rw [he] at o2
  exact wt_of (L2.pt_cmpR (cmp_rule hu _) pe_we pe_we hm) (rd_cmp hK h S o2)

/-! ### chains -/
def chnC (ih : Ex → Rho → R A) (o p : Cmp) (ca cb cc : Ex) (ρ : Rho) : R A := (evOs ih [ca, cb] ρ).bind fun os ρ => match os with
  | [oa, ob] => match res ρ oa, res ρ ob with
    | some x, some y => match cmpT o x y with
      | some true => (evO ih cc ρ).bind fun oc ρ => match res ρ ob, res ρ oc with
        | some y, some z => ofB (cmpT p y z) ρ
        | _, _ => .bad
      | some false => .ok (.t (.bl false)) ρ
      | none => .bad
    | _, _ => .bad
  | _ => .bad
theorem chnC_isB {o p : Cmp} : IsB (chnC ih o p ca cb cc) := by
  intro ρ a ρ' h
  unfold chnC at h
  cases q : evOs ih [ca, cb] ρ with
  | exc c ts r => rw [q] at h; cases h
  | bad => rw [q] at h; cases h
  | ok os ρ1 =>
    rw [q] at h
    dsimp only [R.bind] at h
    split at h
    · split at h
      · split at h
        · rename_i oa ob _ _ _ _ _ _ _
          cases q2 : evO ih cc ρ1 with
          | exc c ts r => rw [q2] at h; cases h
          | bad => rw [q2] at h; cases h
          | ok oc ρ2 =>
            rw [q2] at h
            dsimp only at h
            split at h
            · exact ofB_isB h
            · cases h
        · cases h; exact ⟨_, rfl⟩
        · cases h
      · cases h
    · cases h
theorem rd_chn {o p : Cmp} {Q : L2.VK} (hK : X.K = C.K) (h : SOs X G W C [a, b] (evOs ih [ca, cb])) (h2 : SO X G W C c (evO ih cc)) (S : Sim C F ρ σ H) (out : OutA G W C ρ σ F H (chnC ih o p ca cb cc ρ) Q) :
    L2.tChain (cmpR X.K o) (cmpR X.K p) (WE X a) (WE X b) (WE X c) σ H Q := by
  have z : WEs X [a, b] σ H (fun vs H2 => match vs with
    | [v, u] => cmpR X.K o v u H2 fun z H3 => ∃ k, z = .bl k ∧ (if k = true then WE X c σ H3 fun w' H4 => cmpR X.K p u w' H4 Q else Q (.bl false) H3)
    | _ => False) := by
    refine h ρ F σ H _ S (outOs_bind out fun os ρ1 o1 F1 H1 vs st ops => ?_)
    match os, ops, o1 with
    | [], _, o1 => exact o1.elim
    | [_], _, o1 => exact o1.elim
    | _ :: _ :: _ :: _, _, o1 => exact o1.elim
    | [oa, ob], ops, o1 =>
      obtain ⟨v, r1, e1, h3, u, r2, e2, h4, e3⟩ := ops
      subst e1 e2 e3
      dsimp only at o1 ⊢
      cases qa : res ρ1 oa with
      | none => rw [qa] at o1; exact o1.elim
      | some x =>
        rw [qa] at o1
        cases qb : res ρ1 ob with
        | none => rw [qb] at o1; exact o1.elim
        | some y =>
          rw [qb] at o1
          dsimp only at o1
          cases qc : cmpT o x y with
          | none => rw [qc] at o1; exact o1.elim
          | some k =>
            rw [qc] at o1
            rw [hK]
            refine cmp_ok (res_prep st.sim h3 qa) (res_prep st.sim h4 qb) qc ⟨k, rfl, ?_⟩
            cases k with
            | false =>
              rw [if_neg Bool.false_ne_true]
              exact (Wants.of o1 st).here st.sim rfl
            | true =>
              rw [if_pos rfl]
              refine h2 ρ1 F1 σ H1 _ st.sim ?_
              refine outO_bind (OutA.later st o1) fun oc ρ2 o2 F2 H2 w st2 op2 => ?_
              cases q2 : res ρ2 ob with
              | none => rw [q2] at o2; exact o2.elim
              | some y2 =>
                rw [q2] at o2
                cases q3 : res ρ2 oc with
                | none => rw [q3] at o2; exact o2.elim
                | some z2 =>
                  rw [q3] at o2
                  dsimp only at o2
                  cases q4 : cmpT p y2 z2 with
                  | none => rw [q4] at o2; exact o2.elim
                  | some k2 =>
                    rw [q4] at o2
                    exact cmp_ok (res_prep st2.sim (h4.step st.sim st2) q2) (res_prep st2.sim op2 q3) q4 ((Wants.of o2 st2).here st2.sim rfl)
  exact z
theorem se_chn {o p : Cmp} (hK : X.K = C.K) (hu : X.A.units + 65 < cLine) (hm : lastMarks [cmpOf o, cmpOf p] [b, c] = false) (h : SOs X G W C [a, b] (evOs ih [ca, cb])) (h2 : SO X G W C c (evO ih cc)) : SE X G W C (.Compare a [cmpOf o, cmpOf p] [b, c] pos) (chnC ih o p ca cb cc) :=
  fun ρ F σ H Q S out => we_of (L2.pe_chain (cmp_rule hu o) (cmp_rule hu p) pe_we pe_we pe_we hm) (rd_chn hK h h2 S out)
theorem sb_chn {o p : Cmp} (hK : X.K = C.K) (hu : X.A.units + 65 < cLine) (hm : lastMarks [cmpOf o, cmpOf p] [b, c] = false) (h : SOs X G W C [a, b] (evOs ih [ca, cb])) (h2 : SO X G W C c (evO ih cc)) (hc : notLoc ce = true) (he : ih2 ce = chnC ih o p ca cb cc) :
    SB X G W C (.Compare a [cmpOf o, cmpOf p] [b, c] pos) (evB ih2 ce) := by
  intro ρ F σ H Q S out
  have o2 := outA_of_evB hc (by rw [he]; exact chnC_isB) out
  rw [he] at o2
  exact wt_of (L2.pt_chain (cmp_rule hu o) (cmp_rule hu p) pe_we pe_we pe_we hm) (rd_chn hK h h2 S o2)

/-! ### is None, is True -/
def isnC (ih : Ex → Rho → R A) (neg : Bool) (ca : Ex) (ρ : Rho) : R A := (evP ih ca ρ).bind fun x ρ => match x with
  | .non => .ok (.t (.bl (!neg))) ρ
  | _ => .ok (.t (.bl neg)) ρ
theorem bind_isB {α : Type} {r : R α} {f : α → Rho → R A} (hf : ∀ x ρ a ρ', f x ρ = .ok a ρ' → ∃ k, a = .t (.bl k)) {x : A} (h : r.bind f = .ok x ρ') : ∃ k, x = .t (.bl k) := by
  cases r with
  | ok y ρ1 => exact hf y ρ1 x ρ' h
  | exc c ts r => cases h
  | bad => cases h
theorem isnC_isB {neg : Bool} : IsB (isnC ih neg ca) := fun ρ a ρ' h => bind_isB (fun x ρ a ρ' h => by
  cases x <;> (cases h; exact ⟨_, rfl⟩)) h
theorem prep_non {t : T} {v : L2.V} (h : PRep C.K F H t v) : decide (v = .non) = (match t with | .non => true | _ => false) := by
  cases t with
  | non => cases (show v = _ from h); rfl
  | bl b => cases (show v = _ from h); rfl
  | int i => cases (show v = _ from h); rfl
  | str s => cases (show v = _ from h); rfl
  | lst xs => obtain ⟨p, vs, h1, _⟩ := h; subst h1; rfl
  | tup xs => obtain ⟨p, vs, h1, _⟩ := h; subst h1; rfl
  | ins c fs => exact (show False from h).elim
  | scr ns => obtain ⟨p, h1, _⟩ := h; subst h1; rfl
  | dit _ _ => obtain ⟨p, _, h1, _⟩ := h; subst h1; rfl
  | dik _ _ => obtain ⟨p, _, h1, _⟩ := h; subst h1; rfl
theorem rd_isn {neg : Bool} {Q : L2.VK} (h : SO X G W C a (evO ih ca)) (S : Sim C F ρ σ H) (out : OutA G W C ρ σ F H (isnC ih neg ca ρ) Q) :
    WE X a σ H fun x H1 => Q (.bl (if neg then !decide (x = .non) else decide (x = .non))) H1 := by
  refine h ρ F σ H _ S (outP_bind out fun t ρ1 o1 F1 H1 v st pr => ?_)
  rw [prep_non pr]
  cases t with
  | non => cases neg <;> exact (Wants.of o1 st).here st.sim rfl
  | _ => cases neg <;> exact (Wants.of o1 st).here st.sim rfl
theorem se_isN {j : Nat} {pos' : Pos} (h : SO X G W C a (evO ih ca)) : SE X G W C (.Compare a [.Is] [.Constant .none j pos'] pos) (isnC ih false ca) :=
  fun ρ F σ H Q S out => we_of (L2.pe_cmp (L2.pc_isN pe_we)) (rd_isn h S out)
theorem se_notN {j : Nat} {pos' : Pos} (h : SO X G W C a (evO ih ca)) : SE X G W C (.Compare a [.IsNot] [.Constant .none j pos'] pos) (isnC ih true ca) :=
  fun ρ F σ H Q S out => we_of (L2.pe_cmp (L2.pc_notN pe_we)) (rd_isn h S out)
theorem sb_isN {j : Nat} {pos' : Pos} (h : SO X G W C a (evO ih ca)) (hc : notLoc ce = true) (he : ih2 ce = isnC ih false ca) : SB X G W C (.Compare a [.Is] [.Constant .none j pos'] pos) (evB ih2 ce) := by
  intro ρ F σ H Q S out
  have o2 := outA_of_evB hc (by rw [he]; exact isnC_isB) out
  rw [he] at o2
  exact wt_of (L2.pt_cmp (L2.pc_isN pe_we)) (rd_isn h S o2)
theorem sb_notN {j : Nat} {pos' : Pos} (h : SO X G W C a (evO ih ca)) (hc : notLoc ce = true) (he : ih2 ce = isnC ih true ca) : SB X G W C (.Compare a [.IsNot] [.Constant .none j pos'] pos) (evB ih2 ce) := by
  intro ρ F σ H Q S out
  have o2 := outA_of_evB hc (by rw [he]; exact isnC_isB) out
  rw [he] at o2
  exact wt_of (L2.pt_cmp (L2.pc_notN pe_we)) (rd_isn h S o2)
def isbC (ih : Ex → Rho → R A) (neg : Bool) (ca : Ex) (k : Bool) (ρ : Rho) : R A := (evP ih ca ρ).bind fun x ρ => match x with
  | .bl j => .ok (.t (.bl (neg != (j == k)))) ρ
  | _ => .bad
theorem isbC_isB {neg k : Bool} : IsB (isbC ih neg ca k) := fun ρ a ρ' h => bind_isB (fun x ρ a ρ' h => by
  cases x <;> first | (cases h; exact ⟨_, rfl⟩) | cases h) h
theorem rd_isb {neg k : Bool} {j : Nat} {pos' : Pos} {Q : L2.VK} (h : SO X G W C a (evO ih ca)) (S : Sim C F ρ σ H) (out : OutA G W C ρ σ F H (isbC ih neg ca k ρ) Q) :
    L2.tOp (if neg then L2.rNotB else L2.rIsB) (WE X a) (L2.tC (.bl k)) σ H Q := by
  refine h ρ F σ H _ S (outP_bind out fun t ρ1 o1 F1 H1 v st pr => ?_)
  cases t with
  | bl i =>
    cases (show v = _ from pr)
    have q := (Wants.of o1 st).here st.sim rfl
    cases neg with
    | false => exact ⟨i, k, rfl, rfl, by cases i <;> cases k <;> exact q⟩
    | true => exact ⟨i, k, rfl, rfl, by cases i <;> cases k <;> exact q⟩
  | _ => exact o1.elim
theorem se_isB {j : Nat} {k : Bool} {pos' : Pos} (h : SO X G W C a (evO ih ca)) : SE X G W C (.Compare a [.Is] [.Constant (.bool k) j pos'] pos) (isbC ih false ca k) :=
  fun ρ F σ H Q S out => we_of (L2.pe_cmpR L2.op_isBl pe_we L2.pe_bl (L2.nomark _)) (rd_isb (j := j) (pos' := pos') h S out)
theorem se_notB {j : Nat} {k : Bool} {pos' : Pos} (h : SO X G W C a (evO ih ca)) : SE X G W C (.Compare a [.IsNot] [.Constant (.bool k) j pos'] pos) (isbC ih true ca k) :=
  fun ρ F σ H Q S out => we_of (L2.pe_cmpR L2.op_notBl pe_we L2.pe_bl (L2.nomark _)) (rd_isb (j := j) (pos' := pos') h S out)
theorem sb_isB {j : Nat} {k : Bool} {pos' : Pos} (h : SO X G W C a (evO ih ca)) (hc : notLoc ce = true) (he : ih2 ce = isbC ih false ca k) : SB X G W C (.Compare a [.Is] [.Constant (.bool k) j pos'] pos) (evB ih2 ce) := by
  intro ρ F σ H Q S out
  have o2 := outA_of_evB hc (by rw [he]; exact isbC_isB) out
  rw [he] at o2
  exact wt_of (L2.pt_cmpR L2.op_isBl pe_we L2.pe_bl (L2.nomark _)) (rd_isb (j := j) (pos' := pos') h S o2)
theorem sb_notB {j : Nat} {k : Bool} {pos' : Pos} (h : SO X G W C a (evO ih ca)) (hc : notLoc ce = true) (he : ih2 ce = isbC ih true ca k) : SB X G W C (.Compare a [.IsNot] [.Constant (.bool k) j pos'] pos) (evB ih2 ce) := by
  intro ρ F σ H Q S out
  have o2 := outA_of_evB hc (by rw [he]; exact isbC_isB) out
  rw [he] at o2
  exact wt_of (L2.pt_cmpR L2.op_notBl pe_we L2.pe_bl (L2.nomark _)) (rd_isb (j := j) (pos' := pos') h S o2)

/-! ### truth -/
theorem tru_of {t : T} {v : L2.V} {k : Bool} (hK : X.K = C.K) (h : PRep C.K F H t v) (e : truth t = some k) : L2.TruV X.K v H k := by
  cases t with
  | non => cases (show v = _ from h); cases e; rfl
  | bl b => cases (show v = _ from h); cases e; rfl
  | int i => cases (show v = _ from h); cases e; rfl
  | str s =>
    cases (show v = _ from h)
    simp only [truth] at e
    split at e
    case isFalse => cases e
    rename_i hl
    cases e
    refine ⟨by rw [← big_eq]; exact hl, ?_⟩
    cases z : s.length with
    | zero => rfl
    | succ n =>
      show (!(n + 1 == 0)) = (((n + 1 : Nat) : Int) != 0)
      have : (((n + 1 : Nat) : Int) != 0) = true := by
        rw [bne_iff_ne]
        omega
      rw [this]
      rfl
  | lst xs =>
    obtain ⟨p, vs, h1, h2, h3⟩ := h
    subst h1
    cases e
    refine .inl ⟨vs, L2.SqL.of h2, ?_⟩
    cases xs with
    | nil => cases (show vs = [] from h3); rfl
    | cons x xs => obtain ⟨_, _, z, _⟩ := h3; subst z; rfl
  | tup xs =>
    obtain ⟨p, vs, h1, _, h2, h3⟩ := h
    subst h1
    cases e
    refine .inr (.inl ⟨vs, L2.SqT.of h2, ?_⟩)
    cases xs with
    | nil => cases (show vs = [] from h3); rfl
    | cons x xs => obtain ⟨_, _, z, _⟩ := h3; subst z; rfl
  | ins c fs => cases e
  | dit _ _ => cases e
  | dik _ _ => cases e
  | scr ns =>
    cases e
    obtain ⟨p, h1, h2⟩ := h
    subst h1
    refine .inl ⟨ns.map L2.V.int, ?_, by cases ns <;> rfl⟩
    rcases h2 with ⟨_, o, h3⟩ | h3
    · exact .inl (.inr ⟨o, h3⟩)
    · rw [hK]; exact .inr h3

def plainT : Expr → Bool
  | .BoolOp .. => false
  | .UnaryOp .Not .. => false
  | .IfExp .. => false
  | .Compare .. => false
  | _ => true
theorem plainT_ok (h : plainT e = true) : ∀ whole, isTrue e X.env whole = (do let v ← whole; standAt e.pos; holding [v] (truthy v)) := by
  intro whole
  cases e with
  | BoolOp => cases h
  | IfExp => cases h
  | Compare => cases h
  | UnaryOp op x p => cases op <;> first | rfl | cases h
  | _ => rfl
theorem outB_prep {Q : Bool → L2.Hp → Prop} (o : OutB G W C ρ σ F H (evB ih ce ρ) Q) : OutO G W C ρ σ F H (evO ih ce ρ) (fun v H' => ∃ (k : Bool) (t : T) (F' : FS), PRep C.K F' H' t v ∧ truth t = some k ∧ Q k H') := by
  have o1 : OutB G W C ρ σ F H (((evO ih ce ρ).bind fun o ρ => match res ρ o with
    | some t => .ok t ρ
    | none => .bad).bind fun t ρ => match truth t with
    | some b => .ok b ρ
    | none => .bad) Q := o
  cases q : evO ih ce ρ with
  | exc c ts ρ' => rw [q] at o1; exact o1
  | bad => rw [q] at o1; exact o1
  | ok oo ρ1 =>
    rw [q] at o1
    intro F1 H1 v st op
    dsimp only [R.bind] at o1
    cases q2 : res ρ1 oo with
    | none => rw [q2] at o1; exact o1.elim
    | some t =>
      rw [q2] at o1
      dsimp only at o1
      cases q3 : truth t with
      | none => rw [q3] at o1; exact o1.elim
      | some k =>
        rw [q3] at o1
        exact ⟨k, t, F1, res_prep st.sim op q2, q3, o1 F1 H1 st⟩
theorem sb_truth (hK : X.K = C.K) (h : SO X G W C e (evO ih ce)) (hp : plainT e = true) : SB X G W C e (evB ih ce) := by
  intro ρ F σ H Q S out
  refine wt_of (L2.pt_truth pe_we (plainT_ok hp)) ?_
  refine (h ρ F σ H _ S (outB_prep out)).mono fun v H' ⟨k, t, F', pr, tr, q⟩ => ⟨k, tru_of hK pr tr, q⟩

/-! ### and, or, not, if-else -/
theorem se_and {op : Ex} (h1 : SO X G W C a (evO ih ca)) (h2 : SE X G W C (.BoolOp .And (b :: rest) pos) (ih cb)) : SE X G W C (.BoolOp .And (a :: b :: rest) pos) (fun ρ => (evP ih ca ρ).bind fun x ρ => match x with
    | .bl true => ih cb ρ
    | .bl false => .ok (.t (.bl false)) ρ
    | _ => .bad) := by
  intro ρ F σ H Q S out
  refine we_of (L2.pe_and pe_we pe_we) ?_
  refine h1 ρ F σ H _ S (outP_bind out fun t ρ1 o1 F1 H1 v st pr => ?_)
  cases t with
  | bl k =>
    cases (show v = _ from pr)
    cases k with
    | true => exact ⟨true, rfl, by rw [if_pos rfl]; exact h2 ρ1 F1 σ H1 Q st.sim (OutA.later st o1)⟩
    | false => exact ⟨false, rfl, by rw [if_neg Bool.false_ne_true]; exact (Wants.of o1 st).here st.sim rfl⟩
  | _ => exact o1.elim
theorem se_or (h1 : SO X G W C a (evO ih ca)) (h2 : SE X G W C (.BoolOp .Or (b :: rest) pos) (ih cb)) : SE X G W C (.BoolOp .Or (a :: b :: rest) pos) (fun ρ => (evP ih ca ρ).bind fun x ρ => match x with
    | .bl true => .ok (.t (.bl true)) ρ
    | .bl false => ih cb ρ
    | _ => .bad) := by
  intro ρ F σ H Q S out
  refine we_of (L2.pe_or pe_we pe_we) ?_
  refine h1 ρ F σ H _ S (outP_bind out fun t ρ1 o1 F1 H1 v st pr => ?_)
  cases t with
  | bl k =>
    cases (show v = _ from pr)
    cases k with
    | false => exact ⟨false, rfl, by rw [if_neg Bool.false_ne_true]; exact h2 ρ1 F1 σ H1 Q st.sim (OutA.later st o1)⟩
    | true => exact ⟨true, rfl, by rw [if_pos rfl]; exact (Wants.of o1 st).here st.sim rfl⟩
  | _ => exact o1.elim
theorem se_one {op : BoolOp} {r : Rho → R A} (h : SE X G W C a r) : SE X G W C (.BoolOp op [a] pos) r := fun ρ F σ H Q S out => we_of (L2.pe_one pe_we) (h ρ F σ H Q S out)
theorem outB_of {r : R Bool} {Q : L2.VK} {f : Bool → Rho → R A} (o : OutA G W C ρ σ F H (r.bind f) Q) {K : Bool → L2.Hp → Prop} (k : ∀ x ρ', OutA G W C ρ σ F H (f x ρ') Q → ∀ F' H', Step C ρ σ F H ρ' σ F' H' → K x H') : OutB G W C ρ σ F H r K := outB_bind o k
theorem se_not (h : SO X G W C a (evO ih ca)) (hK : X.K = C.K) : SE X G W C (.UnaryOp .Not a pos) (fun ρ => (evB ih ca ρ).bind fun x ρ => .ok (.t (.bl (!x))) ρ) := by
  intro ρ F σ H Q S out
  refine we_of (L2.pe_notT pe_we) ?_
  refine (h ρ F σ H _ S (outB_prep (Q := fun k H' => Q (.bl (!k)) H') (outB_of out fun x ρ1 o1 F1 H1 st => (Wants.of o1 st).here st.sim rfl))).mono fun v H' ⟨k, t, F', pr, tr, q⟩ => ⟨k, tru_of hK pr tr, q⟩
theorem se_ite (h1 : SB X G W C c (evB ih cc)) (h2 : SE X G W C a (ih ca)) (h3 : SE X G W C b (ih cb)) : SE X G W C (.IfExp c a b pos) (fun ρ => (evB ih cc ρ).bind fun x ρ => match x with
    | true => ih ca ρ
    | false => ih cb ρ) := by
  intro ρ F σ H Q S out
  refine we_of (L2.pe_ifExp pt_wt pe_we pe_we) ?_
  refine h1 ρ F σ H _ S (outB_of out fun x ρ1 o1 F1 H1 st => ?_)
  cases x with
  | true => rw [if_pos rfl]; exact h2 ρ1 F1 σ H1 Q st.sim (OutA.later st o1)
  | false => rw [if_neg Bool.false_ne_true]; exact h3 ρ1 F1 σ H1 Q st.sim (OutA.later st o1)
/-- a test whatever its whole is -/
def WW (X : L2.Cx) (e : Expr) (σ : LSt) (H : L2.Hp) (Q : Bool → L2.Hp → Prop) : Prop := ∀ whole pins s, L2.Inv X pins σ H s → wpAny (model X.prog X.w) X.A (isTrue e X.env whole) (L2.TP X pins σ Q) X.xe s
theorem pw_ww : L2.PW X e (WW X e) := ⟨fun whole pins s σ H Q I h => h whole pins s I⟩
theorem ww_of {t : L2.TT} {Q : Bool → L2.Hp → Prop} (p : L2.PW X e t) (h : t σ H Q) : WW X e σ H Q := fun whole pins s I => p.run whole pins s σ H Q I h
def SW (X : L2.Cx) (G : Ga) (W : L2.WX) (C : FC) (e : Expr) (r : Rho → R Bool) : Prop := ∀ ρ F σ H Q, Sim C F ρ σ H → OutB G W C ρ σ F H (r ρ) Q → WW X e σ H Q
theorem SW.sb {r : Rho → R Bool} (h : SW X G W C e r) : SB X G W C e r := fun ρ F σ H Q S o => wt_of pw_ww.pt (h ρ F σ H Q S o)
theorem sw_and1 {r : Rho → R Bool} (h : SB X G W C a r) : SW X G W C (.BoolOp .And [a] pos) r := fun ρ F σ H Q S o => ww_of (L2.pw_and1 pt_wt) (h ρ F σ H Q S o)
theorem sw_or1 {r : Rho → R Bool} (h : SB X G W C a r) : SW X G W C (.BoolOp .Or [a] pos) r := fun ρ F σ H Q S o => ww_of (L2.pw_or1 pt_wt) (h ρ F σ H Q S o)
def tandC (ih : Ex → Rho → R A) (ca cb : Ex) (ρ : Rho) : R A := (evB ih ca ρ).bind fun x ρ => match x with
  | true => (evB ih cb ρ).bind fun y ρ => .ok (.t (.bl y)) ρ
  | false => .ok (.t (.bl false)) ρ
def torC (ih : Ex → Rho → R A) (ca cb : Ex) (ρ : Rho) : R A := (evB ih ca ρ).bind fun x ρ => match x with
  | true => .ok (.t (.bl true)) ρ
  | false => (evB ih cb ρ).bind fun y ρ => .ok (.t (.bl y)) ρ
theorem tandC_isB : IsB (tandC ih ca cb) := fun ρ a ρ' h => bind_isB (fun x ρ a ρ' h => by
  cases x with
  | true => exact bind_isB (fun x ρ a ρ' h => by cases h; exact ⟨_, rfl⟩) h
  | false => cases h; exact ⟨_, rfl⟩) h
theorem torC_isB : IsB (torC ih ca cb) := fun ρ a ρ' h => bind_isB (fun x ρ a ρ' h => by
  cases x with
  | false => exact bind_isB (fun x ρ a ρ' h => by cases h; exact ⟨_, rfl⟩) h
  | true => cases h; exact ⟨_, rfl⟩) h
theorem outB_end {r : R Bool} {Q : Bool → L2.Hp → Prop} (o : OutA G W C ρ σ F H (r.bind fun y ρ => .ok (.t (.bl y)) ρ) (asTest Q)) : OutB G W C ρ σ F H r Q := by
  cases r with
  | ok y ρ1 =>
    intro F1 H1 st
    obtain ⟨k, e, q⟩ := (Wants.of o st).here st.sim (x := .bl y) rfl
    cases e
    exact q
  | exc c ts ρ' => exact o
  | bad => exact o
theorem sw_and (h1 : SB X G W C a (evB ih ca)) (h2 : SW X G W C (.BoolOp .And (b :: rest) pos) (evB ih cb)) (hc : notLoc ce = true) (he : ih2 ce = tandC ih ca cb) : SW X G W C (.BoolOp .And (a :: b :: rest) pos) (evB ih2 ce) := by
  intro ρ F σ H Q S out
  have o2 := outA_of_evB hc (by rw [he]; exact tandC_isB) out
  rw [he] at o2
  refine ww_of (L2.pw_and pt_wt pw_ww) ?_
  refine h1 ρ F σ H _ S (outB_of o2 fun x ρ1 o1 F1 H1 st => ?_)
  cases x with
  | true => rw [if_pos rfl]; exact h2 ρ1 F1 σ H1 Q st.sim (outB_end (OutA.later st o1))
  | false =>
    rw [if_neg Bool.false_ne_true]
    obtain ⟨k, e, q⟩ := (Wants.of o1 st).here st.sim (x := .bl false) rfl
    cases e
    exact q
theorem sw_or (h1 : SB X G W C a (evB ih ca)) (h2 : SW X G W C (.BoolOp .Or (b :: rest) pos) (evB ih cb)) (hc : notLoc ce = true) (he : ih2 ce = torC ih ca cb) : SW X G W C (.BoolOp .Or (a :: b :: rest) pos) (evB ih2 ce) := by
  intro ρ F σ H Q S out
  have o2 := outA_of_evB hc (by rw [he]; exact torC_isB) out
  rw [he] at o2
  refine ww_of (L2.pw_or pt_wt pw_ww) ?_
  refine h1 ρ F σ H _ S (outB_of o2 fun x ρ1 o1 F1 H1 st => ?_)
  cases x with
  | false => rw [if_neg Bool.false_ne_true]; exact h2 ρ1 F1 σ H1 Q st.sim (outB_end (OutA.later st o1))
  | true =>
    rw [if_pos rfl]
    obtain ⟨k, e, q⟩ := (Wants.of o1 st).here st.sim (x := .bl true) rfl
    cases e
    exact q
def notC (ih : Ex → Rho → R A) (ca : Ex) (ρ : Rho) : R A := (evB ih ca ρ).bind fun x ρ => .ok (.t (.bl (!x))) ρ
theorem sb_not (h : SB X G W C a (evB ih ca)) (hc : notLoc ce = true) (he : ih2 ce = notC ih ca) : SB X G W C (.UnaryOp .Not a pos) (evB ih2 ce) := by
  intro ρ F σ H Q S out
  have o2 := outA_of_evB hc (by rw [he]; exact fun ρ a ρ' h => bind_isB (fun x ρ a ρ' h => by cases h; exact ⟨_, rfl⟩) h) out
  rw [he] at o2
  refine wt_of (L2.pt_not pt_wt) ?_
  refine h ρ F σ H _ S (outB_of o2 fun x ρ1 o1 F1 H1 st => ?_)
  obtain ⟨k, e, q⟩ := (Wants.of o1 st).here st.sim (x := .bl (!x)) rfl
  cases e
  exact q
theorem se_neg (h : SO X G W C a (evO ih ca)) : SE X G W C (.UnaryOp .USub a pos) (fun ρ => (evP ih ca ρ).bind fun x ρ => match x with
    | .int i => .ok (.t (.int (-i))) ρ
    | _ => .bad) := by
  intro ρ F σ H Q S out
  refine we_of (L2.pe_un L2.un_neg pe_we) ?_
  refine h ρ F σ H _ S (outP_bind out fun t ρ1 o1 F1 H1 v st pr => ?_)
  cases t with
  | int i =>
    cases (show v = _ from pr)
    exact ⟨i, rfl, (Wants.of o1 st).here st.sim rfl⟩
  | _ => exact o1.elim
end
end PV

set_option Elab.async false
set_option linter.all false
set_option maxRecDepth 100000
set_option maxHeartbeats 1000000
/-! PV, soundness 7: built-ins, isinstance, subscripts, lists' methods. -/
namespace PV
open PySem PySem.Spec PyProof.Rows
section
variable {K : PySem.W.Frag} {F : FS} {H : L2.Hp}
theorem reps_ints : ∀ {ts : List T} {vs : List L2.V} {ns : List Int}, Reps K F H ts vs → intsT ts = some ns → vs = ns.map L2.V.int
  | [], _, _, h, e => by cases e; exact h
  | t :: ts, _, ns, h, e => by
    obtain ⟨v, r, h1, h2, h3⟩ := h
    subst h1
    cases t with
    | int i =>
      obtain ⟨ms, e1, e2⟩ := Option.map_eq_some_iff.mp (show (intsT ts).map (i :: ·) = some ns from e)
      subst e2
      cases (show v = _ from h2)
      rw [reps_ints h3 e1]
      rfl
    | _ => cases e
theorem reps_bools : ∀ {ts : List T} {vs : List L2.V} {ns : List Bool}, Reps K F H ts vs → boolsT ts = some ns → vs = ns.map L2.V.bl
  | [], _, _, h, e => by cases e; exact h
  | t :: ts, _, ns, h, e => by
    obtain ⟨v, r, h1, h2, h3⟩ := h
    subst h1
    cases t with
    | bl i =>
      obtain ⟨ms, e1, e2⟩ := Option.map_eq_some_iff.mp (show (boolsT ts).map (i :: ·) = some ns from e)
      subst e2
      cases (show v = _ from h2)
      rw [reps_bools h3 e1]
      rfl
    | _ => cases e
theorem reps_of_ints : ∀ ns : List Int, Reps K F H (ns.map T.int) (ns.map L2.V.int)
  | [] => Reps.nil
  | n :: ns => ⟨.int n, _, rfl, rfl, reps_of_ints ns⟩
/-- a list or a tuple, to be read -/
theorem prep_items {t : T} {v : L2.V} {xs : List T} (h : PRep K F H t v) (e : itemsT t = some xs) : ∃ p vs, v = .ref p ∧ (L2.SqL K H p vs ∨ L2.SqT K H p vs) ∧ Reps K F H xs vs ∧ ((H p = some (.lst vs) ∧ t = .lst xs) ∨ (H p = some (.tup vs) ∧ t = .tup xs ∧ F p)) := by
  cases t with
  | lst ys =>
    cases e
    obtain ⟨p, vs, h1, h2, h3⟩ := h
    exact ⟨p, vs, h1, .inl (L2.SqL.of h2), h3, .inl ⟨h2, rfl⟩⟩
  | tup ys =>
    cases e
    obtain ⟨p, vs, h1, hF, h2, h3⟩ := h
    exact ⟨p, vs, h1, .inr (L2.SqT.of h2), h3, .inr ⟨h2, rfl, hF⟩⟩
  | _ => cases e
end
theorem insI_perm (x : Int) : ∀ l : List Int, (insI x l).Perm (x :: l)
  | [] => .refl _
  | y :: ys => by
    unfold insI
    split
    · exact .refl _
    · exact ((insI_perm x ys).cons y).trans (.swap x y ys)
theorem sortI_perm : ∀ l : List Int, (sortI l).Perm l
  | [] => .refl _
  | x :: xs => (insI_perm x (sortI xs)).trans ((sortI_perm xs).cons x)
theorem insI_sorted (x : Int) : ∀ l : List Int, l.Pairwise (· ≤ ·) → (insI x l).Pairwise (· ≤ ·)
  | [], _ => by simp [insI]
  | y :: ys, h => by
    rw [List.pairwise_cons] at h
    unfold insI
    split
    · rename_i hxy
      refine List.pairwise_cons.mpr ⟨fun z hz => ?_, List.pairwise_cons.mpr h⟩
      rcases List.mem_cons.mp hz with rfl | hz
      · exact hxy
      · exact Int.le_trans hxy (h.1 z hz)
    · rename_i hxy
      refine List.pairwise_cons.mpr ⟨fun z hz => ?_, insI_sorted x ys h.2⟩
      rcases List.mem_cons.mp ((insI_perm x ys).mem_iff.mp hz) with rfl | hz
      · omega
      · exact h.1 z hz
theorem sortI_sorted : ∀ l : List Int, (sortI l).Pairwise (· ≤ ·)
  | [] => .nil
  | x :: xs => insI_sorted x _ (sortI_sorted xs)
theorem sumI_eq : ∀ l : List Int, sumI l = l.sum
  | [] => rfl
  | x :: xs => by
    rw [List.sum_cons, ← sumI_eq xs]
    rfl
section
variable {X : L2.Cx} {G : Ga} {W : L2.WX} {C : FC} {ρ ρ' : Rho} {σ : LSt} {F F' : FS} {H H' : L2.Hp} {e a b c : Expr} {es rest : List Expr} {pos p : Pos} {ih : Ex → Rho → R A} {ce ca cb cc : Ex}
/-- a built-in's name is the built-in -/
def BtOk (X : L2.Cx) (x : Str) : Prop := L2.Gl X x ∧ X.mg x = none
def biN : Bi → Str
  | .len => "len" | .list => "list" | .tuple => "tuple" | .sorted => "sorted" | .all => "all" | .any => "any" | .sum => "sum" | .max2 => "max" | .min2 => "min" | .abs => "abs" | .int => "int" | .divmod => "divmod"
  | .gcd => "gcd" | .lcm => "lcm" | .repr => "repr" | .str => "str" | .lrange => "range" | .trange => "range" | .dict => "dict"
abbrev LR := List L2.V → L2.Hp → L2.VK → Prop
def rFalse : LR := fun _ _ _ => False
def biR (K : PySem.W.Frag) : Bi → LR
  | .len => fun xs H Q => (∃ p ys, xs = [.ref p] ∧ (L2.SqL K H p ys ∨ L2.SqT K H p ys) ∧ Q (.int ys.length) H) ∨ L2.rLenT xs H Q
  | .repr => rRepr K
  | .dict => rDict
  | .list => fun xs H Q => ∃ p ys, xs = [.ref p] ∧ (L2.SqL K H p ys ∨ L2.SqT K H p ys) ∧ ∀ l, H l = none → Q (.ref l) (L2.upd H l (.lst ys))
  | .tuple => fun xs H Q => ∃ p ys, xs = [.ref p] ∧ ((L2.SqL K H p ys ∧ ∀ l, H l = none → Q (.ref l) (L2.upd H l (.tup ys))) ∨ (L2.SqT K H p ys ∧ Q (.ref p) H))
  | .sorted => fun xs H Q => L2.rSorted K xs H Q ∨ rSortTp xs H Q ∨ rSortD K xs H Q
  | .all => L2.rAll K
  | .any => L2.rAny K
  | .sum => L2.rSum K
  | .max2 => fun xs H Q => ∃ i j, xs = [.int i, .int j] ∧ Q (.int (if j > i then j else i)) H
  | .min2 => fun xs H Q => ∃ i j, xs = [.int i, .int j] ∧ Q (.int (if j < i then j else i)) H
  | .abs => fun xs H Q => ∃ i, xs = [.int i] ∧ Q (.int (if i < 0 then -i else i)) H
  | .int => fun xs H Q => (∃ i, xs = [.int i] ∧ Q (.int i) H) ∨ ∃ k, xs = [.bl k] ∧ Q (.int (if k then 1 else 0)) H
  | .divmod => fun xs H Q => ∃ i j, xs = [.int i, .int j] ∧ L2.CDiv i j ∧ ∀ p, H p = none → Q (.ref p) (L2.upd H p (.tup [.int (i / j), .int (i % j)]))
  | _ => rFalse
def biSup : Bi → Bool
  | .gcd | .lcm | .str | .lrange | .trange => false
  | _ => true
theorem boot_repr : bootBuiltins "repr" = some (.builtin "repr") := by decide +kernel
theorem boot_dict : bootBuiltins "dict" = some (.type "dict") := by decide +kernel
theorem call_len2 : L2.CallR X (.builtin "len") (biR X.K .len) := fun pins s σ H xs us Q I r h => h.elim (fun z => L2.call_len_seq pins s σ H xs us Q I r z) fun z => L2.call_len_dT pins s σ H xs us Q I r z
theorem call_sort2 (hu : X.A.units + 100 < cLine) : L2.CallR X (.builtin "sorted") (biR X.K .sorted) := fun pins s σ H xs us Q I r h => h.elim (fun z => L2.cr_sorted pins s σ H xs us Q I r z) fun z => z.elim (fun z => call_sortTp pins s σ H xs us Q I r z) fun z => call_sortD hu pins s σ H xs us Q I r z
theorem pe_bi {bi : Bi} {t : L2.TA} (hc : X.calm = true) (hg : X.A.guards = some []) (hu : X.A.units + 100 < cLine) (hB : BtOk X (biN bi)) (hS : biSup bi = true) (hs : isStar e = false) (hss : es.all (fun e => !isStar e) = true) (ha : L2.PA X (e :: es) t) : L2.PE X (.Call (.Name (biN bi) p) (e :: es) [] pos) (L2.tCB (biR X.K bi) t) := by
  have hst := star_cons (es := es) (env := X.env) hs
  have hpl := star_plain (pos := pos) (env := X.env) hss
  cases bi with
  | repr => exact L2.pe_callB (call_repr hg hu) hB.1 hB.2 boot_repr ha (by decide) (by decide) hst hpl
  | dict => exact L2.pe_callTy (call_dict hc (by omega)) hB.1 hB.2 boot_dict ha (by decide) (by decide) hst hpl
  | len => exact L2.pe_callB call_len2 hB.1 hB.2 PySem.boot_len ha (by decide) (by decide) hst hpl
  | list => exact L2.pe_callTy L2.call_list_of hB.1 hB.2 boot_list ha (by decide) (by decide) hst hpl
  | tuple => exact L2.pe_callTy L2.call_tuple_of hB.1 hB.2 boot_tuple ha (by decide) (by decide) hst hpl
  | sorted => exact L2.pe_callB (call_sort2 hu) hB.1 hB.2 boot_sorted ha (by decide) (by decide) hst hpl
  | all => exact L2.pe_callB (L2.cr_all hc) hB.1 hB.2 boot_all ha (by decide) (by decide) hst hpl
  | any => exact L2.pe_callB (L2.cr_any hc) hB.1 hB.2 boot_any ha (by decide) (by decide) hst hpl
  | sum => exact L2.pe_callB (L2.cr_sum hc) hB.1 hB.2 boot_sum ha (by decide) (by decide) hst hpl
  | max2 => exact L2.pe_callB (L2.call_max2 hc) hB.1 hB.2 boot_max ha (by decide) (by decide) hst hpl
  | min2 => exact L2.pe_callB (L2.call_min2 hc) hB.1 hB.2 boot_min ha (by decide) (by decide) hst hpl
  | abs => exact L2.pe_callB L2.call_abs hB.1 hB.2 boot_abs ha (by decide) (by decide) hst hpl
  | int => exact L2.pe_callTy L2.call_int1 hB.1 hB.2 boot_int ha (by decide) (by decide) hst hpl
  | divmod => exact L2.pe_callB L2.call_divmod hB.1 hB.2 boot_divmod ha (by decide) (by decide) hst hpl
  | _ => cases hS
abbrev PD (K : PySem.W.Frag) (F : FS) (H : L2.Hp) : List (List L2.Key × T) → List (List L2.Key × L2.V) → Prop := Paired fun p q => p.1 = q.1 ∧ RepT K F H p.2 q.2
theorem pairs_ok {K : PySem.W.Frag} : ∀ {xs : List T} {vs : List L2.V} {m : List (List L2.Key × T)}, Reps K F H xs vs → pairsD xs = some m →
    ∃ ps : List Pr, vs = (ps.map (·.1)).map L2.V.ref ∧ (∀ t ∈ ps, H t.1 = some (.tup [.ref t.2.2.1, t.2.2.2]) ∧ H t.2.2.1 = some (.tup (t.2.1.map L2.kV))) ∧ PD K F H m (ps.map fun t => (t.2.1, t.2.2.2))
  | [], _, _, h, e => by cases e; exact ⟨[], h, fun t ht => (nomatch ht), .nil⟩
  | x :: xs, _, m, h, e => by
    obtain ⟨v, r, rfl, h1, h2⟩ := h
    unfold pairsD at e
    split at e
    · cases ‹_ = []›
    · rename_i kt vt rr ex
      cases ex
      split at e
      · rename_i k m' e1 e2
        cases e
        obtain ⟨ps, p1, p2, p3⟩ := pairs_ok h2 e2
        obtain ⟨p, vs, rfl, g1, g2, u1, r1, rfl, g3, u2, r2, rfl, g4, g5⟩ := h1
        cases (show r2 = [] from g5)
        obtain ⟨b, rfl, g6⟩ := tk_ok g3 e1
        refine ⟨(p, k, b, u2) :: ps, by rw [p1]; rfl, fun t ht => ?_, .cons ⟨rfl, g4⟩ p3⟩
        rcases List.mem_cons.mp ht with rfl | ht
        · exact ⟨g2, g6⟩
        · exact p2 t ht
      · cases e
    · cases e
theorem pd_any {K : PySem.W.Frag} {m : List (List L2.Key × T)} {kvs : List (List L2.Key × L2.V)} (h : PD K F H m kvs) (k : List L2.Key) : (m.any fun p => decide (p.1 = k)) = kvs.any fun kv => decide (kv.1 = k) := by
  induction h with
  | nil => rfl
  | cons r t ih => rw [List.any_cons, List.any_cons, ih, r.1]
theorem pd_map {K : PySem.W.Frag} {m : List (List L2.Key × T)} {kvs : List (List L2.Key × L2.V)} (h : PD K F H m kvs) (k : List L2.Key) {t : T} {v : L2.V} (hv : RepT K F H t v) : PD K F H (m.map fun p => if p.1 = k then (p.1, t) else p) (kvs.map fun p => if p.1 = k then (p.1, v) else p) := by
  induction h with
  | nil => exact .nil
  | @cons p q ps qs r _ ih =>
    rw [List.map_cons, List.map_cons]
    refine .cons ?_ ih
    obtain ⟨r1, r2⟩ := r
    by_cases e : p.1 = k
    · rw [if_pos e, if_pos (r1.symm.trans e)]; exact ⟨r1, hv⟩
    · rw [if_neg e, if_neg fun z => e (r1.trans z)]; exact ⟨r1, r2⟩
theorem pd_put {K : PySem.W.Frag} {m : List (List L2.Key × T)} {kvs : List (List L2.Key × L2.V)} (h : PD K F H m kvs) (k : List L2.Key) {t : T} {v : L2.V} (hv : RepT K F H t v) : PD K F H (putD m k t) (L2.putK kvs k v) := by
  unfold putD L2.putK
  rw [pd_any h k]
  split
  · exact pd_map h k hv
  · exact Paired.snoc h ⟨rfl, hv⟩
theorem pd_all {K : PySem.W.Frag} {zs : List (List L2.Key × T)} {ws : List (List L2.Key × L2.V)} (h : PD K F H zs ws) : ∀ {m : List (List L2.Key × T)} {kvs : List (List L2.Key × L2.V)}, PD K F H m kvs →
    PD K F H (zs.foldl (fun d p => putD d p.1 p.2) m) (ws.foldl (fun d p => L2.putK d p.1 p.2) kvs) := by
  induction h with
  | nil => exact fun h => h
  | @cons p q ps qs r t ih =>
    intro m kvs h
    have z := pd_put h p.1 r.2
    rw [show L2.putK kvs p.1 q.2 = L2.putK kvs q.1 q.2 by rw [r.1]] at z
    exact ih z
theorem pd_reps {K : PySem.W.Frag} {m : List (List L2.Key × T)} {kvs : List (List L2.Key × L2.V)} (h : PD K F H m kvs) : kvs = (m.map (·.1)).zip (kvs.map (·.2)) ∧ Reps K F H (m.map (·.2)) (kvs.map (·.2)) := by
  induction h with
  | nil => exact ⟨rfl, rfl⟩
  | @cons p q ps qs r t ih =>
    obtain ⟨i1, i2⟩ := ih
    refine ⟨?_, q.2, _, rfl, r.2, i2⟩
    rw [List.map_cons, List.map_cons, List.zip_cons_cons, ← i1, r.1]
theorem new_dit (S : Sim C F ρ σ H) {m : List (List L2.Key × T)} {kvs : List (List L2.Key × L2.V)} {Q : L2.VK} (w : Wants C σ ρ F H (.t (.dit (m.map (·.1)) (m.map (·.2)))) Q) {p : Addr} (hp : H p = none) (h : PD C.K F H m kvs) : Q (.ref p) (L2.upd H p (.dT kvs)) := by
  have st : Step C ρ σ F H ρ σ (fun q => F q ∨ q = p) (L2.upd H p (.dT kvs)) := (Step.rfl' S).alloc hp (fun _ h => .inl h) fun _ h => h
  obtain ⟨e1, e2⟩ := pd_reps h
  refine w _ _ _ st ⟨p, kvs.map (·.2), rfl, .inr rfl, ?_, by rw [List.length_map, List.length_map], Reps.mono (st.ext S) _ _ e2⟩
  rw [← e1]
  exact L2.upd_same
/-- two of the operands' readings -/
theorem wes_pa {K : LR} {Q : L2.VK} (h : WEs X es σ H (fun vs H2 => K vs H2 Q)) : L2.tCB K (WEs X es) σ H Q := h
theorem Reps.zip {K : PySem.W.Frag} : ∀ {xs : List T} {us : List L2.V}, Reps K F H xs us → ∀ b ∈ xs.zip us, RepT K F H b.1 b.2
  | [], _, h, b, hb => by cases hb
  | x :: xs, _, h, b, hb => by
    obtain ⟨v, r, h1, h2, h3⟩ := h
    subst h1
    rcases List.mem_cons.mp hb with rfl | hb
    · exact h2
    · exact Reps.zip h3 b hb
theorem Reps.of_mem {K : PySem.W.Frag} : ∀ {bs : List TV}, (∀ b ∈ bs, RepT K F H b.1 b.2) → Reps K F H (bs.map (·.1)) (bs.map (·.2))
  | [], _ => Reps.nil
  | b :: bs, h => Reps.cons (h b List.mem_cons_self) (Reps.of_mem fun c hc => h c (List.mem_cons_of_mem _ hc))
theorem bi_ok (S : Sim C F ρ σ H) {bi : Bi} {ts : List T} {vs : List L2.V} {r : A} {Q : L2.VK} (h : PReps C.K F H ts vs) (e : biT bi ts = some r) (w : Wants C σ ρ F H r Q) (hS : biSup bi = true) : biR C.K bi vs H Q := by
  have one : ∀ {x : T} {vs : List L2.V}, PReps C.K F H [x] vs → ∃ v, vs = [v] ∧ PRep C.K F H x v := fun h => by
    obtain ⟨v, r, h1, h2, h3⟩ := h
    cases (show r = [] from h3)
    exact ⟨v, h1, h2⟩
  have twoI : ∀ {i j : Int} {vs : List L2.V}, PReps C.K F H [.int i, .int j] vs → vs = [.int i, .int j] := fun h => by
    obtain ⟨v, r, h1, h2, u, r2, h4, h5, h6⟩ := h
    subst h1 h4
    cases (show r2 = [] from h6)
    cases (show v = _ from h2)
    cases (show u = _ from h5)
    rfl
  cases bi with
  | len =>
    match ts, e, h with
    | [.lst xs], e, h =>
      cases e
      obtain ⟨v, h1, p, us, h2, h3, h4⟩ := one h
      subst h1 h2
      exact .inl ⟨p, us, rfl, .inl (L2.SqL.of h3), by rw [← h4.length]; exact w.here S rfl⟩
    | [.tup xs], e, h =>
      cases e
      obtain ⟨v, h1, p, us, h2, _, h3, h4⟩ := one h
      subst h1 h2
      exact .inl ⟨p, us, rfl, .inr (L2.SqT.of h3), by rw [← h4.length]; exact w.here S rfl⟩
    | [.dit ks xs], e, h =>
      cases e
      obtain ⟨v, h1, p, us, h2, _, h3, h5, h4⟩ := one h
      subst h1 h2
      refine .inr ⟨p, _, rfl, h3, ?_⟩
      have z : (ks.zip us).length = ks.length := by
        rw [List.length_zip, ← h4.length, ← h5, Nat.min_self]
      rw [z]
      exact w.here S rfl
    | [.dik _ _], e, h => cases e
    | [.scr xs], e, h =>
      cases e
      obtain ⟨v, h1, p, h2, h3⟩ := one h
      subst h1 h2
      refine .inl ⟨p, xs.map L2.V.int, rfl, .inl ?_, by rw [List.length_map]; exact w.here S rfl⟩
      rcases h3 with ⟨_, o, h3⟩ | h3
      · exact .inl (.inr ⟨o, h3⟩)
      · exact .inr h3
    | [], e, h => cases e
    | [.non], e, h => cases e
    | [.bl _], e, h => cases e
    | [.int _], e, h => cases e
    | [.str _], e, h => cases e
    | [.ins _ _], e, h => cases e
    | x :: y :: r, e, h => (cases x <;> cases e)
  | list =>
    match ts, e, h with
    | [x], e, h =>
      obtain ⟨xs, e1, e2⟩ := Option.map_eq_some_iff.mp (show (itemsT x).map A.f = some r from e)
      subst e2
      obtain ⟨v, h1, h2⟩ := one h
      obtain ⟨p, us, h3, h4, h5, _⟩ := prep_items h2 e1
      subst h1 h3
      exact ⟨p, us, rfl, h4, fun l hl => w.lst S h5 l hl⟩
    | [], e, h => cases e
    | x :: y :: r, e, h => (cases x <;> cases e)
  | tuple =>
    match ts, e, h with
    | [x], e, h =>
      obtain ⟨xs, e1, e2⟩ := Option.map_eq_some_iff.mp (show ((itemsT x).map fun xs => A.t (.tup xs)) = some r from e)
      subst e2
      obtain ⟨v, h1, h2⟩ := one h
      obtain ⟨p, us, h3, h4, h5, h6⟩ := prep_items h2 e1
      subst h1 h3
      rcases h6 with ⟨h6, _⟩ | ⟨h6, _, hF⟩
      · exact ⟨p, us, rfl, .inl ⟨L2.SqL.of h6, fun l hl => w.tup S h5 l hl⟩⟩
      · exact ⟨p, us, rfl, .inr ⟨L2.SqT.of h6, w.here S ⟨p, us, rfl, hF, h6, h5⟩⟩⟩
    | [], e, h => cases e
    | x :: y :: r, e, h => (cases x <;> cases e)
  | sorted =>
    match ts, e, h with
    | [x], e, h =>
      obtain ⟨v, h1, h2⟩ := one h
      subst h1
      replace e : ((((itemsT x).bind intsT).bind fun is => if is.length < 64 then some (A.f ((sortI is).map .int)) else none) <|> sortD x) = some r := e
      cases e0 : (((itemsT x).bind intsT).bind fun is => if is.length < 64 then some (A.f ((sortI is).map .int)) else none) with
      | some r' =>
        rw [e0] at e
        obtain rfl : r' = r := by simpa using e
        obtain ⟨is, e1, e2⟩ := Option.bind_eq_some_iff.mp e0
        obtain ⟨xs, e3, e4⟩ := Option.bind_eq_some_iff.mp e1
        split at e2
        · rename_i hl
          cases e2
          cases x with
          | lst ys =>
            cases e3
            obtain ⟨p, us, h3, h4, h5⟩ := h2
            subst h3
            have q := reps_ints h5 e4
            subst q
            refine .inl ⟨p, is, rfl, L2.SqL.of h4, hl, fun ns' l p1 p2 hl2 => ?_⟩
            have z : ns' = sortI is := PySem.W.ksm_same (p1.trans (sortI_perm is).symm) p2 (sortI_sorted is)
            subst z
            exact w.lst S (reps_of_ints _) l hl2
          | tup ys =>
            cases e3
            obtain ⟨p, us, h3, _, h4, h5⟩ := h2
            subst h3
            have q := reps_ints h5 e4
            subst q
            refine .inr (.inl ⟨p, is, rfl, h4, hl, fun ns' l p1 p2 hl2 => ?_⟩)
            have z : ns' = sortI is := PySem.W.ksm_same (p1.trans (sortI_perm is).symm) p2 (sortI_sorted is)
            subst z
            exact w.lst S (reps_of_ints _) l hl2
          | _ => cases e3
        · cases e2
      | none =>
        rw [e0] at e
        replace e : sortD x = some r := by simpa using e
        clear e0
        unfold sortD at e
        split at e
        · rename_i xs
          obtain ⟨p, us, h3, h4, h5⟩ := h2
          subst h3
          split at e
          · rename_i hs
            cases e
            have ln := h5.length
            have m1 : (xs.zip us).map (·.1) = xs := by rw [List.map_fst_zip]; omega
            have m2 : (xs.zip us).map (·.2) = us := by rw [List.map_snd_zip]; omega
            obtain ⟨s1, s2, s3, s4⟩ := srt_parts hs
            have rb := Reps.zip h5
            have mt : ∀ b ∈ xs.zip us, b.1 ∈ xs := fun b hb => (List.of_mem_zip hb).1
            refine .inr (.inr ⟨p, xs.zip us, rfl, by rw [m2]; exact h4, fun b hb => ⟨RepT.dp 63 b.1 b.2 (s2 _ (mt b hb)) (rb b hb), by have := (okT_ok 63 b.1 (s2 _ (mt b hb))).2; omega⟩, ?_, ?_, fun l hl => ?_⟩)
            · intro d hd d' hd'
              obtain ⟨b, hb, rfl⟩ := List.mem_map.mp hd
              obtain ⟨b', hb', rfl⟩ := List.mem_map.mp hd'
              exact s4 _ (mt b hb) _ (mt b' hb')
            · refine .inl fun d hd => ?_
              obtain ⟨b, hb, rfl⟩ := List.mem_map.mp hd
              obtain ⟨y, q, hq⟩ := s3 _ (mt b hb)
              exact ⟨toD y, toDs q, by rw [hq]; rfl⟩
            · have z := srt_same (bs := xs.zip us) (by rw [m1]; exact hs)
              rw [m1] at z
              refine w.lst S ?_ l hl
              rw [← z]
              exact Reps.of_mem fun b hb => rb b ((List.mergeSort_perm _ _).mem_iff.mp hb)
          · cases e
        · cases e
    | [], e, h => cases e
    | x :: y :: r, e, h => (cases x <;> cases e)
  | all =>
    match ts, e, h with
    | [.lst xs], e, h =>
      obtain ⟨bs, e1, e2⟩ := Option.map_eq_some_iff.mp (show ((boolsT xs).map fun bs => A.t (.bl (bs.all id))) = some r from e)
      subst e2
      obtain ⟨v, h1, p, us, h2, h3, h4⟩ := one h
      subst h1 h2
      cases reps_bools h4 e1
      exact ⟨p, bs, rfl, L2.SqL.of h3, w.here S rfl⟩
    | [], e, h => cases e
    | [.tup _], e, h => cases e
    | [.scr _], e, h => cases e
    | [.non], e, h => cases e
    | [.bl _], e, h => cases e
    | [.int _], e, h => cases e
    | [.str _], e, h => cases e
    | [.ins _ _], e, h => cases e
    | [.dit _ _], e, h => cases e
    | [.dik _ _], e, h => cases e
    | x :: y :: r, e, h => (cases x <;> cases e)
  | any =>
    match ts, e, h with
    | [.lst xs], e, h =>
      obtain ⟨bs, e1, e2⟩ := Option.map_eq_some_iff.mp (show ((boolsT xs).map fun bs => A.t (.bl (bs.any id))) = some r from e)
      subst e2
      obtain ⟨v, h1, p, us, h2, h3, h4⟩ := one h
      subst h1 h2
      cases reps_bools h4 e1
      exact ⟨p, bs, rfl, L2.SqL.of h3, w.here S rfl⟩
    | [], e, h => cases e
    | [.tup _], e, h => cases e
    | [.scr _], e, h => cases e
    | [.non], e, h => cases e
    | [.bl _], e, h => cases e
    | [.int _], e, h => cases e
    | [.str _], e, h => cases e
    | [.ins _ _], e, h => cases e
    | [.dit _ _], e, h => cases e
    | [.dik _ _], e, h => cases e
    | x :: y :: r, e, h => (cases x <;> cases e)
  | sum =>
    match ts, e, h with
    | [.lst xs], e, h =>
      obtain ⟨bs, e1, e2⟩ := Option.map_eq_some_iff.mp (show ((intsT xs).map fun bs => A.t (.int (sumI bs))) = some r from e)
      subst e2
      obtain ⟨v, h1, p, us, h2, h3, h4⟩ := one h
      subst h1 h2
      cases reps_ints h4 e1
      exact ⟨p, bs, rfl, L2.SqL.of h3, by rw [← sumI_eq]; exact w.here S rfl⟩
    | [], e, h => cases e
    | [.tup _], e, h => cases e
    | [.scr _], e, h => cases e
    | [.non], e, h => cases e
    | [.bl _], e, h => cases e
    | [.int _], e, h => cases e
    | [.str _], e, h => cases e
    | [.ins _ _], e, h => cases e
    | [.dit _ _], e, h => cases e
    | [.dik _ _], e, h => cases e
    | x :: y :: r, e, h => (cases x <;> cases e)
  | repr =>
    match ts, e, h with
    | [x], e, h =>
      obtain ⟨z, e1, e2⟩ := Option.map_eq_some_iff.mp (show (reprT x).map (fun s => A.t (.str s)) = some r from e)
      subst e2
      unfold reprT at e1
      split at e1
      · rename_i hh
        cases e1
        rw [Bool.and_eq_true, Bool.and_eq_true] at hh
        obtain ⟨v, h1, h2⟩ := one h
        obtain ⟨k1, k2⟩ := okT_ok 63 x hh.1.1
        exact ⟨v, toD x, h1, PRep.dp (okT_mono hh.1.1) h2, k1, by omega, hh.1.2, by rw [← big_eq]; exact of_decide_eq_true hh.2, w.here S rfl⟩
      · cases e1
    | [], e, h => cases e
    | x :: y :: r, e, h => (cases x <;> cases e)
  | dict =>
    match ts, e, h with
    | [.lst xs], e, h =>
      have e1 : (if xs.length ≤ big then (pairsD xs).map fun m => A.t (.dit ((dictD m).map (·.1)) ((dictD m).map (·.2))) else none) = some r := e
      split at e1
      · obtain ⟨m, e2, e3⟩ := Option.map_eq_some_iff.mp e1
        subst e3
        obtain ⟨v, h1, p, us, h2, h3, h4⟩ := one h
        subst h1 h2
        obtain ⟨ps, p1, p2, p3⟩ := pairs_ok h4 e2
        refine ⟨p, ps, rfl, by rw [h3, p1], p2, fun q hq => ?_⟩
        have pd := pd_all (m := []) (kvs := []) p3 .nil
        exact new_dit S w hq pd
      · cases e1
    | [], e, h => cases e
    | x :: y :: r, e, h => (cases x <;> cases e)
    | [.tup _], e, h => cases e
    | [.scr _], e, h => cases e
    | [.non], e, h => cases e
    | [.bl _], e, h => cases e
    | [.int _], e, h => cases e
    | [.str _], e, h => cases e
    | [.ins _ _], e, h => cases e
    | [.dit _ _], e, h => cases e
    | [.dik _ _], e, h => cases e
  | max2 =>
    match ts, e, h with
    | [.int i, .int j], e, h => cases e; exact ⟨i, j, twoI h, w.here S rfl⟩
  | min2 =>
    match ts, e, h with
    | [.int i, .int j], e, h => cases e; exact ⟨i, j, twoI h, w.here S rfl⟩
  | abs =>
    match ts, e, h with
    | [.int i], e, h =>
      cases e
      obtain ⟨v, h1, h2⟩ := one h
      cases (show v = _ from h2)
      exact ⟨i, h1, w.here S rfl⟩
  | int =>
    match ts, e, h with
    | [.int i], e, h =>
      cases e
      obtain ⟨v, h1, h2⟩ := one h
      cases (show v = _ from h2)
      exact .inl ⟨i, h1, w.here S rfl⟩
    | [.bl i], e, h =>
      cases e
      obtain ⟨v, h1, h2⟩ := one h
      cases (show v = _ from h2)
      exact .inr ⟨i, h1, w.here S rfl⟩
  | divmod =>
    match ts, e, h with
    | [.int i, .int j], e, h =>
      have e1 : (if 0 < j ∧ j < 1073741824 then some (A.t (.tup [.int (i / j), .int (i % j)])) else none) = some r := e
      split at e1
      · rename_i hh
        cases e1
        exact ⟨i, j, twoI h, hh, fun p hp => w.tup S (vs := [.int (i / j), .int (i % j)]) ⟨_, _, rfl, rfl, _, _, rfl, rfl, rfl⟩ p hp⟩
      · cases e1
  | _ => cases hS
theorem se_bi {bi : Bi} {cs : List Ex} (hK : X.K = C.K) (hc : X.calm = true) (hg : X.A.guards = some []) (hu : X.A.units + 100 < cLine) (hB : BtOk X (biN bi)) (hS : biSup bi = true) (hs : isStar e = false) (hss : es.all (fun e => !isStar e) = true) (h : SOs X G W C (e :: es) (evOs ih cs)) :
    SE X G W C (.Call (.Name (biN bi) p) (e :: es) [] pos) (fun ρ => (evPs ih cs ρ).bind fun ts ρ => ofA? (biT bi ts) ρ) := by
  intro ρ F σ H Q S out
  refine we_of (pe_bi hc hg hu hB hS hs hss (pa_wes (by rw [List.all_cons, hs, hss] <;> rfl))) ?_
  have out1 : OutA G W C ρ σ F H (((evOs ih cs ρ).bind fun os ρ => match ress ρ os with
    | some ts => .ok ts ρ
    | none => .bad).bind fun ts ρ => ofA? (biT bi ts) ρ) Q := out
  refine wes_pa (h ρ F σ H _ S ?_)
  cases q : evOs ih cs ρ with
  | exc c ts ρ' => rw [q] at out1; exact out1
  | bad => rw [q] at out1; exact out1
  | ok os ρ1 =>
    rw [q] at out1
    intro F1 H1 vs st ops
    dsimp only [R.bind] at out1
    cases q2 : ress ρ1 os with
    | none => rw [q2] at out1; exact out1.elim
    | some ts =>
      rw [q2] at out1
      dsimp only at out1
      cases q3 : biT bi ts with
      | none => rw [q3] at out1; exact out1.elim
      | some r =>
        rw [q3] at out1
        rw [hK]
        exact bi_ok st.sim (ress_ok st.sim ops q2) q3 (Wants.of out1 st) hS
end
end PV

set_option Elab.async false
set_option linter.all false
set_option maxRecDepth 100000
set_option maxHeartbeats 1000000
/-! PV, soundness 8: isinstance, subscripts, slices, lists' methods. -/
namespace PV
open PySem PySem.Spec PyProof.Rows
section
variable {X : L2.Cx} {G : Ga} {W : L2.WX} {C : FC} {ρ ρ' : Rho} {σ : LSt} {F F' : FS} {H H' : L2.Hp} {e a b c : Expr} {es rest : List Expr} {pos p : Pos} {ih : Ex → Rho → R A} {ce ca cb cc : Ex}
/-! ### isinstance -/
def tyN : T → String
  | .non => "NoneType" | .bl _ => "bool" | .int _ => "int" | .str _ => "str" | .lst _ => "list" | .tup _ => "tuple" | .ins _ _ => "" | .scr _ => "" | .dit _ _ => "dict" | .dik _ _ => "dict"
def btN : Ty → String
  | .int => "int" | .bool => "bool" | .str => "str" | .list => "list" | .tuple => "tuple" | .cls _ => ""
def btOk : Ty → Bool
  | .cls _ => false
  | _ => true
theorem isi_one {K : PySem.W.Frag} {x : T} {t : Ty} {r : Bool} (ht : btOk t = true) (e : isiT x [t] = some r) : PySem.W.kitOne K (.type (tyN x)) (.type (btN t)) = some (isTy x t) := by
  apply L2.kit_ty
  cases x <;> (first | (cases e; done) | (cases t <;> first | (cases ht; done) | rfl))
theorem isi_tyx {x : T} {v : L2.V} {ts : List Ty} {r : Bool} (h : PRep C.K F H x v) (e : isiT x ts = some r) : L2.TyX C.K H v (.type (tyN x)) := by
  cases x with
  | non => cases (show v = _ from h); exact .base .non
  | bl k => cases (show v = _ from h); exact .base (.bl k)
  | int k => cases (show v = _ from h); exact .base (.int k)
  | str k => cases (show v = _ from h); exact .base (.str k)
  | lst xs =>
    obtain ⟨p, vs, rfl, h2, _⟩ := h
    exact .base (.lst h2)
  | tup xs =>
    obtain ⟨p, vs, rfl, _, h2, _⟩ := h
    exact .base (.tup h2)
  | ins _ _ => cases e
  | scr _ => cases e
  | dit ks xs =>
    obtain ⟨p, vs, rfl, _, h2, _⟩ := h
    exact .base (.dT h2)
  | dik ks xs =>
    obtain ⟨p, vs, rfl, _, h2, _⟩ := h
    exact .base (.dK h2)
theorem isiT_some {x : T} {ts : List Ty} {r : Bool} (e : isiT x ts = some r) : r = ts.any (isTy x) ∧ ∀ us, isiT x us = some (us.any (isTy x)) := by
  cases x <;> first | (cases e; done) | (cases e; exact ⟨rfl, fun _ => rfl⟩)
theorem kit_any {K : PySem.W.Frag} {x : T} {r : Bool} : ∀ {ts : List Ty}, ts.all btOk = true → isiT x ts = some r → PySem.W.kitAny K (.type (tyN x)) (ts.map fun t => .type (btN t)) = some r
  | [], _, e => by rw [(isiT_some e).1]; exact L2.kitAny_nil
  | t :: ts, h, e => by
    rw [List.all_cons, Bool.and_eq_true] at h
    obtain ⟨e1, e2⟩ := isiT_some e
    subst e1
    have k := isi_one (K := K) h.1 (e2 [t])
    refine L2.kitAny_cons k (fun z => ?_) (fun z => ?_)
    · rw [List.any_cons, z, Bool.false_or]
      exact kit_any h.2 (e2 ts)
    · rw [List.any_cons, z, Bool.true_or]
theorem vals_cls : ∀ {ts : List Ty}, Paired L2.ClsV (ts.map fun t => L2.V.ty (btN t)) (ts.map fun t => Value.type (btN t))
  | [] => .nil
  | t :: ts => .cons (.ty _) vals_cls
theorem pe_ty {t : Ty} (hB : BtOk X (btN t)) (ht : btOk t = true) : L2.PE X (.Name (btN t) p) (L2.tC (.ty (btN t))) := by
  cases t <;> first
    | (cases ht; done)
    | exact L2.pe_bltn hB.1 hB.2 boot_int (rfl) (by decide) (by decide)
    | exact L2.pe_bltn hB.1 hB.2 boot_bool (rfl) (by decide) (by decide)
    | exact L2.pe_bltn hB.1 hB.2 boot_str (rfl) (by decide) (by decide)
    | exact L2.pe_bltn hB.1 hB.2 boot_list (rfl) (by decide) (by decide)
    | exact L2.pe_bltn hB.1 hB.2 boot_tuple (rfl) (by decide) (by decide)
/-- a row of built-in types' names -/
inductive TyNames (X : L2.Cx) : List Expr → List Ty → Prop where
  | nil : TyNames X [] []
  | cons {t : Ty} {ts : List Ty} {es : List Expr} {p : Pos} (hB : BtOk X (btN t)) (ht : btOk t = true) (r : TyNames X es ts) : TyNames X (.Name (btN t) p :: es) (t :: ts)
theorem TyNames.all {es : List Expr} {ts : List Ty} (h : TyNames X es ts) : ts.all btOk = true := by
  induction h with
  | nil => rfl
  | cons hB ht r ih => rw [List.all_cons, ht, ih] <;> rfl
theorem TyNames.star {es : List Expr} {ts : List Ty} (h : TyNames X es ts) : es.all (fun e => !isStar e) = true := by
  induction h with
  | nil => rfl
  | cons hB ht r ih => rw [List.all_cons, ih] <;> rfl
theorem TyNames.wes {es : List Expr} {ts : List Ty} (h : TyNames X es ts) : ∀ {H : L2.Hp} {Q : List L2.V → L2.Hp → Prop}, Q (ts.map fun t => .ty (btN t)) H → WEs X es σ H Q := by
  induction h with
  | nil => exact fun q => q
  | cons hB ht r ih => exact fun q => we_of (pe_ty hB ht) (ih q)
def isiC (ih : Ex → Rho → R A) (ca : Ex) (ts : List Ty) (ρ : Rho) : R A := (evP ih ca ρ).bind fun x ρ => ofB (isiT x ts) ρ
theorem isiC_isB {ts : List Ty} : IsB (isiC ih ca ts) := fun ρ a ρ' h => bind_isB (fun x ρ a ρ' h => ofB_isB h) h
theorem se_isi {t : Ty} {p' : Pos} (hK : X.K = C.K) (hI : BtOk X "isinstance") (hB : BtOk X (btN t)) (ht : btOk t = true) (hs : isStar a = false) (h : SO X G W C a (evO ih ca)) :
    SE X G W C (.Call (.Name "isinstance" p) [a, .Name (btN t) p'] [] pos) (isiC ih ca [t]) := by
  intro ρ F σ H Q S out
  refine we_of (L2.pe_callB L2.call_isi hI.1 hI.2 boot_isinstance (L2.pa_cons pe_we (L2.pa_cons (pe_ty hB ht) L2.pa_nil rfl) (star_cons hs)) (by decide) (by decide) (star_cons hs) rfl) ?_
  refine h ρ F σ H _ S (outP_bind out fun x ρ1 o1 F1 H1 v st pr => ?_)
  cases q : isiT x [t] with
  | none => rw [q] at o1; exact o1.elim
  | some r =>
    rw [q] at o1
    have e1 := (isiT_some q).1
    rw [hK]
    refine ⟨v, .ty (btN t), _, _, r, rfl, .ty _, isi_tyx pr q, ?_, (Wants.of o1 st).here st.sim rfl⟩
    rw [isi_one ht q, e1, List.any_cons, List.any_nil, Bool.or_false]
theorem se_isiT {ts : List Ty} {k : Nat} {p' : Pos} (hK : X.K = C.K) (hI : BtOk X "isinstance") (hT : TyNames X es ts) (hl : ts.length ≤ 100) (hs : isStar a = false) (h : SO X G W C a (evO ih ca)) :
    SE X G W C (.Call (.Name "isinstance" p) [a, .Tuple es k p'] [] pos) (isiC ih ca ts) := by
  intro ρ F σ H Q S out
  refine we_of (L2.pe_callB L2.call_isiT hI.1 hI.2 boot_isinstance (L2.pa_cons pe_we (L2.pa_cons (L2.pe_tup (pa_wes hT.star)) L2.pa_nil rfl) (star_cons hs)) (by decide) (by decide) (star_cons hs) rfl) ?_
  refine h ρ F σ H _ S (outP_bind out fun x ρ1 o1 F1 H1 v st pr => ?_)
  cases q : isiT x ts with
  | none => rw [q] at o1; exact o1.elim
  | some r =>
    rw [q] at o1
    refine hT.wes ?_
    refine ⟨by rw [List.length_map, ← big_eq]; exact Nat.le_trans hl (by decide), fun tp htp => ?_⟩
    rw [hK]
    have st2 : Step C ρ1 σ F1 H1 ρ1 σ F1 (L2.upd H1 tp (.tup (ts.map fun t => .ty (btN t)))) := (Step.rfl' st.sim).alloc htp (fun _ h => h) fun _ h => .inl h
    have pr2 : PRep C.K F1 (L2.upd H1 tp (.tup (ts.map fun t => .ty (btN t)))) x v := by
      cases x with
      | lst xs =>
        obtain ⟨p, vs, h1, h2, h3⟩ := pr
        exact ⟨p, vs, h1, upd_keep htp h2, Reps.mono (st2.ext st.sim) _ _ h3⟩
      | _ => exact RepT.mono (st2.ext st.sim) _ _ pr
    exact ⟨v, tp, _, _, _, r, rfl, L2.upd_same, vals_cls, isi_tyx pr2 q, kit_any hT.all q, (Wants.of o1 (st.trans st2)).here st2.sim rfl⟩
end
end PV

set_option Elab.async false
set_option linter.all false
set_option maxRecDepth 100000
set_option maxHeartbeats 1000000
/-! PV, soundness 9: subscripts, slices, lists' methods. -/
namespace PV
open PySem PySem.Spec PyProof.Rows
section
variable {X : L2.Cx} {G : Ga} {W : L2.WX} {C : FC} {ρ ρ' : Rho} {σ : LSt} {F F' : FS} {H H' : L2.Hp} {e a b c : Expr} {es rest : List Expr} {pos p : Pos} {ih : Ex → Rho → R A} {ce ca cb cc : Ex}
def plainIx : Expr → Bool
  | .Slice .. => false
  | _ => true
theorem plainIx_ok (h : plainIx b = true) : L2.PlainIx b := by
  cases b <;> first | (cases h; done) | (exact fun o i => rfl)
theorem idx_ok (S : Sim C F ρ σ H) {x y t : T} {v u : L2.V} {Q : L2.VK} (hx : PRep C.K F H x v) (hy : PRep C.K F H y u) (e : idxT x y = some t) (w : Wants C σ ρ F H (.t t) Q) (hF : ∀ xs, x = .lst xs → ∀ vs p, v = .ref p → H p = some (.lst vs) → Reps C.K F H xs vs) : L2.rIx C.K v u H Q := by
  cases x with
  | lst xs =>
    cases y with
    | int i =>
      cases (show u = _ from hy)
      obtain ⟨p, vs, rfl, h2, h3⟩ := hx
      obtain ⟨j, e1, e2⟩ := Option.bind_eq_some_iff.mp (show ((ixN xs.length i).bind fun j => xs[j]?) = some t from e)
      obtain ⟨z, e3, r⟩ := h3.get e2
      exact .inl ⟨p, vs, i, z, rfl, rfl, L2.SqL.of h2, Option.bind_eq_some_iff.mpr ⟨j, by rw [← h3.length]; exact e1, e3⟩, w.here S r⟩
    | _ => cases e
  | tup xs =>
    cases y with
    | int i =>
      cases (show u = _ from hy)
      obtain ⟨p, vs, rfl, _, h2, h3⟩ := hx
      obtain ⟨j, e1, e2⟩ := Option.bind_eq_some_iff.mp (show ((ixN xs.length i).bind fun j => xs[j]?) = some t from e)
      obtain ⟨z, e3, r⟩ := h3.get e2
      exact .inr (.inl ⟨p, vs, i, z, rfl, rfl, L2.SqT.of h2, Option.bind_eq_some_iff.mpr ⟨j, by rw [← h3.length]; exact e1, e3⟩, w.here S r⟩)
    | _ => cases e
  | scr xs =>
    cases y with
    | int i =>
      cases (show u = _ from hy)
      obtain ⟨p, rfl, h2⟩ := hx
      obtain ⟨j, e1, e2⟩ := Option.bind_eq_some_iff.mp (show ((ixN xs.length i).bind fun j => (xs[j]?).map T.int) = some t from e)
      obtain ⟨k, e3, e4⟩ := Option.map_eq_some_iff.mp e2
      subst e4
      refine .inl ⟨p, xs.map L2.V.int, i, .int k, rfl, rfl, ?_, Option.bind_eq_some_iff.mpr ⟨j, by rw [List.length_map]; exact e1, by rw [List.getElem?_map, e3]; rfl⟩, w.here S rfl⟩
      rcases h2 with ⟨_, o, h3⟩ | h3
      · exact .inl (.inr ⟨o, h3⟩)
      · exact .inr h3
    | _ => cases e
  | _ => cases e
theorem se_idx {cs : List Ex} (hK : X.K = C.K) (hp : plainIx b = true) (h : SOs X G W C [a, b] (evOs ih cs)) : SE X G W C (.Subscript a b pos) (fun ρ => (evOs ih cs ρ).bind fun os ρ => match ress ρ os with
    | some [x, y] => ofT (idxT x y) ρ
    | _ => .bad) := by
  intro ρ F σ H Q S out
  refine we_of (L2.pe_ix L2.ix_seq pe_we pe_we (plainIx_ok hp)) ?_
  refine two (f := fun _ _ => .bad) (K := fun v u Q H => L2.rIx X.K v u H Q) h S out fun x y ρ' F' H' v u st hx hy o1 => ?_
  cases q : idxT x y with
  | none => rw [q] at o1; exact o1.elim
  | some r =>
    rw [q] at o1
    rw [hK]
    refine idx_ok st.sim hx hy q (Wants.of o1 st) ?_
    intro xs ex vs p ev' eh
    subst ex
    obtain ⟨p', vs', h1, h2, h3⟩ := hx
    rw [ev'] at h1
    cases h1
    rw [eh] at h2
    cases h2
    exact h3

/-! ### slices -/
theorem cutV_eq {K : PySem.W.Frag} {xs : List T} {vs : List L2.V} {lo hi : Option Int} (h : Reps K F H xs vs) : Reps K F H (cut xs lo hi) (L2.cutV vs lo hi) := by
  have e : ∀ (n d : Nat) (o : Option Int), sIx n d o = HT.sIx n d o := fun n d o => by cases o <;> rfl
  unfold cut L2.cutV
  rw [e, e, h.length]
  exact (h.drop _).take _
/-- a slice's part -/
def SS (X : L2.Cx) (G : Ga) (W : L2.WX) (C : FC) (e : Option Expr) (r : Rho → R (Option Int)) : Prop := ∃ t, L2.PO X e t ∧ ∀ ρ F σ H Q, Sim C F ρ σ H → (match r ρ with
  | .ok a ρ' => ∀ F' H', Step C ρ σ F H ρ' σ F' H' → Q a H'
  | .exc c ts ρ' => OutX G W C ρ σ F H c ts ρ'
  | .bad => False) → t σ H Q
theorem ss_none : SS X G W C none (evS ih none) := ⟨_, L2.po_none, fun ρ F σ H Q S o => o F H (.rfl' S)⟩
theorem ss_some {ce : Ex} (h : SO X G W C e (evO ih ce)) : SS X G W C (some e) (evS ih (some ce)) := by
  refine ⟨_, L2.po_some pe_we, fun ρ F σ H Q S o => ?_⟩
  refine h ρ F σ H _ S ?_
  have o1 : (match (R.bind ((evO ih ce ρ).bind fun o ρ => match res ρ o with
      | some t => .ok t ρ
      | none => .bad) fun t ρ => match t with
      | .int i => .ok (some i) ρ
      | _ => .bad : R (Option Int)) with
    | .ok a ρ' => ∀ F' H', Step C ρ σ F H ρ' σ F' H' → Q a H'
    | .exc c ts ρ' => OutX G W C ρ σ F H c ts ρ'
    | .bad => False) := o
  cases q : evO ih ce ρ with
  | exc c ts ρ' => rw [q] at o1; exact o1
  | bad => rw [q] at o1; exact o1
  | ok oo ρ1 =>
    rw [q] at o1
    intro F1 H1 v st op
    dsimp only [R.bind] at o1
    cases q2 : res ρ1 oo with
    | none => rw [q2] at o1; exact o1.elim
    | some t =>
      rw [q2] at o1
      have pr := res_prep st.sim op q2
      cases t with
      | int i =>
        cases (show v = _ from pr)
        exact ⟨i, rfl, o1 F1 H1 st⟩
      | _ => exact o1.elim
def slR (K : PySem.W.Frag) : L2.V → Option Int → Option Int → L2.Hp → L2.VK → Prop := fun x lo hi H Q => L2.rSlL K x lo hi H Q ∨ L2.rSlA K x lo hi H Q
theorem slc_ok (S : Sim C F ρ σ H) {x : T} {v : L2.V} {lo hi : Option Int} {r : A} {Q : L2.VK} (hx : PRep C.K F H x v) (e : cutT x lo hi = some r) (w : Wants C σ ρ F H r Q) : slR C.K v lo hi H Q := by
  cases x with
  | lst xs =>
    cases e
    obtain ⟨p, vs, rfl, h2, h3⟩ := hx
    exact .inl ⟨p, vs, rfl, L2.SqL.of h2, fun q hq => w.lst S (cutV_eq h3) q hq⟩
  | tup xs =>
    cases e
    obtain ⟨p, vs, rfl, hF, h2, h3⟩ := hx
    refine .inr ⟨p, vs, rfl, L2.SqT.of h2, fun z => ?_, fun _ q hq => w.tup S (cutV_eq h3) q hq⟩
    have ec : cut xs lo hi = xs := by
      have e0 : ∀ (n d : Nat) (o : Option Int), sIx n d o = HT.sIx n d o := fun n d o => by cases o <;> rfl
      unfold cut
      rw [e0, e0, h3.length, z.1, z.2, List.drop_zero, Nat.sub_zero, ← h3.length, List.take_length]
    rw [ec] at w
    exact w.here S ⟨p, vs, rfl, hF, h2, h3⟩
  | _ => cases e
theorem se_slc {lo hi : Option Expr} {ca : Ex} {cl ch : Option Ex} {p2 : Pos} (hK : X.K = C.K) (h : SO X G W C a (evO ih ca)) (hl : SS X G W C lo (evS ih cl)) (hh : SS X G W C hi (evS ih ch)) :
    SE X G W C (.Subscript a (.Slice lo hi none p2) pos) (fun ρ => (evO ih ca ρ).bind fun o ρ => (evS ih cl ρ).bind fun l ρ => (evS ih ch ρ).bind fun h ρ => match res ρ o with
      | some x => ofA? (cutT x l h) ρ
      | none => .bad) := by
  intro ρ F σ H Q S out
  obtain ⟨tl, pl, fl⟩ := hl
  obtain ⟨th, ph, fh⟩ := hh
  refine we_of (L2.pe_slice (L2.sl_list.or L2.sl_tupA) pe_we pl ph) ?_
  refine h ρ F σ H _ S (outO_bind out fun o ρ1 o1 F1 H1 v st op => ?_)
  refine fl ρ1 F1 σ H1 _ st.sim ?_
  cases q : evS ih cl ρ1 with
  | exc c ts ρ' => rw [q] at o1; exact OutX.later st o1
  | bad => rw [q] at o1; exact o1
  | ok l ρ2 =>
    rw [q] at o1
    intro F2 H2 st2
    refine fh ρ2 F2 σ H2 _ st2.sim ?_
    dsimp only [R.bind] at o1
    cases q2 : evS ih ch ρ2 with
    | exc c ts ρ' => rw [q2] at o1; exact OutX.later (st.trans st2) o1
    | bad => rw [q2] at o1; exact o1
    | ok hh ρ3 =>
      rw [q2] at o1
      intro F3 H3 st3
      dsimp only at o1
      cases q3 : res ρ3 o with
      | none => rw [q3] at o1; exact o1.elim
      | some x =>
        rw [q3] at o1
        dsimp only at o1
        have op3 := (op.step st.sim st2).step st2.sim st3
        have pr := res_prep st3.sim op3 q3
        cases q4 : cutT x l hh with
        | none => rw [q4] at o1; exact o1.elim
        | some r =>
          rw [q4] at o1
          have k := slc_ok st3.sim pr q4 (Wants.of o1 ((st.trans st2).trans st3))
          show L2.rSlL X.K v l hh H3 Q ∨ L2.rSlA X.K v l hh H3 Q
          rw [hK]
          exact k
theorem se_rev {k : Nat} {p1 p2 p3 : Pos} (hK : X.K = C.K) (h : SO X G W C a (evO ih ca)) : SE X G W C (.Subscript a (.Slice none none (some (.UnaryOp .USub (.Constant (.int 1) k p1) p2)) p3) pos) (fun ρ => (evP ih ca ρ).bind fun x ρ => match x with
    | .lst xs => .ok (.f xs.reverse) ρ
    | _ => .bad) := by
  intro ρ F σ H Q S out
  refine we_of (L2.pe_revL pe_we) ?_
  refine h ρ F σ H _ S (outP_bind out fun t ρ1 o1 F1 H1 v st pr => ?_)
  cases t with
  | lst xs =>
    obtain ⟨q, vs, rfl, h2, h3⟩ := pr
    exact ⟨q, vs, rfl, L2.SqL.of h2, fun q' hq => (Wants.of o1 st).lst st.sim h3.reverse q' hq⟩
  | _ => exact o1.elim

/-! ### what is kept -/
theorem outF_bind {f : T → Rho → R A} {Q : L2.VK} {K : L2.VK} (S : Sim C F ρ σ H) (h : OutA G W C ρ σ F H ((evF ih ce ρ).bind f) Q) (k : ∀ t ρ', OutA G W C ρ σ F H (f t ρ') Q → ∀ F' H' v, Step C ρ σ F H ρ' σ F' H' → RepT C.K F' H' t v → K v H') : OutO G W C ρ σ F H (evO ih ce ρ) K := by
  have h0 : OutA G W C ρ σ F H (R.bind ((evO ih ce ρ).bind fun o ρ => match frz ρ o with
      | some (t, ρ) => .ok t ρ
      | none => .bad) f) Q := h
  cases q : evO ih ce ρ with
  | exc c ts ρ' => rw [q] at h0; exact h0
  | bad => rw [q] at h0; exact h0
  | ok o ρ1 =>
    rw [q] at h0
    intro F1 H1 v st op
    dsimp only [R.bind] at h0
    cases q2 : frz ρ1 o with
    | none => rw [q2] at h0; exact h0.elim
    | some pr =>
      obtain ⟨t, ρ2⟩ := pr
      rw [q2] at h0
      obtain ⟨F2, st2, _, rep, _⟩ := frz_ok S st op q2
      exact k t ρ2 h0 F2 H1 v st2 rep

/-! ### methods of a list in a slot -/
theorem pe_nm {i : Nat} {x : Str} (h : NameOk X i x) : L2.PE X (.Name x pos) (L2.tVar i) := L2.pe_var h.1 h.2.1 h.2.2.1 h.2.2.2
theorem own_at (S : Sim C F ρ σ H) {i : Nat} (h : isOwn ρ i = true) : ∃ p vs, σ[i]? = some (some (.ref p)) ∧ H p = some (.lst vs) := by
  unfold isOwn at h
  split at h
  · rename_i k xs e
    obtain ⟨p, vs, h1, h2, _⟩ := S.own e
    exact ⟨p, vs, h1, h2⟩
  · cases h
theorem few_one {o : Expr} {cpos : Pos} (hs : isStar e = false) : ((backTo cpos (starEach [e] X.env)).all (fun x => !x.1) && (backToKw cpos (keywordEach [] X.env)).all (fun x => x.1.isSome)
      && decide ([e].length + ([] : List Keyword).length + (if ([] : List Keyword).isEmpty then 0 else 1) < 30)) = true := by
  rw [star_cons hs]
  rfl
theorem Step.wr {ρs : Rho} {Fs : FS} {Hs : L2.Hp} (st : Step C ρs σ Fs Hs ρ σ F H) {i : Nat} {k : Bool} {xs ys : List T} {p : Addr} {ws : List L2.V} (h : ρ[i]? = some (.o k xs)) (hp : σ[i]? = some (some (.ref p))) (hw : Reps C.K F H ys ws) :
    Step C ρs σ Fs Hs (ρ.set i (.o k ys)) σ F (L2.upd H p (.lst ws)) := st.trans (st.sim.write h hp hw).2
theorem se_app {i : Nat} {x : Str} {apos : Pos} (hK : X.K = C.K) (hn : NameOk X i x) (hl : (apos.endLine == pos.line) = true) (hs : isStar e = false) (h : SO X G W C e (evO ih ce)) : SE X G W C (.Call (.Attribute (.Name x p) "append" apos) [e] [] pos) (fun ρ => match isOwn ρ i with
    | false => .bad
    | true => (evF ih ce ρ).bind (appC i)) := by
  intro ρ F σ H Q S out
  refine we_of (L2.pe_bm PySem.F.plainAttrs_list PySem.F.slot_list_append PySem.F.type_list_append L2.mt_append (pe_nm hn) (L2.pa_cons pe_we L2.pa_nil (star_cons hs)) rfl (few_one (o := e) hs) hl (star_cons hs) rfl) ?_
  dsimp only at out
  cases hi : isOwn ρ i with
  | false => rw [hi] at out; exact out.elim
  | true =>
    rw [hi] at out
    obtain ⟨p, vs, h1, h2⟩ := own_at S hi
    refine ⟨.ref p, h1, .inl ⟨rfl, vs, L2.SqL.of h2⟩, ?_⟩
    refine h ρ F σ H _ S (outF_bind S out fun t ρ1 o1 F1 H1 u st rep => ?_)
    unfold appC at o1
    split at o1
    · rename_i k xs e1
      split at o1
      · rename_i hb
        obtain ⟨p', ws, g1, g2, g3, _⟩ := st.sim.own e1
        rw [h1] at g1
        cases g1
        refine ⟨p, ws, u, rfl, rfl, g2, by rw [← g3.length, ← big_eq]; exact hb, ?_⟩
        have st2 := st.wr e1 h1 (g3.append (show Reps C.K F1 H1 [t] [u] from ⟨u, [], rfl, rep, rfl⟩))
        exact (Wants.of o1 st2).here st2.sim rfl
      · exact o1.elim
    · exact o1.elim
theorem se_ext {i : Nat} {x : Str} {apos : Pos} (hK : X.K = C.K) (hn : NameOk X i x) (hl : (apos.endLine == pos.line) = true) (hs : isStar e = false) (h : SO X G W C e (evO ih ce)) : SE X G W C (.Call (.Attribute (.Name x p) "extend" apos) [e] [] pos) (fun ρ => match isOwn ρ i with
    | false => .bad
    | true => (evP ih ce ρ).bind (extC i)) := by
  intro ρ F σ H Q S out
  refine we_of (L2.pe_bm PySem.F.plainAttrs_list PySem.F.slot_list_extend PySem.F.type_list_extend L2.mt_extend (pe_nm hn) (L2.pa_cons pe_we L2.pa_nil (star_cons hs)) rfl (few_one (o := e) hs) hl (star_cons hs) rfl) ?_
  dsimp only at out
  cases hi : isOwn ρ i with
  | false => rw [hi] at out; exact out.elim
  | true =>
    rw [hi] at out
    obtain ⟨p, vs, h1, h2⟩ := own_at S hi
    refine ⟨.ref p, h1, .inl ⟨rfl, vs, L2.SqL.of h2⟩, ?_⟩
    refine h ρ F σ H _ S (outP_bind out fun t ρ1 o1 F1 H1 u st pr => ?_)
    unfold extC at o1
    split at o1
    · rename_i k xs ys e1
      split at o1
      · rename_i hb
        obtain ⟨p', ws, g1, g2, g3, _⟩ := st.sim.own e1
        rw [h1] at g1
        cases g1
        obtain ⟨q, zs, rfl, z2, z3⟩ := pr
        refine ⟨p, q, ws, zs, rfl, rfl, g2, z2, by rw [← g3.length, ← z3.length, ← big_eq]; exact hb, ?_⟩
        have st2 := st.wr e1 h1 (g3.append z3)
        exact (Wants.of o1 st2).here st2.sim rfl
      · exact o1.elim
    · exact o1.elim
theorem se_pop {i : Nat} {x : Str} {apos : Pos} (hK : X.K = C.K) (hn : NameOk X i x) (hl : (apos.endLine == pos.line) = true) : SE X G W C (.Call (.Attribute (.Name x p) "pop" apos) [] [] pos) (fun ρ => popC i ρ) := by
  intro ρ F σ H Q S out
  refine we_of (L2.pe_bm0 PySem.F.plainAttrs_list PySem.F.slot_list_pop PySem.F.type_list_pop L2.mt_pop (pe_nm hn) rfl hl) ?_
  have o1 : OutA G W C ρ σ F H (popC i ρ) Q := out
  unfold popC at o1
  split at o1
  · rename_i k xs e1
    split at o1
    · rename_i t e2
      obtain ⟨p, ws, g1, g2, g3, _⟩ := S.own e1
      obtain ⟨y, e3, r⟩ := g3.get e2
      refine ⟨.ref p, g1, .inl ⟨rfl, ws, L2.SqL.of g2⟩, p, ws, y, rfl, rfl, g2, by rw [← g3.length]; exact e3, ?_⟩
      have st2 := (Step.rfl' S).wr e1 g1 g3.dropLast
      exact (Wants.of o1 st2).here st2.sim (RepT.mono (st2.ext S) _ _ r)
    · exact o1.elim
  · exact o1.elim
theorem se_popA {i : Nat} {x : Str} {apos : Pos} (hK : X.K = C.K) (hn : NameOk X i x) (hl : (apos.endLine == pos.line) = true) (hs : isStar e = false) (h : SO X G W C e (evO ih ce)) : SE X G W C (.Call (.Attribute (.Name x p) "pop" apos) [e] [] pos) (fun ρ => match isOwn ρ i with
    | false => .bad
    | true => (evP ih ce ρ).bind (popAC i)) := by
  intro ρ F σ H Q S out
  refine we_of (L2.pe_bm PySem.F.plainAttrs_list PySem.F.slot_list_pop PySem.F.type_list_pop L2.mt_popAt (pe_nm hn) (L2.pa_cons pe_we L2.pa_nil (star_cons hs)) rfl (few_one (o := e) hs) hl (star_cons hs) rfl) ?_
  dsimp only at out
  cases hi : isOwn ρ i with
  | false => rw [hi] at out; exact out.elim
  | true =>
    rw [hi] at out
    obtain ⟨p, vs, h1, h2⟩ := own_at S hi
    refine ⟨.ref p, h1, .inl ⟨rfl, vs, L2.SqL.of h2⟩, ?_⟩
    refine h ρ F σ H _ S (outP_bind out fun t ρ1 o1 F1 H1 u st pr => ?_)
    unfold popAC at o1
    split at o1
    · rename_i k xs j e1
      split at o1
      · rename_i m e2
        split at o1
        · rename_i t e3
          split at o1
          case isFalse => exact o1.elim
          rename_i hbig
          obtain ⟨p', ws, g1, g2, g3, _⟩ := st.sim.own e1
          rw [h1] at g1
          cases g1
          cases (show u = _ from pr)
          obtain ⟨y, e4, r⟩ := g3.get e3
          obtain ⟨i1, i2, i3, i4⟩ := L2.ixN_seq (show L2.ixN xs.length j = some m from e2)
          have hz : xs.length < 2 ^ 62 := Nat.lt_of_le_of_lt hbig (by decide)
          refine ⟨p, ws, j, m, y, rfl, rfl, g2, by omega, by omega, by rw [← g3.length]; exact i1, e4, ?_⟩
          have st2 := st.wr e1 h1 (g3.eraseIdx m)
          exact (Wants.of o1 st2).here st2.sim (RepT.mono ((st.sim.write e1 h1 (g3.eraseIdx m)).2.ext st.sim) _ _ r)
        · exact o1.elim
      · exact o1.elim
    · exact o1.elim
theorem findT_ok {n : Nat} {y : T} (hy : okT n y = true) : ∀ {xs : List T} {j : Nat}, xs.all (okT n) = true → findT y xs = some j → ∃ x, (toDs xs)[j]? = some (toD x) ∧ PyData.eqv (toD x) (toD y) = true ∧ ∀ (m : Nat) (z : PyData), m < j → (toDs xs)[m]? = some z → PyData.eqv z (toD y) = false
  | [], j, _, e => by cases e
  | x :: xs, j, h, e => by
    rw [List.all_cons, Bool.and_eq_true] at h
    unfold findT at e
    split at e
    · rename_i he
      cases e
      exact ⟨x, rfl, by rw [eqT_toD n x y h.1 hy]; exact he, fun m z hm => absurd hm (Nat.not_lt_zero _)⟩
    · rename_i he
      obtain ⟨k, e1, e2⟩ := Option.map_eq_some_iff.mp e
      subst e2
      obtain ⟨x', h1, h2, h3⟩ := findT_ok hy h.2 e1
      refine ⟨x', h1, h2, fun m z hm hz => ?_⟩
      cases m with
      | zero =>
        have : toD x = z := Option.some.inj hz
        subst this
        rw [eqT_toD n x y h.1 hy]
        exact Bool.eq_false_iff.mpr he
      | succ m => exact h3 m z (Nat.lt_of_succ_lt_succ hm) hz
theorem se_ixof {apos : Pos} {cs : List Ex} (hK : X.K = C.K) (hu : X.A.units + 65 < cLine) (hb : attributeBase a "index" X.env (eval a X.env) = eval a X.env) (hl : (apos.endLine == pos.line) = true) (hs : isStar e = false) (h1 : SO X G W C a (evO ih ca)) (h : SO X G W C e (evO ih ce)) :
    SE X G W C (.Call (.Attribute a "index" apos) [e] [] pos) (fun ρ => (evO ih ca ρ).bind fun o ρ => match res ρ o with
      | some (.lst _) => (evP ih ce ρ).bind fun y ρ => match res ρ o with
        | some x => ofT (ixofT x y) ρ
        | none => .bad
      | _ => .bad) := by
  intro ρ F σ H Q S out
  refine we_of (L2.pe_bm PySem.F.plainAttrs_list PySem.F.slot_list_index PySem.F.type_list_index (L2.mt_indexD hu) pe_we (L2.pa_cons pe_we L2.pa_nil (star_cons hs)) hb (few_one (o := e) hs) hl (star_cons hs) rfl) ?_
  refine h1 ρ F σ H _ S (outO_bind out fun o ρ1 o1 F1 H1 v st op => ?_)
  cases q : res ρ1 o with
  | none => rw [q] at o1; exact o1.elim
  | some x =>
    rw [q] at o1
    cases x with
    | lst xs =>
      obtain ⟨p, vs, rfl, g2, g3⟩ := res_prep st.sim op q
      refine ⟨.inl ⟨rfl, vs, L2.SqL.of g2⟩, ?_⟩
      refine h ρ1 F1 σ H1 _ st.sim (outP_bind (OutA.later st o1) fun y ρ2 o2 F2 H2 u st2 pr => ?_)
      cases q2 : res ρ2 o with
      | none => rw [q2] at o2; exact o2.elim
      | some x2 =>
        rw [q2] at o2
        dsimp only at o2
        have pr2 := res_prep st2.sim (op.step st.sim st2) q2
        cases q3 : ixofT x2 y with
        | none => rw [q3] at o2; exact o2.elim
        | some r =>
          rw [q3] at o2
          cases x2 with
          | lst ys =>
            simp only [ixofT] at q3
            split at q3
            · rename_i hh
              rw [Bool.and_eq_true] at hh
              obtain ⟨j, e1, e2⟩ := Option.map_eq_some_iff.mp q3
              subst e2
              obtain ⟨x', f1, f2, f3⟩ := findT_ok hh.1 hh.2 e1
              obtain ⟨p', us, k1, k2, k3⟩ := pr2
              cases k1
              rw [hK]
              exact ⟨p, u, toD y, toDs ys, j, toD x', rfl, rfl, .lst (L2.SqL.of k2) (Reps.dps 63 ys us hh.2 k3), PRep.dp (okT_mono hh.1) pr, shaped_of (x := .lst ys) hh.2, shaped_of (okT_mono hh.1), f1, f2, f3, (Wants.of o2 st2).here st2.sim rfl⟩
            · cases q3
          | _ => cases q3
    | _ => exact o1.elim
end
end PV

set_option Elab.async false
set_option linter.all false
set_option maxRecDepth 100000
set_option maxHeartbeats 1000000
/-! PV, soundness 10: statements. -/
namespace PV
open PySem PySem.Spec PyProof.Rows
section
variable {X : L2.Cx} {G : Ga} {W : L2.WX} {C : FC} {ρ ρ' : Rho} {σ σ' : LSt} {F F' : FS} {H H' : L2.Hp} {e a b c : Expr} {es rest : List Expr} {pos p : Pos} {ih : Ex → Rho → R A} {ce ca cb cc : Ex} {st : Stmt} {sts : List Stmt}
theorem sset_get {i j : Nat} {ov u : Option L2.V} (h : (σ.set i ov)[j]? = some u) : (j = i ∧ u = ov) ∨ (j ≠ i ∧ σ[j]? = some u) := by
  by_cases e : j = i
  · subst e
    by_cases hl : j < σ.length
    · rw [List.getElem?_set_self hl] at h
      exact .inl ⟨rfl, (Option.some.inj h).symm⟩
    · rw [List.getElem?_eq_none (by simpa using hl)] at h
      cases h
  · rw [List.getElem?_set_ne (Ne.symm e)] at h
    exact .inr ⟨e, h⟩
theorem sset_getD {i j : Nat} {ov : Option L2.V} (hj : j < σ.length) : (σ.set i ov).getD j none = if j = i then ov else σ.getD j none := by
  rw [List.getD_eq_getElem?_getD, List.getD_eq_getElem?_getD]
  by_cases e : j = i
  · subst e
    rw [List.getElem?_set_self hj, if_pos rfl]; rfl
  · rw [List.getElem?_set_ne (Ne.symm e), if_neg e]
theorem Sim.put (S : Sim C F ρ σ H) {i : Nat} {s : Sl} {ov : Option L2.V} (h : SlRep C F H s ov) (hd : ∀ k xs p, s = .o k xs → ov = some (.ref p) → ¬ Own ρ σ p) : Sim C F (ρ.set i s) (σ.set i ov) H where
  len := by rw [List.length_set, List.length_set]; exact S.len
  sl := fun j t ht => by
    have hj : j < σ.length := by
      have := (List.getElem?_eq_some_iff.mp ht).1
      rw [List.length_set] at this
      rw [← S.len]; exact this
    rw [sset_getD hj]
    rcases set_get ht with ⟨e1, e2⟩ | ⟨n, e⟩
    · rw [if_pos e1, e2]; exact h
    · rw [if_neg n]; exact S.sl j t e
  dis := fun x y k l xs ys q h1 h2 h3 h4 => by
    rcases set_get h1 with ⟨e1, f1⟩ | ⟨n1, f1⟩
    · rcases set_get h2 with ⟨e2, f2⟩ | ⟨n2, f2⟩
      · rw [e1, e2]
      · rcases sset_get h3 with ⟨_, g1⟩ | ⟨m1, _⟩
        · rcases sset_get h4 with ⟨m2, _⟩ | ⟨_, g2⟩
          · exact absurd m2 n2
          · exact absurd ⟨y, l, ys, f2, g2⟩ (hd k xs q f1.symm g1.symm)
        · exact absurd e1 m1
    · rcases sset_get h3 with ⟨m1, _⟩ | ⟨_, g1⟩
      · exact absurd m1 n1
      · rcases set_get h2 with ⟨e2, f2⟩ | ⟨n2, f2⟩
        · rcases sset_get h4 with ⟨_, g2⟩ | ⟨m2, _⟩
          · exact absurd ⟨x, k, xs, f1, g1⟩ (hd l ys q f2.symm g2.symm)
          · exact absurd e2 m2
        · rcases sset_get h4 with ⟨m2, _⟩ | ⟨_, g2⟩
          · exact absurd m2 n2
          · exact S.dis x y k l xs ys q f1 f2 g1 g2
  frz := S.frz
  frN := S.frN
  out := S.out
  sub := S.sub
  mF := S.mF
  dom := S.dom
theorem Own.put_sub {i : Nat} {s : Sl} {ov : Option L2.V} {q : Addr} (h : Own (ρ.set i s) (σ.set i ov) q) : Own ρ σ q ∨ ov = some (.ref q) ∧ ∃ k xs, s = .o k xs := by
  obtain ⟨j, k, xs, h1, h2⟩ := h
  rcases set_get h1 with ⟨e1, f1⟩ | ⟨n1, f1⟩
  · rcases sset_get h2 with ⟨_, g1⟩ | ⟨m1, _⟩
    · exact .inr ⟨g1.symm, k, xs, f1.symm⟩
    · exact absurd e1 m1
  · rcases sset_get h2 with ⟨m1, _⟩ | ⟨_, g1⟩
    · exact absurd m1 n1
    · exact .inl ⟨j, k, xs, f1, g1⟩
/-- a frozen tree is stored -/
theorem Step.put (st : Step C ρ σ F H ρ' σ' F' H') {i : Nat} {t : T} {v : L2.V} (h : RepT C.K F' H' t v) : Step C ρ σ F H (ρ'.set i (.v t)) (σ'.set i (some v)) F' H' where
  sub := st.sub
  keep := st.keep
  new := st.new
  own := fun q z => by
    rcases z.put_sub with z | ⟨_, k, xs, z⟩
    · exact st.own q z
    · cases z
  there := st.there
  sim := st.sim.put ⟨v, rfl, h⟩ fun k xs q z => by cases z
/-- a new list is stored -/
theorem Step.putF (S : Sim C F ρ σ H) (st : Step C ρ σ F H ρ' σ' F' H') {i : Nat} {xs : List T} {q : Addr} {vs : List L2.V} (h0 : H q = none) (h1 : H' q = some (.lst vs)) (h2 : Reps C.K F' H' xs vs) (h3 : ¬ F' q) (h4 : ¬ Own ρ' σ' q) :
    Step C ρ σ F H (ρ'.set i (.o true xs)) (σ'.set i (some (.ref q))) F' H' where
  sub := st.sub
  keep := st.keep
  new := st.new
  own := fun x z => by
    rcases z.put_sub with z | ⟨z, _⟩
    · exact st.own x z
    · cases z; exact .inr h0
  there := st.there
  sim := st.sim.put ⟨q, vs, rfl, h1, h2, h3, S.h0 h0⟩ fun k ys x z1 z2 => by cases z2; exact h4
theorem Step.lose' (st : Step C ρ σ F H ρ' σ' F' H') {i : Nat} : Step C ρ σ F H (ρ'.set i .u) σ' F' H' where
  sub := st.sub
  keep := st.keep
  new := st.new
  own := fun q z => st.own q (z.set_sub fun _ _ => by simp)
  there := st.there
  sim := st.sim.lose i
/-- a slot is wiped -/
theorem Step.wipe (st : Step C ρ σ F H ρ' σ' F' H') {i : Nat} {ov : Option L2.V} : Step C ρ σ F H (ρ'.set i .u) (σ'.set i ov) F' H' where
  sub := st.sub
  keep := st.keep
  new := st.new
  own := fun q z => by
    rcases z.put_sub with z | ⟨_, k, xs, z⟩
    · exact st.own q z
    · cases z
  there := st.there
  sim := st.sim.put trivial fun k xs q z => by cases z

def WS (X : L2.Cx) (st : Stmt) (σ : LSt) (H : L2.Hp) (D : L2.Ends) : Prop := ∀ pins s, L2.Inv X pins σ H s → wpAny (model X.prog X.w) X.A (exec st X.env) (L2.SP X pins D) X.xe s
def WSs (X : L2.Cx) (sts : List Stmt) (σ : LSt) (H : L2.Hp) (D : L2.Ends) : Prop := ∀ pins s, L2.Inv X pins σ H s → wpAny (model X.prog X.w) X.A (execs sts X.env) (L2.SP X pins D) X.xe s
theorem ps_ws : L2.PS X st (fun D σ H => WS X st σ H D) := ⟨fun pins s σ H D I h => h pins s I⟩
theorem ws_of {t : L2.TS} {D : L2.Ends} (p : L2.PS X st t) (h : t D σ H) : WS X st σ H D := fun pins s I => p.run pins s σ H D I h
theorem pss_wss : L2.PSs X sts (fun D σ H => WSs X sts σ H D) := ⟨fun pins s σ H D I h => h pins s I⟩
theorem wss_of {t : L2.TS} {D : L2.Ends} (p : L2.PSs X sts t) (h : t D σ H) : WSs X sts σ H D := fun pins s I => p.run pins s σ H D I h
def RtRep (C : FC) (F' : FS) (H' : L2.Hp) : A → L2.V → Prop
  | .t x, v => RepT C.K F' H' x v
  | .f xs, v => ∃ p vs, v = .ref p ∧ C.H0 p = none ∧ H' p = some (.lst vs) ∧ Reps C.K F' H' xs vs ∧ ¬ F' p
theorem ARep.rt (S : Sim C F ρ σ H) {r : A} {v : L2.V} (h : ARep C.K σ' H ρ' F' H' r v) : RtRep C F' H' r v := by
  cases r with
  | t x => exact h
  | f xs =>
    obtain ⟨p, vs, h1, h2, h3, h4, h5, _⟩ := h
    exact ⟨p, vs, h1, S.h0 h2, h3, h4, h5⟩
def OutS (G : Ga) (W : L2.WX) (C : FC) (ρ : Rho) (σ : LSt) (F : FS) (H : L2.Hp) (r : RS) (D : L2.Ends) : Prop := match r with
  | .nx ρ' => ∀ σ' F' H', Step C ρ σ F H ρ' σ' F' H' → D.nx σ' H'
  | .rt a ρ' => ∀ σ' F' H' v, Step C ρ σ F H ρ' σ' F' H' → RtRep C F' H' a v → D.rt v H'
  | .bk ρ' => ∀ σ' F' H', Step C ρ σ F H ρ' σ' F' H' → D.bk σ' H'
  | .ct ρ' => ∀ σ' F' H', Step C ρ σ F H ρ' σ' F' H' → D.ct σ' H'
  | .exc c ts ρ' => ∀ σ' F' H' cv d, Step C ρ σ F H ρ' σ' F' H' → XR C.K G F' H' c ts cv d → W cv d σ' H'
  | .bad => False
def SS1 (X : L2.Cx) (G : Ga) (W : L2.WX) (C : FC) (st : Stmt) (r : Rho → RS) : Prop := ∀ ρ F σ H D, Sim C F ρ σ H → OutS G W C ρ σ F H (r ρ) D → WS X st σ H D
def SSs (X : L2.Cx) (G : Ga) (W : L2.WX) (C : FC) (sts : List Stmt) (r : Rho → RS) : Prop := ∀ ρ F σ H D, Sim C F ρ σ H → OutS G W C ρ σ F H (r ρ) D → WSs X sts σ H D
theorem OutS.later {ρs : Rho} {σs : LSt} {Fs : FS} {Hs : L2.Hp} {r : RS} {D : L2.Ends} (st : Step C ρs σs Fs Hs ρ σ F H) (h : OutS G W C ρs σs Fs Hs r D) : OutS G W C ρ σ F H r D := by
  cases r with
  | nx ρ' => exact fun σ' F' H' s => h σ' F' H' (st.trans s)
  | rt a ρ' => exact fun σ' F' H' v s x => h σ' F' H' v (st.trans s) x
  | bk ρ' => exact fun σ' F' H' s => h σ' F' H' (st.trans s)
  | ct ρ' => exact fun σ' F' H' s => h σ' F' H' (st.trans s)
  | exc c ts ρ' => exact fun σ' F' H' cv d s x => h σ' F' H' cv d (st.trans s) x
  | bad => exact h
theorem outA_of_rs {r : R A} {f : A → Rho → RS} {D : L2.Ends} {Q : L2.VK} (h : OutS G W C ρ σ F H (RS.of r f) D) (k : ∀ a ρ', OutS G W C ρ σ F H (f a ρ') D → ∀ F' H' v, Step C ρ σ F H ρ' σ F' H' → ARep C.K σ H ρ' F' H' a v → Q v H') : OutA G W C ρ σ F H r Q := by
  cases r with
  | ok a ρ' => exact k a ρ' h
  | exc c ts ρ' => exact fun F' H' cv d s x => h σ F' H' cv d s x
  | bad => exact h
theorem outB_of_rs {r : R Bool} {f : Bool → Rho → RS} {D : L2.Ends} {Q : Bool → L2.Hp → Prop} (h : OutS G W C ρ σ F H (RS.of r f) D) (k : ∀ a ρ', OutS G W C ρ σ F H (f a ρ') D → ∀ F' H', Step C ρ σ F H ρ' σ F' H' → Q a H') : OutB G W C ρ σ F H r Q := by
  cases r with
  | ok a ρ' => exact k a ρ' h
  | exc c ts ρ' => exact fun F' H' cv d s x => h σ F' H' cv d s x
  | bad => exact h
theorem outOs_of_rs {r : R (List Opd)} {f : List Opd → Rho → RS} {D : L2.Ends} {Q : List L2.V → L2.Hp → Prop} (h : OutS G W C ρ σ F H (RS.of r f) D) (k : ∀ a ρ', OutS G W C ρ σ F H (f a ρ') D → ∀ F' H' vs, Step C ρ σ F H ρ' σ F' H' → OpReps C.K σ H ρ' F' H' a vs → Q vs H') : OutOs G W C ρ σ F H r Q := by
  cases r with
  | ok a ρ' => exact k a ρ' h
  | exc c ts ρ' => exact fun F' H' cv d s x => h σ F' H' cv d s x
  | bad => exact h
theorem outF_of_rs {f : T → Rho → RS} {D : L2.Ends} {K : L2.VK} (S : Sim C F ρ σ H) (h : OutS G W C ρ σ F H (RS.of (evF ih ce ρ) f) D) (k : ∀ t ρ', OutS G W C ρ σ F H (f t ρ') D → ∀ F' H' v, Step C ρ σ F H ρ' σ F' H' → RepT C.K F' H' t v → K v H') : OutO G W C ρ σ F H (evO ih ce ρ) K := by
  have h0 : OutS G W C ρ σ F H (RS.of ((evO ih ce ρ).bind fun o ρ => match frz ρ o with
      | some (t, ρ) => .ok t ρ
      | none => .bad) f) D := h
  cases q : evO ih ce ρ with
  | exc c ts ρ' => rw [q] at h0; exact fun F' H' cv d s x => h0 σ F' H' cv d s x
  | bad => rw [q] at h0; exact h0
  | ok o ρ1 =>
    rw [q] at h0
    intro F1 H1 v st op
    dsimp only [R.bind] at h0
    cases q2 : frz ρ1 o with
    | none => rw [q2] at h0; exact h0.elim
    | some pr =>
      obtain ⟨t, ρ2⟩ := pr
      rw [q2] at h0
      obtain ⟨F2, st2, _, rep, _⟩ := frz_ok S st op q2
      exact k t ρ2 h0 F2 H1 v st2 rep
theorem outP_of_rs {f : T → Rho → RS} {D : L2.Ends} {K : L2.VK} (h : OutS G W C ρ σ F H (RS.of (evP ih ce ρ) f) D) (k : ∀ t ρ', OutS G W C ρ σ F H (f t ρ') D → ∀ F' H' v, Step C ρ σ F H ρ' σ F' H' → PRep C.K F' H' t v → K v H') : OutO G W C ρ σ F H (evO ih ce ρ) K := by
  have h0 : OutS G W C ρ σ F H (RS.of ((evO ih ce ρ).bind fun o ρ => match res ρ o with
      | some t => .ok t ρ
      | none => .bad) f) D := h
  cases q : evO ih ce ρ with
  | exc c ts ρ' => rw [q] at h0; exact fun F' H' cv d s x => h0 σ F' H' cv d s x
  | bad => rw [q] at h0; exact h0
  | ok o ρ1 =>
    rw [q] at h0
    intro F1 H1 v st op
    dsimp only [R.bind] at h0
    cases q2 : res ρ1 o with
    | none => rw [q2] at h0; exact h0.elim
    | some t =>
      rw [q2] at h0
      exact k t ρ1 h0 F1 H1 v st (res_prep st.sim op q2)

/-! ### rows of statements -/
theorem ss_nil : SSs X G W C [] (fun ρ => .nx ρ) := fun ρ F σ H D S o => wss_of L2.pss_nil (o σ F H (.rfl' S))
def seqS (r : RS) (f : Rho → RS) : RS := match r with
  | .nx ρ => f ρ
  | x => x
theorem ss_cons {r f : Rho → RS} (h1 : SS1 X G W C st r) (h2 : SSs X G W C sts f) : SSs X G W C (st :: sts) (fun ρ => seqS (r ρ) f) := by
  intro ρ F σ H D S o
  refine wss_of (L2.pss_cons ps_ws pss_wss) ?_
  refine h1 ρ F σ H { D with nx := fun σ1 H1 => WSs X sts σ1 H1 D } S ?_
  dsimp only at o
  cases q : r ρ with
  | nx ρ1 =>
    rw [q] at o
    intro σ1 F1 H1 s1
    exact h2 ρ1 F1 σ1 H1 D s1.sim (OutS.later s1 o)
  | rt a ρ1 => rw [q] at o; exact o
  | bk ρ1 => rw [q] at o; exact o
  | ct ρ1 => rw [q] at o; exact o
  | exc c ts ρ1 => rw [q] at o; exact o
  | bad => rw [q] at o; exact o
theorem ss_expr (h : SE X G W C e (ih ce)) (hs : swapsWith e none pos.line X.env = pure false) : SS1 X G W C (.Expr e pos) (fun ρ => RS.of (ih ce ρ) fun _ ρ => .nx ρ) :=
  fun ρ F σ H D S o => ws_of (L2.ps_expr pe_we hs) (h ρ F σ H _ S (outA_of_rs o fun a ρ1 o1 F1 H1 v s1 _ => o1 σ F1 H1 s1))
theorem ss_ret (h : SE X G W C e (ih ce)) : SS1 X G W C (.Return (some e) pos) (fun ρ => RS.of (ih ce ρ) fun a ρ => .rt a ρ) :=
  fun ρ F σ H D S o => ws_of (L2.ps_ret pe_we) (h ρ F σ H _ S (outA_of_rs o fun a ρ1 o1 F1 H1 v s1 r => o1 σ F1 H1 v s1 (r.rt S)))
theorem ss_retL {i : Nat} {x : Str} (hn : NameOk X i x) : SS1 X G W C (.Return (some (.Name x p)) pos) (fun ρ => match ρ[i]? with
    | some (.o true xs) => .rt (.f xs) ρ
    | some (.v t) => .rt (.t t) ρ
    | _ => .bad) := by
  intro ρ F σ H D S o
  refine ws_of (L2.ps_ret (pe_nm hn)) ?_
  dsimp only at o
  split at o
  · rename_i xs e1
    obtain ⟨q, vs, g1, g2, g3, g4, g5⟩ := S.own e1
    exact ⟨.ref q, g1, o σ F H _ (.rfl' S) ⟨q, vs, rfl, g5, g2, g3, g4⟩⟩
  · rename_i t e1
    obtain ⟨v, g1, g2⟩ := S.sl i _ e1
    exact ⟨v, of_getD g1, o σ F H _ (.rfl' S) g2⟩
  · exact o.elim
theorem ss_retN : SS1 X G W C (.Return none pos) (fun ρ => .rt (.t .non) ρ) := fun ρ F σ H D S o => ws_of L2.ps_retN (o σ F H .non (.rfl' S) rfl)
theorem ss_pass : SS1 X G W C (.Pass pos) (fun ρ => .nx ρ) := fun ρ F σ H D S o => ws_of L2.ps_pass (o σ F H (.rfl' S))
theorem ss_brk : SS1 X G W C (.Break pos) (fun ρ => .bk ρ) := fun ρ F σ H D S o => ws_of L2.ps_break (o σ F H (.rfl' S))
theorem ss_cont : SS1 X G W C (.Continue pos) (fun ρ => .ct ρ) := fun ρ F σ H D S o => ws_of L2.ps_continue (o σ F H (.rfl' S))
/-- a name that may be stored -/
def StoreOk (X : L2.Cx) (i : Nat) (x : Str) : Prop := X.N.Nodup ∧ X.N[i]? = some x ∧ L2.Loc X.env.scope x ∧ (X.fn x = true ∨ X.env.scope.names.lookup x = some .local)
theorem step_store (S : Sim C F ρ σ H) {i : Nat} {a : A} {v : L2.V} (st : Step C ρ σ F H ρ' σ F' H') (r : ARep C.K σ H ρ' F' H' a v) : Step C ρ σ F H (store1 i a ρ') (σ.set i (some v)) F' H' := by
  cases a with
  | t x => exact st.put r
  | f xs =>
    obtain ⟨q, vs, rfl, h2, h3, h4, h5, h6⟩ := r
    exact st.putF S h2 h3 h4 h5 h6
theorem ss_asg {i : Nat} {x : Str} {p' : Pos} (hx : StoreOk X i x) (h : SE X G W C e (ih ce)) (hs : swapsWith e (some (.Name x p')) pos.line X.env = pure false) : SS1 X G W C (.Assign [.Name x p'] e pos) (fun ρ => RS.of (ih ce ρ) fun a ρ => .nx (store1 i a ρ)) :=
  fun ρ F σ H D S o => ws_of (L2.ps_set hx.1 hx.2.1 hx.2.2.1 pe_we hs hx.2.2.2) (h ρ F σ H _ S (outA_of_rs o fun a ρ1 o1 F1 H1 v s1 r => o1 _ F1 H1 (step_store S s1 r)))
theorem ss_par {i j : Nat} {x y : Str} {px py pt pt2 : Pos} {kt k2 : Nat} (hc : X.calm = true) (hx : StoreOk X i x) (hy : StoreOk X j y) (hij : i ≠ j) (lx : X.env.scope.names.lookup x = some .local) (ly : X.env.scope.names.lookup y = some .local) (h1 : SE X G W C a (ih ca)) (h2 : SE X G W C b (ih cb)) (hst : [a, b].all (fun e => !isStar e) = true)
    (hw : swappedStores [.Tuple [.Name x px, .Name y py] kt pt] (.Tuple [a, b] k2 pt2) X.env = pure (some [x, y])) (hs : swapsWithSole [.Tuple [.Name x px, .Name y py] kt pt] (.Tuple [a, b] k2 pt2) pos.line X.env = pure false) :
    SS1 X G W C (.Assign [.Tuple [.Name x px, .Name y py] kt pt] (.Tuple [a, b] k2 pt2) pos) (fun ρ => RS.of (ih ca ρ) fun x ρ => RS.of (ih cb ρ) fun y ρ => .nx (store1 j y (store1 i x ρ))) := by
  intro ρ F σ H D S o
  refine ws_of (L2.ps_par hc hx.1 hx.2.1 hy.2.1 hij lx ly (pa_wes hst) hw hs) ?_
  refine h1 ρ F σ H _ S (outA_of_rs o fun r1 ρ1 o1 F1 H1 v s1 x1 => ?_)
  refine h2 ρ1 F1 σ H1 _ s1.sim ?_
  cases q2 : ih cb ρ1 with
  | exc c ts ρ2 => rw [q2] at o1; exact fun F' H' cv d s x => o1 σ F' H' cv d (s1.trans s) x
  | bad => rw [q2] at o1; exact o1.elim
  | ok r2 ρ2 =>
  rw [q2] at o1
  intro F2 H2 u s2 x2
  have o2 : OutS G W C ρ σ F H (.nx (store1 j r2 (store1 i r1 ρ2))) D := o1
  refine ⟨v, u, rfl, ?_⟩
  have x1' : ARep C.K σ H ρ2 F2 H2 r1 v := by
    cases r1 with
    | t x => exact RepT.mono (s2.ext s1.sim) _ _ x1
    | f xs =>
      obtain ⟨q, vs, g1, g2, g3, g4, g5, g6⟩ := x1
      refine ⟨q, vs, g1, g2, s2.keep q _ g3 g6, Reps.mono (s2.ext s1.sim) _ _ g4, fun z => ?_, fun z => ?_⟩
      · rcases s2.new q z with z | z | z
        · exact g5 z
        · rw [g3] at z; cases z
        · exact g6 z
      · rcases s2.own q z with z | z
        · exact g6 z
        · rw [g3] at z; cases z
  have st1 := step_store (i := i) S (s1.trans s2) x1'
  refine o2 _ F2 H2 ?_
  cases r2 with
  | t x => exact st1.put x2
  | f xs =>
    obtain ⟨q, vs, rfl, g2, g3, g4, g5, g6⟩ := x2
    have hq0 : H q = none := by
      cases z : H q with
      | none => rfl
      | some o => exact absurd g2 (s1.there q (by rw [z]; simp))
    refine st1.putF S hq0 g3 g4 g5 fun z => ?_
    cases r1 with
    | t x =>
      rcases z.put_sub with z | ⟨_, k, xs, z⟩
      · exact g6 z
      · cases z
    | f ys =>
      rcases z.put_sub with z | ⟨z, _⟩
      · exact g6 z
      · obtain ⟨q1, us, k1, _, k3, _⟩ := x1
        rw [k1] at z
        cases z
        rw [g2] at k3
        cases k3
end
end PV

set_option Elab.async false
set_option linter.all false
set_option maxRecDepth 100000
set_option maxHeartbeats 1000000
/-! PV, soundness 11: what loops walk. -/
namespace PV
open PySem PySem.Spec PyProof.Rows
section
variable {X : L2.Cx} {G : Ga} {W : L2.WX} {C : FC} {ρ ρ' : Rho} {σ σ' : LSt} {F F' : FS} {H H' : L2.Hp} {e a b c tg iter : Expr} {es rest : List Expr} {pos p : Pos} {ih : Ex → Rho → R A} {ce ca cb cc : Ex} {st : Stmt} {sts : List Stmt}
/-- the walk's code and the iterator -/
def IvRep (C : FC) (σ : LSt) (Hs : L2.Hp) (ρ : Rho) (F : FS) (H : L2.Hp) : Iv → L2.It → Prop
  | .sq true o, J => ∃ p, OpRep C.K σ Hs ρ F H o (.ref p) ∧ J = L2.Itl C.K p
  | .sq false o, J => ∃ p, OpRep C.K σ Hs ρ F H o (.ref p) ∧ J = L2.Itt C.K p
  | .rg lo n, J => J = L2.Itr lo n
  | .en o, J => ∃ p, OpRep C.K σ Hs ρ F H o (.ref p) ∧ J = L2.Ite C.K p
  | .zp a b, J => ∃ p q, OpRep C.K σ Hs ρ F H a (.ref p) ∧ OpRep C.K σ Hs ρ F H b (.ref q) ∧ J = L2.Itz C.K p q
theorem OpRep.steps {Hs : L2.Hp} (S : Sim C F ρ σ H) {o : Opd} {v : L2.V} (st : Step C ρ σ F H ρ' σ' F' H') (he : ∀ i, o = .d i → σ'[i]? = σ[i]?) (h : OpRep C.K σ Hs ρ F H o v) : OpRep C.K σ' Hs ρ' F' H' o v := by
  cases o with
  | d i => exact (he i rfl).trans h
  | x t => exact RepT.mono (st.ext S) t v h
  | f xs =>
    obtain ⟨p, vs, h1, h2, h3, h4, h5⟩ := h
    refine ⟨p, vs, h1, st.keep p _ h2 h5, Reps.mono (st.ext S) _ _ h3, h4, fun q => ?_⟩
    rcases st.own p q with z | z
    · exact h5 z
    · rw [h2] at z; cases z
def ivSlots : Iv → List Nat
  | .sq _ (.d i) => [i]
  | .sq _ _ => []
  | .rg _ _ => []
  | .en (.d i) => [i]
  | .en _ => []
  | .zp (.d i) (.d j) => [i, j]
  | .zp (.d i) _ => [i]
  | .zp _ (.d j) => [j]
  | .zp _ _ => []
theorem IvRep.steps {Hs : L2.Hp} (S : Sim C F ρ σ H) {iv : Iv} {J : L2.It} (st : Step C ρ σ F H ρ' σ' F' H') (he : ∀ i ∈ ivSlots iv, σ'[i]? = σ[i]?) (h : IvRep C σ Hs ρ F H iv J) : IvRep C σ' Hs ρ' F' H' iv J := by
  cases iv with
  | sq k o =>
    cases k with
    | true =>
      obtain ⟨p, h1, h2⟩ := h
      exact ⟨p, h1.steps S st (fun i z => he i (by subst z; exact List.mem_singleton.mpr rfl)), h2⟩
    | false =>
      obtain ⟨p, h1, h2⟩ := h
      exact ⟨p, h1.steps S st (fun i z => he i (by subst z; exact List.mem_singleton.mpr rfl)), h2⟩
  | rg lo n => exact h
  | en o =>
    obtain ⟨p, h1, h2⟩ := h
    exact ⟨p, h1.steps S st (fun i z => he i (by subst z; exact List.mem_singleton.mpr rfl)), h2⟩
  | zp x y =>
    obtain ⟨p, q, h1, h2, h3⟩ := h
    refine ⟨p, q, h1.steps S st (fun i z => he i ?_), h2.steps S st (fun i z => he i ?_), h3⟩
    · subst z
      cases y <;> simp [ivSlots]
    · subst z
      cases x <;> simp [ivSlots]
theorem turn_end {Hs : L2.Hp} (S : Sim C F ρ σ H) {iv : Iv} {J : L2.It} {i : Nat} (h : IvRep C σ Hs ρ F H iv J) (e : turnAt ρ i iv = some none) : J.stop i H := by
  cases iv with
  | sq k o =>
    cases k with
    | true =>
      obtain ⟨p, h1, h2⟩ := h
      subst h2
      obtain ⟨xs, e1, e2⟩ := Option.map_eq_some_iff.mp (show (((res ρ o).bind listT).map fun xs => xs[i]?) = some none from e)
      obtain ⟨t, e3, e4⟩ := Option.bind_eq_some_iff.mp e1
      cases t <;> first | (cases e4; done) | skip
      cases e4
      obtain ⟨q, vs, g1, g2, g3⟩ := res_prep S h1 e3
      cases g1
      exact ⟨vs, L2.SqL.of g2, by rw [← g3.length]; exact List.getElem?_eq_none_iff.mp e2⟩
    | false =>
      obtain ⟨p, h1, h2⟩ := h
      subst h2
      obtain ⟨xs, e1, e2⟩ := Option.map_eq_some_iff.mp (show (((res ρ o).bind tupT).map fun xs => xs[i]?) = some none from e)
      obtain ⟨t, e3, e4⟩ := Option.bind_eq_some_iff.mp e1
      cases t <;> first | (cases e4; done) | skip
      cases e4
      obtain ⟨q, vs, g1, _, g2, g3⟩ := res_prep S h1 e3
      cases g1
      exact ⟨vs, L2.SqT.of g2, by rw [← g3.length]; exact List.getElem?_eq_none_iff.mp e2⟩
  | rg lo n =>
    have h2 : J = L2.Itr lo n := h
    subst h2
    have e1 : (if i < n then some (T.int (lo + i)) else none) = none := Option.some.inj e
    by_cases z : i < n
    · rw [if_pos z] at e1; cases e1
    · exact Nat.le_of_not_lt z
  | en o =>
    obtain ⟨p, h1, h2⟩ := h
    subst h2
    obtain ⟨xs, e1, e2⟩ := Option.map_eq_some_iff.mp (show (((res ρ o).bind listT).map fun xs => (xs[i]?).map fun x => T.tup [.int i, x]) = some none from e)
    obtain ⟨t, e3, e4⟩ := Option.bind_eq_some_iff.mp e1
    cases t <;> first | (cases e4; done) | skip
    cases e4
    obtain ⟨q, vs, g1, g2, g3⟩ := res_prep S h1 e3
    cases g1
    exact ⟨vs, L2.SqL.of g2, by rw [← g3.length]; exact List.getElem?_eq_none_iff.mp (Option.map_eq_none_iff.mp e2)⟩
  | zp x y =>
    obtain ⟨p, q, h1, h2, h3⟩ := h
    subst h3
    simp only [turnAt] at e
    split at e
    · rename_i xs ys e1 e2
      obtain ⟨t, e3, e4⟩ := Option.bind_eq_some_iff.mp e1
      obtain ⟨u, e5, e6⟩ := Option.bind_eq_some_iff.mp e2
      cases t <;> first | (cases e4; done) | skip
      cases e4
      cases u <;> first | (cases e6; done) | skip
      cases e6
      obtain ⟨_, vs, g1, g2, g3⟩ := res_prep S h1 e3
      cases g1
      obtain ⟨_, us, k1, k2, k3⟩ := res_prep S h2 e5
      cases k1
      refine ⟨vs, us, L2.SqL.of g2, L2.SqL.of k2, ?_⟩
      have e7 := Option.some.inj e
      rw [← g3.length, ← k3.length]
      split at e7
      · cases e7
      · rename_i hno
        by_cases z1 : i < xs.length
        · by_cases z2 : i < ys.length
          · exact absurd (List.getElem?_eq_getElem z2) (hno _ _ (List.getElem?_eq_getElem z1))
          · exact .inr (Nat.le_of_not_lt z2)
        · exact .inl (Nat.le_of_not_lt z1)
    · cases e
/-- what a turn gives -/
def Gives (C : FC) (ρ : Rho) (σ : LSt) (F : FS) (H : L2.Hp) (J : L2.It) (i : Nat) (t : T) : Prop := J.go i H ∧ ∀ x H', J.yld i H x H' → ∃ F', Step C ρ σ F H ρ σ F' H' ∧ RepT C.K F' H' t x
theorem gives_new {ts : List T} (S : Sim C F ρ σ H) {p : Addr} {vs : List L2.V} (hp : H p = none) (h : Reps C.K F H ts vs) : ∃ F', Step C ρ σ F H ρ σ F' (L2.upd H p (.tup vs)) ∧ RepT C.K F' (L2.upd H p (.tup vs)) (.tup ts) (.ref p) := ⟨_, (new_t S hp h).1, (new_t S hp h).2⟩
theorem turn_item {Hs : L2.Hp} (S : Sim C F ρ σ H) {iv : Iv} {J : L2.It} {i : Nat} {t : T} (h : IvRep C σ Hs ρ F H iv J) (e : turnAt ρ i iv = some (some t)) : Gives C ρ σ F H J i t := by
  cases iv with
  | sq k o =>
    cases k with
    | true =>
      obtain ⟨p, h1, h2⟩ := h
      subst h2
      obtain ⟨xs, e1, e2⟩ := Option.map_eq_some_iff.mp (show (((res ρ o).bind listT).map fun xs => xs[i]?) = some (some t) from e)
      obtain ⟨t', e3, e4⟩ := Option.bind_eq_some_iff.mp e1
      cases t' <;> first | (cases e4; done) | skip
      cases e4
      obtain ⟨q, vs, g1, g2, g3⟩ := res_prep S h1 e3
      cases g1
      obtain ⟨v, k1, k2⟩ := g3.get e2
      refine ⟨⟨vs, v, L2.SqL.of g2, k1⟩, fun x H' y => ?_⟩
      obtain ⟨y1, y2⟩ := y
      subst y1
      have z := y2 vs (L2.SqL.of g2)
      rw [k1] at z
      cases z
      exact ⟨F, .rfl' S, k2⟩
    | false =>
      obtain ⟨p, h1, h2⟩ := h
      subst h2
      obtain ⟨xs, e1, e2⟩ := Option.map_eq_some_iff.mp (show (((res ρ o).bind tupT).map fun xs => xs[i]?) = some (some t) from e)
      obtain ⟨t', e3, e4⟩ := Option.bind_eq_some_iff.mp e1
      cases t' <;> first | (cases e4; done) | skip
      cases e4
      obtain ⟨q, vs, g1, _, g2, g3⟩ := res_prep S h1 e3
      cases g1
      obtain ⟨v, k1, k2⟩ := g3.get e2
      refine ⟨⟨vs, v, L2.SqT.of g2, k1⟩, fun x H' y => ?_⟩
      obtain ⟨y1, y2⟩ := y
      subst y1
      have z := y2 vs (L2.SqT.of g2)
      rw [k1] at z
      cases z
      exact ⟨F, .rfl' S, k2⟩
  | rg lo n =>
    have h2 : J = L2.Itr lo n := h
    subst h2
    have e1 : (if i < n then some (T.int (lo + i)) else none) = some t := Option.some.inj e
    by_cases z : i < n
    · rw [if_pos z] at e1
      cases e1
      refine ⟨z, fun x H' y => ?_⟩
      obtain ⟨y1, y2⟩ := y
      subst y1 y2
      exact ⟨F, .rfl' S, rfl⟩
    · rw [if_neg z] at e1; cases e1
  | en o =>
    obtain ⟨p, h1, h2⟩ := h
    subst h2
    obtain ⟨xs, e1, e2⟩ := Option.map_eq_some_iff.mp (show (((res ρ o).bind listT).map fun xs => (xs[i]?).map fun x => T.tup [.int i, x]) = some (some t) from e)
    obtain ⟨x0, e5, e6⟩ := Option.map_eq_some_iff.mp e2
    subst e6
    obtain ⟨t', e3, e4⟩ := Option.bind_eq_some_iff.mp e1
    cases t' <;> first | (cases e4; done) | skip
    cases e4
    obtain ⟨q, vs, g1, g2, g3⟩ := res_prep S h1 e3
    cases g1
    obtain ⟨v, k1, k2⟩ := g3.get e5
    refine ⟨⟨vs, v, L2.SqL.of g2, k1⟩, fun x H' y => ?_⟩
    obtain ⟨q, u, rfl, hq, rfl, y2⟩ := y
    have z := y2 vs (L2.SqL.of g2)
    rw [k1] at z
    cases z
    exact gives_new S hq ⟨_, _, rfl, rfl, _, _, rfl, k2, rfl⟩
  | zp x y =>
    obtain ⟨p, q, h1, h2, h3⟩ := h
    subst h3
    simp only [turnAt] at e
    split at e
    · rename_i xs ys e1 e2
      obtain ⟨t', e3, e4⟩ := Option.bind_eq_some_iff.mp e1
      obtain ⟨u', e5, e6⟩ := Option.bind_eq_some_iff.mp e2
      cases t' <;> first | (cases e4; done) | skip
      cases e4
      cases u' <;> first | (cases e6; done) | skip
      cases e6
      obtain ⟨_, vs, g1, g2, g3⟩ := res_prep S h1 e3
      cases g1
      obtain ⟨_, us, k1, k2, k3⟩ := res_prep S h2 e5
      cases k1
      have e7 := Option.some.inj e
      split at e7
      · rename_i x0 y0 f1 f2
        cases e7
        obtain ⟨v, l1, l2⟩ := g3.get f1
        obtain ⟨u, m1, m2⟩ := k3.get f2
        refine ⟨⟨vs, us, v, u, L2.SqL.of g2, L2.SqL.of k2, l1, m1⟩, fun x H' y => ?_⟩
        obtain ⟨q, a, b, rfl, hq, rfl, y2, y3⟩ := y
        have z := y2 vs (L2.SqL.of g2)
        rw [l1] at z
        cases z
        have z := y3 us (L2.SqL.of k2)
        rw [m1] at z
        cases z
        exact gives_new S hq ⟨_, _, rfl, l2, _, _, rfl, m2, rfl⟩
      · cases e7
    · cases e

/-! ### the iterator's expression -/
def OutI (G : Ga) (W : L2.WX) (C : FC) (ρ : Rho) (σ : LSt) (F : FS) (H : L2.Hp) (r : R Iv) (Q : L2.It → L2.Hp → Prop) : Prop := match r with
  | .ok iv ρ' => ∀ F' H' J, Step C ρ σ F H ρ' σ F' H' → IvRep C σ H ρ' F' H' iv J → Q J H'
  | .exc c ts ρ' => OutX G W C ρ σ F H c ts ρ'
  | .bad => False
def SI (X : L2.Cx) (G : Ga) (W : L2.WX) (C : FC) (tg e : Expr) (r : Rho → R Iv) : Prop := ∃ wi, L2.PI X tg e wi ∧ ∀ ρ F σ H Q, Sim C F ρ σ H → OutI G W C ρ σ F H (r ρ) Q → wi σ H Q
/-- a list or a tuple -/
theorem pi_seq {l : Expr} {tl : L2.TE} (hl : L2.PE X l tl) : L2.PI X tg l (fun σ H R => tl σ H fun x H1 => ∃ a, x = .ref a ∧ (((∃ xs, L2.SqL X.K H1 a xs) ∧ R (L2.Itl X.K a) H1) ∨ ((∃ xs, L2.SqT X.K H1 a xs) ∧ R (L2.Itt X.K a) H1))) := by
  refine ⟨fun pins s σ H R I h => ?_⟩
  refine L2.thn (hl.run pins s σ H _ I h) fun v s1 ⟨x, H1, I1, r1, q1⟩ => ?_
  obtain ⟨a, e, q1⟩ := q1
  subst e
  cases r1
  rcases q1 with ⟨⟨xs, hq⟩, q⟩ | ⟨⟨xs, hq⟩, q⟩
  · obtain ⟨its, rv, p, hz⟩ := I1.list hq
    refine wpAny_pyIter_list p.isList ?_
    refine ⟨s1.heap.objs.size, [s1.heap.objs.size], _, _, H1, rfl, I1.kept (t' := s1.toks) fun b o e => Heap.get?_push_of_some _ e, L2.turn_list a _, ⟨_, Heap.get?_push_size _ rfl, rfl, rfl⟩, fun b hb => ?_, q⟩
    have e : b = s1.heap.objs.size := by simpa using hb
    subst e
    exact I1.fpOk (Nat.le_refl _) (I1.hok.fresh (Nat.le_refl _))
  · obtain ⟨its, rv, p, hz⟩ := I1.tuple hq
    refine wpAny_pyIter_tuple (show s1.heap.IsTuple a its.toArray from p) ?_
    refine ⟨s1.heap.objs.size, [s1.heap.objs.size], _, _, H1, rfl, I1.kept (t' := s1.toks) fun b o e => Heap.get?_push_of_some _ e, L2.turn_tuple a _, ⟨_, Heap.get?_push_size _ rfl, rfl, rfl⟩, fun b hb => ?_, q⟩
    have e : b = s1.heap.objs.size := by simpa using hb
    subst e
    exact I1.fpOk (Nat.le_refl _) (I1.hok.fresh (Nat.le_refl _))
/-- what each kind of walk asks of its operands -/
def itR (K : PySem.W.Frag) (k : Nat) (vs : List L2.V) (H1 : L2.Hp) (R : L2.It → L2.Hp → Prop) : Prop := match k with
  | 0 => ∃ a, vs = [.ref a] ∧ (((∃ xs, L2.SqL K H1 a xs) ∧ R (L2.Itl K a) H1) ∨ ((∃ xs, L2.SqT K H1 a xs) ∧ R (L2.Itt K a) H1))
  | 1 => ∃ j : Int, vs = [.int j] ∧ -(2 ^ 62) ≤ j ∧ j < 2 ^ 62 ∧ R (L2.Itr 0 j.toNat) H1
  | 2 => ∃ i j : Int, vs = [.int i, .int j] ∧ (-(2 ^ 62) ≤ i ∧ i < 2 ^ 62 ∧ -(2 ^ 62) ≤ j ∧ j < 2 ^ 62) ∧ R (L2.Itr i (j - i).toNat) H1
  | 3 => ∃ a xs, vs = [.ref a] ∧ L2.SqL K H1 a xs ∧ R (L2.Ite K a) H1
  | 4 => ∃ a b xs ys, vs = [.ref a, .ref b] ∧ L2.SqL K H1 a xs ∧ L2.SqL K H1 b ys ∧ R (L2.Itz K a b) H1
  | _ => False
theorem opreps1 {Hs : L2.Hp} {o : Opd} {vs : List L2.V} (h : OpReps C.K σ Hs ρ F H [o] vs) : ∃ v, vs = [v] ∧ OpRep C.K σ Hs ρ F H o v := by
  obtain ⟨v, r, h1, h2, h3⟩ := h
  cases (show r = [] from h3)
  exact ⟨v, h1, h2⟩
theorem opreps2 {Hs : L2.Hp} {o p : Opd} {vs : List L2.V} (h : OpReps C.K σ Hs ρ F H [o, p] vs) : ∃ v u, vs = [v, u] ∧ OpRep C.K σ Hs ρ F H o v ∧ OpRep C.K σ Hs ρ F H p u := by
  obtain ⟨v, r, h1, h2, h3⟩ := h
  obtain ⟨u, h4, h5⟩ := opreps1 h3
  subst h4
  exact ⟨v, u, h1, h2, h5⟩
theorem iv_ok {Hs : L2.Hp} (S : Sim C F ρ σ H) {k : Nat} {os : List Opd} {iv : Iv} {vs : List L2.V} {R : L2.It → L2.Hp → Prop} (h : OpReps C.K σ Hs ρ F H os vs) (e : ivOf k ρ os = some iv) (q : ∀ J, IvRep C σ Hs ρ F H iv J → R J H) : itR C.K k vs H R := by
  unfold ivOf at e
  split at e
  · rename_i o
    obtain ⟨v, rfl, h1⟩ := opreps1 h
    split at e
    · rename_i xs e1
      cases e
      obtain ⟨p, us, rfl, g2, g3⟩ := res_prep S h1 e1
      exact ⟨p, rfl, .inl ⟨⟨us, L2.SqL.of g2⟩, q _ ⟨p, h1, rfl⟩⟩⟩
    · rename_i xs e1
      cases e
      obtain ⟨p, us, rfl, _, g2, g3⟩ := res_prep S h1 e1
      exact ⟨p, rfl, .inr ⟨⟨us, L2.SqT.of g2⟩, q _ ⟨p, h1, rfl⟩⟩⟩
    · cases e
  · rename_i o
    obtain ⟨v, rfl, h1⟩ := opreps1 h
    split at e
    · rename_i j e1
      split at e
      · rename_i hb
        cases e
        cases (show v = _ from res_prep S h1 e1)
        exact ⟨j, rfl, hb.1, hb.2, q _ rfl⟩
      · cases e
    · cases e
  · rename_i o o2
    obtain ⟨v, u, rfl, h1, h2⟩ := opreps2 h
    split at e
    · rename_i i j e1 e2
      split at e
      · rename_i hb
        cases e
        cases (show v = _ from res_prep S h1 e1)
        cases (show u = _ from res_prep S h2 e2)
        exact ⟨i, j, rfl, hb, q _ rfl⟩
      · cases e
    · cases e
  · rename_i o
    obtain ⟨v, rfl, h1⟩ := opreps1 h
    split at e
    · rename_i xs e1
      cases e
      obtain ⟨p, us, rfl, g2, g3⟩ := res_prep S h1 e1
      exact ⟨p, us, rfl, L2.SqL.of g2, q _ ⟨p, h1, rfl⟩⟩
    · cases e
  · rename_i o o2
    obtain ⟨v, u, rfl, h1, h2⟩ := opreps2 h
    split at e
    · rename_i xs ys e1 e2
      cases e
      obtain ⟨p, us, rfl, g2, g3⟩ := res_prep S h1 e1
      obtain ⟨p', us', rfl, g2', g3'⟩ := res_prep S h2 e2
      exact ⟨p, p', us, us', rfl, L2.SqL.of g2, L2.SqL.of g2', q _ ⟨p, p', h1, h2, rfl⟩⟩
    · cases e
  · cases e
theorem opreps_x {Hs : L2.Hp} : ∀ {ts : List T} {vs : List L2.V}, Reps C.K F H ts vs → OpReps C.K σ Hs ρ F H (ts.map .x) vs
  | [], _, h => h
  | t :: ts, _, h => by
    obtain ⟨v, r, h1, h2, h3⟩ := h
    exact ⟨v, r, h1, h2, opreps_x h3⟩
theorem wes_iv {cs : List Ex} {k : Nat} {Q : L2.It → L2.Hp → Prop} (h : SOs X G W C es (evOs ih cs)) (S : Sim C F ρ σ H) (out : OutI G W C ρ σ F H (evIv ih k cs ρ) Q) : WEs X es σ H fun vs H1 => itR C.K k vs H1 Q := by
  refine h ρ F σ H _ S ?_
  have o : OutI G W C ρ σ F H ((evOs ih cs ρ).bind fun os ρ => match ivOf k ρ os with
    | some iv => .ok iv ρ
    | none => .bad) Q := out
  cases q : evOs ih cs ρ with
  | exc c ts ρ' => rw [q] at o; exact o
  | bad => rw [q] at o; exact o
  | ok os ρ1 =>
    rw [q] at o
    intro F1 H1 vs st ops
    dsimp only [R.bind] at o
    cases q2 : ivOf k ρ1 os with
    | none => rw [q2] at o; exact o.elim
    | some iv =>
      rw [q2] at o
      exact iv_ok st.sim ops q2 fun J j => o F1 H1 J st j
theorem wes_if {cs : List Ex} {k : Nat} {Q : L2.It → L2.Hp → Prop} (h : SOs X G W C es (evOs ih cs)) (S : Sim C F ρ σ H) (out : OutI G W C ρ σ F H (evIf ih k cs ρ) Q) : WEs X es σ H fun vs H1 => itR C.K k vs H1 Q := by
  refine h ρ F σ H _ S ?_
  have o : OutI G W C ρ σ F H ((evOs ih cs ρ).bind fun os ρ => match frzs ρ os with
    | some (ts, ρ) => match ivOf k ρ (ts.map .x) with
      | some iv => .ok iv ρ
      | none => .bad
    | none => .bad) Q := out
  cases q : evOs ih cs ρ with
  | exc c ts ρ' => rw [q] at o; exact o
  | bad => rw [q] at o; exact o
  | ok os ρ1 =>
    rw [q] at o
    intro F1 H1 vs st ops
    dsimp only [R.bind] at o
    cases q2 : frzs ρ1 os with
    | none => rw [q2] at o; exact o.elim
    | some pr =>
      obtain ⟨ts, ρ2⟩ := pr
      rw [q2] at o
      dsimp only at o
      obtain ⟨F2, st2, _, rs⟩ := frzs_ok S st ops q2
      cases q3 : ivOf k ρ2 (ts.map .x) with
      | none => rw [q3] at o; exact o.elim
      | some iv =>
        rw [q3] at o
        exact iv_ok (Hs := H) st2.sim (opreps_x rs) q3 fun J j => o F2 H1 J st2 j
/-- an iterator's expression: its kind, its operands -/
inductive ItE (X : L2.Cx) : Expr → Expr → Nat → List Expr → Prop where
  | seq {t0 e0 : Expr} : ItE X t0 e0 0 [e0]
  | rg1 {t0 : Expr} {p pos : Pos} {a : Expr} (hB : BtOk X "range") : ItE X t0 (.Call (.Name "range" p) [a] [] pos) 1 [a]
  | rg2 {t0 : Expr} {p pos : Pos} {a b : Expr} (hB : BtOk X "range") : ItE X t0 (.Call (.Name "range" p) [a, b] [] pos) 2 [a, b]
  | en {p pos tpos : Pos} {a : Expr} {ts : List Expr} {kk : Nat} (hB : BtOk X "enumerate") : ItE X (.Tuple ts kk tpos) (.Call (.Name "enumerate" p) [a] [] pos) 3 [a]
  | zp {p pos tpos : Pos} {a b : Expr} {ts : List Expr} {kk : Nat} (hB : BtOk X "zip") : ItE X (.Tuple ts kk tpos) (.Call (.Name "zip" p) [a, b] [] pos) 4 [a, b]
theorem star_all {es : List Expr} {env : PySem.Env} : es.all (fun e => !isStar e) = true → starEach es env = es.map fun e => (false, eval e env) := by
  induction es with
  | nil => intro _; rfl
  | cons e es ih =>
    intro h
    have h1 : (!isStar e && es.all fun e => !isStar e) = true := h
    rw [Bool.and_eq_true, Bool.not_eq_true'] at h1
    rw [star_cons h1.1, ih h1.2]
    rfl
theorem pi_of {k : Nat} (h : ItE X tg e k es) (hs : es.all (fun e => !isStar e) = true) : L2.PI X tg e (fun σ H Q => WEs X es σ H fun vs H1 => itR X.K k vs H1 Q) := by
  cases h with
  | seq =>
    have p := pi_seq (X := X) (tg := tg) (l := e) pe_we
    refine ⟨fun pins s σ H R I h => p.run pins s σ H R I ?_⟩
    refine WE.mono h fun v H1 q => ?_
    obtain ⟨a, e1, q⟩ := q
    cases e1
    exact ⟨a, rfl, q⟩
  | rg1 hB => exact L2.pi_range1 hB.1 hB.2 (pa_wes hs) (star_all hs)
  | @rg2 _ p pos a b hB =>
    refine L2.pi_range2 hB.1 hB.2 (pa_wes hs) (star_all hs) (star_all ?_)
    rw [List.all_cons, Bool.and_eq_true] at hs
    exact hs.2
  | en hB => exact L2.pi_enum hB.1 hB.2 (pa_wes hs) (star_all hs)
  | @zp p pos tpos a b ts kk hB =>
    have hs2 := hs
    rw [List.all_cons, Bool.and_eq_true] at hs2
    refine L2.pi_zip hB.1 hB.2 (pa_wes hs) ?_ (star_plain hs2.2)
    exact star_cons (by simpa using hs2.1)
theorem si_iv {cs : List Ex} {k : Nat} (hK : X.K = C.K) (hI : ItE X tg e k es) (hs : es.all (fun e => !isStar e) = true) (h : SOs X G W C es (evOs ih cs)) : SI X G W C tg e (evIv ih k cs) :=
  ⟨_, pi_of hI hs, fun ρ F σ H Q S o => by
    show WEs X es σ H fun vs H1 => itR X.K k vs H1 Q
    rw [hK]
    exact wes_iv h S o⟩
theorem si_if {cs : List Ex} {k : Nat} (hK : X.K = C.K) (hI : ItE X tg e k es) (hs : es.all (fun e => !isStar e) = true) (h : SOs X G W C es (evOs ih cs)) : SI X G W C tg e (evIf ih k cs) :=
  ⟨_, pi_of hI hs, fun ρ F σ H Q S o => by
    show WEs X es σ H fun vs H1 => itR X.K k vs H1 Q
    rw [hK]
    exact wes_if h S o⟩
end
end PV

set_option Elab.async false
set_option linter.all false
set_option maxRecDepth 100000
set_option maxHeartbeats 1000000
/-! PV, soundness 12: if, while, for; targets. -/
namespace PV
open PySem PySem.Spec PyProof.Rows
section
variable {X : L2.Cx} {G : Ga} {W : L2.WX} {C : FC} {ρ ρ' : Rho} {σ σ' : LSt} {F F' : FS} {H H' : L2.Hp} {e a b c tg iter : Expr} {es rest : List Expr} {pos p : Pos} {ih : Ex → Rho → R A} {ce ca cb cc : Ex} {st : Stmt} {sts ss1 ss2 : List Stmt}
theorem ss_if {r1 r2 : Rho → RS} (hc : SB X G W C c (evB ih cc)) (h1 : SSs X G W C ss1 r1) (h2 : SSs X G W C ss2 r2) : SS1 X G W C (.If c ss1 ss2 pos) (fun ρ => RS.of (evB ih cc ρ) fun x ρ => match x with
    | true => r1 ρ
    | false => r2 ρ) := by
  intro ρ F σ H D S o
  refine ws_of (L2.ps_if pt_wt pss_wss pss_wss) ?_
  refine hc ρ F σ H _ S (outB_of_rs o fun x ρ1 o1 F1 H1 s1 => ?_)
  cases x with
  | true => rw [if_pos rfl]; exact h1 ρ1 F1 σ H1 D s1.sim (OutS.later s1 o1)
  | false => rw [if_neg Bool.false_ne_true]; exact h2 ρ1 F1 σ H1 D s1.sim (OutS.later s1 o1)
theorem ss_while {r1 : Rho → RS} {L : Nat} (hp : PassesOwn (model X.prog X.w) X.A X.env X.xe) (hc : SB X G W C c (evB ih cc)) (h1 : SSs X G W C ss1 r1) : SS1 X G W C (.While c ss1 [] pos) (fun ρ => whlL (evB ih cc) r1 L ρ) := by
  intro ρ F σ H D S o
  refine ws_of (L2.ps_while hp pt_wt pss_wss) ?_
  refine ⟨fun m σ H => ∃ ρ F, Sim C F ρ σ H ∧ OutS G W C ρ σ F H (whlL (evB ih cc) r1 m ρ) D, ⟨L, ρ, F, S, o⟩, ?_⟩
  rintro m σ1 H1 ⟨ρ1, F1, S1, o1⟩
  cases m with
  | zero => exact o1.elim
  | succ m =>
    have o2 : OutS G W C ρ1 σ1 F1 H1 (RS.of (evB ih cc ρ1) fun b ρ => match b with
      | false => .nx ρ
      | true => match r1 ρ with
        | .nx ρ => whlL (evB ih cc) r1 m ρ
        | .ct ρ => whlL (evB ih cc) r1 m ρ
        | .bk ρ => .nx ρ
        | r => r) D := o1
    refine hc ρ1 F1 σ1 H1 _ S1 (outB_of_rs o2 fun x ρ2 o3 F2 H2 s2 => ?_)
    cases x with
    | false => rw [if_neg Bool.false_ne_true]; exact o3 σ1 F2 H2 s2
    | true =>
      rw [if_pos rfl]
      refine ⟨fun σ' H' => ∃ ρ F, Sim C F ρ σ' H' ∧ OutS G W C ρ σ' F H' (whlL (evB ih cc) r1 m ρ) D, fun σ' H' w => ⟨m, Nat.lt_succ_self m, w⟩, ?_⟩
      refine h1 ρ2 F2 σ1 H2 _ s2.sim ?_
      have o4 := OutS.later s2 o3
      dsimp only at o4
      cases q : r1 ρ2 with
      | nx ρ3 => rw [q] at o4; exact fun σ' F' H' s => ⟨ρ3, F', s.sim, OutS.later s o4⟩
      | ct ρ3 => rw [q] at o4; exact fun σ' F' H' s => ⟨ρ3, F', s.sim, OutS.later s o4⟩
      | bk ρ3 => rw [q] at o4; exact o4
      | rt a ρ3 => rw [q] at o4; exact o4
      | exc c ts ρ3 => rw [q] at o4; exact o4
      | bad => rw [q] at o4; exact o4

/-! ### targets -/
def Same (tgs : List Nat) (σ σ' : LSt) : Prop := σ'.length = σ.length ∧ ∀ j, j ∉ tgs → σ'[j]? = σ[j]?
theorem Same.rfl' {tgs : List Nat} : Same tgs σ σ := ⟨rfl, fun _ _ => rfl⟩
theorem Same.set {tgs : List Nat} {i : Nat} {ov : Option L2.V} (hi : i ∈ tgs) (h : Same tgs σ σ') : Same tgs σ (σ'.set i ov) := ⟨by rw [List.length_set]; exact h.1, fun j hj => by
  rw [List.getElem?_set_ne (fun z : i = j => hj (z ▸ hi))]
  exact h.2 j hj⟩
/-- a target's code -/
def SGr (C : FC) (tgs : List Nat) (f : T → Rho → Option Rho) (g : L2.TG) : Prop := ∀ ρ F σ H t v ρ' (Q : LSt → L2.Hp → Prop), Sim C F ρ σ H → RepT C.K F H t v → f t ρ = some ρ' → (∀ σ', Same tgs σ σ' → Step C ρ σ F H ρ' σ' F H → Q σ' H) → g v σ H Q
def SG (X : L2.Cx) (C : FC) (tg : Expr) (tgs : List Nat) (f : T → Rho → Option Rho) : Prop := ∃ g, L2.PG X tg g ∧ SGr C tgs f g
theorem sgr_name {i : Nat} : SGr C [i] (bindTo [i] false) (L2.gName i) := by
  intro ρ F σ H t v ρ' Q S r e q
  cases e
  exact q _ (Same.set (List.mem_singleton.mpr rfl) .rfl') ((Step.rfl' S).put r)
theorem sg_name {i : Nat} {x : Str} (h : StoreOk X i x) : SG X C (.Name x pos) [i] (bindTo [i] false) := ⟨_, L2.pg_name h.1 h.2.1 h.2.2.1 h.2.2.2, sgr_name⟩
inductive NmTs (X : L2.Cx) : List Expr → List Nat → Prop where
  | nil : NmTs X [] []
  | cons {i : Nat} {x : Str} {p : Pos} {es : List Expr} {is : List Nat} (h : StoreOk X i x) (r : NmTs X es is) : NmTs X (.Name x p :: es) (i :: is)
def gNames (is : List Nat) : L2.TGs := match is with
  | [] => L2.gNil
  | i :: is => L2.gCons (L2.gName i) (gNames is)
theorem pgs_names {is : List Nat} (h : NmTs X es is) : L2.PGs X es (gNames is) := by
  induction h with
  | nil => exact L2.pgs_nil
  | cons h r ih => exact L2.pgs_cons (L2.pg_name h.1 h.2.1 h.2.2.1 h.2.2.2) ih
theorem names_len {is : List Nat} (h : NmTs X es is) : (assignEach es X.env).length = is.length ∧ (assignEach es X.env).findIdx? (·.1) = none := by
  induction h with
  | nil => exact ⟨rfl, rfl⟩
  | @cons i x p es is h r ih =>
    refine ⟨congrArg Nat.succ ih.1, ?_⟩
    show (List.findIdx? (·.1) ((false, assign (.Name x p) X.env) :: assignEach es X.env)) = none
    rw [List.findIdx?_cons, ih.2]
    rfl
theorem names_run (tgs : List Nat) : ∀ {is : List Nat} {ts : List T} {ρ ρ' : Rho} {σ : LSt} {vs : List L2.V} {Q : LSt → L2.Hp → Prop}, (∀ i ∈ is, i ∈ tgs) → Sim C F ρ σ H → Reps C.K F H ts vs → setAll is ts ρ = some ρ' → (∀ σ', Same tgs σ σ' → Step C ρ σ F H ρ' σ' F H → Q σ' H) → gNames is vs σ H Q
  | [], [], ρ, ρ', σ, vs, Q, hi, S, r, e, q => by
    cases e
    exact ⟨r, q σ .rfl' (.rfl' S)⟩
  | [], _ :: _, ρ, ρ', σ, vs, Q, hi, S, r, e, q => by cases e
  | _ :: _, [], ρ, ρ', σ, vs, Q, hi, S, r, e, q => by cases e
  | i :: is, t :: ts, ρ, ρ', σ, vs, Q, hi, S, r, e, q => by
    obtain ⟨v, us, rfl, h1, h2⟩ := r
    have st := (Step.rfl' S).put (i := i) h1
    refine ⟨v, us, rfl, ?_⟩
    show gNames is us (σ.set i (some v)) H Q
    refine names_run tgs (fun j hj => hi j (List.mem_cons_of_mem _ hj)) st.sim h2 e fun σ' sm st' => q σ' ?_ (st.trans st')
    have s1 : Same tgs σ (σ.set i (some v)) := Same.set (hi i List.mem_cons_self) .rfl'
    exact ⟨sm.1.trans s1.1, fun j hj => (sm.2 j hj).trans (s1.2 j hj)⟩
theorem setAll_len : ∀ {is : List Nat} {ts : List T} {ρ ρ' : Rho}, setAll is ts ρ = some ρ' → ts.length = is.length
  | [], [], _, _, _ => rfl
  | [], _ :: _, _, _, e => by cases e
  | _ :: _, [], _, _, e => by cases e
  | i :: is, t :: ts, _, _, e => congrArg Nat.succ (setAll_len (is := is) (ts := ts) e)
theorem sgr_tup {is : List Nat} : SGr C is (bindTo is true) (L2.gTup C.K is.length (gNames is)) := by
  intro ρ F σ H t v ρ' Q S r e q
  cases t with
  | tup ts =>
    obtain ⟨p, vs, rfl, hF, h2, h3⟩ := r
    have e1 : setAll is ts ρ = some ρ' := e
    refine ⟨p, vs, rfl, L2.SqT.of h2, ?_, names_run is (fun _ z => z) S h3 e1 q⟩
    rw [← h3.length]
    exact setAll_len e1
  | _ => cases e
theorem sg_tup {is : List Nat} {k : Nat} (hK : X.K = C.K) (hc : X.calm = true) (h : NmTs X es is) : SG X C (.Tuple es k pos) is (bindTo is true) := by
  refine ⟨_, L2.pg_tup hc (pgs_names h) (names_len h).1 (names_len h).2, ?_⟩
  rw [hK]
  exact sgr_tup
/-! ### for -/
def FreeIv (r : Rho → R Iv) : Prop := ∀ ρ iv ρ', r ρ = .ok iv ρ' → ivSlots iv = []
theorem evIf_free {k : Nat} {cs : List Ex} : FreeIv (evIf ih k cs) := by
  intro ρ iv ρ' h
  unfold evIf at h
  cases q : evOs ih cs ρ with
  | exc c ts r => rw [q] at h; cases h
  | bad => rw [q] at h; cases h
  | ok os ρ1 =>
    rw [q] at h
    dsimp only [R.bind] at h
    cases q2 : frzs ρ1 os with
    | none => rw [q2] at h; cases h
    | some pr =>
      obtain ⟨ts, ρ2⟩ := pr
      rw [q2] at h
      dsimp only at h
      cases q3 : ivOf k ρ2 (ts.map .x) with
      | none => rw [q3] at h; cases h
      | some iv' =>
        rw [q3] at h
        cases h
        have key : ∀ {os : List Opd}, (∀ o ∈ os, ∃ t, o = .x t) → ivOf k ρ' os = some iv → ivSlots iv = [] := by
          intro os ho e
          unfold ivOf at e
          split at e
          · rename_i o
            obtain ⟨t, rfl⟩ := ho o List.mem_cons_self
            split at e <;> first | (cases e; rfl) | cases e
          · split at e
            · split at e <;> first | (cases e; rfl) | cases e
            · cases e
          · split at e
            · split at e <;> first | (cases e; rfl) | cases e
            · cases e
          · rename_i o
            obtain ⟨t, rfl⟩ := ho o List.mem_cons_self
            split at e <;> first | (cases e; rfl) | cases e
          · rename_i o o2
            obtain ⟨t, rfl⟩ := ho o List.mem_cons_self
            obtain ⟨t2, rfl⟩ := ho o2 (List.mem_cons_of_mem _ List.mem_cons_self)
            split at e <;> first | (cases e; rfl) | cases e
          · cases e
        refine key (fun o hm => ?_) q3
        obtain ⟨t, _, e⟩ := List.mem_map.mp hm
        exact ⟨t, e.symm⟩
def noSetE : Expr → Bool
  | .Set .. => false
  | _ => true
theorem noSet_ok (h : noSetE iter = true) : ∀ x, foldedSetIterable iter X.env x = pure x := by
  intro x
  cases iter <;> first | (cases h; done) | rfl
theorem outI_of_rs {r : R Iv} {f : Iv → Rho → RS} {D : L2.Ends} {Q : L2.It → L2.Hp → Prop} (h : OutS G W C ρ σ F H (RS.of r f) D) (k : ∀ a ρ', r = .ok a ρ' → OutS G W C ρ σ F H (f a ρ') D → ∀ F' H' J, Step C ρ σ F H ρ' σ F' H' → IvRep C σ H ρ' F' H' a J → Q J H') : OutI G W C ρ σ F H r Q := by
  cases r with
  | ok a ρ' => exact k a ρ' rfl h
  | exc c ts ρ' => exact fun F' H' cv d s x => h σ F' H' cv d s x
  | bad => exact h
theorem ss_for {r1 : Rho → RS} {ri : Rho → R Iv} {L : Nat} {tgs : List Nat} {tp : Bool} (hp : PassesOwn (model X.prog X.w) X.A X.env X.xe) (hc : X.calm = true) (hf : FreeIv ri) (hs : noSetE iter = true) (hi : SI X G W C tg iter ri) (ht : SG X C tg tgs (bindTo tgs tp)) (h1 : SSs X G W C ss1 r1) :
    SS1 X G W C (.For tg iter ss1 [] pos) (fun ρ => RS.of (ri ρ) fun iv ρ => forL (forTurn tgs tp r1) iv L 0 ρ) := by
  intro ρ F σ H D S o
  obtain ⟨wi, pi, fi⟩ := hi
  obtain ⟨g, pg, fg⟩ := ht
  refine ws_of (L2.ps_for hp hc pi pg pss_wss (noSet_ok hs)) ?_
  refine fi ρ F σ H _ S (outI_of_rs o fun iv ρ0 hiv o1 F0 H0 J s0 j0 => ?_)
  have hfr := hf ρ iv ρ0 hiv
  refine ⟨fun i m σ1 H1 => ∃ ρ1 F1, Sim C F1 ρ1 σ1 H1 ∧ IvRep C σ1 H ρ1 F1 H1 iv J ∧ OutS G W C ρ1 σ1 F1 H1 (forL (forTurn tgs tp r1) iv m i ρ1) D, ⟨L, ρ0, F0, s0.sim, j0, OutS.later s0 o1⟩, ?_⟩
  rintro i m σ1 H1 ⟨ρ1, F1, S1, j1, o2⟩
  cases m with
  | zero => exact o2.elim
  | succ m =>
    have o3 : OutS G W C ρ1 σ1 F1 H1 (match turnAt ρ1 i iv with
      | none => .bad
      | some none => .nx ρ1
      | some (some t) => match forTurn tgs tp r1 t ρ1 with
        | .nx ρ => forL (forTurn tgs tp r1) iv m (i + 1) ρ
        | .ct ρ => forL (forTurn tgs tp r1) iv m (i + 1) ρ
        | .bk ρ => .nx ρ
        | r => r) D := o2
    cases q : turnAt ρ1 i iv with
    | none => rw [q] at o3; exact o3.elim
    | some ot =>
      cases ot with
      | none =>
        rw [q] at o3
        exact .inl ⟨turn_end S1 j1 q, o3 σ1 F1 H1 (.rfl' S1)⟩
      | some t =>
        rw [q] at o3
        dsimp only at o3
        obtain ⟨g1, g2⟩ := turn_item S1 j1 q
        refine .inr ⟨g1, fun σ' H' => ∃ ρ2 F2, Sim C F2 ρ2 σ' H' ∧ IvRep C σ' H ρ2 F2 H' iv J ∧ OutS G W C ρ2 σ' F2 H' (forL (forTurn tgs tp r1) iv m (i + 1) ρ2) D, fun σ' H' w => ⟨m, Nat.lt_succ_self m, w⟩, fun x H' y => ?_⟩
        obtain ⟨F2, s2, r2⟩ := g2 x H' y
        unfold forTurn at o3
        cases q2 : bindTo tgs tp t ρ1 with
        | none => rw [q2] at o3; exact o3.elim
        | some ρ2 =>
          rw [q2] at o3
          dsimp only at o3
          refine fg ρ1 F2 σ1 H' t x ρ2 _ s2.sim r2 q2 fun σ2 _ s3 => ?_
          have sx := s2.trans s3
          have jx : IvRep C σ2 H ρ2 F2 H' iv J := j1.steps S1 sx (by rw [hfr]; exact fun i hi => absurd hi (by simp))
          refine h1 ρ2 F2 σ2 H' _ s3.sim ?_
          have o4 := OutS.later sx o3
          cases q3 : r1 ρ2 with
          | nx ρ3 => rw [q3] at o4; exact fun σ' F' H' s => ⟨ρ3, F', s.sim, jx.steps s3.sim s (by rw [hfr]; exact fun i hi => absurd hi (by simp)), OutS.later s o4⟩
          | ct ρ3 => rw [q3] at o4; exact fun σ' F' H' s => ⟨ρ3, F', s.sim, jx.steps s3.sim s (by rw [hfr]; exact fun i hi => absurd hi (by simp)), OutS.later s o4⟩
          | bk ρ3 => rw [q3] at o4; exact o4
          | rt a ρ3 => rw [q3] at o4; exact o4
          | exc c ts ρ3 => rw [q3] at o4; exact o4
          | bad => rw [q3] at o4; exact o4
end
end PV

set_option Elab.async false
set_option linter.all false
set_option maxRecDepth 100000
set_option maxHeartbeats 1000000
/-! PV, soundness 13: comprehensions. -/
namespace PV
open PySem PySem.Spec PyProof.Rows
section
variable {X : L2.Cx} {G : Ga} {W : L2.WX} {C : FC} {ρ ρ' ρ0 ρ1 : Rho} {σ σ' : LSt} {F F' F0 F1 : FS} {H H' H0 H1 : L2.Hp} {e a b c tg iter elt : Expr} {es rest : List Expr} {pos p : Pos} {ih : Ex → Rho → R A} {ce ca cb cc : Ex} {vs : List Nat}
theorem Step.wipes {ρs : Rho} {σs : LSt} {Fs : FS} {Hs : L2.Hp} (st : Step C ρs σs Fs Hs ρ σ F H) : ∀ vs : List Nat, Step C ρs σs Fs Hs (wipeE ρ vs) (L2.wipe σ vs) F H
  | [] => st
  | v :: vs => (Step.wipes st vs).wipe
theorem wipe_out {j : Nat} : ∀ {vs : List Nat}, j ∉ vs → (L2.wipe σ vs)[j]? = σ[j]?
  | [], _ => rfl
  | v :: vs, h => by
    unfold L2.wipe
    rw [List.mem_cons, not_or] at h
    rw [List.getElem?_set_ne (fun z : v = j => h.1 z.symm)]
    exact wipe_out h.2
theorem wipe_in {j : Nat} : ∀ {vs : List Nat}, j ∈ vs → j < σ.length → (L2.wipe σ vs)[j]? = some none
  | v :: vs, h, hl => by
    unfold L2.wipe
    by_cases z : v = j
    · subst z
      rw [List.getElem?_set_self (by rw [L2.wipe_length]; exact hl)]
    · rw [List.getElem?_set_ne z]
      exact wipe_in ((List.mem_cons.mp h).resolve_left fun e => z e.symm) hl
theorem wipeE_out {j : Nat} : ∀ {vs : List Nat}, j ∉ vs → (wipeE ρ vs)[j]? = ρ[j]?
  | [], _ => rfl
  | v :: vs, h => by
    unfold wipeE
    rw [List.mem_cons, not_or] at h
    rw [List.getElem?_set_ne (fun z : v = j => h.1 z.symm)]
    exact wipeE_out h.2
theorem wipeE_length (ρ : Rho) : ∀ vs : List Nat, (wipeE ρ vs).length = ρ.length
  | [] => rfl
  | v :: vs => by unfold wipeE; rw [List.length_set, wipeE_length ρ vs]
theorem wipe_same {tgs : List Nat} (h : ∀ i ∈ tgs, i ∈ vs) (s : Same tgs (L2.wipe σ vs) σ') : L2.wipe σ' vs = L2.wipe σ vs := by
  have hl : σ'.length = σ.length := by rw [s.1, L2.wipe_length]
  apply List.ext_getElem?
  intro j
  by_cases hj : j ∈ vs
  · by_cases hb : j < σ.length
    · rw [wipe_in hj hb, wipe_in hj (by rw [hl]; exact hb)]
    · rw [List.getElem?_eq_none (by rw [L2.wipe_length, hl]; omega), List.getElem?_eq_none (by rw [L2.wipe_length]; omega)]
  · rw [wipe_out hj, s.2 j (fun z => hj (h j z))]
theorem backE_length (ρ0 ρ : Rho) : ∀ vs : List Nat, (backE ρ0 ρ vs).length = ρ.length
  | [] => rfl
  | v :: vs => by unfold backE; rw [List.length_set, backE_length ρ0 ρ vs]
theorem backE_out {j : Nat} : ∀ {vs : List Nat}, j ∉ vs → (backE ρ0 ρ vs)[j]? = ρ[j]?
  | [], _ => rfl
  | v :: vs, h => by
    unfold backE
    rw [List.mem_cons, not_or] at h
    rw [List.getElem?_set_ne (fun z : v = j => h.1 z.symm)]
    exact backE_out h.2
theorem backE_in {j : Nat} : ∀ {vs : List Nat}, j ∈ vs → j < ρ.length → (backE ρ0 ρ vs)[j]? = some ((ρ0[j]?).getD .u)
  | v :: vs, h, hl => by
    unfold backE
    by_cases z : v = j
    · subst z
      rw [List.getElem?_set_self (by rw [backE_length]; exact hl)]
    · rw [List.getElem?_set_ne z]
      exact backE_in ((List.mem_cons.mp h).resolve_left fun e => z e.symm) hl
theorem plainSl_at (h : plainSl vs ρ = true) {j : Nat} (hj : j ∈ vs) : (∀ k xs, ρ[j]? ≠ some (.o k xs)) ∧ ∀ xs, ρ[j]? ≠ some (.b xs) := by
  have q := List.all_eq_true.mp h j hj
  refine ⟨fun k xs e => ?_, fun xs e => ?_⟩
  · rw [e] at q; cases q
  · rw [e] at q; cases q
theorem own_wiped {q : Addr} (hp : plainSl vs ρ = true) : Own (wipeE ρ vs) (L2.wipe σ vs) q ↔ Own ρ σ q := by
  constructor
  · rintro ⟨j, k, xs, h1, h2⟩
    by_cases hj : j ∈ vs
    · by_cases hb : j < σ.length
      · rw [wipe_in hj hb] at h2; cases h2
      · rw [List.getElem?_eq_none (by rw [L2.wipe_length]; omega)] at h2; cases h2
    · rw [wipeE_out hj] at h1
      rw [wipe_out hj] at h2
      exact ⟨j, k, xs, h1, h2⟩
  · rintro ⟨j, k, xs, h1, h2⟩
    have hj : j ∉ vs := fun z => (plainSl_at hp z).1 k xs h1
    exact ⟨j, k, xs, by rw [wipeE_out hj]; exact h1, by rw [wipe_out hj]; exact h2⟩
/-- behind a comprehension: its own slots are as they were -/
theorem Step.back (S : Sim C F0 ρ0 σ H0) (hp : plainSl vs ρ0 = true) (st : Step C (wipeE ρ0 vs) (L2.wipe σ vs) F0 H0 ρ1 (L2.wipe σ vs) F1 H1) : Step C ρ0 σ F0 H0 (backE ρ0 ρ1 vs) σ F1 H1 := by
  have hl : ρ1.length = σ.length := by rw [st.sim.len, L2.wipe_length]
  have own1 : ∀ q, Own (backE ρ0 ρ1 vs) σ q → Own ρ1 (L2.wipe σ vs) q := by
    rintro q ⟨j, k, xs, h1, h2⟩
    by_cases hj : j ∈ vs
    · have hb : j < ρ1.length := by
        have := (List.getElem?_eq_some_iff.mp h1).1
        rw [backE_length] at this
        exact this
      rw [backE_in hj hb] at h1
      cases z : ρ0[j]? with
      | none => rw [z] at h1; cases h1
      | some s =>
        rw [z] at h1
        exact absurd (z.trans h1) ((plainSl_at hp hj).1 k xs)
    · rw [backE_out hj] at h1
      exact ⟨j, k, xs, h1, by rw [wipe_out hj]; exact h2⟩
  have ext := st.ext (Step.wipes (Step.rfl' S) vs).sim
  refine ⟨st.sub, fun q o h1 h2 => st.keep q o h1 fun z => h2 ((own_wiped hp).mp z), fun q h => ?_, fun q h => ?_, st.there, ?_⟩
  · rcases st.new q h with z | z | z
    · exact .inl z
    · exact .inr (.inl z)
    · exact .inr (.inr ((own_wiped hp).mp z))
  · rcases st.own q (own1 q h) with z | z
    · exact .inl ((own_wiped hp).mp z)
    · exact .inr z
  · have T1 := st.sim
    refine ⟨by rw [backE_length]; exact hl, fun j s hs => ?_, fun i j k l xs ys q h1 h2 h3 h4 => ?_, T1.frz, T1.frN, T1.out, T1.sub, T1.mF, T1.dom⟩
    · have hb : j < ρ1.length := by
        have := (List.getElem?_eq_some_iff.mp hs).1
        rw [backE_length] at this
        exact this
      by_cases hj : j ∈ vs
      · rw [backE_in hj hb] at hs
        cases z : ρ0[j]? with
        | none =>
          rw [z] at hs
          cases hs
          trivial
        | some s0 =>
          rw [z] at hs
          cases hs
          have q := S.sl j _ z
          cases s0 with
          | u => trivial
          | v t =>
            obtain ⟨v, q1, q2⟩ := q
            exact ⟨v, q1, RepT.mono ext t v q2⟩
          | o k xs => exact absurd z ((plainSl_at hp hj).1 k xs)
          | b xs => exact absurd z ((plainSl_at hp hj).2 xs)
      · rw [backE_out hj] at hs
        have q := T1.sl j s hs
        rw [List.getD_eq_getElem?_getD, wipe_out hj, ← List.getD_eq_getElem?_getD] at q
        exact q
    · have nin : ∀ {j : Nat} {k : Bool} {xs : List T}, (backE ρ0 ρ1 vs)[j]? = some (.o k xs) → j ∉ vs ∧ ρ1[j]? = some (.o k xs) := fun {j k xs} h => by
        have hb : j < ρ1.length := by
          have := (List.getElem?_eq_some_iff.mp h).1
          rw [backE_length] at this
          exact this
        by_cases hj : j ∈ vs
        · rw [backE_in hj hb] at h
          cases z : ρ0[j]? with
          | none => rw [z] at h; cases h
          | some s =>
            rw [z] at h
            exact absurd (z.trans h) ((plainSl_at hp hj).1 k xs)
        · rw [backE_out hj] at h
          exact ⟨hj, h⟩
      obtain ⟨n1, f1⟩ := nin h1
      obtain ⟨n2, f2⟩ := nin h2
      exact T1.dis i j k l xs ys q f1 f2 (by rw [wipe_out n1]; exact h3) (by rw [wipe_out n2]; exact h4)
/-- a list that nobody holds is written -/
theorem Step.poke {ρs : Rho} {σs : LSt} {Fs : FS} {Hs : L2.Hp} (st : Step C ρs σs Fs Hs ρ σ F H) {D : Addr} {ws : List L2.V} (h0 : Hs D = none) (hC : C.H0 D = none) (h2 : ¬ F D) (h3 : ¬ Own ρ σ D) : Step C ρs σs Fs Hs ρ σ F (L2.upd H D (.lst ws)) ∧ Ext F H F (L2.upd H D (.lst ws)) := by
  have ne : ∀ q, q ≠ D → L2.upd H D (.lst ws) q = H q := fun q n => L2.upd_ne n
  have ex : Ext F H F (L2.upd H D (.lst ws)) := ⟨fun q z => z, fun q o z1 z2 => by rw [ne q (fun z => h2 (z ▸ z1))]; exact z2⟩
  refine ⟨⟨st.sub, fun q o z1 z2 => ?_, st.new, st.own, fun q z => upd_there (st.there q z), ?_⟩, ex⟩
  · rw [ne q]
    · exact st.keep q o z1 z2
    · rintro rfl
      rw [h0] at z1; cases z1
  · refine st.sim.move ex (fun q z => upd_there (st.sim.frz q z)) st.sim.frN (fun q o z1 z2 => ?_) (fun q z => upd_there (st.sim.dom q z)) fun q z => ⟨ne q ?_, fun z2 => st.sim.nown z2 z⟩
    · rw [ne q]
      · exact st.sim.out q o z1 z2
      · rintro rfl
        rw [hC] at z1; cases z1
    · rintro rfl
      exact h3 z
end
end PV

set_option Elab.async false
set_option linter.all false
set_option maxRecDepth 100000
set_option maxHeartbeats 1000000
/-! PV, soundness 14: comprehensions. -/
namespace PV
open PySem PySem.Spec PyProof.Rows
abbrev W0 : L2.WX := fun _ _ _ _ => False
section
variable {X : L2.Cx} {G : Ga} {W : L2.WX} {C : FC} {ρ ρ' ρ0 ρ1 : Rho} {σ σ' : LSt} {F F' F0 F1 : FS} {H H' H0 H1 : L2.Hp} {e a b c tg iter elt : Expr} {es rest : List Expr} {pos p : Pos} {ih : Ex → Rho → R A} {ce ca cb cc ct : Ex} {vs : List Nat} {scope : Scope} {own : List (Str × Nat)}
/-- a claim about every block context -/
def InBlk (X : L2.Cx) (scope : Scope) (φ : L2.Cx → Prop) : Prop := ∀ (s : Shared) (H : L2.Hp) (Cc : Addr) (cl : List (Str × Addr)) (fp : List Addr), φ (X.blk s H scope (compEnvC scope cl Cc X.env) fp)
theorem opF_of {Q : L2.VK} (S : Sim C F ρ σ H) {y : T} {ρ2 : Rho} (h : evF ih ct ρ = .ok y ρ2) (q : ∀ F' H' v, Step C ρ σ F H ρ2 σ F' H' → RepT C.K F' H' y v → Q v H') : OutO G W C ρ σ F H (evO ih ct ρ) Q := by
  have h0 : ((evO ih ct ρ).bind fun o ρ => match frz ρ o with
      | some (t, ρ) => (.ok t ρ : R T)
      | none => .bad) = .ok y ρ2 := h
  cases q0 : evO ih ct ρ with
  | exc c ts ρ' => rw [q0] at h0; cases h0
  | bad => rw [q0] at h0; cases h0
  | ok o ρ1 =>
    rw [q0] at h0
    intro F1 H1 v st op
    dsimp only [R.bind] at h0
    cases q2 : frz ρ1 o with
    | none => rw [q2] at h0; cases h0
    | some pr =>
      obtain ⟨t, ρ2'⟩ := pr
      rw [q2] at h0
      cases h0
      obtain ⟨F2, st2, _, rep, _⟩ := frz_ok S st op q2
      exact q F2 H1 v st2 rep
theorem opB_of {Q : Bool → L2.Hp → Prop} {k : Bool} {ρ2 : Rho} (h : evB ih ct ρ = .ok k ρ2) (q : ∀ F' H', Step C ρ σ F H ρ2 σ F' H' → Q k H') : OutB G W C ρ σ F H (evB ih ct ρ) Q := by
  rw [h]
  exact q
/-- a comprehension's code -/
def compC (ih : Ex → Rho → R A) (ri : Rho → R Iv) (L : Nat) (vs : List Nat) (tgs : List Nat) (tp : Bool) (cond : Option Ex) (ct : Ex) (ρ : Rho) : R A := (ri ρ).bind fun iv ρ0 => match ivFree vs iv && plainSl vs ρ0 with
  | false => .bad
  | true => match compL (compTurn ih vs tgs tp cond ct) iv L 0 [] (wipeE ρ0 vs) with
    | .ok a ρ => .ok a (backE ρ0 ρ vs)
    | _ => .bad
/-- the tests of a comprehension -/
inductive Conds (X : L2.Cx) (scope : Scope) (G : Ga) (C : FC) (ih : Ex → Rho → R A) : List Expr → Option Ex → Prop where
  | none : Conds X scope G C ih [] none
  | some {c : Expr} {cc : Ex} (h : InBlk X scope fun Y => SB Y G W0 C c (evB ih cc)) : Conds X scope G C ih [c] (some cc)
theorem ivFree_ok {own : List Nat} {iv : Iv} (h : ivFree own iv = true) : ∀ i ∈ ivSlots iv, i ∉ own := by
  have nc : ∀ {i : Nat}, (!own.contains i) = true → i ∉ own := fun {i} z q => by
    rw [List.contains_iff_mem.mpr q] at z
    cases z
  intro i hi
  cases iv with
  | sq k o =>
    cases o with
    | d j => rw [List.mem_singleton.mp hi]; exact nc h
    | x t => cases hi
    | f xs => cases hi
  | rg lo n => cases hi
  | en o =>
    cases o with
    | d j => rw [List.mem_singleton.mp hi]; exact nc h
    | x t => cases hi
    | f xs => cases hi
  | zp x y =>
    cases x with
    | d j =>
      cases y with
      | d l =>
        have h2 : (!own.contains j && !own.contains l) = true := h
        rw [Bool.and_eq_true] at h2
        rcases List.mem_cons.mp hi with z | z
        · rw [z]; exact nc h2.1
        · rw [List.mem_singleton.mp z]; exact nc h2.2
      | x t => rw [List.mem_singleton.mp hi]; exact nc h
      | f xs => rw [List.mem_singleton.mp hi]; exact nc h
    | x t =>
      cases y with
      | d l => rw [List.mem_singleton.mp hi]; exact nc h
      | x t => cases hi
      | f xs => cases hi
    | f xs =>
      cases y with
      | d l => rw [List.mem_singleton.mp hi]; exact nc h
      | x t => cases hi
      | f xs => cases hi
theorem held_step {D : Addr} {us : List L2.V} (st : Step C ρ σ F H ρ' σ' F' H') (h1 : H D = some (.lst us)) (h2 : ¬ F D) (h3 : ¬ Own ρ σ D) : H' D = some (.lst us) ∧ ¬ F' D ∧ ¬ Own ρ' σ' D := by
  refine ⟨st.keep D _ h1 h3, fun z => ?_, fun z => ?_⟩
  · rcases st.new D z with z | z | z
    · exact h2 z
    · rw [h1] at z; cases z
    · exact h3 z
  · rcases st.own D z with z | z
    · exact h3 z
    · rw [h1] at z; cases z
theorem own_unwipe {q : Addr} (h : Own (wipeE ρ vs) (L2.wipe σ vs) q) : Own ρ σ q := by
  obtain ⟨j, k, xs, h1, h2⟩ := h
  by_cases hj : j ∈ vs
  · by_cases hb : j < σ.length
    · rw [wipe_in hj hb] at h2; cases h2
    · rw [List.getElem?_eq_none (by rw [L2.wipe_length]; omega)] at h2; cases h2
  · rw [wipeE_out hj] at h1
    rw [wipe_out hj] at h2
    exact ⟨j, k, xs, h1, h2⟩
theorem own_back (hp : plainSl vs ρ0 = true) {q : Addr} (h : Own (backE ρ0 ρ1 vs) σ q) : Own ρ1 (L2.wipe σ vs) q := by
  obtain ⟨j, k, xs, h1, h2⟩ := h
  by_cases hj : j ∈ vs
  · have hb : j < ρ1.length := by
      have := (List.getElem?_eq_some_iff.mp h1).1
      rw [backE_length] at this
      exact this
    rw [backE_in hj hb] at h1
    cases z : ρ0[j]? with
    | none => rw [z] at h1; cases h1
    | some s =>
      rw [z] at h1
      exact absurd (z.trans h1) ((plainSl_at hp hj).1 k xs)
  · rw [backE_out hj] at h1
    exact ⟨j, k, xs, h1, by rw [wipe_out hj]; exact h2⟩
theorem comp_core {ri : Rho → R Iv} {g : L2.TG} {tgs : List Nat} {tp : Bool} {cond : Option Ex} {ifs : List Expr} {L : Nat} (hK : X.K = C.K) (hc : X.calm = true) (hN : X.N.Nodup) (ok : L2.BlkOk X.N X.env.scope scope own) (hs : noSetE iter = true) (hi : SI X G W C tg iter ri)
    (hg : InBlk X scope fun Y => L2.PG Y tg g) (hr : SGr C tgs (bindTo tgs tp) g) (hsub : ∀ i ∈ tgs, i ∈ own.map (·.2)) (hcd : Conds X scope G C ih ifs cond) (he : InBlk X scope fun Y => SO Y G W0 C elt (evO ih ct)) :
    ∃ wi tt te, L2.PI X tg iter wi ∧ (∀ (s : Shared) (H : L2.Hp) (Cc : Addr) (cl : List (Str × Addr)) (fp : List Addr), L2.PTs (X.blk s H scope (compEnvC scope cl Cc X.env) fp) ifs tt) ∧
      (∀ (s : Shared) (H : L2.Hp) (Cc : Addr) (cl : List (Str × Addr)) (fp : List Addr), L2.PE (X.blk s H scope (compEnvC scope cl Cc X.env) fp) elt te) ∧
      ∀ ρ F σ H Q, Sim C F ρ σ H → OutA G W C ρ σ F H (compC ih ri L (own.map (·.2)) tgs tp cond ct ρ) Q → L2.tLc wi g tt te (own.map (·.2)) σ H Q := by
  obtain ⟨wi, pi, fi⟩ := hi
  generalize hvs : own.map (·.2) = vs at *
  have ht : ∃ tt : L2.TT, (∀ (s : Shared) (H : L2.Hp) (Cc : Addr) (cl : List (Str × Addr)) (fp : List Addr), L2.PTs (X.blk s H scope (compEnvC scope cl Cc X.env) fp) ifs tt) ∧
      ∀ ρ F σ H t k ρ2 (Q : Bool → L2.Hp → Prop), Sim C F ρ σ H → (match cond with | none => t = true ∧ k = true ∧ ρ2 = ρ | some cc => evB ih cc ρ = .ok k ρ2) → (∀ F' H', Step C ρ σ F H ρ2 σ F' H' → Q k H') → tt σ H Q := by
    cases hcd with
    | none =>
      refine ⟨_, fun s H Cc cl fp => L2.pts_nil, fun ρ F σ H t k ρ2 Q S e q => ?_⟩
      obtain ⟨_, e1, e2⟩ := e
      subst e1 e2
      exact q F H (.rfl' S)
    | @some c cc h =>
      refine ⟨fun σ H Q => ∀ (s : Shared) (H9 : L2.Hp) (Cc : Addr) (cl : List (Str × Addr)) (fp : List Addr), WT (X.blk s H9 scope (compEnvC scope cl Cc X.env) fp) c σ H Q, fun s H Cc cl fp => L2.pts_one ⟨fun pins s1 σ H Q I h => h _ _ _ _ _ pins s1 I⟩, fun ρ F σ H t k ρ2 Q S e q => ?_⟩
      exact fun s H9 Cc cl fp => h s H9 Cc cl fp ρ F σ H Q S (opB_of e q)
  obtain ⟨tt, pt, ft⟩ := ht
  have pe : ∀ (s : Shared) (H : L2.Hp) (Cc : Addr) (cl : List (Str × Addr)) (fp : List Addr), L2.PE (X.blk s H scope (compEnvC scope cl Cc X.env) fp) elt (fun σ H Q => ∀ (s : Shared) (H9 : L2.Hp) (Cc : Addr) (cl : List (Str × Addr)) (fp : List Addr), WE (X.blk s H9 scope (compEnvC scope cl Cc X.env) fp) elt σ H Q) :=
    fun s H Cc cl fp => ⟨fun pins s1 σ H Q I h => h _ _ _ _ _ pins s1 I⟩
  refine ⟨wi, tt, _, pi, pt, pe, fun ρ F σ H Q S out => ?_⟩
  unfold compC at out
  refine fi ρ F σ H _ S ?_
  cases q0 : ri ρ with
  | exc c ts ρ' => rw [q0] at out; exact out
  | bad => rw [q0] at out; exact out
  | ok iv ρ0 =>
  rw [q0] at out
  intro F0 H0 J s0 j0 D hD
  dsimp only [R.bind] at out
  cases q1 : ivFree vs iv && plainSl vs ρ0 with
  | false => rw [q1] at out; exact out.elim
  | true =>
  rw [q1] at out
  dsimp only at out
  rw [Bool.and_eq_true] at q1
  have free := ivFree_ok q1.1
  cases q2 : compL (compTurn ih vs tgs tp cond ct) iv L 0 [] (wipeE ρ0 vs) with
  | exc c ts ρ' => rw [q2] at out; exact out.elim
  | bad => rw [q2] at out; exact out.elim
  | ok res ρf =>
  rw [q2] at out
  dsimp only at out
  have hHD : H D = none := by
    cases z : H D with
    | none => rfl
    | some o => exact absurd hD (s0.there D (by rw [z]; simp))
  have hCD : C.H0 D = none := S.h0 hHD
  have sw : Step C ρ0 σ F0 H0 (wipeE ρ0 vs) (L2.wipe σ vs) F0 H0 := (Step.rfl' s0.sim).wipes vs
  have jw : IvRep C (L2.wipe σ vs) H (wipeE ρ0 vs) F0 H0 iv J := j0.steps s0.sim sw fun i hi => wipe_out (free i hi)
  have S0 := sw.sim
  have nD : ¬ F0 D := fun z => s0.sim.frz D z hD
  have noD : ¬ Own (wipeE ρ0 vs) (L2.wipe σ vs) D := fun z => by
    obtain ⟨i, k, xs, h1, h2⟩ := z
    obtain ⟨q, us, g1, g2, _⟩ := S0.own h1
    rw [h2] at g1
    cases g1
    rw [hD] at g2
    cases g2
  refine ⟨fun i m H1 => ∃ ρ1 F1 acc us, Step C (wipeE ρ0 vs) (L2.wipe σ vs) F0 H0 ρ1 (L2.wipe σ vs) F1 H1 ∧ H1 D = some (.lst us) ∧ Reps C.K F1 H1 acc us ∧ ¬ F1 D ∧ ¬ Own ρ1 (L2.wipe σ vs) D ∧
    compL (compTurn ih vs tgs tp cond ct) iv m i acc ρ1 = .ok res ρf, ⟨L, wipeE ρ0 vs, F0, [], [], (Step.rfl' S0).alloc hD (fun _ h => h) (fun _ h => .inl h), L2.upd_same, rfl, nD, noD, q2⟩, ?_⟩
  rintro i m H1 ⟨ρ1, F1, acc, us, s1, hd1, ra, n1, o1, ev⟩
  have j1 : IvRep C (L2.wipe σ vs) H ρ1 F1 H1 iv J := jw.steps S0 s1 fun _ _ => rfl
  cases m with
  | zero => cases ev
  | succ m =>
  have ev1 : (match turnAt ρ1 i iv with
    | none => .bad
    | some none => .ok (.f acc) ρ1
    | some (some t) => match compTurn ih vs tgs tp cond ct t ρ1 with
      | .ok (some y) ρ => if acc.length < big then compL (compTurn ih vs tgs tp cond ct) iv m (i + 1) (acc ++ [y]) ρ else .bad
      | .ok none ρ => compL (compTurn ih vs tgs tp cond ct) iv m (i + 1) acc ρ
      | _ => .bad) = R.ok res ρf := ev
  cases q3 : turnAt ρ1 i iv with
  | none => rw [q3] at ev1; cases ev1
  | some ot =>
  cases ot with
  | none =>
    rw [q3] at ev1
    cases ev1
    refine .inl ⟨turn_end s1.sim j1 q3, ?_⟩
    have sb := Step.back s0.sim q1.2 s1
    exact out F1 H1 (.ref D) (s0.trans sb) ⟨D, us, rfl, hHD, hd1, ra, n1, fun z => o1 (own_back q1.2 z)⟩
  | some t =>
    rw [q3] at ev1
    dsimp only at ev1
    obtain ⟨g1, g2⟩ := turn_item s1.sim j1 q3
    refine .inr ⟨g1, fun H' => ∃ ρ2 F2 acc2 us2, Step C (wipeE ρ0 vs) (L2.wipe σ vs) F0 H0 ρ2 (L2.wipe σ vs) F2 H' ∧ H' D = some (.lst us2) ∧ Reps C.K F2 H' acc2 us2 ∧ ¬ F2 D ∧ ¬ Own ρ2 (L2.wipe σ vs) D ∧
      compL (compTurn ih vs tgs tp cond ct) iv m (i + 1) acc2 ρ2 = .ok res ρf, fun H' w => ⟨m, Nat.lt_succ_self m, w⟩, fun x H' y => ?_⟩
    obtain ⟨F2, s2, r2⟩ := g2 x H' y
    unfold compTurn at ev1
    cases q4 : bindTo tgs tp t ρ1 with
    | none => rw [q4] at ev1; cases ev1
    | some ρ2 =>
    rw [q4] at ev1
    dsimp only at ev1
    refine hr ρ1 F2 (L2.wipe σ vs) H' t x ρ2 _ s2.sim r2 q4 fun σ2 sm s3 => ⟨wipe_same hsub sm, ?_⟩
    have st2 := s2.trans s3
    have wsame := wipe_same hsub sm
    have h2 := held_step st2 hd1 n1 o1
    have ra2 := Reps.mono (st2.ext s1.sim) _ _ ra
    have S1 := s1.trans st2
    -- the item is put in
    have fin : ∀ {ρ3 ρ4 : Rho} {F3 : FS} {H3 : L2.Hp} {y : T}, Step C ρ2 σ2 F2 H' ρ3 σ2 F3 H3 → evF ih ct ρ3 = .ok y ρ4 → (if acc.length < big then compL (compTurn ih vs tgs tp cond ct) iv m (i + 1) (acc ++ [y]) (wipeE ρ4 vs) else .bad) = R.ok res ρf →
        ∀ (s : Shared) (H9 : L2.Hp) (Cc : Addr) (cl : List (Str × Addr)) (fp : List Addr), WE (X.blk s H9 scope (compEnvC scope cl Cc X.env) fp) elt σ2 H3 fun y H4 => ∃ acc, H4 D = some (.lst acc) ∧ acc.length < sizeLine ∧ (∃ ρ2 F2 acc2 us2, Step C (wipeE ρ0 vs) (L2.wipe σ vs) F0 H0 ρ2 (L2.wipe σ vs) F2 (L2.upd H4 D (.lst (acc ++ [y]))) ∧ (L2.upd H4 D (.lst (acc ++ [y]))) D = some (.lst us2) ∧ Reps C.K F2 (L2.upd H4 D (.lst (acc ++ [y]))) acc2 us2 ∧ ¬ F2 D ∧ ¬ Own ρ2 (L2.wipe σ vs) D ∧
          compL (compTurn ih vs tgs tp cond ct) iv m (i + 1) acc2 ρ2 = .ok res ρf) := by
      intro ρ3 ρ4 F3 H3 y s4 e5 e6 s H9 Cc cl fp
      refine he s H9 Cc cl fp ρ3 F3 σ2 H3 _ s4.sim (opF_of s4.sim e5 fun F4 H4 v s5 rep => ?_)
      split at e6
      case isFalse => cases e6
      rename_i hb
      have h4 := held_step (s4.trans s5) h2.1 h2.2.1 h2.2.2
      have ra4 := Reps.mono ((s4.trans s5).ext s3.sim) _ _ ra2
      have all := ((S1.trans s4).trans s5).wipes vs
      rw [wsame] at all
      have o4 : ¬ Own (wipeE ρ4 vs) (L2.wipe σ vs) D := fun z => by
        rw [← wsame] at z
        exact h4.2.2 (own_unwipe z)
      obtain ⟨pk, ex⟩ := Step.poke (ws := us ++ [v]) all hD hCD h4.2.1 o4
      exact ⟨us, h4.1, by rw [← ra.length, ← big_eq]; exact hb, wipeE ρ4 vs, F4, acc ++ [y], us ++ [v], pk, L2.upd_same, (Reps.mono ex _ _ ra4).append (show Reps C.K F4 _ [y] [v] from ⟨v, [], rfl, RepT.mono ex _ _ rep, rfl⟩), h4.2.1, o4, e6⟩
    cases cond with
    | none =>
      dsimp only at ev1
      refine ft ρ2 F2 σ2 H' true true ρ2 _ s3.sim ⟨rfl, rfl, rfl⟩ fun F3 H3 s4 => ?_
      rw [if_pos rfl]
      cases q5 : evF ih ct ρ2 with
      | exc c ts ρ' => rw [q5] at ev1; cases ev1
      | bad => rw [q5] at ev1; cases ev1
      | ok y ρ4 =>
        rw [q5] at ev1
        exact fin s4 q5 ev1
    | some cc =>
      dsimp only at ev1
      cases q6 : evB ih cc ρ2 with
      | exc c ts ρ' => rw [q6] at ev1; cases ev1
      | bad => rw [q6] at ev1; cases ev1
      | ok k ρ3 =>
        rw [q6] at ev1
        refine ft ρ2 F2 σ2 H' true k ρ3 _ s3.sim q6 fun F3 H3 s4 => ?_
        cases k with
        | true =>
          rw [if_pos rfl]
          dsimp only [R.bind] at ev1
          cases q5 : evF ih ct ρ3 with
          | exc c ts ρ' => rw [q5] at ev1; cases ev1
          | bad => rw [q5] at ev1; cases ev1
          | ok y ρ4 =>
            rw [q5] at ev1
            exact fin s4 q5 ev1
        | false =>
          rw [if_neg Bool.false_ne_true]
          have h4 := held_step s4 h2.1 h2.2.1 h2.2.2
          have all := (S1.trans s4).wipes vs
          rw [wsame] at all
          refine ⟨wipeE ρ3 vs, F3, acc, us, all, h4.1, Reps.mono (s4.ext s3.sim) _ _ ra2, h4.2.1, fun z => ?_, ev1⟩
          rw [← wsame] at z
          exact h4.2.2 (own_unwipe z)
theorem se_comp {ri : Rho → R Iv} {g : L2.TG} {tgs : List Nat} {tp : Bool} {cond : Option Ex} {ifs : List Expr} {L : Nat} (hK : X.K = C.K) (hc : X.calm = true) (hN : X.N.Nodup) (ok : L2.BlkOk X.N X.env.scope scope own) (hs : noSetE iter = true) (hi : SI X G W C tg iter ri)
    (hg : InBlk X scope fun Y => L2.PG Y tg g) (hr : SGr C tgs (bindTo tgs tp) g) (hsub : ∀ i ∈ tgs, i ∈ own.map (·.2)) (hcd : Conds X scope G C ih ifs cond) (he : InBlk X scope fun Y => SO Y G W0 C elt (evO ih ct)) :
    SE X G W C (.ListComp elt [⟨tg, iter, ifs, 0⟩] scope pos) (compC ih ri L (own.map (·.2)) tgs tp cond ct) := by
  intro ρ F σ H Q S out
  obtain ⟨wi, tt, te, pi, pt, pe, f⟩ := comp_core (L := L) hK hc hN ok hs hi hg hr hsub hcd he
  exact we_of (L2.pe_lc hc hN pi ok hg pt pe (noSet_ok hs)) (f ρ F σ H Q S out)
theorem ss_setLc {ri : Rho → R Iv} {g : L2.TG} {tgs : List Nat} {tp : Bool} {cond : Option Ex} {ifs : List Expr} {L i : Nat} {x : Str} {px spos : Pos} (hK : X.K = C.K) (hc : X.calm = true) (hN : X.N.Nodup) (hx : X.N[i]? = some x) (hl : X.env.scope.names.lookup x = some .local)
    (hsw : swapsWith (.ListComp elt [⟨tg, iter, ifs, 0⟩] scope pos) (some (.Name x px)) spos.line X.env = pure true) (ok : L2.BlkOk X.N X.env.scope scope own) (hs : noSetE iter = true) (hi : SI X G W C tg iter ri)
    (hg : InBlk X scope fun Y => L2.PG Y tg g) (hr : SGr C tgs (bindTo tgs tp) g) (hsub : ∀ i ∈ tgs, i ∈ own.map (·.2)) (hcd : Conds X scope G C ih ifs cond) (he : InBlk X scope fun Y => SO Y G W0 C elt (evO ih ct)) :
    SS1 X G W C (.Assign [.Name x px] (.ListComp elt [⟨tg, iter, ifs, 0⟩] scope pos) spos) (fun ρ => RS.of (compC ih ri L (own.map (·.2)) tgs tp cond ct ρ) fun a ρ => .nx (store1 i a ρ)) := by
  intro ρ F σ H D S out
  obtain ⟨wi, tt, te, pi, pt, pe, f⟩ := comp_core (L := L) hK hc hN ok hs hi hg hr hsub hcd he
  refine ws_of (L2.ps_setLc hc hN hx hl hsw pi ok hg pt pe (noSet_ok hs)) ?_
  exact f ρ F σ H _ S (outA_of_rs out fun a ρ1 o1 F1 H1 v s1 r => o1 _ F1 H1 (step_store S s1 r))
end
end PV

set_option Elab.async false
set_option linter.all false
set_option maxRecDepth 100000
set_option maxHeartbeats 1000000
/-! PV, soundness 15: calls. -/
namespace PV
open PySem PySem.Spec PyProof.Rows
/-- an argument as the callee gets it; M: what it may change -/
def ArgR (K : PySem.W.Frag) (F0 M : FS) (H : L2.Hp) : Md → A → L2.V → Prop
  | .val, .t x, v => RepT K F0 H x v
  | .bor, .t x, v => RepT K F0 H x v
  | .bor, .f xs, v => ∃ p vs, v = .ref p ∧ H p = some (.lst vs) ∧ Reps K F0 H xs vs ∧ ¬ M p
  | .chg, .f xs, v => ∃ p vs, v = .ref p ∧ H p = some (.lst vs) ∧ Reps K F0 H xs vs ∧ M p
  | _, _, _ => False
def ArgsR (K : PySem.W.Frag) (F0 M : FS) (H : L2.Hp) : List Md → List A → List L2.V → Prop
  | [], [], vs => vs = []
  | m :: ms, a :: as, vs => ∃ v r, vs = v :: r ∧ ArgR K F0 M H m a v ∧ ArgsR K F0 M H ms as r
  | _, _, _ => False
structure After (F0 M : FS) (H : L2.Hp) (F' : FS) (H' : L2.Hp) : Prop where
  sub : ∀ p, F0 p → F' p
  keep : ∀ p o, H p = some o → ¬ M p → H' p = some o
  there : ∀ p, H p ≠ none → H' p ≠ none
  new : ∀ p, F' p → F0 p ∨ H p = none
  frz : ∀ p, F' p → H' p ≠ none
def ResR (K : PySem.W.Frag) (H : L2.Hp) (F' : FS) (H' : L2.Hp) : A → L2.V → Prop
  | .t x, v => RepT K F' H' x v
  | .f xs, v => ∃ p vs, v = .ref p ∧ H p = none ∧ H' p = some (.lst vs) ∧ Reps K F' H' xs vs ∧ ¬ F' p
/-- what a def promises -/
def SpF (K : PySem.W.Frag) (G : Ga) (Fo : Orc) (md : List Md) (f : Nat) : L2.Sp := fun vs H Q E => ∃ (as : List A) (F0 M : FS), ArgsR K F0 M H md as vs ∧ (∀ p q, M p → M q → p = q) ∧ (∀ p, F0 p → H p ≠ none) ∧ (∀ p, M p → ¬ F0 p ∧ H p ≠ none) ∧ match Fo f as with
  | .ok r ms => ∀ F' H' v, After F0 M H F' H' → (∀ xs ∈ ms, ∀ p, M p → ∃ vs, H' p = some (.lst vs) ∧ Reps K F' H' xs vs) → ResR K H F' H' r v → Q v H'
  | .exc c ts => ∀ F' H' cv d, After F0 M H F' H' → XR K G F' H' c ts cv d → E cv d H'
  | .bad => False
theorem ArgsR.len {K : PySem.W.Frag} {F0 M : FS} {H : L2.Hp} : ∀ {md : List Md} {as : List A} {vs : List L2.V}, ArgsR K F0 M H md as vs → vs.length = md.length ∧ as.length = md.length
  | [], [], _, h => by cases (show _ = [] from h); exact ⟨rfl, rfl⟩
  | [], _ :: _, _, h => h.elim
  | _ :: _, [], _, h => h.elim
  | m :: ms, a :: as, _, h => by
    obtain ⟨v, r, e, _, h2⟩ := h
    subst e
    exact ⟨congrArg Nat.succ h2.len.1, congrArg Nat.succ h2.len.2⟩
theorem ArgsR.get {K : PySem.W.Frag} {F0 M : FS} {H : L2.Hp} : ∀ {md : List Md} {as : List A} {vs : List L2.V} {i : Nat} {m : Md} {a : A}, ArgsR K F0 M H md as vs → md[i]? = some m → as[i]? = some a → ∃ v, vs[i]? = some v ∧ ArgR K F0 M H m a v
  | [], _, _, _, _, _, _, e, _ => by simp at e
  | _ :: _, [], _, _, _, _, h, _, _ => h.elim
  | m :: ms, a :: as, _, 0, m', a', h, e1, e2 => by
    obtain ⟨v, r, e, h1, h2⟩ := h
    subst e
    simp at e1 e2
    subst e1 e2
    exact ⟨v, rfl, h1⟩
  | m :: ms, a :: as, _, i + 1, m', a', h, e1, e2 => by
    obtain ⟨v, r, e, h1, h2⟩ := h
    subst e
    obtain ⟨u, g1, g2⟩ := ArgsR.get (i := i) h2 (by simpa using e1) (by simpa using e2)
    exact ⟨u, by simpa using g1, g2⟩
section
variable {X : L2.Cx} {G : Ga} {W : L2.WX} {C : FC} {ρ ρ' ρ0 ρ1 : Rho} {σ σ' : LSt} {F F' F0 F1 : FS} {H H' H0 H1 : L2.Hp} {e a b c tg iter elt : Expr} {es rest : List Expr} {pos p : Pos} {ih : Ex → Rho → R A} {ce ca cb cc ct : Ex} {vs : List Nat}
/-- behind a call that changed nothing of ours -/
theorem After.step0 (S : Sim C F ρ σ H) {M : FS} (a : After F M H F' H') (hM : ∀ p, ¬ M p) : Step C ρ σ F H ρ σ F' H' where
  sub := a.sub
  keep := fun p o h _ => a.keep p o h (hM p)
  new := fun p h => (a.new p h).imp id .inl
  own := fun p h => .inl h
  there := a.there
  sim := by
    refine S.move ⟨a.sub, fun p o _ h => a.keep p o h (hM p)⟩ a.frz (fun p h => ?_) (fun p o h1 h2 => a.keep p o (S.out p o h1 h2) (hM p)) (fun p h => a.there p (S.dom p h)) fun p h => ?_
    · rcases a.new p h with z | z
      · exact S.frN p z
      · exact .inr (S.h0 z)
    · obtain ⟨i, k, xs, h1, h2⟩ := h
      obtain ⟨q, us, g1, g2, g3, g4, _⟩ := S.own h1
      rw [h2] at g1
      cases g1
      refine ⟨(a.keep p _ g2 (hM p)).trans g2.symm, fun z => ?_⟩
      rcases a.new p z with z | z
      · exact g4 z
      · rw [g2] at z; cases z
/-- behind a call that may have changed the list in slot i -/
theorem After.step1 (S : Sim C F ρ σ H) {M : FS} {i : Nat} {k : Bool} {xs : List T} {q : Addr} (hi : ρ[i]? = some (.o k xs)) (hq : σ[i]? = some (some (.ref q))) (a : After F M H F' H') (hM : ∀ p, M p ↔ p = q) : Step C ρ σ F H (ρ.set i .u) σ F' H' ∧ ¬ F' q := by
  obtain ⟨q', us, g1, g2, g3, g4, g5⟩ := S.own hi
  rw [hq] at g1
  cases g1
  have nM : ∀ p, p ≠ q → ¬ M p := fun p h z => h ((hM p).mp z)
  have nF' : ¬ F' q := fun z => by
    rcases a.new q z with z | z
    · exact g4 z
    · rw [g2] at z; cases z
  have own : Own ρ σ q := ⟨i, k, xs, hi, hq⟩
  refine ⟨⟨a.sub, fun p o h n => a.keep p o h (nM p fun z => n (z ▸ own)), fun p h => (a.new p h).imp id .inl, fun p h => .inl (h.set_sub fun _ _ => by simp), a.there, ?_⟩, nF'⟩
  refine (S.lose i).move ⟨a.sub, fun p o h1 h => a.keep p o h (nM p fun z => g4 (z ▸ h1))⟩ a.frz (fun p h => ?_) (fun p o h1 h2 => ?_) (fun p h => a.there p (S.dom p h)) fun p h => ?_
  · rcases a.new p h with z | z
    · exact S.frN p z
    · exact .inr (S.h0 z)
  · refine a.keep p o (S.out p o h1 h2) (nM p ?_)
    rintro rfl
    cases k with
    | true => have z : C.H0 p = none := g5; rw [h1] at z; cases z
    | false => exact h2 g5
  · obtain ⟨j, l, zs, h1, h2⟩ := h
    rcases set_get h1 with ⟨_, z⟩ | ⟨n, h1⟩
    · cases z
    · obtain ⟨q', ws, k1, k2, k3, k4, _⟩ := S.own h1
      rw [h2] at k1
      cases k1
      have ne : p ≠ q := fun z => by
        subst z
        exact n (S.dis j i l k zs xs p h1 hi h2 hq)
      refine ⟨(a.keep p _ k2 (nM p ne)).trans k2.symm, fun z => ?_⟩
      rcases a.new p z with z | z
      · exact k4 z
      · rw [k2] at z; cases z
theorem After.step2 (S : Sim C F ρ σ H) {M : FS} {i : Nat} {k : Bool} {xs ys : List T} {q : Addr} {us : List L2.V} (hi : ρ[i]? = some (.o k xs)) (hq : σ[i]? = some (some (.ref q))) (a : After F M H F' H') (hM : ∀ p, M p ↔ p = q) (h1 : H' q = some (.lst us)) (h2 : Reps C.K F' H' ys us) : Step C ρ σ F H (ρ.set i (.o k ys)) σ F' H' := by
  obtain ⟨st, nF⟩ := a.step1 S hi hq hM
  obtain ⟨q', us', g1, g2, g3, g4, g5⟩ := S.own hi
  rw [hq] at g1
  cases g1
  have T2 := st.sim.setSlot (i := i) (s := .o k ys) (fun _ => ⟨q, us, getD_of hq, h1, h2, nF, g5⟩) fun k' xs' _ j l zs p z1 z2 z3 => by
    rcases set_get z1 with ⟨e0, _⟩ | ⟨n1, e1⟩
    · exact e0
    · rw [hq] at z2
      cases z2
      exact S.dis j i l k zs xs q e1 hi z3 hq
  rw [List.set_set] at T2
  refine ⟨st.sub, st.keep, st.new, fun p h => ?_, st.there, T2⟩
  obtain ⟨j, l, zs, j1, j2⟩ := h
  rcases set_get j1 with ⟨rfl, _⟩ | ⟨_, e1⟩
  · exact .inl ⟨j, k, xs, hi, j2⟩
  · exact .inl ⟨j, l, zs, e1, j2⟩

/-! ### the arguments -/
theorem frz_own {o : Opd} {t : T} (h : frz ρ o = some (t, ρ')) {j : Nat} {k : Bool} {xs : List T} (hj : ρ'[j]? = some (.o k xs)) : ρ[j]? = some (.o k xs) := by
  cases o with
  | x x => cases h; exact hj
  | f xs => cases h; exact hj
  | d i =>
    dsimp only [frz] at h
    split at h
    · cases h; exact hj
    · cases h
      rcases set_get hj with ⟨_, z⟩ | ⟨_, z⟩
      · cases z
      · exact z
    · cases h
theorem argOf_own {m : Md} {o : Opd} {a : A} (h : argOf ρ m o = some (a, ρ')) {j : Nat} {k : Bool} {xs : List T} (hj : ρ'[j]? = some (.o k xs)) : ρ[j]? = some (.o k xs) := by
  cases m with
  | val =>
    obtain ⟨pr, e1, e2⟩ := Option.map_eq_some_iff.mp (show (frz ρ o).map (fun p => (A.t p.1, p.2)) = some (a, ρ') from h)
    obtain ⟨t, ρ2⟩ := pr
    cases e2
    exact frz_own e1 hj
  | bor =>
    cases o with
    | d i =>
      simp only [argOf] at h
      split at h <;> first | (cases h; exact hj) | cases h
    | x t => cases h; exact hj
    | f xs => cases h; exact hj
  | chg =>
    cases o with
    | d i =>
      simp only [argOf] at h
      split at h <;> first | (cases h; exact hj) | cases h
    | x t => cases h
    | f xs => cases h
theorem argsOf_own {j : Nat} {k : Bool} {xs : List T} : ∀ {md : List Md} {os : List Opd} {ρ ρ' : Rho} {as : List A}, argsOf ρ md os = some (as, ρ') → ρ'[j]? = some (.o k xs) → ρ[j]? = some (.o k xs)
  | [], [], _, _, _, h, hj => by cases h; exact hj
  | [], _ :: _, _, _, _, h, _ => by cases h
  | _ :: _, [], _, _, _, h, _ => by cases h
  | m :: ms, o :: os, ρ, ρ', as, h, hj => by
    unfold argsOf at h
    split at h
    · rename_i a ρ1 e1
      split at h
      · rename_i as' ρ2 e2
        cases h
        exact argOf_own e1 (argsOf_own e2 hj)
      · cases h
    · cases h
theorem ArgR.mono {M : FS} (x : Ext F H F' H) {m : Md} {a : A} {v : L2.V} (h : ArgR C.K F M H m a v) : ArgR C.K F' M H m a v := by
  cases m <;> cases a <;> first
    | exact h.elim
    | exact RepT.mono x _ _ h
    | (obtain ⟨p, vs, h1, h2, h3, h4⟩ := h; exact ⟨p, vs, h1, h2, Reps.mono x _ _ h3, h4⟩)
theorem args_ok {ρs : Rho} {Fs : FS} {Hs : L2.Hp} {M : FS} (Ss : Sim C Fs ρs σ Hs) : ∀ {md : List Md} {os : List Opd} {ρ ρ' : Rho} {F : FS} {as : List A} {vs : List L2.V}, Step C ρs σ Fs Hs ρ σ F H → OpReps C.K σ Hs ρ F H os vs → argsOf ρ md os = some (as, ρ') →
    (∀ p, M p → ∃ i k xs, ρ'[i]? = some (.o k xs) ∧ σ[i]? = some (some (.ref p)) ∧ i ∉ lentOf md os) → (∀ i ∈ mutsOf md os, ∀ p, σ[i]? = some (some (.ref p)) → M p) →
    ∃ F', Step C ρs σ Fs Hs ρ' σ F' H ∧ Ext F H F' H ∧ ArgsR C.K F' M H md as vs
  | [], [], ρ, ρ', F, as, vs, st, ops, h, _, _ => by
    cases h
    exact ⟨F, st, .rfl', ops⟩
  | [], _ :: _, _, _, _, _, _, _, _, h, _, _ => by cases h
  | _ :: _, [], _, _, _, _, _, _, _, h, _, _ => by cases h
  | m :: ms, o :: os, ρ, ρ', F, as, vs, st, ops, h, hM, hm => by
    obtain ⟨v, r, rfl, op, ops⟩ := ops
    unfold argsOf at h
    split at h
    case h_2 => cases h
    rename_i a ρ1 e1
    split at h
    case h_2 => cases h
    rename_i as' ρ2 e2
    cases h
    have S := st.sim
    have own1 : ∀ {j : Nat} {k : Bool} {xs : List T}, ρ'[j]? = some (.o k xs) → ρ[j]? = some (.o k xs) := fun h => argOf_own e1 (argsOf_own e2 h)
    -- one argument, the rest behind it
    have key : ∃ F1, Step C ρs σ Fs Hs ρ1 σ F1 H ∧ Ext F H F1 H ∧ ArgR C.K F1 M H m a v ∧ OpReps C.K σ Hs ρ1 F1 H os r := by
      have frzd : ∀ {t : T}, frz ρ o = some (t, ρ1) → ∃ F1, Step C ρs σ Fs Hs ρ1 σ F1 H ∧ Ext F H F1 H ∧ RepT C.K F1 H t v ∧ OpReps C.K σ Hs ρ1 F1 H os r := fun {t} e => by
        obtain ⟨F1, st1, x1, rep, f⟩ := frz_ok Ss st op e
        exact ⟨F1, st1, x1, rep, ops.map f⟩
      cases m with
      | val =>
        obtain ⟨pr, e3, e4⟩ := Option.map_eq_some_iff.mp (show (frz ρ o).map (fun p => (A.t p.1, p.2)) = some (a, ρ1) from e1)
        obtain ⟨t, ρ3⟩ := pr
        cases e4
        obtain ⟨F1, st1, x1, rep, f⟩ := frzd e3
        exact ⟨F1, st1, x1, rep, f⟩
      | bor =>
        cases o with
        | x t =>
          cases e1
          obtain ⟨F1, st1, x1, rep, f⟩ := frzd (t := t) rfl
          exact ⟨F1, st1, x1, rep, f⟩
        | f xs =>
          cases e1
          obtain ⟨F1, st1, x1, rep, f⟩ := frzd (t := .lst xs) rfl
          exact ⟨F1, st1, x1, rep, f⟩
        | d i =>
          have hv : σ[i]? = some (some v) := op
          simp only [argOf] at e1
          split at e1
          · rename_i t e3
            cases e1
            obtain ⟨w, h1, h2⟩ := S.sl i _ e3
            rw [getD_of hv] at h1
            cases h1
            exact ⟨F, st, .rfl', h2, ops⟩
          · rename_i k xs e3
            cases e1
            obtain ⟨p, us, g1, g2, g3, g4, g5⟩ := S.own e3
            rw [hv] at g1
            cases g1
            refine ⟨F, st, .rfl', ⟨p, us, rfl, g2, g3, fun z => ?_⟩, ops⟩
            obtain ⟨j, l, ys, k1, k2, k3⟩ := hM p z
            have := S.dis j i l k ys xs p (own1 k1) e3 k2 hv
            subst this
            exact k3 List.mem_cons_self
          · rename_i xs e3
            cases e1
            obtain ⟨p, us, g1, g2, g3, g4, g5⟩ := S.sl i _ e3
            rw [getD_of hv] at g1
            cases g1
            refine ⟨F, st, .rfl', ⟨p, us, rfl, g2, g3, fun z => ?_⟩, ops⟩
            obtain ⟨j, l, ys, k1, k2, k3⟩ := hM p z
            rcases S.ownH0 ⟨j, l, ys, own1 k1, k2⟩ with z | z
            · exact g4 z
            · exact g5 z
          · cases e1
      | chg =>
        cases o with
        | x t => cases e1
        | f xs => cases e1
        | d i =>
          have hv : σ[i]? = some (some v) := op
          simp only [argOf] at e1
          split at e1
          · rename_i k xs e3
            cases e1
            obtain ⟨p, us, g1, g2, g3, g4, g5⟩ := S.own e3
            rw [hv] at g1
            cases g1
            exact ⟨F, st, .rfl', ⟨p, us, rfl, g2, g3, hm i List.mem_cons_self p hv⟩, ops⟩
          · cases e1
    obtain ⟨F1, st1, x1, ar, ops1⟩ := key
    have sub1 : ∀ {i : Nat}, i ∈ lentOf ms os → i ∈ lentOf (m :: ms) (o :: os) := fun {i} z => by
      cases m <;> cases o <;> first | exact z | exact List.mem_cons_of_mem _ z
    have sub2 : ∀ {i : Nat}, i ∈ mutsOf ms os → i ∈ mutsOf (m :: ms) (o :: os) := fun {i} z => by
      cases m <;> cases o <;> first | exact z | exact List.mem_cons_of_mem _ z
    obtain ⟨F2, st2, x2, ars⟩ := args_ok Ss st1 ops1 e2 (fun p z => by
      obtain ⟨j, l, ys, k1, k2, k3⟩ := hM p z
      exact ⟨j, l, ys, k1, k2, fun w => k3 (sub1 w)⟩) (fun i hi => hm i (sub2 hi))
    exact ⟨F2, st2, x1.trans x2, v, r, rfl, ar.mono x2, ars⟩

/-! ### a call -/
theorem ResR.ar {r : A} {v : L2.V} {Hs : L2.Hp} (h : ResR C.K H F' H' r v) (h0 : ∀ p, H p = none → Hs p = none) (hn : ∀ p, H p = none → ¬ Own ρ' σ p) : ARep C.K σ Hs ρ' F' H' r v := by
  cases r with
  | t x => exact h
  | f xs =>
    obtain ⟨p, vs, h1, h2, h3, h4, h5⟩ := h
    exact ⟨p, vs, h1, h0 p h2, h3, h4, h5, hn p h2⟩
theorem call_ok {ρs : Rho} {Fs : FS} {Hs : L2.Hp} {Fo : Orc} {f : Nat} {md : List Md} {os : List Opd} {ws : List L2.V} {Q : L2.VK} (Ss : Sim C Fs ρs σ Hs) (st : Step C ρs σ Fs Hs ρ σ F H) (ops : OpReps C.K σ Hs ρ F H os ws) (o : OutA G W C ρs σ Fs Hs (callWith Fo f md os ρ) Q) : SpF C.K G Fo md f ws H Q (L2.WE W σ) := by
  unfold callWith at o
  cases q1 : argsOf ρ md os with
  | none => rw [q1] at o; exact o.elim
  | some pr =>
  obtain ⟨as, ρ1⟩ := pr
  rw [q1] at o
  dsimp only at o
  have hs0 : ∀ {p : Addr}, H p = none → Hs p = none := fun {p} h => by
    cases z : Hs p with
    | none => rfl
    | some u => exact absurd h (st.there p (by rw [z]; simp))
  cases q2 : mutsOf md os with
  | nil =>
    rw [q2] at o
    dsimp only at o
    obtain ⟨F1, st1, _, ars⟩ := args_ok (M := fun _ => False) Ss st ops q1 (fun p z => z.elim) (fun i hi => by rw [q2] at hi; cases hi)
    have S1 := st1.sim
    refine ⟨as, F1, fun _ => False, ars, fun p q z => z.elim, S1.frz, fun p z => z.elim, ?_⟩
    cases q3 : Fo f as with
    | bad => rw [q3] at o; exact o.elim
    | exc c ts =>
      rw [q3] at o
      exact fun F' H' cv d a x => o F' H' cv d (st1.trans (a.step0 S1 fun _ z => z)) x
    | ok r ms =>
      rw [q3] at o
      intro F' H' v a _ res
      have s2 := st1.trans (a.step0 S1 fun _ z => z)
      refine o F' H' v s2 (ResR.ar res (fun p h => hs0 h) fun p h z => ?_)
      obtain ⟨i, k, xs, h1, h2⟩ := z
      obtain ⟨q', us, g1, g2, _⟩ := S1.own h1
      rw [h2] at g1
      cases g1
      rw [h] at g2
      cases g2
  | cons i is =>
  cases is with
  | cons i2 is2 => rw [q2] at o; exact o.elim
  | nil =>
    rw [q2] at o
    dsimp only at o
    cases q3 : isOwn ρ1 i && !(lentOf md os).contains i with
    | false => rw [q3] at o; exact o.elim
    | true =>
    rw [q3] at o
    dsimp only at o
    rw [Bool.and_eq_true] at q3
    have nl : i ∉ lentOf md os := fun z => by
      rw [List.contains_iff_mem.mpr z] at q3
      cases q3.2
    have own : ∃ k xs, ρ1[i]? = some (.o k xs) := by
      have z := q3.1
      unfold isOwn at z
      split at z
      · rename_i k xs e; exact ⟨k, xs, e⟩
      · cases z
    obtain ⟨k, xs, hi⟩ := own
    have hi0 := argsOf_own q1 hi
    obtain ⟨q, us, g1, g2, g3, g4, g5⟩ := st.sim.own hi0
    obtain ⟨F1, st1, x1, ars⟩ := args_ok (M := fun p => p = q) Ss st ops q1 (fun p z => ⟨i, k, xs, hi, by rw [z]; exact g1, nl⟩) (fun j hj p hp => by
      rw [q2] at hj
      rw [List.mem_singleton.mp hj, g1] at hp
      cases hp
      rfl)
    have S1 := st1.sim
    obtain ⟨q', us', k1, k2, k3, k4, k5⟩ := S1.own hi
    rw [g1] at k1
    cases k1
    refine ⟨as, F1, fun p => p = q, ars, fun p r z1 z2 => z1.trans z2.symm, S1.frz, fun p z => by rw [z]; exact ⟨k4, by rw [k2]; simp⟩, ?_⟩
    cases q4 : Fo f as with
    | bad => rw [q4] at o; exact o.elim
    | exc c ts =>
      rw [q4] at o
      exact fun F' H' cv d a x => o F' H' cv d (st1.trans (a.step1 S1 hi g1 fun _ => Iff.rfl).1) x
    | ok r ms =>
      rw [q4] at o
      cases ms with
      | nil => exact o.elim
      | cons ys ms =>
      cases ms with
      | cons _ _ => exact o.elim
      | nil =>
      intro F' H' v a hm res
      obtain ⟨zs, m1, m2⟩ := hm ys List.mem_cons_self q rfl
      have s2 := st1.trans (a.step2 S1 hi g1 (fun _ => Iff.rfl) m1 m2)
      have epb : putBack i ys ρ1 = ρ1.set i (.o k ys) := by
        unfold putBack
        rw [hi]
      dsimp only at o
      rw [epb] at o
      refine o F' H' v s2 (ResR.ar res (fun p h => hs0 h) fun p h z => ?_)
      have z2 : Own ρ1 σ p := by
        obtain ⟨j, l, w, j1, j2⟩ := z
        rcases set_get j1 with ⟨rfl, _⟩ | ⟨_, e1⟩
        · exact ⟨j, k, xs, hi, j2⟩
        · exact ⟨j, l, w, e1, j2⟩
      obtain ⟨j, l, w, j1, j2⟩ := z2
      obtain ⟨q', ps, f1, f2, _⟩ := S1.own j1
      rw [j2] at f1
      cases f1
      rw [h] at f2
      cases f2
end
end PV

set_option Elab.async false
set_option linter.all false
set_option maxRecDepth 100000
set_option maxHeartbeats 1000000
/-! PV, soundness 16: call expressions; defs. -/
namespace PV
open PySem PySem.Spec PyProof.Rows
section
variable {X : L2.Cx} {G : Ga} {W : L2.WX} {C : FC} {ρ ρ' ρ0 ρ1 : Rho} {σ σ' : LSt} {F F' F0 F1 : FS} {H H' H0 H1 : L2.Hp} {e a b c tg iter elt : Expr} {es rest : List Expr} {pos p : Pos} {ih : Ex → Rho → R A} {ce ca cb cc ct : Ex} {vs : List Nat}
/-- a def as its callers see it -/
structure FunAt (P : Program) (w : World) (K : PySem.W.Frag) (mg : Str → Option Value) (base : Heap) (G : Ga) (Fo : Orc) (d : Nat) (f : Nat) (md : List Md) (x : Str) (ps : List Str) (kws : List (Nat × List Str)) : Prop where
  ex : ∃ (fa : Addr) (fd : FuncData), FnG P w K mg base (L2.CX P w) (d + 2) fa fd ps (SpF K G Fo md f) ∧ mg x = some (.ref fa) ∧ PySem.W.keepIn K (.ref fa) = true ∧ L2.Binds K fd ps [] ∧ ∀ q ∈ kws, KwB K fd ps q.1 q.2
theorem pe_callG {CX : L2.CXT} {k : Nat} {f : Addr} {fd : FuncData} {ps : List Str} {sp : L2.Sp} {x : Str} {p' : Pos} {Es : L2.St → L2.XK} {t : L2.TA} (F : FnG X.prog X.w X.K X.mg X.base CX k f fd ps sp) (gd : X.A.guards = some []) (room : L2.Room k X.A) (gl : L2.Gl X x) (at_ : X.mg x = some (.ref f)) (kp : PySem.W.keepIn X.K (.ref f) = true)
    (bd : L2.Binds X.K fd ps []) (pass : ∀ σ, L2.PassesAt CX X σ (Es σ)) (args : L2.PA X (e :: es) t) (nd : (x == ("__debug__" : Str)) = false) (st : starEach (e :: es) X.env = (false, eval e X.env) :: starEach es X.env) (pl : (backTo pos (starEach es X.env)).any (·.1) = false) :
    L2.PE X (.Call (.Name x p') (e :: es) [] pos) (L2.tCallS sp Es t) := by
  constructor
  intro pins s σ H Q I h
  refine wpAny_Call_Name_kw (L2.ld_glob I gl at_ ?_ nd)
  refine PySem.W.callWith_K (h₀ := X.base) I.ok.mod.kin kp (L2.thn (args.run pos pins s σ H _ I h) ?_) st pl
  rintro us s1 ⟨vs, H1, I1, rel, q⟩
  refine ⟨I1.kIn, ?_⟩
  have hl : us.length = ps.length := by rw [← rel.length]; exact F.len _ _ _ _ q
  have b := bd s1 us I1.kIn (by rw [List.append_nil]; exact hl)
  rw [List.append_nil] at b
  exact F.call gd room b (pass σ) I1 rel q
theorem se_call {Fo : Orc} {d f : Nat} {md : List Md} {x : Str} {cs : List Ex} {ps : List Str} {kwp : List (Nat × List Str)} (hK : X.K = C.K) (gd : X.A.guards = some []) (Fu : FunAt X.prog X.w X.K X.mg X.base G Fo d f md x ps kwp) (hr : L2.Room (d + 2) X.A) (hg : L2.Gl X x) (hdb : (x == ("__debug__" : Str)) = false) (tk : L2.Takes X W)
    (hs : isStar e = false) (hss : es.all (fun e => !isStar e) = true) (h : SOs X G W C (e :: es) (evOs ih cs)) : SE X G W C (.Call (.Name x p) (e :: es) [] pos) (fun ρ => (evOs ih cs ρ).bind fun os ρ => callWith Fo f md os ρ) := by
  intro ρ F σ H Q S out
  obtain ⟨fa, fd, fok, hm, hk, hb, _⟩ := Fu.ex
  refine we_of (pe_callG fok gd hr hg hm hk hb (L2.passAt tk) (pa_wes (by rw [List.all_cons, hs, hss] <;> rfl)) hdb (star_cons hs) (star_plain hss)) ?_
  refine h ρ F σ H _ S (outOs_bind out fun os ρ1 o1 F1 H1 ws st ops => ?_)
  rw [hK]
  exact call_ok S st ops o1
theorem se_call0 {Fo : Orc} {d f : Nat} {md : List Md} {x : Str} {ps : List Str} {kwp : List (Nat × List Str)} (hK : X.K = C.K) (gd : X.A.guards = some []) (Fu : FunAt X.prog X.w X.K X.mg X.base G Fo d f md x ps kwp) (hr : L2.Room (d + 2) X.A) (hg : L2.Gl X x) (hdb : (x == ("__debug__" : Str)) = false) (tk : L2.Takes X W) :
    SE X G W C (.Call (.Name x p) [] [] pos) (fun ρ => (evOs ih [] ρ).bind fun os ρ => callWith Fo f md os ρ) := by
  intro ρ F σ H Q S out
  obtain ⟨fa, fd, fok, hm, hk, hb, _⟩ := Fu.ex
  intro pins s I
  refine wpAny_Call_Name_kw (L2.ld_glob I hg hm ?_ hdb)
  have q := call_ok S (.rfl' S) (show OpReps C.K σ H ρ F H [] [] from rfl) out
  rw [← hK] at q
  have hl : ([] : List Value).length = ps.length := fok.len _ _ _ _ q
  refine PySem.W.callWith_K0 I.kIn hk (fok.call gd hr (ws := []) ?_ (L2.passAt tk σ) I .nil q)
  have b := hb s [] I.kIn (by rw [List.append_nil]; exact hl)
  rw [List.append_nil] at b
  exact b
/-- behind a call that may have changed a list of nobody's -/
theorem After.stepT {ρs : Rho} {Fs : FS} {Hs : L2.Hp} (Ss : Sim C Fs ρs σ Hs) (st : Step C ρs σ Fs Hs ρ σ F H) {M : FS} {q : Addr} {us : List L2.V} (h0 : Hs q = none) (h1 : H q = some (.lst us)) (h2 : ¬ F q) (h3 : ¬ Own ρ σ q) (x : After F M H F' H') (hM : ∀ p, M p ↔ p = q) : Step C ρs σ Fs Hs ρ σ F' H' := by
  have S := st.sim
  have nM : ∀ p, p ≠ q → ¬ M p := fun p h z => h ((hM p).mp z)
  have hC := Ss.h0 h0
  refine ⟨fun p h => x.sub p (st.sub p h), fun p o z1 z2 => x.keep p o (st.keep p o z1 z2) (nM p ?_), fun p h => ?_, st.own, fun p h => x.there p (st.there p h), ?_⟩
  · rintro rfl
    rw [h0] at z1; cases z1
  · rcases x.new p h with z | z
    · exact st.new p z
    · refine .inr (.inl ?_)
      cases y : Hs p with
      | none => rfl
      | some u => exact absurd z (st.there p (by rw [y]; simp))
  · refine S.move ⟨x.sub, fun p o z1 z2 => x.keep p o z2 (nM p fun z => h2 (z ▸ z1))⟩ x.frz (fun p h => ?_) (fun p o z1 z2 => ?_) (fun p h => x.there p (S.dom p h)) fun p h => ?_
    · rcases x.new p h with z | z
      · exact S.frN p z
      · exact .inr (S.h0 z)
    · refine x.keep p o (S.out p o z1 z2) (nM p ?_)
      rintro rfl
      rw [hC] at z1; cases z1
    · have ne : p ≠ q := fun z => h3 (z ▸ h)
      obtain ⟨i, k, xs, k1, k2⟩ := h
      obtain ⟨q', vs, g1, g2, g3, g4, _⟩ := S.own k1
      rw [k2] at g1
      cases g1
      refine ⟨(x.keep p _ g2 (nM p ne)).trans g2.symm, fun z => ?_⟩
      rcases x.new p z with z | z
      · exact g4 z
      · rw [g2] at z; cases z
theorem se_call1 {Fo : Orc} {d f : Nat} {md : List Md} {x : Str} {ps : List Str} {kwp : List (Nat × List Str)} (hK : X.K = C.K) (gd : X.A.guards = some []) (hmd : md = [.chg]) (Fu : FunAt X.prog X.w X.K X.mg X.base G Fo d f md x ps kwp) (hr : L2.Room (d + 2) X.A) (hg : L2.Gl X x) (hdb : (x == ("__debug__" : Str)) = false) (tk : L2.Takes X W)
    (hs : isStar e = false) (h : SE X G W C e (ih ce)) : SE X G W C (.Call (.Name x p) [e] [] pos) (fun ρ => (ih ce ρ).bind fun a ρ => match a with
      | .f xs => match Fo f [.f xs] with
        | .ok r [_] => .ok r ρ
        | .exc c ts => .exc c ts ρ
        | _ => .bad
      | _ => .bad) := by
  intro ρ F σ H Q S out
  subst hmd
  obtain ⟨fa, fd, fok, hm, hk, hb, _⟩ := Fu.ex
  refine we_of (pe_callG fok gd hr hg hm hk hb (L2.passAt tk) (L2.pa_cons pe_we L2.pa_nil (star_cons hs)) hdb (star_cons hs) rfl) ?_
  refine h ρ F σ H _ S ?_
  dsimp only at out
  cases q1 : ih ce ρ with
  | exc c ts ρ' => rw [q1] at out; exact out
  | bad => rw [q1] at out; exact out
  | ok r ρ1 =>
  rw [q1] at out
  dsimp only [R.bind] at out
  intro F1 H1 v st ar
  cases r with
  | t y => exact out.elim
  | f xs =>
  obtain ⟨q, us, rfl, g2, g3, g4, g5, g6⟩ := ar
  rw [hK]
  refine ⟨[.f xs], F1, fun p => p = q, ⟨_, _, rfl, ⟨q, us, rfl, g3, g4, rfl⟩, rfl⟩, fun p r z1 z2 => z1.trans z2.symm, st.sim.frz, fun p z => by rw [z]; exact ⟨g5, by rw [g3]; simp⟩, ?_⟩
  dsimp only at out
  cases q2 : Fo f [.f xs] with
  | bad => rw [q2] at out; exact out.elim
  | exc c ts =>
    rw [q2] at out
    exact fun F' H' cv d x y => out F' H' cv d (x.stepT S st g2 g3 g5 g6 fun _ => Iff.rfl) y
  | ok r ms =>
    rw [q2] at out
    cases ms with
    | nil => exact out.elim
    | cons ys ms =>
    cases ms with
    | cons _ _ => exact out.elim
    | nil =>
    intro F' H' v x hms res
    refine out F' H' v (x.stepT S st g2 g3 g5 g6 fun _ => Iff.rfl) (ResR.ar res (fun p h => ?_) fun p h z => ?_)
    · cases y : H p with
      | none => rfl
      | some u => exact absurd h (st.there p (by rw [y]; simp))
    · obtain ⟨i, k, xs, h1, h2⟩ := z
      obtain ⟨q', us', k1, k2, _⟩ := st.sim.own h1
      rw [h2] at k1
      cases k1
      rw [h] at k2
      cases k2

/-! ### defs -/
theorem start_rep {K : PySem.W.Frag} {M : FS} : ∀ {md : List Md} {slots : Nat} {as : List A} {vs : List L2.V} {ρ : Rho}, startE slots md as = some ρ → ArgsR K F0 M H md as vs →
    ρ.length = slots ∧ ∀ (i : Nat) (s : Sl), ρ[i]? = some s → s = .u ∨ ∃ m a v, md[i]? = some m ∧ vs[i]? = some v ∧ slotOf m a = some s ∧ ArgR K F0 M H m a v
  | [], slots, [], vs, ρ, e, h => by
    have e1 : some (List.replicate slots Sl.u) = some ρ := by
      unfold startE at e
      exact e
    cases e1
    refine ⟨List.length_replicate, fun i s q => .inl ?_⟩
    rw [List.getElem?_replicate] at q
    split at q
    · exact (Option.some.inj q).symm
    · cases q
  | [], _, _ :: _, _, _, _, h => h.elim
  | _ :: _, _, [], _, _, _, h => h.elim
  | m :: ms, 0, a :: as, _, _, e, _ => by cases e
  | m :: ms, k + 1, a :: as, vs, ρ, e, h => by
    obtain ⟨v, r, rfl, h1, h2⟩ := h
    unfold startE at e
    dsimp only at e
    split at e
    · rename_i ρ2 s2 e1 e2
      cases e
      obtain ⟨l, g⟩ := start_rep e1 h2
      refine ⟨congrArg Nat.succ l, fun i s q => ?_⟩
      cases i with
      | zero =>
        simp at q
        subst q
        exact .inr ⟨m, a, v, rfl, rfl, e2, h1⟩
      | succ i =>
        rcases g i s (by simpa using q) with z | ⟨m', a', v', z1, z2, z3⟩
        · exact .inl z
        · exact .inr ⟨m', a', v', by simpa using z1, by simpa using z2, z3⟩
    · cases e
theorem start_at {N : List Str} {ws : List L2.V} {i : Nat} {v : L2.V} (h : ws[i]? = some v) : (L2.start N ws).getD i none = some v ∧ (L2.start N ws)[i]? = some (some v) := by
  have hi : i < ws.length := (List.getElem?_eq_some_iff.mp h).1
  have e : (L2.start N ws)[i]? = some (some v) := by
    unfold L2.start
    rw [List.getElem?_append_left (by simpa using hi), List.getElem?_map, h]
    rfl
  exact ⟨getD_of e, e⟩
def oneMut (md : List Md) : Prop := ∀ i j : Nat, md[i]? = some Md.chg → md[j]? = some Md.chg → i = j
theorem start_sim {K : PySem.W.Frag} {M : FS} {md : List Md} {slots : Nat} {as : List A} {ws : List L2.V} {ρ : Rho} {N : List Str} (hN : N.length = slots) (hl : ws.length ≤ N.length) (one : oneMut md) (e : startE slots md as = some ρ) (h : ArgsR K F0 M H md as ws) (hf : ∀ p, F0 p → H p ≠ none) (hM : ∀ p, M p → ¬ F0 p ∧ H p ≠ none) :
    Sim ⟨K, H, F0, M⟩ F0 ρ (L2.start N ws) H := by
  obtain ⟨l, g⟩ := start_rep e h
  refine ⟨?_, fun i s q => ?_, fun i j k k' xs ys p h1 h2 h3 h4 => ?_, hf, fun p z => .inl z, fun p o z _ => z, fun p z => z, hM, fun p z => z⟩
  · rw [l, ← hN]
    unfold L2.start
    rw [List.length_append, List.length_map, List.length_replicate]
    omega
  · rcases g i s q with z | ⟨m, a, v, z1, z2, z3, z4⟩
    · subst z; trivial
    · rw [(start_at z2).1]
      cases m with
      | val =>
        cases a with
        | t x => cases z3; exact ⟨v, rfl, z4⟩
        | f xs => cases z3
      | bor =>
        cases a with
        | t x => cases z3; exact ⟨v, rfl, z4⟩
        | f xs =>
          cases z3
          obtain ⟨p, us, rfl, k1, k2, k3⟩ := z4
          exact ⟨p, us, rfl, k1, k2, by show H p ≠ none; rw [k1]; simp, k3⟩
      | chg =>
        cases a with
        | t x => cases z3
        | f xs =>
          cases z3
          obtain ⟨p, us, rfl, k1, k2, k3⟩ := z4
          exact ⟨p, us, rfl, k1, k2, (hM p k3).1, k3⟩
  · have own : ∀ {i : Nat} {k : Bool} {xs : List T}, ρ[i]? = some (.o k xs) → md[i]? = some Md.chg := fun {i k xs} q => by
      rcases g i _ q with z | ⟨m, a, v, z1, z2, z3, z4⟩
      · cases z
      · cases m with
        | val => cases a <;> cases z3
        | bor => cases a <;> cases z3
        | chg => exact z1
    exact one i j (own h1) (own h2)
theorem muts_at {ρ : Rho} : ∀ {md : List Md} {j : Nat} {ms : List (List T)} {xs : List T}, mutsAt j md ρ = some ms → xs ∈ ms → ∃ i : Nat, ρ[i]? = some (Sl.o false xs)
  | [], _, _, _, e, h => by cases e; cases h
  | .chg :: md, j, ms, xs, e, h => by
    unfold mutsAt at e
    split at e
    · rename_i ys e1
      obtain ⟨ms', e2, e3⟩ := Option.map_eq_some_iff.mp e
      subst e3
      rcases List.mem_cons.mp h with z | z
      · exact ⟨j, by rw [z]; exact e1⟩
      · exact muts_at e2 z
    · cases e
  | .val :: md, j, ms, xs, e, h => muts_at (md := md) (j := j + 1) e h
  | .bor :: md, j, ms, xs, e, h => muts_at (md := md) (j := j + 1) e h
theorem Sim.after (S : Sim C F' ρ' σ' H') : After C.F0 C.M C.H0 F' H' := ⟨S.sub, S.out, S.dom, S.frN, S.frz⟩
/-- THE RULE of a def -/
theorem fn_pv {P : Program} {w : World} {K : PySem.W.Frag} {mg : Str → Option Value} {base : Heap} {x qual : Str} {params : Arguments} {body : List Stmt} {scope : Scope} {dvs : List L2.V} {kws : List (Str × L2.V)} {fa : Addr} {fd : FuncData} {N ps : List Str} {Pg' : Pg} {L n d f : Nat} {fc : Fc}
    (Fd' : L2.FunD K x qual params body scope dvs kws fa fd) (Sc : L2.FnScope N ps scope) (hf : Pg'.fns[f]? = some fc) (hps : ps.length = fc.md.length) (hN : N.length = fc.slots) (one : oneMut fc.md)
    (hbody : ∀ (cdv : Value) (A : Around) (outer : List PySem.Env) (s : Shared) (H : L2.Hp) (E : L2.XK) (C : FC), C.K = K → L2.Room (d + 2) (A.deeper (envOfC qual scope s.heap.objs.size fa cdv)) → A.guards = some [] →
      SSs (L2.cxOf (L2.CX P w) P w K mg base N qual scope fa cdv A outer s H E) G (fun cls d _ H => E cls d H) C body (exs Pg' (Fd Pg' L n d) L n n fc.body)) :
    FnG P w K mg base (L2.CX P w) (d + 3) fa fd ps (SpF K G (Fd Pg' L n (d + 1)) fc.md f) := by
  refine FnG.of Fd' Sc (fun vs H Q E h => ?_) fun cdv A outer s H ws Q E hr hgd hsp => ?_
  · obtain ⟨as, F0, M, ars, _⟩ := h
    rw [ars.len.1, hps]
  · obtain ⟨as, F0, M, ars, uniq, hfz, hM, q⟩ := hsp
    refine ⟨_, pss_wss, ?_⟩
    have eF : Fd Pg' L n (d + 1) f as = runF Pg' (Fd Pg' L n d) L n fc as := by
      show (match Pg'.fns[f]? with
        | some fc => runF Pg' (Fd Pg' L n d) L n fc as
        | none => .bad) = _
      rw [hf]
    rw [eF] at q
    unfold runF at q
    cases q1 : startE fc.slots fc.md as with
    | none => rw [q1] at q; exact q.elim
    | some ρ0 =>
    rw [q1] at q
    dsimp only at q
    have hl : ws.length ≤ N.length := by
      have z := congrArg List.length Sc.pre
      rw [List.length_take] at z
      rw [ars.len.1, ← hps]
      omega
    have S0 := start_sim hN hl one q1 ars hfz hM
    refine hbody cdv A outer s H E ⟨K, H, F0, M⟩ rfl hr hgd ρ0 F0 (L2.start N ws) H _ S0 ?_
    have mm : ∀ {ρ' : Rho} {σ' : LSt} {F' : FS} {H' : L2.Hp} {ms : List (List T)}, Sim ⟨K, H, F0, M⟩ F' ρ' σ' H' → mutsAt 0 fc.md ρ' = some ms → ∀ xs ∈ ms, ∀ p, M p → ∃ vs, H' p = some (.lst vs) ∧ Reps K F' H' xs vs := by
      intro ρ' σ' F' H' ms S e xs hx p hp
      obtain ⟨i, hi⟩ := muts_at e hx
      obtain ⟨q', us, g1, g2, g3, g4, g5⟩ := S.own hi
      have : p = q' := uniq p q' hp g5
      subst this
      exact ⟨us, g2, g3⟩
    cases q2 : exs Pg' (Fd Pg' L n d) L n n fc.body ρ0 with
    | bad => rw [q2] at q; exact q.elim
    | bk ρ' => rw [q2] at q; exact q.elim
    | ct ρ' => rw [q2] at q; exact q.elim
    | exc c ts ρ' =>
      rw [q2] at q
      exact fun σ' F' H' cv dd st xr => q F' H' cv dd st.sim.after xr
    | nx ρ' =>
      rw [q2] at q
      dsimp only [endC] at q
      cases q3 : mutsAt 0 fc.md ρ' with
      | none => rw [q3] at q; exact q.elim
      | some ms =>
        rw [q3] at q
        exact fun σ' F' H' st => q F' H' .non st.sim.after (mm st.sim q3) rfl
    | rt r ρ' =>
      rw [q2] at q
      dsimp only [endC] at q
      cases q3 : mutsAt 0 fc.md ρ' with
      | none => rw [q3] at q; exact q.elim
      | some ms =>
        rw [q3] at q
        refine fun σ' F' H' v st rr => q F' H' v st.sim.after (mm st.sim q3) ?_
        cases r with
        | t y => exact rr
        | f xs => exact rr
end
end PV

set_option Elab.async false
set_option linter.all false
set_option maxRecDepth 100000
set_option maxHeartbeats 1000000
/-! PV, soundness 17: other stores; ranges as lists. -/
namespace PV
open PySem PySem.Spec PyProof.Rows
section
variable {X : L2.Cx} {G : Ga} {W : L2.WX} {C : FC} {ρ ρ' ρ0 ρ1 : Rho} {σ σ' : LSt} {F F' F0 F1 : FS} {H H' H0 H1 : L2.Hp} {e a b c tg iter elt : Expr} {es rest : List Expr} {pos p : Pos} {ih : Ex → Rho → R A} {ce ca cb cc ct : Ex} {vs : List Nat}
def OutU (G : Ga) (W : L2.WX) (C : FC) (ρ : Rho) (σ : LSt) (F : FS) (H : L2.Hp) (r : R Unit) (Q : LSt → L2.Hp → Prop) : Prop := match r with
  | .ok _ ρ' => ∀ σ' F' H', Step C ρ σ F H ρ' σ' F' H' → Q σ' H'
  | .exc c ts ρ' => ∀ σ' F' H' cv d, Step C ρ σ F H ρ' σ' F' H' → XR C.K G F' H' c ts cv d → W cv d σ' H'
  | .bad => False
theorem OutU.later {ρs : Rho} {σs : LSt} {Fs : FS} {Hs : L2.Hp} {r : R Unit} {Q : LSt → L2.Hp → Prop} (st : Step C ρs σs Fs Hs ρ σ F H) (h : OutU G W C ρs σs Fs Hs r Q) : OutU G W C ρ σ F H r Q := by
  cases r with
  | ok a ρ' => exact fun σ' F' H' s => h σ' F' H' (st.trans s)
  | exc c ts ρ' => exact fun σ' F' H' cv d s x => h σ' F' H' cv d (st.trans s) x
  | bad => exact h
/-- targets and their codes: a value's store is the first's, then the rest's -/
def STgs (X : L2.Cx) (G : Ga) (W : L2.WX) (C : FC) (ih : Ex → Rho → R A) (es : List Expr) (tgs : List Tg) : Prop := ∃ g, L2.PGs X es g ∧ ∀ ρ F σ H ts vs Q, Sim C F ρ σ H → Reps C.K F H ts vs → OutU G W C ρ σ F H (storeAll ih tgs ts ρ) Q → g vs σ H Q
theorem stgs_nil : STgs X G W C ih [] [] := ⟨_, L2.pgs_nil, fun ρ F σ H ts vs Q S r o => by
  cases ts with
  | nil => exact ⟨r, o σ F H (.rfl' S)⟩
  | cons _ _ => exact o.elim⟩
theorem stgs_nm {i : Nat} {x : Str} {r : List Tg} (h : StoreOk X i x) (hr : STgs X G W C ih es r) : STgs X G W C ih (.Name x p :: es) (.nm i :: r) := by
  obtain ⟨g, pg, fg⟩ := hr
  refine ⟨_, L2.pgs_cons (L2.pg_name h.1 h.2.1 h.2.2.1 h.2.2.2) pg, fun ρ F σ H ts vs Q S r o => ?_⟩
  cases ts with
  | nil => exact o.elim
  | cons t ts =>
    obtain ⟨v, us, rfl, h1, h2⟩ := r
    have st := (Step.rfl' S).put (i := i) h1
    exact ⟨v, us, rfl, fg _ F _ H ts us Q st.sim h2 (OutU.later st o)⟩
theorem sub_assign (h : plainIx b = true) : ∀ v, assign (.Subscript a b pos) X.env v = (do
      let ov ← holding [v] (eval a X.env)
      let iv ← holding [v, ov] (eval b X.env)
      standAt pos
      holding [v, ov, iv] (setItem ov iv v)
      release [v, ov, iv] []) := by
  intro v
  cases b <;> first | (cases h; done) | rfl
theorem ix_run {i : Nat} {x : Str} {f : Rho → R Unit} {t : T} {v : L2.V} {Q Q' : LSt → L2.Hp → Prop} (hn : NameOk X i x) (he : SO X G W C e (evO ih ce)) (S : Sim C F ρ σ H) (rep : RepT C.K F H t v)
    (o : OutU G W C ρ σ F H (match isOwn ρ i with
      | false => .bad
      | true => (evP ih ce ρ).bind fun j ρ => match j with
        | .int j => match setIx i j t ρ with
          | some ρ => f ρ
          | none => .bad
        | _ => .bad) Q') (q : ∀ ρ' F' H', Step C ρ σ F H ρ' σ F' H' → OutU G W C ρ σ F H (f ρ') Q' → Q σ H') : L2.gSub (L2.tVar i) (WE X e) L2.rSetL v σ H Q := by
  cases hi : isOwn ρ i with
  | false => rw [hi] at o; exact o.elim
  | true =>
  rw [hi] at o
  dsimp only at o
  obtain ⟨p0, us, h1, h2⟩ := own_at S hi
  refine ⟨.ref p0, h1, ?_⟩
  refine he ρ F σ H _ S ?_
  have o1 : OutU G W C ρ σ F H (R.bind ((evO ih ce ρ).bind fun o ρ => match res ρ o with
      | some t => .ok t ρ
      | none => .bad) fun j ρ => match j with
        | .int j => match setIx i j t ρ with
          | some ρ => f ρ
          | none => .bad
        | _ => .bad) Q' := o
  cases q0 : evO ih ce ρ with
  | exc c ts ρ' => rw [q0] at o1; exact fun F' H' cv d s y => o1 σ F' H' cv d s y
  | bad => rw [q0] at o1; exact o1
  | ok oo ρ1 =>
  rw [q0] at o1
  intro F1 H1 u st op
  dsimp only [R.bind] at o1
  cases q1 : res ρ1 oo with
  | none => rw [q1] at o1; exact o1.elim
  | some y =>
  rw [q1] at o1
  have pr := res_prep st.sim op q1
  cases y with
  | int j =>
    cases (show u = _ from pr)
    dsimp only at o1
    cases q2 : setIx i j t ρ1 with
    | none => rw [q2] at o1; exact o1.elim
    | some ρ2 =>
    rw [q2] at o1
    unfold setIx at q2
    split at q2
    · rename_i k xs e1
      obtain ⟨m, e2, e3⟩ := Option.map_eq_some_iff.mp q2
      subst e3
      obtain ⟨p', ws, g1, g2, g3, _⟩ := st.sim.own e1
      rw [h1] at g1
      cases g1
      refine ⟨p0, ws, j, m, rfl, rfl, g2, by rw [← g3.length]; exact e2, ?_⟩
      exact q _ _ _ (st.wr e1 h1 (Reps.set (RepT.mono (st.ext S) _ _ rep) m g3)) o1
    · cases q2
  | _ => exact o1.elim
theorem stgs_ix1 {i : Nat} {x : Str} {px : Pos} (hn : NameOk X i x) (hp : plainIx e = true) (he : SO X G W C e (evO ih ce)) : ∃ g, L2.PG X (.Subscript (.Name x px) e pos) g ∧ ∀ ρ F σ H t v Q, Sim C F ρ σ H → RepT C.K F H t v → OutU G W C ρ σ F H (storeAll ih [.ix i ce] [t] ρ) Q → g v σ H Q := by
  refine ⟨_, L2.pg_sub (pe_nm hn) pe_we L2.set_list (sub_assign hp), fun ρ F σ H t v Q S rep o => ?_⟩
  exact ix_run (f := fun ρ => .ok () ρ) hn he S rep o fun ρ' F' H' st o1 => o1 σ F' H' st
theorem ss_set {i : Nat} {x : Str} {px p2 : Pos} {ck : Ex} (hn : NameOk X i x) (hp : plainIx b = true) (hk : SO X G W C b (evO ih ck)) (he : SO X G W C e (evO ih ce)) (hs : swapsWithSole [.Subscript (.Name x px) b p2] e pos.line X.env = pure false) (hw : swappedStores [.Subscript (.Name x px) b p2] e X.env = pure none) :
    SS1 X G W C (.Assign [.Subscript (.Name x px) b p2] e pos) (fun ρ => RS.of (evF ih ce ρ) fun t ρ => RS.of (storeAll ih [.ix i ck] [t] ρ) fun _ ρ => .nx ρ) := by
  intro ρ F σ H D S o
  obtain ⟨g, pg, fg⟩ := stgs_ix1 (pos := p2) (px := px) hn hp hk
  refine ws_of (L2.ps_asg pe_we pg hs hw rfl) ?_
  refine he ρ F σ H _ S (outF_of_rs S o fun t ρ1 o1 F1 H1 v st rep => ?_)
  refine fg ρ1 F1 σ H1 t v _ st.sim rep ?_
  have o2 := OutS.later st o1
  cases q : storeAll ih [.ix i ck] [t] ρ1 with
  | ok u ρ2 => rw [q] at o2; exact o2
  | exc c ts ρ2 => rw [q] at o2; exact o2
  | bad => rw [q] at o2; exact o2
theorem stgs_ix {i : Nat} {x : Str} {px : Pos} {r : List Tg} (hn : NameOk X i x) (hp : plainIx e = true) (he : SO X G W C e (evO ih ce)) (hr : STgs X G W C ih es r) : STgs X G W C ih (.Subscript (.Name x px) e pos :: es) (.ix i ce :: r) := by
  obtain ⟨g, pg, fg⟩ := hr
  refine ⟨_, L2.pgs_cons (L2.pg_sub (pe_nm hn) pe_we L2.set_list (sub_assign hp)) pg, fun ρ F σ H ts vs Q S r2 o => ?_⟩
  cases ts with
  | nil => exact o.elim
  | cons t ts =>
    obtain ⟨v, us, rfl, h1, h2⟩ := r2
    refine ⟨v, us, rfl, ?_⟩
    exact ix_run (f := fun ρ => storeAll ih r ts ρ) hn he S h1 o fun ρ' F' H' st o1 => fg ρ' F' σ H' ts us Q st.sim (Reps.mono (st.ext S) _ _ h2) (OutU.later st o1)
theorem ss_unp {ts : List Expr} {tgs : List Tg} {k n : Nat} {p2 : Pos} (hK : X.K = C.K) (hc : X.calm = true) (ht : STgs X G W C ih ts tgs) (hn : (assignEach ts X.env).length = n) (hst : (assignEach ts X.env).findIdx? (·.1) = none) (hl : tgs.length = n) (he : SO X G W C e (evO ih ce))
    (hs : swapsWithSole [.Tuple ts k p2] e pos.line X.env = pure false) (hw : swappedStores [.Tuple ts k p2] e X.env = pure none) :
    SS1 X G W C (.Assign [.Tuple ts k p2] e pos) (fun ρ => RS.of (evF ih ce ρ) fun t ρ => match unpT t with
      | some xs => if xs.length = tgs.length then RS.of (storeAll ih tgs xs ρ) fun _ ρ => .nx ρ else .bad
      | none => .bad) := by
  intro ρ F σ H D S o
  obtain ⟨g, pg, fg⟩ := ht
  refine ws_of (L2.ps_asg pe_we (L2.pg_tup hc pg hn hst) hs hw rfl) ?_
  refine he ρ F σ H _ S (outF_of_rs S o fun t ρ1 o1 F1 H1 v st rep => ?_)
  cases t with
  | tup xs =>
    obtain ⟨q, us, rfl, _, g2, g3⟩ := rep
    have o2 := OutS.later st o1
    dsimp only [unpT, tupT] at o2
    split at o2
    case isFalse => exact o2.elim
    rename_i hlen
    refine ⟨q, us, rfl, by rw [hK]; exact L2.SqT.of g2, by rw [← g3.length, hlen, hl], ?_⟩
    · refine fg ρ1 F1 σ H1 xs us _ st.sim g3 ?_
      cases q : storeAll ih tgs xs ρ1 with
      | ok u ρ2 => rw [q] at o2; exact o2
      | exc c ts ρ2 => rw [q] at o2; exact o2
      | bad => rw [q] at o2; exact o2
  | _ => exact o1.elim
/-! ### name op= e -/
theorem ss_aug {i : Nat} {x : Str} {px : Pos} {o : Bin} (ho : o = .add ∨ o = .sub) (hx : StoreOk X i x) (he : SO X G W C e (evO ih ce)) : SS1 X G W C (.AugAssign (.Name x px) (opOf o) e pos) (fun ρ => match (ρ[i]?).bind slotT with
    | some (.int a) => RS.of (evP ih ce ρ) fun t ρ => augC i o a t ρ
    | _ => .bad) := by
  intro ρ F σ H D S out
  have pa : ∃ ti : L2.TIp, L2.PIp X (opOf o) ti ∧ ∀ (i j : Int) (Q : L2.VK) (H : L2.Hp), Q (.int (match o with | .add => i + j | _ => i - j)) H → ti (.int i) (.int j) H Q := by
    rcases ho with z | z
    · subst z; exact ⟨_, L2.ip_add, fun i j Q H q => ⟨i, j, rfl, rfl, q⟩⟩
    · subst z; exact ⟨_, L2.ip_sub, fun i j Q H q => ⟨i, j, rfl, rfl, q⟩⟩
  obtain ⟨ti, pi, fi⟩ := pa
  refine ws_of (L2.ps_aug hx.1 hx.2.1 hx.2.2.1 pe_we pi hx.2.2.2) ?_
  dsimp only at out
  cases q : (ρ[i]?).bind slotT with
  | none => rw [q] at out; exact out.elim
  | some t =>
  rw [q] at out
  cases t with
  | int a =>
    obtain ⟨s, e1, e2⟩ := Option.bind_eq_some_iff.mp q
    cases s with
    | v t =>
      cases e2
      obtain ⟨v, g1, g2⟩ := S.sl i _ e1
      cases (show v = _ from g2)
      refine ⟨.int a, of_getD g1, ?_⟩
      refine he ρ F σ H _ S (outP_of_rs out fun t ρ1 o1 F1 H1 u st pr => ?_)
      cases t with
      | int b =>
        cases (show u = _ from pr)
        refine fi a b _ _ ?_
        rcases ho with z | z
        · subst z
          exact o1 _ F1 H1 (st.put (v := .int (a + b)) rfl)
        · subst z
          exact o1 _ F1 H1 (st.put (v := .int (a - b)) rfl)
      | _ => exact o1.elim
    | u => cases e2
    | o k xs => cases e2
    | b xs => cases e2
  | _ => exact out.elim
/-! ### ranges as lists, as tuples -/
def rgs (n : Nat) : List T := (List.range n).map fun (k : Nat) => T.int k
theorem reps_rg {j : Int} (h : 0 ≤ j) : Reps C.K F H (rgs j.toNat) (L2.rgV 0 j) := by
  have e : ∀ l : List Nat, Reps C.K F H (l.map fun (k : Nat) => T.int k) (l.map fun i => L2.V.int (0 + (i : Nat))) := by
    intro l
    induction l with
    | nil => exact Reps.nil
    | cons x l ih => exact ⟨_, _, rfl, by show L2.V.int (0 + (x : Int)) = .int x; rw [Int.zero_add], ih⟩
  unfold rgs L2.rgV
  rw [Int.sub_zero]
  exact e _
theorem se_lrange {p2 p3 : Pos} (hK : X.K = C.K) (hc : X.calm = true) (hL : BtOk X "list") (hR : BtOk X "range") (hs : isStar a = false) (h : SO X G W C a (evO ih ca)) : SE X G W C (.Call (.Name "list" p) [.Call (.Name "range" p2) [a] [] p3] [] pos) (fun ρ => (evPs ih [ca] ρ).bind fun ts ρ => ofA? (biT .lrange ts) ρ) := by
  intro ρ F σ H Q S out
  refine we_of (L2.pe_listRg hc hL.1 hL.2 (L2.prg_1 hR.1 hR.2 pe_we (star_cons hs)) rfl) ?_
  have h1 : SOs X G W C [a] (evOs ih [ca]) := sos_cons h sos_nil
  have z : WEs X [a] σ H (fun vs H2 => match vs with
    | [v] => ∃ i, v = .int i ∧ L2.RgOk 0 i ∧ ∀ q, H2 q = none → Q (.ref q) (L2.upd H2 q (.lst (L2.rgV 0 i)))
    | _ => False) := by
    have out1 : OutA G W C ρ σ F H (((evOs ih [ca] ρ).bind fun os ρ => match ress ρ os with
      | some ts => .ok ts ρ
      | none => .bad).bind fun ts ρ => ofA? (biT .lrange ts) ρ) Q := out
    refine h1 ρ F σ H _ S ?_
    cases q : evOs ih [ca] ρ with
    | exc c ts ρ' => rw [q] at out1; exact out1
    | bad => rw [q] at out1; exact out1
    | ok os ρ1 =>
      rw [q] at out1
      intro F1 H1 vs st ops
      dsimp only [R.bind] at out1
      cases q2 : ress ρ1 os with
      | none => rw [q2] at out1; exact out1.elim
      | some ts =>
        rw [q2] at out1
        dsimp only at out1
        have pr := ress_ok st.sim ops q2
        match ts, pr, out1 with
        | [.int j], pr, out1 =>
          obtain ⟨v, r1, e1, h1, h2⟩ := pr
          cases (show r1 = [] from h2)
          subst e1
          cases (show v = _ from h1)
          have o2 : OutA G W C ρ σ F H (ofA? (if 0 ≤ j ∧ j ≤ 16777216 then some (A.f (rgs j.toNat)) else none) ρ1) Q := out1
          split at o2
          · rename_i hb
            exact ⟨j, rfl, L2.RgOk.of_le (Int.le_refl 0) hb.2 (by omega) hb.1, fun q hq => (Wants.of o2 st).lst st.sim (reps_rg hb.1) q hq⟩
          · exact o2.elim
        | [], pr, out1 => exact out1.elim
        | [.non], pr, out1 => exact out1.elim
        | [.bl _], pr, out1 => exact out1.elim
        | [.str _], pr, out1 => exact out1.elim
        | [.lst _], pr, out1 => exact out1.elim
        | [.tup _], pr, out1 => exact out1.elim
        | [.ins _ _], pr, out1 => exact out1.elim
        | [.scr _], pr, out1 => exact out1.elim
        | [.dit _ _], pr, out1 => exact out1.elim
        | [.dik _ _], pr, out1 => exact out1.elim
        | x :: y :: r, pr, out1 => exact (show False from (by cases x <;> exact out1)).elim
  exact z
theorem se_trange {p2 p3 : Pos} (hK : X.K = C.K) (hc : X.calm = true) (hL : BtOk X "tuple") (hR : BtOk X "range") (hs : isStar a = false) (h : SO X G W C a (evO ih ca)) : SE X G W C (.Call (.Name "tuple" p) [.Call (.Name "range" p2) [a] [] p3] [] pos) (fun ρ => (evPs ih [ca] ρ).bind fun ts ρ => ofA? (biT .trange ts) ρ) := by
  intro ρ F σ H Q S out
  refine we_of (L2.pe_tupRg hc hL.1 hL.2 (L2.prg_1 hR.1 hR.2 pe_we (star_cons hs)) rfl) ?_
  have h1 : SOs X G W C [a] (evOs ih [ca]) := sos_cons h sos_nil
  have z : WEs X [a] σ H (fun vs H2 => match vs with
    | [v] => ∃ i, v = .int i ∧ L2.RgOk 0 i ∧ ∀ q, H2 q = none → Q (.ref q) (L2.upd H2 q (.tup (L2.rgV 0 i)))
    | _ => False) := by
    have out1 : OutA G W C ρ σ F H (((evOs ih [ca] ρ).bind fun os ρ => match ress ρ os with
      | some ts => .ok ts ρ
      | none => .bad).bind fun ts ρ => ofA? (biT .trange ts) ρ) Q := out
    refine h1 ρ F σ H _ S ?_
    cases q : evOs ih [ca] ρ with
    | exc c ts ρ' => rw [q] at out1; exact out1
    | bad => rw [q] at out1; exact out1
    | ok os ρ1 =>
      rw [q] at out1
      intro F1 H1 vs st ops
      dsimp only [R.bind] at out1
      cases q2 : ress ρ1 os with
      | none => rw [q2] at out1; exact out1.elim
      | some ts =>
        rw [q2] at out1
        dsimp only at out1
        have pr := ress_ok st.sim ops q2
        match ts, pr, out1 with
        | [.int j], pr, out1 =>
          obtain ⟨v, r1, e1, h1, h2⟩ := pr
          cases (show r1 = [] from h2)
          subst e1
          cases (show v = _ from h1)
          have o2 : OutA G W C ρ σ F H (ofA? (if 0 ≤ j ∧ j ≤ 16777216 then some (A.t (.tup (rgs j.toNat))) else none) ρ1) Q := out1
          split at o2
          · rename_i hb
            exact ⟨j, rfl, L2.RgOk.of_le (Int.le_refl 0) hb.2 (by omega) hb.1, fun q hq => (Wants.of o2 st).tup st.sim (reps_rg hb.1) q hq⟩
          · exact o2.elim
        | [], pr, out1 => exact out1.elim
        | [.non], pr, out1 => exact out1.elim
        | [.bl _], pr, out1 => exact out1.elim
        | [.str _], pr, out1 => exact out1.elim
        | [.lst _], pr, out1 => exact out1.elim
        | [.tup _], pr, out1 => exact out1.elim
        | [.ins _ _], pr, out1 => exact out1.elim
        | [.scr _], pr, out1 => exact out1.elim
        | [.dit _ _], pr, out1 => exact out1.elim
        | [.dik _ _], pr, out1 => exact out1.elim
        | x :: y :: r, pr, out1 => exact (show False from (by cases x <;> exact out1)).elim
  exact z
end
end PV

set_option Elab.async false
set_option linter.all false
set_option maxRecDepth 100000
set_option maxHeartbeats 1000000
/-! PV: own exceptions are raised. -/
namespace PV
open PySem PySem.Spec PyProof.Rows
theorem wss_cons {X : L2.Cx} {st : Stmt} {sts : List Stmt} {σ : LSt} {H : L2.Hp} {D : L2.Ends} (h : WS X st σ H { D with nx := fun σ1 H1 => WSs X sts σ1 H1 D }) : WSs X (st :: sts) σ H D := wss_of (L2.pss_cons ps_ws pss_wss) h
/-! ### __init__: self.f = p, .. -/
def inSlot (N : List Str) (sc : Scope) (x : Str) (i : Nat) : Bool := decide (N[i]? = some x) && (decide (sc.names.lookup x = some .local) && (!(x == ("__debug__" : Str)) && !(x == ("__classdict__" : Str))))
theorem inSlot_ok {X : L2.Cx} {x : Str} {i : Nat} (h : inSlot X.N X.env.scope x i = true) : NameOk X i x := by
  unfold inSlot at h
  rw [Bool.and_eq_true, Bool.and_eq_true, Bool.and_eq_true] at h
  obtain ⟨h1, h2, h3, h4⟩ := h
  exact ⟨of_decide_eq_true h1, .inl (of_decide_eq_true h2), by simpa using h3, by simpa using h4⟩
/-- the fields, each with its parameter -/
def iniC (N : List Str) (sc : Scope) : List Stmt → Option (List (Str × Nat))
  | [] => some []
  | .Assign [.Attribute (.Name s _) f _] (.Name y _) _ :: r => if inSlot N sc s 0 = true ∧ inSlot N sc y (N.idxOf y) = true then (iniC N sc r).map ((f, N.idxOf y) :: ·) else none
  | _ :: _ => none
def puts (vs : List L2.V) : List (Str × Nat) → List (Str × L2.V) → List (Str × L2.V)
  | [], acc => acc
  | q :: r, acc => puts vs r ((q.1, vs.getD q.2 .non) :: acc)
/-- what __init__ promises -/
def spIni (K : PySem.W.Frag) (n : Nat) (fs : List (Str × Nat)) : L2.Sp := fun vs H Q _ => vs.length = n ∧ ∃ (a C : Addr) (ys : List L2.V), vs = .ref a :: ys ∧ L2.OexC K C ∧ (∀ q ∈ fs, PySem.W.findIn K (.ref C) q.1 = some none) ∧ fs ≠ [] ∧ fs.length ≤ 900 ∧ (∀ q ∈ fs, q.2 < n) ∧ H a = some (L2.exo a C none) ∧
  ∀ dx, H dx = none → dx ≠ a → Q .non (L2.upd (L2.upd H dx (L2.exd dx (puts vs fs []))) a (L2.exo a C (some dx)))
theorem start_get {N : List Str} {vs : List L2.V} {i : Nat} (h : i < vs.length) : (L2.start N vs)[i]? = some (some (vs.getD i .non)) := by
  unfold L2.start
  rw [List.getElem?_append_left (by simpa using h), List.getElem?_map, List.getElem?_eq_getElem h, List.getD_eq_getElem?_getD, List.getElem?_eq_getElem h]
  rfl
theorem upd_swap {H : L2.Hp} {a dx : Addr} {u v w : L2.HO} (h : dx ≠ a) : L2.upd (L2.upd (L2.upd H dx u) a v) dx w = L2.upd (L2.upd H dx w) a v := by
  funext b
  by_cases h1 : b = dx
  · subst h1
    rw [L2.upd_same, L2.upd_ne h, L2.upd_same]
  · rw [L2.upd_ne h1]
    by_cases h2 : b = a
    · subst h2
      rw [L2.upd_same, L2.upd_same]
    · rw [L2.upd_ne h2, L2.upd_ne h1, L2.upd_ne h2, L2.upd_ne h1]
section
variable {X : L2.Cx} {vs : List L2.V} {H : L2.Hp} {a C dx : Addr}
theorem ini_more (T : L2.OexC X.K C) (ha : vs.getD 0 .non = .ref a) (hv : 0 < vs.length) (hd : dx ≠ a) : ∀ {body : List Stmt} {fs : List (Str × Nat)} {acc : List (Str × L2.V)} {D : L2.Ends}, iniC X.N X.env.scope body = some fs → (∀ q ∈ fs, PySem.W.findIn X.K (.ref C) q.1 = some none) → (∀ q ∈ fs, q.2 < vs.length) → acc.length + fs.length ≤ 900 →
    (D.nx (L2.start X.N vs) (L2.upd (L2.upd H dx (L2.exd dx (puts vs fs acc))) a (L2.exo a C (some dx)))) → WSs X body (L2.start X.N vs) (L2.upd (L2.upd H dx (L2.exd dx acc)) a (L2.exo a C (some dx))) D := by
  intro body
  induction body with
  | nil =>
    intro fs acc D e _ _ _ q
    cases e
    exact wss_of L2.pss_nil q
  | cons st body ih =>
    intro fs acc D e hno hlt hlen q
    unfold iniC at e
    split at e
    · rename_i h; cases h
    · rename_i s p1 f p2 y p3 pos r heq
      cases heq
      split at e
      · rename_i hc
        obtain ⟨fs', e1, e2⟩ := Option.map_eq_some_iff.mp e
        subst e2
        refine wss_cons (ws_of (L2.ps_ost (pe_nm (inSlot_ok hc.1)) (pe_nm (inSlot_ok hc.2))) ?_)
        refine ⟨_, start_get (hlt _ List.mem_cons_self), .ref a, by rw [start_get hv, ha], a, C, rfl, T, hno _ List.mem_cons_self, .inr ⟨dx, acc, L2.upd_same, by rw [L2.upd_ne hd, L2.upd_same], by rw [List.length_cons] at hlen; omega, ?_⟩⟩
        rw [upd_swap hd]
        exact ih e1 (fun q hq => hno q (List.mem_cons_of_mem _ hq)) (fun q hq => hlt q (List.mem_cons_of_mem _ hq)) (by rw [List.length_cons] at hlen ⊢; omega) q
      · cases e
    · cases e
theorem ini_all (T : L2.OexC X.K C) (ha : vs.getD 0 .non = .ref a) (hv : 0 < vs.length) (hH : H a = some (L2.exo a C none)) {body : List Stmt} {fs : List (Str × Nat)} {D : L2.Ends} (e : iniC X.N X.env.scope body = some fs) (hne : fs ≠ []) (hno : ∀ q ∈ fs, PySem.W.findIn X.K (.ref C) q.1 = some none) (hlt : ∀ q ∈ fs, q.2 < vs.length) (hlen : fs.length ≤ 900)
    (q : ∀ dx, H dx = none → dx ≠ a → D.nx (L2.start X.N vs) (L2.upd (L2.upd H dx (L2.exd dx (puts vs fs []))) a (L2.exo a C (some dx)))) : WSs X body (L2.start X.N vs) H D := by
  cases body with
  | nil => cases e; exact absurd rfl hne
  | cons st body =>
    unfold iniC at e
    split at e
    · rename_i h; cases h
    · rename_i s p1 f p2 y p3 pos r heq
      cases heq
      split at e
      · rename_i hc
        obtain ⟨fs', e1, e2⟩ := Option.map_eq_some_iff.mp e
        subst e2
        refine wss_cons (ws_of (L2.ps_ost (pe_nm (inSlot_ok hc.1)) (pe_nm (inSlot_ok hc.2))) ?_)
        refine ⟨_, start_get (hlt _ List.mem_cons_self), .ref a, by rw [start_get hv, ha], a, C, rfl, T, hno _ List.mem_cons_self, .inl ⟨hH, fun dx hdx hd => ?_⟩⟩
        exact ini_more T ha hv hd e1 (fun q hq => hno q (List.mem_cons_of_mem _ hq)) (fun q hq => hlt q (List.mem_cons_of_mem _ hq)) (by rw [List.length_cons] at hlen ⊢; simpa using by omega) (q dx hdx hd)
      · cases e
    · cases e
end
theorem ini_fn {P : Program} {w : World} {K : PySem.W.Frag} {mg : Str → Option Value} {base : Heap} {CX : L2.CXT} {x qual : Str} {params : Arguments} {body : List Stmt} {scope : Scope} {fI : Addr} {fd : FuncData} {N ps : List Str} {fs : List (Str × Nat)}
    (F : L2.FunD K x qual params body scope [] [] fI fd) (S : L2.FnScope N ps scope) (e : iniC N scope body = some fs) : L2.FnOk P w K mg base CX 1 fI fd ps (spIni K ps.length fs) := by
  refine F.ok S (fun vs H Q E h => h.1) fun cdv A outer s H vs Q E hr h => ⟨_, pss_wss, ?_⟩
  obtain ⟨h0, a, C, ys, h1, T, hno, hne, hlen, hlt, hH, q⟩ := h
  subst h1
  exact ini_all (X := L2.cxOf CX P w K mg base N qual scope fI cdv A outer s H E) (vs := .ref a :: ys) T rfl (Nat.succ_pos _) hH e hne hno (fun q hq => by rw [h0]; exact hlt q hq) hlen q
end PV

set_option Elab.async false
set_option linter.all false
set_option maxRecDepth 100000
set_option maxHeartbeats 1000000
/-! PV: raise X(e, ..). -/
namespace PV
open PySem PySem.Spec PyProof.Rows
theorem puts_out {vs : List L2.V} {x : Str} : ∀ {fs : List (Str × Nat)} {acc : List (Str × L2.V)}, x ∉ fs.map (·.1) → (puts vs fs acc).lookup x = acc.lookup x
  | [], _, _ => rfl
  | q :: r, acc, h => by
    rw [List.map_cons, List.mem_cons, not_or] at h
    show (puts vs r ((q.1, vs.getD q.2 .non) :: acc)).lookup x = _
    rw [puts_out h.2, List.lookup_cons]
    have z : (x == q.1) = false := by simpa using h.1
    rw [z]
theorem puts_in {vs : List L2.V} {x : Str} {j : Nat} : ∀ {fs : List (Str × Nat)} {acc : List (Str × L2.V)} {i : Nat}, (fs.map (·.1)).Nodup → fs[i]? = some (x, j) → (puts vs fs acc).lookup x = some (vs.getD j .non)
  | [], _, i, _, h => by simp at h
  | q :: r, acc, 0, hn, h => by
    rw [List.map_cons, List.nodup_cons] at hn
    obtain rfl : q = (x, j) := by simpa using h
    show (puts vs r ((x, vs.getD j .non) :: acc)).lookup x = _
    rw [puts_out hn.1, List.lookup_cons]
    simp
  | q :: r, acc, i + 1, hn, h => by
    rw [List.map_cons, List.nodup_cons] at hn
    show (puts vs r _).lookup x = _
    exact puts_in (i := i) hn.2 (by simpa using h)
/-- what is known of an own exception class: its number, its name, how many fields -/
structure ErrAt (P : Program) (w : World) (K : PySem.W.Frag) (mg : Str → Option Value) (base : Heap) (G : Ga) (c : Nat) (x : Str) (n : Nat) : Prop where
  ex : ∃ (fI : Addr) (fd : FuncData) (ps : List Str), L2.OexC K (G.ca c) ∧ PySem.W.findIn K (.ref (G.ca c)) "__init__" = some (some (.ref fI)) ∧ PySem.W.typeIn K (.ref fI) = some (.type "function") ∧
    L2.FnOk P w K mg base (L2.CX P w) 1 fI fd ps (spIni K (n + 1) ((G.nm c).zipIdx 1)) ∧ L2.Binds K fd ps [] ∧ mg x = some (.ref (G.ca c)) ∧ (G.nm c).length = n ∧ 0 < n ∧ n ≤ 900 ∧ (G.nm c).Nodup ∧ ∀ f ∈ G.nm c, PySem.W.findIn K (.ref (G.ca c)) f = some none
theorem zipIdx_fst {α : Type} (l : List α) (k : Nat) : (l.zipIdx k).map (·.1) = l := by
  induction l generalizing k with
  | nil => rfl
  | cons x l ih => rw [List.zipIdx_cons, List.map_cons, ih]
section
variable {X : L2.Cx} {G : Ga} {W : L2.WX} {C : FC} {e : Expr} {es : List Expr} {cs : List Ex} {ih : Ex → Rho → R A} {p pos pos2 : Pos}
theorem ss_rai {P : Pg} {c n : Nat} {x : Str} (hP : (P.nms c).length = n) (hK : X.K = C.K) (hc : X.calm = true) (tk : L2.Takes X W) (hr : L2.Room 2 X.A) (E : ErrAt X.prog X.w X.K X.mg X.base G c x n) (hg : L2.Gl X x) (hdb : (x == ("__debug__" : Str)) = false) (hs : isStar e = false) (hss : es.all (fun e => !isStar e) = true)
    (h : SOs X G W C (e :: es) (evOs ih cs)) : SS1 X G W C (.Raise (some (.Call (.Name x p) (e :: es) [] pos)) none pos2) (fun ρ => RS.of (evOs ih cs ρ) fun os ρ => raiC P c ρ os) := by
  intro ρ F σ H D S o
  obtain ⟨fI, fd, ps, T, iC, tI, F1, hb, hm, hl, h0, h9, hn, hno⟩ := E.ex
  refine ws_of (L2.ps_raise hc tk (L2.pmk_oex T iC tI F1 hr hb .nil (L2.passes_call tk fun _ _ _ _ z => z.elim) hg hm (pa_wes (by rw [List.all_cons, hs, hss] <;> rfl)) hdb (star_cons hs) (star_plain hss))) ?_
  refine h ρ F σ H _ S (outOs_of_rs o fun os ρ1 o1 F1' H1 vs st ops => ?_)
  unfold raiC at o1
  cases q : frzs ρ1 os with
  | none => rw [q] at o1; exact o1.elim
  | some pr =>
  obtain ⟨ts, ρ2⟩ := pr
  rw [q] at o1
  dsimp only at o1
  rw [hP] at o1
  obtain ⟨F2, st2, _, rs⟩ := frzs_ok S st ops q
  by_cases hlt : ts.length = n
  · rw [if_pos hlt] at o1
    have hv : vs.length = n := by rw [← rs.length, hlt]
    refine ⟨by omega, fun a ha => ⟨by simp [hv], a, G.ca c, vs, by simp, T, fun q hq => ?_, fun z => ?_, ?_, fun q hq => ?_, L2.upd_same, fun dx hd hda => ?_⟩⟩
    · refine hK ▸ hno q.1 ?_
      have := List.mem_map_of_mem (f := (·.1)) hq
      rwa [zipIdx_fst] at this
    · have y : ((G.nm c).zipIdx 1).length = 0 := by rw [z]; rfl
      rw [List.length_zipIdx] at y
      omega
    · rw [List.length_zipIdx]; omega
    · obtain ⟨_, z, _⟩ := List.mem_zipIdx (x := q.1) (i := q.2) hq
      omega
    · have hd0 : H1 dx = none := by rw [L2.upd_ne hda] at hd; exact hd
      refine ⟨rfl, dx, _, L2.upd_same, by rw [L2.upd_ne hda, L2.upd_same], hd0, ?_⟩
      have eH : ∀ {u v w z : L2.HO}, L2.upd (L2.del (L2.upd (L2.upd (L2.upd H1 a u) dx v) a w) a) dx z = L2.upd H1 dx z := fun {u v w z} => by
        funext b
        by_cases h1 : b = dx
        · subst h1; rw [L2.upd_same, L2.upd_same]
        · rw [L2.upd_ne h1, L2.upd_ne h1]
          by_cases h2 : b = a
          · subst h2; rw [L2.del_same, ha]
          · rw [L2.del_ne h2, L2.upd_ne h2, L2.upd_ne h1, L2.upd_ne h2]
      rw [eH]
      have st3 := st2.alloc (F' := fun q => F2 q ∨ q = dx) (o := .xd (puts (.ref a :: (vs ++ [])) ((G.nm c).zipIdx 1) [])) hd0 (fun _ h => .inl h) fun _ h => h
      refine o1 σ _ _ _ _ st3 ⟨rfl, .inr ⟨dx, _, rfl, L2.upd_same, fun i t y h1 h2 => ?_⟩⟩
      have hx : ((G.nm c).zipIdx 1)[i]? = some (y, 1 + i) := by rw [List.getElem?_zipIdx, h2]; rfl
      have z := puts_in (vs := .ref a :: (vs ++ [])) (acc := []) (by rw [zipIdx_fst]; exact hn) hx
      obtain ⟨v, g1, g2⟩ := rs.get h1
      refine ⟨v, ?_, ?_⟩
      · rw [z, Nat.add_comm, List.append_nil, List.getD_eq_getElem?_getD, List.getElem?_cons_succ, g1]
        rfl
      · have r1 := Reps.cons g2 Reps.nil
        obtain ⟨v', r, e1, e2, _⟩ := Reps.mono (F' := fun q => F2 q ∨ q = dx) ⟨fun _ h => .inl h, fun p o z1 z2 => upd_keep hd0 z2⟩ _ _ r1
        cases e1
        exact e2
  · rw [if_neg hlt] at o1; exact o1.elim
end
end PV

set_option Elab.async false
set_option linter.all false
set_option maxRecDepth 100000
set_option maxHeartbeats 1000000
/-! PV: try .. except X as n: return e. -/
namespace PV
open PySem PySem.Spec PyProof.Rows
/-- what the written part says of an error class, so that its fields may be read -/
structure ErrGet (K : PySem.W.Frag) (C : Addr) (nm : List Str) : Prop where
  ga : PySem.W.findIn K (.ref C) "__getattribute__" = some (some (.builtin "BaseException.__getattribute__"))
  gg : PySem.W.findIn K (.ref C) "__getattr__" = some none
  exC : PySem.W.subIn K (.ref C) (.type "BaseException") = some true
  hdC : PySem.W.hasDictIn K C = true
  no : ∀ f ∈ nm, PySem.W.findIn K (.ref C) f = some none
theorem lookup_zip {nm : List Str} {ts : List T} {f : Str} {t : T} (h : (nm.zip ts).lookup f = some t) : ∃ i : Nat, nm[i]? = some f ∧ ts[i]? = some t := by
  induction nm generalizing ts with
  | nil => cases h
  | cons x nm ih =>
    cases ts with
    | nil => cases h
    | cons u ts =>
      rw [List.zip_cons_cons, List.lookup_cons] at h
      split at h
      · rename_i e
        cases h
        exact ⟨0, by simpa using (eq_of_beq e).symm, rfl⟩
      · obtain ⟨i, h1, h2⟩ := ih h
        exact ⟨i + 1, by simpa using h1, by simpa using h2⟩
section
variable {X : L2.Cx} {G : Ga} {W : L2.WX} {C : FC} {P : Pg} {F F' : FS} {ρ ρ' : Rho} {σ σ' : LSt} {H H' : L2.Hp} {e e1 e2 : Expr} {p pos : Pos}
/-- n.f, n the exception that the suite holds -/
theorem we_xatt {Y : L2.Cx} {c i : Nat} {ts : List T} {a : Addr} {oe : Obj} {cls : Value} {d : Option Addr} {x f : Str} {t : T} {Q : L2.VK} (hp : (a, oe) ∈ Y.pn) (g : ErrGet Y.K (G.ca c) (G.nm c)) (hz : L2.Zc cls d oe) (hf : ∃ vs, oe.data = .fields vs) (hn : NameOk Y i x)
    (sl : σ[i]? = some (some (.ref a))) (xr : XR Y.K G F H c ts cls d) (ht : ((G.nm c).zip ts).lookup f = some t) (q : ∀ v, RepT Y.K F H t v → Q v H) : WE Y (.Attribute (.Name x p) f pos) σ H Q := by
  obtain ⟨j, j1, j2⟩ := lookup_zip ht
  obtain ⟨ec, h0 | ⟨dd, fs, ed, ea, hfs⟩⟩ := xr
  · rw [h0.1] at j2; simp at j2
  obtain ⟨v, hv, rv⟩ := hfs j t f j2 j1
  intro pins s I
  refine L2.attr_of (by rfl) (L2.thn ((pe_nm hn).run pins s σ H (fun w H1 => w = .ref a ∧ H1 = H) I ⟨_, sl, rfl, rfl⟩) fun u s1 hh => ?_)
  obtain ⟨w, H1, I1, rx, ex, eH⟩ := hh
  subst ex eH
  obtain rfl : u = Value.ref a := rx
  subst ec ed
  obtain ⟨ha, _⟩ := I1.pin (a, oe) (List.mem_append_left _ hp)
  obtain ⟨vs, hd⟩ := hf
  obtain ⟨mA, hns, hr⟩ := (show L2.ObjOk Y.prog Y.w H1 s1.heap dd (.xd fs) from I1.hok dd _ ea)
  obtain ⟨od, ho, hl⟩ := L2.lookIn_ns hns
  obtain ⟨u, hu, ru⟩ := L2.RelO.some_of (v := v) (o := mA f) (by rw [← hv]; exact hr f)
  have J : PySem.W.InstAt s1.heap a oe (G.ca c) (some od) := ⟨ha, hz.1, by unfold PySem.W.notCls; rw [hd] <;> rfl, by rw [hz.2]; exact ho⟩
  exact HandSPX.exc_get I1.kIn J g.ga g.gg g.exC (PySem.W.findObj_own g.hdC (g.no f (List.mem_of_getElem? j1)) rfl (by rw [hl, hu])) (L2.handed_of ru) ⟨v, H1, I1.tok _, ru, q v rv⟩
def xeC (sl : Str → Option Nat) (n : Str) (i : Nat) : Expr → Option XE
  | .Attribute (.Name m _) f _ => if m = n ∧ sl n = some i then some (.val f) else none
  | .Name x _ => (sl x).map .loc
  | .Constant (.int k) _ _ => some (.con (.int k))
  | .Constant (.str s) _ _ => some (.con (.str s))
  | .Constant (.bool b) _ _ => some (.con (.bl b))
  | .Compare a [.Eq] [b] _ => if behindInMarks (cmpOf .eq) b = false then match xeC sl n i a, xeC sl n i b with
    | some x, some y => some (.eq x y)
    | _, _ => none
    else none
  | _ => none
theorem xe_ok {Y : L2.Cx} {c i : Nat} {ts : List T} {a : Addr} {oe : Obj} {cls : Value} {d : Option Addr} {n : Str} {sf : Str → Option Nat} (hu : Y.A.units + 65 < cLine) (hsl : ∀ x j, sf x = some j → NameOk Y j x) (hp : (a, oe) ∈ Y.pn) (g : ErrGet Y.K (G.ca c) (G.nm c)) (hN : G.nm c = P.nms c) (hK : Y.K = C.K) (hz : L2.Zc cls d oe) (hf : ∃ vs, oe.data = .fields vs)
    (S : Sim C F ρ σ H) (sl : σ[i]? = some (some (.ref a))) (xr : XR C.K G F H c ts cls d) (e : Expr) (x : XE) (t : T) (Q : L2.VK) (hx : xeC sf n i e = some x) (ht : evX P c ts ρ x = some t) (q : ∀ v, RepT C.K F H t v → Q v H) : WE Y e σ H Q := by
  unfold xeC at hx
  split at hx
  · rename_i m p1 f p2
    split at hx
    · rename_i hm
      cases hx
      obtain ⟨h1, h2⟩ := hm
      subst h1
      exact we_xatt hp g hz hf (hsl _ _ h2) sl (hK ▸ xr) (by rw [hN]; exact ht) (hK ▸ q)
    · cases hx
  · rename_i y p
    obtain ⟨j, e1, e2⟩ := Option.map_eq_some_iff.mp hx
    subst e2
    unfold evX at ht
    split at ht
    · rename_i u hu'
      cases ht
      obtain ⟨v, g1, g2⟩ := S.sl j _ hu'
      exact we_of (pe_nm (hsl _ _ e1)) ⟨v, of_getD g1, q v g2⟩
    · cases ht
  · cases hx
    cases ht
    exact we_of L2.pe_int (q _ rfl)
  · cases hx
    cases ht
    exact we_of L2.pe_str (q _ rfl)
  · cases hx
    cases ht
    exact we_of L2.pe_bl (q _ rfl)
  · rename_i a' b' pos
    split at hx
    case isFalse => cases hx
    rename_i hm
    split at hx
    case h_2 => cases hx
    rename_i xa xb h1 h2
    cases hx
    unfold evX at ht
    split at ht
    case h_2 => cases ht
    rename_i ta tb k1 k2
    obtain ⟨k, k3, k4⟩ := Option.map_eq_some_iff.mp ht
    subst k4
    refine we_of (L2.pe_cmpR (cmp_rule hu .eq) pe_we pe_we hm) ?_
    refine xe_ok hu hsl hp g hN hK hz hf S sl xr a' xa ta _ h1 k1 fun v rv => xe_ok hu hsl hp g hN hK hz hf S sl xr b' xb tb _ h2 k2 fun u ru => ?_
    rw [hK]
    exact cmp_ok (PRep.of rv) (PRep.of ru) k3 (q _ rfl)
  · cases hx
termination_by sizeOf e
decreasing_by all_goals (subst_vars; simp; omega)
end
end PV

set_option Elab.async false
set_option linter.all false
set_option maxRecDepth 100000
set_option maxHeartbeats 1000000
/-! PV: try .. except X as n: return e, the statement. -/
namespace PV
open PySem PySem.Spec PyProof.Rows
/-- what is known of a program's own errors -/
structure ErrsOk (Pr : Program) (w : World) (K : PySem.W.Frag) (mg : Str → Option Value) (base : Heap) (G : Ga) (P : Pg) (errs : List (Nat × Str)) : Prop where
  er : ∀ q ∈ errs, ErrAt Pr w K mg base G q.1 q.2 (G.nm q.1).length
  em : ∀ c c' b, P.sub c c' = some b → PySem.W.exmOne K (.ref (G.ca c)) (.ref (G.ca c')) = some b
  eg : ∀ c c', P.sub c c' = some true → ErrGet K (G.ca c) (G.nm c)
  nms : ∀ c, G.nm c = P.nms c
section
variable {X : L2.Cx} {G : Ga} {W : L2.WX} {C : FC} {P : Pg}
theorem ss_try {c' i : Nat} {n x : Str} {np rp pos pos' : Pos} {body : List Stmt} {r : Rho → RS} {e : Expr} {xe : XE} {sf : Str → Option Nat} (hK : X.K = C.K) (hst : X.stack = X.env :: X.outer) (hfr : X.env.frame = some X.env.locals) (hN : X.N.Nodup) (hi : X.N[i]? = some n) (hln : X.env.kindOf n = some .local)
    (hc : L2.Names X x (.ref (G.ca c'))) (tk : L2.Takes X W) (hu : X.A.units + 65 < cLine) (hsl : ∀ y j, sf y = some j → NameOk X j y) (hx : xeC sf n i e = some xe) (sub : ∀ c b, P.sub c c' = some b → PySem.W.exmOne X.K (.ref (G.ca c)) (.ref (G.ca c')) = some b)
    (gets : ∀ c, P.sub c c' = some true → ErrGet X.K (G.ca c) (G.nm c)) (hP : ∀ c, G.nm c = P.nms c)
    (hb : ∀ (W : L2.WX) (pn : List (Addr × Obj)) (xe : Value → Shared → Prop), L2.Takes (X.tr pn xe) W → PassesOwn (model X.prog X.w) X.A X.env xe → SSs (X.tr pn xe) G W C body r) :
    SS1 X G W C (.Try body [.ExceptHandler (some (.Name x np)) (some n) [.Return (some e) rp] pos'] [] [] pos) (fun ρ => match r ρ with
      | .exc c ts ρ => suiteX P c c' i ts xe ρ
      | y => y) := by
  intro ρ F σ H D S o
  refine ws_of (L2.ps_try_as (i := i) (tb := fun W D σ H => ∃ ρ F, Sim C F ρ σ H ∧ OutS G W C ρ σ F H (r ρ) D)
    (ts := fun a cls d D σ H => ∃ ρ F c ts t, Sim C F ρ σ H ∧ σ[i]? = some (some (.ref a)) ∧ XR C.K G F H c ts cls d ∧ ErrGet X.K (G.ca c) (G.nm c) ∧ evX P c ts ρ xe = some t ∧ ∀ v, RepT C.K F H t v → D.rt v H) (Wout := W) hst hfr hN hi hln hc tk
    (fun W pn xe tk' hp => ⟨fun pins s σ H D I h => ?_⟩) (fun a oe cls d pn hz hf => ⟨fun pins s σ H D I h => ?_⟩)) ?_
  · obtain ⟨ρ, F, S, o⟩ := h
    exact hb W pn xe tk' hp ρ F σ H D S o pins s I
  · obtain ⟨ρ, F, c, ts, t, S, sl, xr, g, ev, q⟩ := h
    exact (L2.pss_one (L2.ps_ret pe_we)).run pins s σ H D I (xe_ok (Y := X.suite a ((a, oe) :: pn)) hu hsl List.mem_cons_self g (hP c) hK hz hf S sl xr e xe t _ hx ev q)
  · refine ⟨ρ, F, S, ?_⟩
    dsimp only at o
    cases q : r ρ with
    | nx ρ' => rw [q] at o; exact o
    | rt a ρ' => rw [q] at o; exact o
    | bk ρ' => rw [q] at o; exact o
    | ct ρ' => rw [q] at o; exact o
    | bad => rw [q] at o; exact o
    | exc c ts ρ' =>
      rw [q] at o
      intro σ' F' H' cv d st xr
      have ec := xr.1
      subst ec
      dsimp only at o
      unfold suiteX at o
      split at o
      · exact o.elim
      · rename_i hb
        exact ⟨false, sub c _ hb, fun z => Bool.noConfusion z, fun _ => o σ' F' H' _ d st xr⟩
      · rename_i hb
        refine ⟨true, sub c _ hb, fun _ a ha => ?_, fun z => Bool.noConfusion z⟩
        split at o
        · exact o.elim
        · rename_i sl hsl'
          split at o
          · rename_i t ht
            have st2 := st.wipe (i := i) (ov := some (.ref a))
            have hl : i < σ'.length := by
              rw [← st.sim.len]
              exact (List.getElem?_eq_some_iff.mp hsl').1
            exact ⟨_, F', c, ts, t, st2.sim, List.getElem?_set_self hl, xr, gets c hb, ht, fun v rv => o _ F' H' v st2 rv⟩
          · exact o.elim
end
end PV

set_option Elab.async false
set_option linter.all false
set_option maxRecDepth 100000
set_option maxHeartbeats 1000000
/-! PV: displays of dicts; calls with names. -/
namespace PV
open PySem PySem.Spec PyProof.Rows
section
variable {X : L2.Cx} {G : Ga} {W : L2.WX} {C : FC} {ρ ρ' ρ0 ρ1 : Rho} {σ σ' : LSt} {F F' F0 F1 : FS} {H H' H0 H1 : L2.Hp} {e a b c tg iter elt : Expr} {es rest : List Expr} {pos p : Pos} {ih : Ex → Rho → R A} {ce ca cb cc ct : Ex} {vs : List Nat}
theorem se_dk0 : SE X G W C (.Dict [] [] pos) (fun ρ => .ok (.t (.dit [] [])) ρ) := by
  intro ρ F σ H Q S out
  refine we_of L2.pe_dnewT fun q hq => ?_
  have w : Wants C σ ρ F H (.t (.dit [] [])) Q := Wants.of out (.rfl' S)
  exact new_dit (m := []) S w hq .nil
/-- from a state in which a thing of nobody's is given its last content and frozen -/
theorem Step.seal (Ss : Sim C F ρ σ H) {p : Addr} {o o' : L2.HO} (hp : H p = none) (st : Step C ρ σ F (L2.upd H p o) ρ' σ F' H') (hF : ¬ F' p) (hO : ¬ Own ρ' σ p) : Step C ρ σ F H ρ' σ (fun q => F' q ∨ q = p) (L2.upd H' p o') := by
  have hC := Ss.h0 hp
  have nn : ∀ q u, H q = some u → q ≠ p := fun q u h => L2.ne_of_none h hp
  have S' := st.sim
  have e : Ext F' H' (fun q => F' q ∨ q = p) (L2.upd H' p o') := ⟨fun q h => .inl h, fun q u h z => by rw [L2.upd_ne (show q ≠ p from fun y => hF (y ▸ h))]; exact z⟩
  refine ⟨fun q h => .inl (st.sub q h), fun q u h n => ?_, fun q h => ?_, fun q h => ?_, fun q h => ?_, ?_⟩
  · have ne := nn q u h
    rw [L2.upd_ne ne]
    exact st.keep q u (by rw [L2.upd_ne ne]; exact h) n
  · rcases h with h | h
    · rcases st.new q h with z | z | z
      · exact .inl z
      · by_cases y : q = p
        · subst y; exact absurd h hF
        · rw [L2.upd_ne y] at z; exact .inr (.inl z)
      · exact .inr (.inr z)
    · exact .inr (.inl (by rw [h]; exact hp))
  · rcases st.own q h with z | z
    · exact .inl z
    · by_cases y : q = p
      · subst y; exact absurd h hO
      · rw [L2.upd_ne y] at z; exact .inr z
  · by_cases y : q = p
    · rw [y, L2.upd_same]; simp
    · rw [L2.upd_ne y]
      exact st.there q (by rw [L2.upd_ne y]; exact h)
  · refine S'.move e (fun q h => ?_) (fun q h => ?_) (fun q u h n => ?_) (fun q h => ?_) fun q h => ?_
    · by_cases y : q = p
      · rw [y, L2.upd_same]; simp
      · rw [L2.upd_ne y]
        rcases h with h | h
        · exact S'.frz q h
        · exact absurd h y
    · rcases h with h | h
      · exact S'.frN q h
      · exact .inr (by rw [h]; exact hC)
    · have ne : q ≠ p := fun y => by rw [y, hC] at h; cases h
      rw [L2.upd_ne ne]
      exact S'.out q u h n
    · have ne : q ≠ p := fun y => h (by rw [y]; exact hC)
      rw [L2.upd_ne ne]
      exact S'.dom q h
    · have ne : q ≠ p := fun y => hO (y ▸ h)
      refine ⟨L2.upd_ne ne, fun z => ?_⟩
      rcases z with z | z
      · exact S'.nown z h
      · exact ne z
theorem se_dk1 {i : Int} {j : Nat} {kp : Pos} (h : SO X G W C e (evO ih ce)) : SE X G W C (.Dict [some (.Constant (.int i) j kp)] [e] pos) (fun ρ => (evF ih ce ρ).bind fun t ρ => .ok (.t (.dik [.inl i] [t])) ρ) := by
  intro ρ F σ H Q S out
  refine we_of (L2.pe_disp (L2.pps_cons L2.pe_int pe_we L2.pps_nil) rfl rfl (by simp) (by simp)) fun p hp => ?_
  have st0 : Step C ρ σ F H ρ σ F (L2.upd H p (.dK [])) := (Step.rfl' S).alloc hp (fun _ h => h) fun _ h => .inl h
  have S0 := st0.sim
  have nF : ¬ F p := fun z => S.frz p z hp
  have nO : ¬ Own ρ σ p := fun z => by
    obtain ⟨i, k, xs, h1, h2⟩ := z
    obtain ⟨q, vs, h3, h4, _⟩ := S.own h1
    rw [h2] at h3
    cases h3
    rw [hp] at h4
    cases h4
  refine h ρ F σ _ _ S0 ?_
  have out1 : OutA G W C ρ σ F H (((evO ih ce ρ).bind fun o ρ => match frz ρ o with
    | some (t, ρ) => .ok t ρ
    | none => .bad).bind fun t ρ => .ok (.t (.dik [.inl i] [t])) ρ) Q := out
  cases q1 : evO ih ce ρ with
  | bad => rw [q1] at out1; exact out1.elim
  | exc c ts ρ' => rw [q1] at out1; exact OutX.later st0 out1
  | ok o ρ' =>
  rw [q1] at out1
  intro F' H' v st op
  dsimp only [R.bind] at out1
  cases q2 : frz ρ' o with
  | none => rw [q2] at out1; exact out1.elim
  | some pr =>
  obtain ⟨t, ρ2⟩ := pr
  rw [q2] at out1
  obtain ⟨F1, st1, x1, rep, _⟩ := frz_ok S0 st op q2
  have nN : L2.upd H p (.dK []) p ≠ none := by rw [L2.upd_same]; simp
  have nF1 : ¬ F1 p := fun z => by
    rcases st1.new p z with z | z | z
    · exact nF z
    · exact nN z
    · exact nO z
  have nO1 : ¬ Own ρ2 σ p := fun z => by
    rcases st1.own p z with z | z
    · exact nO z
    · exact nN z
  have fin : Step C ρ σ F H ρ2 σ (fun q => F1 q ∨ q = p) (L2.upd H' p (.dK [(.inl i, v)])) := Step.seal S hp st1 nF1 nO1
  refine ⟨st.keep p _ L2.upd_same nO, [(.inl i, v)], rfl, by simp, ?_⟩
  refine out1 _ _ (.ref p) fin ⟨p, [v], rfl, .inr rfl, L2.upd_same, rfl, v, [], rfl, RepT.mono ⟨fun q h => .inl h, fun q u h z => ?_⟩ t v rep, rfl⟩
  rw [L2.upd_ne (show q ≠ p from fun y => nF1 (y ▸ h))]
  exact z
/-! ### calls with names -/
theorem WEs.append : ∀ {es es2 : List Expr} {H : L2.Hp} {K : List L2.V → L2.Hp → Prop}, WEs X (es ++ es2) σ H K → WEs X es σ H fun vs H1 => WEs X es2 σ H1 fun ws H2 => K (vs ++ ws) H2
  | [], _, _, _, h => h
  | _ :: es, _, _, _, h => WE.mono h fun v H1 q => WEs.append (es := es) q
theorem WEs.len : ∀ {es : List Expr} {H : L2.Hp} {K : List L2.V → L2.Hp → Prop}, WEs X es σ H K → WEs X es σ H fun vs H1 => vs.length = es.length ∧ K vs H1
  | [], _, _, h => ⟨rfl, h⟩
  | _ :: es, _, _, h => WE.mono h fun v H1 q => WEs.mono (WEs.len (es := es) q) fun vs H2 q2 => ⟨congrArg Nat.succ q2.1, q2.2⟩
theorem pk_wes : ∀ {kws : List Keyword}, L2.PK X kws (WEs X (kws.map (·.value)))
  | [] => L2.pk_nil
  | ⟨_, _, _⟩ :: kws => L2.pk_cons pe_we pk_wes
/-- named arguments -/
def kwNames : List Keyword → Option (List Str)
  | [] => some []
  | ⟨some x, _, _⟩ :: r => (kwNames r).map (x :: ·)
  | ⟨none, _, _⟩ :: _ => none
theorem kw_names {env : PySem.Env} : ∀ {kws : List Keyword} {ks : List Str}, kwNames kws = some ks → (backToKw pos (keywordEach kws env)).all (·.1.isSome) = true ∧ (backToKw pos (keywordEach kws env)).filterMap (·.1) = ks ∧ (backToKw pos (keywordEach kws env)).any (·.1.isNone) = false ∧ kws.length = ks.length
  | [], _, h => by cases h; exact ⟨rfl, rfl, rfl, rfl⟩
  | ⟨some x, e, kp⟩ :: r, _, h => by
    obtain ⟨ks, e1, e2⟩ := Option.map_eq_some_iff.mp (show (kwNames r).map (x :: ·) = some _ from h)
    subst e2
    obtain ⟨h1, h2, h3, h4⟩ := kw_names (env := env) e1
    exact ⟨h1, by show x :: List.filterMap _ _ = _; rw [← h2]; rfl, h3, congrArg Nat.succ h4⟩
  | ⟨none, _, _⟩ :: _, _, h => by cases h
theorem place_ok {Hs : L2.Hp} {os : List Opd} {vs : List L2.V} (h : OpReps C.K σ Hs ρ F H os vs) : ∀ {is : List Nat} {os' : List Opd}, place os (is.map Sum.inl) = some os' → OpReps C.K σ Hs ρ F H os' (is.filterMap fun i => vs[i]?) ∧ ∀ i ∈ is, i < vs.length
  | [], _, e => by cases e; exact ⟨rfl, fun i hi => (nomatch hi)⟩
  | i :: is, os', e => by
    have e' : (match os[i]? with
      | some o => (place os (is.map Sum.inl)).map (o :: ·)
      | none => none) = some os' := e
    cases q : os[i]? with
    | none => rw [q] at e'; cases e'
    | some o =>
      rw [q] at e'
      obtain ⟨r, e1, e2⟩ := Option.map_eq_some_iff.mp e'
      subst e2
      obtain ⟨h1, h2⟩ := place_ok h e1
      obtain ⟨v, g1, g2⟩ := h.get q
      refine ⟨?_, fun j hj => ?_⟩
      · rw [List.filterMap_cons, g1]
        exact ⟨v, _, rfl, g2, h1⟩
      · rcases List.mem_cons.mp hj with rfl | hj
        · exact (List.getElem?_eq_some_iff.mp g1).1
        · exact h2 j hj
theorem vals_pick {vs : List L2.V} {us : List Value} (r : L2.Vals vs us) : ∀ {is : List Nat}, L2.Vals (is.filterMap fun i => vs[i]?) (is.filterMap fun i => us[i]?)
  | [] => .nil
  | i :: is => by
    rw [List.filterMap_cons, List.filterMap_cons]
    cases q : vs[i]? with
    | none => rw [r.none_of q]; exact vals_pick r
    | some v =>
      obtain ⟨u, h1, h2⟩ := r.get q
      rw [h1]
      exact .cons h2 (vals_pick r)
theorem run_kw {pins : List (Addr × Obj)} {Fo : Orc} {d f : Nat} {md : List Md} {fa : Addr} {fd : FuncData} {ps ks : List Str} {us ws : List Value} {vs : List L2.V} {s : Shared} {Q : L2.VK} (F : FnG X.prog X.w X.K X.mg X.base (L2.CX X.prog X.w) (d + 2) fa fd ps (SpF X.K G Fo md f)) (gd : X.A.guards = some []) (hr : L2.Room (d + 2) X.A) (tk : L2.Takes X W)
    (hb : KwB X.K fd ps us.length ks) (hl : ws.length = ks.length) (I : L2.Inv X pins σ H s) (r : L2.Vals vs (us ++ ws)) (q : SpF X.K G Fo md f ((ordOf ps us.length ks).filterMap fun i => vs[i]?) H Q (L2.WE W σ)) :
    wpAny (model X.prog X.w) X.A (call (.ref fa) us (ks.zip ws)) (L2.EP X pins σ Q) X.xe s :=
  F.call gd hr (hb s us ws rfl hl I.kIn) (L2.passAt tk σ) I (vals_pick r) q
theorem se_callk {Fo : Orc} {d f : Nat} {md : List Md} {x : Str} {ps : List Str} {kwp : List (Nat × List Str)} {kws : List Keyword} {ks : List Str} {cs : List Ex} (hK : X.K = C.K) (gd : X.A.guards = some []) (Fu : FunAt X.prog X.w X.K X.mg X.base G Fo d f md x ps kwp) (hr : L2.Room (d + 2) X.A) (hg : L2.Gl X x) (hdb : (x == ("__debug__" : Str)) = false) (tk : L2.Takes X W)
    (hss : es.all (fun e => !isStar e) = true) (hk : kwNames kws = some ks) (hkw : (es.length, ks) ∈ kwp) (h : SOs X G W C (es ++ kws.map (·.value)) (evOs ih cs)) :
    SE X G W C (.Call (.Name x p) es kws pos) (fun ρ => (evOs ih cs ρ).bind fun os ρ => match place os ((ordOf ps es.length ks).map .inl) with
      | some os => callWith Fo f md os ρ
      | none => .bad) := by
  intro ρ F σ H Q S out
  obtain ⟨fa, fd, fok, hm, hkp, _, hkb⟩ := Fu.ex
  have kb := hkb _ hkw
  have base : WEs X (es ++ kws.map (·.value)) σ H fun vs H1 => SpF X.K G Fo md f ((ordOf ps es.length ks).filterMap fun i => vs[i]?) H1 Q (L2.WE W σ) := by
    refine h ρ F σ H _ S (outOs_bind out fun os ρ1 o1 F1 H1 ws st ops => ?_)
    cases q : place os ((ordOf ps es.length ks).map .inl) with
    | none => rw [q] at o1; exact o1.elim
    | some os' =>
      rw [q] at o1
      rw [hK]
      exact call_ok S st (place_ok ops q).1 o1
  obtain ⟨k1, k2, k3, k4⟩ := kw_names (pos := pos) (env := X.env) hk
  intro pins s I
  refine wpAny_Call_Name_kw (L2.ld_glob I hg hm ?_ hdb)
  have fin : ∀ {us ws : List Value} {vs zs : List L2.V} {s2 : Shared} {H2 : L2.Hp}, L2.Vals vs us → L2.Vals zs ws → vs.length = es.length → zs.length = (kws.map (·.value)).length → L2.Inv X pins σ H2 s2 → SpF X.K G Fo md f ((ordOf ps es.length ks).filterMap fun i => (vs ++ zs)[i]?) H2 Q (L2.WE W σ) →
      X.K.In s2.heap ∧ wpAny (model X.prog X.w) X.A (call (.ref fa) ([] ++ us) (((backToKw pos (keywordEach kws X.env)).filterMap (·.1)).zip ws)) (L2.EP X pins σ Q) X.xe s2 := by
    intro us ws vs zs s2 H2 r1 r2 l1 l2 I2 q2
    refine ⟨I2.kIn, ?_⟩
    rw [k2]
    have lu : us.length = es.length := by rw [← r1.length]; exact l1
    rw [← lu] at kb q2
    exact run_kw (us := us) fok gd hr tk kb (by rw [← r2.length, l2, List.length_map, k4]) I2 (r1.append r2) q2
  have both := WEs.len (WEs.append base)
  cases es with
  | nil =>
    refine PySem.W.callWith_KW0 (h₀ := X.base) I.ok.mod.kin hkp k1 (L2.thn (pk_wes.run pos pins s σ H _ I (WEs.len both.2)) ?_) (by show (false || _) = false; rw [k3]; rfl)
    rintro ws s2 ⟨zs, H2, I2, rz, l2, q2⟩
    exact fin (us := []) (vs := []) .nil rz rfl l2 I2 q2
  | cons e0 es0 =>
    have hst : isStar e0 = false ∧ es0.all (fun e => !isStar e) = true := by
      have h1 : (!isStar e0 && es0.all fun e => !isStar e) = true := hss
      rw [Bool.and_eq_true, Bool.not_eq_true'] at h1
      exact h1
    refine PySem.W.callWith_KW (h₀ := X.base) I.ok.mod.kin hkp k1 (L2.thn ((pa_wes hss).run pos pins s σ H _ I both) ?_) (by rw [star_plain hss, k3]; rfl) (star_cons hst.1)
    rintro us s1 ⟨vs, H1, I1, r, l1, q⟩
    refine L2.thn (pk_wes.run pos pins s1 σ H1 _ I1 (WEs.len q)) ?_
    rintro ws s2 ⟨zs, H2, I2, rz, l2, q2⟩
    exact fin r rz l1 l2 I2 q2
end
end PV

set_option Elab.async false
set_option linter.all false
set_option maxRecDepth 100000
set_option maxHeartbeats 4000000
/-! PV, soundness 18: from expressions to codes. -/
namespace PV
open PySem PySem.Spec PyProof.Rows
/-- what is known of a context, without the context -/
structure Cc where
  N : List Str
  sc : Scope
  fn : Str → Bool
  fns : List (Str × Nat × List Md × List Str × List (Nat × List Str))
  bts : List Str
  consts : List (Str × Int)
  errs : List (Nat × Str) := []
def slotC (cc : Cc) (x : Str) : Option Nat :=
  if cc.N[cc.N.idxOf x]? = some x ∧ (cc.sc.names.lookup x = some .local ∨ cc.sc.names.lookup x = some .cell ∨ cc.sc.names.lookup x = some .free) ∧ (x == ("__debug__" : Str)) = false ∧ (x == ("__classdict__" : Str)) = false
  then some (cc.N.idxOf x) else none
def storeC (cc : Cc) (x : Str) : Option Nat :=
  if cc.N[cc.N.idxOf x]? = some x ∧ (cc.sc.names.lookup x = some .local ∨ (cc.sc.names.lookup x = some .cell ∧ cc.fn x = true)) then some (cc.N.idxOf x) else none
def glC (cc : Cc) (x : Str) : Bool := decide (cc.sc.names.lookup x = some .globalImplicit)
def btC (cc : Cc) (x : Str) : Bool := glC cc x && cc.bts.contains x
def binC : Operator → Option Bin
  | .Add => some .add | .Sub => some .sub | .Mult => some .mul | .FloorDiv => some .fdiv | .Mod => some .mod | .Pow => some .pow | .LShift => some .shl
  | _ => none
def cmpC' : CmpOp → Option Cmp
  | .Eq => some .eq | .NotEq => some .ne | .Lt => some .lt | .LtE => some .le | .Gt => some .gt | .GtE => some .ge | .In => some .isin | .NotIn => some .notin
  | _ => none
theorem binC_ok {op : Operator} {o : Bin} (h : binC op = some o) : op = opOf o := by cases op <;> cases h <;> rfl
theorem cmpC_ok {op : CmpOp} {o : Cmp} (h : cmpC' op = some o) : op = cmpOf o := by cases op <;> cases h <;> rfl
def nostar (es : List Expr) : Bool := es.all fun e => !isStar e
/-- an own error class -/
def errC (cc : Cc) (x : Str) : Option Nat := if glC cc x = true ∧ (x == ("__debug__" : Str)) = false then (cc.errs.find? fun p => p.2 == x).map (·.1) else none
/-- a module's number -/
def conC (cc : Cc) (x : Str) : Option Int := if glC cc x = true ∧ (x == ("__debug__" : Str)) = false then (cc.consts.find? fun p => p.1 == x).map (·.2) else none
def nameC (cc : Cc) (x : Str) : Option Ex := match slotC cc x with
  | some i => some (.loc i)
  | none => (conC cc x).map fun i => .con (.int i)
def cO (r : Expr → Option Ex) (cc : Cc) (e : Expr) : Option Ex := match e with
  | .Name x _ => nameC cc x
  | e => match r e with
    | some ce => if notLoc ce then some ce else none
    | none => none
def mapO (f : Expr → Option Ex) : List Expr → Option (List Ex)
  | [] => some []
  | e :: es => match f e, mapO f es with
    | some c, some cs => some (c :: cs)
    | _, _ => none
def biL : List (Str × Nat × Bi) := [("len", 1, .len), ("list", 1, .list), ("tuple", 1, .tuple), ("sorted", 1, .sorted), ("all", 1, .all), ("any", 1, .any), ("sum", 1, .sum), ("max", 2, .max2), ("min", 2, .min2), ("abs", 1, .abs), ("int", 1, .int), ("divmod", 2, .divmod), ("repr", 1, .repr), ("dict", 1, .dict)]
def biC (x : Str) (n : Nat) : Option Bi := (biL.find? fun p => p.1 == x && p.2.1 == n).map (·.2.2)
def tyC (cc : Cc) : Expr → Option Ty
  | .Name x _ => if btC cc x then (if x = "int" then some .int else if x = "bool" then some .bool else if x = "str" then some .str else if x = "list" then some .list else if x = "tuple" then some .tuple else none) else none
  | _ => none
def tysC (cc : Cc) : List Expr → Option (List Ty)
  | [] => some []
  | e :: es => match tyC cc e, tysC cc es with
    | some t, some ts => some (t :: ts)
    | _, _ => none
def nmsC (cc : Cc) : List Expr → Option (List Nat)
  | [] => some []
  | .Name x _ :: es => match storeC cc x, nmsC cc es with
    | some i, some is => some (i :: is)
    | _, _ => none
  | _ :: _ => none
/-- list(range(a)), tuple(range(a)): a -/
def rgC (cc : Cc) (x : Str) : List Expr → Option Expr
  | [.Call (.Name y _) [a] [] _] => if (x = "list" ∨ x = "tuple") ∧ y = "range" ∧ btC cc x = true ∧ btC cc y = true ∧ isStar a = false then some a else none
  | _ => none
/-- a target of a loop -/
def tgC (cc : Cc) : Expr → Option (List Nat × Bool)
  | .Name x _ => (storeC cc x).map fun i => ([i], false)
  | .Tuple es _ _ => (nmsC cc es).map fun is => (is, true)
  | _ => none
/-- what is walked: its kind, its operands -/
def itC (cc : Cc) (tg : Expr) (e : Expr) : Nat × List Expr := match e with
  | .Call (.Name x _) args [] _ =>
    if btC cc x then
      if x = "range" then match args with
        | [a] => (1, [a])
        | [a, b] => (2, [a, b])
        | _ => (0, [e])
      else if x = "enumerate" then match args, tg with
        | [a], .Tuple .. => (3, [a])
        | _, _ => (0, [e])
      else if x = "zip" then match args, tg with
        | [a, b], .Tuple .. => (4, [a, b])
        | _, _ => (0, [e])
      else (0, [e])
    else (0, [e])
  | _ => (0, [e])
def ownC (N : List Str) (scope : Scope) : List (Str × Nat) := (scope.names.filter fun y => y.2 == .local || y.2 == .cell).filterMap fun y => if N[N.idxOf y.1]? = some y.1 then some (y.1, N.idxOf y.1) else none
def Cc.blk (cc : Cc) (scope : Scope) : Cc := { cc with sc := L2.relS scope cc.sc, fn := fun x => scope.names.lookup x == some .cell }
def cDict (r : Expr → Option Ex) : List (Option Expr) → List Expr → Option Ex
  | [], [] => some .dk0
  | [some (.Constant (.int i) _ _)], [e] => (r e).map (.dk1 i)
  | _, _ => none
/-- a test or a value: t -/
def cEx : Nat → Bool → Cc → Expr → Option Ex
  | 0, _, _, _ => none
  | n + 1, t, cc, e => match e with
    | .Compare a [op] [b] _ => match op, b with
      | .Is, .Constant .none _ _ => (cO (cEx n false cc) cc a).map (.isn false)
      | .IsNot, .Constant .none _ _ => (cO (cEx n false cc) cc a).map (.isn true)
      | .Is, .Constant (.bool k) _ _ => (cO (cEx n false cc) cc a).map fun c => .isb false c k
      | .IsNot, .Constant (.bool k) _ _ => (cO (cEx n false cc) cc a).map fun c => .isb true c k
      | op, b => match cmpC' op, cO (cEx n false cc) cc a, cO (cEx n false cc) cc b with
        | some o, some ca, some cb => if behindInMarks (cmpOf o) b = false then some (.cmp o ca cb) else none
        | _, _, _ => none
    | .Compare a [o1, o2] [b, c] _ => match cmpC' o1, cmpC' o2, cO (cEx n false cc) cc a, cO (cEx n false cc) cc b, cO (cEx n false cc) cc c with
      | some o, some p, some ca, some cb, some cd => if lastMarks [cmpOf o, cmpOf p] [b, c] = false then some (.chn o p ca cb cd) else none
      | _, _, _, _, _ => none
    | .UnaryOp .Not a _ => match t with
      | true => (cEx n true cc a).map .not_
      | false => (cO (cEx n false cc) cc a).map .not_
    | .BoolOp .And [a] _ => cEx n t cc a
    | .BoolOp .Or [a] _ => cEx n t cc a
    | .BoolOp .And (a :: b :: r) pos => match t with
      | true => match cEx n true cc a, cEx n true cc (.BoolOp .And (b :: r) pos) with
        | some ca, some cb => some (.tand ca cb)
        | _, _ => none
      | false => match cO (cEx n false cc) cc a, cEx n false cc (.BoolOp .And (b :: r) pos) with
        | some ca, some cb => some (.and_ ca cb)
        | _, _ => none
    | .BoolOp .Or (a :: b :: r) pos => match t with
      | true => match cEx n true cc a, cEx n true cc (.BoolOp .Or (b :: r) pos) with
        | some ca, some cb => some (.tor ca cb)
        | _, _ => none
      | false => match cO (cEx n false cc) cc a, cEx n false cc (.BoolOp .Or (b :: r) pos) with
        | some ca, some cb => some (.or_ ca cb)
        | _, _ => none
    | .IfExp c a b _ => match t, cEx n true cc c, cEx n false cc a, cEx n false cc b with
      | false, some cd, some ca, some cb => some (.ite cd ca cb)
      | _, _, _, _ => none
    | e => match t with
      | true => match plainT e with
        | true => cO (cEx n false cc) cc e
        | false => none
      | false => match e with
        | .Constant (.int i) _ _ => some (.con (.int i))
        | .Constant (.str s) _ _ => some (.con (.str s))
        | .Constant (.bool b) _ _ => some (.con (.bl b))
        | .Constant .none _ _ => some (.con .non)
        | .Name x _ => nameC cc x
        | .List es _ => match nostar es, mapO (cO (cEx n false cc) cc) es with
          | true, some cs => some (.lst cs)
          | _, _ => none
        | .Dict keys vals _ => cDict (cO (cEx n false cc) cc) keys vals
        | .Tuple es _ _ => match nostar es, mapO (cO (cEx n false cc) cc) es with
          | true, some cs => some (.tup cs)
          | _, _ => none
        | .BinOp a op b _ => match binC op, cO (cEx n false cc) cc a, cO (cEx n false cc) cc b with
          | some o, some ca, some cb => some (.bin o ca cb)
          | _, _, _ => none
        | .UnaryOp .USub a _ => (cO (cEx n false cc) cc a).map .neg
        | .Subscript a i _ => match i with
          | .Slice none none (some (.UnaryOp .USub (.Constant (.int 1) _ _) _)) _ => (cO (cEx n false cc) cc a).map .rev
          | .Slice lo hi none _ => match cO (cEx n false cc) cc a, (match lo with | none => some none | some e => (cO (cEx n false cc) cc e).map some : Option (Option Ex)), (match hi with | none => some none | some e => (cO (cEx n false cc) cc e).map some : Option (Option Ex)) with
            | some ca, some cl, some ch => some (.slc ca cl ch)
            | _, _, _ => none
          | i => match plainIx i, cO (cEx n false cc) cc a, cO (cEx n false cc) cc i with
            | true, some ca, some ci => some (.idx ca ci)
            | _, _, _ => none
        | .Call (.Name x _) args [] _ =>
          if x = "isinstance" then match args with
            | [a, .Tuple es _ _] => match btC cc x && !isStar a, cO (cEx n false cc) cc a, tysC cc es with
              | true, some ca, some ts => if ts.length ≤ 100 then some (.isi ca ts) else none
              | _, _, _ => none
            | [a, ty] => match btC cc x && !isStar a, cO (cEx n false cc) cc a, tyC cc ty with
              | true, some ca, some t => some (.isi ca [t])
              | _, _, _ => none
            | _ => none
          else match rgC cc x args with
            | some a => (cO (cEx n false cc) cc a).map fun ca => .bi (if x = "list" then .lrange else .trange) [ca]
            | none => cCall x args (mapO (cO (cEx n false cc) cc) args) (match args with | [e] => cEx n false cc e | _ => none) cc
        | .Call (.Name x _) args (kw :: kws) _ => cCallK x args (kw :: kws) (mapO (cO (cEx n false cc) cc) (args ++ (kw :: kws).map (·.value))) cc
        | .Call (.Attribute (.Name x _) m apos) args [] pos => match slotC cc x, (apos.endLine == pos.line) && nostar args with
          | some i, true =>
            if m = "append" then match args with
              | [e] => (cO (cEx n false cc) cc e).map (.app i)
              | _ => none
            else if m = "extend" then match args with
              | [e] => (cO (cEx n false cc) cc e).map (.ext i)
              | _ => none
            else if m = "pop" then match args with
              | [] => some (.pop i)
              | [e] => (cO (cEx n false cc) cc e).map (.popA i)
              | _ => none
            else if m = "index" then match args with
              | [e] => (cO (cEx n false cc) cc e).map (.ixof (.loc i))
              | _ => none
            else none
          | _, _ => none
        | .ListComp elt [⟨tg, iter, ifs, 0⟩] scope _ => match L2.blkC cc.N cc.sc scope (ownC cc.N scope) && noSetE iter && nostar (itC cc tg iter).2, mapO (cO (cEx n false cc) cc) (itC cc tg iter).2, tgC (cc.blk scope) tg,
            (match ifs with | [] => some none | [c] => (cEx n true (cc.blk scope) c).map some | _ => none : Option (Option Ex)), cO (cEx n false (cc.blk scope)) (cc.blk scope) elt with
          | true, some its, some (tgs, tp), some cond, some ct => if tgs.all fun i => ((ownC cc.N scope).map (·.2)).contains i then some (.comp ((ownC cc.N scope).map (·.2)) tgs tp (itC cc tg iter).1 its cond ct) else none
          | _, _, _, _, _ => none
        | _ => none
where
  /-- x(args, k = v ..) -/
  cCallK (x : Str) (args : List Expr) (kws : List Keyword) (cs : Option (List Ex)) (cc : Cc) : Option Ex := match nostar args && glC cc x && !(x == ("__debug__" : Str)), kwNames kws, cc.fns.find? fun p => p.1 == x, cs with
    | true, some ks, some (_, f, _, ps, kwp), some cs => if (args.length, ks) ∈ kwp ∧ ps ≠ [] then some (.call f ((ordOf ps args.length ks).map .inl) cs) else none
    | _, _, _, _ => none
  /-- x(args), by the codes of its operands; of its one operand as a value -/
  cCall (x : Str) (args : List Expr) (cs : Option (List Ex)) (c1 : Option Ex) (cc : Cc) : Option Ex := match nostar args, (x == ("__debug__" : Str)) with
    | true, false => match biC x args.length, btC cc x with
      | some b, true => cs.map (.bi b)
      | _, _ => match cc.fns.find? fun p => p.1 == x, glC cc x with
        | some (_, f, md, _), true => match md, c1 with
          | [.chg], some ce => if notLoc ce then some (.call1 f ce) else cs.map (.call f [])
          | _, _ => cs.map (.call f [])
        | _, _ => none
    | _, _ => none
end PV

set_option Elab.async false
set_option linter.all false
set_option maxRecDepth 100000
set_option maxHeartbeats 4000000
/-! PV, soundness 19: what the compiler's parts say. -/
namespace PV
open PySem PySem.Spec PyProof.Rows
structure Good (cc : Cc) (X : L2.Cx) (W : L2.WX) (C : FC) (G : Ga) (P : Pg) (Fo : Orc) (d : Nat) : Prop where
  N : X.N = cc.N
  nd : X.N.Nodup
  sc : X.env.scope = cc.sc
  fn : ∀ x, cc.fn x = true → X.fn x = true
  hK : X.K = C.K
  calm : X.calm = true
  room : L2.Room (d + 2) X.A
  tk : L2.Takes X W
  bt : ∀ x ∈ cc.bts, X.mg x = none
  cn : ∀ q ∈ cc.consts, ∃ t, X.mg q.1 = some (.int q.2 t)
  gd : X.A.guards = some []
  er : ErrsOk X.prog X.w X.K X.mg X.base G P cc.errs
  fu : ∀ q ∈ cc.fns, FunAt X.prog X.w X.K X.mg X.base G Fo d q.2.1 q.2.2.1 q.1 q.2.2.2.1 q.2.2.2.2 ∧ ∃ fc, P.fns[q.2.1]? = some fc ∧ fc.md = q.2.2.1
section
variable {cc : Cc} {X : L2.Cx} {G : Ga} {W : L2.WX} {C : FC} {P : Pg} {Fo : Orc} {d L m : Nat} {e a b c tg iter elt : Expr} {es : List Expr} {pos p : Pos} {r : Expr → Option Ex} {ce : Ex}
theorem Good.units1 (g : Good cc X W C G P Fo d) : X.A.units + 100 < cLine := by
  have := g.room.un
  omega
theorem Good.units (g : Good cc X W C G P Fo d) : X.A.units + 65 < cLine := by
  have := g.room.un
  omega
theorem slotC_ok (g : Good cc X W C G P Fo d) {x : Str} {i : Nat} (h : slotC cc x = some i) : NameOk X i x := by
  unfold slotC at h
  split at h
  · rename_i q
    cases h
    refine ⟨by rw [g.N]; exact q.1, ?_, q.2.2.1, q.2.2.2⟩
    unfold L2.Vis
    rw [g.sc]
    exact q.2.1
  · cases h
theorem storeC_ok (g : Good cc X W C G P Fo d) {x : Str} {i : Nat} (h : storeC cc x = some i) : StoreOk X i x := by
  unfold storeC at h
  split at h
  · rename_i q
    cases h
    refine ⟨g.nd, by rw [g.N]; exact q.1, ?_, ?_⟩
    · unfold L2.Loc
      rw [g.sc]
      exact q.2.imp id fun z => z.1
    · rw [g.sc]
      rcases q.2 with z | z
      · exact .inr z
      · exact .inl (g.fn x z.2)
  · cases h
theorem glC_ok (g : Good cc X W C G P Fo d) {x : Str} (h : glC cc x = true) : L2.Gl X x := by
  have z := of_decide_eq_true h
  rw [← g.sc] at z
  exact z
theorem btC_ok (g : Good cc X W C G P Fo d) {x : Str} (h : btC cc x = true) : BtOk X x := by
  unfold btC at h
  rw [Bool.and_eq_true] at h
  exact ⟨glC_ok g h.1, g.bt x (List.contains_iff_mem.mp h.2)⟩
theorem nameC_ok (g : Good cc X W C G P Fo d) {x : Str} (h : nameC cc x = some ce) : (∃ i, ce = .loc i ∧ NameOk X i x) ∨ ∃ i, ce = .con (.int i) ∧ ∀ {pos : Pos}, L2.PE X (.Name x pos) (L2.tC (.int i)) := by
  unfold nameC at h
  split at h
  · rename_i i e1
    cases h
    exact .inl ⟨i, rfl, slotC_ok g e1⟩
  · obtain ⟨i, e1, e2⟩ := Option.map_eq_some_iff.mp h
    subst e2
    unfold conC at e1
    split at e1
    · rename_i hg
      obtain ⟨q, q1, q2⟩ := Option.map_eq_some_iff.mp e1
      have hq := List.find?_some q1
      have hx : q.1 = x := eq_of_beq hq
      obtain ⟨t, ht⟩ := g.cn q (List.mem_of_find?_eq_some q1)
      subst hx q2
      exact .inr ⟨_, rfl, L2.pe_glob (glC_ok g hg.1) ht ⟨t, rfl⟩ hg.2⟩
    · cases e1
theorem errC_ok (g : Good cc X W C G P Fo d) {x : Str} {c : Nat} (h : errC cc x = some c) : ErrAt X.prog X.w X.K X.mg X.base G c x (G.nm c).length ∧ L2.Gl X x ∧ (x == ("__debug__" : Str)) = false := by
  unfold errC at h
  split at h
  · rename_i hg
    obtain ⟨q, q1, q2⟩ := Option.map_eq_some_iff.mp h
    have hf := List.find?_some q1
    have hx : q.2 = x := eq_of_beq hf
    subst q2 hx
    exact ⟨g.er.er q (List.mem_of_find?_eq_some q1), glC_ok g hg.1, hg.2⟩
  · cases h
/-- what a value's code says -/
def SEs (X : L2.Cx) (G : Ga) (W : L2.WX) (C : FC) (P : Pg) (Fo : Orc) (L : Nat) (e : Expr) (ce : Ex) : Prop := ∀ m, SE X G W C e (ev P Fo L m ce)
theorem cO_ok (g : Good cc X W C G P Fo d) (hr : ∀ ce, r e = some ce → SEs X G W C P Fo L e ce) (h : cO r cc e = some ce) (m : Nat) : SO X G W C e (evO (ev P Fo L m) ce) := by
  have other : (match r e with
      | some ce => if notLoc ce then some ce else none
      | none => none) = some ce → SO X G W C e (evO (ev P Fo L m) ce) := fun h => by
    cases q : r e with
    | none => rw [q] at h; cases h
    | some c =>
      rw [q] at h
      dsimp only at h
      split at h
      · rename_i hn
        cases h
        refine so_of_se (hr ce q m) fun i z => ?_
        rw [z] at hn
        cases hn
      · cases h
  cases e with
  | Name x p =>
    rcases nameC_ok g (show nameC cc x = some ce from h) with ⟨i, e1, e2⟩ | ⟨i, e1, e2⟩
    · subst e1
      exact so_loc e2
    · subst e1
      refine so_of_se (?_ : SE X G W C (.Name x p) (ev P Fo L m (.con (.int i)))) (fun j z => by cases z)
      cases m with
      | zero => exact fun ρ F σ H Q S o => o.elim
      | succ m => exact se_of_pe e2 fun _ _ => rfl
  | _ => exact other h
theorem mapO_ok {f : Expr → Option Ex} (hf : ∀ e ce, e ∈ es → f e = some ce → ∀ m, SO X G W C e (evO (ev P Fo L m) ce)) : ∀ {cs : List Ex}, mapO f es = some cs → ∀ m, SOs X G W C es (evOs (ev P Fo L m) cs) := by
  induction es with
  | nil => intro cs h m; cases h; exact sos_nil
  | cons e es ih =>
    intro cs h m
    unfold mapO at h
    split at h
    · rename_i c cs' e1 e2
      cases h
      exact sos_cons (hf e c List.mem_cons_self e1 m) (ih (fun e ce he => hf e ce (List.mem_cons_of_mem _ he)) e2 m)
    · cases h
theorem tyC_ok (g : Good cc X W C G P Fo d) {t : Ty} (h : tyC cc e = some t) : ∃ p, e = .Name (btN t) p ∧ BtOk X (btN t) ∧ btOk t = true := by
  cases e with
  | Name x p =>
    unfold tyC at h
    dsimp only at h
    split at h
    · rename_i hb
      have bt := btC_ok g hb
      split at h
      · rename_i z; subst z; cases h; exact ⟨p, rfl, bt, rfl⟩
      split at h
      · rename_i z; subst z; cases h; exact ⟨p, rfl, bt, rfl⟩
      split at h
      · rename_i z; subst z; cases h; exact ⟨p, rfl, bt, rfl⟩
      split at h
      · rename_i z; subst z; cases h; exact ⟨p, rfl, bt, rfl⟩
      split at h
      · rename_i z; subst z; cases h; exact ⟨p, rfl, bt, rfl⟩
      · cases h
    · cases h
  | _ => cases h
theorem tysC_ok (g : Good cc X W C G P Fo d) : ∀ {es : List Expr} {ts : List Ty}, tysC cc es = some ts → TyNames X es ts
  | [], ts, h => by cases h; exact .nil
  | e :: es, ts, h => by
    unfold tysC at h
    split at h
    · rename_i t ts' e1 e2
      cases h
      obtain ⟨p, rfl, hb, ht⟩ := tyC_ok g e1
      exact .cons hb ht (tysC_ok g e2)
    · cases h
theorem biC_ok {x : Str} {n : Nat} {bi : Bi} (h : biC x n = some bi) : x = biN bi ∧ biSup bi = true ∧ 1 ≤ n := by
  obtain ⟨q, e1, e2⟩ := Option.map_eq_some_iff.mp (show (biL.find? fun p => p.1 == x && p.2.1 == n).map (·.2.2) = some bi from h)
  have hq := List.find?_some e1
  rw [Bool.and_eq_true] at hq
  have hx : q.1 = x := eq_of_beq hq.1
  have hn : q.2.1 = n := eq_of_beq hq.2
  have hm := List.mem_of_find?_eq_some e1
  subst e2 hx hn
  have all : ∀ q ∈ biL, q.1 = biN q.2.2 ∧ biSup q.2.2 = true ∧ 1 ≤ q.2.1 := by decide +kernel
  exact all q hm
theorem nmsC_ok (g : Good cc X W C G P Fo d) : ∀ {es : List Expr} {is : List Nat}, nmsC cc es = some is → NmTs X es is
  | [], is, h => by cases h; exact .nil
  | .Name x p :: es, is, h => by
    unfold nmsC at h
    split at h
    · rename_i i is' e1 e2
      cases h
      exact .cons (storeC_ok g e1) (nmsC_ok g e2)
    · cases h
  | .BoolOp .. :: es, is, h => by cases h
  | .NamedExpr .. :: es, is, h => by cases h
  | .BinOp .. :: es, is, h => by cases h
  | .UnaryOp .. :: es, is, h => by cases h
  | .Lambda .. :: es, is, h => by cases h
  | .IfExp .. :: es, is, h => by cases h
  | .Dict .. :: es, is, h => by cases h
  | .Set .. :: es, is, h => by cases h
  | .ListComp .. :: es, is, h => by cases h
  | .SetComp .. :: es, is, h => by cases h
  | .DictComp .. :: es, is, h => by cases h
  | .GeneratorExp .. :: es, is, h => by cases h
  | .Await .. :: es, is, h => by cases h
  | .Yield .. :: es, is, h => by cases h
  | .YieldFrom .. :: es, is, h => by cases h
  | .Compare .. :: es, is, h => by cases h
  | .Call .. :: es, is, h => by cases h
  | .FormattedValue .. :: es, is, h => by cases h
  | .JoinedStr .. :: es, is, h => by cases h
  | .Constant .. :: es, is, h => by cases h
  | .Attribute .. :: es, is, h => by cases h
  | .Subscript .. :: es, is, h => by cases h
  | .Starred .. :: es, is, h => by cases h
  | .List .. :: es, is, h => by cases h
  | .Tuple .. :: es, is, h => by cases h
  | .Slice .. :: es, is, h => by cases h
theorem tgC_ok (g : Good cc X W C G P Fo d) {tgs : List Nat} {tp : Bool} (h : tgC cc tg = some (tgs, tp)) : SG X C tg tgs (bindTo tgs tp) := by
  cases tg with
  | Name x p =>
    obtain ⟨i, e1, e2⟩ := Option.map_eq_some_iff.mp (show (storeC cc x).map (fun i => ([i], false)) = some (tgs, tp) from h)
    cases e2
    exact sg_name (storeC_ok g e1)
  | Tuple es k p =>
    obtain ⟨is, e1, e2⟩ := Option.map_eq_some_iff.mp (show (nmsC cc es).map (fun is => (is, true)) = some (tgs, tp) from h)
    cases e2
    exact sg_tup g.hK g.calm (nmsC_ok g e1)
  | _ => cases h
/-- the target's store, the same in each block -/
def gOf (K : PySem.W.Frag) (tgs : List Nat) (tp : Bool) : L2.TG := match tp, tgs with
  | false, [i] => L2.gName i
  | _, tgs => L2.gTup K tgs.length (gNames tgs)
theorem tgC_pg (g : Good cc X W C G P Fo d) {tgs : List Nat} {tp : Bool} (h : tgC cc tg = some (tgs, tp)) : L2.PG X tg (gOf C.K tgs tp) ∧ SGr C tgs (bindTo tgs tp) (gOf C.K tgs tp) := by
  cases tg with
  | Name x p =>
    obtain ⟨i, e1, e2⟩ := Option.map_eq_some_iff.mp (show (storeC cc x).map (fun i => ([i], false)) = some (tgs, tp) from h)
    cases e2
    have s := storeC_ok g e1
    exact ⟨L2.pg_name s.1 s.2.1 s.2.2.1 s.2.2.2, sgr_name⟩
  | Tuple es k p =>
    obtain ⟨is, e1, e2⟩ := Option.map_eq_some_iff.mp (show (nmsC cc es).map (fun is => (is, true)) = some (tgs, tp) from h)
    cases e2
    have ns := nmsC_ok g e1
    have z := L2.pg_tup (pos := p) (k := k) g.calm (pgs_names ns) (names_len ns).1 (names_len ns).2
    rw [g.hK] at z
    exact ⟨z, sgr_tup⟩
  | _ => cases h
theorem itC_ok (g : Good cc X W C G P Fo d) : ItE X tg e (itC cc tg e).1 (itC cc tg e).2 := by
  unfold itC
  repeat' split
  all_goals first
    | exact .seq
    | (have hb := ‹btC cc _ = true›
       have z := ‹_ = Str.ofString "range"›
       subst z
       first
         | exact .rg1 (btC_ok g hb)
         | exact .rg2 (btC_ok g hb))
    | (have hb := ‹btC cc _ = true›
       have z := ‹_ = Str.ofString "enumerate"›
       subst z
       exact .en (btC_ok g hb))
    | (have hb := ‹btC cc _ = true›
       have z := ‹_ = Str.ofString "zip"›
       subst z
       exact .zp (btC_ok g hb))
theorem Good.blk (g : Good cc X W C G P Fo d) {scope : Scope} (s : Shared) (H : L2.Hp) (Cc' : Addr) (cl : List (Str × Addr)) (fp : List Addr) : Good (cc.blk scope) (X.blk s H scope (compEnvC scope cl Cc' X.env) fp) W0 C G P Fo d where
  N := g.N
  nd := g.nd
  sc := by
    show L2.relS scope X.env.scope = L2.relS scope cc.sc
    rw [g.sc]
  fn := fun x h => h
  hK := g.hK
  calm := g.calm
  room := g.room
  tk := L2.takes_none5
  bt := g.bt
  cn := g.cn
  gd := g.gd
  er := g.er
  fu := g.fu
end
end PV

set_option Elab.async false
set_option linter.all false
set_option maxRecDepth 100000
set_option maxHeartbeats 4000000
/-! PV, soundness 20: the compiler of expressions is sound: tests. -/
namespace PV
open PySem PySem.Spec PyProof.Rows
def isBool : Expr → Bool
  | .BoolOp .. => true
  | _ => false
/-- a code is right in each context that is so -/
def Snd (P : Pg) (Fo : Orc) (L : Nat) (G : Ga) (d : Nat) (t : Bool) (cc : Cc) (e : Expr) (ce : Ex) : Prop := ∀ X W C, Good cc X W C G P Fo d → match t with
  | false => SEs X G W C P Fo L e ce
  | true => (∀ m, SB X G W C e (evB (ev P Fo L m) ce)) ∧ (isBool e = true → ∀ m, SW X G W C e (evB (ev P Fo L m) ce))
section
variable {cc : Cc} {X : L2.Cx} {G : Ga} {W : L2.WX} {C : FC} {P : Pg} {Fo : Orc} {d L m n : Nat} {t : Bool} {e a b c tg iter elt : Expr} {es : List Expr} {pos p : Pos} {r : Expr → Option Ex} {ce ca cb : Ex}
theorem se_bad : SE X G W C e (fun ρ => .bad) := fun ρ F σ H Q S o => o.elim
theorem sb_bad {ih : Ex → Rho → R A} (hn : notLoc ce = true) (hb : ih ce = fun ρ => .bad) : SB X G W C e (evB ih ce) := fun ρ F σ H Q S o => by
  have o1 : OutB G W C ρ σ F H (((evO ih ce ρ).bind fun o ρ => match res ρ o with
    | some t => .ok t ρ
    | none => .bad).bind fun t ρ => match truth t with
    | some b => .ok b ρ
    | none => .bad) Q := o
  rw [evO_eq hn, hb] at o1
  exact o1.elim
theorem sw_bad {ih : Ex → Rho → R A} (hn : notLoc ce = true) (hb : ih ce = fun ρ => .bad) : SW X G W C e (evB ih ce) := fun ρ F σ H Q S o => by
  have o1 : OutB G W C ρ σ F H (((evO ih ce ρ).bind fun o ρ => match res ρ o with
    | some t => .ok t ρ
    | none => .bad).bind fun t ρ => match truth t with
    | some b => .ok b ρ
    | none => .bad) Q := o
  rw [evO_eq hn, hb] at o1
  exact o1.elim
theorem ev0 : ev P Fo L 0 ce = fun ρ => .bad := rfl
/-- what both a value and a test of such a code need -/
theorem both (hn : notLoc ce = true) (hb : isBool e = false) (h1 : ∀ X W C, Good cc X W C G P Fo d → ∀ m, SE X G W C e (ev P Fo L (m + 1) ce)) (h2 : ∀ X W C, Good cc X W C G P Fo d → ∀ m, SB X G W C e (evB (ev P Fo L (m + 1)) ce)) : Snd P Fo L G d t cc e ce := by
  intro X W C g
  cases t with
  | false =>
    intro m
    cases m with
    | zero => exact se_bad
    | succ m => exact h1 X W C g m
  | true =>
    refine ⟨fun m => ?_, fun z => by rw [hb] at z; cases z⟩
    cases m with
    | zero => exact sb_bad hn rfl
    | succ m => exact h2 X W C g m
abbrev IH (P : Pg) (Fo : Orc) (L : Nat) (G : Ga) (d n : Nat) : Prop := ∀ t cc e ce, cEx n t cc e = some ce → Snd P Fo L G d t cc e ce
theorem ro (ih : IH P Fo L G d n) (g : Good cc X W C G P Fo d) (h : cO (cEx n false cc) cc e = some ce) (m : Nat) : SO X G W C e (evO (ev P Fo L m) ce) := cO_ok g (fun ce h => ih false cc e ce h X W C g) h m
theorem snd_cmp {op : CmpOp} (ih : IH P Fo L G d n) (h : cEx (n + 1) t cc (.Compare a [op] [b] pos) = some ce) : Snd P Fo L G d t cc (.Compare a [op] [b] pos) ce := by
  unfold cEx at h
  dsimp only at h
  split at h
  · obtain ⟨ca, e1, e2⟩ := Option.map_eq_some_iff.mp h
    subst e2
    exact both rfl rfl (fun X W C g m => se_isN (ro ih g e1 m)) (fun X W C g m => sb_isN (ro ih g e1 m) rfl rfl)
  · obtain ⟨ca, e1, e2⟩ := Option.map_eq_some_iff.mp h
    subst e2
    exact both rfl rfl (fun X W C g m => se_notN (ro ih g e1 m)) (fun X W C g m => sb_notN (ro ih g e1 m) rfl rfl)
  · obtain ⟨ca, e1, e2⟩ := Option.map_eq_some_iff.mp h
    subst e2
    exact both rfl rfl (fun X W C g m => se_isB (ro ih g e1 m)) (fun X W C g m => sb_isB (ro ih g e1 m) rfl rfl)
  · obtain ⟨ca, e1, e2⟩ := Option.map_eq_some_iff.mp h
    subst e2
    exact both rfl rfl (fun X W C g m => se_notB (ro ih g e1 m)) (fun X W C g m => sb_notB (ro ih g e1 m) rfl rfl)
  · split at h
    · rename_i o ca cb e1 e2 e3
      split at h
      · rename_i hm
        cases h
        cases cmpC_ok e1
        exact both rfl rfl (fun X W C g m => se_cmp g.hK g.units hm (sos_cons (ro ih g e2 m) (sos_cons (ro ih g e3 m) sos_nil))) (fun X W C g m => sb_cmp g.hK g.units hm (sos_cons (ro ih g e2 m) (sos_cons (ro ih g e3 m) sos_nil)) rfl rfl)
      · cases h
    · cases h
theorem snd_chn {o1 o2 : CmpOp} (ih : IH P Fo L G d n) (h : cEx (n + 1) t cc (.Compare a [o1, o2] [b, c] pos) = some ce) : Snd P Fo L G d t cc (.Compare a [o1, o2] [b, c] pos) ce := by
  unfold cEx at h
  dsimp only at h
  split at h
  · rename_i o p ca cb cd e1 e2 e3 e4 e5
    split at h
    · rename_i hm
      cases h
      cases cmpC_ok e1
      cases cmpC_ok e2
      exact both rfl rfl (fun X W C g m => se_chn g.hK g.units hm (sos_cons (ro ih g e3 m) (sos_cons (ro ih g e4 m) sos_nil)) (ro ih g e5 m)) (fun X W C g m => sb_chn g.hK g.units hm (sos_cons (ro ih g e3 m) (sos_cons (ro ih g e4 m) sos_nil)) (ro ih g e5 m) rfl rfl)
    · cases h
  · cases h
theorem snd_not (ih : IH P Fo L G d n) (h : cEx (n + 1) t cc (.UnaryOp .Not a pos) = some ce) : Snd P Fo L G d t cc (.UnaryOp .Not a pos) ce := by
  unfold cEx at h
  dsimp only at h
  intro X W C g
  cases t with
  | true =>
    obtain ⟨ca, e1, e2⟩ := Option.map_eq_some_iff.mp h
    subst e2
    refine ⟨fun m => ?_, fun z => by cases z⟩
    cases m with
    | zero => exact sb_bad rfl rfl
    | succ m => exact sb_not ((ih true cc a ca e1 X W C g).1 m) rfl rfl
  | false =>
    obtain ⟨ca, e1, e2⟩ := Option.map_eq_some_iff.mp h
    subst e2
    intro m
    cases m with
    | zero => exact se_bad
    | succ m => exact se_not (ro ih g e1 m) g.hK
theorem snd_and1 (ih : IH P Fo L G d n) (h : cEx (n + 1) t cc (.BoolOp .And [a] pos) = some ce) : Snd P Fo L G d t cc (.BoolOp .And [a] pos) ce := by
  unfold cEx at h
  dsimp only at h
  intro X W C g
  cases t with
  | true =>
    have z := (ih true cc a ce h X W C g).1
    exact ⟨fun m => (sw_and1 (z m)).sb, fun _ m => sw_and1 (z m)⟩
  | false => exact fun m => se_one (ih false cc a ce h X W C g m)
theorem snd_or1 (ih : IH P Fo L G d n) (h : cEx (n + 1) t cc (.BoolOp .Or [a] pos) = some ce) : Snd P Fo L G d t cc (.BoolOp .Or [a] pos) ce := by
  unfold cEx at h
  dsimp only at h
  intro X W C g
  cases t with
  | true =>
    have z := (ih true cc a ce h X W C g).1
    exact ⟨fun m => (sw_or1 (z m)).sb, fun _ m => sw_or1 (z m)⟩
  | false => exact fun m => se_one (ih false cc a ce h X W C g m)
theorem snd_and (ih : IH P Fo L G d n) (h : cEx (n + 1) t cc (.BoolOp .And (a :: b :: es) pos) = some ce) : Snd P Fo L G d t cc (.BoolOp .And (a :: b :: es) pos) ce := by
  unfold cEx at h
  dsimp only at h
  intro X W C g
  cases t with
  | true =>
    dsimp only at h
    split at h
    · rename_i ca cb e1 e2
      cases h
      have w : ∀ m, SW X G W C (.BoolOp .And (a :: b :: es) pos) (evB (ev P Fo L m) (.tand ca cb)) := fun m => by
        cases m with
        | zero => exact sw_bad rfl rfl
        | succ m => exact sw_and ((ih true cc a ca e1 X W C g).1 m) ((ih true cc _ cb e2 X W C g).2 rfl m) rfl rfl
      exact ⟨fun m => (w m).sb, fun _ => w⟩
    · cases h
  | false =>
    dsimp only at h
    split at h
    · rename_i ca cb e1 e2
      cases h
      intro m
      cases m with
      | zero => exact se_bad
      | succ m => exact se_and (op := ca) (ro ih g e1 m) (ih false cc _ cb e2 X W C g m)
    · cases h
theorem snd_or (ih : IH P Fo L G d n) (h : cEx (n + 1) t cc (.BoolOp .Or (a :: b :: es) pos) = some ce) : Snd P Fo L G d t cc (.BoolOp .Or (a :: b :: es) pos) ce := by
  unfold cEx at h
  dsimp only at h
  intro X W C g
  cases t with
  | true =>
    dsimp only at h
    split at h
    · rename_i ca cb e1 e2
      cases h
      have w : ∀ m, SW X G W C (.BoolOp .Or (a :: b :: es) pos) (evB (ev P Fo L m) (.tor ca cb)) := fun m => by
        cases m with
        | zero => exact sw_bad rfl rfl
        | succ m => exact sw_or ((ih true cc a ca e1 X W C g).1 m) ((ih true cc _ cb e2 X W C g).2 rfl m) rfl rfl
      exact ⟨fun m => (w m).sb, fun _ => w⟩
    · cases h
  | false =>
    dsimp only at h
    split at h
    · rename_i ca cb e1 e2
      cases h
      intro m
      cases m with
      | zero => exact se_bad
      | succ m => exact se_or (ro ih g e1 m) (ih false cc _ cb e2 X W C g m)
    · cases h
theorem snd_ite (ih : IH P Fo L G d n) (h : cEx (n + 1) t cc (.IfExp c a b pos) = some ce) : Snd P Fo L G d t cc (.IfExp c a b pos) ce := by
  unfold cEx at h
  dsimp only at h
  split at h
  · rename_i t' cd ca cb e1 e2 e3
    cases h
    intro X W C g m
    cases m with
    | zero => exact se_bad
    | succ m => exact se_ite ((ih true cc c cd e1 X W C g).1 m) (ih false cc a ca e2 X W C g m) (ih false cc b cb e3 X W C g m)
  · cases h
end
end PV

set_option Elab.async false
set_option linter.all false
set_option maxRecDepth 100000
set_option maxHeartbeats 4000000
/-! PV, soundness 21: the compiler of expressions is sound: values. -/
namespace PV
open PySem PySem.Spec PyProof.Rows
section
variable {cc : Cc} {X : L2.Cx} {G : Ga} {W : L2.WX} {C : FC} {P : Pg} {Fo : Orc} {d L m n : Nat} {t : Bool} {e a b c tg iter elt i : Expr} {es args : List Expr} {pos p p2 p3 : Pos} {r : Expr → Option Ex} {ce ca cb : Ex}
theorem vl (h : ∀ X W C, Good cc X W C G P Fo d → ∀ m, SE X G W C e (ev P Fo L (m + 1) ce)) : Snd P Fo L G d false cc e ce := by
  intro X W C g m
  cases m with
  | zero => exact se_bad
  | succ m => exact h X W C g m
theorem ros (ih : IH P Fo L G d n) (g : Good cc X W C G P Fo d) {cs : List Ex} (h : mapO (cO (cEx n false cc) cc) es = some cs) (m : Nat) : SOs X G W C es (evOs (ev P Fo L m) cs) := mapO_ok (fun e ce _ h m => ro ih g h m) h m
theorem snd_lst (ih : IH P Fo L G d n) (h : cEx (n + 1) false cc (.List es pos) = some ce) : Snd P Fo L G d false cc (.List es pos) ce := by
  unfold cEx at h
  dsimp only at h
  split at h
  · rename_i cs e1 e2
    cases h
    exact vl fun X W C g m => se_lst (ros ih g e2 m) e1
  · cases h
theorem snd_tup {k : Nat} (ih : IH P Fo L G d n) (h : cEx (n + 1) false cc (.Tuple es k pos) = some ce) : Snd P Fo L G d false cc (.Tuple es k pos) ce := by
  unfold cEx at h
  dsimp only at h
  split at h
  · rename_i cs e1 e2
    cases h
    exact vl fun X W C g m => se_tup (ros ih g e2 m) e1
  · cases h
theorem snd_bin {op : Operator} (ih : IH P Fo L G d n) (h : cEx (n + 1) false cc (.BinOp a op b pos) = some ce) : Snd P Fo L G d false cc (.BinOp a op b pos) ce := by
  unfold cEx at h
  dsimp only at h
  split at h
  · rename_i o ca cb e1 e2 e3
    cases h
    cases binC_ok e1
    exact vl fun X W C g m => se_bin g.hK (sos_cons (ro ih g e2 m) (sos_cons (ro ih g e3 m) sos_nil))
  · cases h
theorem snd_neg (ih : IH P Fo L G d n) (h : cEx (n + 1) false cc (.UnaryOp .USub a pos) = some ce) : Snd P Fo L G d false cc (.UnaryOp .USub a pos) ce := by
  unfold cEx at h
  dsimp only at h
  obtain ⟨ca, e1, e2⟩ := Option.map_eq_some_iff.mp h
  subst e2
  exact vl fun X W C g m => se_neg (ro ih g e1 m)
theorem part_ok {lo : Option Expr} {cl : Option Ex} (ih : IH P Fo L G d n) (g : Good cc X W C G P Fo d) (h : (match lo with | none => some none | some e => (cO (cEx n false cc) cc e).map some : Option (Option Ex)) = some cl) (m : Nat) : SS X G W C lo (evS (ev P Fo L m) cl) := by
  cases lo with
  | none => cases h; exact ss_none
  | some e =>
    obtain ⟨c, e1, e2⟩ := Option.map_eq_some_iff.mp (show (cO (cEx n false cc) cc e).map some = some cl from h)
    subst e2
    exact ss_some (ro ih g e1 m)
theorem snd_sub (ih : IH P Fo L G d n) (h : cEx (n + 1) false cc (.Subscript a i pos) = some ce) : Snd P Fo L G d false cc (.Subscript a i pos) ce := by
  unfold cEx at h
  dsimp only at h
  split at h
  · obtain ⟨ca, e1, e2⟩ := Option.map_eq_some_iff.mp h
    subst e2
    exact vl fun X W C g m => se_rev g.hK (ro ih g e1 m)
  · split at h
    · rename_i ca cl ch e1 e2 e3
      cases h
      exact vl fun X W C g m => se_slc g.hK (ro ih g e1 m) (part_ok ih g e2 m) (part_ok ih g e3 m)
    · cases h
  · split at h
    · rename_i ca ci e1 e2 e3
      cases h
      exact vl fun X W C g m => se_idx g.hK e1 (sos_cons (ro ih g e2 m) (sos_cons (ro ih g e3 m) sos_nil))
    · cases h
theorem nostar_cons (h : nostar (e :: es) = true) : isStar e = false ∧ es.all (fun e => !isStar e) = true := by
  have h1 : (!isStar e && es.all fun e => !isStar e) = true := h
  rw [Bool.and_eq_true, Bool.not_eq_true'] at h1
  exact h1
theorem rgC_ok (g : Good cc X W C G P Fo d) {x : Str} (h : rgC cc x args = some a) : ∃ p2 p3, args = [.Call (.Name "range" p2) [a] [] p3] ∧ (x = "list" ∨ x = "tuple") ∧ BtOk X x ∧ BtOk X "range" ∧ isStar a = false := by
  unfold rgC at h
  split at h
  · split at h
    · rename_i z
      cases h
      obtain ⟨z1, z2, z3, z4, z5⟩ := z
      subst z2
      exact ⟨_, _, rfl, z1, btC_ok g z3, btC_ok g z4, z5⟩
    · cases h
  · cases h
theorem ev_call {f : Nat} {cs : List Ex} {fc : Fc} {md : List Md} (hf : P.fns[f]? = some fc) (hm : fc.md = md) : ev P Fo L (m + 1) (.call f [] cs) = fun ρ => (evOs (ev P Fo L m) cs ρ).bind fun os ρ => callWith Fo f md os ρ := by
  funext ρ
  subst hm
  show ((evOs (ev P Fo L m) cs ρ).bind fun os ρ => match some os, P.fns[f]? with
      | some os, some fc => callWith Fo f fc.md os ρ
      | _, _ => .bad) = _
  rw [hf]
theorem ev_call1 {f : Nat} {fc : Fc} (hf : P.fns[f]? = some fc) (hm : fc.md = [.chg]) : ev P Fo L (m + 1) (.call1 f ce) = fun ρ => (ev P Fo L m ce ρ).bind fun a ρ => match a with
      | .f xs => match Fo f [.f xs] with
        | .ok r [_] => .ok r ρ
        | .exc c ts => .exc c ts ρ
        | _ => .bad
      | _ => .bad := by
  funext ρ
  show ((ev P Fo L m ce ρ).bind fun a ρ => match P.fns[f]?, a with
      | some fc, .f xs => match fc.md with
        | [.chg] => match Fo f [.f xs] with
          | .ok r [_] => .ok r ρ
          | .exc c ts => .exc c ts ρ
          | _ => .bad
        | _ => .bad
      | _, _ => .bad) = _
  rw [hf]
  congr 1
  funext a ρ
  cases a with
  | t x => rfl
  | f xs =>
    dsimp only
    rw [hm]
theorem cCall_ok {x : Str} {c1 : Option Ex} (ih : IH P Fo L G d n) (hc1 : ∀ ce, c1 = some ce → ∃ e, args = [e] ∧ cEx n false cc e = some ce) (h : cEx.cCall x args (mapO (cO (cEx n false cc) cc) args) c1 cc = some ce) : Snd P Fo L G d false cc (.Call (.Name x p) args [] pos) ce := by
  unfold cEx.cCall at h
  split at h
  case h_2 => cases h
  rename_i hns hdb
  split at h
  · rename_i bi hb ht
    obtain ⟨cs, e1, e2⟩ := Option.map_eq_some_iff.mp h
    subst e2
    obtain ⟨z1, z2, z3⟩ := biC_ok hb
    subst z1
    refine vl fun X W C g m => ?_
    cases args with
    | nil => exact absurd z3 (by simp)
    | cons a0 as => exact se_bi g.hK g.calm g.gd g.units1 (btC_ok g ht) z2 (nostar_cons hns).1 (nostar_cons hns).2 (ros ih g e1 m)
  · split at h
    case h_2 => cases h
    rename_i x' f md psk hfd hgl
    have hq := List.find?_some hfd
    have hm := List.mem_of_find?_eq_some hfd
    have hx : x' = x := eq_of_beq hq
    subst hx
    have plain : ∀ {ce}, (mapO (cO (cEx n false cc) cc) args).map (Ex.call f []) = some ce → Snd P Fo L G d false cc (.Call (.Name x' p) args [] pos) ce := fun {ce} h => by
      obtain ⟨cs, e1, e2⟩ := Option.map_eq_some_iff.mp h
      subst e2
      refine vl fun X W C g m => ?_
      obtain ⟨fu, fc, hfc, hmd⟩ := g.fu _ hm
      rw [ev_call hfc hmd]
      cases args with
      | nil =>
        cases e1
        exact se_call0 g.hK g.gd fu g.room (glC_ok g hgl) hdb g.tk
      | cons a0 as => exact se_call g.hK g.gd fu g.room (glC_ok g hgl) hdb g.tk (nostar_cons hns).1 (nostar_cons hns).2 (ros ih g e1 m)
    split at h
    · rename_i ce1
      split at h
      · rename_i hnl
        cases h
        obtain ⟨e, ea, ec⟩ := hc1 _ rfl
        subst ea
        refine vl fun X W C g m => ?_
        obtain ⟨fu, fc, hfc, hmd⟩ := g.fu _ hm
        rw [ev_call1 hfc hmd]
        exact se_call1 g.hK g.gd rfl fu g.room (glC_ok g hgl) hdb g.tk (nostar_cons hns).1 (ih false cc e _ ec X W C g m)
      · exact plain h
    · exact plain h
theorem snd_call {x : Str} (ih : IH P Fo L G d n) (h : cEx (n + 1) false cc (.Call (.Name x p) args [] pos) = some ce) : Snd P Fo L G d false cc (.Call (.Name x p) args [] pos) ce := by
  unfold cEx at h
  dsimp only at h
  split at h
  · rename_i hx
    subst hx
    split at h
    · split at h
      · rename_i ca ts e1 e2 e3
        split at h
        · rename_i hl
          cases h
          rw [Bool.and_eq_true, Bool.not_eq_true'] at e1
          exact vl fun X W C g m => se_isiT g.hK (btC_ok g e1.1) (tysC_ok g e3) hl e1.2 (ro ih g e2 m)
        · cases h
      · cases h
    · split at h
      · rename_i ca ty e1 e2 e3
        cases h
        rw [Bool.and_eq_true, Bool.not_eq_true'] at e1
        refine vl fun X W C g m => ?_
        obtain ⟨p', z1, z2, z3⟩ := tyC_ok g e3
        subst z1
        exact se_isi g.hK (btC_ok g e1.1) z2 z3 e1.2 (ro ih g e2 m)
      · cases h
    · cases h
  · split at h
    · rename_i a hr
      obtain ⟨ca, e1, e2⟩ := Option.map_eq_some_iff.mp h
      subst e2
      refine vl fun X W C g m => ?_
      obtain ⟨q2, q3, z1, z2, z3, z4, z5⟩ := rgC_ok g hr
      subst z1
      rcases z2 with z2 | z2
      · subst z2
        exact se_lrange g.hK g.calm z3 z4 z5 (ro ih g e1 m)
      · subst z2
        exact se_trange g.hK g.calm z3 z4 z5 (ro ih g e1 m)
    · refine cCall_ok ih (fun ce q => ?_) h
      split at q
      · exact ⟨_, rfl, q⟩
      · cases q
theorem snd_callk {x : Str} {kw : Keyword} {kws : List Keyword} (ih : IH P Fo L G d n) (h : cEx (n + 1) false cc (.Call (.Name x p) args (kw :: kws) pos) = some ce) : Snd P Fo L G d false cc (.Call (.Name x p) args (kw :: kws) pos) ce := by
  unfold cEx at h
  dsimp only at h
  unfold cEx.cCallK at h
  split at h
  case h_2 => cases h
  rename_i ks x' f md ps kwp cs h1 h2 h3 h4
  rw [Bool.and_eq_true, Bool.and_eq_true, Bool.not_eq_true'] at h1
  split at h
  case isFalse => cases h
  rename_i hin
  cases h
  have hq := List.find?_some h3
  have hm := List.mem_of_find?_eq_some h3
  have hx : x' = x := eq_of_beq hq
  subst hx
  refine vl fun X W C g m => ?_
  obtain ⟨fu, fc, hfc, hmd⟩ := g.fu _ hm
  have z := se_callk (pos := pos) (p := p) g.hK g.gd fu g.room (glC_ok g h1.1.2) h1.2 g.tk h1.1.1 h2 hin.1 (ros ih g h4 m)
  have e : ev P Fo L (m + 1) (.call f ((ordOf ps args.length ks).map .inl) cs) = fun ρ => (evOs (ev P Fo L m) cs ρ).bind fun os ρ => match place os ((ordOf ps args.length ks).map .inl) with
      | some os => callWith Fo f md os ρ
      | none => .bad := by
    funext ρ
    show ((evOs (ev P Fo L m) cs ρ).bind fun os ρ => match (if ((ordOf ps args.length ks).map Sum.inl : List (Nat ⊕ T)).isEmpty then some os else place os ((ordOf ps args.length ks).map .inl)), P.fns[f]? with
      | some os, some fc => callWith Fo f fc.md os ρ
      | _, _ => .bad) = _
    have ne : ((ordOf ps args.length ks).map Sum.inl : List (Nat ⊕ T)).isEmpty = false := by
      unfold ordOf
      cases hp : ps with
      | nil => exact absurd hp hin.2
      | cons a l => rfl
    rw [ne, hfc]
    congr 1
    funext os ρ
    rw [if_neg (by simp)]
    cases place os ((ordOf ps args.length ks).map .inl) with
    | none => rfl
    | some os =>
      dsimp only
      rw [hmd]
  rw [e]
  exact z
theorem snd_dict {keys : List (Option Expr)} {vals : List Expr} (ih : IH P Fo L G d n) (h : cEx (n + 1) false cc (.Dict keys vals pos) = some ce) : Snd P Fo L G d false cc (.Dict keys vals pos) ce := by
  have h1 : cDict (cO (cEx n false cc) cc) keys vals = some ce := h
  clear h
  unfold cDict at h1
  split at h1
  · cases h1
    exact vl fun X W C g m => se_dk0
  · obtain ⟨ca, e1, e2⟩ := Option.map_eq_some_iff.mp h1
    subst e2
    exact vl fun X W C g m => se_dk1 (ro ih g e1 m)
  · cases h1
theorem snd_meth {x m' : Str} {apos : Pos} (ih : IH P Fo L G d n) (h : cEx (n + 1) false cc (.Call (.Attribute (.Name x p) m' apos) args [] pos) = some ce) : Snd P Fo L G d false cc (.Call (.Attribute (.Name x p) m' apos) args [] pos) ce := by
  unfold cEx at h
  dsimp only at h
  split at h
  case h_2 => cases h
  rename_i j e1 e2
  rw [Bool.and_eq_true] at e2
  obtain ⟨hl, hns⟩ := e2
  split at h
  · rename_i hx
    subst hx
    split at h
    · obtain ⟨ca, f1, f2⟩ := Option.map_eq_some_iff.mp h
      subst f2
      exact vl fun X W C g m => se_app g.hK (slotC_ok g e1) hl (nostar_cons hns).1 (ro ih g f1 m)
    · cases h
  split at h
  · rename_i hx
    subst hx
    split at h
    · obtain ⟨ca, f1, f2⟩ := Option.map_eq_some_iff.mp h
      subst f2
      exact vl fun X W C g m => se_ext g.hK (slotC_ok g e1) hl (nostar_cons hns).1 (ro ih g f1 m)
    · cases h
  split at h
  · rename_i hx
    subst hx
    split at h
    · cases h
      exact vl fun X W C g m => se_pop g.hK (slotC_ok g e1) hl
    · obtain ⟨ca, f1, f2⟩ := Option.map_eq_some_iff.mp h
      subst f2
      exact vl fun X W C g m => se_popA g.hK (slotC_ok g e1) hl (nostar_cons hns).1 (ro ih g f1 m)
    · cases h
  split at h
  · rename_i hx
    subst hx
    split at h
    · obtain ⟨ca, f1, f2⟩ := Option.map_eq_some_iff.mp h
      subst f2
      exact vl fun X W C g m => se_ixof (cs := []) g.hK g.units rfl hl (nostar_cons hns).1 (so_loc (slotC_ok g e1)) (ro ih g f1 m)
    · cases h
  · cases h
end
end PV

set_option Elab.async false
set_option linter.all false
set_option maxRecDepth 100000
set_option maxHeartbeats 4000000
/-! PV, soundness 22: the compiler of expressions is sound: comprehensions, the whole. -/
namespace PV
open PySem PySem.Spec PyProof.Rows
section
variable {cc : Cc} {X : L2.Cx} {G : Ga} {W : L2.WX} {C : FC} {P : Pg} {Fo : Orc} {d L m n : Nat} {t : Bool} {e a b c tg iter elt i : Expr} {es args ifs : List Expr} {pos p p2 p3 : Pos} {r : Expr → Option Ex} {ce ca cb : Ex} {scope : Scope}
theorem sgr_of {tgs : List Nat} {tp : Bool} (h : tgC cc tg = some (tgs, tp)) : SGr C tgs (bindTo tgs tp) (gOf C.K tgs tp) := by
  cases tg with
  | Name x p =>
    obtain ⟨i, e1, e2⟩ := Option.map_eq_some_iff.mp (show (storeC cc x).map (fun i => ([i], false)) = some (tgs, tp) from h)
    cases e2
    exact sgr_name
  | Tuple es k p =>
    obtain ⟨is, e1, e2⟩ := Option.map_eq_some_iff.mp (show (nmsC cc es).map (fun is => (is, true)) = some (tgs, tp) from h)
    cases e2
    exact sgr_tup
  | _ => cases h
theorem conds_ok {cond : Option Ex} (ih : IH P Fo L G d n) (g : Good cc X W C G P Fo d) (h : (match ifs with | [] => some none | [c] => (cEx n true (cc.blk scope) c).map some | _ => none : Option (Option Ex)) = some cond) (m : Nat) : Conds X scope G C (ev P Fo L m) ifs cond := by
  split at h
  · cases h; exact .none
  · obtain ⟨cd, e1, e2⟩ := Option.map_eq_some_iff.mp h
    subst e2
    exact .some fun s H Cc' cl fp => (ih true (cc.blk scope) _ cd e1 _ _ C (g.blk s H Cc' cl fp)).1 m
  · cases h
/-- what a comprehension's code is made of -/
structure CompOk (n : Nat) (cc : Cc) (elt tg iter : Expr) (ifs : List Expr) (scope : Scope) (tgs : List Nat) (tp : Bool) (its : List Ex) (cond : Option Ex) (ct : Ex) : Prop where
  blk : L2.blkC cc.N cc.sc scope (ownC cc.N scope) = true
  nset : noSetE iter = true
  star : nostar (itC cc tg iter).2 = true
  its : mapO (cO (cEx n false cc) cc) (itC cc tg iter).2 = some its
  tg : tgC (cc.blk scope) tg = some (tgs, tp)
  cond : (match ifs with | [] => some none | [c] => (cEx n true (cc.blk scope) c).map some | _ => none : Option (Option Ex)) = some cond
  elt : cO (cEx n false (cc.blk scope)) (cc.blk scope) elt = some ct
  sub : ∀ i ∈ tgs, i ∈ (ownC cc.N scope).map (·.2)
theorem comp_inv (h : cEx (n + 1) false cc (.ListComp elt [⟨tg, iter, ifs, 0⟩] scope pos) = some ce) : ∃ tgs tp its cond ct, ce = .comp ((ownC cc.N scope).map (·.2)) tgs tp (itC cc tg iter).1 its cond ct ∧ CompOk n cc elt tg iter ifs scope tgs tp its cond ct := by
  have h' : (match L2.blkC cc.N cc.sc scope (ownC cc.N scope) && noSetE iter && nostar (itC cc tg iter).2, mapO (cO (cEx n false cc) cc) (itC cc tg iter).2, tgC (cc.blk scope) tg,
            (match (generalizing := false) ifs with | [] => some none | [c] => (cEx n true (cc.blk scope) c).map some | _ => none : Option (Option Ex)), cO (cEx n false (cc.blk scope)) (cc.blk scope) elt with
          | true, some its, some (tgs, tp), some cond, some ct => if tgs.all fun i => ((ownC cc.N scope).map (·.2)).contains i then some (.comp ((ownC cc.N scope).map (·.2)) tgs tp (itC cc tg iter).1 its cond ct) else none
          | _, _, _, _, _ => none) = some ce := h
  clear h
  split at h'
  · rename_i its tgs tp cond ct e1 e2 e3 e4 e5
    split at h'
    · rename_i hsub
      cases h'
      rw [Bool.and_eq_true, Bool.and_eq_true] at e1
      exact ⟨tgs, tp, its, cond, ct, rfl, e1.1.1, e1.1.2, e1.2, e2, e3, e4, e5, fun i hi => List.contains_iff_mem.mp (List.all_eq_true.mp hsub i hi)⟩
    · cases h'
  · cases h'
theorem snd_comp (ih : IH P Fo L G d n) (h : cEx (n + 1) false cc (.ListComp elt [⟨tg, iter, ifs, 0⟩] scope pos) = some ce) : Snd P Fo L G d false cc (.ListComp elt [⟨tg, iter, ifs, 0⟩] scope pos) ce := by
  obtain ⟨tgs, tp, its, cond, ct, e0, k⟩ := comp_inv h
  subst e0
  refine vl fun X W C g m => ?_
  have ok : L2.BlkOk X.N X.env.scope scope (ownC cc.N scope) := L2.blkOk_by (by rw [g.N, g.sc]; exact k.blk)
  exact se_comp (L := L) g.hK g.calm g.nd ok k.nset (si_iv g.hK (itC_ok g) k.star (ros ih g k.its m)) (fun s H Cc' cl fp => (tgC_pg (g.blk s H Cc' cl fp) k.tg).1) (sgr_of k.tg) k.sub (conds_ok ih g k.cond m) (fun s H Cc' cl fp => ro ih (g.blk s H Cc' cl fp) k.elt m)
theorem snd_true (ih : IH P Fo L G d n) (hp : plainT e = true) (hb : isBool e = false) (h : cO (cEx n false cc) cc e = some ce) : Snd P Fo L G d true cc e ce :=
  fun X W C g => ⟨fun m => sb_truth g.hK (ro ih g h m) hp, fun z => by rw [hb] at z; cases z⟩
theorem snd_con {v : L2.V} {x : T} (hp : ∀ X : L2.Cx, L2.PE X e (L2.tC v)) (hv : ∀ (C : FC) F H, RepT C.K F H x v) : Snd P Fo L G d false cc e (.con x) :=
  vl fun X W C g m => se_of_pe (hp X) (hv C)
theorem cEx_ok : ∀ n, IH P Fo L G d n := by
  intro n
  induction n with
  | zero => intro t cc e ce h; cases h
  | succ n ih =>
    intro t cc e ce h
    cases e with
    | Compare a ops cs pos =>
      match ops, cs, h with
      | [op], [b], h => exact snd_cmp ih h
      | [o1, o2], [b, c], h => exact snd_chn ih h
      | [], _, h => cases t <;> (simp [cEx, plainT] at h)
      | [_], [], h => cases t <;> (simp [cEx, plainT] at h)
      | [_], _ :: _ :: _, h => cases t <;> (simp [cEx, plainT] at h)
      | [_, _], [], h => cases t <;> (simp [cEx, plainT] at h)
      | [_, _], [_], h => cases t <;> (simp [cEx, plainT] at h)
      | [_, _], _ :: _ :: _ :: _, h => cases t <;> (simp [cEx, plainT] at h)
      | _ :: _ :: _ :: _, _, h => cases t <;> (simp [cEx, plainT] at h)
    | BoolOp op vs pos =>
      cases op with
      | And =>
        match vs, h with
        | [], h => cases t <;> (simp [cEx, plainT] at h)
        | [a], h => exact snd_and1 ih h
        | a :: b :: r, h => exact snd_and ih h
      | Or =>
        match vs, h with
        | [], h => cases t <;> (simp [cEx, plainT] at h)
        | [a], h => exact snd_or1 ih h
        | a :: b :: r, h => exact snd_or ih h
    | UnaryOp op a pos =>
      cases op with
      | Not => exact snd_not ih h
      | USub =>
        cases t with
        | true => exact snd_true ih rfl rfl (by unfold cEx at h; exact h)
        | false => exact snd_neg ih h
      | UAdd =>
        cases t with
        | true => exact snd_true ih rfl rfl (by unfold cEx at h; exact h)
        | false => simp [cEx] at h
      | Invert =>
        cases t with
        | true => exact snd_true ih rfl rfl (by unfold cEx at h; exact h)
        | false => simp [cEx] at h
    | IfExp c a b pos => exact snd_ite ih h
    | Constant v k pos =>
      cases t with
      | true => exact snd_true ih rfl rfl (by unfold cEx at h; exact h)
      | false =>
        cases v with
        | int i => cases h; exact snd_con (fun X => L2.pe_int) fun _ _ _ => rfl
        | str i => cases h; exact snd_con (fun X => L2.pe_str) fun _ _ _ => rfl
        | bool i => cases h; exact snd_con (fun X => L2.pe_bl) fun _ _ _ => rfl
        | none => cases h; exact snd_con (fun X => L2.pe_non) fun _ _ _ => rfl
        | _ => cases h
    | Name x pos =>
      cases t with
      | true => exact snd_true ih rfl rfl (by unfold cEx at h; exact h)
      | false =>
        refine vl fun X W C g m => ?_
        rcases nameC_ok g (show nameC cc x = some ce from h) with ⟨i, e1, e2⟩ | ⟨i, e1, e2⟩
        · subst e1
          exact se_loc e2
        · subst e1
          exact se_of_pe e2 fun _ _ => rfl
    | List es pos =>
      cases t with
      | true => exact snd_true ih rfl rfl (by unfold cEx at h; exact h)
      | false => exact snd_lst ih h
    | Dict keys vals pos =>
      cases t with
      | true => exact snd_true ih rfl rfl (by unfold cEx at h; exact h)
      | false => exact snd_dict ih h
    | Tuple es k pos =>
      cases t with
      | true => exact snd_true ih rfl rfl (by unfold cEx at h; exact h)
      | false => exact snd_tup ih h
    | BinOp a op b pos =>
      cases t with
      | true => exact snd_true ih rfl rfl (by unfold cEx at h; exact h)
      | false => exact snd_bin ih h
    | Subscript a i pos =>
      cases t with
      | true => exact snd_true ih rfl rfl (by unfold cEx at h; exact h)
      | false => exact snd_sub ih h
    | Call f args kws pos =>
      cases t with
      | true => exact snd_true ih rfl rfl (by unfold cEx at h; exact h)
      | false =>
        cases kws with
        | cons kw kws =>
          cases f with
          | Name x p => exact snd_callk ih h
          | _ => simp [cEx] at h
        | nil =>
          cases f with
          | Name x p => exact snd_call ih h
          | Attribute o m' apos =>
            cases o with
            | Name x p => exact snd_meth ih h
            | _ => simp [cEx] at h
          | _ => simp [cEx] at h
    | ListComp elt gens scope pos =>
      cases t with
      | true => exact snd_true ih rfl rfl (by unfold cEx at h; exact h)
      | false =>
        match gens, h with
        | [], h => simp [cEx] at h
        | _ :: _ :: _, h => simp [cEx] at h
        | [⟨tg, iter, ifs, z⟩], h =>
          by_cases hz : z = 0
          · subst hz
            exact snd_comp ih h
          · simp [cEx, hz] at h
    | _ =>
      cases t with
      | true => exact snd_true ih rfl rfl (by unfold cEx at h; exact h)
      | false => simp [cEx] at h
end
end PV

set_option Elab.async false
set_option linter.all false
set_option maxRecDepth 100000
set_option maxHeartbeats 4000000
/-! PV, soundness 23: from statements to codes. -/
namespace PV
open PySem PySem.Spec PyProof.Rows
def noComp : Expr → Bool
  | .ListComp .. => false
  | .SetComp .. => false
  | .DictComp .. => false
  | _ => true
theorem noComp_ok {e : Expr} (h : noComp e = true) (t : Option Expr) (line : Nat) (env : PySem.Env) : swapsWith e t line env = pure false := by
  cases e <;> first | (cases h; done) | rfl
def blkKind (sc : Scope) : ScopeKind := if sc.kind.isAnnotationScope then .function else sc.kind
/-- does the store stand within the comprehension -/
def swB (sc : Scope) (scope : Scope) (x : Str) (l1 l2 : Nat) : Bool := blkKind sc == .function && sc.names.lookup x == some .local && l1 == l2 && !(scope.names.any fun (n, k) => n == x && (k == .local || k == .cell))
theorem swB_ok {elt : Expr} {gens : List Comprehension} {scope : Scope} {pos px : Pos} {x : Str} {line : Nat} {env : PySem.Env} : swapsWith (.ListComp elt gens scope pos) (some (.Name x px)) line env = pure (swB env.scope scope x px.line pos.line) := rfl
def swC (sc : Scope) (ts vs : List Expr) : Option (Option (List Str)) :=
  if (!(ts.length == 2 || ts.length == 3) || vs.length != ts.length || blkKind sc != .function) = true then some none
  else if (vs.any fun | .Starred .. => true | _ => false) = true then some none
  else
    if ((ts.filterMap fun
      | .Name id pos => if sc.names.lookup id == some .local && pos.line == (ts.head?.map (·.pos.line)).getD 0 then some id else none
      | _ => none).length != ts.length || (ts.filterMap fun
      | .Name id pos => if sc.names.lookup id == some .local && pos.line == (ts.head?.map (·.pos.line)).getD 0 then some id else none
      | _ => none).eraseDups.length != (ts.filterMap fun
      | .Name id pos => if sc.names.lookup id == some .local && pos.line == (ts.head?.map (·.pos.line)).getD 0 then some id else none
      | _ => none).length) = true then some none
    else if vs.all (foldedForSure 8) = true then some none
    else if vs.all (constantsAlone 8) = true then none
    else some (some (ts.filterMap fun
      | .Name id pos => if sc.names.lookup id == some .local && pos.line == (ts.head?.map (·.pos.line)).getD 0 then some id else none
      | _ => none))
theorem chain5 {c1 c2 c3 c4 c5 : Bool} {names : List Str} {r : Option (List Str)} {z : Sem (Option (List Str))} (h : (if c1 = true then some none else if c2 = true then some none else if c3 = true then some none else if c4 = true then some none else if c5 = true then none else some (some names)) = some r) :
    (if c1 = true then (pure none : Sem (Option (List Str))) else if c2 = true then pure none else if c3 = true then pure none else if c4 = true then pure none else if c5 = true then z else pure (some names)) = pure r := by
  cases c1 <;> cases c2 <;> cases c3 <;> cases c4 <;> cases c5 <;> first | (cases h; rfl) | cases h
theorem swC_ok {ts vs : List Expr} {k k2 : Nat} {p p2 : Pos} {env : PySem.Env} {r : Option (List Str)} (h : swC env.scope ts vs = some r) : swappedStores [.Tuple ts k p] (.Tuple vs k2 p2) env = pure r := by
  unfold swC at h
  unfold swappedStores
  dsimp only
  exact chain5 h
def notTup : Expr → Bool
  | .Tuple .. => false
  | _ => true
theorem sw_none {tg e : Expr} {env : PySem.Env} (h : notTup e = true) : swappedStores [tg] e env = pure none := by
  cases e <;> first | (cases h; done) | (cases tg <;> rfl)
theorem sw_sub {a b e : Expr} {p : Pos} {env : PySem.Env} : swappedStores [.Subscript a b p] e env = pure none := by
  cases e <;> rfl

/-! ### the compiler -/
def stgC (n0 : Nat) (cc : Cc) : List Expr → Option (List Tg)
  | [] => some []
  | .Name x _ :: es => match storeC cc x, stgC n0 cc es with
    | some i, some r => some (.nm i :: r)
    | _, _ => none
  | .Subscript (.Name x _) b _ :: es => match slotC cc x, plainIx b, cO (cEx n0 false cc) cc b, stgC n0 cc es with
    | some i, true, some cb, some r => some (.ix i cb :: r)
    | _, _, _, _ => none
  | _ :: _ => none
def mapS (f : Stmt → Option Sm) : List Stmt → Option (List Sm)
  | [] => some []
  | s :: ss => match f s, mapS f ss with
    | some c, some cs => some (c :: cs)
    | _, _ => none
/-- x, y = a, b, the stores from the right -/
def parC (n0 : Nat) (cc : Cc) (ts : List Expr) (e : Expr) : Option Sm := match ts, e with
  | [.Name x px, .Name y py], .Tuple [a, b] _ _ =>
    if swC cc.sc [.Name x px, .Name y py] [a, b] = some (some [x, y]) ∧ cc.sc.names.lookup x = some .local ∧ cc.sc.names.lookup y = some .local ∧ nostar [a, b] = true then
      match storeC cc x, storeC cc y, cEx n0 false cc a, cEx n0 false cc b with
      | some i, some j, some ca, some cb => if i = j then none else some (.par i j ca cb)
      | _, _, _, _ => none
    else none
  | _, _ => none
/-- the stores are made from the left -/
def swOk (sc : Scope) (ts : List Expr) (e : Expr) : Bool := match e with
  | .Tuple vs _ _ => decide (swC sc ts vs = some none)
  | _ => true
theorem swOk_ok {ts : List Expr} {e : Expr} {k : Nat} {p : Pos} {env : PySem.Env} (h : swOk env.scope ts e = true) : swappedStores [.Tuple ts k p] e env = pure none := by
  cases e <;> first | rfl | exact swC_ok (of_decide_eq_true h)
def raiseC (n0 : Nat) (cc : Cc) (ex cause : Option Expr) : Option Sm := match ex, cause with
  | some (.Call (.Name x _) (e :: es) [] _), none => match errC cc x, nostar (e :: es), mapO (cO (cEx n0 false cc) cc) (e :: es) with
    | some c, true, some ces => some (.rai c ces)
    | _, _, _ => some .die
  | _, _ => some .die
def tryC (f : Stmt → Option Sm) (cc : Cc) (body : List Stmt) (hds : List ExceptHandler) (orelse fin : List Stmt) : Option Sm := match hds, orelse, fin with
  | [.ExceptHandler (some (.Name x _)) (some y) [.Return (some e) _] _], [], [] => if cc.N[cc.N.idxOf y]? = some y ∧ cc.sc.names.lookup y = some .local then
      match errC cc x, mapS f body, xeC (slotC cc) y (cc.N.idxOf y) e with
      | some c, some cb, some xe => some (.try_ cb c (cc.N.idxOf y) xe)
      | _, _, _ => none
    else none
  | _, _, _ => none
def cS (n0 : Nat) : Nat → Cc → Stmt → Option Sm
  | 0, _, _ => none
  | n + 1, cc, s => match s with
    | .Expr e _ => match noComp e, cEx n0 false cc e with
      | true, some ce => some (.ex ce)
      | _, _ => none
    | .Return none _ => some .retN
    | .Return (some e) _ => match e with
      | .Name x _ => (slotC cc x).map fun i => .ret (.loc i)
      | e => match cEx n0 false cc e with
        | some ce => if notLoc ce then some (.ret ce) else none
        | none => none
    | .Assign [tg] e pos => match tg with
      | .Name x px => match storeC cc x, cEx n0 false cc e with
        | some i, some ce => match e with
          | .ListComp _ [⟨_, _, _, 0⟩] scope p2 => match swB cc.sc scope x px.line p2.line, decide (cc.sc.names.lookup x = some .local) with
            | false, _ => some (.asg i ce)
            | true, true => some (.asg i ce)
            | true, false => none
          | e => if noComp e then some (.asg i ce) else none
        | _, _ => none
      | .Subscript (.Name x _) b _ => match slotC cc x, plainIx b && noComp e, cO (cEx n0 false cc) cc b, cO (cEx n0 false cc) cc e with
        | some i, true, some cb, some ce => some (.set i cb ce)
        | _, _, _, _ => none
      | .Tuple ts _ _ => match parC n0 cc ts e with
        | some c => some c
        | none => match swOk cc.sc ts e && noComp e, stgC n0 cc ts, cO (cEx n0 false cc) cc e with
          | true, some tgs, some ce => some (.unp tgs ce)
          | _, _, _ => none
      | _ => none
    | .AugAssign (.Name x _) op e _ => match storeC cc x, binC op, cO (cEx n0 false cc) cc e with
      | some i, some o, some ce => if o = .add ∨ o = .sub then some (.aug i o ce) else none
      | _, _, _ => none
    | .If c a b _ => match cEx n0 true cc c, mapS (cS n0 n cc) a, mapS (cS n0 n cc) b with
      | some cd, some ca, some cb => some (.ite cd ca cb)
      | _, _, _ => none
    | .While c a [] _ => match cEx n0 true cc c, mapS (cS n0 n cc) a with
      | some cd, some ca => some (.whl cd ca)
      | _, _ => none
    | .For tg iter b [] _ => match noSetE iter && nostar (itC cc tg iter).2, tgC cc tg, mapO (cO (cEx n0 false cc) cc) (itC cc tg iter).2, mapS (cS n0 n cc) b with
      | true, some (tgs, tp), some its, some cb => some (.for_ tgs tp (itC cc tg iter).1 its cb)
      | _, _, _, _ => none
    | .Raise ex cause _ => raiseC n0 cc ex cause
    | .Try body hds orelse fin _ => tryC (cS n0 n cc) cc body hds orelse fin
    | .Pass _ => some .pass
    | .Break _ => some .brk
    | .Continue _ => some .cont
    | _ => none
end PV

set_option Elab.async false
set_option linter.all false
set_option maxRecDepth 100000
set_option maxHeartbeats 4000000
/-! PV, soundness 24: the compiler of statements is sound. -/
namespace PV
open PySem PySem.Spec PyProof.Rows
section
variable (P : Pg) (F : Orc) (L n0 n : Nat)
/-- one statement -/
def ex1 (s : Sm) (ρ : Rho) : RS := match s with
  | .ex e => RS.of (ev P F L n0 e ρ) fun _ ρ => .nx ρ
  | .ret e => match e with
    | .loc i => match ρ[i]? with
      | some (.o true xs) => .rt (.f xs) ρ
      | some (.v t) => .rt (.t t) ρ
      | _ => .bad
    | e => RS.of (ev P F L n0 e ρ) fun a ρ => .rt a ρ
  | .retN => .rt (.t .non) ρ
  | .asg i e => RS.of (ev P F L n0 e ρ) fun a ρ => .nx (store1 i a ρ)
  | .unp ts e => RS.of (evF (ev P F L n0) e ρ) fun t ρ => match unpT t with
    | some xs => if xs.length = ts.length then RS.of (storeAll (ev P F L n0) ts xs ρ) fun _ ρ => .nx ρ else .bad
    | none => .bad
  | .par i j a b => RS.of (ev P F L n0 a ρ) fun x ρ => RS.of (ev P F L n0 b ρ) fun y ρ => .nx (store1 j y (store1 i x ρ))
  | .set i k e => RS.of (evF (ev P F L n0) e ρ) fun t ρ => RS.of (storeAll (ev P F L n0) [.ix i k] [t] ρ) fun _ ρ => .nx ρ
  | .aug i o e => match (ρ[i]?).bind slotT with
    | some (.int a) => RS.of (evP (ev P F L n0) e ρ) fun t ρ => augC i o a t ρ
    | _ => .bad
  | .ite c a b => RS.of (evB (ev P F L n0) c ρ) fun x ρ => match x with
    | true => exs P F L n0 n a ρ
    | false => exs P F L n0 n b ρ
  | .whl c b => whlL (evB (ev P F L n0) c) (exs P F L n0 n b) L ρ
  | .for_ tg tp k its b => RS.of (evIf (ev P F L n0) k its ρ) fun iv ρ => forL (forTurn tg tp (exs P F L n0 n b)) iv L 0 ρ
  | .rai c es => RS.of (evOs (ev P F L n0) es ρ) fun os ρ => raiC P c ρ os
  | .try_ b c' i e => match exs P F L n0 n b ρ with
    | .exc c ts ρ => suiteX P c c' i ts e ρ
    | x => x
  | .die => .bad
  | .pass => .nx ρ
  | .brk => .bk ρ
  | .cont => .ct ρ
theorem exs_cons {s : Sm} {r : List Sm} : exs P F L n0 (n + 1) (s :: r) = fun ρ => seqS (ex1 P F L n0 n s ρ) (exs P F L n0 n r) := by
  funext ρ
  cases s <;> rfl
end
section
variable {cc : Cc} {X : L2.Cx} {G : Ga} {W : L2.WX} {C : FC} {P : Pg} {Fo : Orc} {d L m n n0 k : Nat} {t : Bool} {e a b c tg iter elt i : Expr} {es args ifs : List Expr} {pos p p2 p3 : Pos} {ce ca cb : Ex} {scope : Scope} {s : Stmt} {ss : List Stmt} {cm : Sm}
structure Pas (X : L2.Cx) : Prop where
  pa : PassesOwn (model X.prog X.w) X.A X.env X.xe
  st : X.stack = X.env :: X.outer
  fr : X.env.frame = some X.env.locals
theorem Good.tr {cc : Cc} {X : L2.Cx} {W W' : L2.WX} {C : FC} {G : Ga} {P : Pg} {Fo : Orc} {d : Nat} (g : Good cc X W C G P Fo d) {pn : List (Addr × Obj)} {xe : Value → Shared → Prop} (tk : L2.Takes (X.tr pn xe) W') : Good cc (X.tr pn xe) W' C G P Fo d :=
  { N := g.N, nd := g.nd, sc := g.sc, fn := g.fn, hK := g.hK, calm := g.calm, room := g.room, tk := tk, bt := g.bt, cn := g.cn, gd := g.gd, er := g.er, fu := g.fu }
def Sns (P : Pg) (Fo : Orc) (L : Nat) (G : Ga) (d : Nat) (cc : Cc) (s : Stmt) (c : Sm) : Prop := ∀ X W C, Good cc X W C G P Fo d → Pas X → ∀ m k, SS1 X G W C s (ex1 P Fo L m k c)
theorem ss_bad {X : L2.Cx} {G : Ga} {W : L2.WX} {C : FC} : SSs X G W C ss (fun ρ => .bad) := fun ρ F σ H D S o => o.elim
theorem mapS_ok {f : Stmt → Option Sm} (hf : ∀ s c, f s = some c → Sns P Fo L G d cc s c) : ∀ {ss : List Stmt} {cs : List Sm}, mapS f ss = some cs → ∀ X W C, Good cc X W C G P Fo d → Pas X → ∀ m k, SSs X G W C ss (exs P Fo L m k cs)
  | [], cs, h, X, W, C, g, hp, m, k => by
    cases h
    cases k with
    | zero => exact ss_bad
    | succ k => exact ss_nil
  | s :: ss, cs, h, X, W, C, g, hp, m, k => by
    unfold mapS at h
    split at h
    · rename_i c cs' e1 e2
      cases h
      cases k with
      | zero => exact ss_bad
      | succ k =>
        rw [exs_cons]
        exact ss_cons (hf s c e1 X W C g hp m k) (mapS_ok hf e2 X W C g hp m k)
    · cases h
theorem rv (g : Good cc X W C G P Fo d) (h : cEx n0 false cc e = some ce) (m : Nat) : SE X G W C e (ev P Fo L m ce) := cEx_ok n0 false cc e ce h X W C g m
theorem rt (g : Good cc X W C G P Fo d) (h : cEx n0 true cc e = some ce) (m : Nat) : SB X G W C e (evB (ev P Fo L m) ce) := (cEx_ok n0 true cc e ce h X W C g).1 m
theorem rO (g : Good cc X W C G P Fo d) (h : cO (cEx n0 false cc) cc e = some ce) (m : Nat) : SO X G W C e (evO (ev P Fo L m) ce) := ro (cEx_ok n0) g h m
theorem ret_eq (h : notLoc ce = true) : ex1 P Fo L m k (.ret ce) = fun ρ => RS.of (ev P Fo L m ce ρ) fun a ρ => .rt a ρ := by
  funext ρ
  cases ce <;> first | (cases h; done) | rfl
theorem sns_ret (h : cS n0 (n + 1) cc (.Return (some e) pos) = some cm) : Sns P Fo L G d cc (.Return (some e) pos) cm := by
  unfold cS at h
  dsimp only at h
  intro X W C g hp m k
  split at h
  · obtain ⟨i, e1, e2⟩ := Option.map_eq_some_iff.mp h
    subst e2
    exact ss_retL (slotC_ok g e1)
  · split at h
    · rename_i ce e1
      split at h
      · rename_i hn
        cases h
        rw [ret_eq hn]
        exact ss_ret (rv g e1 m)
      · cases h
    · cases h
theorem stgC_ok (g : Good cc X W C G P Fo d) (m : Nat) : ∀ {es : List Expr} {tgs : List Tg}, stgC n0 cc es = some tgs → STgs X G W C (ev P Fo L m) es tgs ∧ tgs.length = es.length ∧ (assignEach es X.env).length = es.length ∧ (assignEach es X.env).findIdx? (·.1) = none := by
  intro es
  induction es with
  | nil => intro tgs h; cases h; exact ⟨stgs_nil, rfl, rfl, rfl⟩
  | cons e es ih =>
    intro tgs h
    cases e with
    | Name x p =>
      unfold stgC at h
      split at h
      · rename_i i r e1 e2
        cases h
        obtain ⟨z1, z2, z3, z4⟩ := ih e2
        refine ⟨stgs_nm (storeC_ok g e1) z1, congrArg Nat.succ z2, congrArg Nat.succ z3, ?_⟩
        show (List.findIdx? (·.1) ((false, assign (.Name x p) X.env) :: assignEach es X.env)) = none
        rw [List.findIdx?_cons, z4]
        rfl
      · cases h
    | Subscript o b p =>
      cases o with
      | Name x p2 =>
        unfold stgC at h
        split at h
        · rename_i i cb r e1 e2 e3 e4
          cases h
          obtain ⟨z1, z2, z3, z4⟩ := ih e4
          refine ⟨stgs_ix (slotC_ok g e1) e2 (rO g e3 m) z1, congrArg Nat.succ z2, congrArg Nat.succ z3, ?_⟩
          show (List.findIdx? (·.1) ((false, assign (.Subscript (.Name x p2) b p) X.env) :: assignEach es X.env)) = none
          rw [List.findIdx?_cons, z4]
          rfl
        · cases h
      | _ => cases h
    | _ => cases h
theorem sns_asg {l : List Expr} (h : cS n0 (n + 1) cc (.Assign l e pos) = some cm) : Sns P Fo L G d cc (.Assign l e pos) cm := by
  cases l with
  | nil => cases h
  | cons tg l =>
  cases l with
  | cons _ _ => cases h
  | nil =>
  unfold cS at h
  dsimp only at h
  intro X W C g hp m k
  split at h
  · rename_i x px
    split at h
    case h_2 => cases h
    rename_i i ci e1 e2
    have st := storeC_ok g e1
    split at h
    · rename_i elt tg iter ifs scope p2
      have asg : swB cc.sc scope x px.line p2.line = false → SS1 X G W C (.Assign [.Name x px] (.ListComp elt [⟨tg, iter, ifs, 0⟩] scope p2) pos) (ex1 P Fo L m k (.asg i ci)) := fun hb => by
        refine ss_asg st (rv g e2 m) ?_
        rw [swB_ok, g.sc, hb]
      split at h
      · cases h
        exact asg ‹swB cc.sc scope x px.line p2.line = false›
      · have hb := ‹swB cc.sc scope x px.line p2.line = true›
        have hl := ‹decide (cc.sc.names.lookup x = some .local) = true›
        cases h
        cases m with
        | zero => exact fun ρ F σ H D S o => o.elim
        | succ m =>
        cases n0 with
        | zero => cases e2
        | succ n0 =>
        obtain ⟨tgs, tp, its, cond, ct, e0, kk⟩ := comp_inv e2
        subst e0
        have ok : L2.BlkOk X.N X.env.scope scope (ownC cc.N scope) := L2.blkOk_by (by rw [g.N, g.sc]; exact kk.blk)
        have ih := cEx_ok (P := P) (Fo := Fo) (L := L) (G := G) (d := d) n0
        have hl' : X.env.scope.names.lookup x = some .local := by rw [g.sc]; exact of_decide_eq_true hl
        exact ss_setLc (L := L) g.hK g.calm g.nd st.2.1 hl' (by rw [swB_ok, g.sc, hb]) ok kk.nset (si_iv g.hK (itC_ok g) kk.star (ros ih g kk.its m)) (fun s H Cc' cl fp => (tgC_pg (g.blk s H Cc' cl fp) kk.tg).1) (sgr_of kk.tg) kk.sub (conds_ok ih g kk.cond m) (fun s H Cc' cl fp => ro ih (g.blk s H Cc' cl fp) kk.elt m)
      · cases h
    · split at h
      · rename_i hn
        cases h
        exact ss_asg st (rv g e2 m) (noComp_ok hn _ _ _)
      · cases h
  · rename_i x px b p2
    split at h
    case h_2 => cases h
    rename_i i cb ce e1 e2 e3 e4
    cases h
    rw [Bool.and_eq_true] at e2
    exact ss_set (slotC_ok g e1) e2.1 (rO g e3 m) (rO g e4 m) (noComp_ok e2.2 (some (.Subscript (.Name x px) b p2)) pos.line X.env) sw_sub
  · rename_i ts kt p2
    split at h
    · rename_i c hpar
      cases h
      unfold parC at hpar
      split at hpar
      case h_2 => cases hpar
      rename_i x px y py a b k2 pt2
      split at hpar
      case isFalse => cases hpar
      rename_i hc
      obtain ⟨h1, h2, h3, h4⟩ := hc
      split at hpar
      case h_2 => cases hpar
      rename_i i j ca cb e1 e2 e3 e4
      split at hpar
      · cases hpar
      rename_i hij
      cases hpar
      exact ss_par g.calm (storeC_ok g e1) (storeC_ok g e2) hij (by rw [g.sc]; exact h2) (by rw [g.sc]; exact h3) (rv g e3 m) (rv g e4 m) h4 (swC_ok (by rw [g.sc]; exact h1)) rfl
    · split at h
      case h_2 => cases h
      rename_i tgs ce e1 e2 e3
      cases h
      rw [Bool.and_eq_true] at e1
      obtain ⟨z1, z2, z3, z4⟩ := stgC_ok (L := L) g m e2
      exact ss_unp g.hK g.calm z1 z3 z4 z2 (rO g e3 m) (noComp_ok e1.2 (some (.Tuple ts kt p2)) pos.line X.env) (swOk_ok (by rw [g.sc]; exact e1.1))
  · cases h
theorem cS_ok : ∀ n cc s cm, cS n0 n cc s = some cm → Sns P Fo L G d cc s cm := by
  intro n
  induction n with
  | zero => intro cc s cm h; cases h
  | succ n ih =>
    intro cc s cm h
    have blk : ∀ {ss : List Stmt} {cs : List Sm}, mapS (cS n0 n cc) ss = some cs → ∀ X W C, Good cc X W C G P Fo d → Pas X → ∀ m k, SSs X G W C ss (exs P Fo L m k cs) := fun {ss cs} h => mapS_ok (fun s c h => ih cc s c h) h
    cases s with
    | Expr e pos =>
      unfold cS at h
      dsimp only at h
      split at h
      · rename_i ce e1 e2
        cases h
        exact fun X W C g hp m k => ss_expr (rv g e2 m) (noComp_ok e1 _ _ _)
      · cases h
    | Return v pos =>
      cases v with
      | none => cases h; exact fun X W C g hp m k => ss_retN
      | some e => exact sns_ret h
    | Assign l e pos => exact sns_asg h
    | AugAssign tg op e pos =>
      cases tg with
      | Name x px =>
        unfold cS at h
        dsimp only at h
        split at h
        case h_2 => cases h
        rename_i i o ce e1 e2 e3
        split at h
        case isFalse => cases h
        rename_i ho
        cases h
        cases binC_ok e2
        exact fun X W C g hp m k => ss_aug ho (storeC_ok g e1) (rO g e3 m)
      | _ => cases h
    | If c a b pos =>
      unfold cS at h
      dsimp only at h
      split at h
      case h_2 => cases h
      rename_i cd ca cb e1 e2 e3
      cases h
      exact fun X W C g hp m k => ss_if (rt g e1 m) (blk e2 X W C g hp m k) (blk e3 X W C g hp m k)
    | While c a o pos =>
      cases o with
      | cons _ _ => cases h
      | nil =>
        unfold cS at h
        dsimp only at h
        split at h
        case h_2 => cases h
        rename_i cd ca e1 e2
        cases h
        exact fun X W C g hp m k => ss_while hp.pa (rt g e1 m) (blk e2 X W C g hp m k)
    | For tg iter b o pos =>
      cases o with
      | cons _ _ => cases h
      | nil =>
        unfold cS at h
        dsimp only at h
        split at h
        case h_2 => cases h
        rename_i tgs tp its cb e1 e2 e3 e4
        cases h
        rw [Bool.and_eq_true] at e1
        exact fun X W C g hp m k => ss_for hp.pa g.calm evIf_free e1.1 (si_if g.hK (itC_ok g) e1.2 (ros (cEx_ok n0) g e3 m)) (tgC_ok g e2) (blk e4 X W C g hp m k)
    | Raise ex cause pos =>
      replace h : raiseC n0 cc ex cause = some cm := h
      unfold raiseC at h
      split at h
      · rename_i x p e es p2
        split at h
        · rename_i c ces h1 h2 h3
          cases h
          intro X W C g hp m k
          obtain ⟨ea, gl, hdb⟩ := errC_ok g h1
          exact ss_rai (by rw [g.er.nms]) g.hK g.calm g.tk (g.room.mono (by omega)) ea gl hdb (nostar_cons h2).1 (nostar_cons h2).2 (ros (cEx_ok n0) g h3 m)
        · cases h
          exact fun X W C g hp m k ρ F σ H D S o => o.elim
      · cases h
        exact fun X W C g hp m k ρ F σ H D S o => o.elim
    | Try body hds orelse fin pos =>
      replace h : tryC (cS n0 n cc) cc body hds orelse fin = some cm := h
      unfold tryC at h
      split at h
      · rename_i x p1 y e p2 p3
        split at h
        case isFalse => cases h
        rename_i hy
        split at h
        case h_2 => cases h
        rename_i c cb xe h1 h2 h3
        cases h
        intro X W C g hp m k
        obtain ⟨ea, gl, hdb⟩ := errC_ok g h1
        obtain ⟨_, _, _, _, _, _, _, _, hm, _⟩ := ea.ex
        exact ss_try (C := C) g.hK hp.st hp.fr g.nd (by rw [g.N]; exact hy.1) (by show X.env.scope.names.lookup y = _; rw [g.sc]; exact hy.2) ⟨gl, hdb, .inl hm⟩ g.tk g.units (fun y j e => slotC_ok g e) h3 (fun c b => g.er.em c _ b) (fun c => g.er.eg c _) g.er.nms
          fun W' pn xe' tk' hp' => blk h2 _ _ _ (g.tr tk') ⟨hp', hp.st, hp.fr⟩ m k
      · cases h
    | Pass pos => cases h; exact fun X W C g hp m k => ss_pass
    | Break pos => cases h; exact fun X W C g hp m k => ss_brk
    | Continue pos => cases h; exact fun X W C g hp m k => ss_cont
    | _ => cases h
/-- a def's body -/
theorem body_ok {cs : List Sm} (h : mapS (cS n0 n cc) ss = some cs) (g : Good cc X W C G P Fo d) (hp : Pas X) : SSs X G W C ss (exs P Fo L m k cs) := mapS_ok (fun s c h => cS_ok n cc s c h) h X W C g hp m k
end
end PV

set_option Elab.async false
set_option linter.all false
set_option maxRecDepth 100000
set_option maxHeartbeats 4000000
/-! PV, soundness 25: a program's defs. -/
namespace PV
open PySem PySem.Spec PyProof.Rows
/-- a def of the text: its code's number stands in the list of them -/
structure DefI where
  x : Str
  qual : Str
  params : Arguments
  body : List Stmt
  scope : Scope
  N : List Str
  ps : List Str
  md : List Md
  kws : List (Nat × List Str)
/-- a program's context of one of its defs -/
def ccOf (fns : List (Str × Nat × List Md × List Str × List (Nat × List Str))) (bts : List Str) (consts : List (Str × Int)) (errs : List (Nat × Str)) (D : DefI) : Cc := ⟨D.N, D.scope, fun _ => true, fns, bts, consts, errs⟩
structure DefOk (K : PySem.W.Frag) (mg : Str → Option Value) (D : DefI) : Prop where
  ex : ∃ (fa : Addr) (fd : FuncData), L2.FunD K D.x D.qual D.params D.body D.scope [] [] fa fd ∧ mg D.x = some (.ref fa) ∧ L2.Binds K fd D.ps [] ∧ ∀ q ∈ D.kws, KwB K fd D.ps q.1 q.2
  sc : L2.FnScope D.N D.ps D.scope
  len : D.ps.length = D.md.length
  one : oneMut D.md
/-- a program: its defs, their codes -/
structure Prg where
  pg : Pg
  defs : List DefI
  bts : List Str
  consts : List (Str × Int)
  errs : List (Nat × Str)
  n0 : Nat
  n : Nat
  L : Nat
def Prg.fns (R : Prg) : List (Str × Nat × List Md × List Str × List (Nat × List Str)) := (R.defs.zip (List.range R.defs.length)).map fun p => (p.1.x, p.2, p.1.md, p.1.ps, p.1.kws)
/-- each def's code is what the compiler makes of it -/
def Prg.Comp (R : Prg) : Prop := ∀ (i : Nat) (D : DefI), R.defs[i]? = some D → ∃ fc, R.pg.fns[i]? = some fc ∧ fc.md = D.md ∧ fc.slots = D.N.length ∧ mapS (cS R.n0 R.n (ccOf R.fns R.bts R.consts R.errs D)) D.body = some fc.body
theorem Prg.mem {R : Prg} {q : Str × Nat × List Md × List Str × List (Nat × List Str)} (h : q ∈ R.fns) : ∃ D, R.defs[q.2.1]? = some D ∧ q.1 = D.x ∧ q.2.2.1 = D.md ∧ q.2.2.2.1 = D.ps ∧ q.2.2.2.2 = D.kws := by
  obtain ⟨p, h1, h2⟩ := List.mem_map.mp h
  subst h2
  obtain ⟨i, hi⟩ := List.getElem?_of_mem h1
  rw [List.getElem?_zip_eq_some] at hi
  obtain ⟨h3, h4⟩ := hi
  have e : p.2 = i := by
    have hl := (List.getElem?_eq_some_iff.mp h4).1
    rw [List.getElem?_range (by simpa using hl)] at h4
    exact (Option.some.inj h4).symm
  exact ⟨p.1, by rw [e]; exact h3, rfl, rfl, rfl, rfl⟩
theorem funs_ok {R : Prg} {P : Program} {w : World} {K : PySem.W.Frag} {mg : Str → Option Value} {base : Heap} {G : Ga} (hc : R.Comp) (hd : ∀ D ∈ R.defs, DefOk K mg D) (hb : ∀ x ∈ R.bts, mg x = none) (hn : ∀ q ∈ R.consts, ∃ t, mg q.1 = some (.int q.2 t)) (he : ErrsOk P w K mg base G R.pg R.errs) : ∀ (d i : Nat) (D : DefI), R.defs[i]? = some D → FunAt P w K mg base G (Fd R.pg R.L R.n d) d i D.md D.x D.ps D.kws := by
  intro d
  induction d with
  | zero =>
    intro i D hi
    have ok := hd D (List.mem_of_getElem? hi)
    obtain ⟨fa, fd, h1, h2, h3, h4⟩ := ok.ex
    refine ⟨fa, fd, ⟨fun vs H Q E h => ?_, fun A outer s H args us vs Q E hg hr e0 r hbd h => ?_⟩, h2, h1.kp, h3, h4⟩
    · obtain ⟨as, F0, M, ars, _⟩ := h
      rw [ars.len.1, ok.len]
    · obtain ⟨as, F0, M, ars, _, _, _, z⟩ := h
      exact z.elim
  | succ d ih =>
    intro i D hi
    have ok := hd D (List.mem_of_getElem? hi)
    obtain ⟨fa, fd, h1, h2, h3, h4⟩ := ok.ex
    obtain ⟨fc, f1, f2, f3, f4⟩ := hc i D hi
    refine ⟨fa, fd, ?_, h2, h1.kp, h3, ‹_›⟩
    have z := fn_pv (P := P) (w := w) (mg := mg) (base := base) (G := G) (Pg' := R.pg) (L := R.L) (n := R.n) (d := d) (f := i) (fc := fc) h1 ok.sc f1 (by rw [f2]; exact ok.len) f3.symm (by rw [f2]; exact ok.one) fun cdv A outer s H E C hK hr hgd => by
      refine body_ok f4 (d := d) ?_ (⟨L2.passes_of rfl, rfl, rfl⟩)
      exact {
        N := rfl
        nd := ok.sc.nd
        sc := rfl
        fn := fun x _ => rfl
        hK := hK.symm
        calm := rfl
        room := hr
        tk := L2.takes_of rfl rfl rfl rfl
        bt := hb
        cn := hn
        gd := hgd
        er := he
        fu := fun q hq => by
          obtain ⟨D', g1, g2, g3, g4, g5⟩ := Prg.mem hq
          rw [g2, g3, g4, g5]
          obtain ⟨fc', k1, k2, _⟩ := hc _ _ g1
          exact ⟨ih _ _ g1, fc', k1, k2⟩ }
    rw [f2] at z
    exact z
/-- the def at fa itself -/
theorem fun_top {R : Prg} {P : Program} {w : World} {K : PySem.W.Frag} {mg : Str → Option Value} {base : Heap} {G : Ga} (hc : R.Comp) (hd : ∀ D ∈ R.defs, DefOk K mg D) (hb : ∀ x ∈ R.bts, mg x = none) (hn : ∀ q ∈ R.consts, ∃ t, mg q.1 = some (.int q.2 t)) (he : ErrsOk P w K mg base G R.pg R.errs) (d i : Nat) (D : DefI) (hi : R.defs[i]? = some D) {fa : Addr} {fd : FuncData}
    (h1 : L2.FunD K D.x D.qual D.params D.body D.scope [] [] fa fd) : FnG P w K mg base (L2.CX P w) (d + 3) fa fd D.ps (SpF K G (Fd R.pg R.L R.n (d + 1)) D.md i) := by
  have ih := funs_ok (P := P) (w := w) (K := K) (mg := mg) (base := base) (G := G) hc hd hb hn he d
  have ok := hd D (List.mem_of_getElem? hi)
  obtain ⟨fc, f1, f2, f3, f4⟩ := hc i D hi
  have z := fn_pv (P := P) (w := w) (mg := mg) (base := base) (G := G) (Pg' := R.pg) (L := R.L) (n := R.n) (d := d) (f := i) (fc := fc) h1 ok.sc f1 (by rw [f2]; exact ok.len) f3.symm (by rw [f2]; exact ok.one) fun cdv A outer s H E C hK hr hgd => by
    refine body_ok f4 (d := d) ?_ (⟨L2.passes_of rfl, rfl, rfl⟩)
    exact {
      N := rfl
      nd := ok.sc.nd
      sc := rfl
      fn := fun x _ => rfl
      hK := hK.symm
      calm := rfl
      room := hr
      tk := L2.takes_of rfl rfl rfl rfl
      bt := hb
      cn := hn
      gd := hgd
      er := he
      fu := fun q hq => by
        obtain ⟨D', g1, g2, g3, g4, g5⟩ := Prg.mem hq
        rw [g2, g3, g4, g5]
        obtain ⟨fc', k1, k2, _⟩ := hc _ _ g1
        exact ⟨ih _ _ g1, fc', k1, k2⟩ }
  rw [f2] at z
  exact z
end PV

set_option Elab.async false
set_option linter.all false
set_option maxRecDepth 100000
/-! PV: a def's names, from its text. -/
namespace PV
open PySem
mutual
def scE : Nat → Expr → List Scope
  | 0, _ => []
  | n + 1, e => match e with
    | .BoolOp _ vs _ => scEs n vs
    | .BinOp a _ b _ => scE n a ++ scE n b
    | .UnaryOp _ a _ => scE n a
    | .IfExp a b c _ => scE n a ++ scE n b ++ scE n c
    | .ListComp elt gens sc _ => sc :: (scE n elt ++ scGs n gens)
    | .Compare a _ bs _ => scE n a ++ scEs n bs
    | .Call f as kws _ => scE n f ++ scEs n as ++ scEs n (kws.map (·.value))
    | .Attribute a _ _ => scE n a
    | .Subscript a b _ => scE n a ++ scE n b
    | .List es _ => scEs n es
    | .Tuple es _ _ => scEs n es
    | .Dict _ vs _ => scEs n vs
    | .Slice a b c _ => scO n a ++ scO n b ++ scO n c
    | _ => []
def scEs : Nat → List Expr → List Scope
  | 0, _ => []
  | _, [] => []
  | n + 1, e :: es => scE n e ++ scEs n es
def scO : Nat → Option Expr → List Scope
  | 0, _ => []
  | _, none => []
  | n + 1, some e => scE n e
def scGs : Nat → List Comprehension → List Scope
  | 0, _ => []
  | _, [] => []
  | n + 1, g :: gs => scE n g.iter ++ scEs n g.ifs ++ scGs n gs
end
mutual
def scS : Nat → Stmt → List Scope
  | 0, _ => []
  | n + 1, s => match s with
    | .Expr e _ => scE n e
    | .Return e _ => scO n e
    | .Assign ts e _ => scEs n ts ++ scE n e
    | .AugAssign t _ e _ => scE n t ++ scE n e
    | .If c a b _ => scE n c ++ scSs n a ++ scSs n b
    | .While c a _ _ => scE n c ++ scSs n a
    | .For _ i b _ _ => scE n i ++ scSs n b
    | .Raise (some e) _ _ => scE n e
    | .Try b hs _ _ _ => scSs n b ++ scHs n hs
    | _ => []
def scSs : Nat → List Stmt → List Scope
  | 0, _ => []
  | _, [] => []
  | n + 1, s :: ss => scS n s ++ scSs n ss
def scHs : Nat → List ExceptHandler → List Scope
  | 0, _ => []
  | _, [] => []
  | n + 1, .ExceptHandler _ _ b _ :: hs => scSs n b ++ scHs n hs
end
def ownNames (sc : Scope) : List Str := (sc.names.filter fun y => y.2 == .local || y.2 == .cell).map (·.1)
/-- parameters, the def's other names, its comprehensions' -/
def namesOf (ps : List Str) (sc : Scope) (body : List Stmt) : List Str := (ps ++ ownNames sc ++ (scSs 200 body).flatMap ownNames).eraseDups
def paramsOf (a : Arguments) : List Str := a.args.map (·.arg)
def defOf (md : Str → Md) (kw : Str → List (Nat × List Str)) (s : Stmt) : Option DefI := match s with
  | .FunctionDef x a b _ _ _ sc _ _ _ => some { x := x, qual := x, params := a, body := b, scope := sc, ps := paramsOf a, N := namesOf (paramsOf a) sc b, md := (paramsOf a).map md, kws := kw x }
  | _ => none
def defsOf (md : Str → Md) (kw : Str → List (Nat × List Str)) (ss : List Stmt) : List DefI := ss.filterMap (defOf md kw)
end PV

set_option Elab.async false
set_option linter.all false
set_option maxRecDepth 100000
set_option maxHeartbeats 4000000
/-! PV: the law's end. -/
namespace PV
open PySem PySem.Spec PyProof.Rows
theorem law_sp {K : PySem.W.Frag} {G : Ga} {Fo : Orc} {i : Nat} {ns : List Int} {ms : List (List T)} {H : L2.Hp} {a : Addr} (hO : L2.Only H) (hS : L2.SqL K H a (ns.map L2.V.int)) (h : Fo i [.t (.scr ns)] = .ok (.t (.bl true)) ms) :
    SpF K G Fo [.val] i [.ref a] H (fun v _ => v = .bl true) (fun _ _ _ => False) := by
  refine ⟨[.t (.scr ns)], fun p => p = a ∧ ∃ o, H a = some (.frz o (.lst (ns.map L2.V.int))), fun _ => False, ⟨.ref a, [], rfl, ⟨a, rfl, ?_⟩, rfl⟩, fun p q z => z.elim, fun p z => ?_, fun p z => z.elim, ?_⟩
  · rcases hS with (hS | ⟨o, hS⟩) | hS
    · rcases hO a with z | ⟨o, xs, z⟩
      · rw [z] at hS; cases hS
      · rw [z] at hS; cases hS
    · exact .inl ⟨⟨rfl, o, hS⟩, o, hS⟩
    · exact .inr hS
  · obtain ⟨z, o, e⟩ := z
    rw [z, e]
    simp
  · rw [h]
    exact fun F' H' v _ _ r => r
end PV

set_option Elab.async false
set_option linter.all false
set_option maxRecDepth 100000
set_option maxHeartbeats 4000000
/-! PV: the law's end over a head by facts, exceptions by the world, no text being shown. -/
namespace PV
open PySem PySem.Spec PyProof.Rows L2
/-- what is wanted of the law's call -/
abbrev Fine (s1 : Shared) (r : Result) (s2 : Shared) : Prop := r = .ok (.ret (.bool true)) ∧ OldK s1.heap s2.heap ∧ s2.os = s1.os ∧ AllBare s2.gens
section
variable {P : Program} {w : World} {K : PySem.W.Frag} {mg mb : Str → Option Value} {k : Nat} {fa a : Addr} {fd : FuncData} {x : Str} {sp : Sp} {s1 : Shared} {vs : List Value} {ns : List Int}
/-- the call, from one abstract heap in which only the script's address may be told -/
theorem call_from {H : Hp} (inK : K.In s1.heap) (globs : s1.heap.Ns mainGlobals mg) (blts : s1.heap.Ns builtinsNs mb) (boot : ∀ y : Str, y ≠ "__name__" → mb y = bootBuiltins y) (free : s1.heap.NoLimit) (noGens : s1.gens = #[])
    (obj : s1.heap.get? a = some { cls := .type "list", data := .seq vs.toArray }) (room : Room k callerA) (F : ∀ base : Heap, K.In base → base.Ns mainGlobals mg → FnG P w K mg base (CX P w) k fa fd [x] sp)
    (bd : ∀ (s : Shared) (u : Value), BindsTo s fd ⟨[u], []⟩ [(x, u)]) (q : sp [.ref a] H (fun v _ => v = .bl true) fun _ _ _ => False) (only : Only H) (ok : HOk P w H s1.heap) (one : ∀ b, H b ≠ none → b = a) (off : H a ≠ none → K.lookup a = none) :
    codeAny (model P w) callerA (.call (.ref fa) ⟨[.ref a], []⟩) (Fine s1) s1 := by
  have told : ∀ {b : Addr} {o : Obj}, s1.heap.get? b = some o → (H b ≠ none → False) → (hidT s1.heap H).get? b = some o := fun {b o} e n => hidT_get e (Classical.byContradiction n)
  have spaces : ∀ {b : Addr} {m : Str → Option Value}, s1.heap.Ns b m → (hidT s1.heap H).Ns b m := by
    rintro b m ⟨o, es, ep, e, dat, rest⟩
    refine ⟨o, es, ep, told e fun z => ?_, dat, rest⟩
    rw [one b z, obj] at e
    cases e
    cases (show Data.seq vs.toArray _ = Data.dict es ep from dat)
  have inK' : K.In (hidT s1.heap H) := by
    intro b o e
    refine told (inK b o e) fun z => ?_
    have := one b z
    subst this
    rw [off z] at e
    cases e
  have M : Mod K mg (hidT s1.heap H) := by
    obtain ⟨mc, f1, f2⟩ := free
    exact { kin := inK', glob := spaces globs, blt := ⟨mb, spaces blts, boot⟩, nolimit := ⟨mc, spaces f1, f2⟩ }
  have E0 : Env0 P w K mg (hidT s1.heap H) callerA [] s1 H :=
    { frames := rfl, mod := M, bs := fun b o e => of_hidT e, bsz := Nat.le_of_eq (hidT_size _ _), funs := trivial, frf := fun b z => (nomatch z), hok := ok, bare := .of_eq noGens }
  refine codeAny_mono ((F _ inK' (spaces globs)).go callerA [] s1 H ⟨[.ref a], []⟩ [.ref a] [.ref a] _ _ rfl room E0 (.cons rfl .nil) (bd s1 (.ref a)) q) ?_
  rintro (e | fl) s2 z
  · obtain ⟨_, _, _, _, _, _, _, _, _, _, _, _, z⟩ := z
    exact z.elim
  · rcases fl with _ | _ | _ | u
    · exact False.elim z
    · exact False.elim z
    · exact False.elim z
    · obtain ⟨v, H2, os, bare, un, ok2, rel, tru⟩ := z
      subst tru
      cases (show u = Value.bool true from rel)
      refine ⟨rfl, OldK.of_keep ?_, os, bare⟩
      intro b o e
      rcases only b with z | ⟨ob, xs, z⟩
      · exact un.keep b o e z (fun m => nomatch m) (fun m => nomatch m)
      · have g1 := (ok b _ z).1
        rw [e] at g1
        cases g1
        exact (ok2 b _ (un.frzs b _ _ z)).1
theorem call_law (inK : K.In s1.heap) (globs : s1.heap.Ns mainGlobals mg) (blts : s1.heap.Ns builtinsNs mb) (boot : ∀ y : Str, y ≠ "__name__" → mb y = bootBuiltins y) (free : s1.heap.NoLimit) (noGens : s1.gens = #[])
    (obj : s1.heap.get? a = some { cls := .type "list", data := .seq vs.toArray }) (hi : IntsAre vs ns) (len : ns.length ≤ sizeLine) (room : Room k callerA) (F : ∀ base : Heap, K.In base → base.Ns mainGlobals mg → FnG P w K mg base (CX P w) k fa fd [x] sp)
    (bd : ∀ (s : Shared) (u : Value), BindsTo s fd ⟨[u], []⟩ [(x, u)]) (q : ∀ H : Hp, Only H → SqL K H a (ns.map V.int) → sp [.ref a] H (fun v _ => v = .bl true) fun _ _ _ => False) :
    codeAny (model P w) callerA (.call (.ref fa) ⟨[.ref a], []⟩) (Fine s1) s1 := by
  have vals := vals_ints hi
  have lv : vs.length ≤ sizeLine := by rw [hi.length]; exact len
  cases inMod : K.lookup a with
  | some o =>
    have same := inK a o inMod
    rw [obj] at same
    cases same
    have only : Only fun _ => none := fun _ => .inl rfl
    have seq : SqL K (fun _ => none) a (ns.map V.int) := .inr ⟨_, vs.toArray, _, inMod, rfl, rfl, rfl, by rw [List.size_toArray]; exact lv, by simpa using vals⟩
    exact call_from inK globs blts boot free noGens obj room F bd (q _ only seq) only (fun b u z => (nomatch z)) (fun b z => absurd rfl z) fun z => absurd rfl z
  | none =>
    let T : HO := .frz { cls := .type "list", data := .seq vs.toArray } (.lst (ns.map V.int))
    let H : Hp := upd (fun _ => none) a T
    have at_a : H a = some T := upd_same
    have else_ : ∀ b, b ≠ a → H b = none := fun b n => upd_ne n
    have only : Only H := fun b => by
      by_cases e : b = a
      · subst e; exact .inr ⟨_, _, at_a⟩
      · exact .inl (else_ b e)
    have ok : HOk P w H s1.heap := fun b u z => by
      by_cases e : b = a
      · subst e
        rw [at_a] at z
        cases z
        exact ⟨obj, by rw [List.length_map]; exact len, vs, _, vals, obj⟩
      · rw [else_ b e] at z; cases z
    refine call_from inK globs blts boot free noGens obj room F bd (q H only (.inl (.inr ⟨_, at_a⟩))) only ok (fun b z => ?_) fun _ => inMod
    exact Classical.byContradiction fun e => z (else_ b e)
end
theorem law_end {l : PySem.W.OpenLaw} {most dep : Nat} {prg : Program} {lo : List Str} {XP : (Str → Option Value) → Heap → Prop} {YP : World → Heap → Prop} {dr : DefRec} {scr : Str}
    (hn : l.most = some most) (hn2 : most ≤ sizeLine) (hdf : dr.params.defaults = []) (hr : Room dep callerA)
    (F : ∀ (w : World) (mg : Str → Option Value) (fa : Addr) (h : Heap), YP w h → h.Ns mainGlobals mg → mg dr.name = some (.ref fa) →
      ∃ (K : PySem.W.Frag) (fd : FuncData) (sp : Sp), K.In h ∧ (∀ (s : Shared) (u : Value), BindsTo s fd ⟨[u], []⟩ [(scr, u)]) ∧
        (∀ (H : Hp) (a : Addr) (ns : List Int), ns.length ≤ most → Only H → SqL K H a (ns.map V.int) → sp [.ref a] H (fun v _ => v = .bl true) fun _ _ _ => False) ∧
        ∀ base : Heap, K.In base → base.Ns mainGlobals mg → FnG l.prog w K mg base (L2.CX l.prog w) dep fa fd [scr] sp) :
    PySem.W.WalkO prg lo XP YP l.row.toRowW dr [] (fun f vs => PySem.call f vs) := by
  refine Att.attach_call hn hdf fun w s₀ s₁ mg mb fa o pm cd doc a vs ns G Y ho hd hcd hmg hobj hints hlen hg => ?_
  obtain ⟨K, fd, sp, KX, hb, hsp, hF⟩ := F w mg fa _ Y G.T.g hmg
  exact call_law KX G.T.g G.T.b G.T.builtins G.T.nolimit hg hobj hints (Nat.le_trans hlen hn2) hr hF hb fun H hO hS => hsp H a ns hlen hO hS
end PV

set_option Elab.async false
set_option linter.all false
set_option maxRecDepth 100000
set_option maxHeartbeats 1000000
/-! PV: a program's own errors, read from its text and from the head. -/
namespace PV
open PySem PySem.Spec PyProof.Rows L2
/-- an error class with its __init__ -/
structure ErrI where
  x : Str
  nm : List Str
  D : He.DefD
  N : List Str
  ps : List Str
def errOf (s : Stmt) : Option ErrI := match s with
  | .ClassDef x _ _ body _ _ _ _ _ _ _ => body.findSome? fun
    | .FunctionDef f a b _ _ _ sc _ _ _ => if f = "__init__" then (iniC (namesOf (paramsOf a) sc b) sc b).map fun fs => ⟨x, fs.map (·.1), ⟨(x, some "__init__"), f, x ++ ".__init__", a, b, sc, [], []⟩, namesOf (paramsOf a) sc b, paramsOf a⟩ else none
    | _ => none
  | _ => none
def errsOf (ss : List Stmt) : List ErrI := ss.filterMap errOf
/-- what an __init__'s text gives -/
structure ErrT (e : ErrI) : Prop where
  at_ : e.D.at_ = (e.x, some ("__init__" : Str))
  dfl : e.D.dfl = []
  kwd : e.D.kwd = []
  sc : FnScope e.N e.ps e.D.scope
  ini : iniC e.N e.D.scope e.D.body = some (e.nm.zipIdx 1)
  len : e.ps.length = e.nm.length + 1
  pos : 0 < e.nm.length
  few : e.nm.length ≤ 900
  nd : e.nm.Nodup
  bd : ∀ (kV doc pm : Value) (an : Option Addr) (cdv ct : Value) (us : List Value), us.length = e.ps.length → bindArgs (PySem.W.fnOf e.D.name e.D.qual e.D.params e.D.body e.D.scope .none kV doc pm an cdv ct) ⟨us, []⟩ = pure (e.ps.zip us)
def clsB (K : PySem.W.Frag) (C : Addr) : Bool := match K.lookup C with
  | some ⟨.type "type", _, .cls cd, sl⟩ => (match cd.mro, sl.toList with
    | .ref C' :: bm, [_, _, _, _, some (.builtin n), _] => C' == C && (n == "ValueError.__new__" && (!cd.hasDel && (cd.hasDict && PySem.HandSPX.refsVE bm)))
    | _, _ => false)
  | _ => false
theorem clsB_ok {K : PySem.W.Frag} {C : Addr} (h : clsB K C = true) : ∃ nm q N bs bm sn sub ab col dd k0 k1 k2 k3 k5, K.lookup C = some (excClassObj nm q C N bs bm true sn sub ab col dd k0 k1 k2 k3 k5 "ValueError.__new__") ∧ PySem.HandSPX.refsVE bm = true := by
  unfold clsB at h
  split at h
  · rename_i dd cd sl ho
    split at h
    · rename_i C' bm k0 k1 k2 k3 n k5 hm hs
      simp only [Bool.and_eq_true, beq_iff_eq, Bool.not_eq_true'] at h
      obtain ⟨rfl, rfl, hdel, hdict, hr⟩ := h
      obtain ⟨nm, bs, mro, ns, qn, hd, sn, sub, ab, col, del⟩ := cd
      dsimp only at hm hdel hdict
      subst hm hdel hdict
      have hsl : sl = #[k0, k1, k2, k3, some (.builtin "ValueError.__new__"), k5] := by
        obtain ⟨l⟩ := sl
        simp only at hs
        rw [hs]
      subst hsl
      exact ⟨nm, qn, ns, bs, bm, sn, sub, ab, col, dd, k0, k1, k2, k3, k5, ho, hr⟩
    · cases h
  · cases h
/-- what the head says of an error class -/
def errB (K : PySem.W.Frag) (e : ErrI) : Bool :=
  clsB K (He.ga K e.x) && (He.eqO (PySem.W.findIn K (.ref (He.ga K e.x)) "__setattr__") (some (some (.builtin "object.__setattr__"))) && (He.eqO (PySem.W.findIn K (.ref (He.ga K e.x)) "__getattribute__") (some (some (.builtin "BaseException.__getattribute__"))) &&
  (He.eqO (PySem.W.findIn K (.ref (He.ga K e.x)) "__getattr__") (some none) && (decide (PySem.W.subIn K (.ref (He.ga K e.x)) (.type "BaseException") = some true) && (decide (PySem.W.typeIn K (.ref (He.ga K e.x)) = some (.type "type")) &&
  (PySem.W.keepIn K (.ref (He.ga K e.x)) && (PySem.W.hasDictIn K (He.ga K e.x) && (He.eqO (PySem.W.findIn K (.ref (He.ga K e.x)) "__init__") (some (some (.ref (He.ma K (He.ga K e.x) "__init__")))) &&
  (decide (PySem.W.typeIn K (.ref (He.ma K (He.ga K e.x) "__init__")) = some (.type "function")) && (He.eqO (PySem.W.nsIn K mainGlobals e.x) (some (some (.ref (He.ga K e.x)))) && e.nm.all fun f => He.eqO (PySem.W.findIn K (.ref (He.ga K e.x)) f) (some none)))))))))))
def exB (es : List ErrI) (K : PySem.W.Frag) : Bool := (es.all (errB K)) && (es.zipIdx.all fun p => es.zipIdx.all fun q => decide (PySem.W.exmOne K (.ref (He.ga K p.1.x)) (.ref (He.ga K q.1.x)) = some (p.2 == q.2)))
def gaOf (es : List ErrI) (K : PySem.W.Frag) : Ga := ⟨fun c => match es[c]? with
  | some e => He.ga K e.x
  | none => 0, fun c => (es.map (·.nm)).getD c []⟩
def subOf (n : Nat) (c c' : Nat) : Option Bool := if c < n ∧ c' < n then some (c == c') else none
def errsN (es : List ErrI) : List (Nat × Str) := es.zipIdx.map fun p => (p.2, p.1.x)
theorem errs_ok {P : Program} {w : World} {K : PySem.W.Frag} {h : Heap} {mg : Str → Option Value} {base : Heap} {pg : Pg} {es : List ErrI} (X : K.In h) (G : h.Ns mainGlobals mg) (ok : exB es K = true) (hd : ∀ e ∈ es, ∃ fd, FunD K e.D.name e.D.qual e.D.params e.D.body e.D.scope (e.D.dvs K) (e.D.kws K) (He.fAd K e.D.at_) fd)
    (ht : ∀ e ∈ es, ErrT e) (hs : pg.sub = subOf es.length) (hn : ∀ c, pg.nms c = (es.map (·.nm)).getD c []) : ErrsOk P w K mg base (gaOf es K) pg (errsN es) := by
  unfold exB at ok
  rw [Bool.and_eq_true] at ok
  obtain ⟨ok1, ok2⟩ := ok
  have one : ∀ {c : Nat} {e : ErrI}, es[c]? = some e → e ∈ es := fun h => List.mem_of_getElem? h
  have nmE : ∀ {c : Nat} {e : ErrI}, es[c]? = some e → (gaOf es K).nm c = e.nm ∧ (gaOf es K).ca c = He.ga K e.x := fun {c e} h => by
    refine ⟨?_, ?_⟩
    · show (es.map (·.nm)).getD c [] = _
      rw [List.getD_eq_getElem?_getD, List.getElem?_map, h]; rfl
    · show (match es[c]? with
        | some e => He.ga K e.x
        | none => 0) = _
      rw [h]
  refine ⟨fun q hq => ?_, fun c c' b hb => ?_, fun c c' hb => ?_, fun c => (hn c).symm⟩
  · obtain ⟨p, hp, rfl⟩ := List.mem_map.mp hq
    have hp' : es[p.2]? = some p.1 := List.mem_zipIdx_iff_getElem?.mp hp
    obtain ⟨e1, e2⟩ := nmE hp'
    have t := ht _ (one hp')
    obtain ⟨fd, F⟩ := hd _ (one hp')
    have o := List.all_eq_true.mp ok1 _ (one hp')
    unfold errB at o
    simp only [Bool.and_eq_true, decide_eq_true_eq] at o
    obtain ⟨o1, o2, o3, o4, o5, o6, o7, o8, o9, o10, o11, o12⟩ := o
    dsimp only
    have F' : FunD K p.1.D.name p.1.D.qual p.1.D.params p.1.D.body p.1.D.scope [] [] (He.ma K (He.ga K p.1.x) "__init__") fd := by
      have z : He.fAd K p.1.D.at_ = He.ma K (He.ga K p.1.x) "__init__" := by rw [t.at_]; rfl
      have z1 : p.1.D.dvs K = [] := by unfold He.DefD.dvs; rw [t.dfl]; rfl
      have z2 : p.1.D.kws K = [] := by unfold He.DefD.kws; rw [t.kwd]; rfl
      rw [z, z1, z2] at F
      exact F
    refine ⟨⟨_, fd, p.1.ps, ?_, ?_, o10, ?_, FunD.bindsN F' t.bd, ?_, rfl, ?_, ?_, ?_, ?_⟩⟩
    · rw [e2]
      exact ⟨clsB_ok o1, He.eqO_ok o2, o5, o6, o7⟩
    · rw [e2]; exact He.eqO_ok o9
    · rw [e1, ← t.len]
      exact ini_fn F' t.sc t.ini
    · rw [e2]; exact PySem.W.mg_of X G (He.eqO_ok o11)
    · rw [e1]; exact t.pos
    · rw [e1]; exact t.few
    · rw [e1]; exact t.nd
    · rw [e1, e2]
      exact fun f hf => He.eqO_ok (List.all_eq_true.mp o12 f hf)
  · rw [hs] at hb
    unfold subOf at hb
    split at hb
    · rename_i hl
      cases hb
      have g1 := List.getElem?_eq_getElem hl.1
      have g2 := List.getElem?_eq_getElem hl.2
      rw [(nmE g1).2, (nmE g2).2]
      exact of_decide_eq_true (List.all_eq_true.mp (List.all_eq_true.mp ok2 (es[c], c) (List.mem_zipIdx_iff_getElem?.mpr g1)) (es[c'], c') (List.mem_zipIdx_iff_getElem?.mpr g2))
    · cases hb
  · rw [hs] at hb
    unfold subOf at hb
    split at hb
    · rename_i hl
      have g1 := List.getElem?_eq_getElem hl.1
      have o := List.all_eq_true.mp ok1 _ (one g1)
      unfold errB at o
      simp only [Bool.and_eq_true, decide_eq_true_eq] at o
      obtain ⟨o1, o2, o3, o4, o5, o6, o7, o8, o9, o10, o11, o12⟩ := o
      rw [(nmE g1).2, (nmE g1).1]
      exact ⟨He.eqO_ok o3, He.eqO_ok o4, o5, o8, fun f hf => He.eqO_ok (List.all_eq_true.mp o12 f hf)⟩
    · cases hb
/-! ### the Hook -/
abbrev AlP : Type := He.AlD × Bool
def obsP (n : Nat) (fa : List He.Fa) (fn : List He.DefD) (ex : PySem.W.Frag → Bool) (g : Addr → Option Obj) : AlP := (fun K : PySem.W.Frag => (He.obsD fa fn K, ex K)) (He.frG g (He.asD g n))
def hookP (n : Nat) (fa : List He.Fa) (fn : List He.DefD) (ex : PySem.W.Frag → Bool) : PySem.W.Hook where
  α := AlP
  obs := fun s => obsP n fa fn ex s.heap.get?
  val := fun _ => (He.valD fn, true)
  says := fun _ h => ∃ K : PySem.W.Frag, K.In h ∧ He.SaysD fa fn K ∧ ex K = true
  of := fun _ _ e => ⟨_, He.frG_in, congrArg (fun z : AlP => z.1) e, congrArg (fun z : AlP => z.2) e⟩
  keeps := fun _ _ _ ⟨K, hK, c⟩ k => ⟨K, PySem.W.Frag.In.keeps hK k, c⟩
theorem obsP_eq {n : Nat} {fa : List He.Fa} {fn : List He.DefD} {ex : PySem.W.Frag → Bool} {g : Addr → Option Obj} {s : Shared} (h : ∀ a, g a = s.heap.get? a) : obsP n fa fn ex g = (hookP n fa fn ex).obs s := by
  have e : g = s.heap.get? := funext h
  rw [e] <;> rfl
end PV

set_option Elab.async false
set_option linter.all false
set_option maxRecDepth 1000000
set_option maxHeartbeats 0
namespace K85
open PV PySem
def mdOf (x : Str) : Md := if x ∈ (["_law_pot_here"] : List Str) then .chg else .val
def kwOf (x : Str) : List (Nat × List Str) := if x = "paths" then [(0, ["arrows", "places"])] else []
def ds : List DefI := defsOf mdOf kwOf PySem.Challenge.pw_producttables_k85_whole_paths_listed.main.body
def bts : List Str := ["len", "list", "tuple", "sorted", "all", "any", "sum", "max", "min", "abs", "int", "divmod", "isinstance", "bool", "str", "range", "enumerate", "zip", "dict", "repr"]
def consts : List (Str × Int) := [("MOST_PLACES", 4), ("MOST_ARROWS", 7)]
def es : List ErrI := errsOf PySem.Challenge.pw_producttables_k85_whole_paths_listed.main.body
def errs : List (Nat × Str) := [(0, "InvalidMany"), (1, "InvalidWeb")]
def tab : List (Str × Nat × List Md × List Str × List (Nat × List Str)) := (ds.zip (List.range ds.length)).map fun p => (p.1.x, p.2, p.1.md, p.1.ps, p.1.kws)
def codeOf (i : Nat) : Option (List Sm) := (ds[i]?).bind fun D => mapS (cS 60 60 (ccOf tab bts consts errs D)) D.body
end K85

set_option Elab.async false
set_option linter.all false
set_option maxRecDepth 1000000
set_option maxHeartbeats 0
namespace K85
open PV PySem PySem.Spec PyProof.Rows
def c0 : List Sm := [Sm.ret (((Ex.loc 0).isi [Ty.int]).and_ ((Ex.loc 0).isi [Ty.bool]).not_)]
def c1 : List Sm := [Sm.ret ((Ex.call 0 [] [Ex.loc 0]).and_ (Ex.cmp Cmp.ge (Ex.loc 0) (Ex.con (T.int 0))))]
def c2 : List Sm := [Sm.ret ((Ex.loc 0).isi [Ty.list, Ty.tuple])]
def c3 : List Sm := [Sm.ite (((Ex.loc 0).isi [Ty.tuple]).not_.tor (Ex.cmp Cmp.ne (Ex.bi Bi.len [Ex.loc 0]) (Ex.con (T.int 2)))) [Sm.ret (Ex.con (T.bl false))] [], Sm.ret (Ex.bi Bi.all [Ex.comp [2, 3] [3] false 0 [Ex.loc 0] none ((Ex.call 1 [] [Ex.loc 3]).and_ (Ex.cmp Cmp.lt (Ex.loc 3) (Ex.loc 1)))])]
def c4 : List Sm := [Sm.asg 2 (Ex.bi Bi.lrange [Ex.loc 0]), Sm.whl (Ex.cmp Cmp.ne (Ex.loc 2) (Ex.lst [])) [Sm.asg 3 (Ex.comp [4, 5] [5] false 0 [Ex.loc 2] (some (Ex.bi Bi.any [Ex.comp [4, 6, 7] [6, 7] true 0 [Ex.loc 1] none ((Ex.cmp Cmp.eq (Ex.loc 7) (Ex.loc 5)).and_ (Ex.cmp Cmp.isin (Ex.loc 6) (Ex.loc 2)))]).not_) (Ex.loc 5)), Sm.ite (Ex.cmp Cmp.eq (Ex.loc 3) (Ex.lst [])) [Sm.ret (Ex.con (T.bl true))] [], Sm.asg 2 (Ex.comp [4, 5] [5] false 0 [Ex.loc 2] (some (Ex.cmp Cmp.notin (Ex.loc 5) (Ex.loc 3))) (Ex.loc 5))], Sm.ret (Ex.con (T.bl false))]
def c5 : List Sm := [Sm.ite ((Ex.call 1 [] [Ex.loc 0]).not_.tor (Ex.chn Cmp.le Cmp.le (Ex.con (T.int 1)) (Ex.loc 0) (Ex.con (T.int 4))).not_) [Sm.rai 0 [Ex.loc 0]] [], Sm.ite ((Ex.call 2 [] [Ex.loc 1]).not_.tor ((Ex.cmp Cmp.gt (Ex.bi Bi.len [Ex.loc 1]) (Ex.con (T.int 7))).tor (Ex.bi Bi.all [Ex.comp [2, 3] [3] false 0 [Ex.loc 1] none (Ex.call 3 [] [Ex.loc 3, Ex.loc 0])]).not_)) [Sm.rai 1 [Ex.loc 1]] [], Sm.ite (Ex.call 4 [] [Ex.loc 0, Ex.loc 1]) [Sm.rai 1 [Ex.loc 1]] [], Sm.ret (Ex.bi Bi.list [Ex.loc 1])]
def c6 : List Sm := [Sm.unp [Tg.nm 2, Tg.nm 3] (Ex.loc 1), Sm.ret ((Ex.cmp Cmp.ne (Ex.loc 3) (Ex.tup [])).ite (((Ex.loc 0).idx ((Ex.loc 3).idx (Ex.con (T.int 1)).neg)).idx (Ex.con (T.int 1))) (Ex.loc 2))]
def c7 : List Sm := [Sm.par 2 3 (Ex.lst []) (Ex.comp [8, 9] [9] false 1 [Ex.loc 0] none (Ex.tup [Ex.loc 9, Ex.tup []])), Sm.whl (Ex.cmp Cmp.ne (Ex.loc 3) (Ex.lst [])) [Sm.ex (Ex.ext 2 (Ex.loc 3)), Sm.asg 4 (Ex.lst []), Sm.for_ [5, 6] true 0 [Ex.loc 3] [Sm.asg 7 (Ex.call 6 [] [Ex.loc 1, Ex.tup [Ex.loc 5, Ex.loc 6]]), Sm.ex (Ex.ext 4 (Ex.comp [8, 10, 11] [10, 11] true 3 [Ex.loc 1] (some (Ex.cmp Cmp.eq ((Ex.loc 11).idx (Ex.con (T.int 0))) (Ex.loc 7))) (Ex.tup [Ex.loc 5, Ex.bin Bin.add (Ex.loc 6) (Ex.tup [Ex.loc 10])])))], Sm.asg 3 (Ex.bi Bi.sorted [Ex.loc 4])], Sm.ret (Ex.loc 2)]
def c8 : List Sm := [Sm.ret (Ex.call 7 [] [Ex.loc 0, Ex.call 5 [] [Ex.loc 0, Ex.loc 1]])]
def c9 : List Sm := [Sm.asg 2 ((Ex.cmp Cmp.lt (Ex.loc 1) (Ex.bi Bi.len [Ex.loc 0])).ite (Ex.bi Bi.abs [(Ex.loc 0).idx (Ex.loc 1)]) (Ex.bin Bin.add (Ex.bin Bin.mul (Ex.con (T.int 113)) (Ex.loc 1)) (Ex.con (T.int 97)))), Sm.ret (Ex.lst [Ex.bi Bi.max2 [Ex.con (T.int 0), Ex.bin Bin.sub (Ex.loc 2) (Ex.bin Bin.pow (Ex.con (T.int 10)) (Ex.con (T.int 18)))], Ex.bin Bin.add (Ex.bin Bin.mod (Ex.bi Bi.int [Ex.bin Bin.add (Ex.bin Bin.add (Ex.bin Bin.mul (Ex.bin Bin.mod (Ex.bi Bi.int [Ex.loc 2]) (Ex.con (T.int 2147483549))) (Ex.con (T.int 40692))) (Ex.bin Bin.mul (Ex.con (T.int 3011)) (Ex.loc 1))) (Ex.con (T.int 71))]) (Ex.con (T.int 2147483563))) (Ex.con (T.int 1))])]
def c10 : List Sm := [Sm.ite (Ex.cmp Cmp.gt ((Ex.loc 0).idx (Ex.con (T.int 0))) (Ex.con (T.int 0))) [Sm.unp [Tg.ix 0 (Ex.con (T.int 0)), Tg.nm 2] (Ex.bi Bi.divmod [(Ex.loc 0).idx (Ex.con (T.int 0)), Ex.loc 1]), Sm.ret (Ex.loc 2)] [], Sm.set 0 (Ex.con (T.int 1)) (Ex.bin Bin.mod (Ex.bi Bi.int [Ex.bin Bin.add (Ex.bin Bin.mul ((Ex.loc 0).idx (Ex.con (T.int 1))) (Ex.con (T.int 39373))) (Ex.con (T.int 3011))]) (Ex.con (T.int 2147483587))), Sm.ret (Ex.bin Bin.mod (Ex.bi Bi.int [Ex.bin Bin.fdiv (Ex.bin Bin.mod (Ex.bi Bi.int [Ex.bin Bin.mul ((Ex.loc 0).idx (Ex.con (T.int 1))) ((Ex.loc 0).idx (Ex.con (T.int 1)))]) (Ex.con (T.int 2147483549))) (Ex.con (T.int 11))]) (Ex.loc 1))]
def c11 : List Sm := [Sm.ret ((Ex.loc 1).idx (Ex.call 10 [] [Ex.loc 0, Ex.bi Bi.len [Ex.loc 1]]))]
def c12 : List Sm := [Sm.asg 2 (Ex.lst [Ex.tup []]), Sm.for_ [3, 4] true 3 [Ex.loc 0] [Sm.ite (Ex.cmp Cmp.eq ((Ex.loc 4).idx (Ex.con (T.int 0))) (Ex.loc 1)) [Sm.ex (Ex.ext 2 (Ex.comp [5, 6] [6] false 0 [Ex.call 12 [] [Ex.loc 0, (Ex.loc 4).idx (Ex.con (T.int 1))]] none (Ex.bin Bin.add (Ex.tup [Ex.loc 3]) (Ex.loc 6))))] []], Sm.ret (Ex.loc 2)]
def c13 : List Sm := [Sm.asg 1 (Ex.bin Bin.add (Ex.con (T.int 1)) (Ex.call 10 [] [Ex.loc 0, Ex.con (T.int 4)])), Sm.par 2 3 (Ex.lst []) (Ex.bi Bi.lrange [Ex.loc 1]), Sm.whl (Ex.cmp Cmp.ne (Ex.loc 3) (Ex.lst [])) [Sm.ex (Ex.app 2 (Ex.popA 3 (Ex.call 10 [] [Ex.loc 0, Ex.bi Bi.len [Ex.loc 3]])))], Sm.asg 4 (Ex.lst []), Sm.for_ [5] false 1 [(Ex.cmp Cmp.gt (Ex.loc 1) (Ex.con (T.int 1))).ite (Ex.call 10 [] [Ex.loc 0, Ex.con (T.int 8)]) (Ex.con (T.int 0))] [Sm.asg 6 (Ex.call 10 [] [Ex.loc 0, Ex.bin Bin.sub (Ex.loc 1) (Ex.con (T.int 1))]), Sm.ex (Ex.app 4 (Ex.tup [(Ex.loc 2).idx (Ex.loc 6), (Ex.loc 2).idx (Ex.bin Bin.add (Ex.bin Bin.add (Ex.loc 6) (Ex.con (T.int 1))) (Ex.call 10 [] [Ex.loc 0, Ex.bin Bin.sub (Ex.bin Bin.sub (Ex.loc 1) (Ex.con (T.int 1))) (Ex.loc 6)]))]))], Sm.ret (Ex.tup [Ex.loc 1, Ex.loc 4, Ex.loc 2])]
def c14 : List Sm := [Sm.try_ [Sm.ex (Ex.call 8 [] [Ex.loc 0, Ex.loc 1])] 1 2 ((XE.val { cps := { toList := [118, 97, 108, 117, 101] } }).eq (XE.loc 1)), Sm.ret (Ex.con (T.bl false))]
def c15 : List Sm := [Sm.unp [Tg.nm 1, Tg.nm 2, Tg.nm 3] (Ex.call 13 [] [Ex.loc 0]), Sm.asg 4 (Ex.lst []), Sm.for_ [5] false 1 [Ex.loc 1] [Sm.ex (Ex.ext 4 (Ex.comp [12, 6] [6] false 0 [Ex.call 12 [] [Ex.loc 2, Ex.loc 5]] none (Ex.tup [Ex.loc 5, Ex.loc 6])))], Sm.asg 7 (Ex.comp [12, 13, 14] [13, 14] true 0 [Ex.bi Bi.sorted [Ex.comp [12, 14] [14] false 0 [Ex.loc 4] none (Ex.tup [Ex.bi Bi.len [(Ex.loc 14).idx (Ex.con (T.int 1))], Ex.loc 14])]] none (Ex.loc 14)), Sm.par 8 9 (Ex.call 8 [] [Ex.loc 1, Ex.loc 2]) (Ex.bi Bi.repr [Ex.loc 2]), Sm.ite ((Ex.cmp Cmp.ne (Ex.loc 8) (Ex.loc 7)).tor ((Ex.cmp Cmp.ne (Ex.bi Bi.repr [Ex.loc 8]) (Ex.bi Bi.repr [Ex.loc 7])).tor (Ex.cmp Cmp.ne (Ex.call 8 [Sum.inl 1, Sum.inl 0] [Ex.bi Bi.tuple [Ex.loc 2], Ex.loc 1]) (Ex.loc 7)))) [Sm.ret (Ex.con (T.bl false))] [], Sm.ite (Ex.cmp Cmp.ne (Ex.comp [12, 14] [14] false 0 [Ex.loc 8] (some (Ex.cmp Cmp.eq (Ex.bi Bi.len [(Ex.loc 14).idx (Ex.con (T.int 1))]) (Ex.con (T.int 1)))) (Ex.loc 14)) (Ex.comp [12, 13, 15, 16] [13, 15, 16] true 0 [Ex.bi Bi.sorted [Ex.comp [12, 15, 16] [15, 16] true 3 [Ex.loc 2] none (Ex.tup [(Ex.loc 16).idx (Ex.con (T.int 0)), Ex.loc 15, Ex.loc 16])]] none (Ex.tup [(Ex.loc 16).idx (Ex.con (T.int 0)), Ex.tup [Ex.loc 15]]))) [Sm.ret (Ex.con (T.bl false))] [], Sm.ex (Ex.app 8 (Ex.con T.non)), Sm.ite ((Ex.cmp Cmp.ne (Ex.call 8 [] [Ex.loc 1, Ex.loc 2]) (Ex.loc 7)).tor (Ex.cmp Cmp.ne (Ex.bi Bi.repr [Ex.loc 2]) (Ex.loc 9))) [Sm.ret (Ex.con (T.bl false))] [], Sm.asg 10 (Ex.comp [12, 14] [14] false 0 [Ex.loc 7] (some (Ex.cmp Cmp.gt (Ex.bi Bi.len [(Ex.loc 14).idx (Ex.con (T.int 1))]) (Ex.con (T.int 0)))) (Ex.loc 14)), Sm.ite ((Ex.cmp Cmp.eq (Ex.loc 10) (Ex.lst [])).tor (Ex.cmp Cmp.gt (Ex.bi Bi.len [Ex.loc 2]) (Ex.con (T.int 6)))) [Sm.ret (Ex.con (T.bl true))] [], Sm.unp [Tg.nm 11, Tg.nm 6] (Ex.call 11 [] [Ex.loc 0, Ex.loc 10]), Sm.ret (Ex.call 14 [] [Ex.loc 1, Ex.bin Bin.add (Ex.loc 2) (Ex.lst [Ex.tup [((Ex.loc 2).idx ((Ex.loc 6).idx (Ex.con (T.int 1)).neg)).idx (Ex.con (T.int 1)), Ex.loc 11]])])]
def c16 : List Sm := [Sm.ret (Ex.bi Bi.all [Ex.comp [1, 2] [2] false 1 [Ex.bi Bi.max2 [Ex.con (T.int 1), Ex.bi Bi.min2 [Ex.con (T.int 3), Ex.bi Bi.len [Ex.loc 0]]]] none (Ex.call1 15 (Ex.call 9 [] [Ex.loc 0, Ex.loc 2]))])]
def nms : List (List Str) := [["value"], ["value"]]
def pg : Pg := ⟨[⟨1, [Md.val], c0⟩, ⟨1, [Md.val], c1⟩, ⟨1, [Md.val], c2⟩, ⟨4, [Md.val, Md.val], c3⟩, ⟨8, [Md.val, Md.val], c4⟩, ⟨4, [Md.val, Md.val], c5⟩, ⟨4, [Md.val, Md.val], c6⟩, ⟨12, [Md.val, Md.val], c7⟩, ⟨2, [Md.val, Md.val], c8⟩, ⟨3, [Md.val, Md.val], c9⟩, ⟨3, [Md.chg, Md.val], c10⟩, ⟨2, [Md.chg, Md.val], c11⟩, ⟨7, [Md.val, Md.val], c12⟩, ⟨7, [Md.chg], c13⟩, ⟨3, [Md.val, Md.val], c14⟩, ⟨17, [Md.chg], c15⟩, ⟨3, [Md.val], c16⟩], subOf 2, fun c => nms.getD c [], fun _ _ => none, fun _ _ => none, fun _ => none, fun _ => 0⟩
def R : Prg := { pg := pg, defs := ds, bts := bts, consts := consts, errs := errs, n0 := 60, n := 60, L := 4000 }
theorem k0 : codeOf 0 = some c0 := by kernel_rfl
theorem m0 : ((ds[0]?).map fun D => (D.md, D.N.length)) = some ([Md.val], 1) := by kernel_rfl
theorem k1 : codeOf 1 = some c1 := by kernel_rfl
theorem m1 : ((ds[1]?).map fun D => (D.md, D.N.length)) = some ([Md.val], 1) := by kernel_rfl
theorem k2 : codeOf 2 = some c2 := by kernel_rfl
theorem m2 : ((ds[2]?).map fun D => (D.md, D.N.length)) = some ([Md.val], 1) := by kernel_rfl
theorem k3 : codeOf 3 = some c3 := by kernel_rfl
theorem m3 : ((ds[3]?).map fun D => (D.md, D.N.length)) = some ([Md.val, Md.val], 4) := by kernel_rfl
theorem k4 : codeOf 4 = some c4 := by kernel_rfl
theorem m4 : ((ds[4]?).map fun D => (D.md, D.N.length)) = some ([Md.val, Md.val], 8) := by kernel_rfl
theorem k5 : codeOf 5 = some c5 := by kernel_rfl
theorem m5 : ((ds[5]?).map fun D => (D.md, D.N.length)) = some ([Md.val, Md.val], 4) := by kernel_rfl
theorem k6 : codeOf 6 = some c6 := by kernel_rfl
theorem m6 : ((ds[6]?).map fun D => (D.md, D.N.length)) = some ([Md.val, Md.val], 4) := by kernel_rfl
theorem k7 : codeOf 7 = some c7 := by kernel_rfl
theorem m7 : ((ds[7]?).map fun D => (D.md, D.N.length)) = some ([Md.val, Md.val], 12) := by kernel_rfl
theorem k8 : codeOf 8 = some c8 := by kernel_rfl
theorem m8 : ((ds[8]?).map fun D => (D.md, D.N.length)) = some ([Md.val, Md.val], 2) := by kernel_rfl
theorem k9 : codeOf 9 = some c9 := by kernel_rfl
theorem m9 : ((ds[9]?).map fun D => (D.md, D.N.length)) = some ([Md.val, Md.val], 3) := by kernel_rfl
theorem k10 : codeOf 10 = some c10 := by kernel_rfl
theorem m10 : ((ds[10]?).map fun D => (D.md, D.N.length)) = some ([Md.chg, Md.val], 3) := by kernel_rfl
theorem k11 : codeOf 11 = some c11 := by kernel_rfl
theorem m11 : ((ds[11]?).map fun D => (D.md, D.N.length)) = some ([Md.chg, Md.val], 2) := by kernel_rfl
theorem k12 : codeOf 12 = some c12 := by kernel_rfl
theorem m12 : ((ds[12]?).map fun D => (D.md, D.N.length)) = some ([Md.val, Md.val], 7) := by kernel_rfl
theorem k13 : codeOf 13 = some c13 := by kernel_rfl
theorem m13 : ((ds[13]?).map fun D => (D.md, D.N.length)) = some ([Md.chg], 7) := by kernel_rfl
theorem k14 : codeOf 14 = some c14 := by kernel_rfl
theorem m14 : ((ds[14]?).map fun D => (D.md, D.N.length)) = some ([Md.val, Md.val], 3) := by kernel_rfl
theorem k15 : codeOf 15 = some c15 := by kernel_rfl
theorem m15 : ((ds[15]?).map fun D => (D.md, D.N.length)) = some ([Md.chg], 17) := by kernel_rfl
theorem k16 : codeOf 16 = some c16 := by kernel_rfl
theorem m16 : ((ds[16]?).map fun D => (D.md, D.N.length)) = some ([Md.val], 3) := by kernel_rfl
theorem comp1 {i : Nat} {c : List Sm} {md : List Md} {n : Nat} (h1 : codeOf i = some c) (h2 : ((ds[i]?).map fun D => (D.md, D.N.length)) = some (md, n)) (h3 : pg.fns[i]? = some ⟨n, md, c⟩) (D : DefI) (hD : ds[i]? = some D) : ∃ fc, R.pg.fns[i]? = some fc ∧ fc.md = D.md ∧ fc.slots = D.N.length ∧ mapS (cS R.n0 R.n (ccOf R.fns R.bts R.consts R.errs D)) D.body = some fc.body := by
  refine ⟨_, h3, ?_, ?_, ?_⟩
  · rw [hD] at h2; cases h2; rfl
  · rw [hD] at h2; cases h2; rfl
  · unfold codeOf at h1; rw [hD] at h1; exact h1
theorem len_ds : ds.length = 17 := by kernel_rfl
theorem comp : R.Comp := by
  intro i D h
  have hi : i < 17 := by rw [← len_ds]; exact (List.getElem?_eq_some_iff.mp h).1
  match i, hi, h with
  | 0, _, h => exact comp1 k0 m0 rfl D h
  | 1, _, h => exact comp1 k1 m1 rfl D h
  | 2, _, h => exact comp1 k2 m2 rfl D h
  | 3, _, h => exact comp1 k3 m3 rfl D h
  | 4, _, h => exact comp1 k4 m4 rfl D h
  | 5, _, h => exact comp1 k5 m5 rfl D h
  | 6, _, h => exact comp1 k6 m6 rfl D h
  | 7, _, h => exact comp1 k7 m7 rfl D h
  | 8, _, h => exact comp1 k8 m8 rfl D h
  | 9, _, h => exact comp1 k9 m9 rfl D h
  | 10, _, h => exact comp1 k10 m10 rfl D h
  | 11, _, h => exact comp1 k11 m11 rfl D h
  | 12, _, h => exact comp1 k12 m12 rfl D h
  | 13, _, h => exact comp1 k13 m13 rfl D h
  | 14, _, h => exact comp1 k14 m14 rfl D h
  | 15, _, h => exact comp1 k15 m15 rfl D h
  | 16, _, h => exact comp1 k16 m16 rfl D h
  | n + 17, hi, _ => exact absurd hi (by omega)
end K85

set_option Elab.async false
set_option linter.all false
set_option maxRecDepth 1000000
set_option maxHeartbeats 0
namespace K85
open PV PySem PySem.Spec PyProof.Rows L2
/-- what a def's text gives -/
structure DefT (D : DefI) : Prop where
  sc : FnScope D.N D.ps D.scope
  len : D.ps.length = D.md.length
  one : oneMut D.md
  bd : ∀ (kV doc pm : Value) (an : Option Addr) (cdv ct : Value) (us : List Value), us.length = D.ps.length → bindArgs (PySem.W.fnOf D.x D.qual D.params D.body D.scope .none kV doc pm an cdv ct) ⟨us, []⟩ = pure (D.ps.zip us)
  kb : ∀ q ∈ D.kws, ∀ (kV doc pm : Value) (an : Option Addr) (cdv ct : Value) (us ws : List Value), us.length = q.1 → ws.length = q.2.length → bindArgs (PySem.W.fnOf D.x D.qual D.params D.body D.scope .none kV doc pm an cdv ct) ⟨us, q.2.zip ws⟩ = pure (D.ps.zip ((ordOf D.ps q.1 q.2).filterMap fun i => (us ++ ws)[i]?))
theorem one_of : ∀ {md : List Md}, (md.filter fun m => decide (m = .chg)).length ≤ 1 → oneMut md
  | [], _ => fun i j h => by simp at h
  | m :: ms, h => by
    intro i j hi hj
    rw [List.filter_cons] at h
    split at h
    · rename_i e
      have z : ms.filter (fun m => decide (m = .chg)) = [] := List.length_eq_zero_iff.mp (by simpa using h)
      have none : ∀ k, ms[k]? ≠ some Md.chg := fun k hk => by
        have m1 : Md.chg ∈ ms.filter fun m => decide (m = .chg) := List.mem_filter.mpr ⟨List.mem_of_getElem? hk, by decide⟩
        rw [z] at m1; cases m1
      cases i with
      | succ i => exact absurd (by simpa using hi) (none i)
      | zero =>
        cases j with
        | succ j => exact absurd (by simpa using hj) (none j)
        | zero => rfl
    · rename_i e
      have ne : m ≠ .chg := fun z => e (by simp [z])
      cases i with
      | zero => simp at hi; exact absurd hi ne
      | succ i =>
        cases j with
        | zero => simp at hj; exact absurd hj ne
        | succ j => exact congrArg Nat.succ (one_of h i j (by simpa using hi) (by simpa using hj))
theorem t0 : ∃ D, ds[0]? = some D ∧ DefT D := ⟨_, rfl, { sc := ⟨rfl, rfl, rfl, by decide +kernel, rfl, by decide +kernel, by decide +kernel⟩, len := rfl, one := one_of (by decide +kernel), bd := fun _ _ _ _ _ _ us hl => match us, hl with | [_], _ => rfl, kb := fun q hq => (nomatch (show q ∈ ([] : List (Nat × List Str)) from hq)) }⟩
theorem t1 : ∃ D, ds[1]? = some D ∧ DefT D := ⟨_, rfl, { sc := ⟨rfl, rfl, rfl, by decide +kernel, rfl, by decide +kernel, by decide +kernel⟩, len := rfl, one := one_of (by decide +kernel), bd := fun _ _ _ _ _ _ us hl => match us, hl with | [_], _ => rfl, kb := fun q hq => (nomatch (show q ∈ ([] : List (Nat × List Str)) from hq)) }⟩
theorem t2 : ∃ D, ds[2]? = some D ∧ DefT D := ⟨_, rfl, { sc := ⟨rfl, rfl, rfl, by decide +kernel, rfl, by decide +kernel, by decide +kernel⟩, len := rfl, one := one_of (by decide +kernel), bd := fun _ _ _ _ _ _ us hl => match us, hl with | [_], _ => rfl, kb := fun q hq => (nomatch (show q ∈ ([] : List (Nat × List Str)) from hq)) }⟩
theorem t3 : ∃ D, ds[3]? = some D ∧ DefT D := ⟨_, rfl, { sc := ⟨rfl, rfl, rfl, by decide +kernel, rfl, by decide +kernel, by decide +kernel⟩, len := rfl, one := one_of (by decide +kernel), bd := fun _ _ _ _ _ _ us hl => match us, hl with | [_, _], _ => rfl, kb := fun q hq => (nomatch (show q ∈ ([] : List (Nat × List Str)) from hq)) }⟩
theorem t4 : ∃ D, ds[4]? = some D ∧ DefT D := ⟨_, rfl, { sc := ⟨rfl, rfl, rfl, by decide +kernel, rfl, by decide +kernel, by decide +kernel⟩, len := rfl, one := one_of (by decide +kernel), bd := fun _ _ _ _ _ _ us hl => match us, hl with | [_, _], _ => rfl, kb := fun q hq => (nomatch (show q ∈ ([] : List (Nat × List Str)) from hq)) }⟩
theorem t5 : ∃ D, ds[5]? = some D ∧ DefT D := ⟨_, rfl, { sc := ⟨rfl, rfl, rfl, by decide +kernel, rfl, by decide +kernel, by decide +kernel⟩, len := rfl, one := one_of (by decide +kernel), bd := fun _ _ _ _ _ _ us hl => match us, hl with | [_, _], _ => rfl, kb := fun q hq => (nomatch (show q ∈ ([] : List (Nat × List Str)) from hq)) }⟩
theorem t6 : ∃ D, ds[6]? = some D ∧ DefT D := ⟨_, rfl, { sc := ⟨rfl, rfl, rfl, by decide +kernel, rfl, by decide +kernel, by decide +kernel⟩, len := rfl, one := one_of (by decide +kernel), bd := fun _ _ _ _ _ _ us hl => match us, hl with | [_, _], _ => rfl, kb := fun q hq => (nomatch (show q ∈ ([] : List (Nat × List Str)) from hq)) }⟩
theorem t7 : ∃ D, ds[7]? = some D ∧ DefT D := ⟨_, rfl, { sc := ⟨rfl, rfl, rfl, by decide +kernel, rfl, by decide +kernel, by decide +kernel⟩, len := rfl, one := one_of (by decide +kernel), bd := fun _ _ _ _ _ _ us hl => match us, hl with | [_, _], _ => rfl, kb := fun q hq => (nomatch (show q ∈ ([] : List (Nat × List Str)) from hq)) }⟩
theorem t8 : ∃ D, ds[8]? = some D ∧ DefT D := by
    refine ⟨_, rfl, { sc := ⟨rfl, rfl, rfl, by decide +kernel, rfl, by decide +kernel, by decide +kernel⟩, len := rfl, one := one_of (by decide +kernel), bd := fun _ _ _ _ _ _ us hl => match us, hl with | [_, _], _ => rfl, kb := ?_ }⟩
    intro q hq kV doc pm an cdv ct us ws h1 h2
    have hq2 : q ∈ ([(0, ["arrows", "places"])] : List (Nat × List Str)) := hq
    simp only [List.mem_cons, List.not_mem_nil, or_false] at hq2
    subst hq2
    match us, ws, h1, h2 with
    | [], [_, _], _, _ => rfl
theorem t9 : ∃ D, ds[9]? = some D ∧ DefT D := ⟨_, rfl, { sc := ⟨rfl, rfl, rfl, by decide +kernel, rfl, by decide +kernel, by decide +kernel⟩, len := rfl, one := one_of (by decide +kernel), bd := fun _ _ _ _ _ _ us hl => match us, hl with | [_, _], _ => rfl, kb := fun q hq => (nomatch (show q ∈ ([] : List (Nat × List Str)) from hq)) }⟩
theorem t10 : ∃ D, ds[10]? = some D ∧ DefT D := ⟨_, rfl, { sc := ⟨rfl, rfl, rfl, by decide +kernel, rfl, by decide +kernel, by decide +kernel⟩, len := rfl, one := one_of (by decide +kernel), bd := fun _ _ _ _ _ _ us hl => match us, hl with | [_, _], _ => rfl, kb := fun q hq => (nomatch (show q ∈ ([] : List (Nat × List Str)) from hq)) }⟩
theorem t11 : ∃ D, ds[11]? = some D ∧ DefT D := ⟨_, rfl, { sc := ⟨rfl, rfl, rfl, by decide +kernel, rfl, by decide +kernel, by decide +kernel⟩, len := rfl, one := one_of (by decide +kernel), bd := fun _ _ _ _ _ _ us hl => match us, hl with | [_, _], _ => rfl, kb := fun q hq => (nomatch (show q ∈ ([] : List (Nat × List Str)) from hq)) }⟩
theorem t12 : ∃ D, ds[12]? = some D ∧ DefT D := ⟨_, rfl, { sc := ⟨rfl, rfl, rfl, by decide +kernel, rfl, by decide +kernel, by decide +kernel⟩, len := rfl, one := one_of (by decide +kernel), bd := fun _ _ _ _ _ _ us hl => match us, hl with | [_, _], _ => rfl, kb := fun q hq => (nomatch (show q ∈ ([] : List (Nat × List Str)) from hq)) }⟩
theorem t13 : ∃ D, ds[13]? = some D ∧ DefT D := ⟨_, rfl, { sc := ⟨rfl, rfl, rfl, by decide +kernel, rfl, by decide +kernel, by decide +kernel⟩, len := rfl, one := one_of (by decide +kernel), bd := fun _ _ _ _ _ _ us hl => match us, hl with | [_], _ => rfl, kb := fun q hq => (nomatch (show q ∈ ([] : List (Nat × List Str)) from hq)) }⟩
theorem t14 : ∃ D, ds[14]? = some D ∧ DefT D := ⟨_, rfl, { sc := ⟨rfl, rfl, rfl, by decide +kernel, rfl, by decide +kernel, by decide +kernel⟩, len := rfl, one := one_of (by decide +kernel), bd := fun _ _ _ _ _ _ us hl => match us, hl with | [_, _], _ => rfl, kb := fun q hq => (nomatch (show q ∈ ([] : List (Nat × List Str)) from hq)) }⟩
theorem t15 : ∃ D, ds[15]? = some D ∧ DefT D := ⟨_, rfl, { sc := ⟨rfl, rfl, rfl, by decide +kernel, rfl, by decide +kernel, by decide +kernel⟩, len := rfl, one := one_of (by decide +kernel), bd := fun _ _ _ _ _ _ us hl => match us, hl with | [_], _ => rfl, kb := fun q hq => (nomatch (show q ∈ ([] : List (Nat × List Str)) from hq)) }⟩
theorem t16 : ∃ D, ds[16]? = some D ∧ DefT D := ⟨_, rfl, { sc := ⟨rfl, rfl, rfl, by decide +kernel, rfl, by decide +kernel, by decide +kernel⟩, len := rfl, one := one_of (by decide +kernel), bd := fun _ _ _ _ _ _ us hl => match us, hl with | [_], _ => rfl, kb := fun q hq => (nomatch (show q ∈ ([] : List (Nat × List Str)) from hq)) }⟩
theorem te0 : ∃ e, es[0]? = some e ∧ ErrT e := ⟨_, rfl, { at_ := rfl, dfl := rfl, kwd := rfl, sc := ⟨rfl, rfl, rfl, by decide +kernel, rfl, by decide +kernel, by decide +kernel⟩, ini := by kernel_rfl, len := rfl, pos := by decide +kernel, few := by decide +kernel, nd := by decide +kernel, bd := fun _ _ _ _ _ _ us hl => match us, hl with | [_, _], _ => rfl }⟩
theorem te1 : ∃ e, es[1]? = some e ∧ ErrT e := ⟨_, rfl, { at_ := rfl, dfl := rfl, kwd := rfl, sc := ⟨rfl, rfl, rfl, by decide +kernel, rfl, by decide +kernel, by decide +kernel⟩, ini := by kernel_rfl, len := rfl, pos := by decide +kernel, few := by decide +kernel, nd := by decide +kernel, bd := fun _ _ _ _ _ _ us hl => match us, hl with | [_, _], _ => rfl }⟩
theorem len_es : es.length = 2 := by kernel_rfl
theorem nms_es : es.map (·.nm) = nms := by kernel_rfl
theorem errs_es : errsN es = errs := by kernel_rfl
theorem textsE (e : ErrI) (h : e ∈ es) : ErrT e := by
  obtain ⟨i, h⟩ := List.getElem?_of_mem h
  have hi : i < 2 := by rw [← len_es]; exact (List.getElem?_eq_some_iff.mp h).1
  have fin : ∀ {i : Nat}, (∃ e, es[i]? = some e ∧ ErrT e) → es[i]? = some e → ErrT e := fun ⟨D1, e1, t⟩ e2 => by rw [e1] at e2; cases e2; exact t
  match i, hi, h with
  | 0, _, h => exact fin te0 h
  | 1, _, h => exact fin te1 h
  | n + 2, hi, _ => exact absurd hi (by omega)
theorem texts (D : DefI) (h : D ∈ ds) : DefT D := by
  obtain ⟨i, h⟩ := List.getElem?_of_mem h
  have hi : i < 17 := by rw [← len_ds]; exact (List.getElem?_eq_some_iff.mp h).1
  have fin : ∀ {i : Nat}, (∃ D, ds[i]? = some D ∧ DefT D) → ds[i]? = some D → DefT D := fun ⟨D1, e1, t⟩ e2 => by rw [e1] at e2; cases e2; exact t
  match i, hi, h with
  | 0, _, h => exact fin t0 h
  | 1, _, h => exact fin t1 h
  | 2, _, h => exact fin t2 h
  | 3, _, h => exact fin t3 h
  | 4, _, h => exact fin t4 h
  | 5, _, h => exact fin t5 h
  | 6, _, h => exact fin t6 h
  | 7, _, h => exact fin t7 h
  | 8, _, h => exact fin t8 h
  | 9, _, h => exact fin t9 h
  | 10, _, h => exact fin t10 h
  | 11, _, h => exact fin t11 h
  | 12, _, h => exact fin t12 h
  | 13, _, h => exact fin t13 h
  | 14, _, h => exact fin t14 h
  | 15, _, h => exact fin t15 h
  | 16, _, h => exact fin t16 h
  | n + 17, hi, _ => exact absurd hi (by omega)
def fn : List He.DefD := (ds.map fun D => ⟨(D.x, none), D.x, D.qual, D.params, D.body, D.scope, [], []⟩) ++ es.map (·.D)
def fa : List He.Fa := (ds.map fun D => He.Fa.glo D.x) ++ (bts.map He.Fa.free ++ consts.map fun q => He.Fa.int q.1 q.2)
abbrev Rw : PySem.W.OpenRow := PySem.W.OpenLaw.row PySem.Challenge.rw_producttables_k85_whole_paths_listed
abbrev hk : PySem.W.Hook := hookP 5 fa fn (exB es)
def ob (s : PySem.W.SharedT) : AlP := obsP 5 fa fn (exB es) (HandSHeadRun.getT s)
theorem ob_eq (s : PySem.W.SharedT) : ob s = hk.obs s.abs := obsP_eq (HandSHeadRun.getT_eq s)
def names0 : List Str := ["MixError", "InvalidMany", "InvalidWeb", "is_integer", "is_count", "is_list", "MOST_PLACES", "MOST_ARROWS", "is_arrow", "has_ring", "want_web", "end_of", "paths_in", "paths", "_law_pot", "_law_draw", "_law_pick", "_law_from", "_law_web", "_law_is_refused"]
def names1 : List Str := ["_law_right"]
def names : List Str := names0 ++ names1
theorem run (w : World) : HandSHeadRun.RunEq Rw (PySem.W.view Rw.prog [25]) hk ob 3000 names w := by
  intro os
  kernel_rfl
theorem deft {K : PySem.W.Frag} {h : Heap} {mg : Str → Option Value} (X : K.In h) (G : h.Ns mainGlobals mg) (c : He.SaysD fa fn K) : ∀ D ∈ R.defs, DefOk K mg D := by
  intro D hD
  have t := texts D hD
  obtain ⟨fd, F⟩ := c.defs (d := ⟨(D.x, none), D.x, D.qual, D.params, D.body, D.scope, [], []⟩) (List.mem_append_left _ (List.mem_map.mpr ⟨D, hD, rfl⟩))
  have g := He.glo_ok X G (c.facts (f := .glo D.x) (List.mem_append_left _ (List.mem_map.mpr ⟨D, hD, rfl⟩)))
  refine ⟨⟨_, fd, F, g, FunD.bindsN F t.bd, fun q hq s us ws h1 h2 hK => ?_⟩, t.sc, t.len, t.one⟩
  obtain ⟨_, _, dV, kV, doc, pm, an, cdv, ct, _, rfl, _, _, hD2, _⟩ := F.ex
  rcases hD2 with ⟨_, rfl⟩ | ⟨e, _⟩
  · exact .of_eq (t.kb q hq kV doc pm an cdv ct us ws h1 h2)
  · exact absurd rfl e
theorem ends {P : Program} {w : World} {K : PySem.W.Frag} {h : Heap} {mg : Str → Option Value} {f : Addr} {dep : Nat} (plain : ∀ ns : List Int, ns.length ≤ 63 → ∃ ms, Fd R.pg R.L R.n (dep + 1) 16 [.t (.scr ns)] = .ok (.t (.bl true)) ms) (X : K.In h) (G : h.Ns mainGlobals mg) (hfa : mg ("law" : Str) = some (.ref f)) (c : He.SaysD fa fn K) (cx : exB es K = true) :
    ∃ (fd : FuncData) (sp : Sp), (∀ (s : Shared) (v : Value), BindsTo s fd ⟨[v], []⟩ [("_law_script", v)]) ∧ (∀ (H : Hp) (a : Addr) (ns : List Int), ns.length ≤ 63 → Only H → SqL K H a (ns.map V.int) → sp [.ref a] H (fun v _ => v = .bl true) fun _ _ _ => False) ∧
      ∀ base : Heap, K.In base → base.Ns mainGlobals mg → FnG P w K mg base (L2.CX P w) (dep + 3) f fd ["_law_script"] sp := by
  have hall := deft X G c
  obtain ⟨D, hD, t⟩ := t16
  have hx : D.x = ("law" : Str) ∧ D.ps = (["_law_script"] : List Str) ∧ D.md = [.val] := by
    have e : ((ds[16]?).map fun D => (D.x, D.ps, D.md)) = some (("law" : Str), (["_law_script"] : List Str), [Md.val]) := by kernel_rfl
    rw [hD] at e
    injection e with e
    injection e with e1 e
    injection e with e2 e3
    exact ⟨e1, e2, e3⟩
  obtain ⟨fa', fd, F, g, b, _⟩ := (hall D (List.mem_of_getElem? hD)).ex
  rw [hx.1, hfa] at g
  cases g
  refine ⟨fd, SpF K (gaOf es K) (Fd R.pg R.L R.n (dep + 1)) [.val] 16, fun s v => ?_, fun H a ns hl hO hS => ?_, fun base hb hg => ?_⟩
  · have z := FunD.bindsA (ps := D.ps) F t.bd s [v] (by rw [hx.2.1]; rfl)
    rw [hx.2.1] at z
    exact z
  · obtain ⟨ms, e⟩ := plain ns hl
    exact law_sp hO hS e
  · have z := fun_top (P := P) (w := w) (K := K) (mg := mg) (base := base) (G := gaOf es K) comp hall (fun x hx => He.free_ok X G (c.facts (f := .free x) (List.mem_append_right _ (List.mem_append_left _ (List.mem_map.mpr ⟨x, hx, rfl⟩)))))
      (fun q hq => He.int_ok X G (c.facts (f := .int q.1 q.2) (List.mem_append_right _ (List.mem_append_right _ (List.mem_map.mpr ⟨q, hq, rfl⟩)))))
      (by have z := errs_ok (P := P) (w := w) (base := base) (pg := pg) X G cx (fun e he => c.defs (d := e.D) (List.mem_append_right _ (List.mem_map.mpr ⟨e, he, rfl⟩))) textsE (by rw [len_es]; rfl) (fun i => by rw [nms_es]; rfl); rw [errs_es] at z; exact z) dep 16 D hD F
    rw [hx.2.1, hx.2.2] at z
    exact z
end K85

set_option Elab.async false
set_option linter.all false
set_option maxRecDepth 100000
set_option maxHeartbeats 1000000
/-! PV, plain reckoning: the evaluator's steps as equations. -/
namespace PL
open PySem PV
section
variable {P : Pg} {F : Orc} {L n n0 : Nat} {ρ ρ0 : Rho}
theorem r_ok_bind {α β : Type} (a : α) (ρ : Rho) (f : α → Rho → R β) : R.bind (.ok a ρ) f = f a ρ := rfl
theorem r_bad_bind {α β : Type} (f : α → Rho → R β) : R.bind (.bad : R α) f = .bad := rfl
theorem rs_of_ok {α : Type} (a : α) (ρ : Rho) (f : α → Rho → RS) : RS.of (.ok a ρ) f = f a ρ := rfl
theorem ev_con (t : T) : ev P F L (n + 1) (.con t) ρ = .ok (.t t) ρ := rfl
theorem ev_loc (i : Nat) : ev P F L (n + 1) (.loc i) ρ = match frz ρ (.d i) with
      | some (t, ρ) => .ok (.t t) ρ
      | none => .bad := rfl
theorem ev_dk0 : ev P F L (n + 1) .dk0 ρ = .ok (.t (.dit [] [])) ρ := rfl
theorem ev_dk1 (k : Int) (e : Ex) : ev P F L (n + 1) (.dk1 k e) ρ = (evF (ev P F L n) e ρ).bind fun t ρ => .ok (.t (.dik [.inl k] [t])) ρ := rfl
theorem ev_lst (es : List Ex) : ev P F L (n + 1) (.lst es) ρ = (evOs (ev P F L n) es ρ).bind fun os ρ => match frzs ρ os with
      | some (ts, ρ) => if ts.length ≤ big then .ok (.f ts) ρ else .bad
      | none => .bad := rfl
theorem ev_tup (es : List Ex) : ev P F L (n + 1) (.tup es) ρ = (evOs (ev P F L n) es ρ).bind fun os ρ => match frzs ρ os with
      | some (ts, ρ) => if ts.length ≤ big then .ok (.t (.tup ts)) ρ else .bad
      | none => .bad := rfl
theorem ev_bin (o : Bin) (a b : Ex) : ev P F L (n + 1) (.bin o a b) ρ = (evOs (ev P F L n) [a, b] ρ).bind fun os ρ => match ress ρ os with
      | some [x, y] => ofA? (binT o x y) ρ
      | _ => .bad := rfl
theorem ev_neg (a : Ex) : ev P F L (n + 1) (.neg a) ρ = (evP (ev P F L n) a ρ).bind fun x ρ => match x with
      | .int i => .ok (.t (.int (-i))) ρ
      | _ => .bad := rfl
theorem ev_cmp (o : Cmp) (a b : Ex) : ev P F L (n + 1) (.cmp o a b) ρ = (evOs (ev P F L n) [a, b] ρ).bind fun os ρ => match ress ρ os with
      | some [x, y] => ofB (cmpT o x y) ρ
      | _ => .bad := rfl
theorem ev_chn (o p : Cmp) (a b c : Ex) : ev P F L (n + 1) (.chn o p a b c) ρ = (evOs (ev P F L n) [a, b] ρ).bind fun os ρ => match os with
      | [oa, ob] => match res ρ oa, res ρ ob with
        | some x, some y => match cmpT o x y with
          | some true => (evO (ev P F L n) c ρ).bind fun oc ρ => match res ρ ob, res ρ oc with
            | some y, some z => ofB (cmpT p y z) ρ
            | _, _ => .bad
          | some false => .ok (.t (.bl false)) ρ
          | none => .bad
        | _, _ => .bad
      | _ => .bad := rfl
theorem ev_and (a b : Ex) : ev P F L (n + 1) (.and_ a b) ρ = (evP (ev P F L n) a ρ).bind fun x ρ => match x with
      | .bl true => ev P F L n b ρ
      | .bl false => .ok (.t (.bl false)) ρ
      | _ => .bad := rfl
theorem ev_or (a b : Ex) : ev P F L (n + 1) (.or_ a b) ρ = (evP (ev P F L n) a ρ).bind fun x ρ => match x with
      | .bl true => .ok (.t (.bl true)) ρ
      | .bl false => ev P F L n b ρ
      | _ => .bad := rfl
theorem ev_tand (a b : Ex) : ev P F L (n + 1) (.tand a b) ρ = (evB (ev P F L n) a ρ).bind fun x ρ => match x with
      | true => (evB (ev P F L n) b ρ).bind fun y ρ => .ok (.t (.bl y)) ρ
      | false => .ok (.t (.bl false)) ρ := rfl
theorem ev_tor (a b : Ex) : ev P F L (n + 1) (.tor a b) ρ = (evB (ev P F L n) a ρ).bind fun x ρ => match x with
      | true => .ok (.t (.bl true)) ρ
      | false => (evB (ev P F L n) b ρ).bind fun y ρ => .ok (.t (.bl y)) ρ := rfl
theorem ev_not (a : Ex) : ev P F L (n + 1) (.not_ a) ρ = (evB (ev P F L n) a ρ).bind fun x ρ => .ok (.t (.bl (!x))) ρ := rfl
theorem ev_ite (c a b : Ex) : ev P F L (n + 1) (.ite c a b) ρ = (evB (ev P F L n) c ρ).bind fun x ρ => match x with
      | true => ev P F L n a ρ
      | false => ev P F L n b ρ := rfl
theorem ev_isn (neg : Bool) (a : Ex) : ev P F L (n + 1) (.isn neg a) ρ = (evP (ev P F L n) a ρ).bind fun x ρ => match x with
      | .non => .ok (.t (.bl (!neg))) ρ
      | _ => .ok (.t (.bl neg)) ρ := rfl
theorem ev_isb (neg : Bool) (a : Ex) (k : Bool) : ev P F L (n + 1) (.isb neg a k) ρ = (evP (ev P F L n) a ρ).bind fun x ρ => match x with
      | .bl j => .ok (.t (.bl (neg != (j == k)))) ρ
      | _ => .bad := rfl
theorem ev_isi (a : Ex) (ts : List Ty) : ev P F L (n + 1) (.isi a ts) ρ = (evP (ev P F L n) a ρ).bind fun x ρ => ofB (isiT x ts) ρ := rfl
theorem ev_call (f : Nat) (ps : List (Nat ⊕ T)) (es : List Ex) : ev P F L (n + 1) (.call f ps es) ρ = (evOs (ev P F L n) es ρ).bind fun os ρ => match (if ps.isEmpty then some os else place os ps), P.fns[f]? with
      | some os, some fc => callWith F f fc.md os ρ
      | _, _ => .bad := rfl
theorem ev_call1 (f : Nat) (e : Ex) : ev P F L (n + 1) (.call1 f e) ρ = (ev P F L n e ρ).bind fun a ρ => match P.fns[f]?, a with
      | some fc, .f xs => match fc.md with
        | [.chg] => match F f [.f xs] with
          | .ok r [_] => .ok r ρ
          | .exc c ts => .exc c ts ρ
          | _ => .bad
        | _ => .bad
      | _, _ => .bad := rfl
theorem ev_bi (b : Bi) (es : List Ex) : ev P F L (n + 1) (.bi b es) ρ = (evPs (ev P F L n) es ρ).bind fun ts ρ => ofA? (biT b ts) ρ := rfl
theorem ev_app (i : Nat) (e : Ex) : ev P F L (n + 1) (.app i e) ρ = match isOwn ρ i with
      | false => .bad
      | true => (evF (ev P F L n) e ρ).bind (appC i) := rfl
theorem ev_ext (i : Nat) (e : Ex) : ev P F L (n + 1) (.ext i e) ρ = match isOwn ρ i with
      | false => .bad
      | true => (evP (ev P F L n) e ρ).bind (extC i) := rfl
theorem ev_pop (i : Nat) : ev P F L (n + 1) (.pop i) ρ = popC i ρ := rfl
theorem ev_popA (i : Nat) (e : Ex) : ev P F L (n + 1) (.popA i e) ρ = match isOwn ρ i with
      | false => .bad
      | true => (evP (ev P F L n) e ρ).bind (popAC i) := rfl
theorem ev_idx (a i : Ex) : ev P F L (n + 1) (.idx a i) ρ = (evOs (ev P F L n) [a, i] ρ).bind fun os ρ => match ress ρ os with
      | some [x, y] => ofT (idxT x y) ρ
      | _ => .bad := rfl
theorem ev_ixof (a i : Ex) : ev P F L (n + 1) (.ixof a i) ρ = (evO (ev P F L n) a ρ).bind fun o ρ => match res ρ o with
      | some (.lst _) => (evP (ev P F L n) i ρ).bind fun y ρ => match res ρ o with
        | some x => ofT (ixofT x y) ρ
        | none => .bad
      | _ => .bad := rfl
theorem ev_slc (a : Ex) (lo hi : Option Ex) : ev P F L (n + 1) (.slc a lo hi) ρ = (evO (ev P F L n) a ρ).bind fun o ρ => (evS (ev P F L n) lo ρ).bind fun l ρ => (evS (ev P F L n) hi ρ).bind fun h ρ => match res ρ o with
      | some x => ofA? (cutT x l h) ρ
      | none => .bad := rfl
theorem ev_rev (a : Ex) : ev P F L (n + 1) (.rev a) ρ = (evP (ev P F L n) a ρ).bind fun x ρ => match x with
      | .lst xs => .ok (.f xs.reverse) ρ
      | _ => .bad := rfl
/-! ### statements -/
theorem exs_nil : exs P F L n0 (n + 1) [] ρ = .nx ρ := rfl
/-- a statement, then the rest -/
def _root_.PV.RS.nxt (x : RS) (k : Rho → RS) : RS := match x with
  | .nx ρ => k ρ
  | x => x
theorem nxt_nx (k : Rho → RS) : RS.nxt (.nx ρ) k = k ρ := rfl
theorem nxt_rt (a : A) (k : Rho → RS) : RS.nxt (.rt a ρ) k = .rt a ρ := rfl
theorem nxt_bk (k : Rho → RS) : RS.nxt (.bk ρ) k = .bk ρ := rfl
theorem nxt_ct (k : Rho → RS) : RS.nxt (.ct ρ) k = .ct ρ := rfl
variable {r : List Sm}
theorem exs_ex (e : Ex) : exs P F L n0 (n + 1) (.ex e :: r) ρ = (RS.of (ev P F L n0 e ρ) fun _ ρ => .nx ρ).nxt (exs P F L n0 n r) := by
  show (match (RS.of (ev P F L n0 e ρ) fun _ ρ => .nx ρ) with | .nx ρ => exs P F L n0 n r ρ | x => x) = _
  cases (RS.of (ev P F L n0 e ρ) fun _ ρ => .nx ρ) <;> rfl
theorem nxt_eq (x : RS) (k : Rho → RS) : (match x with | .nx ρ => k ρ | x => x) = x.nxt k := by cases x <;> rfl
theorem exs_retl (i : Nat) : exs P F L n0 (n + 1) (.ret (.loc i) :: r) ρ = (match ρ[i]? with
          | some (.o true xs) => .rt (.f xs) ρ
          | some (.v t) => .rt (.t t) ρ
          | _ => .bad : RS).nxt (exs P F L n0 n r) := (show _ = _ from by rw [← nxt_eq]; rfl)
theorem exs_ret (e : Ex) (h : ∀ i, e ≠ .loc i) : exs P F L n0 (n + 1) (.ret e :: r) ρ = (RS.of (ev P F L n0 e ρ) fun a ρ => .rt a ρ).nxt (exs P F L n0 n r) := by
  rw [← nxt_eq]
  cases e <;> first | rfl | exact absurd rfl (h _)
theorem exs_asg (i : Nat) (e : Ex) : exs P F L n0 (n + 1) (.asg i e :: r) ρ = (RS.of (ev P F L n0 e ρ) fun a ρ => .nx (store1 i a ρ)).nxt (exs P F L n0 n r) := by rw [← nxt_eq]; rfl
theorem exs_unp (ts : List Tg) (e : Ex) : exs P F L n0 (n + 1) (.unp ts e :: r) ρ = (RS.of (evF (ev P F L n0) e ρ) fun t ρ => match unpT t with
        | some xs => if xs.length = ts.length then RS.of (storeAll (ev P F L n0) ts xs ρ) fun _ ρ => .nx ρ else .bad
        | none => .bad).nxt (exs P F L n0 n r) := by rw [← nxt_eq]; rfl
theorem exs_par (i j : Nat) (a b : Ex) : exs P F L n0 (n + 1) (.par i j a b :: r) ρ = (RS.of (ev P F L n0 a ρ) fun x ρ => RS.of (ev P F L n0 b ρ) fun y ρ => .nx (store1 j y (store1 i x ρ))).nxt (exs P F L n0 n r) := by rw [← nxt_eq]; rfl
theorem exs_set (i : Nat) (k e : Ex) : exs P F L n0 (n + 1) (.set i k e :: r) ρ = (RS.of (evF (ev P F L n0) e ρ) fun t ρ => RS.of (storeAll (ev P F L n0) [.ix i k] [t] ρ) fun _ ρ => .nx ρ).nxt (exs P F L n0 n r) := by rw [← nxt_eq]; rfl
theorem exs_aug (i : Nat) (o : Bin) (e : Ex) : exs P F L n0 (n + 1) (.aug i o e :: r) ρ = (match (ρ[i]?).bind slotT with
        | some (.int a) => RS.of (evP (ev P F L n0) e ρ) fun t ρ => augC i o a t ρ
        | _ => .bad : RS).nxt (exs P F L n0 n r) := by rw [← nxt_eq]; rfl
theorem exs_ite (c : Ex) (a b : List Sm) : exs P F L n0 (n + 1) (.ite c a b :: r) ρ = (RS.of (evB (ev P F L n0) c ρ) fun x ρ => match x with
        | true => exs P F L n0 n a ρ
        | false => exs P F L n0 n b ρ).nxt (exs P F L n0 n r) := by rw [← nxt_eq]; rfl
theorem exs_whl (c : Ex) (b : List Sm) : exs P F L n0 (n + 1) (.whl c b :: r) ρ = (whlL (evB (ev P F L n0) c) (exs P F L n0 n b) L ρ).nxt (exs P F L n0 n r) := by rw [← nxt_eq]; rfl
theorem exs_for (tg : List Nat) (tp : Bool) (k : Nat) (its : List Ex) (b : List Sm) : exs P F L n0 (n + 1) (.for_ tg tp k its b :: r) ρ = (RS.of (evIf (ev P F L n0) k its ρ) fun iv ρ => forL (forTurn tg tp (exs P F L n0 n b)) iv L 0 ρ).nxt (exs P F L n0 n r) := by rw [← nxt_eq]; rfl
/-! ### loops -/
theorem compL_ok {turn : T → Rho → R (Option T)} {iv : Iv} {xs : List T} {g : T → Option T} (hx : ∀ i, turnAt ρ i iv = some (xs[i]?)) (ht : ∀ x ∈ xs, turn x ρ = .ok (g x) ρ) : ∀ (m i : Nat) (acc : List T), i ≤ xs.length → xs.length < m + i → acc.length + (xs.length - i) ≤ big →
    compL turn iv m i acc ρ = .ok (.f (acc ++ (xs.drop i).filterMap g)) ρ := by
  intro m
  induction m with
  | zero =>
    intro i acc h0 h1 _
    omega
  | succ m ih =>
    intro i acc h0 h1 h2
    unfold compL
    rw [hx i]
    cases e : xs[i]? with
    | none =>
      dsimp only
      rw [List.drop_eq_nil_of_le (List.getElem?_eq_none_iff.mp e)]
      simp
    | some x =>
      have hi := (List.getElem?_eq_some_iff.mp e).1
      have ex := (List.getElem?_eq_some_iff.mp e).2
      dsimp only
      rw [ht x (List.mem_of_getElem? e)]
      have hd : xs.drop i = x :: xs.drop (i + 1) := by rw [List.drop_eq_getElem_cons hi, ex]
      cases eg : g x with
      | none =>
        dsimp only
        rw [ih (i + 1) acc (by omega) (by omega) (by omega), hd, List.filterMap_cons, eg]
      | some y =>
        dsimp only
        rw [if_pos (by omega), ih (i + 1) (acc ++ [y]) (by omega) (by omega) (by rw [List.length_append, List.length_singleton]; omega), hd, List.filterMap_cons, eg]
        simp
theorem ev_comp_ok {own tg : List Nat} {tp : Bool} {k : Nat} {its : List Ex} {cond : Option Ex} {elt : Ex} {iv : Iv} {ρ1 : Rho} {xs : List T} {g : T → Option T} (hiv : evIv (ev P F L n) k its ρ = .ok iv ρ1) (hf : (ivFree own iv && plainSl own ρ1) = true) (hx : ∀ i, turnAt (wipeE ρ1 own) i iv = some (xs[i]?))
    (ht : ∀ x ∈ xs, compTurn (ev P F L n) own tg tp cond elt x (wipeE ρ1 own) = .ok (g x) (wipeE ρ1 own)) (hL : xs.length < L) (hb : xs.length ≤ big) : ev P F L (n + 1) (.comp own tg tp k its cond elt) ρ = .ok (.f (xs.filterMap g)) (backE ρ1 (wipeE ρ1 own) own) := by
  show (evIv (ev P F L n) k its ρ).bind _ = _
  rw [hiv]
  show (match ivFree own iv && plainSl own ρ1 with
      | false => (.bad : R A)
      | true => match compL (compTurn (ev P F L n) own tg tp cond elt) iv L 0 [] (wipeE ρ1 own) with
        | .ok a ρ => .ok a (backE ρ1 ρ own)
        | _ => .bad) = _
  rw [hf]
  dsimp only
  rw [compL_ok hx ht L 0 [] (Nat.zero_le _) (by omega) (by rw [List.length_nil]; omega)]
  rfl
theorem ev_comp_map {own tg : List Nat} {tp : Bool} {k : Nat} {its : List Ex} {cond : Option Ex} {elt : Ex} {iv : Iv} {ρ1 ρ2 : Rho} {xs : List T} (f : T → T) (hiv : evIv (ev P F L n) k its ρ = .ok iv ρ1) (hf : (ivFree own iv && plainSl own ρ1) = true) (hx : ∀ i, turnAt (wipeE ρ1 own) i iv = some (xs[i]?))
    (ht : ∀ x ∈ xs, compTurn (ev P F L n) own tg tp cond elt x (wipeE ρ1 own) = .ok (some (f x)) (wipeE ρ1 own)) (hL : xs.length < L) (hb : xs.length ≤ big) (h2 : backE ρ1 (wipeE ρ1 own) own = ρ2) : ev P F L (n + 1) (.comp own tg tp k its cond elt) ρ = .ok (.f (xs.map f)) ρ2 := by
  rw [ev_comp_ok (g := fun x => some (f x)) hiv hf hx ht hL hb, h2]
  congr 2
  simp
theorem evIf_x {ih : Ex → Rho → R A} {k : Nat} {its : List Ex} {t : T} {iv : Iv} (h : evOs ih its ρ = .ok [.x t] ρ) (hv : ivOf k ρ [.x t] = some iv) : evIf ih k its ρ = .ok iv ρ := by
  have e : evIf ih k its ρ = (evOs ih its ρ).bind (fun os ρ => match frzs ρ os with
    | some (ts, ρ) => (match ivOf k ρ (ts.map .x) with
      | some iv => .ok iv ρ
      | none => .bad)
    | none => .bad) := rfl
  rw [e, h]
  show (match ivOf k ρ [.x t] with | some iv => (.ok iv ρ : R Iv) | none => .bad) = _
  rw [hv]
theorem evIv_x {ih : Ex → Rho → R A} {k : Nat} {its : List Ex} {t : T} {iv : Iv} (h : evOs ih its ρ = .ok [.x t] ρ) (hv : ivOf k ρ [.x t] = some iv) : evIv ih k its ρ = .ok iv ρ := by
  have e : evIv ih k its ρ = (evOs ih its ρ).bind (fun os ρ => match ivOf k ρ os with
    | some iv => .ok iv ρ
    | none => .bad) := rfl
  rw [e, h]
  show (match ivOf k ρ [.x t] with | some iv => (.ok iv ρ : R Iv) | none => .bad) = _
  rw [hv]
theorem p62 : (2 : Int) ^ 62 = 4611686018427387904 := by decide
theorem iv_range {n : Nat} (h : n < 1000) : ivOf 1 ρ [.x (.int (n : Nat))] = some (.rg 0 n) := by
  unfold ivOf
  simp only [PV.res]
  have a : -(2 ^ 62) ≤ ((n : Nat) : Int) ∧ ((n : Nat) : Int) < 2 ^ 62 := by rw [p62]; omega
  rw [if_pos a, Int.toNat_natCast]
/-- a loop that goes on to its end -/
theorem forL_inv {turn : T → Rho → RS} {iv : Iv} {xs : List T} (I : Nat → Rho → Prop) (hx : ∀ i ρ, turnAt ρ i iv = some (xs[i]?)) (ht : ∀ i x ρ, xs[i]? = some x → I i ρ → ∃ ρ', turn x ρ = .nx ρ' ∧ I (i + 1) ρ') : ∀ (m i : Nat) (ρ : Rho), i ≤ xs.length → xs.length < m + i → I i ρ → ∃ ρ', forL turn iv m i ρ = .nx ρ' ∧ I xs.length ρ' := by
  intro m
  induction m with
  | zero => intro i ρ h0 h1; omega
  | succ m ih =>
    intro i ρ h0 h1 hI
    unfold forL
    rw [hx i]
    cases e : xs[i]? with
    | none =>
      have : i = xs.length := Nat.le_antisymm h0 (List.getElem?_eq_none_iff.mp e)
      subst this
      exact ⟨ρ, rfl, hI⟩
    | some x =>
      have hi := (List.getElem?_eq_some_iff.mp e).1
      obtain ⟨ρ1, e1, I1⟩ := ht i x ρ e hI
      dsimp only
      rw [e1]
      exact ih (i + 1) ρ1 (by omega) (by omega) I1
/-- a loop that looks at each item, and ends at the first that is not right; b: the slots but the target's -/
theorem forL_all {turn : T → Rho → RS} {iv : Iv} {xs : List T} {p : T → Bool} {a : A} (I : Rho → Prop) (hx : ∀ i ρ, turnAt ρ i iv = some (xs[i]?)) (ht : ∀ x ρ, x ∈ xs → I ρ → ∃ ρ', turn x ρ = (if p x then .nx ρ' else .rt a ρ') ∧ I ρ') : ∀ (m i : Nat) (ρ : Rho), i ≤ xs.length → xs.length < m + i → I ρ →
    ∃ ρ', forL turn iv m i ρ = (if (xs.drop i).all p then .nx ρ' else .rt a ρ') ∧ I ρ' := by
  intro m
  induction m with
  | zero => intro i ρ h0 h1; omega
  | succ m ih =>
    intro i ρ h0 h1 hI
    unfold forL
    rw [hx i]
    cases e : xs[i]? with
    | none =>
      rw [List.drop_eq_nil_of_le (List.getElem?_eq_none_iff.mp e)]
      exact ⟨ρ, rfl, hI⟩
    | some x =>
      have hi := (List.getElem?_eq_some_iff.mp e).1
      have ex := (List.getElem?_eq_some_iff.mp e).2
      obtain ⟨ρ1, e1, I1⟩ := ht x ρ (List.mem_of_getElem? e) hI
      have hd : xs.drop i = x :: xs.drop (i + 1) := by rw [List.drop_eq_getElem_cons hi, ex]
      dsimp only
      rw [e1, hd, List.all_cons]
      cases px : p x with
      | true =>
        obtain ⟨ρ2, e2, I2⟩ := ih (i + 1) ρ1 (by omega) (by omega) I1
        exact ⟨ρ2, by simpa using e2, I2⟩
      | false => exact ⟨ρ1, rfl, I1⟩
end
theorem big_le_0 : (0 ≤ big) = True := eq_true (by decide)
theorem big_le_1 : (1 ≤ big) = True := eq_true (by decide)
theorem big_le_2 : (2 ≤ big) = True := eq_true (by decide)
theorem big_le_3 : (3 ≤ big) = True := eq_true (by decide)
theorem big_le_4 : (4 ≤ big) = True := eq_true (by decide)
theorem big_le_5 : (5 ≤ big) = True := eq_true (by decide)
theorem big_le_6 : (6 ≤ big) = True := eq_true (by decide)
theorem big_le_7 : (7 ≤ big) = True := eq_true (by decide)
theorem big_le_8 : (8 ≤ big) = True := eq_true (by decide)
theorem big_le_9 : (9 ≤ big) = True := eq_true (by decide)
theorem big_le_10 : (10 ≤ big) = True := eq_true (by decide)
theorem big_le_11 : (11 ≤ big) = True := eq_true (by decide)
theorem big_le_12 : (12 ≤ big) = True := eq_true (by decide)
theorem big_le_13 : (13 ≤ big) = True := eq_true (by decide)
/-! ### calls of defs -/
theorem Fd_eq {P : Pg} {L n d f : Nat} {fc : Fc} {as : List A} (h : P.fns[f]? = some fc) : Fd P L n (d + 1) f as = runF P (Fd P L n d) L n fc as := by
  show (match P.fns[f]? with
    | some fc => runF P (Fd P L n d) L n fc as
    | none => .bad) = _
  rw [h]
theorem runF_rt {P : Pg} {F : Orc} {L n : Nat} {fc : Fc} {as : List A} {ρ0 ρ : Rho} {a : A} {ms : List (List T)} (h1 : startE fc.slots fc.md as = some ρ0) (h2 : exs P F L n n fc.body ρ0 = .rt a ρ) (h3 : mutsAt 0 fc.md ρ = some ms) : runF P F L n fc as = .ok a ms := by
  unfold runF
  rw [h1]
  show (match exs P F L n n fc.body ρ0 with
    | .nx ρ => endC fc (.t .non) ρ
    | .rt a ρ => endC fc a ρ
    | .exc c ts _ => .exc c ts
    | _ => .bad) = _
  rw [h2]
  show (match mutsAt 0 fc.md ρ with | some ms => CR.ok a ms | none => .bad) = _
  rw [h3]
theorem Fd_rt {P : Pg} {L n d f : Nat} {fc : Fc} {as : List A} {ρ0 ρ : Rho} {a : A} {ms : List (List T)} (h : P.fns[f]? = some fc) (h1 : startE fc.slots fc.md as = some ρ0) (h2 : exs P (Fd P L n d) L n n fc.body ρ0 = .rt a ρ) (h3 : mutsAt 0 fc.md ρ = some ms) : Fd P L n (d + 1) f as = .ok a ms := by
  rw [Fd_eq h]
  exact runF_rt h1 h2 h3
/-! ### ints -/
theorem eqTs_ints : ∀ a b : List Int, eqTs (a.map T.int) (b.map T.int) = decide (a = b)
  | [], [] => rfl
  | [], _ :: _ => rfl
  | _ :: _, [] => rfl
  | x :: a, y :: b => by
    show ((x == y) && eqTs (a.map T.int) (b.map T.int)) = _
    rw [eqTs_ints a b]
    by_cases h : x = y
    · subst h
      by_cases h2 : a = b
      · subst h2; simp
      · simp [h2]
    · simp [h]
theorem intsT_map : ∀ a : List Int, intsT (a.map T.int) = some a
  | [] => rfl
  | x :: a => by
    show (intsT (a.map T.int)).map (x :: ·) = _
    rw [intsT_map a]; rfl
theorem intsT_some : ∀ {xs : List T} {a : List Int}, intsT xs = some a → xs = a.map T.int
  | [], _, h => by cases h; rfl
  | .int i :: r, _, h => by
    obtain ⟨b, e1, e2⟩ := Option.map_eq_some_iff.mp (show (intsT r).map (i :: ·) = some _ from h)
    subst e2
    rw [intsT_some e1]; rfl
  | .non :: _, _, h => by cases h
  | .bl _ :: _, _, h => by cases h
  | .str _ :: _, _, h => by cases h
  | .lst _ :: _, _, h => by cases h
  | .tup _ :: _, _, h => by cases h
  | .ins _ _ :: _, _, h => by cases h
  | .scr _ :: _, _, h => by cases h
  | .dit _ _ :: _, _, h => by cases h
  | .dik _ _ :: _, _, h => by cases h
theorem insI_length (x : Int) : ∀ l : List Int, (insI x l).length = l.length + 1
  | [] => rfl
  | y :: ys => by
    unfold insI
    split
    · rfl
    · rw [List.length_cons, insI_length x ys]; rfl
theorem sortI_length : ∀ l : List Int, (sortI l).length = l.length
  | [] => rfl
  | x :: xs => by
    show (insI x (sortI xs)).length = _
    rw [insI_length, sortI_length xs]; rfl
theorem insI_perm' (x : Int) : ∀ l : List Int, (insI x l).Perm (x :: l)
  | [] => .refl _
  | y :: ys => by
    unfold insI
    split
    · exact .refl _
    · exact ((insI_perm' x ys).cons y).trans (.swap x y ys)
theorem sortI_perm' : ∀ l : List Int, (sortI l).Perm l
  | [] => .refl _
  | x :: xs => (insI_perm' x (sortI xs)).trans ((sortI_perm' xs).cons x)
def rng (n : Nat) : List Int := (List.range n).map fun (k : Nat) => (k : Int)
theorem rng_length (n : Nat) : (rng n).length = n := by simp [rng]
theorem mem_rng {n : Nat} {x : Int} : x ∈ rng n ↔ 0 ≤ x ∧ x < n := by
  unfold rng
  rw [List.mem_map]
  constructor
  · rintro ⟨k, h1, h2⟩
    rw [List.mem_range] at h1
    omega
  · rintro ⟨h1, h2⟩
    exact ⟨x.toNat, List.mem_range.mpr (by omega), by omega⟩
end PL

set_option Elab.async false
set_option linter.all false
set_option maxRecDepth 1000000
set_option maxHeartbeats 8000000
namespace K85
open PV PySem PL
abbrev Fo (d : Nat) : Orc := Fd pg 4000 60 d
def isI : T → Bool
  | .int _ => true
  | _ => false
def cnt : T → Bool
  | .int i => decide (0 ≤ i)
  | _ => false
/-- no instance, no script -/
def dat : T → Bool
  | .ins _ _ => false
  | .scr _ => false
  | _ => true
def seq? (v : T) : Bool := (itemsT v).isSome
theorem p0 : pg.fns[0]? = some ⟨1, [Md.val], c0⟩ := rfl
theorem p1 : pg.fns[1]? = some ⟨1, [Md.val], c1⟩ := rfl
theorem p2 : pg.fns[2]? = some ⟨1, [Md.val], c2⟩ := rfl
theorem p3 : pg.fns[3]? = some ⟨4, [Md.val, Md.val], c3⟩ := rfl
theorem p4 : pg.fns[4]? = some ⟨8, [Md.val, Md.val], c4⟩ := rfl
theorem p5 : pg.fns[5]? = some ⟨4, [Md.val, Md.val], c5⟩ := rfl
theorem p6 : pg.fns[6]? = some ⟨4, [Md.val, Md.val], c6⟩ := rfl
theorem p7 : pg.fns[7]? = some ⟨12, [Md.val, Md.val], c7⟩ := rfl
theorem p8 : pg.fns[8]? = some ⟨2, [Md.val, Md.val], c8⟩ := rfl
theorem p9 : pg.fns[9]? = some ⟨3, [Md.val, Md.val], c9⟩ := rfl
theorem p10 : pg.fns[10]? = some ⟨3, [Md.chg, Md.val], c10⟩ := rfl
theorem p11 : pg.fns[11]? = some ⟨2, [Md.chg, Md.val], c11⟩ := rfl
theorem p12 : pg.fns[12]? = some ⟨7, [Md.val, Md.val], c12⟩ := rfl
theorem p13 : pg.fns[13]? = some ⟨7, [Md.chg], c13⟩ := rfl
theorem p14 : pg.fns[14]? = some ⟨3, [Md.val, Md.val], c14⟩ := rfl
theorem p15 : pg.fns[15]? = some ⟨17, [Md.chg], c15⟩ := rfl
theorem p16 : pg.fns[16]? = some ⟨3, [Md.val], c16⟩ := rfl
theorem cmp_lt (i j : Int) : cmpT .lt (.int i) (.int j) = some (decide (i < j)) := rfl
theorem f0 (d : Nat) {v : T} (h : dat v = true) : Fo (d + 1) 0 [.t v] = .ok (.t (.bl (isI v))) [] := by
  cases v <;> first | rfl | cases h
theorem f2 (d : Nat) {v : T} (h : dat v = true) : Fo (d + 1) 2 [.t v] = .ok (.t (.bl (seq? v))) [] := by
  cases v <;> first | rfl | cases h
theorem f1 (d : Nat) {v : T} (h : dat v = true) : Fo (d + 2) 1 [.t v] = .ok (.t (.bl (cnt v))) [] := by
  have e : Fo (d + 2) 1 [.t v] = runF pg (Fo (d + 1)) 4000 60 ⟨1, [.val], c1⟩ [.t v] := rfl
  rw [e]
  unfold c1
  simp only [PL.ev_con, PL.ev_loc, PL.ev_dk0, PL.ev_dk1, PL.ev_lst, PL.ev_tup, PL.ev_bin, PL.ev_neg, PL.ev_cmp, PL.ev_chn, PL.ev_and, PL.ev_or, PL.ev_tand, PL.ev_tor, PL.ev_not, PL.ev_ite, PL.ev_isn, PL.ev_isb, PL.ev_isi, PL.ev_call, PL.ev_call1, PL.ev_bi, PL.ev_app, PL.ev_ext, PL.ev_pop, PL.ev_popA, PL.ev_idx, PL.ev_ixof, PL.ev_slc, PL.ev_rev, PV.evO, PV.evOs, PV.evP, PV.evPs, PV.evF, PV.evB, PV.evS, PL.r_ok_bind, PL.r_bad_bind, PL.rs_of_ok, PL.exs_nil, PL.exs_ex, PL.exs_retl, PL.exs_ret, PL.exs_asg, PL.exs_unp, PL.exs_par, PL.exs_set, PL.exs_aug, PL.exs_ite, PL.nxt_nx, PL.nxt_rt, PL.nxt_bk, PL.nxt_ct, PV.res, PV.ress, PV.frz, PV.frzs, PV.slotT, PV.ofA, PV.ofB, PV.ofT, PV.ofA?, PV.store1, PV.callWith, PV.argsOf, PV.argOf, PV.mutsOf, PV.lentOf, PV.isOwn, PV.putBack, PV.appC, PV.extC, PV.popC, PV.popAC, PV.setIx, PV.truth, PV.storeAll, PL.big_le_0, PL.big_le_1, PL.big_le_2, PL.big_le_3, PL.big_le_4, PL.big_le_5, PL.big_le_6, PL.big_le_7, PL.big_le_8, PL.big_le_9, PL.big_le_10, PL.big_le_11, PL.big_le_12, PL.big_le_13, PV.unpT, PV.compTurn, PV.bindTo, PV.setAll, PV.wipeE, PV.backE, PV.forTurn, PV.tupT, PV.startE, PV.slotOf, PV.endC, PV.mutsAt, PV.runF, List.getElem?_cons_zero, List.getElem?_cons_succ, List.getElem?_nil, Option.bind_some, Option.bind_none, Option.map_some, Option.map_none, List.set_cons_zero, List.set_cons_succ, List.isEmpty_nil, List.isEmpty_cons, if_true, if_false, List.replicate_succ, List.replicate_zero, List.length_cons, List.length_nil, Bool.not_true, Bool.not_false, Bool.and_true, Bool.and_false, Bool.true_and, Bool.false_and, reduceCtorEq, ne_eq, not_false_eq_true, implies_true, Bool.true_or, Bool.false_or, Bool.or_true, Bool.or_false, Nat.reduceAdd, Nat.reduceLeDiff, Nat.reduceSub, f0 d h, p0]
  cases v <;> rfl
/-! ### the pot -/
structure Pot (p : List T) : Prop where
  ex : ∃ a b : Int, p = [.int a, .int b] ∧ 0 ≤ a ∧ 0 ≤ b ∧ b < 4294967296
theorem log_small {i : Int} (h : i.natAbs < 2 ^ 200) : i.natAbs.log2 ≤ 200 := by
  by_cases h0 : i.natAbs = 0
  · rw [h0]; decide
  · exact Nat.le_of_lt ((Nat.log2_lt h0).mpr h)
theorem mul_ok {i j : Int} (h1 : i.natAbs < 2 ^ 200) (h2 : j.natAbs < 2 ^ 200) : binT .mul (.int i) (.int j) = some (.t (.int (i * j))) := by
  show (if okMul i j then some (A.t (.int (i * j))) else none) = _
  have := log_small h1
  have := log_small h2
  rw [if_pos (show okMul i j = true from decide_eq_true (by omega))]
theorem add_ok (i j : Int) : binT .add (.int i) (.int j) = some (.t (.int (i + j))) := rfl
theorem sub_ok (i j : Int) : binT .sub (.int i) (.int j) = some (.t (.int (i - j))) := rfl
theorem mod_ok {i j : Int} (h : 0 < j) : binT .mod (.int i) (.int j) = some (.t (.int (i % j))) := if_pos h
theorem fdiv11 (i : Int) : binT .fdiv (.int i) (.int 11) = some (.t (.int (i / 11))) := by
  show (if (0 : Int) < 11 ∧ (11 : Int).natAbs.log2 < 9000 then some (A.t (.int (i / 11))) else none) = _
  rw [if_pos (by decide)]
theorem int_ok (i : Int) : biT .int [.int i] = some (.t (.int i)) := rfl
theorem cmp_gt (i j : Int) : cmpT .gt (.int i) (.int j) = some (decide (j < i)) := rfl
theorem divmod_ok {i j : Int} (h : 0 < j ∧ j < 1073741824) : biT .divmod [.int i, .int j] = some (.t (.tup [.int (i / j), .int (i % j)])) := if_pos h
theorem idx_p0 (x y : T) : idxT (.lst [x, y]) (.int 0) = some x := rfl
theorem idx_p1 (x y : T) : idxT (.lst [x, y]) (.int 1) = some y := rfl
theorem ixN_0 : ixN 2 0 = some 0 := rfl
theorem ixN_1 : ixN 2 1 = some 1 := rfl
theorem small32 {b : Int} (h0 : 0 ≤ b) (h : b < 4294967296) : b.natAbs < 2 ^ 200 := Nat.lt_of_lt_of_le (show b.natAbs < 4294967296 by omega) (by decide)
theorem f10 (d n : Nat) {p : List T} (hp : Pot p) (h1 : 1 ≤ n) (h2 : n < 100000) : ∃ (r : Nat) (p' : List T), r < n ∧ Pot p' ∧ Fo (d + 1) 10 [.f p, .t (.int n)] = .ok (.t (.int r)) [p'] := by
  obtain ⟨a, b, rfl, ha, hb, hb2⟩ := hp.ex
  have e : Fo (d + 1) 10 [.f [.int a, .int b], .t (.int n)] = runF pg (Fo d) 4000 60 ⟨3, [.chg, .val], c10⟩ [.f [.int a, .int b], .t (.int n)] := rfl
  rw [e]
  unfold c10
  simp only [PL.ev_con, PL.ev_loc, PL.ev_dk0, PL.ev_dk1, PL.ev_lst, PL.ev_tup, PL.ev_bin, PL.ev_neg, PL.ev_cmp, PL.ev_chn, PL.ev_and, PL.ev_or, PL.ev_tand, PL.ev_tor, PL.ev_not, PL.ev_ite, PL.ev_isn, PL.ev_isb, PL.ev_isi, PL.ev_call, PL.ev_call1, PL.ev_bi, PL.ev_app, PL.ev_ext, PL.ev_pop, PL.ev_popA, PL.ev_idx, PL.ev_ixof, PL.ev_slc, PL.ev_rev, PV.evO, PV.evOs, PV.evP, PV.evPs, PV.evF, PV.evB, PV.evS, PL.r_ok_bind, PL.r_bad_bind, PL.rs_of_ok, PL.exs_nil, PL.exs_ex, PL.exs_retl, PL.exs_ret, PL.exs_asg, PL.exs_unp, PL.exs_par, PL.exs_set, PL.exs_aug, PL.exs_ite, PL.nxt_nx, PL.nxt_rt, PL.nxt_bk, PL.nxt_ct, PV.res, PV.ress, PV.frz, PV.frzs, PV.slotT, PV.ofA, PV.ofB, PV.ofT, PV.ofA?, PV.store1, PV.callWith, PV.argsOf, PV.argOf, PV.mutsOf, PV.lentOf, PV.isOwn, PV.putBack, PV.appC, PV.extC, PV.popC, PV.popAC, PV.setIx, PV.truth, PV.storeAll, PL.big_le_0, PL.big_le_1, PL.big_le_2, PL.big_le_3, PL.big_le_4, PL.big_le_5, PL.big_le_6, PL.big_le_7, PL.big_le_8, PL.big_le_9, PL.big_le_10, PL.big_le_11, PL.big_le_12, PL.big_le_13, PV.unpT, PV.compTurn, PV.bindTo, PV.setAll, PV.wipeE, PV.backE, PV.forTurn, PV.tupT, PV.startE, PV.slotOf, PV.endC, PV.mutsAt, PV.runF, List.getElem?_cons_zero, List.getElem?_cons_succ, List.getElem?_nil, Option.bind_some, Option.bind_none, Option.map_some, Option.map_none, List.set_cons_zero, List.set_cons_succ, List.isEmpty_nil, List.isEmpty_cons, if_true, if_false, List.replicate_succ, List.replicate_zero, List.length_cons, List.length_nil, Bool.not_true, Bool.not_false, Bool.and_true, Bool.and_false, Bool.true_and, Bool.false_and, reduceCtorEq, ne_eq, not_false_eq_true, implies_true, Bool.true_or, Bool.false_or, Bool.or_true, Bool.or_false, Nat.reduceAdd, Nat.reduceLeDiff, Nat.reduceSub, idx_p0, cmp_gt]
  cases h : decide (0 < a) with
  | true =>
    refine ⟨(a % n).toNat, [.int (a / n), .int b], ?_, ⟨_, _, rfl, ?_, hb, hb2⟩, ?_⟩
    · have := Int.emod_lt_of_pos a (show (0 : Int) < n by omega)
      have := Int.emod_nonneg a (show (n : Int) ≠ 0 by omega)
      omega
    · exact Int.ediv_nonneg ha (by omega)
    · have e2 : ((a % (n : Int)).toNat : Int) = a % n := Int.toNat_of_nonneg (Int.emod_nonneg a (by omega))
      simp only [PL.ev_con, PL.ev_loc, PL.ev_dk0, PL.ev_dk1, PL.ev_lst, PL.ev_tup, PL.ev_bin, PL.ev_neg, PL.ev_cmp, PL.ev_chn, PL.ev_and, PL.ev_or, PL.ev_tand, PL.ev_tor, PL.ev_not, PL.ev_ite, PL.ev_isn, PL.ev_isb, PL.ev_isi, PL.ev_call, PL.ev_call1, PL.ev_bi, PL.ev_app, PL.ev_ext, PL.ev_pop, PL.ev_popA, PL.ev_idx, PL.ev_ixof, PL.ev_slc, PL.ev_rev, PV.evO, PV.evOs, PV.evP, PV.evPs, PV.evF, PV.evB, PV.evS, PL.r_ok_bind, PL.r_bad_bind, PL.rs_of_ok, PL.exs_nil, PL.exs_ex, PL.exs_retl, PL.exs_ret, PL.exs_asg, PL.exs_unp, PL.exs_par, PL.exs_set, PL.exs_aug, PL.exs_ite, PL.nxt_nx, PL.nxt_rt, PL.nxt_bk, PL.nxt_ct, PV.res, PV.ress, PV.frz, PV.frzs, PV.slotT, PV.ofA, PV.ofB, PV.ofT, PV.ofA?, PV.store1, PV.callWith, PV.argsOf, PV.argOf, PV.mutsOf, PV.lentOf, PV.isOwn, PV.putBack, PV.appC, PV.extC, PV.popC, PV.popAC, PV.setIx, PV.truth, PV.storeAll, PL.big_le_0, PL.big_le_1, PL.big_le_2, PL.big_le_3, PL.big_le_4, PL.big_le_5, PL.big_le_6, PL.big_le_7, PL.big_le_8, PL.big_le_9, PL.big_le_10, PL.big_le_11, PL.big_le_12, PL.big_le_13, PV.unpT, PV.compTurn, PV.bindTo, PV.setAll, PV.wipeE, PV.backE, PV.forTurn, PV.tupT, PV.startE, PV.slotOf, PV.endC, PV.mutsAt, PV.runF, List.getElem?_cons_zero, List.getElem?_cons_succ, List.getElem?_nil, Option.bind_some, Option.bind_none, Option.map_some, Option.map_none, List.set_cons_zero, List.set_cons_succ, List.isEmpty_nil, List.isEmpty_cons, if_true, if_false, List.replicate_succ, List.replicate_zero, List.length_cons, List.length_nil, Bool.not_true, Bool.not_false, Bool.and_true, Bool.and_false, Bool.true_and, Bool.false_and, reduceCtorEq, ne_eq, not_false_eq_true, implies_true, Bool.true_or, Bool.false_or, Bool.or_true, Bool.or_false, Nat.reduceAdd, Nat.reduceLeDiff, Nat.reduceSub, idx_p0, divmod_ok (show (0 : Int) < n ∧ (n : Int) < 1073741824 by omega), ixN_0, e2]
  | false =>
    have q1 : (b * 39373 + 3011) % 2147483587 < 2147483587 := Int.emod_lt_of_pos _ (by decide)
    have q0 : 0 ≤ (b * 39373 + 3011) % 2147483587 := Int.emod_nonneg _ (by decide)
    have m1 := mul_ok (i := b) (j := 39373) (small32 hb hb2) (by decide)
    simp only [PL.ev_con, PL.ev_loc, PL.ev_dk0, PL.ev_dk1, PL.ev_lst, PL.ev_tup, PL.ev_bin, PL.ev_neg, PL.ev_cmp, PL.ev_chn, PL.ev_and, PL.ev_or, PL.ev_tand, PL.ev_tor, PL.ev_not, PL.ev_ite, PL.ev_isn, PL.ev_isb, PL.ev_isi, PL.ev_call, PL.ev_call1, PL.ev_bi, PL.ev_app, PL.ev_ext, PL.ev_pop, PL.ev_popA, PL.ev_idx, PL.ev_ixof, PL.ev_slc, PL.ev_rev, PV.evO, PV.evOs, PV.evP, PV.evPs, PV.evF, PV.evB, PV.evS, PL.r_ok_bind, PL.r_bad_bind, PL.rs_of_ok, PL.exs_nil, PL.exs_ex, PL.exs_retl, PL.exs_ret, PL.exs_asg, PL.exs_unp, PL.exs_par, PL.exs_set, PL.exs_aug, PL.exs_ite, PL.nxt_nx, PL.nxt_rt, PL.nxt_bk, PL.nxt_ct, PV.res, PV.ress, PV.frz, PV.frzs, PV.slotT, PV.ofA, PV.ofB, PV.ofT, PV.ofA?, PV.store1, PV.callWith, PV.argsOf, PV.argOf, PV.mutsOf, PV.lentOf, PV.isOwn, PV.putBack, PV.appC, PV.extC, PV.popC, PV.popAC, PV.setIx, PV.truth, PV.storeAll, PL.big_le_0, PL.big_le_1, PL.big_le_2, PL.big_le_3, PL.big_le_4, PL.big_le_5, PL.big_le_6, PL.big_le_7, PL.big_le_8, PL.big_le_9, PL.big_le_10, PL.big_le_11, PL.big_le_12, PL.big_le_13, PV.unpT, PV.compTurn, PV.bindTo, PV.setAll, PV.wipeE, PV.backE, PV.forTurn, PV.tupT, PV.startE, PV.slotOf, PV.endC, PV.mutsAt, PV.runF, List.getElem?_cons_zero, List.getElem?_cons_succ, List.getElem?_nil, Option.bind_some, Option.bind_none, Option.map_some, Option.map_none, List.set_cons_zero, List.set_cons_succ, List.isEmpty_nil, List.isEmpty_cons, if_true, if_false, List.replicate_succ, List.replicate_zero, List.length_cons, List.length_nil, Bool.not_true, Bool.not_false, Bool.and_true, Bool.and_false, Bool.true_and, Bool.false_and, reduceCtorEq, ne_eq, not_false_eq_true, implies_true, Bool.true_or, Bool.false_or, Bool.or_true, Bool.or_false, Nat.reduceAdd, Nat.reduceLeDiff, Nat.reduceSub, idx_p1, m1, add_ok, int_ok, mod_ok (show (0 : Int) < 2147483587 by decide), ixN_1]
    generalize (b * 39373 + 3011) % 2147483587 = c at q0 q1
    have m2 := mul_ok (i := c) (j := c) (small32 q0 (by omega)) (small32 q0 (by omega))
    have z1 := Int.emod_lt_of_pos (c * c % 2147483549 / 11) (show (0 : Int) < n by omega)
    have z0 := Int.emod_nonneg (c * c % 2147483549 / 11) (show (n : Int) ≠ 0 by omega)
    refine ⟨((c * c % 2147483549 / 11) % n).toNat, [.int a, .int c], by omega, ⟨_, _, rfl, ha, q0, by omega⟩, ?_⟩
    have e2 : (((c * c % 2147483549 / 11) % (n : Int)).toNat : Int) = (c * c % 2147483549 / 11) % n := Int.toNat_of_nonneg z0
    simp only [PL.ev_con, PL.ev_loc, PL.ev_dk0, PL.ev_dk1, PL.ev_lst, PL.ev_tup, PL.ev_bin, PL.ev_neg, PL.ev_cmp, PL.ev_chn, PL.ev_and, PL.ev_or, PL.ev_tand, PL.ev_tor, PL.ev_not, PL.ev_ite, PL.ev_isn, PL.ev_isb, PL.ev_isi, PL.ev_call, PL.ev_call1, PL.ev_bi, PL.ev_app, PL.ev_ext, PL.ev_pop, PL.ev_popA, PL.ev_idx, PL.ev_ixof, PL.ev_slc, PL.ev_rev, PV.evO, PV.evOs, PV.evP, PV.evPs, PV.evF, PV.evB, PV.evS, PL.r_ok_bind, PL.r_bad_bind, PL.rs_of_ok, PL.exs_nil, PL.exs_ex, PL.exs_retl, PL.exs_ret, PL.exs_asg, PL.exs_unp, PL.exs_par, PL.exs_set, PL.exs_aug, PL.exs_ite, PL.nxt_nx, PL.nxt_rt, PL.nxt_bk, PL.nxt_ct, PV.res, PV.ress, PV.frz, PV.frzs, PV.slotT, PV.ofA, PV.ofB, PV.ofT, PV.ofA?, PV.store1, PV.callWith, PV.argsOf, PV.argOf, PV.mutsOf, PV.lentOf, PV.isOwn, PV.putBack, PV.appC, PV.extC, PV.popC, PV.popAC, PV.setIx, PV.truth, PV.storeAll, PL.big_le_0, PL.big_le_1, PL.big_le_2, PL.big_le_3, PL.big_le_4, PL.big_le_5, PL.big_le_6, PL.big_le_7, PL.big_le_8, PL.big_le_9, PL.big_le_10, PL.big_le_11, PL.big_le_12, PL.big_le_13, PV.unpT, PV.compTurn, PV.bindTo, PV.setAll, PV.wipeE, PV.backE, PV.forTurn, PV.tupT, PV.startE, PV.slotOf, PV.endC, PV.mutsAt, PV.runF, List.getElem?_cons_zero, List.getElem?_cons_succ, List.getElem?_nil, Option.bind_some, Option.bind_none, Option.map_some, Option.map_none, List.set_cons_zero, List.set_cons_succ, List.isEmpty_nil, List.isEmpty_cons, if_true, if_false, List.replicate_succ, List.replicate_zero, List.length_cons, List.length_nil, Bool.not_true, Bool.not_false, Bool.and_true, Bool.and_false, Bool.true_and, Bool.false_and, reduceCtorEq, ne_eq, not_false_eq_true, implies_true, Bool.true_or, Bool.false_or, Bool.or_true, Bool.or_false, Nat.reduceAdd, Nat.reduceLeDiff, Nat.reduceSub, idx_p1, m2, int_ok, mod_ok (show (0 : Int) < 2147483549 by decide), mod_ok (show (0 : Int) < n by omega), fdiv11, e2]
theorem f9 (d k : Nat) (ns : List Int) (hk : k < 3) : ∃ p, Pot p ∧ Fo (d + 1) 9 [.t (.scr ns), .t (.int k)] = .ok (.f p) [] := by
  have e : Fo (d + 1) 9 [.t (.scr ns), .t (.int k)] = runF pg (Fo d) 4000 60 ⟨3, [.val, .val], c9⟩ [.t (.scr ns), .t (.int k)] := rfl
  rw [e]
  unfold c9
  have hl : biT .len [.scr ns] = some (.t (.int (ns.length : Nat))) := rfl
  have hp : binT .pow (.int 10) (.int 18) = some (.t (.int 1000000000000000000)) := by rfl
  have hk2 : ((k : Nat) : Int).natAbs < 2 ^ 200 := Nat.lt_of_lt_of_le (show ((k : Nat) : Int).natAbs < 3 by omega) (by decide)
  have m1 := mul_ok (i := 113) (j := (k : Int)) (by decide) hk2
  have m2 := mul_ok (i := 3011) (j := (k : Int)) (by decide) hk2
  have cell : ∃ c : Int, 0 ≤ c ∧ ev pg (Fo d) 4000 60 ((Ex.cmp Cmp.lt (Ex.loc 1) (Ex.bi Bi.len [Ex.loc 0])).ite (Ex.bi Bi.abs [(Ex.loc 0).idx (Ex.loc 1)]) (Ex.bin Bin.add (Ex.bin Bin.mul (Ex.con (T.int 113)) (Ex.loc 1)) (Ex.con (T.int 97)))) [.v (.scr ns), .v (.int k), .u] = .ok (.t (.int c)) [.v (.scr ns), .v (.int k), .u] := by
    simp only [PL.ev_con, PL.ev_loc, PL.ev_dk0, PL.ev_dk1, PL.ev_lst, PL.ev_tup, PL.ev_bin, PL.ev_neg, PL.ev_cmp, PL.ev_chn, PL.ev_and, PL.ev_or, PL.ev_tand, PL.ev_tor, PL.ev_not, PL.ev_ite, PL.ev_isn, PL.ev_isb, PL.ev_isi, PL.ev_call, PL.ev_call1, PL.ev_bi, PL.ev_app, PL.ev_ext, PL.ev_pop, PL.ev_popA, PL.ev_idx, PL.ev_ixof, PL.ev_slc, PL.ev_rev, PV.evO, PV.evOs, PV.evP, PV.evPs, PV.evF, PV.evB, PV.evS, PL.r_ok_bind, PL.r_bad_bind, PL.rs_of_ok, PL.exs_nil, PL.exs_ex, PL.exs_retl, PL.exs_ret, PL.exs_asg, PL.exs_unp, PL.exs_par, PL.exs_set, PL.exs_aug, PL.exs_ite, PL.nxt_nx, PL.nxt_rt, PL.nxt_bk, PL.nxt_ct, PV.res, PV.ress, PV.frz, PV.frzs, PV.slotT, PV.ofA, PV.ofB, PV.ofT, PV.ofA?, PV.store1, PV.callWith, PV.argsOf, PV.argOf, PV.mutsOf, PV.lentOf, PV.isOwn, PV.putBack, PV.appC, PV.extC, PV.popC, PV.popAC, PV.setIx, PV.truth, PV.storeAll, PL.big_le_0, PL.big_le_1, PL.big_le_2, PL.big_le_3, PL.big_le_4, PL.big_le_5, PL.big_le_6, PL.big_le_7, PL.big_le_8, PL.big_le_9, PL.big_le_10, PL.big_le_11, PL.big_le_12, PL.big_le_13, PV.unpT, PV.compTurn, PV.bindTo, PV.setAll, PV.wipeE, PV.backE, PV.forTurn, PV.tupT, PV.startE, PV.slotOf, PV.endC, PV.mutsAt, PV.runF, List.getElem?_cons_zero, List.getElem?_cons_succ, List.getElem?_nil, Option.bind_some, Option.bind_none, Option.map_some, Option.map_none, List.set_cons_zero, List.set_cons_succ, List.isEmpty_nil, List.isEmpty_cons, if_true, if_false, List.replicate_succ, List.replicate_zero, List.length_cons, List.length_nil, Bool.not_true, Bool.not_false, Bool.and_true, Bool.and_false, Bool.true_and, Bool.false_and, reduceCtorEq, ne_eq, not_false_eq_true, implies_true, Bool.true_or, Bool.false_or, Bool.or_true, Bool.or_false, Nat.reduceAdd, Nat.reduceLeDiff, Nat.reduceSub, hl, cmp_lt]
    cases h : decide ((k : Int) < (ns.length : Nat)) with
    | true =>
      have hk3 : k < ns.length := by have := of_decide_eq_true h; omega
      have hi : idxT (.scr ns) (.int k) = some (.int (ns[k]'hk3)) := by
        show (ixN ns.length k).bind (fun j => (ns[j]?).map T.int) = _
        unfold ixN
        rw [if_pos (by omega), if_pos (by omega), Option.bind_some, Int.toNat_natCast, List.getElem?_eq_getElem hk3]
        rfl
      have ha : biT .abs [.int (ns[k]'hk3)] = some (.t (.int (if ns[k]'hk3 < 0 then -(ns[k]'hk3) else ns[k]'hk3))) := rfl
      exact ⟨if ns[k]'hk3 < 0 then -(ns[k]'hk3) else ns[k]'hk3, by split <;> omega, by simp only [PL.ev_con, PL.ev_loc, PL.ev_dk0, PL.ev_dk1, PL.ev_lst, PL.ev_tup, PL.ev_bin, PL.ev_neg, PL.ev_cmp, PL.ev_chn, PL.ev_and, PL.ev_or, PL.ev_tand, PL.ev_tor, PL.ev_not, PL.ev_ite, PL.ev_isn, PL.ev_isb, PL.ev_isi, PL.ev_call, PL.ev_call1, PL.ev_bi, PL.ev_app, PL.ev_ext, PL.ev_pop, PL.ev_popA, PL.ev_idx, PL.ev_ixof, PL.ev_slc, PL.ev_rev, PV.evO, PV.evOs, PV.evP, PV.evPs, PV.evF, PV.evB, PV.evS, PL.r_ok_bind, PL.r_bad_bind, PL.rs_of_ok, PL.exs_nil, PL.exs_ex, PL.exs_retl, PL.exs_ret, PL.exs_asg, PL.exs_unp, PL.exs_par, PL.exs_set, PL.exs_aug, PL.exs_ite, PL.nxt_nx, PL.nxt_rt, PL.nxt_bk, PL.nxt_ct, PV.res, PV.ress, PV.frz, PV.frzs, PV.slotT, PV.ofA, PV.ofB, PV.ofT, PV.ofA?, PV.store1, PV.callWith, PV.argsOf, PV.argOf, PV.mutsOf, PV.lentOf, PV.isOwn, PV.putBack, PV.appC, PV.extC, PV.popC, PV.popAC, PV.setIx, PV.truth, PV.storeAll, PL.big_le_0, PL.big_le_1, PL.big_le_2, PL.big_le_3, PL.big_le_4, PL.big_le_5, PL.big_le_6, PL.big_le_7, PL.big_le_8, PL.big_le_9, PL.big_le_10, PL.big_le_11, PL.big_le_12, PL.big_le_13, PV.unpT, PV.compTurn, PV.bindTo, PV.setAll, PV.wipeE, PV.backE, PV.forTurn, PV.tupT, PV.startE, PV.slotOf, PV.endC, PV.mutsAt, PV.runF, List.getElem?_cons_zero, List.getElem?_cons_succ, List.getElem?_nil, Option.bind_some, Option.bind_none, Option.map_some, Option.map_none, List.set_cons_zero, List.set_cons_succ, List.isEmpty_nil, List.isEmpty_cons, if_true, if_false, List.replicate_succ, List.replicate_zero, List.length_cons, List.length_nil, Bool.not_true, Bool.not_false, Bool.and_true, Bool.and_false, Bool.true_and, Bool.false_and, reduceCtorEq, ne_eq, not_false_eq_true, implies_true, Bool.true_or, Bool.false_or, Bool.or_true, Bool.or_false, Nat.reduceAdd, Nat.reduceLeDiff, Nat.reduceSub, hi, ha]⟩
    | false => exact ⟨113 * k + 97, by omega, by simp only [PL.ev_con, PL.ev_loc, PL.ev_dk0, PL.ev_dk1, PL.ev_lst, PL.ev_tup, PL.ev_bin, PL.ev_neg, PL.ev_cmp, PL.ev_chn, PL.ev_and, PL.ev_or, PL.ev_tand, PL.ev_tor, PL.ev_not, PL.ev_ite, PL.ev_isn, PL.ev_isb, PL.ev_isi, PL.ev_call, PL.ev_call1, PL.ev_bi, PL.ev_app, PL.ev_ext, PL.ev_pop, PL.ev_popA, PL.ev_idx, PL.ev_ixof, PL.ev_slc, PL.ev_rev, PV.evO, PV.evOs, PV.evP, PV.evPs, PV.evF, PV.evB, PV.evS, PL.r_ok_bind, PL.r_bad_bind, PL.rs_of_ok, PL.exs_nil, PL.exs_ex, PL.exs_retl, PL.exs_ret, PL.exs_asg, PL.exs_unp, PL.exs_par, PL.exs_set, PL.exs_aug, PL.exs_ite, PL.nxt_nx, PL.nxt_rt, PL.nxt_bk, PL.nxt_ct, PV.res, PV.ress, PV.frz, PV.frzs, PV.slotT, PV.ofA, PV.ofB, PV.ofT, PV.ofA?, PV.store1, PV.callWith, PV.argsOf, PV.argOf, PV.mutsOf, PV.lentOf, PV.isOwn, PV.putBack, PV.appC, PV.extC, PV.popC, PV.popAC, PV.setIx, PV.truth, PV.storeAll, PL.big_le_0, PL.big_le_1, PL.big_le_2, PL.big_le_3, PL.big_le_4, PL.big_le_5, PL.big_le_6, PL.big_le_7, PL.big_le_8, PL.big_le_9, PL.big_le_10, PL.big_le_11, PL.big_le_12, PL.big_le_13, PV.unpT, PV.compTurn, PV.bindTo, PV.setAll, PV.wipeE, PV.backE, PV.forTurn, PV.tupT, PV.startE, PV.slotOf, PV.endC, PV.mutsAt, PV.runF, List.getElem?_cons_zero, List.getElem?_cons_succ, List.getElem?_nil, Option.bind_some, Option.bind_none, Option.map_some, Option.map_none, List.set_cons_zero, List.set_cons_succ, List.isEmpty_nil, List.isEmpty_cons, if_true, if_false, List.replicate_succ, List.replicate_zero, List.length_cons, List.length_nil, Bool.not_true, Bool.not_false, Bool.and_true, Bool.and_false, Bool.true_and, Bool.false_and, reduceCtorEq, ne_eq, not_false_eq_true, implies_true, Bool.true_or, Bool.false_or, Bool.or_true, Bool.or_false, Nat.reduceAdd, Nat.reduceLeDiff, Nat.reduceSub, m1, add_ok]⟩
  obtain ⟨c, hc, hcell⟩ := cell
  have q1 := Int.emod_lt_of_pos c (show (0 : Int) < 2147483549 by decide)
  have q0 := Int.emod_nonneg c (show (2147483549 : Int) ≠ 0 by decide)
  have m3 := mul_ok (i := c % 2147483549) (j := 40692) (small32 q0 (by omega)) (by decide)
  have r1 := Int.emod_lt_of_pos (c % 2147483549 * 40692 + 3011 * k + 71) (show (0 : Int) < 2147483563 by decide)
  have r0 := Int.emod_nonneg (c % 2147483549 * 40692 + 3011 * k + 71) (show (2147483563 : Int) ≠ 0 by decide)
  refine ⟨[.int (if c - 1000000000000000000 > 0 then c - 1000000000000000000 else 0), .int ((c % 2147483549 * 40692 + 3011 * k + 71) % 2147483563 + 1)], ⟨_, _, rfl, ?_, by omega, by omega⟩, ?_⟩
  · split <;> omega
  · have hm : biT .max2 [.int 0, .int (c - 1000000000000000000)] = some (.t (.int (if c - 1000000000000000000 > 0 then c - 1000000000000000000 else 0))) := rfl
    have hst : runF pg (Fo d) 4000 60 ⟨3, [.val, .val], c9⟩ [.t (.scr ns), .t (.int k)] = (match exs pg (Fo d) 4000 60 60 c9 [.v (.scr ns), .v (.int k), .u] with
      | .nx ρ => endC ⟨3, [.val, .val], c9⟩ (.t .non) ρ
      | .rt a ρ => endC ⟨3, [.val, .val], c9⟩ a ρ
      | .exc c ts _ => .exc c ts
      | _ => .bad) := rfl
    unfold c9 at hst
    rw [hst, exs_asg]
    erw [hcell]
    simp only [PL.ev_con, PL.ev_loc, PL.ev_dk0, PL.ev_dk1, PL.ev_lst, PL.ev_tup, PL.ev_bin, PL.ev_neg, PL.ev_cmp, PL.ev_chn, PL.ev_and, PL.ev_or, PL.ev_tand, PL.ev_tor, PL.ev_not, PL.ev_ite, PL.ev_isn, PL.ev_isb, PL.ev_isi, PL.ev_call, PL.ev_call1, PL.ev_bi, PL.ev_app, PL.ev_ext, PL.ev_pop, PL.ev_popA, PL.ev_idx, PL.ev_ixof, PL.ev_slc, PL.ev_rev, PV.evO, PV.evOs, PV.evP, PV.evPs, PV.evF, PV.evB, PV.evS, PL.r_ok_bind, PL.r_bad_bind, PL.rs_of_ok, PL.exs_nil, PL.exs_ex, PL.exs_retl, PL.exs_ret, PL.exs_asg, PL.exs_unp, PL.exs_par, PL.exs_set, PL.exs_aug, PL.exs_ite, PL.nxt_nx, PL.nxt_rt, PL.nxt_bk, PL.nxt_ct, PV.res, PV.ress, PV.frz, PV.frzs, PV.slotT, PV.ofA, PV.ofB, PV.ofT, PV.ofA?, PV.store1, PV.callWith, PV.argsOf, PV.argOf, PV.mutsOf, PV.lentOf, PV.isOwn, PV.putBack, PV.appC, PV.extC, PV.popC, PV.popAC, PV.setIx, PV.truth, PV.storeAll, PL.big_le_0, PL.big_le_1, PL.big_le_2, PL.big_le_3, PL.big_le_4, PL.big_le_5, PL.big_le_6, PL.big_le_7, PL.big_le_8, PL.big_le_9, PL.big_le_10, PL.big_le_11, PL.big_le_12, PL.big_le_13, PV.unpT, PV.compTurn, PV.bindTo, PV.setAll, PV.wipeE, PV.backE, PV.forTurn, PV.tupT, PV.startE, PV.slotOf, PV.endC, PV.mutsAt, PV.runF, List.getElem?_cons_zero, List.getElem?_cons_succ, List.getElem?_nil, Option.bind_some, Option.bind_none, Option.map_some, Option.map_none, List.set_cons_zero, List.set_cons_succ, List.isEmpty_nil, List.isEmpty_cons, if_true, if_false, List.replicate_succ, List.replicate_zero, List.length_cons, List.length_nil, Bool.not_true, Bool.not_false, Bool.and_true, Bool.and_false, Bool.true_and, Bool.false_and, reduceCtorEq, ne_eq, not_false_eq_true, implies_true, Bool.true_or, Bool.false_or, Bool.or_true, Bool.or_false, Nat.reduceAdd, Nat.reduceLeDiff, Nat.reduceSub, hp, m2, m3, add_ok, sub_ok, int_ok, hm, mod_ok (show (0 : Int) < 2147483549 by decide), mod_ok (show (0 : Int) < 2147483563 by decide)]
theorem f11 (d : Nat) {p xs : List T} (hp : Pot p) (h1 : 1 ≤ xs.length) (h2 : xs.length < 100000) : ∃ x p', x ∈ xs ∧ Pot p' ∧ Fo (d + 2) 11 [.f p, .t (.lst xs)] = .ok (.t x) [p'] := by
  have e : Fo (d + 2) 11 [.f p, .t (.lst xs)] = runF pg (Fo (d + 1)) 4000 60 ⟨2, [.chg, .val], c11⟩ [.f p, .t (.lst xs)] := rfl
  rw [e]
  unfold c11
  have hl : biT .len [.lst xs] = some (.t (.int (xs.length : Nat))) := rfl
  obtain ⟨r, p', hr, hp', hc⟩ := f10 d xs.length hp h1 (by omega)
  have hi : idxT (.lst xs) (.int r) = some (xs[r]'hr) := by
    show (ixN xs.length r).bind (fun j => xs[j]?) = _
    unfold ixN
    rw [if_pos (by omega), if_pos (by omega), Option.bind_some, Int.toNat_natCast, List.getElem?_eq_getElem hr]
  refine ⟨xs[r], p', List.getElem_mem hr, hp', ?_⟩
  have nl : ((0 : Nat) ∈ ([] : List Nat)) = False := by simp
  simp only [PL.ev_con, PL.ev_loc, PL.ev_dk0, PL.ev_dk1, PL.ev_lst, PL.ev_tup, PL.ev_bin, PL.ev_neg, PL.ev_cmp, PL.ev_chn, PL.ev_and, PL.ev_or, PL.ev_tand, PL.ev_tor, PL.ev_not, PL.ev_ite, PL.ev_isn, PL.ev_isb, PL.ev_isi, PL.ev_call, PL.ev_call1, PL.ev_bi, PL.ev_app, PL.ev_ext, PL.ev_pop, PL.ev_popA, PL.ev_idx, PL.ev_ixof, PL.ev_slc, PL.ev_rev, PV.evO, PV.evOs, PV.evP, PV.evPs, PV.evF, PV.evB, PV.evS, PL.r_ok_bind, PL.r_bad_bind, PL.rs_of_ok, PL.exs_nil, PL.exs_ex, PL.exs_retl, PL.exs_ret, PL.exs_asg, PL.exs_unp, PL.exs_par, PL.exs_set, PL.exs_aug, PL.exs_ite, PL.nxt_nx, PL.nxt_rt, PL.nxt_bk, PL.nxt_ct, PV.res, PV.ress, PV.frz, PV.frzs, PV.slotT, PV.ofA, PV.ofB, PV.ofT, PV.ofA?, PV.store1, PV.callWith, PV.argsOf, PV.argOf, PV.mutsOf, PV.lentOf, PV.isOwn, PV.putBack, PV.appC, PV.extC, PV.popC, PV.popAC, PV.setIx, PV.truth, PV.storeAll, PL.big_le_0, PL.big_le_1, PL.big_le_2, PL.big_le_3, PL.big_le_4, PL.big_le_5, PL.big_le_6, PL.big_le_7, PL.big_le_8, PL.big_le_9, PL.big_le_10, PL.big_le_11, PL.big_le_12, PL.big_le_13, PV.unpT, PV.compTurn, PV.bindTo, PV.setAll, PV.wipeE, PV.backE, PV.forTurn, PV.tupT, PV.startE, PV.slotOf, PV.endC, PV.mutsAt, PV.runF, List.getElem?_cons_zero, List.getElem?_cons_succ, List.getElem?_nil, Option.bind_some, Option.bind_none, Option.map_some, Option.map_none, List.set_cons_zero, List.set_cons_succ, List.isEmpty_nil, List.isEmpty_cons, if_true, if_false, List.replicate_succ, List.replicate_zero, List.length_cons, List.length_nil, Bool.not_true, Bool.not_false, Bool.and_true, Bool.and_false, Bool.true_and, Bool.false_and, reduceCtorEq, ne_eq, not_false_eq_true, implies_true, Bool.true_or, Bool.false_or, Bool.or_true, Bool.or_false, Nat.reduceAdd, Nat.reduceLeDiff, Nat.reduceSub, hl, hc, p10, List.contains_nil, hi]
end K85

set_option Elab.async false
set_option linter.all false
/-! k85, plain: chains of arrows. -/
namespace K85
/-- the numbers of the arrows that begin at p -/
def nexts (A : List (Nat × Nat)) (p : Nat) : List Nat := (List.range A.length).filter fun i => ((A[i]?).map (·.1)) == some p
def tgt (A : List (Nat × Nat)) (i : Nat) : Nat := ((A[i]?).map (·.2)).getD 0
/-- the chains of k arrows from p -/
def ch (A : List (Nat × Nat)) : Nat → Nat → List (List Nat)
  | 0, _ => [[]]
  | k + 1, p => (nexts A p).flatMap fun i => (ch A k (tgt A i)).map (i :: ·)
def endOf (A : List (Nat × Nat)) (p : Nat) (s : List Nat) : Nat := match s.getLast? with
  | none => p
  | some i => tgt A i
theorem end_cons (A : List (Nat × Nat)) (p i : Nat) (s : List Nat) : endOf A p (i :: s) = endOf A (tgt A i) s := by
  cases s with
  | nil => rfl
  | cons j s =>
    unfold endOf
    rw [List.getLast?_cons_cons]
    cases h : (j :: s).getLast? with
    | none => simp at h
    | some k => rfl
theorem ch_end (A : List (Nat × Nat)) : ∀ (k p : Nat), ch A (k + 1) p = (ch A k p).flatMap fun s => (nexts A (endOf A p s)).map fun i => s ++ [i]
  | 0, p => by
    show (nexts A p).flatMap (fun i => ([[]] : List (List Nat)).map (i :: ·)) = ([[]] : List (List Nat)).flatMap _
    simp [endOf, List.flatMap_singleton', List.map_eq_flatMap]
  | k + 1, p => by
    show (nexts A p).flatMap (fun i => (ch A (k + 1) (tgt A i)).map (i :: ·)) = ((nexts A p).flatMap fun i => (ch A k (tgt A i)).map (i :: ·)).flatMap _
    rw [List.flatMap_assoc]
    congr 1
    funext i
    rw [ch_end A k (tgt A i), List.map_flatMap, List.flatMap_map]
    congr 1
    funext s
    rw [List.map_map, end_cons]
    rfl
/-- from p, in the law's own way -/
def fr (A : List (Nat × Nat)) : Nat → Nat → List (List Nat)
  | 0, _ => []
  | n + 1, p => [] :: (nexts A p).flatMap fun i => (fr A n (tgt A i)).map (i :: ·)
theorem flatMap_app_perm {α β : Type} (l : List α) (f g : α → List β) : (l.flatMap fun a => f a ++ g a).Perm (l.flatMap f ++ l.flatMap g) := by
  induction l with
  | nil => exact .refl _
  | cons a l ih =>
    rw [List.flatMap_cons, List.flatMap_cons, List.flatMap_cons, List.append_assoc, List.append_assoc]
    refine .append_left _ ((List.Perm.append_left _ ih).trans ?_)
    rw [← List.append_assoc, ← List.append_assoc]
    exact .append_right _ List.perm_append_comm
theorem flatMap_swap {α β γ : Type} (l : List α) (m : List β) (f : α → β → List γ) : (l.flatMap fun a => m.flatMap fun b => f a b).Perm (m.flatMap fun b => l.flatMap fun a => f a b) := by
  induction l with
  | nil => simp
  | cons a l ih =>
    rw [List.flatMap_cons]
    refine (List.Perm.append_left _ ih).trans ?_
    have := flatMap_app_perm m (fun b => f a b) (fun b => l.flatMap fun a => f a b)
    simpa [List.flatMap_cons] using this.symm
theorem flatMap_perm_f {α β : Type} (l : List α) {f g : α → List β} (h : ∀ a ∈ l, (f a).Perm (g a)) : (l.flatMap f).Perm (l.flatMap g) := by
  induction l with
  | nil => exact .refl _
  | cons a l ih =>
    rw [List.flatMap_cons, List.flatMap_cons]
    exact (h a List.mem_cons_self).append (ih fun b hb => h b (List.mem_cons_of_mem _ hb))
theorem fr_perm (A : List (Nat × Nat)) : ∀ (n p : Nat), (fr A n p).Perm ((List.range n).flatMap fun k => ch A k p)
  | 0, p => .refl _
  | n + 1, p => by
    rw [List.range_succ_eq_map, List.flatMap_cons, List.flatMap_map]
    show ([] :: (nexts A p).flatMap fun i => (fr A n (tgt A i)).map (i :: ·)).Perm ([[]] ++ _)
    refine .cons _ ?_
    refine (flatMap_perm_f (g := fun i => (List.range n).flatMap fun k => (ch A k (tgt A i)).map (i :: ·)) _ fun i _ => ?_).trans (flatMap_swap _ _ _)
    rw [← List.map_flatMap]
    exact (fr_perm A n (tgt A i)).map _
/-! ### ranks -/
structure Rk (A : List (Nat × Nat)) (P : Nat) (r : Nat → Nat) : Prop where
  up : ∀ q ∈ A, r q.1 < r q.2
  top : ∀ q ∈ A, r q.2 < P
theorem mem_nexts {A : List (Nat × Nat)} {p i : Nat} : i ∈ nexts A p ↔ ∃ b, A[i]? = some (p, b) := by
  unfold nexts
  rw [List.mem_filter, List.mem_range]
  constructor
  · rintro ⟨h1, h2⟩
    rw [List.getElem?_eq_getElem h1] at h2 ⊢
    have h3 : (A[i]).1 = p := by simpa using h2
    exact ⟨(A[i]).2, by rw [← h3]⟩
  · rintro ⟨b, h⟩
    refine ⟨(List.getElem?_eq_some_iff.mp h).1, by rw [h]; simp⟩
theorem tgt_of {A : List (Nat × Nat)} {p b i : Nat} (h : A[i]? = some (p, b)) : tgt A i = b := by unfold tgt; rw [h]; rfl
theorem ch_short {A : List (Nat × Nat)} {P : Nat} {r : Nat → Nat} (R : Rk A P r) : ∀ (k p : Nat) (s : List Nat), r p < P → s ∈ ch A k p → r p + k < P
  | 0, p, s, h, _ => h
  | k + 1, p, s, h, hs => by
    obtain ⟨i, hi, hs⟩ := List.mem_flatMap.mp hs
    obtain ⟨t, ht, rfl⟩ := List.mem_map.mp hs
    obtain ⟨b, hb⟩ := mem_nexts.mp hi
    rw [tgt_of hb] at ht
    have m := List.mem_of_getElem? hb
    have := R.up _ m
    have := ch_short R k b t (R.top _ m) ht
    dsimp only at *
    omega
theorem ch_end_nil {A : List (Nat × Nat)} {P : Nat} {r : Nat → Nat} (R : Rk A P r) {p : Nat} (h : r p < P) : ch A P p = [] := by
  cases e : ch A P p with
  | nil => rfl
  | cons s l =>
    have := ch_short R P p s h (by rw [e]; exact List.mem_cons_self)
    omega
/-! ### levels -/
def lv (A : List (Nat × Nat)) (P k : Nat) : List (Nat × List Nat) := (List.range P).flatMap fun p => (ch A k p).map fun s => (p, s)
theorem lv_succ (A : List (Nat × Nat)) (P k : Nat) : lv A P (k + 1) = (lv A P k).flatMap fun q => (nexts A (endOf A q.1 q.2)).map fun i => (q.1, q.2 ++ [i]) := by
  unfold lv
  rw [List.flatMap_assoc]
  congr 1
  funext p
  rw [ch_end, List.map_flatMap, List.flatMap_map]
  congr 1
  funext s
  rw [List.map_map]
  rfl
def told (A : List (Nat × Nat)) (P n : Nat) : List (Nat × List Nat) := (List.range n).flatMap (lv A P)
def some_ (A : List (Nat × Nat)) (P n : Nat) : List (Nat × List Nat) := (List.range P).flatMap fun p => (fr A n p).map fun s => (p, s)
theorem some_perm (A : List (Nat × Nat)) (P n : Nat) : (some_ A P n).Perm (told A P n) := by
  unfold some_ told
  refine (flatMap_perm_f (g := fun p => (List.range n).flatMap fun k => (ch A k p).map fun s => (p, s)) _ fun p _ => ?_).trans (flatMap_swap _ _ _)
  rw [← List.map_flatMap]
  exact (fr_perm A n p).map _
theorem ch_len {A : List (Nat × Nat)} : ∀ (k p : Nat) (s : List Nat), s ∈ ch A k p → s.length = k
  | 0, p, s, h => by
    have : s = [] := by simpa [ch] using h
    rw [this]; rfl
  | k + 1, p, s, h => by
    obtain ⟨i, _, hs⟩ := List.mem_flatMap.mp h
    obtain ⟨t, ht, rfl⟩ := List.mem_map.mp hs
    rw [List.length_cons, ch_len k _ t ht]
end K85

set_option Elab.async false
set_option linter.all false
set_option maxRecDepth 100000
set_option maxHeartbeats 1000000
/-! k85, plain: the paths in their sequence. -/
namespace K85
open PV PySem PySem.W PyProof.Rows
def ins (s : List Nat) : List Int := s.map fun (i : Nat) => (i : Int)
def slt (s t : List Nat) : Prop := ins s < ins t
def stT (s : List Nat) : T := .tup ((ins s).map T.int)
def paT (q : Nat × List Nat) : T := .tup [.int q.1, stT q.2]
def keT (q : Nat × List Nat) : T := .tup [.int q.2.length, paT q]
theorem toDs_ints : ∀ l : List Int, toDs (l.map T.int) = l.map PyData.int
  | [] => rfl
  | x :: l => by
    show toD (.int x) :: toDs (l.map T.int) = _
    rw [toDs_ints l]; rfl
theorem toD_st (s : List Nat) : toD (stT s) = .tuple ((ins s).map PyData.int) := by
  show PyData.tuple (toDs ((ins s).map T.int)) = _
  rw [toDs_ints]
theorem toD_pa (q : Nat × List Nat) : toD (paT q) = .tuple [.int q.1, .tuple ((ins q.2).map PyData.int)] := by
  show PyData.tuple [.int q.1, toD (stT q.2)] = _
  rw [toD_st]
theorem toD_ke (q : Nat × List Nat) : toD (keT q) = .tuple [.int q.2.length, .tuple [.int q.1, .tuple ((ins q.2).map PyData.int)]] := by
  show PyData.tuple [.int q.2.length, toD (paT q)] = _
  rw [toD_pa]
theorem alike_st (s t : List Nat) : alike (.tuple ((ins s).map PyData.int)) (.tuple ((ins t).map PyData.int)) = true := by
  unfold alike
  exact alike_ints _ _
theorem alike_pa (q q' : Nat × List Nat) : alike (toD (paT q)) (toD (paT q')) = true := by
  rw [toD_pa, toD_pa]
  unfold alike
  simp [alikeAll, alike, alike_ints]
theorem alike_ke (q q' : Nat × List Nat) : alike (toD (keT q)) (toD (keT q')) = true := by
  rw [toD_ke, toD_ke]
  unfold alike
  simp [alikeAll, alike, alike_ints]
theorem lt_st (s t : List Nat) : dataLt (.tuple ((ins s).map PyData.int)) (.tuple ((ins t).map PyData.int)) = decide (ins s < ins t) := by
  rw [dataLt_tuple]
  exact dataLt_ints _ _
def plt (q q' : Nat × List Nat) : Prop := q.1 < q'.1 ∨ (q.1 = q'.1 ∧ slt q.2 q'.2)
theorem lt_pa (q q' : Nat × List Nat) (h : plt q q') : dataLt (toD (paT q')) (toD (paT q)) = false := by
  rw [toD_pa, toD_pa, dataLt_pair (by simp [alike]) (alike_st _ _), dataLt_int, lt_st]
  simp only [PyData.eqv, beq_iff_eq]
  rcases h with h | ⟨h1, h2⟩
  · rw [if_neg (by omega)]
    exact decide_eq_false (by omega)
  · rw [if_pos (by omega), decide_eq_false (p := ins q'.2 < ins q.2) fun z => List.lt_asymm h2 z]
    exact ite_self _
theorem le_pa {q q' : Nat × List Nat} (h : plt q q') : leT (paT q) (paT q') = true := by
  unfold leT
  rw [lt_pa q q' h]; rfl
def klt (q q' : Nat × List Nat) : Prop := q.2.length < q'.2.length ∨ (q.2.length = q'.2.length ∧ plt q q')
theorem le_ke {q q' : Nat × List Nat} (h : klt q q') : leT (keT q) (keT q') = true := by
  unfold leT
  have a : dataLt (toD (keT q')) (toD (keT q)) = false := by
    show dataLt (.tuple [.int q'.2.length, toD (paT q')]) (.tuple [.int q.2.length, toD (paT q)]) = false
    rw [dataLt_pair (by simp [alike]) (alike_pa _ _), dataLt_int]
    simp only [PyData.eqv, beq_iff_eq]
    rcases h with h | ⟨h1, h2⟩
    · rw [if_neg (by omega)]
      exact decide_eq_false (by omega)
    · rw [if_pos (by omega), lt_pa q q' h2]
      exact ite_self _
  rw [a]; rfl
theorem nexts_sorted (A : List (Nat × Nat)) (p : Nat) : (nexts A p).Pairwise (· < ·) := List.Pairwise.filter _ List.pairwise_lt_range
theorem slt_cons {i j : Nat} {s t : List Nat} (h : i < j ∨ (i = j ∧ slt s t)) : slt (i :: s) (j :: t) := by
  show ((i : Int) :: ins s) < ((j : Int) :: ins t)
  rw [List.cons_lt_cons_iff]
  rcases h with h | ⟨h1, h2⟩
  · exact .inl (by omega)
  · exact .inr ⟨by omega, h2⟩
theorem ch_sorted (A : List (Nat × Nat)) : ∀ k p, (ch A k p).Pairwise slt
  | 0, p => List.pairwise_singleton _ _
  | k + 1, p => by
    show ((nexts A p).flatMap fun i => (ch A k (tgt A i)).map (i :: ·)).Pairwise slt
    rw [List.pairwise_flatMap]
    refine ⟨fun i _ => ?_, (nexts_sorted A p).imp fun {i j} h x hx y hy => ?_⟩
    · rw [List.pairwise_map]
      exact (ch_sorted A k _).imp fun h => slt_cons (.inr ⟨rfl, h⟩)
    · obtain ⟨s, _, rfl⟩ := List.mem_map.mp hx
      obtain ⟨t, _, rfl⟩ := List.mem_map.mp hy
      exact slt_cons (.inl h)
theorem lv_sorted (A : List (Nat × Nat)) (P k : Nat) : (lv A P k).Pairwise plt := by
  unfold lv
  rw [List.pairwise_flatMap]
  refine ⟨fun p _ => ?_, List.pairwise_lt_range.imp fun {i j} h x hx y hy => ?_⟩
  · rw [List.pairwise_map]
    exact (ch_sorted A k p).imp fun h => .inr ⟨rfl, h⟩
  · obtain ⟨s, _, rfl⟩ := List.mem_map.mp hx
    obtain ⟨t, _, rfl⟩ := List.mem_map.mp hy
    exact .inl h
theorem lv_len {A : List (Nat × Nat)} {P k : Nat} {q : Nat × List Nat} (h : q ∈ lv A P k) : q.2.length = k ∧ q.1 < P := by
  obtain ⟨p, hp, hq⟩ := List.mem_flatMap.mp h
  obtain ⟨s, hs, rfl⟩ := List.mem_map.mp hq
  exact ⟨ch_len k p s hs, List.mem_range.mp hp⟩
theorem told_sorted (A : List (Nat × Nat)) (P n : Nat) : (told A P n).Pairwise klt := by
  unfold told
  rw [List.pairwise_flatMap]
  refine ⟨fun k _ => List.Pairwise.imp_of_mem (fun {a b} ha hb h => .inr ⟨by rw [(lv_len ha).1, (lv_len hb).1], h⟩) (lv_sorted A P k), List.pairwise_lt_range.imp fun {i j} h x hx y hy => .inl (by rw [(lv_len hx).1, (lv_len hy).1]; exact h)⟩
theorem sortT_id : ∀ {l : List T}, l.Pairwise (fun a b => leT a b = true) → sortT l = l
  | [], _ => rfl
  | x :: xs, h => by
    rw [List.pairwise_cons] at h
    show insT x (sortT xs) = _
    rw [sortT_id h.2]
    cases xs with
    | nil => rfl
    | cons y ys => exact if_pos (h.1 y List.mem_cons_self)
theorem sortT_eq {l m : List T} (h : srtOk l = true) (p : l.Perm m) (hm : m.Pairwise fun a b => leT a b = true) : sortT l = m := by
  obtain ⟨_, h2, _, h4⟩ := srt_parts h
  refine List.Perm.eq_of_pairwise (le := fun a b => leT a b = true) (fun x y hx hy h1 h2' => ?_) (sortT_sorted _) hm ((sortT_perm l).trans p)
  have mx := (sortT_perm l).mem_iff.mp hx
  have my := p.mem_iff.mpr hy
  exact leT_anti (h2 x mx) (h2 y my) (h4 x mx y my) h1 h2'
theorem okT_st (n : Nat) (s : List Nat) : okT (n + 1) (stT s) = true := by
  show ((ins s).map T.int).all (okT n) = true
  rw [List.all_map, List.all_eq_true]
  intro x _
  cases n <;> rfl
theorem okT_pa (n : Nat) (q : Nat × List Nat) : okT (n + 2) (paT q) = true := by
  show ([T.int q.1, stT q.2] : List T).all (okT (n + 1)) = true
  rw [List.all_cons, List.all_cons, okT_st]
  rfl
theorem okT_ke (n : Nat) (q : Nat × List Nat) : okT (n + 3) (keT q) = true := by
  show ([T.int q.2.length, paT q] : List T).all (okT (n + 2)) = true
  rw [List.all_cons, List.all_cons, okT_pa]
  rfl
theorem srtOk_map {f : Nat × List Nat → T} (l : List (Nat × List Nat)) (hl : l.length ≤ big) (h1 : ∀ q, okT 63 (f q) = true) (h2 : ∀ q, isTp (f q) = true) (h3 : ∀ q q', alike (toD (f q)) (toD (f q')) = true) : srtOk (l.map f) = true := by
  unfold srtOk
  rw [Bool.and_eq_true, Bool.and_eq_true, Bool.and_eq_true]
  refine ⟨decide_eq_true (by rw [List.length_map]; exact hl), List.all_eq_true.mpr fun x hx => ?_, List.all_eq_true.mpr fun x hx => ?_, List.all_eq_true.mpr fun x hx => List.all_eq_true.mpr fun y hy => ?_⟩
  · obtain ⟨q, _, rfl⟩ := List.mem_map.mp hx; exact h1 q
  · obtain ⟨q, _, rfl⟩ := List.mem_map.mp hx; exact h2 q
  · obtain ⟨q, _, rfl⟩ := List.mem_map.mp hx
    obtain ⟨q', _, rfl⟩ := List.mem_map.mp hy
    exact h3 q q'
/-- a level is sorted as it stands -/
theorem sort_lv (A : List (Nat × Nat)) (P k : Nat) : sortT ((lv A P k).map paT) = (lv A P k).map paT := sortT_id (by rw [List.pairwise_map]; exact (lv_sorted A P k).imp fun h => le_pa h)
/-- the law's sorted list is the told one -/
theorem sort_some (A : List (Nat × Nat)) (P n : Nat) (hl : (some_ A P n).length ≤ big) : sortT ((some_ A P n).map keT) = (told A P n).map keT :=
  sortT_eq (srtOk_map _ hl (fun q => okT_ke 60 q) (fun q => rfl) alike_ke) ((some_perm A P n).map _) (by rw [List.pairwise_map]; exact (told_sorted A P n).imp fun h => le_ke h)
end K85

set_option Elab.async false
set_option linter.all false
set_option maxRecDepth 1000000
set_option maxHeartbeats 8000000
namespace K85
open PV PySem PL
def arT (q : Nat × Nat) : T := .tup [.int q.1, .int q.2]
theorem idx_last {xs : List T} {x : T} (h : xs.getLast? = some x) : idxT (.tup xs) (.int (-1)) = some x := by
  show (ixN xs.length (-1)).bind (fun j => xs[j]?) = _
  have hl : xs ≠ [] := fun e => by rw [e] at h; cases h
  have hp : 0 < xs.length := List.length_pos_iff.mpr hl
  unfold ixN
  rw [if_neg (by decide), if_pos (by omega), Option.bind_some]
  rw [List.getLast?_eq_getElem?] at h
  rw [show ((-1 : Int) + (xs.length : Nat)).toNat = xs.length - 1 by omega]
  exact h
theorem idx_arr {A : List (Nat × Nat)} {i : Nat} {q : Nat × Nat} (h : A[i]? = some q) : idxT (.lst (A.map arT)) (.int (i : Nat)) = some (arT q) := by
  show (ixN (A.map arT).length i).bind (fun j => (A.map arT)[j]?) = _
  have hi := (List.getElem?_eq_some_iff.mp h).1
  unfold ixN
  rw [if_pos (by omega), if_pos (by rw [List.length_map]; omega), Option.bind_some, Int.toNat_natCast, List.getElem?_map, h]
  rfl
theorem idx_t0 (x y : T) : idxT (.tup [x, y]) (.int 0) = some x := rfl
theorem idx_t1 (x y : T) : idxT (.tup [x, y]) (.int 1) = some y := rfl
theorem ne_nil (s : List Nat) : cmpT .ne (stT s) (.tup []) = some (!s.isEmpty) := by
  show (if okT 64 (stT s) && okT 64 (.tup []) then some (!eqT (stT s) (.tup [])) else none) = _
  rw [okT_st 63]
  cases s <;> rfl
theorem f6 (d : Nat) {A : List (Nat × Nat)} {p : Nat} {s : List Nat} (h : ∀ i, s.getLast? = some i → i < A.length) : Fo (d + 1) 6 [.t (.lst (A.map arT)), .t (paT (p, s))] = .ok (.t (.int (endOf A p s))) [] := by
  have e : Fo (d + 1) 6 [.t (.lst (A.map arT)), .t (paT (p, s))] = runF pg (Fo d) 4000 60 ⟨4, [.val, .val], c6⟩ [.t (.lst (A.map arT)), .t (paT (p, s))] := rfl
  rw [e]
  unfold c6 paT
  generalize hS : stT s = S
  have hn := ne_nil s
  rw [hS] at hn
  cases hs : s.getLast? with
  | none =>
    have : s = [] := by simpa using hs
    subst this
    simp only [PL.ev_con, PL.ev_loc, PL.ev_dk0, PL.ev_dk1, PL.ev_lst, PL.ev_tup, PL.ev_bin, PL.ev_neg, PL.ev_cmp, PL.ev_chn, PL.ev_and, PL.ev_or, PL.ev_tand, PL.ev_tor, PL.ev_not, PL.ev_ite, PL.ev_isn, PL.ev_isb, PL.ev_isi, PL.ev_call, PL.ev_call1, PL.ev_bi, PL.ev_app, PL.ev_ext, PL.ev_pop, PL.ev_popA, PL.ev_idx, PL.ev_ixof, PL.ev_slc, PL.ev_rev, PV.evO, PV.evOs, PV.evP, PV.evPs, PV.evF, PV.evB, PV.evS, PL.r_ok_bind, PL.r_bad_bind, PL.rs_of_ok, PL.exs_nil, PL.exs_ex, PL.exs_retl, PL.exs_ret, PL.exs_asg, PL.exs_unp, PL.exs_par, PL.exs_set, PL.exs_aug, PL.exs_ite, PL.nxt_nx, PL.nxt_rt, PL.nxt_bk, PL.nxt_ct, PV.res, PV.ress, PV.frz, PV.frzs, PV.slotT, PV.ofA, PV.ofB, PV.ofT, PV.ofA?, PV.store1, PV.callWith, PV.argsOf, PV.argOf, PV.mutsOf, PV.lentOf, PV.isOwn, PV.putBack, PV.appC, PV.extC, PV.popC, PV.popAC, PV.setIx, PV.truth, PV.storeAll, PL.big_le_0, PL.big_le_1, PL.big_le_2, PL.big_le_3, PL.big_le_4, PL.big_le_5, PL.big_le_6, PL.big_le_7, PL.big_le_8, PL.big_le_9, PL.big_le_10, PL.big_le_11, PL.big_le_12, PL.big_le_13, PV.unpT, PV.compTurn, PV.bindTo, PV.setAll, PV.wipeE, PV.backE, PV.forTurn, PV.tupT, PV.startE, PV.slotOf, PV.endC, PV.mutsAt, PV.runF, List.getElem?_cons_zero, List.getElem?_cons_succ, List.getElem?_nil, Option.bind_some, Option.bind_none, Option.map_some, Option.map_none, List.set_cons_zero, List.set_cons_succ, List.isEmpty_nil, List.isEmpty_cons, if_true, if_false, List.replicate_succ, List.replicate_zero, List.length_cons, List.length_nil, Bool.not_true, Bool.not_false, Bool.and_true, Bool.and_false, Bool.true_and, Bool.false_and, reduceCtorEq, ne_eq, not_false_eq_true, implies_true, Bool.true_or, Bool.false_or, Bool.or_true, Bool.or_false, Nat.reduceAdd, Nat.reduceLeDiff, Nat.reduceSub, hn]
    rfl
  | some i =>
    have hne : s.isEmpty = false := by
      cases s with
      | nil => cases hs
      | cons _ _ => rfl
    obtain ⟨q, hq⟩ : ∃ q, A[i]? = some q := ⟨_, List.getElem?_eq_getElem (h i hs)⟩
    have h1 : idxT S (.int (-1)) = some (.int (i : Nat)) := by
      rw [← hS]
      refine idx_last ?_
      unfold ins
      rw [List.getLast?_map, List.getLast?_map, hs]
      rfl
    have h2 : idxT (.lst (A.map arT)) (.int (i : Nat)) = some (.tup [.int q.1, .int q.2]) := idx_arr hq
    have he : endOf A p s = q.2 := by
      unfold endOf
      rw [hs]
      exact tgt_of (p := q.1) hq
    rw [hne] at hn
    have h1' : idxT S (.int (-(1 : Int))) = some (.int (i : Nat)) := h1
    simp only [PL.ev_con, PL.ev_loc, PL.ev_dk0, PL.ev_dk1, PL.ev_lst, PL.ev_tup, PL.ev_bin, PL.ev_neg, PL.ev_cmp, PL.ev_chn, PL.ev_and, PL.ev_or, PL.ev_tand, PL.ev_tor, PL.ev_not, PL.ev_ite, PL.ev_isn, PL.ev_isb, PL.ev_isi, PL.ev_call, PL.ev_call1, PL.ev_bi, PL.ev_app, PL.ev_ext, PL.ev_pop, PL.ev_popA, PL.ev_idx, PL.ev_ixof, PL.ev_slc, PL.ev_rev, PV.evO, PV.evOs, PV.evP, PV.evPs, PV.evF, PV.evB, PV.evS, PL.r_ok_bind, PL.r_bad_bind, PL.rs_of_ok, PL.exs_nil, PL.exs_ex, PL.exs_retl, PL.exs_ret, PL.exs_asg, PL.exs_unp, PL.exs_par, PL.exs_set, PL.exs_aug, PL.exs_ite, PL.nxt_nx, PL.nxt_rt, PL.nxt_bk, PL.nxt_ct, PV.res, PV.ress, PV.frz, PV.frzs, PV.slotT, PV.ofA, PV.ofB, PV.ofT, PV.ofA?, PV.store1, PV.callWith, PV.argsOf, PV.argOf, PV.mutsOf, PV.lentOf, PV.isOwn, PV.putBack, PV.appC, PV.extC, PV.popC, PV.popAC, PV.setIx, PV.truth, PV.storeAll, PL.big_le_0, PL.big_le_1, PL.big_le_2, PL.big_le_3, PL.big_le_4, PL.big_le_5, PL.big_le_6, PL.big_le_7, PL.big_le_8, PL.big_le_9, PL.big_le_10, PL.big_le_11, PL.big_le_12, PL.big_le_13, PV.unpT, PV.compTurn, PV.bindTo, PV.setAll, PV.wipeE, PV.backE, PV.forTurn, PV.tupT, PV.startE, PV.slotOf, PV.endC, PV.mutsAt, PV.runF, List.getElem?_cons_zero, List.getElem?_cons_succ, List.getElem?_nil, Option.bind_some, Option.bind_none, Option.map_some, Option.map_none, List.set_cons_zero, List.set_cons_succ, List.isEmpty_nil, List.isEmpty_cons, if_true, if_false, List.replicate_succ, List.replicate_zero, List.length_cons, List.length_nil, Bool.not_true, Bool.not_false, Bool.and_true, Bool.and_false, Bool.true_and, Bool.false_and, reduceCtorEq, ne_eq, not_false_eq_true, implies_true, Bool.true_or, Bool.false_or, Bool.or_true, Bool.or_false, Nat.reduceAdd, Nat.reduceLeDiff, Nat.reduceSub, hn, h1', h2, idx_t1, he]
end K85

set_option Elab.async false
set_option linter.all false
set_option maxRecDepth 1000000
set_option maxHeartbeats 8000000
namespace K85
open PV PySem PL
abbrev e12 : Ex := Ex.comp [5, 6] [6] false 0 [Ex.call 12 [] [Ex.loc 0, (Ex.loc 4).idx (Ex.con (T.int 1))]] none (Ex.bin Bin.add (Ex.tup [Ex.loc 3]) (Ex.loc 6))
abbrev b12 : List Sm := [Sm.ite (Ex.cmp Cmp.eq ((Ex.loc 4).idx (Ex.con (T.int 0))) (Ex.loc 1)) [Sm.ex (Ex.ext 2 e12)] []]
theorem c12_eq : c12 = [Sm.asg 2 (Ex.lst [Ex.tup []]), Sm.for_ [3, 4] true 3 [Ex.loc 0] b12, Sm.ret (Ex.loc 2)] := by kernel_rfl
theorem add_st {i : Nat} {s : List Nat} (h : s.length ≤ 1000) : binT .add (.tup [.int i]) (stT s) = some (.t (stT (i :: s))) := by
  show (if ([T.int i]).length + ((ins s).map T.int).length ≤ big then some (A.t (.tup ([T.int i] ++ (ins s).map T.int))) else none) = _
  rw [if_pos (by rw [List.length_map]; unfold ins; rw [List.length_map]; show 1 + s.length ≤ 16777216; omega)]
  rfl
theorem elt12 (F : Orc) (m : Nat) {a0 a1 a2 a4 : Sl} {i : Nat} {s : List Nat} (h : s.length ≤ 1000) : compTurn (ev pg F 4000 (m + 3)) [5, 6] [6] false none (Ex.bin Bin.add (Ex.tup [Ex.loc 3]) (Ex.loc 6)) (stT s) [a0, a1, a2, .v (.int i), a4, .u, .u] = .ok (some (stT (i :: s))) [a0, a1, a2, .v (.int i), a4, .u, .u] := by
  have hs := add_st (i := i) h
  simp only [PL.ev_con, PL.ev_loc, PL.ev_dk0, PL.ev_dk1, PL.ev_lst, PL.ev_tup, PL.ev_bin, PL.ev_neg, PL.ev_cmp, PL.ev_chn, PL.ev_and, PL.ev_or, PL.ev_tand, PL.ev_tor, PL.ev_not, PL.ev_ite, PL.ev_isn, PL.ev_isb, PL.ev_isi, PL.ev_call, PL.ev_call1, PL.ev_bi, PL.ev_app, PL.ev_ext, PL.ev_pop, PL.ev_popA, PL.ev_idx, PL.ev_ixof, PL.ev_slc, PL.ev_rev, PV.evO, PV.evOs, PV.evP, PV.evPs, PV.evF, PV.evB, PV.evS, PL.r_ok_bind, PL.r_bad_bind, PL.rs_of_ok, PL.exs_nil, PL.exs_ex, PL.exs_retl, PL.exs_ret, PL.exs_asg, PL.exs_unp, PL.exs_par, PL.exs_set, PL.exs_aug, PL.exs_ite, PL.nxt_nx, PL.nxt_rt, PL.nxt_bk, PL.nxt_ct, PV.res, PV.ress, PV.frz, PV.frzs, PV.slotT, PV.ofA, PV.ofB, PV.ofT, PV.ofA?, PV.store1, PV.callWith, PV.argsOf, PV.argOf, PV.mutsOf, PV.lentOf, PV.isOwn, PV.putBack, PV.appC, PV.extC, PV.popC, PV.popAC, PV.setIx, PV.truth, PV.storeAll, PL.big_le_0, PL.big_le_1, PL.big_le_2, PL.big_le_3, PL.big_le_4, PL.big_le_5, PL.big_le_6, PL.big_le_7, PL.big_le_8, PL.big_le_9, PL.big_le_10, PL.big_le_11, PL.big_le_12, PL.big_le_13, PV.unpT, PV.compTurn, PV.bindTo, PV.setAll, PV.wipeE, PV.backE, PV.forTurn, PV.tupT, PV.startE, PV.slotOf, PV.endC, PV.mutsAt, PV.runF, List.getElem?_cons_zero, List.getElem?_cons_succ, List.getElem?_nil, Option.bind_some, Option.bind_none, Option.map_some, Option.map_none, List.set_cons_zero, List.set_cons_succ, List.isEmpty_nil, List.isEmpty_cons, if_true, if_false, List.replicate_succ, List.replicate_zero, List.length_cons, List.length_nil, Bool.not_true, Bool.not_false, Bool.and_true, Bool.and_false, Bool.true_and, Bool.false_and, reduceCtorEq, ne_eq, not_false_eq_true, implies_true, Bool.true_or, Bool.false_or, Bool.or_true, Bool.or_false, Nat.reduceAdd, Nat.reduceLeDiff, Nat.reduceSub, hs]
theorem comp12 (F : Orc) (m : Nat) {x : T} {i b : Nat} {fs : List (List Nat)} {a1 a2 : Sl} {k : T} (hf : ∀ s ∈ fs, s.length ≤ 1000) (hl : fs.length < 1000) (hc : F 12 [.t x, .t (.int b)] = .ok (.f (fs.map stT)) []) :
    ev pg F 4000 (m + 6) e12 [.v x, a1, a2, .v (.int i), .v (.tup [k, .int b]), .u, .u] = .ok (.f (fs.map fun s => stT (i :: s))) [.v x, a1, a2, .v (.int i), .v (.tup [k, .int b]), .u, .u] := by
  have ho : evOs (ev pg F 4000 (m + 5)) [Ex.call 12 [] [Ex.loc 0, (Ex.loc 4).idx (Ex.con (T.int 1))]] [.v x, a1, a2, .v (.int i), .v (.tup [k, .int b]), .u, .u] = .ok [.f (fs.map stT)] [.v x, a1, a2, .v (.int i), .v (.tup [k, .int b]), .u, .u] := by
    simp only [PL.ev_con, PL.ev_loc, PL.ev_dk0, PL.ev_dk1, PL.ev_lst, PL.ev_tup, PL.ev_bin, PL.ev_neg, PL.ev_cmp, PL.ev_chn, PL.ev_and, PL.ev_or, PL.ev_tand, PL.ev_tor, PL.ev_not, PL.ev_ite, PL.ev_isn, PL.ev_isb, PL.ev_isi, PL.ev_call, PL.ev_call1, PL.ev_bi, PL.ev_app, PL.ev_ext, PL.ev_pop, PL.ev_popA, PL.ev_idx, PL.ev_ixof, PL.ev_slc, PL.ev_rev, PV.evO, PV.evOs, PV.evP, PV.evPs, PV.evF, PV.evB, PV.evS, PL.r_ok_bind, PL.r_bad_bind, PL.rs_of_ok, PL.exs_nil, PL.exs_ex, PL.exs_retl, PL.exs_ret, PL.exs_asg, PL.exs_unp, PL.exs_par, PL.exs_set, PL.exs_aug, PL.exs_ite, PL.nxt_nx, PL.nxt_rt, PL.nxt_bk, PL.nxt_ct, PV.res, PV.ress, PV.frz, PV.frzs, PV.slotT, PV.ofA, PV.ofB, PV.ofT, PV.ofA?, PV.store1, PV.callWith, PV.argsOf, PV.argOf, PV.mutsOf, PV.lentOf, PV.isOwn, PV.putBack, PV.appC, PV.extC, PV.popC, PV.popAC, PV.setIx, PV.truth, PV.storeAll, PL.big_le_0, PL.big_le_1, PL.big_le_2, PL.big_le_3, PL.big_le_4, PL.big_le_5, PL.big_le_6, PL.big_le_7, PL.big_le_8, PL.big_le_9, PL.big_le_10, PL.big_le_11, PL.big_le_12, PL.big_le_13, PV.unpT, PV.compTurn, PV.bindTo, PV.setAll, PV.wipeE, PV.backE, PV.forTurn, PV.tupT, PV.startE, PV.slotOf, PV.endC, PV.mutsAt, PV.runF, List.getElem?_cons_zero, List.getElem?_cons_succ, List.getElem?_nil, Option.bind_some, Option.bind_none, Option.map_some, Option.map_none, List.set_cons_zero, List.set_cons_succ, List.isEmpty_nil, List.isEmpty_cons, if_true, if_false, List.replicate_succ, List.replicate_zero, List.length_cons, List.length_nil, Bool.not_true, Bool.not_false, Bool.and_true, Bool.and_false, Bool.true_and, Bool.false_and, reduceCtorEq, ne_eq, not_false_eq_true, implies_true, Bool.true_or, Bool.false_or, Bool.or_true, Bool.or_false, Nat.reduceAdd, Nat.reduceLeDiff, Nat.reduceSub, idx_t1, hc, p12, List.contains_nil]
  have hiv : evIv (ev pg F 4000 (m + 5)) 0 [Ex.call 12 [] [Ex.loc 0, (Ex.loc 4).idx (Ex.con (T.int 1))]] [.v x, a1, a2, .v (.int i), .v (.tup [k, .int b]), .u, .u] = .ok (.sq true (.f (fs.map stT))) [.v x, a1, a2, .v (.int i), .v (.tup [k, .int b]), .u, .u] := by
    unfold evIv
    rw [ho]
    rfl
  rw [ev_comp_ok (xs := fs.map stT) (g := fun y => some (match y with | .tup l => .tup (.int i :: l) | y => y)) hiv rfl (fun j => rfl) (fun y hy => ?_) (by rw [List.length_map]; omega) (by rw [List.length_map]; unfold big; omega)]
  · rw [List.filterMap_map]
    congr 2
    rw [show ((fun y => some (match y with | T.tup l => T.tup (.int i :: l) | y => y)) ∘ stT) = fun s => some (stT (i :: s)) from rfl]
    simp
  · obtain ⟨s, hs, rfl⟩ := List.mem_map.mp hy
    exact elt12 F (m + 2) (hf s hs)
theorem eq_int (a b : Nat) : cmpT .eq (.int (a : Nat)) (.int (b : Nat)) = some (decide (a = b)) := by
  show some (((a : Int)) == (b : Int)) = _
  congr 1
  by_cases h : a = b
  · subst h; simp
  · have : ¬ (a : Int) = b := by omega
    simp [h, this]
theorem turn12n (F : Orc) {x : T} {p i a b : Nat} {found : List T} {s3 s4 : Sl} (hn : a ≠ p) :
    forTurn [3, 4] true (exs pg F 4000 60 58 b12) (.tup [.int i, .tup [.int a, .int b]]) [.v x, .v (.int p), .o true found, s3, s4, .u, .u] = .nx [.v x, .v (.int p), .o true found, .v (.int i), .v (.tup [.int a, .int b]), .u, .u] := by
  have h := eq_int a p
  rw [decide_eq_false hn] at h
  simp only [PL.ev_con, PL.ev_loc, PL.ev_dk0, PL.ev_dk1, PL.ev_lst, PL.ev_tup, PL.ev_bin, PL.ev_neg, PL.ev_cmp, PL.ev_chn, PL.ev_and, PL.ev_or, PL.ev_tand, PL.ev_tor, PL.ev_not, PL.ev_ite, PL.ev_isn, PL.ev_isb, PL.ev_isi, PL.ev_call, PL.ev_call1, PL.ev_bi, PL.ev_app, PL.ev_ext, PL.ev_pop, PL.ev_popA, PL.ev_idx, PL.ev_ixof, PL.ev_slc, PL.ev_rev, PV.evO, PV.evOs, PV.evP, PV.evPs, PV.evF, PV.evB, PV.evS, PL.r_ok_bind, PL.r_bad_bind, PL.rs_of_ok, PL.exs_nil, PL.exs_ex, PL.exs_retl, PL.exs_ret, PL.exs_asg, PL.exs_unp, PL.exs_par, PL.exs_set, PL.exs_aug, PL.exs_ite, PL.nxt_nx, PL.nxt_rt, PL.nxt_bk, PL.nxt_ct, PV.res, PV.ress, PV.frz, PV.frzs, PV.slotT, PV.ofA, PV.ofB, PV.ofT, PV.ofA?, PV.store1, PV.callWith, PV.argsOf, PV.argOf, PV.mutsOf, PV.lentOf, PV.isOwn, PV.putBack, PV.appC, PV.extC, PV.popC, PV.popAC, PV.setIx, PV.truth, PV.storeAll, PL.big_le_0, PL.big_le_1, PL.big_le_2, PL.big_le_3, PL.big_le_4, PL.big_le_5, PL.big_le_6, PL.big_le_7, PL.big_le_8, PL.big_le_9, PL.big_le_10, PL.big_le_11, PL.big_le_12, PL.big_le_13, PV.unpT, PV.compTurn, PV.bindTo, PV.setAll, PV.wipeE, PV.backE, PV.forTurn, PV.tupT, PV.startE, PV.slotOf, PV.endC, PV.mutsAt, PV.runF, List.getElem?_cons_zero, List.getElem?_cons_succ, List.getElem?_nil, Option.bind_some, Option.bind_none, Option.map_some, Option.map_none, List.set_cons_zero, List.set_cons_succ, List.isEmpty_nil, List.isEmpty_cons, if_true, if_false, List.replicate_succ, List.replicate_zero, List.length_cons, List.length_nil, Bool.not_true, Bool.not_false, Bool.and_true, Bool.and_false, Bool.true_and, Bool.false_and, reduceCtorEq, ne_eq, not_false_eq_true, implies_true, Bool.true_or, Bool.false_or, Bool.or_true, Bool.or_false, Nat.reduceAdd, Nat.reduceLeDiff, Nat.reduceSub, idx_t0, h]
theorem turn12y (F : Orc) {x : T} {p i b : Nat} {found : List T} {fs : List (List Nat)} {s3 s4 : Sl} (hf : ∀ s ∈ fs, s.length ≤ 1000) (hl : found.length + fs.length < 1000) (hc : F 12 [.t x, .t (.int b)] = .ok (.f (fs.map stT)) []) :
    forTurn [3, 4] true (exs pg F 4000 60 58 b12) (.tup [.int i, .tup [.int p, .int b]]) [.v x, .v (.int p), .o true found, s3, s4, .u, .u] = .nx [.v x, .v (.int p), .o true (found ++ fs.map fun s => stT (i :: s)), .v (.int i), .v (.tup [.int p, .int b]), .u, .u] := by
  have h := eq_int p p
  rw [decide_eq_true rfl] at h
  have hx := comp12 F 53 (x := x) (i := i) (b := b) (fs := fs) (a1 := .v (.int p)) (a2 := .o true found) (k := .int p) hf (by omega) hc
  simp only [PV.forTurn, PV.bindTo, PV.setAll, List.length_cons, List.length_nil, if_true, List.set_cons_zero, List.set_cons_succ, PV.tupT]
  rw [exs_ite]
  have hcond : evB (ev pg F 4000 60) (Ex.cmp Cmp.eq ((Ex.loc 4).idx (Ex.con (T.int 0))) (Ex.loc 1)) [.v x, .v (.int p), .o true found, .v (.int i), .v (.tup [.int p, .int b]), .u, .u] = .ok true [.v x, .v (.int p), .o true found, .v (.int i), .v (.tup [.int p, .int b]), .u, .u] := by
    simp only [PL.ev_con, PL.ev_loc, PL.ev_dk0, PL.ev_dk1, PL.ev_lst, PL.ev_tup, PL.ev_bin, PL.ev_neg, PL.ev_cmp, PL.ev_chn, PL.ev_and, PL.ev_or, PL.ev_tand, PL.ev_tor, PL.ev_not, PL.ev_ite, PL.ev_isn, PL.ev_isb, PL.ev_isi, PL.ev_call, PL.ev_call1, PL.ev_bi, PL.ev_app, PL.ev_ext, PL.ev_pop, PL.ev_popA, PL.ev_idx, PL.ev_ixof, PL.ev_slc, PL.ev_rev, PV.evO, PV.evOs, PV.evP, PV.evPs, PV.evF, PV.evB, PV.evS, PL.r_ok_bind, PL.r_bad_bind, PL.rs_of_ok, PL.exs_nil, PL.exs_ex, PL.exs_retl, PL.exs_ret, PL.exs_asg, PL.exs_unp, PL.exs_par, PL.exs_set, PL.exs_aug, PL.exs_ite, PL.nxt_nx, PL.nxt_rt, PL.nxt_bk, PL.nxt_ct, PV.res, PV.ress, PV.frz, PV.frzs, PV.slotT, PV.ofA, PV.ofB, PV.ofT, PV.ofA?, PV.store1, PV.callWith, PV.argsOf, PV.argOf, PV.mutsOf, PV.lentOf, PV.isOwn, PV.putBack, PV.appC, PV.extC, PV.popC, PV.popAC, PV.setIx, PV.truth, PV.storeAll, PL.big_le_0, PL.big_le_1, PL.big_le_2, PL.big_le_3, PL.big_le_4, PL.big_le_5, PL.big_le_6, PL.big_le_7, PL.big_le_8, PL.big_le_9, PL.big_le_10, PL.big_le_11, PL.big_le_12, PL.big_le_13, PV.unpT, PV.compTurn, PV.bindTo, PV.setAll, PV.wipeE, PV.backE, PV.forTurn, PV.tupT, PV.startE, PV.slotOf, PV.endC, PV.mutsAt, PV.runF, List.getElem?_cons_zero, List.getElem?_cons_succ, List.getElem?_nil, Option.bind_some, Option.bind_none, Option.map_some, Option.map_none, List.set_cons_zero, List.set_cons_succ, List.isEmpty_nil, List.isEmpty_cons, if_true, if_false, List.replicate_succ, List.replicate_zero, List.length_cons, List.length_nil, Bool.not_true, Bool.not_false, Bool.and_true, Bool.and_false, Bool.true_and, Bool.false_and, reduceCtorEq, ne_eq, not_false_eq_true, implies_true, Bool.true_or, Bool.false_or, Bool.or_true, Bool.or_false, Nat.reduceAdd, Nat.reduceLeDiff, Nat.reduceSub, idx_t0, h]
  rw [hcond]
  simp only [PL.rs_of_ok]
  rw [exs_ex, ev_ext]
  simp only [PV.isOwn, List.getElem?_cons_zero, List.getElem?_cons_succ, PV.evP, PV.evO]
  rw [hx]
  have hb : found.length + (fs.map fun s => stT (i :: s)).length ≤ big := by rw [List.length_map]; unfold big; omega
  simp only [PL.ev_con, PL.ev_loc, PL.ev_dk0, PL.ev_dk1, PL.ev_lst, PL.ev_tup, PL.ev_bin, PL.ev_neg, PL.ev_cmp, PL.ev_chn, PL.ev_and, PL.ev_or, PL.ev_tand, PL.ev_tor, PL.ev_not, PL.ev_ite, PL.ev_isn, PL.ev_isb, PL.ev_isi, PL.ev_call, PL.ev_call1, PL.ev_bi, PL.ev_app, PL.ev_ext, PL.ev_pop, PL.ev_popA, PL.ev_idx, PL.ev_ixof, PL.ev_slc, PL.ev_rev, PV.evO, PV.evOs, PV.evP, PV.evPs, PV.evF, PV.evB, PV.evS, PL.r_ok_bind, PL.r_bad_bind, PL.rs_of_ok, PL.exs_nil, PL.exs_ex, PL.exs_retl, PL.exs_ret, PL.exs_asg, PL.exs_unp, PL.exs_par, PL.exs_set, PL.exs_aug, PL.exs_ite, PL.nxt_nx, PL.nxt_rt, PL.nxt_bk, PL.nxt_ct, PV.res, PV.ress, PV.frz, PV.frzs, PV.slotT, PV.ofA, PV.ofB, PV.ofT, PV.ofA?, PV.store1, PV.callWith, PV.argsOf, PV.argOf, PV.mutsOf, PV.lentOf, PV.isOwn, PV.putBack, PV.appC, PV.extC, PV.popC, PV.popAC, PV.setIx, PV.truth, PV.storeAll, PL.big_le_0, PL.big_le_1, PL.big_le_2, PL.big_le_3, PL.big_le_4, PL.big_le_5, PL.big_le_6, PL.big_le_7, PL.big_le_8, PL.big_le_9, PL.big_le_10, PL.big_le_11, PL.big_le_12, PL.big_le_13, PV.unpT, PV.compTurn, PV.bindTo, PV.setAll, PV.wipeE, PV.backE, PV.forTurn, PV.tupT, PV.startE, PV.slotOf, PV.endC, PV.mutsAt, PV.runF, List.getElem?_cons_zero, List.getElem?_cons_succ, List.getElem?_nil, Option.bind_some, Option.bind_none, Option.map_some, Option.map_none, List.set_cons_zero, List.set_cons_succ, List.isEmpty_nil, List.isEmpty_cons, if_true, if_false, List.replicate_succ, List.replicate_zero, List.length_cons, List.length_nil, Bool.not_true, Bool.not_false, Bool.and_true, Bool.and_false, Bool.true_and, Bool.false_and, reduceCtorEq, ne_eq, not_false_eq_true, implies_true, Bool.true_or, Bool.false_or, Bool.or_true, Bool.or_false, Nat.reduceAdd, Nat.reduceLeDiff, Nat.reduceSub, hb]
end K85

set_option Elab.async false
set_option linter.all false
set_option maxRecDepth 1000000
set_option maxHeartbeats 8000000
namespace K85
open PV PySem PL
theorem flat_len {α β : Type} {B : Nat} {f : α → List β} : ∀ {l : List α}, (∀ a ∈ l, (f a).length ≤ B) → (l.flatMap f).length ≤ l.length * B
  | [], _ => Nat.zero_le _
  | a :: l, h => by
    rw [List.flatMap_cons, List.length_append, List.length_cons, Nat.succ_mul, Nat.add_comm]
    exact Nat.add_le_add (flat_len fun b hb => h b (List.mem_cons_of_mem _ hb)) (h a List.mem_cons_self)
def Bd : Nat → Nat
  | 0 => 0
  | n + 1 => 1 + 7 * Bd n
theorem bd_le : ∀ {n : Nat}, n ≤ 4 → Bd n ≤ 400
  | 0, _ => by decide
  | 1, _ => by decide
  | 2, _ => by decide
  | 3, _ => by decide
  | 4, _ => by decide
  | n + 5, h => by omega
theorem nexts_len (A : List (Nat × Nat)) (p : Nat) : (nexts A p).length ≤ A.length := by
  unfold nexts
  exact Nat.le_trans (List.length_filter_le _ _) (Nat.le_of_eq List.length_range)
theorem fr_len {A : List (Nat × Nat)} (hA : A.length ≤ 7) : ∀ n p, (fr A n p).length ≤ Bd n
  | 0, p => Nat.zero_le _
  | n + 1, p => by
    show ([] :: (nexts A p).flatMap fun i => (fr A n (tgt A i)).map (i :: ·)).length ≤ 1 + 7 * Bd n
    have h := flat_len (B := Bd n) (f := fun i => (fr A n (tgt A i)).map (i :: ·)) (l := nexts A p) fun i _ => by rw [List.length_map]; exact fr_len hA n _
    have h2 : (nexts A p).length * Bd n ≤ 7 * Bd n := Nat.mul_le_mul_right _ (Nat.le_trans (nexts_len A p) hA)
    rw [List.length_cons]
    omega
theorem fr_short {A : List (Nat × Nat)} : ∀ n p s, s ∈ fr A n p → s.length ≤ n
  | 0, p, s, h => by cases h
  | n + 1, p, s, h => by
    rcases List.mem_cons.mp h with rfl | h
    · exact Nat.zero_le _
    · obtain ⟨i, _, hs⟩ := List.mem_flatMap.mp h
      obtain ⟨t, ht, rfl⟩ := List.mem_map.mp hs
      rw [List.length_cons]
      exact Nat.succ_le_succ (fr_short n _ t ht)
def nextsTo (A : List (Nat × Nat)) (p i : Nat) : List Nat := (List.range i).filter fun i => ((A[i]?).map (·.1)) == some p
def part (A : List (Nat × Nat)) (n p i : Nat) : List (List Nat) := [] :: (nextsTo A p i).flatMap fun j => (fr A n (tgt A j)).map (j :: ·)
theorem part_all (A : List (Nat × Nat)) (n p : Nat) : part A n p A.length = fr A (n + 1) p := rfl
theorem part_y {A : List (Nat × Nat)} {n p i b : Nat} (h : A[i]? = some (p, b)) : part A n p (i + 1) = part A n p i ++ (fr A n b).map (i :: ·) := by
  unfold part nextsTo
  rw [List.range_succ, List.filter_append, List.flatMap_append]
  have : List.filter (fun i => ((A[i]?).map (·.1)) == some p) [i] = [i] := by simp [h]
  rw [this, List.flatMap_cons, List.flatMap_nil, List.append_nil, tgt_of h]
  rfl
theorem part_n {A : List (Nat × Nat)} {n p i a b : Nat} (h : A[i]? = some (a, b)) (hn : a ≠ p) : part A n p (i + 1) = part A n p i := by
  unfold part nextsTo
  rw [List.range_succ, List.filter_append, List.flatMap_append]
  have : List.filter (fun i => ((A[i]?).map (·.1)) == some p) [i] = [] := by simp [h, hn]
  rw [this, List.flatMap_nil, List.append_nil]
theorem part_len {A : List (Nat × Nat)} (hA : A.length ≤ 7) {n p i : Nat} (hn : n ≤ 3) (hi : i ≤ 7) : (part A n p i).length ≤ 400 := by
  have h := flat_len (B := Bd n) (f := fun j => (fr A n (tgt A j)).map (j :: ·)) (l := nextsTo A p i) fun j _ => by rw [List.length_map]; exact fr_len hA n _
  have h1 : (nextsTo A p i).length ≤ 7 := Nat.le_trans (List.length_filter_le _ _) (by rw [List.length_range]; exact hi)
  have h2 : (nextsTo A p i).length * Bd n ≤ 7 * Bd n := Nat.mul_le_mul_right _ h1
  have h3 : Bd (n + 1) ≤ 400 := bd_le (by omega)
  have h4 : Bd (n + 1) = 1 + 7 * Bd n := rfl
  unfold part
  rw [List.length_cons]
  omega
theorem ch_next {A : List (Nat × Nat)} {n p i b : Nat} (h : ch A (n + 1) p = []) (hb : A[i]? = some (p, b)) : ch A n b = [] := by
  have z : ∀ j ∈ nexts A p, (ch A n (tgt A j)).map (j :: ·) = [] := List.flatMap_eq_nil_iff.mp h
  have y := z i (mem_nexts.mpr ⟨b, hb⟩)
  rw [tgt_of hb] at y
  exact List.map_eq_nil_iff.mp y
theorem iv_en {x : List T} {ρ : Rho} : ivOf 3 ρ [.x (.lst x)] = some (.en (.x (.lst x))) := rfl
theorem evIf_en {ih : Ex → Rho → PV.R A} {x : List T} {r : Rho} (h : evOs ih [.loc 0] (.v (.lst x) :: r) = .ok [.d 0] (.v (.lst x) :: r)) : evIf ih 3 [.loc 0] (.v (.lst x) :: r) = .ok (.en (.x (.lst x))) (.v (.lst x) :: r) := by
  unfold evIf
  rw [h]
  rfl
def enT (x : List T) : List T := x.zipIdx.map fun p => .tup [.int (p.2 : Nat), p.1]
theorem enT_get (x : List T) (i : Nat) : (x[i]?).map (fun y => T.tup [.int (i : Nat), y]) = (enT x)[i]? := by
  unfold enT
  rw [List.getElem?_map, List.getElem?_zipIdx]
  cases x[i]? <;> simp
theorem enT_len (x : List T) : (enT x).length = x.length := by unfold enT; rw [List.length_map, List.length_zipIdx]
theorem go12 {A : List (Nat × Nat)} (hA : A.length ≤ 7) (d n p : Nat) (hn : n ≤ 3) (hF : ∀ (i b : Nat), A[i]? = some (p, b) → Fo d 12 [.t (.lst (A.map arT)), .t (.int b)] = .ok (.f ((fr A n b).map stT)) []) : Fo (d + 1) 12 [.t (.lst (A.map arT)), .t (.int p)] = .ok (.f ((fr A (n + 1) p).map stT)) [] := by
  have step : ∀ (i : Nat) (x : T) (ρ : Rho), (enT (A.map arT))[i]? = some x → (∃ s3 s4, ρ = [.v (.lst (A.map arT)), .v (.int p), .o true ((part A n p i).map stT), s3, s4, .u, .u]) →
      ∃ ρ', forTurn [3, 4] true (exs pg (Fo d) 4000 60 58 b12) x ρ = .nx ρ' ∧ ∃ s3 s4, ρ' = [.v (.lst (A.map arT)), .v (.int p), .o true ((part A n p (i + 1)).map stT), s3, s4, .u, .u] := by
    rintro i x ρ hx ⟨s3, s4, rfl⟩
    rw [← enT_get, List.getElem?_map] at hx
    cases hq : A[i]? with
    | none => rw [hq] at hx; cases hx
    | some q =>
      obtain ⟨a, b⟩ := q
      rw [hq] at hx
      cases hx
      have hi := (List.getElem?_eq_some_iff.mp hq).1
      by_cases hap : a = p
      · subst hap
        refine ⟨_, turn12y (Fo d) (fs := fr A n b) (fun s hs => Nat.le_trans (fr_short n b s hs) (by omega)) ?_ (hF i b hq), .v (.int i), .v (.tup [.int a, .int b]), ?_⟩
        · have h1 := part_len hA (p := a) (i := i) hn (by omega)
          have h2 := fr_len hA n b
          have h3 : Bd n ≤ 400 := bd_le (by omega)
          rw [List.length_map]; omega
        · rw [part_y hq, List.map_append, List.map_map]; rfl
      · exact ⟨_, turn12n (Fo d) hap, .v (.int i), .v (.tup [.int a, .int b]), by rw [part_n hq hap]⟩
  have hx : ∀ (i : Nat) (ρ : Rho), turnAt ρ i (.en (.x (.lst (A.map arT)))) = some ((enT (A.map arT))[i]?) := fun i ρ => by
    rw [← enT_get]; rfl
  obtain ⟨ρ', e1, s3, s4, e2⟩ := forL_inv (fun i ρ => ∃ s3 s4, ρ = [.v (.lst (A.map arT)), .v (.int p), .o true ((part A n p i).map stT), s3, s4, .u, .u]) hx step 4000 0 [.v (.lst (A.map arT)), .v (.int p), .o true ((part A n p 0).map stT), .u, .u, .u, .u] (Nat.zero_le _) (by rw [enT_len, List.length_map]; omega) ⟨_, _, rfl⟩
  rw [enT_len, List.length_map, part_all] at e2
  subst e2
  refine Fd_rt (ρ0 := [.v (.lst (A.map arT)), .v (.int p), .u, .u, .u, .u, .u]) (ρ := [.v (.lst (A.map arT)), .v (.int p), .o true ((fr A (n + 1) p).map stT), s3, s4, .u, .u]) p12 rfl ?_ rfl
  show exs pg (Fo d) 4000 60 60 c12 _ = _
  rw [c12_eq, exs_asg]
  simp only [PL.ev_lst, PL.ev_tup, PV.evOs, PV.evO, PL.r_ok_bind, PV.frzs, PV.frz, PV.ofA, List.length_cons, List.length_nil, Nat.zero_add, Nat.reduceAdd, PL.big_le_0, PL.big_le_1, if_true, PL.rs_of_ok, PV.store1, List.set_cons_zero, List.set_cons_succ, PL.nxt_nx]
  rw [exs_for, evIf_en rfl]
  simp only [PL.rs_of_ok]
  have e1' : forL (forTurn [3, 4] true (exs pg (Fo d) 4000 60 58 b12)) (.en (.x (.lst (A.map arT)))) 4000 0 [.v (.lst (A.map arT)), .v (.int p), .o true [.tup []], .u, .u, .u, .u] = .nx [.v (.lst (A.map arT)), .v (.int p), .o true ((fr A (n + 1) p).map stT), s3, s4, .u, .u] := e1
  rw [e1']
  simp only [PL.nxt_nx]
  rfl
theorem f12 {A : List (Nat × Nat)} (hA : A.length ≤ 7) : ∀ (n d p : Nat), n ≤ 3 → ch A (n + 1) p = [] → Fo (d + (n + 1)) 12 [.t (.lst (A.map arT)), .t (.int p)] = .ok (.f ((fr A (n + 1) p).map stT)) [] := by
  intro n
  induction n with
  | zero =>
    intro d p _ hp
    exact go12 hA d 0 p (by omega) fun i b hb => by
      have z := ch_next hp hb
      cases z
  | succ n ih =>
    intro d p hn hp
    exact go12 hA (d + (n + 1)) (n + 1) p hn fun i b hb => ih d b (by omega) (ch_next hp hb)
end K85

set_option Elab.async false
set_option linter.all false
set_option maxRecDepth 1000000
set_option maxHeartbeats 8000000
namespace K85
open PV PySem PL
abbrev e7 : Ex := Ex.comp [8, 10, 11] [10, 11] true 3 [Ex.loc 1] (some (Ex.cmp Cmp.eq ((Ex.loc 11).idx (Ex.con (T.int 0))) (Ex.loc 7))) (Ex.tup [Ex.loc 5, Ex.bin Bin.add (Ex.loc 6) (Ex.tup [Ex.loc 10])])
abbrev b7 : List Sm := [Sm.asg 7 (Ex.call 6 [] [Ex.loc 1, Ex.tup [Ex.loc 5, Ex.loc 6]]), Sm.ex (Ex.ext 4 e7)]
abbrev w7 : List Sm := [Sm.ex (Ex.ext 2 (Ex.loc 3)), Sm.asg 4 (Ex.lst []), Sm.for_ [5, 6] true 0 [Ex.loc 3] b7, Sm.asg 3 (Ex.bi Bi.sorted [Ex.loc 4])]
theorem c7_eq : c7 = [Sm.par 2 3 (Ex.lst []) (Ex.comp [8, 9] [9] false 1 [Ex.loc 0] none (Ex.tup [Ex.loc 9, Ex.tup []])), Sm.whl (Ex.cmp Cmp.ne (Ex.loc 3) (Ex.lst [])) w7, Sm.ret (Ex.loc 2)] := by kernel_rfl
theorem add_end {i : Nat} {s : List Nat} (h : s.length ≤ 1000) : binT .add (stT s) (.tup [.int i]) = some (.t (stT (s ++ [i]))) := by
  show (if ((ins s).map T.int).length + ([T.int i]).length ≤ big then some (A.t (.tup ((ins s).map T.int ++ [T.int i]))) else none) = _
  rw [if_pos (by rw [List.length_map]; unfold ins; rw [List.length_map]; show s.length + 1 ≤ 16777216; omega)]
  unfold stT ins
  rw [List.map_append, List.map_append]
  rfl
theorem elt7y (F : Orc) (m : Nat) {a0 a1 a2 a3 a4 : Sl} {p e i b : Nat} {s : List Nat} (h : s.length ≤ 1000) : compTurn (ev pg F 4000 (m + 3)) [8, 10, 11] [10, 11] true (some (Ex.cmp Cmp.eq ((Ex.loc 11).idx (Ex.con (T.int 0))) (Ex.loc 7))) (Ex.tup [Ex.loc 5, Ex.bin Bin.add (Ex.loc 6) (Ex.tup [Ex.loc 10])]) (.tup [.int i, .tup [.int e, .int b]]) [a0, a1, a2, a3, a4, .v (.int p), .v (stT s), .v (.int e), .u, .u, .u, .u] = .ok (some (paT (p, s ++ [i]))) [a0, a1, a2, a3, a4, .v (.int p), .v (stT s), .v (.int e), .u, .u, .u, .u] := by
  have hs := add_end (i := i) h
  have h := eq_int e e
  rw [decide_eq_true rfl] at h
  simp only [PL.ev_con, PL.ev_loc, PL.ev_dk0, PL.ev_dk1, PL.ev_lst, PL.ev_tup, PL.ev_bin, PL.ev_neg, PL.ev_cmp, PL.ev_chn, PL.ev_and, PL.ev_or, PL.ev_tand, PL.ev_tor, PL.ev_not, PL.ev_ite, PL.ev_isn, PL.ev_isb, PL.ev_isi, PL.ev_call, PL.ev_call1, PL.ev_bi, PL.ev_app, PL.ev_ext, PL.ev_pop, PL.ev_popA, PL.ev_idx, PL.ev_ixof, PL.ev_slc, PL.ev_rev, PV.evO, PV.evOs, PV.evP, PV.evPs, PV.evF, PV.evB, PV.evS, PL.r_ok_bind, PL.r_bad_bind, PL.rs_of_ok, PL.exs_nil, PL.exs_ex, PL.exs_retl, PL.exs_ret, PL.exs_asg, PL.exs_unp, PL.exs_par, PL.exs_set, PL.exs_aug, PL.exs_ite, PL.nxt_nx, PL.nxt_rt, PL.nxt_bk, PL.nxt_ct, PV.res, PV.ress, PV.frz, PV.frzs, PV.slotT, PV.ofA, PV.ofB, PV.ofT, PV.ofA?, PV.store1, PV.callWith, PV.argsOf, PV.argOf, PV.mutsOf, PV.lentOf, PV.isOwn, PV.putBack, PV.appC, PV.extC, PV.popC, PV.popAC, PV.setIx, PV.truth, PV.storeAll, PL.big_le_0, PL.big_le_1, PL.big_le_2, PL.big_le_3, PL.big_le_4, PL.big_le_5, PL.big_le_6, PL.big_le_7, PL.big_le_8, PL.big_le_9, PL.big_le_10, PL.big_le_11, PL.big_le_12, PL.big_le_13, PV.unpT, PV.compTurn, PV.bindTo, PV.setAll, PV.wipeE, PV.backE, PV.forTurn, PV.tupT, PV.startE, PV.slotOf, PV.endC, PV.mutsAt, PV.runF, List.getElem?_cons_zero, List.getElem?_cons_succ, List.getElem?_nil, Option.bind_some, Option.bind_none, Option.map_some, Option.map_none, List.set_cons_zero, List.set_cons_succ, List.isEmpty_nil, List.isEmpty_cons, if_true, if_false, List.replicate_succ, List.replicate_zero, List.length_cons, List.length_nil, Bool.not_true, Bool.not_false, Bool.and_true, Bool.and_false, Bool.true_and, Bool.false_and, reduceCtorEq, ne_eq, not_false_eq_true, implies_true, Bool.true_or, Bool.false_or, Bool.or_true, Bool.or_false, Nat.reduceAdd, Nat.reduceLeDiff, Nat.reduceSub, hs, idx_t0, h]
  rfl
theorem elt7n (F : Orc) (m : Nat) {a0 a1 a2 a3 a4 : Sl} {p e i a b : Nat} {s : List Nat} (hn : a ≠ e) : compTurn (ev pg F 4000 (m + 3)) [8, 10, 11] [10, 11] true (some (Ex.cmp Cmp.eq ((Ex.loc 11).idx (Ex.con (T.int 0))) (Ex.loc 7))) (Ex.tup [Ex.loc 5, Ex.bin Bin.add (Ex.loc 6) (Ex.tup [Ex.loc 10])]) (.tup [.int i, .tup [.int a, .int b]]) [a0, a1, a2, a3, a4, .v (.int p), .v (stT s), .v (.int e), .u, .u, .u, .u] = .ok none [a0, a1, a2, a3, a4, .v (.int p), .v (stT s), .v (.int e), .u, .u, .u, .u] := by
  have h := eq_int a e
  rw [decide_eq_false hn] at h
  simp only [PL.ev_con, PL.ev_loc, PL.ev_dk0, PL.ev_dk1, PL.ev_lst, PL.ev_tup, PL.ev_bin, PL.ev_neg, PL.ev_cmp, PL.ev_chn, PL.ev_and, PL.ev_or, PL.ev_tand, PL.ev_tor, PL.ev_not, PL.ev_ite, PL.ev_isn, PL.ev_isb, PL.ev_isi, PL.ev_call, PL.ev_call1, PL.ev_bi, PL.ev_app, PL.ev_ext, PL.ev_pop, PL.ev_popA, PL.ev_idx, PL.ev_ixof, PL.ev_slc, PL.ev_rev, PV.evO, PV.evOs, PV.evP, PV.evPs, PV.evF, PV.evB, PV.evS, PL.r_ok_bind, PL.r_bad_bind, PL.rs_of_ok, PL.exs_nil, PL.exs_ex, PL.exs_retl, PL.exs_ret, PL.exs_asg, PL.exs_unp, PL.exs_par, PL.exs_set, PL.exs_aug, PL.exs_ite, PL.nxt_nx, PL.nxt_rt, PL.nxt_bk, PL.nxt_ct, PV.res, PV.ress, PV.frz, PV.frzs, PV.slotT, PV.ofA, PV.ofB, PV.ofT, PV.ofA?, PV.store1, PV.callWith, PV.argsOf, PV.argOf, PV.mutsOf, PV.lentOf, PV.isOwn, PV.putBack, PV.appC, PV.extC, PV.popC, PV.popAC, PV.setIx, PV.truth, PV.storeAll, PL.big_le_0, PL.big_le_1, PL.big_le_2, PL.big_le_3, PL.big_le_4, PL.big_le_5, PL.big_le_6, PL.big_le_7, PL.big_le_8, PL.big_le_9, PL.big_le_10, PL.big_le_11, PL.big_le_12, PL.big_le_13, PV.unpT, PV.compTurn, PV.bindTo, PV.setAll, PV.wipeE, PV.backE, PV.forTurn, PV.tupT, PV.startE, PV.slotOf, PV.endC, PV.mutsAt, PV.runF, List.getElem?_cons_zero, List.getElem?_cons_succ, List.getElem?_nil, Option.bind_some, Option.bind_none, Option.map_some, Option.map_none, List.set_cons_zero, List.set_cons_succ, List.isEmpty_nil, List.isEmpty_cons, if_true, if_false, List.replicate_succ, List.replicate_zero, List.length_cons, List.length_nil, Bool.not_true, Bool.not_false, Bool.and_true, Bool.and_false, Bool.true_and, Bool.false_and, reduceCtorEq, ne_eq, not_false_eq_true, implies_true, Bool.true_or, Bool.false_or, Bool.or_true, Bool.or_false, Nat.reduceAdd, Nat.reduceLeDiff, Nat.reduceSub, idx_t0, h]
theorem enT_eq (A : List (Nat × Nat)) : enT (A.map arT) = (List.range A.length).map fun i => T.tup [.int (i : Nat), arT (A.getD i (0, 0))] := by
  refine List.ext_getElem? fun i => ?_
  rw [← enT_get, List.getElem?_map, List.getElem?_map]
  by_cases h : i < A.length
  · rw [List.getElem?_eq_getElem h, List.getElem?_range h]
    simp [List.getD_eq_getElem?_getD, List.getElem?_eq_getElem h]
  · rw [List.getElem?_eq_none (by omega), List.getElem?_eq_none (by rw [List.length_range]; omega)]
    rfl
theorem fm_congr {α β : Type} {f g : α → Option β} : ∀ {l : List α}, (∀ a ∈ l, f a = g a) → l.filterMap f = l.filterMap g
  | [], _ => rfl
  | a :: l, h => by
    rw [List.filterMap_cons, List.filterMap_cons, h a List.mem_cons_self, fm_congr fun b hb => h b (List.mem_cons_of_mem _ hb)]
def g7 (p e : Nat) (s : List Nat) : T → Option T
  | .tup [.int i, .tup [.int a, _]] => if a = (e : Int) then some (paT (p, s ++ [i.toNat])) else none
  | _ => none
theorem g7_ok (A : List (Nat × Nat)) (p e : Nat) (s : List Nat) : (enT (A.map arT)).filterMap (g7 p e s) = (nexts A e).map fun i => paT (p, s ++ [i]) := by
  rw [enT_eq, List.filterMap_map]
  unfold nexts
  rw [← List.filterMap_eq_map, List.filterMap_filter]
  refine fm_congr fun i hi => ?_
  have hi' := List.mem_range.mp hi
  show (if ((A.getD i (0, 0)).1 : Int) = (e : Int) then some (paT (p, s ++ [((i : Nat) : Int).toNat])) else none) = _
  rw [List.getD_eq_getElem?_getD, List.getElem?_eq_getElem hi', Int.toNat_natCast]
  by_cases h : (A[i]).1 = e
  · simp [h]
  · have h' : ¬ ((A[i]).1 : Int) = e := by omega
    simp [h, h']
theorem comp7 (F : Orc) (m : Nat) {A : List (Nat × Nat)} (hA : A.length ≤ 7) {a0 a2 a3 a4 : Sl} {p e : Nat} {s : List Nat} (h : s.length ≤ 1000) :
    ev pg F 4000 (m + 6) e7 [a0, .v (.lst (A.map arT)), a2, a3, a4, .v (.int p), .v (stT s), .v (.int e), .u, .u, .u, .u] = .ok (.f ((nexts A e).map fun i => paT (p, s ++ [i]))) [a0, .v (.lst (A.map arT)), a2, a3, a4, .v (.int p), .v (stT s), .v (.int e), .u, .u, .u, .u] := by
  have hiv : evIv (ev pg F 4000 (m + 5)) 3 [Ex.loc 1] [a0, .v (.lst (A.map arT)), a2, a3, a4, .v (.int p), .v (stT s), .v (.int e), .u, .u, .u, .u] = .ok (.en (.d 1)) [a0, .v (.lst (A.map arT)), a2, a3, a4, .v (.int p), .v (stT s), .v (.int e), .u, .u, .u, .u] := rfl
  rw [ev_comp_ok (xs := enT (A.map arT)) (g := g7 p e s) hiv rfl (fun j => by rw [← enT_get]; rfl) (fun y hy => ?_) (by rw [enT_len, List.length_map]; omega) (by rw [enT_len, List.length_map]; unfold big; omega), g7_ok]
  · rfl
  · rw [enT_eq] at hy
    obtain ⟨i, hi, rfl⟩ := List.mem_map.mp hy
    obtain ⟨a, b⟩ := A.getD i (0, 0)
    show compTurn _ _ _ _ _ _ (.tup [.int (i : Nat), .tup [.int a, .int b]]) _ = .ok (if (a : Int) = (e : Int) then some (paT (p, s ++ [((i : Nat) : Int).toNat])) else none) _
    rw [Int.toNat_natCast]
    by_cases hae : a = e
    · subst hae
      rw [if_pos rfl]
      exact elt7y F (m + 2) h
    · rw [if_neg (by omega)]
      exact elt7n F (m + 2) hae
theorem turn7 (F : Orc) {A : List (Nat × Nat)} (hA : A.length ≤ 7) {p e : Nat} {s : List Nat} (h : s.length ≤ 1000) {a0 a2 a3 s5 s6 s7 : Sl} {lg : List T} (hl : lg.length ≤ 100000) (hc : F 6 [.t (.lst (A.map arT)), .t (paT (p, s))] = .ok (.t (.int (e : Nat))) []) :
    forTurn [5, 6] true (exs pg F 4000 60 55 b7) (paT (p, s)) [a0, .v (.lst (A.map arT)), a2, a3, .o true lg, s5, s6, s7, .u, .u, .u, .u] = .nx [a0, .v (.lst (A.map arT)), a2, a3, .o true (lg ++ (nexts A e).map fun i => paT (p, s ++ [i])), .v (.int p), .v (stT s), .v (.int e), .u, .u, .u, .u] := by
  unfold paT at hc ⊢
  have hx : ev pg F 4000 59 e7 _ = _ := comp7 F 53 hA (a0 := a0) (a2 := a2) (a3 := a3) (a4 := .o true lg) (p := p) (e := e) h
  simp only [PV.forTurn, PV.bindTo, PV.setAll, List.length_cons, List.length_nil, if_true, List.set_cons_zero, List.set_cons_succ, PV.tupT]
  have hx' : ev pg F 4000 60 e7 [a0, .v (.lst (A.map arT)), a2, a3, .o true lg, .v (.int p), .v (stT s), .v (.int e), .u, .u, .u, .u] = .ok (.f ((nexts A e).map fun i => paT (p, s ++ [i]))) [a0, .v (.lst (A.map arT)), a2, a3, .o true lg, .v (.int p), .v (stT s), .v (.int e), .u, .u, .u, .u] := comp7 F 54 hA h
  have hb : lg.length + ((nexts A e).map fun i => paT (p, s ++ [i])).length ≤ big := by
    have := nexts_len A e
    rw [List.length_map]; unfold big; omega
  have hX : exs pg F 4000 60 54 [Sm.ex (Ex.ext 4 e7)] [a0, .v (.lst (A.map arT)), a2, a3, .o true lg, .v (.int p), .v (stT s), .v (.int e), .u, .u, .u, .u] = .nx [a0, .v (.lst (A.map arT)), a2, a3, .o true (lg ++ (nexts A e).map fun i => paT (p, s ++ [i])), .v (.int p), .v (stT s), .v (.int e), .u, .u, .u, .u] := by
    rw [exs_ex, ev_ext]
    simp only [PV.isOwn, List.getElem?_cons_zero, List.getElem?_cons_succ, PV.evP, PV.evO]
    rw [hx]
    simp only [PL.ev_con, PL.ev_loc, PL.ev_dk0, PL.ev_dk1, PL.ev_lst, PL.ev_tup, PL.ev_bin, PL.ev_neg, PL.ev_cmp, PL.ev_chn, PL.ev_and, PL.ev_or, PL.ev_tand, PL.ev_tor, PL.ev_not, PL.ev_ite, PL.ev_isn, PL.ev_isb, PL.ev_isi, PL.ev_call, PL.ev_call1, PL.ev_bi, PL.ev_app, PL.ev_ext, PL.ev_pop, PL.ev_popA, PL.ev_idx, PL.ev_ixof, PL.ev_slc, PL.ev_rev, PV.evO, PV.evOs, PV.evP, PV.evPs, PV.evF, PV.evB, PV.evS, PL.r_ok_bind, PL.r_bad_bind, PL.rs_of_ok, PL.exs_nil, PL.exs_ex, PL.exs_retl, PL.exs_ret, PL.exs_asg, PL.exs_unp, PL.exs_par, PL.exs_set, PL.exs_aug, PL.exs_ite, PL.nxt_nx, PL.nxt_rt, PL.nxt_bk, PL.nxt_ct, PV.res, PV.ress, PV.frz, PV.frzs, PV.slotT, PV.ofA, PV.ofB, PV.ofT, PV.ofA?, PV.store1, PV.callWith, PV.argsOf, PV.argOf, PV.mutsOf, PV.lentOf, PV.isOwn, PV.putBack, PV.appC, PV.extC, PV.popC, PV.popAC, PV.setIx, PV.truth, PV.storeAll, PL.big_le_0, PL.big_le_1, PL.big_le_2, PL.big_le_3, PL.big_le_4, PL.big_le_5, PL.big_le_6, PL.big_le_7, PL.big_le_8, PL.big_le_9, PL.big_le_10, PL.big_le_11, PL.big_le_12, PL.big_le_13, PV.unpT, PV.compTurn, PV.bindTo, PV.setAll, PV.wipeE, PV.backE, PV.forTurn, PV.tupT, PV.startE, PV.slotOf, PV.endC, PV.mutsAt, PV.runF, List.getElem?_cons_zero, List.getElem?_cons_succ, List.getElem?_nil, Option.bind_some, Option.bind_none, Option.map_some, Option.map_none, List.set_cons_zero, List.set_cons_succ, List.isEmpty_nil, List.isEmpty_cons, if_true, if_false, List.replicate_succ, List.replicate_zero, List.length_cons, List.length_nil, Bool.not_true, Bool.not_false, Bool.and_true, Bool.and_false, Bool.true_and, Bool.false_and, reduceCtorEq, ne_eq, not_false_eq_true, implies_true, Bool.true_or, Bool.false_or, Bool.or_true, Bool.or_false, Nat.reduceAdd, Nat.reduceLeDiff, Nat.reduceSub, hb]
  rw [exs_asg]
  generalize exs pg F 4000 60 54 [Sm.ex (Ex.ext 4 e7)] = k at hX ⊢
  simp only [PL.ev_con, PL.ev_loc, PL.ev_dk0, PL.ev_dk1, PL.ev_lst, PL.ev_tup, PL.ev_bin, PL.ev_neg, PL.ev_cmp, PL.ev_chn, PL.ev_and, PL.ev_or, PL.ev_tand, PL.ev_tor, PL.ev_not, PL.ev_ite, PL.ev_isn, PL.ev_isb, PL.ev_isi, PL.ev_call, PL.ev_call1, PL.ev_bi, PL.ev_app, PL.ev_ext, PL.ev_pop, PL.ev_popA, PL.ev_idx, PL.ev_ixof, PL.ev_slc, PL.ev_rev, PV.evO, PV.evOs, PV.evP, PV.evPs, PV.evF, PV.evB, PV.evS, PL.r_ok_bind, PL.r_bad_bind, PL.rs_of_ok, PL.exs_nil, PL.exs_ex, PL.exs_retl, PL.exs_ret, PL.exs_asg, PL.exs_unp, PL.exs_par, PL.exs_set, PL.exs_aug, PL.exs_ite, PL.nxt_nx, PL.nxt_rt, PL.nxt_bk, PL.nxt_ct, PV.res, PV.ress, PV.frz, PV.frzs, PV.slotT, PV.ofA, PV.ofB, PV.ofT, PV.ofA?, PV.store1, PV.callWith, PV.argsOf, PV.argOf, PV.mutsOf, PV.lentOf, PV.isOwn, PV.putBack, PV.appC, PV.extC, PV.popC, PV.popAC, PV.setIx, PV.truth, PV.storeAll, PL.big_le_0, PL.big_le_1, PL.big_le_2, PL.big_le_3, PL.big_le_4, PL.big_le_5, PL.big_le_6, PL.big_le_7, PL.big_le_8, PL.big_le_9, PL.big_le_10, PL.big_le_11, PL.big_le_12, PL.big_le_13, PV.unpT, PV.compTurn, PV.bindTo, PV.setAll, PV.wipeE, PV.backE, PV.forTurn, PV.tupT, PV.startE, PV.slotOf, PV.endC, PV.mutsAt, PV.runF, List.getElem?_cons_zero, List.getElem?_cons_succ, List.getElem?_nil, Option.bind_some, Option.bind_none, Option.map_some, Option.map_none, List.set_cons_zero, List.set_cons_succ, List.isEmpty_nil, List.isEmpty_cons, if_true, if_false, List.replicate_succ, List.replicate_zero, List.length_cons, List.length_nil, Bool.not_true, Bool.not_false, Bool.and_true, Bool.and_false, Bool.true_and, Bool.false_and, reduceCtorEq, ne_eq, not_false_eq_true, implies_true, Bool.true_or, Bool.false_or, Bool.or_true, Bool.or_false, Nat.reduceAdd, Nat.reduceLeDiff, Nat.reduceSub, hc, p6, List.contains_nil]
  exact hX
end K85

set_option Elab.async false
set_option linter.all false
set_option maxRecDepth 1000000
set_option maxHeartbeats 8000000
namespace K85
open PV PySem PL
def ext (A : List (Nat × Nat)) (q : Nat × List Nat) : List (Nat × List Nat) := (nexts A (endOf A q.1 q.2)).map fun i => (q.1, q.2 ++ [i])
def Sh (P : T) (A : List (Nat × Nat)) (found : List T) (x3 x4 : Sl) (ρ : Rho) : Prop := ∃ s5 s6 s7, ρ = [.v P, .v (.lst (A.map arT)), .o true found, x3, x4, s5, s6, s7, .u, .u, .u, .u]
theorem loop7 (F : Orc) {A : List (Nat × Nat)} (hA : A.length ≤ 7) {L : List (Nat × List Nat)} (hL : L.length < 4000) (hs : ∀ q ∈ L, q.2.length ≤ 1000) (hF : ∀ q ∈ L, F 6 [.t (.lst (A.map arT)), .t (paT q)] = .ok (.t (.int (endOf A q.1 q.2 : Nat))) []) {P : T} {found : List T} {x3 : Sl} {ρ : Rho} (h : Sh P A found x3 (.o true []) ρ) :
    ∃ ρ', forL (forTurn [5, 6] true (exs pg F 4000 60 55 b7)) (.sq true (.x (.lst (L.map paT)))) 4000 0 ρ = .nx ρ' ∧ Sh P A found x3 (.o true ((L.flatMap (ext A)).map paT)) ρ' := by
  have step : ∀ (i : Nat) (x : T) (ρ : Rho), (L.map paT)[i]? = some x → Sh P A found x3 (.o true (((L.take i).flatMap (ext A)).map paT)) ρ → ∃ ρ', forTurn [5, 6] true (exs pg F 4000 60 55 b7) x ρ = .nx ρ' ∧ Sh P A found x3 (.o true (((L.take (i + 1)).flatMap (ext A)).map paT)) ρ' := by
    rintro i x ρ hx ⟨s5, s6, s7, rfl⟩
    rw [List.getElem?_map] at hx
    cases hq : L[i]? with
    | none => rw [hq] at hx; cases hx
    | some q =>
      rw [hq] at hx
      cases hx
      have mq := List.mem_of_getElem? hq
      obtain ⟨p, s⟩ := q
      have hlen : (((L.take i).flatMap (ext A)).map paT).length ≤ 100000 := by
        rw [List.length_map]
        have h1 := flat_len (B := 7) (f := ext A) (l := L.take i) fun q _ => by unfold ext; rw [List.length_map]; exact Nat.le_trans (nexts_len A _) hA
        have h2 : (L.take i).length ≤ L.length := by rw [List.length_take]; omega
        have h3 : (L.take i).length * 7 ≤ L.length * 7 := Nat.mul_le_mul_right _ h2
        omega
      refine ⟨_, turn7 F hA (hs _ mq) hlen (hF _ mq), .v (.int p), .v (stT s), .v (.int (endOf A p s : Nat)), ?_⟩
      have e2 : L.take (i + 1) = L.take i ++ [(p, s)] := by rw [List.take_add_one, hq]; rfl
      rw [e2, List.flatMap_append, List.map_append]
      simp only [List.flatMap_cons, List.flatMap_nil, List.append_nil, ext, List.map_map]
      rfl
  have hx : ∀ (i : Nat) (ρ : Rho), turnAt ρ i (.sq true (.x (.lst (L.map paT)))) = some ((L.map paT)[i]?) := fun i ρ => rfl
  obtain ⟨ρ', e1, h2⟩ := forL_inv (fun i ρ => Sh P A found x3 (.o true (((L.take i).flatMap (ext A)).map paT)) ρ) hx step 4000 0 ρ (Nat.zero_le _) (by rw [List.length_map]; omega) (by simpa using h)
  rw [List.length_map, List.take_length] at h2
  exact ⟨ρ', e1, h2⟩
theorem sorted_pa {l : List (Nat × List Nat)} (hl : l.length ≤ big) : biT .sorted [.lst (l.map paT)] = some (.f (sortT (l.map paT))) := by
  show ((((itemsT (.lst (l.map paT))).bind intsT).bind fun is => if is.length < 64 then some (A.f ((sortI is).map .int)) else none) <|> sortD (.lst (l.map paT))) = _
  cases l with
  | nil => rfl
  | cons q l =>
    have e : ((itemsT (.lst ((q :: l).map paT))).bind intsT) = none := rfl
    rw [e]
    show sortD (.lst ((q :: l).map paT)) = _
    show (if srtOk ((q :: l).map paT) then some (A.f (sortT ((q :: l).map paT))) else none) = _
    rw [if_pos (srtOk_map _ hl (fun q => okT_pa 61 q) (fun q => rfl) alike_pa)]
theorem evIf_own {ih : Ex → Rho → PV.R A} {a b c x : Sl} {H : List T} {r : Rho} : evIf ih 0 [.loc 3] (a :: b :: c :: .o true H :: r) = .ok (.sq true (.x (.lst H))) (a :: b :: c :: .v (.lst H) :: r) := rfl
theorem w7_ok (F : Orc) {A : List (Nat × Nat)} (hA : A.length ≤ 7) {L : List (Nat × List Nat)} (hL : L.length < 4000) (hs : ∀ q ∈ L, q.2.length ≤ 1000) (hF : ∀ q ∈ L, F 6 [.t (.lst (A.map arT)), .t (paT q)] = .ok (.t (.int (endOf A q.1 q.2 : Nat))) []) {P : T} {found : List T} (hf : found.length ≤ 100000) {x4 : Sl} {ρ : Rho} (h : Sh P A found (.o true (L.map paT)) x4 ρ) :
    ∃ ρ' x4', exs pg F 4000 60 58 w7 ρ = .nx ρ' ∧ Sh P A (found ++ L.map paT) (.o true (sortT ((L.flatMap (ext A)).map paT))) x4' ρ' := by
  obtain ⟨s5, s6, s7, rfl⟩ := h
  have hb : found.length + (L.map paT).length ≤ big := by rw [List.length_map]; unfold big; omega
  obtain ⟨ρ', e1, h2⟩ := loop7 F hA hL hs hF (P := P) (found := found ++ L.map paT) (x3 := .v (.lst (L.map paT))) (ρ := [.v P, .v (.lst (A.map arT)), .o true (found ++ L.map paT), .v (.lst (L.map paT)), .o true [], s5, s6, s7, .u, .u, .u, .u]) ⟨_, _, _, rfl⟩
  obtain ⟨t5, t6, tst7, rfl⟩ := h2
  have hl2 : (L.flatMap (ext A)).length ≤ big := by
    have h1 := flat_len (B := 7) (f := ext A) (l := L) fun q _ => by unfold ext; rw [List.length_map]; exact Nat.le_trans (nexts_len A _) hA
    unfold big; omega
  refine ⟨[.v P, .v (.lst (A.map arT)), .o true (found ++ L.map paT), .o true (sortT ((L.flatMap (ext A)).map paT)), .o true ((L.flatMap (ext A)).map paT), t5, t6, tst7, .u, .u, .u, .u], .o true ((L.flatMap (ext A)).map paT), ?_, _, _, _, rfl⟩
  have q1 : ∀ r, exs pg F 4000 60 58 (Sm.ex (Ex.ext 2 (Ex.loc 3)) :: r) [.v P, .v (.lst (A.map arT)), .o true found, .o true (L.map paT), x4, s5, s6, s7, .u, .u, .u, .u] = exs pg F 4000 60 57 r [.v P, .v (.lst (A.map arT)), .o true (found ++ L.map paT), .o true (L.map paT), x4, s5, s6, s7, .u, .u, .u, .u] := fun r => by
    rw [exs_ex]
    simp only [PL.ev_con, PL.ev_loc, PL.ev_dk0, PL.ev_dk1, PL.ev_lst, PL.ev_tup, PL.ev_bin, PL.ev_neg, PL.ev_cmp, PL.ev_chn, PL.ev_and, PL.ev_or, PL.ev_tand, PL.ev_tor, PL.ev_not, PL.ev_ite, PL.ev_isn, PL.ev_isb, PL.ev_isi, PL.ev_call, PL.ev_call1, PL.ev_bi, PL.ev_app, PL.ev_ext, PL.ev_pop, PL.ev_popA, PL.ev_idx, PL.ev_ixof, PL.ev_slc, PL.ev_rev, PV.evO, PV.evOs, PV.evP, PV.evPs, PV.evF, PV.evB, PV.evS, PL.r_ok_bind, PL.r_bad_bind, PL.rs_of_ok, PL.exs_nil, PL.exs_ex, PL.exs_retl, PL.exs_ret, PL.exs_asg, PL.exs_unp, PL.exs_par, PL.exs_set, PL.exs_aug, PL.exs_ite, PL.nxt_nx, PL.nxt_rt, PL.nxt_bk, PL.nxt_ct, PV.res, PV.ress, PV.frz, PV.frzs, PV.slotT, PV.ofA, PV.ofB, PV.ofT, PV.ofA?, PV.store1, PV.callWith, PV.argsOf, PV.argOf, PV.mutsOf, PV.lentOf, PV.isOwn, PV.putBack, PV.appC, PV.extC, PV.popC, PV.popAC, PV.setIx, PV.truth, PV.storeAll, PL.big_le_0, PL.big_le_1, PL.big_le_2, PL.big_le_3, PL.big_le_4, PL.big_le_5, PL.big_le_6, PL.big_le_7, PL.big_le_8, PL.big_le_9, PL.big_le_10, PL.big_le_11, PL.big_le_12, PL.big_le_13, PV.unpT, PV.compTurn, PV.bindTo, PV.setAll, PV.wipeE, PV.backE, PV.forTurn, PV.tupT, PV.startE, PV.slotOf, PV.endC, PV.mutsAt, PV.runF, List.getElem?_cons_zero, List.getElem?_cons_succ, List.getElem?_nil, Option.bind_some, Option.bind_none, Option.map_some, Option.map_none, List.set_cons_zero, List.set_cons_succ, List.isEmpty_nil, List.isEmpty_cons, if_true, if_false, List.replicate_succ, List.replicate_zero, List.length_cons, List.length_nil, Bool.not_true, Bool.not_false, Bool.and_true, Bool.and_false, Bool.true_and, Bool.false_and, reduceCtorEq, ne_eq, not_false_eq_true, implies_true, Bool.true_or, Bool.false_or, Bool.or_true, Bool.or_false, Nat.reduceAdd, Nat.reduceLeDiff, Nat.reduceSub, hb]
  rw [show w7 = Sm.ex (Ex.ext 2 (Ex.loc 3)) :: [Sm.asg 4 (Ex.lst []), Sm.for_ [5, 6] true 0 [Ex.loc 3] b7, Sm.asg 3 (Ex.bi Bi.sorted [Ex.loc 4])] from rfl, q1]
  have q2 : ∀ r ρ, exs pg F 4000 60 57 (Sm.asg 4 (Ex.lst []) :: r) ρ = exs pg F 4000 60 56 r (ρ.set 4 (.o true [])) := fun r ρ => by
    rw [exs_asg]
    simp only [PL.ev_con, PL.ev_loc, PL.ev_dk0, PL.ev_dk1, PL.ev_lst, PL.ev_tup, PL.ev_bin, PL.ev_neg, PL.ev_cmp, PL.ev_chn, PL.ev_and, PL.ev_or, PL.ev_tand, PL.ev_tor, PL.ev_not, PL.ev_ite, PL.ev_isn, PL.ev_isb, PL.ev_isi, PL.ev_call, PL.ev_call1, PL.ev_bi, PL.ev_app, PL.ev_ext, PL.ev_pop, PL.ev_popA, PL.ev_idx, PL.ev_ixof, PL.ev_slc, PL.ev_rev, PV.evO, PV.evOs, PV.evP, PV.evPs, PV.evF, PV.evB, PV.evS, PL.r_ok_bind, PL.r_bad_bind, PL.rs_of_ok, PL.exs_nil, PL.exs_ex, PL.exs_retl, PL.exs_ret, PL.exs_asg, PL.exs_unp, PL.exs_par, PL.exs_set, PL.exs_aug, PL.exs_ite, PL.nxt_nx, PL.nxt_rt, PL.nxt_bk, PL.nxt_ct, PV.res, PV.ress, PV.frz, PV.frzs, PV.slotT, PV.ofA, PV.ofB, PV.ofT, PV.ofA?, PV.store1, PV.callWith, PV.argsOf, PV.argOf, PV.mutsOf, PV.lentOf, PV.isOwn, PV.putBack, PV.appC, PV.extC, PV.popC, PV.popAC, PV.setIx, PV.truth, PV.storeAll, PL.big_le_0, PL.big_le_1, PL.big_le_2, PL.big_le_3, PL.big_le_4, PL.big_le_5, PL.big_le_6, PL.big_le_7, PL.big_le_8, PL.big_le_9, PL.big_le_10, PL.big_le_11, PL.big_le_12, PL.big_le_13, PV.unpT, PV.compTurn, PV.bindTo, PV.setAll, PV.wipeE, PV.backE, PV.forTurn, PV.tupT, PV.startE, PV.slotOf, PV.endC, PV.mutsAt, PV.runF, List.getElem?_cons_zero, List.getElem?_cons_succ, List.getElem?_nil, Option.bind_some, Option.bind_none, Option.map_some, Option.map_none, List.set_cons_zero, List.set_cons_succ, List.isEmpty_nil, List.isEmpty_cons, if_true, if_false, List.replicate_succ, List.replicate_zero, List.length_cons, List.length_nil, Bool.not_true, Bool.not_false, Bool.and_true, Bool.and_false, Bool.true_and, Bool.false_and, reduceCtorEq, ne_eq, not_false_eq_true, implies_true, Bool.true_or, Bool.false_or, Bool.or_true, Bool.or_false, Nat.reduceAdd, Nat.reduceLeDiff, Nat.reduceSub]
  rw [q2]
  simp only [List.set_cons_zero, List.set_cons_succ]
  rw [exs_for, evIf_own (x := .u)]
  simp only [PL.rs_of_ok]
  rw [e1]
  simp only [PL.nxt_nx]
  rw [exs_asg]
  have hsort := sorted_pa hl2
  simp only [PL.ev_con, PL.ev_loc, PL.ev_dk0, PL.ev_dk1, PL.ev_lst, PL.ev_tup, PL.ev_bin, PL.ev_neg, PL.ev_cmp, PL.ev_chn, PL.ev_and, PL.ev_or, PL.ev_tand, PL.ev_tor, PL.ev_not, PL.ev_ite, PL.ev_isn, PL.ev_isb, PL.ev_isi, PL.ev_call, PL.ev_call1, PL.ev_bi, PL.ev_app, PL.ev_ext, PL.ev_pop, PL.ev_popA, PL.ev_idx, PL.ev_ixof, PL.ev_slc, PL.ev_rev, PV.evO, PV.evOs, PV.evP, PV.evPs, PV.evF, PV.evB, PV.evS, PL.r_ok_bind, PL.r_bad_bind, PL.rs_of_ok, PL.exs_nil, PL.exs_ex, PL.exs_retl, PL.exs_ret, PL.exs_asg, PL.exs_unp, PL.exs_par, PL.exs_set, PL.exs_aug, PL.exs_ite, PL.nxt_nx, PL.nxt_rt, PL.nxt_bk, PL.nxt_ct, PV.res, PV.ress, PV.frz, PV.frzs, PV.slotT, PV.ofA, PV.ofB, PV.ofT, PV.ofA?, PV.store1, PV.callWith, PV.argsOf, PV.argOf, PV.mutsOf, PV.lentOf, PV.isOwn, PV.putBack, PV.appC, PV.extC, PV.popC, PV.popAC, PV.setIx, PV.truth, PV.storeAll, PL.big_le_0, PL.big_le_1, PL.big_le_2, PL.big_le_3, PL.big_le_4, PL.big_le_5, PL.big_le_6, PL.big_le_7, PL.big_le_8, PL.big_le_9, PL.big_le_10, PL.big_le_11, PL.big_le_12, PL.big_le_13, PV.unpT, PV.compTurn, PV.bindTo, PV.setAll, PV.wipeE, PV.backE, PV.forTurn, PV.tupT, PV.startE, PV.slotOf, PV.endC, PV.mutsAt, PV.runF, List.getElem?_cons_zero, List.getElem?_cons_succ, List.getElem?_nil, Option.bind_some, Option.bind_none, Option.map_some, Option.map_none, List.set_cons_zero, List.set_cons_succ, List.isEmpty_nil, List.isEmpty_cons, if_true, if_false, List.replicate_succ, List.replicate_zero, List.length_cons, List.length_nil, Bool.not_true, Bool.not_false, Bool.and_true, Bool.and_false, Bool.true_and, Bool.false_and, reduceCtorEq, ne_eq, not_false_eq_true, implies_true, Bool.true_or, Bool.false_or, Bool.or_true, Bool.or_false, Nat.reduceAdd, Nat.reduceLeDiff, Nat.reduceSub, hsort]
end K85

set_option Elab.async false
set_option linter.all false
set_option maxRecDepth 1000000
set_option maxHeartbeats 8000000
namespace K85
open PV PySem PL
theorem ch_valid {A : List (Nat × Nat)} : ∀ (k p : Nat) (s : List Nat), s ∈ ch A k p → ∀ i ∈ s, i < A.length
  | 0, p, s, h, i, hi => by
    have : s = [] := by simpa [ch] using h
    subst this; cases hi
  | k + 1, p, s, h, i, hi => by
    obtain ⟨j, hj, hs⟩ := List.mem_flatMap.mp h
    obtain ⟨t, ht, rfl⟩ := List.mem_map.mp hs
    rcases List.mem_cons.mp hi with rfl | hi
    · obtain ⟨b, hb⟩ := mem_nexts.mp hj
      exact (List.getElem?_eq_some_iff.mp hb).1
    · exact ch_valid k _ t ht i hi
theorem lv_mem {A : List (Nat × Nat)} {P k : Nat} {q : Nat × List Nat} (h : q ∈ lv A P k) : q.2 ∈ ch A k q.1 := by
  obtain ⟨p, hp, hq⟩ := List.mem_flatMap.mp h
  obtain ⟨s, hs, rfl⟩ := List.mem_map.mp hq
  exact hs
theorem lv_flat (A : List (Nat × Nat)) (P k : Nat) : (lv A P k).flatMap (ext A) = lv A P (k + 1) := (lv_succ A P k).symm
theorem told_succ (A : List (Nat × Nat)) (P k : Nat) : told A P (k + 1) = told A P k ++ lv A P k := by
  unfold told
  rw [List.range_succ, List.flatMap_append]
  simp
theorem lv_nil {A : List (Nat × Nat)} {P k : Nat} (h : lv A P k = []) : ∀ j, lv A P (k + j) = []
  | 0 => h
  | j + 1 => by rw [← Nat.add_assoc, lv_succ, lv_nil h j]; rfl
theorem told_nil {A : List (Nat × Nat)} {P k : Nat} (h : lv A P k = []) : ∀ j, told A P (k + j) = told A P k
  | 0 => rfl
  | j + 1 => by rw [← Nat.add_assoc, told_succ, told_nil h j, lv_nil h j, List.append_nil]
abbrev tst7 : Ex := Ex.cmp Cmp.ne (Ex.loc 3) (Ex.lst [])
theorem ne_lst (l : List (Nat × List Nat)) : cmpT .ne (.lst (l.map paT)) (.lst []) = some (!l.isEmpty) := by
  have h : okT 64 (.lst (l.map paT)) = true := by
    show (l.map paT).all (okT 63) = true
    rw [List.all_map, List.all_eq_true]
    exact fun q _ => okT_pa 61 q
  show (if okT 64 (.lst (l.map paT)) && okT 64 (.lst []) then some (!eqT (.lst (l.map paT)) (.lst [])) else none) = _
  rw [h]
  cases l <;> rfl
theorem test7 (F : Orc) {a b c : Sl} {l : List (Nat × List Nat)} {r : Rho} : evB (ev pg F 4000 60) tst7 (a :: b :: c :: .o true (l.map paT) :: r) = .ok (!l.isEmpty) (a :: b :: c :: .o true (l.map paT) :: r) := by
  have h := ne_lst l
  simp only [PL.ev_con, PL.ev_loc, PL.ev_dk0, PL.ev_dk1, PL.ev_lst, PL.ev_tup, PL.ev_bin, PL.ev_neg, PL.ev_cmp, PL.ev_chn, PL.ev_and, PL.ev_or, PL.ev_tand, PL.ev_tor, PL.ev_not, PL.ev_ite, PL.ev_isn, PL.ev_isb, PL.ev_isi, PL.ev_call, PL.ev_call1, PL.ev_bi, PL.ev_app, PL.ev_ext, PL.ev_pop, PL.ev_popA, PL.ev_idx, PL.ev_ixof, PL.ev_slc, PL.ev_rev, PV.evO, PV.evOs, PV.evP, PV.evPs, PV.evF, PV.evB, PV.evS, PL.r_ok_bind, PL.r_bad_bind, PL.rs_of_ok, PL.exs_nil, PL.exs_ex, PL.exs_retl, PL.exs_ret, PL.exs_asg, PL.exs_unp, PL.exs_par, PL.exs_set, PL.exs_aug, PL.exs_ite, PL.nxt_nx, PL.nxt_rt, PL.nxt_bk, PL.nxt_ct, PV.res, PV.ress, PV.frz, PV.frzs, PV.slotT, PV.ofA, PV.ofB, PV.ofT, PV.ofA?, PV.store1, PV.callWith, PV.argsOf, PV.argOf, PV.mutsOf, PV.lentOf, PV.isOwn, PV.putBack, PV.appC, PV.extC, PV.popC, PV.popAC, PV.setIx, PV.truth, PV.storeAll, PL.big_le_0, PL.big_le_1, PL.big_le_2, PL.big_le_3, PL.big_le_4, PL.big_le_5, PL.big_le_6, PL.big_le_7, PL.big_le_8, PL.big_le_9, PL.big_le_10, PL.big_le_11, PL.big_le_12, PL.big_le_13, PV.unpT, PV.compTurn, PV.bindTo, PV.setAll, PV.wipeE, PV.backE, PV.forTurn, PV.tupT, PV.startE, PV.slotOf, PV.endC, PV.mutsAt, PV.runF, List.getElem?_cons_zero, List.getElem?_cons_succ, List.getElem?_nil, Option.bind_some, Option.bind_none, Option.map_some, Option.map_none, List.set_cons_zero, List.set_cons_succ, List.isEmpty_nil, List.isEmpty_cons, if_true, if_false, List.replicate_succ, List.replicate_zero, List.length_cons, List.length_nil, Bool.not_true, Bool.not_false, Bool.and_true, Bool.and_false, Bool.true_and, Bool.false_and, reduceCtorEq, ne_eq, not_false_eq_true, implies_true, Bool.true_or, Bool.false_or, Bool.or_true, Bool.or_false, Nat.reduceAdd, Nat.reduceLeDiff, Nat.reduceSub, h]
theorem whl7 (F : Orc) {A : List (Nat × Nat)} (hA : A.length ≤ 7) {P : Nat} (hF : ∀ p s, (∀ i, s.getLast? = some i → i < A.length) → F 6 [.t (.lst (A.map arT)), .t (paT (p, s))] = .ok (.t (.int (endOf A p s : Nat))) []) (hl : ∀ k, (lv A P k).length < 4000) (ht : ∀ k, k ≤ 4 → (told A P k).length ≤ 100000) :
    ∀ (j k m : Nat) (x4 : Sl) (ρ : Rho), lv A P (k + j) = [] → j < m → k + j ≤ 4 → Sh (.int P) A ((told A P k).map paT) (.o true ((lv A P k).map paT)) x4 ρ →
    ∃ ρ' x4', whlL (evB (ev pg F 4000 60) tst7) (exs pg F 4000 60 58 w7) m ρ = .nx ρ' ∧ Sh (.int P) A ((told A P (k + j)).map paT) (.o true []) x4' ρ' := by
  intro j
  induction j with
  | zero =>
    intro k m x4 ρ h0 hm _ hS
    obtain ⟨s5, s6, s7, rfl⟩ := hS
    have h0' : lv A P k = [] := h0
    cases m with
    | zero => omega
    | succ m =>
      refine ⟨_, x4, ?_, s5, s6, s7, rfl⟩
      unfold whlL
      rw [test7, h0']
      rfl
  | succ j ih =>
    intro k m x4 ρ h0 hm hk hS
    cases m with
    | zero => omega
    | succ m =>
    by_cases he : lv A P k = []
    · obtain ⟨s5, s6, s7, rfl⟩ := hS
      refine ⟨_, x4, ?_, s5, s6, s7, rfl⟩
      unfold whlL
      rw [test7, he, told_nil he]
      rfl
    · have hb : (!(lv A P k).isEmpty) = true := by
        cases e : lv A P k with
        | nil => exact absurd e he
        | cons _ _ => rfl
      obtain ⟨ρ1, x41, e1, S1⟩ := w7_ok F hA (hl k) (fun q hq => by have := (lv_len hq).1; omega) (fun q hq => hF q.1 q.2 fun i hi => ch_valid k q.1 q.2 (lv_mem hq) i (List.mem_of_getLast? hi)) (by rw [List.length_map]; exact ht k (by omega)) hS
      rw [← List.map_append, ← told_succ, lv_flat, sort_lv] at S1
      obtain ⟨ρ2, x42, e2, S2⟩ := ih (k + 1) m x41 ρ1 (by rw [show k + 1 + j = k + (j + 1) by omega]; exact h0) (by omega) (by omega) S1
      refine ⟨ρ2, x42, ?_, by rw [show k + (j + 1) = k + 1 + j by omega]; exact S2⟩
      obtain ⟨s5, s6, s7, rfl⟩ := hS
      unfold whlL
      rw [test7, hb]
      simp only [PL.rs_of_ok]
      rw [e1]
      exact e2
end K85

set_option Elab.async false
set_option linter.all false
set_option maxRecDepth 1000000
set_option maxHeartbeats 8000000
namespace K85
open PV PySem PL
theorem ch_cnt {A : List (Nat × Nat)} (hA : A.length ≤ 7) : ∀ k p, (ch A k p).length ≤ 7 ^ k
  | 0, p => Nat.le_refl _
  | k + 1, p => by
    show ((nexts A p).flatMap fun i => (ch A k (tgt A i)).map (i :: ·)).length ≤ 7 ^ (k + 1)
    have h := flat_len (B := 7 ^ k) (f := fun i => (ch A k (tgt A i)).map (i :: ·)) (l := nexts A p) fun i _ => by rw [List.length_map]; exact ch_cnt hA k _
    have h2 : (nexts A p).length * 7 ^ k ≤ 7 * 7 ^ k := Nat.mul_le_mul_right _ (Nat.le_trans (nexts_len A p) hA)
    rw [Nat.pow_succ, Nat.mul_comm]
    omega
theorem lv_cnt {A : List (Nat × Nat)} (hA : A.length ≤ 7) {P k : Nat} (hP : P ≤ 4) (hk : k ≤ 3) : (lv A P k).length ≤ 1372 := by
  unfold lv
  have h := flat_len (B := 7 ^ k) (f := fun p => (ch A k p).map fun s => (p, s)) (l := List.range P) fun p _ => by rw [List.length_map]; exact ch_cnt hA k _
  rw [List.length_range] at h
  have h1 : P * 7 ^ k ≤ 4 * 7 ^ k := Nat.mul_le_mul_right _ hP
  have h2 : 7 ^ k ≤ 7 ^ 3 := Nat.pow_le_pow_right (by decide) hk
  have h3 : 7 ^ 3 = 343 := by decide
  omega
/-- a web: its places, its arrows, a rank that grows along each arrow -/
structure Web (A : List (Nat × Nat)) (P : Nat) (r : Nat → Nat) : Prop where
  few : A.length ≤ 7
  one : 1 ≤ P
  four : P ≤ 4
  rk : Rk A P r
  lt : ∀ p, p < P → r p < P
  ok : ∀ q ∈ A, q.1 < P ∧ q.2 < P
section
variable {A : List (Nat × Nat)} {P : Nat} {r : Nat → Nat}
theorem Web.end_ (h : Web A P r) {p : Nat} (hp : p < P) : ch A P p = [] := ch_end_nil h.rk (h.lt p hp)
theorem Web.lvP (h : Web A P r) : lv A P P = [] := List.flatMap_eq_nil_iff.mpr fun p hp => by rw [h.end_ (List.mem_range.mp hp)]; rfl
theorem Web.lv_few (h : Web A P r) (k : Nat) : (lv A P k).length < 4000 := by
  by_cases hk : k ≤ 3
  · have := lv_cnt h.few h.four hk
    omega
  · have h4 := h.four
    have e := lv_nil h.lvP (k - P)
    rw [show P + (k - P) = k by omega] at e
    rw [e]
    exact Nat.succ_pos _
theorem Web.told_few (h : Web A P r) (k : Nat) (hk : k ≤ 4) : (told A P k).length ≤ 5488 := by
  unfold told
  have z := flat_len (B := 1372) (f := lv A P) (l := List.range k) fun i hi => lv_cnt h.few h.four (by have := List.mem_range.mp hi; omega)
  rw [List.length_range] at z
  omega
theorem turn7s (F : Orc) (m : Nat) {y : T} {x0 x1 : Sl} : compTurn (ev pg F 4000 (m + 5)) [8, 9] [9] false none (Ex.tup [Ex.loc 9, Ex.tup []]) y [x0, x1, .u, .u, .u, .u, .u, .u, .u, .u, .u, .u] = .ok (some (.tup [y, .tup []])) [x0, x1, .u, .u, .u, .u, .u, .u, .u, .u, .u, .u] := by
  simp only [PL.ev_con, PL.ev_loc, PL.ev_dk0, PL.ev_dk1, PL.ev_lst, PL.ev_tup, PL.ev_bin, PL.ev_neg, PL.ev_cmp, PL.ev_chn, PL.ev_and, PL.ev_or, PL.ev_tand, PL.ev_tor, PL.ev_not, PL.ev_ite, PL.ev_isn, PL.ev_isb, PL.ev_isi, PL.ev_call, PL.ev_call1, PL.ev_bi, PL.ev_app, PL.ev_ext, PL.ev_pop, PL.ev_popA, PL.ev_idx, PL.ev_ixof, PL.ev_slc, PL.ev_rev, PV.evO, PV.evOs, PV.evP, PV.evPs, PV.evF, PV.evB, PV.evS, PL.r_ok_bind, PL.r_bad_bind, PL.rs_of_ok, PL.exs_nil, PL.exs_ex, PL.exs_retl, PL.exs_ret, PL.exs_asg, PL.exs_unp, PL.exs_par, PL.exs_set, PL.exs_aug, PL.exs_ite, PL.nxt_nx, PL.nxt_rt, PL.nxt_bk, PL.nxt_ct, PV.res, PV.ress, PV.frz, PV.frzs, PV.slotT, PV.ofA, PV.ofB, PV.ofT, PV.ofA?, PV.store1, PV.callWith, PV.argsOf, PV.argOf, PV.mutsOf, PV.lentOf, PV.isOwn, PV.putBack, PV.appC, PV.extC, PV.popC, PV.popAC, PV.setIx, PV.truth, PV.storeAll, PL.big_le_0, PL.big_le_1, PL.big_le_2, PL.big_le_3, PL.big_le_4, PL.big_le_5, PL.big_le_6, PL.big_le_7, PL.big_le_8, PL.big_le_9, PL.big_le_10, PL.big_le_11, PL.big_le_12, PL.big_le_13, PV.unpT, PV.compTurn, PV.bindTo, PV.setAll, PV.wipeE, PV.backE, PV.forTurn, PV.tupT, PV.startE, PV.slotOf, PV.endC, PV.mutsAt, PV.runF, List.getElem?_cons_zero, List.getElem?_cons_succ, List.getElem?_nil, Option.bind_some, Option.bind_none, Option.map_some, Option.map_none, List.set_cons_zero, List.set_cons_succ, List.isEmpty_nil, List.isEmpty_cons, if_true, if_false, List.replicate_succ, List.replicate_zero, List.length_cons, List.length_nil, Bool.not_true, Bool.not_false, Bool.and_true, Bool.and_false, Bool.true_and, Bool.false_and, reduceCtorEq, ne_eq, not_false_eq_true, implies_true, Bool.true_or, Bool.false_or, Bool.or_true, Bool.or_false, Nat.reduceAdd, Nat.reduceLeDiff, Nat.reduceSub]
theorem evIv_os {ih : Ex → Rho → PV.R PV.A} {k : Nat} {its : List Ex} {ρ ρ' : Rho} {os : List Opd} {iv : Iv} (h : evOs ih its ρ = .ok os ρ') (hv : ivOf k ρ' os = some iv) : evIv ih k its ρ = .ok iv ρ' := by
  have e : evIv ih k its ρ = (evOs ih its ρ).bind (fun os ρ => match ivOf k ρ os with
    | some iv => .ok iv ρ
    | none => .bad) := rfl
  rw [e, h]
  show (match ivOf k ρ' os with | some iv => (.ok iv ρ' : PV.R Iv) | none => .bad) = _
  rw [hv]
theorem iv7 (F : Orc) (m : Nat) {P : Nat} (hP : P ≤ 4) {r : Rho} : evIv (ev pg F 4000 m) 1 [Ex.loc 0] (.v (.int P) :: r) = .ok (.rg 0 P) (.v (.int P) :: r) := by
  have h : ivOf 1 (.v (.int P) :: r) [.d 0] = some (.rg 0 P) := by
    unfold ivOf
    have a : -(2 ^ 62) ≤ ((P : Nat) : Int) ∧ ((P : Nat) : Int) < 2 ^ 62 := by rw [p62]; omega
    simp only [PV.res, List.getElem?_cons_zero, Option.bind_some, PV.slotT]
    rw [if_pos a, Int.toNat_natCast]
  refine evIv_os ?_ h
  simp only [PV.evOs, PV.evO, List.getElem?_cons_zero, Option.bind_some, PV.slotT, PL.r_ok_bind]
theorem rg7 {P : Nat} (ρ : Rho) (i : Nat) : turnAt ρ i (.rg 0 P) = some (((List.range P).map fun (i : Nat) => T.int (0 + i))[i]?) := by
  simp only [PV.turnAt]
  rw [List.getElem?_map]
  by_cases h : i < P
  · rw [if_pos h, List.getElem?_range h]; rfl
  · rw [if_neg h, List.getElem?_eq_none (by rw [List.length_range]; omega)]; rfl
theorem lv0 (A : List (Nat × Nat)) (P : Nat) : (((List.range P).map fun (i : Nat) => T.int (0 + i)).map fun y => T.tup [y, .tup []]) = (lv A P 0).map paT := by
  unfold lv
  rw [List.map_map, List.map_flatMap, List.map_eq_flatMap]
  congr 1
  funext p
  show [T.tup [T.int (0 + (p : Nat)), .tup []]] = [paT (p, [])]
  rw [Int.zero_add]
  rfl
theorem start7 (F : Orc) {n : Nat} (hn : 6 ≤ n) {P : Nat} (hP : P ≤ 4) {x : Sl} : ev pg F 4000 n (Ex.comp [8, 9] [9] false 1 [Ex.loc 0] none (Ex.tup [Ex.loc 9, Ex.tup []])) [.v (.int P), x, .u, .u, .u, .u, .u, .u, .u, .u, .u, .u] = .ok (.f ((lv A P 0).map paT)) [.v (.int P), x, .u, .u, .u, .u, .u, .u, .u, .u, .u, .u] := by
  obtain ⟨m, rfl⟩ : ∃ m, n = m + 6 := ⟨n - 6, by omega⟩
  rw [← lv0 A P]
  exact ev_comp_map (ρ2 := [.v (.int P), x, .u, .u, .u, .u, .u, .u, .u, .u, .u, .u]) (fun y => T.tup [y, .tup []]) (iv7 F (m + 5) hP) rfl (fun i => rg7 _ i) (fun y hy => turn7s F m) (by rw [List.length_map, List.length_range]; omega) (by rw [List.length_map, List.length_range]; unfold big; omega) rfl
theorem par_ok (F : Orc) {a b : Ex} {i j n : Nat} {ρ ρ1 ρ2 : Rho} {x y : PV.A} {ss : List Sm} (h1 : ev pg F 4000 60 a ρ = .ok x ρ1) (h2 : ev pg F 4000 60 b ρ1 = .ok y ρ2) : exs pg F 4000 60 (n + 1) (Sm.par i j a b :: ss) ρ = exs pg F 4000 60 n ss (store1 j y (store1 i x ρ2)) := by
  rw [exs_par, h1]
  simp only [PL.rs_of_ok]
  rw [h2]
  simp only [PL.rs_of_ok, PL.nxt_nx]
theorem run7a (F : Orc) (hP : P ≤ 4) {V : T} {ss : List Sm} : exs pg F 4000 60 60 (Sm.par 2 3 (Ex.lst []) (Ex.comp [8, 9] [9] false 1 [Ex.loc 0] none (Ex.tup [Ex.loc 9, Ex.tup []])) :: ss) [.v (.int P), .v V, .u, .u, .u, .u, .u, .u, .u, .u, .u, .u] = exs pg F 4000 60 59 ss [.v (.int P), .v V, .o true [], .o true ((lv A P 0).map paT), .u, .u, .u, .u, .u, .u, .u, .u] := by
  have hs := start7 (A := A) F (n := 60) (by decide) hP (x := .v V)
  have hn : ev pg F 4000 60 (Ex.lst []) [.v (.int P), .v V, .u, .u, .u, .u, .u, .u, .u, .u, .u, .u] = .ok (.f []) [.v (.int P), .v V, .u, .u, .u, .u, .u, .u, .u, .u, .u, .u] := by
    simp only [PL.ev_con, PL.ev_loc, PL.ev_dk0, PL.ev_dk1, PL.ev_lst, PL.ev_tup, PL.ev_bin, PL.ev_neg, PL.ev_cmp, PL.ev_chn, PL.ev_and, PL.ev_or, PL.ev_tand, PL.ev_tor, PL.ev_not, PL.ev_ite, PL.ev_isn, PL.ev_isb, PL.ev_isi, PL.ev_call, PL.ev_call1, PL.ev_bi, PL.ev_app, PL.ev_ext, PL.ev_pop, PL.ev_popA, PL.ev_idx, PL.ev_ixof, PL.ev_slc, PL.ev_rev, PV.evO, PV.evOs, PV.evP, PV.evPs, PV.evF, PV.evB, PV.evS, PL.r_ok_bind, PL.r_bad_bind, PL.rs_of_ok, PL.exs_nil, PL.exs_ex, PL.exs_retl, PL.exs_ret, PL.exs_asg, PL.exs_unp, PL.exs_par, PL.exs_set, PL.exs_aug, PL.exs_ite, PL.nxt_nx, PL.nxt_rt, PL.nxt_bk, PL.nxt_ct, PV.res, PV.ress, PV.frz, PV.frzs, PV.slotT, PV.ofA, PV.ofB, PV.ofT, PV.ofA?, PV.store1, PV.callWith, PV.argsOf, PV.argOf, PV.mutsOf, PV.lentOf, PV.isOwn, PV.putBack, PV.appC, PV.extC, PV.popC, PV.popAC, PV.setIx, PV.truth, PV.storeAll, PL.big_le_0, PL.big_le_1, PL.big_le_2, PL.big_le_3, PL.big_le_4, PL.big_le_5, PL.big_le_6, PL.big_le_7, PL.big_le_8, PL.big_le_9, PL.big_le_10, PL.big_le_11, PL.big_le_12, PL.big_le_13, PV.unpT, PV.compTurn, PV.bindTo, PV.setAll, PV.wipeE, PV.backE, PV.forTurn, PV.tupT, PV.startE, PV.slotOf, PV.endC, PV.mutsAt, PV.runF, List.getElem?_cons_zero, List.getElem?_cons_succ, List.getElem?_nil, Option.bind_some, Option.bind_none, Option.map_some, Option.map_none, List.set_cons_zero, List.set_cons_succ, List.isEmpty_nil, List.isEmpty_cons, if_true, if_false, List.replicate_succ, List.replicate_zero, List.length_cons, List.length_nil, Bool.not_true, Bool.not_false, Bool.and_true, Bool.and_false, Bool.true_and, Bool.false_and, reduceCtorEq, ne_eq, not_false_eq_true, implies_true, Bool.true_or, Bool.false_or, Bool.or_true, Bool.or_false, Nat.reduceAdd, Nat.reduceLeDiff, Nat.reduceSub]
  generalize Ex.comp [8, 9] [9] false 1 [Ex.loc 0] none (Ex.tup [Ex.loc 9, Ex.tup []]) = e at hs ⊢
  exact par_ok F hn hs
theorem run7b (F : Orc) {c : Ex} {b : List Sm} {ρ : Rho} {x0 x1 x3 : Sl} {o : List T} {s : List Sl} (e : whlL (evB (ev pg F 4000 60) c) (exs pg F 4000 60 58 b) 4000 ρ = .nx (x0 :: x1 :: .o true o :: x3 :: s)) : exs pg F 4000 60 59 [Sm.whl c b, Sm.ret (Ex.loc 2)] ρ = .rt (.f o) (x0 :: x1 :: .o true o :: x3 :: s) := by
  rw [exs_whl, e]
  simp only [PL.nxt_nx, PL.exs_retl, List.getElem?_cons_zero, List.getElem?_cons_succ, PL.nxt_rt]
theorem run7 (F : Orc) (h : Web A P r) (hF : ∀ p s, (∀ i, s.getLast? = some i → i < A.length) → F 6 [.t (.lst (A.map arT)), .t (paT (p, s))] = .ok (.t (.int (endOf A p s : Nat))) []) :
    ∃ x3 x4 s5 s6 s7, exs pg F 4000 60 60 c7 [.v (.int P), .v (.lst (A.map arT)), .u, .u, .u, .u, .u, .u, .u, .u, .u, .u] = .rt (.f ((told A P P).map paT)) [.v (.int P), .v (.lst (A.map arT)), .o true ((told A P P).map paT), x3, x4, s5, s6, s7, .u, .u, .u, .u] := by
  obtain ⟨ρ', x4, e1, s5, s6, s7, e2⟩ := whl7 F h.few (P := P) hF h.lv_few (fun k hk => by have := h.told_few k hk; omega) P 0 4000 .u [.v (.int P), .v (.lst (A.map arT)), .o true [], .o true ((lv A P 0).map paT), .u, .u, .u, .u, .u, .u, .u, .u] (by rw [Nat.zero_add]; exact h.lvP) (by have := h.four; omega) (by have := h.four; omega) ⟨_, _, _, rfl⟩
  rw [Nat.zero_add] at e2
  subst e2
  refine ⟨.o true [], x4, s5, s6, s7, ?_⟩
  rw [c7_eq, run7a (A := A) F h.four]
  exact run7b F e1
theorem f7 (d : Nat) (h : Web A P r) : Fo (d + 2) 7 [.t (.int P), .t (.lst (A.map arT))] = .ok (.f ((told A P P).map paT)) [] := by
  obtain ⟨x3, x4, s5, s6, s7, e⟩ := run7 (Fo (d + 1)) h (fun p s hs => f6 d hs)
  exact Fd_rt p7 rfl e rfl
end
end K85

set_option Elab.async false
set_option linter.all false
set_option maxRecDepth 1000000
set_option maxHeartbeats 8000000
/-! k85: arrows, rings -/
namespace K85
open PV PySem PL
abbrev e3 : Ex := Ex.comp [2, 3] [3] false 0 [Ex.loc 0] none ((Ex.call 1 [] [Ex.loc 3]).and_ (Ex.cmp Cmp.lt (Ex.loc 3) (Ex.loc 1)))
theorem c3_eq : c3 = [Sm.ite (((Ex.loc 0).isi [Ty.tuple]).not_.tor (Ex.cmp Cmp.ne (Ex.bi Bi.len [Ex.loc 0]) (Ex.con (T.int 2)))) [Sm.ret (Ex.con (T.bl false))] [], Sm.ret (Ex.bi Bi.all [e3])] := by kernel_rfl
theorem lt_yes {x P : Nat} (h : x < P) : cmpT .lt (.int x) (.int P) = some true := by rw [cmp_lt, decide_eq_true (by omega)]
theorem turn3 (F : Orc) (m : Nat) {v : T} {x P : Nat} (hx : x < P) (hF : F 1 [.t (.int x)] = .ok (.t (.bl true)) []) : compTurn (ev pg F 4000 (m + 5)) [2, 3] [3] false none ((Ex.call 1 [] [Ex.loc 3]).and_ (Ex.cmp Cmp.lt (Ex.loc 3) (Ex.loc 1))) (.int x) [.v v, .v (.int P), .u, .u] = .ok (some (.bl true)) [.v v, .v (.int P), .u, .u] := by
  have h := lt_yes hx
  simp only [PL.ev_con, PL.ev_loc, PL.ev_dk0, PL.ev_dk1, PL.ev_lst, PL.ev_tup, PL.ev_bin, PL.ev_neg, PL.ev_cmp, PL.ev_chn, PL.ev_and, PL.ev_or, PL.ev_tand, PL.ev_tor, PL.ev_not, PL.ev_ite, PL.ev_isn, PL.ev_isb, PL.ev_isi, PL.ev_call, PL.ev_call1, PL.ev_bi, PL.ev_app, PL.ev_ext, PL.ev_pop, PL.ev_popA, PL.ev_idx, PL.ev_ixof, PL.ev_slc, PL.ev_rev, PV.evO, PV.evOs, PV.evP, PV.evPs, PV.evF, PV.evB, PV.evS, PL.r_ok_bind, PL.r_bad_bind, PL.rs_of_ok, PL.exs_nil, PL.exs_ex, PL.exs_retl, PL.exs_ret, PL.exs_asg, PL.exs_unp, PL.exs_par, PL.exs_set, PL.exs_aug, PL.exs_ite, PL.nxt_nx, PL.nxt_rt, PL.nxt_bk, PL.nxt_ct, PV.res, PV.ress, PV.frz, PV.frzs, PV.slotT, PV.ofA, PV.ofB, PV.ofT, PV.ofA?, PV.store1, PV.callWith, PV.argsOf, PV.argOf, PV.mutsOf, PV.lentOf, PV.isOwn, PV.putBack, PV.appC, PV.extC, PV.popC, PV.popAC, PV.setIx, PV.truth, PV.storeAll, PL.big_le_0, PL.big_le_1, PL.big_le_2, PL.big_le_3, PL.big_le_4, PL.big_le_5, PL.big_le_6, PL.big_le_7, PL.big_le_8, PL.big_le_9, PL.big_le_10, PL.big_le_11, PL.big_le_12, PL.big_le_13, PV.unpT, PV.compTurn, PV.bindTo, PV.setAll, PV.wipeE, PV.backE, PV.forTurn, PV.tupT, PV.startE, PV.slotOf, PV.endC, PV.mutsAt, PV.runF, List.getElem?_cons_zero, List.getElem?_cons_succ, List.getElem?_nil, Option.bind_some, Option.bind_none, Option.map_some, Option.map_none, List.set_cons_zero, List.set_cons_succ, List.isEmpty_nil, List.isEmpty_cons, if_true, if_false, List.replicate_succ, List.replicate_zero, List.length_cons, List.length_nil, Bool.not_true, Bool.not_false, Bool.and_true, Bool.and_false, Bool.true_and, Bool.false_and, reduceCtorEq, ne_eq, not_false_eq_true, implies_true, Bool.true_or, Bool.false_or, Bool.or_true, Bool.or_false, Nat.reduceAdd, Nat.reduceLeDiff, Nat.reduceSub, hF, p1, h, List.contains_nil]
theorem e3_ok (F : Orc) (m : Nat) {a b P : Nat} (ha : a < P) (hb : b < P) (hF : ∀ x : Nat, F 1 [.t (.int x)] = .ok (.t (.bl true)) []) : ev pg F 4000 (m + 6) e3 [.v (.tup [.int a, .int b]), .v (.int P), .u, .u] = .ok (.f [.bl true, .bl true]) [.v (.tup [.int a, .int b]), .v (.int P), .u, .u] := by
  refine ev_comp_map (ρ2 := [.v (.tup [.int a, .int b]), .v (.int P), .u, .u]) (xs := [.int a, .int b]) (fun _ => .bl true) (iv := .sq false (.d 0)) (ρ1 := [.v (.tup [.int a, .int b]), .v (.int P), .u, .u]) rfl rfl (fun i => rfl) (fun x hx => ?_) (show 2 < 4000 by decide) (show 2 ≤ big by decide) rfl
  rcases List.mem_cons.mp hx with rfl | hx
  · exact turn3 F m ha (hF a)
  · rcases List.mem_cons.mp hx with rfl | hx
    · exact turn3 F m hb (hF b)
    · cases hx
theorem cnt_nat (x : Nat) : cnt (.int x) = true := by
  show decide ((0 : Int) ≤ x) = true
  exact decide_eq_true (by omega)
theorem f3 (d : Nat) {a b P : Nat} (ha : a < P) (hb : b < P) : Fo (d + 3) 3 [.t (.tup [.int a, .int b]), .t (.int P)] = .ok (.t (.bl true)) [] := by
  refine Fd_rt (ρ0 := [.v (.tup [.int a, .int b]), .v (.int P), .u, .u]) (ρ := [.v (.tup [.int a, .int b]), .v (.int P), .u, .u]) p3 rfl ?_ rfl
  show exs pg (Fo (d + 2)) 4000 60 60 c3 _ = _
  have hF : ∀ x : Nat, Fo (d + 2) 1 [.t (.int x)] = .ok (.t (.bl true)) [] := fun x => by rw [f1 d rfl, cnt_nat]
  generalize Fo (d + 2) = F at hF ⊢
  have he := e3_ok F 53 ha hb hF
  have hl : biT .len [.tup [.int a, .int b]] = some (.t (.int 2)) := rfl
  have hn : cmpT .ne (.int 2) (.int 2) = some false := rfl
  have hi : isiT (.tup [.int a, .int b]) [Ty.tuple] = some true := rfl
  have ha : biT .all [.lst [.bl true, .bl true]] = some (.t (.bl true)) := rfl
  rw [c3_eq, exs_ite]
  simp only [PL.ev_con, PL.ev_loc, PL.ev_dk0, PL.ev_dk1, PL.ev_lst, PL.ev_tup, PL.ev_bin, PL.ev_neg, PL.ev_cmp, PL.ev_chn, PL.ev_and, PL.ev_or, PL.ev_tand, PL.ev_tor, PL.ev_not, PL.ev_ite, PL.ev_isn, PL.ev_isb, PL.ev_isi, PL.ev_call, PL.ev_call1, PL.ev_bi, PL.ev_app, PL.ev_ext, PL.ev_pop, PL.ev_popA, PL.ev_idx, PL.ev_ixof, PL.ev_slc, PL.ev_rev, PV.evO, PV.evOs, PV.evP, PV.evPs, PV.evF, PV.evB, PV.evS, PL.r_ok_bind, PL.r_bad_bind, PL.rs_of_ok, PL.exs_nil, PL.exs_ex, PL.exs_retl, PL.exs_ret, PL.exs_asg, PL.exs_unp, PL.exs_par, PL.exs_set, PL.exs_aug, PL.exs_ite, PL.nxt_nx, PL.nxt_rt, PL.nxt_bk, PL.nxt_ct, PV.res, PV.ress, PV.frz, PV.frzs, PV.slotT, PV.ofA, PV.ofB, PV.ofT, PV.ofA?, PV.store1, PV.callWith, PV.argsOf, PV.argOf, PV.mutsOf, PV.lentOf, PV.isOwn, PV.putBack, PV.appC, PV.extC, PV.popC, PV.popAC, PV.setIx, PV.truth, PV.storeAll, PL.big_le_0, PL.big_le_1, PL.big_le_2, PL.big_le_3, PL.big_le_4, PL.big_le_5, PL.big_le_6, PL.big_le_7, PL.big_le_8, PL.big_le_9, PL.big_le_10, PL.big_le_11, PL.big_le_12, PL.big_le_13, PV.unpT, PV.compTurn, PV.bindTo, PV.setAll, PV.wipeE, PV.backE, PV.forTurn, PV.tupT, PV.startE, PV.slotOf, PV.endC, PV.mutsAt, PV.runF, List.getElem?_cons_zero, List.getElem?_cons_succ, List.getElem?_nil, Option.bind_some, Option.bind_none, Option.map_some, Option.map_none, List.set_cons_zero, List.set_cons_succ, List.isEmpty_nil, List.isEmpty_cons, if_true, if_false, List.replicate_succ, List.replicate_zero, List.length_cons, List.length_nil, Bool.not_true, Bool.not_false, Bool.and_true, Bool.and_false, Bool.true_and, Bool.false_and, reduceCtorEq, ne_eq, not_false_eq_true, implies_true, Bool.true_or, Bool.false_or, Bool.or_true, Bool.or_false, Nat.reduceAdd, Nat.reduceLeDiff, Nat.reduceSub, hl, hn, hi]
  rw [he]
  simp only [PL.ev_con, PL.ev_loc, PL.ev_dk0, PL.ev_dk1, PL.ev_lst, PL.ev_tup, PL.ev_bin, PL.ev_neg, PL.ev_cmp, PL.ev_chn, PL.ev_and, PL.ev_or, PL.ev_tand, PL.ev_tor, PL.ev_not, PL.ev_ite, PL.ev_isn, PL.ev_isb, PL.ev_isi, PL.ev_call, PL.ev_call1, PL.ev_bi, PL.ev_app, PL.ev_ext, PL.ev_pop, PL.ev_popA, PL.ev_idx, PL.ev_ixof, PL.ev_slc, PL.ev_rev, PV.evO, PV.evOs, PV.evP, PV.evPs, PV.evF, PV.evB, PV.evS, PL.r_ok_bind, PL.r_bad_bind, PL.rs_of_ok, PL.exs_nil, PL.exs_ex, PL.exs_retl, PL.exs_ret, PL.exs_asg, PL.exs_unp, PL.exs_par, PL.exs_set, PL.exs_aug, PL.exs_ite, PL.nxt_nx, PL.nxt_rt, PL.nxt_bk, PL.nxt_ct, PV.res, PV.ress, PV.frz, PV.frzs, PV.slotT, PV.ofA, PV.ofB, PV.ofT, PV.ofA?, PV.store1, PV.callWith, PV.argsOf, PV.argOf, PV.mutsOf, PV.lentOf, PV.isOwn, PV.putBack, PV.appC, PV.extC, PV.popC, PV.popAC, PV.setIx, PV.truth, PV.storeAll, PL.big_le_0, PL.big_le_1, PL.big_le_2, PL.big_le_3, PL.big_le_4, PL.big_le_5, PL.big_le_6, PL.big_le_7, PL.big_le_8, PL.big_le_9, PL.big_le_10, PL.big_le_11, PL.big_le_12, PL.big_le_13, PV.unpT, PV.compTurn, PV.bindTo, PV.setAll, PV.wipeE, PV.backE, PV.forTurn, PV.tupT, PV.startE, PV.slotOf, PV.endC, PV.mutsAt, PV.runF, List.getElem?_cons_zero, List.getElem?_cons_succ, List.getElem?_nil, Option.bind_some, Option.bind_none, Option.map_some, Option.map_none, List.set_cons_zero, List.set_cons_succ, List.isEmpty_nil, List.isEmpty_cons, if_true, if_false, List.replicate_succ, List.replicate_zero, List.length_cons, List.length_nil, Bool.not_true, Bool.not_false, Bool.and_true, Bool.and_false, Bool.true_and, Bool.false_and, reduceCtorEq, ne_eq, not_false_eq_true, implies_true, Bool.true_or, Bool.false_or, Bool.or_true, Bool.or_false, Nat.reduceAdd, Nat.reduceLeDiff, Nat.reduceSub, ha]
/-! ### rings -/
def nT (l : List Nat) : List T := l.map fun (i : Nat) => T.int i
def freeOf (A : List (Nat × Nat)) (l : List Nat) : List Nat := l.filter fun p => !(A.any fun q => decide (q.2 = p) && l.contains q.1)
def restOf (A : List (Nat × Nat)) (l : List Nat) : List Nat := l.filter fun p => !((freeOf A l).contains p)
def ringF (A : List (Nat × Nat)) : Nat → List Nat → Bool
  | 0, _ => false
  | n + 1, l => match l.isEmpty with
    | true => false
    | false => match (freeOf A l).isEmpty with
      | true => true
      | false => ringF A n (restOf A l)
theorem rest_len {A : List (Nat × Nat)} {l : List Nat} (h : (freeOf A l).isEmpty = false) : (restOf A l).length < l.length := by
  unfold restOf
  obtain ⟨p, hp⟩ : ∃ p, p ∈ freeOf A l := by
    cases e : freeOf A l with
    | nil => rw [e] at h; cases h
    | cons p _ => exact ⟨p, List.mem_cons_self⟩
  have hl : p ∈ l := (List.mem_filter.mp hp).1
  rcases Nat.lt_or_ge (l.filter fun p => !((freeOf A l).contains p)).length l.length with z | z
  · exact z
  · have e := List.length_filter_eq_length_iff.mp (Nat.le_antisymm (List.length_filter_le _ _) z) p hl
    rw [List.contains_iff_mem.mpr hp] at e
    cases e
theorem min_mem (r : Nat → Nat) : ∀ l : List Nat, l ≠ [] → ∃ p ∈ l, ∀ q ∈ l, r p ≤ r q
  | [], h => absurd rfl h
  | [x], _ => ⟨x, List.mem_cons_self, fun q hq => by rw [List.mem_singleton] at hq; subst hq; exact Nat.le_refl _⟩
  | x :: y :: l, _ => by
    obtain ⟨p, hp, h⟩ := min_mem r (y :: l) (by simp)
    by_cases hx : r x ≤ r p
    · refine ⟨x, List.mem_cons_self, fun q hq => ?_⟩
      rcases List.mem_cons.mp hq with rfl | hq
      · exact Nat.le_refl _
      · exact Nat.le_trans hx (h q hq)
    · refine ⟨p, List.mem_cons_of_mem _ hp, fun q hq => ?_⟩
      rcases List.mem_cons.mp hq with rfl | hq
      · omega
      · exact h q hq
theorem ring_no {A : List (Nat × Nat)} {r : Nat → Nat} (up : ∀ q ∈ A, r q.1 < r q.2) : ∀ n l, ringF A n l = false
  | 0, _ => rfl
  | n + 1, l => by
    unfold ringF
    cases e : l.isEmpty with
    | true => rfl
    | false =>
      dsimp only
      have hf : (freeOf A l).isEmpty = false := by
        obtain ⟨p, hp, hm⟩ := min_mem r l (by rintro rfl; cases e)
        have : p ∈ freeOf A l := by
          refine List.mem_filter.mpr ⟨hp, ?_⟩
          rw [Bool.not_eq_true', Bool.eq_false_iff]
          intro z
          obtain ⟨q, hq, hz⟩ := List.any_eq_true.mp z
          rw [Bool.and_eq_true] at hz
          have h1 := of_decide_eq_true hz.1
          have h2 := hm q.1 (List.contains_iff_mem.mp hz.2)
          have h3 := up q hq
          rw [h1] at h3
          omega
        cases q : freeOf A l with
        | nil => rw [q] at this; cases this
        | cons _ _ => rfl
      rw [hf]
      exact ring_no up n _
theorem ring_yes {A : List (Nat × Nat)} {S : List Nat} (hS : S ≠ []) (hs : ∀ p ∈ S, ∃ q ∈ A, q.2 = p ∧ q.1 ∈ S) : ∀ n l, (∀ p ∈ S, p ∈ l) → l.length < n → ringF A n l = true
  | 0, _, _, h => by omega
  | n + 1, l, hl, hn => by
    unfold ringF
    have ne : l.isEmpty = false := by
      cases l with
      | nil =>
        cases S with
        | nil => exact absurd rfl hS
        | cons p _ => have := hl p List.mem_cons_self; cases this
      | cons _ _ => rfl
    rw [ne]
    dsimp only
    cases e : (freeOf A l).isEmpty with
    | true => rfl
    | false =>
      dsimp only
      refine ring_yes hS hs n _ (fun p hp => List.mem_filter.mpr ⟨hl p hp, ?_⟩) (by have := rest_len e; omega)
      rw [Bool.not_eq_true', Bool.eq_false_iff]
      intro z
      have z2 := (List.mem_filter.mp (List.contains_iff_mem.mp z)).2
      obtain ⟨q, hq, h1, h2⟩ := hs p hp
      rw [Bool.not_eq_true', Bool.eq_false_iff] at z2
      exact z2 (List.any_eq_true.mpr ⟨q, hq, by rw [decide_eq_true h1, List.contains_iff_mem.mpr (hl _ h2)]; rfl⟩)
end K85

set_option Elab.async false
set_option linter.all false
set_option maxRecDepth 1000000
set_option maxHeartbeats 8000000
/-! k85: has_ring -/
namespace K85
open PV PySem PL
abbrev cAny : Ex := Ex.comp [4, 6, 7] [6, 7] true 0 [Ex.loc 1] none ((Ex.cmp Cmp.eq (Ex.loc 7) (Ex.loc 5)).and_ (Ex.cmp Cmp.isin (Ex.loc 6) (Ex.loc 2)))
abbrev cFree : Ex := Ex.comp [4, 5] [5] false 0 [Ex.loc 2] (some (Ex.bi Bi.any [cAny]).not_) (Ex.loc 5)
abbrev cLeft : Ex := Ex.comp [4, 5] [5] false 0 [Ex.loc 2] (some (Ex.cmp Cmp.notin (Ex.loc 5) (Ex.loc 3))) (Ex.loc 5)
abbrev w4 : List Sm := [Sm.asg 3 cFree, Sm.ite (Ex.cmp Cmp.eq (Ex.loc 3) (Ex.lst [])) [Sm.ret (Ex.con (T.bl true))] [], Sm.asg 2 cLeft]
theorem c4_eq : c4 = [Sm.asg 2 (Ex.bi Bi.lrange [Ex.loc 0]), Sm.whl (Ex.cmp Cmp.ne (Ex.loc 2) (Ex.lst [])) w4, Sm.ret (Ex.con (T.bl false))] := by kernel_rfl
/-- a list, a tuple -/
def sqT : Bool → List T → T
  | true, xs => .lst xs
  | false, xs => .tup xs
theorem okT_nat (n i : Nat) : okT n (.int i) = true := by cases n <;> rfl
theorem all_nT (n : Nat) (l : List Nat) : (nT l).all (okT n) = true := by
  unfold nT
  rw [List.all_map, List.all_eq_true]
  exact fun x _ => okT_nat n x
theorem anyEq_nT (a : Nat) : ∀ l : List Nat, anyEq (.int a) (nT l) = l.contains a
  | [] => rfl
  | x :: l => by
    show (eqT (.int x) (.int a) || anyEq (.int a) (nT l)) = _
    rw [anyEq_nT a l, List.contains_cons]
    congr 1
    show ((x : Int) == (a : Int)) = (a == x)
    by_cases h : x = a
    · subst h; rw [beq_self_eq_true, beq_self_eq_true]
    · have h1 : ¬ (x : Int) = a := by omega
      have h2 : ¬ a = x := fun z => h z.symm
      rw [beq_eq_false_iff_ne.mpr h1, beq_eq_false_iff_ne.mpr h2]
theorem in_nT (a : Nat) (l : List Nat) : cmpT .isin (.int a) (.lst (nT l)) = some (l.contains a) := by
  show (if okT 63 (.int a) && (nT l).all (okT 63) then some (anyEq (.int a) (nT l)) else none) = _
  rw [all_nT, anyEq_nT, okT_nat]; rfl
theorem notin_nT (a : Nat) (l : List Nat) : cmpT .notin (.int a) (.lst (nT l)) = some (!l.contains a) := by
  show (inT (.int a) (.lst (nT l))).map not = _
  rw [show inT (.int a) (.lst (nT l)) = some (l.contains a) from in_nT a l]; rfl
theorem cmp_nil {o : Cmp} (l : List Nat) (ho : o = .eq ∨ o = .ne) : cmpT o (.lst (nT l)) (.lst []) = some (if o = .eq then l.isEmpty else !l.isEmpty) := by
  have h : okT 64 (.lst (nT l)) = true := all_nT 63 l
  rcases ho with rfl | rfl
  · show (if okT 64 (.lst (nT l)) && okT 64 (.lst []) then some (eqT (.lst (nT l)) (.lst [])) else none) = _
    rw [h]; cases l <;> rfl
  · show (if okT 64 (.lst (nT l)) && okT 64 (.lst []) then some (!eqT (.lst (nT l)) (.lst [])) else none) = _
    rw [h]; cases l <;> rfl
theorem eq_nil (l : List Nat) : cmpT .eq (.lst (nT l)) (.lst []) = some l.isEmpty := cmp_nil l (.inl rfl)
theorem ne_nil4 (l : List Nat) : cmpT .ne (.lst (nT l)) (.lst []) = some (!l.isEmpty) := cmp_nil l (.inr rfl)
theorem any_bools {α : Type} (f : α → Bool) (l : List α) : biT .any [.lst (l.map fun a => T.bl (f a))] = some (.t (.bl (l.any f))) := by
  show (boolsT (l.map fun a => T.bl (f a))).map (fun bs => A.t (.bl (bs.any id))) = _
  have : boolsT (l.map fun a => T.bl (f a)) = some (l.map f) := by
    induction l with
    | nil => rfl
    | cons a l ih =>
      show (boolsT (l.map fun a => T.bl (f a))).map (f a :: ·) = _
      rw [ih]; rfl
  rw [this]
  show some (A.t (.bl ((l.map f).any id))) = _
  rw [List.any_map]; rfl
theorem turnAny (F : Orc) (m : Nat) {x0 x1 x3 : Sl} {l : List Nat} {p a b : Nat} : compTurn (ev pg F 4000 (m + 5)) [4, 6, 7] [6, 7] true none ((Ex.cmp Cmp.eq (Ex.loc 7) (Ex.loc 5)).and_ (Ex.cmp Cmp.isin (Ex.loc 6) (Ex.loc 2))) (.tup [.int a, .int b]) [x0, x1, .o true (nT l), x3, .u, .v (.int p), .u, .u] = .ok (some (.bl (decide (b = p) && l.contains a))) [x0, x1, .o true (nT l), x3, .u, .v (.int p), .u, .u] := by
  have h := eq_int b p
  have hi := in_nT a l
  by_cases e : b = p
  · rw [decide_eq_true e] at h ⊢
    simp only [PL.ev_con, PL.ev_loc, PL.ev_dk0, PL.ev_dk1, PL.ev_lst, PL.ev_tup, PL.ev_bin, PL.ev_neg, PL.ev_cmp, PL.ev_chn, PL.ev_and, PL.ev_or, PL.ev_tand, PL.ev_tor, PL.ev_not, PL.ev_ite, PL.ev_isn, PL.ev_isb, PL.ev_isi, PL.ev_call, PL.ev_call1, PL.ev_bi, PL.ev_app, PL.ev_ext, PL.ev_pop, PL.ev_popA, PL.ev_idx, PL.ev_ixof, PL.ev_slc, PL.ev_rev, PV.evO, PV.evOs, PV.evP, PV.evPs, PV.evF, PV.evB, PV.evS, PL.r_ok_bind, PL.r_bad_bind, PL.rs_of_ok, PL.exs_nil, PL.exs_ex, PL.exs_retl, PL.exs_ret, PL.exs_asg, PL.exs_unp, PL.exs_par, PL.exs_set, PL.exs_aug, PL.exs_ite, PL.nxt_nx, PL.nxt_rt, PL.nxt_bk, PL.nxt_ct, PV.res, PV.ress, PV.frz, PV.frzs, PV.slotT, PV.ofA, PV.ofB, PV.ofT, PV.ofA?, PV.store1, PV.callWith, PV.argsOf, PV.argOf, PV.mutsOf, PV.lentOf, PV.isOwn, PV.putBack, PV.appC, PV.extC, PV.popC, PV.popAC, PV.setIx, PV.truth, PV.storeAll, PL.big_le_0, PL.big_le_1, PL.big_le_2, PL.big_le_3, PL.big_le_4, PL.big_le_5, PL.big_le_6, PL.big_le_7, PL.big_le_8, PL.big_le_9, PL.big_le_10, PL.big_le_11, PL.big_le_12, PL.big_le_13, PV.unpT, PV.compTurn, PV.bindTo, PV.setAll, PV.wipeE, PV.backE, PV.forTurn, PV.tupT, PV.startE, PV.slotOf, PV.endC, PV.mutsAt, PV.runF, List.getElem?_cons_zero, List.getElem?_cons_succ, List.getElem?_nil, Option.bind_some, Option.bind_none, Option.map_some, Option.map_none, List.set_cons_zero, List.set_cons_succ, List.isEmpty_nil, List.isEmpty_cons, if_true, if_false, List.replicate_succ, List.replicate_zero, List.length_cons, List.length_nil, Bool.not_true, Bool.not_false, Bool.and_true, Bool.and_false, Bool.true_and, Bool.false_and, reduceCtorEq, ne_eq, not_false_eq_true, implies_true, Bool.true_or, Bool.false_or, Bool.or_true, Bool.or_false, Nat.reduceAdd, Nat.reduceLeDiff, Nat.reduceSub, h, hi]
  · rw [decide_eq_false e] at h ⊢
    simp only [PL.ev_con, PL.ev_loc, PL.ev_dk0, PL.ev_dk1, PL.ev_lst, PL.ev_tup, PL.ev_bin, PL.ev_neg, PL.ev_cmp, PL.ev_chn, PL.ev_and, PL.ev_or, PL.ev_tand, PL.ev_tor, PL.ev_not, PL.ev_ite, PL.ev_isn, PL.ev_isb, PL.ev_isi, PL.ev_call, PL.ev_call1, PL.ev_bi, PL.ev_app, PL.ev_ext, PL.ev_pop, PL.ev_popA, PL.ev_idx, PL.ev_ixof, PL.ev_slc, PL.ev_rev, PV.evO, PV.evOs, PV.evP, PV.evPs, PV.evF, PV.evB, PV.evS, PL.r_ok_bind, PL.r_bad_bind, PL.rs_of_ok, PL.exs_nil, PL.exs_ex, PL.exs_retl, PL.exs_ret, PL.exs_asg, PL.exs_unp, PL.exs_par, PL.exs_set, PL.exs_aug, PL.exs_ite, PL.nxt_nx, PL.nxt_rt, PL.nxt_bk, PL.nxt_ct, PV.res, PV.ress, PV.frz, PV.frzs, PV.slotT, PV.ofA, PV.ofB, PV.ofT, PV.ofA?, PV.store1, PV.callWith, PV.argsOf, PV.argOf, PV.mutsOf, PV.lentOf, PV.isOwn, PV.putBack, PV.appC, PV.extC, PV.popC, PV.popAC, PV.setIx, PV.truth, PV.storeAll, PL.big_le_0, PL.big_le_1, PL.big_le_2, PL.big_le_3, PL.big_le_4, PL.big_le_5, PL.big_le_6, PL.big_le_7, PL.big_le_8, PL.big_le_9, PL.big_le_10, PL.big_le_11, PL.big_le_12, PL.big_le_13, PV.unpT, PV.compTurn, PV.bindTo, PV.setAll, PV.wipeE, PV.backE, PV.forTurn, PV.tupT, PV.startE, PV.slotOf, PV.endC, PV.mutsAt, PV.runF, List.getElem?_cons_zero, List.getElem?_cons_succ, List.getElem?_nil, Option.bind_some, Option.bind_none, Option.map_some, Option.map_none, List.set_cons_zero, List.set_cons_succ, List.isEmpty_nil, List.isEmpty_cons, if_true, if_false, List.replicate_succ, List.replicate_zero, List.length_cons, List.length_nil, Bool.not_true, Bool.not_false, Bool.and_true, Bool.and_false, Bool.true_and, Bool.false_and, reduceCtorEq, ne_eq, not_false_eq_true, implies_true, Bool.true_or, Bool.false_or, Bool.or_true, Bool.or_false, Nat.reduceAdd, Nat.reduceLeDiff, Nat.reduceSub, h]
theorem cAny_ok (F : Orc) (m : Nat) (k : Bool) {A : List (Nat × Nat)} (hA : A.length < 100) {x0 x3 : Sl} {l : List Nat} {p : Nat} : ev pg F 4000 (m + 6) cAny [x0, .v (sqT k (A.map arT)), .o true (nT l), x3, .u, .v (.int p), .u, .u] = .ok (.f (A.map fun q => T.bl (decide (q.2 = p) && l.contains q.1))) [x0, .v (sqT k (A.map arT)), .o true (nT l), x3, .u, .v (.int p), .u, .u] := by
  have hg : (A.map arT).map (fun t => match t with | .tup [.int a, .int b] => T.bl (decide (b.toNat = p) && l.contains a.toNat) | _ => .non) = A.map fun q => T.bl (decide (q.2 = p) && l.contains q.1) := by
    rw [List.map_map]
    rfl
  rw [← hg]
  cases k with
  | true =>
    refine ev_comp_map (ρ2 := [x0, .v (sqT true (A.map arT)), .o true (nT l), x3, .u, .v (.int p), .u, .u]) (xs := A.map arT) _ (iv := .sq true (.d 1)) (ρ1 := [x0, .v (sqT true (A.map arT)), .o true (nT l), x3, .u, .v (.int p), .u, .u]) rfl rfl (fun i => rfl) (fun x hx => ?_) (by rw [List.length_map]; omega) (by rw [List.length_map]; unfold big; omega) rfl
    obtain ⟨q, _, rfl⟩ := List.mem_map.mp hx
    exact turnAny F m
  | false =>
    refine ev_comp_map (ρ2 := [x0, .v (sqT false (A.map arT)), .o true (nT l), x3, .u, .v (.int p), .u, .u]) (xs := A.map arT) _ (iv := .sq false (.d 1)) (ρ1 := [x0, .v (sqT false (A.map arT)), .o true (nT l), x3, .u, .v (.int p), .u, .u]) rfl rfl (fun i => rfl) (fun x hx => ?_) (by rw [List.length_map]; omega) (by rw [List.length_map]; unfold big; omega) rfl
    obtain ⟨q, _, rfl⟩ := List.mem_map.mp hx
    exact turnAny F m
def keepT (f : Nat → Bool) : T → Option T
  | .int i => if f i.toNat then some (.int i) else none
  | _ => none
theorem keep_ok (f : Nat → Bool) (l : List Nat) : (nT l).filterMap (keepT f) = nT (l.filter f) := by
  unfold nT
  rw [List.filterMap_map]
  induction l with
  | nil => rfl
  | cons a l ih =>
    have e : (keepT f ∘ fun (i : Nat) => T.int i) a = if f a then some (T.int a) else none := by
      show (if f ((a : Nat) : Int).toNat then some (T.int a) else none) = _
      rw [Int.toNat_natCast]
    rw [List.filterMap_cons, List.filter_cons, e]
    cases h : f a with
    | true =>
      show T.int a :: List.filterMap (keepT f ∘ fun (i : Nat) => T.int i) l = T.int a :: List.map _ (l.filter f)
      rw [ih]
    | false => exact ih
theorem nT_len (l : List Nat) : (nT l).length = l.length := List.length_map _
theorem turnFree (F : Orc) (m : Nat) (k : Bool) {A : List (Nat × Nat)} (hA : A.length < 100) {x0 x3 : Sl} {l : List Nat} {p : Nat} : compTurn (ev pg F 4000 (m + 9)) [4, 5] [5] false (some (Ex.bi Bi.any [cAny]).not_) (Ex.loc 5) (.int p) [x0, .v (sqT k (A.map arT)), .o true (nT l), x3, .u, .u, .u, .u] = .ok (keepT (fun p => !(A.any fun q => decide (q.2 = p) && l.contains q.1)) (.int p)) [x0, .v (sqT k (A.map arT)), .o true (nT l), x3, .u, .u, .u, .u] := by
  have hc := cAny_ok F (m + 1) k hA (x0 := x0) (x3 := x3) (l := l) (p := p)
  have hb := any_bools (fun q : Nat × Nat => decide (q.2 = p) && l.contains q.1) A
  show _ = R.ok (if (!(A.any fun q => decide (q.2 = ((p : Nat) : Int).toNat) && l.contains q.1)) then some (T.int p) else none) _
  rw [Int.toNat_natCast]
  have hcond : evB (ev pg F 4000 (m + 9)) (Ex.bi Bi.any [cAny]).not_ [x0, .v (sqT k (A.map arT)), .o true (nT l), x3, .u, .v (.int p), .u, .u] = .ok (!(A.any fun q => decide (q.2 = p) && l.contains q.1)) [x0, .v (sqT k (A.map arT)), .o true (nT l), x3, .u, .v (.int p), .u, .u] := by
    simp only [PV.evB, PV.evP, PV.evO, PL.ev_not, PL.ev_bi, PV.evPs, PV.evOs]
    rw [hc]
    simp only [PL.ev_con, PL.ev_loc, PL.ev_dk0, PL.ev_dk1, PL.ev_lst, PL.ev_tup, PL.ev_bin, PL.ev_neg, PL.ev_cmp, PL.ev_chn, PL.ev_and, PL.ev_or, PL.ev_tand, PL.ev_tor, PL.ev_not, PL.ev_ite, PL.ev_isn, PL.ev_isb, PL.ev_isi, PL.ev_call, PL.ev_call1, PL.ev_bi, PL.ev_app, PL.ev_ext, PL.ev_pop, PL.ev_popA, PL.ev_idx, PL.ev_ixof, PL.ev_slc, PL.ev_rev, PV.evO, PV.evOs, PV.evP, PV.evPs, PV.evF, PV.evB, PV.evS, PL.r_ok_bind, PL.r_bad_bind, PL.rs_of_ok, PL.exs_nil, PL.exs_ex, PL.exs_retl, PL.exs_ret, PL.exs_asg, PL.exs_unp, PL.exs_par, PL.exs_set, PL.exs_aug, PL.exs_ite, PL.nxt_nx, PL.nxt_rt, PL.nxt_bk, PL.nxt_ct, PV.res, PV.ress, PV.frz, PV.frzs, PV.slotT, PV.ofA, PV.ofB, PV.ofT, PV.ofA?, PV.store1, PV.callWith, PV.argsOf, PV.argOf, PV.mutsOf, PV.lentOf, PV.isOwn, PV.putBack, PV.appC, PV.extC, PV.popC, PV.popAC, PV.setIx, PV.truth, PV.storeAll, PL.big_le_0, PL.big_le_1, PL.big_le_2, PL.big_le_3, PL.big_le_4, PL.big_le_5, PL.big_le_6, PL.big_le_7, PL.big_le_8, PL.big_le_9, PL.big_le_10, PL.big_le_11, PL.big_le_12, PL.big_le_13, PV.unpT, PV.compTurn, PV.bindTo, PV.setAll, PV.wipeE, PV.backE, PV.forTurn, PV.tupT, PV.startE, PV.slotOf, PV.endC, PV.mutsAt, PV.runF, List.getElem?_cons_zero, List.getElem?_cons_succ, List.getElem?_nil, Option.bind_some, Option.bind_none, Option.map_some, Option.map_none, List.set_cons_zero, List.set_cons_succ, List.isEmpty_nil, List.isEmpty_cons, if_true, if_false, List.replicate_succ, List.replicate_zero, List.length_cons, List.length_nil, Bool.not_true, Bool.not_false, Bool.and_true, Bool.and_false, Bool.true_and, Bool.false_and, reduceCtorEq, ne_eq, not_false_eq_true, implies_true, Bool.true_or, Bool.false_or, Bool.or_true, Bool.or_false, Nat.reduceAdd, Nat.reduceLeDiff, Nat.reduceSub, hb]
  unfold PV.compTurn
  simp only [PV.bindTo, List.set_cons_zero, List.set_cons_succ]
  rw [hcond]
  cases (!(A.any fun q => decide (q.2 = p) && l.contains q.1)) with
  | true => simp only [PL.ev_con, PL.ev_loc, PL.ev_dk0, PL.ev_dk1, PL.ev_lst, PL.ev_tup, PL.ev_bin, PL.ev_neg, PL.ev_cmp, PL.ev_chn, PL.ev_and, PL.ev_or, PL.ev_tand, PL.ev_tor, PL.ev_not, PL.ev_ite, PL.ev_isn, PL.ev_isb, PL.ev_isi, PL.ev_call, PL.ev_call1, PL.ev_bi, PL.ev_app, PL.ev_ext, PL.ev_pop, PL.ev_popA, PL.ev_idx, PL.ev_ixof, PL.ev_slc, PL.ev_rev, PV.evO, PV.evOs, PV.evP, PV.evPs, PV.evF, PV.evB, PV.evS, PL.r_ok_bind, PL.r_bad_bind, PL.rs_of_ok, PL.exs_nil, PL.exs_ex, PL.exs_retl, PL.exs_ret, PL.exs_asg, PL.exs_unp, PL.exs_par, PL.exs_set, PL.exs_aug, PL.exs_ite, PL.nxt_nx, PL.nxt_rt, PL.nxt_bk, PL.nxt_ct, PV.res, PV.ress, PV.frz, PV.frzs, PV.slotT, PV.ofA, PV.ofB, PV.ofT, PV.ofA?, PV.store1, PV.callWith, PV.argsOf, PV.argOf, PV.mutsOf, PV.lentOf, PV.isOwn, PV.putBack, PV.appC, PV.extC, PV.popC, PV.popAC, PV.setIx, PV.truth, PV.storeAll, PL.big_le_0, PL.big_le_1, PL.big_le_2, PL.big_le_3, PL.big_le_4, PL.big_le_5, PL.big_le_6, PL.big_le_7, PL.big_le_8, PL.big_le_9, PL.big_le_10, PL.big_le_11, PL.big_le_12, PL.big_le_13, PV.unpT, PV.compTurn, PV.bindTo, PV.setAll, PV.wipeE, PV.backE, PV.forTurn, PV.tupT, PV.startE, PV.slotOf, PV.endC, PV.mutsAt, PV.runF, List.getElem?_cons_zero, List.getElem?_cons_succ, List.getElem?_nil, Option.bind_some, Option.bind_none, Option.map_some, Option.map_none, List.set_cons_zero, List.set_cons_succ, List.isEmpty_nil, List.isEmpty_cons, if_true, if_false, List.replicate_succ, List.replicate_zero, List.length_cons, List.length_nil, Bool.not_true, Bool.not_false, Bool.and_true, Bool.and_false, Bool.true_and, Bool.false_and, reduceCtorEq, ne_eq, not_false_eq_true, implies_true, Bool.true_or, Bool.false_or, Bool.or_true, Bool.or_false, Nat.reduceAdd, Nat.reduceLeDiff, Nat.reduceSub]
  | false => simp only [PL.ev_con, PL.ev_loc, PL.ev_dk0, PL.ev_dk1, PL.ev_lst, PL.ev_tup, PL.ev_bin, PL.ev_neg, PL.ev_cmp, PL.ev_chn, PL.ev_and, PL.ev_or, PL.ev_tand, PL.ev_tor, PL.ev_not, PL.ev_ite, PL.ev_isn, PL.ev_isb, PL.ev_isi, PL.ev_call, PL.ev_call1, PL.ev_bi, PL.ev_app, PL.ev_ext, PL.ev_pop, PL.ev_popA, PL.ev_idx, PL.ev_ixof, PL.ev_slc, PL.ev_rev, PV.evO, PV.evOs, PV.evP, PV.evPs, PV.evF, PV.evB, PV.evS, PL.r_ok_bind, PL.r_bad_bind, PL.rs_of_ok, PL.exs_nil, PL.exs_ex, PL.exs_retl, PL.exs_ret, PL.exs_asg, PL.exs_unp, PL.exs_par, PL.exs_set, PL.exs_aug, PL.exs_ite, PL.nxt_nx, PL.nxt_rt, PL.nxt_bk, PL.nxt_ct, PV.res, PV.ress, PV.frz, PV.frzs, PV.slotT, PV.ofA, PV.ofB, PV.ofT, PV.ofA?, PV.store1, PV.callWith, PV.argsOf, PV.argOf, PV.mutsOf, PV.lentOf, PV.isOwn, PV.putBack, PV.appC, PV.extC, PV.popC, PV.popAC, PV.setIx, PV.truth, PV.storeAll, PL.big_le_0, PL.big_le_1, PL.big_le_2, PL.big_le_3, PL.big_le_4, PL.big_le_5, PL.big_le_6, PL.big_le_7, PL.big_le_8, PL.big_le_9, PL.big_le_10, PL.big_le_11, PL.big_le_12, PL.big_le_13, PV.unpT, PV.compTurn, PV.bindTo, PV.setAll, PV.wipeE, PV.backE, PV.forTurn, PV.tupT, PV.startE, PV.slotOf, PV.endC, PV.mutsAt, PV.runF, List.getElem?_cons_zero, List.getElem?_cons_succ, List.getElem?_nil, Option.bind_some, Option.bind_none, Option.map_some, Option.map_none, List.set_cons_zero, List.set_cons_succ, List.isEmpty_nil, List.isEmpty_cons, if_true, if_false, List.replicate_succ, List.replicate_zero, List.length_cons, List.length_nil, Bool.not_true, Bool.not_false, Bool.and_true, Bool.and_false, Bool.true_and, Bool.false_and, reduceCtorEq, ne_eq, not_false_eq_true, implies_true, Bool.true_or, Bool.false_or, Bool.or_true, Bool.or_false, Nat.reduceAdd, Nat.reduceLeDiff, Nat.reduceSub]
theorem cFree_ok (F : Orc) (m : Nat) (k : Bool) {A : List (Nat × Nat)} (hA : A.length < 100) {x0 x3 : Sl} {l : List Nat} (hl : l.length < 100) : ev pg F 4000 (m + 10) cFree [x0, .v (sqT k (A.map arT)), .o true (nT l), x3, .u, .u, .u, .u] = .ok (.f (nT (freeOf A l))) [x0, .v (sqT k (A.map arT)), .o true (nT l), x3, .u, .u, .u, .u] := by
  have hiv : evIv (ev pg F 4000 (m + 9)) 0 [Ex.loc 2] [x0, .v (sqT k (A.map arT)), .o true (nT l), x3, .u, .u, .u, .u] = .ok (.sq true (.d 2)) [x0, .v (sqT k (A.map arT)), .o true (nT l), x3, .u, .u, .u, .u] := rfl
  rw [ev_comp_ok (xs := nT l) (g := keepT (fun p => !(A.any fun q => decide (q.2 = p) && l.contains q.1))) hiv rfl (fun j => rfl) (fun y hy => ?_) (by rw [nT_len]; omega) (by rw [nT_len]; unfold big; omega), keep_ok]
  · rfl
  · obtain ⟨p, _, rfl⟩ := List.mem_map.mp hy
    exact turnFree F m k hA
theorem turnLeft (F : Orc) (m : Nat) {x0 x1 : Sl} {l f : List Nat} {p : Nat} : compTurn (ev pg F 4000 (m + 5)) [4, 5] [5] false (some (Ex.cmp Cmp.notin (Ex.loc 5) (Ex.loc 3))) (Ex.loc 5) (.int p) [x0, x1, .o true (nT l), .o true (nT f), .u, .u, .u, .u] = .ok (keepT (fun p => !(f.contains p)) (.int p)) [x0, x1, .o true (nT l), .o true (nT f), .u, .u, .u, .u] := by
  have h := notin_nT p f
  show _ = R.ok (if (!(f.contains ((p : Nat) : Int).toNat)) then some (T.int p) else none) _
  rw [Int.toNat_natCast]
  cases e : f.contains p with
  | true => rw [e] at h; simp only [PL.ev_con, PL.ev_loc, PL.ev_dk0, PL.ev_dk1, PL.ev_lst, PL.ev_tup, PL.ev_bin, PL.ev_neg, PL.ev_cmp, PL.ev_chn, PL.ev_and, PL.ev_or, PL.ev_tand, PL.ev_tor, PL.ev_not, PL.ev_ite, PL.ev_isn, PL.ev_isb, PL.ev_isi, PL.ev_call, PL.ev_call1, PL.ev_bi, PL.ev_app, PL.ev_ext, PL.ev_pop, PL.ev_popA, PL.ev_idx, PL.ev_ixof, PL.ev_slc, PL.ev_rev, PV.evO, PV.evOs, PV.evP, PV.evPs, PV.evF, PV.evB, PV.evS, PL.r_ok_bind, PL.r_bad_bind, PL.rs_of_ok, PL.exs_nil, PL.exs_ex, PL.exs_retl, PL.exs_ret, PL.exs_asg, PL.exs_unp, PL.exs_par, PL.exs_set, PL.exs_aug, PL.exs_ite, PL.nxt_nx, PL.nxt_rt, PL.nxt_bk, PL.nxt_ct, PV.res, PV.ress, PV.frz, PV.frzs, PV.slotT, PV.ofA, PV.ofB, PV.ofT, PV.ofA?, PV.store1, PV.callWith, PV.argsOf, PV.argOf, PV.mutsOf, PV.lentOf, PV.isOwn, PV.putBack, PV.appC, PV.extC, PV.popC, PV.popAC, PV.setIx, PV.truth, PV.storeAll, PL.big_le_0, PL.big_le_1, PL.big_le_2, PL.big_le_3, PL.big_le_4, PL.big_le_5, PL.big_le_6, PL.big_le_7, PL.big_le_8, PL.big_le_9, PL.big_le_10, PL.big_le_11, PL.big_le_12, PL.big_le_13, PV.unpT, PV.compTurn, PV.bindTo, PV.setAll, PV.wipeE, PV.backE, PV.forTurn, PV.tupT, PV.startE, PV.slotOf, PV.endC, PV.mutsAt, PV.runF, List.getElem?_cons_zero, List.getElem?_cons_succ, List.getElem?_nil, Option.bind_some, Option.bind_none, Option.map_some, Option.map_none, List.set_cons_zero, List.set_cons_succ, List.isEmpty_nil, List.isEmpty_cons, if_true, if_false, List.replicate_succ, List.replicate_zero, List.length_cons, List.length_nil, Bool.not_true, Bool.not_false, Bool.and_true, Bool.and_false, Bool.true_and, Bool.false_and, reduceCtorEq, ne_eq, not_false_eq_true, implies_true, Bool.true_or, Bool.false_or, Bool.or_true, Bool.or_false, Nat.reduceAdd, Nat.reduceLeDiff, Nat.reduceSub, h]
  | false => rw [e] at h; simp only [PL.ev_con, PL.ev_loc, PL.ev_dk0, PL.ev_dk1, PL.ev_lst, PL.ev_tup, PL.ev_bin, PL.ev_neg, PL.ev_cmp, PL.ev_chn, PL.ev_and, PL.ev_or, PL.ev_tand, PL.ev_tor, PL.ev_not, PL.ev_ite, PL.ev_isn, PL.ev_isb, PL.ev_isi, PL.ev_call, PL.ev_call1, PL.ev_bi, PL.ev_app, PL.ev_ext, PL.ev_pop, PL.ev_popA, PL.ev_idx, PL.ev_ixof, PL.ev_slc, PL.ev_rev, PV.evO, PV.evOs, PV.evP, PV.evPs, PV.evF, PV.evB, PV.evS, PL.r_ok_bind, PL.r_bad_bind, PL.rs_of_ok, PL.exs_nil, PL.exs_ex, PL.exs_retl, PL.exs_ret, PL.exs_asg, PL.exs_unp, PL.exs_par, PL.exs_set, PL.exs_aug, PL.exs_ite, PL.nxt_nx, PL.nxt_rt, PL.nxt_bk, PL.nxt_ct, PV.res, PV.ress, PV.frz, PV.frzs, PV.slotT, PV.ofA, PV.ofB, PV.ofT, PV.ofA?, PV.store1, PV.callWith, PV.argsOf, PV.argOf, PV.mutsOf, PV.lentOf, PV.isOwn, PV.putBack, PV.appC, PV.extC, PV.popC, PV.popAC, PV.setIx, PV.truth, PV.storeAll, PL.big_le_0, PL.big_le_1, PL.big_le_2, PL.big_le_3, PL.big_le_4, PL.big_le_5, PL.big_le_6, PL.big_le_7, PL.big_le_8, PL.big_le_9, PL.big_le_10, PL.big_le_11, PL.big_le_12, PL.big_le_13, PV.unpT, PV.compTurn, PV.bindTo, PV.setAll, PV.wipeE, PV.backE, PV.forTurn, PV.tupT, PV.startE, PV.slotOf, PV.endC, PV.mutsAt, PV.runF, List.getElem?_cons_zero, List.getElem?_cons_succ, List.getElem?_nil, Option.bind_some, Option.bind_none, Option.map_some, Option.map_none, List.set_cons_zero, List.set_cons_succ, List.isEmpty_nil, List.isEmpty_cons, if_true, if_false, List.replicate_succ, List.replicate_zero, List.length_cons, List.length_nil, Bool.not_true, Bool.not_false, Bool.and_true, Bool.and_false, Bool.true_and, Bool.false_and, reduceCtorEq, ne_eq, not_false_eq_true, implies_true, Bool.true_or, Bool.false_or, Bool.or_true, Bool.or_false, Nat.reduceAdd, Nat.reduceLeDiff, Nat.reduceSub, h]
theorem cLeft_ok (F : Orc) (m : Nat) {x0 x1 : Sl} {l f : List Nat} (hl : l.length < 100) : ev pg F 4000 (m + 6) cLeft [x0, x1, .o true (nT l), .o true (nT f), .u, .u, .u, .u] = .ok (.f (nT (l.filter fun p => !(f.contains p)))) [x0, x1, .o true (nT l), .o true (nT f), .u, .u, .u, .u] := by
  have hiv : evIv (ev pg F 4000 (m + 5)) 0 [Ex.loc 2] [x0, x1, .o true (nT l), .o true (nT f), .u, .u, .u, .u] = .ok (.sq true (.d 2)) [x0, x1, .o true (nT l), .o true (nT f), .u, .u, .u, .u] := rfl
  rw [ev_comp_ok (xs := nT l) (g := keepT (fun p => !(f.contains p))) hiv rfl (fun j => rfl) (fun y hy => ?_) (by rw [nT_len]; omega) (by rw [nT_len]; unfold big; omega), keep_ok]
  · rfl
  · obtain ⟨p, _, rfl⟩ := List.mem_map.mp hy
    exact turnLeft F m
theorem test4 (F : Orc) {x0 x1 : Sl} {l : List Nat} {r : Rho} : evB (ev pg F 4000 60) (Ex.cmp Cmp.ne (Ex.loc 2) (Ex.lst [])) (x0 :: x1 :: .o true (nT l) :: r) = .ok (!l.isEmpty) (x0 :: x1 :: .o true (nT l) :: r) := by
  have h := ne_nil4 l
  simp only [PL.ev_con, PL.ev_loc, PL.ev_dk0, PL.ev_dk1, PL.ev_lst, PL.ev_tup, PL.ev_bin, PL.ev_neg, PL.ev_cmp, PL.ev_chn, PL.ev_and, PL.ev_or, PL.ev_tand, PL.ev_tor, PL.ev_not, PL.ev_ite, PL.ev_isn, PL.ev_isb, PL.ev_isi, PL.ev_call, PL.ev_call1, PL.ev_bi, PL.ev_app, PL.ev_ext, PL.ev_pop, PL.ev_popA, PL.ev_idx, PL.ev_ixof, PL.ev_slc, PL.ev_rev, PV.evO, PV.evOs, PV.evP, PV.evPs, PV.evF, PV.evB, PV.evS, PL.r_ok_bind, PL.r_bad_bind, PL.rs_of_ok, PL.exs_nil, PL.exs_ex, PL.exs_retl, PL.exs_ret, PL.exs_asg, PL.exs_unp, PL.exs_par, PL.exs_set, PL.exs_aug, PL.exs_ite, PL.nxt_nx, PL.nxt_rt, PL.nxt_bk, PL.nxt_ct, PV.res, PV.ress, PV.frz, PV.frzs, PV.slotT, PV.ofA, PV.ofB, PV.ofT, PV.ofA?, PV.store1, PV.callWith, PV.argsOf, PV.argOf, PV.mutsOf, PV.lentOf, PV.isOwn, PV.putBack, PV.appC, PV.extC, PV.popC, PV.popAC, PV.setIx, PV.truth, PV.storeAll, PL.big_le_0, PL.big_le_1, PL.big_le_2, PL.big_le_3, PL.big_le_4, PL.big_le_5, PL.big_le_6, PL.big_le_7, PL.big_le_8, PL.big_le_9, PL.big_le_10, PL.big_le_11, PL.big_le_12, PL.big_le_13, PV.unpT, PV.compTurn, PV.bindTo, PV.setAll, PV.wipeE, PV.backE, PV.forTurn, PV.tupT, PV.startE, PV.slotOf, PV.endC, PV.mutsAt, PV.runF, List.getElem?_cons_zero, List.getElem?_cons_succ, List.getElem?_nil, Option.bind_some, Option.bind_none, Option.map_some, Option.map_none, List.set_cons_zero, List.set_cons_succ, List.isEmpty_nil, List.isEmpty_cons, if_true, if_false, List.replicate_succ, List.replicate_zero, List.length_cons, List.length_nil, Bool.not_true, Bool.not_false, Bool.and_true, Bool.and_false, Bool.true_and, Bool.false_and, reduceCtorEq, ne_eq, not_false_eq_true, implies_true, Bool.true_or, Bool.false_or, Bool.or_true, Bool.or_false, Nat.reduceAdd, Nat.reduceLeDiff, Nat.reduceSub, h]
theorem w4_ok (F : Orc) (k : Bool) {A : List (Nat × Nat)} (hA : A.length < 100) {x0 x3 : Sl} {l : List Nat} (hl : l.length < 100) : exs pg F 4000 60 58 w4 [x0, .v (sqT k (A.map arT)), .o true (nT l), x3, .u, .u, .u, .u] = match (freeOf A l).isEmpty with
    | true => .rt (.t (.bl true)) [x0, .v (sqT k (A.map arT)), .o true (nT l), .o true (nT (freeOf A l)), .u, .u, .u, .u]
    | false => .nx [x0, .v (sqT k (A.map arT)), .o true (nT (restOf A l)), .o true (nT (freeOf A l)), .u, .u, .u, .u] := by
  have h1 := cFree_ok F 50 k hA (x0 := x0) (x3 := x3) hl
  have h2 := cLeft_ok F 54 (x0 := x0) (x1 := .v (sqT k (A.map arT))) (f := freeOf A l) hl
  have h3 := eq_nil (freeOf A l)
  rw [exs_asg, h1]
  simp only [PL.rs_of_ok, PV.store1, List.set_cons_zero, List.set_cons_succ, PL.nxt_nx]
  rw [exs_ite]
  have ht : evB (ev pg F 4000 60) (Ex.cmp Cmp.eq (Ex.loc 3) (Ex.lst [])) [x0, .v (sqT k (A.map arT)), .o true (nT l), .o true (nT (freeOf A l)), .u, .u, .u, .u] = .ok (freeOf A l).isEmpty [x0, .v (sqT k (A.map arT)), .o true (nT l), .o true (nT (freeOf A l)), .u, .u, .u, .u] := by
    simp only [PL.ev_con, PL.ev_loc, PL.ev_dk0, PL.ev_dk1, PL.ev_lst, PL.ev_tup, PL.ev_bin, PL.ev_neg, PL.ev_cmp, PL.ev_chn, PL.ev_and, PL.ev_or, PL.ev_tand, PL.ev_tor, PL.ev_not, PL.ev_ite, PL.ev_isn, PL.ev_isb, PL.ev_isi, PL.ev_call, PL.ev_call1, PL.ev_bi, PL.ev_app, PL.ev_ext, PL.ev_pop, PL.ev_popA, PL.ev_idx, PL.ev_ixof, PL.ev_slc, PL.ev_rev, PV.evO, PV.evOs, PV.evP, PV.evPs, PV.evF, PV.evB, PV.evS, PL.r_ok_bind, PL.r_bad_bind, PL.rs_of_ok, PL.exs_nil, PL.exs_ex, PL.exs_retl, PL.exs_ret, PL.exs_asg, PL.exs_unp, PL.exs_par, PL.exs_set, PL.exs_aug, PL.exs_ite, PL.nxt_nx, PL.nxt_rt, PL.nxt_bk, PL.nxt_ct, PV.res, PV.ress, PV.frz, PV.frzs, PV.slotT, PV.ofA, PV.ofB, PV.ofT, PV.ofA?, PV.store1, PV.callWith, PV.argsOf, PV.argOf, PV.mutsOf, PV.lentOf, PV.isOwn, PV.putBack, PV.appC, PV.extC, PV.popC, PV.popAC, PV.setIx, PV.truth, PV.storeAll, PL.big_le_0, PL.big_le_1, PL.big_le_2, PL.big_le_3, PL.big_le_4, PL.big_le_5, PL.big_le_6, PL.big_le_7, PL.big_le_8, PL.big_le_9, PL.big_le_10, PL.big_le_11, PL.big_le_12, PL.big_le_13, PV.unpT, PV.compTurn, PV.bindTo, PV.setAll, PV.wipeE, PV.backE, PV.forTurn, PV.tupT, PV.startE, PV.slotOf, PV.endC, PV.mutsAt, PV.runF, List.getElem?_cons_zero, List.getElem?_cons_succ, List.getElem?_nil, Option.bind_some, Option.bind_none, Option.map_some, Option.map_none, List.set_cons_zero, List.set_cons_succ, List.isEmpty_nil, List.isEmpty_cons, if_true, if_false, List.replicate_succ, List.replicate_zero, List.length_cons, List.length_nil, Bool.not_true, Bool.not_false, Bool.and_true, Bool.and_false, Bool.true_and, Bool.false_and, reduceCtorEq, ne_eq, not_false_eq_true, implies_true, Bool.true_or, Bool.false_or, Bool.or_true, Bool.or_false, Nat.reduceAdd, Nat.reduceLeDiff, Nat.reduceSub, h3]
  rw [ht]
  cases (freeOf A l).isEmpty with
  | true => simp only [PL.ev_con, PL.ev_loc, PL.ev_dk0, PL.ev_dk1, PL.ev_lst, PL.ev_tup, PL.ev_bin, PL.ev_neg, PL.ev_cmp, PL.ev_chn, PL.ev_and, PL.ev_or, PL.ev_tand, PL.ev_tor, PL.ev_not, PL.ev_ite, PL.ev_isn, PL.ev_isb, PL.ev_isi, PL.ev_call, PL.ev_call1, PL.ev_bi, PL.ev_app, PL.ev_ext, PL.ev_pop, PL.ev_popA, PL.ev_idx, PL.ev_ixof, PL.ev_slc, PL.ev_rev, PV.evO, PV.evOs, PV.evP, PV.evPs, PV.evF, PV.evB, PV.evS, PL.r_ok_bind, PL.r_bad_bind, PL.rs_of_ok, PL.exs_nil, PL.exs_ex, PL.exs_retl, PL.exs_ret, PL.exs_asg, PL.exs_unp, PL.exs_par, PL.exs_set, PL.exs_aug, PL.exs_ite, PL.nxt_nx, PL.nxt_rt, PL.nxt_bk, PL.nxt_ct, PV.res, PV.ress, PV.frz, PV.frzs, PV.slotT, PV.ofA, PV.ofB, PV.ofT, PV.ofA?, PV.store1, PV.callWith, PV.argsOf, PV.argOf, PV.mutsOf, PV.lentOf, PV.isOwn, PV.putBack, PV.appC, PV.extC, PV.popC, PV.popAC, PV.setIx, PV.truth, PV.storeAll, PL.big_le_0, PL.big_le_1, PL.big_le_2, PL.big_le_3, PL.big_le_4, PL.big_le_5, PL.big_le_6, PL.big_le_7, PL.big_le_8, PL.big_le_9, PL.big_le_10, PL.big_le_11, PL.big_le_12, PL.big_le_13, PV.unpT, PV.compTurn, PV.bindTo, PV.setAll, PV.wipeE, PV.backE, PV.forTurn, PV.tupT, PV.startE, PV.slotOf, PV.endC, PV.mutsAt, PV.runF, List.getElem?_cons_zero, List.getElem?_cons_succ, List.getElem?_nil, Option.bind_some, Option.bind_none, Option.map_some, Option.map_none, List.set_cons_zero, List.set_cons_succ, List.isEmpty_nil, List.isEmpty_cons, if_true, if_false, List.replicate_succ, List.replicate_zero, List.length_cons, List.length_nil, Bool.not_true, Bool.not_false, Bool.and_true, Bool.and_false, Bool.true_and, Bool.false_and, reduceCtorEq, ne_eq, not_false_eq_true, implies_true, Bool.true_or, Bool.false_or, Bool.or_true, Bool.or_false, Nat.reduceAdd, Nat.reduceLeDiff, Nat.reduceSub]
  | false =>
    simp only [PL.rs_of_ok, PL.exs_nil, PL.nxt_nx]
    rw [exs_asg, h2]
    simp only [PL.rs_of_ok, PV.store1, List.set_cons_zero, List.set_cons_succ, PL.nxt_nx, PL.exs_nil]
    rfl
theorem whl4 (F : Orc) (k : Bool) {A : List (Nat × Nat)} (hA : A.length < 100) {x0 : Sl} : ∀ (n m : Nat) (l : List Nat) (x3 : Sl), l.length < n → n ≤ m → l.length < 100 →
    ∃ ρ', whlL (evB (ev pg F 4000 60) (Ex.cmp Cmp.ne (Ex.loc 2) (Ex.lst []))) (exs pg F 4000 60 58 w4) m [x0, .v (sqT k (A.map arT)), .o true (nT l), x3, .u, .u, .u, .u] = match ringF A n l with
      | true => .rt (.t (.bl true)) ρ'
      | false => .nx ρ' := by
  intro n
  induction n with
  | zero => intro m l x3 h; omega
  | succ n ih =>
    intro m l x3 h1 h2 h3
    cases m with
    | zero => omega
    | succ m =>
    unfold whlL ringF
    rw [test4]
    cases e : l.isEmpty with
    | true => exact ⟨_, rfl⟩
    | false =>
      simp only [PL.rs_of_ok, Bool.not_false]
      rw [w4_ok F k hA h3]
      cases e2 : (freeOf A l).isEmpty with
      | true => exact ⟨_, rfl⟩
      | false =>
        have hlen := rest_len e2
        exact ih m (restOf A l) _ (by omega) (by omega) (by omega)
theorem lrange_ok {P : Nat} (h : P < 1000) : biT .lrange [.int P] = some (.f (nT (List.range P))) := by
  show (if 0 ≤ ((P : Nat) : Int) ∧ ((P : Nat) : Int) ≤ 16777216 then some (A.f ((List.range ((P : Nat) : Int).toNat).map fun (k : Nat) => T.int k)) else none) = _
  rw [if_pos (by omega), Int.toNat_natCast]; rfl
theorem f4 (d : Nat) (k : Bool) {A : List (Nat × Nat)} (hA : A.length < 100) {P : Nat} (hP : P < 50) : Fo (d + 1) 4 [.t (.int P), .t (sqT k (A.map arT))] = .ok (.t (.bl (ringF A 60 (List.range P)))) [] := by
  obtain ⟨ρ', e⟩ := whl4 (Fo d) k hA (x0 := .v (.int P)) 60 4000 (List.range P) .u (by rw [List.length_range]; omega) (by omega) (by rw [List.length_range]; omega)
  refine Fd_rt (ρ0 := [.v (.int P), .v (sqT k (A.map arT)), .u, .u, .u, .u, .u, .u]) (ρ := ρ') p4 rfl ?_ rfl
  show exs pg (Fo d) 4000 60 60 c4 _ = _
  have hl := lrange_ok (P := P) (by omega)
  generalize Fo d = F at e ⊢
  rw [c4_eq, exs_asg]
  simp only [PL.ev_bi, PV.evPs, PV.evOs, PV.evO, List.getElem?_cons_zero, Option.bind_some, PV.slotT, PL.r_ok_bind, PV.ress, PV.res, hl, PV.ofA?, PL.rs_of_ok, PV.store1, List.set_cons_zero, List.set_cons_succ, PL.nxt_nx]
  rw [exs_whl, e]
  cases ringF A 60 (List.range P) with
  | true => rfl
  | false =>
    simp only [PL.nxt_nx]
    rw [exs_ret _ (fun i => by simp)]
    simp only [PL.ev_con, PL.ev_loc, PL.ev_dk0, PL.ev_dk1, PL.ev_lst, PL.ev_tup, PL.ev_bin, PL.ev_neg, PL.ev_cmp, PL.ev_chn, PL.ev_and, PL.ev_or, PL.ev_tand, PL.ev_tor, PL.ev_not, PL.ev_ite, PL.ev_isn, PL.ev_isb, PL.ev_isi, PL.ev_call, PL.ev_call1, PL.ev_bi, PL.ev_app, PL.ev_ext, PL.ev_pop, PL.ev_popA, PL.ev_idx, PL.ev_ixof, PL.ev_slc, PL.ev_rev, PV.evO, PV.evOs, PV.evP, PV.evPs, PV.evF, PV.evB, PV.evS, PL.r_ok_bind, PL.r_bad_bind, PL.rs_of_ok, PL.exs_nil, PL.exs_ex, PL.exs_retl, PL.exs_ret, PL.exs_asg, PL.exs_unp, PL.exs_par, PL.exs_set, PL.exs_aug, PL.exs_ite, PL.nxt_nx, PL.nxt_rt, PL.nxt_bk, PL.nxt_ct, PV.res, PV.ress, PV.frz, PV.frzs, PV.slotT, PV.ofA, PV.ofB, PV.ofT, PV.ofA?, PV.store1, PV.callWith, PV.argsOf, PV.argOf, PV.mutsOf, PV.lentOf, PV.isOwn, PV.putBack, PV.appC, PV.extC, PV.popC, PV.popAC, PV.setIx, PV.truth, PV.storeAll, PL.big_le_0, PL.big_le_1, PL.big_le_2, PL.big_le_3, PL.big_le_4, PL.big_le_5, PL.big_le_6, PL.big_le_7, PL.big_le_8, PL.big_le_9, PL.big_le_10, PL.big_le_11, PL.big_le_12, PL.big_le_13, PV.unpT, PV.compTurn, PV.bindTo, PV.setAll, PV.wipeE, PV.backE, PV.forTurn, PV.tupT, PV.startE, PV.slotOf, PV.endC, PV.mutsAt, PV.runF, List.getElem?_cons_zero, List.getElem?_cons_succ, List.getElem?_nil, Option.bind_some, Option.bind_none, Option.map_some, Option.map_none, List.set_cons_zero, List.set_cons_succ, List.isEmpty_nil, List.isEmpty_cons, if_true, if_false, List.replicate_succ, List.replicate_zero, List.length_cons, List.length_nil, Bool.not_true, Bool.not_false, Bool.and_true, Bool.and_false, Bool.true_and, Bool.false_and, reduceCtorEq, ne_eq, not_false_eq_true, implies_true, Bool.true_or, Bool.false_or, Bool.or_true, Bool.or_false, Nat.reduceAdd, Nat.reduceLeDiff, Nat.reduceSub]
end K85

set_option Elab.async false
set_option linter.all false
set_option maxRecDepth 1000000
set_option maxHeartbeats 8000000
/-! k85: want_web, paths -/
namespace K85
open PV PySem PL
abbrev cArr : Ex := Ex.comp [2, 3] [3] false 0 [Ex.loc 1] none (Ex.call 3 [] [Ex.loc 3, Ex.loc 0])
theorem c5_eq : c5 = [Sm.ite ((Ex.call 1 [] [Ex.loc 0]).not_.tor (Ex.chn Cmp.le Cmp.le (Ex.con (T.int 1)) (Ex.loc 0) (Ex.con (T.int 4))).not_) [Sm.rai 0 [Ex.loc 0]] [],
    Sm.ite ((Ex.call 2 [] [Ex.loc 1]).not_.tor ((Ex.cmp Cmp.gt (Ex.bi Bi.len [Ex.loc 1]) (Ex.con (T.int 7))).tor (Ex.bi Bi.all [cArr]).not_)) [Sm.rai 1 [Ex.loc 1]] [],
    Sm.ite (Ex.call 4 [] [Ex.loc 0, Ex.loc 1]) [Sm.rai 1 [Ex.loc 1]] [], Sm.ret (Ex.bi Bi.list [Ex.loc 1])] := by kernel_rfl
theorem turnArr (F : Orc) (m : Nat) {v : T} {P : Nat} {q : Nat × Nat} (hF : F 3 [.t (arT q), .t (.int P)] = .ok (.t (.bl true)) []) : compTurn (ev pg F 4000 (m + 5)) [2, 3] [3] false none (Ex.call 3 [] [Ex.loc 3, Ex.loc 0]) (arT q) [.v (.int P), .v v, .u, .u] = .ok (some (.bl true)) [.v (.int P), .v v, .u, .u] := by
  simp only [PL.ev_con, PL.ev_loc, PL.ev_dk0, PL.ev_dk1, PL.ev_lst, PL.ev_tup, PL.ev_bin, PL.ev_neg, PL.ev_cmp, PL.ev_chn, PL.ev_and, PL.ev_or, PL.ev_tand, PL.ev_tor, PL.ev_not, PL.ev_ite, PL.ev_isn, PL.ev_isb, PL.ev_isi, PL.ev_call, PL.ev_call1, PL.ev_bi, PL.ev_app, PL.ev_ext, PL.ev_pop, PL.ev_popA, PL.ev_idx, PL.ev_ixof, PL.ev_slc, PL.ev_rev, PV.evO, PV.evOs, PV.evP, PV.evPs, PV.evF, PV.evB, PV.evS, PL.r_ok_bind, PL.r_bad_bind, PL.rs_of_ok, PL.exs_nil, PL.exs_ex, PL.exs_retl, PL.exs_ret, PL.exs_asg, PL.exs_unp, PL.exs_par, PL.exs_set, PL.exs_aug, PL.exs_ite, PL.nxt_nx, PL.nxt_rt, PL.nxt_bk, PL.nxt_ct, PV.res, PV.ress, PV.frz, PV.frzs, PV.slotT, PV.ofA, PV.ofB, PV.ofT, PV.ofA?, PV.store1, PV.callWith, PV.argsOf, PV.argOf, PV.mutsOf, PV.lentOf, PV.isOwn, PV.putBack, PV.appC, PV.extC, PV.popC, PV.popAC, PV.setIx, PV.truth, PV.storeAll, PL.big_le_0, PL.big_le_1, PL.big_le_2, PL.big_le_3, PL.big_le_4, PL.big_le_5, PL.big_le_6, PL.big_le_7, PL.big_le_8, PL.big_le_9, PL.big_le_10, PL.big_le_11, PL.big_le_12, PL.big_le_13, PV.unpT, PV.compTurn, PV.bindTo, PV.setAll, PV.wipeE, PV.backE, PV.forTurn, PV.tupT, PV.startE, PV.slotOf, PV.endC, PV.mutsAt, PV.runF, List.getElem?_cons_zero, List.getElem?_cons_succ, List.getElem?_nil, Option.bind_some, Option.bind_none, Option.map_some, Option.map_none, List.set_cons_zero, List.set_cons_succ, List.isEmpty_nil, List.isEmpty_cons, if_true, if_false, List.replicate_succ, List.replicate_zero, List.length_cons, List.length_nil, Bool.not_true, Bool.not_false, Bool.and_true, Bool.and_false, Bool.true_and, Bool.false_and, reduceCtorEq, ne_eq, not_false_eq_true, implies_true, Bool.true_or, Bool.false_or, Bool.or_true, Bool.or_false, Nat.reduceAdd, Nat.reduceLeDiff, Nat.reduceSub, hF, p3, List.contains_nil]
theorem cArr_ok (F : Orc) (m : Nat) (k : Bool) {A : List (Nat × Nat)} (hA : A.length < 100) {P : Nat} (hF : ∀ q ∈ A, F 3 [.t (arT q), .t (.int P)] = .ok (.t (.bl true)) []) : ev pg F 4000 (m + 6) cArr [.v (.int P), .v (sqT k (A.map arT)), .u, .u] = .ok (.f ((A.map arT).map fun _ => T.bl true)) [.v (.int P), .v (sqT k (A.map arT)), .u, .u] := by
  cases k with
  | true =>
    refine ev_comp_map (ρ2 := [.v (.int P), .v (sqT true (A.map arT)), .u, .u]) (xs := A.map arT) (fun _ => T.bl true) (iv := .sq true (.d 1)) (ρ1 := [.v (.int P), .v (sqT true (A.map arT)), .u, .u]) rfl rfl (fun i => rfl) (fun x hx => ?_) (by rw [List.length_map]; omega) (by rw [List.length_map]; unfold big; omega) rfl
    obtain ⟨q, hq, rfl⟩ := List.mem_map.mp hx
    exact turnArr F m (hF q hq)
  | false =>
    refine ev_comp_map (ρ2 := [.v (.int P), .v (sqT false (A.map arT)), .u, .u]) (xs := A.map arT) (fun _ => T.bl true) (iv := .sq false (.d 1)) (ρ1 := [.v (.int P), .v (sqT false (A.map arT)), .u, .u]) rfl rfl (fun i => rfl) (fun x hx => ?_) (by rw [List.length_map]; omega) (by rw [List.length_map]; unfold big; omega) rfl
    obtain ⟨q, hq, rfl⟩ := List.mem_map.mp hx
    exact turnArr F m (hF q hq)
theorem all_true {α : Type} (l : List α) : biT .all [.lst (l.map fun _ => T.bl true)] = some (.t (.bl true)) := by
  show (boolsT (l.map fun _ => T.bl true)).map (fun bs => A.t (.bl (bs.all id))) = _
  have : boolsT (l.map fun _ => T.bl true) = some (l.map fun _ => true) := by
    induction l with
    | nil => rfl
    | cons a l ih =>
      show (boolsT (l.map fun _ => T.bl true)).map (true :: ·) = _
      rw [ih]; rfl
  rw [this]
  show some (A.t (.bl ((l.map fun _ => true).all id))) = _
  congr 3
  rw [List.all_map, List.all_eq_true]
  exact fun _ _ => rfl
theorem n5a (F : Orc) {P : Nat} (h1 : 1 ≤ P) (h4 : P ≤ 4) {v : T} {r : List Sm} (hF : F 1 [.t (.int P)] = .ok (.t (.bl true)) []) : exs pg F 4000 60 60 (Sm.ite ((Ex.call 1 [] [Ex.loc 0]).not_.tor (Ex.chn Cmp.le Cmp.le (Ex.con (T.int 1)) (Ex.loc 0) (Ex.con (T.int 4))).not_) [Sm.rai 0 [Ex.loc 0]] [] :: r) [.v (.int P), .v v, .u, .u] = exs pg F 4000 60 59 r [.v (.int P), .v v, .u, .u] := by
  have a1 : cmpT .le (.int 1) (.int P) = some true := by
    show some (decide ((1 : Int) ≤ P)) = _
    rw [decide_eq_true (by omega)]
  have a2 : cmpT .le (.int P) (.int 4) = some true := by
    show some (decide ((P : Int) ≤ 4)) = _
    rw [decide_eq_true (by omega)]
  rw [exs_ite]
  simp only [PL.ev_con, PL.ev_loc, PL.ev_dk0, PL.ev_dk1, PL.ev_lst, PL.ev_tup, PL.ev_bin, PL.ev_neg, PL.ev_cmp, PL.ev_chn, PL.ev_and, PL.ev_or, PL.ev_tand, PL.ev_tor, PL.ev_not, PL.ev_ite, PL.ev_isn, PL.ev_isb, PL.ev_isi, PL.ev_call, PL.ev_call1, PL.ev_bi, PL.ev_app, PL.ev_ext, PL.ev_pop, PL.ev_popA, PL.ev_idx, PL.ev_ixof, PL.ev_slc, PL.ev_rev, PV.evO, PV.evOs, PV.evP, PV.evPs, PV.evF, PV.evB, PV.evS, PL.r_ok_bind, PL.r_bad_bind, PL.rs_of_ok, PL.exs_nil, PL.exs_ex, PL.exs_retl, PL.exs_ret, PL.exs_asg, PL.exs_unp, PL.exs_par, PL.exs_set, PL.exs_aug, PL.exs_ite, PL.nxt_nx, PL.nxt_rt, PL.nxt_bk, PL.nxt_ct, PV.res, PV.ress, PV.frz, PV.frzs, PV.slotT, PV.ofA, PV.ofB, PV.ofT, PV.ofA?, PV.store1, PV.callWith, PV.argsOf, PV.argOf, PV.mutsOf, PV.lentOf, PV.isOwn, PV.putBack, PV.appC, PV.extC, PV.popC, PV.popAC, PV.setIx, PV.truth, PV.storeAll, PL.big_le_0, PL.big_le_1, PL.big_le_2, PL.big_le_3, PL.big_le_4, PL.big_le_5, PL.big_le_6, PL.big_le_7, PL.big_le_8, PL.big_le_9, PL.big_le_10, PL.big_le_11, PL.big_le_12, PL.big_le_13, PV.unpT, PV.compTurn, PV.bindTo, PV.setAll, PV.wipeE, PV.backE, PV.forTurn, PV.tupT, PV.startE, PV.slotOf, PV.endC, PV.mutsAt, PV.runF, List.getElem?_cons_zero, List.getElem?_cons_succ, List.getElem?_nil, Option.bind_some, Option.bind_none, Option.map_some, Option.map_none, List.set_cons_zero, List.set_cons_succ, List.isEmpty_nil, List.isEmpty_cons, if_true, if_false, List.replicate_succ, List.replicate_zero, List.length_cons, List.length_nil, Bool.not_true, Bool.not_false, Bool.and_true, Bool.and_false, Bool.true_and, Bool.false_and, reduceCtorEq, ne_eq, not_false_eq_true, implies_true, Bool.true_or, Bool.false_or, Bool.or_true, Bool.or_false, Nat.reduceAdd, Nat.reduceLeDiff, Nat.reduceSub, PL.ev_chn, hF, p1, List.contains_nil, a1, a2]
theorem len_sq (k : Bool) (A : List (Nat × Nat)) : biT .len [sqT k (A.map arT)] = some (.t (.int (A.length : Nat))) := by
  cases k
  · show some (PV.A.t (.int ((A.map arT).length : Nat))) = _
    rw [List.length_map]
  · show some (PV.A.t (.int ((A.map arT).length : Nat))) = _
    rw [List.length_map]
theorem n5b (F : Orc) (k : Bool) {A : List (Nat × Nat)} (hA : A.length ≤ 7) {P : Nat} {r : List Sm} (h2 : F 2 [.t (sqT k (A.map arT))] = .ok (.t (.bl true)) []) (hF : ∀ q ∈ A, F 3 [.t (arT q), .t (.int P)] = .ok (.t (.bl true)) []) : exs pg F 4000 60 59 (Sm.ite ((Ex.call 2 [] [Ex.loc 1]).not_.tor ((Ex.cmp Cmp.gt (Ex.bi Bi.len [Ex.loc 1]) (Ex.con (T.int 7))).tor (Ex.bi Bi.all [cArr]).not_)) [Sm.rai 1 [Ex.loc 1]] [] :: r) [.v (.int P), .v (sqT k (A.map arT)), .u, .u] = exs pg F 4000 60 58 r [.v (.int P), .v (sqT k (A.map arT)), .u, .u] := by
  have hl := len_sq k A
  have hg : cmpT .gt (.int (A.length : Nat)) (.int 7) = some false := by rw [cmp_gt, decide_eq_false (by omega)]
  have hc : ev pg F 4000 56 cArr [.v (.int P), .v (sqT k (A.map arT)), .u, .u] = _ := cArr_ok F 50 k (by omega) hF
  have ha := all_true (A.map arT)
  generalize sqT k (A.map arT) = V at h2 hl hc ⊢
  generalize (A.map arT).map (fun _ => T.bl true) = U at hc ha
  rw [exs_ite]
  simp only [PL.ev_con, PL.ev_loc, PL.ev_dk0, PL.ev_dk1, PL.ev_lst, PL.ev_tup, PL.ev_bin, PL.ev_neg, PL.ev_cmp, PL.ev_chn, PL.ev_and, PL.ev_or, PL.ev_tand, PL.ev_tor, PL.ev_not, PL.ev_ite, PL.ev_isn, PL.ev_isb, PL.ev_isi, PL.ev_call, PL.ev_call1, PL.ev_bi, PL.ev_app, PL.ev_ext, PL.ev_pop, PL.ev_popA, PL.ev_idx, PL.ev_ixof, PL.ev_slc, PL.ev_rev, PV.evO, PV.evOs, PV.evP, PV.evPs, PV.evF, PV.evB, PV.evS, PL.r_ok_bind, PL.r_bad_bind, PL.rs_of_ok, PL.exs_nil, PL.exs_ex, PL.exs_retl, PL.exs_ret, PL.exs_asg, PL.exs_unp, PL.exs_par, PL.exs_set, PL.exs_aug, PL.exs_ite, PL.nxt_nx, PL.nxt_rt, PL.nxt_bk, PL.nxt_ct, PV.res, PV.ress, PV.frz, PV.frzs, PV.slotT, PV.ofA, PV.ofB, PV.ofT, PV.ofA?, PV.store1, PV.callWith, PV.argsOf, PV.argOf, PV.mutsOf, PV.lentOf, PV.isOwn, PV.putBack, PV.appC, PV.extC, PV.popC, PV.popAC, PV.setIx, PV.truth, PV.storeAll, PL.big_le_0, PL.big_le_1, PL.big_le_2, PL.big_le_3, PL.big_le_4, PL.big_le_5, PL.big_le_6, PL.big_le_7, PL.big_le_8, PL.big_le_9, PL.big_le_10, PL.big_le_11, PL.big_le_12, PL.big_le_13, PV.unpT, PV.compTurn, PV.bindTo, PV.setAll, PV.wipeE, PV.backE, PV.forTurn, PV.tupT, PV.startE, PV.slotOf, PV.endC, PV.mutsAt, PV.runF, List.getElem?_cons_zero, List.getElem?_cons_succ, List.getElem?_nil, Option.bind_some, Option.bind_none, Option.map_some, Option.map_none, List.set_cons_zero, List.set_cons_succ, List.isEmpty_nil, List.isEmpty_cons, if_true, if_false, List.replicate_succ, List.replicate_zero, List.length_cons, List.length_nil, Bool.not_true, Bool.not_false, Bool.and_true, Bool.and_false, Bool.true_and, Bool.false_and, reduceCtorEq, ne_eq, not_false_eq_true, implies_true, Bool.true_or, Bool.false_or, Bool.or_true, Bool.or_false, Nat.reduceAdd, Nat.reduceLeDiff, Nat.reduceSub, h2, p2, List.contains_nil, hl, hg, hc, ha]
theorem n5c (F : Orc) {P : Nat} {v : T} {r : List Sm} (hF : F 4 [.t (.int P), .t v] = .ok (.t (.bl false)) []) : exs pg F 4000 60 58 (Sm.ite (Ex.call 4 [] [Ex.loc 0, Ex.loc 1]) [Sm.rai 1 [Ex.loc 1]] [] :: r) [.v (.int P), .v v, .u, .u] = exs pg F 4000 60 57 r [.v (.int P), .v v, .u, .u] := by
  rw [exs_ite]
  simp only [PL.ev_con, PL.ev_loc, PL.ev_dk0, PL.ev_dk1, PL.ev_lst, PL.ev_tup, PL.ev_bin, PL.ev_neg, PL.ev_cmp, PL.ev_chn, PL.ev_and, PL.ev_or, PL.ev_tand, PL.ev_tor, PL.ev_not, PL.ev_ite, PL.ev_isn, PL.ev_isb, PL.ev_isi, PL.ev_call, PL.ev_call1, PL.ev_bi, PL.ev_app, PL.ev_ext, PL.ev_pop, PL.ev_popA, PL.ev_idx, PL.ev_ixof, PL.ev_slc, PL.ev_rev, PV.evO, PV.evOs, PV.evP, PV.evPs, PV.evF, PV.evB, PV.evS, PL.r_ok_bind, PL.r_bad_bind, PL.rs_of_ok, PL.exs_nil, PL.exs_ex, PL.exs_retl, PL.exs_ret, PL.exs_asg, PL.exs_unp, PL.exs_par, PL.exs_set, PL.exs_aug, PL.exs_ite, PL.nxt_nx, PL.nxt_rt, PL.nxt_bk, PL.nxt_ct, PV.res, PV.ress, PV.frz, PV.frzs, PV.slotT, PV.ofA, PV.ofB, PV.ofT, PV.ofA?, PV.store1, PV.callWith, PV.argsOf, PV.argOf, PV.mutsOf, PV.lentOf, PV.isOwn, PV.putBack, PV.appC, PV.extC, PV.popC, PV.popAC, PV.setIx, PV.truth, PV.storeAll, PL.big_le_0, PL.big_le_1, PL.big_le_2, PL.big_le_3, PL.big_le_4, PL.big_le_5, PL.big_le_6, PL.big_le_7, PL.big_le_8, PL.big_le_9, PL.big_le_10, PL.big_le_11, PL.big_le_12, PL.big_le_13, PV.unpT, PV.compTurn, PV.bindTo, PV.setAll, PV.wipeE, PV.backE, PV.forTurn, PV.tupT, PV.startE, PV.slotOf, PV.endC, PV.mutsAt, PV.runF, List.getElem?_cons_zero, List.getElem?_cons_succ, List.getElem?_nil, Option.bind_some, Option.bind_none, Option.map_some, Option.map_none, List.set_cons_zero, List.set_cons_succ, List.isEmpty_nil, List.isEmpty_cons, if_true, if_false, List.replicate_succ, List.replicate_zero, List.length_cons, List.length_nil, Bool.not_true, Bool.not_false, Bool.and_true, Bool.and_false, Bool.true_and, Bool.false_and, reduceCtorEq, ne_eq, not_false_eq_true, implies_true, Bool.true_or, Bool.false_or, Bool.or_true, Bool.or_false, Nat.reduceAdd, Nat.reduceLeDiff, Nat.reduceSub, hF, p4, List.contains_nil]
theorem n5x (F : Orc) {P : Nat} {v : T} {r : List Sm} (hF : F 4 [.t (.int P), .t v] = .ok (.t (.bl true)) []) : exs pg F 4000 60 58 (Sm.ite (Ex.call 4 [] [Ex.loc 0, Ex.loc 1]) [Sm.rai 1 [Ex.loc 1]] [] :: r) [.v (.int P), .v v, .u, .u] = .exc 1 [v] [.v (.int P), .v v, .u, .u] := by
  rw [exs_ite]
  simp only [PL.ev_con, PL.ev_loc, PL.ev_dk0, PL.ev_dk1, PL.ev_lst, PL.ev_tup, PL.ev_bin, PL.ev_neg, PL.ev_cmp, PL.ev_chn, PL.ev_and, PL.ev_or, PL.ev_tand, PL.ev_tor, PL.ev_not, PL.ev_ite, PL.ev_isn, PL.ev_isb, PL.ev_isi, PL.ev_call, PL.ev_call1, PL.ev_bi, PL.ev_app, PL.ev_ext, PL.ev_pop, PL.ev_popA, PL.ev_idx, PL.ev_ixof, PL.ev_slc, PL.ev_rev, PV.evO, PV.evOs, PV.evP, PV.evPs, PV.evF, PV.evB, PV.evS, PL.r_ok_bind, PL.r_bad_bind, PL.rs_of_ok, PL.exs_nil, PL.exs_ex, PL.exs_retl, PL.exs_ret, PL.exs_asg, PL.exs_unp, PL.exs_par, PL.exs_set, PL.exs_aug, PL.exs_ite, PL.nxt_nx, PL.nxt_rt, PL.nxt_bk, PL.nxt_ct, PV.res, PV.ress, PV.frz, PV.frzs, PV.slotT, PV.ofA, PV.ofB, PV.ofT, PV.ofA?, PV.store1, PV.callWith, PV.argsOf, PV.argOf, PV.mutsOf, PV.lentOf, PV.isOwn, PV.putBack, PV.appC, PV.extC, PV.popC, PV.popAC, PV.setIx, PV.truth, PV.storeAll, PL.big_le_0, PL.big_le_1, PL.big_le_2, PL.big_le_3, PL.big_le_4, PL.big_le_5, PL.big_le_6, PL.big_le_7, PL.big_le_8, PL.big_le_9, PL.big_le_10, PL.big_le_11, PL.big_le_12, PL.big_le_13, PV.unpT, PV.compTurn, PV.bindTo, PV.setAll, PV.wipeE, PV.backE, PV.forTurn, PV.tupT, PV.startE, PV.slotOf, PV.endC, PV.mutsAt, PV.runF, List.getElem?_cons_zero, List.getElem?_cons_succ, List.getElem?_nil, Option.bind_some, Option.bind_none, Option.map_some, Option.map_none, List.set_cons_zero, List.set_cons_succ, List.isEmpty_nil, List.isEmpty_cons, if_true, if_false, List.replicate_succ, List.replicate_zero, List.length_cons, List.length_nil, Bool.not_true, Bool.not_false, Bool.and_true, Bool.and_false, Bool.true_and, Bool.false_and, reduceCtorEq, ne_eq, not_false_eq_true, implies_true, Bool.true_or, Bool.false_or, Bool.or_true, Bool.or_false, Nat.reduceAdd, Nat.reduceLeDiff, Nat.reduceSub, hF, p4, List.contains_nil]
  rfl
theorem Fd_exc {P : Pg} {L n d f : Nat} {fc : Fc} {as : List PV.A} {ρ0 ρ : Rho} {c : Nat} {ts : List T} (h : P.fns[f]? = some fc) (h1 : startE fc.slots fc.md as = some ρ0) (h2 : exs P (Fd P L n d) L n n fc.body ρ0 = .exc c ts ρ) : Fd P L n (d + 1) f as = .exc c ts := by
  rw [Fd_eq h]
  unfold runF
  rw [h1]
  show (match exs P (Fd P L n d) L n n fc.body ρ0 with
    | .nx ρ => endC fc (.t .non) ρ
    | .rt a ρ => endC fc a ρ
    | .exc c ts _ => .exc c ts
    | _ => .bad) = _
  rw [h2]
theorem list_sq (k : Bool) (xs : List T) : biT .list [sqT k xs] = some (.f xs) := by cases k <;> rfl
theorem n5d (F : Orc) {P : Nat} (k : Bool) (xs : List T) : exs pg F 4000 60 57 [Sm.ret (Ex.bi Bi.list [Ex.loc 1])] [.v (.int P), .v (sqT k xs), .u, .u] = .rt (.f xs) [.v (.int P), .v (sqT k xs), .u, .u] := by
  have h := list_sq k xs
  generalize sqT k xs = V at h ⊢
  rw [exs_ret _ (fun i => by simp)]
  simp only [PL.ev_con, PL.ev_loc, PL.ev_dk0, PL.ev_dk1, PL.ev_lst, PL.ev_tup, PL.ev_bin, PL.ev_neg, PL.ev_cmp, PL.ev_chn, PL.ev_and, PL.ev_or, PL.ev_tand, PL.ev_tor, PL.ev_not, PL.ev_ite, PL.ev_isn, PL.ev_isb, PL.ev_isi, PL.ev_call, PL.ev_call1, PL.ev_bi, PL.ev_app, PL.ev_ext, PL.ev_pop, PL.ev_popA, PL.ev_idx, PL.ev_ixof, PL.ev_slc, PL.ev_rev, PV.evO, PV.evOs, PV.evP, PV.evPs, PV.evF, PV.evB, PV.evS, PL.r_ok_bind, PL.r_bad_bind, PL.rs_of_ok, PL.exs_nil, PL.exs_ex, PL.exs_retl, PL.exs_ret, PL.exs_asg, PL.exs_unp, PL.exs_par, PL.exs_set, PL.exs_aug, PL.exs_ite, PL.nxt_nx, PL.nxt_rt, PL.nxt_bk, PL.nxt_ct, PV.res, PV.ress, PV.frz, PV.frzs, PV.slotT, PV.ofA, PV.ofB, PV.ofT, PV.ofA?, PV.store1, PV.callWith, PV.argsOf, PV.argOf, PV.mutsOf, PV.lentOf, PV.isOwn, PV.putBack, PV.appC, PV.extC, PV.popC, PV.popAC, PV.setIx, PV.truth, PV.storeAll, PL.big_le_0, PL.big_le_1, PL.big_le_2, PL.big_le_3, PL.big_le_4, PL.big_le_5, PL.big_le_6, PL.big_le_7, PL.big_le_8, PL.big_le_9, PL.big_le_10, PL.big_le_11, PL.big_le_12, PL.big_le_13, PV.unpT, PV.compTurn, PV.bindTo, PV.setAll, PV.wipeE, PV.backE, PV.forTurn, PV.tupT, PV.startE, PV.slotOf, PV.endC, PV.mutsAt, PV.runF, List.getElem?_cons_zero, List.getElem?_cons_succ, List.getElem?_nil, Option.bind_some, Option.bind_none, Option.map_some, Option.map_none, List.set_cons_zero, List.set_cons_succ, List.isEmpty_nil, List.isEmpty_cons, if_true, if_false, List.replicate_succ, List.replicate_zero, List.length_cons, List.length_nil, Bool.not_true, Bool.not_false, Bool.and_true, Bool.and_false, Bool.true_and, Bool.false_and, reduceCtorEq, ne_eq, not_false_eq_true, implies_true, Bool.true_or, Bool.false_or, Bool.or_true, Bool.or_false, Nat.reduceAdd, Nat.reduceLeDiff, Nat.reduceSub, h]
/-- arrows of places below P -/
structure Arr (A : List (Nat × Nat)) (P : Nat) : Prop where
  few : A.length ≤ 7
  one : 1 ≤ P
  four : P ≤ 4
  ok : ∀ q ∈ A, q.1 < P ∧ q.2 < P
theorem dat_sq (k : Bool) (xs : List T) : dat (sqT k xs) = true ∧ seq? (sqT k xs) = true := by cases k <;> exact ⟨rfl, rfl⟩
theorem run5 (F : Orc) (k : Bool) {A : List (Nat × Nat)} {P : Nat} (h : Arr A P) (h1 : F 1 [.t (.int P)] = .ok (.t (.bl true)) []) (h2 : F 2 [.t (sqT k (A.map arT))] = .ok (.t (.bl true)) []) (h3 : ∀ q ∈ A, F 3 [.t (arT q), .t (.int P)] = .ok (.t (.bl true)) []) (h4 : F 4 [.t (.int P), .t (sqT k (A.map arT))] = .ok (.t (.bl false)) []) :
    exs pg F 4000 60 60 c5 [.v (.int P), .v (sqT k (A.map arT)), .u, .u] = .rt (.f (A.map arT)) [.v (.int P), .v (sqT k (A.map arT)), .u, .u] := by
  rw [c5_eq, n5a F h.one h.four h1, n5b F k h.few h2 h3, n5c F h4]
  exact n5d F k _
theorem run5x (F : Orc) (k : Bool) {A : List (Nat × Nat)} {P : Nat} (h : Arr A P) (h1 : F 1 [.t (.int P)] = .ok (.t (.bl true)) []) (h2 : F 2 [.t (sqT k (A.map arT))] = .ok (.t (.bl true)) []) (h3 : ∀ q ∈ A, F 3 [.t (arT q), .t (.int P)] = .ok (.t (.bl true)) []) (h4 : F 4 [.t (.int P), .t (sqT k (A.map arT))] = .ok (.t (.bl true)) []) :
    exs pg F 4000 60 60 c5 [.v (.int P), .v (sqT k (A.map arT)), .u, .u] = .exc 1 [sqT k (A.map arT)] [.v (.int P), .v (sqT k (A.map arT)), .u, .u] := by
  rw [c5_eq, n5a F h.one h.four h1, n5b F k h.few h2 h3, n5x F h4]
theorem f1n {n : Nat} (hn : 2 ≤ n) (P : Nat) : Fo n 1 [.t (.int P)] = .ok (.t (.bl true)) [] := by
  obtain ⟨d, rfl⟩ : ∃ d, n = d + 2 := ⟨n - 2, by omega⟩
  rw [f1 d rfl, cnt_nat]
theorem f2n {n : Nat} (hn : 1 ≤ n) (k : Bool) (xs : List T) : Fo n 2 [.t (sqT k xs)] = .ok (.t (.bl true)) [] := by
  obtain ⟨d, rfl⟩ : ∃ d, n = d + 1 := ⟨n - 1, by omega⟩
  rw [f2 d (dat_sq k _).1, (dat_sq k _).2]
theorem f3n {n : Nat} (hn : 3 ≤ n) {q : Nat × Nat} {P : Nat} (h : q.1 < P ∧ q.2 < P) : Fo n 3 [.t (arT q), .t (.int P)] = .ok (.t (.bl true)) [] := by
  obtain ⟨d, rfl⟩ : ∃ d, n = d + 3 := ⟨n - 3, by omega⟩
  exact f3 d h.1 h.2
theorem f4n {n : Nat} (hn : 1 ≤ n) (k : Bool) {A : List (Nat × Nat)} {P : Nat} (h : Arr A P) : Fo n 4 [.t (.int P), .t (sqT k (A.map arT))] = .ok (.t (.bl (ringF A 60 (List.range P)))) [] := by
  obtain ⟨d, rfl⟩ : ∃ d, n = d + 1 := ⟨n - 1, by omega⟩
  exact f4 d k (by have := h.few; omega) (by have := h.four; omega)
theorem f6n {n : Nat} (hn : 1 ≤ n) {A : List (Nat × Nat)} {p : Nat} {s : List Nat} (h : ∀ i, s.getLast? = some i → i < A.length) : Fo n 6 [.t (.lst (A.map arT)), .t (paT (p, s))] = .ok (.t (.int (endOf A p s))) [] := by
  obtain ⟨d, rfl⟩ : ∃ d, n = d + 1 := ⟨n - 1, by omega⟩
  exact f6 d h
theorem f7n {n : Nat} (hn : 2 ≤ n) {A : List (Nat × Nat)} {P : Nat} {r : Nat → Nat} (h : Web A P r) : Fo n 7 [.t (.int P), .t (.lst (A.map arT))] = .ok (.f ((told A P P).map paT)) [] := by
  obtain ⟨d, rfl⟩ : ∃ d, n = d + 2 := ⟨n - 2, by omega⟩
  exact f7 d h
theorem f5 {n : Nat} (hn : 4 ≤ n) (k : Bool) {A : List (Nat × Nat)} {P : Nat} (h : Arr A P) (hr : ringF A 60 (List.range P) = false) : Fo n 5 [.t (.int P), .t (sqT k (A.map arT))] = .ok (.f (A.map arT)) [] := by
  obtain ⟨d, rfl⟩ : ∃ d, n = d + 1 := ⟨n - 1, by omega⟩
  have h4 := f4n (n := d) (by omega) k h
  rw [hr] at h4
  exact Fd_rt p5 rfl (run5 (Fo d) k h (f1n (by omega) P) (f2n (by omega) k _) (fun q hq => f3n (by omega) (h.ok q hq)) h4) rfl
theorem f5x {n : Nat} (hn : 4 ≤ n) (k : Bool) {A : List (Nat × Nat)} {P : Nat} (h : Arr A P) (hr : ringF A 60 (List.range P) = true) : Fo n 5 [.t (.int P), .t (sqT k (A.map arT))] = .exc 1 [sqT k (A.map arT)] := by
  obtain ⟨d, rfl⟩ : ∃ d, n = d + 1 := ⟨n - 1, by omega⟩
  have h4 := f4n (n := d) (by omega) k h
  rw [hr] at h4
  exact Fd_exc p5 rfl (run5x (Fo d) k h (f1n (by omega) P) (f2n (by omega) k _) (fun q hq => f3n (by omega) (h.ok q hq)) h4)
theorem Web.arr {A : List (Nat × Nat)} {P : Nat} {r : Nat → Nat} (h : Web A P r) : Arr A P := ⟨h.few, h.one, h.four, h.ok⟩
theorem c8_eq : c8 = [Sm.ret (Ex.call 7 [] [Ex.loc 0, Ex.call 5 [] [Ex.loc 0, Ex.loc 1]])] := by kernel_rfl
theorem run8 (F : Orc) {P : Nat} {V : T} {xs : List T} {a : PV.A} (h5 : F 5 [.t (.int P), .t V] = .ok (.f xs) []) (h7 : F 7 [.t (.int P), .t (.lst xs)] = .ok a []) : exs pg F 4000 60 60 c8 [.v (.int P), .v V] = .rt a [.v (.int P), .v V] := by
  rw [c8_eq, exs_ret _ (fun i => by simp)]
  simp only [PL.ev_con, PL.ev_loc, PL.ev_dk0, PL.ev_dk1, PL.ev_lst, PL.ev_tup, PL.ev_bin, PL.ev_neg, PL.ev_cmp, PL.ev_chn, PL.ev_and, PL.ev_or, PL.ev_tand, PL.ev_tor, PL.ev_not, PL.ev_ite, PL.ev_isn, PL.ev_isb, PL.ev_isi, PL.ev_call, PL.ev_call1, PL.ev_bi, PL.ev_app, PL.ev_ext, PL.ev_pop, PL.ev_popA, PL.ev_idx, PL.ev_ixof, PL.ev_slc, PL.ev_rev, PV.evO, PV.evOs, PV.evP, PV.evPs, PV.evF, PV.evB, PV.evS, PL.r_ok_bind, PL.r_bad_bind, PL.rs_of_ok, PL.exs_nil, PL.exs_ex, PL.exs_retl, PL.exs_ret, PL.exs_asg, PL.exs_unp, PL.exs_par, PL.exs_set, PL.exs_aug, PL.exs_ite, PL.nxt_nx, PL.nxt_rt, PL.nxt_bk, PL.nxt_ct, PV.res, PV.ress, PV.frz, PV.frzs, PV.slotT, PV.ofA, PV.ofB, PV.ofT, PV.ofA?, PV.store1, PV.callWith, PV.argsOf, PV.argOf, PV.mutsOf, PV.lentOf, PV.isOwn, PV.putBack, PV.appC, PV.extC, PV.popC, PV.popAC, PV.setIx, PV.truth, PV.storeAll, PL.big_le_0, PL.big_le_1, PL.big_le_2, PL.big_le_3, PL.big_le_4, PL.big_le_5, PL.big_le_6, PL.big_le_7, PL.big_le_8, PL.big_le_9, PL.big_le_10, PL.big_le_11, PL.big_le_12, PL.big_le_13, PV.unpT, PV.compTurn, PV.bindTo, PV.setAll, PV.wipeE, PV.backE, PV.forTurn, PV.tupT, PV.startE, PV.slotOf, PV.endC, PV.mutsAt, PV.runF, List.getElem?_cons_zero, List.getElem?_cons_succ, List.getElem?_nil, Option.bind_some, Option.bind_none, Option.map_some, Option.map_none, List.set_cons_zero, List.set_cons_succ, List.isEmpty_nil, List.isEmpty_cons, if_true, if_false, List.replicate_succ, List.replicate_zero, List.length_cons, List.length_nil, Bool.not_true, Bool.not_false, Bool.and_true, Bool.and_false, Bool.true_and, Bool.false_and, reduceCtorEq, ne_eq, not_false_eq_true, implies_true, Bool.true_or, Bool.false_or, Bool.or_true, Bool.or_false, Nat.reduceAdd, Nat.reduceLeDiff, Nat.reduceSub, h5, h7, p5, p7, List.contains_nil]
theorem run8x (F : Orc) {P : Nat} {V : T} {c : Nat} {ts : List T} (h5 : F 5 [.t (.int P), .t V] = .exc c ts) : exs pg F 4000 60 60 c8 [.v (.int P), .v V] = .exc c ts [.v (.int P), .v V] := by
  rw [c8_eq, exs_ret _ (fun i => by simp)]
  simp only [PL.ev_con, PL.ev_loc, PL.ev_dk0, PL.ev_dk1, PL.ev_lst, PL.ev_tup, PL.ev_bin, PL.ev_neg, PL.ev_cmp, PL.ev_chn, PL.ev_and, PL.ev_or, PL.ev_tand, PL.ev_tor, PL.ev_not, PL.ev_ite, PL.ev_isn, PL.ev_isb, PL.ev_isi, PL.ev_call, PL.ev_call1, PL.ev_bi, PL.ev_app, PL.ev_ext, PL.ev_pop, PL.ev_popA, PL.ev_idx, PL.ev_ixof, PL.ev_slc, PL.ev_rev, PV.evO, PV.evOs, PV.evP, PV.evPs, PV.evF, PV.evB, PV.evS, PL.r_ok_bind, PL.r_bad_bind, PL.rs_of_ok, PL.exs_nil, PL.exs_ex, PL.exs_retl, PL.exs_ret, PL.exs_asg, PL.exs_unp, PL.exs_par, PL.exs_set, PL.exs_aug, PL.exs_ite, PL.nxt_nx, PL.nxt_rt, PL.nxt_bk, PL.nxt_ct, PV.res, PV.ress, PV.frz, PV.frzs, PV.slotT, PV.ofA, PV.ofB, PV.ofT, PV.ofA?, PV.store1, PV.callWith, PV.argsOf, PV.argOf, PV.mutsOf, PV.lentOf, PV.isOwn, PV.putBack, PV.appC, PV.extC, PV.popC, PV.popAC, PV.setIx, PV.truth, PV.storeAll, PL.big_le_0, PL.big_le_1, PL.big_le_2, PL.big_le_3, PL.big_le_4, PL.big_le_5, PL.big_le_6, PL.big_le_7, PL.big_le_8, PL.big_le_9, PL.big_le_10, PL.big_le_11, PL.big_le_12, PL.big_le_13, PV.unpT, PV.compTurn, PV.bindTo, PV.setAll, PV.wipeE, PV.backE, PV.forTurn, PV.tupT, PV.startE, PV.slotOf, PV.endC, PV.mutsAt, PV.runF, List.getElem?_cons_zero, List.getElem?_cons_succ, List.getElem?_nil, Option.bind_some, Option.bind_none, Option.map_some, Option.map_none, List.set_cons_zero, List.set_cons_succ, List.isEmpty_nil, List.isEmpty_cons, if_true, if_false, List.replicate_succ, List.replicate_zero, List.length_cons, List.length_nil, Bool.not_true, Bool.not_false, Bool.and_true, Bool.and_false, Bool.true_and, Bool.false_and, reduceCtorEq, ne_eq, not_false_eq_true, implies_true, Bool.true_or, Bool.false_or, Bool.or_true, Bool.or_false, Nat.reduceAdd, Nat.reduceLeDiff, Nat.reduceSub, h5, p5, p7, List.contains_nil]
  rfl
theorem f8 {n : Nat} (hn : 5 ≤ n) (k : Bool) {A : List (Nat × Nat)} {P : Nat} {r : Nat → Nat} (h : Web A P r) : Fo n 8 [.t (.int P), .t (sqT k (A.map arT))] = .ok (.f ((told A P P).map paT)) [] := by
  obtain ⟨d, rfl⟩ : ∃ d, n = d + 1 := ⟨n - 1, by omega⟩
  exact Fd_rt p8 rfl (run8 (Fo d) (f5 (by omega) k h.arr (ring_no h.rk.up 60 _)) (f7n (by omega) h)) rfl
theorem f8x {n : Nat} (hn : 5 ≤ n) {A : List (Nat × Nat)} {P : Nat} (h : Arr A P) (hr : ringF A 60 (List.range P) = true) : Fo n 8 [.t (.int P), .t (.lst (A.map arT))] = .exc 1 [.lst (A.map arT)] := by
  obtain ⟨d, rfl⟩ : ∃ d, n = d + 1 := ⟨n - 1, by omega⟩
  exact Fd_exc p8 rfl (run8x (Fo d) (f5x (n := d) (by omega) true h hr))
end K85

set_option Elab.async false
set_option linter.all false
set_option maxRecDepth 1000000
set_option maxHeartbeats 8000000
/-! k85: the drawn web -/
namespace K85
open PV PySem PL
abbrev bW : List Sm := [Sm.ex (Ex.app 2 (Ex.popA 3 (Ex.call 10 [] [Ex.loc 0, Ex.bi Bi.len [Ex.loc 3]])))]
abbrev tW : Ex := Ex.cmp Cmp.ne (Ex.loc 3) (Ex.lst [])
abbrev eN : Ex := (Ex.cmp Cmp.gt (Ex.loc 1) (Ex.con (T.int 1))).ite (Ex.call 10 [] [Ex.loc 0, Ex.con (T.int 8)]) (Ex.con (T.int 0))
abbrev bF : List Sm := [Sm.asg 6 (Ex.call 10 [] [Ex.loc 0, Ex.bin Bin.sub (Ex.loc 1) (Ex.con (T.int 1))]), Sm.ex (Ex.app 4 (Ex.tup [(Ex.loc 2).idx (Ex.loc 6), (Ex.loc 2).idx (Ex.bin Bin.add (Ex.bin Bin.add (Ex.loc 6) (Ex.con (T.int 1))) (Ex.call 10 [] [Ex.loc 0, Ex.bin Bin.sub (Ex.bin Bin.sub (Ex.loc 1) (Ex.con (T.int 1))) (Ex.loc 6)]))]))]
theorem c13_eq : c13 = [Sm.asg 1 (Ex.bin Bin.add (Ex.con (T.int 1)) (Ex.call 10 [] [Ex.loc 0, Ex.con (T.int 4)])), Sm.par 2 3 (Ex.lst []) (Ex.bi Bi.lrange [Ex.loc 1]), Sm.whl tW bW, Sm.asg 4 (Ex.lst []), Sm.for_ [5] false 1 [eN] bF, Sm.ret (Ex.tup [Ex.loc 1, Ex.loc 4, Ex.loc 2])] := by kernel_rfl
theorem evIf_os {ih : Ex → Rho → PV.R PV.A} {k : Nat} {its : List Ex} {ρ ρ' : Rho} {t : T} {iv : Iv} (h : evOs ih its ρ = .ok [.x t] ρ') (hv : ivOf k ρ' [.x t] = some iv) : evIf ih k its ρ = .ok iv ρ' := by
  have e : evIf ih k its ρ = (evOs ih its ρ).bind (fun os ρ => match frzs ρ os with
    | some (ts, ρ) => (match ivOf k ρ (ts.map .x) with
      | some iv => .ok iv ρ
      | none => .bad)
    | none => .bad) := rfl
  rw [e, h]
  show (match ivOf k ρ' [.x t] with | some iv => (.ok iv ρ' : PV.R Iv) | none => .bad) = _
  rw [hv]
theorem n13a (F : Orc) {p p' : List T} {r P : Nat} {ss : List Sm} {x1 x2 x3 x4 x5 x6 : Sl} (hP : P = 1 + r) (hF : F 10 [.f p, .t (.int 4)] = .ok (.t (.int r)) [p']) : exs pg F 4000 60 60 (Sm.asg 1 (Ex.bin Bin.add (Ex.con (T.int 1)) (Ex.call 10 [] [Ex.loc 0, Ex.con (T.int 4)])) :: ss) [.o false p, x1, x2, x3, x4, x5, x6] = exs pg F 4000 60 59 ss [.o false p', .v (.int P), x2, x3, x4, x5, x6] := by
  have hb : binT .add (.int 1) (.int r) = some (.t (.int P)) := by
    rw [add_ok, hP]
    congr 3
  rw [exs_asg]
  simp only [PL.ev_con, PL.ev_loc, PL.ev_dk0, PL.ev_dk1, PL.ev_lst, PL.ev_tup, PL.ev_bin, PL.ev_neg, PL.ev_cmp, PL.ev_chn, PL.ev_and, PL.ev_or, PL.ev_tand, PL.ev_tor, PL.ev_not, PL.ev_ite, PL.ev_isn, PL.ev_isb, PL.ev_isi, PL.ev_call, PL.ev_call1, PL.ev_bi, PL.ev_app, PL.ev_ext, PL.ev_pop, PL.ev_popA, PL.ev_idx, PL.ev_ixof, PL.ev_slc, PL.ev_rev, PV.evO, PV.evOs, PV.evP, PV.evPs, PV.evF, PV.evB, PV.evS, PL.r_ok_bind, PL.r_bad_bind, PL.rs_of_ok, PL.exs_nil, PL.exs_ex, PL.exs_retl, PL.exs_ret, PL.exs_asg, PL.exs_unp, PL.exs_par, PL.exs_set, PL.exs_aug, PL.exs_ite, PL.nxt_nx, PL.nxt_rt, PL.nxt_bk, PL.nxt_ct, PV.res, PV.ress, PV.frz, PV.frzs, PV.slotT, PV.ofA, PV.ofB, PV.ofT, PV.ofA?, PV.store1, PV.callWith, PV.argsOf, PV.argOf, PV.mutsOf, PV.lentOf, PV.isOwn, PV.putBack, PV.appC, PV.extC, PV.popC, PV.popAC, PV.setIx, PV.truth, PV.storeAll, PL.big_le_0, PL.big_le_1, PL.big_le_2, PL.big_le_3, PL.big_le_4, PL.big_le_5, PL.big_le_6, PL.big_le_7, PL.big_le_8, PL.big_le_9, PL.big_le_10, PL.big_le_11, PL.big_le_12, PL.big_le_13, PV.unpT, PV.compTurn, PV.bindTo, PV.setAll, PV.wipeE, PV.backE, PV.forTurn, PV.tupT, PV.startE, PV.slotOf, PV.endC, PV.mutsAt, PV.runF, List.getElem?_cons_zero, List.getElem?_cons_succ, List.getElem?_nil, Option.bind_some, Option.bind_none, Option.map_some, Option.map_none, List.set_cons_zero, List.set_cons_succ, List.isEmpty_nil, List.isEmpty_cons, if_true, if_false, List.replicate_succ, List.replicate_zero, List.length_cons, List.length_nil, Bool.not_true, Bool.not_false, Bool.and_true, Bool.and_false, Bool.true_and, Bool.false_and, reduceCtorEq, ne_eq, not_false_eq_true, implies_true, Bool.true_or, Bool.false_or, Bool.or_true, Bool.or_false, Nat.reduceAdd, Nat.reduceLeDiff, Nat.reduceSub, hF, p10, List.contains_nil, hb]
theorem n13b (F : Orc) {P : Nat} (hP : P < 1000) {x0 x2 x3 x4 x5 x6 : Sl} {ss : List Sm} : exs pg F 4000 60 59 (Sm.par 2 3 (Ex.lst []) (Ex.bi Bi.lrange [Ex.loc 1]) :: ss) [x0, .v (.int P), x2, x3, x4, x5, x6] = exs pg F 4000 60 58 ss [x0, .v (.int P), .o true [], .o true (nT (List.range P)), x4, x5, x6] := by
  have hl := lrange_ok hP
  generalize nT (List.range P) = l at hl ⊢
  rw [exs_par]
  simp only [PL.ev_con, PL.ev_loc, PL.ev_dk0, PL.ev_dk1, PL.ev_lst, PL.ev_tup, PL.ev_bin, PL.ev_neg, PL.ev_cmp, PL.ev_chn, PL.ev_and, PL.ev_or, PL.ev_tand, PL.ev_tor, PL.ev_not, PL.ev_ite, PL.ev_isn, PL.ev_isb, PL.ev_isi, PL.ev_call, PL.ev_call1, PL.ev_bi, PL.ev_app, PL.ev_ext, PL.ev_pop, PL.ev_popA, PL.ev_idx, PL.ev_ixof, PL.ev_slc, PL.ev_rev, PV.evO, PV.evOs, PV.evP, PV.evPs, PV.evF, PV.evB, PV.evS, PL.r_ok_bind, PL.r_bad_bind, PL.rs_of_ok, PL.exs_nil, PL.exs_ex, PL.exs_retl, PL.exs_ret, PL.exs_asg, PL.exs_unp, PL.exs_par, PL.exs_set, PL.exs_aug, PL.exs_ite, PL.nxt_nx, PL.nxt_rt, PL.nxt_bk, PL.nxt_ct, PV.res, PV.ress, PV.frz, PV.frzs, PV.slotT, PV.ofA, PV.ofB, PV.ofT, PV.ofA?, PV.store1, PV.callWith, PV.argsOf, PV.argOf, PV.mutsOf, PV.lentOf, PV.isOwn, PV.putBack, PV.appC, PV.extC, PV.popC, PV.popAC, PV.setIx, PV.truth, PV.storeAll, PL.big_le_0, PL.big_le_1, PL.big_le_2, PL.big_le_3, PL.big_le_4, PL.big_le_5, PL.big_le_6, PL.big_le_7, PL.big_le_8, PL.big_le_9, PL.big_le_10, PL.big_le_11, PL.big_le_12, PL.big_le_13, PV.unpT, PV.compTurn, PV.bindTo, PV.setAll, PV.wipeE, PV.backE, PV.forTurn, PV.tupT, PV.startE, PV.slotOf, PV.endC, PV.mutsAt, PV.runF, List.getElem?_cons_zero, List.getElem?_cons_succ, List.getElem?_nil, Option.bind_some, Option.bind_none, Option.map_some, Option.map_none, List.set_cons_zero, List.set_cons_succ, List.isEmpty_nil, List.isEmpty_cons, if_true, if_false, List.replicate_succ, List.replicate_zero, List.length_cons, List.length_nil, Bool.not_true, Bool.not_false, Bool.and_true, Bool.and_false, Bool.true_and, Bool.false_and, reduceCtorEq, ne_eq, not_false_eq_true, implies_true, Bool.true_or, Bool.false_or, Bool.or_true, Bool.or_false, Nat.reduceAdd, Nat.reduceLeDiff, Nat.reduceSub, hl]
theorem test13 (F : Orc) {x0 x1 x2 : Sl} {l : List Nat} {r : Rho} : evB (ev pg F 4000 60) tW (x0 :: x1 :: x2 :: .o true (nT l) :: r) = .ok (!l.isEmpty) (x0 :: x1 :: x2 :: .o true (nT l) :: r) := by
  have h := ne_nil4 l
  simp only [PL.ev_con, PL.ev_loc, PL.ev_dk0, PL.ev_dk1, PL.ev_lst, PL.ev_tup, PL.ev_bin, PL.ev_neg, PL.ev_cmp, PL.ev_chn, PL.ev_and, PL.ev_or, PL.ev_tand, PL.ev_tor, PL.ev_not, PL.ev_ite, PL.ev_isn, PL.ev_isb, PL.ev_isi, PL.ev_call, PL.ev_call1, PL.ev_bi, PL.ev_app, PL.ev_ext, PL.ev_pop, PL.ev_popA, PL.ev_idx, PL.ev_ixof, PL.ev_slc, PL.ev_rev, PV.evO, PV.evOs, PV.evP, PV.evPs, PV.evF, PV.evB, PV.evS, PL.r_ok_bind, PL.r_bad_bind, PL.rs_of_ok, PL.exs_nil, PL.exs_ex, PL.exs_retl, PL.exs_ret, PL.exs_asg, PL.exs_unp, PL.exs_par, PL.exs_set, PL.exs_aug, PL.exs_ite, PL.nxt_nx, PL.nxt_rt, PL.nxt_bk, PL.nxt_ct, PV.res, PV.ress, PV.frz, PV.frzs, PV.slotT, PV.ofA, PV.ofB, PV.ofT, PV.ofA?, PV.store1, PV.callWith, PV.argsOf, PV.argOf, PV.mutsOf, PV.lentOf, PV.isOwn, PV.putBack, PV.appC, PV.extC, PV.popC, PV.popAC, PV.setIx, PV.truth, PV.storeAll, PL.big_le_0, PL.big_le_1, PL.big_le_2, PL.big_le_3, PL.big_le_4, PL.big_le_5, PL.big_le_6, PL.big_le_7, PL.big_le_8, PL.big_le_9, PL.big_le_10, PL.big_le_11, PL.big_le_12, PL.big_le_13, PV.unpT, PV.compTurn, PV.bindTo, PV.setAll, PV.wipeE, PV.backE, PV.forTurn, PV.tupT, PV.startE, PV.slotOf, PV.endC, PV.mutsAt, PV.runF, List.getElem?_cons_zero, List.getElem?_cons_succ, List.getElem?_nil, Option.bind_some, Option.bind_none, Option.map_some, Option.map_none, List.set_cons_zero, List.set_cons_succ, List.isEmpty_nil, List.isEmpty_cons, if_true, if_false, List.replicate_succ, List.replicate_zero, List.length_cons, List.length_nil, Bool.not_true, Bool.not_false, Bool.and_true, Bool.and_false, Bool.true_and, Bool.false_and, reduceCtorEq, ne_eq, not_false_eq_true, implies_true, Bool.true_or, Bool.false_or, Bool.or_true, Bool.or_false, Nat.reduceAdd, Nat.reduceLeDiff, Nat.reduceSub, h]
theorem nT_get {l : List Nat} {r x : Nat} (h : l[r]? = some x) : (nT l)[r]? = some (.int x) := by unfold nT; rw [List.getElem?_map, h]; rfl
theorem nT_erase : ∀ (l : List Nat) (r : Nat), (nT l).eraseIdx r = nT (l.eraseIdx r)
  | [], _ => rfl
  | _ :: _, 0 => rfl
  | x :: l, r + 1 => by
    show T.int x :: (nT l).eraseIdx r = T.int x :: nT (l.eraseIdx r)
    rw [nT_erase l r]
theorem nT_app (l : List Nat) (x : Nat) : nT l ++ [.int x] = nT (l ++ [x]) := by unfold nT; rw [List.map_append]; rfl
theorem ixN_nat {n r : Nat} (h : r < n) : ixN n (r : Nat) = some r := by
  unfold ixN
  rw [if_pos (by omega), if_pos (by omega), Int.toNat_natCast]
theorem bW_ok (F : Orc) {p p' : List T} {nm l : List Nat} {r x : Nat} (hr : l[r]? = some x) (hl : l.length < 1000) (hn : nm.length < 1000) (hF : F 10 [.f p, .t (.int l.length)] = .ok (.t (.int r)) [p']) {x1 x4 x5 x6 : Sl} :
    exs pg F 4000 60 57 bW [.o false p, x1, .o true (nT nm), .o true (nT l), x4, x5, x6] = .nx [.o false p', x1, .o true (nT (nm ++ [x])), .o true (nT (l.eraseIdx r)), x4, x5, x6] := by
  have h0 : r < l.length := (List.getElem?_eq_some_iff.mp hr).1
  have hlen : biT .len [.lst (nT l)] = some (.t (.int l.length)) := by
    show some (PV.A.t (.int ((nT l).length : Nat))) = _
    rw [nT_len]
  have hx : ixN (nT l).length r = some r := by rw [nT_len]; exact ixN_nat h0
  have hg := nT_get hr
  have hb : (nT l).length ≤ big := by rw [nT_len]; unfold big; omega
  have hb2 : (nT nm).length < big := by rw [nT_len]; unfold big; omega
  have he := nT_erase l r
  have ha := nT_app nm x
  rw [exs_ex]
  simp only [PL.ev_con, PL.ev_loc, PL.ev_dk0, PL.ev_dk1, PL.ev_lst, PL.ev_tup, PL.ev_bin, PL.ev_neg, PL.ev_cmp, PL.ev_chn, PL.ev_and, PL.ev_or, PL.ev_tand, PL.ev_tor, PL.ev_not, PL.ev_ite, PL.ev_isn, PL.ev_isb, PL.ev_isi, PL.ev_call, PL.ev_call1, PL.ev_bi, PL.ev_app, PL.ev_ext, PL.ev_pop, PL.ev_popA, PL.ev_idx, PL.ev_ixof, PL.ev_slc, PL.ev_rev, PV.evO, PV.evOs, PV.evP, PV.evPs, PV.evF, PV.evB, PV.evS, PL.r_ok_bind, PL.r_bad_bind, PL.rs_of_ok, PL.exs_nil, PL.exs_ex, PL.exs_retl, PL.exs_ret, PL.exs_asg, PL.exs_unp, PL.exs_par, PL.exs_set, PL.exs_aug, PL.exs_ite, PL.nxt_nx, PL.nxt_rt, PL.nxt_bk, PL.nxt_ct, PV.res, PV.ress, PV.frz, PV.frzs, PV.slotT, PV.ofA, PV.ofB, PV.ofT, PV.ofA?, PV.store1, PV.callWith, PV.argsOf, PV.argOf, PV.mutsOf, PV.lentOf, PV.isOwn, PV.putBack, PV.appC, PV.extC, PV.popC, PV.popAC, PV.setIx, PV.truth, PV.storeAll, PL.big_le_0, PL.big_le_1, PL.big_le_2, PL.big_le_3, PL.big_le_4, PL.big_le_5, PL.big_le_6, PL.big_le_7, PL.big_le_8, PL.big_le_9, PL.big_le_10, PL.big_le_11, PL.big_le_12, PL.big_le_13, PV.unpT, PV.compTurn, PV.bindTo, PV.setAll, PV.wipeE, PV.backE, PV.forTurn, PV.tupT, PV.startE, PV.slotOf, PV.endC, PV.mutsAt, PV.runF, List.getElem?_cons_zero, List.getElem?_cons_succ, List.getElem?_nil, Option.bind_some, Option.bind_none, Option.map_some, Option.map_none, List.set_cons_zero, List.set_cons_succ, List.isEmpty_nil, List.isEmpty_cons, if_true, if_false, List.replicate_succ, List.replicate_zero, List.length_cons, List.length_nil, Bool.not_true, Bool.not_false, Bool.and_true, Bool.and_false, Bool.true_and, Bool.false_and, reduceCtorEq, ne_eq, not_false_eq_true, implies_true, Bool.true_or, Bool.false_or, Bool.or_true, Bool.or_false, Nat.reduceAdd, Nat.reduceLeDiff, Nat.reduceSub, hlen, hF, p10, List.contains_nil, hx, hg, hb, hb2, he, ha]
theorem perm_erase : ∀ {l : List Nat} {r x : Nat}, l[r]? = some x → (x :: l.eraseIdx r).Perm l
  | [], _, _, h => by simp at h
  | y :: l, 0, x, h => by
    have : y = x := by simpa using h
    subst this
    exact .refl _
  | y :: l, r + 1, x, h => by
    have h' : l[r]? = some x := by simpa using h
    exact (List.Perm.swap y x _).trans ((perm_erase h').cons y)
theorem whl13 (F : Orc) {P : Nat} {x1 x4 x5 x6 : Sl} (hF : ∀ (p : List T) (n : Nat), Pot p → 1 ≤ n → n < 1000 → ∃ r p', r < n ∧ Pot p' ∧ F 10 [.f p, .t (.int n)] = .ok (.t (.int r)) [p']) : ∀ (n m : Nat) (p : List T) (nm l : List Nat), Pot p → l.length = n → n < m → nm.length + n < 1000 →
    ∃ p' nm', Pot p' ∧ nm'.Perm (nm ++ l) ∧ whlL (evB (ev pg F 4000 60) tW) (exs pg F 4000 60 57 bW) m [.o false p, x1, .o true (nT nm), .o true (nT l), x4, x5, x6] = .nx [.o false p', x1, .o true (nT nm'), .o true [], x4, x5, x6] := by
  intro n
  induction n with
  | zero =>
    intro m p nm l hp hl hm _
    cases m with
    | zero => omega
    | succ m =>
    have : l = [] := List.length_eq_zero_iff.mp hl
    subst this
    refine ⟨p, nm, hp, by rw [List.append_nil], ?_⟩
    unfold whlL
    rw [test13]
    rfl
  | succ n ih =>
    intro m p nm l hp hl hm hn
    cases m with
    | zero => omega
    | succ m =>
    obtain ⟨r, p1, hr, hp1, h10⟩ := hF p l.length hp (by omega) (by omega)
    obtain ⟨x, hx⟩ : ∃ x, l[r]? = some x := ⟨_, List.getElem?_eq_getElem hr⟩
    have hb := bW_ok F (nm := nm) (x1 := x1) (x4 := x4) (x5 := x5) (x6 := x6) hx (by omega) (by omega) h10
    obtain ⟨p2, nm2, hp2, hperm, e⟩ := ih m p1 (nm ++ [x]) (l.eraseIdx r) hp1 (by rw [List.length_eraseIdx_of_lt hr]; omega) (by omega) (by rw [List.length_append, List.length_singleton]; omega)
    refine ⟨p2, nm2, hp2, hperm.trans ?_, ?_⟩
    · rw [List.append_assoc]
      exact List.Perm.append_left _ (perm_erase hx)
    · unfold whlL
      have he : l.isEmpty = false := by
        cases l with
        | nil => cases hl
        | cons _ _ => rfl
      rw [test13, he]
      simp only [PL.rs_of_ok, Bool.not_false]
      rw [hb]
      exact e
/-- arrows along the names -/
def Along (nm : List Nat) (A : List (Nat × Nat)) : Prop := ∀ q ∈ A, ∃ a b : Nat, a < b ∧ nm[a]? = some q.1 ∧ nm[b]? = some q.2
theorem idx_nT {nm : List Nat} {a x : Nat} (h : nm[a]? = some x) : idxT (.lst (nT nm)) (.int (a : Nat)) = some (.int x) := by
  have h0 := (List.getElem?_eq_some_iff.mp h).1
  show (ixN (nT nm).length a).bind (fun j => (nT nm)[j]?) = _
  rw [nT_len, ixN_nat h0, Option.bind_some, nT_get h]
theorem bF_ok (F : Orc) {p p1 p2 : List T} {P : Nat} {nm : List Nat} {A : List (Nat × Nat)} {a s x y : Nat} (ha : a + 1 + s < P) (hA : A.length < 1000) (hx : nm[a]? = some x) (hy : nm[a + 1 + s]? = some y) (h1 : F 10 [.f p, .t (.int ((P - 1 : Nat)))] = .ok (.t (.int a)) [p1]) (h2 : F 10 [.f p1, .t (.int ((P - 1 - a : Nat)))] = .ok (.t (.int s)) [p2]) {x3 x5 x6 : Sl} :
    exs pg F 4000 60 55 bF [.o false p, .v (.int P), .o true (nT nm), x3, .o true (A.map arT), x5, x6] = .nx [.o false p2, .v (.int P), .o true (nT nm), x3, .o true ((A ++ [(x, y)]).map arT), x5, .v (.int a)] := by
  have b1 : binT .sub (.int P) (.int 1) = some (.t (.int ((P - 1 : Nat)))) := by rw [sub_ok]; congr 3; omega
  have b2 : binT .sub (.int ((P - 1 : Nat))) (.int a) = some (.t (.int ((P - 1 - a : Nat)))) := by rw [sub_ok]; congr 3; omega
  have b3 : binT .add (.int a) (.int 1) = some (.t (.int ((a + 1 : Nat)))) := by rw [add_ok]; congr 3
  have b4 : binT .add (.int ((a + 1 : Nat))) (.int s) = some (.t (.int ((a + 1 + s : Nat)))) := by rw [add_ok]; congr 3
  have i1 := idx_nT hx
  have i2 := idx_nT hy
  have hb : (A.map arT).length < big := by rw [List.length_map]; unfold big; omega
  have hm : A.map arT ++ [.tup [.int x, .int y]] = (A ++ [(x, y)]).map arT := by rw [List.map_append]; rfl
  generalize A.map arT = U at hb hm ⊢
  rw [← hm]
  rw [exs_asg]
  simp only [PL.ev_con, PL.ev_loc, PL.ev_dk0, PL.ev_dk1, PL.ev_lst, PL.ev_tup, PL.ev_bin, PL.ev_neg, PL.ev_cmp, PL.ev_chn, PL.ev_and, PL.ev_or, PL.ev_tand, PL.ev_tor, PL.ev_not, PL.ev_ite, PL.ev_isn, PL.ev_isb, PL.ev_isi, PL.ev_call, PL.ev_call1, PL.ev_bi, PL.ev_app, PL.ev_ext, PL.ev_pop, PL.ev_popA, PL.ev_idx, PL.ev_ixof, PL.ev_slc, PL.ev_rev, PV.evO, PV.evOs, PV.evP, PV.evPs, PV.evF, PV.evB, PV.evS, PL.r_ok_bind, PL.r_bad_bind, PL.rs_of_ok, PL.exs_nil, PL.exs_ex, PL.exs_retl, PL.exs_ret, PL.exs_asg, PL.exs_unp, PL.exs_par, PL.exs_set, PL.exs_aug, PL.exs_ite, PL.nxt_nx, PL.nxt_rt, PL.nxt_bk, PL.nxt_ct, PV.res, PV.ress, PV.frz, PV.frzs, PV.slotT, PV.ofA, PV.ofB, PV.ofT, PV.ofA?, PV.store1, PV.callWith, PV.argsOf, PV.argOf, PV.mutsOf, PV.lentOf, PV.isOwn, PV.putBack, PV.appC, PV.extC, PV.popC, PV.popAC, PV.setIx, PV.truth, PV.storeAll, PL.big_le_0, PL.big_le_1, PL.big_le_2, PL.big_le_3, PL.big_le_4, PL.big_le_5, PL.big_le_6, PL.big_le_7, PL.big_le_8, PL.big_le_9, PL.big_le_10, PL.big_le_11, PL.big_le_12, PL.big_le_13, PV.unpT, PV.compTurn, PV.bindTo, PV.setAll, PV.wipeE, PV.backE, PV.forTurn, PV.tupT, PV.startE, PV.slotOf, PV.endC, PV.mutsAt, PV.runF, List.getElem?_cons_zero, List.getElem?_cons_succ, List.getElem?_nil, Option.bind_some, Option.bind_none, Option.map_some, Option.map_none, List.set_cons_zero, List.set_cons_succ, List.isEmpty_nil, List.isEmpty_cons, if_true, if_false, List.replicate_succ, List.replicate_zero, List.length_cons, List.length_nil, Bool.not_true, Bool.not_false, Bool.and_true, Bool.and_false, Bool.true_and, Bool.false_and, reduceCtorEq, ne_eq, not_false_eq_true, implies_true, Bool.true_or, Bool.false_or, Bool.or_true, Bool.or_false, Nat.reduceAdd, Nat.reduceLeDiff, Nat.reduceSub, b1, b2, b3, b4, h1, h2, p10, List.contains_nil, i1, i2, hb]
theorem for13 (F : Orc) {P : Nat} {nm : List Nat} {x3 : Sl} (hP : 2 ≤ P) (hP2 : P < 1000) (hnm : nm.length = P) (hF : ∀ (p : List T) (n : Nat), Pot p → 1 ≤ n → n < 1000 → ∃ r p', r < n ∧ Pot p' ∧ F 10 [.f p, .t (.int n)] = .ok (.t (.int r)) [p']) {n : Nat} (hn : n < 100) {p : List T} (hp : Pot p) {x5 x6 : Sl} :
    ∃ p' A s5 s6, Pot p' ∧ A.length = n ∧ Along nm A ∧ forL (forTurn [5] false (exs pg F 4000 60 55 bF)) (.rg 0 n) 4000 0 [.o false p, .v (.int P), .o true (nT nm), x3, .o true [], x5, x6] = .nx [.o false p', .v (.int P), .o true (nT nm), x3, .o true (A.map arT), s5, s6] := by
  have step : ∀ (i : Nat) (x : T) (ρ : Rho), ((List.range n).map fun (i : Nat) => T.int (0 + i))[i]? = some x → (∃ p A s5 s6, Pot p ∧ A.length = i ∧ Along nm A ∧ ρ = [.o false p, .v (.int P), .o true (nT nm), x3, .o true (A.map arT), s5, s6]) →
      ∃ ρ', forTurn [5] false (exs pg F 4000 60 55 bF) x ρ = .nx ρ' ∧ ∃ p A s5 s6, Pot p ∧ A.length = i + 1 ∧ Along nm A ∧ ρ' = [.o false p, .v (.int P), .o true (nT nm), x3, .o true (A.map arT), s5, s6] := by
    rintro i x ρ hx ⟨p, A, s5, s6, hp, hA, hal, rfl⟩
    have hi : i < n := by
      have := (List.getElem?_eq_some_iff.mp hx).1
      rw [List.length_map, List.length_range] at this
      exact this
    obtain ⟨a, p1, ha, hp1, h1⟩ := hF p (P - 1) hp (by omega) (by omega)
    obtain ⟨s, p2, hs, hp2, h2⟩ := hF p1 (P - 1 - a) hp1 (by omega) (by omega)
    obtain ⟨u, hu⟩ : ∃ u, nm[a]? = some u := ⟨_, List.getElem?_eq_getElem (by omega)⟩
    obtain ⟨v, hv⟩ : ∃ v, nm[a + 1 + s]? = some v := ⟨_, List.getElem?_eq_getElem (by omega)⟩
    refine ⟨_, bF_ok F (A := A) (x3 := x3) (x5 := .v x) (x6 := s6) (by omega) (by omega) hu hv h1 h2, p2, A ++ [(u, v)], _, _, hp2, by rw [List.length_append, hA]; rfl, ?_, rfl⟩
    intro q hq
    rcases List.mem_append.mp hq with hq | hq
    · exact hal q hq
    · rw [List.mem_singleton] at hq
      subst hq
      exact ⟨a, a + 1 + s, by omega, hu, hv⟩
  obtain ⟨ρ', e1, p', A, s5, s6, hp', hA, hal, rfl⟩ := forL_inv (fun i ρ => ∃ p A s5 s6, Pot p ∧ A.length = i ∧ Along nm A ∧ ρ = [.o false p, .v (.int P), .o true (nT nm), x3, .o true (A.map arT), s5, s6]) (fun i ρ => rg7 ρ i) step 4000 0 [.o false p, .v (.int P), .o true (nT nm), x3, .o true [], x5, x6] (Nat.zero_le _) (by rw [List.length_map, List.length_range]; omega) ⟨p, [], x5, x6, hp, rfl, fun q hq => (nomatch hq), rfl⟩
  rw [List.length_map, List.length_range] at hA
  exact ⟨p', A, s5, s6, hp', hA, hal, e1⟩
theorem n13d (F : Orc) {P n : Nat} {p p' : List T} {x2 x3 x4 x5 x6 : Sl} (hn : n < 1000) (h1 : 1 < P → F 10 [.f p, .t (.int 8)] = .ok (.t (.int n)) [p']) (h2 : ¬ 1 < P → n = 0 ∧ p' = p) : evIf (ev pg F 4000 60) 1 [eN] [.o false p, .v (.int P), x2, x3, x4, x5, x6] = .ok (.rg 0 n) [.o false p', .v (.int P), x2, x3, x4, x5, x6] := by
  refine evIf_os (t := .int n) ?_ (iv_range hn)
  by_cases h : 1 < P
  · have hg : cmpT .gt (.int P) (.int 1) = some true := by rw [cmp_gt, decide_eq_true (by omega)]
    have h10 := h1 h
    simp only [PL.ev_con, PL.ev_loc, PL.ev_dk0, PL.ev_dk1, PL.ev_lst, PL.ev_tup, PL.ev_bin, PL.ev_neg, PL.ev_cmp, PL.ev_chn, PL.ev_and, PL.ev_or, PL.ev_tand, PL.ev_tor, PL.ev_not, PL.ev_ite, PL.ev_isn, PL.ev_isb, PL.ev_isi, PL.ev_call, PL.ev_call1, PL.ev_bi, PL.ev_app, PL.ev_ext, PL.ev_pop, PL.ev_popA, PL.ev_idx, PL.ev_ixof, PL.ev_slc, PL.ev_rev, PV.evO, PV.evOs, PV.evP, PV.evPs, PV.evF, PV.evB, PV.evS, PL.r_ok_bind, PL.r_bad_bind, PL.rs_of_ok, PL.exs_nil, PL.exs_ex, PL.exs_retl, PL.exs_ret, PL.exs_asg, PL.exs_unp, PL.exs_par, PL.exs_set, PL.exs_aug, PL.exs_ite, PL.nxt_nx, PL.nxt_rt, PL.nxt_bk, PL.nxt_ct, PV.res, PV.ress, PV.frz, PV.frzs, PV.slotT, PV.ofA, PV.ofB, PV.ofT, PV.ofA?, PV.store1, PV.callWith, PV.argsOf, PV.argOf, PV.mutsOf, PV.lentOf, PV.isOwn, PV.putBack, PV.appC, PV.extC, PV.popC, PV.popAC, PV.setIx, PV.truth, PV.storeAll, PL.big_le_0, PL.big_le_1, PL.big_le_2, PL.big_le_3, PL.big_le_4, PL.big_le_5, PL.big_le_6, PL.big_le_7, PL.big_le_8, PL.big_le_9, PL.big_le_10, PL.big_le_11, PL.big_le_12, PL.big_le_13, PV.unpT, PV.compTurn, PV.bindTo, PV.setAll, PV.wipeE, PV.backE, PV.forTurn, PV.tupT, PV.startE, PV.slotOf, PV.endC, PV.mutsAt, PV.runF, List.getElem?_cons_zero, List.getElem?_cons_succ, List.getElem?_nil, Option.bind_some, Option.bind_none, Option.map_some, Option.map_none, List.set_cons_zero, List.set_cons_succ, List.isEmpty_nil, List.isEmpty_cons, if_true, if_false, List.replicate_succ, List.replicate_zero, List.length_cons, List.length_nil, Bool.not_true, Bool.not_false, Bool.and_true, Bool.and_false, Bool.true_and, Bool.false_and, reduceCtorEq, ne_eq, not_false_eq_true, implies_true, Bool.true_or, Bool.false_or, Bool.or_true, Bool.or_false, Nat.reduceAdd, Nat.reduceLeDiff, Nat.reduceSub, hg, h10, p10, List.contains_nil]
  · have hg : cmpT .gt (.int P) (.int 1) = some false := by rw [cmp_gt, decide_eq_false (by omega)]
    obtain ⟨rfl, rfl⟩ := h2 h
    simp only [PL.ev_con, PL.ev_loc, PL.ev_dk0, PL.ev_dk1, PL.ev_lst, PL.ev_tup, PL.ev_bin, PL.ev_neg, PL.ev_cmp, PL.ev_chn, PL.ev_and, PL.ev_or, PL.ev_tand, PL.ev_tor, PL.ev_not, PL.ev_ite, PL.ev_isn, PL.ev_isb, PL.ev_isi, PL.ev_call, PL.ev_call1, PL.ev_bi, PL.ev_app, PL.ev_ext, PL.ev_pop, PL.ev_popA, PL.ev_idx, PL.ev_ixof, PL.ev_slc, PL.ev_rev, PV.evO, PV.evOs, PV.evP, PV.evPs, PV.evF, PV.evB, PV.evS, PL.r_ok_bind, PL.r_bad_bind, PL.rs_of_ok, PL.exs_nil, PL.exs_ex, PL.exs_retl, PL.exs_ret, PL.exs_asg, PL.exs_unp, PL.exs_par, PL.exs_set, PL.exs_aug, PL.exs_ite, PL.nxt_nx, PL.nxt_rt, PL.nxt_bk, PL.nxt_ct, PV.res, PV.ress, PV.frz, PV.frzs, PV.slotT, PV.ofA, PV.ofB, PV.ofT, PV.ofA?, PV.store1, PV.callWith, PV.argsOf, PV.argOf, PV.mutsOf, PV.lentOf, PV.isOwn, PV.putBack, PV.appC, PV.extC, PV.popC, PV.popAC, PV.setIx, PV.truth, PV.storeAll, PL.big_le_0, PL.big_le_1, PL.big_le_2, PL.big_le_3, PL.big_le_4, PL.big_le_5, PL.big_le_6, PL.big_le_7, PL.big_le_8, PL.big_le_9, PL.big_le_10, PL.big_le_11, PL.big_le_12, PL.big_le_13, PV.unpT, PV.compTurn, PV.bindTo, PV.setAll, PV.wipeE, PV.backE, PV.forTurn, PV.tupT, PV.startE, PV.slotOf, PV.endC, PV.mutsAt, PV.runF, List.getElem?_cons_zero, List.getElem?_cons_succ, List.getElem?_nil, Option.bind_some, Option.bind_none, Option.map_some, Option.map_none, List.set_cons_zero, List.set_cons_succ, List.isEmpty_nil, List.isEmpty_cons, if_true, if_false, List.replicate_succ, List.replicate_zero, List.length_cons, List.length_nil, Bool.not_true, Bool.not_false, Bool.and_true, Bool.and_false, Bool.true_and, Bool.false_and, reduceCtorEq, ne_eq, not_false_eq_true, implies_true, Bool.true_or, Bool.false_or, Bool.or_true, Bool.or_false, Nat.reduceAdd, Nat.reduceLeDiff, Nat.reduceSub, hg]
    rfl
end K85

set_option Elab.async false
set_option linter.all false
set_option maxRecDepth 1000000
set_option maxHeartbeats 8000000
/-! k85: the drawn web, whole; the ring -/
namespace K85
open PV PySem PL
theorem n13c (F : Orc) {ρ ρ' : Rho} {ss : List Sm} (e : whlL (evB (ev pg F 4000 60) tW) (exs pg F 4000 60 57 bW) 4000 ρ = .nx ρ') : exs pg F 4000 60 58 (Sm.whl tW bW :: ss) ρ = exs pg F 4000 60 57 ss ρ' := by
  rw [exs_whl, e]
  rfl
theorem n13e (F : Orc) {ss : List Sm} {x0 x1 x2 x3 x4 x5 x6 : Sl} : exs pg F 4000 60 57 (Sm.asg 4 (Ex.lst []) :: ss) [x0, x1, x2, x3, x4, x5, x6] = exs pg F 4000 60 56 ss [x0, x1, x2, x3, .o true [], x5, x6] := by
  rw [exs_asg]
  simp only [PL.ev_con, PL.ev_loc, PL.ev_dk0, PL.ev_dk1, PL.ev_lst, PL.ev_tup, PL.ev_bin, PL.ev_neg, PL.ev_cmp, PL.ev_chn, PL.ev_and, PL.ev_or, PL.ev_tand, PL.ev_tor, PL.ev_not, PL.ev_ite, PL.ev_isn, PL.ev_isb, PL.ev_isi, PL.ev_call, PL.ev_call1, PL.ev_bi, PL.ev_app, PL.ev_ext, PL.ev_pop, PL.ev_popA, PL.ev_idx, PL.ev_ixof, PL.ev_slc, PL.ev_rev, PV.evO, PV.evOs, PV.evP, PV.evPs, PV.evF, PV.evB, PV.evS, PL.r_ok_bind, PL.r_bad_bind, PL.rs_of_ok, PL.exs_nil, PL.exs_ex, PL.exs_retl, PL.exs_ret, PL.exs_asg, PL.exs_unp, PL.exs_par, PL.exs_set, PL.exs_aug, PL.exs_ite, PL.nxt_nx, PL.nxt_rt, PL.nxt_bk, PL.nxt_ct, PV.res, PV.ress, PV.frz, PV.frzs, PV.slotT, PV.ofA, PV.ofB, PV.ofT, PV.ofA?, PV.store1, PV.callWith, PV.argsOf, PV.argOf, PV.mutsOf, PV.lentOf, PV.isOwn, PV.putBack, PV.appC, PV.extC, PV.popC, PV.popAC, PV.setIx, PV.truth, PV.storeAll, PL.big_le_0, PL.big_le_1, PL.big_le_2, PL.big_le_3, PL.big_le_4, PL.big_le_5, PL.big_le_6, PL.big_le_7, PL.big_le_8, PL.big_le_9, PL.big_le_10, PL.big_le_11, PL.big_le_12, PL.big_le_13, PV.unpT, PV.compTurn, PV.bindTo, PV.setAll, PV.wipeE, PV.backE, PV.forTurn, PV.tupT, PV.startE, PV.slotOf, PV.endC, PV.mutsAt, PV.runF, List.getElem?_cons_zero, List.getElem?_cons_succ, List.getElem?_nil, Option.bind_some, Option.bind_none, Option.map_some, Option.map_none, List.set_cons_zero, List.set_cons_succ, List.isEmpty_nil, List.isEmpty_cons, if_true, if_false, List.replicate_succ, List.replicate_zero, List.length_cons, List.length_nil, Bool.not_true, Bool.not_false, Bool.and_true, Bool.and_false, Bool.true_and, Bool.false_and, reduceCtorEq, ne_eq, not_false_eq_true, implies_true, Bool.true_or, Bool.false_or, Bool.or_true, Bool.or_false, Nat.reduceAdd, Nat.reduceLeDiff, Nat.reduceSub]
theorem n13f (F : Orc) {ρ ρ1 ρ' : Rho} {n : Nat} {c : Ex} {b ss : List Sm} (h1 : evIf (ev pg F 4000 60) 1 [c] ρ = .ok (.rg 0 n) ρ1) (h2 : forL (forTurn [5] false (exs pg F 4000 60 55 b)) (.rg 0 n) 4000 0 ρ1 = .nx ρ') : exs pg F 4000 60 56 (Sm.for_ [5] false 1 [c] b :: ss) ρ = exs pg F 4000 60 55 ss ρ' := by
  rw [exs_for, h1]
  simp only [PL.rs_of_ok]
  rw [h2]
  rfl
theorem n13g (F : Orc) {x0 x3 x5 x6 : Sl} {v : T} {u w : List T} : exs pg F 4000 60 55 [Sm.ret (Ex.tup [Ex.loc 1, Ex.loc 4, Ex.loc 2])] [x0, .v v, .o true w, x3, .o true u, x5, x6] = .rt (.t (.tup [v, .lst u, .lst w])) [x0, .v v, .v (.lst w), x3, .v (.lst u), x5, x6] := by
  rw [exs_ret _ (fun i => by simp)]
  simp only [PL.ev_con, PL.ev_loc, PL.ev_dk0, PL.ev_dk1, PL.ev_lst, PL.ev_tup, PL.ev_bin, PL.ev_neg, PL.ev_cmp, PL.ev_chn, PL.ev_and, PL.ev_or, PL.ev_tand, PL.ev_tor, PL.ev_not, PL.ev_ite, PL.ev_isn, PL.ev_isb, PL.ev_isi, PL.ev_call, PL.ev_call1, PL.ev_bi, PL.ev_app, PL.ev_ext, PL.ev_pop, PL.ev_popA, PL.ev_idx, PL.ev_ixof, PL.ev_slc, PL.ev_rev, PV.evO, PV.evOs, PV.evP, PV.evPs, PV.evF, PV.evB, PV.evS, PL.r_ok_bind, PL.r_bad_bind, PL.rs_of_ok, PL.exs_nil, PL.exs_ex, PL.exs_retl, PL.exs_ret, PL.exs_asg, PL.exs_unp, PL.exs_par, PL.exs_set, PL.exs_aug, PL.exs_ite, PL.nxt_nx, PL.nxt_rt, PL.nxt_bk, PL.nxt_ct, PV.res, PV.ress, PV.frz, PV.frzs, PV.slotT, PV.ofA, PV.ofB, PV.ofT, PV.ofA?, PV.store1, PV.callWith, PV.argsOf, PV.argOf, PV.mutsOf, PV.lentOf, PV.isOwn, PV.putBack, PV.appC, PV.extC, PV.popC, PV.popAC, PV.setIx, PV.truth, PV.storeAll, PL.big_le_0, PL.big_le_1, PL.big_le_2, PL.big_le_3, PL.big_le_4, PL.big_le_5, PL.big_le_6, PL.big_le_7, PL.big_le_8, PL.big_le_9, PL.big_le_10, PL.big_le_11, PL.big_le_12, PL.big_le_13, PV.unpT, PV.compTurn, PV.bindTo, PV.setAll, PV.wipeE, PV.backE, PV.forTurn, PV.tupT, PV.startE, PV.slotOf, PV.endC, PV.mutsAt, PV.runF, List.getElem?_cons_zero, List.getElem?_cons_succ, List.getElem?_nil, Option.bind_some, Option.bind_none, Option.map_some, Option.map_none, List.set_cons_zero, List.set_cons_succ, List.isEmpty_nil, List.isEmpty_cons, if_true, if_false, List.replicate_succ, List.replicate_zero, List.length_cons, List.length_nil, Bool.not_true, Bool.not_false, Bool.and_true, Bool.and_false, Bool.true_and, Bool.false_and, reduceCtorEq, ne_eq, not_false_eq_true, implies_true, Bool.true_or, Bool.false_or, Bool.or_true, Bool.or_false, Nat.reduceAdd, Nat.reduceLeDiff, Nat.reduceSub]
theorem f13 {d : Nat} (hF : ∀ (p : List T) (n : Nat), Pot p → 1 ≤ n → n < 1000 → ∃ r p', r < n ∧ Pot p' ∧ Fo d 10 [.f p, .t (.int n)] = .ok (.t (.int r)) [p']) {p : List T} (hp : Pot p) : ∃ P A nm p', Pot p' ∧ 1 ≤ P ∧ P ≤ 4 ∧ A.length ≤ 7 ∧ nm.Perm (List.range P) ∧ Along nm A ∧ Fo (d + 1) 13 [.f p] = .ok (.t (.tup [.int (P : Nat), .lst (A.map arT), .lst (nT nm)])) [p'] := by
  obtain ⟨r, p1, hr, hp1, h1⟩ := hF p 4 hp (by omega) (by omega)
  obtain ⟨p2, nm, hp2, hperm, h2⟩ := whl13 (Fo d) (P := 1 + r) (x1 := .v (.int (1 + r : Nat))) (x4 := .u) (x5 := .u) (x6 := .u) hF (1 + r) 4000 p1 [] (List.range (1 + r)) hp1 List.length_range (by omega) (by rw [List.length_nil]; omega)
  rw [List.nil_append] at hperm
  have h2 : whlL (evB (ev pg (Fo d) 4000 60) tW) (exs pg (Fo d) 4000 60 57 bW) 4000 [.o false p1, .v (.int (1 + r : Nat)), .o true [], .o true (nT (List.range (1 + r))), .u, .u, .u] = _ := h2
  have hnm : nm.length = 1 + r := by rw [hperm.length_eq, List.length_range]
  have key : ∃ n p3, n ≤ 7 ∧ Pot p3 ∧ (1 < 1 + r → Fo d 10 [.f p2, .t (.int 8)] = .ok (.t (.int (n : Nat))) [p3]) ∧ (¬ 1 < 1 + r → n = 0 ∧ p3 = p2) := by
    by_cases h : 1 < 1 + r
    · obtain ⟨n, p3, hn, hp3, h3⟩ := hF p2 8 hp2 (by omega) (by omega)
      exact ⟨n, p3, by omega, hp3, fun _ => h3, fun z => absurd h z⟩
    · exact ⟨0, p2, by omega, hp2, fun z => absurd z h, fun _ => ⟨rfl, rfl⟩⟩
  obtain ⟨n, p3, hn, hp3, h3, h3'⟩ := key
  have h4 := n13d (Fo d) (P := 1 + r) (x2 := .o true (nT nm)) (x3 := .o true []) (x4 := .o true []) (x5 := .u) (x6 := .u) (by omega) h3 h3'
  have key2 : ∃ p' A s5 s6, Pot p' ∧ A.length = n ∧ Along nm A ∧ forL (forTurn [5] false (exs pg (Fo d) 4000 60 55 bF)) (.rg 0 n) 4000 0 [.o false p3, .v (.int (1 + r : Nat)), .o true (nT nm), .o true [], .o true [], .u, .u] = .nx [.o false p', .v (.int (1 + r : Nat)), .o true (nT nm), .o true [], .o true (A.map arT), s5, s6] := by
    by_cases h : 2 ≤ 1 + r
    · exact for13 (Fo d) h (by omega) hnm hF (by omega) hp3
    · obtain ⟨rfl, rfl⟩ := h3' (by omega)
      exact ⟨_, [], _, _, hp3, rfl, fun q hq => (nomatch hq), rfl⟩
  obtain ⟨p4, A, s5, s6, hp4, hA, hal, h5⟩ := key2
  refine ⟨1 + r, A, nm, p4, hp4, by omega, by omega, by omega, hperm, hal, ?_⟩
  refine Fd_rt (ρ0 := [.o false p, .u, .u, .u, .u, .u, .u]) (ρ := [.o false p4, .v (.int (1 + r : Nat)), .v (.lst (nT nm)), .o true [], .v (.lst (A.map arT)), s5, s6]) p13 rfl ?_ rfl
  show exs pg (Fo d) 4000 60 60 c13 _ = _
  rw [c13_eq, n13a (Fo d) rfl h1, n13b (Fo d) (by omega), n13c (Fo d) h2, n13e, n13f (Fo d) h4 h5, n13g]
/-! ### its rank -/
theorem idxOf_get : ∀ {l : List Nat} {a x : Nat}, l.Nodup → l[a]? = some x → l.idxOf x = a
  | [], _, _, _, h => by simp at h
  | y :: l, 0, x, _, h => by
    have : y = x := by simpa using h
    subst this
    simp
  | y :: l, a + 1, x, n, h => by
    have h' : l[a]? = some x := by simpa using h
    rw [List.nodup_cons] at n
    have ne : y ≠ x := fun z => n.1 (z ▸ List.mem_of_getElem? h')
    rw [List.idxOf_cons]
    have e : (y == x) = false := beq_eq_false_iff_ne.mpr ne
    rw [e]
    show l.idxOf x + 1 = a + 1
    rw [idxOf_get n.2 h']
theorem web_of {P : Nat} {A : List (Nat × Nat)} {nm : List Nat} (h1 : 1 ≤ P) (h4 : P ≤ 4) (h7 : A.length ≤ 7) (hp : nm.Perm (List.range P)) (ha : Along nm A) : Web A P nm.idxOf := by
  have nd : nm.Nodup := hp.nodup_iff.mpr List.nodup_range
  have hl : nm.length = P := by rw [hp.length_eq, List.length_range]
  have lt : ∀ {a x : Nat}, nm[a]? = some x → a < P ∧ x < P := fun {a x} h => by
    refine ⟨?_, List.mem_range.mp (hp.mem_iff.mp (List.mem_of_getElem? h))⟩
    have := (List.getElem?_eq_some_iff.mp h).1
    omega
  refine ⟨h7, h1, h4, ⟨fun q hq => ?_, fun q hq => ?_⟩, fun p hq => ?_, fun q hq => ?_⟩
  · obtain ⟨a, b, hab, ea, eb⟩ := ha q hq
    rw [idxOf_get nd ea, idxOf_get nd eb]
    exact hab
  · obtain ⟨a, b, hab, ea, eb⟩ := ha q hq
    rw [idxOf_get nd eb]
    exact (lt eb).1
  · have m : p ∈ nm := hp.mem_iff.mpr (List.mem_range.mpr hq)
    have := List.idxOf_lt_length_iff.mpr m
    omega
  · obtain ⟨a, b, hab, ea, eb⟩ := ha q hq
    exact ⟨(lt ea).2, (lt eb).2⟩
/-! ### an arrow back -/
def visited (A : List (Nat × Nat)) (p : Nat) (s : List Nat) : List Nat := p :: s.map (tgt A)
theorem in_visited {A : List (Nat × Nat)} : ∀ (k p : Nat) (s : List Nat), s ∈ ch A k p → ∀ x ∈ s.map (tgt A), ∃ q ∈ A, q.2 = x ∧ q.1 ∈ visited A p s
  | 0, p, s, h, x, hx => by
    have : s = [] := by simpa [ch] using h
    subst this; cases hx
  | k + 1, p, s, h, x, hx => by
    obtain ⟨i, hi, hs⟩ := List.mem_flatMap.mp h
    obtain ⟨t, ht, rfl⟩ := List.mem_map.mp hs
    obtain ⟨b, hb⟩ := mem_nexts.mp hi
    rw [List.map_cons] at hx
    rcases List.mem_cons.mp hx with rfl | hx
    · exact ⟨(p, b), List.mem_of_getElem? hb, (tgt_of hb).symm, List.mem_cons_self⟩
    · obtain ⟨q, h1, h2, h3⟩ := in_visited k _ t ht x hx
      refine ⟨q, h1, h2, ?_⟩
      show q.1 ∈ p :: (tgt A i :: t.map (tgt A))
      exact List.mem_cons_of_mem _ h3
theorem end_visited (A : List (Nat × Nat)) (p : Nat) (s : List Nat) : endOf A p s ∈ visited A p s := by
  unfold endOf
  cases h : s.getLast? with
  | none => exact List.mem_cons_self
  | some i => exact List.mem_cons_of_mem _ (List.mem_map.mpr ⟨i, List.mem_of_getLast? h, rfl⟩)
theorem visited_lt {A : List (Nat × Nat)} {P : Nat} (h : ∀ q ∈ A, q.1 < P ∧ q.2 < P) {k p : Nat} (hp : p < P) {s : List Nat} (hs : s ∈ ch A k p) : ∀ x ∈ visited A p s, x < P := fun x hx => by
  rcases List.mem_cons.mp hx with rfl | hx
  · exact hp
  · obtain ⟨q, h1, rfl, _⟩ := in_visited k p s hs x hx
    exact (h q h1).2
theorem ring_back {A : List (Nat × Nat)} {P : Nat} (h : Arr A P) {k p : Nat} (hp : p < P) {s : List Nat} (hs : s ∈ ch A k p) : ringF (A ++ [(endOf A p s, p)]) 60 (List.range P) = true := by
  refine ring_yes (S := visited A p s) (by unfold visited; simp) (fun x hx => ?_) 60 _ (fun x hx => List.mem_range.mpr (visited_lt h.ok hp hs x hx)) (by rw [List.length_range]; have := h.four; omega)
  rcases List.mem_cons.mp hx with rfl | hx
  · exact ⟨_, List.mem_append_right _ (List.mem_singleton_self _), rfl, end_visited A x s⟩
  · obtain ⟨q, h1, h2, h3⟩ := in_visited k p s hs x hx
    exact ⟨q, List.mem_append_left _ h1, h2, h3⟩
theorem arr_back {A : List (Nat × Nat)} {P : Nat} (h : Arr A P) (h6 : A.length ≤ 6) {k p : Nat} (hp : p < P) {s : List Nat} (hs : s ∈ ch A k p) : Arr (A ++ [(endOf A p s, p)]) P := by
  refine ⟨by rw [List.length_append]; show _ + 1 ≤ 7; omega, h.one, h.four, fun q hq => ?_⟩
  rcases List.mem_append.mp hq with hq | hq
  · exact h.ok q hq
  · rw [List.mem_singleton] at hq
    subst hq
    exact ⟨visited_lt h.ok hp hs _ (end_visited A p s), hp⟩
/-! ### it is refused -/
theorem c14_eq : c14 = [Sm.try_ [Sm.ex (Ex.call 8 [] [Ex.loc 0, Ex.loc 1])] 1 2 ((XE.val { cps := { toList := [118, 97, 108, 117, 101] } }).eq (XE.loc 1)), Sm.ret (Ex.con (T.bl false))] := by kernel_rfl
theorem exs_try {P : Pg} {F : Orc} {L n0 n : Nat} {b r : List Sm} {c' i : Nat} {e : XE} {ρ : Rho} : exs P F L n0 (n + 1) (.try_ b c' i e :: r) ρ = (match exs P F L n0 n b ρ with
        | .exc c ts ρ => suiteX P c c' i ts e ρ
        | x => x : RS).nxt (exs P F L n0 n r) := by rw [← nxt_eq]; rfl
theorem okT_arr (n : Nat) (A : List (Nat × Nat)) : okT (n + 2) (.lst (A.map arT)) = true := by
  show (A.map arT).all (okT (n + 1)) = true
  rw [List.all_map, List.all_eq_true]
  intro q _
  show ([T.int q.1, T.int q.2] : List T).all (okT n) = true
  rw [List.all_cons, List.all_cons, okT_nat, okT_nat]
  rfl
mutual
theorem eqT_self : ∀ (n : Nat) (t : T), okT n t = true → eqT t t = true
  | _, .non, _ => rfl
  | _, .bl b, _ => by show (b == b) = true; simp
  | _, .int i, _ => by show (i == i) = true; simp
  | _, .str s, _ => by show (s == s) = true; simp
  | n + 1, .lst xs, h => eqTs_self n xs h
  | n + 1, .tup xs, h => eqTs_self n xs h
  | 0, .lst xs, h => by cases h
  | 0, .tup xs, h => by cases h
  | n, .ins _ _, h => by cases n <;> cases h
  | n, .scr _, h => by cases n <;> cases h
  | n, .dit _ _, h => by cases n <;> cases h
  | n, .dik _ _, h => by cases n <;> cases h
theorem eqTs_self : ∀ (n : Nat) (ts : List T), ts.all (okT n) = true → eqTs ts ts = true
  | _, [], _ => rfl
  | n, t :: ts, h => by
    rw [List.all_cons, Bool.and_eq_true] at h
    show (eqT t t && eqTs ts ts) = true
    rw [eqT_self n t h.1, eqTs_self n ts h.2]
    rfl
end
theorem eq_self {t : T} (h : okT 64 t = true) : cmpT .eq t t = some true := by
  show (if okT 64 t && okT 64 t then some (eqT t t) else none) = _
  rw [h, eqT_self 64 t h]; rfl
theorem ne_self {t : T} (h : okT 64 t = true) : cmpT .ne t t = some false := by
  show (if okT 64 t && okT 64 t then some (!eqT t t) else none) = _
  rw [h, eqT_self 64 t h]; rfl
theorem run14 (F : Orc) {P : Nat} {V : T} (hV : cmpT .eq V V = some true) (h8 : F 8 [.t (.int P), .t V] = .exc 1 [V]) : exs pg F 4000 60 60 c14 [.v (.int P), .v V, .u] = .rt (.t (.bl true)) [.v (.int P), .v V, .u] := by
  have e : exs pg F 4000 60 59 [Sm.ex (Ex.call 8 [] [Ex.loc 0, Ex.loc 1])] [.v (.int P), .v V, .u] = .exc 1 [V] [.v (.int P), .v V, .u] := by
    rw [exs_ex]
    simp only [PL.ev_con, PL.ev_loc, PL.ev_dk0, PL.ev_dk1, PL.ev_lst, PL.ev_tup, PL.ev_bin, PL.ev_neg, PL.ev_cmp, PL.ev_chn, PL.ev_and, PL.ev_or, PL.ev_tand, PL.ev_tor, PL.ev_not, PL.ev_ite, PL.ev_isn, PL.ev_isb, PL.ev_isi, PL.ev_call, PL.ev_call1, PL.ev_bi, PL.ev_app, PL.ev_ext, PL.ev_pop, PL.ev_popA, PL.ev_idx, PL.ev_ixof, PL.ev_slc, PL.ev_rev, PV.evO, PV.evOs, PV.evP, PV.evPs, PV.evF, PV.evB, PV.evS, PL.r_ok_bind, PL.r_bad_bind, PL.rs_of_ok, PL.exs_nil, PL.exs_ex, PL.exs_retl, PL.exs_ret, PL.exs_asg, PL.exs_unp, PL.exs_par, PL.exs_set, PL.exs_aug, PL.exs_ite, PL.nxt_nx, PL.nxt_rt, PL.nxt_bk, PL.nxt_ct, PV.res, PV.ress, PV.frz, PV.frzs, PV.slotT, PV.ofA, PV.ofB, PV.ofT, PV.ofA?, PV.store1, PV.callWith, PV.argsOf, PV.argOf, PV.mutsOf, PV.lentOf, PV.isOwn, PV.putBack, PV.appC, PV.extC, PV.popC, PV.popAC, PV.setIx, PV.truth, PV.storeAll, PL.big_le_0, PL.big_le_1, PL.big_le_2, PL.big_le_3, PL.big_le_4, PL.big_le_5, PL.big_le_6, PL.big_le_7, PL.big_le_8, PL.big_le_9, PL.big_le_10, PL.big_le_11, PL.big_le_12, PL.big_le_13, PV.unpT, PV.compTurn, PV.bindTo, PV.setAll, PV.wipeE, PV.backE, PV.forTurn, PV.tupT, PV.startE, PV.slotOf, PV.endC, PV.mutsAt, PV.runF, List.getElem?_cons_zero, List.getElem?_cons_succ, List.getElem?_nil, Option.bind_some, Option.bind_none, Option.map_some, Option.map_none, List.set_cons_zero, List.set_cons_succ, List.isEmpty_nil, List.isEmpty_cons, if_true, if_false, List.replicate_succ, List.replicate_zero, List.length_cons, List.length_nil, Bool.not_true, Bool.not_false, Bool.and_true, Bool.and_false, Bool.true_and, Bool.false_and, reduceCtorEq, ne_eq, not_false_eq_true, implies_true, Bool.true_or, Bool.false_or, Bool.or_true, Bool.or_false, Nat.reduceAdd, Nat.reduceLeDiff, Nat.reduceSub, h8, p8, List.contains_nil]
    rfl
  have z : suiteX pg 1 1 2 [V] ((XE.val { cps := { toList := [118, 97, 108, 117, 101] } }).eq (XE.loc 1)) [.v (.int P), .v V, .u] = .rt (.t (.bl true)) [.v (.int P), .v V, .u] := by
    show (match (match some V, some V with
      | some x, some y => (cmpT .eq x y).map T.bl
      | _, _ => none : Option T) with
      | some t => RS.rt (.t t) [.v (.int P), .v V, .u]
      | none => RS.bad) = _
    dsimp only
    rw [hV]
    rfl
  rw [c14_eq, exs_try, e]
  dsimp only
  rw [z]
  rfl
theorem f14 {n : Nat} (hn : 6 ≤ n) {A : List (Nat × Nat)} {P : Nat} (h : Arr A P) (hr : ringF A 60 (List.range P) = true) : Fo n 14 [.t (.int P), .t (.lst (A.map arT))] = .ok (.t (.bl true)) [] := by
  obtain ⟨d, rfl⟩ : ∃ d, n = d + 1 := ⟨n - 1, by omega⟩
  exact Fd_rt p14 rfl (run14 (Fo d) (eq_self (okT_arr 62 A)) (f8x (by omega) h hr)) rfl
end K85

set_option Elab.async false
set_option linter.all false
set_option maxRecDepth 1000000
set_option maxHeartbeats 8000000
/-! k85: what is shown -/
namespace K85
open PV PySem PL PyProof.Rows
theorem textFrom_le (B : Nat) : ∀ (ts : List Str) (k : Nat) (acc : Str), (∀ t ∈ ts, t.length ≤ B) → (textFrom k acc ts).length ≤ acc.length + ts.length * (B + 2)
  | [], k, acc, _ => by show acc.length ≤ _; simp
  | t :: r, k, acc, h => by
    have ih := textFrom_le B r (k + 1) (acc ++ (if k > 0 then ", " else "" : String) ++ t) (fun x hx => h x (List.mem_cons_of_mem _ hx))
    have e : (acc ++ (if k > 0 then ", " else "" : String) ++ t).length = acc.length + (if k > 0 then 2 else 0) + t.length := by
      rw [strLen_append, strLen_append]
      congr 2
      by_cases hk : k > 0
      · rw [if_pos hk, if_pos hk]; rfl
      · rw [if_neg hk, if_neg hk]; rfl
    have ht := h t List.mem_cons_self
    rw [e] at ih
    show (textFrom (k + 1) (acc ++ (if k > 0 then ", " else "" : String) ++ t) r).length ≤ _
    rw [List.length_cons, Nat.succ_mul]
    have hk2 : (if k > 0 then 2 else 0) ≤ 2 := by split <;> omega
    omega
theorem piled_le (B : Nat) : ∀ ts : List Str, (∀ t ∈ ts, t.length ≤ B) → piled ts ≤ ts.length * (B + 2)
  | [], _ => by simp [piled]
  | t :: r, h => by
    have ih := piled_le B r fun x hx => h x (List.mem_cons_of_mem _ hx)
    have ht := h t List.mem_cons_self
    have e : piled (t :: r) = t.length + 2 + piled r := by simp [piled]
    rw [e, List.length_cons, Nat.succ_mul]
    omega
theorem shownAll_len : ∀ xs : List PyData, (PyData.shownAll xs).length = xs.length
  | [] => rfl
  | x :: xs => congrArg Nat.succ (shownAll_len xs)
theorem shownAll_mem {xs : List PyData} {t : Str} (h : t ∈ PyData.shownAll xs) : ∃ x ∈ xs, t = x.shown := by
  induction xs with
  | nil => cases h
  | cons x xs ih =>
    rcases List.mem_cons.mp (show t ∈ x.shown :: PyData.shownAll xs from h) with e | h
    · exact ⟨x, List.mem_cons_self, e⟩
    · obtain ⟨y, h1, h2⟩ := ih h
      exact ⟨y, List.mem_cons_of_mem _ h1, h2⟩
theorem toDs_map : ∀ xs : List T, toDs xs = xs.map toD
  | [] => rfl
  | x :: xs => congrArg (toD x :: ·) (toDs_map xs)
theorem shown_lst {B N : Nat} {xs : List T} (h : ∀ x ∈ xs, (toD x).shown.length ≤ B) (hl : xs.length ≤ N) : (toD (.lst xs)).shown.length ≤ 3 + N * (B + 2) := by
  show (listText (PyData.shownAll (toDs xs))).length ≤ _
  have hs : ∀ t ∈ PyData.shownAll (toDs xs), t.length ≤ B := fun t ht => by
    obtain ⟨y, h1, h2⟩ := shownAll_mem ht
    rw [toDs_map] at h1
    obtain ⟨x, h3, h4⟩ := List.mem_map.mp h1
    rw [h2, ← h4]
    exact h x h3
  have z := textFrom_le B _ 0 "[" hs
  rw [shownAll_len, toDs_map, List.length_map] at z
  unfold listText
  rw [strLen_append]
  have l1 : (("]" : String) : Str).length = 1 := rfl
  have l2 : (("[" : String) : Str).length = 1 := rfl
  rw [l1]
  rw [l2] at z
  rw [toDs_map]
  have := Nat.mul_le_mul_right (B + 2) hl
  omega
theorem shown_tup {B N : Nat} {xs : List T} (h : ∀ x ∈ xs, (toD x).shown.length ≤ B) (hl : xs.length ≤ N) : (toD (.tup xs)).shown.length ≤ 3 + N * (B + 2) := by
  show (tupleText (PyData.shownAll (toDs xs))).length ≤ _
  have hs : ∀ t ∈ PyData.shownAll (toDs xs), t.length ≤ B := fun t ht => by
    obtain ⟨y, h1, h2⟩ := shownAll_mem ht
    rw [toDs_map] at h1
    obtain ⟨x, h3, h4⟩ := List.mem_map.mp h1
    rw [h2, ← h4]
    exact h x h3
  have z := piled_le B _ hs
  rw [shownAll_len, toDs_map, List.length_map] at z
  have hm := Nat.mul_le_mul_right (B + 2) hl
  unfold tupleText
  rw [strLen_append, strLen_append]
  have l2 : (("(" : String) : Str).length = 1 := rfl
  rw [l2]
  have l3 : ∀ b : Bool, ((if b = true then ",)" else ")" : String) : Str).length ≤ 2 := by intro b; cases b <;> decide
  have l3' := l3 ((PyData.shownAll (toDs xs)).length == 1)
  by_cases hn : PyData.shownAll (toDs xs) = []
  · rw [hn]
    have : (Str.join ", " ([] : List Str)).length = 0 := rfl
    rw [this]
    rw [hn] at l3'
    omega
  · have j := join_length_add _ hn
    rw [toDs_map] at j l3' ⊢
    omega
theorem int_small : ∀ i : Int, -1 ≤ i → i ≤ 9 → (PyData.int i).shown.length ≤ 10 ∧ (PyData.int i).showable = true := by
  intro i h1 h2
  have : i = -1 ∨ i = 0 ∨ i = 1 ∨ i = 2 ∨ i = 3 ∨ i = 4 ∨ i = 5 ∨ i = 6 ∨ i = 7 ∨ i = 8 ∨ i = 9 := by omega
  rcases this with rfl | rfl | rfl | rfl | rfl | rfl | rfl | rfl | rfl | rfl | rfl <;> decide +kernel
theorem showAll {xs : List T} (h : ∀ x ∈ xs, (toD x).showable = true) : PyData.showableAll (toDs xs) = true := by
  induction xs with
  | nil => rfl
  | cons x xs ih =>
    show ((toD x).showable && PyData.showableAll (toDs xs)) = true
    rw [h x List.mem_cons_self, ih fun y hy => h y (List.mem_cons_of_mem _ hy)]
    rfl
theorem strB_append (a b : Str) : strB (a ++ b) = (strB a && strB b) := by
  show (a.cps ++ b.cps).all _ = _
  rw [Array.all_append]
  rfl
theorem strB_from : ∀ (ts : List Str) (k : Nat) (acc : Str), strB acc = true → (∀ t ∈ ts, strB t = true) → strB (textFrom k acc ts) = true
  | [], _, _, h, _ => h
  | t :: r, k, acc, h, ht => by
    refine strB_from r (k + 1) _ ?_ fun x hx => ht x (List.mem_cons_of_mem _ hx)
    rw [strB_append, strB_append, h, ht t List.mem_cons_self]
    by_cases hk : k > 0
    · rw [if_pos hk]; decide +kernel
    · rw [if_neg hk]; decide +kernel
theorem strB_join : ∀ ts : List Str, (∀ t ∈ ts, strB t = true) → strB (Str.join ", " ts) = true
  | [], _ => by decide +kernel
  | [x], h => h x List.mem_cons_self
  | x :: y :: r, h => by
    show strB (x ++ ", " ++ Str.join ", " (y :: r)) = true
    rw [strB_append, strB_append, h x List.mem_cons_self, strB_join (y :: r) fun t ht => h t (List.mem_cons_of_mem _ ht)]
    decide +kernel
theorem strB_all {xs : List T} (h : ∀ x ∈ xs, strB (toD x).shown = true) : ∀ t ∈ PyData.shownAll (toDs xs), strB t = true := fun t ht => by
  obtain ⟨y, h1, h2⟩ := shownAll_mem ht
  rw [toDs_map] at h1
  obtain ⟨x, h3, h4⟩ := List.mem_map.mp h1
  rw [h2, ← h4]
  exact h x h3
theorem strB_lst {xs : List T} (h : ∀ x ∈ xs, strB (toD x).shown = true) : strB (toD (.lst xs)).shown = true := by
  show strB (textFrom 0 "[" (PyData.shownAll (toDs xs)) ++ "]") = true
  rw [strB_append, strB_from _ 0 _ (by decide +kernel) (strB_all h)]
  decide +kernel
theorem strB_tup {xs : List T} (h : ∀ x ∈ xs, strB (toD x).shown = true) : strB (toD (.tup xs)).shown = true := by
  show strB (("(" : Str) ++ Str.join ", " (PyData.shownAll (toDs xs)) ++ (if (PyData.shownAll (toDs xs)).length == 1 then ",)" else ")" : String)) = true
  rw [strB_append, strB_append, strB_join _ (strB_all h)]
  cases (PyData.shownAll (toDs xs)).length == 1 <;> decide +kernel
theorem ne_str {s : Str} (h : strB s = true) : cmpT .ne (.str s) (.str s) = some false := by
  show (if okT 64 (.str s) && okT 64 (.str s) then some (!(s == s)) else none) = _
  rw [show okT 64 (.str s) = true from h]
  simp

theorem nat_small (i : Nat) (h : i < 10) : (PyData.int i).shown.length ≤ 10 ∧ (PyData.int i).showable = true := int_small i (by omega) (by omega)
theorem nat_b (i : Nat) (h : i < 10) : strB (PyData.int i).shown = true := by
  have : i = 0 ∨ i = 1 ∨ i = 2 ∨ i = 3 ∨ i = 4 ∨ i = 5 ∨ i = 6 ∨ i = 7 ∨ i = 8 ∨ i = 9 := by omega
  rcases this with rfl | rfl | rfl | rfl | rfl | rfl | rfl | rfl | rfl | rfl <;> decide +kernel
/-- a tree that can be shown: within B signs -/
structure Sho (n B : Nat) (t : T) : Prop where
  ok : okT n t = true
  len : (toD t).shown.length ≤ B
  sh : (toD t).showable = true
  b : strB (toD t).shown = true
theorem sho_nat (n : Nat) {i : Nat} (h : i < 10) : Sho n 10 (.int i) := ⟨okT_nat n i, (nat_small i h).1, (nat_small i h).2, nat_b i h⟩
theorem sho_tup {n B N : Nat} {xs : List T} (h : ∀ x ∈ xs, Sho n B x) (hl : xs.length ≤ N) : Sho (n + 1) (3 + N * (B + 2)) (.tup xs) := ⟨List.all_eq_true.mpr fun x hx => (h x hx).ok, shown_tup (fun x hx => (h x hx).len) hl, showAll fun x hx => (h x hx).sh, strB_tup fun x hx => (h x hx).b⟩
theorem sho_lst {n B N : Nat} {xs : List T} (h : ∀ x ∈ xs, Sho n B x) (hl : xs.length ≤ N) : Sho (n + 1) (3 + N * (B + 2)) (.lst xs) := ⟨List.all_eq_true.mpr fun x hx => (h x hx).ok, shown_lst (fun x hx => (h x hx).len) hl, showAll fun x hx => (h x hx).sh, strB_lst fun x hx => (h x hx).b⟩
theorem Sho.repr {B : Nat} {t : T} (h : Sho 63 B t) (hB : B ≤ big) : biT .repr [t] = some (.t (.str (toD t).shown)) := by
  show (reprT t).map (fun s => PV.A.t (.str s)) = _
  unfold reprT
  rw [h.ok, h.sh, decide_eq_true (Nat.le_trans h.len hB)]
  rfl
theorem sho_st (n : Nat) {s : List Nat} (h : ∀ i ∈ s, i < 10) (hl : s.length ≤ 4) : Sho (n + 1) 51 (stT s) := by
  refine sho_tup (N := 4) (B := 10) (fun x hx => ?_) (by unfold ins; rw [List.length_map, List.length_map]; exact hl)
  obtain ⟨i, hi, rfl⟩ := List.mem_map.mp hx
  obtain ⟨j, hj, rfl⟩ := List.mem_map.mp hi
  exact sho_nat n (h j hj)
theorem Sho.mono {n B C : Nat} {t : T} (h : Sho n B t) (hb : B ≤ C) : Sho n C t := ⟨h.ok, Nat.le_trans h.len hb, h.sh, h.b⟩
theorem sho_pa (n : Nat) {q : Nat × List Nat} (hp : q.1 < 10) (h : ∀ i ∈ q.2, i < 10) (hl : q.2.length ≤ 4) : Sho (n + 2) 109 (paT q) := by
  refine sho_tup (N := 2) (B := 51) (fun x hx => ?_) (Nat.le_refl _)
  rcases List.mem_cons.mp hx with rfl | hx
  · exact (sho_nat (n + 1) hp).mono (by decide)
  · rw [List.mem_singleton] at hx
    subst hx
    exact sho_st n h hl
theorem sho_ar (n : Nat) {q : Nat × Nat} (h : q.1 < 10 ∧ q.2 < 10) : Sho (n + 1) 27 (arT q) := by
  refine sho_tup (N := 2) (B := 10) (fun x hx => ?_) (Nat.le_refl _)
  rcases List.mem_cons.mp hx with rfl | hx
  · exact sho_nat n h.1
  · rw [List.mem_singleton] at hx
    subst hx
    exact sho_nat n h.2
section
variable {A : List (Nat × Nat)} {P : Nat} {r : Nat → Nat}
theorem some_len (hA : A.length ≤ 7) (hP : P ≤ 4) : (some_ A P P).length ≤ 1600 := by
  unfold some_
  have h := flat_len (B := Bd P) (f := fun p => (fr A P p).map fun s => (p, s)) (l := List.range P) fun p _ => by rw [List.length_map]; exact fr_len hA P p
  rw [List.length_range] at h
  have h2 := bd_le hP
  have h3 : P * Bd P ≤ 4 * 400 := Nat.mul_le_mul hP h2
  omega
theorem Web.few' (h : Web A P r) : (told A P P).length ≤ 1600 := by
  rw [← (some_perm A P P).length_eq]
  exact some_len h.few h.four
theorem told_mem {q : Nat × List Nat} {n : Nat} (h : q ∈ told A P n) : q.1 < P ∧ q.2.length < n ∧ ∃ k, q.2 ∈ ch A k q.1 := by
  obtain ⟨k, hk, hq⟩ := List.mem_flatMap.mp h
  have := lv_len hq
  exact ⟨this.2, by rw [this.1]; exact List.mem_range.mp hk, k, lv_mem hq⟩
theorem Web.sho_told (h : Web A P r) : Sho 63 177603 (.lst ((told A P P).map paT)) := by
  refine sho_lst (N := 1600) (B := 109) (n := 62) (fun x hx => ?_) (by rw [List.length_map]; exact h.few')
  obtain ⟨q, hq, rfl⟩ := List.mem_map.mp hx
  obtain ⟨h1, h2, k, h3⟩ := told_mem hq
  have h4 := h.four
  have h7 := h.few
  exact sho_pa 60 (by omega) (fun i hi => by have := ch_valid k _ _ h3 i hi; omega) (by omega)
theorem Web.sho_arr (h : Web A P r) : Sho 63 293 (.lst (A.map arT)) := by
  refine (sho_lst (N := 10) (B := 27) (n := 62) (fun x hx => ?_) (by rw [List.length_map]; have := h.few; omega))
  obtain ⟨q, hq, rfl⟩ := List.mem_map.mp hx
  have h4 := h.four
  have := h.ok q hq
  exact sho_ar 61 ⟨by omega, by omega⟩
end
theorem okT_told (l : List (Nat × List Nat)) : okT 64 (.lst (l.map paT)) = true := by
  show (l.map paT).all (okT 63) = true
  rw [List.all_map, List.all_eq_true]
  exact fun q _ => okT_pa 61 q
/-! ### the single arrows, in their sequence -/
def triT (A : List (Nat × Nat)) (i : Nat) : T := .tup [.int (A.getD i (0, 0)).1, .int i, arT (A.getD i (0, 0))]
def byFirst (A : List (Nat × Nat)) (P : Nat) : List Nat := (List.range P).flatMap fun p => nexts A p
theorem nexts_fst {A : List (Nat × Nat)} {p i : Nat} (h : i ∈ nexts A p) : (A.getD i (0, 0)).1 = p ∧ i < A.length := by
  obtain ⟨b, hb⟩ := mem_nexts.mp h
  rw [List.getD_eq_getElem?_getD, hb]
  exact ⟨rfl, (List.getElem?_eq_some_iff.mp hb).1⟩
theorem flatMap_filter_perm {α : Type} (f : α → Nat) : ∀ (P : Nat) (l : List α), (∀ a ∈ l, f a < P) → ((List.range P).flatMap fun p => l.filter fun a => f a == p).Perm l
  | P, [], _ => by
    have : ((List.range P).flatMap fun p => ([] : List α).filter fun a => f a == p) = [] := List.flatMap_eq_nil_iff.mpr fun _ _ => rfl
    rw [this]
  | P, a :: l, h => by
    have ih := flatMap_filter_perm f P l fun b hb => h b (List.mem_cons_of_mem _ hb)
    have e : ((List.range P).flatMap fun p => (a :: l).filter fun a => f a == p).Perm (((List.range P).flatMap fun p => (if f a == p then [a] else [])) ++ (List.range P).flatMap fun p => l.filter fun a => f a == p) := by
      refine List.Perm.trans ?_ (flatMap_app_perm _ _ _)
      refine flatMap_perm_f _ fun p _ => ?_
      rw [List.filter_cons]
      cases f a == p with
      | true => exact .refl _
      | false => exact .refl _
    refine e.trans ?_
    have z : ((List.range P).flatMap fun p => (if f a == p then [a] else [])) = [a] := by
      have hP := h a List.mem_cons_self
      clear ih e h
      induction P with
      | zero => omega
      | succ P ih =>
        rw [List.range_succ, List.flatMap_append, List.flatMap_cons, List.flatMap_nil, List.append_nil]
        by_cases q : f a < P
        · rw [ih q]
          have : (f a == P) = false := beq_eq_false_iff_ne.mpr (by omega)
          rw [this]; rfl
        · have e1 : f a = P := by omega
          have : ((List.range P).flatMap fun p => (if f a == p then [a] else [])) = [] := List.flatMap_eq_nil_iff.mpr fun p hp => by
            have : (f a == p) = false := beq_eq_false_iff_ne.mpr (by have := List.mem_range.mp hp; omega)
            rw [this]; rfl
          rw [this, e1, beq_self_eq_true]; rfl
    rw [z]
    exact .cons _ ih
theorem byFirst_perm {A : List (Nat × Nat)} {P : Nat} (h : ∀ q ∈ A, q.1 < P) : (byFirst A P).Perm (List.range A.length) := by
  have z := flatMap_filter_perm (fun i => (A.getD i (0, 0)).1) P (List.range A.length) fun i hi => by
    have hi := List.mem_range.mp hi
    rw [List.getD_eq_getElem?_getD, List.getElem?_eq_getElem hi]
    exact h _ (List.getElem_mem hi)
  refine List.Perm.trans ?_ z
  unfold byFirst nexts
  refine flatMap_perm_f _ fun p _ => ?_
  refine List.Perm.of_eq (List.filter_congr fun i hi => ?_)
  have hi := List.mem_range.mp hi
  rw [List.getD_eq_getElem?_getD, List.getElem?_eq_getElem hi]
  rfl
theorem toD_tri (A : List (Nat × Nat)) (i : Nat) : toD (triT A i) = .tuple [.int (A.getD i (0, 0)).1, .int i, toD (arT (A.getD i (0, 0)))] := rfl
theorem alike_ar (q q' : Nat × Nat) : PySem.W.alike (toD (arT q)) (toD (arT q')) = true := by
  show PySem.W.alike (.tuple [.int q.1, .int q.2]) (.tuple [.int q'.1, .int q'.2]) = true
  simp [PySem.W.alike, PySem.W.alikeAll]
theorem alike_tri (A : List (Nat × Nat)) (i j : Nat) : PySem.W.alike (toD (triT A i)) (toD (triT A j)) = true := by
  rw [toD_tri, toD_tri]
  unfold PySem.W.alike
  simp [PySem.W.alikeAll, PySem.W.alike, alike_ar]
theorem le_tri {A : List (Nat × Nat)} {i j : Nat} (h : (A.getD i (0, 0)).1 < (A.getD j (0, 0)).1 ∨ ((A.getD i (0, 0)).1 = (A.getD j (0, 0)).1 ∧ i < j)) : leT (triT A i) (triT A j) = true := by
  unfold leT
  rw [toD_tri, toD_tri, PySem.W.dataLt_tuple]
  rw [PySem.W.dataLt_cons (by simp [PySem.W.alike])]
  simp only [PyData.eqv, beq_iff_eq]
  rcases h with h | ⟨h1, h2⟩
  · rw [if_neg (by omega), PySem.W.dataLt_int, decide_eq_false (by omega)]; rfl
  · rw [if_pos (by omega), PySem.W.dataLt_cons (by simp [PySem.W.alike])]
    simp only [PyData.eqv, beq_iff_eq]
    rw [if_neg (by omega), PySem.W.dataLt_int, decide_eq_false (by omega)]; rfl
theorem sort_tri {A : List (Nat × Nat)} {P : Nat} (hA : A.length ≤ 7) (h : ∀ q ∈ A, q.1 < P) : srtOk ((List.range A.length).map (triT A)) = true ∧ sortT ((List.range A.length).map (triT A)) = (byFirst A P).map (triT A) := by
  have hs : srtOk ((List.range A.length).map (triT A)) = true := by
    unfold srtOk
    rw [Bool.and_eq_true, Bool.and_eq_true, Bool.and_eq_true]
    refine ⟨decide_eq_true (by rw [List.length_map, List.length_range]; unfold big; omega), List.all_eq_true.mpr fun x hx => ?_, List.all_eq_true.mpr fun x hx => ?_, List.all_eq_true.mpr fun x hx => List.all_eq_true.mpr fun y hy => ?_⟩
    · obtain ⟨i, _, rfl⟩ := List.mem_map.mp hx
      show ([T.int (A.getD i (0, 0)).1, .int i, arT (A.getD i (0, 0))] : List T).all (okT 62) = true
      rw [List.all_cons, List.all_cons, List.all_cons, okT_nat, okT_nat]
      show (([T.int (A.getD i (0, 0)).1, T.int (A.getD i (0, 0)).2] : List T).all (okT 61) && _) = true
      rw [List.all_cons, List.all_cons, okT_nat, okT_nat]
      rfl
    · obtain ⟨i, _, rfl⟩ := List.mem_map.mp hx; rfl
    · obtain ⟨i, _, rfl⟩ := List.mem_map.mp hx
      obtain ⟨j, _, rfl⟩ := List.mem_map.mp hy
      exact alike_tri A i j
  refine ⟨hs, sortT_eq hs ((byFirst_perm h).symm.map _) ?_⟩
  rw [List.pairwise_map]
  unfold byFirst
  rw [List.pairwise_flatMap]
  refine ⟨fun p _ => List.Pairwise.imp_of_mem (fun {i j} hi hj hij => le_tri (.inr ⟨by rw [(nexts_fst hi).1, (nexts_fst hj).1], hij⟩)) (nexts_sorted A p), List.pairwise_lt_range.imp fun {p q} hpq i hi j hj => le_tri (.inl ?_)⟩
  rw [(nexts_fst hi).1, (nexts_fst hj).1]
  exact hpq
theorem fmap_congr {α β : Type} {f g : α → List β} : ∀ {l : List α}, (∀ a ∈ l, f a = g a) → l.flatMap f = l.flatMap g
  | [], _ => rfl
  | a :: l, h => by
    rw [List.flatMap_cons, List.flatMap_cons, h a List.mem_cons_self, fmap_congr fun b hb => h b (List.mem_cons_of_mem _ hb)]
theorem lv_one (A : List (Nat × Nat)) (P : Nat) : lv A P 1 = (byFirst A P).map fun i => ((A.getD i (0, 0)).1, [i]) := by
  unfold lv byFirst
  rw [List.map_flatMap]
  refine fmap_congr fun p _ => ?_
  show ((nexts A p).flatMap fun i => ([[]] : List (List Nat)).map (i :: ·)).map (fun s => (p, s)) = _
  rw [List.map_flatMap, List.map_eq_flatMap]
  refine fmap_congr fun i hi => ?_
  rw [(nexts_fst hi).1]
  rfl
theorem told_one {A : List (Nat × Nat)} {P : Nat} {r : Nat → Nat} (h : Web A P r) : (told A P P).filter (fun q => q.2.length == 1) = lv A P 1 := by
  have key : ∀ n, 2 ≤ n → (told A P n).filter (fun q => q.2.length == 1) = lv A P 1 := by
    intro n hn
    induction n with
    | zero => omega
    | succ n ih =>
      rw [told_succ, List.filter_append]
      by_cases h1 : n = 1
      · subst h1
        have e0 : (told A P 1).filter (fun q => q.2.length == 1) = [] := by
          rw [List.filter_eq_nil_iff]
          intro q hq
          have := (told_mem hq).2.1
          rw [beq_iff_eq]; omega
        have e1 : (lv A P 1).filter (fun q => q.2.length == 1) = lv A P 1 := List.filter_eq_self.mpr fun q hq => by rw [(lv_len hq).1]; rfl
        rw [e0, e1, List.nil_append]
      · have e1 : (lv A P n).filter (fun q => q.2.length == 1) = [] := by
          rw [List.filter_eq_nil_iff]
          intro q hq
          rw [(lv_len hq).1, beq_iff_eq]; exact h1
        rw [ih (by omega), e1, List.append_nil]
  by_cases h2 : 2 ≤ P
  · exact key P h2
  · have h1 := h.one
    have e : P = 1 := by omega
    have hl := h.lvP
    rw [e] at hl
    rw [e, hl]
    rw [List.filter_eq_nil_iff]
    intro q hq
    have := (told_mem hq).2.1
    rw [beq_iff_eq]; omega
end K85

set_option Elab.async false
set_option linter.all false
set_option maxRecDepth 1000000
set_option maxHeartbeats 8000000
/-! k85: the law for one pot, first half -/
namespace K85
open PV PySem PL
abbrev e15a : Ex := Ex.comp [12, 6] [6] false 0 [Ex.call 12 [] [Ex.loc 2, Ex.loc 5]] none (Ex.tup [Ex.loc 5, Ex.loc 6])
abbrev b15 : List Sm := [Sm.ex (Ex.ext 4 e15a)]
abbrev e15b : Ex := Ex.comp [12, 14] [14] false 0 [Ex.loc 4] none (Ex.tup [Ex.bi Bi.len [(Ex.loc 14).idx (Ex.con (T.int 1))], Ex.loc 14])
abbrev e15c : Ex := Ex.comp [12, 13, 14] [13, 14] true 0 [Ex.bi Bi.sorted [e15b]] none (Ex.loc 14)
abbrev t15a : Ex := (Ex.cmp Cmp.ne (Ex.loc 8) (Ex.loc 7)).tor ((Ex.cmp Cmp.ne (Ex.bi Bi.repr [Ex.loc 8]) (Ex.bi Bi.repr [Ex.loc 7])).tor (Ex.cmp Cmp.ne (Ex.call 8 [Sum.inl 1, Sum.inl 0] [Ex.bi Bi.tuple [Ex.loc 2], Ex.loc 1]) (Ex.loc 7)))
abbrev e15d : Ex := Ex.comp [12, 14] [14] false 0 [Ex.loc 8] (some (Ex.cmp Cmp.eq (Ex.bi Bi.len [(Ex.loc 14).idx (Ex.con (T.int 1))]) (Ex.con (T.int 1)))) (Ex.loc 14)
abbrev e15e : Ex := Ex.comp [12, 15, 16] [15, 16] true 3 [Ex.loc 2] none (Ex.tup [(Ex.loc 16).idx (Ex.con (T.int 0)), Ex.loc 15, Ex.loc 16])
abbrev e15f : Ex := Ex.comp [12, 13, 15, 16] [13, 15, 16] true 0 [Ex.bi Bi.sorted [e15e]] none (Ex.tup [(Ex.loc 16).idx (Ex.con (T.int 0)), Ex.tup [Ex.loc 15]])
abbrev t15c : Ex := (Ex.cmp Cmp.ne (Ex.call 8 [] [Ex.loc 1, Ex.loc 2]) (Ex.loc 7)).tor (Ex.cmp Cmp.ne (Ex.bi Bi.repr [Ex.loc 2]) (Ex.loc 9))
abbrev e15g : Ex := Ex.comp [12, 14] [14] false 0 [Ex.loc 7] (some (Ex.cmp Cmp.gt (Ex.bi Bi.len [(Ex.loc 14).idx (Ex.con (T.int 1))]) (Ex.con (T.int 0)))) (Ex.loc 14)
abbrev t15d : Ex := (Ex.cmp Cmp.eq (Ex.loc 10) (Ex.lst [])).tor (Ex.cmp Cmp.gt (Ex.bi Bi.len [Ex.loc 2]) (Ex.con (T.int 6)))
abbrev e15h : Ex := Ex.call 14 [] [Ex.loc 1, Ex.bin Bin.add (Ex.loc 2) (Ex.lst [Ex.tup [((Ex.loc 2).idx ((Ex.loc 6).idx (Ex.con (T.int 1)).neg)).idx (Ex.con (T.int 1)), Ex.loc 11]])]
theorem c15_eq : c15 = [Sm.unp [Tg.nm 1, Tg.nm 2, Tg.nm 3] (Ex.call 13 [] [Ex.loc 0]), Sm.asg 4 (Ex.lst []), Sm.for_ [5] false 1 [Ex.loc 1] b15, Sm.asg 7 e15c, Sm.par 8 9 (Ex.call 8 [] [Ex.loc 1, Ex.loc 2]) (Ex.bi Bi.repr [Ex.loc 2]),
    Sm.ite t15a [Sm.ret (Ex.con (T.bl false))] [], Sm.ite (Ex.cmp Cmp.ne e15d e15f) [Sm.ret (Ex.con (T.bl false))] [], Sm.ex (Ex.app 8 (Ex.con T.non)), Sm.ite t15c [Sm.ret (Ex.con (T.bl false))] [], Sm.asg 10 e15g,
    Sm.ite t15d [Sm.ret (Ex.con (T.bl true))] [], Sm.unp [Tg.nm 11, Tg.nm 6] (Ex.call 11 [] [Ex.loc 0, Ex.loc 10]), Sm.ret e15h] := by kernel_rfl
section
variable (F : Orc)
theorem q1 {p p' : List T} {a b c : T} {ss : List Sm} (h : F 13 [.f p] = .ok (.t (.tup [a, b, c])) [p']) : exs pg F 4000 60 60 (Sm.unp [Tg.nm 1, Tg.nm 2, Tg.nm 3] (Ex.call 13 [] [Ex.loc 0]) :: ss) [.o false p, .u, .u, .u, .u, .u, .u, .u, .u, .u, .u, .u, .u, .u, .u, .u, .u] = exs pg F 4000 60 59 ss [.o false p', .v a, .v b, .v c, .u, .u, .u, .u, .u, .u, .u, .u, .u, .u, .u, .u, .u] := by
  rw [exs_unp]
  simp only [PL.ev_con, PL.ev_loc, PL.ev_dk0, PL.ev_dk1, PL.ev_lst, PL.ev_tup, PL.ev_bin, PL.ev_neg, PL.ev_cmp, PL.ev_chn, PL.ev_and, PL.ev_or, PL.ev_tand, PL.ev_tor, PL.ev_not, PL.ev_ite, PL.ev_isn, PL.ev_isb, PL.ev_isi, PL.ev_call, PL.ev_call1, PL.ev_bi, PL.ev_app, PL.ev_ext, PL.ev_pop, PL.ev_popA, PL.ev_idx, PL.ev_ixof, PL.ev_slc, PL.ev_rev, PV.evO, PV.evOs, PV.evP, PV.evPs, PV.evF, PV.evB, PV.evS, PL.r_ok_bind, PL.r_bad_bind, PL.rs_of_ok, PL.exs_nil, PL.exs_ex, PL.exs_retl, PL.exs_ret, PL.exs_asg, PL.exs_unp, PL.exs_par, PL.exs_set, PL.exs_aug, PL.exs_ite, PL.nxt_nx, PL.nxt_rt, PL.nxt_bk, PL.nxt_ct, PV.res, PV.ress, PV.frz, PV.frzs, PV.slotT, PV.ofA, PV.ofB, PV.ofT, PV.ofA?, PV.store1, PV.callWith, PV.argsOf, PV.argOf, PV.mutsOf, PV.lentOf, PV.isOwn, PV.putBack, PV.appC, PV.extC, PV.popC, PV.popAC, PV.setIx, PV.truth, PV.storeAll, PL.big_le_0, PL.big_le_1, PL.big_le_2, PL.big_le_3, PL.big_le_4, PL.big_le_5, PL.big_le_6, PL.big_le_7, PL.big_le_8, PL.big_le_9, PL.big_le_10, PL.big_le_11, PL.big_le_12, PL.big_le_13, PV.unpT, PV.compTurn, PV.bindTo, PV.setAll, PV.wipeE, PV.backE, PV.forTurn, PV.tupT, PV.startE, PV.slotOf, PV.endC, PV.mutsAt, PV.runF, List.getElem?_cons_zero, List.getElem?_cons_succ, List.getElem?_nil, Option.bind_some, Option.bind_none, Option.map_some, Option.map_none, List.set_cons_zero, List.set_cons_succ, List.isEmpty_nil, List.isEmpty_cons, if_true, if_false, List.replicate_succ, List.replicate_zero, List.length_cons, List.length_nil, Bool.not_true, Bool.not_false, Bool.and_true, Bool.and_false, Bool.true_and, Bool.false_and, reduceCtorEq, ne_eq, not_false_eq_true, implies_true, Bool.true_or, Bool.false_or, Bool.or_true, Bool.or_false, Nat.reduceAdd, Nat.reduceLeDiff, Nat.reduceSub, h, p13, List.contains_nil]
theorem q2 {x0 x1 x2 x3 x4 : Sl} {r : List Sl} {ss : List Sm} : exs pg F 4000 60 59 (Sm.asg 4 (Ex.lst []) :: ss) (x0 :: x1 :: x2 :: x3 :: x4 :: r) = exs pg F 4000 60 58 ss (x0 :: x1 :: x2 :: x3 :: .o true [] :: r) := by
  rw [exs_asg]
  simp only [PL.ev_con, PL.ev_loc, PL.ev_dk0, PL.ev_dk1, PL.ev_lst, PL.ev_tup, PL.ev_bin, PL.ev_neg, PL.ev_cmp, PL.ev_chn, PL.ev_and, PL.ev_or, PL.ev_tand, PL.ev_tor, PL.ev_not, PL.ev_ite, PL.ev_isn, PL.ev_isb, PL.ev_isi, PL.ev_call, PL.ev_call1, PL.ev_bi, PL.ev_app, PL.ev_ext, PL.ev_pop, PL.ev_popA, PL.ev_idx, PL.ev_ixof, PL.ev_slc, PL.ev_rev, PV.evO, PV.evOs, PV.evP, PV.evPs, PV.evF, PV.evB, PV.evS, PL.r_ok_bind, PL.r_bad_bind, PL.rs_of_ok, PL.exs_nil, PL.exs_ex, PL.exs_retl, PL.exs_ret, PL.exs_asg, PL.exs_unp, PL.exs_par, PL.exs_set, PL.exs_aug, PL.exs_ite, PL.nxt_nx, PL.nxt_rt, PL.nxt_bk, PL.nxt_ct, PV.res, PV.ress, PV.frz, PV.frzs, PV.slotT, PV.ofA, PV.ofB, PV.ofT, PV.ofA?, PV.store1, PV.callWith, PV.argsOf, PV.argOf, PV.mutsOf, PV.lentOf, PV.isOwn, PV.putBack, PV.appC, PV.extC, PV.popC, PV.popAC, PV.setIx, PV.truth, PV.storeAll, PL.big_le_0, PL.big_le_1, PL.big_le_2, PL.big_le_3, PL.big_le_4, PL.big_le_5, PL.big_le_6, PL.big_le_7, PL.big_le_8, PL.big_le_9, PL.big_le_10, PL.big_le_11, PL.big_le_12, PL.big_le_13, PV.unpT, PV.compTurn, PV.bindTo, PV.setAll, PV.wipeE, PV.backE, PV.forTurn, PV.tupT, PV.startE, PV.slotOf, PV.endC, PV.mutsAt, PV.runF, List.getElem?_cons_zero, List.getElem?_cons_succ, List.getElem?_nil, Option.bind_some, Option.bind_none, Option.map_some, Option.map_none, List.set_cons_zero, List.set_cons_succ, List.isEmpty_nil, List.isEmpty_cons, if_true, if_false, List.replicate_succ, List.replicate_zero, List.length_cons, List.length_nil, Bool.not_true, Bool.not_false, Bool.and_true, Bool.and_false, Bool.true_and, Bool.false_and, reduceCtorEq, ne_eq, not_false_eq_true, implies_true, Bool.true_or, Bool.false_or, Bool.or_true, Bool.or_false, Nat.reduceAdd, Nat.reduceLeDiff, Nat.reduceSub]
def pick (P : Nat) (g : Nat → List (List Nat)) : List (Nat × List Nat) := (List.range P).flatMap fun p => (g p).map fun s => (p, s)
theorem turn15a {m : Nat} {x0 x1 x2 x3 x4 x7 x8 x9 x10 x11 : Sl} {p : Nat} {y : T} : compTurn (ev pg F 4000 (m + 5)) [12, 6] [6] false none (Ex.tup [Ex.loc 5, Ex.loc 6]) y [x0, x1, x2, x3, x4, .v (.int p), .u, x7, x8, x9, x10, x11, .u, .u, .u, .u, .u] = .ok (some (.tup [.int p, y])) [x0, x1, x2, x3, x4, .v (.int p), .u, x7, x8, x9, x10, x11, .u, .u, .u, .u, .u] := by
  simp only [PL.ev_con, PL.ev_loc, PL.ev_dk0, PL.ev_dk1, PL.ev_lst, PL.ev_tup, PL.ev_bin, PL.ev_neg, PL.ev_cmp, PL.ev_chn, PL.ev_and, PL.ev_or, PL.ev_tand, PL.ev_tor, PL.ev_not, PL.ev_ite, PL.ev_isn, PL.ev_isb, PL.ev_isi, PL.ev_call, PL.ev_call1, PL.ev_bi, PL.ev_app, PL.ev_ext, PL.ev_pop, PL.ev_popA, PL.ev_idx, PL.ev_ixof, PL.ev_slc, PL.ev_rev, PV.evO, PV.evOs, PV.evP, PV.evPs, PV.evF, PV.evB, PV.evS, PL.r_ok_bind, PL.r_bad_bind, PL.rs_of_ok, PL.exs_nil, PL.exs_ex, PL.exs_retl, PL.exs_ret, PL.exs_asg, PL.exs_unp, PL.exs_par, PL.exs_set, PL.exs_aug, PL.exs_ite, PL.nxt_nx, PL.nxt_rt, PL.nxt_bk, PL.nxt_ct, PV.res, PV.ress, PV.frz, PV.frzs, PV.slotT, PV.ofA, PV.ofB, PV.ofT, PV.ofA?, PV.store1, PV.callWith, PV.argsOf, PV.argOf, PV.mutsOf, PV.lentOf, PV.isOwn, PV.putBack, PV.appC, PV.extC, PV.popC, PV.popAC, PV.setIx, PV.truth, PV.storeAll, PL.big_le_0, PL.big_le_1, PL.big_le_2, PL.big_le_3, PL.big_le_4, PL.big_le_5, PL.big_le_6, PL.big_le_7, PL.big_le_8, PL.big_le_9, PL.big_le_10, PL.big_le_11, PL.big_le_12, PL.big_le_13, PV.unpT, PV.compTurn, PV.bindTo, PV.setAll, PV.wipeE, PV.backE, PV.forTurn, PV.tupT, PV.startE, PV.slotOf, PV.endC, PV.mutsAt, PV.runF, List.getElem?_cons_zero, List.getElem?_cons_succ, List.getElem?_nil, Option.bind_some, Option.bind_none, Option.map_some, Option.map_none, List.set_cons_zero, List.set_cons_succ, List.isEmpty_nil, List.isEmpty_cons, if_true, if_false, List.replicate_succ, List.replicate_zero, List.length_cons, List.length_nil, Bool.not_true, Bool.not_false, Bool.and_true, Bool.and_false, Bool.true_and, Bool.false_and, reduceCtorEq, ne_eq, not_false_eq_true, implies_true, Bool.true_or, Bool.false_or, Bool.or_true, Bool.or_false, Nat.reduceAdd, Nat.reduceLeDiff, Nat.reduceSub]
theorem e15a_ok {m : Nat} {V : T} {x0 x1 x3 x4 x7 x8 x9 x10 x11 : Sl} {p : Nat} {L : List (List Nat)} (hl : L.length < 1000) (h : F 12 [.t V, .t (.int p)] = .ok (.f (L.map stT)) []) : ev pg F 4000 (m + 6) e15a [x0, x1, .v V, x3, x4, .v (.int p), .u, x7, x8, x9, x10, x11, .u, .u, .u, .u, .u] = .ok (.f (L.map fun s => paT (p, s))) [x0, x1, .v V, x3, x4, .v (.int p), .u, x7, x8, x9, x10, x11, .u, .u, .u, .u, .u] := by
  have hiv : evIv (ev pg F 4000 (m + 5)) 0 [Ex.call 12 [] [Ex.loc 2, Ex.loc 5]] [x0, x1, .v V, x3, x4, .v (.int p), .u, x7, x8, x9, x10, x11, .u, .u, .u, .u, .u] = .ok (.sq true (.f (L.map stT))) [x0, x1, .v V, x3, x4, .v (.int p), .u, x7, x8, x9, x10, x11, .u, .u, .u, .u, .u] := by
    refine evIv_os (os := [.f (L.map stT)]) ?_ rfl
    simp only [PL.ev_con, PL.ev_loc, PL.ev_dk0, PL.ev_dk1, PL.ev_lst, PL.ev_tup, PL.ev_bin, PL.ev_neg, PL.ev_cmp, PL.ev_chn, PL.ev_and, PL.ev_or, PL.ev_tand, PL.ev_tor, PL.ev_not, PL.ev_ite, PL.ev_isn, PL.ev_isb, PL.ev_isi, PL.ev_call, PL.ev_call1, PL.ev_bi, PL.ev_app, PL.ev_ext, PL.ev_pop, PL.ev_popA, PL.ev_idx, PL.ev_ixof, PL.ev_slc, PL.ev_rev, PV.evO, PV.evOs, PV.evP, PV.evPs, PV.evF, PV.evB, PV.evS, PL.r_ok_bind, PL.r_bad_bind, PL.rs_of_ok, PL.exs_nil, PL.exs_ex, PL.exs_retl, PL.exs_ret, PL.exs_asg, PL.exs_unp, PL.exs_par, PL.exs_set, PL.exs_aug, PL.exs_ite, PL.nxt_nx, PL.nxt_rt, PL.nxt_bk, PL.nxt_ct, PV.res, PV.ress, PV.frz, PV.frzs, PV.slotT, PV.ofA, PV.ofB, PV.ofT, PV.ofA?, PV.store1, PV.callWith, PV.argsOf, PV.argOf, PV.mutsOf, PV.lentOf, PV.isOwn, PV.putBack, PV.appC, PV.extC, PV.popC, PV.popAC, PV.setIx, PV.truth, PV.storeAll, PL.big_le_0, PL.big_le_1, PL.big_le_2, PL.big_le_3, PL.big_le_4, PL.big_le_5, PL.big_le_6, PL.big_le_7, PL.big_le_8, PL.big_le_9, PL.big_le_10, PL.big_le_11, PL.big_le_12, PL.big_le_13, PV.unpT, PV.compTurn, PV.bindTo, PV.setAll, PV.wipeE, PV.backE, PV.forTurn, PV.tupT, PV.startE, PV.slotOf, PV.endC, PV.mutsAt, PV.runF, List.getElem?_cons_zero, List.getElem?_cons_succ, List.getElem?_nil, Option.bind_some, Option.bind_none, Option.map_some, Option.map_none, List.set_cons_zero, List.set_cons_succ, List.isEmpty_nil, List.isEmpty_cons, if_true, if_false, List.replicate_succ, List.replicate_zero, List.length_cons, List.length_nil, Bool.not_true, Bool.not_false, Bool.and_true, Bool.and_false, Bool.true_and, Bool.false_and, reduceCtorEq, ne_eq, not_false_eq_true, implies_true, Bool.true_or, Bool.false_or, Bool.or_true, Bool.or_false, Nat.reduceAdd, Nat.reduceLeDiff, Nat.reduceSub, h, p12, List.contains_nil]
  have e : (L.map stT).map (fun y => T.tup [.int p, y]) = L.map fun s => paT (p, s) := by rw [List.map_map]; rfl
  rw [← e]
  exact ev_comp_map (ρ2 := [x0, x1, .v V, x3, x4, .v (.int p), .u, x7, x8, x9, x10, x11, .u, .u, .u, .u, .u]) (xs := L.map stT) (fun y => T.tup [.int p, y]) hiv rfl (fun i => rfl) (fun x _ => turn15a F) (by rw [List.length_map]; omega) (by rw [List.length_map]; unfold big; omega) rfl
theorem for_ok {n k : Nat} {tg : List Nat} {tp : Bool} {its : List Ex} {b ss : List Sm} {iv : Iv} {ρ ρ1 ρ' : Rho} (h1 : evIf (ev pg F 4000 60) k its ρ = .ok iv ρ1) (h2 : forL (forTurn tg tp (exs pg F 4000 60 n b)) iv 4000 0 ρ1 = .nx ρ') : exs pg F 4000 60 (n + 1) (Sm.for_ tg tp k its b :: ss) ρ = exs pg F 4000 60 n ss ρ' := by
  rw [exs_for, h1]
  simp only [PL.rs_of_ok]
  rw [h2]
  rfl
omit F in
theorem evIf_fr {ih : Ex → Rho → PV.R PV.A} {k : Nat} {its : List Ex} {ρ ρ1 ρ' : Rho} {os : List Opd} {ts : List T} {iv : Iv} (h : evOs ih its ρ = .ok os ρ1) (hf : frzs ρ1 os = some (ts, ρ')) (hv : ivOf k ρ' (ts.map .x) = some iv) : evIf ih k its ρ = .ok iv ρ' := by
  have e : evIf ih k its ρ = (evOs ih its ρ).bind (fun os ρ => match frzs ρ os with
    | some (ts, ρ) => (match ivOf k ρ (ts.map .x) with
      | some iv => .ok iv ρ
      | none => .bad)
    | none => .bad) := rfl
  rw [e, h]
  show (match frzs ρ1 os with
    | some (ts, ρ) => (match ivOf k ρ (ts.map .x) with
      | some iv => (.ok iv ρ : PV.R Iv)
      | none => .bad)
    | none => .bad) = _
  rw [hf]
  dsimp only
  rw [hv]
theorem loop15 {V : T} {x0 x1 x3 : Sl} {P : Nat} {g : Nat → List (List Nat)} (hP : P ≤ 4) (hg : ∀ p, p < P → (g p).length ≤ 400) (h : ∀ p, p < P → F 12 [.t V, .t (.int p)] = .ok (.f ((g p).map stT)) []) : ∃ x5, forL (forTurn [5] false (exs pg F 4000 60 57 b15)) (.rg 0 P) 4000 0 [x0, x1, .v V, x3, .o true [], .u, .u, .u, .u, .u, .u, .u, .u, .u, .u, .u, .u] = .nx [x0, x1, .v V, x3, .o true ((pick P g).map paT), x5, .u, .u, .u, .u, .u, .u, .u, .u, .u, .u, .u] := by
  have step : ∀ (i : Nat) (x : T) (ρ : Rho), ((List.range P).map fun (i : Nat) => T.int (0 + i))[i]? = some x → (∃ x5, ρ = [x0, x1, .v V, x3, .o true ((pick i g).map paT), x5, .u, .u, .u, .u, .u, .u, .u, .u, .u, .u, .u]) →
      ∃ ρ', forTurn [5] false (exs pg F 4000 60 57 b15) x ρ = .nx ρ' ∧ ∃ x5, ρ' = [x0, x1, .v V, x3, .o true ((pick (i + 1) g).map paT), x5, .u, .u, .u, .u, .u, .u, .u, .u, .u, .u, .u] := by
    rintro i x ρ hx ⟨x5, rfl⟩
    have hi : i < P := by
      have := (List.getElem?_eq_some_iff.mp hx).1
      rw [List.length_map, List.length_range] at this
      exact this
    rw [List.getElem?_map, List.getElem?_range hi] at hx
    have hx : T.int (0 + (i : Int)) = x := Option.some.inj hx
    rw [Int.zero_add] at hx
    subst hx
    have he := e15a_ok F (m := 53) (V := V) (x0 := x0) (x1 := x1) (x3 := x3) (x4 := .o true ((pick i g).map paT)) (x7 := .u) (x8 := .u) (x9 := .u) (x10 := .u) (x11 := .u) (by have := hg i hi; omega) (h i hi)
    have hlen : (pick i g).length ≤ 1600 := by
      unfold pick
      have z := flat_len (B := 400) (f := fun p => (g p).map fun s => (p, s)) (l := List.range i) fun p hp => by rw [List.length_map]; exact hg p (by have := List.mem_range.mp hp; omega)
      rw [List.length_range] at z
      omega
    have hb : ((pick i g).map paT).length + ((g i).map fun s => paT (i, s)).length ≤ big := by
      rw [List.length_map, List.length_map]
      have := hg i hi
      unfold big; omega
    have hm : (pick i g).map paT ++ ((g i).map fun s => paT (i, s)) = (pick (i + 1) g).map paT := by
      unfold pick
      rw [List.range_succ, List.flatMap_append, List.map_append, List.flatMap_cons, List.flatMap_nil, List.append_nil, List.map_map]
      rfl
    refine ⟨_, ?_, .v (.int i), rfl⟩
    rw [← hm]
    generalize (pick i g).map paT = U at he hb ⊢
    generalize ((g i).map fun s => paT (i, s)) = W at he hb ⊢
    simp only [PV.forTurn, PV.bindTo, List.set_cons_zero, List.set_cons_succ]
    rw [exs_ex]
    simp only [PL.ev_con, PL.ev_loc, PL.ev_dk0, PL.ev_dk1, PL.ev_lst, PL.ev_tup, PL.ev_bin, PL.ev_neg, PL.ev_cmp, PL.ev_chn, PL.ev_and, PL.ev_or, PL.ev_tand, PL.ev_tor, PL.ev_not, PL.ev_ite, PL.ev_isn, PL.ev_isb, PL.ev_isi, PL.ev_call, PL.ev_call1, PL.ev_bi, PL.ev_app, PL.ev_ext, PL.ev_pop, PL.ev_popA, PL.ev_idx, PL.ev_ixof, PL.ev_slc, PL.ev_rev, PV.evO, PV.evOs, PV.evP, PV.evPs, PV.evF, PV.evB, PV.evS, PL.r_ok_bind, PL.r_bad_bind, PL.rs_of_ok, PL.exs_nil, PL.exs_ex, PL.exs_retl, PL.exs_ret, PL.exs_asg, PL.exs_unp, PL.exs_par, PL.exs_set, PL.exs_aug, PL.exs_ite, PL.nxt_nx, PL.nxt_rt, PL.nxt_bk, PL.nxt_ct, PV.res, PV.ress, PV.frz, PV.frzs, PV.slotT, PV.ofA, PV.ofB, PV.ofT, PV.ofA?, PV.store1, PV.callWith, PV.argsOf, PV.argOf, PV.mutsOf, PV.lentOf, PV.isOwn, PV.putBack, PV.appC, PV.extC, PV.popC, PV.popAC, PV.setIx, PV.truth, PV.storeAll, PL.big_le_0, PL.big_le_1, PL.big_le_2, PL.big_le_3, PL.big_le_4, PL.big_le_5, PL.big_le_6, PL.big_le_7, PL.big_le_8, PL.big_le_9, PL.big_le_10, PL.big_le_11, PL.big_le_12, PL.big_le_13, PV.unpT, PV.compTurn, PV.bindTo, PV.setAll, PV.wipeE, PV.backE, PV.forTurn, PV.tupT, PV.startE, PV.slotOf, PV.endC, PV.mutsAt, PV.runF, List.getElem?_cons_zero, List.getElem?_cons_succ, List.getElem?_nil, Option.bind_some, Option.bind_none, Option.map_some, Option.map_none, List.set_cons_zero, List.set_cons_succ, List.isEmpty_nil, List.isEmpty_cons, if_true, if_false, List.replicate_succ, List.replicate_zero, List.length_cons, List.length_nil, Bool.not_true, Bool.not_false, Bool.and_true, Bool.and_false, Bool.true_and, Bool.false_and, reduceCtorEq, ne_eq, not_false_eq_true, implies_true, Bool.true_or, Bool.false_or, Bool.or_true, Bool.or_false, Nat.reduceAdd, Nat.reduceLeDiff, Nat.reduceSub, he, hb]
  obtain ⟨ρ', e1, x5, rfl⟩ := forL_inv (fun i ρ => ∃ x5, ρ = [x0, x1, .v V, x3, .o true ((pick i g).map paT), x5, .u, .u, .u, .u, .u, .u, .u, .u, .u, .u, .u]) (fun i ρ => rg7 ρ i) step 4000 0 [x0, x1, .v V, x3, .o true [], .u, .u, .u, .u, .u, .u, .u, .u, .u, .u, .u, .u] (Nat.zero_le _) (by rw [List.length_map, List.length_range]; omega) ⟨.u, rfl⟩
  rw [List.length_map, List.length_range] at e1
  exact ⟨x5, e1⟩
theorem q3 {V : T} {x0 x3 : Sl} {P : Nat} {g : Nat → List (List Nat)} {ss : List Sm} (hP : P ≤ 4) (hg : ∀ p, p < P → (g p).length ≤ 400) (h : ∀ p, p < P → F 12 [.t V, .t (.int p)] = .ok (.f ((g p).map stT)) []) : ∃ x5, exs pg F 4000 60 58 (Sm.for_ [5] false 1 [Ex.loc 1] b15 :: ss) [x0, .v (.int P), .v V, x3, .o true [], .u, .u, .u, .u, .u, .u, .u, .u, .u, .u, .u, .u] = exs pg F 4000 60 57 ss [x0, .v (.int P), .v V, x3, .o true ((pick P g).map paT), x5, .u, .u, .u, .u, .u, .u, .u, .u, .u, .u, .u] := by
  obtain ⟨x5, e⟩ := loop15 F (V := V) (x0 := x0) (x1 := .v (.int P)) (x3 := x3) hP hg h
  refine ⟨x5, ?_⟩
  exact for_ok F (evIf_fr (ts := [.int P]) (os := [.d 1]) rfl rfl (iv_range (by omega))) e
theorem len_st (s : List Nat) : biT .len [stT s] = some (.t (.int s.length)) := by
  show some (PV.A.t (.int (((ins s).map T.int).length : Nat))) = _
  rw [List.length_map]; unfold ins; rw [List.length_map]
theorem idx_pa1 (q : Nat × List Nat) : idxT (paT q) (.int 1) = some (stT q.2) := rfl
def keyF : T → T
  | .tup [a, .tup s] => T.tup [.int (s.length : Nat), .tup [a, .tup s]]
  | y => y
omit F in
theorem keyF_pa (q : Nat × List Nat) : keyF (paT q) = keT q := by
  show T.tup [.int (((ins q.2).map T.int).length : Nat), paT q] = keT q
  rw [List.length_map]; unfold ins; rw [List.length_map]; rfl
def sndF : T → T
  | .tup [_, b] => b
  | y => y
theorem turn15b {m : Nat} {x0 x1 x2 x3 x4 x5 x6 x7 x8 x9 x10 x11 x13 x15 x16 : Sl} {q : Nat × List Nat} : compTurn (ev pg F 4000 (m + 6)) [12, 14] [14] false none (Ex.tup [Ex.bi Bi.len [(Ex.loc 14).idx (Ex.con (T.int 1))], Ex.loc 14]) (paT q) [x0, x1, x2, x3, x4, x5, x6, x7, x8, x9, x10, x11, .u, x13, .u, x15, x16] = .ok (some (keT q)) [x0, x1, x2, x3, x4, x5, x6, x7, x8, x9, x10, x11, .u, x13, .u, x15, x16] := by
  have h1 := idx_pa1 q
  have h2 := len_st q.2
  have h3 : keT q = .tup [.int q.2.length, paT q] := rfl
  rw [h3]
  generalize paT q = Z at h1 ⊢
  generalize stT q.2 = S at h1 h2
  simp only [PL.ev_con, PL.ev_loc, PL.ev_dk0, PL.ev_dk1, PL.ev_lst, PL.ev_tup, PL.ev_bin, PL.ev_neg, PL.ev_cmp, PL.ev_chn, PL.ev_and, PL.ev_or, PL.ev_tand, PL.ev_tor, PL.ev_not, PL.ev_ite, PL.ev_isn, PL.ev_isb, PL.ev_isi, PL.ev_call, PL.ev_call1, PL.ev_bi, PL.ev_app, PL.ev_ext, PL.ev_pop, PL.ev_popA, PL.ev_idx, PL.ev_ixof, PL.ev_slc, PL.ev_rev, PV.evO, PV.evOs, PV.evP, PV.evPs, PV.evF, PV.evB, PV.evS, PL.r_ok_bind, PL.r_bad_bind, PL.rs_of_ok, PL.exs_nil, PL.exs_ex, PL.exs_retl, PL.exs_ret, PL.exs_asg, PL.exs_unp, PL.exs_par, PL.exs_set, PL.exs_aug, PL.exs_ite, PL.nxt_nx, PL.nxt_rt, PL.nxt_bk, PL.nxt_ct, PV.res, PV.ress, PV.frz, PV.frzs, PV.slotT, PV.ofA, PV.ofB, PV.ofT, PV.ofA?, PV.store1, PV.callWith, PV.argsOf, PV.argOf, PV.mutsOf, PV.lentOf, PV.isOwn, PV.putBack, PV.appC, PV.extC, PV.popC, PV.popAC, PV.setIx, PV.truth, PV.storeAll, PL.big_le_0, PL.big_le_1, PL.big_le_2, PL.big_le_3, PL.big_le_4, PL.big_le_5, PL.big_le_6, PL.big_le_7, PL.big_le_8, PL.big_le_9, PL.big_le_10, PL.big_le_11, PL.big_le_12, PL.big_le_13, PV.unpT, PV.compTurn, PV.bindTo, PV.setAll, PV.wipeE, PV.backE, PV.forTurn, PV.tupT, PV.startE, PV.slotOf, PV.endC, PV.mutsAt, PV.runF, List.getElem?_cons_zero, List.getElem?_cons_succ, List.getElem?_nil, Option.bind_some, Option.bind_none, Option.map_some, Option.map_none, List.set_cons_zero, List.set_cons_succ, List.isEmpty_nil, List.isEmpty_cons, if_true, if_false, List.replicate_succ, List.replicate_zero, List.length_cons, List.length_nil, Bool.not_true, Bool.not_false, Bool.and_true, Bool.and_false, Bool.true_and, Bool.false_and, reduceCtorEq, ne_eq, not_false_eq_true, implies_true, Bool.true_or, Bool.false_or, Bool.or_true, Bool.or_false, Nat.reduceAdd, Nat.reduceLeDiff, Nat.reduceSub, h1, h2]
theorem e15b_ok {m : Nat} {x0 x1 x2 x3 x5 x6 x7 x8 x9 x10 x11 x13 x15 x16 : Sl} {N : List (Nat × List Nat)} (hl : N.length ≤ 1600) : ev pg F 4000 (m + 7) e15b [x0, x1, x2, x3, .o true (N.map paT), x5, x6, x7, x8, x9, x10, x11, .u, x13, .u, x15, x16] = .ok (.f (N.map keT)) [x0, x1, x2, x3, .o true (N.map paT), x5, x6, x7, x8, x9, x10, x11, .u, x13, .u, x15, x16] := by
  have hiv : evIv (ev pg F 4000 (m + 6)) 0 [Ex.loc 4] [x0, x1, x2, x3, .o true (N.map paT), x5, x6, x7, x8, x9, x10, x11, .u, x13, .u, x15, x16] = .ok (.sq true (.d 4)) [x0, x1, x2, x3, .o true (N.map paT), x5, x6, x7, x8, x9, x10, x11, .u, x13, .u, x15, x16] := rfl
  have e : (N.map paT).map keyF = N.map keT := by
    rw [List.map_map]
    exact List.map_congr_left fun q _ => keyF_pa q
  rw [← e]
  refine ev_comp_map (ρ2 := [x0, x1, x2, x3, .o true (N.map paT), x5, x6, x7, x8, x9, x10, x11, .u, x13, .u, x15, x16]) (xs := N.map paT) keyF hiv rfl (fun i => rfl) (fun x hx => ?_) (by rw [List.length_map]; omega) (by rw [List.length_map]; unfold big; omega) rfl
  obtain ⟨q, _, rfl⟩ := List.mem_map.mp hx
  rw [keyF_pa]
  exact turn15b F
theorem sorted_ke {l : List (Nat × List Nat)} (hl : l.length ≤ big) : biT .sorted [.lst (l.map keT)] = some (.f (sortT (l.map keT))) := by
  show ((((itemsT (.lst (l.map keT))).bind intsT).bind fun is => if is.length < 64 then some (PV.A.f ((sortI is).map .int)) else none) <|> sortD (.lst (l.map keT))) = _
  cases l with
  | nil => rfl
  | cons q l =>
    have e : ((itemsT (.lst ((q :: l).map keT))).bind intsT) = none := rfl
    rw [e]
    show sortD (.lst ((q :: l).map keT)) = _
    show (if srtOk ((q :: l).map keT) then some (PV.A.f (sortT ((q :: l).map keT))) else none) = _
    rw [if_pos (srtOk_map _ hl (fun q => okT_ke 60 q) (fun q => rfl) alike_ke)]
theorem turn15c {m : Nat} {a b : T} {x0 x1 x2 x3 x4 x5 x6 x7 x8 x9 x10 x11 x15 x16 : Sl} : compTurn (ev pg F 4000 (m + 5)) [12, 13, 14] [13, 14] true none (Ex.loc 14) (.tup [a, b]) [x0, x1, x2, x3, x4, x5, x6, x7, x8, x9, x10, x11, .u, .u, .u, x15, x16] = .ok (some b) [x0, x1, x2, x3, x4, x5, x6, x7, x8, x9, x10, x11, .u, .u, .u, x15, x16] := by
  simp only [PL.ev_con, PL.ev_loc, PL.ev_dk0, PL.ev_dk1, PL.ev_lst, PL.ev_tup, PL.ev_bin, PL.ev_neg, PL.ev_cmp, PL.ev_chn, PL.ev_and, PL.ev_or, PL.ev_tand, PL.ev_tor, PL.ev_not, PL.ev_ite, PL.ev_isn, PL.ev_isb, PL.ev_isi, PL.ev_call, PL.ev_call1, PL.ev_bi, PL.ev_app, PL.ev_ext, PL.ev_pop, PL.ev_popA, PL.ev_idx, PL.ev_ixof, PL.ev_slc, PL.ev_rev, PV.evO, PV.evOs, PV.evP, PV.evPs, PV.evF, PV.evB, PV.evS, PL.r_ok_bind, PL.r_bad_bind, PL.rs_of_ok, PL.exs_nil, PL.exs_ex, PL.exs_retl, PL.exs_ret, PL.exs_asg, PL.exs_unp, PL.exs_par, PL.exs_set, PL.exs_aug, PL.exs_ite, PL.nxt_nx, PL.nxt_rt, PL.nxt_bk, PL.nxt_ct, PV.res, PV.ress, PV.frz, PV.frzs, PV.slotT, PV.ofA, PV.ofB, PV.ofT, PV.ofA?, PV.store1, PV.callWith, PV.argsOf, PV.argOf, PV.mutsOf, PV.lentOf, PV.isOwn, PV.putBack, PV.appC, PV.extC, PV.popC, PV.popAC, PV.setIx, PV.truth, PV.storeAll, PL.big_le_0, PL.big_le_1, PL.big_le_2, PL.big_le_3, PL.big_le_4, PL.big_le_5, PL.big_le_6, PL.big_le_7, PL.big_le_8, PL.big_le_9, PL.big_le_10, PL.big_le_11, PL.big_le_12, PL.big_le_13, PV.unpT, PV.compTurn, PV.bindTo, PV.setAll, PV.wipeE, PV.backE, PV.forTurn, PV.tupT, PV.startE, PV.slotOf, PV.endC, PV.mutsAt, PV.runF, List.getElem?_cons_zero, List.getElem?_cons_succ, List.getElem?_nil, Option.bind_some, Option.bind_none, Option.map_some, Option.map_none, List.set_cons_zero, List.set_cons_succ, List.isEmpty_nil, List.isEmpty_cons, if_true, if_false, List.replicate_succ, List.replicate_zero, List.length_cons, List.length_nil, Bool.not_true, Bool.not_false, Bool.and_true, Bool.and_false, Bool.true_and, Bool.false_and, reduceCtorEq, ne_eq, not_false_eq_true, implies_true, Bool.true_or, Bool.false_or, Bool.or_true, Bool.or_false, Nat.reduceAdd, Nat.reduceLeDiff, Nat.reduceSub]
theorem e15c_ok {m : Nat} {A : List (Nat × Nat)} {P : Nat} {x0 x1 x2 x3 x5 x6 x7 x8 x9 x10 x11 x15 x16 : Sl} (hl : (some_ A P P).length ≤ 1600) : ev pg F 4000 (m + 12) e15c [x0, x1, x2, x3, .o true ((some_ A P P).map paT), x5, x6, x7, x8, x9, x10, x11, .u, .u, .u, x15, x16] = .ok (.f ((told A P P).map paT)) [x0, x1, x2, x3, .o true ((some_ A P P).map paT), x5, x6, x7, x8, x9, x10, x11, .u, .u, .u, x15, x16] := by
  have hb := e15b_ok F (m := m + 3) (x0 := x0) (x1 := x1) (x2 := x2) (x3 := x3) (x5 := x5) (x6 := x6) (x7 := x7) (x8 := x8) (x9 := x9) (x10 := x10) (x11 := x11) (x13 := .u) (x15 := x15) (x16 := x16) hl
  have hs := sorted_ke (l := some_ A P P) (Nat.le_trans hl (by decide))
  rw [sort_some A P P (Nat.le_trans hl (by decide))] at hs
  have ht : (told A P P).length ≤ 1600 := by rw [← (some_perm A P P).length_eq]; exact hl
  generalize (some_ A P P).map paT = U at hb ⊢
  generalize (some_ A P P).map keT = W at hb hs
  have hiv : evIv (ev pg F 4000 (m + 11)) 0 [Ex.bi Bi.sorted [e15b]] [x0, x1, x2, x3, .o true U, x5, x6, x7, x8, x9, x10, x11, .u, .u, .u, x15, x16] = .ok (.sq true (.f ((told A P P).map keT))) [x0, x1, x2, x3, .o true U, x5, x6, x7, x8, x9, x10, x11, .u, .u, .u, x15, x16] := by
    refine evIv_os (os := [.f ((told A P P).map keT)]) ?_ rfl
    simp only [PV.evOs, PV.evO, PL.ev_bi, PV.evPs]
    rw [hb]
    simp only [PL.ev_con, PL.ev_loc, PL.ev_dk0, PL.ev_dk1, PL.ev_lst, PL.ev_tup, PL.ev_bin, PL.ev_neg, PL.ev_cmp, PL.ev_chn, PL.ev_and, PL.ev_or, PL.ev_tand, PL.ev_tor, PL.ev_not, PL.ev_ite, PL.ev_isn, PL.ev_isb, PL.ev_isi, PL.ev_call, PL.ev_call1, PL.ev_bi, PL.ev_app, PL.ev_ext, PL.ev_pop, PL.ev_popA, PL.ev_idx, PL.ev_ixof, PL.ev_slc, PL.ev_rev, PV.evO, PV.evOs, PV.evP, PV.evPs, PV.evF, PV.evB, PV.evS, PL.r_ok_bind, PL.r_bad_bind, PL.rs_of_ok, PL.exs_nil, PL.exs_ex, PL.exs_retl, PL.exs_ret, PL.exs_asg, PL.exs_unp, PL.exs_par, PL.exs_set, PL.exs_aug, PL.exs_ite, PL.nxt_nx, PL.nxt_rt, PL.nxt_bk, PL.nxt_ct, PV.res, PV.ress, PV.frz, PV.frzs, PV.slotT, PV.ofA, PV.ofB, PV.ofT, PV.ofA?, PV.store1, PV.callWith, PV.argsOf, PV.argOf, PV.mutsOf, PV.lentOf, PV.isOwn, PV.putBack, PV.appC, PV.extC, PV.popC, PV.popAC, PV.setIx, PV.truth, PV.storeAll, PL.big_le_0, PL.big_le_1, PL.big_le_2, PL.big_le_3, PL.big_le_4, PL.big_le_5, PL.big_le_6, PL.big_le_7, PL.big_le_8, PL.big_le_9, PL.big_le_10, PL.big_le_11, PL.big_le_12, PL.big_le_13, PV.unpT, PV.compTurn, PV.bindTo, PV.setAll, PV.wipeE, PV.backE, PV.forTurn, PV.tupT, PV.startE, PV.slotOf, PV.endC, PV.mutsAt, PV.runF, List.getElem?_cons_zero, List.getElem?_cons_succ, List.getElem?_nil, Option.bind_some, Option.bind_none, Option.map_some, Option.map_none, List.set_cons_zero, List.set_cons_succ, List.isEmpty_nil, List.isEmpty_cons, if_true, if_false, List.replicate_succ, List.replicate_zero, List.length_cons, List.length_nil, Bool.not_true, Bool.not_false, Bool.and_true, Bool.and_false, Bool.true_and, Bool.false_and, reduceCtorEq, ne_eq, not_false_eq_true, implies_true, Bool.true_or, Bool.false_or, Bool.or_true, Bool.or_false, Nat.reduceAdd, Nat.reduceLeDiff, Nat.reduceSub, hs]
  have e : ((told A P P).map keT).map sndF = (told A P P).map paT := by rw [List.map_map]; rfl
  rw [← e]
  refine ev_comp_map (ρ2 := [x0, x1, x2, x3, .o true U, x5, x6, x7, x8, x9, x10, x11, .u, .u, .u, x15, x16]) (xs := (told A P P).map keT) sndF hiv rfl (fun i => rfl) (fun x hx => ?_) (by rw [List.length_map]; omega) (by rw [List.length_map]; unfold big; omega) rfl
  obtain ⟨q, _, rfl⟩ := List.mem_map.mp hx
  exact turn15c F
theorem q4 {A : List (Nat × Nat)} {P : Nat} {x0 x1 x2 x3 x5 x6 x8 x9 x10 x11 x15 x16 : Sl} {ss : List Sm} (hl : (some_ A P P).length ≤ 1600) : exs pg F 4000 60 57 (Sm.asg 7 e15c :: ss) [x0, x1, x2, x3, .o true ((some_ A P P).map paT), x5, x6, .u, x8, x9, x10, x11, .u, .u, .u, x15, x16] = exs pg F 4000 60 56 ss [x0, x1, x2, x3, .o true ((some_ A P P).map paT), x5, x6, .o true ((told A P P).map paT), x8, x9, x10, x11, .u, .u, .u, x15, x16] := by
  have h := e15c_ok F (m := 48) (x0 := x0) (x1 := x1) (x2 := x2) (x3 := x3) (x5 := x5) (x6 := x6) (x7 := .u) (x8 := x8) (x9 := x9) (x10 := x10) (x11 := x11) (x15 := x15) (x16 := x16) hl
  rw [exs_asg, h]
  simp only [PL.rs_of_ok, PV.store1, List.set_cons_zero, List.set_cons_succ, PL.nxt_nx]
theorem q5 {P : Nat} {V : T} {D : List T} {s : Str} {x0 x3 x4 x5 x6 x7 x8 x9 : Sl} {r : List Sl} {ss : List Sm} (h : F 8 [.t (.int P), .t V] = .ok (.f D) []) (hs : biT .repr [V] = some (.t (.str s))) : exs pg F 4000 60 56 (Sm.par 8 9 (Ex.call 8 [] [Ex.loc 1, Ex.loc 2]) (Ex.bi Bi.repr [Ex.loc 2]) :: ss) (x0 :: .v (.int P) :: .v V :: x3 :: x4 :: x5 :: x6 :: x7 :: x8 :: x9 :: r) = exs pg F 4000 60 55 ss (x0 :: .v (.int P) :: .v V :: x3 :: x4 :: x5 :: x6 :: x7 :: .o true D :: .v (.str s) :: r) := by
  rw [exs_par]
  simp only [PL.ev_con, PL.ev_loc, PL.ev_dk0, PL.ev_dk1, PL.ev_lst, PL.ev_tup, PL.ev_bin, PL.ev_neg, PL.ev_cmp, PL.ev_chn, PL.ev_and, PL.ev_or, PL.ev_tand, PL.ev_tor, PL.ev_not, PL.ev_ite, PL.ev_isn, PL.ev_isb, PL.ev_isi, PL.ev_call, PL.ev_call1, PL.ev_bi, PL.ev_app, PL.ev_ext, PL.ev_pop, PL.ev_popA, PL.ev_idx, PL.ev_ixof, PL.ev_slc, PL.ev_rev, PV.evO, PV.evOs, PV.evP, PV.evPs, PV.evF, PV.evB, PV.evS, PL.r_ok_bind, PL.r_bad_bind, PL.rs_of_ok, PL.exs_nil, PL.exs_ex, PL.exs_retl, PL.exs_ret, PL.exs_asg, PL.exs_unp, PL.exs_par, PL.exs_set, PL.exs_aug, PL.exs_ite, PL.nxt_nx, PL.nxt_rt, PL.nxt_bk, PL.nxt_ct, PV.res, PV.ress, PV.frz, PV.frzs, PV.slotT, PV.ofA, PV.ofB, PV.ofT, PV.ofA?, PV.store1, PV.callWith, PV.argsOf, PV.argOf, PV.mutsOf, PV.lentOf, PV.isOwn, PV.putBack, PV.appC, PV.extC, PV.popC, PV.popAC, PV.setIx, PV.truth, PV.storeAll, PL.big_le_0, PL.big_le_1, PL.big_le_2, PL.big_le_3, PL.big_le_4, PL.big_le_5, PL.big_le_6, PL.big_le_7, PL.big_le_8, PL.big_le_9, PL.big_le_10, PL.big_le_11, PL.big_le_12, PL.big_le_13, PV.unpT, PV.compTurn, PV.bindTo, PV.setAll, PV.wipeE, PV.backE, PV.forTurn, PV.tupT, PV.startE, PV.slotOf, PV.endC, PV.mutsAt, PV.runF, List.getElem?_cons_zero, List.getElem?_cons_succ, List.getElem?_nil, Option.bind_some, Option.bind_none, Option.map_some, Option.map_none, List.set_cons_zero, List.set_cons_succ, List.isEmpty_nil, List.isEmpty_cons, if_true, if_false, List.replicate_succ, List.replicate_zero, List.length_cons, List.length_nil, Bool.not_true, Bool.not_false, Bool.and_true, Bool.and_false, Bool.true_and, Bool.false_and, reduceCtorEq, ne_eq, not_false_eq_true, implies_true, Bool.true_or, Bool.false_or, Bool.or_true, Bool.or_false, Nat.reduceAdd, Nat.reduceLeDiff, Nat.reduceSub, h, hs, p8, List.contains_nil]
theorem q6 {P : Nat} {V W : T} {D : List T} {s : Str} {x0 x3 x4 x5 x6 x9 : Sl} {r : List Sl} {ss : List Sm} (hn : cmpT .ne (.lst D) (.lst D) = some false) (hr : biT .repr [.lst D] = some (.t (.str s))) (hs : cmpT .ne (.str s) (.str s) = some false) (ht : biT .tuple [V] = some (.t W)) (h : F 8 [.t (.int P), .t W] = .ok (.f D) []) :
    exs pg F 4000 60 55 (Sm.ite t15a [Sm.ret (Ex.con (T.bl false))] [] :: ss) (x0 :: .v (.int P) :: .v V :: x3 :: x4 :: x5 :: x6 :: .o true D :: .o true D :: x9 :: r) = exs pg F 4000 60 54 ss (x0 :: .v (.int P) :: .v V :: x3 :: x4 :: x5 :: x6 :: .o true D :: .o true D :: x9 :: r) := by
  rw [exs_ite]
  simp only [PL.ev_con, PL.ev_loc, PL.ev_dk0, PL.ev_dk1, PL.ev_lst, PL.ev_tup, PL.ev_bin, PL.ev_neg, PL.ev_cmp, PL.ev_chn, PL.ev_and, PL.ev_or, PL.ev_tand, PL.ev_tor, PL.ev_not, PL.ev_ite, PL.ev_isn, PL.ev_isb, PL.ev_isi, PL.ev_call, PL.ev_call1, PL.ev_bi, PL.ev_app, PL.ev_ext, PL.ev_pop, PL.ev_popA, PL.ev_idx, PL.ev_ixof, PL.ev_slc, PL.ev_rev, PV.evO, PV.evOs, PV.evP, PV.evPs, PV.evF, PV.evB, PV.evS, PL.r_ok_bind, PL.r_bad_bind, PL.rs_of_ok, PL.exs_nil, PL.exs_ex, PL.exs_retl, PL.exs_ret, PL.exs_asg, PL.exs_unp, PL.exs_par, PL.exs_set, PL.exs_aug, PL.exs_ite, PL.nxt_nx, PL.nxt_rt, PL.nxt_bk, PL.nxt_ct, PV.res, PV.ress, PV.frz, PV.frzs, PV.slotT, PV.ofA, PV.ofB, PV.ofT, PV.ofA?, PV.store1, PV.callWith, PV.argsOf, PV.argOf, PV.mutsOf, PV.lentOf, PV.isOwn, PV.putBack, PV.appC, PV.extC, PV.popC, PV.popAC, PV.setIx, PV.truth, PV.storeAll, PL.big_le_0, PL.big_le_1, PL.big_le_2, PL.big_le_3, PL.big_le_4, PL.big_le_5, PL.big_le_6, PL.big_le_7, PL.big_le_8, PL.big_le_9, PL.big_le_10, PL.big_le_11, PL.big_le_12, PL.big_le_13, PV.unpT, PV.compTurn, PV.bindTo, PV.setAll, PV.wipeE, PV.backE, PV.forTurn, PV.tupT, PV.startE, PV.slotOf, PV.endC, PV.mutsAt, PV.runF, List.getElem?_cons_zero, List.getElem?_cons_succ, List.getElem?_nil, Option.bind_some, Option.bind_none, Option.map_some, Option.map_none, List.set_cons_zero, List.set_cons_succ, List.isEmpty_nil, List.isEmpty_cons, if_true, if_false, List.replicate_succ, List.replicate_zero, List.length_cons, List.length_nil, Bool.not_true, Bool.not_false, Bool.and_true, Bool.and_false, Bool.true_and, Bool.false_and, reduceCtorEq, ne_eq, not_false_eq_true, implies_true, Bool.true_or, Bool.false_or, Bool.or_true, Bool.or_false, Nat.reduceAdd, Nat.reduceLeDiff, Nat.reduceSub, PV.place, hn, hr, hs, ht, h, p8, List.contains_nil]
end
end K85

set_option Elab.async false
set_option linter.all false
set_option maxRecDepth 1000000
set_option maxHeartbeats 8000000
/-! k85: the law for one pot, second half -/
namespace K85
open PV PySem PL
/-- a path that passes a look at its number of arrows -/
def keepP (f : Nat → Bool) : T → Option T
  | .tup [a, .tup s] => if f s.length then some (.tup [a, .tup s]) else none
  | _ => none
theorem keepP_pa (f : Nat → Bool) (q : Nat × List Nat) : keepP f (paT q) = if f q.2.length then some (paT q) else none := by
  show (if f ((ins q.2).map T.int).length then some (paT q) else none) = _
  rw [List.length_map]; unfold ins; rw [List.length_map]
theorem keepP_ok (f : Nat → Bool) : ∀ N : List (Nat × List Nat), (N.map paT).filterMap (keepP f) = (N.filter fun q => f q.2.length).map paT
  | [] => rfl
  | q :: N => by
    rw [List.map_cons, List.filterMap_cons, keepP_pa, List.filter_cons]
    cases f q.2.length with
    | true =>
      show paT q :: _ = _
      rw [keepP_ok f N]
      rfl
    | false => exact keepP_ok f N
section
variable (F : Orc)
theorem turn15d {m : Nat} {x0 x1 x2 x3 x4 x5 x6 x7 x8 x9 x10 x11 x13 x15 x16 : Sl} {o : Cmp} {j : Int} {f : Nat → Bool} (hf : ∀ n : Nat, cmpT o (.int n) (.int j) = some (f n)) {q : Nat × List Nat} : compTurn (ev pg F 4000 (m + 6)) [12, 14] [14] false (some (Ex.cmp o (Ex.bi Bi.len [(Ex.loc 14).idx (Ex.con (T.int 1))]) (Ex.con (T.int j)))) (Ex.loc 14) (paT q) [x0, x1, x2, x3, x4, x5, x6, x7, x8, x9, x10, x11, .u, x13, .u, x15, x16] = .ok (keepP f (paT q)) [x0, x1, x2, x3, x4, x5, x6, x7, x8, x9, x10, x11, .u, x13, .u, x15, x16] := by
  have h1 := idx_pa1 q
  have h2 := len_st q.2
  have h3 := hf q.2.length
  rw [keepP_pa]
  generalize paT q = Z at h1 ⊢
  generalize stT q.2 = S at h1 h2
  cases e : f q.2.length with
  | true => rw [e] at h3; simp only [PL.ev_con, PL.ev_loc, PL.ev_dk0, PL.ev_dk1, PL.ev_lst, PL.ev_tup, PL.ev_bin, PL.ev_neg, PL.ev_cmp, PL.ev_chn, PL.ev_and, PL.ev_or, PL.ev_tand, PL.ev_tor, PL.ev_not, PL.ev_ite, PL.ev_isn, PL.ev_isb, PL.ev_isi, PL.ev_call, PL.ev_call1, PL.ev_bi, PL.ev_app, PL.ev_ext, PL.ev_pop, PL.ev_popA, PL.ev_idx, PL.ev_ixof, PL.ev_slc, PL.ev_rev, PV.evO, PV.evOs, PV.evP, PV.evPs, PV.evF, PV.evB, PV.evS, PL.r_ok_bind, PL.r_bad_bind, PL.rs_of_ok, PL.exs_nil, PL.exs_ex, PL.exs_retl, PL.exs_ret, PL.exs_asg, PL.exs_unp, PL.exs_par, PL.exs_set, PL.exs_aug, PL.exs_ite, PL.nxt_nx, PL.nxt_rt, PL.nxt_bk, PL.nxt_ct, PV.res, PV.ress, PV.frz, PV.frzs, PV.slotT, PV.ofA, PV.ofB, PV.ofT, PV.ofA?, PV.store1, PV.callWith, PV.argsOf, PV.argOf, PV.mutsOf, PV.lentOf, PV.isOwn, PV.putBack, PV.appC, PV.extC, PV.popC, PV.popAC, PV.setIx, PV.truth, PV.storeAll, PL.big_le_0, PL.big_le_1, PL.big_le_2, PL.big_le_3, PL.big_le_4, PL.big_le_5, PL.big_le_6, PL.big_le_7, PL.big_le_8, PL.big_le_9, PL.big_le_10, PL.big_le_11, PL.big_le_12, PL.big_le_13, PV.unpT, PV.compTurn, PV.bindTo, PV.setAll, PV.wipeE, PV.backE, PV.forTurn, PV.tupT, PV.startE, PV.slotOf, PV.endC, PV.mutsAt, PV.runF, List.getElem?_cons_zero, List.getElem?_cons_succ, List.getElem?_nil, Option.bind_some, Option.bind_none, Option.map_some, Option.map_none, List.set_cons_zero, List.set_cons_succ, List.isEmpty_nil, List.isEmpty_cons, if_true, if_false, List.replicate_succ, List.replicate_zero, List.length_cons, List.length_nil, Bool.not_true, Bool.not_false, Bool.and_true, Bool.and_false, Bool.true_and, Bool.false_and, reduceCtorEq, ne_eq, not_false_eq_true, implies_true, Bool.true_or, Bool.false_or, Bool.or_true, Bool.or_false, Nat.reduceAdd, Nat.reduceLeDiff, Nat.reduceSub, h1, h2, h3]
  | false => rw [e] at h3; simp only [PL.ev_con, PL.ev_loc, PL.ev_dk0, PL.ev_dk1, PL.ev_lst, PL.ev_tup, PL.ev_bin, PL.ev_neg, PL.ev_cmp, PL.ev_chn, PL.ev_and, PL.ev_or, PL.ev_tand, PL.ev_tor, PL.ev_not, PL.ev_ite, PL.ev_isn, PL.ev_isb, PL.ev_isi, PL.ev_call, PL.ev_call1, PL.ev_bi, PL.ev_app, PL.ev_ext, PL.ev_pop, PL.ev_popA, PL.ev_idx, PL.ev_ixof, PL.ev_slc, PL.ev_rev, PV.evO, PV.evOs, PV.evP, PV.evPs, PV.evF, PV.evB, PV.evS, PL.r_ok_bind, PL.r_bad_bind, PL.rs_of_ok, PL.exs_nil, PL.exs_ex, PL.exs_retl, PL.exs_ret, PL.exs_asg, PL.exs_unp, PL.exs_par, PL.exs_set, PL.exs_aug, PL.exs_ite, PL.nxt_nx, PL.nxt_rt, PL.nxt_bk, PL.nxt_ct, PV.res, PV.ress, PV.frz, PV.frzs, PV.slotT, PV.ofA, PV.ofB, PV.ofT, PV.ofA?, PV.store1, PV.callWith, PV.argsOf, PV.argOf, PV.mutsOf, PV.lentOf, PV.isOwn, PV.putBack, PV.appC, PV.extC, PV.popC, PV.popAC, PV.setIx, PV.truth, PV.storeAll, PL.big_le_0, PL.big_le_1, PL.big_le_2, PL.big_le_3, PL.big_le_4, PL.big_le_5, PL.big_le_6, PL.big_le_7, PL.big_le_8, PL.big_le_9, PL.big_le_10, PL.big_le_11, PL.big_le_12, PL.big_le_13, PV.unpT, PV.compTurn, PV.bindTo, PV.setAll, PV.wipeE, PV.backE, PV.forTurn, PV.tupT, PV.startE, PV.slotOf, PV.endC, PV.mutsAt, PV.runF, List.getElem?_cons_zero, List.getElem?_cons_succ, List.getElem?_nil, Option.bind_some, Option.bind_none, Option.map_some, Option.map_none, List.set_cons_zero, List.set_cons_succ, List.isEmpty_nil, List.isEmpty_cons, if_true, if_false, List.replicate_succ, List.replicate_zero, List.length_cons, List.length_nil, Bool.not_true, Bool.not_false, Bool.and_true, Bool.and_false, Bool.true_and, Bool.false_and, reduceCtorEq, ne_eq, not_false_eq_true, implies_true, Bool.true_or, Bool.false_or, Bool.or_true, Bool.or_false, Nat.reduceAdd, Nat.reduceLeDiff, Nat.reduceSub, h1, h2, h3]
theorem e15d_ok {m i : Nat} {o : Cmp} {j : Int} {f : Nat → Bool} (hf : ∀ n : Nat, cmpT o (.int n) (.int j) = some (f n)) {N : List (Nat × List Nat)} (hl : N.length ≤ 1600) {x0 x1 x2 x3 x4 x5 x6 x7 x8 x9 x10 x11 x13 x15 x16 : Sl} (hi : ([x0, x1, x2, x3, x4, x5, x6, x7, x8, x9, x10, x11, .u, x13, .u, x15, x16] : Rho)[i]? = some (.o true (N.map paT))) (hi2 : i ≠ 12 ∧ i ≠ 14) : ev pg F 4000 (m + 7) (Ex.comp [12, 14] [14] false 0 [Ex.loc i] (some (Ex.cmp o (Ex.bi Bi.len [(Ex.loc 14).idx (Ex.con (T.int 1))]) (Ex.con (T.int j)))) (Ex.loc 14)) [x0, x1, x2, x3, x4, x5, x6, x7, x8, x9, x10, x11, .u, x13, .u, x15, x16] = .ok (.f ((N.filter fun q => f q.2.length).map paT)) [x0, x1, x2, x3, x4, x5, x6, x7, x8, x9, x10, x11, .u, x13, .u, x15, x16] := by
  have hiv : evIv (ev pg F 4000 (m + 6)) 0 [Ex.loc i] [x0, x1, x2, x3, x4, x5, x6, x7, x8, x9, x10, x11, .u, x13, .u, x15, x16] = .ok (.sq true (.d i)) [x0, x1, x2, x3, x4, x5, x6, x7, x8, x9, x10, x11, .u, x13, .u, x15, x16] := by
    refine evIv_os (os := [.d i]) ?_ ?_
    · simp only [PV.evOs, PV.evO, hi, Option.bind_some, PV.slotT, PL.r_ok_bind]
    · simp only [PV.ivOf, PV.res, hi, Option.bind_some, PV.slotT]
  have hfree : (ivFree [12, 14] (.sq true (.d i)) && plainSl [12, 14] [x0, x1, x2, x3, x4, x5, x6, x7, x8, x9, x10, x11, .u, x13, .u, x15, x16]) = true := by
    rw [Bool.and_eq_true]
    refine ⟨?_, rfl⟩
    show (!([12, 14] : List Nat).contains i) = true
    rw [Bool.not_eq_true', Bool.eq_false_iff]
    intro z
    have := List.contains_iff_mem.mp z
    simp at this
    omega
  rw [ev_comp_ok (xs := N.map paT) (g := keepP f) hiv hfree (fun k => ?_) (fun y hy => ?_) (by rw [List.length_map]; omega) (by rw [List.length_map]; unfold big; omega), keepP_ok]
  · rfl
  · show turnAt [x0, x1, x2, x3, x4, x5, x6, x7, x8, x9, x10, x11, .u, x13, .u, x15, x16] k (.sq true (.d i)) = _
    simp only [PV.turnAt, PV.res, hi, Option.bind_some, PV.slotT, PV.listT, Option.map_some]
  · obtain ⟨q, _, rfl⟩ := List.mem_map.mp hy
    exact turn15d F hf
theorem turn15e {m : Nat} {x0 x1 x2 x3 x4 x5 x6 x7 x8 x9 x10 x11 x13 x14 : Sl} {i a b : Nat} : compTurn (ev pg F 4000 (m + 6)) [12, 15, 16] [15, 16] true none (Ex.tup [(Ex.loc 16).idx (Ex.con (T.int 0)), Ex.loc 15, Ex.loc 16]) (.tup [.int i, .tup [.int a, .int b]]) [x0, x1, x2, x3, x4, x5, x6, x7, x8, x9, x10, x11, .u, x13, x14, .u, .u] = .ok (some (.tup [.int a, .int i, .tup [.int a, .int b]])) [x0, x1, x2, x3, x4, x5, x6, x7, x8, x9, x10, x11, .u, x13, x14, .u, .u] := by
  simp only [PL.ev_con, PL.ev_loc, PL.ev_dk0, PL.ev_dk1, PL.ev_lst, PL.ev_tup, PL.ev_bin, PL.ev_neg, PL.ev_cmp, PL.ev_chn, PL.ev_and, PL.ev_or, PL.ev_tand, PL.ev_tor, PL.ev_not, PL.ev_ite, PL.ev_isn, PL.ev_isb, PL.ev_isi, PL.ev_call, PL.ev_call1, PL.ev_bi, PL.ev_app, PL.ev_ext, PL.ev_pop, PL.ev_popA, PL.ev_idx, PL.ev_ixof, PL.ev_slc, PL.ev_rev, PV.evO, PV.evOs, PV.evP, PV.evPs, PV.evF, PV.evB, PV.evS, PL.r_ok_bind, PL.r_bad_bind, PL.rs_of_ok, PL.exs_nil, PL.exs_ex, PL.exs_retl, PL.exs_ret, PL.exs_asg, PL.exs_unp, PL.exs_par, PL.exs_set, PL.exs_aug, PL.exs_ite, PL.nxt_nx, PL.nxt_rt, PL.nxt_bk, PL.nxt_ct, PV.res, PV.ress, PV.frz, PV.frzs, PV.slotT, PV.ofA, PV.ofB, PV.ofT, PV.ofA?, PV.store1, PV.callWith, PV.argsOf, PV.argOf, PV.mutsOf, PV.lentOf, PV.isOwn, PV.putBack, PV.appC, PV.extC, PV.popC, PV.popAC, PV.setIx, PV.truth, PV.storeAll, PL.big_le_0, PL.big_le_1, PL.big_le_2, PL.big_le_3, PL.big_le_4, PL.big_le_5, PL.big_le_6, PL.big_le_7, PL.big_le_8, PL.big_le_9, PL.big_le_10, PL.big_le_11, PL.big_le_12, PL.big_le_13, PV.unpT, PV.compTurn, PV.bindTo, PV.setAll, PV.wipeE, PV.backE, PV.forTurn, PV.tupT, PV.startE, PV.slotOf, PV.endC, PV.mutsAt, PV.runF, List.getElem?_cons_zero, List.getElem?_cons_succ, List.getElem?_nil, Option.bind_some, Option.bind_none, Option.map_some, Option.map_none, List.set_cons_zero, List.set_cons_succ, List.isEmpty_nil, List.isEmpty_cons, if_true, if_false, List.replicate_succ, List.replicate_zero, List.length_cons, List.length_nil, Bool.not_true, Bool.not_false, Bool.and_true, Bool.and_false, Bool.true_and, Bool.false_and, reduceCtorEq, ne_eq, not_false_eq_true, implies_true, Bool.true_or, Bool.false_or, Bool.or_true, Bool.or_false, Nat.reduceAdd, Nat.reduceLeDiff, Nat.reduceSub, idx_t0]
def triF : T → T
  | .tup [.int i, .tup [.int a, .int b]] => .tup [.int a, .int i, .tup [.int a, .int b]]
  | y => y
omit F in
theorem triF_ok (A : List (Nat × Nat)) : (enT (A.map arT)).map triF = (List.range A.length).map (triT A) := by
  rw [enT_eq, List.map_map]
  refine List.map_congr_left fun i _ => ?_
  show triF (.tup [.int (i : Nat), arT (A.getD i (0, 0))]) = triT A i
  unfold triT
  generalize A.getD i (0, 0) = q
  obtain ⟨a, b⟩ := q
  rfl
theorem e15e_ok {m : Nat} {A : List (Nat × Nat)} (hA : A.length ≤ 7) {x0 x1 x3 x4 x5 x6 x7 x8 x9 x10 x11 x13 x14 : Sl} : ev pg F 4000 (m + 7) e15e [x0, x1, .v (.lst (A.map arT)), x3, x4, x5, x6, x7, x8, x9, x10, x11, .u, x13, x14, .u, .u] = .ok (.f ((List.range A.length).map (triT A))) [x0, x1, .v (.lst (A.map arT)), x3, x4, x5, x6, x7, x8, x9, x10, x11, .u, x13, x14, .u, .u] := by
  have hiv : evIv (ev pg F 4000 (m + 6)) 3 [Ex.loc 2] [x0, x1, .v (.lst (A.map arT)), x3, x4, x5, x6, x7, x8, x9, x10, x11, .u, x13, x14, .u, .u] = .ok (.en (.d 2)) [x0, x1, .v (.lst (A.map arT)), x3, x4, x5, x6, x7, x8, x9, x10, x11, .u, x13, x14, .u, .u] := rfl
  rw [← triF_ok A]
  refine ev_comp_map (ρ2 := [x0, x1, .v (.lst (A.map arT)), x3, x4, x5, x6, x7, x8, x9, x10, x11, .u, x13, x14, .u, .u]) (xs := enT (A.map arT)) triF hiv rfl (fun j => by rw [← enT_get]; rfl) (fun y hy => ?_) (by rw [enT_len, List.length_map]; omega) (by rw [enT_len, List.length_map]; unfold big; omega) rfl
  rw [enT_eq] at hy
  obtain ⟨i, hi, rfl⟩ := List.mem_map.mp hy
  obtain ⟨a, b⟩ := A.getD i (0, 0)
  exact turn15e F
omit F in
theorem sorted_tri {A : List (Nat × Nat)} {P : Nat} (hA : A.length ≤ 7) (h : ∀ q ∈ A, q.1 < P) : biT .sorted [.lst ((List.range A.length).map (triT A))] = some (.f ((byFirst A P).map (triT A))) := by
  obtain ⟨h1, h2⟩ := sort_tri hA h
  rw [← h2]
  show ((((itemsT (.lst ((List.range A.length).map (triT A)))).bind intsT).bind fun is => if is.length < 64 then some (PV.A.f ((sortI is).map .int)) else none) <|> sortD (.lst ((List.range A.length).map (triT A)))) = _
  have e : sortD (.lst ((List.range A.length).map (triT A))) = some (.f (sortT ((List.range A.length).map (triT A)))) := if_pos h1
  rw [e]
  cases hL : A.length with
  | zero => rfl
  | succ n =>
    rw [List.range_succ_eq_map]
    rfl
theorem turn15f {m : Nat} {x0 x1 x2 x3 x4 x5 x6 x7 x8 x9 x10 x11 x14 : Sl} {a b c i : T} : compTurn (ev pg F 4000 (m + 6)) [12, 13, 15, 16] [13, 15, 16] true none (Ex.tup [(Ex.loc 16).idx (Ex.con (T.int 0)), Ex.tup [Ex.loc 15]]) (.tup [c, i, .tup [a, b]]) [x0, x1, x2, x3, x4, x5, x6, x7, x8, x9, x10, x11, .u, .u, x14, .u, .u] = .ok (some (.tup [a, .tup [i]])) [x0, x1, x2, x3, x4, x5, x6, x7, x8, x9, x10, x11, .u, .u, x14, .u, .u] := by
  simp only [PL.ev_con, PL.ev_loc, PL.ev_dk0, PL.ev_dk1, PL.ev_lst, PL.ev_tup, PL.ev_bin, PL.ev_neg, PL.ev_cmp, PL.ev_chn, PL.ev_and, PL.ev_or, PL.ev_tand, PL.ev_tor, PL.ev_not, PL.ev_ite, PL.ev_isn, PL.ev_isb, PL.ev_isi, PL.ev_call, PL.ev_call1, PL.ev_bi, PL.ev_app, PL.ev_ext, PL.ev_pop, PL.ev_popA, PL.ev_idx, PL.ev_ixof, PL.ev_slc, PL.ev_rev, PV.evO, PV.evOs, PV.evP, PV.evPs, PV.evF, PV.evB, PV.evS, PL.r_ok_bind, PL.r_bad_bind, PL.rs_of_ok, PL.exs_nil, PL.exs_ex, PL.exs_retl, PL.exs_ret, PL.exs_asg, PL.exs_unp, PL.exs_par, PL.exs_set, PL.exs_aug, PL.exs_ite, PL.nxt_nx, PL.nxt_rt, PL.nxt_bk, PL.nxt_ct, PV.res, PV.ress, PV.frz, PV.frzs, PV.slotT, PV.ofA, PV.ofB, PV.ofT, PV.ofA?, PV.store1, PV.callWith, PV.argsOf, PV.argOf, PV.mutsOf, PV.lentOf, PV.isOwn, PV.putBack, PV.appC, PV.extC, PV.popC, PV.popAC, PV.setIx, PV.truth, PV.storeAll, PL.big_le_0, PL.big_le_1, PL.big_le_2, PL.big_le_3, PL.big_le_4, PL.big_le_5, PL.big_le_6, PL.big_le_7, PL.big_le_8, PL.big_le_9, PL.big_le_10, PL.big_le_11, PL.big_le_12, PL.big_le_13, PV.unpT, PV.compTurn, PV.bindTo, PV.setAll, PV.wipeE, PV.backE, PV.forTurn, PV.tupT, PV.startE, PV.slotOf, PV.endC, PV.mutsAt, PV.runF, List.getElem?_cons_zero, List.getElem?_cons_succ, List.getElem?_nil, Option.bind_some, Option.bind_none, Option.map_some, Option.map_none, List.set_cons_zero, List.set_cons_succ, List.isEmpty_nil, List.isEmpty_cons, if_true, if_false, List.replicate_succ, List.replicate_zero, List.length_cons, List.length_nil, Bool.not_true, Bool.not_false, Bool.and_true, Bool.and_false, Bool.true_and, Bool.false_and, reduceCtorEq, ne_eq, not_false_eq_true, implies_true, Bool.true_or, Bool.false_or, Bool.or_true, Bool.or_false, Nat.reduceAdd, Nat.reduceLeDiff, Nat.reduceSub, idx_t0]
def oneF : T → T
  | .tup [_, i, .tup [a, _]] => .tup [a, .tup [i]]
  | y => y
theorem e15f_ok {m : Nat} {A : List (Nat × Nat)} {P : Nat} (hA : A.length ≤ 7) (h : ∀ q ∈ A, q.1 < P) {x0 x1 x3 x4 x5 x6 x7 x8 x9 x10 x11 x14 : Sl} : ev pg F 4000 (m + 12) e15f [x0, x1, .v (.lst (A.map arT)), x3, x4, x5, x6, x7, x8, x9, x10, x11, .u, .u, x14, .u, .u] = .ok (.f ((lv A P 1).map paT)) [x0, x1, .v (.lst (A.map arT)), x3, x4, x5, x6, x7, x8, x9, x10, x11, .u, .u, x14, .u, .u] := by
  have hb := e15e_ok F (m := m + 3) hA (x0 := x0) (x1 := x1) (x3 := x3) (x4 := x4) (x5 := x5) (x6 := x6) (x7 := x7) (x8 := x8) (x9 := x9) (x10 := x10) (x11 := x11) (x13 := .u) (x14 := x14)
  have hs := sorted_tri hA h
  have hbf : (byFirst A P).length ≤ 7 := by
    rw [(byFirst_perm h).length_eq, List.length_range]; exact hA
  generalize T.lst (A.map arT) = V at hb ⊢
  generalize (List.range A.length).map (triT A) = W at hb hs
  have hiv : evIv (ev pg F 4000 (m + 11)) 0 [Ex.bi Bi.sorted [e15e]] [x0, x1, .v V, x3, x4, x5, x6, x7, x8, x9, x10, x11, .u, .u, x14, .u, .u] = .ok (.sq true (.f ((byFirst A P).map (triT A)))) [x0, x1, .v V, x3, x4, x5, x6, x7, x8, x9, x10, x11, .u, .u, x14, .u, .u] := by
    refine evIv_os (os := [.f ((byFirst A P).map (triT A))]) ?_ rfl
    simp only [PV.evOs, PV.evO, PL.ev_bi, PV.evPs]
    rw [hb]
    simp only [PL.ev_con, PL.ev_loc, PL.ev_dk0, PL.ev_dk1, PL.ev_lst, PL.ev_tup, PL.ev_bin, PL.ev_neg, PL.ev_cmp, PL.ev_chn, PL.ev_and, PL.ev_or, PL.ev_tand, PL.ev_tor, PL.ev_not, PL.ev_ite, PL.ev_isn, PL.ev_isb, PL.ev_isi, PL.ev_call, PL.ev_call1, PL.ev_bi, PL.ev_app, PL.ev_ext, PL.ev_pop, PL.ev_popA, PL.ev_idx, PL.ev_ixof, PL.ev_slc, PL.ev_rev, PV.evO, PV.evOs, PV.evP, PV.evPs, PV.evF, PV.evB, PV.evS, PL.r_ok_bind, PL.r_bad_bind, PL.rs_of_ok, PL.exs_nil, PL.exs_ex, PL.exs_retl, PL.exs_ret, PL.exs_asg, PL.exs_unp, PL.exs_par, PL.exs_set, PL.exs_aug, PL.exs_ite, PL.nxt_nx, PL.nxt_rt, PL.nxt_bk, PL.nxt_ct, PV.res, PV.ress, PV.frz, PV.frzs, PV.slotT, PV.ofA, PV.ofB, PV.ofT, PV.ofA?, PV.store1, PV.callWith, PV.argsOf, PV.argOf, PV.mutsOf, PV.lentOf, PV.isOwn, PV.putBack, PV.appC, PV.extC, PV.popC, PV.popAC, PV.setIx, PV.truth, PV.storeAll, PL.big_le_0, PL.big_le_1, PL.big_le_2, PL.big_le_3, PL.big_le_4, PL.big_le_5, PL.big_le_6, PL.big_le_7, PL.big_le_8, PL.big_le_9, PL.big_le_10, PL.big_le_11, PL.big_le_12, PL.big_le_13, PV.unpT, PV.compTurn, PV.bindTo, PV.setAll, PV.wipeE, PV.backE, PV.forTurn, PV.tupT, PV.startE, PV.slotOf, PV.endC, PV.mutsAt, PV.runF, List.getElem?_cons_zero, List.getElem?_cons_succ, List.getElem?_nil, Option.bind_some, Option.bind_none, Option.map_some, Option.map_none, List.set_cons_zero, List.set_cons_succ, List.isEmpty_nil, List.isEmpty_cons, if_true, if_false, List.replicate_succ, List.replicate_zero, List.length_cons, List.length_nil, Bool.not_true, Bool.not_false, Bool.and_true, Bool.and_false, Bool.true_and, Bool.false_and, reduceCtorEq, ne_eq, not_false_eq_true, implies_true, Bool.true_or, Bool.false_or, Bool.or_true, Bool.or_false, Nat.reduceAdd, Nat.reduceLeDiff, Nat.reduceSub, hs]
  have e : ((byFirst A P).map (triT A)).map oneF = (lv A P 1).map paT := by
    rw [lv_one, List.map_map, List.map_map]
    rfl
  rw [← e]
  refine ev_comp_map (ρ2 := [x0, x1, .v V, x3, x4, x5, x6, x7, x8, x9, x10, x11, .u, .u, x14, .u, .u]) (xs := (byFirst A P).map (triT A)) oneF hiv rfl (fun i => rfl) (fun x hx => ?_) (by rw [List.length_map]; omega) (by rw [List.length_map]; unfold big; omega) rfl
  obtain ⟨i, _, rfl⟩ := List.mem_map.mp hx
  exact turn15f F
theorem q7 {A : List (Nat × Nat)} {P : Nat} {r : Nat → Nat} (h : Web A P r) {x0 x1 x3 x4 x5 x6 x7 x9 x10 x11 : Sl} {ss : List Sm} : exs pg F 4000 60 54 (Sm.ite (Ex.cmp Cmp.ne e15d e15f) [Sm.ret (Ex.con (T.bl false))] [] :: ss) [x0, x1, .v (.lst (A.map arT)), x3, x4, x5, x6, x7, .o true ((told A P P).map paT), x9, x10, x11, .u, .u, .u, .u, .u] = exs pg F 4000 60 53 ss [x0, x1, .v (.lst (A.map arT)), x3, x4, x5, x6, x7, .o true ((told A P P).map paT), x9, x10, x11, .u, .u, .u, .u, .u] := by
  have h1 := e15d_ok F (m := 52) (i := 8) (o := .eq) (j := 1) (f := fun n => n == 1) (N := told A P P) (fun n => by
    rw [show (1 : Int) = ((1 : Nat) : Int) from rfl, eq_int]
    by_cases z : n = 1
    · rw [decide_eq_true z, beq_iff_eq.mpr z]
    · rw [decide_eq_false z, beq_eq_false_iff_ne.mpr z]) h.few' (x0 := x0) (x1 := x1) (x2 := .v (.lst (A.map arT))) (x3 := x3) (x4 := x4) (x5 := x5) (x6 := x6) (x7 := x7) (x8 := .o true ((told A P P).map paT)) (x9 := x9) (x10 := x10) (x11 := x11) (x13 := .u) (x15 := .u) (x16 := .u) rfl ⟨by decide, by decide⟩
  rw [told_one h] at h1
  have h2 := e15f_ok F (m := 47) (A := A) (P := P) h.few (fun q hq => (h.ok q hq).1) (x0 := x0) (x1 := x1) (x3 := x3) (x4 := x4) (x5 := x5) (x6 := x6) (x7 := x7) (x8 := .o true ((told A P P).map paT)) (x9 := x9) (x10 := x10) (x11 := x11) (x14 := .u)
  have hn := ne_self (okT_told (lv A P 1))
  generalize (lv A P 1).map paT = L at h1 h2 hn
  generalize (told A P P).map paT = D at h1 h2 ⊢
  generalize T.lst (A.map arT) = V at h1 h2 ⊢
  rw [exs_ite]
  have hc : evB (ev pg F 4000 60) (Ex.cmp Cmp.ne e15d e15f) [x0, x1, .v V, x3, x4, x5, x6, x7, .o true D, x9, x10, x11, .u, .u, .u, .u, .u] = .ok false [x0, x1, .v V, x3, x4, x5, x6, x7, .o true D, x9, x10, x11, .u, .u, .u, .u, .u] := by
    simp only [PV.evB, PV.evP, PV.evO, PL.ev_cmp, PV.evOs]
    rw [h1]
    simp only [PL.r_ok_bind]
    rw [h2]
    simp only [PL.ev_con, PL.ev_loc, PL.ev_dk0, PL.ev_dk1, PL.ev_lst, PL.ev_tup, PL.ev_bin, PL.ev_neg, PL.ev_cmp, PL.ev_chn, PL.ev_and, PL.ev_or, PL.ev_tand, PL.ev_tor, PL.ev_not, PL.ev_ite, PL.ev_isn, PL.ev_isb, PL.ev_isi, PL.ev_call, PL.ev_call1, PL.ev_bi, PL.ev_app, PL.ev_ext, PL.ev_pop, PL.ev_popA, PL.ev_idx, PL.ev_ixof, PL.ev_slc, PL.ev_rev, PV.evO, PV.evOs, PV.evP, PV.evPs, PV.evF, PV.evB, PV.evS, PL.r_ok_bind, PL.r_bad_bind, PL.rs_of_ok, PL.exs_nil, PL.exs_ex, PL.exs_retl, PL.exs_ret, PL.exs_asg, PL.exs_unp, PL.exs_par, PL.exs_set, PL.exs_aug, PL.exs_ite, PL.nxt_nx, PL.nxt_rt, PL.nxt_bk, PL.nxt_ct, PV.res, PV.ress, PV.frz, PV.frzs, PV.slotT, PV.ofA, PV.ofB, PV.ofT, PV.ofA?, PV.store1, PV.callWith, PV.argsOf, PV.argOf, PV.mutsOf, PV.lentOf, PV.isOwn, PV.putBack, PV.appC, PV.extC, PV.popC, PV.popAC, PV.setIx, PV.truth, PV.storeAll, PL.big_le_0, PL.big_le_1, PL.big_le_2, PL.big_le_3, PL.big_le_4, PL.big_le_5, PL.big_le_6, PL.big_le_7, PL.big_le_8, PL.big_le_9, PL.big_le_10, PL.big_le_11, PL.big_le_12, PL.big_le_13, PV.unpT, PV.compTurn, PV.bindTo, PV.setAll, PV.wipeE, PV.backE, PV.forTurn, PV.tupT, PV.startE, PV.slotOf, PV.endC, PV.mutsAt, PV.runF, List.getElem?_cons_zero, List.getElem?_cons_succ, List.getElem?_nil, Option.bind_some, Option.bind_none, Option.map_some, Option.map_none, List.set_cons_zero, List.set_cons_succ, List.isEmpty_nil, List.isEmpty_cons, if_true, if_false, List.replicate_succ, List.replicate_zero, List.length_cons, List.length_nil, Bool.not_true, Bool.not_false, Bool.and_true, Bool.and_false, Bool.true_and, Bool.false_and, reduceCtorEq, ne_eq, not_false_eq_true, implies_true, Bool.true_or, Bool.false_or, Bool.or_true, Bool.or_false, Nat.reduceAdd, Nat.reduceLeDiff, Nat.reduceSub, hn]
  rw [hc]
  simp only [PL.ev_con, PL.ev_loc, PL.ev_dk0, PL.ev_dk1, PL.ev_lst, PL.ev_tup, PL.ev_bin, PL.ev_neg, PL.ev_cmp, PL.ev_chn, PL.ev_and, PL.ev_or, PL.ev_tand, PL.ev_tor, PL.ev_not, PL.ev_ite, PL.ev_isn, PL.ev_isb, PL.ev_isi, PL.ev_call, PL.ev_call1, PL.ev_bi, PL.ev_app, PL.ev_ext, PL.ev_pop, PL.ev_popA, PL.ev_idx, PL.ev_ixof, PL.ev_slc, PL.ev_rev, PV.evO, PV.evOs, PV.evP, PV.evPs, PV.evF, PV.evB, PV.evS, PL.r_ok_bind, PL.r_bad_bind, PL.rs_of_ok, PL.exs_nil, PL.exs_ex, PL.exs_retl, PL.exs_ret, PL.exs_asg, PL.exs_unp, PL.exs_par, PL.exs_set, PL.exs_aug, PL.exs_ite, PL.nxt_nx, PL.nxt_rt, PL.nxt_bk, PL.nxt_ct, PV.res, PV.ress, PV.frz, PV.frzs, PV.slotT, PV.ofA, PV.ofB, PV.ofT, PV.ofA?, PV.store1, PV.callWith, PV.argsOf, PV.argOf, PV.mutsOf, PV.lentOf, PV.isOwn, PV.putBack, PV.appC, PV.extC, PV.popC, PV.popAC, PV.setIx, PV.truth, PV.storeAll, PL.big_le_0, PL.big_le_1, PL.big_le_2, PL.big_le_3, PL.big_le_4, PL.big_le_5, PL.big_le_6, PL.big_le_7, PL.big_le_8, PL.big_le_9, PL.big_le_10, PL.big_le_11, PL.big_le_12, PL.big_le_13, PV.unpT, PV.compTurn, PV.bindTo, PV.setAll, PV.wipeE, PV.backE, PV.forTurn, PV.tupT, PV.startE, PV.slotOf, PV.endC, PV.mutsAt, PV.runF, List.getElem?_cons_zero, List.getElem?_cons_succ, List.getElem?_nil, Option.bind_some, Option.bind_none, Option.map_some, Option.map_none, List.set_cons_zero, List.set_cons_succ, List.isEmpty_nil, List.isEmpty_cons, if_true, if_false, List.replicate_succ, List.replicate_zero, List.length_cons, List.length_nil, Bool.not_true, Bool.not_false, Bool.and_true, Bool.and_false, Bool.true_and, Bool.false_and, reduceCtorEq, ne_eq, not_false_eq_true, implies_true, Bool.true_or, Bool.false_or, Bool.or_true, Bool.or_false, Nat.reduceAdd, Nat.reduceLeDiff, Nat.reduceSub]
theorem q8 {D : List T} {x0 x1 x2 x3 x4 x5 x6 x7 : Sl} {r : List Sl} {ss : List Sm} (hD : D.length ≤ 10000) : exs pg F 4000 60 53 (Sm.ex (Ex.app 8 (Ex.con T.non)) :: ss) (x0 :: x1 :: x2 :: x3 :: x4 :: x5 :: x6 :: x7 :: .o true D :: r) = exs pg F 4000 60 52 ss (x0 :: x1 :: x2 :: x3 :: x4 :: x5 :: x6 :: x7 :: .o true (D ++ [.non]) :: r) := by
  have hb : D.length < big := by unfold big; omega
  rw [exs_ex]
  simp only [PL.ev_con, PL.ev_loc, PL.ev_dk0, PL.ev_dk1, PL.ev_lst, PL.ev_tup, PL.ev_bin, PL.ev_neg, PL.ev_cmp, PL.ev_chn, PL.ev_and, PL.ev_or, PL.ev_tand, PL.ev_tor, PL.ev_not, PL.ev_ite, PL.ev_isn, PL.ev_isb, PL.ev_isi, PL.ev_call, PL.ev_call1, PL.ev_bi, PL.ev_app, PL.ev_ext, PL.ev_pop, PL.ev_popA, PL.ev_idx, PL.ev_ixof, PL.ev_slc, PL.ev_rev, PV.evO, PV.evOs, PV.evP, PV.evPs, PV.evF, PV.evB, PV.evS, PL.r_ok_bind, PL.r_bad_bind, PL.rs_of_ok, PL.exs_nil, PL.exs_ex, PL.exs_retl, PL.exs_ret, PL.exs_asg, PL.exs_unp, PL.exs_par, PL.exs_set, PL.exs_aug, PL.exs_ite, PL.nxt_nx, PL.nxt_rt, PL.nxt_bk, PL.nxt_ct, PV.res, PV.ress, PV.frz, PV.frzs, PV.slotT, PV.ofA, PV.ofB, PV.ofT, PV.ofA?, PV.store1, PV.callWith, PV.argsOf, PV.argOf, PV.mutsOf, PV.lentOf, PV.isOwn, PV.putBack, PV.appC, PV.extC, PV.popC, PV.popAC, PV.setIx, PV.truth, PV.storeAll, PL.big_le_0, PL.big_le_1, PL.big_le_2, PL.big_le_3, PL.big_le_4, PL.big_le_5, PL.big_le_6, PL.big_le_7, PL.big_le_8, PL.big_le_9, PL.big_le_10, PL.big_le_11, PL.big_le_12, PL.big_le_13, PV.unpT, PV.compTurn, PV.bindTo, PV.setAll, PV.wipeE, PV.backE, PV.forTurn, PV.tupT, PV.startE, PV.slotOf, PV.endC, PV.mutsAt, PV.runF, List.getElem?_cons_zero, List.getElem?_cons_succ, List.getElem?_nil, Option.bind_some, Option.bind_none, Option.map_some, Option.map_none, List.set_cons_zero, List.set_cons_succ, List.isEmpty_nil, List.isEmpty_cons, if_true, if_false, List.replicate_succ, List.replicate_zero, List.length_cons, List.length_nil, Bool.not_true, Bool.not_false, Bool.and_true, Bool.and_false, Bool.true_and, Bool.false_and, reduceCtorEq, ne_eq, not_false_eq_true, implies_true, Bool.true_or, Bool.false_or, Bool.or_true, Bool.or_false, Nat.reduceAdd, Nat.reduceLeDiff, Nat.reduceSub, hb]
theorem q9 {P : Nat} {V : T} {D : List T} {s : Str} {x0 x3 x4 x5 x6 x8 : Sl} {r : List Sl} {ss : List Sm} (h : F 8 [.t (.int P), .t V] = .ok (.f D) []) (hn : cmpT .ne (.lst D) (.lst D) = some false) (hr : biT .repr [V] = some (.t (.str s))) (hs : cmpT .ne (.str s) (.str s) = some false) :
    exs pg F 4000 60 52 (Sm.ite t15c [Sm.ret (Ex.con (T.bl false))] [] :: ss) (x0 :: .v (.int P) :: .v V :: x3 :: x4 :: x5 :: x6 :: .o true D :: x8 :: .v (.str s) :: r) = exs pg F 4000 60 51 ss (x0 :: .v (.int P) :: .v V :: x3 :: x4 :: x5 :: x6 :: .o true D :: x8 :: .v (.str s) :: r) := by
  rw [exs_ite]
  simp only [PL.ev_con, PL.ev_loc, PL.ev_dk0, PL.ev_dk1, PL.ev_lst, PL.ev_tup, PL.ev_bin, PL.ev_neg, PL.ev_cmp, PL.ev_chn, PL.ev_and, PL.ev_or, PL.ev_tand, PL.ev_tor, PL.ev_not, PL.ev_ite, PL.ev_isn, PL.ev_isb, PL.ev_isi, PL.ev_call, PL.ev_call1, PL.ev_bi, PL.ev_app, PL.ev_ext, PL.ev_pop, PL.ev_popA, PL.ev_idx, PL.ev_ixof, PL.ev_slc, PL.ev_rev, PV.evO, PV.evOs, PV.evP, PV.evPs, PV.evF, PV.evB, PV.evS, PL.r_ok_bind, PL.r_bad_bind, PL.rs_of_ok, PL.exs_nil, PL.exs_ex, PL.exs_retl, PL.exs_ret, PL.exs_asg, PL.exs_unp, PL.exs_par, PL.exs_set, PL.exs_aug, PL.exs_ite, PL.nxt_nx, PL.nxt_rt, PL.nxt_bk, PL.nxt_ct, PV.res, PV.ress, PV.frz, PV.frzs, PV.slotT, PV.ofA, PV.ofB, PV.ofT, PV.ofA?, PV.store1, PV.callWith, PV.argsOf, PV.argOf, PV.mutsOf, PV.lentOf, PV.isOwn, PV.putBack, PV.appC, PV.extC, PV.popC, PV.popAC, PV.setIx, PV.truth, PV.storeAll, PL.big_le_0, PL.big_le_1, PL.big_le_2, PL.big_le_3, PL.big_le_4, PL.big_le_5, PL.big_le_6, PL.big_le_7, PL.big_le_8, PL.big_le_9, PL.big_le_10, PL.big_le_11, PL.big_le_12, PL.big_le_13, PV.unpT, PV.compTurn, PV.bindTo, PV.setAll, PV.wipeE, PV.backE, PV.forTurn, PV.tupT, PV.startE, PV.slotOf, PV.endC, PV.mutsAt, PV.runF, List.getElem?_cons_zero, List.getElem?_cons_succ, List.getElem?_nil, Option.bind_some, Option.bind_none, Option.map_some, Option.map_none, List.set_cons_zero, List.set_cons_succ, List.isEmpty_nil, List.isEmpty_cons, if_true, if_false, List.replicate_succ, List.replicate_zero, List.length_cons, List.length_nil, Bool.not_true, Bool.not_false, Bool.and_true, Bool.and_false, Bool.true_and, Bool.false_and, reduceCtorEq, ne_eq, not_false_eq_true, implies_true, Bool.true_or, Bool.false_or, Bool.or_true, Bool.or_false, Nat.reduceAdd, Nat.reduceLeDiff, Nat.reduceSub, hn, hr, hs, h, p8, List.contains_nil]
theorem q10 {N : List (Nat × List Nat)} (hl : N.length ≤ 1600) {x0 x1 x2 x3 x4 x5 x6 x8 x9 x10 x11 x13 x15 x16 : Sl} {ss : List Sm} : exs pg F 4000 60 51 (Sm.asg 10 e15g :: ss) [x0, x1, x2, x3, x4, x5, x6, .o true (N.map paT), x8, x9, x10, x11, .u, x13, .u, x15, x16] = exs pg F 4000 60 50 ss [x0, x1, x2, x3, x4, x5, x6, .o true (N.map paT), x8, x9, .o true ((N.filter fun q => decide (0 < q.2.length)).map paT), x11, .u, x13, .u, x15, x16] := by
  have h1 := e15d_ok F (m := 53) (i := 7) (o := .gt) (j := 0) (f := fun n => decide (0 < n)) (N := N) (fun n => by
    rw [cmp_gt]
    by_cases z : 0 < n
    · rw [decide_eq_true z, decide_eq_true (by omega)]
    · rw [decide_eq_false z, decide_eq_false (by omega)]) hl (x0 := x0) (x1 := x1) (x2 := x2) (x3 := x3) (x4 := x4) (x5 := x5) (x6 := x6) (x7 := .o true (N.map paT)) (x8 := x8) (x9 := x9) (x10 := x10) (x11 := x11) (x13 := x13) (x15 := x15) (x16 := x16) rfl ⟨by decide, by decide⟩
  rw [exs_asg, h1]
  simp only [PL.rs_of_ok, PV.store1, List.set_cons_zero, List.set_cons_succ, PL.nxt_nx]
omit F in
theorem eq_lst (l : List (Nat × List Nat)) : cmpT .eq (.lst (l.map paT)) (.lst []) = some l.isEmpty := by
  show (if okT 64 (.lst (l.map paT)) && okT 64 (.lst []) then some (eqT (.lst (l.map paT)) (.lst [])) else none) = _
  rw [okT_told]
  cases l <;> rfl
theorem q11y {V L : T} {n : Nat} {b : Bool} {x0 x1 x3 x4 x5 x6 x7 x8 x9 : Sl} {U : List T} {r : List Sl} {ss : List Sm} (h1 : cmpT .eq (.lst U) (.lst []) = some b) (hl : biT .len [V] = some (.t (.int n))) (hb : b = true ∨ 6 < n) : exs pg F 4000 60 50 (Sm.ite t15d [Sm.ret (Ex.con (T.bl true))] [] :: ss) (x0 :: x1 :: .v V :: x3 :: x4 :: x5 :: x6 :: x7 :: x8 :: x9 :: .o true U :: r) = .rt (.t (.bl true)) (x0 :: x1 :: .v V :: x3 :: x4 :: x5 :: x6 :: x7 :: x8 :: x9 :: .o true U :: r) := by
  rw [exs_ite]
  cases b with
  | true => simp only [PL.ev_con, PL.ev_loc, PL.ev_dk0, PL.ev_dk1, PL.ev_lst, PL.ev_tup, PL.ev_bin, PL.ev_neg, PL.ev_cmp, PL.ev_chn, PL.ev_and, PL.ev_or, PL.ev_tand, PL.ev_tor, PL.ev_not, PL.ev_ite, PL.ev_isn, PL.ev_isb, PL.ev_isi, PL.ev_call, PL.ev_call1, PL.ev_bi, PL.ev_app, PL.ev_ext, PL.ev_pop, PL.ev_popA, PL.ev_idx, PL.ev_ixof, PL.ev_slc, PL.ev_rev, PV.evO, PV.evOs, PV.evP, PV.evPs, PV.evF, PV.evB, PV.evS, PL.r_ok_bind, PL.r_bad_bind, PL.rs_of_ok, PL.exs_nil, PL.exs_ex, PL.exs_retl, PL.exs_ret, PL.exs_asg, PL.exs_unp, PL.exs_par, PL.exs_set, PL.exs_aug, PL.exs_ite, PL.nxt_nx, PL.nxt_rt, PL.nxt_bk, PL.nxt_ct, PV.res, PV.ress, PV.frz, PV.frzs, PV.slotT, PV.ofA, PV.ofB, PV.ofT, PV.ofA?, PV.store1, PV.callWith, PV.argsOf, PV.argOf, PV.mutsOf, PV.lentOf, PV.isOwn, PV.putBack, PV.appC, PV.extC, PV.popC, PV.popAC, PV.setIx, PV.truth, PV.storeAll, PL.big_le_0, PL.big_le_1, PL.big_le_2, PL.big_le_3, PL.big_le_4, PL.big_le_5, PL.big_le_6, PL.big_le_7, PL.big_le_8, PL.big_le_9, PL.big_le_10, PL.big_le_11, PL.big_le_12, PL.big_le_13, PV.unpT, PV.compTurn, PV.bindTo, PV.setAll, PV.wipeE, PV.backE, PV.forTurn, PV.tupT, PV.startE, PV.slotOf, PV.endC, PV.mutsAt, PV.runF, List.getElem?_cons_zero, List.getElem?_cons_succ, List.getElem?_nil, Option.bind_some, Option.bind_none, Option.map_some, Option.map_none, List.set_cons_zero, List.set_cons_succ, List.isEmpty_nil, List.isEmpty_cons, if_true, if_false, List.replicate_succ, List.replicate_zero, List.length_cons, List.length_nil, Bool.not_true, Bool.not_false, Bool.and_true, Bool.and_false, Bool.true_and, Bool.false_and, reduceCtorEq, ne_eq, not_false_eq_true, implies_true, Bool.true_or, Bool.false_or, Bool.or_true, Bool.or_false, Nat.reduceAdd, Nat.reduceLeDiff, Nat.reduceSub, h1]
  | false =>
    have hg : cmpT .gt (.int n) (.int 6) = some true := by
      rw [cmp_gt, decide_eq_true]
      rcases hb with z | z
      · cases z
      · omega
    simp only [PL.ev_con, PL.ev_loc, PL.ev_dk0, PL.ev_dk1, PL.ev_lst, PL.ev_tup, PL.ev_bin, PL.ev_neg, PL.ev_cmp, PL.ev_chn, PL.ev_and, PL.ev_or, PL.ev_tand, PL.ev_tor, PL.ev_not, PL.ev_ite, PL.ev_isn, PL.ev_isb, PL.ev_isi, PL.ev_call, PL.ev_call1, PL.ev_bi, PL.ev_app, PL.ev_ext, PL.ev_pop, PL.ev_popA, PL.ev_idx, PL.ev_ixof, PL.ev_slc, PL.ev_rev, PV.evO, PV.evOs, PV.evP, PV.evPs, PV.evF, PV.evB, PV.evS, PL.r_ok_bind, PL.r_bad_bind, PL.rs_of_ok, PL.exs_nil, PL.exs_ex, PL.exs_retl, PL.exs_ret, PL.exs_asg, PL.exs_unp, PL.exs_par, PL.exs_set, PL.exs_aug, PL.exs_ite, PL.nxt_nx, PL.nxt_rt, PL.nxt_bk, PL.nxt_ct, PV.res, PV.ress, PV.frz, PV.frzs, PV.slotT, PV.ofA, PV.ofB, PV.ofT, PV.ofA?, PV.store1, PV.callWith, PV.argsOf, PV.argOf, PV.mutsOf, PV.lentOf, PV.isOwn, PV.putBack, PV.appC, PV.extC, PV.popC, PV.popAC, PV.setIx, PV.truth, PV.storeAll, PL.big_le_0, PL.big_le_1, PL.big_le_2, PL.big_le_3, PL.big_le_4, PL.big_le_5, PL.big_le_6, PL.big_le_7, PL.big_le_8, PL.big_le_9, PL.big_le_10, PL.big_le_11, PL.big_le_12, PL.big_le_13, PV.unpT, PV.compTurn, PV.bindTo, PV.setAll, PV.wipeE, PV.backE, PV.forTurn, PV.tupT, PV.startE, PV.slotOf, PV.endC, PV.mutsAt, PV.runF, List.getElem?_cons_zero, List.getElem?_cons_succ, List.getElem?_nil, Option.bind_some, Option.bind_none, Option.map_some, Option.map_none, List.set_cons_zero, List.set_cons_succ, List.isEmpty_nil, List.isEmpty_cons, if_true, if_false, List.replicate_succ, List.replicate_zero, List.length_cons, List.length_nil, Bool.not_true, Bool.not_false, Bool.and_true, Bool.and_false, Bool.true_and, Bool.false_and, reduceCtorEq, ne_eq, not_false_eq_true, implies_true, Bool.true_or, Bool.false_or, Bool.or_true, Bool.or_false, Nat.reduceAdd, Nat.reduceLeDiff, Nat.reduceSub, h1, hl, hg]
theorem q11n {V : T} {n : Nat} {x0 x1 x3 x4 x5 x6 x7 x8 x9 : Sl} {U : List T} {r : List Sl} {ss : List Sm} (h1 : cmpT .eq (.lst U) (.lst []) = some false) (hl : biT .len [V] = some (.t (.int n))) (hb : n ≤ 6) : exs pg F 4000 60 50 (Sm.ite t15d [Sm.ret (Ex.con (T.bl true))] [] :: ss) (x0 :: x1 :: .v V :: x3 :: x4 :: x5 :: x6 :: x7 :: x8 :: x9 :: .o true U :: r) = exs pg F 4000 60 49 ss (x0 :: x1 :: .v V :: x3 :: x4 :: x5 :: x6 :: x7 :: x8 :: x9 :: .o true U :: r) := by
  have hg : cmpT .gt (.int n) (.int 6) = some false := by
    rw [cmp_gt, decide_eq_false (by omega)]
  rw [exs_ite]
  simp only [PL.ev_con, PL.ev_loc, PL.ev_dk0, PL.ev_dk1, PL.ev_lst, PL.ev_tup, PL.ev_bin, PL.ev_neg, PL.ev_cmp, PL.ev_chn, PL.ev_and, PL.ev_or, PL.ev_tand, PL.ev_tor, PL.ev_not, PL.ev_ite, PL.ev_isn, PL.ev_isb, PL.ev_isi, PL.ev_call, PL.ev_call1, PL.ev_bi, PL.ev_app, PL.ev_ext, PL.ev_pop, PL.ev_popA, PL.ev_idx, PL.ev_ixof, PL.ev_slc, PL.ev_rev, PV.evO, PV.evOs, PV.evP, PV.evPs, PV.evF, PV.evB, PV.evS, PL.r_ok_bind, PL.r_bad_bind, PL.rs_of_ok, PL.exs_nil, PL.exs_ex, PL.exs_retl, PL.exs_ret, PL.exs_asg, PL.exs_unp, PL.exs_par, PL.exs_set, PL.exs_aug, PL.exs_ite, PL.nxt_nx, PL.nxt_rt, PL.nxt_bk, PL.nxt_ct, PV.res, PV.ress, PV.frz, PV.frzs, PV.slotT, PV.ofA, PV.ofB, PV.ofT, PV.ofA?, PV.store1, PV.callWith, PV.argsOf, PV.argOf, PV.mutsOf, PV.lentOf, PV.isOwn, PV.putBack, PV.appC, PV.extC, PV.popC, PV.popAC, PV.setIx, PV.truth, PV.storeAll, PL.big_le_0, PL.big_le_1, PL.big_le_2, PL.big_le_3, PL.big_le_4, PL.big_le_5, PL.big_le_6, PL.big_le_7, PL.big_le_8, PL.big_le_9, PL.big_le_10, PL.big_le_11, PL.big_le_12, PL.big_le_13, PV.unpT, PV.compTurn, PV.bindTo, PV.setAll, PV.wipeE, PV.backE, PV.forTurn, PV.tupT, PV.startE, PV.slotOf, PV.endC, PV.mutsAt, PV.runF, List.getElem?_cons_zero, List.getElem?_cons_succ, List.getElem?_nil, Option.bind_some, Option.bind_none, Option.map_some, Option.map_none, List.set_cons_zero, List.set_cons_succ, List.isEmpty_nil, List.isEmpty_cons, if_true, if_false, List.replicate_succ, List.replicate_zero, List.length_cons, List.length_nil, Bool.not_true, Bool.not_false, Bool.and_true, Bool.and_false, Bool.true_and, Bool.false_and, reduceCtorEq, ne_eq, not_false_eq_true, implies_true, Bool.true_or, Bool.false_or, Bool.or_true, Bool.or_false, Nat.reduceAdd, Nat.reduceLeDiff, Nat.reduceSub, h1, hl, hg]
theorem q12 {p p' : List T} {U : List T} {a b : T} {x1 x2 x3 x4 x5 x6 x7 x8 x9 x11 x12 x13 x14 x15 x16 : Sl} {ss : List Sm} (h : F 11 [.f p, .t (.lst U)] = .ok (.t (.tup [a, b])) [p']) : exs pg F 4000 60 49 (Sm.unp [Tg.nm 11, Tg.nm 6] (Ex.call 11 [] [Ex.loc 0, Ex.loc 10]) :: ss) [.o false p, x1, x2, x3, x4, x5, x6, x7, x8, x9, .o true U, x11, x12, x13, x14, x15, x16] = exs pg F 4000 60 48 ss [.o false p', x1, x2, x3, x4, x5, .v b, x7, x8, x9, .v (.lst U), .v a, x12, x13, x14, x15, x16] := by
  rw [exs_unp]
  simp only [PL.ev_con, PL.ev_loc, PL.ev_dk0, PL.ev_dk1, PL.ev_lst, PL.ev_tup, PL.ev_bin, PL.ev_neg, PL.ev_cmp, PL.ev_chn, PL.ev_and, PL.ev_or, PL.ev_tand, PL.ev_tor, PL.ev_not, PL.ev_ite, PL.ev_isn, PL.ev_isb, PL.ev_isi, PL.ev_call, PL.ev_call1, PL.ev_bi, PL.ev_app, PL.ev_ext, PL.ev_pop, PL.ev_popA, PL.ev_idx, PL.ev_ixof, PL.ev_slc, PL.ev_rev, PV.evO, PV.evOs, PV.evP, PV.evPs, PV.evF, PV.evB, PV.evS, PL.r_ok_bind, PL.r_bad_bind, PL.rs_of_ok, PL.exs_nil, PL.exs_ex, PL.exs_retl, PL.exs_ret, PL.exs_asg, PL.exs_unp, PL.exs_par, PL.exs_set, PL.exs_aug, PL.exs_ite, PL.nxt_nx, PL.nxt_rt, PL.nxt_bk, PL.nxt_ct, PV.res, PV.ress, PV.frz, PV.frzs, PV.slotT, PV.ofA, PV.ofB, PV.ofT, PV.ofA?, PV.store1, PV.callWith, PV.argsOf, PV.argOf, PV.mutsOf, PV.lentOf, PV.isOwn, PV.putBack, PV.appC, PV.extC, PV.popC, PV.popAC, PV.setIx, PV.truth, PV.storeAll, PL.big_le_0, PL.big_le_1, PL.big_le_2, PL.big_le_3, PL.big_le_4, PL.big_le_5, PL.big_le_6, PL.big_le_7, PL.big_le_8, PL.big_le_9, PL.big_le_10, PL.big_le_11, PL.big_le_12, PL.big_le_13, PV.unpT, PV.compTurn, PV.bindTo, PV.setAll, PV.wipeE, PV.backE, PV.forTurn, PV.tupT, PV.startE, PV.slotOf, PV.endC, PV.mutsAt, PV.runF, List.getElem?_cons_zero, List.getElem?_cons_succ, List.getElem?_nil, Option.bind_some, Option.bind_none, Option.map_some, Option.map_none, List.set_cons_zero, List.set_cons_succ, List.isEmpty_nil, List.isEmpty_cons, if_true, if_false, List.replicate_succ, List.replicate_zero, List.length_cons, List.length_nil, Bool.not_true, Bool.not_false, Bool.and_true, Bool.and_false, Bool.true_and, Bool.false_and, reduceCtorEq, ne_eq, not_false_eq_true, implies_true, Bool.true_or, Bool.false_or, Bool.or_true, Bool.or_false, Nat.reduceAdd, Nat.reduceLeDiff, Nat.reduceSub, h, p11, List.contains_nil]
theorem q13 {P : Nat} {A : List (Nat × Nat)} {p i : Nat} {s : List Nat} (hs : s.getLast? = some i) (hi : i < A.length) (hA : A.length ≤ 7) {x0 x3 x4 x5 x7 x8 x9 x10 x12 x13 x14 x15 x16 : Sl} (h : F 14 [.t (.int P), .t (.lst ((A ++ [(endOf A p s, p)]).map arT))] = .ok (.t (.bl true)) []) : exs pg F 4000 60 48 [Sm.ret e15h] [x0, .v (.int P), .v (.lst (A.map arT)), x3, x4, x5, .v (stT s), x7, x8, x9, x10, .v (.int p), x12, x13, x14, x15, x16] = .rt (.t (.bl true)) [x0, .v (.int P), .v (.lst (A.map arT)), x3, x4, x5, .v (stT s), x7, x8, x9, x10, .v (.int p), x12, x13, x14, x15, x16] := by
  obtain ⟨q, hq⟩ : ∃ q, A[i]? = some q := ⟨_, List.getElem?_eq_getElem hi⟩
  have h1 : idxT (stT s) (.int (-(1 : Int))) = some (.int (i : Nat)) := by
    refine idx_last ?_
    unfold ins
    rw [List.getLast?_map, List.getLast?_map, hs]
    rfl
  have h2 : idxT (.lst (A.map arT)) (.int (i : Nat)) = some (.tup [.int q.1, .int q.2]) := idx_arr hq
  have he : endOf A p s = q.2 := by
    unfold endOf
    rw [hs]
    exact tgt_of (p := q.1) hq
  have hb : binT .add (.lst (A.map arT)) (.lst [.tup [.int q.2, .int p]]) = some (.f ((A ++ [(q.2, p)]).map arT)) := by
    show (if (A.map arT).length + 1 ≤ big then some (PV.A.f (A.map arT ++ [.tup [.int q.2, .int p]])) else none) = _
    rw [if_pos (by rw [List.length_map]; unfold big; omega), List.map_append]
    rfl
  rw [he] at h
  generalize T.lst (A.map arT) = V at h2 hb ⊢
  generalize (A ++ [(q.2, p)]).map arT = U at h hb
  generalize stT s = S at h1 ⊢
  rw [exs_ret _ (fun i => by simp)]
  simp only [PL.ev_con, PL.ev_loc, PL.ev_dk0, PL.ev_dk1, PL.ev_lst, PL.ev_tup, PL.ev_bin, PL.ev_neg, PL.ev_cmp, PL.ev_chn, PL.ev_and, PL.ev_or, PL.ev_tand, PL.ev_tor, PL.ev_not, PL.ev_ite, PL.ev_isn, PL.ev_isb, PL.ev_isi, PL.ev_call, PL.ev_call1, PL.ev_bi, PL.ev_app, PL.ev_ext, PL.ev_pop, PL.ev_popA, PL.ev_idx, PL.ev_ixof, PL.ev_slc, PL.ev_rev, PV.evO, PV.evOs, PV.evP, PV.evPs, PV.evF, PV.evB, PV.evS, PL.r_ok_bind, PL.r_bad_bind, PL.rs_of_ok, PL.exs_nil, PL.exs_ex, PL.exs_retl, PL.exs_ret, PL.exs_asg, PL.exs_unp, PL.exs_par, PL.exs_set, PL.exs_aug, PL.exs_ite, PL.nxt_nx, PL.nxt_rt, PL.nxt_bk, PL.nxt_ct, PV.res, PV.ress, PV.frz, PV.frzs, PV.slotT, PV.ofA, PV.ofB, PV.ofT, PV.ofA?, PV.store1, PV.callWith, PV.argsOf, PV.argOf, PV.mutsOf, PV.lentOf, PV.isOwn, PV.putBack, PV.appC, PV.extC, PV.popC, PV.popAC, PV.setIx, PV.truth, PV.storeAll, PL.big_le_0, PL.big_le_1, PL.big_le_2, PL.big_le_3, PL.big_le_4, PL.big_le_5, PL.big_le_6, PL.big_le_7, PL.big_le_8, PL.big_le_9, PL.big_le_10, PL.big_le_11, PL.big_le_12, PL.big_le_13, PV.unpT, PV.compTurn, PV.bindTo, PV.setAll, PV.wipeE, PV.backE, PV.forTurn, PV.tupT, PV.startE, PV.slotOf, PV.endC, PV.mutsAt, PV.runF, List.getElem?_cons_zero, List.getElem?_cons_succ, List.getElem?_nil, Option.bind_some, Option.bind_none, Option.map_some, Option.map_none, List.set_cons_zero, List.set_cons_succ, List.isEmpty_nil, List.isEmpty_cons, if_true, if_false, List.replicate_succ, List.replicate_zero, List.length_cons, List.length_nil, Bool.not_true, Bool.not_false, Bool.and_true, Bool.and_false, Bool.true_and, Bool.false_and, reduceCtorEq, ne_eq, not_false_eq_true, implies_true, Bool.true_or, Bool.false_or, Bool.or_true, Bool.or_false, Nat.reduceAdd, Nat.reduceLeDiff, Nat.reduceSub, h1, h2, hb, h, idx_t1, p14, List.contains_nil]
end
end K85

set_option Elab.async false
set_option linter.all false
set_option maxRecDepth 1000000
set_option maxHeartbeats 8000000
/-! k85: the law -/
namespace K85
open PV PySem PL
theorem f10n {n : Nat} (hn : 1 ≤ n) (p : List T) (m : Nat) (hp : Pot p) (h1 : 1 ≤ m) (h2 : m < 1000) : ∃ r p', r < m ∧ Pot p' ∧ Fo n 10 [.f p, .t (.int m)] = .ok (.t (.int r)) [p'] := by
  obtain ⟨d, rfl⟩ : ∃ d, n = d + 1 := ⟨n - 1, by omega⟩
  exact f10 d m hp h1 (by omega)
theorem f11n {n : Nat} (hn : 2 ≤ n) {p xs : List T} (hp : Pot p) (h1 : 1 ≤ xs.length) (h2 : xs.length < 100000) : ∃ x p', x ∈ xs ∧ Pot p' ∧ Fo n 11 [.f p, .t (.lst xs)] = .ok (.t x) [p'] := by
  obtain ⟨d, rfl⟩ : ∃ d, n = d + 2 := ⟨n - 2, by omega⟩
  exact f11 d hp h1 h2
theorem f12n {n : Nat} (hn : 4 ≤ n) {A : List (Nat × Nat)} {P : Nat} {r : Nat → Nat} (h : Web A P r) {p : Nat} (hp : p < P) : Fo n 12 [.t (.lst (A.map arT)), .t (.int p)] = .ok (.f ((fr A P p).map stT)) [] := by
  have h1 := h.one
  have h4 := h.four
  obtain ⟨m, rfl⟩ : ∃ m, P = m + 1 := ⟨P - 1, by omega⟩
  obtain ⟨d, rfl⟩ : ∃ d, n = d + (m + 1) := ⟨n - (m + 1), by omega⟩
  exact f12 h.few m d p (by omega) (h.end_ hp)
theorem f13n {n : Nat} (hn : 2 ≤ n) {p : List T} (hp : Pot p) : ∃ P A nm p', Pot p' ∧ 1 ≤ P ∧ P ≤ 4 ∧ A.length ≤ 7 ∧ nm.Perm (List.range P) ∧ Along nm A ∧ Fo n 13 [.f p] = .ok (.t (.tup [.int (P : Nat), .lst (A.map arT), .lst (nT nm)])) [p'] := by
  obtain ⟨d, rfl⟩ : ∃ d, n = d + 1 := ⟨n - 1, by omega⟩
  exact f13 (fun p m hp h1 h2 => f10n (by omega) p m hp h1 h2) hp
theorem start15 {x0 x1 : Sl} : True := trivial
theorem run15 (F : Orc) {p : List T} {P : Nat} {A : List (Nat × Nat)} {nm : List Nat} {r : Nat → Nat} {p1 : List T} (h : Web A P r) (hp1 : Pot p1)
    (h13 : F 13 [.f p] = .ok (.t (.tup [.int (P : Nat), .lst (A.map arT), .lst (nT nm)])) [p1])
    (h12 : ∀ q, q < P → F 12 [.t (.lst (A.map arT)), .t (.int q)] = .ok (.f ((fr A P q).map stT)) [])
    (h8 : ∀ k, F 8 [.t (.int P), .t (sqT k (A.map arT))] = .ok (.f ((told A P P).map paT)) [])
    (h11 : ∀ (p xs : List T), Pot p → 1 ≤ xs.length → xs.length < 100000 → ∃ x p', x ∈ xs ∧ Pot p' ∧ F 11 [.f p, .t (.lst xs)] = .ok (.t x) [p'])
    (h14 : ∀ B, Arr B P → ringF B 60 (List.range P) = true → F 14 [.t (.int P), .t (.lst (B.map arT))] = .ok (.t (.bl true)) []) :
    ∃ p' r', exs pg F 4000 60 60 c15 [.o false p, .u, .u, .u, .u, .u, .u, .u, .u, .u, .u, .u, .u, .u, .u, .u, .u] = .rt (.t (.bl true)) (.o false p' :: r') := by
  have hl := some_len (A := A) h.few h.four
  have hD := h.sho_told
  have hA := h.sho_arr
  have rD := hD.repr (by decide)
  have rA := hA.repr (by decide)
  have nD := ne_str hD.b
  have nA := ne_str hA.b
  have ne := ne_self (okT_told (told A P P))
  obtain ⟨x5, e3⟩ := q3 F (V := .lst (A.map arT)) (x0 := .o false p1) (x3 := .v (.lst (nT nm))) (g := fr A P) (ss := [Sm.asg 7 e15c, Sm.par 8 9 (Ex.call 8 [] [Ex.loc 1, Ex.loc 2]) (Ex.bi Bi.repr [Ex.loc 2]),
    Sm.ite t15a [Sm.ret (Ex.con (T.bl false))] [], Sm.ite (Ex.cmp Cmp.ne e15d e15f) [Sm.ret (Ex.con (T.bl false))] [], Sm.ex (Ex.app 8 (Ex.con T.non)), Sm.ite t15c [Sm.ret (Ex.con (T.bl false))] [], Sm.asg 10 e15g,
    Sm.ite t15d [Sm.ret (Ex.con (T.bl true))] [], Sm.unp [Tg.nm 11, Tg.nm 6] (Ex.call 11 [] [Ex.loc 0, Ex.loc 10]), Sm.ret e15h]) h.four (fun q hq => Nat.le_trans (fr_len h.few P q) (bd_le h.four)) h12
  have e3' : (pick P (fr A P)) = some_ A P P := rfl
  rw [e3'] at e3
  have hlen : biT .len [T.lst (A.map arT)] = some (.t (.int (A.length : Nat))) := len_sq true A
  have h8l : F 8 [.t (.int P), .t (.lst (A.map arT))] = .ok (.f ((told A P P).map paT)) [] := h8 true
  have h8t : F 8 [.t (.int P), .t (.tup (A.map arT))] = .ok (.f ((told A P P).map paT)) [] := h8 false
  have ltold : ((told A P P).map paT).length ≤ 10000 := by rw [List.length_map]; have := h.few'; omega
  rw [c15_eq, q1 F h13, q2, e3, q4 F hl, q5 F h8l rA, q6 F ne rD nD (show biT .tuple [T.lst (A.map arT)] = some (.t (.tup (A.map arT))) from rfl) h8t, q7 F h, q8 F ltold, q9 F h8l ne rA nA, q10 F h.few']
  have he := eq_lst ((told A P P).filter fun q => decide (0 < q.2.length))
  by_cases hc : ((told A P P).filter fun q => decide (0 < q.2.length)).isEmpty = true ∨ 6 < A.length
  · rw [q11y F (V := .lst (A.map arT)) (L := .non) he hlen hc]
    exact ⟨_, _, rfl⟩
  · have hc1 : ((told A P P).filter fun q => decide (0 < q.2.length)).isEmpty = false := Bool.eq_false_iff.mpr fun z => hc (.inl z)
    have hc2 : A.length ≤ 6 := by
      rcases Nat.lt_or_ge 6 A.length with z | z
      · exact absurd (.inr z) hc
      · exact z
    rw [hc1] at he
    rw [q11n F he hlen hc2]
    have h1 : 1 ≤ (((told A P P).filter fun q => decide (0 < q.2.length)).map paT).length := by
      rw [List.length_map]
      cases e : (told A P P).filter fun q => decide (0 < q.2.length) with
      | nil => rw [e] at hc1; cases hc1
      | cons _ _ => simp
    have h2 : (((told A P P).filter fun q => decide (0 < q.2.length)).map paT).length < 100000 := by
      rw [List.length_map]
      have := List.length_filter_le (fun q : Nat × List Nat => decide (0 < q.2.length)) (told A P P)
      have := h.few'
      omega
    obtain ⟨x, p2, hx, hp2, h11'⟩ := h11 p1 _ hp1 h1 h2
    obtain ⟨q, hq, rfl⟩ := List.mem_map.mp hx
    obtain ⟨hq1, hq2⟩ := List.mem_filter.mp hq
    have hpos := of_decide_eq_true hq2
    obtain ⟨hp, _, k, hk⟩ := told_mem hq1
    obtain ⟨i, hi⟩ : ∃ i, q.2.getLast? = some i := by
      cases e : q.2.getLast? with
      | some i => exact ⟨i, rfl⟩
      | none => rw [List.getLast?_eq_none_iff] at e; rw [e] at hpos; exact absurd hpos (by decide)
    have hlt := ch_valid k q.1 q.2 hk i (List.mem_of_getLast? hi)
    rw [q12 F (show F 11 [.f p1, .t (.lst (((told A P P).filter fun q => decide (0 < q.2.length)).map paT))] = .ok (.t (.tup [.int q.1, stT q.2])) [p2] from h11')]
    rw [q13 F hi hlt h.few (h14 _ (arr_back h.arr hc2 hp hk) (ring_back h.arr hp hk))]
    exact ⟨_, _, rfl⟩
theorem f15 {n : Nat} (hn : 10 ≤ n) {p : List T} (hp : Pot p) : ∃ p', Fo n 15 [.f p] = .ok (.t (.bl true)) [p'] := by
  obtain ⟨d, rfl⟩ : ∃ d, n = d + 1 := ⟨n - 1, by omega⟩
  obtain ⟨P, A, nm, p1, hp1, h1, h4, h7, hperm, hal, h13⟩ := f13n (n := d) (by omega) hp
  have h := web_of h1 h4 h7 hperm hal
  obtain ⟨p', r', e⟩ := run15 (Fo d) h hp1 h13 (fun q hq => f12n (by omega) h hq) (fun k => f8 (by omega) k h) (fun p xs hp h1 h2 => f11n (by omega) hp h1 h2) (fun B hB hr => f14 (by omega) hB hr)
  exact ⟨p', Fd_rt p15 rfl e rfl⟩
abbrev cLaw : Ex := .comp [1, 2] [2] false 1 [.bi .max2 [.con (.int 1), .bi .min2 [.con (.int 3), .bi .len [.loc 0]]]] none (.call1 15 (.call 9 [] [.loc 0, .loc 2]))
theorem c16_eq : c16 = [Sm.ret (Ex.bi Bi.all [cLaw])] := by kernel_rfl
theorem many (ns : List Int) : ∃ m : Nat, m ≤ 3 ∧ ∃ j : Int, biT .min2 [.int 3, .int (ns.length : Nat)] = some (.t (.int j)) ∧ biT .max2 [.int 1, .int j] = some (.t (.int (m : Nat))) := by
  refine ⟨if ns.length < 3 then (if 1 < ns.length then ns.length else 1) else 3, by split <;> (try split) <;> omega, if ((ns.length : Nat) : Int) < 3 then ((ns.length : Nat) : Int) else 3, rfl, ?_⟩
  show some (PV.A.t (.int (if (if ((ns.length : Nat) : Int) < 3 then ((ns.length : Nat) : Int) else 3) > 1 then (if ((ns.length : Nat) : Int) < 3 then ((ns.length : Nat) : Int) else 3) else 1))) = _
  by_cases h : ns.length < 3
  · rw [if_pos (show ((ns.length : Nat) : Int) < 3 by omega), if_pos h]
    by_cases h1 : 1 < ns.length
    · rw [if_pos (show ((ns.length : Nat) : Int) > 1 by omega), if_pos h1]
    · rw [if_neg (show ¬ ((ns.length : Nat) : Int) > 1 by omega), if_neg h1]; rfl
  · rw [if_neg (show ¬ ((ns.length : Nat) : Int) < 3 by omega), if_neg h]; rfl
theorem cLaw_ok (F : Orc) (m0 : Nat) {ns : List Int} (hF : ∀ k : Nat, k < 3 → ∃ p p', F 9 [.t (.scr ns), .t (.int (k : Nat))] = .ok (.f p) [] ∧ F 15 [.f p] = .ok (.t (.bl true)) [p']) : ∃ m, ev pg F 4000 (m0 + 10) cLaw [.v (.scr ns), .u, .u] = .ok (.f (((List.range m).map fun (i : Nat) => T.int (0 + i)).map fun _ => T.bl true)) [.v (.scr ns), .u, .u] := by
  obtain ⟨m, hm, j, hj1, hj2⟩ := many ns
  refine ⟨m, ?_⟩
  have hl : biT .len [.scr ns] = some (.t (.int (ns.length : Nat))) := rfl
  have hiv : evIv (ev pg F 4000 (m0 + 9)) 1 [.bi .max2 [.con (.int 1), .bi .min2 [.con (.int 3), .bi .len [.loc 0]]]] [.v (.scr ns), .u, .u] = .ok (.rg 0 m) [.v (.scr ns), .u, .u] := by
    refine evIv_x (t := .int (m : Nat)) ?_ (iv_range (by omega))
    simp only [PL.ev_con, PL.ev_loc, PL.ev_dk0, PL.ev_dk1, PL.ev_lst, PL.ev_tup, PL.ev_bin, PL.ev_neg, PL.ev_cmp, PL.ev_chn, PL.ev_and, PL.ev_or, PL.ev_tand, PL.ev_tor, PL.ev_not, PL.ev_ite, PL.ev_isn, PL.ev_isb, PL.ev_isi, PL.ev_call, PL.ev_call1, PL.ev_bi, PL.ev_app, PL.ev_ext, PL.ev_pop, PL.ev_popA, PL.ev_idx, PL.ev_ixof, PL.ev_slc, PL.ev_rev, PV.evO, PV.evOs, PV.evP, PV.evPs, PV.evF, PV.evB, PV.evS, PL.r_ok_bind, PL.r_bad_bind, PL.rs_of_ok, PL.exs_nil, PL.exs_ex, PL.exs_retl, PL.exs_ret, PL.exs_asg, PL.exs_unp, PL.exs_par, PL.exs_set, PL.exs_aug, PL.exs_ite, PL.nxt_nx, PL.nxt_rt, PL.nxt_bk, PL.nxt_ct, PV.res, PV.ress, PV.frz, PV.frzs, PV.slotT, PV.ofA, PV.ofB, PV.ofT, PV.ofA?, PV.store1, PV.callWith, PV.argsOf, PV.argOf, PV.mutsOf, PV.lentOf, PV.isOwn, PV.putBack, PV.appC, PV.extC, PV.popC, PV.popAC, PV.setIx, PV.truth, PV.storeAll, PL.big_le_0, PL.big_le_1, PL.big_le_2, PL.big_le_3, PL.big_le_4, PL.big_le_5, PL.big_le_6, PL.big_le_7, PL.big_le_8, PL.big_le_9, PL.big_le_10, PL.big_le_11, PL.big_le_12, PL.big_le_13, PV.unpT, PV.compTurn, PV.bindTo, PV.setAll, PV.wipeE, PV.backE, PV.forTurn, PV.tupT, PV.startE, PV.slotOf, PV.endC, PV.mutsAt, PV.runF, List.getElem?_cons_zero, List.getElem?_cons_succ, List.getElem?_nil, Option.bind_some, Option.bind_none, Option.map_some, Option.map_none, List.set_cons_zero, List.set_cons_succ, List.isEmpty_nil, List.isEmpty_cons, if_true, if_false, List.replicate_succ, List.replicate_zero, List.length_cons, List.length_nil, Bool.not_true, Bool.not_false, Bool.and_true, Bool.and_false, Bool.true_and, Bool.false_and, reduceCtorEq, ne_eq, not_false_eq_true, implies_true, Bool.true_or, Bool.false_or, Bool.or_true, Bool.or_false, Nat.reduceAdd, Nat.reduceLeDiff, Nat.reduceSub, hl, hj1, hj2]
  refine ev_comp_map (ρ2 := [.v (.scr ns), .u, .u]) (xs := (List.range m).map fun (i : Nat) => T.int (0 + i)) (fun _ => T.bl true) hiv rfl (fun i => rg7 _ i) (fun x hx => ?_) (by rw [List.length_map, List.length_range]; omega) (by rw [List.length_map, List.length_range]; exact Nat.le_trans hm (by decide)) rfl
  obtain ⟨k, hk, rfl⟩ := List.mem_map.mp hx
  have hk := List.mem_range.mp hk
  obtain ⟨p, p', h7, h19⟩ := hF k (by omega)
  have e0 : (T.int (0 + (k : Int))) = .int (k : Nat) := by rw [Int.zero_add]
  rw [e0]
  simp only [PL.ev_con, PL.ev_loc, PL.ev_dk0, PL.ev_dk1, PL.ev_lst, PL.ev_tup, PL.ev_bin, PL.ev_neg, PL.ev_cmp, PL.ev_chn, PL.ev_and, PL.ev_or, PL.ev_tand, PL.ev_tor, PL.ev_not, PL.ev_ite, PL.ev_isn, PL.ev_isb, PL.ev_isi, PL.ev_call, PL.ev_call1, PL.ev_bi, PL.ev_app, PL.ev_ext, PL.ev_pop, PL.ev_popA, PL.ev_idx, PL.ev_ixof, PL.ev_slc, PL.ev_rev, PV.evO, PV.evOs, PV.evP, PV.evPs, PV.evF, PV.evB, PV.evS, PL.r_ok_bind, PL.r_bad_bind, PL.rs_of_ok, PL.exs_nil, PL.exs_ex, PL.exs_retl, PL.exs_ret, PL.exs_asg, PL.exs_unp, PL.exs_par, PL.exs_set, PL.exs_aug, PL.exs_ite, PL.nxt_nx, PL.nxt_rt, PL.nxt_bk, PL.nxt_ct, PV.res, PV.ress, PV.frz, PV.frzs, PV.slotT, PV.ofA, PV.ofB, PV.ofT, PV.ofA?, PV.store1, PV.callWith, PV.argsOf, PV.argOf, PV.mutsOf, PV.lentOf, PV.isOwn, PV.putBack, PV.appC, PV.extC, PV.popC, PV.popAC, PV.setIx, PV.truth, PV.storeAll, PL.big_le_0, PL.big_le_1, PL.big_le_2, PL.big_le_3, PL.big_le_4, PL.big_le_5, PL.big_le_6, PL.big_le_7, PL.big_le_8, PL.big_le_9, PL.big_le_10, PL.big_le_11, PL.big_le_12, PL.big_le_13, PV.unpT, PV.compTurn, PV.bindTo, PV.setAll, PV.wipeE, PV.backE, PV.forTurn, PV.tupT, PV.startE, PV.slotOf, PV.endC, PV.mutsAt, PV.runF, List.getElem?_cons_zero, List.getElem?_cons_succ, List.getElem?_nil, Option.bind_some, Option.bind_none, Option.map_some, Option.map_none, List.set_cons_zero, List.set_cons_succ, List.isEmpty_nil, List.isEmpty_cons, if_true, if_false, List.replicate_succ, List.replicate_zero, List.length_cons, List.length_nil, Bool.not_true, Bool.not_false, Bool.and_true, Bool.and_false, Bool.true_and, Bool.false_and, reduceCtorEq, ne_eq, not_false_eq_true, implies_true, Bool.true_or, Bool.false_or, Bool.or_true, Bool.or_false, Nat.reduceAdd, Nat.reduceLeDiff, Nat.reduceSub, h7, p9, p15, h19]
theorem evO_ne {ih : Ex → Rho → PV.R PV.A} {e : Ex} (h : ∀ i, e ≠ .loc i) {ρ : Rho} : evO ih e ρ = (ih e ρ).bind fun a ρ => .ok (ofA a) ρ := by
  cases e <;> first | rfl | exact absurd rfl (h _)
theorem s16 (F : Orc) (c : Ex) (hc0 : ∀ i, c ≠ .loc i) {ns : List Int} {m : Nat} (hc : ev pg F 4000 59 c [.v (.scr ns), .u, .u] = .ok (.f (((List.range m).map fun (i : Nat) => T.int (0 + i)).map fun _ => T.bl true)) [.v (.scr ns), .u, .u]) : exs pg F 4000 60 60 [Sm.ret (Ex.bi Bi.all [c])] [.v (.scr ns), .u, .u] = .rt (.t (.bl true)) [.v (.scr ns), .u, .u] := by
  have ha := all_true ((List.range m).map fun (i : Nat) => T.int (0 + i))
  generalize (((List.range m).map fun (i : Nat) => T.int (0 + i)).map fun _ => T.bl true) = U at hc ha
  rw [exs_ret _ (fun i => by simp), ev_bi]
  simp only [PV.evPs, PV.evOs]
  rw [evO_ne hc0, hc]
  simp only [PL.ev_con, PL.ev_loc, PL.ev_dk0, PL.ev_dk1, PL.ev_lst, PL.ev_tup, PL.ev_bin, PL.ev_neg, PL.ev_cmp, PL.ev_chn, PL.ev_and, PL.ev_or, PL.ev_tand, PL.ev_tor, PL.ev_not, PL.ev_ite, PL.ev_isn, PL.ev_isb, PL.ev_isi, PL.ev_call, PL.ev_call1, PL.ev_bi, PL.ev_app, PL.ev_ext, PL.ev_pop, PL.ev_popA, PL.ev_idx, PL.ev_ixof, PL.ev_slc, PL.ev_rev, PV.evO, PV.evOs, PV.evP, PV.evPs, PV.evF, PV.evB, PV.evS, PL.r_ok_bind, PL.r_bad_bind, PL.rs_of_ok, PL.exs_nil, PL.exs_ex, PL.exs_retl, PL.exs_ret, PL.exs_asg, PL.exs_unp, PL.exs_par, PL.exs_set, PL.exs_aug, PL.exs_ite, PL.nxt_nx, PL.nxt_rt, PL.nxt_bk, PL.nxt_ct, PV.res, PV.ress, PV.frz, PV.frzs, PV.slotT, PV.ofA, PV.ofB, PV.ofT, PV.ofA?, PV.store1, PV.callWith, PV.argsOf, PV.argOf, PV.mutsOf, PV.lentOf, PV.isOwn, PV.putBack, PV.appC, PV.extC, PV.popC, PV.popAC, PV.setIx, PV.truth, PV.storeAll, PL.big_le_0, PL.big_le_1, PL.big_le_2, PL.big_le_3, PL.big_le_4, PL.big_le_5, PL.big_le_6, PL.big_le_7, PL.big_le_8, PL.big_le_9, PL.big_le_10, PL.big_le_11, PL.big_le_12, PL.big_le_13, PV.unpT, PV.compTurn, PV.bindTo, PV.setAll, PV.wipeE, PV.backE, PV.forTurn, PV.tupT, PV.startE, PV.slotOf, PV.endC, PV.mutsAt, PV.runF, List.getElem?_cons_zero, List.getElem?_cons_succ, List.getElem?_nil, Option.bind_some, Option.bind_none, Option.map_some, Option.map_none, List.set_cons_zero, List.set_cons_succ, List.isEmpty_nil, List.isEmpty_cons, if_true, if_false, List.replicate_succ, List.replicate_zero, List.length_cons, List.length_nil, Bool.not_true, Bool.not_false, Bool.and_true, Bool.and_false, Bool.true_and, Bool.false_and, reduceCtorEq, ne_eq, not_false_eq_true, implies_true, Bool.true_or, Bool.false_or, Bool.or_true, Bool.or_false, Nat.reduceAdd, Nat.reduceLeDiff, Nat.reduceSub, ha]
theorem plain (ns : List Int) (h : ns.length ≤ 63) : ∃ ms, Fd R.pg R.L R.n 13 16 [.t (.scr ns)] = .ok (.t (.bl true)) ms := by
  have hF : ∀ k : Nat, k < 3 → ∃ p p', Fo 12 9 [.t (.scr ns), .t (.int (k : Nat))] = .ok (.f p) [] ∧ Fo 12 15 [.f p] = .ok (.t (.bl true)) [p'] := fun k hk => by
    obtain ⟨p, hp, h7⟩ := f9 11 k ns hk
    obtain ⟨p', h19⟩ := f15 (n := 12) (by omega) hp
    exact ⟨p, p', h7, h19⟩
  obtain ⟨m, e⟩ := cLaw_ok (Fo 12) 49 hF
  refine ⟨[], ?_⟩
  show Fd pg 4000 60 (12 + 1) 16 [.t (.scr ns)] = _
  refine Fd_rt (ρ0 := [.v (.scr ns), .u, .u]) p16 rfl (ρ := [.v (.scr ns), .u, .u]) ?_ rfl
  show exs pg (Fo 12) 4000 60 60 c16 _ = _
  rw [c16_eq, s16 (Fo 12) cLaw (fun i => by simp) e]
end K85

set_option Elab.async false
set_option linter.all false
set_option maxRecDepth 1000000
set_option maxHeartbeats 0
open PySem PySem.W PySem.Calls PyProof.Rows
theorem PySem.Challenge.cw_producttables_k85_whole_paths_listed_holds : PySem.Challenge.rw_producttables_k85_whole_paths_listed.Holds := by
  w_on; o_law
  refine HandSHeadRun.head_any (r := K85.Rw) (q := view K85.Rw.prog [25]) (H := K85.hk) (ob := K85.ob) (M := 3000) (loose := K85.names) (d := HandSHeadRun.topDef K85.Rw.prog 25) (kwd := []) K85.ob_eq
    (by kernel_rfl) (fun s => by kernel_rfl) K85.run (by kernel_rfl) (by kernel_rfl) (by kernel_rfl) (by rfl) (by first | assumption | decide +kernel) (by decide +kernel) ⟨rfl, rfl, rfl, rfl, rfl, by decide +kernel⟩ ?hw ?hc
  case hw => w_witness2
  case hc =>
    refine PV.law_end (l := PySem.Challenge.rw_producttables_k85_whole_paths_listed) (most := 63) (dep := 15) (scr := "_law_script") rfl (by decide) (by kernel_rfl) ⟨rfl, by decide, by decide⟩ ?F
    intro w mg fa h Y G hmg0
    obtain ⟨K, KX, c, cx⟩ := Y
    have hmg : mg ("law" : PySem.Str) = some (.ref fa) := by
      have e : (HandSHeadRun.topDef K85.Rw.prog 25).name = ("law" : PySem.Str) := by kernel_rfl
      rw [← e]
      exact hmg0
    obtain ⟨fd, sp, hb, hs, hF⟩ := K85.ends (P := (PySem.Challenge.rw_producttables_k85_whole_paths_listed).prog) (w := w) (dep := 12) K85.plain KX G hmg c cx
    exact ⟨K, fd, sp, KX, hb, hs, hF⟩
