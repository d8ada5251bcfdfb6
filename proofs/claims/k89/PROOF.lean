import PyProof.Rows.All
import Wide.All
import OpenK.AllK
import Wide.FinOn
import PySem.Syntax
import HandS.Base
import HandS.Call
import HandS.List
import HandS.Comp
import HandS.Ends
import HandS.Iter
import HandS.Conv
import HandS.Exc
import HandS.ExcInit
import HandS.ExcOwn
import HandS.Deep
import HandS.DictTup
import HandS.TupLen
import HandS.Defaults
import KE.KDictPairs
import PyProof.ReprRoads
import HandS.Sort
import PyProof.Rows.SortShell
import HandS.TryMany
import HandS.Flow
import HandS.Style
import HandS.IsInst
import HandS.Wide
import HandS.Gcd
import HandS.Zip
import HandS.Words
import HandS.TupAny
import KE.KSortedM
import HandS.HeadEnd
import HandS.Head0
import HandS.Head1
import HandS.Head2
import HandS.HeadHook1
import HandS.HeadHook2
import HandS.HeadHook4
import PySem.Challenge.RW_producttables_k89_any_values_as_groups_o
set_option Elab.async false
set_option linter.all false
set_option maxRecDepth 100000
/-! PV, the values: trees without addresses; the codes; what they are worth. -/
namespace PV
open PySem

inductive T where
  | non | bl (b : Bool) | int (i : Int) | str (s : Str)
  | lst (xs : List T) | tup (xs : List T) | ins (c : Nat) (fs : List T)
  /-- the script -/
  | scr (ns : List Int)
  /-- dicts: keys are tuples; ints and texts -/
  | dit (ks : List (List (Sum Int Str))) (vs : List T) | dik (ks : List (Sum Int Str)) (vs : List T)
  deriving Inhabited

/-- a slot: nothing, a frozen tree, a list of one's own (k: it may be handed on; else the caller's, to be changed), a list lent -/
inductive Sl where
  | u | v (t : T) | o (k : Bool) (xs : List T) | b (xs : List T)
  deriving Inhabited
abbrev Rho := List Sl

inductive R (α : Type) where
  | ok (a : α) (e : Rho) | exc (c : Nat) (ts : List T) (e : Rho) | bad
def R.bind {α β : Type} (x : R α) (f : α → Rho → R β) : R β := match x with
  | .ok a e => f a e
  | .exc c ts e => .exc c ts e
  | .bad => .bad

/-- a result: a frozen tree, or a new list that nobody else holds -/
inductive A where
  | t (x : T) | f (xs : List T)
/-- an operand: the list in a slot (by reference), a tree, a new list -/
inductive Opd where
  | d (i : Nat) | x (t : T) | f (xs : List T)
/-- a call's end -/
inductive CR where
  | ok (r : A) (ms : List (List T)) | exc (c : Nat) (ts : List T) | bad
abbrev Orc := Nat → List A → CR

/-! ### codes -/
inductive Bin where | add | sub | mul | fdiv | mod | pow | shl
  deriving DecidableEq
inductive Cmp where | eq | ne | lt | le | gt | ge | isin | notin
  deriving DecidableEq
inductive Ty where | int | bool | str | list | tuple | cls (c : Nat)
  deriving DecidableEq
inductive Bi where | len | list | tuple | sorted | all | any | sum | max2 | min2 | abs | int | divmod | gcd | lcm | repr | str | lrange | trange | dict
  deriving DecidableEq

inductive Ex where
  | con (t : T)
  | loc (i : Nat)
  | dk0 | dk1 (k : Int) (e : Ex)
  | lst (es : List Ex) | tup (es : List Ex)
  | bin (o : Bin) (a b : Ex)
  | neg (a : Ex)
  | cmp (o : Cmp) (a b : Ex)
  | chn (o p : Cmp) (a b c : Ex)
  | and_ (a b : Ex) | or_ (a b : Ex) | not_ (a : Ex)
  /-- and, or where a test stands -/
  | tand (a b : Ex) | tor (a b : Ex)
  | ite (c a b : Ex)
  | isn (neg : Bool) (a : Ex)
  | isb (neg : Bool) (a : Ex) (k : Bool)
  | isi (a : Ex) (ts : List Ty)
  | call (f : Nat) (ps : List (Nat ⊕ T)) (es : List Ex)
  | call1 (f : Nat) (e : Ex)
  | mk (c : Nat) (ps : List (Nat ⊕ T)) (es : List Ex)
  | bi (b : Bi) (es : List Ex)
  | app (i : Nat) (e : Ex) | ext (i : Nat) (e : Ex) | pop (i : Nat) | popA (i : Nat) (e : Ex)
  | ixof (a e : Ex)
  | idx (a i : Ex)
  | slc (a : Ex) (lo hi : Option Ex)
  | rev (a : Ex)
  | comp (own : List Nat) (tg : List Nat) (tp : Bool) (k : Nat) (its : List Ex) (cond : Option Ex) (elt : Ex)
  | att (a : Ex) (f : Nat)
  | mth (a : Ex) (m : Nat) (ps : List (Nat ⊕ T)) (es : List Ex)

/-- targets of a store: a name, an item of a list in a slot -/
inductive Tg where
  | nm (i : Nat) | ix (i : Nat) (e : Ex)
inductive Sm where
  | ex (e : Ex) | ret (e : Ex) | retN
  | asg (i : Nat) (e : Ex)
  | unp (ts : List Tg) (e : Ex)
  | par (i j : Nat) (a b : Ex)
  | set (i : Nat) (ix e : Ex)
  | aug (i : Nat) (o : Bin) (e : Ex)
  | ite (c : Ex) (a b : List Sm)
  | whl (c : Ex) (b : List Sm)
  | for_ (tg : List Nat) (tp : Bool) (k : Nat) (its : List Ex) (b : List Sm)
  | rai (c : Nat) (es : List Ex)
  | try_ (b : List Sm) (hs : List (List Nat × Option Nat × List Sm))
  | pass | brk | cont

/-! ### plain values -/
mutual
/-- == -/
def eqT : T → T → Bool
  | .non, .non => true
  | .bl a, .bl b => a == b
  | .bl a, .int j => (if a then 1 else 0) == j
  | .int i, .bl b => i == (if b then 1 else 0)
  | .int i, .int j => i == j
  | .str x, .str y => x == y
  | .lst xs, .lst ys => eqTs xs ys
  | .tup xs, .tup ys => eqTs xs ys
  | _, _ => false
def eqTs : List T → List T → Bool
  | [], [] => true
  | x :: xs, y :: ys => eqT x y && eqTs xs ys
  | _, _ => false
end
def big : Nat := 16777216
def truth : T → Option Bool
  | .non => some false
  | .bl b => some b
  | .int i => some (i != 0)
  | .str s => if s.length ≤ big then some (!(s.length == 0)) else none
  | .lst xs => some (!xs.isEmpty)
  | .tup xs => some (!xs.isEmpty)
  | .ins _ _ => none
  | .scr ns => some (!ns.isEmpty)
  | _ => none
def itemsT : T → Option (List T)
  | .lst xs => some xs
  | .tup xs => some xs
  | _ => none
def listT : T → Option (List T)
  | .lst xs => some xs
  | _ => none
def intsT : List T → Option (List Int)
  | [] => some []
  | .int i :: r => (intsT r).map (i :: ·)
  | _ :: _ => none
def boolsT : List T → Option (List Bool)
  | [] => some []
  | .bl i :: r => (boolsT r).map (i :: ·)
  | _ :: _ => none
def okMul (i j : Int) : Bool := decide (i.natAbs.log2 + j.natAbs.log2 < 1000000)
def repT (xs : List T) : Nat → List T
  | 0 => []
  | n + 1 => xs ++ repT xs n
def binT : Bin → T → T → Option A
  | .add, .int i, .int j => some (.t (.int (i + j)))
  | .add, .str i, .str j => if i.length + j.length ≤ big then some (.t (.str (i ++ j))) else none
  | .add, .lst i, .lst j => if i.length + j.length ≤ big then some (.f (i ++ j)) else none
  | .add, .tup i, .tup j => if i.length + j.length ≤ big then some (.t (.tup (i ++ j))) else none
  | .sub, .int i, .int j => some (.t (.int (i - j)))
  | .mul, .int i, .int j => if okMul i j then some (.t (.int (i * j))) else none
  | .mul, .lst i, .int j => if i.length * j.toNat ≤ big ∧ -(2 ^ 63) ≤ j ∧ j < 2 ^ 63 then some (.f (repT i j.toNat)) else none
  | .fdiv, .int i, .int j => if 0 < j ∧ j.natAbs.log2 < 9000 then some (.t (.int (i / j))) else none
  | .mod, .int i, .int j => if 0 < j then some (.t (.int (i % j))) else none
  | .pow, .int i, .int j => if 0 ≤ j ∧ j ≤ 1000000 ∧ i.natAbs < 2 ^ 64 then some (.t (.int (i ^ j.toNat))) else none
  | .shl, .int i, .int j => if 0 ≤ j ∧ j ≤ 1000000 ∧ i.natAbs < 2 ^ 64 then some (.t (.int (i * 2 ^ j.toNat))) else none
  | _, _, _ => none
def anyEq (x : T) (ys : List T) : Bool := ys.any fun y => eqT y x
def strB (x : Str) : Bool := x.cps.all (· < 0x110000)
/-- data that == goes through: no instance, at most so deep -/
def okT : Nat → T → Bool
  | _, .non => true
  | _, .bl _ => true
  | _, .int _ => true
  | _, .str s => strB s
  | n + 1, .lst xs => xs.all (okT n)
  | n + 1, .tup xs => xs.all (okT n)
  | _, _ => false
def flatT : T → Bool
  | .non => true
  | .bl _ => true
  | .int _ => true
  | .str _ => true
  | _ => false
/-- a key -/
def kyT : T → Option (Sum Int Str)
  | .int i => some (.inl i)
  | .str s => some (.inr s)
  | _ => none
def kysT : List T → Option (List (Sum Int Str))
  | [] => some []
  | x :: xs => match kyT x, kysT xs with
    | some k, some ks => some (k :: ks)
    | _, _ => none
def tkT : T → Option (List (Sum Int Str))
  | .tup xs => kysT xs
  | _ => none
def inT (x : T) : T → Option Bool
  | .dit ks vs => (tkT x).map fun k => ks.any fun j => decide (j = k)
  | .lst ys => if okT 63 x && ys.all (okT 63) then some (anyEq x ys) else none
  | .tup ys => if flatT x && ys.all flatT then some (anyEq x ys) else none
  | _ => none
def cmpT : Cmp → T → T → Option Bool
  | .eq, x, y => if okT 64 x && okT 64 y then some (eqT x y) else none
  | .ne, x, y => if okT 64 x && okT 64 y then some (!eqT x y) else none
  | .lt, .int i, .int j => some (decide (i < j))
  | .le, .int i, .int j => some (decide (i ≤ j))
  | .gt, .int i, .int j => some (decide (j < i))
  | .ge, .int i, .int j => some (decide (j ≤ i))
  | .isin, x, y => inT x y
  | .notin, x, y => (inT x y).map not
  | _, _, _ => none
def isTy : T → Ty → Bool
  | .int _, .int => true
  | .bl _, .int => true
  | .bl _, .bool => true
  | .str _, .str => true
  | .lst _, .list => true
  | .tup _, .tuple => true
  | .ins c _, .cls d => c == d
  | _, _ => false
def ixN (n : Nat) (i : Int) : Option Nat := if 0 ≤ i then (if i < n then some i.toNat else none) else if -(n : Int) ≤ i then some (i + n).toNat else none
def idxT : T → T → Option T
  | .lst xs, .int i => (ixN xs.length i).bind fun j => xs[j]?
  | .tup xs, .int i => (ixN xs.length i).bind fun j => xs[j]?
  | .scr xs, .int i => (ixN xs.length i).bind fun j => (xs[j]?).map .int
  | _, _ => none
def sIx (n d : Nat) : Option Int → Nat
  | none => d
  | some i => if i < 0 then (i + (n : Int)).toNat else min i.toNat n
def cut (xs : List T) (lo hi : Option Int) : List T := (xs.drop (sIx xs.length 0 lo)).take (sIx xs.length xs.length hi - sIx xs.length 0 lo)

/-! ### data, their texts -/
mutual
def toD : T → PyData
  | .non => .none
  | .bl b => .bool b
  | .int i => .int i
  | .str s => .str s
  | .lst xs => .list (toDs xs)
  | .tup xs => .tuple (toDs xs)
  | _ => .none
def toDs : List T → List PyData
  | [] => []
  | x :: xs => toD x :: toDs xs
end
def reprT (x : T) : Option Str := if okT 63 x && (toD x).showable && decide ((toD x).shown.length ≤ big) then some (toD x).shown else none

/-! ### operands -/
def slotT : Sl → Option T
  | .u => none
  | .v t => some t
  | .o _ xs => some (.lst xs)
  | .b xs => some (.lst xs)
/-- what an operand is, now -/
def res (ρ : Rho) : Opd → Option T
  | .d i => (ρ[i]?).bind slotT
  | .x t => some t
  | .f xs => some (.lst xs)
/-- .. handed on: the list in the slot is frozen -/
def frz (ρ : Rho) : Opd → Option (T × Rho)
  | .d i => match ρ[i]? with
    | some (.v t) => some (t, ρ)
    | some (.o true xs) => some (.lst xs, ρ.set i (.v (.lst xs)))
    | _ => none
  | .x t => some (t, ρ)
  | .f xs => some (.lst xs, ρ)
def frzs (ρ : Rho) : List Opd → Option (List T × Rho)
  | [] => some ([], ρ)
  | o :: os => match frz ρ o with
    | some (t, ρ) => match frzs ρ os with
      | some (ts, ρ) => some (t :: ts, ρ)
      | none => none
    | none => none
def ress (ρ : Rho) : List Opd → Option (List T)
  | [] => some []
  | o :: os => match res ρ o with
    | some t => match ress ρ os with
      | some ts => some (t :: ts)
      | none => none
    | none => none
def ofA : A → Opd
  | .t x => .x x
  | .f xs => .f xs
def asT : A → T
  | .t x => x
  | .f xs => .lst xs
section
variable (ih : Ex → Rho → R A)
def evO (e : Ex) (ρ : Rho) : R Opd := match e with
  | .loc i => match (ρ[i]?).bind slotT with
    | some _ => .ok (.d i) ρ
    | none => .bad
  | e => (ih e ρ).bind fun a ρ => .ok (ofA a) ρ
def evOs : List Ex → Rho → R (List Opd)
  | [], ρ => .ok [] ρ
  | e :: es, ρ => (evO ih e ρ).bind fun o ρ => (evOs es ρ).bind fun os ρ => .ok (o :: os) ρ
/-- a tree of an operand, to be read at once -/
def evP (e : Ex) (ρ : Rho) : R T := (evO ih e ρ).bind fun o ρ => match res ρ o with
  | some t => .ok t ρ
  | none => .bad
def evPs (es : List Ex) (ρ : Rho) : R (List T) := (evOs ih es ρ).bind fun os ρ => match ress ρ os with
  | some ts => .ok ts ρ
  | none => .bad
/-- a tree to be kept -/
def evF (e : Ex) (ρ : Rho) : R T := (evO ih e ρ).bind fun o ρ => match frz ρ o with
  | some (t, ρ) => .ok t ρ
  | none => .bad
/-- a test -/
def evB (e : Ex) (ρ : Rho) : R Bool := (evP ih e ρ).bind fun t ρ => match truth t with
  | some b => .ok b ρ
  | none => .bad
end
/-- a slice's part -/
def evS (ih : Ex → Rho → R A) (e : Option Ex) (ρ : Rho) : R (Option Int) := match e with
  | none => .ok none ρ
  | some e => (evP ih e ρ).bind fun t ρ => match t with
    | .int i => .ok (some i) ρ
    | _ => .bad
def cutT (x : T) (lo hi : Option Int) : Option A := match x with
  | .lst xs => some (.f (cut xs lo hi))
  | .tup xs => some (.t (.tup (cut xs lo hi)))
  | _ => none
def findT (y : T) : List T → Option Nat
  | [] => none
  | x :: xs => if eqT x y then some 0 else (findT y xs).map (· + 1)
def ixofT : T → T → Option T
  | .lst xs, y => if okT 63 y && xs.all (okT 63) then (findT y xs).map fun (j : Nat) => T.int (j : Int) else none
  | _, _ => none
def isiT (x : T) (ts : List Ty) : Option Bool := match x with
  | .ins _ _ => none
  | .scr _ => none
  | x => some (ts.any (isTy x))
def ofT (o : Option T) (ρ : Rho) : R A := match o with
  | some t => .ok (.t t) ρ
  | none => .bad
def ofA? (o : Option A) (ρ : Rho) : R A := match o with
  | some a => .ok a ρ
  | none => .bad
def ofB (o : Option Bool) (ρ : Rho) : R A := match o with
  | some b => .ok (.t (.bl b)) ρ
  | none => .bad

/-! ### what a loop walks -/
/-- k: a list (else a tuple) -/
inductive Iv where
  | sq (k : Bool) (o : Opd) | rg (lo : Int) (n : Nat) | en (o : Opd) | zp (a b : Opd)
def tupT : T → Option (List T)
  | .tup xs => some xs
  | _ => none
/-- the turn's item: none: it is at its end -/
def turnAt (ρ : Rho) (i : Nat) : Iv → Option (Option T)
  | .sq true o => ((res ρ o).bind listT).map fun xs => xs[i]?
  | .sq false o => ((res ρ o).bind tupT).map fun xs => xs[i]?
  | .rg lo n => some (if i < n then some (.int (lo + i)) else none)
  | .en o => ((res ρ o).bind listT).map fun xs => (xs[i]?).map fun x => .tup [.int i, x]
  | .zp a b => match (res ρ a).bind listT, (res ρ b).bind listT with
    | some xs, some ys => some (match xs[i]?, ys[i]? with
      | some x, some y => some (.tup [x, y])
      | _, _ => none)
    | _, _ => none
def ivOf (k : Nat) (ρ : Rho) (os : List Opd) : Option Iv := match k, os with
  | 0, [o] => match res ρ o with
    | some (.lst _) => some (.sq true o)
    | some (.tup _) => some (.sq false o)
    | _ => none
  | 1, [o] => match res ρ o with
    | some (.int j) => if -(2 ^ 62) ≤ j ∧ j < 2 ^ 62 then some (.rg 0 j.toNat) else none
    | _ => none
  | 2, [a, b] => match res ρ a, res ρ b with
    | some (.int i), some (.int j) => if -(2 ^ 62) ≤ i ∧ i < 2 ^ 62 ∧ -(2 ^ 62) ≤ j ∧ j < 2 ^ 62 then some (.rg i (j - i).toNat) else none
    | _, _ => none
  | 3, [o] => match res ρ o with
    | some (.lst _) => some (.en o)
    | _ => none
  | 4, [a, b] => match res ρ a, res ρ b with
    | some (.lst _), some (.lst _) => some (.zp a b)
    | _, _ => none
  | _, _ => none
/-- a walk over what is there; over what is handed on -/
def evIv (ih : Ex → Rho → R A) (k : Nat) (its : List Ex) (ρ : Rho) : R Iv := (evOs ih its ρ).bind fun os ρ => match ivOf k ρ os with
  | some iv => .ok iv ρ
  | none => .bad
def evIf (ih : Ex → Rho → R A) (k : Nat) (its : List Ex) (ρ : Rho) : R Iv := (evOs ih its ρ).bind fun os ρ => match frzs ρ os with
  | some (ts, ρ) => match ivOf k ρ (ts.map .x) with
    | some iv => .ok iv ρ
    | none => .bad
  | none => .bad
/-- the walk's things do not stand in these slots -/
def ivFree (own : List Nat) : Iv → Bool
  | .sq _ (.d i) => !own.contains i
  | .sq _ _ => true
  | .rg _ _ => true
  | .en (.d i) => !own.contains i
  | .en _ => true
  | .zp (.d i) (.d j) => !own.contains i && !own.contains j
  | .zp (.d i) _ => !own.contains i
  | .zp _ (.d j) => !own.contains j
  | .zp _ _ => true
def setAll : List Nat → List T → Rho → Option Rho
  | [], [], ρ => some ρ
  | i :: is, t :: ts, ρ => setAll is ts (ρ.set i (.v t))
  | _, _, _ => none
def bindTo (tg : List Nat) (tp : Bool) (t : T) (ρ : Rho) : Option Rho := match tp with
  | false => match tg with
    | [i] => some (ρ.set i (.v t))
    | _ => none
  | true => match t with
    | .tup ts => setAll tg ts ρ
    | _ => none
def wipeE (ρ : Rho) : List Nat → Rho
  | [] => ρ
  | v :: vs => (wipeE ρ vs).set v .u

/-- no lists of one's own in these slots -/
def plainSl (own : List Nat) (ρ : Rho) : Bool := own.all fun v => match ρ[v]? with
  | some (.o _ _) => false
  | some (.b _) => false
  | _ => true
/-- the slots as they were -/
def backE (ρ0 ρ : Rho) : List Nat → Rho
  | [] => ρ
  | v :: vs => (backE ρ0 ρ vs).set v ((ρ0[v]?).getD .u)
/-- a comprehension's turns -/
def compL (turn : T → Rho → R (Option T)) (iv : Iv) : Nat → Nat → List T → Rho → R A
  | 0, _, _, _ => .bad
  | m + 1, i, acc, ρ => match turnAt ρ i iv with
    | none => .bad
    | some none => .ok (.f acc) ρ
    | some (some t) => match turn t ρ with
      | .ok (some y) ρ => if acc.length < big then compL turn iv m (i + 1) (acc ++ [y]) ρ else .bad
      | .ok none ρ => compL turn iv m (i + 1) acc ρ
      | _ => .bad

/-! ### calls -/
/-- the operands in the parameters' order -/
def place (os : List Opd) : List (Nat ⊕ T) → Option (List Opd)
  | [] => some []
  | .inl k :: r => match os[k]? with
    | some o => (place os r).map (o :: ·)
    | none => none
  | .inr t :: r => (place os r).map (.x t :: ·)
/-- a parameter: handed on; lent; to be changed -/
inductive Md where | val | bor | chg
  deriving DecidableEq
/-- one argument; the slot that the callee may change -/
def argOf (ρ : Rho) : Md → Opd → Option (A × Rho)
  | .val, o => (frz ρ o).map fun p => (.t p.1, p.2)
  | .bor, .d i => match ρ[i]? with
    | some (.v t) => some (.t t, ρ)
    | some (.o _ xs) => some (.f xs, ρ)
    | some (.b xs) => some (.f xs, ρ)
    | _ => none
  | .bor, .x t => some (.t t, ρ)
  | .bor, .f xs => some (.t (.lst xs), ρ)
  | .chg, .d i => match ρ[i]? with
    | some (.o _ xs) => some (.f xs, ρ)
    | _ => none
  | .chg, _ => none
def argsOf (ρ : Rho) : List Md → List Opd → Option (List A × Rho)
  | [], [] => some ([], ρ)
  | m :: ms, o :: os => match argOf ρ m o with
    | some (a, ρ) => match argsOf ρ ms os with
      | some (as, ρ) => some (a :: as, ρ)
      | none => none
    | none => none
  | _, _ => none
/-- the slots lent to be changed -/
def mutsOf : List Md → List Opd → List Nat
  | .chg :: ms, .d i :: os => i :: mutsOf ms os
  | _ :: ms, _ :: os => mutsOf ms os
  | _, _ => []
def lentOf : List Md → List Opd → List Nat
  | .bor :: ms, .d i :: os => i :: lentOf ms os
  | _ :: ms, _ :: os => lentOf ms os
  | _, _ => []
def isOwn (ρ : Rho) (i : Nat) : Bool := match ρ[i]? with
  | some (.o _ _) => true
  | _ => false
def putBack (i : Nat) (xs : List T) (ρ : Rho) : Rho := match ρ[i]? with
  | some (.o k _) => ρ.set i (.o k xs)
  | _ => ρ
def callWith (F : Orc) (f : Nat) (md : List Md) (os : List Opd) (ρ : Rho) : R A := match argsOf ρ md os with
  | none => .bad
  | some (as, ρ) => match mutsOf md os with
    | [] => match F f as with
      | .ok r _ => .ok r ρ
      | .exc c ts => .exc c ts ρ
      | .bad => .bad
    | [i] => match isOwn ρ i && !(lentOf md os).contains i with
      | false => .bad
      | true => match F f as with
        | .ok r [xs] => .ok r (putBack i xs ρ)
        | .exc c ts => .exc c ts (ρ.set i .u)
        | _ => .bad
    | _ => .bad
end PV

set_option Elab.async false
set_option linter.all false
set_option maxRecDepth 100000
/-! PV, the evaluator. -/
namespace PV
open PySem
/-- a def: how many slots, its parameters' modes, its body -/
structure Fc where
  slots : Nat
  md : List Md
  body : List Sm
/-- what a program has besides: of each class its fields' number, its __init__; properties, methods, own errors' classes -/
structure Pg where
  fns : List Fc
  /-- is the class c one of these -/
  sub : Nat → List Nat → Bool
  att : Nat → Nat → Option (Nat ⊕ Nat)
  mth : Nat → Nat → Option Nat
  mkr : Nat → Option Nat
  flds : Nat → Nat

def insI (x : Int) : List Int → List Int
  | [] => [x]
  | y :: ys => if x ≤ y then x :: y :: ys else y :: insI x ys
def sortI : List Int → List Int
  | [] => []
  | x :: xs => insI x (sortI xs)
def sumI : List Int → Int
  | [] => 0
  | x :: xs => x + sumI xs
/-- d[k] = v -/
def putD (m : List (List (Sum Int Str) × T)) (k : List (Sum Int Str)) (v : T) : List (List (Sum Int Str) × T) :=
  if (m.any fun p => decide (p.1 = k)) = true then m.map (fun p => if p.1 = k then (p.1, v) else p) else m ++ [(k, v)]
def pairsD : List T → Option (List (List (Sum Int Str) × T))
  | [] => some []
  | .tup [k, v] :: r => match tkT k, pairsD r with
    | some k, some m => some ((k, v) :: m)
    | _, _ => none
  | _ :: _ => none
def dictD (m : List (List (Sum Int Str) × T)) : List (List (Sum Int Str) × T) := m.foldl (fun d p => putD d p.1 p.2) []
def biT : Bi → List T → Option A
  | .len, [.dit ks vs] => some (.t (.int ks.length))
  | .repr, [x] => (reprT x).map fun s => .t (.str s)
  | .dict, [.lst xs] => if xs.length ≤ big then (pairsD xs).map fun m => .t (.dit ((dictD m).map (·.1)) ((dictD m).map (·.2))) else none
  | .len, [.lst xs] => some (.t (.int xs.length))
  | .len, [.tup xs] => some (.t (.int xs.length))
  | .len, [.scr xs] => some (.t (.int xs.length))
  | .list, [x] => (itemsT x).map .f
  | .tuple, [x] => (itemsT x).map fun xs => .t (.tup xs)
  | .sorted, [x] => ((itemsT x).bind intsT).bind fun is => if is.length < 64 then some (.f ((sortI is).map .int)) else none
  | .all, [.lst xs] => (boolsT xs).map fun bs => .t (.bl (bs.all id))
  | .any, [.lst xs] => (boolsT xs).map fun bs => .t (.bl (bs.any id))
  | .sum, [.lst xs] => (intsT xs).map fun is => .t (.int (sumI is))
  | .max2, [.int i, .int j] => some (.t (.int (if j > i then j else i)))
  | .min2, [.int i, .int j] => some (.t (.int (if j < i then j else i)))
  | .abs, [.int i] => some (.t (.int (if i < 0 then -i else i)))
  | .int, [.int i] => some (.t (.int i))
  | .int, [.bl b] => some (.t (.int (if b then 1 else 0)))
  | .divmod, [.int i, .int j] => if 0 < j ∧ j < 1073741824 then some (.t (.tup [.int (i / j), .int (i % j)])) else none
  | .lrange, [.int j] => if 0 ≤ j ∧ j ≤ 16777216 then some (.f ((List.range j.toNat).map fun (k : Nat) => T.int k)) else none
  | .trange, [.int j] => if 0 ≤ j ∧ j ≤ 16777216 then some (.t (.tup ((List.range j.toNat).map fun (k : Nat) => T.int k))) else none
  | _, _ => none

def appC (i : Nat) (t : T) (ρ : Rho) : R A := match ρ[i]? with
  | some (.o k xs) => if xs.length < big then .ok (.t .non) (ρ.set i (.o k (xs ++ [t]))) else .bad
  | _ => .bad
def extC (i : Nat) (t : T) (ρ : Rho) : R A := match ρ[i]?, t with
  | some (.o k xs), .lst ys => if xs.length + ys.length ≤ big then .ok (.t .non) (ρ.set i (.o k (xs ++ ys))) else .bad
  | _, _ => .bad
def popC (i : Nat) (ρ : Rho) : R A := match ρ[i]? with
  | some (.o k xs) => match xs[xs.length - 1]? with
    | some t => .ok (.t t) (ρ.set i (.o k xs.dropLast))
    | none => .bad
  | _ => .bad
def popAC (i : Nat) (t : T) (ρ : Rho) : R A := match ρ[i]?, t with
  | some (.o k xs), .int j => match ixN xs.length j with
    | some m => match xs[m]? with
      | some t => if xs.length ≤ big then .ok (.t t) (ρ.set i (.o k (xs.eraseIdx m))) else .bad
      | none => .bad
    | none => .bad
  | _, _ => .bad
/-- a turn of a comprehension -/
def compTurn (ih : Ex → Rho → R A) (own tg : List Nat) (tp : Bool) (cond : Option Ex) (elt : Ex) (t : T) (ρ : Rho) : R (Option T) := match bindTo tg tp t ρ with
  | none => .bad
  | some ρ => match cond with
    | none => (evF ih elt ρ).bind fun y ρ => .ok (some y) (wipeE ρ own)
    | some c => (evB ih c ρ).bind fun b ρ => match b with
      | true => (evF ih elt ρ).bind fun y ρ => .ok (some y) (wipeE ρ own)
      | false => .ok none (wipeE ρ own)
section
variable (P : Pg) (F : Orc) (L : Nat)
def ev : Nat → Ex → Rho → R A
  | 0, _, _ => .bad
  | n + 1, e, ρ => match e with
    | .con t => .ok (.t t) ρ
    | .loc i => match frz ρ (.d i) with
      | some (t, ρ) => .ok (.t t) ρ
      | none => .bad
    | .dk0 => .ok (.t (.dit [] [])) ρ
    | .dk1 k e => (evF (ev n) e ρ).bind fun t ρ => .ok (.t (.dik [.inl k] [t])) ρ
    | .lst es => (evOs (ev n) es ρ).bind fun os ρ => match frzs ρ os with
      | some (ts, ρ) => if ts.length ≤ big then .ok (.f ts) ρ else .bad
      | none => .bad
    | .tup es => (evOs (ev n) es ρ).bind fun os ρ => match frzs ρ os with
      | some (ts, ρ) => if ts.length ≤ big then .ok (.t (.tup ts)) ρ else .bad
      | none => .bad
    | .bin o a b => (evOs (ev n) [a, b] ρ).bind fun os ρ => match ress ρ os with
      | some [x, y] => ofA? (binT o x y) ρ
      | _ => .bad
    | .neg a => (evP (ev n) a ρ).bind fun x ρ => match x with
      | .int i => .ok (.t (.int (-i))) ρ
      | _ => .bad
    | .cmp o a b => (evOs (ev n) [a, b] ρ).bind fun os ρ => match ress ρ os with
      | some [x, y] => ofB (cmpT o x y) ρ
      | _ => .bad
    | .chn o p a b c => (evOs (ev n) [a, b] ρ).bind fun os ρ => match os with
      | [oa, ob] => match res ρ oa, res ρ ob with
        | some x, some y => match cmpT o x y with
          | some true => (evO (ev n) c ρ).bind fun oc ρ => match res ρ ob, res ρ oc with
            | some y, some z => ofB (cmpT p y z) ρ
            | _, _ => .bad
          | some false => .ok (.t (.bl false)) ρ
          | none => .bad
        | _, _ => .bad
      | _ => .bad
    | .and_ a b => (evP (ev n) a ρ).bind fun x ρ => match x with
      | .bl true => ev n b ρ
      | .bl false => .ok (.t (.bl false)) ρ
      | _ => .bad
    | .or_ a b => (evP (ev n) a ρ).bind fun x ρ => match x with
      | .bl true => .ok (.t (.bl true)) ρ
      | .bl false => ev n b ρ
      | _ => .bad
    | .tand a b => (evB (ev n) a ρ).bind fun x ρ => match x with
      | true => (evB (ev n) b ρ).bind fun y ρ => .ok (.t (.bl y)) ρ
      | false => .ok (.t (.bl false)) ρ
    | .tor a b => (evB (ev n) a ρ).bind fun x ρ => match x with
      | true => .ok (.t (.bl true)) ρ
      | false => (evB (ev n) b ρ).bind fun y ρ => .ok (.t (.bl y)) ρ
    | .not_ a => (evB (ev n) a ρ).bind fun x ρ => .ok (.t (.bl (!x))) ρ
    | .ite c a b => (evB (ev n) c ρ).bind fun x ρ => match x with
      | true => ev n a ρ
      | false => ev n b ρ
    | .isn neg a => (evP (ev n) a ρ).bind fun x ρ => match x with
      | .non => .ok (.t (.bl (!neg))) ρ
      | _ => .ok (.t (.bl neg)) ρ
    | .isb neg a k => (evP (ev n) a ρ).bind fun x ρ => match x with
      | .bl j => .ok (.t (.bl (neg != (j == k)))) ρ
      | _ => .bad
    | .isi a ts => (evP (ev n) a ρ).bind fun x ρ => ofB (isiT x ts) ρ
    | .call f ps es => (evOs (ev n) es ρ).bind fun os ρ => match (if ps.isEmpty then some os else place os ps), P.fns[f]? with
      | some os, some fc => callWith F f fc.md os ρ
      | _, _ => .bad
    | .call1 f e => (ev n e ρ).bind fun a ρ => match P.fns[f]?, a with
      | some fc, .f xs => match fc.md with
        | [.chg] => match F f [.f xs] with
          | .ok r [_] => .ok r ρ
          | .exc c ts => .exc c ts ρ
          | _ => .bad
        | _ => .bad
      | _, _ => .bad
    | .bi b es => (evPs (ev n) es ρ).bind fun ts ρ => ofA? (biT b ts) ρ
    | .app i e => match isOwn ρ i with
      | false => .bad
      | true => (evF (ev n) e ρ).bind (appC i)
    | .ext i e => match isOwn ρ i with
      | false => .bad
      | true => (evP (ev n) e ρ).bind (extC i)
    | .pop i => popC i ρ
    | .popA i e => match isOwn ρ i with
      | false => .bad
      | true => (evP (ev n) e ρ).bind (popAC i)
    | .idx a i => (evOs (ev n) [a, i] ρ).bind fun os ρ => match ress ρ os with
      | some [x, y] => ofT (idxT x y) ρ
      | _ => .bad
    | .ixof a i => (evO (ev n) a ρ).bind fun o ρ => match res ρ o with
      | some (.lst _) => (evP (ev n) i ρ).bind fun y ρ => match res ρ o with
        | some x => ofT (ixofT x y) ρ
        | none => .bad
      | _ => .bad
    | .slc a lo hi => (evO (ev n) a ρ).bind fun o ρ => (evS (ev n) lo ρ).bind fun l ρ => (evS (ev n) hi ρ).bind fun h ρ => match res ρ o with
      | some x => ofA? (cutT x l h) ρ
      | none => .bad
    | .rev a => (evP (ev n) a ρ).bind fun x ρ => match x with
      | .lst xs => .ok (.f xs.reverse) ρ
      | _ => .bad
    | .comp own tg tp k its cond elt => (evIv (ev n) k its ρ).bind fun iv ρ0 => match ivFree own iv && plainSl own ρ0 with
      | false => .bad
      | true => match compL (compTurn (ev n) own tg tp cond elt) iv L 0 [] (wipeE ρ0 own) with
        | .ok a ρ => .ok a (backE ρ0 ρ own)
        | _ => .bad
    | _ => .bad

inductive RS where
  | nx (ρ : Rho) | rt (a : A) (ρ : Rho) | bk (ρ : Rho) | ct (ρ : Rho) | exc (c : Nat) (ts : List T) (ρ : Rho) | bad
def RS.of {α : Type} (x : R α) (f : α → Rho → RS) : RS := match x with
  | .ok a ρ => f a ρ
  | .exc c ts ρ => .exc c ts ρ
  | .bad => .bad
def store1 (i : Nat) (a : A) (ρ : Rho) : Rho := match a with
  | .t x => ρ.set i (.v x)
  | .f xs => ρ.set i (.o true xs)
def setIx (i : Nat) (j : Int) (t : T) (ρ : Rho) : Option Rho := match ρ[i]? with
  | some (.o k xs) => (ixN xs.length j).map fun m => ρ.set i (.o k (xs.set m t))
  | _ => none
def unpT : T → Option (List T) := tupT
def storeAll (ih : Ex → Rho → R A) : List Tg → List T → Rho → R Unit
  | [], [], ρ => .ok () ρ
  | .nm i :: r, t :: ts, ρ => storeAll ih r ts (ρ.set i (.v t))
  | .ix i e :: r, t :: ts, ρ => match isOwn ρ i with
    | false => .bad
    | true => (evP ih e ρ).bind fun j ρ => match j with
      | .int j => match setIx i j t ρ with
        | some ρ => storeAll ih r ts ρ
        | none => .bad
      | _ => .bad
  | _, _, _ => .bad
def whlL (test : Rho → R Bool) (body : Rho → RS) : Nat → Rho → RS
  | 0, _ => .bad
  | m + 1, ρ => RS.of (test ρ) fun b ρ => match b with
    | false => .nx ρ
    | true => match body ρ with
      | .nx ρ => whlL test body m ρ
      | .ct ρ => whlL test body m ρ
      | .bk ρ => .nx ρ
      | r => r
def forL (turn : T → Rho → RS) (iv : Iv) : Nat → Nat → Rho → RS
  | 0, _, _ => .bad
  | m + 1, i, ρ => match turnAt ρ i iv with
    | none => .bad
    | some none => .nx ρ
    | some (some t) => match turn t ρ with
      | .nx ρ => forL turn iv m (i + 1) ρ
      | .ct ρ => forL turn iv m (i + 1) ρ
      | .bk ρ => .nx ρ
      | r => r
def augC (i : Nat) (o : Bin) (a : Int) (t : T) (ρ : Rho) : RS := match t, o with
  | .int b, .add => .nx (ρ.set i (.v (.int (a + b))))
  | .int b, .sub => .nx (ρ.set i (.v (.int (a - b))))
  | _, _ => .bad
def forTurn (tg : List Nat) (tp : Bool) (body : Rho → RS) (t : T) (ρ : Rho) : RS := match bindTo tg tp t ρ with
  | none => .bad
  | some ρ => body ρ
def hdlr (P : Pg) (c : Nat) (ts : List T) (run : List Sm → Rho → RS) : List (List Nat × Option Nat × List Sm) → Rho → RS
  | [], ρ => .exc c ts ρ
  | (cs, i, b) :: r, ρ => match P.sub c cs with
    | true => match i with
      | none => run b ρ
      | some i => run b (ρ.set i (.v (.ins c ts)))
    | false => hdlr P c ts run r ρ

def exs (n0 : Nat) : Nat → List Sm → Rho → RS
  | 0, _, _ => .bad
  | n + 1, ss, ρ => match ss with
    | [] => .nx ρ
    | s :: r => match (match s with
      | .ex e => RS.of (ev P F L n0 e ρ) fun _ ρ => .nx ρ
      | .ret e => match e with
        | .loc i => match ρ[i]? with
          | some (.o true xs) => .rt (.f xs) ρ
          | some (.v t) => .rt (.t t) ρ
          | _ => .bad
        | e => RS.of (ev P F L n0 e ρ) fun a ρ => .rt a ρ
      | .retN => .rt (.t .non) ρ
      | .asg i e => RS.of (ev P F L n0 e ρ) fun a ρ => .nx (store1 i a ρ)
      | .unp ts e => RS.of (evF (ev P F L n0) e ρ) fun t ρ => match unpT t with
        | some xs => if xs.length = ts.length then RS.of (storeAll (ev P F L n0) ts xs ρ) fun _ ρ => .nx ρ else .bad
        | none => .bad
      | .par i j a b => RS.of (ev P F L n0 a ρ) fun x ρ => RS.of (ev P F L n0 b ρ) fun y ρ => .nx (store1 j y (store1 i x ρ))
      | .set i k e => RS.of (evF (ev P F L n0) e ρ) fun t ρ => RS.of (storeAll (ev P F L n0) [.ix i k] [t] ρ) fun _ ρ => .nx ρ
      | .aug i o e => match (ρ[i]?).bind slotT with
        | some (.int a) => RS.of (evP (ev P F L n0) e ρ) fun t ρ => augC i o a t ρ
        | _ => .bad
      | .ite c a b => RS.of (evB (ev P F L n0) c ρ) fun x ρ => match x with
        | true => exs n0 n a ρ
        | false => exs n0 n b ρ
      | .whl c b => whlL (evB (ev P F L n0) c) (exs n0 n b) L ρ
      | .for_ tg tp k its b => RS.of (evIf (ev P F L n0) k its ρ) fun iv ρ => forL (forTurn tg tp (exs n0 n b)) iv L 0 ρ
      | .rai c es => RS.of (evOs (ev P F L n0) es ρ) fun os ρ => match frzs ρ os with
        | some (ts, ρ) => .exc c ts ρ
        | none => .bad
      | .try_ b hs => match exs n0 n b ρ with
        | .exc c ts ρ => hdlr P c ts (exs n0 n) hs ρ
        | x => x
      | .pass => .nx ρ
      | .brk => .bk ρ
      | .cont => .ct ρ) with
      | .nx ρ => exs n0 n r ρ
      | x => x
end
def slotOf : Md → A → Option Sl
  | .chg, .f xs => some (.o false xs)
  | .bor, .f xs => some (.b xs)
  | .chg, .t _ => none
  | .val, .f _ => none
  | _, .t x => some (.v x)
def startE (slots : Nat) : List Md → List A → Option Rho
  | [], [] => some (List.replicate slots .u)
  | m :: ms, a :: as => match slots with
    | 0 => none
    | k + 1 => match startE k ms as, slotOf m a with
      | some ρ, some s => some (s :: ρ)
      | _, _ => none
  | _, _ => none
def mutsAt : Nat → List Md → Rho → Option (List (List T))
  | _, [], _ => some []
  | i, .chg :: ms, ρ => match ρ[i]? with
    | some (.o false xs) => (mutsAt (i + 1) ms ρ).map (xs :: ·)
    | _ => none
  | i, _ :: ms, ρ => mutsAt (i + 1) ms ρ
def endC (fc : Fc) (a : A) (ρ : Rho) : CR := match mutsAt 0 fc.md ρ with
  | some ms => .ok a ms
  | none => .bad
def runF (P : Pg) (F : Orc) (L n : Nat) (fc : Fc) (as : List A) : CR := match startE fc.slots fc.md as with
  | none => .bad
  | some ρ => match exs P F L n n fc.body ρ with
    | .nx ρ => endC fc (.t .non) ρ
    | .rt a ρ => endC fc a ρ
    | .exc c ts _ => .exc c ts
    | _ => .bad
/-- calls nested d deep -/
def Fd (P : Pg) (L n : Nat) : Nat → Orc
  | 0, _, _ => .bad
  | d + 1, f, as => match P.fns[f]? with
    | some fc => runF P (Fd P L n d) L n fc as
    | none => .bad
end PV

set_option Elab.async false
set_option linter.all false
set_option maxRecDepth 100000
set_option maxHeartbeats 1000000
/-! PV, new rules of the layer: dict of pairs, repr of data. -/
namespace PV
open PySem PySem.Spec PyProof.Rows
theorem vals_of_refs : ∀ {as : List Addr} {its : List Value}, L2.Vals (as.map L2.V.ref) its → its = as.map Value.ref
  | [], _, h => by cases h; rfl
  | a :: as, _, h => by
    cases h with
    | cons r t =>
      rw [vals_of_refs t, show _ = Value.ref a from r]
      rfl
/-- a pair as it lies: its tuple, its key, the key's tuple, its value -/
abbrev Pr := Addr × List L2.Key × Addr × L2.V
def dictV (m : List (List L2.Key × L2.V)) : List (List L2.Key × L2.V) := m.foldl (fun d p => L2.putK d p.1 p.2) []
def rDict (xs : List L2.V) (H : L2.Hp) (Q : L2.VK) : Prop := ∃ (a : Addr) (ts : List Pr), xs = [.ref a] ∧ H a = some (.lst ((ts.map (·.1)).map L2.V.ref)) ∧
  (∀ t ∈ ts, H t.1 = some (.tup [.ref t.2.2.1, t.2.2.2]) ∧ H t.2.2.1 = some (.tup (t.2.1.map L2.kV))) ∧ ∀ p, H p = none → Q (.ref p) (L2.upd H p (.dT (dictV (ts.map fun t => (t.2.1, t.2.2.2)))))
theorem pair_vals {P : Program} {w : World} {H : L2.Hp} {h : Heap} (ok : L2.HOk P w H h) : ∀ ts : List Pr, (∀ t ∈ ts, H t.1 = some (.tup [.ref t.2.2.1, t.2.2.2])) →
    ∃ zs : List (Pr × Value), zs.map (·.1) = ts ∧ ∀ z ∈ zs, L2.RelV z.1.2.2.2 z.2 ∧ h.IsTuple z.1.1 #[.ref z.1.2.2.1, z.2]
  | [], _ => ⟨[], rfl, fun z hz => nomatch hz⟩
  | t :: ts, ht => by
    obtain ⟨zs, e1, e2⟩ := pair_vals ok ts fun t h => ht t (List.mem_cons_of_mem _ h)
    obtain ⟨_, its, rv, ob, g1, g2, n, g3⟩ := (show L2.ObjOk P w H h t.1 (.tup [.ref t.2.2.1, t.2.2.2]) from ok _ _ (ht t List.mem_cons_self))
    cases rv with
    | cons r1 r2 =>
      cases r2 with
      | cons r2 r3 =>
        cases r3
        cases (show _ = Value.ref _ from r1)
        rename_i bv
        refine ⟨(t, bv) :: zs, by rw [List.map_cons, e1], fun z hz => ?_⟩
        rcases List.mem_cons.mp hz with rfl | hz
        · exact ⟨r2, ob, g1, g2, n, g3⟩
        · exact e2 z hz
theorem kt_all {H : L2.Hp} : ∀ (zs : List (Pr × Value)) (kvs : List (List L2.Key × L2.V)) (xs : List (List L2.Key × Addr × Value)), L2.KT H kvs xs → (∀ z ∈ zs, L2.RelV z.1.2.2.2 z.2 ∧ H z.1.2.2.1 = some (.tup (z.1.2.1.map L2.kV))) →
    L2.KT H ((zs.map fun z => (z.1.2.1, z.1.2.2.2)).foldl (fun d p => L2.putK d p.1 p.2) kvs) (storedAllH xs (zs.map fun z => (z.1.2.1, z.1.2.2.1, z.2)))
  | [], _, _, h, _ => h
  | z :: zs, kvs, xs, h, hz => by
    obtain ⟨h1, h2⟩ := hz z List.mem_cons_self
    exact kt_all zs _ _ (L2.KT.put h z.1.2.1 h2 h1) fun z h => hz z (List.mem_cons_of_mem _ h)
section
variable {X : L2.Cx}
theorem call_dict (hc : X.calm = true) (hu : X.A.units + 65 < cLine) : L2.CallR X (.type "dict") rDict := by
  intro pins s σ H xs us Q I r h
  obtain ⟨a, ts, rfl, ha, ht, q⟩ := h
  obtain ⟨u, rfl, rx⟩ := L2.vals1 r
  obtain rfl : u = .ref a := rx
  obtain ⟨hz, its, n, rv, hob⟩ := (show L2.ObjOk X.prog X.w H s.heap a (.lst ((ts.map (·.1)).map L2.V.ref)) from I.hok a _ ha)
  have ei := vals_of_refs rv
  obtain ⟨zs, ez, hzs⟩ := pair_vals I.hok ts fun t h => (ht t h).1
  have htz : ∀ z ∈ zs, H z.1.2.2.1 = some (.tup (z.1.2.1.map L2.kV)) := fun z h => (ht z.1 (by rw [← ez]; exact List.mem_map_of_mem h)).2
  have lz : zs.length = ts.length := by rw [← ez, List.length_map]
  have ln : zs.length ≤ sizeLine := by rw [List.length_map, List.length_map, ← lz] at hz; exact hz
  let pv : List (Value × Value) := zs.map fun z => (Value.ref z.1.2.2.1, z.2)
  let ps : List (List L2.Key × Addr × Value) := zs.map fun z => (z.1.2.1, z.1.2.2.1, z.2)
  let Ts : Nat → Addr := fun j => ((zs[j]?).map (·.1.1)).getD 0
  have lpv : pv.length = zs.length := List.length_map _
  have lps : ps.length = zs.length := List.length_map _
  have its_eq : its = zs.map fun z => Value.ref z.1.1 := by
    rw [ei, ← ez, List.map_map, List.map_map]
    rfl
  have ok : PlainSeq "list" s.heap a its.toArray ∧ PairItems s.heap its.toArray Ts pv := by
    refine ⟨⟨_, n, hob, rfl, rfl, rfl⟩, ?_, fun j k v hj => ?_⟩
    · rw [lpv, its_eq]; simp
    · obtain ⟨z, hz1, hz2⟩ := List.getElem?_map .. ▸ hj |> Option.map_eq_some_iff.mp
      cases hz2
      have eT : Ts j = z.1.1 := by show ((zs[j]?).map (·.1.1)).getD 0 = _; rw [hz1]; rfl
      refine ⟨?_, .inl ?_⟩
      · rw [eT, its_eq]
        simp [hz1]
      · rw [eT]
        exact (hzs z (List.mem_of_getElem? hz1)).2
  have hst : ∀ (h' : Heap), (∀ b o, b ≠ s.heap.objs.size → b ∉ ([] : List Addr) → s.heap.get? b = some o → h'.get? b = some o) → ∀ x ∈ ps, (tupleKind (L2.mixKind X.prog X.w)).is h' x.1 x.2.1 := by
    intro h' hk x hx
    obtain ⟨z, z1, z2⟩ := List.mem_map.mp hx
    subst z2
    obtain ⟨o, i2, n2, g1, g2, g3, g4⟩ := L2.key_of I.hok (htz z z1)
    exact ⟨o, i2, n2, hk _ _ (Nat.ne_of_lt (Heap.lt_size g1)) (by simp) g1, g2, g3, g4⟩
  refine call_dict_pairsH (knd := tupleKind (L2.mixKind X.prog X.w)) (ps := ps) (PairArg.list a its.toArray Ts pv) (I.ok.hd hc) (by show X.A.units + 1 + 1 < cLine; omega) ok ⟨by rw [lps, lpv], fun i key v hr => ?_⟩ hst (by rw [lpv]; exact ln) fun h' tk hd kp => ?_
  · obtain ⟨z, hz1, hz2⟩ := List.getElem?_map .. ▸ (show pv[i]? = some (key, v) from hr) |> Option.map_eq_some_iff.mp
    cases hz2
    exact ⟨z.1.2.1, z.1.2.2.1, by show (zs.map _)[i]? = _; rw [List.getElem?_map, hz1]; rfl, rfl⟩
  · have kp' : ∀ b o, s.heap.get? b = some o → h'.get? b = some o := fun b o e => kp b o (by simp) e
    have kt := kt_all (H := H) zs [] [] .nil fun z h => ⟨(hzs z h).1, htz z h⟩
    have em : (ts.map fun t => (t.2.1, t.2.2.2)) = zs.map fun z => (z.1.2.1, z.1.2.2.2) := by rw [← ez, List.map_map]; rfl
    have hn : H s.heap.objs.size = none := I.hok.fresh (Nat.le_refl _)
    obtain ⟨o, es, ep, g1, g2, g3, g4, g5, g6⟩ := hd
    have ll := Paired.length kt
    have l2 := storedAllH_length ps ([] : List (List L2.Key × Addr × Value))
    refine ⟨.ref s.heap.objs.size, _, I.laid (t' := tk) (o := .dT (dictV (ts.map fun t => (t.2.1, t.2.2.2)))) kp' (Nat.le_refl _) ?_, rfl, q _ hn⟩
    refine ⟨?_, ?_, storedAllH [] ps, ?_, o, es, ep, g1, g2, g3, g4, g6⟩
    · rw [em]
      unfold dictV
      rw [ll]
      rw [List.length_nil] at l2
      exact Nat.le_trans l2 (by rw [lps]; omega)
    · have := I.big
      exact beq_false_of_ne (Nat.ne_of_gt this)
    · rw [em]
      exact L2.KT.keeps kt fun b ys e => (by rw [L2.upd_ne (L2.ne_of_none e hn)]; exact e)
/-! ### repr -/
def rRepr (K : PySem.W.Frag) (xs : List L2.V) (H : L2.Hp) (Q : L2.VK) : Prop := ∃ v d, xs = [v] ∧ L2.Dp K H v d ∧ d.canLay0 = true ∧ d.depth ≤ 64 ∧ d.showable = true ∧ d.shown.length ≤ sizeLine ∧ Q (.str d.shown) H
theorem call_repr (hg : X.A.guards = some []) (hu : X.A.units + 100 < cLine) : L2.CallR X (.builtin "repr") (rRepr X.K) := by
  intro pins s σ H xs us Q I r h
  obtain ⟨v, d, rfl, hd, hl, hdp, hs, hz, q⟩ := h
  obtain ⟨u, rfl, ru⟩ := L2.vals1 r
  have nd := PyData.hasDict_of_canLay d hl
  have fin : ∀ tk tk', L2.EP X pins σ Q (.str d.shown tk') { s with toks := tk } := fun tk tk' => ⟨.str d.shown, H, I.kept (t' := tk) fun b o e => e, ⟨_, rfl⟩, q⟩
  have big : ∀ a : Addr, u = .ref a → wpAny (model X.prog X.w) X.A (call (.builtin "repr") [u]) (L2.EP X pins σ Q) X.xe s := fun a ea => by
    obtain ⟨as, rd⟩ := L2.Dp.reads I d v u hd ru
    subst ea
    exact repr_of_reads' rd hs (PyData.noDict_hsm nd) hg (by omega) (fun _ _ e => e) (fun h' u tk kp => ⟨.str d.shown, H, I.kept (t' := tk) kp, ⟨_, rfl⟩, q⟩) hz
  cases hd with
  | non =>
    cases (show u = _ from ru)
    exact P.repr_of_none (fin _ _)
  | bl b =>
    cases (show u = _ from ru)
    exact P.repr_of_bool (fin _ _)
  | int i =>
    obtain ⟨t, rfl⟩ := ru
    exact P.repr_of_int (of_decide_eq_true hs) (fin _ _)
  | str x =>
    obtain ⟨t, rfl⟩ := ru
    exact P.repr_of_str (fin _ _) hz
  | lst h1 h2 => exact big _ (show u = _ from ru)
  | tup h1 h2 => exact big _ (show u = _ from ru)
end

/-- where a parameter's value stands among n values by place and those by names -/
def ordOf (ps : List Str) (n : Nat) (ks : List Str) : List Nat := ps.map fun p => (ps.take n ++ ks).idxOf p
/-- n arguments by place, the others by names -/
def KwB (K : PySem.W.Frag) (fd : FuncData) (ps : List Str) (n : Nat) (ks : List Str) : Prop := ∀ (s : Shared) (us ws : List Value), us.length = n → ws.length = ks.length → K.In s.heap → BindsTo s fd ⟨us, ks.zip ws⟩ (ps.zip ((ordOf ps n ks).filterMap fun i => (us ++ ws)[i]?))
/-! ### a def's promise, where no text is being shown -/
section
variable {P : Program} {w : World} {K : PySem.W.Frag} {mg : Str → Option Value} {base : Heap} {CX : L2.CXT} {k : Nat} {f : Addr} {fd : FuncData} {ps : List Str} {sp : L2.Sp}
structure FnG (P : Program) (w : World) (K : PySem.W.Frag) (mg : Str → Option Value) (base : Heap) (CX : L2.CXT) (k : Nat) (f : Addr) (fd : FuncData) (ps : List Str) (sp : L2.Sp) : Prop where
  len : ∀ vs H Q E, sp vs H Q E → vs.length = ps.length
  go : ∀ (A : Around) (st : List PySem.Env) (s0 : Shared) (H : L2.Hp) (ar : Args) (ws : List Value) (vs : List L2.V) (Q : L2.VK) (E : L2.XK), A.guards = some [] → L2.Room k A → L2.Env0 P w K mg base A st s0 H → L2.Vals vs ws →
    BindsTo s0 fd ar (ps.zip ws) → sp vs H Q E → codeAny (model P w) A (.call (.ref f) ar) (L2.CR CX st P w H s0 Q E) s0
/-- .. of a def, by its body -/
theorem FnG.of {name qual : Str} {params : Arguments} {body : List Stmt} {scope : Scope} {dvs : List L2.V} {kws : List (Str × L2.V)} {N : List Str} (F : L2.FunD K name qual params body scope dvs kws f fd) (S : L2.FnScope N ps scope) (len : ∀ vs H Q E, sp vs H Q E → vs.length = ps.length)
    (hb : ∀ (cd : Value) (A : Around) (st : List PySem.Env) (s0 : Shared) (H : L2.Hp) (vs : List L2.V) (Q : L2.VK) (E : L2.XK), L2.Room k (A.deeper (envOfC qual scope s0.heap.objs.size f cd)) → A.guards = some [] → sp vs H Q E →
      ∃ t, L2.PSs (L2.cxOf CX P w K mg base N qual scope f cd A st s0 H E) body t ∧ t { nx := fun _ H' => Q .non H', rt := Q } (L2.start N vs) H) : FnG P w K mg base CX (k + 1) f fd ps sp := by
  obtain ⟨c1, c2, dV, kV, doc, pm, an, cd, ct, osl, rfl, at_f, code, _, _⟩ := F.ex
  refine ⟨len, fun A st s0 H ar ws vs Q E gd room e0 vals bt q => ?_⟩
  have n_args := len _ _ _ _ q
  have inK : K.In s0.heap := e0.mod.kin.keeps fun b o z => (e0.bs b o z).1
  have noLim : s0.heap.NoLimit := e0.mod.nolimit.keeps fun b o z => (e0.bs b o z).1
  refine codeAny_call_function room.depth (inK _ _ at_f) rfl S.co S.gen rfl (PySem.W.codeRec_of inK code) (bt _ _ _ _ ?_)
  have kinds : ∀ y ∈ ps.zip ws, scope.names.lookup y.1 = some .local ∨ (scope.names.lookup y.1 = some .cell ∧ ((cellsFrom (s0.heap.objs.size + 1) scope.names []).lookup y.1).isSome = true) := by
    rintro ⟨x, v⟩ hy
    refine (S.par x (List.of_mem_zip hy).1).imp id fun z => ⟨z, ?_⟩
    exact PySem.W.cellsFrom_some _ _ _ (.inl z)
  refine wpAny_newFunctionEnv_cells S.kind kinds fun env eq s1 made => ?_
  subst eq
  refine ⟨noLim.keeps made.toInCall.keep, codeAny_func ?_⟩
  obtain ⟨t, run, ans⟩ := hb cd A st s0 H vs Q E (room.deeper _) gd q
  have I0 : L2.Inv (L2.cxOf CX P w K mg base N qual scope f cd A st s0 H E) [] (L2.start N vs) H s1 := L2.inv_start S room.hd e0 n_args vals made
  have close : ∀ {σ2 : L2.St} {H2 : L2.Hp} {v : L2.V} {u : Value} {s2 : Shared}, L2.Inv (L2.cxOf CX P w K mg base N qual scope f cd A st s0 H E) [] σ2 H2 s2 → L2.RelV v u → Q v H2 → L2.CE st P w H s0 Q u s2 :=
    fun J rel z => ⟨_, _, J.os, J.bare, J.base, J.hok, rel, z⟩
  refine wpAny_mono (run.run [] s1 (L2.start N vs) H _ I0 ans) ?_ (fun e s2 z => z)
  rintro (_ | _ | _ | u) s2 z
  · obtain ⟨_, _, J, z⟩ := z
    exact close (v := .non) (u := .none) J rfl z
  · obtain ⟨_, _, _, z⟩ := z
    exact z.elim
  · obtain ⟨_, _, _, z⟩ := z
    exact z.elim
  · obtain ⟨_, _, _, J, rel, z⟩ := z
    exact close J rel z
end
section
variable {X : L2.Cx} {CX : L2.CXT} {k : Nat} {f : Addr} {fd : FuncData} {ps : List Str} {sp : L2.Sp}
/-- a call, its arguments bound -/
theorem FnG.call {pins : List (Addr × Obj)} {σ : L2.St} {H : L2.Hp} {s : Shared} {Q : L2.VK} {ws us : List Value} {kw : List (Str × Value)} {vs : List L2.V} {Ex : L2.XK} (F : FnG X.prog X.w X.K X.mg X.base CX k f fd ps sp) (gd : X.A.guards = some []) (room : L2.Room k X.A)
    (bt : BindsTo s fd ⟨us, kw⟩ (ps.zip ws)) (pass : L2.PassesAt CX X σ Ex) (I : L2.Inv X pins σ H s) (vals : L2.Vals vs ws) (q : sp vs H Q Ex) : wpAny (model X.prog X.w) X.A (call (.ref f) us kw) (L2.EP X pins σ Q) X.xe s := by
  refine wpAny_call (codeAny_mono (F.go X.A X.stack s H ⟨us, kw⟩ ws vs Q Ex gd room I.env0 vals bt q) ?_)
  rintro (e | fl) s2 z
  · exact pass pins H s e s2 I z
  · rcases fl with _ | _ | _ | u
    · exact False.elim z
    · exact False.elim z
    · exact False.elim z
    · exact I.after z
end
end PV

set_option Elab.async false
set_option linter.all false
set_option maxRecDepth 100000
set_option maxHeartbeats 1000000
/-! PV, new rules of the layer: a tuple's items sorted. -/
namespace PV
open PySem PySem.Spec PyProof.Rows PyProof.V
section
variable {prog : Program} {w : World} {A : Around} {E : Value → Shared → Prop} {s : Shared}
theorem collect_tupl {t : Addr} {vs : List Value} {Q : List Value → Shared → Prop} (ht : s.heap.IsTuple t vs.toArray) (fits : vs.length ≤ sizeLine)
    (k : Q vs { s with heap := (s.heap.push (seqObj "list" #[] 0)).update s.heap.objs.size (Obj.mapSeq (· ++ vs.toArray)) }) : wpAny (model prog w) A (collect (.ref t)) Q E s := by
  obtain ⟨ob, at_t, cls, n, dat⟩ := id ht
  have there : (s.heap.push (seqObj "list" #[] 0)).get? t = some ob := Heap.get?_push_of_some _ at_t
  unfold collect
  refine wpAny_bind (wpAny_runValue (codeAny_builtin entry_proto_collect' ?_))
  show wpAny _ _ (newList [] >>= fun l => again (.builtin "list.__iadd__" ⟨[l, .ref t], []⟩)) _ _ s
  refine wpAny_bind (wpAny_newList (wpAny_pure ⟨Code.quiet_builtin _ (by decide +kernel), ?_⟩))
  refine codeAny_builtin entry_list_iadd' ?_
  show wpAny _ _ (Builtin.List.listExtendWith (.ref s.heap.objs.size) (.ref t) (.ref s.heap.objs.size)) _ _ ⟨s.heap.push (seqObj "list" #[] 0), s.gens, s.drawn, s.toks, s.os⟩
  unfold Builtin.List.listExtendWith
  refine wpAny_bind (wpAny_typeOf (T := "tuple") ⟨ob, there, cls⟩ ?_)
  rw [if_pos (by rw [show (Value.type "tuple" == Value.type "tuple") = true from rfl]; simp)]
  refine wpAny_bind (listItems_at there dat ?_)
  refine wpAny_bind (listItems_at (xs := #[]) (n := 0) (Heap.get?_push_size _ rfl) rfl ?_)
  rw [if_neg (by simp)]
  refine wpAny_bind (listUpdate_at (xs := #[]) (n := 0) (Heap.get?_push_size _ rfl) rfl ?_ (Nat.zero_le _) ?_)
  · refine wpAny_pure (wpAny_bind (wpAny_load (get?_update_seq (Heap.get?_push_size _ rfl) _) ?_))
    show wpAny _ _ (pure ((#[] : Array Value) ++ vs.toArray).toList) Q E _
    have e : ((#[] : Array Value) ++ vs.toArray).toList = vs := by simp
    rw [e]
    exact wpAny_pure k
  · show ((#[] : Array Value) ++ vs.toArray).size ≤ sizeLine + 1
    simp only [Array.size_append, List.size_toArray, List.length_nil]
    omega
theorem sorted_tupl {t : Addr} {vs : List Value} {ns : List Int} {Q : Value → Shared → Prop} (ht : s.heap.IsTuple t vs.toArray) (hi : IntsAre vs ns) (few : vs.length < 64)
    (k : ∀ (out : Array Value) (ms : List Int), IntsAre out.toList ms → ms.Perm ns → ms.Pairwise (· ≤ ·) → Q (.ref (s.heap.objs.size + 1)) { s with heap := sortedAll s.heap vs out }) : wpAny (model prog w) A (call (.builtin "sorted") [.ref t]) Q E s := by
  refine Calls.call_function_entry kind_sorted plain_sorted entry_sorted (args_sorted1 _) ?_
  unfold Builtin.«sorted»
  refine wpAny_bind (m := checkCount "sorted" 1 1 _) (wpAny_pure (wpAny_bind (collect_tupl ht (by rw [sizeLine_eq]; omega) (wpAny_bind (wpAny_newList ?_)))))
  let mid : Heap := (s.heap.push (seqObj "list" #[] 0)).update s.heap.objs.size (Obj.mapSeq (· ++ vs.toArray))
  have msz : mid.objs.size = s.heap.objs.size + 1 := (Heap.size_update ..).trans (size_push' ..)
  have obL : (mid.push (seqObj "list" vs.toArray 0)).get? (s.heap.objs.size + 1) = some (seqObj "list" vs.toArray 0) := by
    rw [← msz]
    exact Heap.get?_push_size _ rfl
  show wpAny _ _ _ _ _ ⟨mid.push (seqObj "list" vs.toArray 0), s.gens, s.drawn, s.toks, s.os⟩
  rw [show mid.objs.size = s.heap.objs.size + 1 from msz]
  refine wpAny_bind (wpAny_holding (wpAny_call_entry slot_list_sort ⟨_, obL, rfl⟩ entry_list_sort (list_sort_tree obL hi few ?_) (args_list_sort _)))
  intro out ms h1 h2 h3
  exact ⟨_, rfl, wpAny_pure ⟨_, rfl, k out ms h1 h2 h3⟩⟩
end
section
variable {X : L2.Cx}
def rSortTp (xs : List L2.V) (H : L2.Hp) (Q : L2.VK) : Prop := ∃ (a : Addr) (ns : List Int), xs = [.ref a] ∧ H a = some (.tup (ns.map L2.V.int)) ∧ ns.length < 64 ∧ ∀ (ms : List Int) (p : Addr), ms.Perm ns → ms.Pairwise (· ≤ ·) → H p = none → Q (.ref p) (L2.upd H p (.lst (ms.map L2.V.int)))
theorem call_sortTp : L2.CallR X (.builtin "sorted") rSortTp := by
  intro pins s σ H xs us Q I r h
  obtain ⟨a, ns, rfl, ha, few, q⟩ := h
  obtain ⟨u, rfl, ru⟩ := L2.vals1 r
  obtain rfl : u = .ref a := ru
  obtain ⟨_, its, rv, ob, g1, g2, n, g3⟩ := (show L2.ObjOk X.prog X.w H s.heap a (.tup (ns.map L2.V.int)) from I.hok a _ ha)
  have hi := L2.Vals.«ints» rv
  refine sorted_tupl ⟨ob, g1, g2, n, g3⟩ hi (by rw [hi.length]; exact few) ?_
  intro out ms h1 h2 h3
  obtain ⟨ep, at_l⟩ := sortedAll_at s.heap its out
  have lm : (ms.map L2.V.int).length ≤ sizeLine := by rw [List.length_map, h2.length_eq, sizeLine_eq]; omega
  refine ⟨.ref (s.heap.objs.size + 1), L2.upd H (s.heap.objs.size + 1) (.lst (ms.map L2.V.int)), ?_, rfl, q ms _ h2 h3 (I.hok.fresh (Nat.le_succ _))⟩
  exact I.laid (t' := s.toks) (fun _ _ => sortedAll_old) (Nat.le_succ _) ⟨lm, out.toList, ep, L2.vals_of_ints h1, at_l⟩
end
end PV

set_option Elab.async false
set_option linter.all false
set_option maxRecDepth 100000
/-! PV, soundness 1: trees in the abstract heap, frames, steps. -/
namespace PV
open PySem PySem.Spec PyProof.Rows

abbrev LSt := L2.St
abbrev FS := Addr → Prop
mutual
/-- v is the tree t, all of it frozen -/
def RepT (K : PySem.W.Frag) (F : FS) (H : L2.Hp) : T → L2.V → Prop
  | .non, v => v = .non
  | .bl b, v => v = .bl b
  | .int i, v => v = .int i
  | .str s, v => v = .str s
  | .lst xs, v => ∃ p vs, v = .ref p ∧ F p ∧ H p = some (.lst vs) ∧ Reps K F H xs vs
  | .tup xs, v => ∃ p vs, v = .ref p ∧ F p ∧ H p = some (.tup vs) ∧ Reps K F H xs vs
  | .ins _ _, _ => False
  | .scr ns, v => ∃ p, v = .ref p ∧ ((F p ∧ ∃ o, H p = some (.frz o (.lst (ns.map L2.V.int)))) ∨
      ∃ (o : Obj) (its : Array Value) (n : Nat), K.lookup p = some o ∧ o.cls = .type "list" ∧ o.dict = none ∧ o.data = .seq its n ∧ its.size ≤ sizeLine ∧ L2.Vals (ns.map L2.V.int) its.toList)
  | .dit ks xs, v => ∃ p vs, v = .ref p ∧ F p ∧ H p = some (.dT (ks.zip vs)) ∧ ks.length = xs.length ∧ Reps K F H xs vs
  | .dik ks xs, v => ∃ p vs, v = .ref p ∧ F p ∧ H p = some (.dK (ks.zip vs)) ∧ ks.length = xs.length ∧ Reps K F H xs vs
def Reps (K : PySem.W.Frag) (F : FS) (H : L2.Hp) : List T → List L2.V → Prop
  | [], vs => vs = []
  | x :: xs, vs => ∃ v r, vs = v :: r ∧ RepT K F H x v ∧ Reps K F H xs r
end
/-- what is frozen stays -/
structure Ext (F : FS) (H : L2.Hp) (F' : FS) (H' : L2.Hp) : Prop where
  sub : ∀ p, F p → F' p
  keep : ∀ p o, F p → H p = some o → H' p = some o
theorem Ext.rfl' {F : FS} {H : L2.Hp} : Ext F H F H := ⟨fun _ h => h, fun _ _ _ h => h⟩
theorem Ext.trans {F F1 F2 : FS} {H H1 H2 : L2.Hp} (a : Ext F H F1 H1) (b : Ext F1 H1 F2 H2) : Ext F H F2 H2 := ⟨fun p h => b.sub p (a.sub p h), fun p o h e => b.keep p o (a.sub p h) (a.keep p o h e)⟩
mutual
theorem RepT.mono {K : PySem.W.Frag} {F F' : FS} {H H' : L2.Hp} (e : Ext F H F' H') : ∀ (t : T) (v : L2.V), RepT K F H t v → RepT K F' H' t v
  | .non, _, h => h
  | .bl _, _, h => h
  | .int _, _, h => h
  | .str _, _, h => h
  | .lst xs, v, h => by
    obtain ⟨p, vs, h1, h2, h3, h4⟩ := h
    exact ⟨p, vs, h1, e.sub p h2, e.keep p _ h2 h3, Reps.mono e xs vs h4⟩
  | .tup xs, v, h => by
    obtain ⟨p, vs, h1, h2, h3, h4⟩ := h
    exact ⟨p, vs, h1, e.sub p h2, e.keep p _ h2 h3, Reps.mono e xs vs h4⟩
  | .ins _ _, _, h => h
  | .scr ns, v, h => by
    obtain ⟨p, h1, h2⟩ := h
    refine ⟨p, h1, ?_⟩
    rcases h2 with ⟨h2, o, h3⟩ | h2
    · exact .inl ⟨e.sub p h2, o, e.keep p _ h2 h3⟩
    · exact .inr h2
  | .dit ks xs, v, h => by
    obtain ⟨p, vs, h1, h2, h3, h5, h4⟩ := h
    exact ⟨p, vs, h1, e.sub p h2, e.keep p _ h2 h3, h5, Reps.mono e xs vs h4⟩
  | .dik ks xs, v, h => by
    obtain ⟨p, vs, h1, h2, h3, h5, h4⟩ := h
    exact ⟨p, vs, h1, e.sub p h2, e.keep p _ h2 h3, h5, Reps.mono e xs vs h4⟩
theorem Reps.mono {K : PySem.W.Frag} {F F' : FS} {H H' : L2.Hp} (e : Ext F H F' H') : ∀ (ts : List T) (vs : List L2.V), Reps K F H ts vs → Reps K F' H' ts vs
  | [], _, h => h
  | x :: xs, _, h => by
    obtain ⟨v, r, h1, h2, h3⟩ := h
    exact ⟨v, r, h1, RepT.mono e x v h2, Reps.mono e xs r h3⟩
end
section
variable {K : PySem.W.Frag} {F : FS} {H : L2.Hp}
theorem Reps.nil : Reps K F H [] [] := rfl
theorem Reps.cons {x : T} {xs : List T} {v : L2.V} {vs : List L2.V} (h : RepT K F H x v) (r : Reps K F H xs vs) : Reps K F H (x :: xs) (v :: vs) := ⟨v, vs, rfl, h, r⟩
theorem Reps.length : ∀ {xs : List T} {vs : List L2.V}, Reps K F H xs vs → xs.length = vs.length
  | [], _, h => by cases (show _ = [] from h); rfl
  | x :: xs, _, h => by
    obtain ⟨v, r, e, _, q⟩ := h
    subst e
    exact congrArg Nat.succ (Reps.length q)
theorem Reps.get : ∀ {xs : List T} {vs : List L2.V} {i : Nat} {t : T}, Reps K F H xs vs → xs[i]? = some t → ∃ v, vs[i]? = some v ∧ RepT K F H t v
  | [], _, _, _, _, e => by simp at e
  | x :: xs, _, 0, t, h, e => by
    obtain ⟨v, r, e1, h1, _⟩ := h
    subst e1
    simp at e
    subst e
    exact ⟨v, rfl, h1⟩
  | x :: xs, _, i + 1, t, h, e => by
    obtain ⟨v, r, e1, _, q⟩ := h
    subst e1
    obtain ⟨u, h2, h3⟩ := Reps.get (i := i) (t := t) q (by simpa using e)
    exact ⟨u, by simpa using h2, h3⟩
theorem Reps.append : ∀ {xs ys : List T} {vs ws : List L2.V}, Reps K F H xs vs → Reps K F H ys ws → Reps K F H (xs ++ ys) (vs ++ ws)
  | [], _, _, _, h, q => by cases (show _ = [] from h); exact q
  | x :: xs, _, _, _, h, q => by
    obtain ⟨v, r, e, h1, h2⟩ := h
    subst e
    exact ⟨v, _, rfl, h1, Reps.append h2 q⟩
theorem Reps.take : ∀ {xs : List T} {vs : List L2.V} (n : Nat), Reps K F H xs vs → Reps K F H (xs.take n) (vs.take n)
  | _, _, 0, _ => by simp; exact Reps.nil
  | [], _, n + 1, h => by cases (show _ = [] from h); exact Reps.nil
  | x :: xs, _, n + 1, h => by
    obtain ⟨v, r, e, h1, h2⟩ := h
    subst e
    exact ⟨v, _, rfl, h1, Reps.take n h2⟩
theorem Reps.drop : ∀ {xs : List T} {vs : List L2.V} (n : Nat), Reps K F H xs vs → Reps K F H (xs.drop n) (vs.drop n)
  | _, _, 0, h => h
  | [], _, n + 1, h => by cases (show _ = [] from h); exact Reps.nil
  | x :: xs, _, n + 1, h => by
    obtain ⟨v, r, e, h1, h2⟩ := h
    subst e
    exact Reps.drop n h2
theorem Reps.set {t : T} {v : L2.V} (ht : RepT K F H t v) : ∀ {xs : List T} {vs : List L2.V} (i : Nat), Reps K F H xs vs → Reps K F H (xs.set i t) (vs.set i v)
  | [], _, _, h => by cases (show _ = [] from h); exact Reps.nil
  | x :: xs, _, 0, h => by
    obtain ⟨u, r, e, h1, h2⟩ := h
    subst e
    exact ⟨v, r, rfl, ht, h2⟩
  | x :: xs, _, i + 1, h => by
    obtain ⟨u, r, e, h1, h2⟩ := h
    subst e
    exact ⟨u, _, rfl, h1, Reps.set ht i h2⟩
theorem Reps.eraseIdx : ∀ {xs : List T} {vs : List L2.V} (i : Nat), Reps K F H xs vs → Reps K F H (xs.eraseIdx i) (vs.eraseIdx i)
  | [], _, _, h => by cases (show _ = [] from h); exact Reps.nil
  | x :: xs, _, 0, h => by
    obtain ⟨u, r, e, h1, h2⟩ := h
    subst e
    exact h2
  | x :: xs, _, i + 1, h => by
    obtain ⟨u, r, e, h1, h2⟩ := h
    subst e
    exact ⟨u, _, rfl, h1, Reps.eraseIdx i h2⟩
theorem Reps.dropLast {xs : List T} {vs : List L2.V} (h : Reps K F H xs vs) : Reps K F H xs.dropLast vs.dropLast := by
  rw [List.dropLast_eq_take, List.dropLast_eq_take, h.length]
  exact h.take _
theorem Reps.reverse : ∀ {xs : List T} {vs : List L2.V}, Reps K F H xs vs → Reps K F H xs.reverse vs.reverse
  | [], _, h => by cases (show _ = [] from h); exact Reps.nil
  | x :: xs, _, h => by
    obtain ⟨u, r, e, h1, h2⟩ := h
    subst e
    simp only [List.reverse_cons]
    exact (Reps.reverse h2).append ⟨u, [], rfl, h1, Reps.nil⟩
theorem Reps.rep {xs : List T} {vs : List L2.V} (h : Reps K F H xs vs) : ∀ n : Nat, Reps K F H (repT xs n) (List.replicate n vs).flatten
  | 0 => Reps.nil
  | n + 1 => by
    rw [List.replicate_succ, List.flatten_cons]
    exact h.append (Reps.rep h n)
end

/-! ### frames -/
/-- fixed through a def's run: the heap, what was frozen, the lists to be changed, at its entry -/
structure FC where
  K : PySem.W.Frag
  H0 : L2.Hp
  F0 : FS
  M : FS
def Own (ρ : Rho) (σ : LSt) (p : Addr) : Prop := ∃ (i : Nat) (k : Bool) (xs : List T), ρ[i]? = some (.o k xs) ∧ σ[i]? = some (some (.ref p))
def Kd (C : FC) : Bool → Addr → Prop
  | true, p => C.H0 p = none
  | false, p => C.M p
def SlRep (C : FC) (F : FS) (H : L2.Hp) : Sl → Option L2.V → Prop
  | .u, _ => True
  | .v t, ov => ∃ v, ov = some v ∧ RepT C.K F H t v
  | .o k xs, ov => ∃ p vs, ov = some (.ref p) ∧ H p = some (.lst vs) ∧ Reps C.K F H xs vs ∧ ¬ F p ∧ Kd C k p
  | .b xs, ov => ∃ p vs, ov = some (.ref p) ∧ H p = some (.lst vs) ∧ Reps C.K F H xs vs ∧ C.H0 p ≠ none ∧ ¬ C.M p
structure Sim (C : FC) (F : FS) (ρ : Rho) (σ : LSt) (H : L2.Hp) : Prop where
  len : ρ.length = σ.length
  sl : ∀ (i : Nat) (s : Sl), ρ[i]? = some s → SlRep C F H s (σ.getD i none)
  dis : ∀ (i j : Nat) (k l : Bool) (xs ys : List T) (p : Addr), ρ[i]? = some (.o k xs) → ρ[j]? = some (.o l ys) → σ[i]? = some (some (.ref p)) → σ[j]? = some (some (.ref p)) → i = j
  frz : ∀ p, F p → H p ≠ none
  frN : ∀ p, F p → C.F0 p ∨ C.H0 p = none
  out : ∀ p o, C.H0 p = some o → ¬ C.M p → H p = some o
  sub : ∀ p, C.F0 p → F p
  mF : ∀ p, C.M p → ¬ C.F0 p ∧ C.H0 p ≠ none
  dom : ∀ p, C.H0 p ≠ none → H p ≠ none
theorem getD_of {σ : LSt} {i : Nat} {v : Option L2.V} (h : σ[i]? = some v) : σ.getD i none = v := by
  rw [List.getD_eq_getElem?_getD, h]; rfl
theorem of_getD {σ : LSt} {i : Nat} {v : L2.V} (h : σ.getD i none = some v) : σ[i]? = some (some v) := by
  rw [List.getD_eq_getElem?_getD] at h
  cases e : σ[i]? with
  | none => rw [e] at h; cases h
  | some u => rw [e] at h; exact congrArg some h
section
variable {C : FC} {F F' : FS} {ρ ρ' : Rho} {σ : LSt} {H H' : L2.Hp}
theorem Sim.mNF (S : Sim C F ρ σ H) {p : Addr} (h : C.M p) : ¬ F p := fun q => by
  obtain ⟨m1, m2⟩ := S.mF p h
  rcases S.frN p q with z | z
  · exact m1 z
  · exact m2 z
theorem Sim.own (S : Sim C F ρ σ H) {i : Nat} {k : Bool} {xs : List T} (h : ρ[i]? = some (.o k xs)) : ∃ p vs, σ[i]? = some (some (.ref p)) ∧ H p = some (.lst vs) ∧ Reps C.K F H xs vs ∧ ¬ F p ∧ Kd C k p := by
  obtain ⟨p, vs, h1, h2⟩ := S.sl i _ h
  exact ⟨p, vs, of_getD h1, h2⟩
theorem Sim.nown (S : Sim C F ρ σ H) {p : Addr} (h : F p) : ¬ Own ρ σ p := fun ⟨i, k, xs, h1, h2⟩ => by
  obtain ⟨q, vs, h3, _, _, h4, _⟩ := S.own h1
  rw [h2] at h3
  cases h3
  exact h4 h
theorem Sim.ownH0 (S : Sim C F ρ σ H) {p : Addr} (h : Own ρ σ p) : C.H0 p = none ∨ C.M p := by
  obtain ⟨i, k, xs, h1, h2⟩ := h
  obtain ⟨q, vs, h3, _, _, _, h4⟩ := S.own h1
  rw [h2] at h3
  cases h3
  cases k with
  | true => exact .inl h4
  | false => exact .inr h4

/-- from one state of the frame to a later one -/
structure Step (C : FC) (ρ : Rho) (σ : LSt) (F : FS) (H : L2.Hp) (ρ' : Rho) (σ' : LSt) (F' : FS) (H' : L2.Hp) : Prop where
  sub : ∀ p, F p → F' p
  keep : ∀ p o, H p = some o → ¬ Own ρ σ p → H' p = some o
  new : ∀ p, F' p → F p ∨ H p = none ∨ Own ρ σ p
  own : ∀ p, Own ρ' σ' p → Own ρ σ p ∨ H p = none
  there : ∀ p, H p ≠ none → H' p ≠ none
  sim : Sim C F' ρ' σ' H'
theorem Step.rfl' (S : Sim C F ρ σ H) : Step C ρ σ F H ρ σ F H := ⟨fun _ h => h, fun _ _ h _ => h, fun _ h => .inl h, fun _ h => .inl h, fun _ h => h, S⟩
theorem Step.trans {ρ1 ρ2 : Rho} {σ1 σ2 : LSt} {F1 F2 : FS} {H1 H2 : L2.Hp} (a : Step C ρ σ F H ρ1 σ1 F1 H1) (b : Step C ρ1 σ1 F1 H1 ρ2 σ2 F2 H2) : Step C ρ σ F H ρ2 σ2 F2 H2 where
  sub := fun p h => b.sub p (a.sub p h)
  keep := fun p o h n => b.keep p o (a.keep p o h n) fun q => by
    rcases a.own p q with z | z
    · exact n z
    · rw [h] at z; cases z
  new := fun p h => by
    rcases b.new p h with h | h | h
    · exact a.new p h
    · refine .inr ?_
      cases e : H p with
      | none => exact .inl rfl
      | some o => exact absurd h (a.there p (by rw [e]; simp))
    · rcases a.own p h with z | z
      · exact .inr (.inr z)
      · exact .inr (.inl z)
  own := fun p h => by
    rcases b.own p h with z | z
    · exact a.own p z
    · cases e : H p with
      | none => exact .inr rfl
      | some o => exact absurd z (a.there p (by rw [e]; simp))
  there := fun p h => b.there p (a.there p h)
  sim := b.sim
theorem Step.ext {σ' : LSt} (S : Sim C F ρ σ H) (a : Step C ρ σ F H ρ' σ' F' H') : Ext F H F' H' := ⟨a.sub, fun p o h e => a.keep p o e (S.nown h)⟩

/-- a result: a frozen tree; a new list (not there at H) that nobody holds -/
def ARep (K : PySem.W.Frag) (σ : LSt) (H : L2.Hp) (ρ' : Rho) (F' : FS) (H' : L2.Hp) : A → L2.V → Prop
  | .t x, v => RepT K F' H' x v
  | .f xs, v => ∃ p vs, v = .ref p ∧ H p = none ∧ H' p = some (.lst vs) ∧ Reps K F' H' xs vs ∧ ¬ F' p ∧ ¬ Own ρ' σ p
/-- an operand; Hs: the heap where the operands' reckoning began -/
def OpRep (K : PySem.W.Frag) (σ : LSt) (Hs : L2.Hp) (ρ : Rho) (F : FS) (H : L2.Hp) : Opd → L2.V → Prop
  | .d i, v => σ[i]? = some (some v)
  | .x t, v => RepT K F H t v
  | .f xs, v => ∃ p vs, v = .ref p ∧ H p = some (.lst vs) ∧ Reps K F H xs vs ∧ Hs p = none ∧ ¬ Own ρ σ p
theorem Sim.h0 (S : Sim C F ρ σ H) {p : Addr} (h : H p = none) : C.H0 p = none := by
  cases e : C.H0 p with
  | none => rfl
  | some o => exact absurd h (S.dom p (by rw [e]; simp))
theorem ARep.op {a : A} {v : L2.V} (h : ARep C.K σ H ρ' F' H' a v) : OpRep C.K σ H ρ' F' H' (ofA a) v := by
  cases a with
  | t x => exact h
  | f xs =>
    obtain ⟨p, vs, h1, h2, h3, h4, h5, h6⟩ := h
    exact ⟨p, vs, h1, h3, h4, h2, h6⟩
theorem OpRep.step {Hs : L2.Hp} (S : Sim C F ρ σ H) {o : Opd} {v : L2.V} (st : Step C ρ σ F H ρ' σ F' H') (h : OpRep C.K σ Hs ρ F H o v) : OpRep C.K σ Hs ρ' F' H' o v := by
  cases o with
  | d i => exact h
  | x t => exact RepT.mono (st.ext S) t v h
  | f xs =>
    obtain ⟨p, vs, h1, h2, h3, h4, h5⟩ := h
    refine ⟨p, vs, h1, st.keep p _ h2 h5, Reps.mono (st.ext S) _ _ h3, h4, fun q => ?_⟩
    rcases st.own p q with z | z
    · exact h5 z
    · rw [h2] at z; cases z
/-- an operand reckoned later is one of the whole -/
theorem OpRep.early {Hs Ht : L2.Hp} {o : Opd} {v : L2.V} (h : OpRep C.K σ Ht ρ F H o v) (e : ∀ p, Hs p ≠ none → Ht p ≠ none) : OpRep C.K σ Hs ρ F H o v := by
  cases o with
  | d i => exact h
  | x t => exact h
  | f xs =>
    obtain ⟨p, vs, h1, h2, h3, h4, h5⟩ := h
    refine ⟨p, vs, h1, h2, h3, ?_, h5⟩
    cases q : Hs p with
    | none => rfl
    | some o => exact absurd h4 (e p (by rw [q]; simp))
/-- a tree that is read at once -/
def PRep (K : PySem.W.Frag) (F : FS) (H : L2.Hp) (t : T) (v : L2.V) : Prop := match t with
  | .lst xs => ∃ p vs, v = .ref p ∧ H p = some (.lst vs) ∧ Reps K F H xs vs
  | t => RepT K F H t v
theorem PRep.of {t : T} {v : L2.V} (h : RepT C.K F H t v) : PRep C.K F H t v := by
  cases t with
  | lst xs => obtain ⟨p, vs, h1, _, h2, h3⟩ := h; exact ⟨p, vs, h1, h2, h3⟩
  | _ => exact h
theorem slot_prep {s : Sl} {ov : Option L2.V} {v : L2.V} {t : T} (h : SlRep C F H s ov) (hv : ov = some v) (e : slotT s = some t) : PRep C.K F H t v := by
  subst hv
  cases s with
  | u => cases e
  | v x =>
    cases e
    obtain ⟨w, h1, h2⟩ := h
    cases h1
    exact .of h2
  | o k xs =>
    cases e
    obtain ⟨p, vs, h1, h2, h3, _⟩ := h
    cases h1
    exact ⟨p, vs, rfl, h2, h3⟩
  | b xs =>
    cases e
    obtain ⟨p, vs, h1, h2, h3, _⟩ := h
    cases h1
    exact ⟨p, vs, rfl, h2, h3⟩
theorem res_prep {Hs : L2.Hp} (S : Sim C F ρ σ H) {o : Opd} {v : L2.V} {t : T} (h : OpRep C.K σ Hs ρ F H o v) (e : res ρ o = some t) : PRep C.K F H t v := by
  cases o with
  | d i =>
    obtain ⟨s, e1, e2⟩ := Option.bind_eq_some_iff.mp (show (ρ[i]?).bind slotT = some t from e)
    exact slot_prep (S.sl i s e1) (getD_of h) e2
  | x x => cases e; exact .of h
  | f xs =>
    cases e
    obtain ⟨p, vs, h1, h2, h3, _⟩ := h
    exact ⟨p, vs, h1, h2, h3⟩
end
end PV

set_option Elab.async false
set_option linter.all false
set_option maxRecDepth 100000
/-! PV, soundness 2: how a frame's state may change. -/
namespace PV
open PySem PySem.Spec PyProof.Rows
section
variable {C : FC} {F F' : FS} {ρ ρ' : Rho} {σ : LSt} {H H' : L2.Hp}
theorem set_get {i j : Nat} {s t : Sl} (h : (ρ.set i s)[j]? = some t) : (j = i ∧ t = s) ∨ (j ≠ i ∧ ρ[j]? = some t) := by
  by_cases e : j = i
  · subst e
    by_cases hl : j < ρ.length
    · rw [List.getElem?_set_self hl] at h
      exact .inl ⟨rfl, (Option.some.inj h).symm⟩
    · rw [List.getElem?_eq_none (by simpa using hl)] at h
      cases h
  · rw [List.getElem?_set_ne (Ne.symm e)] at h
    exact .inr ⟨e, h⟩
theorem Own.set_sub {i : Nat} {s : Sl} {p : Addr} (hs : ∀ k xs, s ≠ .o k xs) (h : Own (ρ.set i s) σ p) : Own ρ σ p := by
  obtain ⟨j, k, xs, h1, h2⟩ := h
  rcases set_get h1 with ⟨_, e⟩ | ⟨_, e⟩
  · exact absurd e.symm (hs k xs)
  · exact ⟨j, k, xs, e, h2⟩
/-- another heap, more frozen; the slots the same -/
theorem Sim.move (S : Sim C F ρ σ H) (e : Ext F H F' H') (frz : ∀ p, F' p → H' p ≠ none) (frN : ∀ p, F' p → C.F0 p ∨ C.H0 p = none) (out : ∀ p o, C.H0 p = some o → ¬ C.M p → H' p = some o) (dom : ∀ p, C.H0 p ≠ none → H' p ≠ none)
    (own : ∀ p, Own ρ σ p → H' p = H p ∧ ¬ F' p) : Sim C F' ρ σ H' where
  len := S.len
  sl := fun i s h => by
    have q := S.sl i s h
    cases s with
    | u => trivial
    | v t =>
      obtain ⟨v, h1, h2⟩ := q
      exact ⟨v, h1, RepT.mono e t v h2⟩
    | o k xs =>
      obtain ⟨p, vs, h1, h2, h3, h4, h5⟩ := q
      obtain ⟨z1, z2⟩ := own p ⟨i, k, xs, h, of_getD h1⟩
      exact ⟨p, vs, h1, z1.trans h2, Reps.mono e _ _ h3, z2, h5⟩
    | b xs =>
      obtain ⟨p, vs, h1, h2, h3, h4, h5⟩ := q
      refine ⟨p, vs, h1, ?_, Reps.mono e _ _ h3, h4, h5⟩
      cases z : C.H0 p with
      | none => exact absurd z h4
      | some o =>
        have a := S.out p o z h5
        rw [h2] at a
        cases a
        exact out p _ z h5
  dis := S.dis
  frz := frz
  frN := frN
  out := out
  sub := fun p h => e.sub p (S.sub p h)
  mF := S.mF
  dom := dom
/-- another slot's content -/
theorem Sim.setSlot (S : Sim C F ρ σ H) {i : Nat} {s : Sl} (h : i < ρ.length → SlRep C F H s (σ.getD i none)) (hd : ∀ (k : Bool) (xs : List T), s = .o k xs → ∀ (j : Nat) (l : Bool) (ys : List T) (p : Addr), ρ[j]? = some (.o l ys) → σ[i]? = some (some (.ref p)) → σ[j]? = some (some (.ref p)) → j = i) : Sim C F (ρ.set i s) σ H where
  len := by rw [List.length_set]; exact S.len
  sl := fun j t ht => by
    rcases set_get ht with ⟨rfl, rfl⟩ | ⟨_, e⟩
    · refine h ?_
      have := (List.getElem?_eq_some_iff.mp ht).1
      simpa using this
    · exact S.sl j t e
  dis := fun a b k l xs ys p h1 h2 h3 h4 => by
    rcases set_get h1 with ⟨rfl, e1⟩ | ⟨n1, e1⟩
    · rcases set_get h2 with ⟨rfl, e2⟩ | ⟨n2, e2⟩
      · rfl
      · exact (hd k xs e1.symm b l ys p e2 h3 h4).symm
    · rcases set_get h2 with ⟨rfl, e2⟩ | ⟨n2, e2⟩
      · exact hd l ys e2.symm a k xs p e1 h4 h3
      · exact S.dis a b k l xs ys p e1 e2 h3 h4
  frz := S.frz
  frN := S.frN
  out := S.out
  sub := S.sub
  mF := S.mF
  dom := S.dom
theorem Sim.setNo (S : Sim C F ρ σ H) {i : Nat} {s : Sl} (h : i < ρ.length → SlRep C F H s (σ.getD i none)) (hs : ∀ k xs, s ≠ .o k xs) : Sim C F (ρ.set i s) σ H :=
  S.setSlot h fun k xs e => absurd e (hs k xs)
theorem Sim.lose (S : Sim C F ρ σ H) (i : Nat) : Sim C F (ρ.set i .u) σ H := S.setNo (fun _ => trivial) (fun _ _ => by simp)
theorem upd_keep {p q : Addr} {o u : L2.HO} (hp : H p = none) (h : H q = some o) : L2.upd H p u q = some o := by
  rw [L2.upd_ne (L2.ne_of_none h hp)]; exact h
theorem upd_there {p q : Addr} {u : L2.HO} (h : H q ≠ none) : L2.upd H p u q ≠ none := by
  unfold L2.upd
  split
  · simp
  · exact h
/-- a new object; it may be frozen at once -/
theorem Sim.alloc (S : Sim C F ρ σ H) {p : Addr} {o : L2.HO} (hp : H p = none) (hF : ∀ q, F q → F' q) (hF' : ∀ q, F' q → F q ∨ q = p) : Sim C F' ρ σ (L2.upd H p o) := by
  have k : ∀ q o', H q = some o' → L2.upd H p o q = some o' := fun q o' h => upd_keep hp h
  refine S.move ⟨hF, fun q o' _ h => k q o' h⟩ (fun q h => ?_) (fun q h => ?_) (fun q o' h1 h2 => k q o' (S.out q o' h1 h2)) (fun q h => upd_there (S.dom q h)) fun q h => ?_
  · rcases hF' q h with z | z
    · exact upd_there (S.frz q z)
    · rw [z, L2.upd_same]; simp
  · rcases hF' q h with z | z
    · exact S.frN q z
    · rw [z]; exact .inr (S.h0 hp)
  · obtain ⟨i, kk, xs, h1, h2⟩ := h
    obtain ⟨q', vs, h3, h4, _, h5, _⟩ := S.own h1
    rw [h2] at h3
    cases h3
    have hqp : q ≠ p := L2.ne_of_none h4 hp
    refine ⟨by rw [L2.upd_ne hqp], fun z => ?_⟩
    rcases hF' q z with z | z
    · exact h5 z
    · exact hqp z
theorem Step.alloc {ρs : Rho} {σs : LSt} {Fs : FS} {Hs : L2.Hp} (st : Step C ρs σs Fs Hs ρ σ F H) {p : Addr} {o : L2.HO} (hp : H p = none) (hF : ∀ q, F q → F' q) (hF' : ∀ q, F' q → F q ∨ q = p) : Step C ρs σs Fs Hs ρ σ F' (L2.upd H p o) :=
  st.trans ⟨hF, fun q o' h _ => upd_keep hp h, fun q h => (hF' q h).imp id fun z => .inl (by rw [z]; exact hp), fun q h => .inl h, fun q h => upd_there h, st.sim.alloc hp hF hF'⟩
/-- a list that was made since the start and that no slot holds is frozen -/
theorem Step.freeze {ρs : Rho} {σs : LSt} {Fs : FS} {Hs : L2.Hp} (st : Step C ρs σs Fs Hs ρ σ F H) {p : Addr} (h0 : Hs p = none) (h0' : C.H0 p = none) (h1 : H p ≠ none) (hn : ¬ Own ρ σ p) : Step C ρs σs Fs Hs ρ σ (fun q => F q ∨ q = p) H where
  sub := fun q h => .inl (st.sub q h)
  keep := st.keep
  new := fun q h => by
    rcases h with h | h
    · exact st.new q h
    · rw [h]; exact .inr (.inl h0)
  own := st.own
  there := st.there
  sim := st.sim.move ⟨fun q h => .inl h, fun _ _ _ h => h⟩ (fun q h => h.elim (st.sim.frz q) fun z => by rw [z]; exact h1) (fun q h => h.elim (st.sim.frN q) fun z => by rw [z]; exact .inr h0') st.sim.out st.sim.dom fun q h => by
    refine ⟨rfl, fun z => ?_⟩
    rcases z with z | z
    · exact st.sim.nown z h
    · subst z; exact hn h
/-- the own list of a slot is frozen -/
theorem Sim.freezeSlot (S : Sim C F ρ σ H) {i : Nat} {xs : List T} {p : Addr} (h : ρ[i]? = some (.o true xs)) (hp : σ[i]? = some (some (.ref p))) :
    Sim C (fun q => F q ∨ q = p) (ρ.set i (.v (.lst xs))) σ H ∧ RepT C.K (fun q => F q ∨ q = p) H (.lst xs) (.ref p) := by
  obtain ⟨q, vs, h1, h2, h3, h4, h5⟩ := S.own h
  rw [hp] at h1
  cases h1
  have e : Ext F H (fun q => F q ∨ q = p) H := ⟨fun q z => .inl z, fun _ _ _ z => z⟩
  have rep : RepT C.K (fun q => F q ∨ q = p) H (.lst xs) (.ref p) := ⟨p, vs, rfl, .inr rfl, h2, Reps.mono e _ _ h3⟩
  have S1 : Sim C (fun q => F q ∨ q = p) (ρ.set i .u) σ H := (S.lose i).move e (fun q z => z.elim (S.frz q) fun z => by rw [z, h2]; simp) (fun q z => z.elim (S.frN q) fun z => by rw [z]; exact .inr h5) S.out S.dom fun q z => by
    refine ⟨rfl, fun z2 => ?_⟩
    obtain ⟨j, k, ys, j1, j2⟩ := z
    rcases set_get j1 with ⟨_, e1⟩ | ⟨n1, e1⟩
    · cases e1
    · rcases z2 with z2 | z2
      · exact S.nown z2 ⟨j, k, ys, e1, j2⟩
      · subst z2
        exact n1 (S.dis j i k true ys xs q e1 h j2 hp)
  have S2 := S1.setNo (i := i) (s := .v (.lst xs)) (fun _ => ⟨.ref p, getD_of hp, rep⟩) (fun _ _ => by simp)
  rw [List.set_set] at S2
  exact ⟨S2, rep⟩
/-- the own list of a slot is changed -/
theorem Sim.write (S : Sim C F ρ σ H) {i : Nat} {k : Bool} {xs ys : List T} {p : Addr} {ws : List L2.V} (h : ρ[i]? = some (.o k xs)) (hp : σ[i]? = some (some (.ref p))) (hw : Reps C.K F H ys ws) :
    Sim C F (ρ.set i (.o k ys)) σ (L2.upd H p (.lst ws)) ∧ Step C ρ σ F H (ρ.set i (.o k ys)) σ F (L2.upd H p (.lst ws)) := by
  obtain ⟨q, vs, h1, h2, h3, h4, h5⟩ := S.own h
  rw [hp] at h1
  cases h1
  have ne : ∀ q, q ≠ p → L2.upd H p (.lst ws) q = H q := fun q n => L2.upd_ne n
  have e : Ext F H F (L2.upd H p (.lst ws)) := ⟨fun q z => z, fun q o z1 z2 => by rw [ne q (fun z => h4 (z ▸ z1))]; exact z2⟩
  have hout : ∀ q o, C.H0 q = some o → ¬ C.M q → L2.upd H p (.lst ws) q = some o := fun q o z1 z2 => by
    rw [ne q ?_]
    · exact S.out q o z1 z2
    · rintro rfl
      cases k with
      | true => have z : C.H0 q = none := h5; rw [z1] at z; cases z
      | false => exact z2 h5
  have S1 : Sim C F (ρ.set i .u) σ (L2.upd H p (.lst ws)) := (S.lose i).move e (fun q z => upd_there (S.frz q z)) S.frN hout (fun q z => upd_there (S.dom q z)) fun q z => by
    obtain ⟨j, l, zs, j1, j2⟩ := z
    rcases set_get j1 with ⟨_, e1⟩ | ⟨n1, e1⟩
    · cases e1
    · obtain ⟨q', us, k1, k2, _, k4, _⟩ := S.own e1
      rw [j2] at k1
      cases k1
      refine ⟨ne q fun z => ?_, k4⟩
      subst z
      exact n1 (S.dis j i l k zs xs q e1 h j2 hp)
  have S2 := S1.setSlot (i := i) (s := .o k ys) (fun _ => ⟨p, ws, getD_of hp, L2.upd_same, Reps.mono e _ _ hw, h4, h5⟩) fun k' xs' _ j l zs q z1 z2 z3 => by
    rcases set_get z1 with ⟨e0, _⟩ | ⟨n1, e1⟩
    · exact e0
    · rw [hp] at z2
      cases z2
      exact S.dis j i l k zs xs p e1 h z3 hp
  rw [List.set_set] at S2
  have ho : ∀ q, Own (ρ.set i (.o k ys)) σ q → Own ρ σ q := fun q z => by
    obtain ⟨j, l, zs, j1, j2⟩ := z
    rcases set_get j1 with ⟨rfl, e1⟩ | ⟨n1, e1⟩
    · exact ⟨j, k, xs, h, j2⟩
    · exact ⟨j, l, zs, e1, j2⟩
  refine ⟨S2, fun q z => z, fun q o z1 z2 => ?_, fun q z => .inl z, fun q z => .inl (ho q z), fun q z => upd_there z, S2⟩
  rw [ne q]
  · exact z1
  · rintro rfl
    exact z2 ⟨i, k, xs, h, hp⟩

/-! ### operands handed on, read -/
theorem frz_ok {ρs : Rho} {Fs : FS} {Hs : L2.Hp} (Ss : Sim C Fs ρs σ Hs) (st : Step C ρs σ Fs Hs ρ σ F H) {o : Opd} {v : L2.V} {t : T} (h : OpRep C.K σ Hs ρ F H o v) (e : frz ρ o = some (t, ρ')) :
    ∃ F', Step C ρs σ Fs Hs ρ' σ F' H ∧ Ext F H F' H ∧ RepT C.K F' H t v ∧ ∀ o' v', OpRep C.K σ Hs ρ F H o' v' → OpRep C.K σ Hs ρ' F' H o' v' := by
  have S := st.sim
  have opx : ∀ {F' : FS} {ρ' : Rho}, Ext F H F' H → (∀ p, Own ρ' σ p → Own ρ σ p) → ∀ o' v', OpRep C.K σ Hs ρ F H o' v' → OpRep C.K σ Hs ρ' F' H o' v' := fun {F' ρ'} x y o' v' q => by
    cases o' with
    | d i => exact q
    | x t => exact RepT.mono x t v' q
    | f xs =>
      obtain ⟨p, vs, h1, h2, h3, h4, h5⟩ := q
      exact ⟨p, vs, h1, h2, Reps.mono x _ _ h3, h4, fun z => h5 (y p z)⟩
  cases o with
  | x x =>
    cases e
    exact ⟨F, st, .rfl', h, fun _ _ q => q⟩
  | f xs =>
    cases e
    obtain ⟨p, vs, h1, h2, h3, h4, h5⟩ := h
    subst h1
    have x : Ext F H (fun q => F q ∨ q = p) H := ⟨fun q z => .inl z, fun _ _ _ z => z⟩
    exact ⟨_, st.freeze h4 (Ss.h0 h4) (by rw [h2]; simp) h5, x, ⟨p, vs, rfl, .inr rfl, h2, Reps.mono x _ _ h3⟩, opx x fun _ z => z⟩
  | d i =>
    have hv : σ[i]? = some (some v) := h
    dsimp only [frz] at e
    cases hs : ρ[i]? with
    | none => rw [hs] at e; cases e
    | some s =>
      rw [hs] at e
      cases s with
      | u => cases e
      | b xs => cases e
      | v x =>
        cases e
        obtain ⟨w, h1, h2⟩ := S.sl i _ hs
        rw [getD_of hv] at h1
        cases h1
        exact ⟨F, st, .rfl', h2, fun _ _ q => q⟩
      | o k xs =>
        cases k with
        | false => cases e
        | true =>
          cases e
          obtain ⟨p, vs, h1, h2, h3, h4, h5⟩ := S.own hs
          rw [hv] at h1
          cases h1
          obtain ⟨S2, rep⟩ := S.freezeSlot hs hv
          have x : Ext F H (fun q => F q ∨ q = p) H := ⟨fun q z => .inl z, fun _ _ _ z => z⟩
          have y : ∀ q, Own (ρ.set i (.v (.lst xs))) σ q → Own ρ σ q := fun q z => z.set_sub (fun _ _ => by simp)
          refine ⟨_, ?_, x, rep, opx x y⟩
          refine st.trans ⟨fun q z => .inl z, fun q o z _ => z, fun q z => ?_, fun q z => .inl (y q z), fun q z => z, S2⟩
          rcases z with z | z
          · exact .inl z
          · subst z
            exact .inr (.inr ⟨i, true, xs, hs, hv⟩)
def OpReps (K : PySem.W.Frag) (σ : LSt) (Hs : L2.Hp) (ρ : Rho) (F : FS) (H : L2.Hp) : List Opd → List L2.V → Prop
  | [], vs => vs = []
  | o :: os, vs => ∃ v r, vs = v :: r ∧ OpRep K σ Hs ρ F H o v ∧ OpReps K σ Hs ρ F H os r
theorem OpReps.map {Hs Hs' : L2.Hp} (f : ∀ o v, OpRep C.K σ Hs ρ F H o v → OpRep C.K σ Hs' ρ' F' H' o v) : ∀ {os : List Opd} {vs : List L2.V}, OpReps C.K σ Hs ρ F H os vs → OpReps C.K σ Hs' ρ' F' H' os vs
  | [], _, h => h
  | o :: os, _, h => by
    obtain ⟨v, r, e, h1, h2⟩ := h
    exact ⟨v, r, e, f o v h1, OpReps.map f h2⟩
theorem OpReps.get {Hs : L2.Hp} : ∀ {os : List Opd} {vs : List L2.V} {i : Nat} {o : Opd}, OpReps C.K σ Hs ρ F H os vs → os[i]? = some o → ∃ v, vs[i]? = some v ∧ OpRep C.K σ Hs ρ F H o v
  | [], _, _, _, _, e => by simp at e
  | x :: xs, _, 0, t, h, e => by
    obtain ⟨v, r, e1, h1, _⟩ := h
    subst e1
    simp at e
    subst e
    exact ⟨v, rfl, h1⟩
  | x :: xs, _, i + 1, t, h, e => by
    obtain ⟨v, r, e1, _, q⟩ := h
    subst e1
    obtain ⟨u, h2, h3⟩ := OpReps.get (i := i) (o := t) q (by simpa using e)
    exact ⟨u, by simpa using h2, h3⟩
theorem frzs_ok {ρs : Rho} {Fs : FS} {Hs : L2.Hp} (Ss : Sim C Fs ρs σ Hs) : ∀ {os : List Opd} {ρ ρ' : Rho} {F : FS} {vs : List L2.V} {ts : List T}, Step C ρs σ Fs Hs ρ σ F H → OpReps C.K σ Hs ρ F H os vs → frzs ρ os = some (ts, ρ') →
    ∃ F', Step C ρs σ Fs Hs ρ' σ F' H ∧ Ext F H F' H ∧ Reps C.K F' H ts vs
  | [], ρ, ρ', F, vs, ts, st, h, e => by
    cases e
    exact ⟨F, st, .rfl', h⟩
  | o :: os, ρ, ρ', F, vs, ts, st, h, e => by
    obtain ⟨v, r, e1, h1, h2⟩ := h
    subst e1
    unfold frzs at e
    cases q : frz ρ o with
    | none => rw [q] at e; cases e
    | some p =>
      obtain ⟨t, ρ1⟩ := p
      rw [q] at e
      dsimp only at e
      cases q2 : frzs ρ1 os with
      | none => rw [q2] at e; cases e
      | some p2 =>
        obtain ⟨us, ρ2⟩ := p2
        rw [q2] at e
        cases e
        obtain ⟨F1, st1, x1, rep, f⟩ := frz_ok Ss st h1 q
        obtain ⟨F2, st2, x2, rs⟩ := frzs_ok Ss st1 (h2.map f) q2
        exact ⟨F2, st2, x1.trans x2, ⟨v, r, rfl, RepT.mono x2 _ _ rep, rs⟩⟩
def PReps (K : PySem.W.Frag) (F : FS) (H : L2.Hp) : List T → List L2.V → Prop
  | [], vs => vs = []
  | t :: ts, vs => ∃ v r, vs = v :: r ∧ PRep K F H t v ∧ PReps K F H ts r
theorem ress_ok {Hs : L2.Hp} (S : Sim C F ρ σ H) : ∀ {os : List Opd} {vs : List L2.V} {ts : List T}, OpReps C.K σ Hs ρ F H os vs → ress ρ os = some ts → PReps C.K F H ts vs
  | [], _, _, h, e => by cases e; exact h
  | o :: os, _, ts, h, e => by
    obtain ⟨v, r, e1, h1, h2⟩ := h
    subst e1
    unfold ress at e
    cases q : res ρ o with
    | none => rw [q] at e; cases e
    | some t =>
      rw [q] at e
      dsimp only at e
      cases q2 : ress ρ os with
      | none => rw [q2] at e; cases e
      | some us =>
        rw [q2] at e
        cases e
        exact ⟨v, r, rfl, res_prep S h1 q, ress_ok S h2 q2⟩
end
end PV

set_option Elab.async false
set_option linter.all false
set_option maxRecDepth 100000
set_option maxHeartbeats 1000000
/-! PV, soundness 3: what an expression's code says of the expression; operators. -/
namespace PV
open PySem PySem.Spec PyProof.Rows

/-- what stands behind the numbers of classes: their addresses, the names of their fields -/
structure Ga where
  ca : Nat → Addr
  nm : Nat → List Str
/-- an exception as it lies -/
def XR (K : PySem.W.Frag) (G : Ga) (F : FS) (H : L2.Hp) (c : Nat) (ts : List T) (cv : Value) (d : Option Addr) : Prop :=
  cv = .ref (G.ca c) ∧ ((ts = [] ∧ d = none) ∨ ∃ dd fs, d = some dd ∧ H dd = some (.xd fs) ∧ ∀ (i : Nat) (t : T) (x : Str), ts[i]? = some t → (G.nm c)[i]? = some x → ∃ v, fs.lookup x = some v ∧ RepT K F H t v)
section
variable (X : L2.Cx) (G : Ga) (W : L2.WX) (C : FC)
def WE (e : Expr) (σ : LSt) (H : L2.Hp) (Q : L2.VK) : Prop := ∀ pins s, L2.Inv X pins σ H s → wpAny (model X.prog X.w) X.A (eval e X.env) (L2.EP X pins σ Q) X.xe s
def WT (e : Expr) (σ : LSt) (H : L2.Hp) (Q : Bool → L2.Hp → Prop) : Prop := ∀ pins s, L2.Inv X pins σ H s → wpAny (model X.prog X.w) X.A (isTrue e X.env (eval e X.env)) (L2.TP X pins σ Q) X.xe s
def WEs : List Expr → LSt → L2.Hp → (List L2.V → L2.Hp → Prop) → Prop
  | [], _, H, K => K [] H
  | e :: es, σ, H, K => WE X e σ H fun v H1 => WEs es σ H1 fun vs H2 => K (v :: vs) H2
def OutX (ρ : Rho) (σ : LSt) (F : FS) (H : L2.Hp) (c : Nat) (ts : List T) (ρ' : Rho) : Prop := ∀ F' H' cv d, Step C ρ σ F H ρ' σ F' H' → XR C.K G F' H' c ts cv d → W cv d σ H'
def OutA (ρ : Rho) (σ : LSt) (F : FS) (H : L2.Hp) (r : R A) (Q : L2.VK) : Prop := match r with
  | .ok a ρ' => ∀ F' H' v, Step C ρ σ F H ρ' σ F' H' → ARep C.K σ H ρ' F' H' a v → Q v H'
  | .exc c ts ρ' => OutX G W C ρ σ F H c ts ρ'
  | .bad => False
def OutO (ρ : Rho) (σ : LSt) (F : FS) (H : L2.Hp) (r : R Opd) (Q : L2.VK) : Prop := match r with
  | .ok o ρ' => ∀ F' H' v, Step C ρ σ F H ρ' σ F' H' → OpRep C.K σ H ρ' F' H' o v → Q v H'
  | .exc c ts ρ' => OutX G W C ρ σ F H c ts ρ'
  | .bad => False
def OutOs (ρ : Rho) (σ : LSt) (F : FS) (H : L2.Hp) (r : R (List Opd)) (Q : List L2.V → L2.Hp → Prop) : Prop := match r with
  | .ok os ρ' => ∀ F' H' vs, Step C ρ σ F H ρ' σ F' H' → OpReps C.K σ H ρ' F' H' os vs → Q vs H'
  | .exc c ts ρ' => OutX G W C ρ σ F H c ts ρ'
  | .bad => False
def OutB (ρ : Rho) (σ : LSt) (F : FS) (H : L2.Hp) (r : R Bool) (Q : Bool → L2.Hp → Prop) : Prop := match r with
  | .ok b ρ' => ∀ F' H', Step C ρ σ F H ρ' σ F' H' → Q b H'
  | .exc c ts ρ' => OutX G W C ρ σ F H c ts ρ'
  | .bad => False
/-- the code says what the expression does -/
def SE (e : Expr) (r : Rho → R A) : Prop := ∀ ρ F σ H Q, Sim C F ρ σ H → OutA G W C ρ σ F H (r ρ) Q → WE X e σ H Q
def SO (e : Expr) (r : Rho → R Opd) : Prop := ∀ ρ F σ H Q, Sim C F ρ σ H → OutO G W C ρ σ F H (r ρ) Q → WE X e σ H Q
def SOs (es : List Expr) (r : Rho → R (List Opd)) : Prop := ∀ ρ F σ H Q, Sim C F ρ σ H → OutOs G W C ρ σ F H (r ρ) Q → WEs X es σ H Q
def SB (e : Expr) (r : Rho → R Bool) : Prop := ∀ ρ F σ H Q, Sim C F ρ σ H → OutB G W C ρ σ F H (r ρ) Q → WT X e σ H Q
end
section
variable {X : L2.Cx} {G : Ga} {W : L2.WX} {C : FC} {ρ ρ' : Rho} {σ : LSt} {F F' : FS} {H H' : L2.Hp} {e a b : Expr} {es : List Expr} {pos : Pos}
theorem pe_we : L2.PE X e (WE X e) := ⟨fun pins s σ H Q I h => h pins s I⟩
theorem we_of {t : L2.TE} {Q : L2.VK} (p : L2.PE X e t) (h : t σ H Q) : WE X e σ H Q := fun pins s I => p.run pins s σ H Q I h
theorem pt_wt : L2.PT X e (WT X e) := ⟨fun pins s σ H Q I h => h pins s I⟩
theorem wt_of {t : L2.TT} {Q : Bool → L2.Hp → Prop} (p : L2.PT X e t) (h : t σ H Q) : WT X e σ H Q := fun pins s I => p.run pins s σ H Q I h
theorem WE.mono {Q Q' : L2.VK} (h : WE X e σ H Q) (k : ∀ v H', Q v H' → Q' v H') : WE X e σ H Q' := fun pins s I =>
  L2.thn (h pins s I) fun u s' ⟨v, H1, I1, r, q⟩ => ⟨v, H1, I1, r, k v H1 q⟩
theorem WEs.mono : ∀ {es : List Expr} {H : L2.Hp} {Q Q' : List L2.V → L2.Hp → Prop}, WEs X es σ H Q → (∀ v H', Q v H' → Q' v H') → WEs X es σ H Q'
  | [], _, _, _, h, k => k _ _ h
  | _ :: es, _, _, _, h, k => WE.mono h fun v H1 q => WEs.mono q fun vs H2 q2 => k _ _ q2

/-! ### later starts -/
theorem ARep.early {Hs : L2.Hp} {r : A} {v : L2.V} (h : ARep C.K σ H ρ' F' H' r v) (e : ∀ p, Hs p ≠ none → H p ≠ none) : ARep C.K σ Hs ρ' F' H' r v := by
  cases r with
  | t x => exact h
  | f xs =>
    obtain ⟨p, vs, h1, h2, h3, h4, h5, h6⟩ := h
    refine ⟨p, vs, h1, ?_, h3, h4, h5, h6⟩
    cases q : Hs p with
    | none => rfl
    | some o => exact absurd h2 (e p (by rw [q]; simp))
theorem OutX.later {ρs : Rho} {Fs : FS} {Hs : L2.Hp} {c : Nat} {ts : List T} (st : Step C ρs σ Fs Hs ρ σ F H) (h : OutX G W C ρs σ Fs Hs c ts ρ') : OutX G W C ρ σ F H c ts ρ' := fun F' H' cv d s x => h F' H' cv d (st.trans s) x
theorem OutA.later {ρs : Rho} {Fs : FS} {Hs : L2.Hp} {r : R A} {Q : L2.VK} (st : Step C ρs σ Fs Hs ρ σ F H) (h : OutA G W C ρs σ Fs Hs r Q) : OutA G W C ρ σ F H r Q := by
  cases r with
  | ok a ρ' => exact fun F' H' v s x => h F' H' v (st.trans s) (x.early st.there)
  | exc c ts ρ' => exact OutX.later st h
  | bad => exact h
theorem OutB.later {ρs : Rho} {Fs : FS} {Hs : L2.Hp} {r : R Bool} {Q : Bool → L2.Hp → Prop} (st : Step C ρs σ Fs Hs ρ σ F H) (h : OutB G W C ρs σ Fs Hs r Q) : OutB G W C ρ σ F H r Q := by
  cases r with
  | ok a ρ' => exact fun F' H' s => h F' H' (st.trans s)
  | exc c ts ρ' => exact OutX.later st h
  | bad => exact h
/-! ### binds -/
theorem outOs_bind {r : R (List Opd)} {f : List Opd → Rho → R A} {Q : L2.VK} {K : List L2.V → L2.Hp → Prop} (h : OutA G W C ρ σ F H (r.bind f) Q)
    (k : ∀ os ρ', OutA G W C ρ σ F H (f os ρ') Q → ∀ F' H' vs, Step C ρ σ F H ρ' σ F' H' → OpReps C.K σ H ρ' F' H' os vs → K vs H') : OutOs G W C ρ σ F H r K := by
  cases r with
  | ok os ρ' => exact k os ρ' h
  | exc c ts ρ' => exact h
  | bad => exact h
theorem outO_bind {r : R Opd} {f : Opd → Rho → R A} {Q : L2.VK} {K : L2.VK} (h : OutA G W C ρ σ F H (r.bind f) Q)
    (k : ∀ o ρ', OutA G W C ρ σ F H (f o ρ') Q → ∀ F' H' v, Step C ρ σ F H ρ' σ F' H' → OpRep C.K σ H ρ' F' H' o v → K v H') : OutO G W C ρ σ F H r K := by
  cases r with
  | ok os ρ' => exact k os ρ' h
  | exc c ts ρ' => exact h
  | bad => exact h
theorem outOB_bind {r : R Opd} {f : Opd → Rho → R Bool} {Q : Bool → L2.Hp → Prop} {K : L2.VK} (h : OutB G W C ρ σ F H (r.bind f) Q)
    (k : ∀ o ρ', OutB G W C ρ σ F H (f o ρ') Q → ∀ F' H' v, Step C ρ σ F H ρ' σ F' H' → OpRep C.K σ H ρ' F' H' o v → K v H') : OutO G W C ρ σ F H r K := by
  cases r with
  | ok os ρ' => exact k os ρ' h
  | exc c ts ρ' => exact h
  | bad => exact h
theorem outB_bind {r : R Bool} {f : Bool → Rho → R A} {Q : L2.VK} {K : Bool → L2.Hp → Prop} (h : OutA G W C ρ σ F H (r.bind f) Q)
    (k : ∀ o ρ', OutA G W C ρ σ F H (f o ρ') Q → ∀ F' H', Step C ρ σ F H ρ' σ F' H' → K o H') : OutB G W C ρ σ F H r K := by
  cases r with
  | ok os ρ' => exact k os ρ' h
  | exc c ts ρ' => exact h
  | bad => exact h
/-- evP's bind, by the operand -/
theorem outP_bind {r : R Opd} {f : T → Rho → R A} {Q : L2.VK} {K : L2.VK} (h : OutA G W C ρ σ F H ((r.bind fun o ρ => match res ρ o with
    | some t => .ok t ρ
    | none => .bad).bind f) Q) (k : ∀ t ρ', OutA G W C ρ σ F H (f t ρ') Q → ∀ F' H' v, Step C ρ σ F H ρ' σ F' H' → PRep C.K F' H' t v → K v H') : OutO G W C ρ σ F H r K := by
  cases r with
  | ok o ρ' =>
    intro F' H' v st op
    have h1 : OutA G W C ρ σ F H (R.bind (match res ρ' o with
      | some t => (.ok t ρ' : R T)
      | none => .bad) f) Q := h
    cases q : res ρ' o with
    | none => rw [q] at h1; exact h1.elim
    | some t =>
      rw [q] at h1
      exact k t ρ' h1 F' H' v st (res_prep st.sim op q)
  | exc c ts ρ' => exact h
  | bad => exact h

/-! ### operands in a row -/
theorem so_of_se {r : Ex → Rho → R A} {c : Ex} (h : SE X G W C e (r c)) (hc : ∀ i, c ≠ .loc i) : SO X G W C e (evO r c) := by
  intro ρ F σ H Q S o
  refine h ρ F σ H Q S ?_
  have e1 : evO r c ρ = (r c ρ).bind fun a ρ => .ok (ofA a) ρ := by
    cases c <;> first | rfl | exact absurd rfl (hc _)
  rw [e1] at o
  cases q : r c ρ with
  | ok a ρ' =>
    rw [q] at o
    exact fun F' H' v st ar => o F' H' v st ar.op
  | exc c ts ρ' => rw [q] at o; exact o
  | bad => rw [q] at o; exact o
theorem sos_nil {ih : Ex → Rho → R A} : SOs X G W C [] (evOs ih []) := fun ρ F σ H Q S o => o F H [] (.rfl' S) rfl
theorem sos_cons {ih : Ex → Rho → R A} {c : Ex} {cs : List Ex} (h : SO X G W C e (evO ih c)) (hs : SOs X G W C es (evOs ih cs)) : SOs X G W C (e :: es) (evOs ih (c :: cs)) := by
  intro ρ F σ H Q S o
  refine h ρ F σ H _ S ?_
  have o1 : OutOs G W C ρ σ F H ((evO ih c ρ).bind fun o ρ => (evOs ih cs ρ).bind fun os ρ => .ok (o :: os) ρ) Q := o
  cases q : evO ih c ρ with
  | exc c ts ρ' => rw [q] at o1; exact o1
  | bad => rw [q] at o1; exact o1
  | ok oo ρ1 =>
    rw [q] at o1
    intro F1 H1 v st1 op1
    refine hs ρ1 F1 σ H1 _ st1.sim ?_
    have o2 : OutOs G W C ρ σ F H ((evOs ih cs ρ1).bind fun os ρ => .ok (oo :: os) ρ) Q := o1
    cases q2 : evOs ih cs ρ1 with
    | exc c ts ρ' => rw [q2] at o2; exact OutX.later st1 o2
    | bad => rw [q2] at o2; exact o2
    | ok os ρ2 =>
      rw [q2] at o2
      intro F2 H2 vs st2 ops
      exact o2 F2 H2 (v :: vs) (st1.trans st2) ⟨v, vs, rfl, op1.step st1.sim st2, ops.map fun o v q => q.early st1.there⟩
end
end PV

set_option Elab.async false
set_option linter.all false
set_option maxRecDepth 100000
set_option maxHeartbeats 1000000
/-! PV, soundness 4: displays, operators, comparisons. -/
namespace PV
open PySem PySem.Spec PyProof.Rows
def isStar : Expr → Bool
  | .Starred _ _ => true
  | _ => false
theorem star_cons {e : Expr} {es : List Expr} {env : PySem.Env} (h : isStar e = false) : starEach (e :: es) env = (false, eval e env) :: starEach es env := by
  cases e <;> first
    | rfl
    | cases h
theorem star_plain {pos : Pos} {env : PySem.Env} : ∀ {es : List Expr}, es.all (fun e => !isStar e) = true → (backTo pos (starEach es env)).any (·.1) = false
  | [], _ => rfl
  | e :: es, h => by
    have h1 : (!isStar e && es.all fun e => !isStar e) = true := h
    rw [Bool.and_eq_true, Bool.not_eq_true'] at h1
    rw [star_cons h1.1]
    exact star_plain (pos := pos) h1.2
section
variable {X : L2.Cx} {G : Ga} {W : L2.WX} {C : FC} {ρ ρ' : Rho} {σ : LSt} {F F' : FS} {H H' : L2.Hp} {e a b : Expr} {es : List Expr} {pos : Pos} {ih : Ex → Rho → R A}
theorem pa_wes : ∀ {es : List Expr}, es.all (fun e => !isStar e) = true → L2.PA X es (WEs X es)
  | [], _ => L2.pa_nil
  | e :: es, h => by
    have h1 : (!isStar e && es.all fun e => !isStar e) = true := h
    rw [Bool.and_eq_true, Bool.not_eq_true'] at h1
    exact L2.pa_cons pe_we (pa_wes h1.2) (star_cons h1.1)
theorem big_eq : (big : Nat) = sizeLine := by rw [sizeLine_eq]; rfl
/-- a new list -/
theorem new_f (S : Sim C F ρ σ H) {p : Addr} {xs : List T} {vs : List L2.V} (hp : H p = none) (h : Reps C.K F H xs vs) :
    Step C ρ σ F H ρ σ F (L2.upd H p (.lst vs)) ∧ ARep C.K σ H ρ F (L2.upd H p (.lst vs)) (.f xs) (.ref p) := by
  have st : Step C ρ σ F H ρ σ F (L2.upd H p (.lst vs)) := (Step.rfl' S).alloc hp (fun _ h => h) fun _ h => .inl h
  refine ⟨st, p, vs, rfl, hp, L2.upd_same, Reps.mono (st.ext S) _ _ h, fun q => ?_, fun q => ?_⟩
  · exact S.frz p q hp
  · obtain ⟨i, k, ys, h1, h2⟩ := q
    obtain ⟨q, us, h3, h4, _⟩ := S.own h1
    rw [h2] at h3
    cases h3
    rw [hp] at h4
    cases h4
/-- a new tuple -/
theorem new_t (S : Sim C F ρ σ H) {p : Addr} {xs : List T} {vs : List L2.V} (hp : H p = none) (h : Reps C.K F H xs vs) :
    Step C ρ σ F H ρ σ (fun q => F q ∨ q = p) (L2.upd H p (.tup vs)) ∧ ARep C.K σ H ρ (fun q => F q ∨ q = p) (L2.upd H p (.tup vs)) (.t (.tup xs)) (.ref p) := by
  have st : Step C ρ σ F H ρ σ (fun q => F q ∨ q = p) (L2.upd H p (.tup vs)) := (Step.rfl' S).alloc hp (fun _ h => .inl h) fun _ h => h
  exact ⟨st, p, vs, rfl, .inr rfl, L2.upd_same, Reps.mono (st.ext S) _ _ h⟩
/-- what a result is wanted for, from here on -/
def Wants (C : FC) (σ : LSt) (ρ : Rho) (F : FS) (H : L2.Hp) (r : A) (Q : L2.VK) : Prop := ∀ F' H' v, Step C ρ σ F H ρ σ F' H' → ARep C.K σ H ρ F' H' r v → Q v H'
theorem Wants.of {ρs : Rho} {Fs : FS} {Hs : L2.Hp} {r : A} {Q : L2.VK} (h : OutA G W C ρs σ Fs Hs (.ok r ρ) Q) (st : Step C ρs σ Fs Hs ρ σ F H) : Wants C σ ρ F H r Q := fun F' H' v s x => h F' H' v (st.trans s) (x.early st.there)
theorem Wants.here {x : T} {Q : L2.VK} {v : L2.V} (w : Wants C σ ρ F H (.t x) Q) (S : Sim C F ρ σ H) (h : RepT C.K F H x v) : Q v H := w F H v (.rfl' S) h
theorem Wants.lst {xs : List T} {vs : List L2.V} {Q : L2.VK} (w : Wants C σ ρ F H (.f xs) Q) (S : Sim C F ρ σ H) (h : Reps C.K F H xs vs) (p : Addr) (hp : H p = none) : Q (.ref p) (L2.upd H p (.lst vs)) :=
  w _ _ _ (new_f S hp h).1 (new_f S hp h).2
theorem Wants.tup {xs : List T} {vs : List L2.V} {Q : L2.VK} (w : Wants C σ ρ F H (.t (.tup xs)) Q) (S : Sim C F ρ σ H) (h : Reps C.K F H xs vs) (p : Addr) (hp : H p = none) : Q (.ref p) (L2.upd H p (.tup vs)) :=
  w _ _ _ (new_t S hp h).1 (new_t S hp h).2

/-! ### constants, names -/
theorem se_of_pe {v : L2.V} {x : T} (p : L2.PE X e (L2.tC v)) (h : ∀ F H, RepT C.K F H x v) : SE X G W C e (fun ρ => .ok (.t x) ρ) := fun ρ F σ H Q S o => we_of p (o F H v (.rfl' S) (h F H))
def NameOk (X : L2.Cx) (i : Nat) (x : Str) : Prop := X.N[i]? = some x ∧ L2.Vis X.env.scope x ∧ (x == ("__debug__" : Str)) = false ∧ (x == ("__classdict__" : Str)) = false
theorem so_loc {i : Nat} {x : Str} (h : NameOk X i x) : SO X G W C (.Name x pos) (evO ih (.loc i)) := by
  intro ρ F σ H Q S o
  refine we_of (L2.pe_var h.1 h.2.1 h.2.2.1 h.2.2.2) ?_
  have o1 : OutO G W C ρ σ F H (match (ρ[i]?).bind slotT with
    | some _ => .ok (.d i) ρ
    | none => .bad) Q := o
  cases q : (ρ[i]?).bind slotT with
  | none => rw [q] at o1; exact o1.elim
  | some t =>
    rw [q] at o1
    obtain ⟨s, e1, e2⟩ := Option.bind_eq_some_iff.mp q
    have r := S.sl i s e1
    have hv : ∃ v, σ.getD i none = some v := by
      cases s with
      | u => cases e2
      | v t => obtain ⟨v, h1, _⟩ := r; exact ⟨v, h1⟩
      | o k xs => obtain ⟨p, _, h1, _⟩ := r; exact ⟨_, h1⟩
      | b xs => obtain ⟨p, _, h1, _⟩ := r; exact ⟨_, h1⟩
    obtain ⟨v, hv⟩ := hv
    exact ⟨v, of_getD hv, o1 F H v (.rfl' S) (of_getD hv)⟩
theorem se_loc {i : Nat} {x : Str} (h : NameOk X i x) : SE X G W C (.Name x pos) (fun ρ => match frz ρ (.d i) with
    | some (t, ρ) => .ok (.t t) ρ
    | none => .bad) := by
  intro ρ F σ H Q S o
  refine we_of (L2.pe_var h.1 h.2.1 h.2.2.1 h.2.2.2) ?_
  dsimp only at o
  cases q : frz ρ (.d i) with
  | none => rw [q] at o; exact o.elim
  | some p =>
    obtain ⟨t, ρ1⟩ := p
    rw [q] at o
    have hv : ∃ v, σ[i]? = some (some v) := by
      dsimp only [frz] at q
      cases hs : ρ[i]? with
      | none => rw [hs] at q; cases q
      | some s =>
        have r := S.sl i s hs
        rw [hs] at q
        cases s with
        | u => cases q
        | b xs => cases q
        | v x => obtain ⟨v, h1, _⟩ := r; exact ⟨v, of_getD h1⟩
        | o k xs => obtain ⟨p, _, h1, _⟩ := r; exact ⟨_, of_getD h1⟩
    obtain ⟨v, hv⟩ := hv
    obtain ⟨F1, st, _, rep, _⟩ := frz_ok S (.rfl' S) (o := .d i) hv q
    exact ⟨v, hv, o F1 H v st rep⟩

/-! ### displays -/
theorem se_lst {cs : List Ex} (h : SOs X G W C es (evOs ih cs)) (hp : es.all (fun e => !isStar e) = true) : SE X G W C (.List es pos) (fun ρ => (evOs ih cs ρ).bind fun os ρ => match frzs ρ os with
    | some (ts, ρ) => if ts.length ≤ big then .ok (.f ts) ρ else .bad
    | none => .bad) := by
  intro ρ F σ H Q S o
  refine we_of (L2.pe_lst (pa_wes hp)) ?_
  refine h ρ F σ H _ S (outOs_bind o fun os ρ1 o1 F1 H1 vs st ops => ?_)
  cases q : frzs ρ1 os with
  | none => rw [q] at o1; exact o1.elim
  | some p =>
    obtain ⟨ts, ρ2⟩ := p
    rw [q] at o1
    dsimp only at o1
    obtain ⟨F2, st2, x, rs⟩ := frzs_ok S st ops q
    by_cases hl : ts.length ≤ big
    · rw [if_pos hl] at o1
      refine ⟨by rw [← rs.length, ← big_eq]; exact hl, fun p hp => ?_⟩
      exact Wants.lst (Wants.of o1 st2) st2.sim rs p hp
    · rw [if_neg hl] at o1; exact o1.elim
theorem se_tup {cs : List Ex} {k : Nat} (h : SOs X G W C es (evOs ih cs)) (hp : es.all (fun e => !isStar e) = true) : SE X G W C (.Tuple es k pos) (fun ρ => (evOs ih cs ρ).bind fun os ρ => match frzs ρ os with
    | some (ts, ρ) => if ts.length ≤ big then .ok (.t (.tup ts)) ρ else .bad
    | none => .bad) := by
  intro ρ F σ H Q S o
  refine we_of (L2.pe_tup (pa_wes hp)) ?_
  refine h ρ F σ H _ S (outOs_bind o fun os ρ1 o1 F1 H1 vs st ops => ?_)
  cases q : frzs ρ1 os with
  | none => rw [q] at o1; exact o1.elim
  | some p =>
    obtain ⟨ts, ρ2⟩ := p
    rw [q] at o1
    dsimp only at o1
    obtain ⟨F2, st2, x, rs⟩ := frzs_ok S st ops q
    by_cases hl : ts.length ≤ big
    · rw [if_pos hl] at o1
      refine ⟨by rw [← rs.length, ← big_eq]; exact hl, fun p hp => ?_⟩
      exact Wants.tup (Wants.of o1 st2) st2.sim rs p hp
    · rw [if_neg hl] at o1; exact o1.elim

/-! ### two operands, read at once -/
theorem two {cs : List Ex} {f : List T → Rho → R A} {K : L2.V → L2.V → L2.VK → L2.Hp → Prop} {Q : L2.VK} {r : T → T → Rho → R A} (h : SOs X G W C [a, b] (evOs ih cs)) (S : Sim C F ρ σ H)
    (o : OutA G W C ρ σ F H ((evOs ih cs ρ).bind fun os ρ => match ress ρ os with
      | some [x, y] => r x y ρ
      | _ => .bad) Q)
    (k : ∀ x y ρ' F' H' v u, Step C ρ σ F H ρ' σ F' H' → PRep C.K F' H' x v → PRep C.K F' H' y u → OutA G W C ρ σ F H (r x y ρ') Q → K v u Q H') :
    WE X a σ H fun v H1 => WE X b σ H1 fun u H2 => K v u Q H2 := by
  have z : WEs X [a, b] σ H (fun vs H2 => match vs with
    | [v, u] => K v u Q H2
    | _ => False) := by
    refine h ρ F σ H _ S (outOs_bind o fun os ρ1 o1 F1 H1 vs st ops => ?_)
    cases q : ress ρ1 os with
    | none => rw [q] at o1; exact o1.elim
    | some ts =>
      rw [q] at o1
      have pr := ress_ok st.sim ops q
      match ts, pr, o1 with
      | [], _, o1 => exact o1.elim
      | [_], _, o1 => exact o1.elim
      | x :: y :: z :: r, _, o1 => exact o1.elim
      | [x, y], pr, o1 =>
        obtain ⟨v, r1, e1, h1, u, r2, e2, h2, e3⟩ := pr
        subst e1 e2 e3
        exact k x y ρ1 F1 H1 v u st h1 h2 o1
  exact z
def opOf : Bin → Operator
  | .add => .Add | .sub => .Sub | .mul => .Mult | .fdiv => .FloorDiv | .mod => .Mod | .pow => .Pow | .shl => .LShift
def binR (K : PySem.W.Frag) : Bin → L2.R2
  | .add => fun x y H Q => L2.rI0 (fun i j => .int (i + j)) x y H Q ∨ (∃ i j, x = .str i ∧ y = .str j ∧ i.length + j.length ≤ sizeLine ∧ Q (.str (i ++ j)) H) ∨ L2.rCat x y H Q ∨ L2.rCatA K x y H Q
  | .sub => L2.rI0 fun i j => .int (i - j)
  | .mul => fun x y H Q => L2.rI L2.CMulW (fun i j => .int (i * j)) x y H Q ∨ L2.rRep x y H Q
  | .fdiv => L2.rI L2.CDivW fun i j => .int (i / j)
  | .mod => L2.rI (fun _ j => 0 < j) fun i j => .int (i % j)
  | .pow => L2.rI L2.CPow fun i j => .int (i ^ j.toNat)
  | .shl => L2.rI L2.CPow fun i j => .int (i * 2 ^ j.toNat)
theorem bin_rule (o : Bin) : L2.OpR X (binaryOp (opOf o)) (binR X.K o) := by
  cases o with
  | add => exact L2.op_add.or (L2.op_add_str.or (L2.op_cat.or L2.op_catA))
  | sub => exact L2.op_sub
  | mul => exact L2.op_mulW.or L2.op_rep
  | fdiv => exact L2.op_fdivW
  | mod => exact L2.op_mod
  | pow => exact L2.op_pow
  | shl => exact L2.op_shl
theorem bin_ok (S : Sim C F ρ σ H) {o : Bin} {x y : T} {v u : L2.V} {r : A} {Q : L2.VK} (hx : PRep C.K F H x v) (hy : PRep C.K F H y u) (e : binT o x y = some r) (w : Wants C σ ρ F H r Q) : binR C.K o v u H Q := by
  cases o with
  | add =>
    cases x <;> cases y <;> try (cases e; done)
    case int.int i j =>
      cases hx; cases hy; cases e
      exact .inl ⟨i, j, rfl, rfl, w.here S rfl⟩
    case str.str i j =>
      cases hx; cases hy
      simp only [binT] at e
      split at e
      · rename_i hl
        cases e
        exact .inr (.inl ⟨i, j, rfl, rfl, by rw [← big_eq]; exact hl, w.here S rfl⟩)
      · cases e
    case lst.lst i j =>
      obtain ⟨p, vs, rfl, h1, h2⟩ := hx
      obtain ⟨q, us, rfl, h3, h4⟩ := hy
      simp only [binT] at e
      split at e
      · rename_i hl
        cases e
        refine .inr (.inr (.inl ⟨p, q, vs, us, rfl, rfl, h1, h3, by rw [← h2.length, ← h4.length, ← big_eq]; exact hl, fun p' hp => ?_⟩))
        exact w.lst S (h2.append h4) p' hp
      · cases e
    case tup.tup i j =>
      obtain ⟨p, vs, rfl, f1, h1, h2⟩ := hx
      obtain ⟨q, us, rfl, f2, h3, h4⟩ := hy
      simp only [binT] at e
      split at e
      · rename_i hl
        cases e
        have l1 := h2.length
        have l2 := h4.length
        refine .inr (.inr (.inr ⟨p, q, vs, us, rfl, rfl, L2.SqT.of h1, L2.SqT.of h3, by rw [← l1, ← l2, ← big_eq]; exact hl, fun z => ?_, fun z1 z2 => ?_, fun _ _ p' hp => ?_⟩))
        · subst z
          have : i = [] := List.length_eq_zero_iff.mp l1
          subst this
          exact w.here S ⟨q, us, rfl, f2, h3, h4⟩
        · subst z2
          have : j = [] := List.length_eq_zero_iff.mp l2
          subst this
          exact w.here S (by rw [List.append_nil]; exact ⟨p, vs, rfl, f1, h1, h2⟩)
        · exact w.tup S (h2.append h4) p' hp
      · cases e
  | sub =>
    cases x <;> cases y <;> try (cases e; done)
    case int.int i j => cases hx; cases hy; cases e; exact ⟨i, j, rfl, rfl, w.here S rfl⟩
  | mul =>
    cases x <;> cases y <;> try (cases e; done)
    case int.int i j =>
      cases hx; cases hy
      simp only [binT] at e
      split at e
      · rename_i hl
        cases e
        exact .inl ⟨i, j, rfl, rfl, of_decide_eq_true (p := i.natAbs.log2 + j.natAbs.log2 < 1000000) hl, w.here S rfl⟩
      · cases e
    case lst.int i j =>
      obtain ⟨p, vs, rfl, h1, h2⟩ := hx
      cases hy
      simp only [binT] at e
      split at e
      · rename_i hl
        cases e
        refine .inr ⟨p, j, vs, rfl, rfl, h1, hl.2.1, hl.2.2, by rw [← h2.length, ← big_eq]; exact hl.1, fun p' hp => ?_⟩
        exact w.lst S (h2.rep _) p' hp
      · cases e
  | fdiv =>
    cases x <;> cases y <;> try (cases e; done)
    case int.int i j =>
      cases hx; cases hy
      simp only [binT] at e
      split at e
      · rename_i hl
        cases e
        exact ⟨i, j, rfl, rfl, hl, w.here S rfl⟩
      · cases e
  | mod =>
    cases x <;> cases y <;> try (cases e; done)
    case int.int i j =>
      cases hx; cases hy
      simp only [binT] at e
      split at e
      · rename_i hl
        cases e
        exact ⟨i, j, rfl, rfl, hl, w.here S rfl⟩
      · cases e
  | pow =>
    cases x <;> cases y <;> try (cases e; done)
    case int.int i j =>
      cases hx; cases hy
      simp only [binT] at e
      split at e
      · rename_i hl
        cases e
        exact ⟨i, j, rfl, rfl, hl, w.here S rfl⟩
      · cases e
  | shl =>
    cases x <;> cases y <;> try (cases e; done)
    case int.int i j =>
      cases hx; cases hy
      simp only [binT] at e
      split at e
      · rename_i hl
        cases e
        exact ⟨i, j, rfl, rfl, hl, w.here S rfl⟩
      · cases e
theorem se_bin {cs : List Ex} {o : Bin} (hK : X.K = C.K) (h : SOs X G W C [a, b] (evOs ih cs)) : SE X G W C (.BinOp a (opOf o) b pos) (fun ρ => (evOs ih cs ρ).bind fun os ρ => match ress ρ os with
    | some [x, y] => ofA? (binT o x y) ρ
    | _ => .bad) := by
  intro ρ F σ H Q S out
  refine we_of (L2.pe_op (bin_rule o) pe_we pe_we) ?_
  refine two (f := fun _ _ => .bad) (K := fun v u Q H => binR X.K o v u H Q) h S out fun x y ρ' F' H' v u st hx hy o1 => ?_
  cases q : binT o x y with
  | none => rw [q] at o1; exact o1.elim
  | some r =>
    rw [q] at o1
    rw [hK]
    exact bin_ok st.sim hx hy q (Wants.of o1 st)
end
end PV

set_option Elab.async false
set_option linter.all false
set_option maxRecDepth 100000
set_option maxHeartbeats 1000000
/-! PV, soundness 5: comparisons, tests. -/
namespace PV
open PySem PySem.Spec PyProof.Rows
/-! ### data -/
theorem okT_ok : ∀ (n : Nat) (x : T), okT n x = true → (toD x).canLay0 = true ∧ (toD x).depth ≤ n := by
  intro n
  induction n with
  | zero =>
    intro x h
    cases x <;> first
      | exact ⟨rfl, Nat.zero_le _⟩
      | exact ⟨h, Nat.zero_le _⟩
      | (simp [okT] at h)
  | succ n ih =>
    have all : ∀ xs : List T, xs.all (okT n) = true → PyData.canLayAll0 (toDs xs) = true ∧ PyData.depthAll (toDs xs) ≤ n := by
      intro xs
      induction xs with
      | nil => intro _; exact ⟨rfl, Nat.zero_le _⟩
      | cons x xs ih2 =>
        intro h
        rw [List.all_cons, Bool.and_eq_true] at h
        obtain ⟨a1, a2⟩ := ih x h.1
        obtain ⟨b1, b2⟩ := ih2 h.2
        refine ⟨?_, ?_⟩
        · show (PyData.canLay0 (toD x) && PyData.canLayAll0 (toDs xs)) = true
          rw [a1, b1] <;> rfl
        · show max (toD x).depth (PyData.depthAll (toDs xs)) ≤ n
          omega
    intro x h
    cases x with
    | lst xs =>
      obtain ⟨a, b⟩ := all xs h
      exact ⟨by simpa [toD, PyData.canLay0] using a, by show PyData.depthAll (toDs xs) + 1 ≤ n + 1; omega⟩
    | tup xs =>
      obtain ⟨a, b⟩ := all xs h
      exact ⟨by simpa [toD, PyData.canLay0] using a, by show PyData.depthAll (toDs xs) + 1 ≤ n + 1; omega⟩
    | ins c fs => simp [okT] at h
    | scr ns => simp [okT] at h
    | dit _ _ => simp [okT] at h
    | dik _ _ => simp [okT] at h
    | str s => exact ⟨h, Nat.zero_le _⟩
    | _ => exact ⟨rfl, Nat.zero_le _⟩
theorem shaped_of {x : T} (h : okT 64 x = true) : SeqAt.shaped (toD x) = true := by
  obtain ⟨a, b⟩ := okT_ok 64 x h
  unfold SeqAt.shaped
  rw [a, decide_eq_true b] <;> rfl
theorem okT_mono : ∀ {n : Nat} {x : T}, okT n x = true → okT (n + 1) x = true := by
  intro n
  induction n with
  | zero => intro x h; cases x <;> first | rfl | exact h | (simp [okT] at h)
  | succ n ih =>
    intro x h
    cases x with
    | lst xs => exact List.all_eq_true.mpr fun y hy => ih (List.all_eq_true.mp (show xs.all (okT n) = true from h) y hy)
    | tup xs => exact List.all_eq_true.mpr fun y hy => ih (List.all_eq_true.mp (show xs.all (okT n) = true from h) y hy)
    | ins c fs => simp [okT] at h
    | scr ns => simp [okT] at h
    | dit _ _ => simp [okT] at h
    | dik _ _ => simp [okT] at h
    | str s => exact h
    | _ => rfl
theorem eqT_toD : ∀ (n : Nat) (x y : T), okT n x = true → okT n y = true → PyData.eqv (toD x) (toD y) = eqT x y := by
  intro n
  induction n with
  | zero =>
    intro x y hx hy
    cases x <;> first
      | (simp [okT] at hx; done)
      | (cases y <;> first
          | (simp [okT] at hy; done)
          | rfl)
  | succ n ih =>
    have all : ∀ xs ys : List T, xs.all (okT n) = true → ys.all (okT n) = true → PyData.eqvAll (toDs xs) (toDs ys) = eqTs xs ys := by
      intro xs
      induction xs with
      | nil => intro ys _ _; cases ys <;> rfl
      | cons x xs ih2 =>
        intro ys hx hy
        cases ys with
        | nil => rfl
        | cons y ys =>
          rw [List.all_cons, Bool.and_eq_true] at hx hy
          show (PyData.eqv (toD x) (toD y) && PyData.eqvAll (toDs xs) (toDs ys)) = (eqT x y && eqTs xs ys)
          rw [ih x y hx.1 hy.1, ih2 ys hx.2 hy.2]
    intro x y hx hy
    cases x with
    | lst xs =>
      cases y with
      | lst ys =>
        show PyData.eqvAll (toDs xs) (toDs ys) = eqTs xs ys
        exact all xs ys hx hy
      | ins _ _ => simp [okT] at hy
      | scr _ => simp [okT] at hy
      | dit _ _ => simp [okT] at hy
      | dik _ _ => simp [okT] at hy
      | _ => rfl
    | tup xs =>
      cases y with
      | tup ys =>
        show PyData.eqvAll (toDs xs) (toDs ys) = eqTs xs ys
        exact all xs ys hx hy
      | ins _ _ => simp [okT] at hy
      | scr _ => simp [okT] at hy
      | dit _ _ => simp [okT] at hy
      | dik _ _ => simp [okT] at hy
      | _ => rfl
    | ins _ _ => simp [okT] at hx
    | scr _ => simp [okT] at hx
    | dit _ _ => simp [okT] at hx
    | dik _ _ => simp [okT] at hx
    | _ =>
      cases y <;> first
        | (simp [okT] at hy; done)
        | rfl
section
variable {K : PySem.W.Frag} {F : FS} {H : L2.Hp}
mutual
theorem RepT.dp : ∀ (n : Nat) (x : T) (v : L2.V), okT n x = true → RepT K F H x v → L2.Dp K H v (toD x)
  | _, .non, v, _, h => by cases (show v = _ from h); exact .non
  | _, .bl b, v, _, h => by cases (show v = _ from h); exact .bl b
  | _, .int i, v, _, h => by cases (show v = _ from h); exact .int i
  | _, .str s, v, _, h => by cases (show v = _ from h); exact .str s
  | 0, .lst xs, v, e, h => by simp [okT] at e
  | 0, .tup xs, v, e, h => by simp [okT] at e
  | n + 1, .lst xs, v, e, h => by
    obtain ⟨p, vs, h1, _, h3, h4⟩ := h
    subst h1
    exact .lst (L2.SqL.of h3) (Reps.dps n xs vs e h4)
  | n + 1, .tup xs, v, e, h => by
    obtain ⟨p, vs, h1, _, h3, h4⟩ := h
    subst h1
    exact .tup (L2.SqT.of h3) (Reps.dps n xs vs e h4)
  | n, .ins _ _, v, e, h => h.elim
  | 0, .scr _, v, e, h => by simp [okT] at e
  | n + 1, .scr _, v, e, h => by simp [okT] at e
  | 0, .dit _ _, v, e, h => by simp [okT] at e
  | n + 1, .dit _ _, v, e, h => by simp [okT] at e
  | 0, .dik _ _, v, e, h => by simp [okT] at e
  | n + 1, .dik _ _, v, e, h => by simp [okT] at e
theorem Reps.dps : ∀ (n : Nat) (xs : List T) (vs : List L2.V), xs.all (okT n) = true → Reps K F H xs vs → L2.DpAll K H vs (toDs xs)
  | _, [], vs, _, h => by cases (show vs = [] from h); exact .nil
  | n, x :: xs, vs, e, h => by
    obtain ⟨v, r, h1, h2, h3⟩ := h
    subst h1
    rw [List.all_cons, Bool.and_eq_true] at e
    exact .cons (RepT.dp n x v e.1 h2) (Reps.dps n xs r e.2 h3)
end
theorem PRep.dp {n : Nat} {x : T} {v : L2.V} (e : okT (n + 1) x = true) (h : PRep K F H x v) : L2.Dp K H v (toD x) := by
  cases x with
  | lst xs =>
    obtain ⟨p, vs, h1, h2, h3⟩ := h
    subst h1
    exact .lst (L2.SqL.of h2) (Reps.dps n xs vs e h3)
  | _ => exact RepT.dp (F := F) _ _ _ e h
theorem any_toD {n : Nat} {x : T} (hx : okT n x = true) : ∀ {ys : List T}, ys.all (okT n) = true → ((toDs ys).any fun z => PyData.eqv z (toD x)) = anyEq x ys
  | [], _ => rfl
  | y :: ys, h => by
    rw [List.all_cons, Bool.and_eq_true] at h
    show (PyData.eqv (toD y) (toD x) || (toDs ys).any fun z => PyData.eqv z (toD x)) = (eqT y x || anyEq x ys)
    rw [eqT_toD n y x h.1 hx, any_toD hx h.2]
theorem flat_v {x : T} {v : L2.V} (e : flatT x = true) (h : RepT K F H x v) : L2.flatV v = true := by
  cases x with
  | non => cases (show v = _ from h); rfl
  | bl b => cases (show v = _ from h); rfl
  | int i => cases (show v = _ from h); rfl
  | str s => cases (show v = _ from h); rfl
  | _ => cases e
theorem flat_eq {x y : T} {v u : L2.V} (ex : flatT x = true) (ey : flatT y = true) (hx : RepT K F H x v) (hy : RepT K F H y u) : L2.eqV v u = eqT x y := by
  cases x with
  | non => cases (show v = _ from hx); cases y <;> first | (cases ey; done) | (cases (show u = _ from hy); rfl)
  | bl b => cases (show v = _ from hx); cases y <;> first | (cases ey; done) | (cases (show u = _ from hy); rfl)
  | int i => cases (show v = _ from hx); cases y <;> first | (cases ey; done) | (cases (show u = _ from hy); rfl)
  | str s => cases (show v = _ from hx); cases y <;> first | (cases ey; done) | (cases (show u = _ from hy); rfl)
  | _ => cases ex
theorem flat_all : ∀ {xs : List T} {vs : List L2.V}, xs.all flatT = true → Reps K F H xs vs → vs.all L2.flatV = true
  | [], _, _, h => by cases (show _ = [] from h); rfl
  | x :: xs, _, e, h => by
    obtain ⟨v, r, h1, h2, h3⟩ := h
    subst h1
    rw [List.all_cons, Bool.and_eq_true] at e
    rw [List.all_cons, flat_v e.1 h2, flat_all e.2 h3] <;> rfl
theorem flat_any {x : T} {u : L2.V} (ex : flatT x = true) (hx : RepT K F H x u) : ∀ {xs : List T} {vs : List L2.V}, xs.all flatT = true → Reps K F H xs vs → L2.inV u vs = anyEq x xs
  | [], _, _, h => by cases (show _ = [] from h); rfl
  | y :: xs, _, e, h => by
    obtain ⟨v, r, h1, h2, h3⟩ := h
    subst h1
    rw [List.all_cons, Bool.and_eq_true] at e
    show (L2.eqV v u || L2.inV u r) = (eqT y x || anyEq x xs)
    rw [flat_eq e.1 ex h2 hx, flat_any ex hx e.2 h3]
end
section
variable {X : L2.Cx} {G : Ga} {W : L2.WX} {C : FC} {ρ ρ' : Rho} {σ : LSt} {F F' : FS} {H H' : L2.Hp} {e a b : Expr} {es : List Expr} {pos : Pos} {ih : Ex → Rho → R A}
def cmpOf : Cmp → CmpOp
  | .eq => .Eq | .ne => .NotEq | .lt => .Lt | .le => .LtE | .gt => .Gt | .ge => .GtE | .isin => .In | .notin => .NotIn
/-- in a dict -/
def rInM (neg : Bool) : L2.R2 := fun x y H Q => ∃ a o, y = .ref a ∧ L2.DGet H a x o ∧ Q (.bl (if neg = true then !o.isSome else o.isSome)) H
theorem op_inM (hu : X.A.units + 65 < cLine) : L2.OpR X (compareOp .In) (rInM false) := by
  intro pins s σ H x y v u Q I rx ry h
  obtain ⟨a, o, rfl, g, q⟩ := h
  obtain rfl : u = .ref a := ry
  exact L2.d_in (by omega) I g rx fun s' I' => ⟨.bl o.isSome, H, I', rfl, q⟩
theorem op_notInM (hu : X.A.units + 65 < cLine) : L2.OpR X (compareOp .NotIn) (rInM true) := by
  intro pins s σ H x y v u Q I rx ry h
  obtain ⟨a, o, rfl, g, q⟩ := h
  obtain rfl : u = .ref a := ry
  exact L2.d_notIn (by omega) I g rx fun s' I' => ⟨.bl (!o.isSome), H, I', rfl, q⟩
def cmpR (K : PySem.W.Frag) : Cmp → L2.R2
  | .eq => L2.rEqD K
  | .ne => L2.rNeD K
  | .lt => L2.rI0 fun i j => .bl (decide (i < j))
  | .le => L2.rI0 fun i j => .bl (decide (i ≤ j))
  | .gt => L2.rI0 fun i j => .bl (decide (j < i))
  | .ge => L2.rI0 fun i j => .bl (decide (j ≤ i))
  | .isin => fun x y H Q => (L2.rInD K x y H Q ∨ L2.rIn K false x y H Q) ∨ rInM false x y H Q
  | .notin => fun x y H Q => (L2.rNotInD K x y H Q ∨ L2.rIn K true x y H Q) ∨ rInM true x y H Q
theorem cmp_rule (hu : X.A.units + 65 < cLine) (o : Cmp) : L2.OpR X (compareOp (cmpOf o)) (cmpR X.K o) := by
  cases o with
  | eq => exact L2.op_eqD (by omega)
  | ne => exact L2.op_neD (by omega)
  | lt => exact L2.op_lt
  | le => exact L2.op_le
  | gt => exact L2.op_gt
  | ge => exact L2.op_ge
  | isin => exact ((L2.op_inD hu).or L2.op_in_seq).or (op_inM hu)
  | notin => exact ((L2.op_notInD hu).or L2.op_notIn_seq).or (op_notInM hu)
theorem PRep.flat {x : T} {v : L2.V} (e : flatT x = true) (h : PRep C.K F H x v) : RepT C.K F H x v := by
  cases x with
  | lst xs => cases e
  | _ => exact h
theorem kys_ok {K : PySem.W.Frag} : ∀ {xs : List T} {vs : List L2.V} {k : List L2.Key}, Reps K F H xs vs → kysT xs = some k → vs = k.map L2.kV
  | [], _, _, h, e => by cases e; exact h
  | x :: xs, _, k, h, e => by
    obtain ⟨v, r, rfl, h1, h2⟩ := h
    unfold kysT at e
    split at e
    · rename_i y ys e1 e2
      cases e
      rw [kys_ok h2 e2]
      cases x with
      | int i => cases e1; cases (show v = _ from h1); rfl
      | str i => cases e1; cases (show v = _ from h1); rfl
      | _ => cases e1
    · cases e
theorem tk_ok {K : PySem.W.Frag} {x : T} {v : L2.V} {k : List L2.Key} (h : RepT K F H x v) (e : tkT x = some k) : ∃ p, v = .ref p ∧ H p = some (.tup (k.map L2.kV)) := by
  cases x with
  | tup xs =>
    obtain ⟨p, vs, h1, h2, h3, h4⟩ := h
    exact ⟨p, h1, by rw [h3, kys_ok h4 e]⟩
  | _ => cases e
theorem val_zip (k : List L2.Key) : ∀ (ks : List (List L2.Key)) (us : List L2.V), ks.length = us.length → (L2.valV (ks.zip us) k).isSome = ks.any fun j => decide (j = k)
  | [], _, _ => rfl
  | a :: ks, [], h => by cases h
  | a :: ks, u :: us, h => by
    rw [List.zip_cons_cons, ← L2.valV_any, List.any_cons, L2.valV_any, val_zip k ks us (Nat.succ.inj h), List.any_cons]
theorem in_ok {x y : T} {v u : L2.V} {k : Bool} {Q : L2.VK} (neg : Bool) (hx : PRep C.K F H x v) (hy : PRep C.K F H y u) (e : inT x y = some k) (q : Q (.bl (if neg = true then !k else k)) H) :
    ((match neg with | false => L2.rInD C.K v u H Q | true => L2.rNotInD C.K v u H Q) ∨ L2.rIn C.K neg v u H Q) ∨ rInM neg v u H Q := by
  cases y with
  | dit ks vs =>
    obtain ⟨kk, e1, e2⟩ := Option.map_eq_some_iff.mp (show (tkT x).map (fun k => ks.any fun j => decide (j = k)) = some k from e)
    subst e2
    obtain ⟨p, us, rfl, _, h2, h3, h4⟩ := hy
    have hx' : RepT C.K F H x v := by
      cases x with
      | tup xs => exact hx
      | _ => cases e1
    obtain ⟨b, rfl, hb⟩ := tk_ok hx' e1
    refine .inr ⟨p, _, rfl, .t h2 hb, ?_⟩
    rw [val_zip kk ks us (by rw [h3]; exact h4.length)]
    exact q
  | lst ys =>
    simp only [inT] at e
    split at e
    · rename_i hh
      rw [Bool.and_eq_true] at hh
      cases e
      obtain ⟨p, vs, h1, h2, h3⟩ := hy
      subst h1
      have dx : L2.Dp C.K H v (toD x) := PRep.dp (okT_mono hh.1) hx
      have dy : L2.Dp C.K H (.ref p) (.list (toDs ys)) := .lst (L2.SqL.of h2) (Reps.dps 63 ys vs hh.2 h3)
      have sx := shaped_of (okT_mono hh.1)
      have sy : SeqAt.shaped (.list (toDs ys)) = true := shaped_of (x := .lst ys) hh.2
      cases neg with
      | false => exact .inl <| .inl ⟨toD x, toDs ys, dx, dy, sx, sy, by rw [any_toD hh.1 hh.2]; exact q⟩
      | true => exact .inl <| .inl ⟨toD x, toDs ys, dx, dy, sx, sy, by rw [any_toD hh.1 hh.2]; exact q⟩
    · cases e
  | tup ys =>
    simp only [inT] at e
    split at e
    · rename_i hh
      rw [Bool.and_eq_true] at hh
      cases e
      obtain ⟨p, vs, h1, _, h2, h3⟩ := hy
      subst h1
      have rx := PRep.flat hh.1 hx
      refine .inl <| .inr ⟨p, vs, rfl, .inr (L2.SqT.of h2), flat_v hh.1 rx, flat_all hh.2 h3, ?_⟩
      rw [flat_any hh.1 rx hh.2 h3]
      exact q
    · cases e
  | _ => cases e
theorem cmp_ok {o : Cmp} {x y : T} {v u : L2.V} {k : Bool} {Q : L2.VK} (hx : PRep C.K F H x v) (hy : PRep C.K F H y u) (e : cmpT o x y = some k) (q : Q (.bl k) H) : cmpR C.K o v u H Q := by
  cases o with
  | eq =>
    simp only [cmpT] at e
    split at e
    · rename_i hh
      rw [Bool.and_eq_true] at hh
      cases e
      exact ⟨toD x, toD y, PRep.dp hh.1 hx, PRep.dp hh.2 hy, shaped_of hh.1, shaped_of hh.2, by rw [eqT_toD 64 x y hh.1 hh.2]; exact q⟩
    · cases e
  | ne =>
    simp only [cmpT] at e
    split at e
    · rename_i hh
      rw [Bool.and_eq_true] at hh
      cases e
      exact ⟨toD x, toD y, PRep.dp hh.1 hx, PRep.dp hh.2 hy, shaped_of hh.1, shaped_of hh.2, by rw [eqT_toD 64 x y hh.1 hh.2]; exact q⟩
    · cases e
  | isin => exact in_ok false hx hy e q
  | notin =>
    simp only [cmpT] at e
    obtain ⟨j, e1, e2⟩ := Option.map_eq_some_iff.mp e
    subst e2
    exact in_ok true hx hy e1 q
  | lt => cases x <;> cases y <;> first | (cases e; done) | (cases hx; cases hy; cases e; exact ⟨_, _, rfl, rfl, q⟩)
  | le => cases x <;> cases y <;> first | (cases e; done) | (cases hx; cases hy; cases e; exact ⟨_, _, rfl, rfl, q⟩)
  | gt => cases x <;> cases y <;> first | (cases e; done) | (cases hx; cases hy; cases e; exact ⟨_, _, rfl, rfl, q⟩)
  | ge => cases x <;> cases y <;> first | (cases e; done) | (cases hx; cases hy; cases e; exact ⟨_, _, rfl, rfl, q⟩)
theorem se_cmp {cs : List Ex} {o : Cmp} (hK : X.K = C.K) (hu : X.A.units + 65 < cLine) (hm : behindInMarks (cmpOf o) b = false) (h : SOs X G W C [a, b] (evOs ih cs)) : SE X G W C (.Compare a [cmpOf o] [b] pos) (fun ρ => (evOs ih cs ρ).bind fun os ρ => match ress ρ os with
    | some [x, y] => ofB (cmpT o x y) ρ
    | _ => .bad) := by
  intro ρ F σ H Q S out
  refine we_of (L2.pe_cmpR (cmp_rule hu o) pe_we pe_we hm) ?_
  refine two (f := fun _ _ => .bad) (K := fun v u Q H => cmpR X.K o v u H Q) h S out fun x y ρ' F' H' v u st hx hy o1 => ?_
  cases q : cmpT o x y with
  | none => rw [q] at o1; exact o1.elim
  | some r =>
    rw [q] at o1
    rw [hK]
    exact cmp_ok hx hy q ((Wants.of o1 st).here st.sim rfl)
end
end PV

set_option Elab.async false
set_option linter.all false
set_option maxRecDepth 100000
set_option maxHeartbeats 1000000
/-! PV, soundness 6: tests, chains, and, or, not, if-else, is. -/
namespace PV
open PySem PySem.Spec PyProof.Rows
section
variable {X : L2.Cx} {G : Ga} {W : L2.WX} {C : FC} {ρ ρ' : Rho} {σ : LSt} {F F' : FS} {H H' : L2.Hp} {e a b c : Expr} {es rest : List Expr} {pos : Pos} {ih ih2 : Ex → Rho → R A} {ce ca cb cc : Ex}
def notLoc : Ex → Bool
  | .loc _ => false
  | _ => true
theorem evO_eq (h : notLoc ce = true) : evO ih ce ρ = (ih ce ρ).bind fun a ρ => .ok (ofA a) ρ := by
  cases ce <;> first | rfl | cases h
/-- a code whose values are bools: its test is its value -/
def IsB (r : Rho → R A) : Prop := ∀ ρ a ρ', r ρ = .ok a ρ' → ∃ k, a = .t (.bl k)
def asTest (Q : Bool → L2.Hp → Prop) : L2.VK := fun x H => ∃ k, x = .bl k ∧ Q k H
theorem outA_of_evB (hn : notLoc ce = true) (hb : IsB (ih ce)) {Q : Bool → L2.Hp → Prop} (o : OutB G W C ρ σ F H (evB ih ce ρ) Q) : OutA G W C ρ σ F H (ih ce ρ) (asTest Q) := by
  have o1 : OutB G W C ρ σ F H (((evO ih ce ρ).bind fun o ρ => match res ρ o with
    | some t => .ok t ρ
    | none => .bad).bind fun t ρ => match truth t with
    | some b => .ok b ρ
    | none => .bad) Q := o
  rw [evO_eq hn] at o1
  cases q : ih ce ρ with
  | exc c ts ρ' => rw [q] at o1; exact o1
  | bad => rw [q] at o1; exact o1
  | ok a ρ' =>
    rw [q] at o1
    obtain ⟨k, rfl⟩ := hb ρ a ρ' q
    exact fun F' H' v st ar => ⟨k, ar, o1 F' H' st⟩
theorem ofB_isB {o : Option Bool} {a : A} (h : ofB o ρ = .ok a ρ') : ∃ k, a = .t (.bl k) := by
  cases o with
  | none => cases h
  | some k => cases h; exact ⟨k, rfl⟩

/-! ### == and its like -/
def cmpC (ih : Ex → Rho → R A) (o : Cmp) (cs : List Ex) (ρ : Rho) : R A := (evOs ih cs ρ).bind fun os ρ => match ress ρ os with
  | some [x, y] => ofB (cmpT o x y) ρ
  | _ => .bad
theorem cmpC_isB {o : Cmp} {cs : List Ex} : IsB (cmpC ih o cs) := by
  intro ρ a ρ' h
  unfold cmpC at h
  cases q : evOs ih cs ρ with
  | exc c ts r => rw [q] at h; cases h
  | bad => rw [q] at h; cases h
  | ok os ρ1 =>
    rw [q] at h
    dsimp only [R.bind] at h
    split at h
    · exact ofB_isB h
    · cases h
theorem rd_cmp {cs : List Ex} {o : Cmp} {Q : L2.VK} (hK : X.K = C.K) (h : SOs X G W C [a, b] (evOs ih cs)) (S : Sim C F ρ σ H) (out : OutA G W C ρ σ F H (cmpC ih o cs ρ) Q) : L2.tOp (cmpR X.K o) (WE X a) (WE X b) σ H Q := by
  refine two (f := fun _ _ => .bad) (K := fun v u Q H => cmpR X.K o v u H Q) h S out fun x y ρ' F' H' v u st hx hy o1 => ?_
  cases q : cmpT o x y with
  | none => rw [q] at o1; exact o1.elim
  | some r =>
    rw [q] at o1
    rw [hK]
    exact cmp_ok hx hy q ((Wants.of o1 st).here st.sim rfl)
theorem sb_cmp {cs : List Ex} {o : Cmp} (hK : X.K = C.K) (hu : X.A.units + 65 < cLine) (hm : behindInMarks (cmpOf o) b = false) (h : SOs X G W C [a, b] (evOs ih cs)) (hc : notLoc ce = true) (he : ih2 ce = cmpC ih o cs) : SB X G W C (.Compare a [cmpOf o] [b] pos) (evB ih2 ce) := by
  intro ρ F σ H Q S o
  have o2 := outA_of_evB hc (by rw [he]; exact cmpC_isB) o
  rw [he] at o2
  exact wt_of (L2.pt_cmpR (cmp_rule hu _) pe_we pe_we hm) (rd_cmp hK h S o2)

/-! ### chains -/
def chnC (ih : Ex → Rho → R A) (o p : Cmp) (ca cb cc : Ex) (ρ : Rho) : R A := (evOs ih [ca, cb] ρ).bind fun os ρ => match os with
  | [oa, ob] => match res ρ oa, res ρ ob with
    | some x, some y => match cmpT o x y with
      | some true => (evO ih cc ρ).bind fun oc ρ => match res ρ ob, res ρ oc with
        | some y, some z => ofB (cmpT p y z) ρ
        | _, _ => .bad
      | some false => .ok (.t (.bl false)) ρ
      | none => .bad
    | _, _ => .bad
  | _ => .bad
theorem chnC_isB {o p : Cmp} : IsB (chnC ih o p ca cb cc) := by
  intro ρ a ρ' h
  unfold chnC at h
  cases q : evOs ih [ca, cb] ρ with
  | exc c ts r => rw [q] at h; cases h
  | bad => rw [q] at h; cases h
  | ok os ρ1 =>
    rw [q] at h
    dsimp only [R.bind] at h
    split at h
    · split at h
      · split at h
        · rename_i oa ob _ _ _ _ _ _ _
          cases q2 : evO ih cc ρ1 with
          | exc c ts r => rw [q2] at h; cases h
          | bad => rw [q2] at h; cases h
          | ok oc ρ2 =>
            rw [q2] at h
            dsimp only at h
            split at h
            · exact ofB_isB h
            · cases h
        · cases h; exact ⟨_, rfl⟩
        · cases h
      · cases h
    · cases h
theorem rd_chn {o p : Cmp} {Q : L2.VK} (hK : X.K = C.K) (h : SOs X G W C [a, b] (evOs ih [ca, cb])) (h2 : SO X G W C c (evO ih cc)) (S : Sim C F ρ σ H) (out : OutA G W C ρ σ F H (chnC ih o p ca cb cc ρ) Q) :
    L2.tChain (cmpR X.K o) (cmpR X.K p) (WE X a) (WE X b) (WE X c) σ H Q := by
  have z : WEs X [a, b] σ H (fun vs H2 => match vs with
    | [v, u] => cmpR X.K o v u H2 fun z H3 => ∃ k, z = .bl k ∧ (if k = true then WE X c σ H3 fun w' H4 => cmpR X.K p u w' H4 Q else Q (.bl false) H3)
    | _ => False) := by
    refine h ρ F σ H _ S (outOs_bind out fun os ρ1 o1 F1 H1 vs st ops => ?_)
    match os, ops, o1 with
    | [], _, o1 => exact o1.elim
    | [_], _, o1 => exact o1.elim
    | _ :: _ :: _ :: _, _, o1 => exact o1.elim
    | [oa, ob], ops, o1 =>
      obtain ⟨v, r1, e1, h3, u, r2, e2, h4, e3⟩ := ops
      subst e1 e2 e3
      dsimp only at o1 ⊢
      cases qa : res ρ1 oa with
      | none => rw [qa] at o1; exact o1.elim
      | some x =>
        rw [qa] at o1
        cases qb : res ρ1 ob with
        | none => rw [qb] at o1; exact o1.elim
        | some y =>
          rw [qb] at o1
          dsimp only at o1
          cases qc : cmpT o x y with
          | none => rw [qc] at o1; exact o1.elim
          | some k =>
            rw [qc] at o1
            rw [hK]
            refine cmp_ok (res_prep st.sim h3 qa) (res_prep st.sim h4 qb) qc ⟨k, rfl, ?_⟩
            cases k with
            | false =>
              rw [if_neg Bool.false_ne_true]
              exact (Wants.of o1 st).here st.sim rfl
            | true =>
              rw [if_pos rfl]
              refine h2 ρ1 F1 σ H1 _ st.sim ?_
              refine outO_bind (OutA.later st o1) fun oc ρ2 o2 F2 H2 w st2 op2 => ?_
              cases q2 : res ρ2 ob with
              | none => rw [q2] at o2; exact o2.elim
              | some y2 =>
                rw [q2] at o2
                cases q3 : res ρ2 oc with
                | none => rw [q3] at o2; exact o2.elim
                | some z2 =>
                  rw [q3] at o2
                  dsimp only at o2
                  cases q4 : cmpT p y2 z2 with
                  | none => rw [q4] at o2; exact o2.elim
                  | some k2 =>
                    rw [q4] at o2
                    exact cmp_ok (res_prep st2.sim (h4.step st.sim st2) q2) (res_prep st2.sim op2 q3) q4 ((Wants.of o2 st2).here st2.sim rfl)
  exact z
theorem se_chn {o p : Cmp} (hK : X.K = C.K) (hu : X.A.units + 65 < cLine) (hm : lastMarks [cmpOf o, cmpOf p] [b, c] = false) (h : SOs X G W C [a, b] (evOs ih [ca, cb])) (h2 : SO X G W C c (evO ih cc)) : SE X G W C (.Compare a [cmpOf o, cmpOf p] [b, c] pos) (chnC ih o p ca cb cc) :=
  fun ρ F σ H Q S out => we_of (L2.pe_chain (cmp_rule hu o) (cmp_rule hu p) pe_we pe_we pe_we hm) (rd_chn hK h h2 S out)
theorem sb_chn {o p : Cmp} (hK : X.K = C.K) (hu : X.A.units + 65 < cLine) (hm : lastMarks [cmpOf o, cmpOf p] [b, c] = false) (h : SOs X G W C [a, b] (evOs ih [ca, cb])) (h2 : SO X G W C c (evO ih cc)) (hc : notLoc ce = true) (he : ih2 ce = chnC ih o p ca cb cc) :
    SB X G W C (.Compare a [cmpOf o, cmpOf p] [b, c] pos) (evB ih2 ce) := by
  intro ρ F σ H Q S out
  have o2 := outA_of_evB hc (by rw [he]; exact chnC_isB) out
  rw [he] at o2
  exact wt_of (L2.pt_chain (cmp_rule hu o) (cmp_rule hu p) pe_we pe_we pe_we hm) (rd_chn hK h h2 S o2)

/-! ### is None, is True -/
def isnC (ih : Ex → Rho → R A) (neg : Bool) (ca : Ex) (ρ : Rho) : R A := (evP ih ca ρ).bind fun x ρ => match x with
  | .non => .ok (.t (.bl (!neg))) ρ
  | _ => .ok (.t (.bl neg)) ρ
theorem bind_isB {α : Type} {r : R α} {f : α → Rho → R A} (hf : ∀ x ρ a ρ', f x ρ = .ok a ρ' → ∃ k, a = .t (.bl k)) {x : A} (h : r.bind f = .ok x ρ') : ∃ k, x = .t (.bl k) := by
  cases r with
  | ok y ρ1 => exact hf y ρ1 x ρ' h
  | exc c ts r => cases h
  | bad => cases h
theorem isnC_isB {neg : Bool} : IsB (isnC ih neg ca) := fun ρ a ρ' h => bind_isB (fun x ρ a ρ' h => by
  cases x <;> (cases h; exact ⟨_, rfl⟩)) h
theorem prep_non {t : T} {v : L2.V} (h : PRep C.K F H t v) : decide (v = .non) = (match t with | .non => true | _ => false) := by
  cases t with
  | non => cases (show v = _ from h); rfl
  | bl b => cases (show v = _ from h); rfl
  | int i => cases (show v = _ from h); rfl
  | str s => cases (show v = _ from h); rfl
  | lst xs => obtain ⟨p, vs, h1, _⟩ := h; subst h1; rfl
  | tup xs => obtain ⟨p, vs, h1, _⟩ := h; subst h1; rfl
  | ins c fs => exact (show False from h).elim
  | scr ns => obtain ⟨p, h1, _⟩ := h; subst h1; rfl
  | dit _ _ => obtain ⟨p, _, h1, _⟩ := h; subst h1; rfl
  | dik _ _ => obtain ⟨p, _, h1, _⟩ := h; subst h1; rfl
theorem rd_isn {neg : Bool} {Q : L2.VK} (h : SO X G W C a (evO ih ca)) (S : Sim C F ρ σ H) (out : OutA G W C ρ σ F H (isnC ih neg ca ρ) Q) :
    WE X a σ H fun x H1 => Q (.bl (if neg then !decide (x = .non) else decide (x = .non))) H1 := by
  refine h ρ F σ H _ S (outP_bind out fun t ρ1 o1 F1 H1 v st pr => ?_)
  rw [prep_non pr]
  cases t with
  | non => cases neg <;> exact (Wants.of o1 st).here st.sim rfl
  | _ => cases neg <;> exact (Wants.of o1 st).here st.sim rfl
theorem se_isN {j : Nat} {pos' : Pos} (h : SO X G W C a (evO ih ca)) : SE X G W C (.Compare a [.Is] [.Constant .none j pos'] pos) (isnC ih false ca) :=
  fun ρ F σ H Q S out => we_of (L2.pe_cmp (L2.pc_isN pe_we)) (rd_isn h S out)
theorem se_notN {j : Nat} {pos' : Pos} (h : SO X G W C a (evO ih ca)) : SE X G W C (.Compare a [.IsNot] [.Constant .none j pos'] pos) (isnC ih true ca) :=
  fun ρ F σ H Q S out => we_of (L2.pe_cmp (L2.pc_notN pe_we)) (rd_isn h S out)
theorem sb_isN {j : Nat} {pos' : Pos} (h : SO X G W C a (evO ih ca)) (hc : notLoc ce = true) (he : ih2 ce = isnC ih false ca) : SB X G W C (.Compare a [.Is] [.Constant .none j pos'] pos) (evB ih2 ce) := by
  intro ρ F σ H Q S out
  have o2 := outA_of_evB hc (by rw [he]; exact isnC_isB) out
  rw [he] at o2
  exact wt_of (L2.pt_cmp (L2.pc_isN pe_we)) (rd_isn h S o2)
theorem sb_notN {j : Nat} {pos' : Pos} (h : SO X G W C a (evO ih ca)) (hc : notLoc ce = true) (he : ih2 ce = isnC ih true ca) : SB X G W C (.Compare a [.IsNot] [.Constant .none j pos'] pos) (evB ih2 ce) := by
  intro ρ F σ H Q S out
  have o2 := outA_of_evB hc (by rw [he]; exact isnC_isB) out
  rw [he] at o2
  exact wt_of (L2.pt_cmp (L2.pc_notN pe_we)) (rd_isn h S o2)
def isbC (ih : Ex → Rho → R A) (neg : Bool) (ca : Ex) (k : Bool) (ρ : Rho) : R A := (evP ih ca ρ).bind fun x ρ => match x with
  | .bl j => .ok (.t (.bl (neg != (j == k)))) ρ
  | _ => .bad
theorem isbC_isB {neg k : Bool} : IsB (isbC ih neg ca k) := fun ρ a ρ' h => bind_isB (fun x ρ a ρ' h => by
  cases x <;> first | (cases h; exact ⟨_, rfl⟩) | cases h) h
theorem rd_isb {neg k : Bool} {j : Nat} {pos' : Pos} {Q : L2.VK} (h : SO X G W C a (evO ih ca)) (S : Sim C F ρ σ H) (out : OutA G W C ρ σ F H (isbC ih neg ca k ρ) Q) :
    L2.tOp (if neg then L2.rNotB else L2.rIsB) (WE X a) (L2.tC (.bl k)) σ H Q := by
  refine h ρ F σ H _ S (outP_bind out fun t ρ1 o1 F1 H1 v st pr => ?_)
  cases t with
  | bl i =>
    cases (show v = _ from pr)
    have q := (Wants.of o1 st).here st.sim rfl
    cases neg with
    | false => exact ⟨i, k, rfl, rfl, by cases i <;> cases k <;> exact q⟩
    | true => exact ⟨i, k, rfl, rfl, by cases i <;> cases k <;> exact q⟩
  | _ => exact o1.elim
theorem se_isB {j : Nat} {k : Bool} {pos' : Pos} (h : SO X G W C a (evO ih ca)) : SE X G W C (.Compare a [.Is] [.Constant (.bool k) j pos'] pos) (isbC ih false ca k) :=
  fun ρ F σ H Q S out => we_of (L2.pe_cmpR L2.op_isBl pe_we L2.pe_bl (L2.nomark _)) (rd_isb (j := j) (pos' := pos') h S out)
theorem se_notB {j : Nat} {k : Bool} {pos' : Pos} (h : SO X G W C a (evO ih ca)) : SE X G W C (.Compare a [.IsNot] [.Constant (.bool k) j pos'] pos) (isbC ih true ca k) :=
  fun ρ F σ H Q S out => we_of (L2.pe_cmpR L2.op_notBl pe_we L2.pe_bl (L2.nomark _)) (rd_isb (j := j) (pos' := pos') h S out)
theorem sb_isB {j : Nat} {k : Bool} {pos' : Pos} (h : SO X G W C a (evO ih ca)) (hc : notLoc ce = true) (he : ih2 ce = isbC ih false ca k) : SB X G W C (.Compare a [.Is] [.Constant (.bool k) j pos'] pos) (evB ih2 ce) := by
  intro ρ F σ H Q S out
  have o2 := outA_of_evB hc (by rw [he]; exact isbC_isB) out
  rw [he] at o2
  exact wt_of (L2.pt_cmpR L2.op_isBl pe_we L2.pe_bl (L2.nomark _)) (rd_isb (j := j) (pos' := pos') h S o2)
theorem sb_notB {j : Nat} {k : Bool} {pos' : Pos} (h : SO X G W C a (evO ih ca)) (hc : notLoc ce = true) (he : ih2 ce = isbC ih true ca k) : SB X G W C (.Compare a [.IsNot] [.Constant (.bool k) j pos'] pos) (evB ih2 ce) := by
  intro ρ F σ H Q S out
  have o2 := outA_of_evB hc (by rw [he]; exact isbC_isB) out
  rw [he] at o2
  exact wt_of (L2.pt_cmpR L2.op_notBl pe_we L2.pe_bl (L2.nomark _)) (rd_isb (j := j) (pos' := pos') h S o2)

/-! ### truth -/
theorem tru_of {t : T} {v : L2.V} {k : Bool} (hK : X.K = C.K) (h : PRep C.K F H t v) (e : truth t = some k) : L2.TruV X.K v H k := by
  cases t with
  | non => cases (show v = _ from h); cases e; rfl
  | bl b => cases (show v = _ from h); cases e; rfl
  | int i => cases (show v = _ from h); cases e; rfl
  | str s =>
    cases (show v = _ from h)
    simp only [truth] at e
    split at e
    case isFalse => cases e
    rename_i hl
    cases e
    refine ⟨by rw [← big_eq]; exact hl, ?_⟩
    cases z : s.length with
    | zero => rfl
    | succ n =>
      show (!(n + 1 == 0)) = (((n + 1 : Nat) : Int) != 0)
      have : (((n + 1 : Nat) : Int) != 0) = true := by
        rw [bne_iff_ne]
        omega
      rw [this]
      rfl
  | lst xs =>
    obtain ⟨p, vs, h1, h2, h3⟩ := h
    subst h1
    cases e
    refine .inl ⟨vs, L2.SqL.of h2, ?_⟩
    cases xs with
    | nil => cases (show vs = [] from h3); rfl
    | cons x xs => obtain ⟨_, _, z, _⟩ := h3; subst z; rfl
  | tup xs =>
    obtain ⟨p, vs, h1, _, h2, h3⟩ := h
    subst h1
    cases e
    refine .inr (.inl ⟨vs, L2.SqT.of h2, ?_⟩)
    cases xs with
    | nil => cases (show vs = [] from h3); rfl
    | cons x xs => obtain ⟨_, _, z, _⟩ := h3; subst z; rfl
  | ins c fs => cases e
  | dit _ _ => cases e
  | dik _ _ => cases e
  | scr ns =>
    cases e
    obtain ⟨p, h1, h2⟩ := h
    subst h1
    refine .inl ⟨ns.map L2.V.int, ?_, by cases ns <;> rfl⟩
    rcases h2 with ⟨_, o, h3⟩ | h3
    · exact .inl (.inr ⟨o, h3⟩)
    · rw [hK]; exact .inr h3

def plainT : Expr → Bool
  | .BoolOp .. => false
  | .UnaryOp .Not .. => false
  | .IfExp .. => false
  | .Compare .. => false
  | _ => true
theorem plainT_ok (h : plainT e = true) : ∀ whole, isTrue e X.env whole = (do let v ← whole; standAt e.pos; holding [v] (truthy v)) := by
  intro whole
  cases e with
  | BoolOp => cases h
  | IfExp => cases h
  | Compare => cases h
  | UnaryOp op x p => cases op <;> first | rfl | cases h
  | _ => rfl
theorem outB_prep {Q : Bool → L2.Hp → Prop} (o : OutB G W C ρ σ F H (evB ih ce ρ) Q) : OutO G W C ρ σ F H (evO ih ce ρ) (fun v H' => ∃ (k : Bool) (t : T) (F' : FS), PRep C.K F' H' t v ∧ truth t = some k ∧ Q k H') := by
  have o1 : OutB G W C ρ σ F H (((evO ih ce ρ).bind fun o ρ => match res ρ o with
    | some t => .ok t ρ
    | none => .bad).bind fun t ρ => match truth t with
    | some b => .ok b ρ
    | none => .bad) Q := o
  cases q : evO ih ce ρ with
  | exc c ts ρ' => rw [q] at o1; exact o1
  | bad => rw [q] at o1; exact o1
  | ok oo ρ1 =>
    rw [q] at o1
    intro F1 H1 v st op
    dsimp only [R.bind] at o1
    cases q2 : res ρ1 oo with
    | none => rw [q2] at o1; exact o1.elim
    | some t =>
      rw [q2] at o1
      dsimp only at o1
      cases q3 : truth t with
      | none => rw [q3] at o1; exact o1.elim
      | some k =>
        rw [q3] at o1
        exact ⟨k, t, F1, res_prep st.sim op q2, q3, o1 F1 H1 st⟩
theorem sb_truth (hK : X.K = C.K) (h : SO X G W C e (evO ih ce)) (hp : plainT e = true) : SB X G W C e (evB ih ce) := by
  intro ρ F σ H Q S out
  refine wt_of (L2.pt_truth pe_we (plainT_ok hp)) ?_
  refine (h ρ F σ H _ S (outB_prep out)).mono fun v H' ⟨k, t, F', pr, tr, q⟩ => ⟨k, tru_of hK pr tr, q⟩

/-! ### and, or, not, if-else -/
theorem se_and {op : Ex} (h1 : SO X G W C a (evO ih ca)) (h2 : SE X G W C (.BoolOp .And (b :: rest) pos) (ih cb)) : SE X G W C (.BoolOp .And (a :: b :: rest) pos) (fun ρ => (evP ih ca ρ).bind fun x ρ => match x with
    | .bl true => ih cb ρ
    | .bl false => .ok (.t (.bl false)) ρ
    | _ => .bad) := by
  intro ρ F σ H Q S out
  refine we_of (L2.pe_and pe_we pe_we) ?_
  refine h1 ρ F σ H _ S (outP_bind out fun t ρ1 o1 F1 H1 v st pr => ?_)
  cases t with
  | bl k =>
    cases (show v = _ from pr)
    cases k with
    | true => exact ⟨true, rfl, by rw [if_pos rfl]; exact h2 ρ1 F1 σ H1 Q st.sim (OutA.later st o1)⟩
    | false => exact ⟨false, rfl, by rw [if_neg Bool.false_ne_true]; exact (Wants.of o1 st).here st.sim rfl⟩
  | _ => exact o1.elim
theorem se_or (h1 : SO X G W C a (evO ih ca)) (h2 : SE X G W C (.BoolOp .Or (b :: rest) pos) (ih cb)) : SE X G W C (.BoolOp .Or (a :: b :: rest) pos) (fun ρ => (evP ih ca ρ).bind fun x ρ => match x with
    | .bl true => .ok (.t (.bl true)) ρ
    | .bl false => ih cb ρ
    | _ => .bad) := by
  intro ρ F σ H Q S out
  refine we_of (L2.pe_or pe_we pe_we) ?_
  refine h1 ρ F σ H _ S (outP_bind out fun t ρ1 o1 F1 H1 v st pr => ?_)
  cases t with
  | bl k =>
    cases (show v = _ from pr)
    cases k with
    | false => exact ⟨false, rfl, by rw [if_neg Bool.false_ne_true]; exact h2 ρ1 F1 σ H1 Q st.sim (OutA.later st o1)⟩
    | true => exact ⟨true, rfl, by rw [if_pos rfl]; exact (Wants.of o1 st).here st.sim rfl⟩
  | _ => exact o1.elim
theorem se_one {op : BoolOp} {r : Rho → R A} (h : SE X G W C a r) : SE X G W C (.BoolOp op [a] pos) r := fun ρ F σ H Q S out => we_of (L2.pe_one pe_we) (h ρ F σ H Q S out)
theorem outB_of {r : R Bool} {Q : L2.VK} {f : Bool → Rho → R A} (o : OutA G W C ρ σ F H (r.bind f) Q) {K : Bool → L2.Hp → Prop} (k : ∀ x ρ', OutA G W C ρ σ F H (f x ρ') Q → ∀ F' H', Step C ρ σ F H ρ' σ F' H' → K x H') : OutB G W C ρ σ F H r K := outB_bind o k
theorem se_not (h : SO X G W C a (evO ih ca)) (hK : X.K = C.K) : SE X G W C (.UnaryOp .Not a pos) (fun ρ => (evB ih ca ρ).bind fun x ρ => .ok (.t (.bl (!x))) ρ) := by
  intro ρ F σ H Q S out
  refine we_of (L2.pe_notT pe_we) ?_
  refine (h ρ F σ H _ S (outB_prep (Q := fun k H' => Q (.bl (!k)) H') (outB_of out fun x ρ1 o1 F1 H1 st => (Wants.of o1 st).here st.sim rfl))).mono fun v H' ⟨k, t, F', pr, tr, q⟩ => ⟨k, tru_of hK pr tr, q⟩
theorem se_ite (h1 : SB X G W C c (evB ih cc)) (h2 : SE X G W C a (ih ca)) (h3 : SE X G W C b (ih cb)) : SE X G W C (.IfExp c a b pos) (fun ρ => (evB ih cc ρ).bind fun x ρ => match x with
    | true => ih ca ρ
    | false => ih cb ρ) := by
  intro ρ F σ H Q S out
  refine we_of (L2.pe_ifExp pt_wt pe_we pe_we) ?_
  refine h1 ρ F σ H _ S (outB_of out fun x ρ1 o1 F1 H1 st => ?_)
  cases x with
  | true => rw [if_pos rfl]; exact h2 ρ1 F1 σ H1 Q st.sim (OutA.later st o1)
  | false => rw [if_neg Bool.false_ne_true]; exact h3 ρ1 F1 σ H1 Q st.sim (OutA.later st o1)
/-- a test whatever its whole is -/
def WW (X : L2.Cx) (e : Expr) (σ : LSt) (H : L2.Hp) (Q : Bool → L2.Hp → Prop) : Prop := ∀ whole pins s, L2.Inv X pins σ H s → wpAny (model X.prog X.w) X.A (isTrue e X.env whole) (L2.TP X pins σ Q) X.xe s
theorem pw_ww : L2.PW X e (WW X e) := ⟨fun whole pins s σ H Q I h => h whole pins s I⟩
theorem ww_of {t : L2.TT} {Q : Bool → L2.Hp → Prop} (p : L2.PW X e t) (h : t σ H Q) : WW X e σ H Q := fun whole pins s I => p.run whole pins s σ H Q I h
def SW (X : L2.Cx) (G : Ga) (W : L2.WX) (C : FC) (e : Expr) (r : Rho → R Bool) : Prop := ∀ ρ F σ H Q, Sim C F ρ σ H → OutB G W C ρ σ F H (r ρ) Q → WW X e σ H Q
theorem SW.sb {r : Rho → R Bool} (h : SW X G W C e r) : SB X G W C e r := fun ρ F σ H Q S o => wt_of pw_ww.pt (h ρ F σ H Q S o)
theorem sw_and1 {r : Rho → R Bool} (h : SB X G W C a r) : SW X G W C (.BoolOp .And [a] pos) r := fun ρ F σ H Q S o => ww_of (L2.pw_and1 pt_wt) (h ρ F σ H Q S o)
theorem sw_or1 {r : Rho → R Bool} (h : SB X G W C a r) : SW X G W C (.BoolOp .Or [a] pos) r := fun ρ F σ H Q S o => ww_of (L2.pw_or1 pt_wt) (h ρ F σ H Q S o)
def tandC (ih : Ex → Rho → R A) (ca cb : Ex) (ρ : Rho) : R A := (evB ih ca ρ).bind fun x ρ => match x with
  | true => (evB ih cb ρ).bind fun y ρ => .ok (.t (.bl y)) ρ
  | false => .ok (.t (.bl false)) ρ
def torC (ih : Ex → Rho → R A) (ca cb : Ex) (ρ : Rho) : R A := (evB ih ca ρ).bind fun x ρ => match x with
  | true => .ok (.t (.bl true)) ρ
  | false => (evB ih cb ρ).bind fun y ρ => .ok (.t (.bl y)) ρ
theorem tandC_isB : IsB (tandC ih ca cb) := fun ρ a ρ' h => bind_isB (fun x ρ a ρ' h => by
  cases x with
  | true => exact bind_isB (fun x ρ a ρ' h => by cases h; exact ⟨_, rfl⟩) h
  | false => cases h; exact ⟨_, rfl⟩) h
theorem torC_isB : IsB (torC ih ca cb) := fun ρ a ρ' h => bind_isB (fun x ρ a ρ' h => by
  cases x with
  | false => exact bind_isB (fun x ρ a ρ' h => by cases h; exact ⟨_, rfl⟩) h
  | true => cases h; exact ⟨_, rfl⟩) h
theorem outB_end {r : R Bool} {Q : Bool → L2.Hp → Prop} (o : OutA G W C ρ σ F H (r.bind fun y ρ => .ok (.t (.bl y)) ρ) (asTest Q)) : OutB G W C ρ σ F H r Q := by
  cases r with
  | ok y ρ1 =>
    intro F1 H1 st
    obtain ⟨k, e, q⟩ := (Wants.of o st).here st.sim (x := .bl y) rfl
    cases e
    exact q
  | exc c ts ρ' => exact o
  | bad => exact o
theorem sw_and (h1 : SB X G W C a (evB ih ca)) (h2 : SW X G W C (.BoolOp .And (b :: rest) pos) (evB ih cb)) (hc : notLoc ce = true) (he : ih2 ce = tandC ih ca cb) : SW X G W C (.BoolOp .And (a :: b :: rest) pos) (evB ih2 ce) := by
  intro ρ F σ H Q S out
  have o2 := outA_of_evB hc (by rw [he]; exact tandC_isB) out
  rw [he] at o2
  refine ww_of (L2.pw_and pt_wt pw_ww) ?_
  refine h1 ρ F σ H _ S (outB_of o2 fun x ρ1 o1 F1 H1 st => ?_)
  cases x with
  | true => rw [if_pos rfl]; exact h2 ρ1 F1 σ H1 Q st.sim (outB_end (OutA.later st o1))
  | false =>
    rw [if_neg Bool.false_ne_true]
    obtain ⟨k, e, q⟩ := (Wants.of o1 st).here st.sim (x := .bl false) rfl
    cases e
    exact q
theorem sw_or (h1 : SB X G W C a (evB ih ca)) (h2 : SW X G W C (.BoolOp .Or (b :: rest) pos) (evB ih cb)) (hc : notLoc ce = true) (he : ih2 ce = torC ih ca cb) : SW X G W C (.BoolOp .Or (a :: b :: rest) pos) (evB ih2 ce) := by
  intro ρ F σ H Q S out
  have o2 := outA_of_evB hc (by rw [he]; exact torC_isB) out
  rw [he] at o2
  refine ww_of (L2.pw_or pt_wt pw_ww) ?_
  refine h1 ρ F σ H _ S (outB_of o2 fun x ρ1 o1 F1 H1 st => ?_)
  cases x with
  | false => rw [if_neg Bool.false_ne_true]; exact h2 ρ1 F1 σ H1 Q st.sim (outB_end (OutA.later st o1))
  | true =>
    rw [if_pos rfl]
    obtain ⟨k, e, q⟩ := (Wants.of o1 st).here st.sim (x := .bl true) rfl
    cases e
    exact q
def notC (ih : Ex → Rho → R A) (ca : Ex) (ρ : Rho) : R A := (evB ih ca ρ).bind fun x ρ => .ok (.t (.bl (!x))) ρ
theorem sb_not (h : SB X G W C a (evB ih ca)) (hc : notLoc ce = true) (he : ih2 ce = notC ih ca) : SB X G W C (.UnaryOp .Not a pos) (evB ih2 ce) := by
  intro ρ F σ H Q S out
  have o2 := outA_of_evB hc (by rw [he]; exact fun ρ a ρ' h => bind_isB (fun x ρ a ρ' h => by cases h; exact ⟨_, rfl⟩) h) out
  rw [he] at o2
  refine wt_of (L2.pt_not pt_wt) ?_
  refine h ρ F σ H _ S (outB_of o2 fun x ρ1 o1 F1 H1 st => ?_)
  obtain ⟨k, e, q⟩ := (Wants.of o1 st).here st.sim (x := .bl (!x)) rfl
  cases e
  exact q
theorem se_neg (h : SO X G W C a (evO ih ca)) : SE X G W C (.UnaryOp .USub a pos) (fun ρ => (evP ih ca ρ).bind fun x ρ => match x with
    | .int i => .ok (.t (.int (-i))) ρ
    | _ => .bad) := by
  intro ρ F σ H Q S out
  refine we_of (L2.pe_un L2.un_neg pe_we) ?_
  refine h ρ F σ H _ S (outP_bind out fun t ρ1 o1 F1 H1 v st pr => ?_)
  cases t with
  | int i =>
    cases (show v = _ from pr)
    exact ⟨i, rfl, (Wants.of o1 st).here st.sim rfl⟩
  | _ => exact o1.elim
end
end PV

set_option Elab.async false
set_option linter.all false
set_option maxRecDepth 100000
set_option maxHeartbeats 1000000
/-! PV, soundness 7: built-ins, isinstance, subscripts, lists' methods. -/
namespace PV
open PySem PySem.Spec PyProof.Rows
section
variable {K : PySem.W.Frag} {F : FS} {H : L2.Hp}
theorem reps_ints : ∀ {ts : List T} {vs : List L2.V} {ns : List Int}, Reps K F H ts vs → intsT ts = some ns → vs = ns.map L2.V.int
  | [], _, _, h, e => by cases e; exact h
  | t :: ts, _, ns, h, e => by
    obtain ⟨v, r, h1, h2, h3⟩ := h
    subst h1
    cases t with
    | int i =>
      obtain ⟨ms, e1, e2⟩ := Option.map_eq_some_iff.mp (show (intsT ts).map (i :: ·) = some ns from e)
      subst e2
      cases (show v = _ from h2)
      rw [reps_ints h3 e1]
      rfl
    | _ => cases e
theorem reps_bools : ∀ {ts : List T} {vs : List L2.V} {ns : List Bool}, Reps K F H ts vs → boolsT ts = some ns → vs = ns.map L2.V.bl
  | [], _, _, h, e => by cases e; exact h
  | t :: ts, _, ns, h, e => by
    obtain ⟨v, r, h1, h2, h3⟩ := h
    subst h1
    cases t with
    | bl i =>
      obtain ⟨ms, e1, e2⟩ := Option.map_eq_some_iff.mp (show (boolsT ts).map (i :: ·) = some ns from e)
      subst e2
      cases (show v = _ from h2)
      rw [reps_bools h3 e1]
      rfl
    | _ => cases e
theorem reps_of_ints : ∀ ns : List Int, Reps K F H (ns.map T.int) (ns.map L2.V.int)
  | [] => Reps.nil
  | n :: ns => ⟨.int n, _, rfl, rfl, reps_of_ints ns⟩
/-- a list or a tuple, to be read -/
theorem prep_items {t : T} {v : L2.V} {xs : List T} (h : PRep K F H t v) (e : itemsT t = some xs) : ∃ p vs, v = .ref p ∧ (L2.SqL K H p vs ∨ L2.SqT K H p vs) ∧ Reps K F H xs vs ∧ ((H p = some (.lst vs) ∧ t = .lst xs) ∨ (H p = some (.tup vs) ∧ t = .tup xs ∧ F p)) := by
  cases t with
  | lst ys =>
    cases e
    obtain ⟨p, vs, h1, h2, h3⟩ := h
    exact ⟨p, vs, h1, .inl (L2.SqL.of h2), h3, .inl ⟨h2, rfl⟩⟩
  | tup ys =>
    cases e
    obtain ⟨p, vs, h1, hF, h2, h3⟩ := h
    exact ⟨p, vs, h1, .inr (L2.SqT.of h2), h3, .inr ⟨h2, rfl, hF⟩⟩
  | _ => cases e
end
theorem insI_perm (x : Int) : ∀ l : List Int, (insI x l).Perm (x :: l)
  | [] => .refl _
  | y :: ys => by
    unfold insI
    split
    · exact .refl _
    · exact ((insI_perm x ys).cons y).trans (.swap x y ys)
theorem sortI_perm : ∀ l : List Int, (sortI l).Perm l
  | [] => .refl _
  | x :: xs => (insI_perm x (sortI xs)).trans ((sortI_perm xs).cons x)
theorem insI_sorted (x : Int) : ∀ l : List Int, l.Pairwise (· ≤ ·) → (insI x l).Pairwise (· ≤ ·)
  | [], _ => by simp [insI]
  | y :: ys, h => by
    rw [List.pairwise_cons] at h
    unfold insI
    split
    · rename_i hxy
      refine List.pairwise_cons.mpr ⟨fun z hz => ?_, List.pairwise_cons.mpr h⟩
      rcases List.mem_cons.mp hz with rfl | hz
      · exact hxy
      · exact Int.le_trans hxy (h.1 z hz)
    · rename_i hxy
      refine List.pairwise_cons.mpr ⟨fun z hz => ?_, insI_sorted x ys h.2⟩
      rcases List.mem_cons.mp ((insI_perm x ys).mem_iff.mp hz) with rfl | hz
      · omega
      · exact h.1 z hz
theorem sortI_sorted : ∀ l : List Int, (sortI l).Pairwise (· ≤ ·)
  | [] => .nil
  | x :: xs => insI_sorted x _ (sortI_sorted xs)
theorem sumI_eq : ∀ l : List Int, sumI l = l.sum
  | [] => rfl
  | x :: xs => by
    rw [List.sum_cons, ← sumI_eq xs]
    rfl
section
variable {X : L2.Cx} {G : Ga} {W : L2.WX} {C : FC} {ρ ρ' : Rho} {σ : LSt} {F F' : FS} {H H' : L2.Hp} {e a b c : Expr} {es rest : List Expr} {pos p : Pos} {ih : Ex → Rho → R A} {ce ca cb cc : Ex}
/-- a built-in's name is the built-in -/
def BtOk (X : L2.Cx) (x : Str) : Prop := L2.Gl X x ∧ X.mg x = none
def biN : Bi → Str
  | .len => "len" | .list => "list" | .tuple => "tuple" | .sorted => "sorted" | .all => "all" | .any => "any" | .sum => "sum" | .max2 => "max" | .min2 => "min" | .abs => "abs" | .int => "int" | .divmod => "divmod"
  | .gcd => "gcd" | .lcm => "lcm" | .repr => "repr" | .str => "str" | .lrange => "range" | .trange => "range" | .dict => "dict"
abbrev LR := List L2.V → L2.Hp → L2.VK → Prop
def rFalse : LR := fun _ _ _ => False
def biR (K : PySem.W.Frag) : Bi → LR
  | .len => fun xs H Q => (∃ p ys, xs = [.ref p] ∧ (L2.SqL K H p ys ∨ L2.SqT K H p ys) ∧ Q (.int ys.length) H) ∨ L2.rLenT xs H Q
  | .repr => rRepr K
  | .dict => rDict
  | .list => fun xs H Q => ∃ p ys, xs = [.ref p] ∧ (L2.SqL K H p ys ∨ L2.SqT K H p ys) ∧ ∀ l, H l = none → Q (.ref l) (L2.upd H l (.lst ys))
  | .tuple => fun xs H Q => ∃ p ys, xs = [.ref p] ∧ ((L2.SqL K H p ys ∧ ∀ l, H l = none → Q (.ref l) (L2.upd H l (.tup ys))) ∨ (L2.SqT K H p ys ∧ Q (.ref p) H))
  | .sorted => fun xs H Q => L2.rSorted K xs H Q ∨ rSortTp xs H Q
  | .all => L2.rAll K
  | .any => L2.rAny K
  | .sum => L2.rSum K
  | .max2 => fun xs H Q => ∃ i j, xs = [.int i, .int j] ∧ Q (.int (if j > i then j else i)) H
  | .min2 => fun xs H Q => ∃ i j, xs = [.int i, .int j] ∧ Q (.int (if j < i then j else i)) H
  | .abs => fun xs H Q => ∃ i, xs = [.int i] ∧ Q (.int (if i < 0 then -i else i)) H
  | .int => fun xs H Q => (∃ i, xs = [.int i] ∧ Q (.int i) H) ∨ ∃ k, xs = [.bl k] ∧ Q (.int (if k then 1 else 0)) H
  | .divmod => fun xs H Q => ∃ i j, xs = [.int i, .int j] ∧ L2.CDiv i j ∧ ∀ p, H p = none → Q (.ref p) (L2.upd H p (.tup [.int (i / j), .int (i % j)]))
  | _ => rFalse
def biSup : Bi → Bool
  | .gcd | .lcm | .str | .lrange | .trange => false
  | _ => true
theorem boot_repr : bootBuiltins "repr" = some (.builtin "repr") := by decide +kernel
theorem boot_dict : bootBuiltins "dict" = some (.type "dict") := by decide +kernel
theorem call_len2 : L2.CallR X (.builtin "len") (biR X.K .len) := fun pins s σ H xs us Q I r h => h.elim (fun z => L2.call_len_seq pins s σ H xs us Q I r z) fun z => L2.call_len_dT pins s σ H xs us Q I r z
theorem call_sort2 : L2.CallR X (.builtin "sorted") (biR X.K .sorted) := fun pins s σ H xs us Q I r h => h.elim (fun z => L2.cr_sorted pins s σ H xs us Q I r z) fun z => call_sortTp pins s σ H xs us Q I r z
theorem pe_bi {bi : Bi} {t : L2.TA} (hc : X.calm = true) (hg : X.A.guards = some []) (hu : X.A.units + 100 < cLine) (hB : BtOk X (biN bi)) (hS : biSup bi = true) (hs : isStar e = false) (hss : es.all (fun e => !isStar e) = true) (ha : L2.PA X (e :: es) t) : L2.PE X (.Call (.Name (biN bi) p) (e :: es) [] pos) (L2.tCB (biR X.K bi) t) := by
  have hst := star_cons (es := es) (env := X.env) hs
  have hpl := star_plain (pos := pos) (env := X.env) hss
  cases bi with
  | repr => exact L2.pe_callB (call_repr hg hu) hB.1 hB.2 boot_repr ha (by decide) (by decide) hst hpl
  | dict => exact L2.pe_callTy (call_dict hc (by omega)) hB.1 hB.2 boot_dict ha (by decide) (by decide) hst hpl
  | len => exact L2.pe_callB call_len2 hB.1 hB.2 PySem.boot_len ha (by decide) (by decide) hst hpl
  | list => exact L2.pe_callTy L2.call_list_of hB.1 hB.2 boot_list ha (by decide) (by decide) hst hpl
  | tuple => exact L2.pe_callTy L2.call_tuple_of hB.1 hB.2 boot_tuple ha (by decide) (by decide) hst hpl
  | sorted => exact L2.pe_callB call_sort2 hB.1 hB.2 boot_sorted ha (by decide) (by decide) hst hpl
  | all => exact L2.pe_callB (L2.cr_all hc) hB.1 hB.2 boot_all ha (by decide) (by decide) hst hpl
  | any => exact L2.pe_callB (L2.cr_any hc) hB.1 hB.2 boot_any ha (by decide) (by decide) hst hpl
  | sum => exact L2.pe_callB (L2.cr_sum hc) hB.1 hB.2 boot_sum ha (by decide) (by decide) hst hpl
  | max2 => exact L2.pe_callB (L2.call_max2 hc) hB.1 hB.2 boot_max ha (by decide) (by decide) hst hpl
  | min2 => exact L2.pe_callB (L2.call_min2 hc) hB.1 hB.2 boot_min ha (by decide) (by decide) hst hpl
  | abs => exact L2.pe_callB L2.call_abs hB.1 hB.2 boot_abs ha (by decide) (by decide) hst hpl
  | int => exact L2.pe_callTy L2.call_int1 hB.1 hB.2 boot_int ha (by decide) (by decide) hst hpl
  | divmod => exact L2.pe_callB L2.call_divmod hB.1 hB.2 boot_divmod ha (by decide) (by decide) hst hpl
  | _ => cases hS
abbrev PD (K : PySem.W.Frag) (F : FS) (H : L2.Hp) : List (List L2.Key × T) → List (List L2.Key × L2.V) → Prop := Paired fun p q => p.1 = q.1 ∧ RepT K F H p.2 q.2
theorem pairs_ok {K : PySem.W.Frag} : ∀ {xs : List T} {vs : List L2.V} {m : List (List L2.Key × T)}, Reps K F H xs vs → pairsD xs = some m →
    ∃ ps : List Pr, vs = (ps.map (·.1)).map L2.V.ref ∧ (∀ t ∈ ps, H t.1 = some (.tup [.ref t.2.2.1, t.2.2.2]) ∧ H t.2.2.1 = some (.tup (t.2.1.map L2.kV))) ∧ PD K F H m (ps.map fun t => (t.2.1, t.2.2.2))
  | [], _, _, h, e => by cases e; exact ⟨[], h, fun t ht => (nomatch ht), .nil⟩
  | x :: xs, _, m, h, e => by
    obtain ⟨v, r, rfl, h1, h2⟩ := h
    unfold pairsD at e
    split at e
    · cases ‹_ = []›
    · rename_i kt vt rr ex
      cases ex
      split at e
      · rename_i k m' e1 e2
        cases e
        obtain ⟨ps, p1, p2, p3⟩ := pairs_ok h2 e2
        obtain ⟨p, vs, rfl, g1, g2, u1, r1, rfl, g3, u2, r2, rfl, g4, g5⟩ := h1
        cases (show r2 = [] from g5)
        obtain ⟨b, rfl, g6⟩ := tk_ok g3 e1
        refine ⟨(p, k, b, u2) :: ps, by rw [p1]; rfl, fun t ht => ?_, .cons ⟨rfl, g4⟩ p3⟩
        rcases List.mem_cons.mp ht with rfl | ht
        · exact ⟨g2, g6⟩
        · exact p2 t ht
      · cases e
    · cases e
theorem pd_any {K : PySem.W.Frag} {m : List (List L2.Key × T)} {kvs : List (List L2.Key × L2.V)} (h : PD K F H m kvs) (k : List L2.Key) : (m.any fun p => decide (p.1 = k)) = kvs.any fun kv => decide (kv.1 = k) := by
  induction h with
  | nil => rfl
  | cons r t ih => rw [List.any_cons, List.any_cons, ih, r.1]
theorem pd_map {K : PySem.W.Frag} {m : List (List L2.Key × T)} {kvs : List (List L2.Key × L2.V)} (h : PD K F H m kvs) (k : List L2.Key) {t : T} {v : L2.V} (hv : RepT K F H t v) : PD K F H (m.map fun p => if p.1 = k then (p.1, t) else p) (kvs.map fun p => if p.1 = k then (p.1, v) else p) := by
  induction h with
  | nil => exact .nil
  | @cons p q ps qs r _ ih =>
    rw [List.map_cons, List.map_cons]
    refine .cons ?_ ih
    obtain ⟨r1, r2⟩ := r
    by_cases e : p.1 = k
    · rw [if_pos e, if_pos (r1.symm.trans e)]; exact ⟨r1, hv⟩
    · rw [if_neg e, if_neg fun z => e (r1.trans z)]; exact ⟨r1, r2⟩
theorem pd_put {K : PySem.W.Frag} {m : List (List L2.Key × T)} {kvs : List (List L2.Key × L2.V)} (h : PD K F H m kvs) (k : List L2.Key) {t : T} {v : L2.V} (hv : RepT K F H t v) : PD K F H (putD m k t) (L2.putK kvs k v) := by
  unfold putD L2.putK
  rw [pd_any h k]
  split
  · exact pd_map h k hv
  · exact Paired.snoc h ⟨rfl, hv⟩
theorem pd_all {K : PySem.W.Frag} {zs : List (List L2.Key × T)} {ws : List (List L2.Key × L2.V)} (h : PD K F H zs ws) : ∀ {m : List (List L2.Key × T)} {kvs : List (List L2.Key × L2.V)}, PD K F H m kvs →
    PD K F H (zs.foldl (fun d p => putD d p.1 p.2) m) (ws.foldl (fun d p => L2.putK d p.1 p.2) kvs) := by
  induction h with
  | nil => exact fun h => h
  | @cons p q ps qs r t ih =>
    intro m kvs h
    have z := pd_put h p.1 r.2
    rw [show L2.putK kvs p.1 q.2 = L2.putK kvs q.1 q.2 by rw [r.1]] at z
    exact ih z
theorem pd_reps {K : PySem.W.Frag} {m : List (List L2.Key × T)} {kvs : List (List L2.Key × L2.V)} (h : PD K F H m kvs) : kvs = (m.map (·.1)).zip (kvs.map (·.2)) ∧ Reps K F H (m.map (·.2)) (kvs.map (·.2)) := by
  induction h with
  | nil => exact ⟨rfl, rfl⟩
  | @cons p q ps qs r t ih =>
    obtain ⟨i1, i2⟩ := ih
    refine ⟨?_, q.2, _, rfl, r.2, i2⟩
    rw [List.map_cons, List.map_cons, List.zip_cons_cons, ← i1, r.1]
theorem new_dit (S : Sim C F ρ σ H) {m : List (List L2.Key × T)} {kvs : List (List L2.Key × L2.V)} {Q : L2.VK} (w : Wants C σ ρ F H (.t (.dit (m.map (·.1)) (m.map (·.2)))) Q) {p : Addr} (hp : H p = none) (h : PD C.K F H m kvs) : Q (.ref p) (L2.upd H p (.dT kvs)) := by
  have st : Step C ρ σ F H ρ σ (fun q => F q ∨ q = p) (L2.upd H p (.dT kvs)) := (Step.rfl' S).alloc hp (fun _ h => .inl h) fun _ h => h
  obtain ⟨e1, e2⟩ := pd_reps h
  refine w _ _ _ st ⟨p, kvs.map (·.2), rfl, .inr rfl, ?_, by rw [List.length_map, List.length_map], Reps.mono (st.ext S) _ _ e2⟩
  rw [← e1]
  exact L2.upd_same
/-- two of the operands' readings -/
theorem wes_pa {K : LR} {Q : L2.VK} (h : WEs X es σ H (fun vs H2 => K vs H2 Q)) : L2.tCB K (WEs X es) σ H Q := h
theorem bi_ok (S : Sim C F ρ σ H) {bi : Bi} {ts : List T} {vs : List L2.V} {r : A} {Q : L2.VK} (h : PReps C.K F H ts vs) (e : biT bi ts = some r) (w : Wants C σ ρ F H r Q) (hS : biSup bi = true) : biR C.K bi vs H Q := by
  have one : ∀ {x : T} {vs : List L2.V}, PReps C.K F H [x] vs → ∃ v, vs = [v] ∧ PRep C.K F H x v := fun h => by
    obtain ⟨v, r, h1, h2, h3⟩ := h
    cases (show r = [] from h3)
    exact ⟨v, h1, h2⟩
  have twoI : ∀ {i j : Int} {vs : List L2.V}, PReps C.K F H [.int i, .int j] vs → vs = [.int i, .int j] := fun h => by
    obtain ⟨v, r, h1, h2, u, r2, h4, h5, h6⟩ := h
    subst h1 h4
    cases (show r2 = [] from h6)
    cases (show v = _ from h2)
    cases (show u = _ from h5)
    rfl
  cases bi with
  | len =>
    match ts, e, h with
    | [.lst xs], e, h =>
      cases e
      obtain ⟨v, h1, p, us, h2, h3, h4⟩ := one h
      subst h1 h2
      exact .inl ⟨p, us, rfl, .inl (L2.SqL.of h3), by rw [← h4.length]; exact w.here S rfl⟩
    | [.tup xs], e, h =>
      cases e
      obtain ⟨v, h1, p, us, h2, _, h3, h4⟩ := one h
      subst h1 h2
      exact .inl ⟨p, us, rfl, .inr (L2.SqT.of h3), by rw [← h4.length]; exact w.here S rfl⟩
    | [.dit ks xs], e, h =>
      cases e
      obtain ⟨v, h1, p, us, h2, _, h3, h5, h4⟩ := one h
      subst h1 h2
      refine .inr ⟨p, _, rfl, h3, ?_⟩
      have z : (ks.zip us).length = ks.length := by
        rw [List.length_zip, ← h4.length, ← h5, Nat.min_self]
      rw [z]
      exact w.here S rfl
    | [.dik _ _], e, h => cases e
    | [.scr xs], e, h =>
      cases e
      obtain ⟨v, h1, p, h2, h3⟩ := one h
      subst h1 h2
      refine .inl ⟨p, xs.map L2.V.int, rfl, .inl ?_, by rw [List.length_map]; exact w.here S rfl⟩
      rcases h3 with ⟨_, o, h3⟩ | h3
      · exact .inl (.inr ⟨o, h3⟩)
      · exact .inr h3
    | [], e, h => cases e
    | [.non], e, h => cases e
    | [.bl _], e, h => cases e
    | [.int _], e, h => cases e
    | [.str _], e, h => cases e
    | [.ins _ _], e, h => cases e
    | x :: y :: r, e, h => (cases x <;> cases e)
  | list =>
    match ts, e, h with
    | [x], e, h =>
      obtain ⟨xs, e1, e2⟩ := Option.map_eq_some_iff.mp (show (itemsT x).map A.f = some r from e)
      subst e2
      obtain ⟨v, h1, h2⟩ := one h
      obtain ⟨p, us, h3, h4, h5, _⟩ := prep_items h2 e1
      subst h1 h3
      exact ⟨p, us, rfl, h4, fun l hl => w.lst S h5 l hl⟩
    | [], e, h => cases e
    | x :: y :: r, e, h => (cases x <;> cases e)
  | tuple =>
    match ts, e, h with
    | [x], e, h =>
      obtain ⟨xs, e1, e2⟩ := Option.map_eq_some_iff.mp (show ((itemsT x).map fun xs => A.t (.tup xs)) = some r from e)
      subst e2
      obtain ⟨v, h1, h2⟩ := one h
      obtain ⟨p, us, h3, h4, h5, h6⟩ := prep_items h2 e1
      subst h1 h3
      rcases h6 with ⟨h6, _⟩ | ⟨h6, _, hF⟩
      · exact ⟨p, us, rfl, .inl ⟨L2.SqL.of h6, fun l hl => w.tup S h5 l hl⟩⟩
      · exact ⟨p, us, rfl, .inr ⟨L2.SqT.of h6, w.here S ⟨p, us, rfl, hF, h6, h5⟩⟩⟩
    | [], e, h => cases e
    | x :: y :: r, e, h => (cases x <;> cases e)
  | sorted =>
    match ts, e, h with
    | [x], e, h =>
      obtain ⟨is, e1, e2⟩ := Option.bind_eq_some_iff.mp (show (((itemsT x).bind intsT).bind fun is => if is.length < 64 then some (A.f ((sortI is).map .int)) else none) = some r from e)
      obtain ⟨xs, e3, e4⟩ := Option.bind_eq_some_iff.mp e1
      split at e2
      · rename_i hl
        cases e2
        obtain ⟨v, h1, h2⟩ := one h
        cases x with
        | lst ys =>
          cases e3
          obtain ⟨p, us, h3, h4, h5⟩ := h2
          subst h1 h3
          have q := reps_ints h5 e4
          subst q
          refine .inl ⟨p, is, rfl, L2.SqL.of h4, hl, fun ns' l p1 p2 hl2 => ?_⟩
          have z : ns' = sortI is := PySem.W.ksm_same (p1.trans (sortI_perm is).symm) p2 (sortI_sorted is)
          subst z
          exact w.lst S (reps_of_ints _) l hl2
        | tup ys =>
          cases e3
          obtain ⟨p, us, h3, _, h4, h5⟩ := h2
          subst h1 h3
          have q := reps_ints h5 e4
          subst q
          refine .inr ⟨p, is, rfl, h4, hl, fun ns' l p1 p2 hl2 => ?_⟩
          have z : ns' = sortI is := PySem.W.ksm_same (p1.trans (sortI_perm is).symm) p2 (sortI_sorted is)
          subst z
          exact w.lst S (reps_of_ints _) l hl2
        | _ => cases e3
      · cases e2
    | [], e, h => cases e
    | x :: y :: r, e, h => (cases x <;> cases e)
  | all =>
    match ts, e, h with
    | [.lst xs], e, h =>
      obtain ⟨bs, e1, e2⟩ := Option.map_eq_some_iff.mp (show ((boolsT xs).map fun bs => A.t (.bl (bs.all id))) = some r from e)
      subst e2
      obtain ⟨v, h1, p, us, h2, h3, h4⟩ := one h
      subst h1 h2
      cases reps_bools h4 e1
      exact ⟨p, bs, rfl, L2.SqL.of h3, w.here S rfl⟩
    | [], e, h => cases e
    | [.tup _], e, h => cases e
    | [.scr _], e, h => cases e
    | [.non], e, h => cases e
    | [.bl _], e, h => cases e
    | [.int _], e, h => cases e
    | [.str _], e, h => cases e
    | [.ins _ _], e, h => cases e
    | [.dit _ _], e, h => cases e
    | [.dik _ _], e, h => cases e
    | x :: y :: r, e, h => (cases x <;> cases e)
  | any =>
    match ts, e, h with
    | [.lst xs], e, h =>
      obtain ⟨bs, e1, e2⟩ := Option.map_eq_some_iff.mp (show ((boolsT xs).map fun bs => A.t (.bl (bs.any id))) = some r from e)
      subst e2
      obtain ⟨v, h1, p, us, h2, h3, h4⟩ := one h
      subst h1 h2
      cases reps_bools h4 e1
      exact ⟨p, bs, rfl, L2.SqL.of h3, w.here S rfl⟩
    | [], e, h => cases e
    | [.tup _], e, h => cases e
    | [.scr _], e, h => cases e
    | [.non], e, h => cases e
    | [.bl _], e, h => cases e
    | [.int _], e, h => cases e
    | [.str _], e, h => cases e
    | [.ins _ _], e, h => cases e
    | [.dit _ _], e, h => cases e
    | [.dik _ _], e, h => cases e
    | x :: y :: r, e, h => (cases x <;> cases e)
  | sum =>
    match ts, e, h with
    | [.lst xs], e, h =>
      obtain ⟨bs, e1, e2⟩ := Option.map_eq_some_iff.mp (show ((intsT xs).map fun bs => A.t (.int (sumI bs))) = some r from e)
      subst e2
      obtain ⟨v, h1, p, us, h2, h3, h4⟩ := one h
      subst h1 h2
      cases reps_ints h4 e1
      exact ⟨p, bs, rfl, L2.SqL.of h3, by rw [← sumI_eq]; exact w.here S rfl⟩
    | [], e, h => cases e
    | [.tup _], e, h => cases e
    | [.scr _], e, h => cases e
    | [.non], e, h => cases e
    | [.bl _], e, h => cases e
    | [.int _], e, h => cases e
    | [.str _], e, h => cases e
    | [.ins _ _], e, h => cases e
    | [.dit _ _], e, h => cases e
    | [.dik _ _], e, h => cases e
    | x :: y :: r, e, h => (cases x <;> cases e)
  | repr =>
    match ts, e, h with
    | [x], e, h =>
      obtain ⟨z, e1, e2⟩ := Option.map_eq_some_iff.mp (show (reprT x).map (fun s => A.t (.str s)) = some r from e)
      subst e2
      unfold reprT at e1
      split at e1
      · rename_i hh
        cases e1
        rw [Bool.and_eq_true, Bool.and_eq_true] at hh
        obtain ⟨v, h1, h2⟩ := one h
        obtain ⟨k1, k2⟩ := okT_ok 63 x hh.1.1
        exact ⟨v, toD x, h1, PRep.dp (okT_mono hh.1.1) h2, k1, by omega, hh.1.2, by rw [← big_eq]; exact of_decide_eq_true hh.2, w.here S rfl⟩
      · cases e1
    | [], e, h => cases e
    | x :: y :: r, e, h => (cases x <;> cases e)
  | dict =>
    match ts, e, h with
    | [.lst xs], e, h =>
      have e1 : (if xs.length ≤ big then (pairsD xs).map fun m => A.t (.dit ((dictD m).map (·.1)) ((dictD m).map (·.2))) else none) = some r := e
      split at e1
      · obtain ⟨m, e2, e3⟩ := Option.map_eq_some_iff.mp e1
        subst e3
        obtain ⟨v, h1, p, us, h2, h3, h4⟩ := one h
        subst h1 h2
        obtain ⟨ps, p1, p2, p3⟩ := pairs_ok h4 e2
        refine ⟨p, ps, rfl, by rw [h3, p1], p2, fun q hq => ?_⟩
        have pd := pd_all (m := []) (kvs := []) p3 .nil
        exact new_dit S w hq pd
      · cases e1
    | [], e, h => cases e
    | x :: y :: r, e, h => (cases x <;> cases e)
    | [.tup _], e, h => cases e
    | [.scr _], e, h => cases e
    | [.non], e, h => cases e
    | [.bl _], e, h => cases e
    | [.int _], e, h => cases e
    | [.str _], e, h => cases e
    | [.ins _ _], e, h => cases e
    | [.dit _ _], e, h => cases e
    | [.dik _ _], e, h => cases e
  | max2 =>
    match ts, e, h with
    | [.int i, .int j], e, h => cases e; exact ⟨i, j, twoI h, w.here S rfl⟩
  | min2 =>
    match ts, e, h with
    | [.int i, .int j], e, h => cases e; exact ⟨i, j, twoI h, w.here S rfl⟩
  | abs =>
    match ts, e, h with
    | [.int i], e, h =>
      cases e
      obtain ⟨v, h1, h2⟩ := one h
      cases (show v = _ from h2)
      exact ⟨i, h1, w.here S rfl⟩
  | int =>
    match ts, e, h with
    | [.int i], e, h =>
      cases e
      obtain ⟨v, h1, h2⟩ := one h
      cases (show v = _ from h2)
      exact .inl ⟨i, h1, w.here S rfl⟩
    | [.bl i], e, h =>
      cases e
      obtain ⟨v, h1, h2⟩ := one h
      cases (show v = _ from h2)
      exact .inr ⟨i, h1, w.here S rfl⟩
  | divmod =>
    match ts, e, h with
    | [.int i, .int j], e, h =>
      have e1 : (if 0 < j ∧ j < 1073741824 then some (A.t (.tup [.int (i / j), .int (i % j)])) else none) = some r := e
      split at e1
      · rename_i hh
        cases e1
        exact ⟨i, j, twoI h, hh, fun p hp => w.tup S (vs := [.int (i / j), .int (i % j)]) ⟨_, _, rfl, rfl, _, _, rfl, rfl, rfl⟩ p hp⟩
      · cases e1
  | _ => cases hS
theorem se_bi {bi : Bi} {cs : List Ex} (hK : X.K = C.K) (hc : X.calm = true) (hg : X.A.guards = some []) (hu : X.A.units + 100 < cLine) (hB : BtOk X (biN bi)) (hS : biSup bi = true) (hs : isStar e = false) (hss : es.all (fun e => !isStar e) = true) (h : SOs X G W C (e :: es) (evOs ih cs)) :
    SE X G W C (.Call (.Name (biN bi) p) (e :: es) [] pos) (fun ρ => (evPs ih cs ρ).bind fun ts ρ => ofA? (biT bi ts) ρ) := by
  intro ρ F σ H Q S out
  refine we_of (pe_bi hc hg hu hB hS hs hss (pa_wes (by rw [List.all_cons, hs, hss] <;> rfl))) ?_
  have out1 : OutA G W C ρ σ F H (((evOs ih cs ρ).bind fun os ρ => match ress ρ os with
    | some ts => .ok ts ρ
    | none => .bad).bind fun ts ρ => ofA? (biT bi ts) ρ) Q := out
  refine wes_pa (h ρ F σ H _ S ?_)
  cases q : evOs ih cs ρ with
  | exc c ts ρ' => rw [q] at out1; exact out1
  | bad => rw [q] at out1; exact out1
  | ok os ρ1 =>
    rw [q] at out1
    intro F1 H1 vs st ops
    dsimp only [R.bind] at out1
    cases q2 : ress ρ1 os with
    | none => rw [q2] at out1; exact out1.elim
    | some ts =>
      rw [q2] at out1
      dsimp only at out1
      cases q3 : biT bi ts with
      | none => rw [q3] at out1; exact out1.elim
      | some r =>
        rw [q3] at out1
        rw [hK]
        exact bi_ok st.sim (ress_ok st.sim ops q2) q3 (Wants.of out1 st) hS
end
end PV

set_option Elab.async false
set_option linter.all false
set_option maxRecDepth 100000
set_option maxHeartbeats 1000000
/-! PV, soundness 8: isinstance, subscripts, slices, lists' methods. -/
namespace PV
open PySem PySem.Spec PyProof.Rows
section
variable {X : L2.Cx} {G : Ga} {W : L2.WX} {C : FC} {ρ ρ' : Rho} {σ : LSt} {F F' : FS} {H H' : L2.Hp} {e a b c : Expr} {es rest : List Expr} {pos p : Pos} {ih : Ex → Rho → R A} {ce ca cb cc : Ex}
/-! ### isinstance -/
def tyN : T → String
  | .non => "NoneType" | .bl _ => "bool" | .int _ => "int" | .str _ => "str" | .lst _ => "list" | .tup _ => "tuple" | .ins _ _ => "" | .scr _ => "" | .dit _ _ => "dict" | .dik _ _ => "dict"
def btN : Ty → String
  | .int => "int" | .bool => "bool" | .str => "str" | .list => "list" | .tuple => "tuple" | .cls _ => ""
def btOk : Ty → Bool
  | .cls _ => false
  | _ => true
theorem isi_one {K : PySem.W.Frag} {x : T} {t : Ty} {r : Bool} (ht : btOk t = true) (e : isiT x [t] = some r) : PySem.W.kitOne K (.type (tyN x)) (.type (btN t)) = some (isTy x t) := by
  apply L2.kit_ty
  cases x <;> (first | (cases e; done) | (cases t <;> first | (cases ht; done) | rfl))
theorem isi_tyx {x : T} {v : L2.V} {ts : List Ty} {r : Bool} (h : PRep C.K F H x v) (e : isiT x ts = some r) : L2.TyX C.K H v (.type (tyN x)) := by
  cases x with
  | non => cases (show v = _ from h); exact .base .non
  | bl k => cases (show v = _ from h); exact .base (.bl k)
  | int k => cases (show v = _ from h); exact .base (.int k)
  | str k => cases (show v = _ from h); exact .base (.str k)
  | lst xs =>
    obtain ⟨p, vs, rfl, h2, _⟩ := h
    exact .base (.lst h2)
  | tup xs =>
    obtain ⟨p, vs, rfl, _, h2, _⟩ := h
    exact .base (.tup h2)
  | ins _ _ => cases e
  | scr _ => cases e
  | dit ks xs =>
    obtain ⟨p, vs, rfl, _, h2, _⟩ := h
    exact .base (.dT h2)
  | dik ks xs =>
    obtain ⟨p, vs, rfl, _, h2, _⟩ := h
    exact .base (.dK h2)
theorem isiT_some {x : T} {ts : List Ty} {r : Bool} (e : isiT x ts = some r) : r = ts.any (isTy x) ∧ ∀ us, isiT x us = some (us.any (isTy x)) := by
  cases x <;> first | (cases e; done) | (cases e; exact ⟨rfl, fun _ => rfl⟩)
theorem kit_any {K : PySem.W.Frag} {x : T} {r : Bool} : ∀ {ts : List Ty}, ts.all btOk = true → isiT x ts = some r → PySem.W.kitAny K (.type (tyN x)) (ts.map fun t => .type (btN t)) = some r
  | [], _, e => by rw [(isiT_some e).1]; exact L2.kitAny_nil
  | t :: ts, h, e => by
    rw [List.all_cons, Bool.and_eq_true] at h
    obtain ⟨e1, e2⟩ := isiT_some e
    subst e1
    have k := isi_one (K := K) h.1 (e2 [t])
    refine L2.kitAny_cons k (fun z => ?_) (fun z => ?_)
    · rw [List.any_cons, z, Bool.false_or]
      exact kit_any h.2 (e2 ts)
    · rw [List.any_cons, z, Bool.true_or]
theorem vals_cls : ∀ {ts : List Ty}, Paired L2.ClsV (ts.map fun t => L2.V.ty (btN t)) (ts.map fun t => Value.type (btN t))
  | [] => .nil
  | t :: ts => .cons (.ty _) vals_cls
theorem pe_ty {t : Ty} (hB : BtOk X (btN t)) (ht : btOk t = true) : L2.PE X (.Name (btN t) p) (L2.tC (.ty (btN t))) := by
  cases t <;> first
    | (cases ht; done)
    | exact L2.pe_bltn hB.1 hB.2 boot_int (rfl) (by decide) (by decide)
    | exact L2.pe_bltn hB.1 hB.2 boot_bool (rfl) (by decide) (by decide)
    | exact L2.pe_bltn hB.1 hB.2 boot_str (rfl) (by decide) (by decide)
    | exact L2.pe_bltn hB.1 hB.2 boot_list (rfl) (by decide) (by decide)
    | exact L2.pe_bltn hB.1 hB.2 boot_tuple (rfl) (by decide) (by decide)
/-- a row of built-in types' names -/
inductive TyNames (X : L2.Cx) : List Expr → List Ty → Prop where
  | nil : TyNames X [] []
  | cons {t : Ty} {ts : List Ty} {es : List Expr} {p : Pos} (hB : BtOk X (btN t)) (ht : btOk t = true) (r : TyNames X es ts) : TyNames X (.Name (btN t) p :: es) (t :: ts)
theorem TyNames.all {es : List Expr} {ts : List Ty} (h : TyNames X es ts) : ts.all btOk = true := by
  induction h with
  | nil => rfl
  | cons hB ht r ih => rw [List.all_cons, ht, ih] <;> rfl
theorem TyNames.star {es : List Expr} {ts : List Ty} (h : TyNames X es ts) : es.all (fun e => !isStar e) = true := by
  induction h with
  | nil => rfl
  | cons hB ht r ih => rw [List.all_cons, ih] <;> rfl
theorem TyNames.wes {es : List Expr} {ts : List Ty} (h : TyNames X es ts) : ∀ {H : L2.Hp} {Q : List L2.V → L2.Hp → Prop}, Q (ts.map fun t => .ty (btN t)) H → WEs X es σ H Q := by
  induction h with
  | nil => exact fun q => q
  | cons hB ht r ih => exact fun q => we_of (pe_ty hB ht) (ih q)
def isiC (ih : Ex → Rho → R A) (ca : Ex) (ts : List Ty) (ρ : Rho) : R A := (evP ih ca ρ).bind fun x ρ => ofB (isiT x ts) ρ
theorem isiC_isB {ts : List Ty} : IsB (isiC ih ca ts) := fun ρ a ρ' h => bind_isB (fun x ρ a ρ' h => ofB_isB h) h
theorem se_isi {t : Ty} {p' : Pos} (hK : X.K = C.K) (hI : BtOk X "isinstance") (hB : BtOk X (btN t)) (ht : btOk t = true) (hs : isStar a = false) (h : SO X G W C a (evO ih ca)) :
    SE X G W C (.Call (.Name "isinstance" p) [a, .Name (btN t) p'] [] pos) (isiC ih ca [t]) := by
  intro ρ F σ H Q S out
  refine we_of (L2.pe_callB L2.call_isi hI.1 hI.2 boot_isinstance (L2.pa_cons pe_we (L2.pa_cons (pe_ty hB ht) L2.pa_nil rfl) (star_cons hs)) (by decide) (by decide) (star_cons hs) rfl) ?_
  refine h ρ F σ H _ S (outP_bind out fun x ρ1 o1 F1 H1 v st pr => ?_)
  cases q : isiT x [t] with
  | none => rw [q] at o1; exact o1.elim
  | some r =>
    rw [q] at o1
    have e1 := (isiT_some q).1
    rw [hK]
    refine ⟨v, .ty (btN t), _, _, r, rfl, .ty _, isi_tyx pr q, ?_, (Wants.of o1 st).here st.sim rfl⟩
    rw [isi_one ht q, e1, List.any_cons, List.any_nil, Bool.or_false]
theorem se_isiT {ts : List Ty} {k : Nat} {p' : Pos} (hK : X.K = C.K) (hI : BtOk X "isinstance") (hT : TyNames X es ts) (hl : ts.length ≤ 100) (hs : isStar a = false) (h : SO X G W C a (evO ih ca)) :
    SE X G W C (.Call (.Name "isinstance" p) [a, .Tuple es k p'] [] pos) (isiC ih ca ts) := by
  intro ρ F σ H Q S out
  refine we_of (L2.pe_callB L2.call_isiT hI.1 hI.2 boot_isinstance (L2.pa_cons pe_we (L2.pa_cons (L2.pe_tup (pa_wes hT.star)) L2.pa_nil rfl) (star_cons hs)) (by decide) (by decide) (star_cons hs) rfl) ?_
  refine h ρ F σ H _ S (outP_bind out fun x ρ1 o1 F1 H1 v st pr => ?_)
  cases q : isiT x ts with
  | none => rw [q] at o1; exact o1.elim
  | some r =>
    rw [q] at o1
    refine hT.wes ?_
    refine ⟨by rw [List.length_map, ← big_eq]; exact Nat.le_trans hl (by decide), fun tp htp => ?_⟩
    rw [hK]
    have st2 : Step C ρ1 σ F1 H1 ρ1 σ F1 (L2.upd H1 tp (.tup (ts.map fun t => .ty (btN t)))) := (Step.rfl' st.sim).alloc htp (fun _ h => h) fun _ h => .inl h
    have pr2 : PRep C.K F1 (L2.upd H1 tp (.tup (ts.map fun t => .ty (btN t)))) x v := by
      cases x with
      | lst xs =>
        obtain ⟨p, vs, h1, h2, h3⟩ := pr
        exact ⟨p, vs, h1, upd_keep htp h2, Reps.mono (st2.ext st.sim) _ _ h3⟩
      | _ => exact RepT.mono (st2.ext st.sim) _ _ pr
    exact ⟨v, tp, _, _, _, r, rfl, L2.upd_same, vals_cls, isi_tyx pr2 q, kit_any hT.all q, (Wants.of o1 (st.trans st2)).here st2.sim rfl⟩
end
end PV

set_option Elab.async false
set_option linter.all false
set_option maxRecDepth 100000
set_option maxHeartbeats 1000000
/-! PV, soundness 9: subscripts, slices, lists' methods. -/
namespace PV
open PySem PySem.Spec PyProof.Rows
section
variable {X : L2.Cx} {G : Ga} {W : L2.WX} {C : FC} {ρ ρ' : Rho} {σ : LSt} {F F' : FS} {H H' : L2.Hp} {e a b c : Expr} {es rest : List Expr} {pos p : Pos} {ih : Ex → Rho → R A} {ce ca cb cc : Ex}
def plainIx : Expr → Bool
  | .Slice .. => false
  | _ => true
theorem plainIx_ok (h : plainIx b = true) : L2.PlainIx b := by
  cases b <;> first | (cases h; done) | (exact fun o i => rfl)
theorem idx_ok (S : Sim C F ρ σ H) {x y t : T} {v u : L2.V} {Q : L2.VK} (hx : PRep C.K F H x v) (hy : PRep C.K F H y u) (e : idxT x y = some t) (w : Wants C σ ρ F H (.t t) Q) (hF : ∀ xs, x = .lst xs → ∀ vs p, v = .ref p → H p = some (.lst vs) → Reps C.K F H xs vs) : L2.rIx C.K v u H Q := by
  cases x with
  | lst xs =>
    cases y with
    | int i =>
      cases (show u = _ from hy)
      obtain ⟨p, vs, rfl, h2, h3⟩ := hx
      obtain ⟨j, e1, e2⟩ := Option.bind_eq_some_iff.mp (show ((ixN xs.length i).bind fun j => xs[j]?) = some t from e)
      obtain ⟨z, e3, r⟩ := h3.get e2
      exact .inl ⟨p, vs, i, z, rfl, rfl, L2.SqL.of h2, Option.bind_eq_some_iff.mpr ⟨j, by rw [← h3.length]; exact e1, e3⟩, w.here S r⟩
    | _ => cases e
  | tup xs =>
    cases y with
    | int i =>
      cases (show u = _ from hy)
      obtain ⟨p, vs, rfl, _, h2, h3⟩ := hx
      obtain ⟨j, e1, e2⟩ := Option.bind_eq_some_iff.mp (show ((ixN xs.length i).bind fun j => xs[j]?) = some t from e)
      obtain ⟨z, e3, r⟩ := h3.get e2
      exact .inr (.inl ⟨p, vs, i, z, rfl, rfl, L2.SqT.of h2, Option.bind_eq_some_iff.mpr ⟨j, by rw [← h3.length]; exact e1, e3⟩, w.here S r⟩)
    | _ => cases e
  | scr xs =>
    cases y with
    | int i =>
      cases (show u = _ from hy)
      obtain ⟨p, rfl, h2⟩ := hx
      obtain ⟨j, e1, e2⟩ := Option.bind_eq_some_iff.mp (show ((ixN xs.length i).bind fun j => (xs[j]?).map T.int) = some t from e)
      obtain ⟨k, e3, e4⟩ := Option.map_eq_some_iff.mp e2
      subst e4
      refine .inl ⟨p, xs.map L2.V.int, i, .int k, rfl, rfl, ?_, Option.bind_eq_some_iff.mpr ⟨j, by rw [List.length_map]; exact e1, by rw [List.getElem?_map, e3]; rfl⟩, w.here S rfl⟩
      rcases h2 with ⟨_, o, h3⟩ | h3
      · exact .inl (.inr ⟨o, h3⟩)
      · exact .inr h3
    | _ => cases e
  | _ => cases e
theorem se_idx {cs : List Ex} (hK : X.K = C.K) (hp : plainIx b = true) (h : SOs X G W C [a, b] (evOs ih cs)) : SE X G W C (.Subscript a b pos) (fun ρ => (evOs ih cs ρ).bind fun os ρ => match ress ρ os with
    | some [x, y] => ofT (idxT x y) ρ
    | _ => .bad) := by
  intro ρ F σ H Q S out
  refine we_of (L2.pe_ix L2.ix_seq pe_we pe_we (plainIx_ok hp)) ?_
  refine two (f := fun _ _ => .bad) (K := fun v u Q H => L2.rIx X.K v u H Q) h S out fun x y ρ' F' H' v u st hx hy o1 => ?_
  cases q : idxT x y with
  | none => rw [q] at o1; exact o1.elim
  | some r =>
    rw [q] at o1
    rw [hK]
    refine idx_ok st.sim hx hy q (Wants.of o1 st) ?_
    intro xs ex vs p ev' eh
    subst ex
    obtain ⟨p', vs', h1, h2, h3⟩ := hx
    rw [ev'] at h1
    cases h1
    rw [eh] at h2
    cases h2
    exact h3

/-! ### slices -/
theorem cutV_eq {K : PySem.W.Frag} {xs : List T} {vs : List L2.V} {lo hi : Option Int} (h : Reps K F H xs vs) : Reps K F H (cut xs lo hi) (L2.cutV vs lo hi) := by
  have e : ∀ (n d : Nat) (o : Option Int), sIx n d o = HT.sIx n d o := fun n d o => by cases o <;> rfl
  unfold cut L2.cutV
  rw [e, e, h.length]
  exact (h.drop _).take _
/-- a slice's part -/
def SS (X : L2.Cx) (G : Ga) (W : L2.WX) (C : FC) (e : Option Expr) (r : Rho → R (Option Int)) : Prop := ∃ t, L2.PO X e t ∧ ∀ ρ F σ H Q, Sim C F ρ σ H → (match r ρ with
  | .ok a ρ' => ∀ F' H', Step C ρ σ F H ρ' σ F' H' → Q a H'
  | .exc c ts ρ' => OutX G W C ρ σ F H c ts ρ'
  | .bad => False) → t σ H Q
theorem ss_none : SS X G W C none (evS ih none) := ⟨_, L2.po_none, fun ρ F σ H Q S o => o F H (.rfl' S)⟩
theorem ss_some {ce : Ex} (h : SO X G W C e (evO ih ce)) : SS X G W C (some e) (evS ih (some ce)) := by
  refine ⟨_, L2.po_some pe_we, fun ρ F σ H Q S o => ?_⟩
  refine h ρ F σ H _ S ?_
  have o1 : (match (R.bind ((evO ih ce ρ).bind fun o ρ => match res ρ o with
      | some t => .ok t ρ
      | none => .bad) fun t ρ => match t with
      | .int i => .ok (some i) ρ
      | _ => .bad : R (Option Int)) with
    | .ok a ρ' => ∀ F' H', Step C ρ σ F H ρ' σ F' H' → Q a H'
    | .exc c ts ρ' => OutX G W C ρ σ F H c ts ρ'
    | .bad => False) := o
  cases q : evO ih ce ρ with
  | exc c ts ρ' => rw [q] at o1; exact o1
  | bad => rw [q] at o1; exact o1
  | ok oo ρ1 =>
    rw [q] at o1
    intro F1 H1 v st op
    dsimp only [R.bind] at o1
    cases q2 : res ρ1 oo with
    | none => rw [q2] at o1; exact o1.elim
    | some t =>
      rw [q2] at o1
      have pr := res_prep st.sim op q2
      cases t with
      | int i =>
        cases (show v = _ from pr)
        exact ⟨i, rfl, o1 F1 H1 st⟩
      | _ => exact o1.elim
def slR (K : PySem.W.Frag) : L2.V → Option Int → Option Int → L2.Hp → L2.VK → Prop := fun x lo hi H Q => L2.rSlL K x lo hi H Q ∨ L2.rSlA K x lo hi H Q
theorem slc_ok (S : Sim C F ρ σ H) {x : T} {v : L2.V} {lo hi : Option Int} {r : A} {Q : L2.VK} (hx : PRep C.K F H x v) (e : cutT x lo hi = some r) (w : Wants C σ ρ F H r Q) : slR C.K v lo hi H Q := by
  cases x with
  | lst xs =>
    cases e
    obtain ⟨p, vs, rfl, h2, h3⟩ := hx
    exact .inl ⟨p, vs, rfl, L2.SqL.of h2, fun q hq => w.lst S (cutV_eq h3) q hq⟩
  | tup xs =>
    cases e
    obtain ⟨p, vs, rfl, hF, h2, h3⟩ := hx
    refine .inr ⟨p, vs, rfl, L2.SqT.of h2, fun z => ?_, fun _ q hq => w.tup S (cutV_eq h3) q hq⟩
    have ec : cut xs lo hi = xs := by
      have e0 : ∀ (n d : Nat) (o : Option Int), sIx n d o = HT.sIx n d o := fun n d o => by cases o <;> rfl
      unfold cut
      rw [e0, e0, h3.length, z.1, z.2, List.drop_zero, Nat.sub_zero, ← h3.length, List.take_length]
    rw [ec] at w
    exact w.here S ⟨p, vs, rfl, hF, h2, h3⟩
  | _ => cases e
theorem se_slc {lo hi : Option Expr} {ca : Ex} {cl ch : Option Ex} {p2 : Pos} (hK : X.K = C.K) (h : SO X G W C a (evO ih ca)) (hl : SS X G W C lo (evS ih cl)) (hh : SS X G W C hi (evS ih ch)) :
    SE X G W C (.Subscript a (.Slice lo hi none p2) pos) (fun ρ => (evO ih ca ρ).bind fun o ρ => (evS ih cl ρ).bind fun l ρ => (evS ih ch ρ).bind fun h ρ => match res ρ o with
      | some x => ofA? (cutT x l h) ρ
      | none => .bad) := by
  intro ρ F σ H Q S out
  obtain ⟨tl, pl, fl⟩ := hl
  obtain ⟨th, ph, fh⟩ := hh
  refine we_of (L2.pe_slice (L2.sl_list.or L2.sl_tupA) pe_we pl ph) ?_
  refine h ρ F σ H _ S (outO_bind out fun o ρ1 o1 F1 H1 v st op => ?_)
  refine fl ρ1 F1 σ H1 _ st.sim ?_
  cases q : evS ih cl ρ1 with
  | exc c ts ρ' => rw [q] at o1; exact OutX.later st o1
  | bad => rw [q] at o1; exact o1
  | ok l ρ2 =>
    rw [q] at o1
    intro F2 H2 st2
    refine fh ρ2 F2 σ H2 _ st2.sim ?_
    dsimp only [R.bind] at o1
    cases q2 : evS ih ch ρ2 with
    | exc c ts ρ' => rw [q2] at o1; exact OutX.later (st.trans st2) o1
    | bad => rw [q2] at o1; exact o1
    | ok hh ρ3 =>
      rw [q2] at o1
      intro F3 H3 st3
      dsimp only at o1
      cases q3 : res ρ3 o with
      | none => rw [q3] at o1; exact o1.elim
      | some x =>
        rw [q3] at o1
        dsimp only at o1
        have op3 := (op.step st.sim st2).step st2.sim st3
        have pr := res_prep st3.sim op3 q3
        cases q4 : cutT x l hh with
        | none => rw [q4] at o1; exact o1.elim
        | some r =>
          rw [q4] at o1
          have k := slc_ok st3.sim pr q4 (Wants.of o1 ((st.trans st2).trans st3))
          show L2.rSlL X.K v l hh H3 Q ∨ L2.rSlA X.K v l hh H3 Q
          rw [hK]
          exact k
theorem se_rev {k : Nat} {p1 p2 p3 : Pos} (hK : X.K = C.K) (h : SO X G W C a (evO ih ca)) : SE X G W C (.Subscript a (.Slice none none (some (.UnaryOp .USub (.Constant (.int 1) k p1) p2)) p3) pos) (fun ρ => (evP ih ca ρ).bind fun x ρ => match x with
    | .lst xs => .ok (.f xs.reverse) ρ
    | _ => .bad) := by
  intro ρ F σ H Q S out
  refine we_of (L2.pe_revL pe_we) ?_
  refine h ρ F σ H _ S (outP_bind out fun t ρ1 o1 F1 H1 v st pr => ?_)
  cases t with
  | lst xs =>
    obtain ⟨q, vs, rfl, h2, h3⟩ := pr
    exact ⟨q, vs, rfl, L2.SqL.of h2, fun q' hq => (Wants.of o1 st).lst st.sim h3.reverse q' hq⟩
  | _ => exact o1.elim

/-! ### what is kept -/
theorem outF_bind {f : T → Rho → R A} {Q : L2.VK} {K : L2.VK} (S : Sim C F ρ σ H) (h : OutA G W C ρ σ F H ((evF ih ce ρ).bind f) Q) (k : ∀ t ρ', OutA G W C ρ σ F H (f t ρ') Q → ∀ F' H' v, Step C ρ σ F H ρ' σ F' H' → RepT C.K F' H' t v → K v H') : OutO G W C ρ σ F H (evO ih ce ρ) K := by
  have h0 : OutA G W C ρ σ F H (R.bind ((evO ih ce ρ).bind fun o ρ => match frz ρ o with
      | some (t, ρ) => .ok t ρ
      | none => .bad) f) Q := h
  cases q : evO ih ce ρ with
  | exc c ts ρ' => rw [q] at h0; exact h0
  | bad => rw [q] at h0; exact h0
  | ok o ρ1 =>
    rw [q] at h0
    intro F1 H1 v st op
    dsimp only [R.bind] at h0
    cases q2 : frz ρ1 o with
    | none => rw [q2] at h0; exact h0.elim
    | some pr =>
      obtain ⟨t, ρ2⟩ := pr
      rw [q2] at h0
      obtain ⟨F2, st2, _, rep, _⟩ := frz_ok S st op q2
      exact k t ρ2 h0 F2 H1 v st2 rep

/-! ### methods of a list in a slot -/
theorem pe_nm {i : Nat} {x : Str} (h : NameOk X i x) : L2.PE X (.Name x pos) (L2.tVar i) := L2.pe_var h.1 h.2.1 h.2.2.1 h.2.2.2
theorem own_at (S : Sim C F ρ σ H) {i : Nat} (h : isOwn ρ i = true) : ∃ p vs, σ[i]? = some (some (.ref p)) ∧ H p = some (.lst vs) := by
  unfold isOwn at h
  split at h
  · rename_i k xs e
    obtain ⟨p, vs, h1, h2, _⟩ := S.own e
    exact ⟨p, vs, h1, h2⟩
  · cases h
theorem few_one {o : Expr} {cpos : Pos} (hs : isStar e = false) : ((backTo cpos (starEach [e] X.env)).all (fun x => !x.1) && (backToKw cpos (keywordEach [] X.env)).all (fun x => x.1.isSome)
      && decide ([e].length + ([] : List Keyword).length + (if ([] : List Keyword).isEmpty then 0 else 1) < 30)) = true := by
  rw [star_cons hs]
  rfl
theorem Step.wr {ρs : Rho} {Fs : FS} {Hs : L2.Hp} (st : Step C ρs σ Fs Hs ρ σ F H) {i : Nat} {k : Bool} {xs ys : List T} {p : Addr} {ws : List L2.V} (h : ρ[i]? = some (.o k xs)) (hp : σ[i]? = some (some (.ref p))) (hw : Reps C.K F H ys ws) :
    Step C ρs σ Fs Hs (ρ.set i (.o k ys)) σ F (L2.upd H p (.lst ws)) := st.trans (st.sim.write h hp hw).2
theorem se_app {i : Nat} {x : Str} {apos : Pos} (hK : X.K = C.K) (hn : NameOk X i x) (hl : (apos.endLine == pos.line) = true) (hs : isStar e = false) (h : SO X G W C e (evO ih ce)) : SE X G W C (.Call (.Attribute (.Name x p) "append" apos) [e] [] pos) (fun ρ => match isOwn ρ i with
    | false => .bad
    | true => (evF ih ce ρ).bind (appC i)) := by
  intro ρ F σ H Q S out
  refine we_of (L2.pe_bm PySem.F.plainAttrs_list PySem.F.slot_list_append PySem.F.type_list_append L2.mt_append (pe_nm hn) (L2.pa_cons pe_we L2.pa_nil (star_cons hs)) rfl (few_one (o := e) hs) hl (star_cons hs) rfl) ?_
  dsimp only at out
  cases hi : isOwn ρ i with
  | false => rw [hi] at out; exact out.elim
  | true =>
    rw [hi] at out
    obtain ⟨p, vs, h1, h2⟩ := own_at S hi
    refine ⟨.ref p, h1, .inl ⟨rfl, vs, L2.SqL.of h2⟩, ?_⟩
    refine h ρ F σ H _ S (outF_bind S out fun t ρ1 o1 F1 H1 u st rep => ?_)
    unfold appC at o1
    split at o1
    · rename_i k xs e1
      split at o1
      · rename_i hb
        obtain ⟨p', ws, g1, g2, g3, _⟩ := st.sim.own e1
        rw [h1] at g1
        cases g1
        refine ⟨p, ws, u, rfl, rfl, g2, by rw [← g3.length, ← big_eq]; exact hb, ?_⟩
        have st2 := st.wr e1 h1 (g3.append (show Reps C.K F1 H1 [t] [u] from ⟨u, [], rfl, rep, rfl⟩))
        exact (Wants.of o1 st2).here st2.sim rfl
      · exact o1.elim
    · exact o1.elim
theorem se_ext {i : Nat} {x : Str} {apos : Pos} (hK : X.K = C.K) (hn : NameOk X i x) (hl : (apos.endLine == pos.line) = true) (hs : isStar e = false) (h : SO X G W C e (evO ih ce)) : SE X G W C (.Call (.Attribute (.Name x p) "extend" apos) [e] [] pos) (fun ρ => match isOwn ρ i with
    | false => .bad
    | true => (evP ih ce ρ).bind (extC i)) := by
  intro ρ F σ H Q S out
  refine we_of (L2.pe_bm PySem.F.plainAttrs_list PySem.F.slot_list_extend PySem.F.type_list_extend L2.mt_extend (pe_nm hn) (L2.pa_cons pe_we L2.pa_nil (star_cons hs)) rfl (few_one (o := e) hs) hl (star_cons hs) rfl) ?_
  dsimp only at out
  cases hi : isOwn ρ i with
  | false => rw [hi] at out; exact out.elim
  | true =>
    rw [hi] at out
    obtain ⟨p, vs, h1, h2⟩ := own_at S hi
    refine ⟨.ref p, h1, .inl ⟨rfl, vs, L2.SqL.of h2⟩, ?_⟩
    refine h ρ F σ H _ S (outP_bind out fun t ρ1 o1 F1 H1 u st pr => ?_)
    unfold extC at o1
    split at o1
    · rename_i k xs ys e1
      split at o1
      · rename_i hb
        obtain ⟨p', ws, g1, g2, g3, _⟩ := st.sim.own e1
        rw [h1] at g1
        cases g1
        obtain ⟨q, zs, rfl, z2, z3⟩ := pr
        refine ⟨p, q, ws, zs, rfl, rfl, g2, z2, by rw [← g3.length, ← z3.length, ← big_eq]; exact hb, ?_⟩
        have st2 := st.wr e1 h1 (g3.append z3)
        exact (Wants.of o1 st2).here st2.sim rfl
      · exact o1.elim
    · exact o1.elim
theorem se_pop {i : Nat} {x : Str} {apos : Pos} (hK : X.K = C.K) (hn : NameOk X i x) (hl : (apos.endLine == pos.line) = true) : SE X G W C (.Call (.Attribute (.Name x p) "pop" apos) [] [] pos) (fun ρ => popC i ρ) := by
  intro ρ F σ H Q S out
  refine we_of (L2.pe_bm0 PySem.F.plainAttrs_list PySem.F.slot_list_pop PySem.F.type_list_pop L2.mt_pop (pe_nm hn) rfl hl) ?_
  have o1 : OutA G W C ρ σ F H (popC i ρ) Q := out
  unfold popC at o1
  split at o1
  · rename_i k xs e1
    split at o1
    · rename_i t e2
      obtain ⟨p, ws, g1, g2, g3, _⟩ := S.own e1
      obtain ⟨y, e3, r⟩ := g3.get e2
      refine ⟨.ref p, g1, .inl ⟨rfl, ws, L2.SqL.of g2⟩, p, ws, y, rfl, rfl, g2, by rw [← g3.length]; exact e3, ?_⟩
      have st2 := (Step.rfl' S).wr e1 g1 g3.dropLast
      exact (Wants.of o1 st2).here st2.sim (RepT.mono (st2.ext S) _ _ r)
    · exact o1.elim
  · exact o1.elim
theorem se_popA {i : Nat} {x : Str} {apos : Pos} (hK : X.K = C.K) (hn : NameOk X i x) (hl : (apos.endLine == pos.line) = true) (hs : isStar e = false) (h : SO X G W C e (evO ih ce)) : SE X G W C (.Call (.Attribute (.Name x p) "pop" apos) [e] [] pos) (fun ρ => match isOwn ρ i with
    | false => .bad
    | true => (evP ih ce ρ).bind (popAC i)) := by
  intro ρ F σ H Q S out
  refine we_of (L2.pe_bm PySem.F.plainAttrs_list PySem.F.slot_list_pop PySem.F.type_list_pop L2.mt_popAt (pe_nm hn) (L2.pa_cons pe_we L2.pa_nil (star_cons hs)) rfl (few_one (o := e) hs) hl (star_cons hs) rfl) ?_
  dsimp only at out
  cases hi : isOwn ρ i with
  | false => rw [hi] at out; exact out.elim
  | true =>
    rw [hi] at out
    obtain ⟨p, vs, h1, h2⟩ := own_at S hi
    refine ⟨.ref p, h1, .inl ⟨rfl, vs, L2.SqL.of h2⟩, ?_⟩
    refine h ρ F σ H _ S (outP_bind out fun t ρ1 o1 F1 H1 u st pr => ?_)
    unfold popAC at o1
    split at o1
    · rename_i k xs j e1
      split at o1
      · rename_i m e2
        split at o1
        · rename_i t e3
          split at o1
          case isFalse => exact o1.elim
          rename_i hbig
          obtain ⟨p', ws, g1, g2, g3, _⟩ := st.sim.own e1
          rw [h1] at g1
          cases g1
          cases (show u = _ from pr)
          obtain ⟨y, e4, r⟩ := g3.get e3
          obtain ⟨i1, i2, i3, i4⟩ := L2.ixN_seq (show L2.ixN xs.length j = some m from e2)
          have hz : xs.length < 2 ^ 62 := Nat.lt_of_le_of_lt hbig (by decide)
          refine ⟨p, ws, j, m, y, rfl, rfl, g2, by omega, by omega, by rw [← g3.length]; exact i1, e4, ?_⟩
          have st2 := st.wr e1 h1 (g3.eraseIdx m)
          exact (Wants.of o1 st2).here st2.sim (RepT.mono ((st.sim.write e1 h1 (g3.eraseIdx m)).2.ext st.sim) _ _ r)
        · exact o1.elim
      · exact o1.elim
    · exact o1.elim
theorem findT_ok {n : Nat} {y : T} (hy : okT n y = true) : ∀ {xs : List T} {j : Nat}, xs.all (okT n) = true → findT y xs = some j → ∃ x, (toDs xs)[j]? = some (toD x) ∧ PyData.eqv (toD x) (toD y) = true ∧ ∀ (m : Nat) (z : PyData), m < j → (toDs xs)[m]? = some z → PyData.eqv z (toD y) = false
  | [], j, _, e => by cases e
  | x :: xs, j, h, e => by
    rw [List.all_cons, Bool.and_eq_true] at h
    unfold findT at e
    split at e
    · rename_i he
      cases e
      exact ⟨x, rfl, by rw [eqT_toD n x y h.1 hy]; exact he, fun m z hm => absurd hm (Nat.not_lt_zero _)⟩
    · rename_i he
      obtain ⟨k, e1, e2⟩ := Option.map_eq_some_iff.mp e
      subst e2
      obtain ⟨x', h1, h2, h3⟩ := findT_ok hy h.2 e1
      refine ⟨x', h1, h2, fun m z hm hz => ?_⟩
      cases m with
      | zero =>
        have : toD x = z := Option.some.inj hz
        subst this
        rw [eqT_toD n x y h.1 hy]
        exact Bool.eq_false_iff.mpr he
      | succ m => exact h3 m z (Nat.lt_of_succ_lt_succ hm) hz
theorem se_ixof {apos : Pos} {cs : List Ex} (hK : X.K = C.K) (hu : X.A.units + 65 < cLine) (hb : attributeBase a "index" X.env (eval a X.env) = eval a X.env) (hl : (apos.endLine == pos.line) = true) (hs : isStar e = false) (h1 : SO X G W C a (evO ih ca)) (h : SO X G W C e (evO ih ce)) :
    SE X G W C (.Call (.Attribute a "index" apos) [e] [] pos) (fun ρ => (evO ih ca ρ).bind fun o ρ => match res ρ o with
      | some (.lst _) => (evP ih ce ρ).bind fun y ρ => match res ρ o with
        | some x => ofT (ixofT x y) ρ
        | none => .bad
      | _ => .bad) := by
  intro ρ F σ H Q S out
  refine we_of (L2.pe_bm PySem.F.plainAttrs_list PySem.F.slot_list_index PySem.F.type_list_index (L2.mt_indexD hu) pe_we (L2.pa_cons pe_we L2.pa_nil (star_cons hs)) hb (few_one (o := e) hs) hl (star_cons hs) rfl) ?_
  refine h1 ρ F σ H _ S (outO_bind out fun o ρ1 o1 F1 H1 v st op => ?_)
  cases q : res ρ1 o with
  | none => rw [q] at o1; exact o1.elim
  | some x =>
    rw [q] at o1
    cases x with
    | lst xs =>
      obtain ⟨p, vs, rfl, g2, g3⟩ := res_prep st.sim op q
      refine ⟨.inl ⟨rfl, vs, L2.SqL.of g2⟩, ?_⟩
      refine h ρ1 F1 σ H1 _ st.sim (outP_bind (OutA.later st o1) fun y ρ2 o2 F2 H2 u st2 pr => ?_)
      cases q2 : res ρ2 o with
      | none => rw [q2] at o2; exact o2.elim
      | some x2 =>
        rw [q2] at o2
        dsimp only at o2
        have pr2 := res_prep st2.sim (op.step st.sim st2) q2
        cases q3 : ixofT x2 y with
        | none => rw [q3] at o2; exact o2.elim
        | some r =>
          rw [q3] at o2
          cases x2 with
          | lst ys =>
            simp only [ixofT] at q3
            split at q3
            · rename_i hh
              rw [Bool.and_eq_true] at hh
              obtain ⟨j, e1, e2⟩ := Option.map_eq_some_iff.mp q3
              subst e2
              obtain ⟨x', f1, f2, f3⟩ := findT_ok hh.1 hh.2 e1
              obtain ⟨p', us, k1, k2, k3⟩ := pr2
              cases k1
              rw [hK]
              exact ⟨p, u, toD y, toDs ys, j, toD x', rfl, rfl, .lst (L2.SqL.of k2) (Reps.dps 63 ys us hh.2 k3), PRep.dp (okT_mono hh.1) pr, shaped_of (x := .lst ys) hh.2, shaped_of (okT_mono hh.1), f1, f2, f3, (Wants.of o2 st2).here st2.sim rfl⟩
            · cases q3
          | _ => cases q3
    | _ => exact o1.elim
end
end PV

set_option Elab.async false
set_option linter.all false
set_option maxRecDepth 100000
set_option maxHeartbeats 1000000
/-! PV, soundness 10: statements. -/
namespace PV
open PySem PySem.Spec PyProof.Rows
section
variable {X : L2.Cx} {G : Ga} {W : L2.WX} {C : FC} {ρ ρ' : Rho} {σ σ' : LSt} {F F' : FS} {H H' : L2.Hp} {e a b c : Expr} {es rest : List Expr} {pos p : Pos} {ih : Ex → Rho → R A} {ce ca cb cc : Ex} {st : Stmt} {sts : List Stmt}
theorem sset_get {i j : Nat} {ov u : Option L2.V} (h : (σ.set i ov)[j]? = some u) : (j = i ∧ u = ov) ∨ (j ≠ i ∧ σ[j]? = some u) := by
  by_cases e : j = i
  · subst e
    by_cases hl : j < σ.length
    · rw [List.getElem?_set_self hl] at h
      exact .inl ⟨rfl, (Option.some.inj h).symm⟩
    · rw [List.getElem?_eq_none (by simpa using hl)] at h
      cases h
  · rw [List.getElem?_set_ne (Ne.symm e)] at h
    exact .inr ⟨e, h⟩
theorem sset_getD {i j : Nat} {ov : Option L2.V} (hj : j < σ.length) : (σ.set i ov).getD j none = if j = i then ov else σ.getD j none := by
  rw [List.getD_eq_getElem?_getD, List.getD_eq_getElem?_getD]
  by_cases e : j = i
  · subst e
    rw [List.getElem?_set_self hj, if_pos rfl]; rfl
  · rw [List.getElem?_set_ne (Ne.symm e), if_neg e]
theorem Sim.put (S : Sim C F ρ σ H) {i : Nat} {s : Sl} {ov : Option L2.V} (h : SlRep C F H s ov) (hd : ∀ k xs p, s = .o k xs → ov = some (.ref p) → ¬ Own ρ σ p) : Sim C F (ρ.set i s) (σ.set i ov) H where
  len := by rw [List.length_set, List.length_set]; exact S.len
  sl := fun j t ht => by
    have hj : j < σ.length := by
      have := (List.getElem?_eq_some_iff.mp ht).1
      rw [List.length_set] at this
      rw [← S.len]; exact this
    rw [sset_getD hj]
    rcases set_get ht with ⟨e1, e2⟩ | ⟨n, e⟩
    · rw [if_pos e1, e2]; exact h
    · rw [if_neg n]; exact S.sl j t e
  dis := fun x y k l xs ys q h1 h2 h3 h4 => by
    rcases set_get h1 with ⟨e1, f1⟩ | ⟨n1, f1⟩
    · rcases set_get h2 with ⟨e2, f2⟩ | ⟨n2, f2⟩
      · rw [e1, e2]
      · rcases sset_get h3 with ⟨_, g1⟩ | ⟨m1, _⟩
        · rcases sset_get h4 with ⟨m2, _⟩ | ⟨_, g2⟩
          · exact absurd m2 n2
          · exact absurd ⟨y, l, ys, f2, g2⟩ (hd k xs q f1.symm g1.symm)
        · exact absurd e1 m1
    · rcases sset_get h3 with ⟨m1, _⟩ | ⟨_, g1⟩
      · exact absurd m1 n1
      · rcases set_get h2 with ⟨e2, f2⟩ | ⟨n2, f2⟩
        · rcases sset_get h4 with ⟨_, g2⟩ | ⟨m2, _⟩
          · exact absurd ⟨x, k, xs, f1, g1⟩ (hd l ys q f2.symm g2.symm)
          · exact absurd e2 m2
        · rcases sset_get h4 with ⟨m2, _⟩ | ⟨_, g2⟩
          · exact absurd m2 n2
          · exact S.dis x y k l xs ys q f1 f2 g1 g2
  frz := S.frz
  frN := S.frN
  out := S.out
  sub := S.sub
  mF := S.mF
  dom := S.dom
theorem Own.put_sub {i : Nat} {s : Sl} {ov : Option L2.V} {q : Addr} (h : Own (ρ.set i s) (σ.set i ov) q) : Own ρ σ q ∨ ov = some (.ref q) ∧ ∃ k xs, s = .o k xs := by
  obtain ⟨j, k, xs, h1, h2⟩ := h
  rcases set_get h1 with ⟨e1, f1⟩ | ⟨n1, f1⟩
  · rcases sset_get h2 with ⟨_, g1⟩ | ⟨m1, _⟩
    · exact .inr ⟨g1.symm, k, xs, f1.symm⟩
    · exact absurd e1 m1
  · rcases sset_get h2 with ⟨m1, _⟩ | ⟨_, g1⟩
    · exact absurd m1 n1
    · exact .inl ⟨j, k, xs, f1, g1⟩
/-- a frozen tree is stored -/
theorem Step.put (st : Step C ρ σ F H ρ' σ' F' H') {i : Nat} {t : T} {v : L2.V} (h : RepT C.K F' H' t v) : Step C ρ σ F H (ρ'.set i (.v t)) (σ'.set i (some v)) F' H' where
  sub := st.sub
  keep := st.keep
  new := st.new
  own := fun q z => by
    rcases z.put_sub with z | ⟨_, k, xs, z⟩
    · exact st.own q z
    · cases z
  there := st.there
  sim := st.sim.put ⟨v, rfl, h⟩ fun k xs q z => by cases z
/-- a new list is stored -/
theorem Step.putF (S : Sim C F ρ σ H) (st : Step C ρ σ F H ρ' σ' F' H') {i : Nat} {xs : List T} {q : Addr} {vs : List L2.V} (h0 : H q = none) (h1 : H' q = some (.lst vs)) (h2 : Reps C.K F' H' xs vs) (h3 : ¬ F' q) (h4 : ¬ Own ρ' σ' q) :
    Step C ρ σ F H (ρ'.set i (.o true xs)) (σ'.set i (some (.ref q))) F' H' where
  sub := st.sub
  keep := st.keep
  new := st.new
  own := fun x z => by
    rcases z.put_sub with z | ⟨z, _⟩
    · exact st.own x z
    · cases z; exact .inr h0
  there := st.there
  sim := st.sim.put ⟨q, vs, rfl, h1, h2, h3, S.h0 h0⟩ fun k ys x z1 z2 => by cases z2; exact h4
theorem Step.lose' (st : Step C ρ σ F H ρ' σ' F' H') {i : Nat} : Step C ρ σ F H (ρ'.set i .u) σ' F' H' where
  sub := st.sub
  keep := st.keep
  new := st.new
  own := fun q z => st.own q (z.set_sub fun _ _ => by simp)
  there := st.there
  sim := st.sim.lose i
/-- a slot is wiped -/
theorem Step.wipe (st : Step C ρ σ F H ρ' σ' F' H') {i : Nat} {ov : Option L2.V} : Step C ρ σ F H (ρ'.set i .u) (σ'.set i ov) F' H' where
  sub := st.sub
  keep := st.keep
  new := st.new
  own := fun q z => by
    rcases z.put_sub with z | ⟨_, k, xs, z⟩
    · exact st.own q z
    · cases z
  there := st.there
  sim := st.sim.put trivial fun k xs q z => by cases z

def WS (X : L2.Cx) (st : Stmt) (σ : LSt) (H : L2.Hp) (D : L2.Ends) : Prop := ∀ pins s, L2.Inv X pins σ H s → wpAny (model X.prog X.w) X.A (exec st X.env) (L2.SP X pins D) X.xe s
def WSs (X : L2.Cx) (sts : List Stmt) (σ : LSt) (H : L2.Hp) (D : L2.Ends) : Prop := ∀ pins s, L2.Inv X pins σ H s → wpAny (model X.prog X.w) X.A (execs sts X.env) (L2.SP X pins D) X.xe s
theorem ps_ws : L2.PS X st (fun D σ H => WS X st σ H D) := ⟨fun pins s σ H D I h => h pins s I⟩
theorem ws_of {t : L2.TS} {D : L2.Ends} (p : L2.PS X st t) (h : t D σ H) : WS X st σ H D := fun pins s I => p.run pins s σ H D I h
theorem pss_wss : L2.PSs X sts (fun D σ H => WSs X sts σ H D) := ⟨fun pins s σ H D I h => h pins s I⟩
theorem wss_of {t : L2.TS} {D : L2.Ends} (p : L2.PSs X sts t) (h : t D σ H) : WSs X sts σ H D := fun pins s I => p.run pins s σ H D I h
def RtRep (C : FC) (F' : FS) (H' : L2.Hp) : A → L2.V → Prop
  | .t x, v => RepT C.K F' H' x v
  | .f xs, v => ∃ p vs, v = .ref p ∧ C.H0 p = none ∧ H' p = some (.lst vs) ∧ Reps C.K F' H' xs vs ∧ ¬ F' p
theorem ARep.rt (S : Sim C F ρ σ H) {r : A} {v : L2.V} (h : ARep C.K σ' H ρ' F' H' r v) : RtRep C F' H' r v := by
  cases r with
  | t x => exact h
  | f xs =>
    obtain ⟨p, vs, h1, h2, h3, h4, h5, _⟩ := h
    exact ⟨p, vs, h1, S.h0 h2, h3, h4, h5⟩
def OutS (G : Ga) (W : L2.WX) (C : FC) (ρ : Rho) (σ : LSt) (F : FS) (H : L2.Hp) (r : RS) (D : L2.Ends) : Prop := match r with
  | .nx ρ' => ∀ σ' F' H', Step C ρ σ F H ρ' σ' F' H' → D.nx σ' H'
  | .rt a ρ' => ∀ σ' F' H' v, Step C ρ σ F H ρ' σ' F' H' → RtRep C F' H' a v → D.rt v H'
  | .bk ρ' => ∀ σ' F' H', Step C ρ σ F H ρ' σ' F' H' → D.bk σ' H'
  | .ct ρ' => ∀ σ' F' H', Step C ρ σ F H ρ' σ' F' H' → D.ct σ' H'
  | .exc c ts ρ' => ∀ σ' F' H' cv d, Step C ρ σ F H ρ' σ' F' H' → XR C.K G F' H' c ts cv d → W cv d σ' H'
  | .bad => False
def SS1 (X : L2.Cx) (G : Ga) (W : L2.WX) (C : FC) (st : Stmt) (r : Rho → RS) : Prop := ∀ ρ F σ H D, Sim C F ρ σ H → OutS G W C ρ σ F H (r ρ) D → WS X st σ H D
def SSs (X : L2.Cx) (G : Ga) (W : L2.WX) (C : FC) (sts : List Stmt) (r : Rho → RS) : Prop := ∀ ρ F σ H D, Sim C F ρ σ H → OutS G W C ρ σ F H (r ρ) D → WSs X sts σ H D
theorem OutS.later {ρs : Rho} {σs : LSt} {Fs : FS} {Hs : L2.Hp} {r : RS} {D : L2.Ends} (st : Step C ρs σs Fs Hs ρ σ F H) (h : OutS G W C ρs σs Fs Hs r D) : OutS G W C ρ σ F H r D := by
  cases r with
  | nx ρ' => exact fun σ' F' H' s => h σ' F' H' (st.trans s)
  | rt a ρ' => exact fun σ' F' H' v s x => h σ' F' H' v (st.trans s) x
  | bk ρ' => exact fun σ' F' H' s => h σ' F' H' (st.trans s)
  | ct ρ' => exact fun σ' F' H' s => h σ' F' H' (st.trans s)
  | exc c ts ρ' => exact fun σ' F' H' cv d s x => h σ' F' H' cv d (st.trans s) x
  | bad => exact h
theorem outA_of_rs {r : R A} {f : A → Rho → RS} {D : L2.Ends} {Q : L2.VK} (h : OutS G W C ρ σ F H (RS.of r f) D) (k : ∀ a ρ', OutS G W C ρ σ F H (f a ρ') D → ∀ F' H' v, Step C ρ σ F H ρ' σ F' H' → ARep C.K σ H ρ' F' H' a v → Q v H') : OutA G W C ρ σ F H r Q := by
  cases r with
  | ok a ρ' => exact k a ρ' h
  | exc c ts ρ' => exact fun F' H' cv d s x => h σ F' H' cv d s x
  | bad => exact h
theorem outB_of_rs {r : R Bool} {f : Bool → Rho → RS} {D : L2.Ends} {Q : Bool → L2.Hp → Prop} (h : OutS G W C ρ σ F H (RS.of r f) D) (k : ∀ a ρ', OutS G W C ρ σ F H (f a ρ') D → ∀ F' H', Step C ρ σ F H ρ' σ F' H' → Q a H') : OutB G W C ρ σ F H r Q := by
  cases r with
  | ok a ρ' => exact k a ρ' h
  | exc c ts ρ' => exact fun F' H' cv d s x => h σ F' H' cv d s x
  | bad => exact h
theorem outOs_of_rs {r : R (List Opd)} {f : List Opd → Rho → RS} {D : L2.Ends} {Q : List L2.V → L2.Hp → Prop} (h : OutS G W C ρ σ F H (RS.of r f) D) (k : ∀ a ρ', OutS G W C ρ σ F H (f a ρ') D → ∀ F' H' vs, Step C ρ σ F H ρ' σ F' H' → OpReps C.K σ H ρ' F' H' a vs → Q vs H') : OutOs G W C ρ σ F H r Q := by
  cases r with
  | ok a ρ' => exact k a ρ' h
  | exc c ts ρ' => exact fun F' H' cv d s x => h σ F' H' cv d s x
  | bad => exact h
theorem outF_of_rs {f : T → Rho → RS} {D : L2.Ends} {K : L2.VK} (S : Sim C F ρ σ H) (h : OutS G W C ρ σ F H (RS.of (evF ih ce ρ) f) D) (k : ∀ t ρ', OutS G W C ρ σ F H (f t ρ') D → ∀ F' H' v, Step C ρ σ F H ρ' σ F' H' → RepT C.K F' H' t v → K v H') : OutO G W C ρ σ F H (evO ih ce ρ) K := by
  have h0 : OutS G W C ρ σ F H (RS.of ((evO ih ce ρ).bind fun o ρ => match frz ρ o with
      | some (t, ρ) => .ok t ρ
      | none => .bad) f) D := h
  cases q : evO ih ce ρ with
  | exc c ts ρ' => rw [q] at h0; exact fun F' H' cv d s x => h0 σ F' H' cv d s x
  | bad => rw [q] at h0; exact h0
  | ok o ρ1 =>
    rw [q] at h0
    intro F1 H1 v st op
    dsimp only [R.bind] at h0
    cases q2 : frz ρ1 o with
    | none => rw [q2] at h0; exact h0.elim
    | some pr =>
      obtain ⟨t, ρ2⟩ := pr
      rw [q2] at h0
      obtain ⟨F2, st2, _, rep, _⟩ := frz_ok S st op q2
      exact k t ρ2 h0 F2 H1 v st2 rep
theorem outP_of_rs {f : T → Rho → RS} {D : L2.Ends} {K : L2.VK} (h : OutS G W C ρ σ F H (RS.of (evP ih ce ρ) f) D) (k : ∀ t ρ', OutS G W C ρ σ F H (f t ρ') D → ∀ F' H' v, Step C ρ σ F H ρ' σ F' H' → PRep C.K F' H' t v → K v H') : OutO G W C ρ σ F H (evO ih ce ρ) K := by
  have h0 : OutS G W C ρ σ F H (RS.of ((evO ih ce ρ).bind fun o ρ => match res ρ o with
      | some t => .ok t ρ
      | none => .bad) f) D := h
  cases q : evO ih ce ρ with
  | exc c ts ρ' => rw [q] at h0; exact fun F' H' cv d s x => h0 σ F' H' cv d s x
  | bad => rw [q] at h0; exact h0
  | ok o ρ1 =>
    rw [q] at h0
    intro F1 H1 v st op
    dsimp only [R.bind] at h0
    cases q2 : res ρ1 o with
    | none => rw [q2] at h0; exact h0.elim
    | some t =>
      rw [q2] at h0
      exact k t ρ1 h0 F1 H1 v st (res_prep st.sim op q2)

/-! ### rows of statements -/
theorem ss_nil : SSs X G W C [] (fun ρ => .nx ρ) := fun ρ F σ H D S o => wss_of L2.pss_nil (o σ F H (.rfl' S))
def seqS (r : RS) (f : Rho → RS) : RS := match r with
  | .nx ρ => f ρ
  | x => x
theorem ss_cons {r f : Rho → RS} (h1 : SS1 X G W C st r) (h2 : SSs X G W C sts f) : SSs X G W C (st :: sts) (fun ρ => seqS (r ρ) f) := by
  intro ρ F σ H D S o
  refine wss_of (L2.pss_cons ps_ws pss_wss) ?_
  refine h1 ρ F σ H { D with nx := fun σ1 H1 => WSs X sts σ1 H1 D } S ?_
  dsimp only at o
  cases q : r ρ with
  | nx ρ1 =>
    rw [q] at o
    intro σ1 F1 H1 s1
    exact h2 ρ1 F1 σ1 H1 D s1.sim (OutS.later s1 o)
  | rt a ρ1 => rw [q] at o; exact o
  | bk ρ1 => rw [q] at o; exact o
  | ct ρ1 => rw [q] at o; exact o
  | exc c ts ρ1 => rw [q] at o; exact o
  | bad => rw [q] at o; exact o
theorem ss_expr (h : SE X G W C e (ih ce)) (hs : swapsWith e none pos.line X.env = pure false) : SS1 X G W C (.Expr e pos) (fun ρ => RS.of (ih ce ρ) fun _ ρ => .nx ρ) :=
  fun ρ F σ H D S o => ws_of (L2.ps_expr pe_we hs) (h ρ F σ H _ S (outA_of_rs o fun a ρ1 o1 F1 H1 v s1 _ => o1 σ F1 H1 s1))
theorem ss_ret (h : SE X G W C e (ih ce)) : SS1 X G W C (.Return (some e) pos) (fun ρ => RS.of (ih ce ρ) fun a ρ => .rt a ρ) :=
  fun ρ F σ H D S o => ws_of (L2.ps_ret pe_we) (h ρ F σ H _ S (outA_of_rs o fun a ρ1 o1 F1 H1 v s1 r => o1 σ F1 H1 v s1 (r.rt S)))
theorem ss_retL {i : Nat} {x : Str} (hn : NameOk X i x) : SS1 X G W C (.Return (some (.Name x p)) pos) (fun ρ => match ρ[i]? with
    | some (.o true xs) => .rt (.f xs) ρ
    | some (.v t) => .rt (.t t) ρ
    | _ => .bad) := by
  intro ρ F σ H D S o
  refine ws_of (L2.ps_ret (pe_nm hn)) ?_
  dsimp only at o
  split at o
  · rename_i xs e1
    obtain ⟨q, vs, g1, g2, g3, g4, g5⟩ := S.own e1
    exact ⟨.ref q, g1, o σ F H _ (.rfl' S) ⟨q, vs, rfl, g5, g2, g3, g4⟩⟩
  · rename_i t e1
    obtain ⟨v, g1, g2⟩ := S.sl i _ e1
    exact ⟨v, of_getD g1, o σ F H _ (.rfl' S) g2⟩
  · exact o.elim
theorem ss_retN : SS1 X G W C (.Return none pos) (fun ρ => .rt (.t .non) ρ) := fun ρ F σ H D S o => ws_of L2.ps_retN (o σ F H .non (.rfl' S) rfl)
theorem ss_pass : SS1 X G W C (.Pass pos) (fun ρ => .nx ρ) := fun ρ F σ H D S o => ws_of L2.ps_pass (o σ F H (.rfl' S))
theorem ss_brk : SS1 X G W C (.Break pos) (fun ρ => .bk ρ) := fun ρ F σ H D S o => ws_of L2.ps_break (o σ F H (.rfl' S))
theorem ss_cont : SS1 X G W C (.Continue pos) (fun ρ => .ct ρ) := fun ρ F σ H D S o => ws_of L2.ps_continue (o σ F H (.rfl' S))
/-- a name that may be stored -/
def StoreOk (X : L2.Cx) (i : Nat) (x : Str) : Prop := X.N.Nodup ∧ X.N[i]? = some x ∧ L2.Loc X.env.scope x ∧ (X.fn x = true ∨ X.env.scope.names.lookup x = some .local)
theorem step_store (S : Sim C F ρ σ H) {i : Nat} {a : A} {v : L2.V} (st : Step C ρ σ F H ρ' σ F' H') (r : ARep C.K σ H ρ' F' H' a v) : Step C ρ σ F H (store1 i a ρ') (σ.set i (some v)) F' H' := by
  cases a with
  | t x => exact st.put r
  | f xs =>
    obtain ⟨q, vs, rfl, h2, h3, h4, h5, h6⟩ := r
    exact st.putF S h2 h3 h4 h5 h6
theorem ss_asg {i : Nat} {x : Str} {p' : Pos} (hx : StoreOk X i x) (h : SE X G W C e (ih ce)) (hs : swapsWith e (some (.Name x p')) pos.line X.env = pure false) : SS1 X G W C (.Assign [.Name x p'] e pos) (fun ρ => RS.of (ih ce ρ) fun a ρ => .nx (store1 i a ρ)) :=
  fun ρ F σ H D S o => ws_of (L2.ps_set hx.1 hx.2.1 hx.2.2.1 pe_we hs hx.2.2.2) (h ρ F σ H _ S (outA_of_rs o fun a ρ1 o1 F1 H1 v s1 r => o1 _ F1 H1 (step_store S s1 r)))
theorem ss_par {i j : Nat} {x y : Str} {px py pt pt2 : Pos} {kt k2 : Nat} (hc : X.calm = true) (hx : StoreOk X i x) (hy : StoreOk X j y) (hij : i ≠ j) (lx : X.env.scope.names.lookup x = some .local) (ly : X.env.scope.names.lookup y = some .local) (h1 : SE X G W C a (ih ca)) (h2 : SE X G W C b (ih cb)) (hst : [a, b].all (fun e => !isStar e) = true)
    (hw : swappedStores [.Tuple [.Name x px, .Name y py] kt pt] (.Tuple [a, b] k2 pt2) X.env = pure (some [x, y])) (hs : swapsWithSole [.Tuple [.Name x px, .Name y py] kt pt] (.Tuple [a, b] k2 pt2) pos.line X.env = pure false) :
    SS1 X G W C (.Assign [.Tuple [.Name x px, .Name y py] kt pt] (.Tuple [a, b] k2 pt2) pos) (fun ρ => RS.of (ih ca ρ) fun x ρ => RS.of (ih cb ρ) fun y ρ => .nx (store1 j y (store1 i x ρ))) := by
  intro ρ F σ H D S o
  refine ws_of (L2.ps_par hc hx.1 hx.2.1 hy.2.1 hij lx ly (pa_wes hst) hw hs) ?_
  refine h1 ρ F σ H _ S (outA_of_rs o fun r1 ρ1 o1 F1 H1 v s1 x1 => ?_)
  refine h2 ρ1 F1 σ H1 _ s1.sim ?_
  cases q2 : ih cb ρ1 with
  | exc c ts ρ2 => rw [q2] at o1; exact fun F' H' cv d s x => o1 σ F' H' cv d (s1.trans s) x
  | bad => rw [q2] at o1; exact o1.elim
  | ok r2 ρ2 =>
  rw [q2] at o1
  intro F2 H2 u s2 x2
  have o2 : OutS G W C ρ σ F H (.nx (store1 j r2 (store1 i r1 ρ2))) D := o1
  refine ⟨v, u, rfl, ?_⟩
  have x1' : ARep C.K σ H ρ2 F2 H2 r1 v := by
    cases r1 with
    | t x => exact RepT.mono (s2.ext s1.sim) _ _ x1
    | f xs =>
      obtain ⟨q, vs, g1, g2, g3, g4, g5, g6⟩ := x1
      refine ⟨q, vs, g1, g2, s2.keep q _ g3 g6, Reps.mono (s2.ext s1.sim) _ _ g4, fun z => ?_, fun z => ?_⟩
      · rcases s2.new q z with z | z | z
        · exact g5 z
        · rw [g3] at z; cases z
        · exact g6 z
      · rcases s2.own q z with z | z
        · exact g6 z
        · rw [g3] at z; cases z
  have st1 := step_store (i := i) S (s1.trans s2) x1'
  refine o2 _ F2 H2 ?_
  cases r2 with
  | t x => exact st1.put x2
  | f xs =>
    obtain ⟨q, vs, rfl, g2, g3, g4, g5, g6⟩ := x2
    have hq0 : H q = none := by
      cases z : H q with
      | none => rfl
      | some o => exact absurd g2 (s1.there q (by rw [z]; simp))
    refine st1.putF S hq0 g3 g4 g5 fun z => ?_
    cases r1 with
    | t x =>
      rcases z.put_sub with z | ⟨_, k, xs, z⟩
      · exact g6 z
      · cases z
    | f ys =>
      rcases z.put_sub with z | ⟨z, _⟩
      · exact g6 z
      · obtain ⟨q1, us, k1, _, k3, _⟩ := x1
        rw [k1] at z
        cases z
        rw [g2] at k3
        cases k3
end
end PV

set_option Elab.async false
set_option linter.all false
set_option maxRecDepth 100000
set_option maxHeartbeats 1000000
/-! PV, soundness 11: what loops walk. -/
namespace PV
open PySem PySem.Spec PyProof.Rows
section
variable {X : L2.Cx} {G : Ga} {W : L2.WX} {C : FC} {ρ ρ' : Rho} {σ σ' : LSt} {F F' : FS} {H H' : L2.Hp} {e a b c tg iter : Expr} {es rest : List Expr} {pos p : Pos} {ih : Ex → Rho → R A} {ce ca cb cc : Ex} {st : Stmt} {sts : List Stmt}
/-- the walk's code and the iterator -/
def IvRep (C : FC) (σ : LSt) (Hs : L2.Hp) (ρ : Rho) (F : FS) (H : L2.Hp) : Iv → L2.It → Prop
  | .sq true o, J => ∃ p, OpRep C.K σ Hs ρ F H o (.ref p) ∧ J = L2.Itl C.K p
  | .sq false o, J => ∃ p, OpRep C.K σ Hs ρ F H o (.ref p) ∧ J = L2.Itt C.K p
  | .rg lo n, J => J = L2.Itr lo n
  | .en o, J => ∃ p, OpRep C.K σ Hs ρ F H o (.ref p) ∧ J = L2.Ite C.K p
  | .zp a b, J => ∃ p q, OpRep C.K σ Hs ρ F H a (.ref p) ∧ OpRep C.K σ Hs ρ F H b (.ref q) ∧ J = L2.Itz C.K p q
theorem OpRep.steps {Hs : L2.Hp} (S : Sim C F ρ σ H) {o : Opd} {v : L2.V} (st : Step C ρ σ F H ρ' σ' F' H') (he : ∀ i, o = .d i → σ'[i]? = σ[i]?) (h : OpRep C.K σ Hs ρ F H o v) : OpRep C.K σ' Hs ρ' F' H' o v := by
  cases o with
  | d i => exact (he i rfl).trans h
  | x t => exact RepT.mono (st.ext S) t v h
  | f xs =>
    obtain ⟨p, vs, h1, h2, h3, h4, h5⟩ := h
    refine ⟨p, vs, h1, st.keep p _ h2 h5, Reps.mono (st.ext S) _ _ h3, h4, fun q => ?_⟩
    rcases st.own p q with z | z
    · exact h5 z
    · rw [h2] at z; cases z
def ivSlots : Iv → List Nat
  | .sq _ (.d i) => [i]
  | .sq _ _ => []
  | .rg _ _ => []
  | .en (.d i) => [i]
  | .en _ => []
  | .zp (.d i) (.d j) => [i, j]
  | .zp (.d i) _ => [i]
  | .zp _ (.d j) => [j]
  | .zp _ _ => []
theorem IvRep.steps {Hs : L2.Hp} (S : Sim C F ρ σ H) {iv : Iv} {J : L2.It} (st : Step C ρ σ F H ρ' σ' F' H') (he : ∀ i ∈ ivSlots iv, σ'[i]? = σ[i]?) (h : IvRep C σ Hs ρ F H iv J) : IvRep C σ' Hs ρ' F' H' iv J := by
  cases iv with
  | sq k o =>
    cases k with
    | true =>
      obtain ⟨p, h1, h2⟩ := h
      exact ⟨p, h1.steps S st (fun i z => he i (by subst z; exact List.mem_singleton.mpr rfl)), h2⟩
    | false =>
      obtain ⟨p, h1, h2⟩ := h
      exact ⟨p, h1.steps S st (fun i z => he i (by subst z; exact List.mem_singleton.mpr rfl)), h2⟩
  | rg lo n => exact h
  | en o =>
    obtain ⟨p, h1, h2⟩ := h
    exact ⟨p, h1.steps S st (fun i z => he i (by subst z; exact List.mem_singleton.mpr rfl)), h2⟩
  | zp x y =>
    obtain ⟨p, q, h1, h2, h3⟩ := h
    refine ⟨p, q, h1.steps S st (fun i z => he i ?_), h2.steps S st (fun i z => he i ?_), h3⟩
    · subst z
      cases y <;> simp [ivSlots]
    · subst z
      cases x <;> simp [ivSlots]
theorem turn_end {Hs : L2.Hp} (S : Sim C F ρ σ H) {iv : Iv} {J : L2.It} {i : Nat} (h : IvRep C σ Hs ρ F H iv J) (e : turnAt ρ i iv = some none) : J.stop i H := by
  cases iv with
  | sq k o =>
    cases k with
    | true =>
      obtain ⟨p, h1, h2⟩ := h
      subst h2
      obtain ⟨xs, e1, e2⟩ := Option.map_eq_some_iff.mp (show (((res ρ o).bind listT).map fun xs => xs[i]?) = some none from e)
      obtain ⟨t, e3, e4⟩ := Option.bind_eq_some_iff.mp e1
      cases t <;> first | (cases e4; done) | skip
      cases e4
      obtain ⟨q, vs, g1, g2, g3⟩ := res_prep S h1 e3
      cases g1
      exact ⟨vs, L2.SqL.of g2, by rw [← g3.length]; exact List.getElem?_eq_none_iff.mp e2⟩
    | false =>
      obtain ⟨p, h1, h2⟩ := h
      subst h2
      obtain ⟨xs, e1, e2⟩ := Option.map_eq_some_iff.mp (show (((res ρ o).bind tupT).map fun xs => xs[i]?) = some none from e)
      obtain ⟨t, e3, e4⟩ := Option.bind_eq_some_iff.mp e1
      cases t <;> first | (cases e4; done) | skip
      cases e4
      obtain ⟨q, vs, g1, _, g2, g3⟩ := res_prep S h1 e3
      cases g1
      exact ⟨vs, L2.SqT.of g2, by rw [← g3.length]; exact List.getElem?_eq_none_iff.mp e2⟩
  | rg lo n =>
    have h2 : J = L2.Itr lo n := h
    subst h2
    have e1 : (if i < n then some (T.int (lo + i)) else none) = none := Option.some.inj e
    by_cases z : i < n
    · rw [if_pos z] at e1; cases e1
    · exact Nat.le_of_not_lt z
  | en o =>
    obtain ⟨p, h1, h2⟩ := h
    subst h2
    obtain ⟨xs, e1, e2⟩ := Option.map_eq_some_iff.mp (show (((res ρ o).bind listT).map fun xs => (xs[i]?).map fun x => T.tup [.int i, x]) = some none from e)
    obtain ⟨t, e3, e4⟩ := Option.bind_eq_some_iff.mp e1
    cases t <;> first | (cases e4; done) | skip
    cases e4
    obtain ⟨q, vs, g1, g2, g3⟩ := res_prep S h1 e3
    cases g1
    exact ⟨vs, L2.SqL.of g2, by rw [← g3.length]; exact List.getElem?_eq_none_iff.mp (Option.map_eq_none_iff.mp e2)⟩
  | zp x y =>
    obtain ⟨p, q, h1, h2, h3⟩ := h
    subst h3
    simp only [turnAt] at e
    split at e
    · rename_i xs ys e1 e2
      obtain ⟨t, e3, e4⟩ := Option.bind_eq_some_iff.mp e1
      obtain ⟨u, e5, e6⟩ := Option.bind_eq_some_iff.mp e2
      cases t <;> first | (cases e4; done) | skip
      cases e4
      cases u <;> first | (cases e6; done) | skip
      cases e6
      obtain ⟨_, vs, g1, g2, g3⟩ := res_prep S h1 e3
      cases g1
      obtain ⟨_, us, k1, k2, k3⟩ := res_prep S h2 e5
      cases k1
      refine ⟨vs, us, L2.SqL.of g2, L2.SqL.of k2, ?_⟩
      have e7 := Option.some.inj e
      rw [← g3.length, ← k3.length]
      split at e7
      · cases e7
      · rename_i hno
        by_cases z1 : i < xs.length
        · by_cases z2 : i < ys.length
          · exact absurd (List.getElem?_eq_getElem z2) (hno _ _ (List.getElem?_eq_getElem z1))
          · exact .inr (Nat.le_of_not_lt z2)
        · exact .inl (Nat.le_of_not_lt z1)
    · cases e
/-- what a turn gives -/
def Gives (C : FC) (ρ : Rho) (σ : LSt) (F : FS) (H : L2.Hp) (J : L2.It) (i : Nat) (t : T) : Prop := J.go i H ∧ ∀ x H', J.yld i H x H' → ∃ F', Step C ρ σ F H ρ σ F' H' ∧ RepT C.K F' H' t x
theorem gives_new {ts : List T} (S : Sim C F ρ σ H) {p : Addr} {vs : List L2.V} (hp : H p = none) (h : Reps C.K F H ts vs) : ∃ F', Step C ρ σ F H ρ σ F' (L2.upd H p (.tup vs)) ∧ RepT C.K F' (L2.upd H p (.tup vs)) (.tup ts) (.ref p) := ⟨_, (new_t S hp h).1, (new_t S hp h).2⟩
theorem turn_item {Hs : L2.Hp} (S : Sim C F ρ σ H) {iv : Iv} {J : L2.It} {i : Nat} {t : T} (h : IvRep C σ Hs ρ F H iv J) (e : turnAt ρ i iv = some (some t)) : Gives C ρ σ F H J i t := by
  cases iv with
  | sq k o =>
    cases k with
    | true =>
      obtain ⟨p, h1, h2⟩ := h
      subst h2
      obtain ⟨xs, e1, e2⟩ := Option.map_eq_some_iff.mp (show (((res ρ o).bind listT).map fun xs => xs[i]?) = some (some t) from e)
      obtain ⟨t', e3, e4⟩ := Option.bind_eq_some_iff.mp e1
      cases t' <;> first | (cases e4; done) | skip
      cases e4
      obtain ⟨q, vs, g1, g2, g3⟩ := res_prep S h1 e3
      cases g1
      obtain ⟨v, k1, k2⟩ := g3.get e2
      refine ⟨⟨vs, v, L2.SqL.of g2, k1⟩, fun x H' y => ?_⟩
      obtain ⟨y1, y2⟩ := y
      subst y1
      have z := y2 vs (L2.SqL.of g2)
      rw [k1] at z
      cases z
      exact ⟨F, .rfl' S, k2⟩
    | false =>
      obtain ⟨p, h1, h2⟩ := h
      subst h2
      obtain ⟨xs, e1, e2⟩ := Option.map_eq_some_iff.mp (show (((res ρ o).bind tupT).map fun xs => xs[i]?) = some (some t) from e)
      obtain ⟨t', e3, e4⟩ := Option.bind_eq_some_iff.mp e1
      cases t' <;> first | (cases e4; done) | skip
      cases e4
      obtain ⟨q, vs, g1, _, g2, g3⟩ := res_prep S h1 e3
      cases g1
      obtain ⟨v, k1, k2⟩ := g3.get e2
      refine ⟨⟨vs, v, L2.SqT.of g2, k1⟩, fun x H' y => ?_⟩
      obtain ⟨y1, y2⟩ := y
      subst y1
      have z := y2 vs (L2.SqT.of g2)
      rw [k1] at z
      cases z
      exact ⟨F, .rfl' S, k2⟩
  | rg lo n =>
    have h2 : J = L2.Itr lo n := h
    subst h2
    have e1 : (if i < n then some (T.int (lo + i)) else none) = some t := Option.some.inj e
    by_cases z : i < n
    · rw [if_pos z] at e1
      cases e1
      refine ⟨z, fun x H' y => ?_⟩
      obtain ⟨y1, y2⟩ := y
      subst y1 y2
      exact ⟨F, .rfl' S, rfl⟩
    · rw [if_neg z] at e1; cases e1
  | en o =>
    obtain ⟨p, h1, h2⟩ := h
    subst h2
    obtain ⟨xs, e1, e2⟩ := Option.map_eq_some_iff.mp (show (((res ρ o).bind listT).map fun xs => (xs[i]?).map fun x => T.tup [.int i, x]) = some (some t) from e)
    obtain ⟨x0, e5, e6⟩ := Option.map_eq_some_iff.mp e2
    subst e6
    obtain ⟨t', e3, e4⟩ := Option.bind_eq_some_iff.mp e1
    cases t' <;> first | (cases e4; done) | skip
    cases e4
    obtain ⟨q, vs, g1, g2, g3⟩ := res_prep S h1 e3
    cases g1
    obtain ⟨v, k1, k2⟩ := g3.get e5
    refine ⟨⟨vs, v, L2.SqL.of g2, k1⟩, fun x H' y => ?_⟩
    obtain ⟨q, u, rfl, hq, rfl, y2⟩ := y
    have z := y2 vs (L2.SqL.of g2)
    rw [k1] at z
    cases z
    exact gives_new S hq ⟨_, _, rfl, rfl, _, _, rfl, k2, rfl⟩
  | zp x y =>
    obtain ⟨p, q, h1, h2, h3⟩ := h
    subst h3
    simp only [turnAt] at e
    split at e
    · rename_i xs ys e1 e2
      obtain ⟨t', e3, e4⟩ := Option.bind_eq_some_iff.mp e1
      obtain ⟨u', e5, e6⟩ := Option.bind_eq_some_iff.mp e2
      cases t' <;> first | (cases e4; done) | skip
      cases e4
      cases u' <;> first | (cases e6; done) | skip
      cases e6
      obtain ⟨_, vs, g1, g2, g3⟩ := res_prep S h1 e3
      cases g1
      obtain ⟨_, us, k1, k2, k3⟩ := res_prep S h2 e5
      cases k1
      have e7 := Option.some.inj e
      split at e7
      · rename_i x0 y0 f1 f2
        cases e7
        obtain ⟨v, l1, l2⟩ := g3.get f1
        obtain ⟨u, m1, m2⟩ := k3.get f2
        refine ⟨⟨vs, us, v, u, L2.SqL.of g2, L2.SqL.of k2, l1, m1⟩, fun x H' y => ?_⟩
        obtain ⟨q, a, b, rfl, hq, rfl, y2, y3⟩ := y
        have z := y2 vs (L2.SqL.of g2)
        rw [l1] at z
        cases z
        have z := y3 us (L2.SqL.of k2)
        rw [m1] at z
        cases z
        exact gives_new S hq ⟨_, _, rfl, l2, _, _, rfl, m2, rfl⟩
      · cases e7
    · cases e

/-! ### the iterator's expression -/
def OutI (G : Ga) (W : L2.WX) (C : FC) (ρ : Rho) (σ : LSt) (F : FS) (H : L2.Hp) (r : R Iv) (Q : L2.It → L2.Hp → Prop) : Prop := match r with
  | .ok iv ρ' => ∀ F' H' J, Step C ρ σ F H ρ' σ F' H' → IvRep C σ H ρ' F' H' iv J → Q J H'
  | .exc c ts ρ' => OutX G W C ρ σ F H c ts ρ'
  | .bad => False
def SI (X : L2.Cx) (G : Ga) (W : L2.WX) (C : FC) (tg e : Expr) (r : Rho → R Iv) : Prop := ∃ wi, L2.PI X tg e wi ∧ ∀ ρ F σ H Q, Sim C F ρ σ H → OutI G W C ρ σ F H (r ρ) Q → wi σ H Q
/-- a list or a tuple -/
theorem pi_seq {l : Expr} {tl : L2.TE} (hl : L2.PE X l tl) : L2.PI X tg l (fun σ H R => tl σ H fun x H1 => ∃ a, x = .ref a ∧ (((∃ xs, L2.SqL X.K H1 a xs) ∧ R (L2.Itl X.K a) H1) ∨ ((∃ xs, L2.SqT X.K H1 a xs) ∧ R (L2.Itt X.K a) H1))) := by
  refine ⟨fun pins s σ H R I h => ?_⟩
  refine L2.thn (hl.run pins s σ H _ I h) fun v s1 ⟨x, H1, I1, r1, q1⟩ => ?_
  obtain ⟨a, e, q1⟩ := q1
  subst e
  cases r1
  rcases q1 with ⟨⟨xs, hq⟩, q⟩ | ⟨⟨xs, hq⟩, q⟩
  · obtain ⟨its, rv, p, hz⟩ := I1.list hq
    refine wpAny_pyIter_list p.isList ?_
    refine ⟨s1.heap.objs.size, [s1.heap.objs.size], _, _, H1, rfl, I1.kept (t' := s1.toks) fun b o e => Heap.get?_push_of_some _ e, L2.turn_list a _, ⟨_, Heap.get?_push_size _ rfl, rfl, rfl⟩, fun b hb => ?_, q⟩
    have e : b = s1.heap.objs.size := by simpa using hb
    subst e
    exact I1.fpOk (Nat.le_refl _) (I1.hok.fresh (Nat.le_refl _))
  · obtain ⟨its, rv, p, hz⟩ := I1.tuple hq
    refine wpAny_pyIter_tuple (show s1.heap.IsTuple a its.toArray from p) ?_
    refine ⟨s1.heap.objs.size, [s1.heap.objs.size], _, _, H1, rfl, I1.kept (t' := s1.toks) fun b o e => Heap.get?_push_of_some _ e, L2.turn_tuple a _, ⟨_, Heap.get?_push_size _ rfl, rfl, rfl⟩, fun b hb => ?_, q⟩
    have e : b = s1.heap.objs.size := by simpa using hb
    subst e
    exact I1.fpOk (Nat.le_refl _) (I1.hok.fresh (Nat.le_refl _))
/-- what each kind of walk asks of its operands -/
def itR (K : PySem.W.Frag) (k : Nat) (vs : List L2.V) (H1 : L2.Hp) (R : L2.It → L2.Hp → Prop) : Prop := match k with
  | 0 => ∃ a, vs = [.ref a] ∧ (((∃ xs, L2.SqL K H1 a xs) ∧ R (L2.Itl K a) H1) ∨ ((∃ xs, L2.SqT K H1 a xs) ∧ R (L2.Itt K a) H1))
  | 1 => ∃ j : Int, vs = [.int j] ∧ -(2 ^ 62) ≤ j ∧ j < 2 ^ 62 ∧ R (L2.Itr 0 j.toNat) H1
  | 2 => ∃ i j : Int, vs = [.int i, .int j] ∧ (-(2 ^ 62) ≤ i ∧ i < 2 ^ 62 ∧ -(2 ^ 62) ≤ j ∧ j < 2 ^ 62) ∧ R (L2.Itr i (j - i).toNat) H1
  | 3 => ∃ a xs, vs = [.ref a] ∧ L2.SqL K H1 a xs ∧ R (L2.Ite K a) H1
  | 4 => ∃ a b xs ys, vs = [.ref a, .ref b] ∧ L2.SqL K H1 a xs ∧ L2.SqL K H1 b ys ∧ R (L2.Itz K a b) H1
  | _ => False
theorem opreps1 {Hs : L2.Hp} {o : Opd} {vs : List L2.V} (h : OpReps C.K σ Hs ρ F H [o] vs) : ∃ v, vs = [v] ∧ OpRep C.K σ Hs ρ F H o v := by
  obtain ⟨v, r, h1, h2, h3⟩ := h
  cases (show r = [] from h3)
  exact ⟨v, h1, h2⟩
theorem opreps2 {Hs : L2.Hp} {o p : Opd} {vs : List L2.V} (h : OpReps C.K σ Hs ρ F H [o, p] vs) : ∃ v u, vs = [v, u] ∧ OpRep C.K σ Hs ρ F H o v ∧ OpRep C.K σ Hs ρ F H p u := by
  obtain ⟨v, r, h1, h2, h3⟩ := h
  obtain ⟨u, h4, h5⟩ := opreps1 h3
  subst h4
  exact ⟨v, u, h1, h2, h5⟩
theorem iv_ok {Hs : L2.Hp} (S : Sim C F ρ σ H) {k : Nat} {os : List Opd} {iv : Iv} {vs : List L2.V} {R : L2.It → L2.Hp → Prop} (h : OpReps C.K σ Hs ρ F H os vs) (e : ivOf k ρ os = some iv) (q : ∀ J, IvRep C σ Hs ρ F H iv J → R J H) : itR C.K k vs H R := by
  unfold ivOf at e
  split at e
  · rename_i o
    obtain ⟨v, rfl, h1⟩ := opreps1 h
    split at e
    · rename_i xs e1
      cases e
      obtain ⟨p, us, rfl, g2, g3⟩ := res_prep S h1 e1
      exact ⟨p, rfl, .inl ⟨⟨us, L2.SqL.of g2⟩, q _ ⟨p, h1, rfl⟩⟩⟩
    · rename_i xs e1
      cases e
      obtain ⟨p, us, rfl, _, g2, g3⟩ := res_prep S h1 e1
      exact ⟨p, rfl, .inr ⟨⟨us, L2.SqT.of g2⟩, q _ ⟨p, h1, rfl⟩⟩⟩
    · cases e
  · rename_i o
    obtain ⟨v, rfl, h1⟩ := opreps1 h
    split at e
    · rename_i j e1
      split at e
      · rename_i hb
        cases e
        cases (show v = _ from res_prep S h1 e1)
        exact ⟨j, rfl, hb.1, hb.2, q _ rfl⟩
      · cases e
    · cases e
  · rename_i o o2
    obtain ⟨v, u, rfl, h1, h2⟩ := opreps2 h
    split at e
    · rename_i i j e1 e2
      split at e
      · rename_i hb
        cases e
        cases (show v = _ from res_prep S h1 e1)
        cases (show u = _ from res_prep S h2 e2)
        exact ⟨i, j, rfl, hb, q _ rfl⟩
      · cases e
    · cases e
  · rename_i o
    obtain ⟨v, rfl, h1⟩ := opreps1 h
    split at e
    · rename_i xs e1
      cases e
      obtain ⟨p, us, rfl, g2, g3⟩ := res_prep S h1 e1
      exact ⟨p, us, rfl, L2.SqL.of g2, q _ ⟨p, h1, rfl⟩⟩
    · cases e
  · rename_i o o2
    obtain ⟨v, u, rfl, h1, h2⟩ := opreps2 h
    split at e
    · rename_i xs ys e1 e2
      cases e
      obtain ⟨p, us, rfl, g2, g3⟩ := res_prep S h1 e1
      obtain ⟨p', us', rfl, g2', g3'⟩ := res_prep S h2 e2
      exact ⟨p, p', us, us', rfl, L2.SqL.of g2, L2.SqL.of g2', q _ ⟨p, p', h1, h2, rfl⟩⟩
    · cases e
  · cases e
theorem opreps_x {Hs : L2.Hp} : ∀ {ts : List T} {vs : List L2.V}, Reps C.K F H ts vs → OpReps C.K σ Hs ρ F H (ts.map .x) vs
  | [], _, h => h
  | t :: ts, _, h => by
    obtain ⟨v, r, h1, h2, h3⟩ := h
    exact ⟨v, r, h1, h2, opreps_x h3⟩
theorem wes_iv {cs : List Ex} {k : Nat} {Q : L2.It → L2.Hp → Prop} (h : SOs X G W C es (evOs ih cs)) (S : Sim C F ρ σ H) (out : OutI G W C ρ σ F H (evIv ih k cs ρ) Q) : WEs X es σ H fun vs H1 => itR C.K k vs H1 Q := by
  refine h ρ F σ H _ S ?_
  have o : OutI G W C ρ σ F H ((evOs ih cs ρ).bind fun os ρ => match ivOf k ρ os with
    | some iv => .ok iv ρ
    | none => .bad) Q := out
  cases q : evOs ih cs ρ with
  | exc c ts ρ' => rw [q] at o; exact o
  | bad => rw [q] at o; exact o
  | ok os ρ1 =>
    rw [q] at o
    intro F1 H1 vs st ops
    dsimp only [R.bind] at o
    cases q2 : ivOf k ρ1 os with
    | none => rw [q2] at o; exact o.elim
    | some iv =>
      rw [q2] at o
      exact iv_ok st.sim ops q2 fun J j => o F1 H1 J st j
theorem wes_if {cs : List Ex} {k : Nat} {Q : L2.It → L2.Hp → Prop} (h : SOs X G W C es (evOs ih cs)) (S : Sim C F ρ σ H) (out : OutI G W C ρ σ F H (evIf ih k cs ρ) Q) : WEs X es σ H fun vs H1 => itR C.K k vs H1 Q := by
  refine h ρ F σ H _ S ?_
  have o : OutI G W C ρ σ F H ((evOs ih cs ρ).bind fun os ρ => match frzs ρ os with
    | some (ts, ρ) => match ivOf k ρ (ts.map .x) with
      | some iv => .ok iv ρ
      | none => .bad
    | none => .bad) Q := out
  cases q : evOs ih cs ρ with
  | exc c ts ρ' => rw [q] at o; exact o
  | bad => rw [q] at o; exact o
  | ok os ρ1 =>
    rw [q] at o
    intro F1 H1 vs st ops
    dsimp only [R.bind] at o
    cases q2 : frzs ρ1 os with
    | none => rw [q2] at o; exact o.elim
    | some pr =>
      obtain ⟨ts, ρ2⟩ := pr
      rw [q2] at o
      dsimp only at o
      obtain ⟨F2, st2, _, rs⟩ := frzs_ok S st ops q2
      cases q3 : ivOf k ρ2 (ts.map .x) with
      | none => rw [q3] at o; exact o.elim
      | some iv =>
        rw [q3] at o
        exact iv_ok (Hs := H) st2.sim (opreps_x rs) q3 fun J j => o F2 H1 J st2 j
/-- an iterator's expression: its kind, its operands -/
inductive ItE (X : L2.Cx) : Expr → Expr → Nat → List Expr → Prop where
  | seq {t0 e0 : Expr} : ItE X t0 e0 0 [e0]
  | rg1 {t0 : Expr} {p pos : Pos} {a : Expr} (hB : BtOk X "range") : ItE X t0 (.Call (.Name "range" p) [a] [] pos) 1 [a]
  | rg2 {t0 : Expr} {p pos : Pos} {a b : Expr} (hB : BtOk X "range") : ItE X t0 (.Call (.Name "range" p) [a, b] [] pos) 2 [a, b]
  | en {p pos tpos : Pos} {a : Expr} {ts : List Expr} {kk : Nat} (hB : BtOk X "enumerate") : ItE X (.Tuple ts kk tpos) (.Call (.Name "enumerate" p) [a] [] pos) 3 [a]
  | zp {p pos tpos : Pos} {a b : Expr} {ts : List Expr} {kk : Nat} (hB : BtOk X "zip") : ItE X (.Tuple ts kk tpos) (.Call (.Name "zip" p) [a, b] [] pos) 4 [a, b]
theorem star_all {es : List Expr} {env : PySem.Env} : es.all (fun e => !isStar e) = true → starEach es env = es.map fun e => (false, eval e env) := by
  induction es with
  | nil => intro _; rfl
  | cons e es ih =>
    intro h
    have h1 : (!isStar e && es.all fun e => !isStar e) = true := h
    rw [Bool.and_eq_true, Bool.not_eq_true'] at h1
    rw [star_cons h1.1, ih h1.2]
    rfl
theorem pi_of {k : Nat} (h : ItE X tg e k es) (hs : es.all (fun e => !isStar e) = true) : L2.PI X tg e (fun σ H Q => WEs X es σ H fun vs H1 => itR X.K k vs H1 Q) := by
  cases h with
  | seq =>
    have p := pi_seq (X := X) (tg := tg) (l := e) pe_we
    refine ⟨fun pins s σ H R I h => p.run pins s σ H R I ?_⟩
    refine WE.mono h fun v H1 q => ?_
    obtain ⟨a, e1, q⟩ := q
    cases e1
    exact ⟨a, rfl, q⟩
  | rg1 hB => exact L2.pi_range1 hB.1 hB.2 (pa_wes hs) (star_all hs)
  | @rg2 _ p pos a b hB =>
    refine L2.pi_range2 hB.1 hB.2 (pa_wes hs) (star_all hs) (star_all ?_)
    rw [List.all_cons, Bool.and_eq_true] at hs
    exact hs.2
  | en hB => exact L2.pi_enum hB.1 hB.2 (pa_wes hs) (star_all hs)
  | @zp p pos tpos a b ts kk hB =>
    have hs2 := hs
    rw [List.all_cons, Bool.and_eq_true] at hs2
    refine L2.pi_zip hB.1 hB.2 (pa_wes hs) ?_ (star_plain hs2.2)
    exact star_cons (by simpa using hs2.1)
theorem si_iv {cs : List Ex} {k : Nat} (hK : X.K = C.K) (hI : ItE X tg e k es) (hs : es.all (fun e => !isStar e) = true) (h : SOs X G W C es (evOs ih cs)) : SI X G W C tg e (evIv ih k cs) :=
  ⟨_, pi_of hI hs, fun ρ F σ H Q S o => by
    show WEs X es σ H fun vs H1 => itR X.K k vs H1 Q
    rw [hK]
    exact wes_iv h S o⟩
theorem si_if {cs : List Ex} {k : Nat} (hK : X.K = C.K) (hI : ItE X tg e k es) (hs : es.all (fun e => !isStar e) = true) (h : SOs X G W C es (evOs ih cs)) : SI X G W C tg e (evIf ih k cs) :=
  ⟨_, pi_of hI hs, fun ρ F σ H Q S o => by
    show WEs X es σ H fun vs H1 => itR X.K k vs H1 Q
    rw [hK]
    exact wes_if h S o⟩
end
end PV

set_option Elab.async false
set_option linter.all false
set_option maxRecDepth 100000
set_option maxHeartbeats 1000000
/-! PV, soundness 12: if, while, for; targets. -/
namespace PV
open PySem PySem.Spec PyProof.Rows
section
variable {X : L2.Cx} {G : Ga} {W : L2.WX} {C : FC} {ρ ρ' : Rho} {σ σ' : LSt} {F F' : FS} {H H' : L2.Hp} {e a b c tg iter : Expr} {es rest : List Expr} {pos p : Pos} {ih : Ex → Rho → R A} {ce ca cb cc : Ex} {st : Stmt} {sts ss1 ss2 : List Stmt}
theorem ss_if {r1 r2 : Rho → RS} (hc : SB X G W C c (evB ih cc)) (h1 : SSs X G W C ss1 r1) (h2 : SSs X G W C ss2 r2) : SS1 X G W C (.If c ss1 ss2 pos) (fun ρ => RS.of (evB ih cc ρ) fun x ρ => match x with
    | true => r1 ρ
    | false => r2 ρ) := by
  intro ρ F σ H D S o
  refine ws_of (L2.ps_if pt_wt pss_wss pss_wss) ?_
  refine hc ρ F σ H _ S (outB_of_rs o fun x ρ1 o1 F1 H1 s1 => ?_)
  cases x with
  | true => rw [if_pos rfl]; exact h1 ρ1 F1 σ H1 D s1.sim (OutS.later s1 o1)
  | false => rw [if_neg Bool.false_ne_true]; exact h2 ρ1 F1 σ H1 D s1.sim (OutS.later s1 o1)
theorem ss_while {r1 : Rho → RS} {L : Nat} (hp : PassesOwn (model X.prog X.w) X.A X.env X.xe) (hc : SB X G W C c (evB ih cc)) (h1 : SSs X G W C ss1 r1) : SS1 X G W C (.While c ss1 [] pos) (fun ρ => whlL (evB ih cc) r1 L ρ) := by
  intro ρ F σ H D S o
  refine ws_of (L2.ps_while hp pt_wt pss_wss) ?_
  refine ⟨fun m σ H => ∃ ρ F, Sim C F ρ σ H ∧ OutS G W C ρ σ F H (whlL (evB ih cc) r1 m ρ) D, ⟨L, ρ, F, S, o⟩, ?_⟩
  rintro m σ1 H1 ⟨ρ1, F1, S1, o1⟩
  cases m with
  | zero => exact o1.elim
  | succ m =>
    have o2 : OutS G W C ρ1 σ1 F1 H1 (RS.of (evB ih cc ρ1) fun b ρ => match b with
      | false => .nx ρ
      | true => match r1 ρ with
        | .nx ρ => whlL (evB ih cc) r1 m ρ
        | .ct ρ => whlL (evB ih cc) r1 m ρ
        | .bk ρ => .nx ρ
        | r => r) D := o1
    refine hc ρ1 F1 σ1 H1 _ S1 (outB_of_rs o2 fun x ρ2 o3 F2 H2 s2 => ?_)
    cases x with
    | false => rw [if_neg Bool.false_ne_true]; exact o3 σ1 F2 H2 s2
    | true =>
      rw [if_pos rfl]
      refine ⟨fun σ' H' => ∃ ρ F, Sim C F ρ σ' H' ∧ OutS G W C ρ σ' F H' (whlL (evB ih cc) r1 m ρ) D, fun σ' H' w => ⟨m, Nat.lt_succ_self m, w⟩, ?_⟩
      refine h1 ρ2 F2 σ1 H2 _ s2.sim ?_
      have o4 := OutS.later s2 o3
      dsimp only at o4
      cases q : r1 ρ2 with
      | nx ρ3 => rw [q] at o4; exact fun σ' F' H' s => ⟨ρ3, F', s.sim, OutS.later s o4⟩
      | ct ρ3 => rw [q] at o4; exact fun σ' F' H' s => ⟨ρ3, F', s.sim, OutS.later s o4⟩
      | bk ρ3 => rw [q] at o4; exact o4
      | rt a ρ3 => rw [q] at o4; exact o4
      | exc c ts ρ3 => rw [q] at o4; exact o4
      | bad => rw [q] at o4; exact o4

/-! ### targets -/
def Same (tgs : List Nat) (σ σ' : LSt) : Prop := σ'.length = σ.length ∧ ∀ j, j ∉ tgs → σ'[j]? = σ[j]?
theorem Same.rfl' {tgs : List Nat} : Same tgs σ σ := ⟨rfl, fun _ _ => rfl⟩
theorem Same.set {tgs : List Nat} {i : Nat} {ov : Option L2.V} (hi : i ∈ tgs) (h : Same tgs σ σ') : Same tgs σ (σ'.set i ov) := ⟨by rw [List.length_set]; exact h.1, fun j hj => by
  rw [List.getElem?_set_ne (fun z : i = j => hj (z ▸ hi))]
  exact h.2 j hj⟩
/-- a target's code -/
def SGr (C : FC) (tgs : List Nat) (f : T → Rho → Option Rho) (g : L2.TG) : Prop := ∀ ρ F σ H t v ρ' (Q : LSt → L2.Hp → Prop), Sim C F ρ σ H → RepT C.K F H t v → f t ρ = some ρ' → (∀ σ', Same tgs σ σ' → Step C ρ σ F H ρ' σ' F H → Q σ' H) → g v σ H Q
def SG (X : L2.Cx) (C : FC) (tg : Expr) (tgs : List Nat) (f : T → Rho → Option Rho) : Prop := ∃ g, L2.PG X tg g ∧ SGr C tgs f g
theorem sgr_name {i : Nat} : SGr C [i] (bindTo [i] false) (L2.gName i) := by
  intro ρ F σ H t v ρ' Q S r e q
  cases e
  exact q _ (Same.set (List.mem_singleton.mpr rfl) .rfl') ((Step.rfl' S).put r)
theorem sg_name {i : Nat} {x : Str} (h : StoreOk X i x) : SG X C (.Name x pos) [i] (bindTo [i] false) := ⟨_, L2.pg_name h.1 h.2.1 h.2.2.1 h.2.2.2, sgr_name⟩
inductive NmTs (X : L2.Cx) : List Expr → List Nat → Prop where
  | nil : NmTs X [] []
  | cons {i : Nat} {x : Str} {p : Pos} {es : List Expr} {is : List Nat} (h : StoreOk X i x) (r : NmTs X es is) : NmTs X (.Name x p :: es) (i :: is)
def gNames (is : List Nat) : L2.TGs := match is with
  | [] => L2.gNil
  | i :: is => L2.gCons (L2.gName i) (gNames is)
theorem pgs_names {is : List Nat} (h : NmTs X es is) : L2.PGs X es (gNames is) := by
  induction h with
  | nil => exact L2.pgs_nil
  | cons h r ih => exact L2.pgs_cons (L2.pg_name h.1 h.2.1 h.2.2.1 h.2.2.2) ih
theorem names_len {is : List Nat} (h : NmTs X es is) : (assignEach es X.env).length = is.length ∧ (assignEach es X.env).findIdx? (·.1) = none := by
  induction h with
  | nil => exact ⟨rfl, rfl⟩
  | @cons i x p es is h r ih =>
    refine ⟨congrArg Nat.succ ih.1, ?_⟩
    show (List.findIdx? (·.1) ((false, assign (.Name x p) X.env) :: assignEach es X.env)) = none
    rw [List.findIdx?_cons, ih.2]
    rfl
theorem names_run (tgs : List Nat) : ∀ {is : List Nat} {ts : List T} {ρ ρ' : Rho} {σ : LSt} {vs : List L2.V} {Q : LSt → L2.Hp → Prop}, (∀ i ∈ is, i ∈ tgs) → Sim C F ρ σ H → Reps C.K F H ts vs → setAll is ts ρ = some ρ' → (∀ σ', Same tgs σ σ' → Step C ρ σ F H ρ' σ' F H → Q σ' H) → gNames is vs σ H Q
  | [], [], ρ, ρ', σ, vs, Q, hi, S, r, e, q => by
    cases e
    exact ⟨r, q σ .rfl' (.rfl' S)⟩
  | [], _ :: _, ρ, ρ', σ, vs, Q, hi, S, r, e, q => by cases e
  | _ :: _, [], ρ, ρ', σ, vs, Q, hi, S, r, e, q => by cases e
  | i :: is, t :: ts, ρ, ρ', σ, vs, Q, hi, S, r, e, q => by
    obtain ⟨v, us, rfl, h1, h2⟩ := r
    have st := (Step.rfl' S).put (i := i) h1
    refine ⟨v, us, rfl, ?_⟩
    show gNames is us (σ.set i (some v)) H Q
    refine names_run tgs (fun j hj => hi j (List.mem_cons_of_mem _ hj)) st.sim h2 e fun σ' sm st' => q σ' ?_ (st.trans st')
    have s1 : Same tgs σ (σ.set i (some v)) := Same.set (hi i List.mem_cons_self) .rfl'
    exact ⟨sm.1.trans s1.1, fun j hj => (sm.2 j hj).trans (s1.2 j hj)⟩
theorem setAll_len : ∀ {is : List Nat} {ts : List T} {ρ ρ' : Rho}, setAll is ts ρ = some ρ' → ts.length = is.length
  | [], [], _, _, _ => rfl
  | [], _ :: _, _, _, e => by cases e
  | _ :: _, [], _, _, e => by cases e
  | i :: is, t :: ts, _, _, e => congrArg Nat.succ (setAll_len (is := is) (ts := ts) e)
theorem sgr_tup {is : List Nat} : SGr C is (bindTo is true) (L2.gTup C.K is.length (gNames is)) := by
  intro ρ F σ H t v ρ' Q S r e q
  cases t with
  | tup ts =>
    obtain ⟨p, vs, rfl, hF, h2, h3⟩ := r
    have e1 : setAll is ts ρ = some ρ' := e
    refine ⟨p, vs, rfl, L2.SqT.of h2, ?_, names_run is (fun _ z => z) S h3 e1 q⟩
    rw [← h3.length]
    exact setAll_len e1
  | _ => cases e
theorem sg_tup {is : List Nat} {k : Nat} (hK : X.K = C.K) (hc : X.calm = true) (h : NmTs X es is) : SG X C (.Tuple es k pos) is (bindTo is true) := by
  refine ⟨_, L2.pg_tup hc (pgs_names h) (names_len h).1 (names_len h).2, ?_⟩
  rw [hK]
  exact sgr_tup
/-! ### for -/
def FreeIv (r : Rho → R Iv) : Prop := ∀ ρ iv ρ', r ρ = .ok iv ρ' → ivSlots iv = []
theorem evIf_free {k : Nat} {cs : List Ex} : FreeIv (evIf ih k cs) := by
  intro ρ iv ρ' h
  unfold evIf at h
  cases q : evOs ih cs ρ with
  | exc c ts r => rw [q] at h; cases h
  | bad => rw [q] at h; cases h
  | ok os ρ1 =>
    rw [q] at h
    dsimp only [R.bind] at h
    cases q2 : frzs ρ1 os with
    | none => rw [q2] at h; cases h
    | some pr =>
      obtain ⟨ts, ρ2⟩ := pr
      rw [q2] at h
      dsimp only at h
      cases q3 : ivOf k ρ2 (ts.map .x) with
      | none => rw [q3] at h; cases h
      | some iv' =>
        rw [q3] at h
        cases h
        have key : ∀ {os : List Opd}, (∀ o ∈ os, ∃ t, o = .x t) → ivOf k ρ' os = some iv → ivSlots iv = [] := by
          intro os ho e
          unfold ivOf at e
          split at e
          · rename_i o
            obtain ⟨t, rfl⟩ := ho o List.mem_cons_self
            split at e <;> first | (cases e; rfl) | cases e
          · split at e
            · split at e <;> first | (cases e; rfl) | cases e
            · cases e
          · split at e
            · split at e <;> first | (cases e; rfl) | cases e
            · cases e
          · rename_i o
            obtain ⟨t, rfl⟩ := ho o List.mem_cons_self
            split at e <;> first | (cases e; rfl) | cases e
          · rename_i o o2
            obtain ⟨t, rfl⟩ := ho o List.mem_cons_self
            obtain ⟨t2, rfl⟩ := ho o2 (List.mem_cons_of_mem _ List.mem_cons_self)
            split at e <;> first | (cases e; rfl) | cases e
          · cases e
        refine key (fun o hm => ?_) q3
        obtain ⟨t, _, e⟩ := List.mem_map.mp hm
        exact ⟨t, e.symm⟩
def noSetE : Expr → Bool
  | .Set .. => false
  | _ => true
theorem noSet_ok (h : noSetE iter = true) : ∀ x, foldedSetIterable iter X.env x = pure x := by
  intro x
  cases iter <;> first | (cases h; done) | rfl
theorem outI_of_rs {r : R Iv} {f : Iv → Rho → RS} {D : L2.Ends} {Q : L2.It → L2.Hp → Prop} (h : OutS G W C ρ σ F H (RS.of r f) D) (k : ∀ a ρ', r = .ok a ρ' → OutS G W C ρ σ F H (f a ρ') D → ∀ F' H' J, Step C ρ σ F H ρ' σ F' H' → IvRep C σ H ρ' F' H' a J → Q J H') : OutI G W C ρ σ F H r Q := by
  cases r with
  | ok a ρ' => exact k a ρ' rfl h
  | exc c ts ρ' => exact fun F' H' cv d s x => h σ F' H' cv d s x
  | bad => exact h
theorem ss_for {r1 : Rho → RS} {ri : Rho → R Iv} {L : Nat} {tgs : List Nat} {tp : Bool} (hp : PassesOwn (model X.prog X.w) X.A X.env X.xe) (hc : X.calm = true) (hf : FreeIv ri) (hs : noSetE iter = true) (hi : SI X G W C tg iter ri) (ht : SG X C tg tgs (bindTo tgs tp)) (h1 : SSs X G W C ss1 r1) :
    SS1 X G W C (.For tg iter ss1 [] pos) (fun ρ => RS.of (ri ρ) fun iv ρ => forL (forTurn tgs tp r1) iv L 0 ρ) := by
  intro ρ F σ H D S o
  obtain ⟨wi, pi, fi⟩ := hi
  obtain ⟨g, pg, fg⟩ := ht
  refine ws_of (L2.ps_for hp hc pi pg pss_wss (noSet_ok hs)) ?_
  refine fi ρ F σ H _ S (outI_of_rs o fun iv ρ0 hiv o1 F0 H0 J s0 j0 => ?_)
  have hfr := hf ρ iv ρ0 hiv
  refine ⟨fun i m σ1 H1 => ∃ ρ1 F1, Sim C F1 ρ1 σ1 H1 ∧ IvRep C σ1 H ρ1 F1 H1 iv J ∧ OutS G W C ρ1 σ1 F1 H1 (forL (forTurn tgs tp r1) iv m i ρ1) D, ⟨L, ρ0, F0, s0.sim, j0, OutS.later s0 o1⟩, ?_⟩
  rintro i m σ1 H1 ⟨ρ1, F1, S1, j1, o2⟩
  cases m with
  | zero => exact o2.elim
  | succ m =>
    have o3 : OutS G W C ρ1 σ1 F1 H1 (match turnAt ρ1 i iv with
      | none => .bad
      | some none => .nx ρ1
      | some (some t) => match forTurn tgs tp r1 t ρ1 with
        | .nx ρ => forL (forTurn tgs tp r1) iv m (i + 1) ρ
        | .ct ρ => forL (forTurn tgs tp r1) iv m (i + 1) ρ
        | .bk ρ => .nx ρ
        | r => r) D := o2
    cases q : turnAt ρ1 i iv with
    | none => rw [q] at o3; exact o3.elim
    | some ot =>
      cases ot with
      | none =>
        rw [q] at o3
        exact .inl ⟨turn_end S1 j1 q, o3 σ1 F1 H1 (.rfl' S1)⟩
      | some t =>
        rw [q] at o3
        dsimp only at o3
        obtain ⟨g1, g2⟩ := turn_item S1 j1 q
        refine .inr ⟨g1, fun σ' H' => ∃ ρ2 F2, Sim C F2 ρ2 σ' H' ∧ IvRep C σ' H ρ2 F2 H' iv J ∧ OutS G W C ρ2 σ' F2 H' (forL (forTurn tgs tp r1) iv m (i + 1) ρ2) D, fun σ' H' w => ⟨m, Nat.lt_succ_self m, w⟩, fun x H' y => ?_⟩
        obtain ⟨F2, s2, r2⟩ := g2 x H' y
        unfold forTurn at o3
        cases q2 : bindTo tgs tp t ρ1 with
        | none => rw [q2] at o3; exact o3.elim
        | some ρ2 =>
          rw [q2] at o3
          dsimp only at o3
          refine fg ρ1 F2 σ1 H' t x ρ2 _ s2.sim r2 q2 fun σ2 _ s3 => ?_
          have sx := s2.trans s3
          have jx : IvRep C σ2 H ρ2 F2 H' iv J := j1.steps S1 sx (by rw [hfr]; exact fun i hi => absurd hi (by simp))
          refine h1 ρ2 F2 σ2 H' _ s3.sim ?_
          have o4 := OutS.later sx o3
          cases q3 : r1 ρ2 with
          | nx ρ3 => rw [q3] at o4; exact fun σ' F' H' s => ⟨ρ3, F', s.sim, jx.steps s3.sim s (by rw [hfr]; exact fun i hi => absurd hi (by simp)), OutS.later s o4⟩
          | ct ρ3 => rw [q3] at o4; exact fun σ' F' H' s => ⟨ρ3, F', s.sim, jx.steps s3.sim s (by rw [hfr]; exact fun i hi => absurd hi (by simp)), OutS.later s o4⟩
          | bk ρ3 => rw [q3] at o4; exact o4
          | rt a ρ3 => rw [q3] at o4; exact o4
          | exc c ts ρ3 => rw [q3] at o4; exact o4
          | bad => rw [q3] at o4; exact o4
end
end PV

set_option Elab.async false
set_option linter.all false
set_option maxRecDepth 100000
set_option maxHeartbeats 1000000
/-! PV, soundness 13: comprehensions. -/
namespace PV
open PySem PySem.Spec PyProof.Rows
section
variable {X : L2.Cx} {G : Ga} {W : L2.WX} {C : FC} {ρ ρ' ρ0 ρ1 : Rho} {σ σ' : LSt} {F F' F0 F1 : FS} {H H' H0 H1 : L2.Hp} {e a b c tg iter elt : Expr} {es rest : List Expr} {pos p : Pos} {ih : Ex → Rho → R A} {ce ca cb cc : Ex} {vs : List Nat}
theorem Step.wipes {ρs : Rho} {σs : LSt} {Fs : FS} {Hs : L2.Hp} (st : Step C ρs σs Fs Hs ρ σ F H) : ∀ vs : List Nat, Step C ρs σs Fs Hs (wipeE ρ vs) (L2.wipe σ vs) F H
  | [] => st
  | v :: vs => (Step.wipes st vs).wipe
theorem wipe_out {j : Nat} : ∀ {vs : List Nat}, j ∉ vs → (L2.wipe σ vs)[j]? = σ[j]?
  | [], _ => rfl
  | v :: vs, h => by
    unfold L2.wipe
    rw [List.mem_cons, not_or] at h
    rw [List.getElem?_set_ne (fun z : v = j => h.1 z.symm)]
    exact wipe_out h.2
theorem wipe_in {j : Nat} : ∀ {vs : List Nat}, j ∈ vs → j < σ.length → (L2.wipe σ vs)[j]? = some none
  | v :: vs, h, hl => by
    unfold L2.wipe
    by_cases z : v = j
    · subst z
      rw [List.getElem?_set_self (by rw [L2.wipe_length]; exact hl)]
    · rw [List.getElem?_set_ne z]
      exact wipe_in ((List.mem_cons.mp h).resolve_left fun e => z e.symm) hl
theorem wipeE_out {j : Nat} : ∀ {vs : List Nat}, j ∉ vs → (wipeE ρ vs)[j]? = ρ[j]?
  | [], _ => rfl
  | v :: vs, h => by
    unfold wipeE
    rw [List.mem_cons, not_or] at h
    rw [List.getElem?_set_ne (fun z : v = j => h.1 z.symm)]
    exact wipeE_out h.2
theorem wipeE_length (ρ : Rho) : ∀ vs : List Nat, (wipeE ρ vs).length = ρ.length
  | [] => rfl
  | v :: vs => by unfold wipeE; rw [List.length_set, wipeE_length ρ vs]
theorem wipe_same {tgs : List Nat} (h : ∀ i ∈ tgs, i ∈ vs) (s : Same tgs (L2.wipe σ vs) σ') : L2.wipe σ' vs = L2.wipe σ vs := by
  have hl : σ'.length = σ.length := by rw [s.1, L2.wipe_length]
  apply List.ext_getElem?
  intro j
  by_cases hj : j ∈ vs
  · by_cases hb : j < σ.length
    · rw [wipe_in hj hb, wipe_in hj (by rw [hl]; exact hb)]
    · rw [List.getElem?_eq_none (by rw [L2.wipe_length, hl]; omega), List.getElem?_eq_none (by rw [L2.wipe_length]; omega)]
  · rw [wipe_out hj, s.2 j (fun z => hj (h j z))]
theorem backE_length (ρ0 ρ : Rho) : ∀ vs : List Nat, (backE ρ0 ρ vs).length = ρ.length
  | [] => rfl
  | v :: vs => by unfold backE; rw [List.length_set, backE_length ρ0 ρ vs]
theorem backE_out {j : Nat} : ∀ {vs : List Nat}, j ∉ vs → (backE ρ0 ρ vs)[j]? = ρ[j]?
  | [], _ => rfl
  | v :: vs, h => by
    unfold backE
    rw [List.mem_cons, not_or] at h
    rw [List.getElem?_set_ne (fun z : v = j => h.1 z.symm)]
    exact backE_out h.2
theorem backE_in {j : Nat} : ∀ {vs : List Nat}, j ∈ vs → j < ρ.length → (backE ρ0 ρ vs)[j]? = some ((ρ0[j]?).getD .u)
  | v :: vs, h, hl => by
    unfold backE
    by_cases z : v = j
    · subst z
      rw [List.getElem?_set_self (by rw [backE_length]; exact hl)]
    · rw [List.getElem?_set_ne z]
      exact backE_in ((List.mem_cons.mp h).resolve_left fun e => z e.symm) hl
theorem plainSl_at (h : plainSl vs ρ = true) {j : Nat} (hj : j ∈ vs) : (∀ k xs, ρ[j]? ≠ some (.o k xs)) ∧ ∀ xs, ρ[j]? ≠ some (.b xs) := by
  have q := List.all_eq_true.mp h j hj
  refine ⟨fun k xs e => ?_, fun xs e => ?_⟩
  · rw [e] at q; cases q
  · rw [e] at q; cases q
theorem own_wiped {q : Addr} (hp : plainSl vs ρ = true) : Own (wipeE ρ vs) (L2.wipe σ vs) q ↔ Own ρ σ q := by
  constructor
  · rintro ⟨j, k, xs, h1, h2⟩
    by_cases hj : j ∈ vs
    · by_cases hb : j < σ.length
      · rw [wipe_in hj hb] at h2; cases h2
      · rw [List.getElem?_eq_none (by rw [L2.wipe_length]; omega)] at h2; cases h2
    · rw [wipeE_out hj] at h1
      rw [wipe_out hj] at h2
      exact ⟨j, k, xs, h1, h2⟩
  · rintro ⟨j, k, xs, h1, h2⟩
    have hj : j ∉ vs := fun z => (plainSl_at hp z).1 k xs h1
    exact ⟨j, k, xs, by rw [wipeE_out hj]; exact h1, by rw [wipe_out hj]; exact h2⟩
/-- behind a comprehension: its own slots are as they were -/
theorem Step.back (S : Sim C F0 ρ0 σ H0) (hp : plainSl vs ρ0 = true) (st : Step C (wipeE ρ0 vs) (L2.wipe σ vs) F0 H0 ρ1 (L2.wipe σ vs) F1 H1) : Step C ρ0 σ F0 H0 (backE ρ0 ρ1 vs) σ F1 H1 := by
  have hl : ρ1.length = σ.length := by rw [st.sim.len, L2.wipe_length]
  have own1 : ∀ q, Own (backE ρ0 ρ1 vs) σ q → Own ρ1 (L2.wipe σ vs) q := by
    rintro q ⟨j, k, xs, h1, h2⟩
    by_cases hj : j ∈ vs
    · have hb : j < ρ1.length := by
        have := (List.getElem?_eq_some_iff.mp h1).1
        rw [backE_length] at this
        exact this
      rw [backE_in hj hb] at h1
      cases z : ρ0[j]? with
      | none => rw [z] at h1; cases h1
      | some s =>
        rw [z] at h1
        exact absurd (z.trans h1) ((plainSl_at hp hj).1 k xs)
    · rw [backE_out hj] at h1
      exact ⟨j, k, xs, h1, by rw [wipe_out hj]; exact h2⟩
  have ext := st.ext (Step.wipes (Step.rfl' S) vs).sim
  refine ⟨st.sub, fun q o h1 h2 => st.keep q o h1 fun z => h2 ((own_wiped hp).mp z), fun q h => ?_, fun q h => ?_, st.there, ?_⟩
  · rcases st.new q h with z | z | z
    · exact .inl z
    · exact .inr (.inl z)
    · exact .inr (.inr ((own_wiped hp).mp z))
  · rcases st.own q (own1 q h) with z | z
    · exact .inl ((own_wiped hp).mp z)
    · exact .inr z
  · have T1 := st.sim
    refine ⟨by rw [backE_length]; exact hl, fun j s hs => ?_, fun i j k l xs ys q h1 h2 h3 h4 => ?_, T1.frz, T1.frN, T1.out, T1.sub, T1.mF, T1.dom⟩
    · have hb : j < ρ1.length := by
        have := (List.getElem?_eq_some_iff.mp hs).1
        rw [backE_length] at this
        exact this
      by_cases hj : j ∈ vs
      · rw [backE_in hj hb] at hs
        cases z : ρ0[j]? with
        | none =>
          rw [z] at hs
          cases hs
          trivial
        | some s0 =>
          rw [z] at hs
          cases hs
          have q := S.sl j _ z
          cases s0 with
          | u => trivial
          | v t =>
            obtain ⟨v, q1, q2⟩ := q
            exact ⟨v, q1, RepT.mono ext t v q2⟩
          | o k xs => exact absurd z ((plainSl_at hp hj).1 k xs)
          | b xs => exact absurd z ((plainSl_at hp hj).2 xs)
      · rw [backE_out hj] at hs
        have q := T1.sl j s hs
        rw [List.getD_eq_getElem?_getD, wipe_out hj, ← List.getD_eq_getElem?_getD] at q
        exact q
    · have nin : ∀ {j : Nat} {k : Bool} {xs : List T}, (backE ρ0 ρ1 vs)[j]? = some (.o k xs) → j ∉ vs ∧ ρ1[j]? = some (.o k xs) := fun {j k xs} h => by
        have hb : j < ρ1.length := by
          have := (List.getElem?_eq_some_iff.mp h).1
          rw [backE_length] at this
          exact this
        by_cases hj : j ∈ vs
        · rw [backE_in hj hb] at h
          cases z : ρ0[j]? with
          | none => rw [z] at h; cases h
          | some s =>
            rw [z] at h
            exact absurd (z.trans h) ((plainSl_at hp hj).1 k xs)
        · rw [backE_out hj] at h
          exact ⟨hj, h⟩
      obtain ⟨n1, f1⟩ := nin h1
      obtain ⟨n2, f2⟩ := nin h2
      exact T1.dis i j k l xs ys q f1 f2 (by rw [wipe_out n1]; exact h3) (by rw [wipe_out n2]; exact h4)
/-- a list that nobody holds is written -/
theorem Step.poke {ρs : Rho} {σs : LSt} {Fs : FS} {Hs : L2.Hp} (st : Step C ρs σs Fs Hs ρ σ F H) {D : Addr} {ws : List L2.V} (h0 : Hs D = none) (hC : C.H0 D = none) (h2 : ¬ F D) (h3 : ¬ Own ρ σ D) : Step C ρs σs Fs Hs ρ σ F (L2.upd H D (.lst ws)) ∧ Ext F H F (L2.upd H D (.lst ws)) := by
  have ne : ∀ q, q ≠ D → L2.upd H D (.lst ws) q = H q := fun q n => L2.upd_ne n
  have ex : Ext F H F (L2.upd H D (.lst ws)) := ⟨fun q z => z, fun q o z1 z2 => by rw [ne q (fun z => h2 (z ▸ z1))]; exact z2⟩
  refine ⟨⟨st.sub, fun q o z1 z2 => ?_, st.new, st.own, fun q z => upd_there (st.there q z), ?_⟩, ex⟩
  · rw [ne q]
    · exact st.keep q o z1 z2
    · rintro rfl
      rw [h0] at z1; cases z1
  · refine st.sim.move ex (fun q z => upd_there (st.sim.frz q z)) st.sim.frN (fun q o z1 z2 => ?_) (fun q z => upd_there (st.sim.dom q z)) fun q z => ⟨ne q ?_, fun z2 => st.sim.nown z2 z⟩
    · rw [ne q]
      · exact st.sim.out q o z1 z2
      · rintro rfl
        rw [hC] at z1; cases z1
    · rintro rfl
      exact h3 z
end
end PV

set_option Elab.async false
set_option linter.all false
set_option maxRecDepth 100000
set_option maxHeartbeats 1000000
/-! PV, soundness 14: comprehensions. -/
namespace PV
open PySem PySem.Spec PyProof.Rows
abbrev W0 : L2.WX := fun _ _ _ _ => False
section
variable {X : L2.Cx} {G : Ga} {W : L2.WX} {C : FC} {ρ ρ' ρ0 ρ1 : Rho} {σ σ' : LSt} {F F' F0 F1 : FS} {H H' H0 H1 : L2.Hp} {e a b c tg iter elt : Expr} {es rest : List Expr} {pos p : Pos} {ih : Ex → Rho → R A} {ce ca cb cc ct : Ex} {vs : List Nat} {scope : Scope} {own : List (Str × Nat)}
/-- a claim about every block context -/
def InBlk (X : L2.Cx) (scope : Scope) (φ : L2.Cx → Prop) : Prop := ∀ (s : Shared) (H : L2.Hp) (Cc : Addr) (cl : List (Str × Addr)) (fp : List Addr), φ (X.blk s H scope (compEnvC scope cl Cc X.env) fp)
theorem opF_of {Q : L2.VK} (S : Sim C F ρ σ H) {y : T} {ρ2 : Rho} (h : evF ih ct ρ = .ok y ρ2) (q : ∀ F' H' v, Step C ρ σ F H ρ2 σ F' H' → RepT C.K F' H' y v → Q v H') : OutO G W C ρ σ F H (evO ih ct ρ) Q := by
  have h0 : ((evO ih ct ρ).bind fun o ρ => match frz ρ o with
      | some (t, ρ) => (.ok t ρ : R T)
      | none => .bad) = .ok y ρ2 := h
  cases q0 : evO ih ct ρ with
  | exc c ts ρ' => rw [q0] at h0; cases h0
  | bad => rw [q0] at h0; cases h0
  | ok o ρ1 =>
    rw [q0] at h0
    intro F1 H1 v st op
    dsimp only [R.bind] at h0
    cases q2 : frz ρ1 o with
    | none => rw [q2] at h0; cases h0
    | some pr =>
      obtain ⟨t, ρ2'⟩ := pr
      rw [q2] at h0
      cases h0
      obtain ⟨F2, st2, _, rep, _⟩ := frz_ok S st op q2
      exact q F2 H1 v st2 rep
theorem opB_of {Q : Bool → L2.Hp → Prop} {k : Bool} {ρ2 : Rho} (h : evB ih ct ρ = .ok k ρ2) (q : ∀ F' H', Step C ρ σ F H ρ2 σ F' H' → Q k H') : OutB G W C ρ σ F H (evB ih ct ρ) Q := by
  rw [h]
  exact q
/-- a comprehension's code -/
def compC (ih : Ex → Rho → R A) (ri : Rho → R Iv) (L : Nat) (vs : List Nat) (tgs : List Nat) (tp : Bool) (cond : Option Ex) (ct : Ex) (ρ : Rho) : R A := (ri ρ).bind fun iv ρ0 => match ivFree vs iv && plainSl vs ρ0 with
  | false => .bad
  | true => match compL (compTurn ih vs tgs tp cond ct) iv L 0 [] (wipeE ρ0 vs) with
    | .ok a ρ => .ok a (backE ρ0 ρ vs)
    | _ => .bad
/-- the tests of a comprehension -/
inductive Conds (X : L2.Cx) (scope : Scope) (G : Ga) (C : FC) (ih : Ex → Rho → R A) : List Expr → Option Ex → Prop where
  | none : Conds X scope G C ih [] none
  | some {c : Expr} {cc : Ex} (h : InBlk X scope fun Y => SB Y G W0 C c (evB ih cc)) : Conds X scope G C ih [c] (some cc)
theorem ivFree_ok {own : List Nat} {iv : Iv} (h : ivFree own iv = true) : ∀ i ∈ ivSlots iv, i ∉ own := by
  have nc : ∀ {i : Nat}, (!own.contains i) = true → i ∉ own := fun {i} z q => by
    rw [List.contains_iff_mem.mpr q] at z
    cases z
  intro i hi
  cases iv with
  | sq k o =>
    cases o with
    | d j => rw [List.mem_singleton.mp hi]; exact nc h
    | x t => cases hi
    | f xs => cases hi
  | rg lo n => cases hi
  | en o =>
    cases o with
    | d j => rw [List.mem_singleton.mp hi]; exact nc h
    | x t => cases hi
    | f xs => cases hi
  | zp x y =>
    cases x with
    | d j =>
      cases y with
      | d l =>
        have h2 : (!own.contains j && !own.contains l) = true := h
        rw [Bool.and_eq_true] at h2
        rcases List.mem_cons.mp hi with z | z
        · rw [z]; exact nc h2.1
        · rw [List.mem_singleton.mp z]; exact nc h2.2
      | x t => rw [List.mem_singleton.mp hi]; exact nc h
      | f xs => rw [List.mem_singleton.mp hi]; exact nc h
    | x t =>
      cases y with
      | d l => rw [List.mem_singleton.mp hi]; exact nc h
      | x t => cases hi
      | f xs => cases hi
    | f xs =>
      cases y with
      | d l => rw [List.mem_singleton.mp hi]; exact nc h
      | x t => cases hi
      | f xs => cases hi
theorem held_step {D : Addr} {us : List L2.V} (st : Step C ρ σ F H ρ' σ' F' H') (h1 : H D = some (.lst us)) (h2 : ¬ F D) (h3 : ¬ Own ρ σ D) : H' D = some (.lst us) ∧ ¬ F' D ∧ ¬ Own ρ' σ' D := by
  refine ⟨st.keep D _ h1 h3, fun z => ?_, fun z => ?_⟩
  · rcases st.new D z with z | z | z
    · exact h2 z
    · rw [h1] at z; cases z
    · exact h3 z
  · rcases st.own D z with z | z
    · exact h3 z
    · rw [h1] at z; cases z
theorem own_unwipe {q : Addr} (h : Own (wipeE ρ vs) (L2.wipe σ vs) q) : Own ρ σ q := by
  obtain ⟨j, k, xs, h1, h2⟩ := h
  by_cases hj : j ∈ vs
  · by_cases hb : j < σ.length
    · rw [wipe_in hj hb] at h2; cases h2
    · rw [List.getElem?_eq_none (by rw [L2.wipe_length]; omega)] at h2; cases h2
  · rw [wipeE_out hj] at h1
    rw [wipe_out hj] at h2
    exact ⟨j, k, xs, h1, h2⟩
theorem own_back (hp : plainSl vs ρ0 = true) {q : Addr} (h : Own (backE ρ0 ρ1 vs) σ q) : Own ρ1 (L2.wipe σ vs) q := by
  obtain ⟨j, k, xs, h1, h2⟩ := h
  by_cases hj : j ∈ vs
  · have hb : j < ρ1.length := by
      have := (List.getElem?_eq_some_iff.mp h1).1
      rw [backE_length] at this
      exact this
    rw [backE_in hj hb] at h1
    cases z : ρ0[j]? with
    | none => rw [z] at h1; cases h1
    | some s =>
      rw [z] at h1
      exact absurd (z.trans h1) ((plainSl_at hp hj).1 k xs)
  · rw [backE_out hj] at h1
    exact ⟨j, k, xs, h1, by rw [wipe_out hj]; exact h2⟩
theorem comp_core {ri : Rho → R Iv} {g : L2.TG} {tgs : List Nat} {tp : Bool} {cond : Option Ex} {ifs : List Expr} {L : Nat} (hK : X.K = C.K) (hc : X.calm = true) (hN : X.N.Nodup) (ok : L2.BlkOk X.N X.env.scope scope own) (hs : noSetE iter = true) (hi : SI X G W C tg iter ri)
    (hg : InBlk X scope fun Y => L2.PG Y tg g) (hr : SGr C tgs (bindTo tgs tp) g) (hsub : ∀ i ∈ tgs, i ∈ own.map (·.2)) (hcd : Conds X scope G C ih ifs cond) (he : InBlk X scope fun Y => SO Y G W0 C elt (evO ih ct)) :
    ∃ wi tt te, L2.PI X tg iter wi ∧ (∀ (s : Shared) (H : L2.Hp) (Cc : Addr) (cl : List (Str × Addr)) (fp : List Addr), L2.PTs (X.blk s H scope (compEnvC scope cl Cc X.env) fp) ifs tt) ∧
      (∀ (s : Shared) (H : L2.Hp) (Cc : Addr) (cl : List (Str × Addr)) (fp : List Addr), L2.PE (X.blk s H scope (compEnvC scope cl Cc X.env) fp) elt te) ∧
      ∀ ρ F σ H Q, Sim C F ρ σ H → OutA G W C ρ σ F H (compC ih ri L (own.map (·.2)) tgs tp cond ct ρ) Q → L2.tLc wi g tt te (own.map (·.2)) σ H Q := by
  obtain ⟨wi, pi, fi⟩ := hi
  generalize hvs : own.map (·.2) = vs at *
  have ht : ∃ tt : L2.TT, (∀ (s : Shared) (H : L2.Hp) (Cc : Addr) (cl : List (Str × Addr)) (fp : List Addr), L2.PTs (X.blk s H scope (compEnvC scope cl Cc X.env) fp) ifs tt) ∧
      ∀ ρ F σ H t k ρ2 (Q : Bool → L2.Hp → Prop), Sim C F ρ σ H → (match cond with | none => t = true ∧ k = true ∧ ρ2 = ρ | some cc => evB ih cc ρ = .ok k ρ2) → (∀ F' H', Step C ρ σ F H ρ2 σ F' H' → Q k H') → tt σ H Q := by
    cases hcd with
    | none =>
      refine ⟨_, fun s H Cc cl fp => L2.pts_nil, fun ρ F σ H t k ρ2 Q S e q => ?_⟩
      obtain ⟨_, e1, e2⟩ := e
      subst e1 e2
      exact q F H (.rfl' S)
    | @some c cc h =>
      refine ⟨fun σ H Q => ∀ (s : Shared) (H9 : L2.Hp) (Cc : Addr) (cl : List (Str × Addr)) (fp : List Addr), WT (X.blk s H9 scope (compEnvC scope cl Cc X.env) fp) c σ H Q, fun s H Cc cl fp => L2.pts_one ⟨fun pins s1 σ H Q I h => h _ _ _ _ _ pins s1 I⟩, fun ρ F σ H t k ρ2 Q S e q => ?_⟩
      exact fun s H9 Cc cl fp => h s H9 Cc cl fp ρ F σ H Q S (opB_of e q)
  obtain ⟨tt, pt, ft⟩ := ht
  have pe : ∀ (s : Shared) (H : L2.Hp) (Cc : Addr) (cl : List (Str × Addr)) (fp : List Addr), L2.PE (X.blk s H scope (compEnvC scope cl Cc X.env) fp) elt (fun σ H Q => ∀ (s : Shared) (H9 : L2.Hp) (Cc : Addr) (cl : List (Str × Addr)) (fp : List Addr), WE (X.blk s H9 scope (compEnvC scope cl Cc X.env) fp) elt σ H Q) :=
    fun s H Cc cl fp => ⟨fun pins s1 σ H Q I h => h _ _ _ _ _ pins s1 I⟩
  refine ⟨wi, tt, _, pi, pt, pe, fun ρ F σ H Q S out => ?_⟩
  unfold compC at out
  refine fi ρ F σ H _ S ?_
  cases q0 : ri ρ with
  | exc c ts ρ' => rw [q0] at out; exact out
  | bad => rw [q0] at out; exact out
  | ok iv ρ0 =>
  rw [q0] at out
  intro F0 H0 J s0 j0 D hD
  dsimp only [R.bind] at out
  cases q1 : ivFree vs iv && plainSl vs ρ0 with
  | false => rw [q1] at out; exact out.elim
  | true =>
  rw [q1] at out
  dsimp only at out
  rw [Bool.and_eq_true] at q1
  have free := ivFree_ok q1.1
  cases q2 : compL (compTurn ih vs tgs tp cond ct) iv L 0 [] (wipeE ρ0 vs) with
  | exc c ts ρ' => rw [q2] at out; exact out.elim
  | bad => rw [q2] at out; exact out.elim
  | ok res ρf =>
  rw [q2] at out
  dsimp only at out
  have hHD : H D = none := by
    cases z : H D with
    | none => rfl
    | some o => exact absurd hD (s0.there D (by rw [z]; simp))
  have hCD : C.H0 D = none := S.h0 hHD
  have sw : Step C ρ0 σ F0 H0 (wipeE ρ0 vs) (L2.wipe σ vs) F0 H0 := (Step.rfl' s0.sim).wipes vs
  have jw : IvRep C (L2.wipe σ vs) H (wipeE ρ0 vs) F0 H0 iv J := j0.steps s0.sim sw fun i hi => wipe_out (free i hi)
  have S0 := sw.sim
  have nD : ¬ F0 D := fun z => s0.sim.frz D z hD
  have noD : ¬ Own (wipeE ρ0 vs) (L2.wipe σ vs) D := fun z => by
    obtain ⟨i, k, xs, h1, h2⟩ := z
    obtain ⟨q, us, g1, g2, _⟩ := S0.own h1
    rw [h2] at g1
    cases g1
    rw [hD] at g2
    cases g2
  refine ⟨fun i m H1 => ∃ ρ1 F1 acc us, Step C (wipeE ρ0 vs) (L2.wipe σ vs) F0 H0 ρ1 (L2.wipe σ vs) F1 H1 ∧ H1 D = some (.lst us) ∧ Reps C.K F1 H1 acc us ∧ ¬ F1 D ∧ ¬ Own ρ1 (L2.wipe σ vs) D ∧
    compL (compTurn ih vs tgs tp cond ct) iv m i acc ρ1 = .ok res ρf, ⟨L, wipeE ρ0 vs, F0, [], [], (Step.rfl' S0).alloc hD (fun _ h => h) (fun _ h => .inl h), L2.upd_same, rfl, nD, noD, q2⟩, ?_⟩
  rintro i m H1 ⟨ρ1, F1, acc, us, s1, hd1, ra, n1, o1, ev⟩
  have j1 : IvRep C (L2.wipe σ vs) H ρ1 F1 H1 iv J := jw.steps S0 s1 fun _ _ => rfl
  cases m with
  | zero => cases ev
  | succ m =>
  have ev1 : (match turnAt ρ1 i iv with
    | none => .bad
    | some none => .ok (.f acc) ρ1
    | some (some t) => match compTurn ih vs tgs tp cond ct t ρ1 with
      | .ok (some y) ρ => if acc.length < big then compL (compTurn ih vs tgs tp cond ct) iv m (i + 1) (acc ++ [y]) ρ else .bad
      | .ok none ρ => compL (compTurn ih vs tgs tp cond ct) iv m (i + 1) acc ρ
      | _ => .bad) = R.ok res ρf := ev
  cases q3 : turnAt ρ1 i iv with
  | none => rw [q3] at ev1; cases ev1
  | some ot =>
  cases ot with
  | none =>
    rw [q3] at ev1
    cases ev1
    refine .inl ⟨turn_end s1.sim j1 q3, ?_⟩
    have sb := Step.back s0.sim q1.2 s1
    exact out F1 H1 (.ref D) (s0.trans sb) ⟨D, us, rfl, hHD, hd1, ra, n1, fun z => o1 (own_back q1.2 z)⟩
  | some t =>
    rw [q3] at ev1
    dsimp only at ev1
    obtain ⟨g1, g2⟩ := turn_item s1.sim j1 q3
    refine .inr ⟨g1, fun H' => ∃ ρ2 F2 acc2 us2, Step C (wipeE ρ0 vs) (L2.wipe σ vs) F0 H0 ρ2 (L2.wipe σ vs) F2 H' ∧ H' D = some (.lst us2) ∧ Reps C.K F2 H' acc2 us2 ∧ ¬ F2 D ∧ ¬ Own ρ2 (L2.wipe σ vs) D ∧
      compL (compTurn ih vs tgs tp cond ct) iv m (i + 1) acc2 ρ2 = .ok res ρf, fun H' w => ⟨m, Nat.lt_succ_self m, w⟩, fun x H' y => ?_⟩
    obtain ⟨F2, s2, r2⟩ := g2 x H' y
    unfold compTurn at ev1
    cases q4 : bindTo tgs tp t ρ1 with
    | none => rw [q4] at ev1; cases ev1
    | some ρ2 =>
    rw [q4] at ev1
    dsimp only at ev1
    refine hr ρ1 F2 (L2.wipe σ vs) H' t x ρ2 _ s2.sim r2 q4 fun σ2 sm s3 => ⟨wipe_same hsub sm, ?_⟩
    have st2 := s2.trans s3
    have wsame := wipe_same hsub sm
    have h2 := held_step st2 hd1 n1 o1
    have ra2 := Reps.mono (st2.ext s1.sim) _ _ ra
    have S1 := s1.trans st2
    -- the item is put in
    have fin : ∀ {ρ3 ρ4 : Rho} {F3 : FS} {H3 : L2.Hp} {y : T}, Step C ρ2 σ2 F2 H' ρ3 σ2 F3 H3 → evF ih ct ρ3 = .ok y ρ4 → (if acc.length < big then compL (compTurn ih vs tgs tp cond ct) iv m (i + 1) (acc ++ [y]) (wipeE ρ4 vs) else .bad) = R.ok res ρf →
        ∀ (s : Shared) (H9 : L2.Hp) (Cc : Addr) (cl : List (Str × Addr)) (fp : List Addr), WE (X.blk s H9 scope (compEnvC scope cl Cc X.env) fp) elt σ2 H3 fun y H4 => ∃ acc, H4 D = some (.lst acc) ∧ acc.length < sizeLine ∧ (∃ ρ2 F2 acc2 us2, Step C (wipeE ρ0 vs) (L2.wipe σ vs) F0 H0 ρ2 (L2.wipe σ vs) F2 (L2.upd H4 D (.lst (acc ++ [y]))) ∧ (L2.upd H4 D (.lst (acc ++ [y]))) D = some (.lst us2) ∧ Reps C.K F2 (L2.upd H4 D (.lst (acc ++ [y]))) acc2 us2 ∧ ¬ F2 D ∧ ¬ Own ρ2 (L2.wipe σ vs) D ∧
          compL (compTurn ih vs tgs tp cond ct) iv m (i + 1) acc2 ρ2 = .ok res ρf) := by
      intro ρ3 ρ4 F3 H3 y s4 e5 e6 s H9 Cc cl fp
      refine he s H9 Cc cl fp ρ3 F3 σ2 H3 _ s4.sim (opF_of s4.sim e5 fun F4 H4 v s5 rep => ?_)
      split at e6
      case isFalse => cases e6
      rename_i hb
      have h4 := held_step (s4.trans s5) h2.1 h2.2.1 h2.2.2
      have ra4 := Reps.mono ((s4.trans s5).ext s3.sim) _ _ ra2
      have all := ((S1.trans s4).trans s5).wipes vs
      rw [wsame] at all
      have o4 : ¬ Own (wipeE ρ4 vs) (L2.wipe σ vs) D := fun z => by
        rw [← wsame] at z
        exact h4.2.2 (own_unwipe z)
      obtain ⟨pk, ex⟩ := Step.poke (ws := us ++ [v]) all hD hCD h4.2.1 o4
      exact ⟨us, h4.1, by rw [← ra.length, ← big_eq]; exact hb, wipeE ρ4 vs, F4, acc ++ [y], us ++ [v], pk, L2.upd_same, (Reps.mono ex _ _ ra4).append (show Reps C.K F4 _ [y] [v] from ⟨v, [], rfl, RepT.mono ex _ _ rep, rfl⟩), h4.2.1, o4, e6⟩
    cases cond with
    | none =>
      dsimp only at ev1
      refine ft ρ2 F2 σ2 H' true true ρ2 _ s3.sim ⟨rfl, rfl, rfl⟩ fun F3 H3 s4 => ?_
      rw [if_pos rfl]
      cases q5 : evF ih ct ρ2 with
      | exc c ts ρ' => rw [q5] at ev1; cases ev1
      | bad => rw [q5] at ev1; cases ev1
      | ok y ρ4 =>
        rw [q5] at ev1
        exact fin s4 q5 ev1
    | some cc =>
      dsimp only at ev1
      cases q6 : evB ih cc ρ2 with
      | exc c ts ρ' => rw [q6] at ev1; cases ev1
      | bad => rw [q6] at ev1; cases ev1
      | ok k ρ3 =>
        rw [q6] at ev1
        refine ft ρ2 F2 σ2 H' true k ρ3 _ s3.sim q6 fun F3 H3 s4 => ?_
        cases k with
        | true =>
          rw [if_pos rfl]
          dsimp only [R.bind] at ev1
          cases q5 : evF ih ct ρ3 with
          | exc c ts ρ' => rw [q5] at ev1; cases ev1
          | bad => rw [q5] at ev1; cases ev1
          | ok y ρ4 =>
            rw [q5] at ev1
            exact fin s4 q5 ev1
        | false =>
          rw [if_neg Bool.false_ne_true]
          have h4 := held_step s4 h2.1 h2.2.1 h2.2.2
          have all := (S1.trans s4).wipes vs
          rw [wsame] at all
          refine ⟨wipeE ρ3 vs, F3, acc, us, all, h4.1, Reps.mono (s4.ext s3.sim) _ _ ra2, h4.2.1, fun z => ?_, ev1⟩
          rw [← wsame] at z
          exact h4.2.2 (own_unwipe z)
theorem se_comp {ri : Rho → R Iv} {g : L2.TG} {tgs : List Nat} {tp : Bool} {cond : Option Ex} {ifs : List Expr} {L : Nat} (hK : X.K = C.K) (hc : X.calm = true) (hN : X.N.Nodup) (ok : L2.BlkOk X.N X.env.scope scope own) (hs : noSetE iter = true) (hi : SI X G W C tg iter ri)
    (hg : InBlk X scope fun Y => L2.PG Y tg g) (hr : SGr C tgs (bindTo tgs tp) g) (hsub : ∀ i ∈ tgs, i ∈ own.map (·.2)) (hcd : Conds X scope G C ih ifs cond) (he : InBlk X scope fun Y => SO Y G W0 C elt (evO ih ct)) :
    SE X G W C (.ListComp elt [⟨tg, iter, ifs, 0⟩] scope pos) (compC ih ri L (own.map (·.2)) tgs tp cond ct) := by
  intro ρ F σ H Q S out
  obtain ⟨wi, tt, te, pi, pt, pe, f⟩ := comp_core (L := L) hK hc hN ok hs hi hg hr hsub hcd he
  exact we_of (L2.pe_lc hc hN pi ok hg pt pe (noSet_ok hs)) (f ρ F σ H Q S out)
theorem ss_setLc {ri : Rho → R Iv} {g : L2.TG} {tgs : List Nat} {tp : Bool} {cond : Option Ex} {ifs : List Expr} {L i : Nat} {x : Str} {px spos : Pos} (hK : X.K = C.K) (hc : X.calm = true) (hN : X.N.Nodup) (hx : X.N[i]? = some x) (hl : X.env.scope.names.lookup x = some .local)
    (hsw : swapsWith (.ListComp elt [⟨tg, iter, ifs, 0⟩] scope pos) (some (.Name x px)) spos.line X.env = pure true) (ok : L2.BlkOk X.N X.env.scope scope own) (hs : noSetE iter = true) (hi : SI X G W C tg iter ri)
    (hg : InBlk X scope fun Y => L2.PG Y tg g) (hr : SGr C tgs (bindTo tgs tp) g) (hsub : ∀ i ∈ tgs, i ∈ own.map (·.2)) (hcd : Conds X scope G C ih ifs cond) (he : InBlk X scope fun Y => SO Y G W0 C elt (evO ih ct)) :
    SS1 X G W C (.Assign [.Name x px] (.ListComp elt [⟨tg, iter, ifs, 0⟩] scope pos) spos) (fun ρ => RS.of (compC ih ri L (own.map (·.2)) tgs tp cond ct ρ) fun a ρ => .nx (store1 i a ρ)) := by
  intro ρ F σ H D S out
  obtain ⟨wi, tt, te, pi, pt, pe, f⟩ := comp_core (L := L) hK hc hN ok hs hi hg hr hsub hcd he
  refine ws_of (L2.ps_setLc hc hN hx hl hsw pi ok hg pt pe (noSet_ok hs)) ?_
  exact f ρ F σ H _ S (outA_of_rs out fun a ρ1 o1 F1 H1 v s1 r => o1 _ F1 H1 (step_store S s1 r))
end
end PV

set_option Elab.async false
set_option linter.all false
set_option maxRecDepth 100000
set_option maxHeartbeats 1000000
/-! PV, soundness 15: calls. -/
namespace PV
open PySem PySem.Spec PyProof.Rows
/-- an argument as the callee gets it; M: what it may change -/
def ArgR (K : PySem.W.Frag) (F0 M : FS) (H : L2.Hp) : Md → A → L2.V → Prop
  | .val, .t x, v => RepT K F0 H x v
  | .bor, .t x, v => RepT K F0 H x v
  | .bor, .f xs, v => ∃ p vs, v = .ref p ∧ H p = some (.lst vs) ∧ Reps K F0 H xs vs ∧ ¬ M p
  | .chg, .f xs, v => ∃ p vs, v = .ref p ∧ H p = some (.lst vs) ∧ Reps K F0 H xs vs ∧ M p
  | _, _, _ => False
def ArgsR (K : PySem.W.Frag) (F0 M : FS) (H : L2.Hp) : List Md → List A → List L2.V → Prop
  | [], [], vs => vs = []
  | m :: ms, a :: as, vs => ∃ v r, vs = v :: r ∧ ArgR K F0 M H m a v ∧ ArgsR K F0 M H ms as r
  | _, _, _ => False
structure After (F0 M : FS) (H : L2.Hp) (F' : FS) (H' : L2.Hp) : Prop where
  sub : ∀ p, F0 p → F' p
  keep : ∀ p o, H p = some o → ¬ M p → H' p = some o
  there : ∀ p, H p ≠ none → H' p ≠ none
  new : ∀ p, F' p → F0 p ∨ H p = none
  frz : ∀ p, F' p → H' p ≠ none
def ResR (K : PySem.W.Frag) (H : L2.Hp) (F' : FS) (H' : L2.Hp) : A → L2.V → Prop
  | .t x, v => RepT K F' H' x v
  | .f xs, v => ∃ p vs, v = .ref p ∧ H p = none ∧ H' p = some (.lst vs) ∧ Reps K F' H' xs vs ∧ ¬ F' p
/-- what a def promises -/
def SpF (K : PySem.W.Frag) (G : Ga) (Fo : Orc) (md : List Md) (f : Nat) : L2.Sp := fun vs H Q E => ∃ (as : List A) (F0 M : FS), ArgsR K F0 M H md as vs ∧ (∀ p q, M p → M q → p = q) ∧ (∀ p, F0 p → H p ≠ none) ∧ (∀ p, M p → ¬ F0 p ∧ H p ≠ none) ∧ match Fo f as with
  | .ok r ms => ∀ F' H' v, After F0 M H F' H' → (∀ xs ∈ ms, ∀ p, M p → ∃ vs, H' p = some (.lst vs) ∧ Reps K F' H' xs vs) → ResR K H F' H' r v → Q v H'
  | .exc c ts => ∀ F' H' cv d, After F0 M H F' H' → XR K G F' H' c ts cv d → E cv d H'
  | .bad => False
theorem ArgsR.len {K : PySem.W.Frag} {F0 M : FS} {H : L2.Hp} : ∀ {md : List Md} {as : List A} {vs : List L2.V}, ArgsR K F0 M H md as vs → vs.length = md.length ∧ as.length = md.length
  | [], [], _, h => by cases (show _ = [] from h); exact ⟨rfl, rfl⟩
  | [], _ :: _, _, h => h.elim
  | _ :: _, [], _, h => h.elim
  | m :: ms, a :: as, _, h => by
    obtain ⟨v, r, e, _, h2⟩ := h
    subst e
    exact ⟨congrArg Nat.succ h2.len.1, congrArg Nat.succ h2.len.2⟩
theorem ArgsR.get {K : PySem.W.Frag} {F0 M : FS} {H : L2.Hp} : ∀ {md : List Md} {as : List A} {vs : List L2.V} {i : Nat} {m : Md} {a : A}, ArgsR K F0 M H md as vs → md[i]? = some m → as[i]? = some a → ∃ v, vs[i]? = some v ∧ ArgR K F0 M H m a v
  | [], _, _, _, _, _, _, e, _ => by simp at e
  | _ :: _, [], _, _, _, _, h, _, _ => h.elim
  | m :: ms, a :: as, _, 0, m', a', h, e1, e2 => by
    obtain ⟨v, r, e, h1, h2⟩ := h
    subst e
    simp at e1 e2
    subst e1 e2
    exact ⟨v, rfl, h1⟩
  | m :: ms, a :: as, _, i + 1, m', a', h, e1, e2 => by
    obtain ⟨v, r, e, h1, h2⟩ := h
    subst e
    obtain ⟨u, g1, g2⟩ := ArgsR.get (i := i) h2 (by simpa using e1) (by simpa using e2)
    exact ⟨u, by simpa using g1, g2⟩
section
variable {X : L2.Cx} {G : Ga} {W : L2.WX} {C : FC} {ρ ρ' ρ0 ρ1 : Rho} {σ σ' : LSt} {F F' F0 F1 : FS} {H H' H0 H1 : L2.Hp} {e a b c tg iter elt : Expr} {es rest : List Expr} {pos p : Pos} {ih : Ex → Rho → R A} {ce ca cb cc ct : Ex} {vs : List Nat}
/-- behind a call that changed nothing of ours -/
theorem After.step0 (S : Sim C F ρ σ H) {M : FS} (a : After F M H F' H') (hM : ∀ p, ¬ M p) : Step C ρ σ F H ρ σ F' H' where
  sub := a.sub
  keep := fun p o h _ => a.keep p o h (hM p)
  new := fun p h => (a.new p h).imp id .inl
  own := fun p h => .inl h
  there := a.there
  sim := by
    refine S.move ⟨a.sub, fun p o _ h => a.keep p o h (hM p)⟩ a.frz (fun p h => ?_) (fun p o h1 h2 => a.keep p o (S.out p o h1 h2) (hM p)) (fun p h => a.there p (S.dom p h)) fun p h => ?_
    · rcases a.new p h with z | z
      · exact S.frN p z
      · exact .inr (S.h0 z)
    · obtain ⟨i, k, xs, h1, h2⟩ := h
      obtain ⟨q, us, g1, g2, g3, g4, _⟩ := S.own h1
      rw [h2] at g1
      cases g1
      refine ⟨(a.keep p _ g2 (hM p)).trans g2.symm, fun z => ?_⟩
      rcases a.new p z with z | z
      · exact g4 z
      · rw [g2] at z; cases z
/-- behind a call that may have changed the list in slot i -/
theorem After.step1 (S : Sim C F ρ σ H) {M : FS} {i : Nat} {k : Bool} {xs : List T} {q : Addr} (hi : ρ[i]? = some (.o k xs)) (hq : σ[i]? = some (some (.ref q))) (a : After F M H F' H') (hM : ∀ p, M p ↔ p = q) : Step C ρ σ F H (ρ.set i .u) σ F' H' ∧ ¬ F' q := by
  obtain ⟨q', us, g1, g2, g3, g4, g5⟩ := S.own hi
  rw [hq] at g1
  cases g1
  have nM : ∀ p, p ≠ q → ¬ M p := fun p h z => h ((hM p).mp z)
  have nF' : ¬ F' q := fun z => by
    rcases a.new q z with z | z
    · exact g4 z
    · rw [g2] at z; cases z
  have own : Own ρ σ q := ⟨i, k, xs, hi, hq⟩
  refine ⟨⟨a.sub, fun p o h n => a.keep p o h (nM p fun z => n (z ▸ own)), fun p h => (a.new p h).imp id .inl, fun p h => .inl (h.set_sub fun _ _ => by simp), a.there, ?_⟩, nF'⟩
  refine (S.lose i).move ⟨a.sub, fun p o h1 h => a.keep p o h (nM p fun z => g4 (z ▸ h1))⟩ a.frz (fun p h => ?_) (fun p o h1 h2 => ?_) (fun p h => a.there p (S.dom p h)) fun p h => ?_
  · rcases a.new p h with z | z
    · exact S.frN p z
    · exact .inr (S.h0 z)
  · refine a.keep p o (S.out p o h1 h2) (nM p ?_)
    rintro rfl
    cases k with
    | true => have z : C.H0 p = none := g5; rw [h1] at z; cases z
    | false => exact h2 g5
  · obtain ⟨j, l, zs, h1, h2⟩ := h
    rcases set_get h1 with ⟨_, z⟩ | ⟨n, h1⟩
    · cases z
    · obtain ⟨q', ws, k1, k2, k3, k4, _⟩ := S.own h1
      rw [h2] at k1
      cases k1
      have ne : p ≠ q := fun z => by
        subst z
        exact n (S.dis j i l k zs xs p h1 hi h2 hq)
      refine ⟨(a.keep p _ k2 (nM p ne)).trans k2.symm, fun z => ?_⟩
      rcases a.new p z with z | z
      · exact k4 z
      · rw [k2] at z; cases z
theorem After.step2 (S : Sim C F ρ σ H) {M : FS} {i : Nat} {k : Bool} {xs ys : List T} {q : Addr} {us : List L2.V} (hi : ρ[i]? = some (.o k xs)) (hq : σ[i]? = some (some (.ref q))) (a : After F M H F' H') (hM : ∀ p, M p ↔ p = q) (h1 : H' q = some (.lst us)) (h2 : Reps C.K F' H' ys us) : Step C ρ σ F H (ρ.set i (.o k ys)) σ F' H' := by
  obtain ⟨st, nF⟩ := a.step1 S hi hq hM
  obtain ⟨q', us', g1, g2, g3, g4, g5⟩ := S.own hi
  rw [hq] at g1
  cases g1
  have T2 := st.sim.setSlot (i := i) (s := .o k ys) (fun _ => ⟨q, us, getD_of hq, h1, h2, nF, g5⟩) fun k' xs' _ j l zs p z1 z2 z3 => by
    rcases set_get z1 with ⟨e0, _⟩ | ⟨n1, e1⟩
    · exact e0
    · rw [hq] at z2
      cases z2
      exact S.dis j i l k zs xs q e1 hi z3 hq
  rw [List.set_set] at T2
  refine ⟨st.sub, st.keep, st.new, fun p h => ?_, st.there, T2⟩
  obtain ⟨j, l, zs, j1, j2⟩ := h
  rcases set_get j1 with ⟨rfl, _⟩ | ⟨_, e1⟩
  · exact .inl ⟨j, k, xs, hi, j2⟩
  · exact .inl ⟨j, l, zs, e1, j2⟩

/-! ### the arguments -/
theorem frz_own {o : Opd} {t : T} (h : frz ρ o = some (t, ρ')) {j : Nat} {k : Bool} {xs : List T} (hj : ρ'[j]? = some (.o k xs)) : ρ[j]? = some (.o k xs) := by
  cases o with
  | x x => cases h; exact hj
  | f xs => cases h; exact hj
  | d i =>
    dsimp only [frz] at h
    split at h
    · cases h; exact hj
    · cases h
      rcases set_get hj with ⟨_, z⟩ | ⟨_, z⟩
      · cases z
      · exact z
    · cases h
theorem argOf_own {m : Md} {o : Opd} {a : A} (h : argOf ρ m o = some (a, ρ')) {j : Nat} {k : Bool} {xs : List T} (hj : ρ'[j]? = some (.o k xs)) : ρ[j]? = some (.o k xs) := by
  cases m with
  | val =>
    obtain ⟨pr, e1, e2⟩ := Option.map_eq_some_iff.mp (show (frz ρ o).map (fun p => (A.t p.1, p.2)) = some (a, ρ') from h)
    obtain ⟨t, ρ2⟩ := pr
    cases e2
    exact frz_own e1 hj
  | bor =>
    cases o with
    | d i =>
      simp only [argOf] at h
      split at h <;> first | (cases h; exact hj) | cases h
    | x t => cases h; exact hj
    | f xs => cases h; exact hj
  | chg =>
    cases o with
    | d i =>
      simp only [argOf] at h
      split at h <;> first | (cases h; exact hj) | cases h
    | x t => cases h
    | f xs => cases h
theorem argsOf_own {j : Nat} {k : Bool} {xs : List T} : ∀ {md : List Md} {os : List Opd} {ρ ρ' : Rho} {as : List A}, argsOf ρ md os = some (as, ρ') → ρ'[j]? = some (.o k xs) → ρ[j]? = some (.o k xs)
  | [], [], _, _, _, h, hj => by cases h; exact hj
  | [], _ :: _, _, _, _, h, _ => by cases h
  | _ :: _, [], _, _, _, h, _ => by cases h
  | m :: ms, o :: os, ρ, ρ', as, h, hj => by
    unfold argsOf at h
    split at h
    · rename_i a ρ1 e1
      split at h
      · rename_i as' ρ2 e2
        cases h
        exact argOf_own e1 (argsOf_own e2 hj)
      · cases h
    · cases h
theorem ArgR.mono {M : FS} (x : Ext F H F' H) {m : Md} {a : A} {v : L2.V} (h : ArgR C.K F M H m a v) : ArgR C.K F' M H m a v := by
  cases m <;> cases a <;> first
    | exact h.elim
    | exact RepT.mono x _ _ h
    | (obtain ⟨p, vs, h1, h2, h3, h4⟩ := h; exact ⟨p, vs, h1, h2, Reps.mono x _ _ h3, h4⟩)
theorem args_ok {ρs : Rho} {Fs : FS} {Hs : L2.Hp} {M : FS} (Ss : Sim C Fs ρs σ Hs) : ∀ {md : List Md} {os : List Opd} {ρ ρ' : Rho} {F : FS} {as : List A} {vs : List L2.V}, Step C ρs σ Fs Hs ρ σ F H → OpReps C.K σ Hs ρ F H os vs → argsOf ρ md os = some (as, ρ') →
    (∀ p, M p → ∃ i k xs, ρ'[i]? = some (.o k xs) ∧ σ[i]? = some (some (.ref p)) ∧ i ∉ lentOf md os) → (∀ i ∈ mutsOf md os, ∀ p, σ[i]? = some (some (.ref p)) → M p) →
    ∃ F', Step C ρs σ Fs Hs ρ' σ F' H ∧ Ext F H F' H ∧ ArgsR C.K F' M H md as vs
  | [], [], ρ, ρ', F, as, vs, st, ops, h, _, _ => by
    cases h
    exact ⟨F, st, .rfl', ops⟩
  | [], _ :: _, _, _, _, _, _, _, _, h, _, _ => by cases h
  | _ :: _, [], _, _, _, _, _, _, _, h, _, _ => by cases h
  | m :: ms, o :: os, ρ, ρ', F, as, vs, st, ops, h, hM, hm => by
    obtain ⟨v, r, rfl, op, ops⟩ := ops
    unfold argsOf at h
    split at h
    case h_2 => cases h
    rename_i a ρ1 e1
    split at h
    case h_2 => cases h
    rename_i as' ρ2 e2
    cases h
    have S := st.sim
    have own1 : ∀ {j : Nat} {k : Bool} {xs : List T}, ρ'[j]? = some (.o k xs) → ρ[j]? = some (.o k xs) := fun h => argOf_own e1 (argsOf_own e2 h)
    -- one argument, the rest behind it
    have key : ∃ F1, Step C ρs σ Fs Hs ρ1 σ F1 H ∧ Ext F H F1 H ∧ ArgR C.K F1 M H m a v ∧ OpReps C.K σ Hs ρ1 F1 H os r := by
      have frzd : ∀ {t : T}, frz ρ o = some (t, ρ1) → ∃ F1, Step C ρs σ Fs Hs ρ1 σ F1 H ∧ Ext F H F1 H ∧ RepT C.K F1 H t v ∧ OpReps C.K σ Hs ρ1 F1 H os r := fun {t} e => by
        obtain ⟨F1, st1, x1, rep, f⟩ := frz_ok Ss st op e
        exact ⟨F1, st1, x1, rep, ops.map f⟩
      cases m with
      | val =>
        obtain ⟨pr, e3, e4⟩ := Option.map_eq_some_iff.mp (show (frz ρ o).map (fun p => (A.t p.1, p.2)) = some (a, ρ1) from e1)
        obtain ⟨t, ρ3⟩ := pr
        cases e4
        obtain ⟨F1, st1, x1, rep, f⟩ := frzd e3
        exact ⟨F1, st1, x1, rep, f⟩
      | bor =>
        cases o with
        | x t =>
          cases e1
          obtain ⟨F1, st1, x1, rep, f⟩ := frzd (t := t) rfl
          exact ⟨F1, st1, x1, rep, f⟩
        | f xs =>
          cases e1
          obtain ⟨F1, st1, x1, rep, f⟩ := frzd (t := .lst xs) rfl
          exact ⟨F1, st1, x1, rep, f⟩
        | d i =>
          have hv : σ[i]? = some (some v) := op
          simp only [argOf] at e1
          split at e1
          · rename_i t e3
            cases e1
            obtain ⟨w, h1, h2⟩ := S.sl i _ e3
            rw [getD_of hv] at h1
            cases h1
            exact ⟨F, st, .rfl', h2, ops⟩
          · rename_i k xs e3
            cases e1
            obtain ⟨p, us, g1, g2, g3, g4, g5⟩ := S.own e3
            rw [hv] at g1
            cases g1
            refine ⟨F, st, .rfl', ⟨p, us, rfl, g2, g3, fun z => ?_⟩, ops⟩
            obtain ⟨j, l, ys, k1, k2, k3⟩ := hM p z
            have := S.dis j i l k ys xs p (own1 k1) e3 k2 hv
            subst this
            exact k3 List.mem_cons_self
          · rename_i xs e3
            cases e1
            obtain ⟨p, us, g1, g2, g3, g4, g5⟩ := S.sl i _ e3
            rw [getD_of hv] at g1
            cases g1
            refine ⟨F, st, .rfl', ⟨p, us, rfl, g2, g3, fun z => ?_⟩, ops⟩
            obtain ⟨j, l, ys, k1, k2, k3⟩ := hM p z
            rcases S.ownH0 ⟨j, l, ys, own1 k1, k2⟩ with z | z
            · exact g4 z
            · exact g5 z
          · cases e1
      | chg =>
        cases o with
        | x t => cases e1
        | f xs => cases e1
        | d i =>
          have hv : σ[i]? = some (some v) := op
          simp only [argOf] at e1
          split at e1
          · rename_i k xs e3
            cases e1
            obtain ⟨p, us, g1, g2, g3, g4, g5⟩ := S.own e3
            rw [hv] at g1
            cases g1
            exact ⟨F, st, .rfl', ⟨p, us, rfl, g2, g3, hm i List.mem_cons_self p hv⟩, ops⟩
          · cases e1
    obtain ⟨F1, st1, x1, ar, ops1⟩ := key
    have sub1 : ∀ {i : Nat}, i ∈ lentOf ms os → i ∈ lentOf (m :: ms) (o :: os) := fun {i} z => by
      cases m <;> cases o <;> first | exact z | exact List.mem_cons_of_mem _ z
    have sub2 : ∀ {i : Nat}, i ∈ mutsOf ms os → i ∈ mutsOf (m :: ms) (o :: os) := fun {i} z => by
      cases m <;> cases o <;> first | exact z | exact List.mem_cons_of_mem _ z
    obtain ⟨F2, st2, x2, ars⟩ := args_ok Ss st1 ops1 e2 (fun p z => by
      obtain ⟨j, l, ys, k1, k2, k3⟩ := hM p z
      exact ⟨j, l, ys, k1, k2, fun w => k3 (sub1 w)⟩) (fun i hi => hm i (sub2 hi))
    exact ⟨F2, st2, x1.trans x2, v, r, rfl, ar.mono x2, ars⟩

/-! ### a call -/
theorem ResR.ar {r : A} {v : L2.V} {Hs : L2.Hp} (h : ResR C.K H F' H' r v) (h0 : ∀ p, H p = none → Hs p = none) (hn : ∀ p, H p = none → ¬ Own ρ' σ p) : ARep C.K σ Hs ρ' F' H' r v := by
  cases r with
  | t x => exact h
  | f xs =>
    obtain ⟨p, vs, h1, h2, h3, h4, h5⟩ := h
    exact ⟨p, vs, h1, h0 p h2, h3, h4, h5, hn p h2⟩
theorem call_ok {ρs : Rho} {Fs : FS} {Hs : L2.Hp} {Fo : Orc} {f : Nat} {md : List Md} {os : List Opd} {ws : List L2.V} {Q : L2.VK} (Ss : Sim C Fs ρs σ Hs) (st : Step C ρs σ Fs Hs ρ σ F H) (ops : OpReps C.K σ Hs ρ F H os ws) (o : OutA G W C ρs σ Fs Hs (callWith Fo f md os ρ) Q) : SpF C.K G Fo md f ws H Q (L2.WE W σ) := by
  unfold callWith at o
  cases q1 : argsOf ρ md os with
  | none => rw [q1] at o; exact o.elim
  | some pr =>
  obtain ⟨as, ρ1⟩ := pr
  rw [q1] at o
  dsimp only at o
  have hs0 : ∀ {p : Addr}, H p = none → Hs p = none := fun {p} h => by
    cases z : Hs p with
    | none => rfl
    | some u => exact absurd h (st.there p (by rw [z]; simp))
  cases q2 : mutsOf md os with
  | nil =>
    rw [q2] at o
    dsimp only at o
    obtain ⟨F1, st1, _, ars⟩ := args_ok (M := fun _ => False) Ss st ops q1 (fun p z => z.elim) (fun i hi => by rw [q2] at hi; cases hi)
    have S1 := st1.sim
    refine ⟨as, F1, fun _ => False, ars, fun p q z => z.elim, S1.frz, fun p z => z.elim, ?_⟩
    cases q3 : Fo f as with
    | bad => rw [q3] at o; exact o.elim
    | exc c ts =>
      rw [q3] at o
      exact fun F' H' cv d a x => o F' H' cv d (st1.trans (a.step0 S1 fun _ z => z)) x
    | ok r ms =>
      rw [q3] at o
      intro F' H' v a _ res
      have s2 := st1.trans (a.step0 S1 fun _ z => z)
      refine o F' H' v s2 (ResR.ar res (fun p h => hs0 h) fun p h z => ?_)
      obtain ⟨i, k, xs, h1, h2⟩ := z
      obtain ⟨q', us, g1, g2, _⟩ := S1.own h1
      rw [h2] at g1
      cases g1
      rw [h] at g2
      cases g2
  | cons i is =>
  cases is with
  | cons i2 is2 => rw [q2] at o; exact o.elim
  | nil =>
    rw [q2] at o
    dsimp only at o
    cases q3 : isOwn ρ1 i && !(lentOf md os).contains i with
    | false => rw [q3] at o; exact o.elim
    | true =>
    rw [q3] at o
    dsimp only at o
    rw [Bool.and_eq_true] at q3
    have nl : i ∉ lentOf md os := fun z => by
      rw [List.contains_iff_mem.mpr z] at q3
      cases q3.2
    have own : ∃ k xs, ρ1[i]? = some (.o k xs) := by
      have z := q3.1
      unfold isOwn at z
      split at z
      · rename_i k xs e; exact ⟨k, xs, e⟩
      · cases z
    obtain ⟨k, xs, hi⟩ := own
    have hi0 := argsOf_own q1 hi
    obtain ⟨q, us, g1, g2, g3, g4, g5⟩ := st.sim.own hi0
    obtain ⟨F1, st1, x1, ars⟩ := args_ok (M := fun p => p = q) Ss st ops q1 (fun p z => ⟨i, k, xs, hi, by rw [z]; exact g1, nl⟩) (fun j hj p hp => by
      rw [q2] at hj
      rw [List.mem_singleton.mp hj, g1] at hp
      cases hp
      rfl)
    have S1 := st1.sim
    obtain ⟨q', us', k1, k2, k3, k4, k5⟩ := S1.own hi
    rw [g1] at k1
    cases k1
    refine ⟨as, F1, fun p => p = q, ars, fun p r z1 z2 => z1.trans z2.symm, S1.frz, fun p z => by rw [z]; exact ⟨k4, by rw [k2]; simp⟩, ?_⟩
    cases q4 : Fo f as with
    | bad => rw [q4] at o; exact o.elim
    | exc c ts =>
      rw [q4] at o
      exact fun F' H' cv d a x => o F' H' cv d (st1.trans (a.step1 S1 hi g1 fun _ => Iff.rfl).1) x
    | ok r ms =>
      rw [q4] at o
      cases ms with
      | nil => exact o.elim
      | cons ys ms =>
      cases ms with
      | cons _ _ => exact o.elim
      | nil =>
      intro F' H' v a hm res
      obtain ⟨zs, m1, m2⟩ := hm ys List.mem_cons_self q rfl
      have s2 := st1.trans (a.step2 S1 hi g1 (fun _ => Iff.rfl) m1 m2)
      have epb : putBack i ys ρ1 = ρ1.set i (.o k ys) := by
        unfold putBack
        rw [hi]
      dsimp only at o
      rw [epb] at o
      refine o F' H' v s2 (ResR.ar res (fun p h => hs0 h) fun p h z => ?_)
      have z2 : Own ρ1 σ p := by
        obtain ⟨j, l, w, j1, j2⟩ := z
        rcases set_get j1 with ⟨rfl, _⟩ | ⟨_, e1⟩
        · exact ⟨j, k, xs, hi, j2⟩
        · exact ⟨j, l, w, e1, j2⟩
      obtain ⟨j, l, w, j1, j2⟩ := z2
      obtain ⟨q', ps, f1, f2, _⟩ := S1.own j1
      rw [j2] at f1
      cases f1
      rw [h] at f2
      cases f2
end
end PV

set_option Elab.async false
set_option linter.all false
set_option maxRecDepth 100000
set_option maxHeartbeats 1000000
/-! PV, soundness 16: call expressions; defs. -/
namespace PV
open PySem PySem.Spec PyProof.Rows
section
variable {X : L2.Cx} {G : Ga} {W : L2.WX} {C : FC} {ρ ρ' ρ0 ρ1 : Rho} {σ σ' : LSt} {F F' F0 F1 : FS} {H H' H0 H1 : L2.Hp} {e a b c tg iter elt : Expr} {es rest : List Expr} {pos p : Pos} {ih : Ex → Rho → R A} {ce ca cb cc ct : Ex} {vs : List Nat}
/-- a def as its callers see it -/
structure FunAt (P : Program) (w : World) (K : PySem.W.Frag) (mg : Str → Option Value) (base : Heap) (G : Ga) (Fo : Orc) (d : Nat) (f : Nat) (md : List Md) (x : Str) (ps : List Str) (kws : List (Nat × List Str)) : Prop where
  ex : ∃ (fa : Addr) (fd : FuncData), FnG P w K mg base (L2.CX P w) d fa fd ps (SpF K G Fo md f) ∧ mg x = some (.ref fa) ∧ PySem.W.keepIn K (.ref fa) = true ∧ L2.Binds K fd ps [] ∧ ∀ q ∈ kws, KwB K fd ps q.1 q.2
theorem pe_callG {CX : L2.CXT} {k : Nat} {f : Addr} {fd : FuncData} {ps : List Str} {sp : L2.Sp} {x : Str} {p' : Pos} {Es : L2.St → L2.XK} {t : L2.TA} (F : FnG X.prog X.w X.K X.mg X.base CX k f fd ps sp) (gd : X.A.guards = some []) (room : L2.Room k X.A) (gl : L2.Gl X x) (at_ : X.mg x = some (.ref f)) (kp : PySem.W.keepIn X.K (.ref f) = true)
    (bd : L2.Binds X.K fd ps []) (pass : ∀ σ, L2.PassesAt CX X σ (Es σ)) (args : L2.PA X (e :: es) t) (nd : (x == ("__debug__" : Str)) = false) (st : starEach (e :: es) X.env = (false, eval e X.env) :: starEach es X.env) (pl : (backTo pos (starEach es X.env)).any (·.1) = false) :
    L2.PE X (.Call (.Name x p') (e :: es) [] pos) (L2.tCallS sp Es t) := by
  constructor
  intro pins s σ H Q I h
  refine wpAny_Call_Name_kw (L2.ld_glob I gl at_ ?_ nd)
  refine PySem.W.callWith_K (h₀ := X.base) I.ok.mod.kin kp (L2.thn (args.run pos pins s σ H _ I h) ?_) st pl
  rintro us s1 ⟨vs, H1, I1, rel, q⟩
  refine ⟨I1.kIn, ?_⟩
  have hl : us.length = ps.length := by rw [← rel.length]; exact F.len _ _ _ _ q
  have b := bd s1 us I1.kIn (by rw [List.append_nil]; exact hl)
  rw [List.append_nil] at b
  exact F.call gd room b (pass σ) I1 rel q
theorem se_call {Fo : Orc} {d f : Nat} {md : List Md} {x : Str} {cs : List Ex} {ps : List Str} {kwp : List (Nat × List Str)} (hK : X.K = C.K) (gd : X.A.guards = some []) (Fu : FunAt X.prog X.w X.K X.mg X.base G Fo d f md x ps kwp) (hr : L2.Room d X.A) (hg : L2.Gl X x) (hdb : (x == ("__debug__" : Str)) = false) (tk : L2.Takes X W)
    (hs : isStar e = false) (hss : es.all (fun e => !isStar e) = true) (h : SOs X G W C (e :: es) (evOs ih cs)) : SE X G W C (.Call (.Name x p) (e :: es) [] pos) (fun ρ => (evOs ih cs ρ).bind fun os ρ => callWith Fo f md os ρ) := by
  intro ρ F σ H Q S out
  obtain ⟨fa, fd, fok, hm, hk, hb, _⟩ := Fu.ex
  refine we_of (pe_callG fok gd hr hg hm hk hb (L2.passAt tk) (pa_wes (by rw [List.all_cons, hs, hss] <;> rfl)) hdb (star_cons hs) (star_plain hss)) ?_
  refine h ρ F σ H _ S (outOs_bind out fun os ρ1 o1 F1 H1 ws st ops => ?_)
  rw [hK]
  exact call_ok S st ops o1
theorem se_call0 {Fo : Orc} {d f : Nat} {md : List Md} {x : Str} {ps : List Str} {kwp : List (Nat × List Str)} (hK : X.K = C.K) (gd : X.A.guards = some []) (Fu : FunAt X.prog X.w X.K X.mg X.base G Fo d f md x ps kwp) (hr : L2.Room d X.A) (hg : L2.Gl X x) (hdb : (x == ("__debug__" : Str)) = false) (tk : L2.Takes X W) :
    SE X G W C (.Call (.Name x p) [] [] pos) (fun ρ => (evOs ih [] ρ).bind fun os ρ => callWith Fo f md os ρ) := by
  intro ρ F σ H Q S out
  obtain ⟨fa, fd, fok, hm, hk, hb, _⟩ := Fu.ex
  intro pins s I
  refine wpAny_Call_Name_kw (L2.ld_glob I hg hm ?_ hdb)
  have q := call_ok S (.rfl' S) (show OpReps C.K σ H ρ F H [] [] from rfl) out
  rw [← hK] at q
  have hl : ([] : List Value).length = ps.length := fok.len _ _ _ _ q
  refine PySem.W.callWith_K0 I.kIn hk (fok.call gd hr (ws := []) ?_ (L2.passAt tk σ) I .nil q)
  have b := hb s [] I.kIn (by rw [List.append_nil]; exact hl)
  rw [List.append_nil] at b
  exact b
/-- behind a call that may have changed a list of nobody's -/
theorem After.stepT {ρs : Rho} {Fs : FS} {Hs : L2.Hp} (Ss : Sim C Fs ρs σ Hs) (st : Step C ρs σ Fs Hs ρ σ F H) {M : FS} {q : Addr} {us : List L2.V} (h0 : Hs q = none) (h1 : H q = some (.lst us)) (h2 : ¬ F q) (h3 : ¬ Own ρ σ q) (x : After F M H F' H') (hM : ∀ p, M p ↔ p = q) : Step C ρs σ Fs Hs ρ σ F' H' := by
  have S := st.sim
  have nM : ∀ p, p ≠ q → ¬ M p := fun p h z => h ((hM p).mp z)
  have hC := Ss.h0 h0
  refine ⟨fun p h => x.sub p (st.sub p h), fun p o z1 z2 => x.keep p o (st.keep p o z1 z2) (nM p ?_), fun p h => ?_, st.own, fun p h => x.there p (st.there p h), ?_⟩
  · rintro rfl
    rw [h0] at z1; cases z1
  · rcases x.new p h with z | z
    · exact st.new p z
    · refine .inr (.inl ?_)
      cases y : Hs p with
      | none => rfl
      | some u => exact absurd z (st.there p (by rw [y]; simp))
  · refine S.move ⟨x.sub, fun p o z1 z2 => x.keep p o z2 (nM p fun z => h2 (z ▸ z1))⟩ x.frz (fun p h => ?_) (fun p o z1 z2 => ?_) (fun p h => x.there p (S.dom p h)) fun p h => ?_
    · rcases x.new p h with z | z
      · exact S.frN p z
      · exact .inr (S.h0 z)
    · refine x.keep p o (S.out p o z1 z2) (nM p ?_)
      rintro rfl
      rw [hC] at z1; cases z1
    · have ne : p ≠ q := fun z => h3 (z ▸ h)
      obtain ⟨i, k, xs, k1, k2⟩ := h
      obtain ⟨q', vs, g1, g2, g3, g4, _⟩ := S.own k1
      rw [k2] at g1
      cases g1
      refine ⟨(x.keep p _ g2 (nM p ne)).trans g2.symm, fun z => ?_⟩
      rcases x.new p z with z | z
      · exact g4 z
      · rw [g2] at z; cases z
theorem se_call1 {Fo : Orc} {d f : Nat} {md : List Md} {x : Str} {ps : List Str} {kwp : List (Nat × List Str)} (hK : X.K = C.K) (gd : X.A.guards = some []) (hmd : md = [.chg]) (Fu : FunAt X.prog X.w X.K X.mg X.base G Fo d f md x ps kwp) (hr : L2.Room d X.A) (hg : L2.Gl X x) (hdb : (x == ("__debug__" : Str)) = false) (tk : L2.Takes X W)
    (hs : isStar e = false) (h : SE X G W C e (ih ce)) : SE X G W C (.Call (.Name x p) [e] [] pos) (fun ρ => (ih ce ρ).bind fun a ρ => match a with
      | .f xs => match Fo f [.f xs] with
        | .ok r [_] => .ok r ρ
        | .exc c ts => .exc c ts ρ
        | _ => .bad
      | _ => .bad) := by
  intro ρ F σ H Q S out
  subst hmd
  obtain ⟨fa, fd, fok, hm, hk, hb, _⟩ := Fu.ex
  refine we_of (pe_callG fok gd hr hg hm hk hb (L2.passAt tk) (L2.pa_cons pe_we L2.pa_nil (star_cons hs)) hdb (star_cons hs) rfl) ?_
  refine h ρ F σ H _ S ?_
  dsimp only at out
  cases q1 : ih ce ρ with
  | exc c ts ρ' => rw [q1] at out; exact out
  | bad => rw [q1] at out; exact out
  | ok r ρ1 =>
  rw [q1] at out
  dsimp only [R.bind] at out
  intro F1 H1 v st ar
  cases r with
  | t y => exact out.elim
  | f xs =>
  obtain ⟨q, us, rfl, g2, g3, g4, g5, g6⟩ := ar
  rw [hK]
  refine ⟨[.f xs], F1, fun p => p = q, ⟨_, _, rfl, ⟨q, us, rfl, g3, g4, rfl⟩, rfl⟩, fun p r z1 z2 => z1.trans z2.symm, st.sim.frz, fun p z => by rw [z]; exact ⟨g5, by rw [g3]; simp⟩, ?_⟩
  dsimp only at out
  cases q2 : Fo f [.f xs] with
  | bad => rw [q2] at out; exact out.elim
  | exc c ts =>
    rw [q2] at out
    exact fun F' H' cv d x y => out F' H' cv d (x.stepT S st g2 g3 g5 g6 fun _ => Iff.rfl) y
  | ok r ms =>
    rw [q2] at out
    cases ms with
    | nil => exact out.elim
    | cons ys ms =>
    cases ms with
    | cons _ _ => exact out.elim
    | nil =>
    intro F' H' v x hms res
    refine out F' H' v (x.stepT S st g2 g3 g5 g6 fun _ => Iff.rfl) (ResR.ar res (fun p h => ?_) fun p h z => ?_)
    · cases y : H p with
      | none => rfl
      | some u => exact absurd h (st.there p (by rw [y]; simp))
    · obtain ⟨i, k, xs, h1, h2⟩ := z
      obtain ⟨q', us', k1, k2, _⟩ := st.sim.own h1
      rw [h2] at k1
      cases k1
      rw [h] at k2
      cases k2

/-! ### defs -/
theorem start_rep {K : PySem.W.Frag} {M : FS} : ∀ {md : List Md} {slots : Nat} {as : List A} {vs : List L2.V} {ρ : Rho}, startE slots md as = some ρ → ArgsR K F0 M H md as vs →
    ρ.length = slots ∧ ∀ (i : Nat) (s : Sl), ρ[i]? = some s → s = .u ∨ ∃ m a v, md[i]? = some m ∧ vs[i]? = some v ∧ slotOf m a = some s ∧ ArgR K F0 M H m a v
  | [], slots, [], vs, ρ, e, h => by
    have e1 : some (List.replicate slots Sl.u) = some ρ := by
      unfold startE at e
      exact e
    cases e1
    refine ⟨List.length_replicate, fun i s q => .inl ?_⟩
    rw [List.getElem?_replicate] at q
    split at q
    · exact (Option.some.inj q).symm
    · cases q
  | [], _, _ :: _, _, _, _, h => h.elim
  | _ :: _, _, [], _, _, _, h => h.elim
  | m :: ms, 0, a :: as, _, _, e, _ => by cases e
  | m :: ms, k + 1, a :: as, vs, ρ, e, h => by
    obtain ⟨v, r, rfl, h1, h2⟩ := h
    unfold startE at e
    dsimp only at e
    split at e
    · rename_i ρ2 s2 e1 e2
      cases e
      obtain ⟨l, g⟩ := start_rep e1 h2
      refine ⟨congrArg Nat.succ l, fun i s q => ?_⟩
      cases i with
      | zero =>
        simp at q
        subst q
        exact .inr ⟨m, a, v, rfl, rfl, e2, h1⟩
      | succ i =>
        rcases g i s (by simpa using q) with z | ⟨m', a', v', z1, z2, z3⟩
        · exact .inl z
        · exact .inr ⟨m', a', v', by simpa using z1, by simpa using z2, z3⟩
    · cases e
theorem start_at {N : List Str} {ws : List L2.V} {i : Nat} {v : L2.V} (h : ws[i]? = some v) : (L2.start N ws).getD i none = some v ∧ (L2.start N ws)[i]? = some (some v) := by
  have hi : i < ws.length := (List.getElem?_eq_some_iff.mp h).1
  have e : (L2.start N ws)[i]? = some (some v) := by
    unfold L2.start
    rw [List.getElem?_append_left (by simpa using hi), List.getElem?_map, h]
    rfl
  exact ⟨getD_of e, e⟩
def oneMut (md : List Md) : Prop := ∀ i j : Nat, md[i]? = some Md.chg → md[j]? = some Md.chg → i = j
theorem start_sim {K : PySem.W.Frag} {M : FS} {md : List Md} {slots : Nat} {as : List A} {ws : List L2.V} {ρ : Rho} {N : List Str} (hN : N.length = slots) (hl : ws.length ≤ N.length) (one : oneMut md) (e : startE slots md as = some ρ) (h : ArgsR K F0 M H md as ws) (hf : ∀ p, F0 p → H p ≠ none) (hM : ∀ p, M p → ¬ F0 p ∧ H p ≠ none) :
    Sim ⟨K, H, F0, M⟩ F0 ρ (L2.start N ws) H := by
  obtain ⟨l, g⟩ := start_rep e h
  refine ⟨?_, fun i s q => ?_, fun i j k k' xs ys p h1 h2 h3 h4 => ?_, hf, fun p z => .inl z, fun p o z _ => z, fun p z => z, hM, fun p z => z⟩
  · rw [l, ← hN]
    unfold L2.start
    rw [List.length_append, List.length_map, List.length_replicate]
    omega
  · rcases g i s q with z | ⟨m, a, v, z1, z2, z3, z4⟩
    · subst z; trivial
    · rw [(start_at z2).1]
      cases m with
      | val =>
        cases a with
        | t x => cases z3; exact ⟨v, rfl, z4⟩
        | f xs => cases z3
      | bor =>
        cases a with
        | t x => cases z3; exact ⟨v, rfl, z4⟩
        | f xs =>
          cases z3
          obtain ⟨p, us, rfl, k1, k2, k3⟩ := z4
          exact ⟨p, us, rfl, k1, k2, by show H p ≠ none; rw [k1]; simp, k3⟩
      | chg =>
        cases a with
        | t x => cases z3
        | f xs =>
          cases z3
          obtain ⟨p, us, rfl, k1, k2, k3⟩ := z4
          exact ⟨p, us, rfl, k1, k2, (hM p k3).1, k3⟩
  · have own : ∀ {i : Nat} {k : Bool} {xs : List T}, ρ[i]? = some (.o k xs) → md[i]? = some Md.chg := fun {i k xs} q => by
      rcases g i _ q with z | ⟨m, a, v, z1, z2, z3, z4⟩
      · cases z
      · cases m with
        | val => cases a <;> cases z3
        | bor => cases a <;> cases z3
        | chg => exact z1
    exact one i j (own h1) (own h2)
theorem muts_at {ρ : Rho} : ∀ {md : List Md} {j : Nat} {ms : List (List T)} {xs : List T}, mutsAt j md ρ = some ms → xs ∈ ms → ∃ i : Nat, ρ[i]? = some (Sl.o false xs)
  | [], _, _, _, e, h => by cases e; cases h
  | .chg :: md, j, ms, xs, e, h => by
    unfold mutsAt at e
    split at e
    · rename_i ys e1
      obtain ⟨ms', e2, e3⟩ := Option.map_eq_some_iff.mp e
      subst e3
      rcases List.mem_cons.mp h with z | z
      · exact ⟨j, by rw [z]; exact e1⟩
      · exact muts_at e2 z
    · cases e
  | .val :: md, j, ms, xs, e, h => muts_at (md := md) (j := j + 1) e h
  | .bor :: md, j, ms, xs, e, h => muts_at (md := md) (j := j + 1) e h
theorem Sim.after (S : Sim C F' ρ' σ' H') : After C.F0 C.M C.H0 F' H' := ⟨S.sub, S.out, S.dom, S.frN, S.frz⟩
/-- THE RULE of a def -/
theorem fn_pv {P : Program} {w : World} {K : PySem.W.Frag} {mg : Str → Option Value} {base : Heap} {x qual : Str} {params : Arguments} {body : List Stmt} {scope : Scope} {dvs : List L2.V} {kws : List (Str × L2.V)} {fa : Addr} {fd : FuncData} {N ps : List Str} {Pg' : Pg} {L n d f : Nat} {fc : Fc}
    (Fd' : L2.FunD K x qual params body scope dvs kws fa fd) (Sc : L2.FnScope N ps scope) (hf : Pg'.fns[f]? = some fc) (hps : ps.length = fc.md.length) (hN : N.length = fc.slots) (one : oneMut fc.md)
    (hbody : ∀ (cdv : Value) (A : Around) (outer : List PySem.Env) (s : Shared) (H : L2.Hp) (E : L2.XK) (C : FC), C.K = K → L2.Room d (A.deeper (envOfC qual scope s.heap.objs.size fa cdv)) → A.guards = some [] →
      SSs (L2.cxOf (L2.CX P w) P w K mg base N qual scope fa cdv A outer s H E) G (fun cls d _ H => E cls d H) C body (exs Pg' (Fd Pg' L n d) L n n fc.body)) :
    FnG P w K mg base (L2.CX P w) (d + 1) fa fd ps (SpF K G (Fd Pg' L n (d + 1)) fc.md f) := by
  refine FnG.of Fd' Sc (fun vs H Q E h => ?_) fun cdv A outer s H ws Q E hr hgd hsp => ?_
  · obtain ⟨as, F0, M, ars, _⟩ := h
    rw [ars.len.1, hps]
  · obtain ⟨as, F0, M, ars, uniq, hfz, hM, q⟩ := hsp
    refine ⟨_, pss_wss, ?_⟩
    have eF : Fd Pg' L n (d + 1) f as = runF Pg' (Fd Pg' L n d) L n fc as := by
      show (match Pg'.fns[f]? with
        | some fc => runF Pg' (Fd Pg' L n d) L n fc as
        | none => .bad) = _
      rw [hf]
    rw [eF] at q
    unfold runF at q
    cases q1 : startE fc.slots fc.md as with
    | none => rw [q1] at q; exact q.elim
    | some ρ0 =>
    rw [q1] at q
    dsimp only at q
    have hl : ws.length ≤ N.length := by
      have z := congrArg List.length Sc.pre
      rw [List.length_take] at z
      rw [ars.len.1, ← hps]
      omega
    have S0 := start_sim hN hl one q1 ars hfz hM
    refine hbody cdv A outer s H E ⟨K, H, F0, M⟩ rfl hr hgd ρ0 F0 (L2.start N ws) H _ S0 ?_
    have mm : ∀ {ρ' : Rho} {σ' : LSt} {F' : FS} {H' : L2.Hp} {ms : List (List T)}, Sim ⟨K, H, F0, M⟩ F' ρ' σ' H' → mutsAt 0 fc.md ρ' = some ms → ∀ xs ∈ ms, ∀ p, M p → ∃ vs, H' p = some (.lst vs) ∧ Reps K F' H' xs vs := by
      intro ρ' σ' F' H' ms S e xs hx p hp
      obtain ⟨i, hi⟩ := muts_at e hx
      obtain ⟨q', us, g1, g2, g3, g4, g5⟩ := S.own hi
      have : p = q' := uniq p q' hp g5
      subst this
      exact ⟨us, g2, g3⟩
    cases q2 : exs Pg' (Fd Pg' L n d) L n n fc.body ρ0 with
    | bad => rw [q2] at q; exact q.elim
    | bk ρ' => rw [q2] at q; exact q.elim
    | ct ρ' => rw [q2] at q; exact q.elim
    | exc c ts ρ' =>
      rw [q2] at q
      exact fun σ' F' H' cv dd st xr => q F' H' cv dd st.sim.after xr
    | nx ρ' =>
      rw [q2] at q
      dsimp only [endC] at q
      cases q3 : mutsAt 0 fc.md ρ' with
      | none => rw [q3] at q; exact q.elim
      | some ms =>
        rw [q3] at q
        exact fun σ' F' H' st => q F' H' .non st.sim.after (mm st.sim q3) rfl
    | rt r ρ' =>
      rw [q2] at q
      dsimp only [endC] at q
      cases q3 : mutsAt 0 fc.md ρ' with
      | none => rw [q3] at q; exact q.elim
      | some ms =>
        rw [q3] at q
        refine fun σ' F' H' v st rr => q F' H' v st.sim.after (mm st.sim q3) ?_
        cases r with
        | t y => exact rr
        | f xs => exact rr
end
end PV

set_option Elab.async false
set_option linter.all false
set_option maxRecDepth 100000
set_option maxHeartbeats 1000000
/-! PV, soundness 17: other stores; ranges as lists. -/
namespace PV
open PySem PySem.Spec PyProof.Rows
section
variable {X : L2.Cx} {G : Ga} {W : L2.WX} {C : FC} {ρ ρ' ρ0 ρ1 : Rho} {σ σ' : LSt} {F F' F0 F1 : FS} {H H' H0 H1 : L2.Hp} {e a b c tg iter elt : Expr} {es rest : List Expr} {pos p : Pos} {ih : Ex → Rho → R A} {ce ca cb cc ct : Ex} {vs : List Nat}
def OutU (G : Ga) (W : L2.WX) (C : FC) (ρ : Rho) (σ : LSt) (F : FS) (H : L2.Hp) (r : R Unit) (Q : LSt → L2.Hp → Prop) : Prop := match r with
  | .ok _ ρ' => ∀ σ' F' H', Step C ρ σ F H ρ' σ' F' H' → Q σ' H'
  | .exc c ts ρ' => ∀ σ' F' H' cv d, Step C ρ σ F H ρ' σ' F' H' → XR C.K G F' H' c ts cv d → W cv d σ' H'
  | .bad => False
theorem OutU.later {ρs : Rho} {σs : LSt} {Fs : FS} {Hs : L2.Hp} {r : R Unit} {Q : LSt → L2.Hp → Prop} (st : Step C ρs σs Fs Hs ρ σ F H) (h : OutU G W C ρs σs Fs Hs r Q) : OutU G W C ρ σ F H r Q := by
  cases r with
  | ok a ρ' => exact fun σ' F' H' s => h σ' F' H' (st.trans s)
  | exc c ts ρ' => exact fun σ' F' H' cv d s x => h σ' F' H' cv d (st.trans s) x
  | bad => exact h
/-- targets and their codes: a value's store is the first's, then the rest's -/
def STgs (X : L2.Cx) (G : Ga) (W : L2.WX) (C : FC) (ih : Ex → Rho → R A) (es : List Expr) (tgs : List Tg) : Prop := ∃ g, L2.PGs X es g ∧ ∀ ρ F σ H ts vs Q, Sim C F ρ σ H → Reps C.K F H ts vs → OutU G W C ρ σ F H (storeAll ih tgs ts ρ) Q → g vs σ H Q
theorem stgs_nil : STgs X G W C ih [] [] := ⟨_, L2.pgs_nil, fun ρ F σ H ts vs Q S r o => by
  cases ts with
  | nil => exact ⟨r, o σ F H (.rfl' S)⟩
  | cons _ _ => exact o.elim⟩
theorem stgs_nm {i : Nat} {x : Str} {r : List Tg} (h : StoreOk X i x) (hr : STgs X G W C ih es r) : STgs X G W C ih (.Name x p :: es) (.nm i :: r) := by
  obtain ⟨g, pg, fg⟩ := hr
  refine ⟨_, L2.pgs_cons (L2.pg_name h.1 h.2.1 h.2.2.1 h.2.2.2) pg, fun ρ F σ H ts vs Q S r o => ?_⟩
  cases ts with
  | nil => exact o.elim
  | cons t ts =>
    obtain ⟨v, us, rfl, h1, h2⟩ := r
    have st := (Step.rfl' S).put (i := i) h1
    exact ⟨v, us, rfl, fg _ F _ H ts us Q st.sim h2 (OutU.later st o)⟩
theorem sub_assign (h : plainIx b = true) : ∀ v, assign (.Subscript a b pos) X.env v = (do
      let ov ← holding [v] (eval a X.env)
      let iv ← holding [v, ov] (eval b X.env)
      standAt pos
      holding [v, ov, iv] (setItem ov iv v)
      release [v, ov, iv] []) := by
  intro v
  cases b <;> first | (cases h; done) | rfl
theorem ix_run {i : Nat} {x : Str} {f : Rho → R Unit} {t : T} {v : L2.V} {Q Q' : LSt → L2.Hp → Prop} (hn : NameOk X i x) (he : SO X G W C e (evO ih ce)) (S : Sim C F ρ σ H) (rep : RepT C.K F H t v)
    (o : OutU G W C ρ σ F H (match isOwn ρ i with
      | false => .bad
      | true => (evP ih ce ρ).bind fun j ρ => match j with
        | .int j => match setIx i j t ρ with
          | some ρ => f ρ
          | none => .bad
        | _ => .bad) Q') (q : ∀ ρ' F' H', Step C ρ σ F H ρ' σ F' H' → OutU G W C ρ σ F H (f ρ') Q' → Q σ H') : L2.gSub (L2.tVar i) (WE X e) L2.rSetL v σ H Q := by
  cases hi : isOwn ρ i with
  | false => rw [hi] at o; exact o.elim
  | true =>
  rw [hi] at o
  dsimp only at o
  obtain ⟨p0, us, h1, h2⟩ := own_at S hi
  refine ⟨.ref p0, h1, ?_⟩
  refine he ρ F σ H _ S ?_
  have o1 : OutU G W C ρ σ F H (R.bind ((evO ih ce ρ).bind fun o ρ => match res ρ o with
      | some t => .ok t ρ
      | none => .bad) fun j ρ => match j with
        | .int j => match setIx i j t ρ with
          | some ρ => f ρ
          | none => .bad
        | _ => .bad) Q' := o
  cases q0 : evO ih ce ρ with
  | exc c ts ρ' => rw [q0] at o1; exact fun F' H' cv d s y => o1 σ F' H' cv d s y
  | bad => rw [q0] at o1; exact o1
  | ok oo ρ1 =>
  rw [q0] at o1
  intro F1 H1 u st op
  dsimp only [R.bind] at o1
  cases q1 : res ρ1 oo with
  | none => rw [q1] at o1; exact o1.elim
  | some y =>
  rw [q1] at o1
  have pr := res_prep st.sim op q1
  cases y with
  | int j =>
    cases (show u = _ from pr)
    dsimp only at o1
    cases q2 : setIx i j t ρ1 with
    | none => rw [q2] at o1; exact o1.elim
    | some ρ2 =>
    rw [q2] at o1
    unfold setIx at q2
    split at q2
    · rename_i k xs e1
      obtain ⟨m, e2, e3⟩ := Option.map_eq_some_iff.mp q2
      subst e3
      obtain ⟨p', ws, g1, g2, g3, _⟩ := st.sim.own e1
      rw [h1] at g1
      cases g1
      refine ⟨p0, ws, j, m, rfl, rfl, g2, by rw [← g3.length]; exact e2, ?_⟩
      exact q _ _ _ (st.wr e1 h1 (Reps.set (RepT.mono (st.ext S) _ _ rep) m g3)) o1
    · cases q2
  | _ => exact o1.elim
theorem stgs_ix1 {i : Nat} {x : Str} {px : Pos} (hn : NameOk X i x) (hp : plainIx e = true) (he : SO X G W C e (evO ih ce)) : ∃ g, L2.PG X (.Subscript (.Name x px) e pos) g ∧ ∀ ρ F σ H t v Q, Sim C F ρ σ H → RepT C.K F H t v → OutU G W C ρ σ F H (storeAll ih [.ix i ce] [t] ρ) Q → g v σ H Q := by
  refine ⟨_, L2.pg_sub (pe_nm hn) pe_we L2.set_list (sub_assign hp), fun ρ F σ H t v Q S rep o => ?_⟩
  exact ix_run (f := fun ρ => .ok () ρ) hn he S rep o fun ρ' F' H' st o1 => o1 σ F' H' st
theorem ss_set {i : Nat} {x : Str} {px p2 : Pos} {ck : Ex} (hn : NameOk X i x) (hp : plainIx b = true) (hk : SO X G W C b (evO ih ck)) (he : SO X G W C e (evO ih ce)) (hs : swapsWithSole [.Subscript (.Name x px) b p2] e pos.line X.env = pure false) (hw : swappedStores [.Subscript (.Name x px) b p2] e X.env = pure none) :
    SS1 X G W C (.Assign [.Subscript (.Name x px) b p2] e pos) (fun ρ => RS.of (evF ih ce ρ) fun t ρ => RS.of (storeAll ih [.ix i ck] [t] ρ) fun _ ρ => .nx ρ) := by
  intro ρ F σ H D S o
  obtain ⟨g, pg, fg⟩ := stgs_ix1 (pos := p2) (px := px) hn hp hk
  refine ws_of (L2.ps_asg pe_we pg hs hw rfl) ?_
  refine he ρ F σ H _ S (outF_of_rs S o fun t ρ1 o1 F1 H1 v st rep => ?_)
  refine fg ρ1 F1 σ H1 t v _ st.sim rep ?_
  have o2 := OutS.later st o1
  cases q : storeAll ih [.ix i ck] [t] ρ1 with
  | ok u ρ2 => rw [q] at o2; exact o2
  | exc c ts ρ2 => rw [q] at o2; exact o2
  | bad => rw [q] at o2; exact o2
theorem stgs_ix {i : Nat} {x : Str} {px : Pos} {r : List Tg} (hn : NameOk X i x) (hp : plainIx e = true) (he : SO X G W C e (evO ih ce)) (hr : STgs X G W C ih es r) : STgs X G W C ih (.Subscript (.Name x px) e pos :: es) (.ix i ce :: r) := by
  obtain ⟨g, pg, fg⟩ := hr
  refine ⟨_, L2.pgs_cons (L2.pg_sub (pe_nm hn) pe_we L2.set_list (sub_assign hp)) pg, fun ρ F σ H ts vs Q S r2 o => ?_⟩
  cases ts with
  | nil => exact o.elim
  | cons t ts =>
    obtain ⟨v, us, rfl, h1, h2⟩ := r2
    refine ⟨v, us, rfl, ?_⟩
    exact ix_run (f := fun ρ => storeAll ih r ts ρ) hn he S h1 o fun ρ' F' H' st o1 => fg ρ' F' σ H' ts us Q st.sim (Reps.mono (st.ext S) _ _ h2) (OutU.later st o1)
theorem ss_unp {ts : List Expr} {tgs : List Tg} {k n : Nat} {p2 : Pos} (hK : X.K = C.K) (hc : X.calm = true) (ht : STgs X G W C ih ts tgs) (hn : (assignEach ts X.env).length = n) (hst : (assignEach ts X.env).findIdx? (·.1) = none) (hl : tgs.length = n) (he : SO X G W C e (evO ih ce))
    (hs : swapsWithSole [.Tuple ts k p2] e pos.line X.env = pure false) (hw : swappedStores [.Tuple ts k p2] e X.env = pure none) :
    SS1 X G W C (.Assign [.Tuple ts k p2] e pos) (fun ρ => RS.of (evF ih ce ρ) fun t ρ => match unpT t with
      | some xs => if xs.length = tgs.length then RS.of (storeAll ih tgs xs ρ) fun _ ρ => .nx ρ else .bad
      | none => .bad) := by
  intro ρ F σ H D S o
  obtain ⟨g, pg, fg⟩ := ht
  refine ws_of (L2.ps_asg pe_we (L2.pg_tup hc pg hn hst) hs hw rfl) ?_
  refine he ρ F σ H _ S (outF_of_rs S o fun t ρ1 o1 F1 H1 v st rep => ?_)
  cases t with
  | tup xs =>
    obtain ⟨q, us, rfl, _, g2, g3⟩ := rep
    have o2 := OutS.later st o1
    dsimp only [unpT, tupT] at o2
    split at o2
    case isFalse => exact o2.elim
    rename_i hlen
    refine ⟨q, us, rfl, by rw [hK]; exact L2.SqT.of g2, by rw [← g3.length, hlen, hl], ?_⟩
    · refine fg ρ1 F1 σ H1 xs us _ st.sim g3 ?_
      cases q : storeAll ih tgs xs ρ1 with
      | ok u ρ2 => rw [q] at o2; exact o2
      | exc c ts ρ2 => rw [q] at o2; exact o2
      | bad => rw [q] at o2; exact o2
  | _ => exact o1.elim
/-! ### name op= e -/
theorem ss_aug {i : Nat} {x : Str} {px : Pos} {o : Bin} (ho : o = .add ∨ o = .sub) (hx : StoreOk X i x) (he : SO X G W C e (evO ih ce)) : SS1 X G W C (.AugAssign (.Name x px) (opOf o) e pos) (fun ρ => match (ρ[i]?).bind slotT with
    | some (.int a) => RS.of (evP ih ce ρ) fun t ρ => augC i o a t ρ
    | _ => .bad) := by
  intro ρ F σ H D S out
  have pa : ∃ ti : L2.TIp, L2.PIp X (opOf o) ti ∧ ∀ (i j : Int) (Q : L2.VK) (H : L2.Hp), Q (.int (match o with | .add => i + j | _ => i - j)) H → ti (.int i) (.int j) H Q := by
    rcases ho with z | z
    · subst z; exact ⟨_, L2.ip_add, fun i j Q H q => ⟨i, j, rfl, rfl, q⟩⟩
    · subst z; exact ⟨_, L2.ip_sub, fun i j Q H q => ⟨i, j, rfl, rfl, q⟩⟩
  obtain ⟨ti, pi, fi⟩ := pa
  refine ws_of (L2.ps_aug hx.1 hx.2.1 hx.2.2.1 pe_we pi hx.2.2.2) ?_
  dsimp only at out
  cases q : (ρ[i]?).bind slotT with
  | none => rw [q] at out; exact out.elim
  | some t =>
  rw [q] at out
  cases t with
  | int a =>
    obtain ⟨s, e1, e2⟩ := Option.bind_eq_some_iff.mp q
    cases s with
    | v t =>
      cases e2
      obtain ⟨v, g1, g2⟩ := S.sl i _ e1
      cases (show v = _ from g2)
      refine ⟨.int a, of_getD g1, ?_⟩
      refine he ρ F σ H _ S (outP_of_rs out fun t ρ1 o1 F1 H1 u st pr => ?_)
      cases t with
      | int b =>
        cases (show u = _ from pr)
        refine fi a b _ _ ?_
        rcases ho with z | z
        · subst z
          exact o1 _ F1 H1 (st.put (v := .int (a + b)) rfl)
        · subst z
          exact o1 _ F1 H1 (st.put (v := .int (a - b)) rfl)
      | _ => exact o1.elim
    | u => cases e2
    | o k xs => cases e2
    | b xs => cases e2
  | _ => exact out.elim
/-! ### ranges as lists, as tuples -/
def rgs (n : Nat) : List T := (List.range n).map fun (k : Nat) => T.int k
theorem reps_rg {j : Int} (h : 0 ≤ j) : Reps C.K F H (rgs j.toNat) (L2.rgV 0 j) := by
  have e : ∀ l : List Nat, Reps C.K F H (l.map fun (k : Nat) => T.int k) (l.map fun i => L2.V.int (0 + (i : Nat))) := by
    intro l
    induction l with
    | nil => exact Reps.nil
    | cons x l ih => exact ⟨_, _, rfl, by show L2.V.int (0 + (x : Int)) = .int x; rw [Int.zero_add], ih⟩
  unfold rgs L2.rgV
  rw [Int.sub_zero]
  exact e _
theorem se_lrange {p2 p3 : Pos} (hK : X.K = C.K) (hc : X.calm = true) (hL : BtOk X "list") (hR : BtOk X "range") (hs : isStar a = false) (h : SO X G W C a (evO ih ca)) : SE X G W C (.Call (.Name "list" p) [.Call (.Name "range" p2) [a] [] p3] [] pos) (fun ρ => (evPs ih [ca] ρ).bind fun ts ρ => ofA? (biT .lrange ts) ρ) := by
  intro ρ F σ H Q S out
  refine we_of (L2.pe_listRg hc hL.1 hL.2 (L2.prg_1 hR.1 hR.2 pe_we (star_cons hs)) rfl) ?_
  have h1 : SOs X G W C [a] (evOs ih [ca]) := sos_cons h sos_nil
  have z : WEs X [a] σ H (fun vs H2 => match vs with
    | [v] => ∃ i, v = .int i ∧ L2.RgOk 0 i ∧ ∀ q, H2 q = none → Q (.ref q) (L2.upd H2 q (.lst (L2.rgV 0 i)))
    | _ => False) := by
    have out1 : OutA G W C ρ σ F H (((evOs ih [ca] ρ).bind fun os ρ => match ress ρ os with
      | some ts => .ok ts ρ
      | none => .bad).bind fun ts ρ => ofA? (biT .lrange ts) ρ) Q := out
    refine h1 ρ F σ H _ S ?_
    cases q : evOs ih [ca] ρ with
    | exc c ts ρ' => rw [q] at out1; exact out1
    | bad => rw [q] at out1; exact out1
    | ok os ρ1 =>
      rw [q] at out1
      intro F1 H1 vs st ops
      dsimp only [R.bind] at out1
      cases q2 : ress ρ1 os with
      | none => rw [q2] at out1; exact out1.elim
      | some ts =>
        rw [q2] at out1
        dsimp only at out1
        have pr := ress_ok st.sim ops q2
        match ts, pr, out1 with
        | [.int j], pr, out1 =>
          obtain ⟨v, r1, e1, h1, h2⟩ := pr
          cases (show r1 = [] from h2)
          subst e1
          cases (show v = _ from h1)
          have o2 : OutA G W C ρ σ F H (ofA? (if 0 ≤ j ∧ j ≤ 16777216 then some (A.f (rgs j.toNat)) else none) ρ1) Q := out1
          split at o2
          · rename_i hb
            exact ⟨j, rfl, L2.RgOk.of_le (Int.le_refl 0) hb.2 (by omega) hb.1, fun q hq => (Wants.of o2 st).lst st.sim (reps_rg hb.1) q hq⟩
          · exact o2.elim
        | [], pr, out1 => exact out1.elim
        | [.non], pr, out1 => exact out1.elim
        | [.bl _], pr, out1 => exact out1.elim
        | [.str _], pr, out1 => exact out1.elim
        | [.lst _], pr, out1 => exact out1.elim
        | [.tup _], pr, out1 => exact out1.elim
        | [.ins _ _], pr, out1 => exact out1.elim
        | [.scr _], pr, out1 => exact out1.elim
        | [.dit _ _], pr, out1 => exact out1.elim
        | [.dik _ _], pr, out1 => exact out1.elim
        | x :: y :: r, pr, out1 => exact (show False from (by cases x <;> exact out1)).elim
  exact z
theorem se_trange {p2 p3 : Pos} (hK : X.K = C.K) (hc : X.calm = true) (hL : BtOk X "tuple") (hR : BtOk X "range") (hs : isStar a = false) (h : SO X G W C a (evO ih ca)) : SE X G W C (.Call (.Name "tuple" p) [.Call (.Name "range" p2) [a] [] p3] [] pos) (fun ρ => (evPs ih [ca] ρ).bind fun ts ρ => ofA? (biT .trange ts) ρ) := by
  intro ρ F σ H Q S out
  refine we_of (L2.pe_tupRg hc hL.1 hL.2 (L2.prg_1 hR.1 hR.2 pe_we (star_cons hs)) rfl) ?_
  have h1 : SOs X G W C [a] (evOs ih [ca]) := sos_cons h sos_nil
  have z : WEs X [a] σ H (fun vs H2 => match vs with
    | [v] => ∃ i, v = .int i ∧ L2.RgOk 0 i ∧ ∀ q, H2 q = none → Q (.ref q) (L2.upd H2 q (.tup (L2.rgV 0 i)))
    | _ => False) := by
    have out1 : OutA G W C ρ σ F H (((evOs ih [ca] ρ).bind fun os ρ => match ress ρ os with
      | some ts => .ok ts ρ
      | none => .bad).bind fun ts ρ => ofA? (biT .trange ts) ρ) Q := out
    refine h1 ρ F σ H _ S ?_
    cases q : evOs ih [ca] ρ with
    | exc c ts ρ' => rw [q] at out1; exact out1
    | bad => rw [q] at out1; exact out1
    | ok os ρ1 =>
      rw [q] at out1
      intro F1 H1 vs st ops
      dsimp only [R.bind] at out1
      cases q2 : ress ρ1 os with
      | none => rw [q2] at out1; exact out1.elim
      | some ts =>
        rw [q2] at out1
        dsimp only at out1
        have pr := ress_ok st.sim ops q2
        match ts, pr, out1 with
        | [.int j], pr, out1 =>
          obtain ⟨v, r1, e1, h1, h2⟩ := pr
          cases (show r1 = [] from h2)
          subst e1
          cases (show v = _ from h1)
          have o2 : OutA G W C ρ σ F H (ofA? (if 0 ≤ j ∧ j ≤ 16777216 then some (A.t (.tup (rgs j.toNat))) else none) ρ1) Q := out1
          split at o2
          · rename_i hb
            exact ⟨j, rfl, L2.RgOk.of_le (Int.le_refl 0) hb.2 (by omega) hb.1, fun q hq => (Wants.of o2 st).tup st.sim (reps_rg hb.1) q hq⟩
          · exact o2.elim
        | [], pr, out1 => exact out1.elim
        | [.non], pr, out1 => exact out1.elim
        | [.bl _], pr, out1 => exact out1.elim
        | [.str _], pr, out1 => exact out1.elim
        | [.lst _], pr, out1 => exact out1.elim
        | [.tup _], pr, out1 => exact out1.elim
        | [.ins _ _], pr, out1 => exact out1.elim
        | [.scr _], pr, out1 => exact out1.elim
        | [.dit _ _], pr, out1 => exact out1.elim
        | [.dik _ _], pr, out1 => exact out1.elim
        | x :: y :: r, pr, out1 => exact (show False from (by cases x <;> exact out1)).elim
  exact z
end
end PV

set_option Elab.async false
set_option linter.all false
set_option maxRecDepth 100000
set_option maxHeartbeats 1000000
/-! PV: displays of dicts; calls with names. -/
namespace PV
open PySem PySem.Spec PyProof.Rows
section
variable {X : L2.Cx} {G : Ga} {W : L2.WX} {C : FC} {ρ ρ' ρ0 ρ1 : Rho} {σ σ' : LSt} {F F' F0 F1 : FS} {H H' H0 H1 : L2.Hp} {e a b c tg iter elt : Expr} {es rest : List Expr} {pos p : Pos} {ih : Ex → Rho → R A} {ce ca cb cc ct : Ex} {vs : List Nat}
theorem se_dk0 : SE X G W C (.Dict [] [] pos) (fun ρ => .ok (.t (.dit [] [])) ρ) := by
  intro ρ F σ H Q S out
  refine we_of L2.pe_dnewT fun q hq => ?_
  have w : Wants C σ ρ F H (.t (.dit [] [])) Q := Wants.of out (.rfl' S)
  exact new_dit (m := []) S w hq .nil
/-- from a state in which a thing of nobody's is given its last content and frozen -/
theorem Step.seal (Ss : Sim C F ρ σ H) {p : Addr} {o o' : L2.HO} (hp : H p = none) (st : Step C ρ σ F (L2.upd H p o) ρ' σ F' H') (hF : ¬ F' p) (hO : ¬ Own ρ' σ p) : Step C ρ σ F H ρ' σ (fun q => F' q ∨ q = p) (L2.upd H' p o') := by
  have hC := Ss.h0 hp
  have nn : ∀ q u, H q = some u → q ≠ p := fun q u h => L2.ne_of_none h hp
  have S' := st.sim
  have e : Ext F' H' (fun q => F' q ∨ q = p) (L2.upd H' p o') := ⟨fun q h => .inl h, fun q u h z => by rw [L2.upd_ne (show q ≠ p from fun y => hF (y ▸ h))]; exact z⟩
  refine ⟨fun q h => .inl (st.sub q h), fun q u h n => ?_, fun q h => ?_, fun q h => ?_, fun q h => ?_, ?_⟩
  · have ne := nn q u h
    rw [L2.upd_ne ne]
    exact st.keep q u (by rw [L2.upd_ne ne]; exact h) n
  · rcases h with h | h
    · rcases st.new q h with z | z | z
      · exact .inl z
      · by_cases y : q = p
        · subst y; exact absurd h hF
        · rw [L2.upd_ne y] at z; exact .inr (.inl z)
      · exact .inr (.inr z)
    · exact .inr (.inl (by rw [h]; exact hp))
  · rcases st.own q h with z | z
    · exact .inl z
    · by_cases y : q = p
      · subst y; exact absurd h hO
      · rw [L2.upd_ne y] at z; exact .inr z
  · by_cases y : q = p
    · rw [y, L2.upd_same]; simp
    · rw [L2.upd_ne y]
      exact st.there q (by rw [L2.upd_ne y]; exact h)
  · refine S'.move e (fun q h => ?_) (fun q h => ?_) (fun q u h n => ?_) (fun q h => ?_) fun q h => ?_
    · by_cases y : q = p
      · rw [y, L2.upd_same]; simp
      · rw [L2.upd_ne y]
        rcases h with h | h
        · exact S'.frz q h
        · exact absurd h y
    · rcases h with h | h
      · exact S'.frN q h
      · exact .inr (by rw [h]; exact hC)
    · have ne : q ≠ p := fun y => by rw [y, hC] at h; cases h
      rw [L2.upd_ne ne]
      exact S'.out q u h n
    · have ne : q ≠ p := fun y => h (by rw [y]; exact hC)
      rw [L2.upd_ne ne]
      exact S'.dom q h
    · have ne : q ≠ p := fun y => hO (y ▸ h)
      refine ⟨L2.upd_ne ne, fun z => ?_⟩
      rcases z with z | z
      · exact S'.nown z h
      · exact ne z
theorem se_dk1 {i : Int} {j : Nat} {kp : Pos} (h : SO X G W C e (evO ih ce)) : SE X G W C (.Dict [some (.Constant (.int i) j kp)] [e] pos) (fun ρ => (evF ih ce ρ).bind fun t ρ => .ok (.t (.dik [.inl i] [t])) ρ) := by
  intro ρ F σ H Q S out
  refine we_of (L2.pe_disp (L2.pps_cons L2.pe_int pe_we L2.pps_nil) rfl rfl (by simp) (by simp)) fun p hp => ?_
  have st0 : Step C ρ σ F H ρ σ F (L2.upd H p (.dK [])) := (Step.rfl' S).alloc hp (fun _ h => h) fun _ h => .inl h
  have S0 := st0.sim
  have nF : ¬ F p := fun z => S.frz p z hp
  have nO : ¬ Own ρ σ p := fun z => by
    obtain ⟨i, k, xs, h1, h2⟩ := z
    obtain ⟨q, vs, h3, h4, _⟩ := S.own h1
    rw [h2] at h3
    cases h3
    rw [hp] at h4
    cases h4
  refine h ρ F σ _ _ S0 ?_
  have out1 : OutA G W C ρ σ F H (((evO ih ce ρ).bind fun o ρ => match frz ρ o with
    | some (t, ρ) => .ok t ρ
    | none => .bad).bind fun t ρ => .ok (.t (.dik [.inl i] [t])) ρ) Q := out
  cases q1 : evO ih ce ρ with
  | bad => rw [q1] at out1; exact out1.elim
  | exc c ts ρ' => rw [q1] at out1; exact OutX.later st0 out1
  | ok o ρ' =>
  rw [q1] at out1
  intro F' H' v st op
  dsimp only [R.bind] at out1
  cases q2 : frz ρ' o with
  | none => rw [q2] at out1; exact out1.elim
  | some pr =>
  obtain ⟨t, ρ2⟩ := pr
  rw [q2] at out1
  obtain ⟨F1, st1, x1, rep, _⟩ := frz_ok S0 st op q2
  have nN : L2.upd H p (.dK []) p ≠ none := by rw [L2.upd_same]; simp
  have nF1 : ¬ F1 p := fun z => by
    rcases st1.new p z with z | z | z
    · exact nF z
    · exact nN z
    · exact nO z
  have nO1 : ¬ Own ρ2 σ p := fun z => by
    rcases st1.own p z with z | z
    · exact nO z
    · exact nN z
  have fin : Step C ρ σ F H ρ2 σ (fun q => F1 q ∨ q = p) (L2.upd H' p (.dK [(.inl i, v)])) := Step.seal S hp st1 nF1 nO1
  refine ⟨st.keep p _ L2.upd_same nO, [(.inl i, v)], rfl, by simp, ?_⟩
  refine out1 _ _ (.ref p) fin ⟨p, [v], rfl, .inr rfl, L2.upd_same, rfl, v, [], rfl, RepT.mono ⟨fun q h => .inl h, fun q u h z => ?_⟩ t v rep, rfl⟩
  rw [L2.upd_ne (show q ≠ p from fun y => nF1 (y ▸ h))]
  exact z
/-! ### calls with names -/
theorem WEs.append : ∀ {es es2 : List Expr} {H : L2.Hp} {K : List L2.V → L2.Hp → Prop}, WEs X (es ++ es2) σ H K → WEs X es σ H fun vs H1 => WEs X es2 σ H1 fun ws H2 => K (vs ++ ws) H2
  | [], _, _, _, h => h
  | _ :: es, _, _, _, h => WE.mono h fun v H1 q => WEs.append (es := es) q
theorem WEs.len : ∀ {es : List Expr} {H : L2.Hp} {K : List L2.V → L2.Hp → Prop}, WEs X es σ H K → WEs X es σ H fun vs H1 => vs.length = es.length ∧ K vs H1
  | [], _, _, h => ⟨rfl, h⟩
  | _ :: es, _, _, h => WE.mono h fun v H1 q => WEs.mono (WEs.len (es := es) q) fun vs H2 q2 => ⟨congrArg Nat.succ q2.1, q2.2⟩
theorem pk_wes : ∀ {kws : List Keyword}, L2.PK X kws (WEs X (kws.map (·.value)))
  | [] => L2.pk_nil
  | ⟨_, _, _⟩ :: kws => L2.pk_cons pe_we pk_wes
/-- named arguments -/
def kwNames : List Keyword → Option (List Str)
  | [] => some []
  | ⟨some x, _, _⟩ :: r => (kwNames r).map (x :: ·)
  | ⟨none, _, _⟩ :: _ => none
theorem kw_names {env : PySem.Env} : ∀ {kws : List Keyword} {ks : List Str}, kwNames kws = some ks → (backToKw pos (keywordEach kws env)).all (·.1.isSome) = true ∧ (backToKw pos (keywordEach kws env)).filterMap (·.1) = ks ∧ (backToKw pos (keywordEach kws env)).any (·.1.isNone) = false ∧ kws.length = ks.length
  | [], _, h => by cases h; exact ⟨rfl, rfl, rfl, rfl⟩
  | ⟨some x, e, kp⟩ :: r, _, h => by
    obtain ⟨ks, e1, e2⟩ := Option.map_eq_some_iff.mp (show (kwNames r).map (x :: ·) = some _ from h)
    subst e2
    obtain ⟨h1, h2, h3, h4⟩ := kw_names (env := env) e1
    exact ⟨h1, by show x :: List.filterMap _ _ = _; rw [← h2]; rfl, h3, congrArg Nat.succ h4⟩
  | ⟨none, _, _⟩ :: _, _, h => by cases h
theorem place_ok {Hs : L2.Hp} {os : List Opd} {vs : List L2.V} (h : OpReps C.K σ Hs ρ F H os vs) : ∀ {is : List Nat} {os' : List Opd}, place os (is.map Sum.inl) = some os' → OpReps C.K σ Hs ρ F H os' (is.filterMap fun i => vs[i]?) ∧ ∀ i ∈ is, i < vs.length
  | [], _, e => by cases e; exact ⟨rfl, fun i hi => (nomatch hi)⟩
  | i :: is, os', e => by
    have e' : (match os[i]? with
      | some o => (place os (is.map Sum.inl)).map (o :: ·)
      | none => none) = some os' := e
    cases q : os[i]? with
    | none => rw [q] at e'; cases e'
    | some o =>
      rw [q] at e'
      obtain ⟨r, e1, e2⟩ := Option.map_eq_some_iff.mp e'
      subst e2
      obtain ⟨h1, h2⟩ := place_ok h e1
      obtain ⟨v, g1, g2⟩ := h.get q
      refine ⟨?_, fun j hj => ?_⟩
      · rw [List.filterMap_cons, g1]
        exact ⟨v, _, rfl, g2, h1⟩
      · rcases List.mem_cons.mp hj with rfl | hj
        · exact (List.getElem?_eq_some_iff.mp g1).1
        · exact h2 j hj
theorem vals_pick {vs : List L2.V} {us : List Value} (r : L2.Vals vs us) : ∀ {is : List Nat}, L2.Vals (is.filterMap fun i => vs[i]?) (is.filterMap fun i => us[i]?)
  | [] => .nil
  | i :: is => by
    rw [List.filterMap_cons, List.filterMap_cons]
    cases q : vs[i]? with
    | none => rw [r.none_of q]; exact vals_pick r
    | some v =>
      obtain ⟨u, h1, h2⟩ := r.get q
      rw [h1]
      exact .cons h2 (vals_pick r)
theorem run_kw {pins : List (Addr × Obj)} {Fo : Orc} {d f : Nat} {md : List Md} {fa : Addr} {fd : FuncData} {ps ks : List Str} {us ws : List Value} {vs : List L2.V} {s : Shared} {Q : L2.VK} (F : FnG X.prog X.w X.K X.mg X.base (L2.CX X.prog X.w) d fa fd ps (SpF X.K G Fo md f)) (gd : X.A.guards = some []) (hr : L2.Room d X.A) (tk : L2.Takes X W)
    (hb : KwB X.K fd ps us.length ks) (hl : ws.length = ks.length) (I : L2.Inv X pins σ H s) (r : L2.Vals vs (us ++ ws)) (q : SpF X.K G Fo md f ((ordOf ps us.length ks).filterMap fun i => vs[i]?) H Q (L2.WE W σ)) :
    wpAny (model X.prog X.w) X.A (call (.ref fa) us (ks.zip ws)) (L2.EP X pins σ Q) X.xe s :=
  F.call gd hr (hb s us ws rfl hl I.kIn) (L2.passAt tk σ) I (vals_pick r) q
theorem se_callk {Fo : Orc} {d f : Nat} {md : List Md} {x : Str} {ps : List Str} {kwp : List (Nat × List Str)} {kws : List Keyword} {ks : List Str} {cs : List Ex} (hK : X.K = C.K) (gd : X.A.guards = some []) (Fu : FunAt X.prog X.w X.K X.mg X.base G Fo d f md x ps kwp) (hr : L2.Room d X.A) (hg : L2.Gl X x) (hdb : (x == ("__debug__" : Str)) = false) (tk : L2.Takes X W)
    (hss : es.all (fun e => !isStar e) = true) (hk : kwNames kws = some ks) (hkw : (es.length, ks) ∈ kwp) (h : SOs X G W C (es ++ kws.map (·.value)) (evOs ih cs)) :
    SE X G W C (.Call (.Name x p) es kws pos) (fun ρ => (evOs ih cs ρ).bind fun os ρ => match place os ((ordOf ps es.length ks).map .inl) with
      | some os => callWith Fo f md os ρ
      | none => .bad) := by
  intro ρ F σ H Q S out
  obtain ⟨fa, fd, fok, hm, hkp, _, hkb⟩ := Fu.ex
  have kb := hkb _ hkw
  have base : WEs X (es ++ kws.map (·.value)) σ H fun vs H1 => SpF X.K G Fo md f ((ordOf ps es.length ks).filterMap fun i => vs[i]?) H1 Q (L2.WE W σ) := by
    refine h ρ F σ H _ S (outOs_bind out fun os ρ1 o1 F1 H1 ws st ops => ?_)
    cases q : place os ((ordOf ps es.length ks).map .inl) with
    | none => rw [q] at o1; exact o1.elim
    | some os' =>
      rw [q] at o1
      rw [hK]
      exact call_ok S st (place_ok ops q).1 o1
  obtain ⟨k1, k2, k3, k4⟩ := kw_names (pos := pos) (env := X.env) hk
  intro pins s I
  refine wpAny_Call_Name_kw (L2.ld_glob I hg hm ?_ hdb)
  have fin : ∀ {us ws : List Value} {vs zs : List L2.V} {s2 : Shared} {H2 : L2.Hp}, L2.Vals vs us → L2.Vals zs ws → vs.length = es.length → zs.length = (kws.map (·.value)).length → L2.Inv X pins σ H2 s2 → SpF X.K G Fo md f ((ordOf ps es.length ks).filterMap fun i => (vs ++ zs)[i]?) H2 Q (L2.WE W σ) →
      X.K.In s2.heap ∧ wpAny (model X.prog X.w) X.A (call (.ref fa) ([] ++ us) (((backToKw pos (keywordEach kws X.env)).filterMap (·.1)).zip ws)) (L2.EP X pins σ Q) X.xe s2 := by
    intro us ws vs zs s2 H2 r1 r2 l1 l2 I2 q2
    refine ⟨I2.kIn, ?_⟩
    rw [k2]
    have lu : us.length = es.length := by rw [← r1.length]; exact l1
    rw [← lu] at kb q2
    exact run_kw (us := us) fok gd hr tk kb (by rw [← r2.length, l2, List.length_map, k4]) I2 (r1.append r2) q2
  have both := WEs.len (WEs.append base)
  cases es with
  | nil =>
    refine PySem.W.callWith_KW0 (h₀ := X.base) I.ok.mod.kin hkp k1 (L2.thn (pk_wes.run pos pins s σ H _ I (WEs.len both.2)) ?_) (by show (false || _) = false; rw [k3]; rfl)
    rintro ws s2 ⟨zs, H2, I2, rz, l2, q2⟩
    exact fin (us := []) (vs := []) .nil rz rfl l2 I2 q2
  | cons e0 es0 =>
    have hst : isStar e0 = false ∧ es0.all (fun e => !isStar e) = true := by
      have h1 : (!isStar e0 && es0.all fun e => !isStar e) = true := hss
      rw [Bool.and_eq_true, Bool.not_eq_true'] at h1
      exact h1
    refine PySem.W.callWith_KW (h₀ := X.base) I.ok.mod.kin hkp k1 (L2.thn ((pa_wes hss).run pos pins s σ H _ I both) ?_) (by rw [star_plain hss, k3]; rfl) (star_cons hst.1)
    rintro us s1 ⟨vs, H1, I1, r, l1, q⟩
    refine L2.thn (pk_wes.run pos pins s1 σ H1 _ I1 (WEs.len q)) ?_
    rintro ws s2 ⟨zs, H2, I2, rz, l2, q2⟩
    exact fin r rz l1 l2 I2 q2
end
end PV

set_option Elab.async false
set_option linter.all false
set_option maxRecDepth 100000
set_option maxHeartbeats 4000000
/-! PV, soundness 18: from expressions to codes. -/
namespace PV
open PySem PySem.Spec PyProof.Rows
/-- what is known of a context, without the context -/
structure Cc where
  N : List Str
  sc : Scope
  fn : Str → Bool
  fns : List (Str × Nat × List Md × List Str × List (Nat × List Str))
  bts : List Str
  consts : List (Str × Int)
def slotC (cc : Cc) (x : Str) : Option Nat :=
  if cc.N[cc.N.idxOf x]? = some x ∧ (cc.sc.names.lookup x = some .local ∨ cc.sc.names.lookup x = some .cell ∨ cc.sc.names.lookup x = some .free) ∧ (x == ("__debug__" : Str)) = false ∧ (x == ("__classdict__" : Str)) = false
  then some (cc.N.idxOf x) else none
def storeC (cc : Cc) (x : Str) : Option Nat :=
  if cc.N[cc.N.idxOf x]? = some x ∧ (cc.sc.names.lookup x = some .local ∨ (cc.sc.names.lookup x = some .cell ∧ cc.fn x = true)) then some (cc.N.idxOf x) else none
def glC (cc : Cc) (x : Str) : Bool := decide (cc.sc.names.lookup x = some .globalImplicit)
def btC (cc : Cc) (x : Str) : Bool := glC cc x && cc.bts.contains x
def binC : Operator → Option Bin
  | .Add => some .add | .Sub => some .sub | .Mult => some .mul | .FloorDiv => some .fdiv | .Mod => some .mod | .Pow => some .pow | .LShift => some .shl
  | _ => none
def cmpC' : CmpOp → Option Cmp
  | .Eq => some .eq | .NotEq => some .ne | .Lt => some .lt | .LtE => some .le | .Gt => some .gt | .GtE => some .ge | .In => some .isin | .NotIn => some .notin
  | _ => none
theorem binC_ok {op : Operator} {o : Bin} (h : binC op = some o) : op = opOf o := by cases op <;> cases h <;> rfl
theorem cmpC_ok {op : CmpOp} {o : Cmp} (h : cmpC' op = some o) : op = cmpOf o := by cases op <;> cases h <;> rfl
def nostar (es : List Expr) : Bool := es.all fun e => !isStar e
/-- a module's number -/
def conC (cc : Cc) (x : Str) : Option Int := if glC cc x = true ∧ (x == ("__debug__" : Str)) = false then (cc.consts.find? fun p => p.1 == x).map (·.2) else none
def nameC (cc : Cc) (x : Str) : Option Ex := match slotC cc x with
  | some i => some (.loc i)
  | none => (conC cc x).map fun i => .con (.int i)
def cO (r : Expr → Option Ex) (cc : Cc) (e : Expr) : Option Ex := match e with
  | .Name x _ => nameC cc x
  | e => match r e with
    | some ce => if notLoc ce then some ce else none
    | none => none
def mapO (f : Expr → Option Ex) : List Expr → Option (List Ex)
  | [] => some []
  | e :: es => match f e, mapO f es with
    | some c, some cs => some (c :: cs)
    | _, _ => none
def biL : List (Str × Nat × Bi) := [("len", 1, .len), ("list", 1, .list), ("tuple", 1, .tuple), ("sorted", 1, .sorted), ("all", 1, .all), ("any", 1, .any), ("sum", 1, .sum), ("max", 2, .max2), ("min", 2, .min2), ("abs", 1, .abs), ("int", 1, .int), ("divmod", 2, .divmod), ("repr", 1, .repr), ("dict", 1, .dict)]
def biC (x : Str) (n : Nat) : Option Bi := (biL.find? fun p => p.1 == x && p.2.1 == n).map (·.2.2)
def tyC (cc : Cc) : Expr → Option Ty
  | .Name x _ => if btC cc x then (if x = "int" then some .int else if x = "bool" then some .bool else if x = "str" then some .str else if x = "list" then some .list else if x = "tuple" then some .tuple else none) else none
  | _ => none
def tysC (cc : Cc) : List Expr → Option (List Ty)
  | [] => some []
  | e :: es => match tyC cc e, tysC cc es with
    | some t, some ts => some (t :: ts)
    | _, _ => none
def nmsC (cc : Cc) : List Expr → Option (List Nat)
  | [] => some []
  | .Name x _ :: es => match storeC cc x, nmsC cc es with
    | some i, some is => some (i :: is)
    | _, _ => none
  | _ :: _ => none
/-- list(range(a)), tuple(range(a)): a -/
def rgC (cc : Cc) (x : Str) : List Expr → Option Expr
  | [.Call (.Name y _) [a] [] _] => if (x = "list" ∨ x = "tuple") ∧ y = "range" ∧ btC cc x = true ∧ btC cc y = true ∧ isStar a = false then some a else none
  | _ => none
/-- a target of a loop -/
def tgC (cc : Cc) : Expr → Option (List Nat × Bool)
  | .Name x _ => (storeC cc x).map fun i => ([i], false)
  | .Tuple es _ _ => (nmsC cc es).map fun is => (is, true)
  | _ => none
/-- what is walked: its kind, its operands -/
def itC (cc : Cc) (tg : Expr) (e : Expr) : Nat × List Expr := match e with
  | .Call (.Name x _) args [] _ =>
    if btC cc x then
      if x = "range" then match args with
        | [a] => (1, [a])
        | [a, b] => (2, [a, b])
        | _ => (0, [e])
      else if x = "enumerate" then match args, tg with
        | [a], .Tuple .. => (3, [a])
        | _, _ => (0, [e])
      else if x = "zip" then match args, tg with
        | [a, b], .Tuple .. => (4, [a, b])
        | _, _ => (0, [e])
      else (0, [e])
    else (0, [e])
  | _ => (0, [e])
def ownC (N : List Str) (scope : Scope) : List (Str × Nat) := (scope.names.filter fun y => y.2 == .local || y.2 == .cell).filterMap fun y => if N[N.idxOf y.1]? = some y.1 then some (y.1, N.idxOf y.1) else none
def Cc.blk (cc : Cc) (scope : Scope) : Cc := { cc with sc := L2.relS scope cc.sc, fn := fun x => scope.names.lookup x == some .cell }
def cDict (r : Expr → Option Ex) : List (Option Expr) → List Expr → Option Ex
  | [], [] => some .dk0
  | [some (.Constant (.int i) _ _)], [e] => (r e).map (.dk1 i)
  | _, _ => none
/-- a test or a value: t -/
def cEx : Nat → Bool → Cc → Expr → Option Ex
  | 0, _, _, _ => none
  | n + 1, t, cc, e => match e with
    | .Compare a [op] [b] _ => match op, b with
      | .Is, .Constant .none _ _ => (cO (cEx n false cc) cc a).map (.isn false)
      | .IsNot, .Constant .none _ _ => (cO (cEx n false cc) cc a).map (.isn true)
      | .Is, .Constant (.bool k) _ _ => (cO (cEx n false cc) cc a).map fun c => .isb false c k
      | .IsNot, .Constant (.bool k) _ _ => (cO (cEx n false cc) cc a).map fun c => .isb true c k
      | op, b => match cmpC' op, cO (cEx n false cc) cc a, cO (cEx n false cc) cc b with
        | some o, some ca, some cb => if behindInMarks (cmpOf o) b = false then some (.cmp o ca cb) else none
        | _, _, _ => none
    | .Compare a [o1, o2] [b, c] _ => match cmpC' o1, cmpC' o2, cO (cEx n false cc) cc a, cO (cEx n false cc) cc b, cO (cEx n false cc) cc c with
      | some o, some p, some ca, some cb, some cd => if lastMarks [cmpOf o, cmpOf p] [b, c] = false then some (.chn o p ca cb cd) else none
      | _, _, _, _, _ => none
    | .UnaryOp .Not a _ => match t with
      | true => (cEx n true cc a).map .not_
      | false => (cO (cEx n false cc) cc a).map .not_
    | .BoolOp .And [a] _ => cEx n t cc a
    | .BoolOp .Or [a] _ => cEx n t cc a
    | .BoolOp .And (a :: b :: r) pos => match t with
      | true => match cEx n true cc a, cEx n true cc (.BoolOp .And (b :: r) pos) with
        | some ca, some cb => some (.tand ca cb)
        | _, _ => none
      | false => match cO (cEx n false cc) cc a, cEx n false cc (.BoolOp .And (b :: r) pos) with
        | some ca, some cb => some (.and_ ca cb)
        | _, _ => none
    | .BoolOp .Or (a :: b :: r) pos => match t with
      | true => match cEx n true cc a, cEx n true cc (.BoolOp .Or (b :: r) pos) with
        | some ca, some cb => some (.tor ca cb)
        | _, _ => none
      | false => match cO (cEx n false cc) cc a, cEx n false cc (.BoolOp .Or (b :: r) pos) with
        | some ca, some cb => some (.or_ ca cb)
        | _, _ => none
    | .IfExp c a b _ => match t, cEx n true cc c, cEx n false cc a, cEx n false cc b with
      | false, some cd, some ca, some cb => some (.ite cd ca cb)
      | _, _, _, _ => none
    | e => match t with
      | true => match plainT e with
        | true => cO (cEx n false cc) cc e
        | false => none
      | false => match e with
        | .Constant (.int i) _ _ => some (.con (.int i))
        | .Constant (.str s) _ _ => some (.con (.str s))
        | .Constant (.bool b) _ _ => some (.con (.bl b))
        | .Constant .none _ _ => some (.con .non)
        | .Name x _ => nameC cc x
        | .List es _ => match nostar es, mapO (cO (cEx n false cc) cc) es with
          | true, some cs => some (.lst cs)
          | _, _ => none
        | .Dict keys vals _ => cDict (cO (cEx n false cc) cc) keys vals
        | .Tuple es _ _ => match nostar es, mapO (cO (cEx n false cc) cc) es with
          | true, some cs => some (.tup cs)
          | _, _ => none
        | .BinOp a op b _ => match binC op, cO (cEx n false cc) cc a, cO (cEx n false cc) cc b with
          | some o, some ca, some cb => some (.bin o ca cb)
          | _, _, _ => none
        | .UnaryOp .USub a _ => (cO (cEx n false cc) cc a).map .neg
        | .Subscript a i _ => match i with
          | .Slice none none (some (.UnaryOp .USub (.Constant (.int 1) _ _) _)) _ => (cO (cEx n false cc) cc a).map .rev
          | .Slice lo hi none _ => match cO (cEx n false cc) cc a, (match lo with | none => some none | some e => (cO (cEx n false cc) cc e).map some : Option (Option Ex)), (match hi with | none => some none | some e => (cO (cEx n false cc) cc e).map some : Option (Option Ex)) with
            | some ca, some cl, some ch => some (.slc ca cl ch)
            | _, _, _ => none
          | i => match plainIx i, cO (cEx n false cc) cc a, cO (cEx n false cc) cc i with
            | true, some ca, some ci => some (.idx ca ci)
            | _, _, _ => none
        | .Call (.Name x _) args [] _ =>
          if x = "isinstance" then match args with
            | [a, .Tuple es _ _] => match btC cc x && !isStar a, cO (cEx n false cc) cc a, tysC cc es with
              | true, some ca, some ts => if ts.length ≤ 100 then some (.isi ca ts) else none
              | _, _, _ => none
            | [a, ty] => match btC cc x && !isStar a, cO (cEx n false cc) cc a, tyC cc ty with
              | true, some ca, some t => some (.isi ca [t])
              | _, _, _ => none
            | _ => none
          else match rgC cc x args with
            | some a => (cO (cEx n false cc) cc a).map fun ca => .bi (if x = "list" then .lrange else .trange) [ca]
            | none => cCall x args (mapO (cO (cEx n false cc) cc) args) (match args with | [e] => cEx n false cc e | _ => none) cc
        | .Call (.Name x _) args (kw :: kws) _ => cCallK x args (kw :: kws) (mapO (cO (cEx n false cc) cc) (args ++ (kw :: kws).map (·.value))) cc
        | .Call (.Attribute (.Name x _) m apos) args [] pos => match slotC cc x, (apos.endLine == pos.line) && nostar args with
          | some i, true =>
            if m = "append" then match args with
              | [e] => (cO (cEx n false cc) cc e).map (.app i)
              | _ => none
            else if m = "extend" then match args with
              | [e] => (cO (cEx n false cc) cc e).map (.ext i)
              | _ => none
            else if m = "pop" then match args with
              | [] => some (.pop i)
              | [e] => (cO (cEx n false cc) cc e).map (.popA i)
              | _ => none
            else if m = "index" then match args with
              | [e] => (cO (cEx n false cc) cc e).map (.ixof (.loc i))
              | _ => none
            else none
          | _, _ => none
        | .ListComp elt [⟨tg, iter, ifs, 0⟩] scope _ => match L2.blkC cc.N cc.sc scope (ownC cc.N scope) && noSetE iter && nostar (itC cc tg iter).2, mapO (cO (cEx n false cc) cc) (itC cc tg iter).2, tgC (cc.blk scope) tg,
            (match ifs with | [] => some none | [c] => (cEx n true (cc.blk scope) c).map some | _ => none : Option (Option Ex)), cO (cEx n false (cc.blk scope)) (cc.blk scope) elt with
          | true, some its, some (tgs, tp), some cond, some ct => if tgs.all fun i => ((ownC cc.N scope).map (·.2)).contains i then some (.comp ((ownC cc.N scope).map (·.2)) tgs tp (itC cc tg iter).1 its cond ct) else none
          | _, _, _, _, _ => none
        | _ => none
where
  /-- x(args, k = v ..) -/
  cCallK (x : Str) (args : List Expr) (kws : List Keyword) (cs : Option (List Ex)) (cc : Cc) : Option Ex := match nostar args && glC cc x && !(x == ("__debug__" : Str)), kwNames kws, cc.fns.find? fun p => p.1 == x, cs with
    | true, some ks, some (_, f, _, ps, kwp), some cs => if (args.length, ks) ∈ kwp ∧ ps ≠ [] then some (.call f ((ordOf ps args.length ks).map .inl) cs) else none
    | _, _, _, _ => none
  /-- x(args), by the codes of its operands; of its one operand as a value -/
  cCall (x : Str) (args : List Expr) (cs : Option (List Ex)) (c1 : Option Ex) (cc : Cc) : Option Ex := match nostar args, (x == ("__debug__" : Str)) with
    | true, false => match biC x args.length, btC cc x with
      | some b, true => cs.map (.bi b)
      | _, _ => match cc.fns.find? fun p => p.1 == x, glC cc x with
        | some (_, f, md, _), true => match md, c1 with
          | [.chg], some ce => if notLoc ce then some (.call1 f ce) else cs.map (.call f [])
          | _, _ => cs.map (.call f [])
        | _, _ => none
    | _, _ => none
end PV

set_option Elab.async false
set_option linter.all false
set_option maxRecDepth 100000
set_option maxHeartbeats 4000000
/-! PV, soundness 19: what the compiler's parts say. -/
namespace PV
open PySem PySem.Spec PyProof.Rows
structure Good (cc : Cc) (X : L2.Cx) (W : L2.WX) (C : FC) (G : Ga) (P : Pg) (Fo : Orc) (d : Nat) : Prop where
  N : X.N = cc.N
  nd : X.N.Nodup
  sc : X.env.scope = cc.sc
  fn : ∀ x, cc.fn x = true → X.fn x = true
  hK : X.K = C.K
  calm : X.calm = true
  room : L2.Room d X.A
  tk : L2.Takes X W
  bt : ∀ x ∈ cc.bts, X.mg x = none
  cn : ∀ q ∈ cc.consts, ∃ t, X.mg q.1 = some (.int q.2 t)
  gd : X.A.guards = some []
  fu : ∀ q ∈ cc.fns, FunAt X.prog X.w X.K X.mg X.base G Fo d q.2.1 q.2.2.1 q.1 q.2.2.2.1 q.2.2.2.2 ∧ ∃ fc, P.fns[q.2.1]? = some fc ∧ fc.md = q.2.2.1
section
variable {cc : Cc} {X : L2.Cx} {G : Ga} {W : L2.WX} {C : FC} {P : Pg} {Fo : Orc} {d L m : Nat} {e a b c tg iter elt : Expr} {es : List Expr} {pos p : Pos} {r : Expr → Option Ex} {ce : Ex}
theorem Good.units1 (g : Good cc X W C G P Fo d) : X.A.units + 100 < cLine := by
  have := g.room.un
  omega
theorem Good.units (g : Good cc X W C G P Fo d) : X.A.units + 65 < cLine := by
  have := g.room.un
  omega
theorem slotC_ok (g : Good cc X W C G P Fo d) {x : Str} {i : Nat} (h : slotC cc x = some i) : NameOk X i x := by
  unfold slotC at h
  split at h
  · rename_i q
    cases h
    refine ⟨by rw [g.N]; exact q.1, ?_, q.2.2.1, q.2.2.2⟩
    unfold L2.Vis
    rw [g.sc]
    exact q.2.1
  · cases h
theorem storeC_ok (g : Good cc X W C G P Fo d) {x : Str} {i : Nat} (h : storeC cc x = some i) : StoreOk X i x := by
  unfold storeC at h
  split at h
  · rename_i q
    cases h
    refine ⟨g.nd, by rw [g.N]; exact q.1, ?_, ?_⟩
    · unfold L2.Loc
      rw [g.sc]
      exact q.2.imp id fun z => z.1
    · rw [g.sc]
      rcases q.2 with z | z
      · exact .inr z
      · exact .inl (g.fn x z.2)
  · cases h
theorem glC_ok (g : Good cc X W C G P Fo d) {x : Str} (h : glC cc x = true) : L2.Gl X x := by
  have z := of_decide_eq_true h
  rw [← g.sc] at z
  exact z
theorem btC_ok (g : Good cc X W C G P Fo d) {x : Str} (h : btC cc x = true) : BtOk X x := by
  unfold btC at h
  rw [Bool.and_eq_true] at h
  exact ⟨glC_ok g h.1, g.bt x (List.contains_iff_mem.mp h.2)⟩
theorem nameC_ok (g : Good cc X W C G P Fo d) {x : Str} (h : nameC cc x = some ce) : (∃ i, ce = .loc i ∧ NameOk X i x) ∨ ∃ i, ce = .con (.int i) ∧ ∀ {pos : Pos}, L2.PE X (.Name x pos) (L2.tC (.int i)) := by
  unfold nameC at h
  split at h
  · rename_i i e1
    cases h
    exact .inl ⟨i, rfl, slotC_ok g e1⟩
  · obtain ⟨i, e1, e2⟩ := Option.map_eq_some_iff.mp h
    subst e2
    unfold conC at e1
    split at e1
    · rename_i hg
      obtain ⟨q, q1, q2⟩ := Option.map_eq_some_iff.mp e1
      have hq := List.find?_some q1
      have hx : q.1 = x := eq_of_beq hq
      obtain ⟨t, ht⟩ := g.cn q (List.mem_of_find?_eq_some q1)
      subst hx q2
      exact .inr ⟨_, rfl, L2.pe_glob (glC_ok g hg.1) ht ⟨t, rfl⟩ hg.2⟩
    · cases e1
/-- what a value's code says -/
def SEs (X : L2.Cx) (G : Ga) (W : L2.WX) (C : FC) (P : Pg) (Fo : Orc) (L : Nat) (e : Expr) (ce : Ex) : Prop := ∀ m, SE X G W C e (ev P Fo L m ce)
theorem cO_ok (g : Good cc X W C G P Fo d) (hr : ∀ ce, r e = some ce → SEs X G W C P Fo L e ce) (h : cO r cc e = some ce) (m : Nat) : SO X G W C e (evO (ev P Fo L m) ce) := by
  have other : (match r e with
      | some ce => if notLoc ce then some ce else none
      | none => none) = some ce → SO X G W C e (evO (ev P Fo L m) ce) := fun h => by
    cases q : r e with
    | none => rw [q] at h; cases h
    | some c =>
      rw [q] at h
      dsimp only at h
      split at h
      · rename_i hn
        cases h
        refine so_of_se (hr ce q m) fun i z => ?_
        rw [z] at hn
        cases hn
      · cases h
  cases e with
  | Name x p =>
    rcases nameC_ok g (show nameC cc x = some ce from h) with ⟨i, e1, e2⟩ | ⟨i, e1, e2⟩
    · subst e1
      exact so_loc e2
    · subst e1
      refine so_of_se (?_ : SE X G W C (.Name x p) (ev P Fo L m (.con (.int i)))) (fun j z => by cases z)
      cases m with
      | zero => exact fun ρ F σ H Q S o => o.elim
      | succ m => exact se_of_pe e2 fun _ _ => rfl
  | _ => exact other h
theorem mapO_ok {f : Expr → Option Ex} (hf : ∀ e ce, e ∈ es → f e = some ce → ∀ m, SO X G W C e (evO (ev P Fo L m) ce)) : ∀ {cs : List Ex}, mapO f es = some cs → ∀ m, SOs X G W C es (evOs (ev P Fo L m) cs) := by
  induction es with
  | nil => intro cs h m; cases h; exact sos_nil
  | cons e es ih =>
    intro cs h m
    unfold mapO at h
    split at h
    · rename_i c cs' e1 e2
      cases h
      exact sos_cons (hf e c List.mem_cons_self e1 m) (ih (fun e ce he => hf e ce (List.mem_cons_of_mem _ he)) e2 m)
    · cases h
theorem tyC_ok (g : Good cc X W C G P Fo d) {t : Ty} (h : tyC cc e = some t) : ∃ p, e = .Name (btN t) p ∧ BtOk X (btN t) ∧ btOk t = true := by
  cases e with
  | Name x p =>
    unfold tyC at h
    dsimp only at h
    split at h
    · rename_i hb
      have bt := btC_ok g hb
      split at h
      · rename_i z; subst z; cases h; exact ⟨p, rfl, bt, rfl⟩
      split at h
      · rename_i z; subst z; cases h; exact ⟨p, rfl, bt, rfl⟩
      split at h
      · rename_i z; subst z; cases h; exact ⟨p, rfl, bt, rfl⟩
      split at h
      · rename_i z; subst z; cases h; exact ⟨p, rfl, bt, rfl⟩
      split at h
      · rename_i z; subst z; cases h; exact ⟨p, rfl, bt, rfl⟩
      · cases h
    · cases h
  | _ => cases h
theorem tysC_ok (g : Good cc X W C G P Fo d) : ∀ {es : List Expr} {ts : List Ty}, tysC cc es = some ts → TyNames X es ts
  | [], ts, h => by cases h; exact .nil
  | e :: es, ts, h => by
    unfold tysC at h
    split at h
    · rename_i t ts' e1 e2
      cases h
      obtain ⟨p, rfl, hb, ht⟩ := tyC_ok g e1
      exact .cons hb ht (tysC_ok g e2)
    · cases h
theorem biC_ok {x : Str} {n : Nat} {bi : Bi} (h : biC x n = some bi) : x = biN bi ∧ biSup bi = true ∧ 1 ≤ n := by
  obtain ⟨q, e1, e2⟩ := Option.map_eq_some_iff.mp (show (biL.find? fun p => p.1 == x && p.2.1 == n).map (·.2.2) = some bi from h)
  have hq := List.find?_some e1
  rw [Bool.and_eq_true] at hq
  have hx : q.1 = x := eq_of_beq hq.1
  have hn : q.2.1 = n := eq_of_beq hq.2
  have hm := List.mem_of_find?_eq_some e1
  subst e2 hx hn
  have all : ∀ q ∈ biL, q.1 = biN q.2.2 ∧ biSup q.2.2 = true ∧ 1 ≤ q.2.1 := by decide +kernel
  exact all q hm
theorem nmsC_ok (g : Good cc X W C G P Fo d) : ∀ {es : List Expr} {is : List Nat}, nmsC cc es = some is → NmTs X es is
  | [], is, h => by cases h; exact .nil
  | .Name x p :: es, is, h => by
    unfold nmsC at h
    split at h
    · rename_i i is' e1 e2
      cases h
      exact .cons (storeC_ok g e1) (nmsC_ok g e2)
    · cases h
  | .BoolOp .. :: es, is, h => by cases h
  | .NamedExpr .. :: es, is, h => by cases h
  | .BinOp .. :: es, is, h => by cases h
  | .UnaryOp .. :: es, is, h => by cases h
  | .Lambda .. :: es, is, h => by cases h
  | .IfExp .. :: es, is, h => by cases h
  | .Dict .. :: es, is, h => by cases h
  | .Set .. :: es, is, h => by cases h
  | .ListComp .. :: es, is, h => by cases h
  | .SetComp .. :: es, is, h => by cases h
  | .DictComp .. :: es, is, h => by cases h
  | .GeneratorExp .. :: es, is, h => by cases h
  | .Await .. :: es, is, h => by cases h
  | .Yield .. :: es, is, h => by cases h
  | .YieldFrom .. :: es, is, h => by cases h
  | .Compare .. :: es, is, h => by cases h
  | .Call .. :: es, is, h => by cases h
  | .FormattedValue .. :: es, is, h => by cases h
  | .JoinedStr .. :: es, is, h => by cases h
  | .Constant .. :: es, is, h => by cases h
  | .Attribute .. :: es, is, h => by cases h
  | .Subscript .. :: es, is, h => by cases h
  | .Starred .. :: es, is, h => by cases h
  | .List .. :: es, is, h => by cases h
  | .Tuple .. :: es, is, h => by cases h
  | .Slice .. :: es, is, h => by cases h
theorem tgC_ok (g : Good cc X W C G P Fo d) {tgs : List Nat} {tp : Bool} (h : tgC cc tg = some (tgs, tp)) : SG X C tg tgs (bindTo tgs tp) := by
  cases tg with
  | Name x p =>
    obtain ⟨i, e1, e2⟩ := Option.map_eq_some_iff.mp (show (storeC cc x).map (fun i => ([i], false)) = some (tgs, tp) from h)
    cases e2
    exact sg_name (storeC_ok g e1)
  | Tuple es k p =>
    obtain ⟨is, e1, e2⟩ := Option.map_eq_some_iff.mp (show (nmsC cc es).map (fun is => (is, true)) = some (tgs, tp) from h)
    cases e2
    exact sg_tup g.hK g.calm (nmsC_ok g e1)
  | _ => cases h
/-- the target's store, the same in each block -/
def gOf (K : PySem.W.Frag) (tgs : List Nat) (tp : Bool) : L2.TG := match tp, tgs with
  | false, [i] => L2.gName i
  | _, tgs => L2.gTup K tgs.length (gNames tgs)
theorem tgC_pg (g : Good cc X W C G P Fo d) {tgs : List Nat} {tp : Bool} (h : tgC cc tg = some (tgs, tp)) : L2.PG X tg (gOf C.K tgs tp) ∧ SGr C tgs (bindTo tgs tp) (gOf C.K tgs tp) := by
  cases tg with
  | Name x p =>
    obtain ⟨i, e1, e2⟩ := Option.map_eq_some_iff.mp (show (storeC cc x).map (fun i => ([i], false)) = some (tgs, tp) from h)
    cases e2
    have s := storeC_ok g e1
    exact ⟨L2.pg_name s.1 s.2.1 s.2.2.1 s.2.2.2, sgr_name⟩
  | Tuple es k p =>
    obtain ⟨is, e1, e2⟩ := Option.map_eq_some_iff.mp (show (nmsC cc es).map (fun is => (is, true)) = some (tgs, tp) from h)
    cases e2
    have ns := nmsC_ok g e1
    have z := L2.pg_tup (pos := p) (k := k) g.calm (pgs_names ns) (names_len ns).1 (names_len ns).2
    rw [g.hK] at z
    exact ⟨z, sgr_tup⟩
  | _ => cases h
theorem itC_ok (g : Good cc X W C G P Fo d) : ItE X tg e (itC cc tg e).1 (itC cc tg e).2 := by
  unfold itC
  repeat' split
  all_goals first
    | exact .seq
    | (have hb := ‹btC cc _ = true›
       have z := ‹_ = Str.ofString "range"›
       subst z
       first
         | exact .rg1 (btC_ok g hb)
         | exact .rg2 (btC_ok g hb))
    | (have hb := ‹btC cc _ = true›
       have z := ‹_ = Str.ofString "enumerate"›
       subst z
       exact .en (btC_ok g hb))
    | (have hb := ‹btC cc _ = true›
       have z := ‹_ = Str.ofString "zip"›
       subst z
       exact .zp (btC_ok g hb))
theorem Good.blk (g : Good cc X W C G P Fo d) {scope : Scope} (s : Shared) (H : L2.Hp) (Cc' : Addr) (cl : List (Str × Addr)) (fp : List Addr) : Good (cc.blk scope) (X.blk s H scope (compEnvC scope cl Cc' X.env) fp) W0 C G P Fo d where
  N := g.N
  nd := g.nd
  sc := by
    show L2.relS scope X.env.scope = L2.relS scope cc.sc
    rw [g.sc]
  fn := fun x h => h
  hK := g.hK
  calm := g.calm
  room := g.room
  tk := L2.takes_none5
  bt := g.bt
  cn := g.cn
  gd := g.gd
  fu := g.fu
end
end PV

set_option Elab.async false
set_option linter.all false
set_option maxRecDepth 100000
set_option maxHeartbeats 4000000
/-! PV, soundness 20: the compiler of expressions is sound: tests. -/
namespace PV
open PySem PySem.Spec PyProof.Rows
def isBool : Expr → Bool
  | .BoolOp .. => true
  | _ => false
/-- a code is right in each context that is so -/
def Snd (P : Pg) (Fo : Orc) (L : Nat) (G : Ga) (d : Nat) (t : Bool) (cc : Cc) (e : Expr) (ce : Ex) : Prop := ∀ X W C, Good cc X W C G P Fo d → match t with
  | false => SEs X G W C P Fo L e ce
  | true => (∀ m, SB X G W C e (evB (ev P Fo L m) ce)) ∧ (isBool e = true → ∀ m, SW X G W C e (evB (ev P Fo L m) ce))
section
variable {cc : Cc} {X : L2.Cx} {G : Ga} {W : L2.WX} {C : FC} {P : Pg} {Fo : Orc} {d L m n : Nat} {t : Bool} {e a b c tg iter elt : Expr} {es : List Expr} {pos p : Pos} {r : Expr → Option Ex} {ce ca cb : Ex}
theorem se_bad : SE X G W C e (fun ρ => .bad) := fun ρ F σ H Q S o => o.elim
theorem sb_bad {ih : Ex → Rho → R A} (hn : notLoc ce = true) (hb : ih ce = fun ρ => .bad) : SB X G W C e (evB ih ce) := fun ρ F σ H Q S o => by
  have o1 : OutB G W C ρ σ F H (((evO ih ce ρ).bind fun o ρ => match res ρ o with
    | some t => .ok t ρ
    | none => .bad).bind fun t ρ => match truth t with
    | some b => .ok b ρ
    | none => .bad) Q := o
  rw [evO_eq hn, hb] at o1
  exact o1.elim
theorem sw_bad {ih : Ex → Rho → R A} (hn : notLoc ce = true) (hb : ih ce = fun ρ => .bad) : SW X G W C e (evB ih ce) := fun ρ F σ H Q S o => by
  have o1 : OutB G W C ρ σ F H (((evO ih ce ρ).bind fun o ρ => match res ρ o with
    | some t => .ok t ρ
    | none => .bad).bind fun t ρ => match truth t with
    | some b => .ok b ρ
    | none => .bad) Q := o
  rw [evO_eq hn, hb] at o1
  exact o1.elim
theorem ev0 : ev P Fo L 0 ce = fun ρ => .bad := rfl
/-- what both a value and a test of such a code need -/
theorem both (hn : notLoc ce = true) (hb : isBool e = false) (h1 : ∀ X W C, Good cc X W C G P Fo d → ∀ m, SE X G W C e (ev P Fo L (m + 1) ce)) (h2 : ∀ X W C, Good cc X W C G P Fo d → ∀ m, SB X G W C e (evB (ev P Fo L (m + 1)) ce)) : Snd P Fo L G d t cc e ce := by
  intro X W C g
  cases t with
  | false =>
    intro m
    cases m with
    | zero => exact se_bad
    | succ m => exact h1 X W C g m
  | true =>
    refine ⟨fun m => ?_, fun z => by rw [hb] at z; cases z⟩
    cases m with
    | zero => exact sb_bad hn rfl
    | succ m => exact h2 X W C g m
abbrev IH (P : Pg) (Fo : Orc) (L : Nat) (G : Ga) (d n : Nat) : Prop := ∀ t cc e ce, cEx n t cc e = some ce → Snd P Fo L G d t cc e ce
theorem ro (ih : IH P Fo L G d n) (g : Good cc X W C G P Fo d) (h : cO (cEx n false cc) cc e = some ce) (m : Nat) : SO X G W C e (evO (ev P Fo L m) ce) := cO_ok g (fun ce h => ih false cc e ce h X W C g) h m
theorem snd_cmp {op : CmpOp} (ih : IH P Fo L G d n) (h : cEx (n + 1) t cc (.Compare a [op] [b] pos) = some ce) : Snd P Fo L G d t cc (.Compare a [op] [b] pos) ce := by
  unfold cEx at h
  dsimp only at h
  split at h
  · obtain ⟨ca, e1, e2⟩ := Option.map_eq_some_iff.mp h
    subst e2
    exact both rfl rfl (fun X W C g m => se_isN (ro ih g e1 m)) (fun X W C g m => sb_isN (ro ih g e1 m) rfl rfl)
  · obtain ⟨ca, e1, e2⟩ := Option.map_eq_some_iff.mp h
    subst e2
    exact both rfl rfl (fun X W C g m => se_notN (ro ih g e1 m)) (fun X W C g m => sb_notN (ro ih g e1 m) rfl rfl)
  · obtain ⟨ca, e1, e2⟩ := Option.map_eq_some_iff.mp h
    subst e2
    exact both rfl rfl (fun X W C g m => se_isB (ro ih g e1 m)) (fun X W C g m => sb_isB (ro ih g e1 m) rfl rfl)
  · obtain ⟨ca, e1, e2⟩ := Option.map_eq_some_iff.mp h
    subst e2
    exact both rfl rfl (fun X W C g m => se_notB (ro ih g e1 m)) (fun X W C g m => sb_notB (ro ih g e1 m) rfl rfl)
  · split at h
    · rename_i o ca cb e1 e2 e3
      split at h
      · rename_i hm
        cases h
        cases cmpC_ok e1
        exact both rfl rfl (fun X W C g m => se_cmp g.hK g.units hm (sos_cons (ro ih g e2 m) (sos_cons (ro ih g e3 m) sos_nil))) (fun X W C g m => sb_cmp g.hK g.units hm (sos_cons (ro ih g e2 m) (sos_cons (ro ih g e3 m) sos_nil)) rfl rfl)
      · cases h
    · cases h
theorem snd_chn {o1 o2 : CmpOp} (ih : IH P Fo L G d n) (h : cEx (n + 1) t cc (.Compare a [o1, o2] [b, c] pos) = some ce) : Snd P Fo L G d t cc (.Compare a [o1, o2] [b, c] pos) ce := by
  unfold cEx at h
  dsimp only at h
  split at h
  · rename_i o p ca cb cd e1 e2 e3 e4 e5
    split at h
    · rename_i hm
      cases h
      cases cmpC_ok e1
      cases cmpC_ok e2
      exact both rfl rfl (fun X W C g m => se_chn g.hK g.units hm (sos_cons (ro ih g e3 m) (sos_cons (ro ih g e4 m) sos_nil)) (ro ih g e5 m)) (fun X W C g m => sb_chn g.hK g.units hm (sos_cons (ro ih g e3 m) (sos_cons (ro ih g e4 m) sos_nil)) (ro ih g e5 m) rfl rfl)
    · cases h
  · cases h
theorem snd_not (ih : IH P Fo L G d n) (h : cEx (n + 1) t cc (.UnaryOp .Not a pos) = some ce) : Snd P Fo L G d t cc (.UnaryOp .Not a pos) ce := by
  unfold cEx at h
  dsimp only at h
  intro X W C g
  cases t with
  | true =>
    obtain ⟨ca, e1, e2⟩ := Option.map_eq_some_iff.mp h
    subst e2
    refine ⟨fun m => ?_, fun z => by cases z⟩
    cases m with
    | zero => exact sb_bad rfl rfl
    | succ m => exact sb_not ((ih true cc a ca e1 X W C g).1 m) rfl rfl
  | false =>
    obtain ⟨ca, e1, e2⟩ := Option.map_eq_some_iff.mp h
    subst e2
    intro m
    cases m with
    | zero => exact se_bad
    | succ m => exact se_not (ro ih g e1 m) g.hK
theorem snd_and1 (ih : IH P Fo L G d n) (h : cEx (n + 1) t cc (.BoolOp .And [a] pos) = some ce) : Snd P Fo L G d t cc (.BoolOp .And [a] pos) ce := by
  unfold cEx at h
  dsimp only at h
  intro X W C g
  cases t with
  | true =>
    have z := (ih true cc a ce h X W C g).1
    exact ⟨fun m => (sw_and1 (z m)).sb, fun _ m => sw_and1 (z m)⟩
  | false => exact fun m => se_one (ih false cc a ce h X W C g m)
theorem snd_or1 (ih : IH P Fo L G d n) (h : cEx (n + 1) t cc (.BoolOp .Or [a] pos) = some ce) : Snd P Fo L G d t cc (.BoolOp .Or [a] pos) ce := by
  unfold cEx at h
  dsimp only at h
  intro X W C g
  cases t with
  | true =>
    have z := (ih true cc a ce h X W C g).1
    exact ⟨fun m => (sw_or1 (z m)).sb, fun _ m => sw_or1 (z m)⟩
  | false => exact fun m => se_one (ih false cc a ce h X W C g m)
theorem snd_and (ih : IH P Fo L G d n) (h : cEx (n + 1) t cc (.BoolOp .And (a :: b :: es) pos) = some ce) : Snd P Fo L G d t cc (.BoolOp .And (a :: b :: es) pos) ce := by
  unfold cEx at h
  dsimp only at h
  intro X W C g
  cases t with
  | true =>
    dsimp only at h
    split at h
    · rename_i ca cb e1 e2
      cases h
      have w : ∀ m, SW X G W C (.BoolOp .And (a :: b :: es) pos) (evB (ev P Fo L m) (.tand ca cb)) := fun m => by
        cases m with
        | zero => exact sw_bad rfl rfl
        | succ m => exact sw_and ((ih true cc a ca e1 X W C g).1 m) ((ih true cc _ cb e2 X W C g).2 rfl m) rfl rfl
      exact ⟨fun m => (w m).sb, fun _ => w⟩
    · cases h
  | false =>
    dsimp only at h
    split at h
    · rename_i ca cb e1 e2
      cases h
      intro m
      cases m with
      | zero => exact se_bad
      | succ m => exact se_and (op := ca) (ro ih g e1 m) (ih false cc _ cb e2 X W C g m)
    · cases h
theorem snd_or (ih : IH P Fo L G d n) (h : cEx (n + 1) t cc (.BoolOp .Or (a :: b :: es) pos) = some ce) : Snd P Fo L G d t cc (.BoolOp .Or (a :: b :: es) pos) ce := by
  unfold cEx at h
  dsimp only at h
  intro X W C g
  cases t with
  | true =>
    dsimp only at h
    split at h
    · rename_i ca cb e1 e2
      cases h
      have w : ∀ m, SW X G W C (.BoolOp .Or (a :: b :: es) pos) (evB (ev P Fo L m) (.tor ca cb)) := fun m => by
        cases m with
        | zero => exact sw_bad rfl rfl
        | succ m => exact sw_or ((ih true cc a ca e1 X W C g).1 m) ((ih true cc _ cb e2 X W C g).2 rfl m) rfl rfl
      exact ⟨fun m => (w m).sb, fun _ => w⟩
    · cases h
  | false =>
    dsimp only at h
    split at h
    · rename_i ca cb e1 e2
      cases h
      intro m
      cases m with
      | zero => exact se_bad
      | succ m => exact se_or (ro ih g e1 m) (ih false cc _ cb e2 X W C g m)
    · cases h
theorem snd_ite (ih : IH P Fo L G d n) (h : cEx (n + 1) t cc (.IfExp c a b pos) = some ce) : Snd P Fo L G d t cc (.IfExp c a b pos) ce := by
  unfold cEx at h
  dsimp only at h
  split at h
  · rename_i t' cd ca cb e1 e2 e3
    cases h
    intro X W C g m
    cases m with
    | zero => exact se_bad
    | succ m => exact se_ite ((ih true cc c cd e1 X W C g).1 m) (ih false cc a ca e2 X W C g m) (ih false cc b cb e3 X W C g m)
  · cases h
end
end PV

set_option Elab.async false
set_option linter.all false
set_option maxRecDepth 100000
set_option maxHeartbeats 4000000
/-! PV, soundness 21: the compiler of expressions is sound: values. -/
namespace PV
open PySem PySem.Spec PyProof.Rows
section
variable {cc : Cc} {X : L2.Cx} {G : Ga} {W : L2.WX} {C : FC} {P : Pg} {Fo : Orc} {d L m n : Nat} {t : Bool} {e a b c tg iter elt i : Expr} {es args : List Expr} {pos p p2 p3 : Pos} {r : Expr → Option Ex} {ce ca cb : Ex}
theorem vl (h : ∀ X W C, Good cc X W C G P Fo d → ∀ m, SE X G W C e (ev P Fo L (m + 1) ce)) : Snd P Fo L G d false cc e ce := by
  intro X W C g m
  cases m with
  | zero => exact se_bad
  | succ m => exact h X W C g m
theorem ros (ih : IH P Fo L G d n) (g : Good cc X W C G P Fo d) {cs : List Ex} (h : mapO (cO (cEx n false cc) cc) es = some cs) (m : Nat) : SOs X G W C es (evOs (ev P Fo L m) cs) := mapO_ok (fun e ce _ h m => ro ih g h m) h m
theorem snd_lst (ih : IH P Fo L G d n) (h : cEx (n + 1) false cc (.List es pos) = some ce) : Snd P Fo L G d false cc (.List es pos) ce := by
  unfold cEx at h
  dsimp only at h
  split at h
  · rename_i cs e1 e2
    cases h
    exact vl fun X W C g m => se_lst (ros ih g e2 m) e1
  · cases h
theorem snd_tup {k : Nat} (ih : IH P Fo L G d n) (h : cEx (n + 1) false cc (.Tuple es k pos) = some ce) : Snd P Fo L G d false cc (.Tuple es k pos) ce := by
  unfold cEx at h
  dsimp only at h
  split at h
  · rename_i cs e1 e2
    cases h
    exact vl fun X W C g m => se_tup (ros ih g e2 m) e1
  · cases h
theorem snd_bin {op : Operator} (ih : IH P Fo L G d n) (h : cEx (n + 1) false cc (.BinOp a op b pos) = some ce) : Snd P Fo L G d false cc (.BinOp a op b pos) ce := by
  unfold cEx at h
  dsimp only at h
  split at h
  · rename_i o ca cb e1 e2 e3
    cases h
    cases binC_ok e1
    exact vl fun X W C g m => se_bin g.hK (sos_cons (ro ih g e2 m) (sos_cons (ro ih g e3 m) sos_nil))
  · cases h
theorem snd_neg (ih : IH P Fo L G d n) (h : cEx (n + 1) false cc (.UnaryOp .USub a pos) = some ce) : Snd P Fo L G d false cc (.UnaryOp .USub a pos) ce := by
  unfold cEx at h
  dsimp only at h
  obtain ⟨ca, e1, e2⟩ := Option.map_eq_some_iff.mp h
  subst e2
  exact vl fun X W C g m => se_neg (ro ih g e1 m)
theorem part_ok {lo : Option Expr} {cl : Option Ex} (ih : IH P Fo L G d n) (g : Good cc X W C G P Fo d) (h : (match lo with | none => some none | some e => (cO (cEx n false cc) cc e).map some : Option (Option Ex)) = some cl) (m : Nat) : SS X G W C lo (evS (ev P Fo L m) cl) := by
  cases lo with
  | none => cases h; exact ss_none
  | some e =>
    obtain ⟨c, e1, e2⟩ := Option.map_eq_some_iff.mp (show (cO (cEx n false cc) cc e).map some = some cl from h)
    subst e2
    exact ss_some (ro ih g e1 m)
theorem snd_sub (ih : IH P Fo L G d n) (h : cEx (n + 1) false cc (.Subscript a i pos) = some ce) : Snd P Fo L G d false cc (.Subscript a i pos) ce := by
  unfold cEx at h
  dsimp only at h
  split at h
  · obtain ⟨ca, e1, e2⟩ := Option.map_eq_some_iff.mp h
    subst e2
    exact vl fun X W C g m => se_rev g.hK (ro ih g e1 m)
  · split at h
    · rename_i ca cl ch e1 e2 e3
      cases h
      exact vl fun X W C g m => se_slc g.hK (ro ih g e1 m) (part_ok ih g e2 m) (part_ok ih g e3 m)
    · cases h
  · split at h
    · rename_i ca ci e1 e2 e3
      cases h
      exact vl fun X W C g m => se_idx g.hK e1 (sos_cons (ro ih g e2 m) (sos_cons (ro ih g e3 m) sos_nil))
    · cases h
theorem nostar_cons (h : nostar (e :: es) = true) : isStar e = false ∧ es.all (fun e => !isStar e) = true := by
  have h1 : (!isStar e && es.all fun e => !isStar e) = true := h
  rw [Bool.and_eq_true, Bool.not_eq_true'] at h1
  exact h1
theorem rgC_ok (g : Good cc X W C G P Fo d) {x : Str} (h : rgC cc x args = some a) : ∃ p2 p3, args = [.Call (.Name "range" p2) [a] [] p3] ∧ (x = "list" ∨ x = "tuple") ∧ BtOk X x ∧ BtOk X "range" ∧ isStar a = false := by
  unfold rgC at h
  split at h
  · split at h
    · rename_i z
      cases h
      obtain ⟨z1, z2, z3, z4, z5⟩ := z
      subst z2
      exact ⟨_, _, rfl, z1, btC_ok g z3, btC_ok g z4, z5⟩
    · cases h
  · cases h
theorem ev_call {f : Nat} {cs : List Ex} {fc : Fc} {md : List Md} (hf : P.fns[f]? = some fc) (hm : fc.md = md) : ev P Fo L (m + 1) (.call f [] cs) = fun ρ => (evOs (ev P Fo L m) cs ρ).bind fun os ρ => callWith Fo f md os ρ := by
  funext ρ
  subst hm
  show ((evOs (ev P Fo L m) cs ρ).bind fun os ρ => match some os, P.fns[f]? with
      | some os, some fc => callWith Fo f fc.md os ρ
      | _, _ => .bad) = _
  rw [hf]
theorem ev_call1 {f : Nat} {fc : Fc} (hf : P.fns[f]? = some fc) (hm : fc.md = [.chg]) : ev P Fo L (m + 1) (.call1 f ce) = fun ρ => (ev P Fo L m ce ρ).bind fun a ρ => match a with
      | .f xs => match Fo f [.f xs] with
        | .ok r [_] => .ok r ρ
        | .exc c ts => .exc c ts ρ
        | _ => .bad
      | _ => .bad := by
  funext ρ
  show ((ev P Fo L m ce ρ).bind fun a ρ => match P.fns[f]?, a with
      | some fc, .f xs => match fc.md with
        | [.chg] => match Fo f [.f xs] with
          | .ok r [_] => .ok r ρ
          | .exc c ts => .exc c ts ρ
          | _ => .bad
        | _ => .bad
      | _, _ => .bad) = _
  rw [hf]
  congr 1
  funext a ρ
  cases a with
  | t x => rfl
  | f xs =>
    dsimp only
    rw [hm]
theorem cCall_ok {x : Str} {c1 : Option Ex} (ih : IH P Fo L G d n) (hc1 : ∀ ce, c1 = some ce → ∃ e, args = [e] ∧ cEx n false cc e = some ce) (h : cEx.cCall x args (mapO (cO (cEx n false cc) cc) args) c1 cc = some ce) : Snd P Fo L G d false cc (.Call (.Name x p) args [] pos) ce := by
  unfold cEx.cCall at h
  split at h
  case h_2 => cases h
  rename_i hns hdb
  split at h
  · rename_i bi hb ht
    obtain ⟨cs, e1, e2⟩ := Option.map_eq_some_iff.mp h
    subst e2
    obtain ⟨z1, z2, z3⟩ := biC_ok hb
    subst z1
    refine vl fun X W C g m => ?_
    cases args with
    | nil => exact absurd z3 (by simp)
    | cons a0 as => exact se_bi g.hK g.calm g.gd g.units1 (btC_ok g ht) z2 (nostar_cons hns).1 (nostar_cons hns).2 (ros ih g e1 m)
  · split at h
    case h_2 => cases h
    rename_i x' f md psk hfd hgl
    have hq := List.find?_some hfd
    have hm := List.mem_of_find?_eq_some hfd
    have hx : x' = x := eq_of_beq hq
    subst hx
    have plain : ∀ {ce}, (mapO (cO (cEx n false cc) cc) args).map (Ex.call f []) = some ce → Snd P Fo L G d false cc (.Call (.Name x' p) args [] pos) ce := fun {ce} h => by
      obtain ⟨cs, e1, e2⟩ := Option.map_eq_some_iff.mp h
      subst e2
      refine vl fun X W C g m => ?_
      obtain ⟨fu, fc, hfc, hmd⟩ := g.fu _ hm
      rw [ev_call hfc hmd]
      cases args with
      | nil =>
        cases e1
        exact se_call0 g.hK g.gd fu g.room (glC_ok g hgl) hdb g.tk
      | cons a0 as => exact se_call g.hK g.gd fu g.room (glC_ok g hgl) hdb g.tk (nostar_cons hns).1 (nostar_cons hns).2 (ros ih g e1 m)
    split at h
    · rename_i ce1
      split at h
      · rename_i hnl
        cases h
        obtain ⟨e, ea, ec⟩ := hc1 _ rfl
        subst ea
        refine vl fun X W C g m => ?_
        obtain ⟨fu, fc, hfc, hmd⟩ := g.fu _ hm
        rw [ev_call1 hfc hmd]
        exact se_call1 g.hK g.gd rfl fu g.room (glC_ok g hgl) hdb g.tk (nostar_cons hns).1 (ih false cc e _ ec X W C g m)
      · exact plain h
    · exact plain h
theorem snd_call {x : Str} (ih : IH P Fo L G d n) (h : cEx (n + 1) false cc (.Call (.Name x p) args [] pos) = some ce) : Snd P Fo L G d false cc (.Call (.Name x p) args [] pos) ce := by
  unfold cEx at h
  dsimp only at h
  split at h
  · rename_i hx
    subst hx
    split at h
    · split at h
      · rename_i ca ts e1 e2 e3
        split at h
        · rename_i hl
          cases h
          rw [Bool.and_eq_true, Bool.not_eq_true'] at e1
          exact vl fun X W C g m => se_isiT g.hK (btC_ok g e1.1) (tysC_ok g e3) hl e1.2 (ro ih g e2 m)
        · cases h
      · cases h
    · split at h
      · rename_i ca ty e1 e2 e3
        cases h
        rw [Bool.and_eq_true, Bool.not_eq_true'] at e1
        refine vl fun X W C g m => ?_
        obtain ⟨p', z1, z2, z3⟩ := tyC_ok g e3
        subst z1
        exact se_isi g.hK (btC_ok g e1.1) z2 z3 e1.2 (ro ih g e2 m)
      · cases h
    · cases h
  · split at h
    · rename_i a hr
      obtain ⟨ca, e1, e2⟩ := Option.map_eq_some_iff.mp h
      subst e2
      refine vl fun X W C g m => ?_
      obtain ⟨q2, q3, z1, z2, z3, z4, z5⟩ := rgC_ok g hr
      subst z1
      rcases z2 with z2 | z2
      · subst z2
        exact se_lrange g.hK g.calm z3 z4 z5 (ro ih g e1 m)
      · subst z2
        exact se_trange g.hK g.calm z3 z4 z5 (ro ih g e1 m)
    · refine cCall_ok ih (fun ce q => ?_) h
      split at q
      · exact ⟨_, rfl, q⟩
      · cases q
theorem snd_callk {x : Str} {kw : Keyword} {kws : List Keyword} (ih : IH P Fo L G d n) (h : cEx (n + 1) false cc (.Call (.Name x p) args (kw :: kws) pos) = some ce) : Snd P Fo L G d false cc (.Call (.Name x p) args (kw :: kws) pos) ce := by
  unfold cEx at h
  dsimp only at h
  unfold cEx.cCallK at h
  split at h
  case h_2 => cases h
  rename_i ks x' f md ps kwp cs h1 h2 h3 h4
  rw [Bool.and_eq_true, Bool.and_eq_true, Bool.not_eq_true'] at h1
  split at h
  case isFalse => cases h
  rename_i hin
  cases h
  have hq := List.find?_some h3
  have hm := List.mem_of_find?_eq_some h3
  have hx : x' = x := eq_of_beq hq
  subst hx
  refine vl fun X W C g m => ?_
  obtain ⟨fu, fc, hfc, hmd⟩ := g.fu _ hm
  have z := se_callk (pos := pos) (p := p) g.hK g.gd fu g.room (glC_ok g h1.1.2) h1.2 g.tk h1.1.1 h2 hin.1 (ros ih g h4 m)
  have e : ev P Fo L (m + 1) (.call f ((ordOf ps args.length ks).map .inl) cs) = fun ρ => (evOs (ev P Fo L m) cs ρ).bind fun os ρ => match place os ((ordOf ps args.length ks).map .inl) with
      | some os => callWith Fo f md os ρ
      | none => .bad := by
    funext ρ
    show ((evOs (ev P Fo L m) cs ρ).bind fun os ρ => match (if ((ordOf ps args.length ks).map Sum.inl : List (Nat ⊕ T)).isEmpty then some os else place os ((ordOf ps args.length ks).map .inl)), P.fns[f]? with
      | some os, some fc => callWith Fo f fc.md os ρ
      | _, _ => .bad) = _
    have ne : ((ordOf ps args.length ks).map Sum.inl : List (Nat ⊕ T)).isEmpty = false := by
      unfold ordOf
      cases hp : ps with
      | nil => exact absurd hp hin.2
      | cons a l => rfl
    rw [ne, hfc]
    congr 1
    funext os ρ
    rw [if_neg (by simp)]
    cases place os ((ordOf ps args.length ks).map .inl) with
    | none => rfl
    | some os =>
      dsimp only
      rw [hmd]
  rw [e]
  exact z
theorem snd_dict {keys : List (Option Expr)} {vals : List Expr} (ih : IH P Fo L G d n) (h : cEx (n + 1) false cc (.Dict keys vals pos) = some ce) : Snd P Fo L G d false cc (.Dict keys vals pos) ce := by
  have h1 : cDict (cO (cEx n false cc) cc) keys vals = some ce := h
  clear h
  unfold cDict at h1
  split at h1
  · cases h1
    exact vl fun X W C g m => se_dk0
  · obtain ⟨ca, e1, e2⟩ := Option.map_eq_some_iff.mp h1
    subst e2
    exact vl fun X W C g m => se_dk1 (ro ih g e1 m)
  · cases h1
theorem snd_meth {x m' : Str} {apos : Pos} (ih : IH P Fo L G d n) (h : cEx (n + 1) false cc (.Call (.Attribute (.Name x p) m' apos) args [] pos) = some ce) : Snd P Fo L G d false cc (.Call (.Attribute (.Name x p) m' apos) args [] pos) ce := by
  unfold cEx at h
  dsimp only at h
  split at h
  case h_2 => cases h
  rename_i j e1 e2
  rw [Bool.and_eq_true] at e2
  obtain ⟨hl, hns⟩ := e2
  split at h
  · rename_i hx
    subst hx
    split at h
    · obtain ⟨ca, f1, f2⟩ := Option.map_eq_some_iff.mp h
      subst f2
      exact vl fun X W C g m => se_app g.hK (slotC_ok g e1) hl (nostar_cons hns).1 (ro ih g f1 m)
    · cases h
  split at h
  · rename_i hx
    subst hx
    split at h
    · obtain ⟨ca, f1, f2⟩ := Option.map_eq_some_iff.mp h
      subst f2
      exact vl fun X W C g m => se_ext g.hK (slotC_ok g e1) hl (nostar_cons hns).1 (ro ih g f1 m)
    · cases h
  split at h
  · rename_i hx
    subst hx
    split at h
    · cases h
      exact vl fun X W C g m => se_pop g.hK (slotC_ok g e1) hl
    · obtain ⟨ca, f1, f2⟩ := Option.map_eq_some_iff.mp h
      subst f2
      exact vl fun X W C g m => se_popA g.hK (slotC_ok g e1) hl (nostar_cons hns).1 (ro ih g f1 m)
    · cases h
  split at h
  · rename_i hx
    subst hx
    split at h
    · obtain ⟨ca, f1, f2⟩ := Option.map_eq_some_iff.mp h
      subst f2
      exact vl fun X W C g m => se_ixof (cs := []) g.hK g.units rfl hl (nostar_cons hns).1 (so_loc (slotC_ok g e1)) (ro ih g f1 m)
    · cases h
  · cases h
end
end PV

set_option Elab.async false
set_option linter.all false
set_option maxRecDepth 100000
set_option maxHeartbeats 4000000
/-! PV, soundness 22: the compiler of expressions is sound: comprehensions, the whole. -/
namespace PV
open PySem PySem.Spec PyProof.Rows
section
variable {cc : Cc} {X : L2.Cx} {G : Ga} {W : L2.WX} {C : FC} {P : Pg} {Fo : Orc} {d L m n : Nat} {t : Bool} {e a b c tg iter elt i : Expr} {es args ifs : List Expr} {pos p p2 p3 : Pos} {r : Expr → Option Ex} {ce ca cb : Ex} {scope : Scope}
theorem sgr_of {tgs : List Nat} {tp : Bool} (h : tgC cc tg = some (tgs, tp)) : SGr C tgs (bindTo tgs tp) (gOf C.K tgs tp) := by
  cases tg with
  | Name x p =>
    obtain ⟨i, e1, e2⟩ := Option.map_eq_some_iff.mp (show (storeC cc x).map (fun i => ([i], false)) = some (tgs, tp) from h)
    cases e2
    exact sgr_name
  | Tuple es k p =>
    obtain ⟨is, e1, e2⟩ := Option.map_eq_some_iff.mp (show (nmsC cc es).map (fun is => (is, true)) = some (tgs, tp) from h)
    cases e2
    exact sgr_tup
  | _ => cases h
theorem conds_ok {cond : Option Ex} (ih : IH P Fo L G d n) (g : Good cc X W C G P Fo d) (h : (match ifs with | [] => some none | [c] => (cEx n true (cc.blk scope) c).map some | _ => none : Option (Option Ex)) = some cond) (m : Nat) : Conds X scope G C (ev P Fo L m) ifs cond := by
  split at h
  · cases h; exact .none
  · obtain ⟨cd, e1, e2⟩ := Option.map_eq_some_iff.mp h
    subst e2
    exact .some fun s H Cc' cl fp => (ih true (cc.blk scope) _ cd e1 _ _ C (g.blk s H Cc' cl fp)).1 m
  · cases h
/-- what a comprehension's code is made of -/
structure CompOk (n : Nat) (cc : Cc) (elt tg iter : Expr) (ifs : List Expr) (scope : Scope) (tgs : List Nat) (tp : Bool) (its : List Ex) (cond : Option Ex) (ct : Ex) : Prop where
  blk : L2.blkC cc.N cc.sc scope (ownC cc.N scope) = true
  nset : noSetE iter = true
  star : nostar (itC cc tg iter).2 = true
  its : mapO (cO (cEx n false cc) cc) (itC cc tg iter).2 = some its
  tg : tgC (cc.blk scope) tg = some (tgs, tp)
  cond : (match ifs with | [] => some none | [c] => (cEx n true (cc.blk scope) c).map some | _ => none : Option (Option Ex)) = some cond
  elt : cO (cEx n false (cc.blk scope)) (cc.blk scope) elt = some ct
  sub : ∀ i ∈ tgs, i ∈ (ownC cc.N scope).map (·.2)
theorem comp_inv (h : cEx (n + 1) false cc (.ListComp elt [⟨tg, iter, ifs, 0⟩] scope pos) = some ce) : ∃ tgs tp its cond ct, ce = .comp ((ownC cc.N scope).map (·.2)) tgs tp (itC cc tg iter).1 its cond ct ∧ CompOk n cc elt tg iter ifs scope tgs tp its cond ct := by
  have h' : (match L2.blkC cc.N cc.sc scope (ownC cc.N scope) && noSetE iter && nostar (itC cc tg iter).2, mapO (cO (cEx n false cc) cc) (itC cc tg iter).2, tgC (cc.blk scope) tg,
            (match (generalizing := false) ifs with | [] => some none | [c] => (cEx n true (cc.blk scope) c).map some | _ => none : Option (Option Ex)), cO (cEx n false (cc.blk scope)) (cc.blk scope) elt with
          | true, some its, some (tgs, tp), some cond, some ct => if tgs.all fun i => ((ownC cc.N scope).map (·.2)).contains i then some (.comp ((ownC cc.N scope).map (·.2)) tgs tp (itC cc tg iter).1 its cond ct) else none
          | _, _, _, _, _ => none) = some ce := h
  clear h
  split at h'
  · rename_i its tgs tp cond ct e1 e2 e3 e4 e5
    split at h'
    · rename_i hsub
      cases h'
      rw [Bool.and_eq_true, Bool.and_eq_true] at e1
      exact ⟨tgs, tp, its, cond, ct, rfl, e1.1.1, e1.1.2, e1.2, e2, e3, e4, e5, fun i hi => List.contains_iff_mem.mp (List.all_eq_true.mp hsub i hi)⟩
    · cases h'
  · cases h'
theorem snd_comp (ih : IH P Fo L G d n) (h : cEx (n + 1) false cc (.ListComp elt [⟨tg, iter, ifs, 0⟩] scope pos) = some ce) : Snd P Fo L G d false cc (.ListComp elt [⟨tg, iter, ifs, 0⟩] scope pos) ce := by
  obtain ⟨tgs, tp, its, cond, ct, e0, k⟩ := comp_inv h
  subst e0
  refine vl fun X W C g m => ?_
  have ok : L2.BlkOk X.N X.env.scope scope (ownC cc.N scope) := L2.blkOk_by (by rw [g.N, g.sc]; exact k.blk)
  exact se_comp (L := L) g.hK g.calm g.nd ok k.nset (si_iv g.hK (itC_ok g) k.star (ros ih g k.its m)) (fun s H Cc' cl fp => (tgC_pg (g.blk s H Cc' cl fp) k.tg).1) (sgr_of k.tg) k.sub (conds_ok ih g k.cond m) (fun s H Cc' cl fp => ro ih (g.blk s H Cc' cl fp) k.elt m)
theorem snd_true (ih : IH P Fo L G d n) (hp : plainT e = true) (hb : isBool e = false) (h : cO (cEx n false cc) cc e = some ce) : Snd P Fo L G d true cc e ce :=
  fun X W C g => ⟨fun m => sb_truth g.hK (ro ih g h m) hp, fun z => by rw [hb] at z; cases z⟩
theorem snd_con {v : L2.V} {x : T} (hp : ∀ X : L2.Cx, L2.PE X e (L2.tC v)) (hv : ∀ (C : FC) F H, RepT C.K F H x v) : Snd P Fo L G d false cc e (.con x) :=
  vl fun X W C g m => se_of_pe (hp X) (hv C)
theorem cEx_ok : ∀ n, IH P Fo L G d n := by
  intro n
  induction n with
  | zero => intro t cc e ce h; cases h
  | succ n ih =>
    intro t cc e ce h
    cases e with
    | Compare a ops cs pos =>
      match ops, cs, h with
      | [op], [b], h => exact snd_cmp ih h
      | [o1, o2], [b, c], h => exact snd_chn ih h
      | [], _, h => cases t <;> (simp [cEx, plainT] at h)
      | [_], [], h => cases t <;> (simp [cEx, plainT] at h)
      | [_], _ :: _ :: _, h => cases t <;> (simp [cEx, plainT] at h)
      | [_, _], [], h => cases t <;> (simp [cEx, plainT] at h)
      | [_, _], [_], h => cases t <;> (simp [cEx, plainT] at h)
      | [_, _], _ :: _ :: _ :: _, h => cases t <;> (simp [cEx, plainT] at h)
      | _ :: _ :: _ :: _, _, h => cases t <;> (simp [cEx, plainT] at h)
    | BoolOp op vs pos =>
      cases op with
      | And =>
        match vs, h with
        | [], h => cases t <;> (simp [cEx, plainT] at h)
        | [a], h => exact snd_and1 ih h
        | a :: b :: r, h => exact snd_and ih h
      | Or =>
        match vs, h with
        | [], h => cases t <;> (simp [cEx, plainT] at h)
        | [a], h => exact snd_or1 ih h
        | a :: b :: r, h => exact snd_or ih h
    | UnaryOp op a pos =>
      cases op with
      | Not => exact snd_not ih h
      | USub =>
        cases t with
        | true => exact snd_true ih rfl rfl (by unfold cEx at h; exact h)
        | false => exact snd_neg ih h
      | UAdd =>
        cases t with
        | true => exact snd_true ih rfl rfl (by unfold cEx at h; exact h)
        | false => simp [cEx] at h
      | Invert =>
        cases t with
        | true => exact snd_true ih rfl rfl (by unfold cEx at h; exact h)
        | false => simp [cEx] at h
    | IfExp c a b pos => exact snd_ite ih h
    | Constant v k pos =>
      cases t with
      | true => exact snd_true ih rfl rfl (by unfold cEx at h; exact h)
      | false =>
        cases v with
        | int i => cases h; exact snd_con (fun X => L2.pe_int) fun _ _ _ => rfl
        | str i => cases h; exact snd_con (fun X => L2.pe_str) fun _ _ _ => rfl
        | bool i => cases h; exact snd_con (fun X => L2.pe_bl) fun _ _ _ => rfl
        | none => cases h; exact snd_con (fun X => L2.pe_non) fun _ _ _ => rfl
        | _ => cases h
    | Name x pos =>
      cases t with
      | true => exact snd_true ih rfl rfl (by unfold cEx at h; exact h)
      | false =>
        refine vl fun X W C g m => ?_
        rcases nameC_ok g (show nameC cc x = some ce from h) with ⟨i, e1, e2⟩ | ⟨i, e1, e2⟩
        · subst e1
          exact se_loc e2
        · subst e1
          exact se_of_pe e2 fun _ _ => rfl
    | List es pos =>
      cases t with
      | true => exact snd_true ih rfl rfl (by unfold cEx at h; exact h)
      | false => exact snd_lst ih h
    | Dict keys vals pos =>
      cases t with
      | true => exact snd_true ih rfl rfl (by unfold cEx at h; exact h)
      | false => exact snd_dict ih h
    | Tuple es k pos =>
      cases t with
      | true => exact snd_true ih rfl rfl (by unfold cEx at h; exact h)
      | false => exact snd_tup ih h
    | BinOp a op b pos =>
      cases t with
      | true => exact snd_true ih rfl rfl (by unfold cEx at h; exact h)
      | false => exact snd_bin ih h
    | Subscript a i pos =>
      cases t with
      | true => exact snd_true ih rfl rfl (by unfold cEx at h; exact h)
      | false => exact snd_sub ih h
    | Call f args kws pos =>
      cases t with
      | true => exact snd_true ih rfl rfl (by unfold cEx at h; exact h)
      | false =>
        cases kws with
        | cons kw kws =>
          cases f with
          | Name x p => exact snd_callk ih h
          | _ => simp [cEx] at h
        | nil =>
          cases f with
          | Name x p => exact snd_call ih h
          | Attribute o m' apos =>
            cases o with
            | Name x p => exact snd_meth ih h
            | _ => simp [cEx] at h
          | _ => simp [cEx] at h
    | ListComp elt gens scope pos =>
      cases t with
      | true => exact snd_true ih rfl rfl (by unfold cEx at h; exact h)
      | false =>
        match gens, h with
        | [], h => simp [cEx] at h
        | _ :: _ :: _, h => simp [cEx] at h
        | [⟨tg, iter, ifs, z⟩], h =>
          by_cases hz : z = 0
          · subst hz
            exact snd_comp ih h
          · simp [cEx, hz] at h
    | _ =>
      cases t with
      | true => exact snd_true ih rfl rfl (by unfold cEx at h; exact h)
      | false => simp [cEx] at h
end
end PV

set_option Elab.async false
set_option linter.all false
set_option maxRecDepth 100000
set_option maxHeartbeats 4000000
/-! PV, soundness 23: from statements to codes. -/
namespace PV
open PySem PySem.Spec PyProof.Rows
def noComp : Expr → Bool
  | .ListComp .. => false
  | .SetComp .. => false
  | .DictComp .. => false
  | _ => true
theorem noComp_ok {e : Expr} (h : noComp e = true) (t : Option Expr) (line : Nat) (env : PySem.Env) : swapsWith e t line env = pure false := by
  cases e <;> first | (cases h; done) | rfl
def blkKind (sc : Scope) : ScopeKind := if sc.kind.isAnnotationScope then .function else sc.kind
/-- does the store stand within the comprehension -/
def swB (sc : Scope) (scope : Scope) (x : Str) (l1 l2 : Nat) : Bool := blkKind sc == .function && sc.names.lookup x == some .local && l1 == l2 && !(scope.names.any fun (n, k) => n == x && (k == .local || k == .cell))
theorem swB_ok {elt : Expr} {gens : List Comprehension} {scope : Scope} {pos px : Pos} {x : Str} {line : Nat} {env : PySem.Env} : swapsWith (.ListComp elt gens scope pos) (some (.Name x px)) line env = pure (swB env.scope scope x px.line pos.line) := rfl
def swC (sc : Scope) (ts vs : List Expr) : Option (Option (List Str)) :=
  if (!(ts.length == 2 || ts.length == 3) || vs.length != ts.length || blkKind sc != .function) = true then some none
  else if (vs.any fun | .Starred .. => true | _ => false) = true then some none
  else
    if ((ts.filterMap fun
      | .Name id pos => if sc.names.lookup id == some .local && pos.line == (ts.head?.map (·.pos.line)).getD 0 then some id else none
      | _ => none).length != ts.length || (ts.filterMap fun
      | .Name id pos => if sc.names.lookup id == some .local && pos.line == (ts.head?.map (·.pos.line)).getD 0 then some id else none
      | _ => none).eraseDups.length != (ts.filterMap fun
      | .Name id pos => if sc.names.lookup id == some .local && pos.line == (ts.head?.map (·.pos.line)).getD 0 then some id else none
      | _ => none).length) = true then some none
    else if vs.all (foldedForSure 8) = true then some none
    else if vs.all (constantsAlone 8) = true then none
    else some (some (ts.filterMap fun
      | .Name id pos => if sc.names.lookup id == some .local && pos.line == (ts.head?.map (·.pos.line)).getD 0 then some id else none
      | _ => none))
theorem chain5 {c1 c2 c3 c4 c5 : Bool} {names : List Str} {r : Option (List Str)} {z : Sem (Option (List Str))} (h : (if c1 = true then some none else if c2 = true then some none else if c3 = true then some none else if c4 = true then some none else if c5 = true then none else some (some names)) = some r) :
    (if c1 = true then (pure none : Sem (Option (List Str))) else if c2 = true then pure none else if c3 = true then pure none else if c4 = true then pure none else if c5 = true then z else pure (some names)) = pure r := by
  cases c1 <;> cases c2 <;> cases c3 <;> cases c4 <;> cases c5 <;> first | (cases h; rfl) | cases h
theorem swC_ok {ts vs : List Expr} {k k2 : Nat} {p p2 : Pos} {env : PySem.Env} {r : Option (List Str)} (h : swC env.scope ts vs = some r) : swappedStores [.Tuple ts k p] (.Tuple vs k2 p2) env = pure r := by
  unfold swC at h
  unfold swappedStores
  dsimp only
  exact chain5 h
def notTup : Expr → Bool
  | .Tuple .. => false
  | _ => true
theorem sw_none {tg e : Expr} {env : PySem.Env} (h : notTup e = true) : swappedStores [tg] e env = pure none := by
  cases e <;> first | (cases h; done) | (cases tg <;> rfl)
theorem sw_sub {a b e : Expr} {p : Pos} {env : PySem.Env} : swappedStores [.Subscript a b p] e env = pure none := by
  cases e <;> rfl

/-! ### the compiler -/
def stgC (n0 : Nat) (cc : Cc) : List Expr → Option (List Tg)
  | [] => some []
  | .Name x _ :: es => match storeC cc x, stgC n0 cc es with
    | some i, some r => some (.nm i :: r)
    | _, _ => none
  | .Subscript (.Name x _) b _ :: es => match slotC cc x, plainIx b, cO (cEx n0 false cc) cc b, stgC n0 cc es with
    | some i, true, some cb, some r => some (.ix i cb :: r)
    | _, _, _, _ => none
  | _ :: _ => none
def mapS (f : Stmt → Option Sm) : List Stmt → Option (List Sm)
  | [] => some []
  | s :: ss => match f s, mapS f ss with
    | some c, some cs => some (c :: cs)
    | _, _ => none
/-- x, y = a, b, the stores from the right -/
def parC (n0 : Nat) (cc : Cc) (ts : List Expr) (e : Expr) : Option Sm := match ts, e with
  | [.Name x px, .Name y py], .Tuple [a, b] _ _ =>
    if swC cc.sc [.Name x px, .Name y py] [a, b] = some (some [x, y]) ∧ cc.sc.names.lookup x = some .local ∧ cc.sc.names.lookup y = some .local ∧ nostar [a, b] = true then
      match storeC cc x, storeC cc y, cEx n0 false cc a, cEx n0 false cc b with
      | some i, some j, some ca, some cb => if i = j then none else some (.par i j ca cb)
      | _, _, _, _ => none
    else none
  | _, _ => none
/-- the stores are made from the left -/
def swOk (sc : Scope) (ts : List Expr) (e : Expr) : Bool := match e with
  | .Tuple vs _ _ => decide (swC sc ts vs = some none)
  | _ => true
theorem swOk_ok {ts : List Expr} {e : Expr} {k : Nat} {p : Pos} {env : PySem.Env} (h : swOk env.scope ts e = true) : swappedStores [.Tuple ts k p] e env = pure none := by
  cases e <;> first | rfl | exact swC_ok (of_decide_eq_true h)
def cS (n0 : Nat) : Nat → Cc → Stmt → Option Sm
  | 0, _, _ => none
  | n + 1, cc, s => match s with
    | .Expr e _ => match noComp e, cEx n0 false cc e with
      | true, some ce => some (.ex ce)
      | _, _ => none
    | .Return none _ => some .retN
    | .Return (some e) _ => match e with
      | .Name x _ => (slotC cc x).map fun i => .ret (.loc i)
      | e => match cEx n0 false cc e with
        | some ce => if notLoc ce then some (.ret ce) else none
        | none => none
    | .Assign [tg] e pos => match tg with
      | .Name x px => match storeC cc x, cEx n0 false cc e with
        | some i, some ce => match e with
          | .ListComp _ [⟨_, _, _, 0⟩] scope p2 => match swB cc.sc scope x px.line p2.line, decide (cc.sc.names.lookup x = some .local) with
            | false, _ => some (.asg i ce)
            | true, true => some (.asg i ce)
            | true, false => none
          | e => if noComp e then some (.asg i ce) else none
        | _, _ => none
      | .Subscript (.Name x _) b _ => match slotC cc x, plainIx b && noComp e, cO (cEx n0 false cc) cc b, cO (cEx n0 false cc) cc e with
        | some i, true, some cb, some ce => some (.set i cb ce)
        | _, _, _, _ => none
      | .Tuple ts _ _ => match parC n0 cc ts e with
        | some c => some c
        | none => match swOk cc.sc ts e && noComp e, stgC n0 cc ts, cO (cEx n0 false cc) cc e with
          | true, some tgs, some ce => some (.unp tgs ce)
          | _, _, _ => none
      | _ => none
    | .AugAssign (.Name x _) op e _ => match storeC cc x, binC op, cO (cEx n0 false cc) cc e with
      | some i, some o, some ce => if o = .add ∨ o = .sub then some (.aug i o ce) else none
      | _, _, _ => none
    | .If c a b _ => match cEx n0 true cc c, mapS (cS n0 n cc) a, mapS (cS n0 n cc) b with
      | some cd, some ca, some cb => some (.ite cd ca cb)
      | _, _, _ => none
    | .While c a [] _ => match cEx n0 true cc c, mapS (cS n0 n cc) a with
      | some cd, some ca => some (.whl cd ca)
      | _, _ => none
    | .For tg iter b [] _ => match noSetE iter && nostar (itC cc tg iter).2, tgC cc tg, mapO (cO (cEx n0 false cc) cc) (itC cc tg iter).2, mapS (cS n0 n cc) b with
      | true, some (tgs, tp), some its, some cb => some (.for_ tgs tp (itC cc tg iter).1 its cb)
      | _, _, _, _ => none
    | .Pass _ => some .pass
    | .Break _ => some .brk
    | .Continue _ => some .cont
    | _ => none
end PV

set_option Elab.async false
set_option linter.all false
set_option maxRecDepth 100000
set_option maxHeartbeats 4000000
/-! PV, soundness 24: the compiler of statements is sound. -/
namespace PV
open PySem PySem.Spec PyProof.Rows
section
variable (P : Pg) (F : Orc) (L n0 n : Nat)
/-- one statement -/
def ex1 (s : Sm) (ρ : Rho) : RS := match s with
  | .ex e => RS.of (ev P F L n0 e ρ) fun _ ρ => .nx ρ
  | .ret e => match e with
    | .loc i => match ρ[i]? with
      | some (.o true xs) => .rt (.f xs) ρ
      | some (.v t) => .rt (.t t) ρ
      | _ => .bad
    | e => RS.of (ev P F L n0 e ρ) fun a ρ => .rt a ρ
  | .retN => .rt (.t .non) ρ
  | .asg i e => RS.of (ev P F L n0 e ρ) fun a ρ => .nx (store1 i a ρ)
  | .unp ts e => RS.of (evF (ev P F L n0) e ρ) fun t ρ => match unpT t with
    | some xs => if xs.length = ts.length then RS.of (storeAll (ev P F L n0) ts xs ρ) fun _ ρ => .nx ρ else .bad
    | none => .bad
  | .par i j a b => RS.of (ev P F L n0 a ρ) fun x ρ => RS.of (ev P F L n0 b ρ) fun y ρ => .nx (store1 j y (store1 i x ρ))
  | .set i k e => RS.of (evF (ev P F L n0) e ρ) fun t ρ => RS.of (storeAll (ev P F L n0) [.ix i k] [t] ρ) fun _ ρ => .nx ρ
  | .aug i o e => match (ρ[i]?).bind slotT with
    | some (.int a) => RS.of (evP (ev P F L n0) e ρ) fun t ρ => augC i o a t ρ
    | _ => .bad
  | .ite c a b => RS.of (evB (ev P F L n0) c ρ) fun x ρ => match x with
    | true => exs P F L n0 n a ρ
    | false => exs P F L n0 n b ρ
  | .whl c b => whlL (evB (ev P F L n0) c) (exs P F L n0 n b) L ρ
  | .for_ tg tp k its b => RS.of (evIf (ev P F L n0) k its ρ) fun iv ρ => forL (forTurn tg tp (exs P F L n0 n b)) iv L 0 ρ
  | .rai c es => RS.of (evOs (ev P F L n0) es ρ) fun os ρ => match frzs ρ os with
    | some (ts, ρ) => .exc c ts ρ
    | none => .bad
  | .try_ b hs => match exs P F L n0 n b ρ with
    | .exc c ts ρ => hdlr P c ts (exs P F L n0 n) hs ρ
    | x => x
  | .pass => .nx ρ
  | .brk => .bk ρ
  | .cont => .ct ρ
theorem exs_cons {s : Sm} {r : List Sm} : exs P F L n0 (n + 1) (s :: r) = fun ρ => seqS (ex1 P F L n0 n s ρ) (exs P F L n0 n r) := by
  funext ρ
  cases s <;> rfl
end
section
variable {cc : Cc} {X : L2.Cx} {G : Ga} {W : L2.WX} {C : FC} {P : Pg} {Fo : Orc} {d L m n n0 k : Nat} {t : Bool} {e a b c tg iter elt i : Expr} {es args ifs : List Expr} {pos p p2 p3 : Pos} {ce ca cb : Ex} {scope : Scope} {s : Stmt} {ss : List Stmt} {cm : Sm}
abbrev Pas (X : L2.Cx) : Prop := PassesOwn (model X.prog X.w) X.A X.env X.xe
def Sns (P : Pg) (Fo : Orc) (L : Nat) (G : Ga) (d : Nat) (cc : Cc) (s : Stmt) (c : Sm) : Prop := ∀ X W C, Good cc X W C G P Fo d → Pas X → ∀ m k, SS1 X G W C s (ex1 P Fo L m k c)
theorem ss_bad {X : L2.Cx} {G : Ga} {W : L2.WX} {C : FC} : SSs X G W C ss (fun ρ => .bad) := fun ρ F σ H D S o => o.elim
theorem mapS_ok {f : Stmt → Option Sm} (hf : ∀ s c, f s = some c → Sns P Fo L G d cc s c) : ∀ {ss : List Stmt} {cs : List Sm}, mapS f ss = some cs → ∀ X W C, Good cc X W C G P Fo d → Pas X → ∀ m k, SSs X G W C ss (exs P Fo L m k cs)
  | [], cs, h, X, W, C, g, hp, m, k => by
    cases h
    cases k with
    | zero => exact ss_bad
    | succ k => exact ss_nil
  | s :: ss, cs, h, X, W, C, g, hp, m, k => by
    unfold mapS at h
    split at h
    · rename_i c cs' e1 e2
      cases h
      cases k with
      | zero => exact ss_bad
      | succ k =>
        rw [exs_cons]
        exact ss_cons (hf s c e1 X W C g hp m k) (mapS_ok hf e2 X W C g hp m k)
    · cases h
theorem rv (g : Good cc X W C G P Fo d) (h : cEx n0 false cc e = some ce) (m : Nat) : SE X G W C e (ev P Fo L m ce) := cEx_ok n0 false cc e ce h X W C g m
theorem rt (g : Good cc X W C G P Fo d) (h : cEx n0 true cc e = some ce) (m : Nat) : SB X G W C e (evB (ev P Fo L m) ce) := (cEx_ok n0 true cc e ce h X W C g).1 m
theorem rO (g : Good cc X W C G P Fo d) (h : cO (cEx n0 false cc) cc e = some ce) (m : Nat) : SO X G W C e (evO (ev P Fo L m) ce) := ro (cEx_ok n0) g h m
theorem ret_eq (h : notLoc ce = true) : ex1 P Fo L m k (.ret ce) = fun ρ => RS.of (ev P Fo L m ce ρ) fun a ρ => .rt a ρ := by
  funext ρ
  cases ce <;> first | (cases h; done) | rfl
theorem sns_ret (h : cS n0 (n + 1) cc (.Return (some e) pos) = some cm) : Sns P Fo L G d cc (.Return (some e) pos) cm := by
  unfold cS at h
  dsimp only at h
  intro X W C g hp m k
  split at h
  · obtain ⟨i, e1, e2⟩ := Option.map_eq_some_iff.mp h
    subst e2
    exact ss_retL (slotC_ok g e1)
  · split at h
    · rename_i ce e1
      split at h
      · rename_i hn
        cases h
        rw [ret_eq hn]
        exact ss_ret (rv g e1 m)
      · cases h
    · cases h
theorem stgC_ok (g : Good cc X W C G P Fo d) (m : Nat) : ∀ {es : List Expr} {tgs : List Tg}, stgC n0 cc es = some tgs → STgs X G W C (ev P Fo L m) es tgs ∧ tgs.length = es.length ∧ (assignEach es X.env).length = es.length ∧ (assignEach es X.env).findIdx? (·.1) = none := by
  intro es
  induction es with
  | nil => intro tgs h; cases h; exact ⟨stgs_nil, rfl, rfl, rfl⟩
  | cons e es ih =>
    intro tgs h
    cases e with
    | Name x p =>
      unfold stgC at h
      split at h
      · rename_i i r e1 e2
        cases h
        obtain ⟨z1, z2, z3, z4⟩ := ih e2
        refine ⟨stgs_nm (storeC_ok g e1) z1, congrArg Nat.succ z2, congrArg Nat.succ z3, ?_⟩
        show (List.findIdx? (·.1) ((false, assign (.Name x p) X.env) :: assignEach es X.env)) = none
        rw [List.findIdx?_cons, z4]
        rfl
      · cases h
    | Subscript o b p =>
      cases o with
      | Name x p2 =>
        unfold stgC at h
        split at h
        · rename_i i cb r e1 e2 e3 e4
          cases h
          obtain ⟨z1, z2, z3, z4⟩ := ih e4
          refine ⟨stgs_ix (slotC_ok g e1) e2 (rO g e3 m) z1, congrArg Nat.succ z2, congrArg Nat.succ z3, ?_⟩
          show (List.findIdx? (·.1) ((false, assign (.Subscript (.Name x p2) b p) X.env) :: assignEach es X.env)) = none
          rw [List.findIdx?_cons, z4]
          rfl
        · cases h
      | _ => cases h
    | _ => cases h
theorem sns_asg {l : List Expr} (h : cS n0 (n + 1) cc (.Assign l e pos) = some cm) : Sns P Fo L G d cc (.Assign l e pos) cm := by
  cases l with
  | nil => cases h
  | cons tg l =>
  cases l with
  | cons _ _ => cases h
  | nil =>
  unfold cS at h
  dsimp only at h
  intro X W C g hp m k
  split at h
  · rename_i x px
    split at h
    case h_2 => cases h
    rename_i i ci e1 e2
    have st := storeC_ok g e1
    split at h
    · rename_i elt tg iter ifs scope p2
      have asg : swB cc.sc scope x px.line p2.line = false → SS1 X G W C (.Assign [.Name x px] (.ListComp elt [⟨tg, iter, ifs, 0⟩] scope p2) pos) (ex1 P Fo L m k (.asg i ci)) := fun hb => by
        refine ss_asg st (rv g e2 m) ?_
        rw [swB_ok, g.sc, hb]
      split at h
      · cases h
        exact asg ‹swB cc.sc scope x px.line p2.line = false›
      · have hb := ‹swB cc.sc scope x px.line p2.line = true›
        have hl := ‹decide (cc.sc.names.lookup x = some .local) = true›
        cases h
        cases m with
        | zero => exact fun ρ F σ H D S o => o.elim
        | succ m =>
        cases n0 with
        | zero => cases e2
        | succ n0 =>
        obtain ⟨tgs, tp, its, cond, ct, e0, kk⟩ := comp_inv e2
        subst e0
        have ok : L2.BlkOk X.N X.env.scope scope (ownC cc.N scope) := L2.blkOk_by (by rw [g.N, g.sc]; exact kk.blk)
        have ih := cEx_ok (P := P) (Fo := Fo) (L := L) (G := G) (d := d) n0
        have hl' : X.env.scope.names.lookup x = some .local := by rw [g.sc]; exact of_decide_eq_true hl
        exact ss_setLc (L := L) g.hK g.calm g.nd st.2.1 hl' (by rw [swB_ok, g.sc, hb]) ok kk.nset (si_iv g.hK (itC_ok g) kk.star (ros ih g kk.its m)) (fun s H Cc' cl fp => (tgC_pg (g.blk s H Cc' cl fp) kk.tg).1) (sgr_of kk.tg) kk.sub (conds_ok ih g kk.cond m) (fun s H Cc' cl fp => ro ih (g.blk s H Cc' cl fp) kk.elt m)
      · cases h
    · split at h
      · rename_i hn
        cases h
        exact ss_asg st (rv g e2 m) (noComp_ok hn _ _ _)
      · cases h
  · rename_i x px b p2
    split at h
    case h_2 => cases h
    rename_i i cb ce e1 e2 e3 e4
    cases h
    rw [Bool.and_eq_true] at e2
    exact ss_set (slotC_ok g e1) e2.1 (rO g e3 m) (rO g e4 m) (noComp_ok e2.2 (some (.Subscript (.Name x px) b p2)) pos.line X.env) sw_sub
  · rename_i ts kt p2
    split at h
    · rename_i c hpar
      cases h
      unfold parC at hpar
      split at hpar
      case h_2 => cases hpar
      rename_i x px y py a b k2 pt2
      split at hpar
      case isFalse => cases hpar
      rename_i hc
      obtain ⟨h1, h2, h3, h4⟩ := hc
      split at hpar
      case h_2 => cases hpar
      rename_i i j ca cb e1 e2 e3 e4
      split at hpar
      · cases hpar
      rename_i hij
      cases hpar
      exact ss_par g.calm (storeC_ok g e1) (storeC_ok g e2) hij (by rw [g.sc]; exact h2) (by rw [g.sc]; exact h3) (rv g e3 m) (rv g e4 m) h4 (swC_ok (by rw [g.sc]; exact h1)) rfl
    · split at h
      case h_2 => cases h
      rename_i tgs ce e1 e2 e3
      cases h
      rw [Bool.and_eq_true] at e1
      obtain ⟨z1, z2, z3, z4⟩ := stgC_ok (L := L) g m e2
      exact ss_unp g.hK g.calm z1 z3 z4 z2 (rO g e3 m) (noComp_ok e1.2 (some (.Tuple ts kt p2)) pos.line X.env) (swOk_ok (by rw [g.sc]; exact e1.1))
  · cases h
theorem cS_ok : ∀ n cc s cm, cS n0 n cc s = some cm → Sns P Fo L G d cc s cm := by
  intro n
  induction n with
  | zero => intro cc s cm h; cases h
  | succ n ih =>
    intro cc s cm h
    have blk : ∀ {ss : List Stmt} {cs : List Sm}, mapS (cS n0 n cc) ss = some cs → ∀ X W C, Good cc X W C G P Fo d → Pas X → ∀ m k, SSs X G W C ss (exs P Fo L m k cs) := fun {ss cs} h => mapS_ok (fun s c h => ih cc s c h) h
    cases s with
    | Expr e pos =>
      unfold cS at h
      dsimp only at h
      split at h
      · rename_i ce e1 e2
        cases h
        exact fun X W C g hp m k => ss_expr (rv g e2 m) (noComp_ok e1 _ _ _)
      · cases h
    | Return v pos =>
      cases v with
      | none => cases h; exact fun X W C g hp m k => ss_retN
      | some e => exact sns_ret h
    | Assign l e pos => exact sns_asg h
    | AugAssign tg op e pos =>
      cases tg with
      | Name x px =>
        unfold cS at h
        dsimp only at h
        split at h
        case h_2 => cases h
        rename_i i o ce e1 e2 e3
        split at h
        case isFalse => cases h
        rename_i ho
        cases h
        cases binC_ok e2
        exact fun X W C g hp m k => ss_aug ho (storeC_ok g e1) (rO g e3 m)
      | _ => cases h
    | If c a b pos =>
      unfold cS at h
      dsimp only at h
      split at h
      case h_2 => cases h
      rename_i cd ca cb e1 e2 e3
      cases h
      exact fun X W C g hp m k => ss_if (rt g e1 m) (blk e2 X W C g hp m k) (blk e3 X W C g hp m k)
    | While c a o pos =>
      cases o with
      | cons _ _ => cases h
      | nil =>
        unfold cS at h
        dsimp only at h
        split at h
        case h_2 => cases h
        rename_i cd ca e1 e2
        cases h
        exact fun X W C g hp m k => ss_while hp (rt g e1 m) (blk e2 X W C g hp m k)
    | For tg iter b o pos =>
      cases o with
      | cons _ _ => cases h
      | nil =>
        unfold cS at h
        dsimp only at h
        split at h
        case h_2 => cases h
        rename_i tgs tp its cb e1 e2 e3 e4
        cases h
        rw [Bool.and_eq_true] at e1
        exact fun X W C g hp m k => ss_for hp g.calm evIf_free e1.1 (si_if g.hK (itC_ok g) e1.2 (ros (cEx_ok n0) g e3 m)) (tgC_ok g e2) (blk e4 X W C g hp m k)
    | Pass pos => cases h; exact fun X W C g hp m k => ss_pass
    | Break pos => cases h; exact fun X W C g hp m k => ss_brk
    | Continue pos => cases h; exact fun X W C g hp m k => ss_cont
    | _ => cases h
/-- a def's body -/
theorem body_ok {cs : List Sm} (h : mapS (cS n0 n cc) ss = some cs) (g : Good cc X W C G P Fo d) (hp : Pas X) : SSs X G W C ss (exs P Fo L m k cs) := mapS_ok (fun s c h => cS_ok n cc s c h) h X W C g hp m k
end
end PV

set_option Elab.async false
set_option linter.all false
set_option maxRecDepth 100000
set_option maxHeartbeats 4000000
/-! PV, soundness 25: a program's defs. -/
namespace PV
open PySem PySem.Spec PyProof.Rows
/-- a def of the text: its code's number stands in the list of them -/
structure DefI where
  x : Str
  qual : Str
  params : Arguments
  body : List Stmt
  scope : Scope
  N : List Str
  ps : List Str
  md : List Md
  kws : List (Nat × List Str)
/-- a program's context of one of its defs -/
def ccOf (fns : List (Str × Nat × List Md × List Str × List (Nat × List Str))) (bts : List Str) (consts : List (Str × Int)) (D : DefI) : Cc := ⟨D.N, D.scope, fun _ => true, fns, bts, consts⟩
structure DefOk (K : PySem.W.Frag) (mg : Str → Option Value) (D : DefI) : Prop where
  ex : ∃ (fa : Addr) (fd : FuncData), L2.FunD K D.x D.qual D.params D.body D.scope [] [] fa fd ∧ mg D.x = some (.ref fa) ∧ L2.Binds K fd D.ps [] ∧ ∀ q ∈ D.kws, KwB K fd D.ps q.1 q.2
  sc : L2.FnScope D.N D.ps D.scope
  len : D.ps.length = D.md.length
  one : oneMut D.md
/-- a program: its defs, their codes -/
structure Prg where
  pg : Pg
  defs : List DefI
  bts : List Str
  consts : List (Str × Int)
  n0 : Nat
  n : Nat
  L : Nat
def Prg.fns (R : Prg) : List (Str × Nat × List Md × List Str × List (Nat × List Str)) := (R.defs.zip (List.range R.defs.length)).map fun p => (p.1.x, p.2, p.1.md, p.1.ps, p.1.kws)
/-- each def's code is what the compiler makes of it -/
def Prg.Comp (R : Prg) : Prop := ∀ (i : Nat) (D : DefI), R.defs[i]? = some D → ∃ fc, R.pg.fns[i]? = some fc ∧ fc.md = D.md ∧ fc.slots = D.N.length ∧ mapS (cS R.n0 R.n (ccOf R.fns R.bts R.consts D)) D.body = some fc.body
theorem Prg.mem {R : Prg} {q : Str × Nat × List Md × List Str × List (Nat × List Str)} (h : q ∈ R.fns) : ∃ D, R.defs[q.2.1]? = some D ∧ q.1 = D.x ∧ q.2.2.1 = D.md ∧ q.2.2.2.1 = D.ps ∧ q.2.2.2.2 = D.kws := by
  obtain ⟨p, h1, h2⟩ := List.mem_map.mp h
  subst h2
  obtain ⟨i, hi⟩ := List.getElem?_of_mem h1
  rw [List.getElem?_zip_eq_some] at hi
  obtain ⟨h3, h4⟩ := hi
  have e : p.2 = i := by
    have hl := (List.getElem?_eq_some_iff.mp h4).1
    rw [List.getElem?_range (by simpa using hl)] at h4
    exact (Option.some.inj h4).symm
  exact ⟨p.1, by rw [e]; exact h3, rfl, rfl, rfl, rfl⟩
theorem funs_ok {R : Prg} {P : Program} {w : World} {K : PySem.W.Frag} {mg : Str → Option Value} {base : Heap} {G : Ga} (hc : R.Comp) (hd : ∀ D ∈ R.defs, DefOk K mg D) (hb : ∀ x ∈ R.bts, mg x = none) (hn : ∀ q ∈ R.consts, ∃ t, mg q.1 = some (.int q.2 t)) : ∀ (d i : Nat) (D : DefI), R.defs[i]? = some D → FunAt P w K mg base G (Fd R.pg R.L R.n d) d i D.md D.x D.ps D.kws := by
  intro d
  induction d with
  | zero =>
    intro i D hi
    have ok := hd D (List.mem_of_getElem? hi)
    obtain ⟨fa, fd, h1, h2, h3, h4⟩ := ok.ex
    refine ⟨fa, fd, ⟨fun vs H Q E h => ?_, fun A outer s H args us vs Q E hg hr e0 r hbd h => ?_⟩, h2, h1.kp, h3, h4⟩
    · obtain ⟨as, F0, M, ars, _⟩ := h
      rw [ars.len.1, ok.len]
    · obtain ⟨as, F0, M, ars, _, _, _, z⟩ := h
      exact z.elim
  | succ d ih =>
    intro i D hi
    have ok := hd D (List.mem_of_getElem? hi)
    obtain ⟨fa, fd, h1, h2, h3, h4⟩ := ok.ex
    obtain ⟨fc, f1, f2, f3, f4⟩ := hc i D hi
    refine ⟨fa, fd, ?_, h2, h1.kp, h3, ‹_›⟩
    have z := fn_pv (P := P) (w := w) (mg := mg) (base := base) (G := G) (Pg' := R.pg) (L := R.L) (n := R.n) (d := d) (f := i) (fc := fc) h1 ok.sc f1 (by rw [f2]; exact ok.len) f3.symm (by rw [f2]; exact ok.one) fun cdv A outer s H E C hK hr hgd => by
      refine body_ok f4 (d := d) ?_ (L2.passes_of rfl)
      exact {
        N := rfl
        nd := ok.sc.nd
        sc := rfl
        fn := fun x _ => rfl
        hK := hK.symm
        calm := rfl
        room := hr
        tk := L2.takes_of rfl rfl rfl rfl
        bt := hb
        cn := hn
        gd := hgd
        fu := fun q hq => by
          obtain ⟨D', g1, g2, g3, g4, g5⟩ := Prg.mem hq
          rw [g2, g3, g4, g5]
          obtain ⟨fc', k1, k2, _⟩ := hc _ _ g1
          exact ⟨ih _ _ g1, fc', k1, k2⟩ }
    rw [f2] at z
    exact z
/-- the def at fa itself -/
theorem fun_top {R : Prg} {P : Program} {w : World} {K : PySem.W.Frag} {mg : Str → Option Value} {base : Heap} {G : Ga} (hc : R.Comp) (hd : ∀ D ∈ R.defs, DefOk K mg D) (hb : ∀ x ∈ R.bts, mg x = none) (hn : ∀ q ∈ R.consts, ∃ t, mg q.1 = some (.int q.2 t)) (d i : Nat) (D : DefI) (hi : R.defs[i]? = some D) {fa : Addr} {fd : FuncData}
    (h1 : L2.FunD K D.x D.qual D.params D.body D.scope [] [] fa fd) : FnG P w K mg base (L2.CX P w) (d + 1) fa fd D.ps (SpF K G (Fd R.pg R.L R.n (d + 1)) D.md i) := by
  have ih := funs_ok (P := P) (w := w) (K := K) (mg := mg) (base := base) (G := G) hc hd hb hn d
  have ok := hd D (List.mem_of_getElem? hi)
  obtain ⟨fc, f1, f2, f3, f4⟩ := hc i D hi
  have z := fn_pv (P := P) (w := w) (mg := mg) (base := base) (G := G) (Pg' := R.pg) (L := R.L) (n := R.n) (d := d) (f := i) (fc := fc) h1 ok.sc f1 (by rw [f2]; exact ok.len) f3.symm (by rw [f2]; exact ok.one) fun cdv A outer s H E C hK hr hgd => by
    refine body_ok f4 (d := d) ?_ (L2.passes_of rfl)
    exact {
      N := rfl
      nd := ok.sc.nd
      sc := rfl
      fn := fun x _ => rfl
      hK := hK.symm
      calm := rfl
      room := hr
      tk := L2.takes_of rfl rfl rfl rfl
      bt := hb
      cn := hn
      gd := hgd
      fu := fun q hq => by
        obtain ⟨D', g1, g2, g3, g4, g5⟩ := Prg.mem hq
        rw [g2, g3, g4, g5]
        obtain ⟨fc', k1, k2, _⟩ := hc _ _ g1
        exact ⟨ih _ _ g1, fc', k1, k2⟩ }
  rw [f2] at z
  exact z
end PV

set_option Elab.async false
set_option linter.all false
set_option maxRecDepth 100000
/-! PV: a def's names, from its text. -/
namespace PV
open PySem
mutual
def scE : Nat → Expr → List Scope
  | 0, _ => []
  | n + 1, e => match e with
    | .BoolOp _ vs _ => scEs n vs
    | .BinOp a _ b _ => scE n a ++ scE n b
    | .UnaryOp _ a _ => scE n a
    | .IfExp a b c _ => scE n a ++ scE n b ++ scE n c
    | .ListComp elt gens sc _ => sc :: (scE n elt ++ scGs n gens)
    | .Compare a _ bs _ => scE n a ++ scEs n bs
    | .Call f as kws _ => scE n f ++ scEs n as ++ scEs n (kws.map (·.value))
    | .Attribute a _ _ => scE n a
    | .Subscript a b _ => scE n a ++ scE n b
    | .List es _ => scEs n es
    | .Tuple es _ _ => scEs n es
    | .Dict _ vs _ => scEs n vs
    | .Slice a b c _ => scO n a ++ scO n b ++ scO n c
    | _ => []
def scEs : Nat → List Expr → List Scope
  | 0, _ => []
  | _, [] => []
  | n + 1, e :: es => scE n e ++ scEs n es
def scO : Nat → Option Expr → List Scope
  | 0, _ => []
  | _, none => []
  | n + 1, some e => scE n e
def scGs : Nat → List Comprehension → List Scope
  | 0, _ => []
  | _, [] => []
  | n + 1, g :: gs => scE n g.iter ++ scEs n g.ifs ++ scGs n gs
end
mutual
def scS : Nat → Stmt → List Scope
  | 0, _ => []
  | n + 1, s => match s with
    | .Expr e _ => scE n e
    | .Return e _ => scO n e
    | .Assign ts e _ => scEs n ts ++ scE n e
    | .AugAssign t _ e _ => scE n t ++ scE n e
    | .If c a b _ => scE n c ++ scSs n a ++ scSs n b
    | .While c a _ _ => scE n c ++ scSs n a
    | .For _ i b _ _ => scE n i ++ scSs n b
    | .Raise (some e) _ _ => scE n e
    | .Try b hs _ _ _ => scSs n b ++ scHs n hs
    | _ => []
def scSs : Nat → List Stmt → List Scope
  | 0, _ => []
  | _, [] => []
  | n + 1, s :: ss => scS n s ++ scSs n ss
def scHs : Nat → List ExceptHandler → List Scope
  | 0, _ => []
  | _, [] => []
  | n + 1, .ExceptHandler _ _ b _ :: hs => scSs n b ++ scHs n hs
end
def ownNames (sc : Scope) : List Str := (sc.names.filter fun y => y.2 == .local || y.2 == .cell).map (·.1)
/-- parameters, the def's other names, its comprehensions' -/
def namesOf (ps : List Str) (sc : Scope) (body : List Stmt) : List Str := (ps ++ ownNames sc ++ (scSs 200 body).flatMap ownNames).eraseDups
def paramsOf (a : Arguments) : List Str := a.args.map (·.arg)
def defOf (md : Str → Md) (kw : Str → List (Nat × List Str)) (s : Stmt) : Option DefI := match s with
  | .FunctionDef x a b _ _ _ sc _ _ _ => some { x := x, qual := x, params := a, body := b, scope := sc, ps := paramsOf a, N := namesOf (paramsOf a) sc b, md := (paramsOf a).map md, kws := kw x }
  | _ => none
def defsOf (md : Str → Md) (kw : Str → List (Nat × List Str)) (ss : List Stmt) : List DefI := ss.filterMap (defOf md kw)
end PV

set_option Elab.async false
set_option linter.all false
set_option maxRecDepth 100000
set_option maxHeartbeats 4000000
/-! PV: the law's end. -/
namespace PV
open PySem PySem.Spec PyProof.Rows
theorem law_sp {K : PySem.W.Frag} {G : Ga} {Fo : Orc} {i : Nat} {ns : List Int} {ms : List (List T)} {H : L2.Hp} {a : Addr} (hO : L2.Only H) (hS : L2.SqL K H a (ns.map L2.V.int)) (h : Fo i [.t (.scr ns)] = .ok (.t (.bl true)) ms) :
    SpF K G Fo [.val] i [.ref a] H (fun v _ => v = .bl true) (fun _ _ _ => False) := by
  refine ⟨[.t (.scr ns)], fun p => p = a ∧ ∃ o, H a = some (.frz o (.lst (ns.map L2.V.int))), fun _ => False, ⟨.ref a, [], rfl, ⟨a, rfl, ?_⟩, rfl⟩, fun p q z => z.elim, fun p z => ?_, fun p z => z.elim, ?_⟩
  · rcases hS with (hS | ⟨o, hS⟩) | hS
    · rcases hO a with z | ⟨o, xs, z⟩
      · rw [z] at hS; cases hS
      · rw [z] at hS; cases hS
    · exact .inl ⟨⟨rfl, o, hS⟩, o, hS⟩
    · exact .inr hS
  · obtain ⟨z, o, e⟩ := z
    rw [z, e]
    simp
  · rw [h]
    exact fun F' H' v _ _ r => r
end PV

set_option Elab.async false
set_option linter.all false
set_option maxRecDepth 100000
set_option maxHeartbeats 4000000
/-! PV: the law's end over a head by facts, exceptions by the world, no text being shown. -/
namespace PV
open PySem PySem.Spec PyProof.Rows L2
/-- what is wanted of the law's call -/
abbrev Fine (s1 : Shared) (r : Result) (s2 : Shared) : Prop := r = .ok (.ret (.bool true)) ∧ OldK s1.heap s2.heap ∧ s2.os = s1.os ∧ AllBare s2.gens
section
variable {P : Program} {w : World} {K : PySem.W.Frag} {mg mb : Str → Option Value} {k : Nat} {fa a : Addr} {fd : FuncData} {x : Str} {sp : Sp} {s1 : Shared} {vs : List Value} {ns : List Int}
/-- the call, from one abstract heap in which only the script's address may be told -/
theorem call_from {H : Hp} (inK : K.In s1.heap) (globs : s1.heap.Ns mainGlobals mg) (blts : s1.heap.Ns builtinsNs mb) (boot : ∀ y : Str, y ≠ "__name__" → mb y = bootBuiltins y) (free : s1.heap.NoLimit) (noGens : s1.gens = #[])
    (obj : s1.heap.get? a = some { cls := .type "list", data := .seq vs.toArray }) (room : Room k callerA) (F : ∀ base : Heap, K.In base → base.Ns mainGlobals mg → FnG P w K mg base (CX P w) k fa fd [x] sp)
    (bd : ∀ (s : Shared) (u : Value), BindsTo s fd ⟨[u], []⟩ [(x, u)]) (q : sp [.ref a] H (fun v _ => v = .bl true) fun _ _ _ => False) (only : Only H) (ok : HOk P w H s1.heap) (one : ∀ b, H b ≠ none → b = a) (off : H a ≠ none → K.lookup a = none) :
    codeAny (model P w) callerA (.call (.ref fa) ⟨[.ref a], []⟩) (Fine s1) s1 := by
  have told : ∀ {b : Addr} {o : Obj}, s1.heap.get? b = some o → (H b ≠ none → False) → (hidT s1.heap H).get? b = some o := fun {b o} e n => hidT_get e (Classical.byContradiction n)
  have spaces : ∀ {b : Addr} {m : Str → Option Value}, s1.heap.Ns b m → (hidT s1.heap H).Ns b m := by
    rintro b m ⟨o, es, ep, e, dat, rest⟩
    refine ⟨o, es, ep, told e fun z => ?_, dat, rest⟩
    rw [one b z, obj] at e
    cases e
    cases (show Data.seq vs.toArray _ = Data.dict es ep from dat)
  have inK' : K.In (hidT s1.heap H) := by
    intro b o e
    refine told (inK b o e) fun z => ?_
    have := one b z
    subst this
    rw [off z] at e
    cases e
  have M : Mod K mg (hidT s1.heap H) := by
    obtain ⟨mc, f1, f2⟩ := free
    exact { kin := inK', glob := spaces globs, blt := ⟨mb, spaces blts, boot⟩, nolimit := ⟨mc, spaces f1, f2⟩ }
  have E0 : Env0 P w K mg (hidT s1.heap H) callerA [] s1 H :=
    { frames := rfl, mod := M, bs := fun b o e => of_hidT e, bsz := Nat.le_of_eq (hidT_size _ _), funs := trivial, frf := fun b z => (nomatch z), hok := ok, bare := .of_eq noGens }
  refine codeAny_mono ((F _ inK' (spaces globs)).go callerA [] s1 H ⟨[.ref a], []⟩ [.ref a] [.ref a] _ _ rfl room E0 (.cons rfl .nil) (bd s1 (.ref a)) q) ?_
  rintro (e | fl) s2 z
  · obtain ⟨_, _, _, _, _, _, _, _, _, _, _, _, z⟩ := z
    exact z.elim
  · rcases fl with _ | _ | _ | u
    · exact False.elim z
    · exact False.elim z
    · exact False.elim z
    · obtain ⟨v, H2, os, bare, un, ok2, rel, tru⟩ := z
      subst tru
      cases (show u = Value.bool true from rel)
      refine ⟨rfl, OldK.of_keep ?_, os, bare⟩
      intro b o e
      rcases only b with z | ⟨ob, xs, z⟩
      · exact un.keep b o e z (fun m => nomatch m) (fun m => nomatch m)
      · have g1 := (ok b _ z).1
        rw [e] at g1
        cases g1
        exact (ok2 b _ (un.frzs b _ _ z)).1
theorem call_law (inK : K.In s1.heap) (globs : s1.heap.Ns mainGlobals mg) (blts : s1.heap.Ns builtinsNs mb) (boot : ∀ y : Str, y ≠ "__name__" → mb y = bootBuiltins y) (free : s1.heap.NoLimit) (noGens : s1.gens = #[])
    (obj : s1.heap.get? a = some { cls := .type "list", data := .seq vs.toArray }) (hi : IntsAre vs ns) (len : ns.length ≤ sizeLine) (room : Room k callerA) (F : ∀ base : Heap, K.In base → base.Ns mainGlobals mg → FnG P w K mg base (CX P w) k fa fd [x] sp)
    (bd : ∀ (s : Shared) (u : Value), BindsTo s fd ⟨[u], []⟩ [(x, u)]) (q : ∀ H : Hp, Only H → SqL K H a (ns.map V.int) → sp [.ref a] H (fun v _ => v = .bl true) fun _ _ _ => False) :
    codeAny (model P w) callerA (.call (.ref fa) ⟨[.ref a], []⟩) (Fine s1) s1 := by
  have vals := vals_ints hi
  have lv : vs.length ≤ sizeLine := by rw [hi.length]; exact len
  cases inMod : K.lookup a with
  | some o =>
    have same := inK a o inMod
    rw [obj] at same
    cases same
    have only : Only fun _ => none := fun _ => .inl rfl
    have seq : SqL K (fun _ => none) a (ns.map V.int) := .inr ⟨_, vs.toArray, _, inMod, rfl, rfl, rfl, by rw [List.size_toArray]; exact lv, by simpa using vals⟩
    exact call_from inK globs blts boot free noGens obj room F bd (q _ only seq) only (fun b u z => (nomatch z)) (fun b z => absurd rfl z) fun z => absurd rfl z
  | none =>
    let T : HO := .frz { cls := .type "list", data := .seq vs.toArray } (.lst (ns.map V.int))
    let H : Hp := upd (fun _ => none) a T
    have at_a : H a = some T := upd_same
    have else_ : ∀ b, b ≠ a → H b = none := fun b n => upd_ne n
    have only : Only H := fun b => by
      by_cases e : b = a
      · subst e; exact .inr ⟨_, _, at_a⟩
      · exact .inl (else_ b e)
    have ok : HOk P w H s1.heap := fun b u z => by
      by_cases e : b = a
      · subst e
        rw [at_a] at z
        cases z
        exact ⟨obj, by rw [List.length_map]; exact len, vs, _, vals, obj⟩
      · rw [else_ b e] at z; cases z
    refine call_from inK globs blts boot free noGens obj room F bd (q H only (.inl (.inr ⟨_, at_a⟩))) only ok (fun b z => ?_) fun _ => inMod
    exact Classical.byContradiction fun e => z (else_ b e)
end
theorem law_end {l : PySem.W.OpenLaw} {most dep : Nat} {prg : Program} {lo : List Str} {XP : (Str → Option Value) → Heap → Prop} {YP : World → Heap → Prop} {dr : DefRec} {scr : Str}
    (hn : l.most = some most) (hn2 : most ≤ sizeLine) (hdf : dr.params.defaults = []) (hr : Room dep callerA)
    (F : ∀ (w : World) (mg : Str → Option Value) (fa : Addr) (h : Heap), YP w h → h.Ns mainGlobals mg → mg dr.name = some (.ref fa) →
      ∃ (K : PySem.W.Frag) (fd : FuncData) (sp : Sp), K.In h ∧ (∀ (s : Shared) (u : Value), BindsTo s fd ⟨[u], []⟩ [(scr, u)]) ∧
        (∀ (H : Hp) (a : Addr) (ns : List Int), ns.length ≤ most → Only H → SqL K H a (ns.map V.int) → sp [.ref a] H (fun v _ => v = .bl true) fun _ _ _ => False) ∧
        ∀ base : Heap, K.In base → base.Ns mainGlobals mg → FnG l.prog w K mg base (L2.CX l.prog w) dep fa fd [scr] sp) :
    PySem.W.WalkO prg lo XP YP l.row.toRowW dr [] (fun f vs => PySem.call f vs) := by
  refine Att.attach_call hn hdf fun w s₀ s₁ mg mb fa o pm cd doc a vs ns G Y ho hd hcd hmg hobj hints hlen hg => ?_
  obtain ⟨K, fd, sp, KX, hb, hsp, hF⟩ := F w mg fa _ Y G.T.g hmg
  exact call_law KX G.T.g G.T.b G.T.builtins G.T.nolimit hg hobj hints (Nat.le_trans hlen hn2) hr hF hb fun H hO hS => hsp H a ns hlen hO hS
end PV

set_option Elab.async false
set_option linter.all false
set_option maxRecDepth 1000000
set_option maxHeartbeats 0
namespace K89
open PV PySem
def mdOf (x : Str) : Md := if x ∈ (["_law_pot_here"] : List Str) then .chg else .val
def kwOf (x : Str) : List (Nat × List Str) := if x = "is_turns" then [(0, ["value"])] else []
def ds : List DefI := defsOf mdOf kwOf PySem.Challenge.pw_producttables_k89_any_values_as_groups_o.main.body
def bts : List Str := ["len", "list", "tuple", "sorted", "all", "any", "sum", "max", "min", "abs", "int", "divmod", "isinstance", "bool", "str", "range", "enumerate", "zip", "dict", "repr"]
def consts : List (Str × Int) := [("MOST_TURNS", 8), ("MOST_PLACES", 6)]
def tab : List (Str × Nat × List Md × List Str × List (Nat × List Str)) := (ds.zip (List.range ds.length)).map fun p => (p.1.x, p.2, p.1.md, p.1.ps, p.1.kws)
def codeOf (i : Nat) : Option (List Sm) := (ds[i]?).bind fun D => mapS (cS 60 60 (ccOf tab bts consts D)) D.body
end K89

set_option Elab.async false
set_option linter.all false
set_option maxRecDepth 1000000
set_option maxHeartbeats 0
namespace K89
open PV PySem PySem.Spec PyProof.Rows
def c0 : List Sm := [Sm.ret (((Ex.loc 0).isi [Ty.int]).and_ ((Ex.loc 0).isi [Ty.bool]).not_)]
def c1 : List Sm := [Sm.ret ((Ex.call 0 [] [Ex.loc 0]).and_ (Ex.cmp Cmp.ge (Ex.loc 0) (Ex.con (T.int 0))))]
def c2 : List Sm := [Sm.ret ((Ex.loc 0).isi [Ty.list, Ty.tuple])]
def c3 : List Sm := [Sm.ite ((Ex.call 2 [] [Ex.loc 0]).not_.tor ((Ex.cmp Cmp.ne (Ex.bi Bi.len [Ex.loc 0]) (Ex.loc 1)).tor (Ex.bi Bi.all [Ex.comp [2, 3] [3] false 0 [Ex.loc 0] none (Ex.call 1 [] [Ex.loc 3])]).not_)) [Sm.ret (Ex.con (T.bl false))] [], Sm.ret (Ex.cmp Cmp.eq (Ex.bi Bi.sorted [Ex.loc 0]) (Ex.bi Bi.lrange [Ex.loc 1]))]
def c4 : List Sm := [Sm.ret (Ex.bi Bi.tuple [Ex.comp [2, 3] [3] false 0 [Ex.loc 1] none ((Ex.loc 0).idx (Ex.loc 3))])]
def c5 : List Sm := [Sm.ite ((Ex.call 2 [] [Ex.loc 0]).not_.tor ((Ex.chn Cmp.le Cmp.le (Ex.con (T.int 1)) (Ex.bi Bi.len [Ex.loc 0]) (Ex.con (T.int 8))).not_.tor (Ex.call 2 [] [(Ex.loc 0).idx (Ex.con (T.int 0))]).not_)) [Sm.ret (Ex.con T.non)] [], Sm.asg 1 (Ex.bi Bi.len [(Ex.loc 0).idx (Ex.con (T.int 0))]), Sm.ite ((Ex.chn Cmp.le Cmp.le (Ex.con (T.int 1)) (Ex.loc 1) (Ex.con (T.int 6))).not_.tor (Ex.bi Bi.all [Ex.comp [5, 6] [6] false 0 [Ex.loc 0] none (Ex.call 3 [] [Ex.loc 6, Ex.loc 1])]).not_) [Sm.ret (Ex.con T.non)] [], Sm.asg 2 (Ex.comp [5, 6] [6] false 0 [Ex.loc 0] none (Ex.bi Bi.tuple [Ex.loc 6])), Sm.asg 3 (Ex.bi Bi.dict [Ex.comp [5, 6] [6] false 0 [Ex.loc 2] none (Ex.tup [Ex.loc 6, Ex.con (T.bl true)])]), Sm.ite (Ex.cmp Cmp.lt (Ex.bi Bi.len [Ex.loc 3]) (Ex.bi Bi.len [Ex.loc 2])) [Sm.ret (Ex.con T.non)] [], Sm.for_ [4] false 0 [Ex.loc 2] [Sm.ite (Ex.bi Bi.all [Ex.comp [5, 7] [7] false 0 [Ex.loc 2] none (Ex.cmp Cmp.isin (Ex.call 4 [] [Ex.loc 4, Ex.loc 7]) (Ex.loc 3))]).not_ [Sm.ret (Ex.con T.non)] []], Sm.ret (Ex.loc 2)]
def c6 : List Sm := [Sm.ret (Ex.isn true (Ex.call 5 [] [Ex.loc 0]))]
def c7 : List Sm := [Sm.asg 2 ((Ex.cmp Cmp.lt (Ex.loc 1) (Ex.bi Bi.len [Ex.loc 0])).ite (Ex.bi Bi.abs [(Ex.loc 0).idx (Ex.loc 1)]) (Ex.bin Bin.add (Ex.bin Bin.mul (Ex.con (T.int 131)) (Ex.loc 1)) (Ex.con (T.int 59)))), Sm.ret (Ex.lst [Ex.bi Bi.max2 [Ex.con (T.int 0), Ex.bin Bin.sub (Ex.loc 2) (Ex.bin Bin.pow (Ex.con (T.int 10)) (Ex.con (T.int 18)))], Ex.bin Bin.add (Ex.bin Bin.mod (Ex.bi Bi.int [Ex.bin Bin.add (Ex.bin Bin.add (Ex.bin Bin.mul (Ex.bin Bin.mod (Ex.bi Bi.int [Ex.loc 2]) (Ex.con (T.int 2147483549))) (Ex.con (T.int 37993))) (Ex.bin Bin.mul (Ex.con (T.int 2003)) (Ex.loc 1))) (Ex.con (T.int 71))]) (Ex.con (T.int 2147483563))) (Ex.con (T.int 1))])]
def c8 : List Sm := [Sm.ite (Ex.cmp Cmp.gt ((Ex.loc 0).idx (Ex.con (T.int 0))) (Ex.con (T.int 0))) [Sm.unp [Tg.ix 0 (Ex.con (T.int 0)), Tg.nm 2] (Ex.bi Bi.divmod [(Ex.loc 0).idx (Ex.con (T.int 0)), Ex.loc 1]), Sm.ret (Ex.loc 2)] [], Sm.set 0 (Ex.con (T.int 1)) (Ex.bin Bin.mod (Ex.bi Bi.int [Ex.bin Bin.add (Ex.bin Bin.mul ((Ex.loc 0).idx (Ex.con (T.int 1))) (Ex.con (T.int 40014))) (Ex.con (T.int 2003))]) (Ex.con (T.int 2147483587))), Sm.ret (Ex.bin Bin.mod (Ex.bi Bi.int [Ex.bin Bin.fdiv (Ex.bin Bin.mod (Ex.bi Bi.int [Ex.bin Bin.mul ((Ex.loc 0).idx (Ex.con (T.int 1))) ((Ex.loc 0).idx (Ex.con (T.int 1)))]) (Ex.con (T.int 2147483549))) (Ex.con (T.int 17))]) (Ex.loc 1))]
def c9 : List Sm := [Sm.ret ((Ex.loc 1).idx (Ex.call 8 [] [Ex.loc 0, Ex.bi Bi.len [Ex.loc 1]]))]
def c10 : List Sm := [Sm.ret (Ex.bi Bi.tuple [Ex.comp [2, 3] [3] false 0 [Ex.loc 1] none ((Ex.loc 0).idx (Ex.loc 3))])]
def c11 : List Sm := [Sm.asg 1 (Ex.bi Bi.len [(Ex.loc 0).idx (Ex.con (T.int 0))]), Sm.asg 2 (Ex.lst [Ex.bi Bi.trange [Ex.loc 1]]), Sm.asg 3 (Ex.bi Bi.list [Ex.loc 2]), Sm.whl (Ex.cmp Cmp.ne (Ex.loc 3) (Ex.lst [])) [Sm.asg 4 (Ex.pop 3), Sm.for_ [5] false 0 [Ex.loc 0] [Sm.asg 6 (Ex.call 10 [] [Ex.loc 5, Ex.loc 4]), Sm.ite (Ex.cmp Cmp.notin (Ex.loc 6) (Ex.loc 2)) [Sm.ex (Ex.app 2 (Ex.loc 6)), Sm.ex (Ex.app 3 (Ex.loc 6))] []]], Sm.ret (Ex.loc 2)]
def c12 : List Sm := [Sm.asg 0 (Ex.lst [Ex.tup [Ex.lst [Ex.tup [Ex.con (T.int 0)]], Ex.lst [Ex.con (T.int 1)]], Ex.tup [Ex.lst [Ex.tup [Ex.con (T.int 1), Ex.con (T.int 0)]], Ex.lst [Ex.con (T.int 1), Ex.con (T.int 1)]], Ex.tup [Ex.lst [Ex.tup [Ex.con (T.int 1), Ex.con (T.int 2), Ex.con (T.int 0)]], Ex.lst [Ex.con (T.int 1), Ex.con (T.int 2)]], Ex.tup [Ex.lst [Ex.tup [Ex.con (T.int 1), Ex.con (T.int 2), Ex.con (T.int 3), Ex.con (T.int 0)]], Ex.lst [Ex.con (T.int 1), Ex.con (T.int 1), Ex.con (T.int 2)]], Ex.tup [Ex.lst [Ex.tup [Ex.con (T.int 1), Ex.con (T.int 2), Ex.con (T.int 3), Ex.con (T.int 4), Ex.con (T.int 0)]], Ex.lst [Ex.con (T.int 1), Ex.con (T.int 4)]]]), Sm.ex (Ex.app 0 (Ex.tup [Ex.lst [Ex.tup [Ex.con (T.int 1), Ex.con (T.int 2), Ex.con (T.int 3), Ex.con (T.int 4), Ex.con (T.int 5), Ex.con (T.int 0)]], Ex.lst [Ex.con (T.int 1), Ex.con (T.int 1), Ex.con (T.int 2), Ex.con (T.int 2)]])), Sm.ex (Ex.app 0 (Ex.tup [Ex.lst [Ex.tup [Ex.con (T.int 1), Ex.con (T.int 0), Ex.con (T.int 2), Ex.con (T.int 3)], Ex.tup [Ex.con (T.int 0), Ex.con (T.int 1), Ex.con (T.int 3), Ex.con (T.int 2)]], Ex.lst [Ex.con (T.int 1), Ex.con (T.int 1), Ex.con (T.int 1), Ex.con (T.int 1)]])), Sm.ex (Ex.app 0 (Ex.tup [Ex.lst [Ex.tup [Ex.con (T.int 1), Ex.con (T.int 0), Ex.con (T.int 3), Ex.con (T.int 2)], Ex.tup [Ex.con (T.int 2), Ex.con (T.int 3), Ex.con (T.int 0), Ex.con (T.int 1)]], Ex.lst [Ex.con (T.int 1), Ex.con (T.int 1), Ex.con (T.int 1), Ex.con (T.int 1)]])), Sm.ex (Ex.app 0 (Ex.tup [Ex.lst [Ex.tup [Ex.con (T.int 1), Ex.con (T.int 2), Ex.con (T.int 0)], Ex.tup [Ex.con (T.int 1), Ex.con (T.int 0), Ex.con (T.int 2)]], Ex.lst [Ex.con (T.int 1), Ex.con (T.int 1), Ex.con (T.int 4)]])), Sm.ex (Ex.app 0 (Ex.tup [Ex.lst [Ex.tup [Ex.con (T.int 1), Ex.con (T.int 0), Ex.con (T.int 2), Ex.con (T.int 3), Ex.con (T.int 4)], Ex.tup [Ex.con (T.int 0), Ex.con (T.int 1), Ex.con (T.int 3), Ex.con (T.int 4), Ex.con (T.int 2)]], Ex.lst [Ex.con (T.int 1), Ex.con (T.int 1), Ex.con (T.int 2), Ex.con (T.int 2)]])), Sm.ret (Ex.bin Bin.add (Ex.loc 0) (Ex.lst [Ex.tup [Ex.lst [Ex.tup [Ex.con (T.int 1), Ex.con (T.int 2), Ex.con (T.int 0), Ex.con (T.int 4), Ex.con (T.int 5), Ex.con (T.int 3)], Ex.tup [Ex.con (T.int 3), Ex.con (T.int 5), Ex.con (T.int 4), Ex.con (T.int 0), Ex.con (T.int 2), Ex.con (T.int 1)]], Ex.lst [Ex.con (T.int 1), Ex.con (T.int 1), Ex.con (T.int 4)]]]))]
def c13 : List Sm := [Sm.asg 0 (Ex.lst [Ex.tup [Ex.lst [Ex.tup [Ex.con (T.int 1), Ex.con (T.int 2), Ex.con (T.int 3), Ex.con (T.int 0)], Ex.tup [Ex.con (T.int 3), Ex.con (T.int 2), Ex.con (T.int 1), Ex.con (T.int 0)]], Ex.lst [Ex.con (T.int 1), Ex.con (T.int 1), Ex.con (T.int 1), Ex.con (T.int 1), Ex.con (T.int 4)]]]), Sm.ex (Ex.app 0 (Ex.tup [Ex.lst [Ex.tup [Ex.con (T.int 1), Ex.con (T.int 0), Ex.con (T.int 2), Ex.con (T.int 3), Ex.con (T.int 4), Ex.con (T.int 5)], Ex.tup [Ex.con (T.int 0), Ex.con (T.int 1), Ex.con (T.int 3), Ex.con (T.int 2), Ex.con (T.int 4), Ex.con (T.int 5)], Ex.tup [Ex.con (T.int 0), Ex.con (T.int 1), Ex.con (T.int 2), Ex.con (T.int 3), Ex.con (T.int 5), Ex.con (T.int 4)]], Ex.bin Bin.mul (Ex.lst [Ex.con (T.int 1)]) (Ex.con (T.int 8))])), Sm.ret (Ex.bin Bin.add (Ex.loc 0) (Ex.lst [Ex.tup [Ex.lst [Ex.tup [Ex.con (T.int 1), Ex.con (T.int 0), Ex.con (T.int 2), Ex.con (T.int 3), Ex.con (T.int 4), Ex.con (T.int 5)], Ex.tup [Ex.con (T.int 0), Ex.con (T.int 1), Ex.con (T.int 3), Ex.con (T.int 4), Ex.con (T.int 5), Ex.con (T.int 2)]], Ex.lst [Ex.con (T.int 1), Ex.con (T.int 1), Ex.con (T.int 1), Ex.con (T.int 1), Ex.con (T.int 2), Ex.con (T.int 2)]]]))]
def c14 : List Sm := [Sm.par 2 3 (Ex.bi Bi.list [Ex.loc 1]) (Ex.lst []), Sm.for_ [4] false 1 [Ex.bi Bi.len [Ex.loc 1]] [Sm.ex (Ex.app 3 (Ex.popA 2 (Ex.call 8 [] [Ex.loc 0, Ex.bi Bi.len [Ex.loc 2]])))], Sm.ret (Ex.loc 3)]
def c15 : List Sm := [Sm.unp [Tg.nm 2, Tg.nm 3] (Ex.call 9 [] [Ex.loc 0, Ex.loc 1]), Sm.asg 4 (Ex.call 14 [] [Ex.loc 0, Ex.bi Bi.lrange [Ex.bi Bi.len [(Ex.loc 2).idx (Ex.con (T.int 0))]]]), Sm.asg 5 (Ex.lst []), Sm.for_ [6] false 0 [Ex.call 11 [] [Ex.loc 2]] [Sm.ex (Ex.app 5 (Ex.bi Bi.tuple [Ex.comp [7, 8] [8] false 1 [Ex.bi Bi.len [Ex.loc 4]] none ((Ex.loc 4).idx ((Ex.loc 6).idx ((Ex.loc 4).ixof (Ex.loc 8))))]))], Sm.ret (Ex.tup [Ex.call 14 [] [Ex.loc 0, Ex.loc 5], Ex.loc 3])]
def c16 : List Sm := [Sm.ite (((Ex.loc 0).isi [Ty.list, Ty.tuple]).not_.tor (Ex.cmp Cmp.ne (Ex.bi Bi.len [Ex.loc 0]) (Ex.loc 1))) [Sm.ret (Ex.con (T.bl false))] [], Sm.ite (Ex.cmp Cmp.ne (Ex.comp [2, 3] [3] false 0 [Ex.loc 0] (some (((Ex.loc 3).isi [Ty.int]).not_.tor ((Ex.loc 3).isi [Ty.bool]))) (Ex.loc 3)) (Ex.lst [])) [Sm.ret (Ex.con (T.bl false))] [], Sm.ret (Ex.cmp Cmp.eq (Ex.bi Bi.sorted [Ex.loc 0]) (Ex.bi Bi.lrange [Ex.loc 1]))]
def c17 : List Sm := [Sm.ite (((Ex.loc 0).isi [Ty.list, Ty.tuple]).not_.tor ((Ex.chn Cmp.le Cmp.le (Ex.con (T.int 1)) (Ex.bi Bi.len [Ex.loc 0]) (Ex.con (T.int 8))).not_.tor (((Ex.loc 0).idx (Ex.con (T.int 0))).isi [Ty.list, Ty.tuple]).not_)) [Sm.ret (Ex.con (T.bl false))] [], Sm.asg 1 (Ex.bi Bi.len [(Ex.loc 0).idx (Ex.con (T.int 0))]), Sm.ite ((Ex.chn Cmp.le Cmp.le (Ex.con (T.int 1)) (Ex.loc 1) (Ex.con (T.int 6))).not_.tor (Ex.bi Bi.all [Ex.comp [3, 4] [4] false 0 [Ex.loc 0] none (Ex.call 16 [] [Ex.loc 4, Ex.loc 1])]).not_) [Sm.ret (Ex.con (T.bl false))] [], Sm.asg 2 (Ex.comp [3, 4] [4] false 0 [Ex.loc 0] none (Ex.bi Bi.tuple [Ex.loc 4])), Sm.ite (Ex.cmp Cmp.ne (Ex.comp [3, 5, 4] [5, 4] true 3 [Ex.loc 2] (some (Ex.cmp Cmp.isin (Ex.loc 4) ((Ex.loc 2).slc none (some (Ex.loc 5))))) (Ex.loc 5)) (Ex.lst [])) [Sm.ret (Ex.con (T.bl false))] [], Sm.ret (Ex.bi Bi.all [Ex.comp [3, 6] [6] false 0 [Ex.loc 2] none (Ex.bi Bi.all [Ex.comp [3, 7] [7] false 0 [Ex.loc 2] none (Ex.cmp Cmp.isin (Ex.call 10 [] [Ex.loc 6, Ex.loc 7]) (Ex.loc 2))])])]
def c18 : List Sm := [Sm.unp [Tg.nm 2, Tg.nm 3] (Ex.tup [Ex.call 8 [] [Ex.loc 0, Ex.bi Bi.len [Ex.loc 1]], Ex.bi Bi.len [(Ex.loc 1).idx (Ex.con (T.int 0))]]), Sm.par 4 5 (Ex.bi Bi.tuple [Ex.call 14 [] [Ex.loc 0, Ex.bi Bi.lrange [Ex.loc 3]]]) (Ex.bin Bin.add ((Ex.loc 1).slc none (some (Ex.loc 2))) ((Ex.loc 1).slc (some (Ex.bin Bin.add (Ex.loc 2) (Ex.con (T.int 1)))) none)), Sm.asg 7 (Ex.lst [Ex.loc 1, Ex.bi Bi.tuple [Ex.loc 1], Ex.comp [10, 6] [6] false 0 [Ex.loc 1] none (Ex.bi Bi.list [Ex.loc 6]), Ex.loc 5, Ex.bin Bin.add (Ex.loc 1) (Ex.lst [(Ex.loc 1).idx (Ex.loc 2)]), Ex.bin Bin.add (Ex.loc 1) (Ex.lst [Ex.loc 4]), Ex.bin Bin.add (Ex.loc 5) (Ex.lst [Ex.loc 4]), (Ex.loc 1).rev]), Sm.asg 6 (Ex.bi Bi.list [(Ex.loc 1).idx (Ex.loc 2)]), Sm.asg 8 (Ex.call 8 [] [Ex.loc 0, Ex.loc 3]), Sm.for_ [9] false 0 [Ex.lst [Ex.con (T.bl true), Ex.con T.non, Ex.loc 3, (Ex.con (T.int 1)).neg, Ex.con (T.str { cps := { toList := [48] } }), (Ex.loc 6).idx (Ex.bin Bin.sub (Ex.loc 8) (Ex.con (T.int 1)))]] [Sm.ex (Ex.app 7 (Ex.bin Bin.add (Ex.loc 5) (Ex.lst [Ex.bin Bin.add (Ex.bin Bin.add ((Ex.loc 6).slc none (some (Ex.loc 8))) (Ex.lst [Ex.loc 9])) ((Ex.loc 6).slc (some (Ex.bin Bin.add (Ex.loc 8) (Ex.con (T.int 1)))) none)])))], Sm.ex (Ex.ext 7 (Ex.lst [Ex.bin Bin.add (Ex.loc 5) (Ex.lst [Ex.bin Bin.add (Ex.loc 6) (Ex.lst [Ex.loc 3])]), Ex.bin Bin.add (Ex.loc 5) (Ex.lst [(Ex.loc 6).slc none (some (Ex.con (T.int 1)).neg)]), Ex.lst [Ex.loc 6], Ex.lst [Ex.bi Bi.trange [Ex.loc 3]], Ex.bin Bin.add (Ex.loc 5) (Ex.lst [Ex.con T.non]), Ex.bin Bin.add (Ex.loc 5) (Ex.lst [Ex.con (T.int 5)]), Ex.loc 6])), Sm.ex (Ex.app 7 (Ex.comp [10, 11] [11] false 0 [Ex.loc 1] none (Ex.bi Bi.tuple [Ex.bin Bin.add (Ex.bi Bi.list [Ex.loc 11]) (Ex.lst [Ex.loc 3])]))), Sm.ret (Ex.bin Bin.add (Ex.loc 7) (Ex.lst [Ex.lst [Ex.bi Bi.trange [Ex.loc 3], Ex.loc 4], Ex.lst [Ex.bi Bi.trange [Ex.loc 3], (Ex.loc 1).idx (Ex.loc 2)]]))]
def c19 : List Sm := [Sm.unp [Tg.nm 1, Tg.nm 2] (Ex.call 15 [] [Ex.loc 0, (Ex.cmp Cmp.eq (Ex.call 8 [] [Ex.loc 0, Ex.con (T.int 4)]) (Ex.con (T.int 0))).ite (Ex.call 13 [] []) (Ex.call 12 [] [])]), Sm.for_ [3] false 0 [Ex.call 18 [] [Ex.loc 0, Ex.loc 1]] [Sm.par 4 5 (Ex.call 17 [] [Ex.loc 3]) (Ex.bi Bi.repr [Ex.loc 3]), Sm.ite ((Ex.cmp Cmp.ne (Ex.bi Bi.repr [Ex.call 6 [] [Ex.loc 3]]) (Ex.bi Bi.repr [Ex.loc 4])).tor (Ex.cmp Cmp.ne (Ex.bi Bi.repr [Ex.loc 3]) (Ex.loc 5))) [Sm.ret (Ex.con (T.bl false))] []], Sm.for_ [3] false 0 [Ex.lst [Ex.con T.non, Ex.con (T.int 0), Ex.con (T.bl true), Ex.con (T.str { cps := { toList := [] } }), Ex.con (T.str { cps := { toList := [48] } }), Ex.dk0, Ex.lst [], Ex.tup [], Ex.lst [Ex.lst []], Ex.lst [Ex.con T.non], Ex.dk1 0 (Ex.lst [Ex.con (T.int 0)]), Ex.lst [Ex.lst [Ex.con (T.int 0), Ex.con (T.int 1), Ex.con (T.int 2), Ex.con (T.int 3), Ex.con (T.int 4), Ex.con (T.int 5), Ex.con (T.int 6)]]]] [Sm.ite (Ex.isb true (Ex.call 6 [Sum.inl 0] [Ex.loc 3]) false) [Sm.ret (Ex.con (T.bl false))] []], Sm.ret (Ex.isb false (Ex.call 6 [] [Ex.loc 1]) true)]
def c20 : List Sm := [Sm.ret (Ex.bi Bi.all [Ex.comp [1, 2] [2] false 1 [Ex.bi Bi.max2 [Ex.con (T.int 1), Ex.bi Bi.min2 [Ex.con (T.int 2), Ex.bi Bi.len [Ex.loc 0]]]] none (Ex.call1 19 (Ex.call 7 [] [Ex.loc 0, Ex.loc 2]))])]
def pg : Pg := ⟨[⟨1, [Md.val], c0⟩, ⟨1, [Md.val], c1⟩, ⟨1, [Md.val], c2⟩, ⟨4, [Md.val, Md.val], c3⟩, ⟨4, [Md.val, Md.val], c4⟩, ⟨8, [Md.val], c5⟩, ⟨1, [Md.val], c6⟩, ⟨3, [Md.val, Md.val], c7⟩, ⟨3, [Md.chg, Md.val], c8⟩, ⟨2, [Md.chg, Md.val], c9⟩, ⟨4, [Md.val, Md.val], c10⟩, ⟨7, [Md.val], c11⟩, ⟨1, [], c12⟩, ⟨1, [], c13⟩, ⟨5, [Md.chg, Md.val], c14⟩, ⟨9, [Md.chg, Md.val], c15⟩, ⟨4, [Md.val, Md.val], c16⟩, ⟨8, [Md.val], c17⟩, ⟨12, [Md.chg, Md.val], c18⟩, ⟨6, [Md.chg], c19⟩, ⟨3, [Md.val], c20⟩], fun _ _ => false, fun _ _ => none, fun _ _ => none, fun _ => none, fun _ => 0⟩
def R : Prg := { pg := pg, defs := ds, bts := bts, consts := consts, n0 := 60, n := 60, L := 1000 }
theorem k0 : codeOf 0 = some c0 := by kernel_rfl
theorem m0 : ((ds[0]?).map fun D => (D.md, D.N.length)) = some ([Md.val], 1) := by kernel_rfl
theorem k1 : codeOf 1 = some c1 := by kernel_rfl
theorem m1 : ((ds[1]?).map fun D => (D.md, D.N.length)) = some ([Md.val], 1) := by kernel_rfl
theorem k2 : codeOf 2 = some c2 := by kernel_rfl
theorem m2 : ((ds[2]?).map fun D => (D.md, D.N.length)) = some ([Md.val], 1) := by kernel_rfl
theorem k3 : codeOf 3 = some c3 := by kernel_rfl
theorem m3 : ((ds[3]?).map fun D => (D.md, D.N.length)) = some ([Md.val, Md.val], 4) := by kernel_rfl
theorem k4 : codeOf 4 = some c4 := by kernel_rfl
theorem m4 : ((ds[4]?).map fun D => (D.md, D.N.length)) = some ([Md.val, Md.val], 4) := by kernel_rfl
theorem k5 : codeOf 5 = some c5 := by kernel_rfl
theorem m5 : ((ds[5]?).map fun D => (D.md, D.N.length)) = some ([Md.val], 8) := by kernel_rfl
theorem k6 : codeOf 6 = some c6 := by kernel_rfl
theorem m6 : ((ds[6]?).map fun D => (D.md, D.N.length)) = some ([Md.val], 1) := by kernel_rfl
theorem k7 : codeOf 7 = some c7 := by kernel_rfl
theorem m7 : ((ds[7]?).map fun D => (D.md, D.N.length)) = some ([Md.val, Md.val], 3) := by kernel_rfl
theorem k8 : codeOf 8 = some c8 := by kernel_rfl
theorem m8 : ((ds[8]?).map fun D => (D.md, D.N.length)) = some ([Md.chg, Md.val], 3) := by kernel_rfl
theorem k9 : codeOf 9 = some c9 := by kernel_rfl
theorem m9 : ((ds[9]?).map fun D => (D.md, D.N.length)) = some ([Md.chg, Md.val], 2) := by kernel_rfl
theorem k10 : codeOf 10 = some c10 := by kernel_rfl
theorem m10 : ((ds[10]?).map fun D => (D.md, D.N.length)) = some ([Md.val, Md.val], 4) := by kernel_rfl
theorem k11 : codeOf 11 = some c11 := by kernel_rfl
theorem m11 : ((ds[11]?).map fun D => (D.md, D.N.length)) = some ([Md.val], 7) := by kernel_rfl
theorem k12 : codeOf 12 = some c12 := by kernel_rfl
theorem m12 : ((ds[12]?).map fun D => (D.md, D.N.length)) = some ([], 1) := by kernel_rfl
theorem k13 : codeOf 13 = some c13 := by kernel_rfl
theorem m13 : ((ds[13]?).map fun D => (D.md, D.N.length)) = some ([], 1) := by kernel_rfl
theorem k14 : codeOf 14 = some c14 := by kernel_rfl
theorem m14 : ((ds[14]?).map fun D => (D.md, D.N.length)) = some ([Md.chg, Md.val], 5) := by kernel_rfl
theorem k15 : codeOf 15 = some c15 := by kernel_rfl
theorem m15 : ((ds[15]?).map fun D => (D.md, D.N.length)) = some ([Md.chg, Md.val], 9) := by kernel_rfl
theorem k16 : codeOf 16 = some c16 := by kernel_rfl
theorem m16 : ((ds[16]?).map fun D => (D.md, D.N.length)) = some ([Md.val, Md.val], 4) := by kernel_rfl
theorem k17 : codeOf 17 = some c17 := by kernel_rfl
theorem m17 : ((ds[17]?).map fun D => (D.md, D.N.length)) = some ([Md.val], 8) := by kernel_rfl
theorem k18 : codeOf 18 = some c18 := by kernel_rfl
theorem m18 : ((ds[18]?).map fun D => (D.md, D.N.length)) = some ([Md.chg, Md.val], 12) := by kernel_rfl
theorem k19 : codeOf 19 = some c19 := by kernel_rfl
theorem m19 : ((ds[19]?).map fun D => (D.md, D.N.length)) = some ([Md.chg], 6) := by kernel_rfl
theorem k20 : codeOf 20 = some c20 := by kernel_rfl
theorem m20 : ((ds[20]?).map fun D => (D.md, D.N.length)) = some ([Md.val], 3) := by kernel_rfl
theorem comp1 {i : Nat} {c : List Sm} {md : List Md} {n : Nat} (h1 : codeOf i = some c) (h2 : ((ds[i]?).map fun D => (D.md, D.N.length)) = some (md, n)) (h3 : pg.fns[i]? = some ⟨n, md, c⟩) (D : DefI) (hD : ds[i]? = some D) : ∃ fc, R.pg.fns[i]? = some fc ∧ fc.md = D.md ∧ fc.slots = D.N.length ∧ mapS (cS R.n0 R.n (ccOf R.fns R.bts R.consts D)) D.body = some fc.body := by
  refine ⟨_, h3, ?_, ?_, ?_⟩
  · rw [hD] at h2; cases h2; rfl
  · rw [hD] at h2; cases h2; rfl
  · unfold codeOf at h1; rw [hD] at h1; exact h1
theorem len_ds : ds.length = 21 := by kernel_rfl
theorem comp : R.Comp := by
  intro i D h
  have hi : i < 21 := by rw [← len_ds]; exact (List.getElem?_eq_some_iff.mp h).1
  match i, hi, h with
  | 0, _, h => exact comp1 k0 m0 rfl D h
  | 1, _, h => exact comp1 k1 m1 rfl D h
  | 2, _, h => exact comp1 k2 m2 rfl D h
  | 3, _, h => exact comp1 k3 m3 rfl D h
  | 4, _, h => exact comp1 k4 m4 rfl D h
  | 5, _, h => exact comp1 k5 m5 rfl D h
  | 6, _, h => exact comp1 k6 m6 rfl D h
  | 7, _, h => exact comp1 k7 m7 rfl D h
  | 8, _, h => exact comp1 k8 m8 rfl D h
  | 9, _, h => exact comp1 k9 m9 rfl D h
  | 10, _, h => exact comp1 k10 m10 rfl D h
  | 11, _, h => exact comp1 k11 m11 rfl D h
  | 12, _, h => exact comp1 k12 m12 rfl D h
  | 13, _, h => exact comp1 k13 m13 rfl D h
  | 14, _, h => exact comp1 k14 m14 rfl D h
  | 15, _, h => exact comp1 k15 m15 rfl D h
  | 16, _, h => exact comp1 k16 m16 rfl D h
  | 17, _, h => exact comp1 k17 m17 rfl D h
  | 18, _, h => exact comp1 k18 m18 rfl D h
  | 19, _, h => exact comp1 k19 m19 rfl D h
  | 20, _, h => exact comp1 k20 m20 rfl D h
  | n + 21, hi, _ => exact absurd hi (by omega)
end K89

set_option Elab.async false
set_option linter.all false
set_option maxRecDepth 100000
set_option maxHeartbeats 1000000
/-! PV, plain reckoning: the evaluator's steps as equations. -/
namespace PL
open PySem PV
section
variable {P : Pg} {F : Orc} {L n n0 : Nat} {ρ ρ0 : Rho}
theorem r_ok_bind {α β : Type} (a : α) (ρ : Rho) (f : α → Rho → R β) : R.bind (.ok a ρ) f = f a ρ := rfl
theorem r_bad_bind {α β : Type} (f : α → Rho → R β) : R.bind (.bad : R α) f = .bad := rfl
theorem rs_of_ok {α : Type} (a : α) (ρ : Rho) (f : α → Rho → RS) : RS.of (.ok a ρ) f = f a ρ := rfl
theorem ev_con (t : T) : ev P F L (n + 1) (.con t) ρ = .ok (.t t) ρ := rfl
theorem ev_loc (i : Nat) : ev P F L (n + 1) (.loc i) ρ = match frz ρ (.d i) with
      | some (t, ρ) => .ok (.t t) ρ
      | none => .bad := rfl
theorem ev_dk0 : ev P F L (n + 1) .dk0 ρ = .ok (.t (.dit [] [])) ρ := rfl
theorem ev_dk1 (k : Int) (e : Ex) : ev P F L (n + 1) (.dk1 k e) ρ = (evF (ev P F L n) e ρ).bind fun t ρ => .ok (.t (.dik [.inl k] [t])) ρ := rfl
theorem ev_lst (es : List Ex) : ev P F L (n + 1) (.lst es) ρ = (evOs (ev P F L n) es ρ).bind fun os ρ => match frzs ρ os with
      | some (ts, ρ) => if ts.length ≤ big then .ok (.f ts) ρ else .bad
      | none => .bad := rfl
theorem ev_tup (es : List Ex) : ev P F L (n + 1) (.tup es) ρ = (evOs (ev P F L n) es ρ).bind fun os ρ => match frzs ρ os with
      | some (ts, ρ) => if ts.length ≤ big then .ok (.t (.tup ts)) ρ else .bad
      | none => .bad := rfl
theorem ev_bin (o : Bin) (a b : Ex) : ev P F L (n + 1) (.bin o a b) ρ = (evOs (ev P F L n) [a, b] ρ).bind fun os ρ => match ress ρ os with
      | some [x, y] => ofA? (binT o x y) ρ
      | _ => .bad := rfl
theorem ev_neg (a : Ex) : ev P F L (n + 1) (.neg a) ρ = (evP (ev P F L n) a ρ).bind fun x ρ => match x with
      | .int i => .ok (.t (.int (-i))) ρ
      | _ => .bad := rfl
theorem ev_cmp (o : Cmp) (a b : Ex) : ev P F L (n + 1) (.cmp o a b) ρ = (evOs (ev P F L n) [a, b] ρ).bind fun os ρ => match ress ρ os with
      | some [x, y] => ofB (cmpT o x y) ρ
      | _ => .bad := rfl
theorem ev_chn (o p : Cmp) (a b c : Ex) : ev P F L (n + 1) (.chn o p a b c) ρ = (evOs (ev P F L n) [a, b] ρ).bind fun os ρ => match os with
      | [oa, ob] => match res ρ oa, res ρ ob with
        | some x, some y => match cmpT o x y with
          | some true => (evO (ev P F L n) c ρ).bind fun oc ρ => match res ρ ob, res ρ oc with
            | some y, some z => ofB (cmpT p y z) ρ
            | _, _ => .bad
          | some false => .ok (.t (.bl false)) ρ
          | none => .bad
        | _, _ => .bad
      | _ => .bad := rfl
theorem ev_and (a b : Ex) : ev P F L (n + 1) (.and_ a b) ρ = (evP (ev P F L n) a ρ).bind fun x ρ => match x with
      | .bl true => ev P F L n b ρ
      | .bl false => .ok (.t (.bl false)) ρ
      | _ => .bad := rfl
theorem ev_or (a b : Ex) : ev P F L (n + 1) (.or_ a b) ρ = (evP (ev P F L n) a ρ).bind fun x ρ => match x with
      | .bl true => .ok (.t (.bl true)) ρ
      | .bl false => ev P F L n b ρ
      | _ => .bad := rfl
theorem ev_tand (a b : Ex) : ev P F L (n + 1) (.tand a b) ρ = (evB (ev P F L n) a ρ).bind fun x ρ => match x with
      | true => (evB (ev P F L n) b ρ).bind fun y ρ => .ok (.t (.bl y)) ρ
      | false => .ok (.t (.bl false)) ρ := rfl
theorem ev_tor (a b : Ex) : ev P F L (n + 1) (.tor a b) ρ = (evB (ev P F L n) a ρ).bind fun x ρ => match x with
      | true => .ok (.t (.bl true)) ρ
      | false => (evB (ev P F L n) b ρ).bind fun y ρ => .ok (.t (.bl y)) ρ := rfl
theorem ev_not (a : Ex) : ev P F L (n + 1) (.not_ a) ρ = (evB (ev P F L n) a ρ).bind fun x ρ => .ok (.t (.bl (!x))) ρ := rfl
theorem ev_ite (c a b : Ex) : ev P F L (n + 1) (.ite c a b) ρ = (evB (ev P F L n) c ρ).bind fun x ρ => match x with
      | true => ev P F L n a ρ
      | false => ev P F L n b ρ := rfl
theorem ev_isn (neg : Bool) (a : Ex) : ev P F L (n + 1) (.isn neg a) ρ = (evP (ev P F L n) a ρ).bind fun x ρ => match x with
      | .non => .ok (.t (.bl (!neg))) ρ
      | _ => .ok (.t (.bl neg)) ρ := rfl
theorem ev_isb (neg : Bool) (a : Ex) (k : Bool) : ev P F L (n + 1) (.isb neg a k) ρ = (evP (ev P F L n) a ρ).bind fun x ρ => match x with
      | .bl j => .ok (.t (.bl (neg != (j == k)))) ρ
      | _ => .bad := rfl
theorem ev_isi (a : Ex) (ts : List Ty) : ev P F L (n + 1) (.isi a ts) ρ = (evP (ev P F L n) a ρ).bind fun x ρ => ofB (isiT x ts) ρ := rfl
theorem ev_call (f : Nat) (ps : List (Nat ⊕ T)) (es : List Ex) : ev P F L (n + 1) (.call f ps es) ρ = (evOs (ev P F L n) es ρ).bind fun os ρ => match (if ps.isEmpty then some os else place os ps), P.fns[f]? with
      | some os, some fc => callWith F f fc.md os ρ
      | _, _ => .bad := rfl
theorem ev_call1 (f : Nat) (e : Ex) : ev P F L (n + 1) (.call1 f e) ρ = (ev P F L n e ρ).bind fun a ρ => match P.fns[f]?, a with
      | some fc, .f xs => match fc.md with
        | [.chg] => match F f [.f xs] with
          | .ok r [_] => .ok r ρ
          | .exc c ts => .exc c ts ρ
          | _ => .bad
        | _ => .bad
      | _, _ => .bad := rfl
theorem ev_bi (b : Bi) (es : List Ex) : ev P F L (n + 1) (.bi b es) ρ = (evPs (ev P F L n) es ρ).bind fun ts ρ => ofA? (biT b ts) ρ := rfl
theorem ev_app (i : Nat) (e : Ex) : ev P F L (n + 1) (.app i e) ρ = match isOwn ρ i with
      | false => .bad
      | true => (evF (ev P F L n) e ρ).bind (appC i) := rfl
theorem ev_ext (i : Nat) (e : Ex) : ev P F L (n + 1) (.ext i e) ρ = match isOwn ρ i with
      | false => .bad
      | true => (evP (ev P F L n) e ρ).bind (extC i) := rfl
theorem ev_pop (i : Nat) : ev P F L (n + 1) (.pop i) ρ = popC i ρ := rfl
theorem ev_popA (i : Nat) (e : Ex) : ev P F L (n + 1) (.popA i e) ρ = match isOwn ρ i with
      | false => .bad
      | true => (evP (ev P F L n) e ρ).bind (popAC i) := rfl
theorem ev_idx (a i : Ex) : ev P F L (n + 1) (.idx a i) ρ = (evOs (ev P F L n) [a, i] ρ).bind fun os ρ => match ress ρ os with
      | some [x, y] => ofT (idxT x y) ρ
      | _ => .bad := rfl
theorem ev_ixof (a i : Ex) : ev P F L (n + 1) (.ixof a i) ρ = (evO (ev P F L n) a ρ).bind fun o ρ => match res ρ o with
      | some (.lst _) => (evP (ev P F L n) i ρ).bind fun y ρ => match res ρ o with
        | some x => ofT (ixofT x y) ρ
        | none => .bad
      | _ => .bad := rfl
theorem ev_slc (a : Ex) (lo hi : Option Ex) : ev P F L (n + 1) (.slc a lo hi) ρ = (evO (ev P F L n) a ρ).bind fun o ρ => (evS (ev P F L n) lo ρ).bind fun l ρ => (evS (ev P F L n) hi ρ).bind fun h ρ => match res ρ o with
      | some x => ofA? (cutT x l h) ρ
      | none => .bad := rfl
theorem ev_rev (a : Ex) : ev P F L (n + 1) (.rev a) ρ = (evP (ev P F L n) a ρ).bind fun x ρ => match x with
      | .lst xs => .ok (.f xs.reverse) ρ
      | _ => .bad := rfl
/-! ### statements -/
theorem exs_nil : exs P F L n0 (n + 1) [] ρ = .nx ρ := rfl
/-- a statement, then the rest -/
def _root_.PV.RS.nxt (x : RS) (k : Rho → RS) : RS := match x with
  | .nx ρ => k ρ
  | x => x
theorem nxt_nx (k : Rho → RS) : RS.nxt (.nx ρ) k = k ρ := rfl
theorem nxt_rt (a : A) (k : Rho → RS) : RS.nxt (.rt a ρ) k = .rt a ρ := rfl
theorem nxt_bk (k : Rho → RS) : RS.nxt (.bk ρ) k = .bk ρ := rfl
theorem nxt_ct (k : Rho → RS) : RS.nxt (.ct ρ) k = .ct ρ := rfl
variable {r : List Sm}
theorem exs_ex (e : Ex) : exs P F L n0 (n + 1) (.ex e :: r) ρ = (RS.of (ev P F L n0 e ρ) fun _ ρ => .nx ρ).nxt (exs P F L n0 n r) := by
  show (match (RS.of (ev P F L n0 e ρ) fun _ ρ => .nx ρ) with | .nx ρ => exs P F L n0 n r ρ | x => x) = _
  cases (RS.of (ev P F L n0 e ρ) fun _ ρ => .nx ρ) <;> rfl
theorem nxt_eq (x : RS) (k : Rho → RS) : (match x with | .nx ρ => k ρ | x => x) = x.nxt k := by cases x <;> rfl
theorem exs_retl (i : Nat) : exs P F L n0 (n + 1) (.ret (.loc i) :: r) ρ = (match ρ[i]? with
          | some (.o true xs) => .rt (.f xs) ρ
          | some (.v t) => .rt (.t t) ρ
          | _ => .bad : RS).nxt (exs P F L n0 n r) := (show _ = _ from by rw [← nxt_eq]; rfl)
theorem exs_ret (e : Ex) (h : ∀ i, e ≠ .loc i) : exs P F L n0 (n + 1) (.ret e :: r) ρ = (RS.of (ev P F L n0 e ρ) fun a ρ => .rt a ρ).nxt (exs P F L n0 n r) := by
  rw [← nxt_eq]
  cases e <;> first | rfl | exact absurd rfl (h _)
theorem exs_asg (i : Nat) (e : Ex) : exs P F L n0 (n + 1) (.asg i e :: r) ρ = (RS.of (ev P F L n0 e ρ) fun a ρ => .nx (store1 i a ρ)).nxt (exs P F L n0 n r) := by rw [← nxt_eq]; rfl
theorem exs_unp (ts : List Tg) (e : Ex) : exs P F L n0 (n + 1) (.unp ts e :: r) ρ = (RS.of (evF (ev P F L n0) e ρ) fun t ρ => match unpT t with
        | some xs => if xs.length = ts.length then RS.of (storeAll (ev P F L n0) ts xs ρ) fun _ ρ => .nx ρ else .bad
        | none => .bad).nxt (exs P F L n0 n r) := by rw [← nxt_eq]; rfl
theorem exs_par (i j : Nat) (a b : Ex) : exs P F L n0 (n + 1) (.par i j a b :: r) ρ = (RS.of (ev P F L n0 a ρ) fun x ρ => RS.of (ev P F L n0 b ρ) fun y ρ => .nx (store1 j y (store1 i x ρ))).nxt (exs P F L n0 n r) := by rw [← nxt_eq]; rfl
theorem exs_set (i : Nat) (k e : Ex) : exs P F L n0 (n + 1) (.set i k e :: r) ρ = (RS.of (evF (ev P F L n0) e ρ) fun t ρ => RS.of (storeAll (ev P F L n0) [.ix i k] [t] ρ) fun _ ρ => .nx ρ).nxt (exs P F L n0 n r) := by rw [← nxt_eq]; rfl
theorem exs_aug (i : Nat) (o : Bin) (e : Ex) : exs P F L n0 (n + 1) (.aug i o e :: r) ρ = (match (ρ[i]?).bind slotT with
        | some (.int a) => RS.of (evP (ev P F L n0) e ρ) fun t ρ => augC i o a t ρ
        | _ => .bad : RS).nxt (exs P F L n0 n r) := by rw [← nxt_eq]; rfl
theorem exs_ite (c : Ex) (a b : List Sm) : exs P F L n0 (n + 1) (.ite c a b :: r) ρ = (RS.of (evB (ev P F L n0) c ρ) fun x ρ => match x with
        | true => exs P F L n0 n a ρ
        | false => exs P F L n0 n b ρ).nxt (exs P F L n0 n r) := by rw [← nxt_eq]; rfl
theorem exs_whl (c : Ex) (b : List Sm) : exs P F L n0 (n + 1) (.whl c b :: r) ρ = (whlL (evB (ev P F L n0) c) (exs P F L n0 n b) L ρ).nxt (exs P F L n0 n r) := by rw [← nxt_eq]; rfl
theorem exs_for (tg : List Nat) (tp : Bool) (k : Nat) (its : List Ex) (b : List Sm) : exs P F L n0 (n + 1) (.for_ tg tp k its b :: r) ρ = (RS.of (evIf (ev P F L n0) k its ρ) fun iv ρ => forL (forTurn tg tp (exs P F L n0 n b)) iv L 0 ρ).nxt (exs P F L n0 n r) := by rw [← nxt_eq]; rfl
/-! ### loops -/
theorem compL_ok {turn : T → Rho → R (Option T)} {iv : Iv} {xs : List T} {g : T → Option T} (hx : ∀ i, turnAt ρ i iv = some (xs[i]?)) (ht : ∀ x ∈ xs, turn x ρ = .ok (g x) ρ) : ∀ (m i : Nat) (acc : List T), i ≤ xs.length → xs.length < m + i → acc.length + (xs.length - i) ≤ big →
    compL turn iv m i acc ρ = .ok (.f (acc ++ (xs.drop i).filterMap g)) ρ := by
  intro m
  induction m with
  | zero =>
    intro i acc h0 h1 _
    omega
  | succ m ih =>
    intro i acc h0 h1 h2
    unfold compL
    rw [hx i]
    cases e : xs[i]? with
    | none =>
      dsimp only
      rw [List.drop_eq_nil_of_le (List.getElem?_eq_none_iff.mp e)]
      simp
    | some x =>
      have hi := (List.getElem?_eq_some_iff.mp e).1
      have ex := (List.getElem?_eq_some_iff.mp e).2
      dsimp only
      rw [ht x (List.mem_of_getElem? e)]
      have hd : xs.drop i = x :: xs.drop (i + 1) := by rw [List.drop_eq_getElem_cons hi, ex]
      cases eg : g x with
      | none =>
        dsimp only
        rw [ih (i + 1) acc (by omega) (by omega) (by omega), hd, List.filterMap_cons, eg]
      | some y =>
        dsimp only
        rw [if_pos (by omega), ih (i + 1) (acc ++ [y]) (by omega) (by omega) (by rw [List.length_append, List.length_singleton]; omega), hd, List.filterMap_cons, eg]
        simp
theorem ev_comp_ok {own tg : List Nat} {tp : Bool} {k : Nat} {its : List Ex} {cond : Option Ex} {elt : Ex} {iv : Iv} {ρ1 : Rho} {xs : List T} {g : T → Option T} (hiv : evIv (ev P F L n) k its ρ = .ok iv ρ1) (hf : (ivFree own iv && plainSl own ρ1) = true) (hx : ∀ i, turnAt (wipeE ρ1 own) i iv = some (xs[i]?))
    (ht : ∀ x ∈ xs, compTurn (ev P F L n) own tg tp cond elt x (wipeE ρ1 own) = .ok (g x) (wipeE ρ1 own)) (hL : xs.length < L) (hb : xs.length ≤ big) : ev P F L (n + 1) (.comp own tg tp k its cond elt) ρ = .ok (.f (xs.filterMap g)) (backE ρ1 (wipeE ρ1 own) own) := by
  show (evIv (ev P F L n) k its ρ).bind _ = _
  rw [hiv]
  show (match ivFree own iv && plainSl own ρ1 with
      | false => (.bad : R A)
      | true => match compL (compTurn (ev P F L n) own tg tp cond elt) iv L 0 [] (wipeE ρ1 own) with
        | .ok a ρ => .ok a (backE ρ1 ρ own)
        | _ => .bad) = _
  rw [hf]
  dsimp only
  rw [compL_ok hx ht L 0 [] (Nat.zero_le _) (by omega) (by rw [List.length_nil]; omega)]
  rfl
theorem ev_comp_map {own tg : List Nat} {tp : Bool} {k : Nat} {its : List Ex} {cond : Option Ex} {elt : Ex} {iv : Iv} {ρ1 ρ2 : Rho} {xs : List T} (f : T → T) (hiv : evIv (ev P F L n) k its ρ = .ok iv ρ1) (hf : (ivFree own iv && plainSl own ρ1) = true) (hx : ∀ i, turnAt (wipeE ρ1 own) i iv = some (xs[i]?))
    (ht : ∀ x ∈ xs, compTurn (ev P F L n) own tg tp cond elt x (wipeE ρ1 own) = .ok (some (f x)) (wipeE ρ1 own)) (hL : xs.length < L) (hb : xs.length ≤ big) (h2 : backE ρ1 (wipeE ρ1 own) own = ρ2) : ev P F L (n + 1) (.comp own tg tp k its cond elt) ρ = .ok (.f (xs.map f)) ρ2 := by
  rw [ev_comp_ok (g := fun x => some (f x)) hiv hf hx ht hL hb, h2]
  congr 2
  simp
theorem evIf_x {ih : Ex → Rho → R A} {k : Nat} {its : List Ex} {t : T} {iv : Iv} (h : evOs ih its ρ = .ok [.x t] ρ) (hv : ivOf k ρ [.x t] = some iv) : evIf ih k its ρ = .ok iv ρ := by
  have e : evIf ih k its ρ = (evOs ih its ρ).bind (fun os ρ => match frzs ρ os with
    | some (ts, ρ) => (match ivOf k ρ (ts.map .x) with
      | some iv => .ok iv ρ
      | none => .bad)
    | none => .bad) := rfl
  rw [e, h]
  show (match ivOf k ρ [.x t] with | some iv => (.ok iv ρ : R Iv) | none => .bad) = _
  rw [hv]
theorem evIv_x {ih : Ex → Rho → R A} {k : Nat} {its : List Ex} {t : T} {iv : Iv} (h : evOs ih its ρ = .ok [.x t] ρ) (hv : ivOf k ρ [.x t] = some iv) : evIv ih k its ρ = .ok iv ρ := by
  have e : evIv ih k its ρ = (evOs ih its ρ).bind (fun os ρ => match ivOf k ρ os with
    | some iv => .ok iv ρ
    | none => .bad) := rfl
  rw [e, h]
  show (match ivOf k ρ [.x t] with | some iv => (.ok iv ρ : R Iv) | none => .bad) = _
  rw [hv]
theorem p62 : (2 : Int) ^ 62 = 4611686018427387904 := by decide
theorem iv_range {n : Nat} (h : n < 1000) : ivOf 1 ρ [.x (.int (n : Nat))] = some (.rg 0 n) := by
  unfold ivOf
  simp only [PV.res]
  have a : -(2 ^ 62) ≤ ((n : Nat) : Int) ∧ ((n : Nat) : Int) < 2 ^ 62 := by rw [p62]; omega
  rw [if_pos a, Int.toNat_natCast]
/-- a loop that goes on to its end -/
theorem forL_inv {turn : T → Rho → RS} {iv : Iv} {xs : List T} (I : Nat → Rho → Prop) (hx : ∀ i ρ, turnAt ρ i iv = some (xs[i]?)) (ht : ∀ i x ρ, xs[i]? = some x → I i ρ → ∃ ρ', turn x ρ = .nx ρ' ∧ I (i + 1) ρ') : ∀ (m i : Nat) (ρ : Rho), i ≤ xs.length → xs.length < m + i → I i ρ → ∃ ρ', forL turn iv m i ρ = .nx ρ' ∧ I xs.length ρ' := by
  intro m
  induction m with
  | zero => intro i ρ h0 h1; omega
  | succ m ih =>
    intro i ρ h0 h1 hI
    unfold forL
    rw [hx i]
    cases e : xs[i]? with
    | none =>
      have : i = xs.length := Nat.le_antisymm h0 (List.getElem?_eq_none_iff.mp e)
      subst this
      exact ⟨ρ, rfl, hI⟩
    | some x =>
      have hi := (List.getElem?_eq_some_iff.mp e).1
      obtain ⟨ρ1, e1, I1⟩ := ht i x ρ e hI
      dsimp only
      rw [e1]
      exact ih (i + 1) ρ1 (by omega) (by omega) I1
/-- a loop that looks at each item, and ends at the first that is not right; b: the slots but the target's -/
theorem forL_all {turn : T → Rho → RS} {iv : Iv} {xs : List T} {p : T → Bool} {a : A} (I : Rho → Prop) (hx : ∀ i ρ, turnAt ρ i iv = some (xs[i]?)) (ht : ∀ x ρ, x ∈ xs → I ρ → ∃ ρ', turn x ρ = (if p x then .nx ρ' else .rt a ρ') ∧ I ρ') : ∀ (m i : Nat) (ρ : Rho), i ≤ xs.length → xs.length < m + i → I ρ →
    ∃ ρ', forL turn iv m i ρ = (if (xs.drop i).all p then .nx ρ' else .rt a ρ') ∧ I ρ' := by
  intro m
  induction m with
  | zero => intro i ρ h0 h1; omega
  | succ m ih =>
    intro i ρ h0 h1 hI
    unfold forL
    rw [hx i]
    cases e : xs[i]? with
    | none =>
      rw [List.drop_eq_nil_of_le (List.getElem?_eq_none_iff.mp e)]
      exact ⟨ρ, rfl, hI⟩
    | some x =>
      have hi := (List.getElem?_eq_some_iff.mp e).1
      have ex := (List.getElem?_eq_some_iff.mp e).2
      obtain ⟨ρ1, e1, I1⟩ := ht x ρ (List.mem_of_getElem? e) hI
      have hd : xs.drop i = x :: xs.drop (i + 1) := by rw [List.drop_eq_getElem_cons hi, ex]
      dsimp only
      rw [e1, hd, List.all_cons]
      cases px : p x with
      | true =>
        obtain ⟨ρ2, e2, I2⟩ := ih (i + 1) ρ1 (by omega) (by omega) I1
        exact ⟨ρ2, by simpa using e2, I2⟩
      | false => exact ⟨ρ1, rfl, I1⟩
end
theorem big_le_0 : (0 ≤ big) = True := eq_true (by decide)
theorem big_le_1 : (1 ≤ big) = True := eq_true (by decide)
theorem big_le_2 : (2 ≤ big) = True := eq_true (by decide)
theorem big_le_3 : (3 ≤ big) = True := eq_true (by decide)
theorem big_le_4 : (4 ≤ big) = True := eq_true (by decide)
theorem big_le_5 : (5 ≤ big) = True := eq_true (by decide)
theorem big_le_6 : (6 ≤ big) = True := eq_true (by decide)
theorem big_le_7 : (7 ≤ big) = True := eq_true (by decide)
theorem big_le_8 : (8 ≤ big) = True := eq_true (by decide)
theorem big_le_9 : (9 ≤ big) = True := eq_true (by decide)
theorem big_le_10 : (10 ≤ big) = True := eq_true (by decide)
theorem big_le_11 : (11 ≤ big) = True := eq_true (by decide)
theorem big_le_12 : (12 ≤ big) = True := eq_true (by decide)
theorem big_le_13 : (13 ≤ big) = True := eq_true (by decide)
/-! ### calls of defs -/
theorem Fd_eq {P : Pg} {L n d f : Nat} {fc : Fc} {as : List A} (h : P.fns[f]? = some fc) : Fd P L n (d + 1) f as = runF P (Fd P L n d) L n fc as := by
  show (match P.fns[f]? with
    | some fc => runF P (Fd P L n d) L n fc as
    | none => .bad) = _
  rw [h]
theorem runF_rt {P : Pg} {F : Orc} {L n : Nat} {fc : Fc} {as : List A} {ρ0 ρ : Rho} {a : A} {ms : List (List T)} (h1 : startE fc.slots fc.md as = some ρ0) (h2 : exs P F L n n fc.body ρ0 = .rt a ρ) (h3 : mutsAt 0 fc.md ρ = some ms) : runF P F L n fc as = .ok a ms := by
  unfold runF
  rw [h1]
  show (match exs P F L n n fc.body ρ0 with
    | .nx ρ => endC fc (.t .non) ρ
    | .rt a ρ => endC fc a ρ
    | .exc c ts _ => .exc c ts
    | _ => .bad) = _
  rw [h2]
  show (match mutsAt 0 fc.md ρ with | some ms => CR.ok a ms | none => .bad) = _
  rw [h3]
theorem Fd_rt {P : Pg} {L n d f : Nat} {fc : Fc} {as : List A} {ρ0 ρ : Rho} {a : A} {ms : List (List T)} (h : P.fns[f]? = some fc) (h1 : startE fc.slots fc.md as = some ρ0) (h2 : exs P (Fd P L n d) L n n fc.body ρ0 = .rt a ρ) (h3 : mutsAt 0 fc.md ρ = some ms) : Fd P L n (d + 1) f as = .ok a ms := by
  rw [Fd_eq h]
  exact runF_rt h1 h2 h3
/-! ### ints -/
theorem eqTs_ints : ∀ a b : List Int, eqTs (a.map T.int) (b.map T.int) = decide (a = b)
  | [], [] => rfl
  | [], _ :: _ => rfl
  | _ :: _, [] => rfl
  | x :: a, y :: b => by
    show ((x == y) && eqTs (a.map T.int) (b.map T.int)) = _
    rw [eqTs_ints a b]
    by_cases h : x = y
    · subst h
      by_cases h2 : a = b
      · subst h2; simp
      · simp [h2]
    · simp [h]
theorem intsT_map : ∀ a : List Int, intsT (a.map T.int) = some a
  | [] => rfl
  | x :: a => by
    show (intsT (a.map T.int)).map (x :: ·) = _
    rw [intsT_map a]; rfl
theorem intsT_some : ∀ {xs : List T} {a : List Int}, intsT xs = some a → xs = a.map T.int
  | [], _, h => by cases h; rfl
  | .int i :: r, _, h => by
    obtain ⟨b, e1, e2⟩ := Option.map_eq_some_iff.mp (show (intsT r).map (i :: ·) = some _ from h)
    subst e2
    rw [intsT_some e1]; rfl
  | .non :: _, _, h => by cases h
  | .bl _ :: _, _, h => by cases h
  | .str _ :: _, _, h => by cases h
  | .lst _ :: _, _, h => by cases h
  | .tup _ :: _, _, h => by cases h
  | .ins _ _ :: _, _, h => by cases h
  | .scr _ :: _, _, h => by cases h
  | .dit _ _ :: _, _, h => by cases h
  | .dik _ _ :: _, _, h => by cases h
theorem insI_length (x : Int) : ∀ l : List Int, (insI x l).length = l.length + 1
  | [] => rfl
  | y :: ys => by
    unfold insI
    split
    · rfl
    · rw [List.length_cons, insI_length x ys]; rfl
theorem sortI_length : ∀ l : List Int, (sortI l).length = l.length
  | [] => rfl
  | x :: xs => by
    show (insI x (sortI xs)).length = _
    rw [insI_length, sortI_length xs]; rfl
theorem insI_perm' (x : Int) : ∀ l : List Int, (insI x l).Perm (x :: l)
  | [] => .refl _
  | y :: ys => by
    unfold insI
    split
    · exact .refl _
    · exact ((insI_perm' x ys).cons y).trans (.swap x y ys)
theorem sortI_perm' : ∀ l : List Int, (sortI l).Perm l
  | [] => .refl _
  | x :: xs => (insI_perm' x (sortI xs)).trans ((sortI_perm' xs).cons x)
def rng (n : Nat) : List Int := (List.range n).map fun (k : Nat) => (k : Int)
theorem rng_length (n : Nat) : (rng n).length = n := by simp [rng]
theorem mem_rng {n : Nat} {x : Int} : x ∈ rng n ↔ 0 ≤ x ∧ x < n := by
  unfold rng
  rw [List.mem_map]
  constructor
  · rintro ⟨k, h1, h2⟩
    rw [List.mem_range] at h1
    omega
  · rintro ⟨h1, h2⟩
    exact ⟨x.toNat, List.mem_range.mpr (by omega), by omega⟩
end PL

set_option Elab.async false
set_option linter.all false
set_option maxRecDepth 1000000
set_option maxHeartbeats 4000000
namespace K89
open PV PySem PL
abbrev Fo (d : Nat) : Orc := Fd pg 1000 60 d
def isI : T → Bool
  | .int _ => true
  | _ => false
def cnt : T → Bool
  | .int i => decide (0 ≤ i)
  | _ => false
/-- no instance, no script -/
def dat : T → Bool
  | .ins _ _ => false
  | .scr _ => false
  | _ => true
def seq? (v : T) : Bool := (itemsT v).isSome
theorem p0 : pg.fns[0]? = some ⟨1, [Md.val], c0⟩ := rfl
theorem p1 : pg.fns[1]? = some ⟨1, [Md.val], c1⟩ := rfl
theorem p2 : pg.fns[2]? = some ⟨1, [Md.val], c2⟩ := rfl
theorem p3 : pg.fns[3]? = some ⟨4, [Md.val, Md.val], c3⟩ := rfl
theorem p4 : pg.fns[4]? = some ⟨4, [Md.val, Md.val], c4⟩ := rfl
theorem p5 : pg.fns[5]? = some ⟨8, [Md.val], c5⟩ := rfl
theorem p6 : pg.fns[6]? = some ⟨1, [Md.val], c6⟩ := rfl
theorem p7 : pg.fns[7]? = some ⟨3, [Md.val, Md.val], c7⟩ := rfl
theorem p8 : pg.fns[8]? = some ⟨3, [Md.chg, Md.val], c8⟩ := rfl
theorem p9 : pg.fns[9]? = some ⟨2, [Md.chg, Md.val], c9⟩ := rfl
theorem p10 : pg.fns[10]? = some ⟨4, [Md.val, Md.val], c10⟩ := rfl
theorem p11 : pg.fns[11]? = some ⟨7, [Md.val], c11⟩ := rfl
theorem p12 : pg.fns[12]? = some ⟨1, [], c12⟩ := rfl
theorem p13 : pg.fns[13]? = some ⟨1, [], c13⟩ := rfl
theorem p14 : pg.fns[14]? = some ⟨5, [Md.chg, Md.val], c14⟩ := rfl
theorem p15 : pg.fns[15]? = some ⟨9, [Md.chg, Md.val], c15⟩ := rfl
theorem p16 : pg.fns[16]? = some ⟨4, [Md.val, Md.val], c16⟩ := rfl
theorem p17 : pg.fns[17]? = some ⟨8, [Md.val], c17⟩ := rfl
theorem p18 : pg.fns[18]? = some ⟨12, [Md.chg, Md.val], c18⟩ := rfl
theorem p19 : pg.fns[19]? = some ⟨6, [Md.chg], c19⟩ := rfl
theorem p20 : pg.fns[20]? = some ⟨3, [Md.val], c20⟩ := rfl
theorem f0 (d : Nat) {v : T} (h : dat v = true) : Fo (d + 1) 0 [.t v] = .ok (.t (.bl (isI v))) [] := by
  cases v <;> first | rfl | cases h
theorem f2 (d : Nat) {v : T} (h : dat v = true) : Fo (d + 1) 2 [.t v] = .ok (.t (.bl (seq? v))) [] := by
  cases v <;> first | rfl | cases h
theorem f1 (d : Nat) {v : T} (h : dat v = true) : Fo (d + 2) 1 [.t v] = .ok (.t (.bl (cnt v))) [] := by
  have e : Fo (d + 2) 1 [.t v] = runF pg (Fo (d + 1)) 1000 60 ⟨1, [.val], c1⟩ [.t v] := rfl
  rw [e]
  unfold c1
  simp only [PL.ev_con, PL.ev_loc, PL.ev_dk0, PL.ev_dk1, PL.ev_lst, PL.ev_tup, PL.ev_bin, PL.ev_neg, PL.ev_cmp, PL.ev_chn, PL.ev_and, PL.ev_or, PL.ev_tand, PL.ev_tor, PL.ev_not, PL.ev_ite, PL.ev_isn, PL.ev_isb, PL.ev_isi, PL.ev_call, PL.ev_call1, PL.ev_bi, PL.ev_app, PL.ev_ext, PL.ev_pop, PL.ev_popA, PL.ev_idx, PL.ev_ixof, PL.ev_slc, PL.ev_rev, PV.evO, PV.evOs, PV.evP, PV.evPs, PV.evF, PV.evB, PV.evS, PL.r_ok_bind, PL.r_bad_bind, PL.rs_of_ok, PL.exs_nil, PL.exs_ex, PL.exs_retl, PL.exs_ret, PL.exs_asg, PL.exs_unp, PL.exs_par, PL.exs_set, PL.exs_aug, PL.exs_ite, PL.nxt_nx, PL.nxt_rt, PL.nxt_bk, PL.nxt_ct, PV.res, PV.ress, PV.frz, PV.frzs, PV.slotT, PV.ofA, PV.ofB, PV.ofT, PV.ofA?, PV.store1, PV.callWith, PV.argsOf, PV.argOf, PV.mutsOf, PV.lentOf, PV.isOwn, PV.putBack, PV.appC, PV.extC, PV.popC, PV.popAC, PV.setIx, PV.truth, PV.storeAll, PL.big_le_0, PL.big_le_1, PL.big_le_2, PL.big_le_3, PL.big_le_4, PL.big_le_5, PL.big_le_6, PL.big_le_7, PL.big_le_8, PL.big_le_9, PL.big_le_10, PL.big_le_11, PL.big_le_12, PL.big_le_13, PV.unpT, PV.compTurn, PV.bindTo, PV.setAll, PV.wipeE, PV.backE, PV.forTurn, PV.tupT, PV.startE, PV.slotOf, PV.endC, PV.mutsAt, PV.runF, List.getElem?_cons_zero, List.getElem?_cons_succ, List.getElem?_nil, Option.bind_some, Option.bind_none, Option.map_some, Option.map_none, List.set_cons_zero, List.set_cons_succ, List.isEmpty_nil, List.isEmpty_cons, if_true, if_false, List.replicate_succ, List.replicate_zero, List.length_cons, List.length_nil, Bool.not_true, Bool.not_false, Bool.and_true, Bool.and_false, Bool.true_and, Bool.false_and, reduceCtorEq, ne_eq, not_false_eq_true, implies_true, Bool.true_or, Bool.false_or, Bool.or_true, Bool.or_false, Nat.reduceAdd, Nat.reduceLeDiff, Nat.reduceSub, f0 d h, p0]
  cases v <;> rfl
theorem f4 (d : Nat) {a b : List T} {g : T → T} (ha : ∀ x ∈ b, idxT (.tup a) x = some (g x)) (hb : b.length < 1000) : Fo (d + 1) 4 [.t (.tup a), .t (.tup b)] = .ok (.t (.tup (b.map g))) [] := by
  have e : Fo (d + 1) 4 [.t (.tup a), .t (.tup b)] = runF pg (Fo d) 1000 60 ⟨4, [.val, .val], c4⟩ [.t (.tup a), .t (.tup b)] := rfl
  rw [e]
  unfold c4
  have hc : ∀ n, ev pg (Fo d) 1000 (n + 5) (.comp [2, 3] [3] false 0 [.loc 1] none ((Ex.loc 0).idx (.loc 3))) [.v (.tup a), .v (.tup b), .u, .u] = .ok (.f (b.map g)) [.v (.tup a), .v (.tup b), .u, .u] := fun n => by
    rw [ev_comp_ok (iv := .sq false (.d 1)) (ρ1 := [.v (.tup a), .v (.tup b), .u, .u]) (xs := b) (g := fun x => some (g x)) rfl rfl (fun i => rfl) (fun x hx => ?_) hb (by unfold big; omega)]
    · simp; rfl
    · simp only [PL.ev_con, PL.ev_loc, PL.ev_dk0, PL.ev_dk1, PL.ev_lst, PL.ev_tup, PL.ev_bin, PL.ev_neg, PL.ev_cmp, PL.ev_chn, PL.ev_and, PL.ev_or, PL.ev_tand, PL.ev_tor, PL.ev_not, PL.ev_ite, PL.ev_isn, PL.ev_isb, PL.ev_isi, PL.ev_call, PL.ev_call1, PL.ev_bi, PL.ev_app, PL.ev_ext, PL.ev_pop, PL.ev_popA, PL.ev_idx, PL.ev_ixof, PL.ev_slc, PL.ev_rev, PV.evO, PV.evOs, PV.evP, PV.evPs, PV.evF, PV.evB, PV.evS, PL.r_ok_bind, PL.r_bad_bind, PL.rs_of_ok, PL.exs_nil, PL.exs_ex, PL.exs_retl, PL.exs_ret, PL.exs_asg, PL.exs_unp, PL.exs_par, PL.exs_set, PL.exs_aug, PL.exs_ite, PL.nxt_nx, PL.nxt_rt, PL.nxt_bk, PL.nxt_ct, PV.res, PV.ress, PV.frz, PV.frzs, PV.slotT, PV.ofA, PV.ofB, PV.ofT, PV.ofA?, PV.store1, PV.callWith, PV.argsOf, PV.argOf, PV.mutsOf, PV.lentOf, PV.isOwn, PV.putBack, PV.appC, PV.extC, PV.popC, PV.popAC, PV.setIx, PV.truth, PV.storeAll, PL.big_le_0, PL.big_le_1, PL.big_le_2, PL.big_le_3, PL.big_le_4, PL.big_le_5, PL.big_le_6, PL.big_le_7, PL.big_le_8, PL.big_le_9, PL.big_le_10, PL.big_le_11, PL.big_le_12, PL.big_le_13, PV.unpT, PV.compTurn, PV.bindTo, PV.setAll, PV.wipeE, PV.backE, PV.forTurn, PV.tupT, PV.startE, PV.slotOf, PV.endC, PV.mutsAt, PV.runF, List.getElem?_cons_zero, List.getElem?_cons_succ, List.getElem?_nil, Option.bind_some, Option.bind_none, Option.map_some, Option.map_none, List.set_cons_zero, List.set_cons_succ, List.isEmpty_nil, List.isEmpty_cons, if_true, if_false, List.replicate_succ, List.replicate_zero, List.length_cons, List.length_nil, Bool.not_true, Bool.not_false, Bool.and_true, Bool.and_false, Bool.true_and, Bool.false_and, reduceCtorEq, ne_eq, not_false_eq_true, implies_true, Bool.true_or, Bool.false_or, Bool.or_true, Bool.or_false, Nat.reduceAdd, Nat.reduceLeDiff, Nat.reduceSub, ha x hx]
  simp only [PL.ev_con, PL.ev_loc, PL.ev_dk0, PL.ev_dk1, PL.ev_lst, PL.ev_tup, PL.ev_bin, PL.ev_neg, PL.ev_cmp, PL.ev_chn, PL.ev_and, PL.ev_or, PL.ev_tand, PL.ev_tor, PL.ev_not, PL.ev_ite, PL.ev_isn, PL.ev_isb, PL.ev_isi, PL.ev_call, PL.ev_call1, PL.ev_bi, PL.ev_app, PL.ev_ext, PL.ev_pop, PL.ev_popA, PL.ev_idx, PL.ev_ixof, PL.ev_slc, PL.ev_rev, PV.evO, PV.evOs, PV.evP, PV.evPs, PV.evF, PV.evB, PV.evS, PL.r_ok_bind, PL.r_bad_bind, PL.rs_of_ok, PL.exs_nil, PL.exs_ex, PL.exs_retl, PL.exs_ret, PL.exs_asg, PL.exs_unp, PL.exs_par, PL.exs_set, PL.exs_aug, PL.exs_ite, PL.nxt_nx, PL.nxt_rt, PL.nxt_bk, PL.nxt_ct, PV.res, PV.ress, PV.frz, PV.frzs, PV.slotT, PV.ofA, PV.ofB, PV.ofT, PV.ofA?, PV.store1, PV.callWith, PV.argsOf, PV.argOf, PV.mutsOf, PV.lentOf, PV.isOwn, PV.putBack, PV.appC, PV.extC, PV.popC, PV.popAC, PV.setIx, PV.truth, PV.storeAll, PL.big_le_0, PL.big_le_1, PL.big_le_2, PL.big_le_3, PL.big_le_4, PL.big_le_5, PL.big_le_6, PL.big_le_7, PL.big_le_8, PL.big_le_9, PL.big_le_10, PL.big_le_11, PL.big_le_12, PL.big_le_13, PV.unpT, PV.compTurn, PV.bindTo, PV.setAll, PV.wipeE, PV.backE, PV.forTurn, PV.tupT, PV.startE, PV.slotOf, PV.endC, PV.mutsAt, PV.runF, List.getElem?_cons_zero, List.getElem?_cons_succ, List.getElem?_nil, Option.bind_some, Option.bind_none, Option.map_some, Option.map_none, List.set_cons_zero, List.set_cons_succ, List.isEmpty_nil, List.isEmpty_cons, if_true, if_false, List.replicate_succ, List.replicate_zero, List.length_cons, List.length_nil, Bool.not_true, Bool.not_false, Bool.and_true, Bool.and_false, Bool.true_and, Bool.false_and, reduceCtorEq, ne_eq, not_false_eq_true, implies_true, Bool.true_or, Bool.false_or, Bool.or_true, Bool.or_false, Nat.reduceAdd, Nat.reduceLeDiff, Nat.reduceSub, hc 54, biT, itemsT]
theorem f10 (d : Nat) {a b : List T} {g : T → T} (ha : ∀ x ∈ b, idxT (.tup a) x = some (g x)) (hb : b.length < 1000) : Fo (d + 1) 10 [.t (.tup a), .t (.tup b)] = .ok (.t (.tup (b.map g))) [] := by
  have e : Fo (d + 1) 10 [.t (.tup a), .t (.tup b)] = runF pg (Fo d) 1000 60 ⟨4, [.val, .val], c10⟩ [.t (.tup a), .t (.tup b)] := rfl
  rw [e]
  unfold c10
  have hc : ∀ n, ev pg (Fo d) 1000 (n + 5) (.comp [2, 3] [3] false 0 [.loc 1] none ((Ex.loc 0).idx (.loc 3))) [.v (.tup a), .v (.tup b), .u, .u] = .ok (.f (b.map g)) [.v (.tup a), .v (.tup b), .u, .u] := fun n => by
    rw [ev_comp_ok (iv := .sq false (.d 1)) (ρ1 := [.v (.tup a), .v (.tup b), .u, .u]) (xs := b) (g := fun x => some (g x)) rfl rfl (fun i => rfl) (fun x hx => ?_) hb (by unfold big; omega)]
    · simp; rfl
    · simp only [PL.ev_con, PL.ev_loc, PL.ev_dk0, PL.ev_dk1, PL.ev_lst, PL.ev_tup, PL.ev_bin, PL.ev_neg, PL.ev_cmp, PL.ev_chn, PL.ev_and, PL.ev_or, PL.ev_tand, PL.ev_tor, PL.ev_not, PL.ev_ite, PL.ev_isn, PL.ev_isb, PL.ev_isi, PL.ev_call, PL.ev_call1, PL.ev_bi, PL.ev_app, PL.ev_ext, PL.ev_pop, PL.ev_popA, PL.ev_idx, PL.ev_ixof, PL.ev_slc, PL.ev_rev, PV.evO, PV.evOs, PV.evP, PV.evPs, PV.evF, PV.evB, PV.evS, PL.r_ok_bind, PL.r_bad_bind, PL.rs_of_ok, PL.exs_nil, PL.exs_ex, PL.exs_retl, PL.exs_ret, PL.exs_asg, PL.exs_unp, PL.exs_par, PL.exs_set, PL.exs_aug, PL.exs_ite, PL.nxt_nx, PL.nxt_rt, PL.nxt_bk, PL.nxt_ct, PV.res, PV.ress, PV.frz, PV.frzs, PV.slotT, PV.ofA, PV.ofB, PV.ofT, PV.ofA?, PV.store1, PV.callWith, PV.argsOf, PV.argOf, PV.mutsOf, PV.lentOf, PV.isOwn, PV.putBack, PV.appC, PV.extC, PV.popC, PV.popAC, PV.setIx, PV.truth, PV.storeAll, PL.big_le_0, PL.big_le_1, PL.big_le_2, PL.big_le_3, PL.big_le_4, PL.big_le_5, PL.big_le_6, PL.big_le_7, PL.big_le_8, PL.big_le_9, PL.big_le_10, PL.big_le_11, PL.big_le_12, PL.big_le_13, PV.unpT, PV.compTurn, PV.bindTo, PV.setAll, PV.wipeE, PV.backE, PV.forTurn, PV.tupT, PV.startE, PV.slotOf, PV.endC, PV.mutsAt, PV.runF, List.getElem?_cons_zero, List.getElem?_cons_succ, List.getElem?_nil, Option.bind_some, Option.bind_none, Option.map_some, Option.map_none, List.set_cons_zero, List.set_cons_succ, List.isEmpty_nil, List.isEmpty_cons, if_true, if_false, List.replicate_succ, List.replicate_zero, List.length_cons, List.length_nil, Bool.not_true, Bool.not_false, Bool.and_true, Bool.and_false, Bool.true_and, Bool.false_and, reduceCtorEq, ne_eq, not_false_eq_true, implies_true, Bool.true_or, Bool.false_or, Bool.or_true, Bool.or_false, Nat.reduceAdd, Nat.reduceLeDiff, Nat.reduceSub, ha x hx]
  simp only [PL.ev_con, PL.ev_loc, PL.ev_dk0, PL.ev_dk1, PL.ev_lst, PL.ev_tup, PL.ev_bin, PL.ev_neg, PL.ev_cmp, PL.ev_chn, PL.ev_and, PL.ev_or, PL.ev_tand, PL.ev_tor, PL.ev_not, PL.ev_ite, PL.ev_isn, PL.ev_isb, PL.ev_isi, PL.ev_call, PL.ev_call1, PL.ev_bi, PL.ev_app, PL.ev_ext, PL.ev_pop, PL.ev_popA, PL.ev_idx, PL.ev_ixof, PL.ev_slc, PL.ev_rev, PV.evO, PV.evOs, PV.evP, PV.evPs, PV.evF, PV.evB, PV.evS, PL.r_ok_bind, PL.r_bad_bind, PL.rs_of_ok, PL.exs_nil, PL.exs_ex, PL.exs_retl, PL.exs_ret, PL.exs_asg, PL.exs_unp, PL.exs_par, PL.exs_set, PL.exs_aug, PL.exs_ite, PL.nxt_nx, PL.nxt_rt, PL.nxt_bk, PL.nxt_ct, PV.res, PV.ress, PV.frz, PV.frzs, PV.slotT, PV.ofA, PV.ofB, PV.ofT, PV.ofA?, PV.store1, PV.callWith, PV.argsOf, PV.argOf, PV.mutsOf, PV.lentOf, PV.isOwn, PV.putBack, PV.appC, PV.extC, PV.popC, PV.popAC, PV.setIx, PV.truth, PV.storeAll, PL.big_le_0, PL.big_le_1, PL.big_le_2, PL.big_le_3, PL.big_le_4, PL.big_le_5, PL.big_le_6, PL.big_le_7, PL.big_le_8, PL.big_le_9, PL.big_le_10, PL.big_le_11, PL.big_le_12, PL.big_le_13, PV.unpT, PV.compTurn, PV.bindTo, PV.setAll, PV.wipeE, PV.backE, PV.forTurn, PV.tupT, PV.startE, PV.slotOf, PV.endC, PV.mutsAt, PV.runF, List.getElem?_cons_zero, List.getElem?_cons_succ, List.getElem?_nil, Option.bind_some, Option.bind_none, Option.map_some, Option.map_none, List.set_cons_zero, List.set_cons_succ, List.isEmpty_nil, List.isEmpty_cons, if_true, if_false, List.replicate_succ, List.replicate_zero, List.length_cons, List.length_nil, Bool.not_true, Bool.not_false, Bool.and_true, Bool.and_false, Bool.true_and, Bool.false_and, reduceCtorEq, ne_eq, not_false_eq_true, implies_true, Bool.true_or, Bool.false_or, Bool.or_true, Bool.or_false, Nat.reduceAdd, Nat.reduceLeDiff, Nat.reduceSub, hc 54, biT, itemsT]
/-! ### is_turn -/
def tn (v : T) (n : Nat) : Bool := match (itemsT v).bind intsT with
  | some is => decide (sortI is = rng n)
  | none => false
def datT (v : T) : Bool := match itemsT v with
  | some xs => xs.all dat
  | none => true
theorem sorted_rng {is : List Int} {n : Nat} (h : sortI is = rng n) : is.length = n ∧ ∀ x ∈ is, 0 ≤ x ∧ x < n := by
  refine ⟨by rw [← sortI_length is, h, rng_length], fun x hx => ?_⟩
  rw [← mem_rng, ← h]
  exact (sortI_perm' is).mem_iff.mpr hx
theorem cnt_int {xs : List T} (h : xs.all cnt = true) : ∃ is : List Int, xs = is.map T.int ∧ ∀ x ∈ is, 0 ≤ x := by
  induction xs with
  | nil => exact ⟨[], rfl, fun x hx => by cases hx⟩
  | cons x xs ih =>
    rw [List.all_cons, Bool.and_eq_true] at h
    obtain ⟨is, e, q⟩ := ih h.2
    cases x with
    | int i =>
      refine ⟨i :: is, by rw [e]; rfl, fun y hy => ?_⟩
      rcases List.mem_cons.mp hy with rfl | hy
      · exact of_decide_eq_true h.1
      · exact q y hy
    | _ => cases h.1
theorem biT_all (xs : List T) : biT .all [.lst xs] = (boolsT xs).map fun bs => .t (.bl (bs.all id)) := rfl
theorem boolsT_map (f : T → Bool) : ∀ xs : List T, boolsT (xs.map fun x => T.bl (f x)) = some (xs.map f)
  | [] => rfl
  | x :: xs => by
    show (boolsT (xs.map fun x => T.bl (f x))).map (f x :: ·) = _
    rw [boolsT_map f xs]; rfl
theorem all_id (f : T → Bool) (xs : List T) : (xs.map f).all id = xs.all f := by rw [List.all_map]; rfl
/-- the plain judge's answer, told by steps -/
theorem tn_steps {v : T} {xs : List T} {n : Nat} (hv : itemsT v = some xs) : tn v n = (decide (xs.length = n) && (xs.all cnt && match intsT xs with | some is => decide (sortI is = rng n) | none => false)) := by
  unfold tn
  rw [hv, Option.bind_some]
  cases e : intsT xs with
  | none => simp
  | some is =>
    have ex := intsT_some e
    dsimp only
    by_cases h : sortI is = rng n
    · obtain ⟨h1, h2⟩ := sorted_rng h
      have l : xs.length = n := by rw [ex, List.length_map, h1]
      have c : xs.all cnt = true := by
        rw [ex, List.all_map, List.all_eq_true]
        exact fun x hx => decide_eq_true (h2 x hx).1
      rw [decide_eq_true h, decide_eq_true l, c]; rfl
    · rw [decide_eq_false h]; simp
theorem seqItems {v : T} : seq? v = true → ∃ xs, itemsT v = some xs ∧ (v = .lst xs ∨ v = .tup xs) := fun h => by
  cases v <;> first | (cases h; done) | exact ⟨_, rfl, .inl rfl⟩ | exact ⟨_, rfl, .inr rfl⟩
theorem lrange_ok {n : Nat} (h : n < 64) : biT .lrange [.int n] = some (.f ((rng n).map T.int)) := by
  show (if 0 ≤ (n : Int) ∧ (n : Int) ≤ 16777216 then some (A.f ((List.range (n : Int).toNat).map fun (k : Nat) => T.int k)) else none) = _
  rw [if_pos (by omega)]
  unfold rng
  rw [List.map_map]
  rfl
theorem trange_ok {n : Nat} (h : n < 64) : biT .trange [.int n] = some (.t (.tup ((rng n).map T.int))) := by
  show (if 0 ≤ (n : Int) ∧ (n : Int) ≤ 16777216 then some (A.t (.tup ((List.range (n : Int).toNat).map fun (k : Nat) => T.int k))) else none) = _
  rw [if_pos (by omega)]
  unfold rng
  rw [List.map_map]
  rfl
theorem okT_ints (m : Nat) (l : List Int) : okT (m + 1) (.lst (l.map T.int)) = true := by
  show (l.map T.int).all (okT m) = true
  rw [List.all_map, List.all_eq_true]
  intro x _
  cases m <;> rfl
theorem cmp_ints (a b : List Int) : cmpT .eq (.lst (a.map T.int)) (.lst (b.map T.int)) = some (decide (a = b)) := by
  show (if okT 64 (.lst (a.map T.int)) && okT 64 (.lst (b.map T.int)) then some (eqTs (a.map T.int) (b.map T.int)) else none) = _
  rw [okT_ints 63, okT_ints 63, eqTs_ints]
  rfl
theorem f3 (d n : Nat) {v : T} (h : dat v = true) (hi : datT v = true) (hn : n < 64) : Fo (d + 3) 3 [.t v, .t (.int n)] = .ok (.t (.bl (tn v n))) [] := by
  have e : Fo (d + 3) 3 [.t v, .t (.int n)] = runF pg (Fo (d + 2)) 1000 60 ⟨4, [.val, .val], c3⟩ [.t v, .t (.int n)] := rfl
  rw [e]
  unfold c3
  simp only [PL.ev_con, PL.ev_loc, PL.ev_dk0, PL.ev_dk1, PL.ev_lst, PL.ev_tup, PL.ev_bin, PL.ev_neg, PL.ev_cmp, PL.ev_chn, PL.ev_and, PL.ev_or, PL.ev_tand, PL.ev_tor, PL.ev_not, PL.ev_ite, PL.ev_isn, PL.ev_isb, PL.ev_isi, PL.ev_call, PL.ev_call1, PL.ev_bi, PL.ev_app, PL.ev_ext, PL.ev_pop, PL.ev_popA, PL.ev_idx, PL.ev_ixof, PL.ev_slc, PL.ev_rev, PV.evO, PV.evOs, PV.evP, PV.evPs, PV.evF, PV.evB, PV.evS, PL.r_ok_bind, PL.r_bad_bind, PL.rs_of_ok, PL.exs_nil, PL.exs_ex, PL.exs_retl, PL.exs_ret, PL.exs_asg, PL.exs_unp, PL.exs_par, PL.exs_set, PL.exs_aug, PL.exs_ite, PL.nxt_nx, PL.nxt_rt, PL.nxt_bk, PL.nxt_ct, PV.res, PV.ress, PV.frz, PV.frzs, PV.slotT, PV.ofA, PV.ofB, PV.ofT, PV.ofA?, PV.store1, PV.callWith, PV.argsOf, PV.argOf, PV.mutsOf, PV.lentOf, PV.isOwn, PV.putBack, PV.appC, PV.extC, PV.popC, PV.popAC, PV.setIx, PV.truth, PV.storeAll, PL.big_le_0, PL.big_le_1, PL.big_le_2, PL.big_le_3, PL.big_le_4, PL.big_le_5, PL.big_le_6, PL.big_le_7, PL.big_le_8, PL.big_le_9, PL.big_le_10, PL.big_le_11, PL.big_le_12, PL.big_le_13, PV.unpT, PV.compTurn, PV.bindTo, PV.setAll, PV.wipeE, PV.backE, PV.forTurn, PV.tupT, PV.startE, PV.slotOf, PV.endC, PV.mutsAt, PV.runF, List.getElem?_cons_zero, List.getElem?_cons_succ, List.getElem?_nil, Option.bind_some, Option.bind_none, Option.map_some, Option.map_none, List.set_cons_zero, List.set_cons_succ, List.isEmpty_nil, List.isEmpty_cons, if_true, if_false, List.replicate_succ, List.replicate_zero, List.length_cons, List.length_nil, Bool.not_true, Bool.not_false, Bool.and_true, Bool.and_false, Bool.true_and, Bool.false_and, reduceCtorEq, ne_eq, not_false_eq_true, implies_true, Bool.true_or, Bool.false_or, Bool.or_true, Bool.or_false, Nat.reduceAdd, Nat.reduceLeDiff, Nat.reduceSub, f2 (d + 1) h, p2, truth]
  cases hs : seq? v with
  | false =>
    have : tn v n = false := by
      unfold tn
      cases q : itemsT v with
      | none => rfl
      | some _ => unfold seq? at hs; rw [q] at hs; cases hs
    simp [PL.ev_con, PL.ev_loc, PL.ev_dk0, PL.ev_dk1, PL.ev_lst, PL.ev_tup, PL.ev_bin, PL.ev_neg, PL.ev_cmp, PL.ev_chn, PL.ev_and, PL.ev_or, PL.ev_tand, PL.ev_tor, PL.ev_not, PL.ev_ite, PL.ev_isn, PL.ev_isb, PL.ev_isi, PL.ev_call, PL.ev_call1, PL.ev_bi, PL.ev_app, PL.ev_ext, PL.ev_pop, PL.ev_popA, PL.ev_idx, PL.ev_ixof, PL.ev_slc, PL.ev_rev, PV.evO, PV.evOs, PV.evP, PV.evPs, PV.evF, PV.evB, PV.evS, PL.r_ok_bind, PL.r_bad_bind, PL.rs_of_ok, PL.exs_nil, PL.exs_ex, PL.exs_retl, PL.exs_ret, PL.exs_asg, PL.exs_unp, PL.exs_par, PL.exs_set, PL.exs_aug, PL.exs_ite, PL.nxt_nx, PL.nxt_rt, PL.nxt_bk, PL.nxt_ct, PV.res, PV.ress, PV.frz, PV.frzs, PV.slotT, PV.ofA, PV.ofB, PV.ofT, PV.ofA?, PV.store1, PV.callWith, PV.argsOf, PV.argOf, PV.mutsOf, PV.lentOf, PV.isOwn, PV.putBack, PV.appC, PV.extC, PV.popC, PV.popAC, PV.setIx, PV.truth, PV.storeAll, PL.big_le_0, PL.big_le_1, PL.big_le_2, PL.big_le_3, PL.big_le_4, PL.big_le_5, PL.big_le_6, PL.big_le_7, PL.big_le_8, PL.big_le_9, PL.big_le_10, PL.big_le_11, PL.big_le_12, PL.big_le_13, PV.unpT, PV.compTurn, PV.bindTo, PV.setAll, PV.wipeE, PV.backE, PV.forTurn, PV.tupT, PV.startE, PV.slotOf, PV.endC, PV.mutsAt, PV.runF, List.getElem?_cons_zero, List.getElem?_cons_succ, List.getElem?_nil, Option.bind_some, Option.bind_none, Option.map_some, Option.map_none, List.set_cons_zero, List.set_cons_succ, List.isEmpty_nil, List.isEmpty_cons, if_true, if_false, List.replicate_succ, List.replicate_zero, List.length_cons, List.length_nil, Bool.not_true, Bool.not_false, Bool.and_true, Bool.and_false, Bool.true_and, Bool.false_and, reduceCtorEq, ne_eq, not_false_eq_true, implies_true, Bool.true_or, Bool.false_or, Bool.or_true, Bool.or_false, Nat.reduceAdd, Nat.reduceLeDiff, Nat.reduceSub, this]
  | true =>
    obtain ⟨xs, hx, hv⟩ := seqItems hs
    have hlen : biT .len [v] = some (.t (.int xs.length)) := by rcases hv with rfl | rfl <;> rfl
    have hall : xs.all dat = true := by unfold datT at hi; rw [hx] at hi; exact hi
    have hok : cmpT .ne (.int xs.length) (.int n) = some (!decide ((xs.length : Int) = n)) := by
      show (if okT 64 (.int xs.length) && okT 64 (.int n) then some (!eqT (.int xs.length) (.int n)) else none) = _
      rfl
    have hc : ∀ m, xs.length = n → ev pg (Fo (d + 2)) 1000 (m + 8) (.comp [2, 3] [3] false 0 [.loc 0] none (.call 1 [] [.loc 3])) [.v v, .v (.int n), .u, .u] = .ok (.f (xs.map fun x => .bl (cnt x))) [.v v, .v (.int n), .u, .u] := fun m hl => by
      have hiv : evIv (ev pg (Fo (d + 2)) 1000 (m + 7)) 0 [.loc 0] [.v v, .v (.int n), .u, .u] = .ok (.sq (match v with | .lst _ => true | _ => false) (.d 0)) [.v v, .v (.int n), .u, .u] := by
        rcases hv with rfl | rfl <;> rfl
      rw [ev_comp_ok hiv (xs := xs) (g := fun x => some (.bl (cnt x))) rfl (fun i => by rcases hv with rfl | rfl <;> rfl) (fun x hx => ?_) (by omega) (by unfold big; omega)]
      · simp; rfl
      · simp only [PL.ev_con, PL.ev_loc, PL.ev_dk0, PL.ev_dk1, PL.ev_lst, PL.ev_tup, PL.ev_bin, PL.ev_neg, PL.ev_cmp, PL.ev_chn, PL.ev_and, PL.ev_or, PL.ev_tand, PL.ev_tor, PL.ev_not, PL.ev_ite, PL.ev_isn, PL.ev_isb, PL.ev_isi, PL.ev_call, PL.ev_call1, PL.ev_bi, PL.ev_app, PL.ev_ext, PL.ev_pop, PL.ev_popA, PL.ev_idx, PL.ev_ixof, PL.ev_slc, PL.ev_rev, PV.evO, PV.evOs, PV.evP, PV.evPs, PV.evF, PV.evB, PV.evS, PL.r_ok_bind, PL.r_bad_bind, PL.rs_of_ok, PL.exs_nil, PL.exs_ex, PL.exs_retl, PL.exs_ret, PL.exs_asg, PL.exs_unp, PL.exs_par, PL.exs_set, PL.exs_aug, PL.exs_ite, PL.nxt_nx, PL.nxt_rt, PL.nxt_bk, PL.nxt_ct, PV.res, PV.ress, PV.frz, PV.frzs, PV.slotT, PV.ofA, PV.ofB, PV.ofT, PV.ofA?, PV.store1, PV.callWith, PV.argsOf, PV.argOf, PV.mutsOf, PV.lentOf, PV.isOwn, PV.putBack, PV.appC, PV.extC, PV.popC, PV.popAC, PV.setIx, PV.truth, PV.storeAll, PL.big_le_0, PL.big_le_1, PL.big_le_2, PL.big_le_3, PL.big_le_4, PL.big_le_5, PL.big_le_6, PL.big_le_7, PL.big_le_8, PL.big_le_9, PL.big_le_10, PL.big_le_11, PL.big_le_12, PL.big_le_13, PV.unpT, PV.compTurn, PV.bindTo, PV.setAll, PV.wipeE, PV.backE, PV.forTurn, PV.tupT, PV.startE, PV.slotOf, PV.endC, PV.mutsAt, PV.runF, List.getElem?_cons_zero, List.getElem?_cons_succ, List.getElem?_nil, Option.bind_some, Option.bind_none, Option.map_some, Option.map_none, List.set_cons_zero, List.set_cons_succ, List.isEmpty_nil, List.isEmpty_cons, if_true, if_false, List.replicate_succ, List.replicate_zero, List.length_cons, List.length_nil, Bool.not_true, Bool.not_false, Bool.and_true, Bool.and_false, Bool.true_and, Bool.false_and, reduceCtorEq, ne_eq, not_false_eq_true, implies_true, Bool.true_or, Bool.false_or, Bool.or_true, Bool.or_false, Nat.reduceAdd, Nat.reduceLeDiff, Nat.reduceSub, f1 d (List.all_eq_true.mp hall x hx), p1]
    simp only [PL.ev_con, PL.ev_loc, PL.ev_dk0, PL.ev_dk1, PL.ev_lst, PL.ev_tup, PL.ev_bin, PL.ev_neg, PL.ev_cmp, PL.ev_chn, PL.ev_and, PL.ev_or, PL.ev_tand, PL.ev_tor, PL.ev_not, PL.ev_ite, PL.ev_isn, PL.ev_isb, PL.ev_isi, PL.ev_call, PL.ev_call1, PL.ev_bi, PL.ev_app, PL.ev_ext, PL.ev_pop, PL.ev_popA, PL.ev_idx, PL.ev_ixof, PL.ev_slc, PL.ev_rev, PV.evO, PV.evOs, PV.evP, PV.evPs, PV.evF, PV.evB, PV.evS, PL.r_ok_bind, PL.r_bad_bind, PL.rs_of_ok, PL.exs_nil, PL.exs_ex, PL.exs_retl, PL.exs_ret, PL.exs_asg, PL.exs_unp, PL.exs_par, PL.exs_set, PL.exs_aug, PL.exs_ite, PL.nxt_nx, PL.nxt_rt, PL.nxt_bk, PL.nxt_ct, PV.res, PV.ress, PV.frz, PV.frzs, PV.slotT, PV.ofA, PV.ofB, PV.ofT, PV.ofA?, PV.store1, PV.callWith, PV.argsOf, PV.argOf, PV.mutsOf, PV.lentOf, PV.isOwn, PV.putBack, PV.appC, PV.extC, PV.popC, PV.popAC, PV.setIx, PV.truth, PV.storeAll, PL.big_le_0, PL.big_le_1, PL.big_le_2, PL.big_le_3, PL.big_le_4, PL.big_le_5, PL.big_le_6, PL.big_le_7, PL.big_le_8, PL.big_le_9, PL.big_le_10, PL.big_le_11, PL.big_le_12, PL.big_le_13, PV.unpT, PV.compTurn, PV.bindTo, PV.setAll, PV.wipeE, PV.backE, PV.forTurn, PV.tupT, PV.startE, PV.slotOf, PV.endC, PV.mutsAt, PV.runF, List.getElem?_cons_zero, List.getElem?_cons_succ, List.getElem?_nil, Option.bind_some, Option.bind_none, Option.map_some, Option.map_none, List.set_cons_zero, List.set_cons_succ, List.isEmpty_nil, List.isEmpty_cons, if_true, if_false, List.replicate_succ, List.replicate_zero, List.length_cons, List.length_nil, Bool.not_true, Bool.not_false, Bool.and_true, Bool.and_false, Bool.true_and, Bool.false_and, reduceCtorEq, ne_eq, not_false_eq_true, implies_true, Bool.true_or, Bool.false_or, Bool.or_true, Bool.or_false, Nat.reduceAdd, Nat.reduceLeDiff, Nat.reduceSub, hlen, hok]
    rw [tn_steps hx]
    by_cases hl : xs.length = n
    · have hl' : decide ((xs.length : Int) = n) = true := by rw [hl]; simp
      simp only [hl', PL.ev_con, PL.ev_loc, PL.ev_dk0, PL.ev_dk1, PL.ev_lst, PL.ev_tup, PL.ev_bin, PL.ev_neg, PL.ev_cmp, PL.ev_chn, PL.ev_and, PL.ev_or, PL.ev_tand, PL.ev_tor, PL.ev_not, PL.ev_ite, PL.ev_isn, PL.ev_isb, PL.ev_isi, PL.ev_call, PL.ev_call1, PL.ev_bi, PL.ev_app, PL.ev_ext, PL.ev_pop, PL.ev_popA, PL.ev_idx, PL.ev_ixof, PL.ev_slc, PL.ev_rev, PV.evO, PV.evOs, PV.evP, PV.evPs, PV.evF, PV.evB, PV.evS, PL.r_ok_bind, PL.r_bad_bind, PL.rs_of_ok, PL.exs_nil, PL.exs_ex, PL.exs_retl, PL.exs_ret, PL.exs_asg, PL.exs_unp, PL.exs_par, PL.exs_set, PL.exs_aug, PL.exs_ite, PL.nxt_nx, PL.nxt_rt, PL.nxt_bk, PL.nxt_ct, PV.res, PV.ress, PV.frz, PV.frzs, PV.slotT, PV.ofA, PV.ofB, PV.ofT, PV.ofA?, PV.store1, PV.callWith, PV.argsOf, PV.argOf, PV.mutsOf, PV.lentOf, PV.isOwn, PV.putBack, PV.appC, PV.extC, PV.popC, PV.popAC, PV.setIx, PV.truth, PV.storeAll, PL.big_le_0, PL.big_le_1, PL.big_le_2, PL.big_le_3, PL.big_le_4, PL.big_le_5, PL.big_le_6, PL.big_le_7, PL.big_le_8, PL.big_le_9, PL.big_le_10, PL.big_le_11, PL.big_le_12, PL.big_le_13, PV.unpT, PV.compTurn, PV.bindTo, PV.setAll, PV.wipeE, PV.backE, PV.forTurn, PV.tupT, PV.startE, PV.slotOf, PV.endC, PV.mutsAt, PV.runF, List.getElem?_cons_zero, List.getElem?_cons_succ, List.getElem?_nil, Option.bind_some, Option.bind_none, Option.map_some, Option.map_none, List.set_cons_zero, List.set_cons_succ, List.isEmpty_nil, List.isEmpty_cons, if_true, if_false, List.replicate_succ, List.replicate_zero, List.length_cons, List.length_nil, Bool.not_true, Bool.not_false, Bool.and_true, Bool.and_false, Bool.true_and, Bool.false_and, reduceCtorEq, ne_eq, not_false_eq_true, implies_true, Bool.true_or, Bool.false_or, Bool.or_true, Bool.or_false, Nat.reduceAdd, Nat.reduceLeDiff, Nat.reduceSub, hc 48 hl, biT_all, boolsT_map, all_id]
      rw [decide_eq_true hl]
      cases ha : xs.all cnt with
      | false => simp only [PL.ev_con, PL.ev_loc, PL.ev_dk0, PL.ev_dk1, PL.ev_lst, PL.ev_tup, PL.ev_bin, PL.ev_neg, PL.ev_cmp, PL.ev_chn, PL.ev_and, PL.ev_or, PL.ev_tand, PL.ev_tor, PL.ev_not, PL.ev_ite, PL.ev_isn, PL.ev_isb, PL.ev_isi, PL.ev_call, PL.ev_call1, PL.ev_bi, PL.ev_app, PL.ev_ext, PL.ev_pop, PL.ev_popA, PL.ev_idx, PL.ev_ixof, PL.ev_slc, PL.ev_rev, PV.evO, PV.evOs, PV.evP, PV.evPs, PV.evF, PV.evB, PV.evS, PL.r_ok_bind, PL.r_bad_bind, PL.rs_of_ok, PL.exs_nil, PL.exs_ex, PL.exs_retl, PL.exs_ret, PL.exs_asg, PL.exs_unp, PL.exs_par, PL.exs_set, PL.exs_aug, PL.exs_ite, PL.nxt_nx, PL.nxt_rt, PL.nxt_bk, PL.nxt_ct, PV.res, PV.ress, PV.frz, PV.frzs, PV.slotT, PV.ofA, PV.ofB, PV.ofT, PV.ofA?, PV.store1, PV.callWith, PV.argsOf, PV.argOf, PV.mutsOf, PV.lentOf, PV.isOwn, PV.putBack, PV.appC, PV.extC, PV.popC, PV.popAC, PV.setIx, PV.truth, PV.storeAll, PL.big_le_0, PL.big_le_1, PL.big_le_2, PL.big_le_3, PL.big_le_4, PL.big_le_5, PL.big_le_6, PL.big_le_7, PL.big_le_8, PL.big_le_9, PL.big_le_10, PL.big_le_11, PL.big_le_12, PL.big_le_13, PV.unpT, PV.compTurn, PV.bindTo, PV.setAll, PV.wipeE, PV.backE, PV.forTurn, PV.tupT, PV.startE, PV.slotOf, PV.endC, PV.mutsAt, PV.runF, List.getElem?_cons_zero, List.getElem?_cons_succ, List.getElem?_nil, Option.bind_some, Option.bind_none, Option.map_some, Option.map_none, List.set_cons_zero, List.set_cons_succ, List.isEmpty_nil, List.isEmpty_cons, if_true, if_false, List.replicate_succ, List.replicate_zero, List.length_cons, List.length_nil, Bool.not_true, Bool.not_false, Bool.and_true, Bool.and_false, Bool.true_and, Bool.false_and, reduceCtorEq, ne_eq, not_false_eq_true, implies_true, Bool.true_or, Bool.false_or, Bool.or_true, Bool.or_false, Nat.reduceAdd, Nat.reduceLeDiff, Nat.reduceSub, truth]
      | true =>
        obtain ⟨is, ex, _⟩ := cnt_int ha
        subst ex
        have hsort : biT .sorted [v] = some (.f ((sortI is).map T.int)) := by
          show ((itemsT v).bind intsT).bind (fun is => if is.length < 64 then some (A.f ((sortI is).map .int)) else none) = _
          rw [hx, Option.bind_some, intsT_map, Option.bind_some, if_pos (by rw [List.length_map] at hl; omega)]
        simp only [PL.ev_con, PL.ev_loc, PL.ev_dk0, PL.ev_dk1, PL.ev_lst, PL.ev_tup, PL.ev_bin, PL.ev_neg, PL.ev_cmp, PL.ev_chn, PL.ev_and, PL.ev_or, PL.ev_tand, PL.ev_tor, PL.ev_not, PL.ev_ite, PL.ev_isn, PL.ev_isb, PL.ev_isi, PL.ev_call, PL.ev_call1, PL.ev_bi, PL.ev_app, PL.ev_ext, PL.ev_pop, PL.ev_popA, PL.ev_idx, PL.ev_ixof, PL.ev_slc, PL.ev_rev, PV.evO, PV.evOs, PV.evP, PV.evPs, PV.evF, PV.evB, PV.evS, PL.r_ok_bind, PL.r_bad_bind, PL.rs_of_ok, PL.exs_nil, PL.exs_ex, PL.exs_retl, PL.exs_ret, PL.exs_asg, PL.exs_unp, PL.exs_par, PL.exs_set, PL.exs_aug, PL.exs_ite, PL.nxt_nx, PL.nxt_rt, PL.nxt_bk, PL.nxt_ct, PV.res, PV.ress, PV.frz, PV.frzs, PV.slotT, PV.ofA, PV.ofB, PV.ofT, PV.ofA?, PV.store1, PV.callWith, PV.argsOf, PV.argOf, PV.mutsOf, PV.lentOf, PV.isOwn, PV.putBack, PV.appC, PV.extC, PV.popC, PV.popAC, PV.setIx, PV.truth, PV.storeAll, PL.big_le_0, PL.big_le_1, PL.big_le_2, PL.big_le_3, PL.big_le_4, PL.big_le_5, PL.big_le_6, PL.big_le_7, PL.big_le_8, PL.big_le_9, PL.big_le_10, PL.big_le_11, PL.big_le_12, PL.big_le_13, PV.unpT, PV.compTurn, PV.bindTo, PV.setAll, PV.wipeE, PV.backE, PV.forTurn, PV.tupT, PV.startE, PV.slotOf, PV.endC, PV.mutsAt, PV.runF, List.getElem?_cons_zero, List.getElem?_cons_succ, List.getElem?_nil, Option.bind_some, Option.bind_none, Option.map_some, Option.map_none, List.set_cons_zero, List.set_cons_succ, List.isEmpty_nil, List.isEmpty_cons, if_true, if_false, List.replicate_succ, List.replicate_zero, List.length_cons, List.length_nil, Bool.not_true, Bool.not_false, Bool.and_true, Bool.and_false, Bool.true_and, Bool.false_and, reduceCtorEq, ne_eq, not_false_eq_true, implies_true, Bool.true_or, Bool.false_or, Bool.or_true, Bool.or_false, Nat.reduceAdd, Nat.reduceLeDiff, Nat.reduceSub, truth, hsort, lrange_ok hn, cmp_ints, intsT_map]
    · have hl' : decide ((xs.length : Int) = n) = false := decide_eq_false (by omega)
      simp only [hl', PL.ev_con, PL.ev_loc, PL.ev_dk0, PL.ev_dk1, PL.ev_lst, PL.ev_tup, PL.ev_bin, PL.ev_neg, PL.ev_cmp, PL.ev_chn, PL.ev_and, PL.ev_or, PL.ev_tand, PL.ev_tor, PL.ev_not, PL.ev_ite, PL.ev_isn, PL.ev_isb, PL.ev_isi, PL.ev_call, PL.ev_call1, PL.ev_bi, PL.ev_app, PL.ev_ext, PL.ev_pop, PL.ev_popA, PL.ev_idx, PL.ev_ixof, PL.ev_slc, PL.ev_rev, PV.evO, PV.evOs, PV.evP, PV.evPs, PV.evF, PV.evB, PV.evS, PL.r_ok_bind, PL.r_bad_bind, PL.rs_of_ok, PL.exs_nil, PL.exs_ex, PL.exs_retl, PL.exs_ret, PL.exs_asg, PL.exs_unp, PL.exs_par, PL.exs_set, PL.exs_aug, PL.exs_ite, PL.nxt_nx, PL.nxt_rt, PL.nxt_bk, PL.nxt_ct, PV.res, PV.ress, PV.frz, PV.frzs, PV.slotT, PV.ofA, PV.ofB, PV.ofT, PV.ofA?, PV.store1, PV.callWith, PV.argsOf, PV.argOf, PV.mutsOf, PV.lentOf, PV.isOwn, PV.putBack, PV.appC, PV.extC, PV.popC, PV.popAC, PV.setIx, PV.truth, PV.storeAll, PL.big_le_0, PL.big_le_1, PL.big_le_2, PL.big_le_3, PL.big_le_4, PL.big_le_5, PL.big_le_6, PL.big_le_7, PL.big_le_8, PL.big_le_9, PL.big_le_10, PL.big_le_11, PL.big_le_12, PL.big_le_13, PV.unpT, PV.compTurn, PV.bindTo, PV.setAll, PV.wipeE, PV.backE, PV.forTurn, PV.tupT, PV.startE, PV.slotOf, PV.endC, PV.mutsAt, PV.runF, List.getElem?_cons_zero, List.getElem?_cons_succ, List.getElem?_nil, Option.bind_some, Option.bind_none, Option.map_some, Option.map_none, List.set_cons_zero, List.set_cons_succ, List.isEmpty_nil, List.isEmpty_cons, if_true, if_false, List.replicate_succ, List.replicate_zero, List.length_cons, List.length_nil, Bool.not_true, Bool.not_false, Bool.and_true, Bool.and_false, Bool.true_and, Bool.false_and, reduceCtorEq, ne_eq, not_false_eq_true, implies_true, Bool.true_or, Bool.false_or, Bool.or_true, Bool.or_false, Nat.reduceAdd, Nat.reduceLeDiff, Nat.reduceSub, truth]
      rw [decide_eq_false hl]
      rfl
end K89

set_option Elab.async false
set_option linter.all false
set_option maxRecDepth 1000000
set_option maxHeartbeats 4000000
namespace K89
open PV PySem PL
/-! ### data -/
theorem okT_dat {n : Nat} {v : T} (h : okT n v = true) : dat v = true := by
  cases v <;> first | rfl | (cases n <;> cases h)
theorem okT_items {n : Nat} {v : T} {xs : List T} (h : okT (n + 1) v = true) (e : itemsT v = some xs) : ∀ x ∈ xs, okT n x = true := by
  cases v <;> first | (cases e; done) | (cases e; exact fun x hx => List.all_eq_true.mp h x hx)
theorem okT_datT {n : Nat} {v : T} (h : okT (n + 1) v = true) : datT v = true := by
  unfold datT
  cases e : itemsT v with
  | none => rfl
  | some xs => exact List.all_eq_true.mpr fun x hx => okT_dat (okT_items h e x hx)
def turnI (v : T) : List Int := ((itemsT v).bind intsT).getD []
def tupI (l : List Int) : T := .tup (l.map T.int)
/-- a turn's numbers -/
structure IsT (n : Nat) (l : List Int) : Prop where
  s : sortI l = rng n
theorem IsT.len {n : Nat} {l : List Int} (h : IsT n l) : l.length = n := (sorted_rng h.s).1
theorem IsT.mem {n : Nat} {l : List Int} (h : IsT n l) : ∀ x ∈ l, 0 ≤ x ∧ x < n := (sorted_rng h.s).2
theorem tn_true {v : T} {n : Nat} (h : tn v n = true) : itemsT v = some ((turnI v).map T.int) ∧ IsT n (turnI v) := by
  unfold tn at h
  unfold turnI
  cases e : (itemsT v).bind intsT with
  | none => rw [e] at h; cases h
  | some is =>
    rw [e] at h
    obtain ⟨xs, e1, e2⟩ := Option.bind_eq_some_iff.mp e
    exact ⟨by rw [e1, intsT_some e2]; rfl, ⟨of_decide_eq_true h⟩⟩
theorem tuple_tn {v : T} {n : Nat} (h : tn v n = true) : biT .tuple [v] = some (.t (tupI (turnI v))) := by
  show (itemsT v).map (fun xs => A.t (.tup xs)) = _
  rw [(tn_true h).1]; rfl
def beh (a b : List Int) : List Int := b.map fun i => a.getD i.toNat 0
theorem idx_tup {a : List Int} {i : Int} (h0 : 0 ≤ i) (h1 : i < a.length) : idxT (.tup (a.map T.int)) (.int i) = some (.int (a.getD i.toNat 0)) := by
  show (ixN (a.map T.int).length i).bind (fun j => (a.map T.int)[j]?) = _
  unfold ixN
  rw [if_pos h0, List.length_map, if_pos h1, Option.bind_some, List.getElem?_map, List.getD_eq_getElem?_getD]
  have : i.toNat < a.length := by omega
  rw [List.getElem?_eq_getElem this]
  rfl
theorem beh_call (d f : Nat) (hf : ∀ {a b : List T} {g : T → T}, (∀ x ∈ b, idxT (.tup a) x = some (g x)) → b.length < 1000 → Fo (d + 1) f [.t (.tup a), .t (.tup b)] = .ok (.t (.tup (b.map g))) []) {n : Nat} {a b : List Int} (ha : a.length = n) (hb : ∀ x ∈ b, 0 ≤ x ∧ x < n) (hl : b.length < 1000) :
    Fo (d + 1) f [.t (tupI a), .t (tupI b)] = .ok (.t (tupI (beh a b))) [] := by
  have z := hf (a := a.map T.int) (b := b.map T.int) (g := fun x => match x with | .int i => .int (a.getD i.toNat 0) | x => x) (fun x hx => ?_) (by rw [List.length_map]; exact hl)
  · unfold tupI
    rw [z]
    unfold beh
    rw [List.map_map, List.map_map]
    rfl
  · obtain ⟨i, hi, rfl⟩ := List.mem_map.mp hx
    have := hb i hi
    exact idx_tup this.1 (by omega)
/-! ### the dict's keys -/
section
variable {κ : Type} [DecidableEq κ]
def uniq (acc : List κ) : List κ → List κ
  | [] => acc
  | k :: r => uniq (if k ∈ acc then acc else acc ++ [k]) r
theorem uniq_mem (x : κ) : ∀ (l acc : List κ), x ∈ uniq acc l ↔ x ∈ acc ∨ x ∈ l
  | [], acc => by simp [uniq]
  | k :: r, acc => by
    unfold uniq
    rw [uniq_mem x r]
    split
    · rename_i h
      constructor
      · rintro (z | z)
        · exact .inl z
        · exact .inr (List.mem_cons_of_mem _ z)
      · rintro (z | z)
        · exact .inl z
        · rcases List.mem_cons.mp z with rfl | z
          · exact .inl h
          · exact .inr z
    · rw [List.mem_append, List.mem_singleton, List.mem_cons, or_assoc]
theorem uniq_le : ∀ (l acc : List κ), (uniq acc l).length ≤ acc.length + l.length
  | [], acc => by simp [uniq]
  | k :: r, acc => by
    unfold uniq
    have := uniq_le r (if k ∈ acc then acc else acc ++ [k])
    split at this <;> split <;> simp_all <;> omega
theorem uniq_len : ∀ (l acc : List κ), acc.Nodup → ((uniq acc l).length = acc.length + l.length ↔ (acc ++ l).Nodup)
  | [], acc, h => by simp [uniq, h]
  | k :: r, acc, h => by
    unfold uniq
    by_cases hk : k ∈ acc
    · rw [if_pos hk]
      constructor
      · intro e
        have := uniq_le r acc
        rw [List.length_cons] at e
        omega
      · intro e
        rw [List.nodup_append] at e
        exact absurd rfl (e.2.2 k hk k List.mem_cons_self)
    · rw [if_neg hk]
      have hn : (acc ++ [k]).Nodup := by
        rw [List.nodup_append]
        exact ⟨h, by simp, fun a ha b hb => by rw [List.mem_singleton.mp hb]; rintro rfl; exact hk ha⟩
      have ih := uniq_len r (acc ++ [k]) hn
      rw [List.length_append, List.length_singleton, List.append_assoc, List.singleton_append] at ih
      rw [List.length_cons, ← ih]
      omega
end
instance (priority := high) beqKeys : BEq (List (Sum Int Str)) := instBEqOfDecidableEq
instance (priority := high) lbeqKeys : LawfulBEq (List (Sum Int Str)) where
  eq_of_beq := fun h => of_decide_eq_true h
  rfl := decide_eq_true rfl
theorem keys_put (m : List (List (Sum Int Str) × T)) (k : List (Sum Int Str)) (v : T) : (putD m k v).map (·.1) = if k ∈ m.map (·.1) then m.map (·.1) else m.map (·.1) ++ [k] := by
  unfold putD
  have e : (m.any fun p => decide (p.1 = k)) = decide (k ∈ m.map (·.1)) := by
    rw [Bool.eq_iff_iff, List.any_eq_true, decide_eq_true_iff, List.mem_map]
    constructor
    · rintro ⟨p, h1, h2⟩; exact ⟨p, h1, of_decide_eq_true h2⟩
    · rintro ⟨p, h1, h2⟩; exact ⟨p, h1, decide_eq_true h2⟩
  rw [e]
  by_cases h : k ∈ m.map (·.1)
  · rw [if_pos (decide_eq_true h), if_pos h, List.map_map]
    apply List.map_congr_left
    intro p _
    show (if p.1 = k then (p.1, v) else p).1 = p.1
    split <;> rfl
  · rw [if_neg (by simpa using h), if_neg h, List.map_append]; rfl
theorem keys_fold : ∀ (l m : List (List (Sum Int Str) × T)), (l.foldl (fun d p => putD d p.1 p.2) m).map (·.1) = uniq (m.map (·.1)) (l.map (·.1))
  | [], m => rfl
  | p :: l, m => by
    show (l.foldl (fun d p => putD d p.1 p.2) (putD m p.1 p.2)).map (·.1) = _
    rw [keys_fold l, keys_put]
    rfl
abbrev kI (l : List Int) : List (Sum Int Str) := l.map Sum.inl
theorem kI_inj {a b : List Int} (h : kI a = kI b) : a = b := by
  induction a generalizing b with
  | nil => cases b with | nil => rfl | cons _ _ => cases h
  | cons x a ih =>
    cases b with
    | nil => cases h
    | cons y b =>
      injection h with h1 h2
      injection h1 with h1
      rw [h1, ih h2]
theorem kysT_ints : ∀ l : List Int, kysT (l.map T.int) = some (kI l)
  | [] => rfl
  | x :: l => by
    show (match kyT (T.int x), kysT (l.map T.int) with | some k, some ks => some (k :: ks) | _, _ => none) = _
    rw [kysT_ints l]; rfl
theorem tkT_tupI (l : List Int) : tkT (tupI l) = some (kI l) := kysT_ints l
theorem pairs_tss : ∀ tss : List (List Int), pairsD (tss.map fun t => T.tup [tupI t, .bl true]) = some (tss.map fun t => (kI t, T.bl true))
  | [] => rfl
  | t :: tss => by
    show (match tkT (tupI t), pairsD (tss.map fun t => T.tup [tupI t, .bl true]) with | some k, some m => some ((k, T.bl true) :: m) | _, _ => none) = _
    rw [tkT_tupI, pairs_tss tss]; rfl
/-- the dict of the turns -/
theorem dict_tss (tss : List (List Int)) (h : tss.length ≤ 8) : ∃ vs, biT .dict [.lst (tss.map fun t => T.tup [tupI t, .bl true])] = some (.t (.dit (uniq [] (tss.map kI)) vs)) := by
  refine ⟨(dictD (tss.map fun t => (kI t, T.bl true))).map (·.2), ?_⟩
  show (if (tss.map fun t => T.tup [tupI t, .bl true]).length ≤ big then (pairsD (tss.map fun t => T.tup [tupI t, .bl true])).map (fun m => A.t (.dit ((dictD m).map (·.1)) ((dictD m).map (·.2)))) else none) = _
  rw [if_pos (by rw [List.length_map]; unfold big; omega), pairs_tss, Option.map_some]
  unfold dictD
  rw [keys_fold, List.map_map]
  rfl
theorem kI_mem {c : List Int} {tss : List (List Int)} : (uniq [] (tss.map kI)).any (fun j => decide (j = kI c)) = decide (c ∈ tss) := by
  rw [Bool.eq_iff_iff, List.any_eq_true, decide_eq_true_iff]
  constructor
  · rintro ⟨j, h1, h2⟩
    rw [of_decide_eq_true h2, uniq_mem] at h1
    rcases h1 with h1 | h1
    · cases h1
    · obtain ⟨t, h3, h4⟩ := List.mem_map.mp h1
      rw [← kI_inj h4]; exact h3
  · intro h
    exact ⟨kI c, (uniq_mem _ _ _).mpr (.inr (List.mem_map_of_mem h)), decide_eq_true rfl⟩
theorem kI_nodup {tss : List (List Int)} : (tss.map kI).Nodup ↔ tss.Nodup := by
  constructor
  · intro h
    exact (List.pairwise_map.mp h).imp fun {a b} n e => n (by rw [e])
  · intro h
    exact List.pairwise_map.mpr (h.imp fun {a b} n e => n (kI_inj e))
theorem kI_len {tss : List (List Int)} : decide (((uniq [] (tss.map kI)).length : Int) < tss.length) = !decide tss.Nodup := by
  have h1 := uniq_le (tss.map kI) []
  have h2 := uniq_len (tss.map kI) [] List.nodup_nil
  rw [List.nil_append, kI_nodup, List.length_map, List.length_nil] at h2
  rw [List.length_map, List.length_nil] at h1
  by_cases h : tss.Nodup
  · rw [decide_eq_true h]
    have := h2.mpr h
    exact decide_eq_false (by omega)
  · rw [decide_eq_false h]
    have : ¬ (uniq [] (tss.map kI)).length = 0 + tss.length := fun z => h (h2.mp z)
    exact decide_eq_true (by omega)
end K89

set_option Elab.async false
set_option linter.all false
set_option maxRecDepth 1000000
set_option maxHeartbeats 8000000
namespace K89
open PV PySem PL
def okS (tss : List (List Int)) : Bool := decide tss.Nodup && tss.all fun a => tss.all fun b => decide (beh a b ∈ tss)
def isG (v : T) : Bool := match itemsT v with
  | none => false
  | some xs => decide (1 ≤ xs.length) && (decide (xs.length ≤ 8) && match xs with
    | [] => false
    | y :: _ => match itemsT y with
      | none => false
      | some ys => decide (1 ≤ ys.length) && (decide (ys.length ≤ 6) && (xs.all (fun x => tn x ys.length) && okS (xs.map turnI))))
def gT (v : T) : T := match isG v with
  | true => .lst ((((itemsT v).getD []).map turnI).map tupI)
  | false => .non
theorem cmp_le (i j : Int) : cmpT .le (.int i) (.int j) = some (decide (i ≤ j)) := rfl
theorem cmp_lt (i j : Int) : cmpT .lt (.int i) (.int j) = some (decide (i < j)) := rfl
theorem idx0 {v y : T} {r : List T} (h : v = .lst (y :: r) ∨ v = .tup (y :: r)) : idxT v (.int 0) = some y := by
  rcases h with rfl | rfl
  · show (ixN (r.length + 1) 0).bind (fun j => (y :: r)[j]?) = _
    unfold ixN
    rw [if_pos (Int.le_refl 0), if_pos (by omega)]; rfl
  · show (ixN (r.length + 1) 0).bind (fun j => (y :: r)[j]?) = _
    unfold ixN
    rw [if_pos (Int.le_refl 0), if_pos (by omega)]; rfl
theorem len_of {v : T} {xs : List T} (h : v = .lst xs ∨ v = .tup xs) : biT .len [v] = some (.t (.int xs.length)) := by rcases h with rfl | rfl <;> rfl
theorem itm_of {v : T} {xs : List T} (h : v = .lst xs ∨ v = .tup xs) : itemsT v = some xs := by rcases h with rfl | rfl <;> rfl
/-- the rest of told_turns, behind its look at the turns -/
def rest5 : List Sm := c5.drop 3
def isL : T → Bool
  | .lst _ => true
  | _ => false
theorem iv_loc {F : Orc} {n : Nat} {v : T} {xs : List T} {r : Rho} (h : v = .lst xs ∨ v = .tup xs) : evIv (ev pg F 1000 (n + 1)) 0 [.loc 0] (.v v :: r) = .ok (.sq (isL v) (.d 0)) (.v v :: r) := by
  rcases h with rfl | rfl <;> rfl
theorem boolsT_map' {α : Type} (f : α → Bool) : ∀ xs : List α, boolsT (xs.map fun x => T.bl (f x)) = some (xs.map f)
  | [] => rfl
  | x :: xs => by
    show (boolsT (xs.map fun x => T.bl (f x))).map (f x :: ·) = _
    rw [boolsT_map' f xs]; rfl
theorem all_id' {α : Type} (f : α → Bool) (xs : List α) : (xs.map f).all id = xs.all f := by rw [List.all_map]; rfl
theorem turnI_tupI (a : List Int) : turnI (tupI a) = a := by
  show ((some (a.map T.int)).bind intsT).getD [] = a
  rw [Option.bind_some, intsT_map]; rfl
theorem rest5_ok (d n : Nat) {v : T} {xs : List T} (hv : v = .lst xs ∨ v = .tup xs) (h8 : xs.length ≤ 8) (hn : n ≤ 6) (ht : xs.all (fun x => tn x n) = true) :
    endC ⟨8, [.val], c5⟩ = endC ⟨8, [.val], c5⟩ ∧ ∃ ρ, exs pg (Fo (d + 3)) 1000 60 57 rest5 [.v v, .v (.int n), .u, .u, .u, .u, .u, .u] = .rt (.t (if okS (xs.map turnI) then .lst ((xs.map turnI).map tupI) else .non)) ρ := by
  refine ⟨rfl, ?_⟩
  have htn : ∀ x ∈ xs, tn x n = true := fun x hx => List.all_eq_true.mp ht x hx
  generalize htss : xs.map turnI = tss
  have hT : ∀ t ∈ tss, IsT n t := fun t h => by
    rw [← htss] at h
    obtain ⟨x, hx, rfl⟩ := List.mem_map.mp h
    exact (tn_true (htn x hx)).2
  have hl : tss.length ≤ 8 := by rw [← htss, List.length_map]; exact h8
  have c1 : ∀ m, ev pg (Fo (d + 3)) 1000 (m + 5) (.comp [5, 6] [6] false 0 [.loc 0] none (.bi .tuple [.loc 6])) [.v v, .v (.int n), .u, .u, .u, .u, .u, .u] = .ok (.f (tss.map tupI)) [.v v, .v (.int n), .u, .u, .u, .u, .u, .u] := fun m => by
    rw [ev_comp_map (xs := xs) (fun x => tupI (turnI x)) (iv_loc hv) rfl (fun i => by rcases hv with rfl | rfl <;> rfl) (fun x hx => ?_) (by omega) (by unfold big; omega) rfl]
    · rw [← htss, List.map_map]; rfl
    · simp only [PL.ev_con, PL.ev_loc, PL.ev_dk0, PL.ev_dk1, PL.ev_lst, PL.ev_tup, PL.ev_bin, PL.ev_neg, PL.ev_cmp, PL.ev_chn, PL.ev_and, PL.ev_or, PL.ev_tand, PL.ev_tor, PL.ev_not, PL.ev_ite, PL.ev_isn, PL.ev_isb, PL.ev_isi, PL.ev_call, PL.ev_call1, PL.ev_bi, PL.ev_app, PL.ev_ext, PL.ev_pop, PL.ev_popA, PL.ev_idx, PL.ev_ixof, PL.ev_slc, PL.ev_rev, PV.evO, PV.evOs, PV.evP, PV.evPs, PV.evF, PV.evB, PV.evS, PL.r_ok_bind, PL.r_bad_bind, PL.rs_of_ok, PL.exs_nil, PL.exs_ex, PL.exs_retl, PL.exs_ret, PL.exs_asg, PL.exs_unp, PL.exs_par, PL.exs_set, PL.exs_aug, PL.exs_ite, PL.nxt_nx, PL.nxt_rt, PL.nxt_bk, PL.nxt_ct, PV.res, PV.ress, PV.frz, PV.frzs, PV.slotT, PV.ofA, PV.ofB, PV.ofT, PV.ofA?, PV.store1, PV.callWith, PV.argsOf, PV.argOf, PV.mutsOf, PV.lentOf, PV.isOwn, PV.putBack, PV.appC, PV.extC, PV.popC, PV.popAC, PV.setIx, PV.truth, PV.storeAll, PL.big_le_0, PL.big_le_1, PL.big_le_2, PL.big_le_3, PL.big_le_4, PL.big_le_5, PL.big_le_6, PL.big_le_7, PL.big_le_8, PL.big_le_9, PL.big_le_10, PL.big_le_11, PL.big_le_12, PL.big_le_13, PV.unpT, PV.compTurn, PV.bindTo, PV.setAll, PV.wipeE, PV.backE, PV.forTurn, PV.tupT, PV.startE, PV.slotOf, PV.endC, PV.mutsAt, PV.runF, List.getElem?_cons_zero, List.getElem?_cons_succ, List.getElem?_nil, Option.bind_some, Option.bind_none, Option.map_some, Option.map_none, List.set_cons_zero, List.set_cons_succ, List.isEmpty_nil, List.isEmpty_cons, if_true, if_false, List.replicate_succ, List.replicate_zero, List.length_cons, List.length_nil, Bool.not_true, Bool.not_false, Bool.and_true, Bool.and_false, Bool.true_and, Bool.false_and, reduceCtorEq, ne_eq, not_false_eq_true, implies_true, Bool.true_or, Bool.false_or, Bool.or_true, Bool.or_false, Nat.reduceAdd, Nat.reduceLeDiff, Nat.reduceSub, tuple_tn (htn x hx)]
  have c2 : ∀ m, ev pg (Fo (d + 3)) 1000 (m + 5) (.comp [5, 6] [6] false 0 [.loc 2] none (.tup [.loc 6, .con (.bl true)])) [.v v, .v (.int n), .o true (tss.map tupI), .u, .u, .u, .u, .u] = .ok (.f (tss.map fun t => T.tup [tupI t, .bl true])) [.v v, .v (.int n), .o true (tss.map tupI), .u, .u, .u, .u, .u] := fun m => by
    rw [ev_comp_map (iv := .sq true (.d 2)) (ρ1 := [.v v, .v (.int n), .o true (tss.map tupI), .u, .u, .u, .u, .u]) (xs := tss.map tupI) (fun x => .tup [x, .bl true]) rfl rfl (fun i => rfl) (fun x hx => ?_) (by rw [List.length_map]; omega) (by rw [List.length_map]; unfold big; omega) rfl]
    · rw [List.map_map]; rfl
    · simp only [PL.ev_con, PL.ev_loc, PL.ev_dk0, PL.ev_dk1, PL.ev_lst, PL.ev_tup, PL.ev_bin, PL.ev_neg, PL.ev_cmp, PL.ev_chn, PL.ev_and, PL.ev_or, PL.ev_tand, PL.ev_tor, PL.ev_not, PL.ev_ite, PL.ev_isn, PL.ev_isb, PL.ev_isi, PL.ev_call, PL.ev_call1, PL.ev_bi, PL.ev_app, PL.ev_ext, PL.ev_pop, PL.ev_popA, PL.ev_idx, PL.ev_ixof, PL.ev_slc, PL.ev_rev, PV.evO, PV.evOs, PV.evP, PV.evPs, PV.evF, PV.evB, PV.evS, PL.r_ok_bind, PL.r_bad_bind, PL.rs_of_ok, PL.exs_nil, PL.exs_ex, PL.exs_retl, PL.exs_ret, PL.exs_asg, PL.exs_unp, PL.exs_par, PL.exs_set, PL.exs_aug, PL.exs_ite, PL.nxt_nx, PL.nxt_rt, PL.nxt_bk, PL.nxt_ct, PV.res, PV.ress, PV.frz, PV.frzs, PV.slotT, PV.ofA, PV.ofB, PV.ofT, PV.ofA?, PV.store1, PV.callWith, PV.argsOf, PV.argOf, PV.mutsOf, PV.lentOf, PV.isOwn, PV.putBack, PV.appC, PV.extC, PV.popC, PV.popAC, PV.setIx, PV.truth, PV.storeAll, PL.big_le_0, PL.big_le_1, PL.big_le_2, PL.big_le_3, PL.big_le_4, PL.big_le_5, PL.big_le_6, PL.big_le_7, PL.big_le_8, PL.big_le_9, PL.big_le_10, PL.big_le_11, PL.big_le_12, PL.big_le_13, PV.unpT, PV.compTurn, PV.bindTo, PV.setAll, PV.wipeE, PV.backE, PV.forTurn, PV.tupT, PV.startE, PV.slotOf, PV.endC, PV.mutsAt, PV.runF, List.getElem?_cons_zero, List.getElem?_cons_succ, List.getElem?_nil, Option.bind_some, Option.bind_none, Option.map_some, Option.map_none, List.set_cons_zero, List.set_cons_succ, List.isEmpty_nil, List.isEmpty_cons, if_true, if_false, List.replicate_succ, List.replicate_zero, List.length_cons, List.length_nil, Bool.not_true, Bool.not_false, Bool.and_true, Bool.and_false, Bool.true_and, Bool.false_and, reduceCtorEq, ne_eq, not_false_eq_true, implies_true, Bool.true_or, Bool.false_or, Bool.or_true, Bool.or_false, Nat.reduceAdd, Nat.reduceLeDiff, Nat.reduceSub]
  obtain ⟨vs, hd⟩ := dict_tss tss hl
  have hlenD : biT .len [.dit (uniq [] (tss.map kI)) vs] = some (.t (.int ((uniq [] (tss.map kI)).length : Nat))) := rfl
  have hlenL : biT .len [.lst (tss.map tupI)] = some (.t (.int ((tss.length : Nat) : Int))) := by show some (A.t (.int ((tss.map tupI).length : Nat))) = _; rw [List.length_map]
  have hmem : ∀ a ∈ tss, ∀ b ∈ tss, ∀ x ∈ b, (0 : Int) ≤ x ∧ x < n := fun a _ b hb x hx => (hT b hb).mem x hx
  have c3 : ∀ m a s, a ∈ tss → ev pg (Fo (d + 3)) 1000 (m + 8) (.comp [5, 7] [7] false 0 [.loc 2] none (.cmp .isin (.call 4 [] [.loc 4, .loc 7]) (.loc 3))) [.v v, .v (.int n), .v (.lst (tss.map tupI)), .v (.dit (uniq [] (tss.map kI)) vs), .v (tupI a), .u, s, .u] = .ok (.f (tss.map fun b => T.bl (decide (beh a b ∈ tss)))) [.v v, .v (.int n), .v (.lst (tss.map tupI)), .v (.dit (uniq [] (tss.map kI)) vs), .v (tupI a), .u, s, .u] := fun m a s ha => by
    rw [ev_comp_map (iv := .sq true (.d 2)) (ρ1 := [.v v, .v (.int n), .v (.lst (tss.map tupI)), .v (.dit (uniq [] (tss.map kI)) vs), .v (tupI a), .u, s, .u]) (xs := tss.map tupI) (fun x => .bl (decide (beh a (turnI x) ∈ tss))) rfl rfl (fun i => rfl) (fun x hx => ?_) (by rw [List.length_map]; omega) (by rw [List.length_map]; unfold big; omega) rfl]
    · rw [List.map_map]
      congr 2
      apply List.map_congr_left
      intro b _
      show T.bl (decide (beh a (turnI (tupI b)) ∈ tss)) = _
      rw [turnI_tupI]
    · obtain ⟨b, hb, rfl⟩ := List.mem_map.mp hx
      have hc := beh_call (d + 2) 4 (fun {a b g} h1 h2 => f4 (d + 2) h1 h2) (hT a ha).len (hmem a ha b hb) (by rw [(hT b hb).len]; omega)
      have hi : cmpT .isin (tupI (beh a b)) (.dit (uniq [] (tss.map kI)) vs) = some (decide (beh a b ∈ tss)) := by
        show (tkT (tupI (beh a b))).map (fun k => (uniq [] (tss.map kI)).any fun j => decide (j = k)) = _
        rw [tkT_tupI, Option.map_some, kI_mem]
      simp only [PL.ev_con, PL.ev_loc, PL.ev_dk0, PL.ev_dk1, PL.ev_lst, PL.ev_tup, PL.ev_bin, PL.ev_neg, PL.ev_cmp, PL.ev_chn, PL.ev_and, PL.ev_or, PL.ev_tand, PL.ev_tor, PL.ev_not, PL.ev_ite, PL.ev_isn, PL.ev_isb, PL.ev_isi, PL.ev_call, PL.ev_call1, PL.ev_bi, PL.ev_app, PL.ev_ext, PL.ev_pop, PL.ev_popA, PL.ev_idx, PL.ev_ixof, PL.ev_slc, PL.ev_rev, PV.evO, PV.evOs, PV.evP, PV.evPs, PV.evF, PV.evB, PV.evS, PL.r_ok_bind, PL.r_bad_bind, PL.rs_of_ok, PL.exs_nil, PL.exs_ex, PL.exs_retl, PL.exs_ret, PL.exs_asg, PL.exs_unp, PL.exs_par, PL.exs_set, PL.exs_aug, PL.exs_ite, PL.nxt_nx, PL.nxt_rt, PL.nxt_bk, PL.nxt_ct, PV.res, PV.ress, PV.frz, PV.frzs, PV.slotT, PV.ofA, PV.ofB, PV.ofT, PV.ofA?, PV.store1, PV.callWith, PV.argsOf, PV.argOf, PV.mutsOf, PV.lentOf, PV.isOwn, PV.putBack, PV.appC, PV.extC, PV.popC, PV.popAC, PV.setIx, PV.truth, PV.storeAll, PL.big_le_0, PL.big_le_1, PL.big_le_2, PL.big_le_3, PL.big_le_4, PL.big_le_5, PL.big_le_6, PL.big_le_7, PL.big_le_8, PL.big_le_9, PL.big_le_10, PL.big_le_11, PL.big_le_12, PL.big_le_13, PV.unpT, PV.compTurn, PV.bindTo, PV.setAll, PV.wipeE, PV.backE, PV.forTurn, PV.tupT, PV.startE, PV.slotOf, PV.endC, PV.mutsAt, PV.runF, List.getElem?_cons_zero, List.getElem?_cons_succ, List.getElem?_nil, Option.bind_some, Option.bind_none, Option.map_some, Option.map_none, List.set_cons_zero, List.set_cons_succ, List.isEmpty_nil, List.isEmpty_cons, if_true, if_false, List.replicate_succ, List.replicate_zero, List.length_cons, List.length_nil, Bool.not_true, Bool.not_false, Bool.and_true, Bool.and_false, Bool.true_and, Bool.false_and, reduceCtorEq, ne_eq, not_false_eq_true, implies_true, Bool.true_or, Bool.false_or, Bool.or_true, Bool.or_false, Nat.reduceAdd, Nat.reduceLeDiff, Nat.reduceSub, p4, hc, hi, turnI_tupI]
  unfold rest5 c5
  simp only [List.drop_succ_cons, List.drop_zero, PL.ev_con, PL.ev_loc, PL.ev_dk0, PL.ev_dk1, PL.ev_lst, PL.ev_tup, PL.ev_bin, PL.ev_neg, PL.ev_cmp, PL.ev_chn, PL.ev_and, PL.ev_or, PL.ev_tand, PL.ev_tor, PL.ev_not, PL.ev_ite, PL.ev_isn, PL.ev_isb, PL.ev_isi, PL.ev_call, PL.ev_call1, PL.ev_bi, PL.ev_app, PL.ev_ext, PL.ev_pop, PL.ev_popA, PL.ev_idx, PL.ev_ixof, PL.ev_slc, PL.ev_rev, PV.evO, PV.evOs, PV.evP, PV.evPs, PV.evF, PV.evB, PV.evS, PL.r_ok_bind, PL.r_bad_bind, PL.rs_of_ok, PL.exs_nil, PL.exs_ex, PL.exs_retl, PL.exs_ret, PL.exs_asg, PL.exs_unp, PL.exs_par, PL.exs_set, PL.exs_aug, PL.exs_ite, PL.nxt_nx, PL.nxt_rt, PL.nxt_bk, PL.nxt_ct, PV.res, PV.ress, PV.frz, PV.frzs, PV.slotT, PV.ofA, PV.ofB, PV.ofT, PV.ofA?, PV.store1, PV.callWith, PV.argsOf, PV.argOf, PV.mutsOf, PV.lentOf, PV.isOwn, PV.putBack, PV.appC, PV.extC, PV.popC, PV.popAC, PV.setIx, PV.truth, PV.storeAll, PL.big_le_0, PL.big_le_1, PL.big_le_2, PL.big_le_3, PL.big_le_4, PL.big_le_5, PL.big_le_6, PL.big_le_7, PL.big_le_8, PL.big_le_9, PL.big_le_10, PL.big_le_11, PL.big_le_12, PL.big_le_13, PV.unpT, PV.compTurn, PV.bindTo, PV.setAll, PV.wipeE, PV.backE, PV.forTurn, PV.tupT, PV.startE, PV.slotOf, PV.endC, PV.mutsAt, PV.runF, List.getElem?_cons_zero, List.getElem?_cons_succ, List.getElem?_nil, Option.bind_some, Option.bind_none, Option.map_some, Option.map_none, List.set_cons_zero, List.set_cons_succ, List.isEmpty_nil, List.isEmpty_cons, if_true, if_false, List.replicate_succ, List.replicate_zero, List.length_cons, List.length_nil, Bool.not_true, Bool.not_false, Bool.and_true, Bool.and_false, Bool.true_and, Bool.false_and, reduceCtorEq, ne_eq, not_false_eq_true, implies_true, Bool.true_or, Bool.false_or, Bool.or_true, Bool.or_false, Nat.reduceAdd, Nat.reduceLeDiff, Nat.reduceSub, c1, c2, hd, hlenD, hlenL, cmp_lt, kI_len, truth]
  unfold okS
  cases hnd : decide tss.Nodup with
  | false => exact ⟨_, by simp only [PL.ev_con, PL.ev_loc, PL.ev_dk0, PL.ev_dk1, PL.ev_lst, PL.ev_tup, PL.ev_bin, PL.ev_neg, PL.ev_cmp, PL.ev_chn, PL.ev_and, PL.ev_or, PL.ev_tand, PL.ev_tor, PL.ev_not, PL.ev_ite, PL.ev_isn, PL.ev_isb, PL.ev_isi, PL.ev_call, PL.ev_call1, PL.ev_bi, PL.ev_app, PL.ev_ext, PL.ev_pop, PL.ev_popA, PL.ev_idx, PL.ev_ixof, PL.ev_slc, PL.ev_rev, PV.evO, PV.evOs, PV.evP, PV.evPs, PV.evF, PV.evB, PV.evS, PL.r_ok_bind, PL.r_bad_bind, PL.rs_of_ok, PL.exs_nil, PL.exs_ex, PL.exs_retl, PL.exs_ret, PL.exs_asg, PL.exs_unp, PL.exs_par, PL.exs_set, PL.exs_aug, PL.exs_ite, PL.nxt_nx, PL.nxt_rt, PL.nxt_bk, PL.nxt_ct, PV.res, PV.ress, PV.frz, PV.frzs, PV.slotT, PV.ofA, PV.ofB, PV.ofT, PV.ofA?, PV.store1, PV.callWith, PV.argsOf, PV.argOf, PV.mutsOf, PV.lentOf, PV.isOwn, PV.putBack, PV.appC, PV.extC, PV.popC, PV.popAC, PV.setIx, PV.truth, PV.storeAll, PL.big_le_0, PL.big_le_1, PL.big_le_2, PL.big_le_3, PL.big_le_4, PL.big_le_5, PL.big_le_6, PL.big_le_7, PL.big_le_8, PL.big_le_9, PL.big_le_10, PL.big_le_11, PL.big_le_12, PL.big_le_13, PV.unpT, PV.compTurn, PV.bindTo, PV.setAll, PV.wipeE, PV.backE, PV.forTurn, PV.tupT, PV.startE, PV.slotOf, PV.endC, PV.mutsAt, PV.runF, List.getElem?_cons_zero, List.getElem?_cons_succ, List.getElem?_nil, Option.bind_some, Option.bind_none, Option.map_some, Option.map_none, List.set_cons_zero, List.set_cons_succ, List.isEmpty_nil, List.isEmpty_cons, if_true, if_false, List.replicate_succ, List.replicate_zero, List.length_cons, List.length_nil, Bool.not_true, Bool.not_false, Bool.and_true, Bool.and_false, Bool.true_and, Bool.false_and, reduceCtorEq, ne_eq, not_false_eq_true, implies_true, Bool.true_or, Bool.false_or, Bool.or_true, Bool.or_false, Nat.reduceAdd, Nat.reduceLeDiff, Nat.reduceSub]; rfl⟩
  | true =>
    simp only [PL.ev_con, PL.ev_loc, PL.ev_dk0, PL.ev_dk1, PL.ev_lst, PL.ev_tup, PL.ev_bin, PL.ev_neg, PL.ev_cmp, PL.ev_chn, PL.ev_and, PL.ev_or, PL.ev_tand, PL.ev_tor, PL.ev_not, PL.ev_ite, PL.ev_isn, PL.ev_isb, PL.ev_isi, PL.ev_call, PL.ev_call1, PL.ev_bi, PL.ev_app, PL.ev_ext, PL.ev_pop, PL.ev_popA, PL.ev_idx, PL.ev_ixof, PL.ev_slc, PL.ev_rev, PV.evO, PV.evOs, PV.evP, PV.evPs, PV.evF, PV.evB, PV.evS, PL.r_ok_bind, PL.r_bad_bind, PL.rs_of_ok, PL.exs_nil, PL.exs_ex, PL.exs_retl, PL.exs_ret, PL.exs_asg, PL.exs_unp, PL.exs_par, PL.exs_set, PL.exs_aug, PL.exs_ite, PL.nxt_nx, PL.nxt_rt, PL.nxt_bk, PL.nxt_ct, PV.res, PV.ress, PV.frz, PV.frzs, PV.slotT, PV.ofA, PV.ofB, PV.ofT, PV.ofA?, PV.store1, PV.callWith, PV.argsOf, PV.argOf, PV.mutsOf, PV.lentOf, PV.isOwn, PV.putBack, PV.appC, PV.extC, PV.popC, PV.popAC, PV.setIx, PV.truth, PV.storeAll, PL.big_le_0, PL.big_le_1, PL.big_le_2, PL.big_le_3, PL.big_le_4, PL.big_le_5, PL.big_le_6, PL.big_le_7, PL.big_le_8, PL.big_le_9, PL.big_le_10, PL.big_le_11, PL.big_le_12, PL.big_le_13, PV.unpT, PV.compTurn, PV.bindTo, PV.setAll, PV.wipeE, PV.backE, PV.forTurn, PV.tupT, PV.startE, PV.slotOf, PV.endC, PV.mutsAt, PV.runF, List.getElem?_cons_zero, List.getElem?_cons_succ, List.getElem?_nil, Option.bind_some, Option.bind_none, Option.map_some, Option.map_none, List.set_cons_zero, List.set_cons_succ, List.isEmpty_nil, List.isEmpty_cons, if_true, if_false, List.replicate_succ, List.replicate_zero, List.length_cons, List.length_nil, Bool.not_true, Bool.not_false, Bool.and_true, Bool.and_false, Bool.true_and, Bool.false_and, reduceCtorEq, ne_eq, not_false_eq_true, implies_true, Bool.true_or, Bool.false_or, Bool.or_true, Bool.or_false, Nat.reduceAdd, Nat.reduceLeDiff, Nat.reduceSub]
    rw [exs_for]
    have hif : evIf (ev pg (Fo (d + 3)) 1000 60) 0 [.loc 2] [.v v, .v (.int n), .o true (tss.map tupI), .v (.dit (uniq [] (tss.map kI)) vs), .u, .u, .u, .u] = .ok (.sq true (.x (.lst (tss.map tupI)))) [.v v, .v (.int n), .v (.lst (tss.map tupI)), .v (.dit (uniq [] (tss.map kI)) vs), .u, .u, .u, .u] := rfl
    rw [hif, rs_of_ok]
    have step : ∀ x ρ, x ∈ tss.map tupI → (∃ s, ρ = [.v v, .v (.int n), .v (.lst (tss.map tupI)), .v (.dit (uniq [] (tss.map kI)) vs), s, .u, .u, .u]) → ∃ ρ', forTurn [4] false (exs pg (Fo (d + 3)) 1000 60 53 [Sm.ite (Ex.bi Bi.all [Ex.comp [5, 7] [7] false 0 [Ex.loc 2] none (Ex.cmp Cmp.isin (Ex.call 4 [] [Ex.loc 4, Ex.loc 7]) (Ex.loc 3))]).not_ [Sm.ret (Ex.con T.non)] []]) x ρ = (if (tss.all fun b => decide (beh (turnI x) b ∈ tss)) then .nx ρ' else .rt (.t .non) ρ') ∧ ∃ s, ρ' = [.v v, .v (.int n), .v (.lst (tss.map tupI)), .v (.dit (uniq [] (tss.map kI)) vs), s, .u, .u, .u] := by
      rintro x ρ hx ⟨s, hs⟩
      obtain ⟨a, ha, rfl⟩ := List.mem_map.mp hx
      subst hs
      refine ⟨[.v v, .v (.int n), .v (.lst (tss.map tupI)), .v (.dit (uniq [] (tss.map kI)) vs), .v (tupI a), .u, .u, .u], ?_, _, rfl⟩
      simp only [PL.ev_con, PL.ev_loc, PL.ev_dk0, PL.ev_dk1, PL.ev_lst, PL.ev_tup, PL.ev_bin, PL.ev_neg, PL.ev_cmp, PL.ev_chn, PL.ev_and, PL.ev_or, PL.ev_tand, PL.ev_tor, PL.ev_not, PL.ev_ite, PL.ev_isn, PL.ev_isb, PL.ev_isi, PL.ev_call, PL.ev_call1, PL.ev_bi, PL.ev_app, PL.ev_ext, PL.ev_pop, PL.ev_popA, PL.ev_idx, PL.ev_ixof, PL.ev_slc, PL.ev_rev, PV.evO, PV.evOs, PV.evP, PV.evPs, PV.evF, PV.evB, PV.evS, PL.r_ok_bind, PL.r_bad_bind, PL.rs_of_ok, PL.exs_nil, PL.exs_ex, PL.exs_retl, PL.exs_ret, PL.exs_asg, PL.exs_unp, PL.exs_par, PL.exs_set, PL.exs_aug, PL.exs_ite, PL.nxt_nx, PL.nxt_rt, PL.nxt_bk, PL.nxt_ct, PV.res, PV.ress, PV.frz, PV.frzs, PV.slotT, PV.ofA, PV.ofB, PV.ofT, PV.ofA?, PV.store1, PV.callWith, PV.argsOf, PV.argOf, PV.mutsOf, PV.lentOf, PV.isOwn, PV.putBack, PV.appC, PV.extC, PV.popC, PV.popAC, PV.setIx, PV.truth, PV.storeAll, PL.big_le_0, PL.big_le_1, PL.big_le_2, PL.big_le_3, PL.big_le_4, PL.big_le_5, PL.big_le_6, PL.big_le_7, PL.big_le_8, PL.big_le_9, PL.big_le_10, PL.big_le_11, PL.big_le_12, PL.big_le_13, PV.unpT, PV.compTurn, PV.bindTo, PV.setAll, PV.wipeE, PV.backE, PV.forTurn, PV.tupT, PV.startE, PV.slotOf, PV.endC, PV.mutsAt, PV.runF, List.getElem?_cons_zero, List.getElem?_cons_succ, List.getElem?_nil, Option.bind_some, Option.bind_none, Option.map_some, Option.map_none, List.set_cons_zero, List.set_cons_succ, List.isEmpty_nil, List.isEmpty_cons, if_true, if_false, List.replicate_succ, List.replicate_zero, List.length_cons, List.length_nil, Bool.not_true, Bool.not_false, Bool.and_true, Bool.and_false, Bool.true_and, Bool.false_and, reduceCtorEq, ne_eq, not_false_eq_true, implies_true, Bool.true_or, Bool.false_or, Bool.or_true, Bool.or_false, Nat.reduceAdd, Nat.reduceLeDiff, Nat.reduceSub, c3 _ a .u ha, biT_all, boolsT_map', truth, turnI_tupI, all_id']
      cases (tss.all fun b => decide (beh a b ∈ tss)) <;> simp only [PL.ev_con, PL.ev_loc, PL.ev_dk0, PL.ev_dk1, PL.ev_lst, PL.ev_tup, PL.ev_bin, PL.ev_neg, PL.ev_cmp, PL.ev_chn, PL.ev_and, PL.ev_or, PL.ev_tand, PL.ev_tor, PL.ev_not, PL.ev_ite, PL.ev_isn, PL.ev_isb, PL.ev_isi, PL.ev_call, PL.ev_call1, PL.ev_bi, PL.ev_app, PL.ev_ext, PL.ev_pop, PL.ev_popA, PL.ev_idx, PL.ev_ixof, PL.ev_slc, PL.ev_rev, PV.evO, PV.evOs, PV.evP, PV.evPs, PV.evF, PV.evB, PV.evS, PL.r_ok_bind, PL.r_bad_bind, PL.rs_of_ok, PL.exs_nil, PL.exs_ex, PL.exs_retl, PL.exs_ret, PL.exs_asg, PL.exs_unp, PL.exs_par, PL.exs_set, PL.exs_aug, PL.exs_ite, PL.nxt_nx, PL.nxt_rt, PL.nxt_bk, PL.nxt_ct, PV.res, PV.ress, PV.frz, PV.frzs, PV.slotT, PV.ofA, PV.ofB, PV.ofT, PV.ofA?, PV.store1, PV.callWith, PV.argsOf, PV.argOf, PV.mutsOf, PV.lentOf, PV.isOwn, PV.putBack, PV.appC, PV.extC, PV.popC, PV.popAC, PV.setIx, PV.truth, PV.storeAll, PL.big_le_0, PL.big_le_1, PL.big_le_2, PL.big_le_3, PL.big_le_4, PL.big_le_5, PL.big_le_6, PL.big_le_7, PL.big_le_8, PL.big_le_9, PL.big_le_10, PL.big_le_11, PL.big_le_12, PL.big_le_13, PV.unpT, PV.compTurn, PV.bindTo, PV.setAll, PV.wipeE, PV.backE, PV.forTurn, PV.tupT, PV.startE, PV.slotOf, PV.endC, PV.mutsAt, PV.runF, List.getElem?_cons_zero, List.getElem?_cons_succ, List.getElem?_nil, Option.bind_some, Option.bind_none, Option.map_some, Option.map_none, List.set_cons_zero, List.set_cons_succ, List.isEmpty_nil, List.isEmpty_cons, if_true, if_false, List.replicate_succ, List.replicate_zero, List.length_cons, List.length_nil, Bool.not_true, Bool.not_false, Bool.and_true, Bool.and_false, Bool.true_and, Bool.false_and, reduceCtorEq, ne_eq, not_false_eq_true, implies_true, Bool.true_or, Bool.false_or, Bool.or_true, Bool.or_false, Nat.reduceAdd, Nat.reduceLeDiff, Nat.reduceSub] <;> rfl
    obtain ⟨ρ', e, x1, hI⟩ := forL_all (iv := .sq true (.x (.lst (tss.map tupI)))) (xs := tss.map tupI) (a := .t .non) (p := fun x => tss.all fun b => decide (beh (turnI x) b ∈ tss)) _ (fun i ρ => rfl) step 1000 0 _ (Nat.zero_le _) (by rw [List.length_map]; omega) ⟨.u, rfl⟩
    rw [e, List.drop_zero, List.all_map, hI]
    have ep : (tss.all ((fun x => tss.all fun b => decide (beh (turnI x) b ∈ tss)) ∘ tupI)) = tss.all fun a => tss.all fun b => decide (beh a b ∈ tss) := by
      congr 1
      funext a
      show (tss.all fun b => decide (beh (turnI (tupI a)) b ∈ tss)) = _
      rw [turnI_tupI]
    rw [ep]
    cases (tss.all fun a => tss.all fun b => decide (beh a b ∈ tss)) with
    | true => exact ⟨_, by simp only [PL.ev_con, PL.ev_loc, PL.ev_dk0, PL.ev_dk1, PL.ev_lst, PL.ev_tup, PL.ev_bin, PL.ev_neg, PL.ev_cmp, PL.ev_chn, PL.ev_and, PL.ev_or, PL.ev_tand, PL.ev_tor, PL.ev_not, PL.ev_ite, PL.ev_isn, PL.ev_isb, PL.ev_isi, PL.ev_call, PL.ev_call1, PL.ev_bi, PL.ev_app, PL.ev_ext, PL.ev_pop, PL.ev_popA, PL.ev_idx, PL.ev_ixof, PL.ev_slc, PL.ev_rev, PV.evO, PV.evOs, PV.evP, PV.evPs, PV.evF, PV.evB, PV.evS, PL.r_ok_bind, PL.r_bad_bind, PL.rs_of_ok, PL.exs_nil, PL.exs_ex, PL.exs_retl, PL.exs_ret, PL.exs_asg, PL.exs_unp, PL.exs_par, PL.exs_set, PL.exs_aug, PL.exs_ite, PL.nxt_nx, PL.nxt_rt, PL.nxt_bk, PL.nxt_ct, PV.res, PV.ress, PV.frz, PV.frzs, PV.slotT, PV.ofA, PV.ofB, PV.ofT, PV.ofA?, PV.store1, PV.callWith, PV.argsOf, PV.argOf, PV.mutsOf, PV.lentOf, PV.isOwn, PV.putBack, PV.appC, PV.extC, PV.popC, PV.popAC, PV.setIx, PV.truth, PV.storeAll, PL.big_le_0, PL.big_le_1, PL.big_le_2, PL.big_le_3, PL.big_le_4, PL.big_le_5, PL.big_le_6, PL.big_le_7, PL.big_le_8, PL.big_le_9, PL.big_le_10, PL.big_le_11, PL.big_le_12, PL.big_le_13, PV.unpT, PV.compTurn, PV.bindTo, PV.setAll, PV.wipeE, PV.backE, PV.forTurn, PV.tupT, PV.startE, PV.slotOf, PV.endC, PV.mutsAt, PV.runF, List.getElem?_cons_zero, List.getElem?_cons_succ, List.getElem?_nil, Option.bind_some, Option.bind_none, Option.map_some, Option.map_none, List.set_cons_zero, List.set_cons_succ, List.isEmpty_nil, List.isEmpty_cons, if_true, if_false, List.replicate_succ, List.replicate_zero, List.length_cons, List.length_nil, Bool.not_true, Bool.not_false, Bool.and_true, Bool.and_false, Bool.true_and, Bool.false_and, reduceCtorEq, ne_eq, not_false_eq_true, implies_true, Bool.true_or, Bool.false_or, Bool.or_true, Bool.or_false, Nat.reduceAdd, Nat.reduceLeDiff, Nat.reduceSub]; rfl⟩
    | false => exact ⟨_, by simp only [PL.ev_con, PL.ev_loc, PL.ev_dk0, PL.ev_dk1, PL.ev_lst, PL.ev_tup, PL.ev_bin, PL.ev_neg, PL.ev_cmp, PL.ev_chn, PL.ev_and, PL.ev_or, PL.ev_tand, PL.ev_tor, PL.ev_not, PL.ev_ite, PL.ev_isn, PL.ev_isb, PL.ev_isi, PL.ev_call, PL.ev_call1, PL.ev_bi, PL.ev_app, PL.ev_ext, PL.ev_pop, PL.ev_popA, PL.ev_idx, PL.ev_ixof, PL.ev_slc, PL.ev_rev, PV.evO, PV.evOs, PV.evP, PV.evPs, PV.evF, PV.evB, PV.evS, PL.r_ok_bind, PL.r_bad_bind, PL.rs_of_ok, PL.exs_nil, PL.exs_ex, PL.exs_retl, PL.exs_ret, PL.exs_asg, PL.exs_unp, PL.exs_par, PL.exs_set, PL.exs_aug, PL.exs_ite, PL.nxt_nx, PL.nxt_rt, PL.nxt_bk, PL.nxt_ct, PV.res, PV.ress, PV.frz, PV.frzs, PV.slotT, PV.ofA, PV.ofB, PV.ofT, PV.ofA?, PV.store1, PV.callWith, PV.argsOf, PV.argOf, PV.mutsOf, PV.lentOf, PV.isOwn, PV.putBack, PV.appC, PV.extC, PV.popC, PV.popAC, PV.setIx, PV.truth, PV.storeAll, PL.big_le_0, PL.big_le_1, PL.big_le_2, PL.big_le_3, PL.big_le_4, PL.big_le_5, PL.big_le_6, PL.big_le_7, PL.big_le_8, PL.big_le_9, PL.big_le_10, PL.big_le_11, PL.big_le_12, PL.big_le_13, PV.unpT, PV.compTurn, PV.bindTo, PV.setAll, PV.wipeE, PV.backE, PV.forTurn, PV.tupT, PV.startE, PV.slotOf, PV.endC, PV.mutsAt, PV.runF, List.getElem?_cons_zero, List.getElem?_cons_succ, List.getElem?_nil, Option.bind_some, Option.bind_none, Option.map_some, Option.map_none, List.set_cons_zero, List.set_cons_succ, List.isEmpty_nil, List.isEmpty_cons, if_true, if_false, List.replicate_succ, List.replicate_zero, List.length_cons, List.length_nil, Bool.not_true, Bool.not_false, Bool.and_true, Bool.and_false, Bool.true_and, Bool.false_and, reduceCtorEq, ne_eq, not_false_eq_true, implies_true, Bool.true_or, Bool.false_or, Bool.or_true, Bool.or_false, Nat.reduceAdd, Nat.reduceLeDiff, Nat.reduceSub]; rfl⟩
theorem c5_eq : c5 = Sm.ite ((Ex.call 2 [] [Ex.loc 0]).not_.tor ((Ex.chn Cmp.le Cmp.le (Ex.con (T.int 1)) (Ex.bi Bi.len [Ex.loc 0]) (Ex.con (T.int 8))).not_.tor (Ex.call 2 [] [(Ex.loc 0).idx (Ex.con (T.int 0))]).not_)) [Sm.ret (Ex.con T.non)] [] ::
    Sm.asg 1 (Ex.bi Bi.len [(Ex.loc 0).idx (Ex.con (T.int 0))]) ::
    Sm.ite ((Ex.chn Cmp.le Cmp.le (Ex.con (T.int 1)) (Ex.loc 1) (Ex.con (T.int 6))).not_.tor (Ex.bi Bi.all [Ex.comp [5, 6] [6] false 0 [Ex.loc 0] none (Ex.call 3 [] [Ex.loc 6, Ex.loc 1])]).not_) [Sm.ret (Ex.con T.non)] [] :: rest5 := rfl
theorem f5 (d : Nat) {v : T} (h : okT 60 v = true) : Fo (d + 4) 5 [.t v] = .ok (.t (gT v)) [] := by
  have e : Fo (d + 4) 5 [.t v] = runF pg (Fo (d + 3)) 1000 60 ⟨8, [.val], c5⟩ [.t v] := rfl
  rw [e, c5_eq]
  simp only [PL.ev_con, PL.ev_loc, PL.ev_dk0, PL.ev_dk1, PL.ev_lst, PL.ev_tup, PL.ev_bin, PL.ev_neg, PL.ev_cmp, PL.ev_chn, PL.ev_and, PL.ev_or, PL.ev_tand, PL.ev_tor, PL.ev_not, PL.ev_ite, PL.ev_isn, PL.ev_isb, PL.ev_isi, PL.ev_call, PL.ev_call1, PL.ev_bi, PL.ev_app, PL.ev_ext, PL.ev_pop, PL.ev_popA, PL.ev_idx, PL.ev_ixof, PL.ev_slc, PL.ev_rev, PV.evO, PV.evOs, PV.evP, PV.evPs, PV.evF, PV.evB, PV.evS, PL.r_ok_bind, PL.r_bad_bind, PL.rs_of_ok, PL.exs_nil, PL.exs_ex, PL.exs_retl, PL.exs_ret, PL.exs_asg, PL.exs_unp, PL.exs_par, PL.exs_set, PL.exs_aug, PL.exs_ite, PL.nxt_nx, PL.nxt_rt, PL.nxt_bk, PL.nxt_ct, PV.res, PV.ress, PV.frz, PV.frzs, PV.slotT, PV.ofA, PV.ofB, PV.ofT, PV.ofA?, PV.store1, PV.callWith, PV.argsOf, PV.argOf, PV.mutsOf, PV.lentOf, PV.isOwn, PV.putBack, PV.appC, PV.extC, PV.popC, PV.popAC, PV.setIx, PV.truth, PV.storeAll, PL.big_le_0, PL.big_le_1, PL.big_le_2, PL.big_le_3, PL.big_le_4, PL.big_le_5, PL.big_le_6, PL.big_le_7, PL.big_le_8, PL.big_le_9, PL.big_le_10, PL.big_le_11, PL.big_le_12, PL.big_le_13, PV.unpT, PV.compTurn, PV.bindTo, PV.setAll, PV.wipeE, PV.backE, PV.forTurn, PV.tupT, PV.startE, PV.slotOf, PV.endC, PV.mutsAt, PV.runF, List.getElem?_cons_zero, List.getElem?_cons_succ, List.getElem?_nil, Option.bind_some, Option.bind_none, Option.map_some, Option.map_none, List.set_cons_zero, List.set_cons_succ, List.isEmpty_nil, List.isEmpty_cons, if_true, if_false, List.replicate_succ, List.replicate_zero, List.length_cons, List.length_nil, Bool.not_true, Bool.not_false, Bool.and_true, Bool.and_false, Bool.true_and, Bool.false_and, reduceCtorEq, ne_eq, not_false_eq_true, implies_true, Bool.true_or, Bool.false_or, Bool.or_true, Bool.or_false, Nat.reduceAdd, Nat.reduceLeDiff, Nat.reduceSub, f2 (d + 2) (okT_dat h), p2, truth]
  unfold gT isG
  cases hs : seq? v with
  | false =>
    have : itemsT v = none := by
      unfold seq? at hs
      cases q : itemsT v with
      | none => rfl
      | some _ => rw [q] at hs; cases hs
    rw [this]
    simp only [PL.ev_con, PL.ev_loc, PL.ev_dk0, PL.ev_dk1, PL.ev_lst, PL.ev_tup, PL.ev_bin, PL.ev_neg, PL.ev_cmp, PL.ev_chn, PL.ev_and, PL.ev_or, PL.ev_tand, PL.ev_tor, PL.ev_not, PL.ev_ite, PL.ev_isn, PL.ev_isb, PL.ev_isi, PL.ev_call, PL.ev_call1, PL.ev_bi, PL.ev_app, PL.ev_ext, PL.ev_pop, PL.ev_popA, PL.ev_idx, PL.ev_ixof, PL.ev_slc, PL.ev_rev, PV.evO, PV.evOs, PV.evP, PV.evPs, PV.evF, PV.evB, PV.evS, PL.r_ok_bind, PL.r_bad_bind, PL.rs_of_ok, PL.exs_nil, PL.exs_ex, PL.exs_retl, PL.exs_ret, PL.exs_asg, PL.exs_unp, PL.exs_par, PL.exs_set, PL.exs_aug, PL.exs_ite, PL.nxt_nx, PL.nxt_rt, PL.nxt_bk, PL.nxt_ct, PV.res, PV.ress, PV.frz, PV.frzs, PV.slotT, PV.ofA, PV.ofB, PV.ofT, PV.ofA?, PV.store1, PV.callWith, PV.argsOf, PV.argOf, PV.mutsOf, PV.lentOf, PV.isOwn, PV.putBack, PV.appC, PV.extC, PV.popC, PV.popAC, PV.setIx, PV.truth, PV.storeAll, PL.big_le_0, PL.big_le_1, PL.big_le_2, PL.big_le_3, PL.big_le_4, PL.big_le_5, PL.big_le_6, PL.big_le_7, PL.big_le_8, PL.big_le_9, PL.big_le_10, PL.big_le_11, PL.big_le_12, PL.big_le_13, PV.unpT, PV.compTurn, PV.bindTo, PV.setAll, PV.wipeE, PV.backE, PV.forTurn, PV.tupT, PV.startE, PV.slotOf, PV.endC, PV.mutsAt, PV.runF, List.getElem?_cons_zero, List.getElem?_cons_succ, List.getElem?_nil, Option.bind_some, Option.bind_none, Option.map_some, Option.map_none, List.set_cons_zero, List.set_cons_succ, List.isEmpty_nil, List.isEmpty_cons, if_true, if_false, List.replicate_succ, List.replicate_zero, List.length_cons, List.length_nil, Bool.not_true, Bool.not_false, Bool.and_true, Bool.and_false, Bool.true_and, Bool.false_and, reduceCtorEq, ne_eq, not_false_eq_true, implies_true, Bool.true_or, Bool.false_or, Bool.or_true, Bool.or_false, Nat.reduceAdd, Nat.reduceLeDiff, Nat.reduceSub]
  | true =>
    obtain ⟨xs, hx, hv⟩ := seqItems hs
    rw [hx]
    simp only [PL.ev_con, PL.ev_loc, PL.ev_dk0, PL.ev_dk1, PL.ev_lst, PL.ev_tup, PL.ev_bin, PL.ev_neg, PL.ev_cmp, PL.ev_chn, PL.ev_and, PL.ev_or, PL.ev_tand, PL.ev_tor, PL.ev_not, PL.ev_ite, PL.ev_isn, PL.ev_isb, PL.ev_isi, PL.ev_call, PL.ev_call1, PL.ev_bi, PL.ev_app, PL.ev_ext, PL.ev_pop, PL.ev_popA, PL.ev_idx, PL.ev_ixof, PL.ev_slc, PL.ev_rev, PV.evO, PV.evOs, PV.evP, PV.evPs, PV.evF, PV.evB, PV.evS, PL.r_ok_bind, PL.r_bad_bind, PL.rs_of_ok, PL.exs_nil, PL.exs_ex, PL.exs_retl, PL.exs_ret, PL.exs_asg, PL.exs_unp, PL.exs_par, PL.exs_set, PL.exs_aug, PL.exs_ite, PL.nxt_nx, PL.nxt_rt, PL.nxt_bk, PL.nxt_ct, PV.res, PV.ress, PV.frz, PV.frzs, PV.slotT, PV.ofA, PV.ofB, PV.ofT, PV.ofA?, PV.store1, PV.callWith, PV.argsOf, PV.argOf, PV.mutsOf, PV.lentOf, PV.isOwn, PV.putBack, PV.appC, PV.extC, PV.popC, PV.popAC, PV.setIx, PV.truth, PV.storeAll, PL.big_le_0, PL.big_le_1, PL.big_le_2, PL.big_le_3, PL.big_le_4, PL.big_le_5, PL.big_le_6, PL.big_le_7, PL.big_le_8, PL.big_le_9, PL.big_le_10, PL.big_le_11, PL.big_le_12, PL.big_le_13, PV.unpT, PV.compTurn, PV.bindTo, PV.setAll, PV.wipeE, PV.backE, PV.forTurn, PV.tupT, PV.startE, PV.slotOf, PV.endC, PV.mutsAt, PV.runF, List.getElem?_cons_zero, List.getElem?_cons_succ, List.getElem?_nil, Option.bind_some, Option.bind_none, Option.map_some, Option.map_none, List.set_cons_zero, List.set_cons_succ, List.isEmpty_nil, List.isEmpty_cons, if_true, if_false, List.replicate_succ, List.replicate_zero, List.length_cons, List.length_nil, Bool.not_true, Bool.not_false, Bool.and_true, Bool.and_false, Bool.true_and, Bool.false_and, reduceCtorEq, ne_eq, not_false_eq_true, implies_true, Bool.true_or, Bool.false_or, Bool.or_true, Bool.or_false, Nat.reduceAdd, Nat.reduceLeDiff, Nat.reduceSub, len_of hv, cmp_le]
    cases h1 : decide (1 ≤ (xs.length : Int)) with
    | false =>
      have : decide (1 ≤ xs.length) = false := decide_eq_false (by have := of_decide_eq_false h1; omega)
      simp only [PL.ev_con, PL.ev_loc, PL.ev_dk0, PL.ev_dk1, PL.ev_lst, PL.ev_tup, PL.ev_bin, PL.ev_neg, PL.ev_cmp, PL.ev_chn, PL.ev_and, PL.ev_or, PL.ev_tand, PL.ev_tor, PL.ev_not, PL.ev_ite, PL.ev_isn, PL.ev_isb, PL.ev_isi, PL.ev_call, PL.ev_call1, PL.ev_bi, PL.ev_app, PL.ev_ext, PL.ev_pop, PL.ev_popA, PL.ev_idx, PL.ev_ixof, PL.ev_slc, PL.ev_rev, PV.evO, PV.evOs, PV.evP, PV.evPs, PV.evF, PV.evB, PV.evS, PL.r_ok_bind, PL.r_bad_bind, PL.rs_of_ok, PL.exs_nil, PL.exs_ex, PL.exs_retl, PL.exs_ret, PL.exs_asg, PL.exs_unp, PL.exs_par, PL.exs_set, PL.exs_aug, PL.exs_ite, PL.nxt_nx, PL.nxt_rt, PL.nxt_bk, PL.nxt_ct, PV.res, PV.ress, PV.frz, PV.frzs, PV.slotT, PV.ofA, PV.ofB, PV.ofT, PV.ofA?, PV.store1, PV.callWith, PV.argsOf, PV.argOf, PV.mutsOf, PV.lentOf, PV.isOwn, PV.putBack, PV.appC, PV.extC, PV.popC, PV.popAC, PV.setIx, PV.truth, PV.storeAll, PL.big_le_0, PL.big_le_1, PL.big_le_2, PL.big_le_3, PL.big_le_4, PL.big_le_5, PL.big_le_6, PL.big_le_7, PL.big_le_8, PL.big_le_9, PL.big_le_10, PL.big_le_11, PL.big_le_12, PL.big_le_13, PV.unpT, PV.compTurn, PV.bindTo, PV.setAll, PV.wipeE, PV.backE, PV.forTurn, PV.tupT, PV.startE, PV.slotOf, PV.endC, PV.mutsAt, PV.runF, List.getElem?_cons_zero, List.getElem?_cons_succ, List.getElem?_nil, Option.bind_some, Option.bind_none, Option.map_some, Option.map_none, List.set_cons_zero, List.set_cons_succ, List.isEmpty_nil, List.isEmpty_cons, if_true, if_false, List.replicate_succ, List.replicate_zero, List.length_cons, List.length_nil, Bool.not_true, Bool.not_false, Bool.and_true, Bool.and_false, Bool.true_and, Bool.false_and, reduceCtorEq, ne_eq, not_false_eq_true, implies_true, Bool.true_or, Bool.false_or, Bool.or_true, Bool.or_false, Nat.reduceAdd, Nat.reduceLeDiff, Nat.reduceSub, this]
    | true =>
    cases h8 : decide ((xs.length : Int) ≤ 8) with
    | false =>
      have : decide (xs.length ≤ 8) = false := decide_eq_false (by have := of_decide_eq_false h8; omega)
      simp only [PL.ev_con, PL.ev_loc, PL.ev_dk0, PL.ev_dk1, PL.ev_lst, PL.ev_tup, PL.ev_bin, PL.ev_neg, PL.ev_cmp, PL.ev_chn, PL.ev_and, PL.ev_or, PL.ev_tand, PL.ev_tor, PL.ev_not, PL.ev_ite, PL.ev_isn, PL.ev_isb, PL.ev_isi, PL.ev_call, PL.ev_call1, PL.ev_bi, PL.ev_app, PL.ev_ext, PL.ev_pop, PL.ev_popA, PL.ev_idx, PL.ev_ixof, PL.ev_slc, PL.ev_rev, PV.evO, PV.evOs, PV.evP, PV.evPs, PV.evF, PV.evB, PV.evS, PL.r_ok_bind, PL.r_bad_bind, PL.rs_of_ok, PL.exs_nil, PL.exs_ex, PL.exs_retl, PL.exs_ret, PL.exs_asg, PL.exs_unp, PL.exs_par, PL.exs_set, PL.exs_aug, PL.exs_ite, PL.nxt_nx, PL.nxt_rt, PL.nxt_bk, PL.nxt_ct, PV.res, PV.ress, PV.frz, PV.frzs, PV.slotT, PV.ofA, PV.ofB, PV.ofT, PV.ofA?, PV.store1, PV.callWith, PV.argsOf, PV.argOf, PV.mutsOf, PV.lentOf, PV.isOwn, PV.putBack, PV.appC, PV.extC, PV.popC, PV.popAC, PV.setIx, PV.truth, PV.storeAll, PL.big_le_0, PL.big_le_1, PL.big_le_2, PL.big_le_3, PL.big_le_4, PL.big_le_5, PL.big_le_6, PL.big_le_7, PL.big_le_8, PL.big_le_9, PL.big_le_10, PL.big_le_11, PL.big_le_12, PL.big_le_13, PV.unpT, PV.compTurn, PV.bindTo, PV.setAll, PV.wipeE, PV.backE, PV.forTurn, PV.tupT, PV.startE, PV.slotOf, PV.endC, PV.mutsAt, PV.runF, List.getElem?_cons_zero, List.getElem?_cons_succ, List.getElem?_nil, Option.bind_some, Option.bind_none, Option.map_some, Option.map_none, List.set_cons_zero, List.set_cons_succ, List.isEmpty_nil, List.isEmpty_cons, if_true, if_false, List.replicate_succ, List.replicate_zero, List.length_cons, List.length_nil, Bool.not_true, Bool.not_false, Bool.and_true, Bool.and_false, Bool.true_and, Bool.false_and, reduceCtorEq, ne_eq, not_false_eq_true, implies_true, Bool.true_or, Bool.false_or, Bool.or_true, Bool.or_false, Nat.reduceAdd, Nat.reduceLeDiff, Nat.reduceSub, this]
      all_goals (cases decide (1 ≤ xs.length) <;> rfl)
    | true =>
    have l1 : 1 ≤ xs.length := by have := of_decide_eq_true h1; omega
    have l8 : xs.length ≤ 8 := by have := of_decide_eq_true h8; omega
    cases xs with
    | nil => simp at l1
    | cons y r =>
    have hy : okT 59 y = true := okT_items h hx y List.mem_cons_self
    rw [decide_eq_true l1, decide_eq_true l8]
    simp only [PL.ev_con, PL.ev_loc, PL.ev_dk0, PL.ev_dk1, PL.ev_lst, PL.ev_tup, PL.ev_bin, PL.ev_neg, PL.ev_cmp, PL.ev_chn, PL.ev_and, PL.ev_or, PL.ev_tand, PL.ev_tor, PL.ev_not, PL.ev_ite, PL.ev_isn, PL.ev_isb, PL.ev_isi, PL.ev_call, PL.ev_call1, PL.ev_bi, PL.ev_app, PL.ev_ext, PL.ev_pop, PL.ev_popA, PL.ev_idx, PL.ev_ixof, PL.ev_slc, PL.ev_rev, PV.evO, PV.evOs, PV.evP, PV.evPs, PV.evF, PV.evB, PV.evS, PL.r_ok_bind, PL.r_bad_bind, PL.rs_of_ok, PL.exs_nil, PL.exs_ex, PL.exs_retl, PL.exs_ret, PL.exs_asg, PL.exs_unp, PL.exs_par, PL.exs_set, PL.exs_aug, PL.exs_ite, PL.nxt_nx, PL.nxt_rt, PL.nxt_bk, PL.nxt_ct, PV.res, PV.ress, PV.frz, PV.frzs, PV.slotT, PV.ofA, PV.ofB, PV.ofT, PV.ofA?, PV.store1, PV.callWith, PV.argsOf, PV.argOf, PV.mutsOf, PV.lentOf, PV.isOwn, PV.putBack, PV.appC, PV.extC, PV.popC, PV.popAC, PV.setIx, PV.truth, PV.storeAll, PL.big_le_0, PL.big_le_1, PL.big_le_2, PL.big_le_3, PL.big_le_4, PL.big_le_5, PL.big_le_6, PL.big_le_7, PL.big_le_8, PL.big_le_9, PL.big_le_10, PL.big_le_11, PL.big_le_12, PL.big_le_13, PV.unpT, PV.compTurn, PV.bindTo, PV.setAll, PV.wipeE, PV.backE, PV.forTurn, PV.tupT, PV.startE, PV.slotOf, PV.endC, PV.mutsAt, PV.runF, List.getElem?_cons_zero, List.getElem?_cons_succ, List.getElem?_nil, Option.bind_some, Option.bind_none, Option.map_some, Option.map_none, List.set_cons_zero, List.set_cons_succ, List.isEmpty_nil, List.isEmpty_cons, if_true, if_false, List.replicate_succ, List.replicate_zero, List.length_cons, List.length_nil, Bool.not_true, Bool.not_false, Bool.and_true, Bool.and_false, Bool.true_and, Bool.false_and, reduceCtorEq, ne_eq, not_false_eq_true, implies_true, Bool.true_or, Bool.false_or, Bool.or_true, Bool.or_false, Nat.reduceAdd, Nat.reduceLeDiff, Nat.reduceSub, idx0 hv, f2 (d + 2) (okT_dat hy)]
    cases hs2 : seq? y with
    | false =>
      have : itemsT y = none := by
        unfold seq? at hs2
        cases q : itemsT y with
        | none => rfl
        | some _ => rw [q] at hs2; cases hs2
      simp only [PL.ev_con, PL.ev_loc, PL.ev_dk0, PL.ev_dk1, PL.ev_lst, PL.ev_tup, PL.ev_bin, PL.ev_neg, PL.ev_cmp, PL.ev_chn, PL.ev_and, PL.ev_or, PL.ev_tand, PL.ev_tor, PL.ev_not, PL.ev_ite, PL.ev_isn, PL.ev_isb, PL.ev_isi, PL.ev_call, PL.ev_call1, PL.ev_bi, PL.ev_app, PL.ev_ext, PL.ev_pop, PL.ev_popA, PL.ev_idx, PL.ev_ixof, PL.ev_slc, PL.ev_rev, PV.evO, PV.evOs, PV.evP, PV.evPs, PV.evF, PV.evB, PV.evS, PL.r_ok_bind, PL.r_bad_bind, PL.rs_of_ok, PL.exs_nil, PL.exs_ex, PL.exs_retl, PL.exs_ret, PL.exs_asg, PL.exs_unp, PL.exs_par, PL.exs_set, PL.exs_aug, PL.exs_ite, PL.nxt_nx, PL.nxt_rt, PL.nxt_bk, PL.nxt_ct, PV.res, PV.ress, PV.frz, PV.frzs, PV.slotT, PV.ofA, PV.ofB, PV.ofT, PV.ofA?, PV.store1, PV.callWith, PV.argsOf, PV.argOf, PV.mutsOf, PV.lentOf, PV.isOwn, PV.putBack, PV.appC, PV.extC, PV.popC, PV.popAC, PV.setIx, PV.truth, PV.storeAll, PL.big_le_0, PL.big_le_1, PL.big_le_2, PL.big_le_3, PL.big_le_4, PL.big_le_5, PL.big_le_6, PL.big_le_7, PL.big_le_8, PL.big_le_9, PL.big_le_10, PL.big_le_11, PL.big_le_12, PL.big_le_13, PV.unpT, PV.compTurn, PV.bindTo, PV.setAll, PV.wipeE, PV.backE, PV.forTurn, PV.tupT, PV.startE, PV.slotOf, PV.endC, PV.mutsAt, PV.runF, List.getElem?_cons_zero, List.getElem?_cons_succ, List.getElem?_nil, Option.bind_some, Option.bind_none, Option.map_some, Option.map_none, List.set_cons_zero, List.set_cons_succ, List.isEmpty_nil, List.isEmpty_cons, if_true, if_false, List.replicate_succ, List.replicate_zero, List.length_cons, List.length_nil, Bool.not_true, Bool.not_false, Bool.and_true, Bool.and_false, Bool.true_and, Bool.false_and, reduceCtorEq, ne_eq, not_false_eq_true, implies_true, Bool.true_or, Bool.false_or, Bool.or_true, Bool.or_false, Nat.reduceAdd, Nat.reduceLeDiff, Nat.reduceSub, this]
    | true =>
    obtain ⟨ys, hys, hw⟩ := seqItems hs2
    have hT : ∀ n : Nat, n ≤ 6 → ∀ m, ev pg (Fo (d + 3)) 1000 (m + 8) (.comp [5, 6] [6] false 0 [.loc 0] none (.call 3 [] [.loc 6, .loc 1])) [.v v, .v (.int n), .u, .u, .u, .u, .u, .u] = .ok (.f ((y :: r).map fun x => T.bl (tn x n))) [.v v, .v (.int n), .u, .u, .u, .u, .u, .u] := fun n hn m => by
      rw [ev_comp_map (xs := y :: r) (fun x => T.bl (tn x n)) (iv_loc hv) rfl (fun i => by rcases hv with rfl | rfl <;> rfl) (fun x hx' => ?_) (by omega) (by unfold big; omega) rfl]
      · rfl
      · have hx2 := okT_items h hx x hx'
        simp only [PL.ev_con, PL.ev_loc, PL.ev_dk0, PL.ev_dk1, PL.ev_lst, PL.ev_tup, PL.ev_bin, PL.ev_neg, PL.ev_cmp, PL.ev_chn, PL.ev_and, PL.ev_or, PL.ev_tand, PL.ev_tor, PL.ev_not, PL.ev_ite, PL.ev_isn, PL.ev_isb, PL.ev_isi, PL.ev_call, PL.ev_call1, PL.ev_bi, PL.ev_app, PL.ev_ext, PL.ev_pop, PL.ev_popA, PL.ev_idx, PL.ev_ixof, PL.ev_slc, PL.ev_rev, PV.evO, PV.evOs, PV.evP, PV.evPs, PV.evF, PV.evB, PV.evS, PL.r_ok_bind, PL.r_bad_bind, PL.rs_of_ok, PL.exs_nil, PL.exs_ex, PL.exs_retl, PL.exs_ret, PL.exs_asg, PL.exs_unp, PL.exs_par, PL.exs_set, PL.exs_aug, PL.exs_ite, PL.nxt_nx, PL.nxt_rt, PL.nxt_bk, PL.nxt_ct, PV.res, PV.ress, PV.frz, PV.frzs, PV.slotT, PV.ofA, PV.ofB, PV.ofT, PV.ofA?, PV.store1, PV.callWith, PV.argsOf, PV.argOf, PV.mutsOf, PV.lentOf, PV.isOwn, PV.putBack, PV.appC, PV.extC, PV.popC, PV.popAC, PV.setIx, PV.truth, PV.storeAll, PL.big_le_0, PL.big_le_1, PL.big_le_2, PL.big_le_3, PL.big_le_4, PL.big_le_5, PL.big_le_6, PL.big_le_7, PL.big_le_8, PL.big_le_9, PL.big_le_10, PL.big_le_11, PL.big_le_12, PL.big_le_13, PV.unpT, PV.compTurn, PV.bindTo, PV.setAll, PV.wipeE, PV.backE, PV.forTurn, PV.tupT, PV.startE, PV.slotOf, PV.endC, PV.mutsAt, PV.runF, List.getElem?_cons_zero, List.getElem?_cons_succ, List.getElem?_nil, Option.bind_some, Option.bind_none, Option.map_some, Option.map_none, List.set_cons_zero, List.set_cons_succ, List.isEmpty_nil, List.isEmpty_cons, if_true, if_false, List.replicate_succ, List.replicate_zero, List.length_cons, List.length_nil, Bool.not_true, Bool.not_false, Bool.and_true, Bool.and_false, Bool.true_and, Bool.false_and, reduceCtorEq, ne_eq, not_false_eq_true, implies_true, Bool.true_or, Bool.false_or, Bool.or_true, Bool.or_false, Nat.reduceAdd, Nat.reduceLeDiff, Nat.reduceSub, f3 d n (okT_dat hx2) (okT_datT hx2) (show n < 64 by omega), p3]
    simp only [PL.ev_con, PL.ev_loc, PL.ev_dk0, PL.ev_dk1, PL.ev_lst, PL.ev_tup, PL.ev_bin, PL.ev_neg, PL.ev_cmp, PL.ev_chn, PL.ev_and, PL.ev_or, PL.ev_tand, PL.ev_tor, PL.ev_not, PL.ev_ite, PL.ev_isn, PL.ev_isb, PL.ev_isi, PL.ev_call, PL.ev_call1, PL.ev_bi, PL.ev_app, PL.ev_ext, PL.ev_pop, PL.ev_popA, PL.ev_idx, PL.ev_ixof, PL.ev_slc, PL.ev_rev, PV.evO, PV.evOs, PV.evP, PV.evPs, PV.evF, PV.evB, PV.evS, PL.r_ok_bind, PL.r_bad_bind, PL.rs_of_ok, PL.exs_nil, PL.exs_ex, PL.exs_retl, PL.exs_ret, PL.exs_asg, PL.exs_unp, PL.exs_par, PL.exs_set, PL.exs_aug, PL.exs_ite, PL.nxt_nx, PL.nxt_rt, PL.nxt_bk, PL.nxt_ct, PV.res, PV.ress, PV.frz, PV.frzs, PV.slotT, PV.ofA, PV.ofB, PV.ofT, PV.ofA?, PV.store1, PV.callWith, PV.argsOf, PV.argOf, PV.mutsOf, PV.lentOf, PV.isOwn, PV.putBack, PV.appC, PV.extC, PV.popC, PV.popAC, PV.setIx, PV.truth, PV.storeAll, PL.big_le_0, PL.big_le_1, PL.big_le_2, PL.big_le_3, PL.big_le_4, PL.big_le_5, PL.big_le_6, PL.big_le_7, PL.big_le_8, PL.big_le_9, PL.big_le_10, PL.big_le_11, PL.big_le_12, PL.big_le_13, PV.unpT, PV.compTurn, PV.bindTo, PV.setAll, PV.wipeE, PV.backE, PV.forTurn, PV.tupT, PV.startE, PV.slotOf, PV.endC, PV.mutsAt, PV.runF, List.getElem?_cons_zero, List.getElem?_cons_succ, List.getElem?_nil, Option.bind_some, Option.bind_none, Option.map_some, Option.map_none, List.set_cons_zero, List.set_cons_succ, List.isEmpty_nil, List.isEmpty_cons, if_true, if_false, List.replicate_succ, List.replicate_zero, List.length_cons, List.length_nil, Bool.not_true, Bool.not_false, Bool.and_true, Bool.and_false, Bool.true_and, Bool.false_and, reduceCtorEq, ne_eq, not_false_eq_true, implies_true, Bool.true_or, Bool.false_or, Bool.or_true, Bool.or_false, Nat.reduceAdd, Nat.reduceLeDiff, Nat.reduceSub, idx0 hv, len_of hw, cmp_le, hys]
    cases k1 : decide (1 ≤ (ys.length : Int)) with
    | false =>
      have : decide (1 ≤ ys.length) = false := decide_eq_false (by have := of_decide_eq_false k1; omega)
      simp only [PL.ev_con, PL.ev_loc, PL.ev_dk0, PL.ev_dk1, PL.ev_lst, PL.ev_tup, PL.ev_bin, PL.ev_neg, PL.ev_cmp, PL.ev_chn, PL.ev_and, PL.ev_or, PL.ev_tand, PL.ev_tor, PL.ev_not, PL.ev_ite, PL.ev_isn, PL.ev_isb, PL.ev_isi, PL.ev_call, PL.ev_call1, PL.ev_bi, PL.ev_app, PL.ev_ext, PL.ev_pop, PL.ev_popA, PL.ev_idx, PL.ev_ixof, PL.ev_slc, PL.ev_rev, PV.evO, PV.evOs, PV.evP, PV.evPs, PV.evF, PV.evB, PV.evS, PL.r_ok_bind, PL.r_bad_bind, PL.rs_of_ok, PL.exs_nil, PL.exs_ex, PL.exs_retl, PL.exs_ret, PL.exs_asg, PL.exs_unp, PL.exs_par, PL.exs_set, PL.exs_aug, PL.exs_ite, PL.nxt_nx, PL.nxt_rt, PL.nxt_bk, PL.nxt_ct, PV.res, PV.ress, PV.frz, PV.frzs, PV.slotT, PV.ofA, PV.ofB, PV.ofT, PV.ofA?, PV.store1, PV.callWith, PV.argsOf, PV.argOf, PV.mutsOf, PV.lentOf, PV.isOwn, PV.putBack, PV.appC, PV.extC, PV.popC, PV.popAC, PV.setIx, PV.truth, PV.storeAll, PL.big_le_0, PL.big_le_1, PL.big_le_2, PL.big_le_3, PL.big_le_4, PL.big_le_5, PL.big_le_6, PL.big_le_7, PL.big_le_8, PL.big_le_9, PL.big_le_10, PL.big_le_11, PL.big_le_12, PL.big_le_13, PV.unpT, PV.compTurn, PV.bindTo, PV.setAll, PV.wipeE, PV.backE, PV.forTurn, PV.tupT, PV.startE, PV.slotOf, PV.endC, PV.mutsAt, PV.runF, List.getElem?_cons_zero, List.getElem?_cons_succ, List.getElem?_nil, Option.bind_some, Option.bind_none, Option.map_some, Option.map_none, List.set_cons_zero, List.set_cons_succ, List.isEmpty_nil, List.isEmpty_cons, if_true, if_false, List.replicate_succ, List.replicate_zero, List.length_cons, List.length_nil, Bool.not_true, Bool.not_false, Bool.and_true, Bool.and_false, Bool.true_and, Bool.false_and, reduceCtorEq, ne_eq, not_false_eq_true, implies_true, Bool.true_or, Bool.false_or, Bool.or_true, Bool.or_false, Nat.reduceAdd, Nat.reduceLeDiff, Nat.reduceSub, this]
    | true =>
    cases k6 : decide ((ys.length : Int) ≤ 6) with
    | false =>
      have : decide (ys.length ≤ 6) = false := decide_eq_false (by have := of_decide_eq_false k6; omega)
      simp only [PL.ev_con, PL.ev_loc, PL.ev_dk0, PL.ev_dk1, PL.ev_lst, PL.ev_tup, PL.ev_bin, PL.ev_neg, PL.ev_cmp, PL.ev_chn, PL.ev_and, PL.ev_or, PL.ev_tand, PL.ev_tor, PL.ev_not, PL.ev_ite, PL.ev_isn, PL.ev_isb, PL.ev_isi, PL.ev_call, PL.ev_call1, PL.ev_bi, PL.ev_app, PL.ev_ext, PL.ev_pop, PL.ev_popA, PL.ev_idx, PL.ev_ixof, PL.ev_slc, PL.ev_rev, PV.evO, PV.evOs, PV.evP, PV.evPs, PV.evF, PV.evB, PV.evS, PL.r_ok_bind, PL.r_bad_bind, PL.rs_of_ok, PL.exs_nil, PL.exs_ex, PL.exs_retl, PL.exs_ret, PL.exs_asg, PL.exs_unp, PL.exs_par, PL.exs_set, PL.exs_aug, PL.exs_ite, PL.nxt_nx, PL.nxt_rt, PL.nxt_bk, PL.nxt_ct, PV.res, PV.ress, PV.frz, PV.frzs, PV.slotT, PV.ofA, PV.ofB, PV.ofT, PV.ofA?, PV.store1, PV.callWith, PV.argsOf, PV.argOf, PV.mutsOf, PV.lentOf, PV.isOwn, PV.putBack, PV.appC, PV.extC, PV.popC, PV.popAC, PV.setIx, PV.truth, PV.storeAll, PL.big_le_0, PL.big_le_1, PL.big_le_2, PL.big_le_3, PL.big_le_4, PL.big_le_5, PL.big_le_6, PL.big_le_7, PL.big_le_8, PL.big_le_9, PL.big_le_10, PL.big_le_11, PL.big_le_12, PL.big_le_13, PV.unpT, PV.compTurn, PV.bindTo, PV.setAll, PV.wipeE, PV.backE, PV.forTurn, PV.tupT, PV.startE, PV.slotOf, PV.endC, PV.mutsAt, PV.runF, List.getElem?_cons_zero, List.getElem?_cons_succ, List.getElem?_nil, Option.bind_some, Option.bind_none, Option.map_some, Option.map_none, List.set_cons_zero, List.set_cons_succ, List.isEmpty_nil, List.isEmpty_cons, if_true, if_false, List.replicate_succ, List.replicate_zero, List.length_cons, List.length_nil, Bool.not_true, Bool.not_false, Bool.and_true, Bool.and_false, Bool.true_and, Bool.false_and, reduceCtorEq, ne_eq, not_false_eq_true, implies_true, Bool.true_or, Bool.false_or, Bool.or_true, Bool.or_false, Nat.reduceAdd, Nat.reduceLeDiff, Nat.reduceSub, this]
      all_goals (cases decide (1 ≤ ys.length) <;> rfl)
    | true =>
    have l6 : ys.length ≤ 6 := by have := of_decide_eq_true k6; omega
    have l1' : 1 ≤ ys.length := by have := of_decide_eq_true k1; omega
    rw [decide_eq_true l6, decide_eq_true l1']
    simp only [PL.ev_con, PL.ev_loc, PL.ev_dk0, PL.ev_dk1, PL.ev_lst, PL.ev_tup, PL.ev_bin, PL.ev_neg, PL.ev_cmp, PL.ev_chn, PL.ev_and, PL.ev_or, PL.ev_tand, PL.ev_tor, PL.ev_not, PL.ev_ite, PL.ev_isn, PL.ev_isb, PL.ev_isi, PL.ev_call, PL.ev_call1, PL.ev_bi, PL.ev_app, PL.ev_ext, PL.ev_pop, PL.ev_popA, PL.ev_idx, PL.ev_ixof, PL.ev_slc, PL.ev_rev, PV.evO, PV.evOs, PV.evP, PV.evPs, PV.evF, PV.evB, PV.evS, PL.r_ok_bind, PL.r_bad_bind, PL.rs_of_ok, PL.exs_nil, PL.exs_ex, PL.exs_retl, PL.exs_ret, PL.exs_asg, PL.exs_unp, PL.exs_par, PL.exs_set, PL.exs_aug, PL.exs_ite, PL.nxt_nx, PL.nxt_rt, PL.nxt_bk, PL.nxt_ct, PV.res, PV.ress, PV.frz, PV.frzs, PV.slotT, PV.ofA, PV.ofB, PV.ofT, PV.ofA?, PV.store1, PV.callWith, PV.argsOf, PV.argOf, PV.mutsOf, PV.lentOf, PV.isOwn, PV.putBack, PV.appC, PV.extC, PV.popC, PV.popAC, PV.setIx, PV.truth, PV.storeAll, PL.big_le_0, PL.big_le_1, PL.big_le_2, PL.big_le_3, PL.big_le_4, PL.big_le_5, PL.big_le_6, PL.big_le_7, PL.big_le_8, PL.big_le_9, PL.big_le_10, PL.big_le_11, PL.big_le_12, PL.big_le_13, PV.unpT, PV.compTurn, PV.bindTo, PV.setAll, PV.wipeE, PV.backE, PV.forTurn, PV.tupT, PV.startE, PV.slotOf, PV.endC, PV.mutsAt, PV.runF, List.getElem?_cons_zero, List.getElem?_cons_succ, List.getElem?_nil, Option.bind_some, Option.bind_none, Option.map_some, Option.map_none, List.set_cons_zero, List.set_cons_succ, List.isEmpty_nil, List.isEmpty_cons, if_true, if_false, List.replicate_succ, List.replicate_zero, List.length_cons, List.length_nil, Bool.not_true, Bool.not_false, Bool.and_true, Bool.and_false, Bool.true_and, Bool.false_and, reduceCtorEq, ne_eq, not_false_eq_true, implies_true, Bool.true_or, Bool.false_or, Bool.or_true, Bool.or_false, Nat.reduceAdd, Nat.reduceLeDiff, Nat.reduceSub, hT ys.length l6, biT_all, boolsT_map', all_id']
    cases ha : (y :: r).all (fun x => tn x ys.length) with
    | false => simp only [PL.ev_con, PL.ev_loc, PL.ev_dk0, PL.ev_dk1, PL.ev_lst, PL.ev_tup, PL.ev_bin, PL.ev_neg, PL.ev_cmp, PL.ev_chn, PL.ev_and, PL.ev_or, PL.ev_tand, PL.ev_tor, PL.ev_not, PL.ev_ite, PL.ev_isn, PL.ev_isb, PL.ev_isi, PL.ev_call, PL.ev_call1, PL.ev_bi, PL.ev_app, PL.ev_ext, PL.ev_pop, PL.ev_popA, PL.ev_idx, PL.ev_ixof, PL.ev_slc, PL.ev_rev, PV.evO, PV.evOs, PV.evP, PV.evPs, PV.evF, PV.evB, PV.evS, PL.r_ok_bind, PL.r_bad_bind, PL.rs_of_ok, PL.exs_nil, PL.exs_ex, PL.exs_retl, PL.exs_ret, PL.exs_asg, PL.exs_unp, PL.exs_par, PL.exs_set, PL.exs_aug, PL.exs_ite, PL.nxt_nx, PL.nxt_rt, PL.nxt_bk, PL.nxt_ct, PV.res, PV.ress, PV.frz, PV.frzs, PV.slotT, PV.ofA, PV.ofB, PV.ofT, PV.ofA?, PV.store1, PV.callWith, PV.argsOf, PV.argOf, PV.mutsOf, PV.lentOf, PV.isOwn, PV.putBack, PV.appC, PV.extC, PV.popC, PV.popAC, PV.setIx, PV.truth, PV.storeAll, PL.big_le_0, PL.big_le_1, PL.big_le_2, PL.big_le_3, PL.big_le_4, PL.big_le_5, PL.big_le_6, PL.big_le_7, PL.big_le_8, PL.big_le_9, PL.big_le_10, PL.big_le_11, PL.big_le_12, PL.big_le_13, PV.unpT, PV.compTurn, PV.bindTo, PV.setAll, PV.wipeE, PV.backE, PV.forTurn, PV.tupT, PV.startE, PV.slotOf, PV.endC, PV.mutsAt, PV.runF, List.getElem?_cons_zero, List.getElem?_cons_succ, List.getElem?_nil, Option.bind_some, Option.bind_none, Option.map_some, Option.map_none, List.set_cons_zero, List.set_cons_succ, List.isEmpty_nil, List.isEmpty_cons, if_true, if_false, List.replicate_succ, List.replicate_zero, List.length_cons, List.length_nil, Bool.not_true, Bool.not_false, Bool.and_true, Bool.and_false, Bool.true_and, Bool.false_and, reduceCtorEq, ne_eq, not_false_eq_true, implies_true, Bool.true_or, Bool.false_or, Bool.or_true, Bool.or_false, Nat.reduceAdd, Nat.reduceLeDiff, Nat.reduceSub]
    | true =>
      obtain ⟨_, ρ, q⟩ := rest5_ok d ys.length hv l8 l6 ha
      simp only [PL.ev_con, PL.ev_loc, PL.ev_dk0, PL.ev_dk1, PL.ev_lst, PL.ev_tup, PL.ev_bin, PL.ev_neg, PL.ev_cmp, PL.ev_chn, PL.ev_and, PL.ev_or, PL.ev_tand, PL.ev_tor, PL.ev_not, PL.ev_ite, PL.ev_isn, PL.ev_isb, PL.ev_isi, PL.ev_call, PL.ev_call1, PL.ev_bi, PL.ev_app, PL.ev_ext, PL.ev_pop, PL.ev_popA, PL.ev_idx, PL.ev_ixof, PL.ev_slc, PL.ev_rev, PV.evO, PV.evOs, PV.evP, PV.evPs, PV.evF, PV.evB, PV.evS, PL.r_ok_bind, PL.r_bad_bind, PL.rs_of_ok, PL.exs_nil, PL.exs_ex, PL.exs_retl, PL.exs_ret, PL.exs_asg, PL.exs_unp, PL.exs_par, PL.exs_set, PL.exs_aug, PL.exs_ite, PL.nxt_nx, PL.nxt_rt, PL.nxt_bk, PL.nxt_ct, PV.res, PV.ress, PV.frz, PV.frzs, PV.slotT, PV.ofA, PV.ofB, PV.ofT, PV.ofA?, PV.store1, PV.callWith, PV.argsOf, PV.argOf, PV.mutsOf, PV.lentOf, PV.isOwn, PV.putBack, PV.appC, PV.extC, PV.popC, PV.popAC, PV.setIx, PV.truth, PV.storeAll, PL.big_le_0, PL.big_le_1, PL.big_le_2, PL.big_le_3, PL.big_le_4, PL.big_le_5, PL.big_le_6, PL.big_le_7, PL.big_le_8, PL.big_le_9, PL.big_le_10, PL.big_le_11, PL.big_le_12, PL.big_le_13, PV.unpT, PV.compTurn, PV.bindTo, PV.setAll, PV.wipeE, PV.backE, PV.forTurn, PV.tupT, PV.startE, PV.slotOf, PV.endC, PV.mutsAt, PV.runF, List.getElem?_cons_zero, List.getElem?_cons_succ, List.getElem?_nil, Option.bind_some, Option.bind_none, Option.map_some, Option.map_none, List.set_cons_zero, List.set_cons_succ, List.isEmpty_nil, List.isEmpty_cons, if_true, if_false, List.replicate_succ, List.replicate_zero, List.length_cons, List.length_nil, Bool.not_true, Bool.not_false, Bool.and_true, Bool.and_false, Bool.true_and, Bool.false_and, reduceCtorEq, ne_eq, not_false_eq_true, implies_true, Bool.true_or, Bool.false_or, Bool.or_true, Bool.or_false, Nat.reduceAdd, Nat.reduceLeDiff, Nat.reduceSub, q, Option.getD_some]
      cases okS ((y :: r).map turnI) <;> rfl
end K89

set_option Elab.async false
set_option linter.all false
set_option maxRecDepth 1000000
set_option maxHeartbeats 8000000
namespace K89
open PV PySem PL
theorem f6 (d : Nat) {v : T} (h : okT 60 v = true) : Fo (d + 5) 6 [.t v] = .ok (.t (.bl (isG v))) [] := by
  have e : Fo (d + 5) 6 [.t v] = runF pg (Fo (d + 4)) 1000 60 ⟨1, [.val], c6⟩ [.t v] := rfl
  rw [e]
  unfold c6
  simp only [PL.ev_con, PL.ev_loc, PL.ev_dk0, PL.ev_dk1, PL.ev_lst, PL.ev_tup, PL.ev_bin, PL.ev_neg, PL.ev_cmp, PL.ev_chn, PL.ev_and, PL.ev_or, PL.ev_tand, PL.ev_tor, PL.ev_not, PL.ev_ite, PL.ev_isn, PL.ev_isb, PL.ev_isi, PL.ev_call, PL.ev_call1, PL.ev_bi, PL.ev_app, PL.ev_ext, PL.ev_pop, PL.ev_popA, PL.ev_idx, PL.ev_ixof, PL.ev_slc, PL.ev_rev, PV.evO, PV.evOs, PV.evP, PV.evPs, PV.evF, PV.evB, PV.evS, PL.r_ok_bind, PL.r_bad_bind, PL.rs_of_ok, PL.exs_nil, PL.exs_ex, PL.exs_retl, PL.exs_ret, PL.exs_asg, PL.exs_unp, PL.exs_par, PL.exs_set, PL.exs_aug, PL.exs_ite, PL.nxt_nx, PL.nxt_rt, PL.nxt_bk, PL.nxt_ct, PV.res, PV.ress, PV.frz, PV.frzs, PV.slotT, PV.ofA, PV.ofB, PV.ofT, PV.ofA?, PV.store1, PV.callWith, PV.argsOf, PV.argOf, PV.mutsOf, PV.lentOf, PV.isOwn, PV.putBack, PV.appC, PV.extC, PV.popC, PV.popAC, PV.setIx, PV.truth, PV.storeAll, PL.big_le_0, PL.big_le_1, PL.big_le_2, PL.big_le_3, PL.big_le_4, PL.big_le_5, PL.big_le_6, PL.big_le_7, PL.big_le_8, PL.big_le_9, PL.big_le_10, PL.big_le_11, PL.big_le_12, PL.big_le_13, PV.unpT, PV.compTurn, PV.bindTo, PV.setAll, PV.wipeE, PV.backE, PV.forTurn, PV.tupT, PV.startE, PV.slotOf, PV.endC, PV.mutsAt, PV.runF, List.getElem?_cons_zero, List.getElem?_cons_succ, List.getElem?_nil, Option.bind_some, Option.bind_none, Option.map_some, Option.map_none, List.set_cons_zero, List.set_cons_succ, List.isEmpty_nil, List.isEmpty_cons, if_true, if_false, List.replicate_succ, List.replicate_zero, List.length_cons, List.length_nil, Bool.not_true, Bool.not_false, Bool.and_true, Bool.and_false, Bool.true_and, Bool.false_and, reduceCtorEq, ne_eq, not_false_eq_true, implies_true, Bool.true_or, Bool.false_or, Bool.or_true, Bool.or_false, Nat.reduceAdd, Nat.reduceLeDiff, Nat.reduceSub, f5 d h, p5]
  unfold gT
  cases isG v <;> rfl
theorem okT_up {n : Nat} {x : T} (h : okT n x = true) : ∀ k, okT (n + k) x = true
  | 0 => h
  | k + 1 => okT_mono (okT_up h k)
theorem ints_isI {xs : List T} (h : xs.all isI = true) : ∃ is : List Int, xs = is.map T.int := by
  induction xs with
  | nil => exact ⟨[], rfl⟩
  | cons x xs ih =>
    rw [List.all_cons, Bool.and_eq_true] at h
    obtain ⟨is, e⟩ := ih h.2
    cases x with
    | int i => exact ⟨i :: is, by rw [e]; rfl⟩
    | _ => cases h.1
theorem isI_ints : ∀ is : List Int, (is.map T.int).all isI = true
  | [] => rfl
  | _ :: is => isI_ints is
def badI (x : T) : Option T := match isI x with
  | true => none
  | false => some x
theorem badI_nil : ∀ xs : List T, xs.all isI = (xs.filterMap badI).isEmpty
  | [] => rfl
  | x :: xs => by
    rw [List.all_cons, List.filterMap_cons, badI_nil xs]
    unfold badI
    cases isI x <;> rfl
theorem eqTs_nil (xs : List T) : eqTs xs [] = xs.isEmpty := by cases xs <;> rfl
theorem cmp_nil {xs : List T} (h : ∀ x ∈ xs, okT 63 x = true) : cmpT .ne (.lst xs) (.lst []) = some (!xs.isEmpty) := by
  show (if okT 64 (.lst xs) && okT 64 (.lst []) then some (!eqTs xs []) else none) = _
  rw [show okT 64 (.lst xs) = true from List.all_eq_true.mpr h, eqTs_nil]
  rfl
theorem isi_seq {v : T} (h : dat v = true) : isiT v [.list, .tuple] = some (seq? v) := by cases v <;> first | rfl | cases h
theorem bad_isi {x : T} (h : dat x = true) : isiT x [.int] = some (match x with | .int _ => true | .bl _ => true | _ => false) ∧ isiT x [.bool] = some (match x with | .bl _ => true | _ => false) := by
  cases x <;> first | exact ⟨rfl, rfl⟩ | cases h
theorem iv_loc' {F : Orc} {n : Nat} {v : T} {xs : List T} {r : Rho} (h : v = .lst xs ∨ v = .tup xs) : evIv (ev pg F 1000 (n + 1)) 0 [.loc 0] (.v v :: r) = .ok (.sq (isL v) (.d 0)) (.v v :: r) := iv_loc h
theorem ne_len (a n : Nat) : cmpT .ne (.int a) (.int n) = some (!decide ((a : Int) = n)) := rfl
theorem f16 (d n : Nat) {v : T} (h : okT 59 v = true) (hn : n < 64) : Fo (d + 1) 16 [.t v, .t (.int n)] = .ok (.t (.bl (tn v n))) [] := by
  have e : Fo (d + 1) 16 [.t v, .t (.int n)] = runF pg (Fo d) 1000 60 ⟨4, [.val, .val], c16⟩ [.t v, .t (.int n)] := rfl
  rw [e]
  unfold c16
  simp only [PL.ev_con, PL.ev_loc, PL.ev_dk0, PL.ev_dk1, PL.ev_lst, PL.ev_tup, PL.ev_bin, PL.ev_neg, PL.ev_cmp, PL.ev_chn, PL.ev_and, PL.ev_or, PL.ev_tand, PL.ev_tor, PL.ev_not, PL.ev_ite, PL.ev_isn, PL.ev_isb, PL.ev_isi, PL.ev_call, PL.ev_call1, PL.ev_bi, PL.ev_app, PL.ev_ext, PL.ev_pop, PL.ev_popA, PL.ev_idx, PL.ev_ixof, PL.ev_slc, PL.ev_rev, PV.evO, PV.evOs, PV.evP, PV.evPs, PV.evF, PV.evB, PV.evS, PL.r_ok_bind, PL.r_bad_bind, PL.rs_of_ok, PL.exs_nil, PL.exs_ex, PL.exs_retl, PL.exs_ret, PL.exs_asg, PL.exs_unp, PL.exs_par, PL.exs_set, PL.exs_aug, PL.exs_ite, PL.nxt_nx, PL.nxt_rt, PL.nxt_bk, PL.nxt_ct, PV.res, PV.ress, PV.frz, PV.frzs, PV.slotT, PV.ofA, PV.ofB, PV.ofT, PV.ofA?, PV.store1, PV.callWith, PV.argsOf, PV.argOf, PV.mutsOf, PV.lentOf, PV.isOwn, PV.putBack, PV.appC, PV.extC, PV.popC, PV.popAC, PV.setIx, PV.truth, PV.storeAll, PL.big_le_0, PL.big_le_1, PL.big_le_2, PL.big_le_3, PL.big_le_4, PL.big_le_5, PL.big_le_6, PL.big_le_7, PL.big_le_8, PL.big_le_9, PL.big_le_10, PL.big_le_11, PL.big_le_12, PL.big_le_13, PV.unpT, PV.compTurn, PV.bindTo, PV.setAll, PV.wipeE, PV.backE, PV.forTurn, PV.tupT, PV.startE, PV.slotOf, PV.endC, PV.mutsAt, PV.runF, List.getElem?_cons_zero, List.getElem?_cons_succ, List.getElem?_nil, Option.bind_some, Option.bind_none, Option.map_some, Option.map_none, List.set_cons_zero, List.set_cons_succ, List.isEmpty_nil, List.isEmpty_cons, if_true, if_false, List.replicate_succ, List.replicate_zero, List.length_cons, List.length_nil, Bool.not_true, Bool.not_false, Bool.and_true, Bool.and_false, Bool.true_and, Bool.false_and, reduceCtorEq, ne_eq, not_false_eq_true, implies_true, Bool.true_or, Bool.false_or, Bool.or_true, Bool.or_false, Nat.reduceAdd, Nat.reduceLeDiff, Nat.reduceSub, isi_seq (okT_dat h)]
  cases hs : seq? v with
  | false =>
    have : tn v n = false := by
      unfold tn
      cases q : itemsT v with
      | none => rfl
      | some _ => unfold seq? at hs; rw [q] at hs; cases hs
    simp only [PL.ev_con, PL.ev_loc, PL.ev_dk0, PL.ev_dk1, PL.ev_lst, PL.ev_tup, PL.ev_bin, PL.ev_neg, PL.ev_cmp, PL.ev_chn, PL.ev_and, PL.ev_or, PL.ev_tand, PL.ev_tor, PL.ev_not, PL.ev_ite, PL.ev_isn, PL.ev_isb, PL.ev_isi, PL.ev_call, PL.ev_call1, PL.ev_bi, PL.ev_app, PL.ev_ext, PL.ev_pop, PL.ev_popA, PL.ev_idx, PL.ev_ixof, PL.ev_slc, PL.ev_rev, PV.evO, PV.evOs, PV.evP, PV.evPs, PV.evF, PV.evB, PV.evS, PL.r_ok_bind, PL.r_bad_bind, PL.rs_of_ok, PL.exs_nil, PL.exs_ex, PL.exs_retl, PL.exs_ret, PL.exs_asg, PL.exs_unp, PL.exs_par, PL.exs_set, PL.exs_aug, PL.exs_ite, PL.nxt_nx, PL.nxt_rt, PL.nxt_bk, PL.nxt_ct, PV.res, PV.ress, PV.frz, PV.frzs, PV.slotT, PV.ofA, PV.ofB, PV.ofT, PV.ofA?, PV.store1, PV.callWith, PV.argsOf, PV.argOf, PV.mutsOf, PV.lentOf, PV.isOwn, PV.putBack, PV.appC, PV.extC, PV.popC, PV.popAC, PV.setIx, PV.truth, PV.storeAll, PL.big_le_0, PL.big_le_1, PL.big_le_2, PL.big_le_3, PL.big_le_4, PL.big_le_5, PL.big_le_6, PL.big_le_7, PL.big_le_8, PL.big_le_9, PL.big_le_10, PL.big_le_11, PL.big_le_12, PL.big_le_13, PV.unpT, PV.compTurn, PV.bindTo, PV.setAll, PV.wipeE, PV.backE, PV.forTurn, PV.tupT, PV.startE, PV.slotOf, PV.endC, PV.mutsAt, PV.runF, List.getElem?_cons_zero, List.getElem?_cons_succ, List.getElem?_nil, Option.bind_some, Option.bind_none, Option.map_some, Option.map_none, List.set_cons_zero, List.set_cons_succ, List.isEmpty_nil, List.isEmpty_cons, if_true, if_false, List.replicate_succ, List.replicate_zero, List.length_cons, List.length_nil, Bool.not_true, Bool.not_false, Bool.and_true, Bool.and_false, Bool.true_and, Bool.false_and, reduceCtorEq, ne_eq, not_false_eq_true, implies_true, Bool.true_or, Bool.false_or, Bool.or_true, Bool.or_false, Nat.reduceAdd, Nat.reduceLeDiff, Nat.reduceSub, this]
  | true =>
    obtain ⟨xs, hx, hv⟩ := seqItems hs
    simp only [PL.ev_con, PL.ev_loc, PL.ev_dk0, PL.ev_dk1, PL.ev_lst, PL.ev_tup, PL.ev_bin, PL.ev_neg, PL.ev_cmp, PL.ev_chn, PL.ev_and, PL.ev_or, PL.ev_tand, PL.ev_tor, PL.ev_not, PL.ev_ite, PL.ev_isn, PL.ev_isb, PL.ev_isi, PL.ev_call, PL.ev_call1, PL.ev_bi, PL.ev_app, PL.ev_ext, PL.ev_pop, PL.ev_popA, PL.ev_idx, PL.ev_ixof, PL.ev_slc, PL.ev_rev, PV.evO, PV.evOs, PV.evP, PV.evPs, PV.evF, PV.evB, PV.evS, PL.r_ok_bind, PL.r_bad_bind, PL.rs_of_ok, PL.exs_nil, PL.exs_ex, PL.exs_retl, PL.exs_ret, PL.exs_asg, PL.exs_unp, PL.exs_par, PL.exs_set, PL.exs_aug, PL.exs_ite, PL.nxt_nx, PL.nxt_rt, PL.nxt_bk, PL.nxt_ct, PV.res, PV.ress, PV.frz, PV.frzs, PV.slotT, PV.ofA, PV.ofB, PV.ofT, PV.ofA?, PV.store1, PV.callWith, PV.argsOf, PV.argOf, PV.mutsOf, PV.lentOf, PV.isOwn, PV.putBack, PV.appC, PV.extC, PV.popC, PV.popAC, PV.setIx, PV.truth, PV.storeAll, PL.big_le_0, PL.big_le_1, PL.big_le_2, PL.big_le_3, PL.big_le_4, PL.big_le_5, PL.big_le_6, PL.big_le_7, PL.big_le_8, PL.big_le_9, PL.big_le_10, PL.big_le_11, PL.big_le_12, PL.big_le_13, PV.unpT, PV.compTurn, PV.bindTo, PV.setAll, PV.wipeE, PV.backE, PV.forTurn, PV.tupT, PV.startE, PV.slotOf, PV.endC, PV.mutsAt, PV.runF, List.getElem?_cons_zero, List.getElem?_cons_succ, List.getElem?_nil, Option.bind_some, Option.bind_none, Option.map_some, Option.map_none, List.set_cons_zero, List.set_cons_succ, List.isEmpty_nil, List.isEmpty_cons, if_true, if_false, List.replicate_succ, List.replicate_zero, List.length_cons, List.length_nil, Bool.not_true, Bool.not_false, Bool.and_true, Bool.and_false, Bool.true_and, Bool.false_and, reduceCtorEq, ne_eq, not_false_eq_true, implies_true, Bool.true_or, Bool.false_or, Bool.or_true, Bool.or_false, Nat.reduceAdd, Nat.reduceLeDiff, Nat.reduceSub, len_of hv, ne_len]
    by_cases hl : xs.length = n
    · have hl' : decide ((xs.length : Int) = n) = true := by rw [hl]; simp
      have hc : ∀ m, ev pg (Fo d) 1000 (m + 8) (.comp [2, 3] [3] false 0 [.loc 0] (some (((Ex.loc 3).isi [Ty.int]).not_.tor ((Ex.loc 3).isi [Ty.bool]))) (.loc 3)) [.v v, .v (.int n), .u, .u] = .ok (.f (xs.filterMap badI)) [.v v, .v (.int n), .u, .u] := fun m => by
        rw [ev_comp_ok (iv_loc hv) (xs := xs) (g := badI) rfl (fun i => by rcases hv with rfl | rfl <;> rfl) (fun x hx' => ?_) (by omega) (by unfold big; omega)]
        · rfl
        · obtain ⟨b1, b2⟩ := bad_isi (okT_dat (okT_items h hx x hx'))
          simp only [PL.ev_con, PL.ev_loc, PL.ev_dk0, PL.ev_dk1, PL.ev_lst, PL.ev_tup, PL.ev_bin, PL.ev_neg, PL.ev_cmp, PL.ev_chn, PL.ev_and, PL.ev_or, PL.ev_tand, PL.ev_tor, PL.ev_not, PL.ev_ite, PL.ev_isn, PL.ev_isb, PL.ev_isi, PL.ev_call, PL.ev_call1, PL.ev_bi, PL.ev_app, PL.ev_ext, PL.ev_pop, PL.ev_popA, PL.ev_idx, PL.ev_ixof, PL.ev_slc, PL.ev_rev, PV.evO, PV.evOs, PV.evP, PV.evPs, PV.evF, PV.evB, PV.evS, PL.r_ok_bind, PL.r_bad_bind, PL.rs_of_ok, PL.exs_nil, PL.exs_ex, PL.exs_retl, PL.exs_ret, PL.exs_asg, PL.exs_unp, PL.exs_par, PL.exs_set, PL.exs_aug, PL.exs_ite, PL.nxt_nx, PL.nxt_rt, PL.nxt_bk, PL.nxt_ct, PV.res, PV.ress, PV.frz, PV.frzs, PV.slotT, PV.ofA, PV.ofB, PV.ofT, PV.ofA?, PV.store1, PV.callWith, PV.argsOf, PV.argOf, PV.mutsOf, PV.lentOf, PV.isOwn, PV.putBack, PV.appC, PV.extC, PV.popC, PV.popAC, PV.setIx, PV.truth, PV.storeAll, PL.big_le_0, PL.big_le_1, PL.big_le_2, PL.big_le_3, PL.big_le_4, PL.big_le_5, PL.big_le_6, PL.big_le_7, PL.big_le_8, PL.big_le_9, PL.big_le_10, PL.big_le_11, PL.big_le_12, PL.big_le_13, PV.unpT, PV.compTurn, PV.bindTo, PV.setAll, PV.wipeE, PV.backE, PV.forTurn, PV.tupT, PV.startE, PV.slotOf, PV.endC, PV.mutsAt, PV.runF, List.getElem?_cons_zero, List.getElem?_cons_succ, List.getElem?_nil, Option.bind_some, Option.bind_none, Option.map_some, Option.map_none, List.set_cons_zero, List.set_cons_succ, List.isEmpty_nil, List.isEmpty_cons, if_true, if_false, List.replicate_succ, List.replicate_zero, List.length_cons, List.length_nil, Bool.not_true, Bool.not_false, Bool.and_true, Bool.and_false, Bool.true_and, Bool.false_and, reduceCtorEq, ne_eq, not_false_eq_true, implies_true, Bool.true_or, Bool.false_or, Bool.or_true, Bool.or_false, Nat.reduceAdd, Nat.reduceLeDiff, Nat.reduceSub, b1, b2]
          cases x <;> rfl
      have hbad : ∀ x ∈ xs.filterMap badI, okT 63 x = true := fun x hx' => by
        obtain ⟨y, hy, hy2⟩ := List.mem_filterMap.mp hx'
        unfold badI at hy2
        split at hy2
        · cases hy2
        · cases hy2
          exact okT_up (okT_items h hx _ hy) 5
      simp only [hl', PL.ev_con, PL.ev_loc, PL.ev_dk0, PL.ev_dk1, PL.ev_lst, PL.ev_tup, PL.ev_bin, PL.ev_neg, PL.ev_cmp, PL.ev_chn, PL.ev_and, PL.ev_or, PL.ev_tand, PL.ev_tor, PL.ev_not, PL.ev_ite, PL.ev_isn, PL.ev_isb, PL.ev_isi, PL.ev_call, PL.ev_call1, PL.ev_bi, PL.ev_app, PL.ev_ext, PL.ev_pop, PL.ev_popA, PL.ev_idx, PL.ev_ixof, PL.ev_slc, PL.ev_rev, PV.evO, PV.evOs, PV.evP, PV.evPs, PV.evF, PV.evB, PV.evS, PL.r_ok_bind, PL.r_bad_bind, PL.rs_of_ok, PL.exs_nil, PL.exs_ex, PL.exs_retl, PL.exs_ret, PL.exs_asg, PL.exs_unp, PL.exs_par, PL.exs_set, PL.exs_aug, PL.exs_ite, PL.nxt_nx, PL.nxt_rt, PL.nxt_bk, PL.nxt_ct, PV.res, PV.ress, PV.frz, PV.frzs, PV.slotT, PV.ofA, PV.ofB, PV.ofT, PV.ofA?, PV.store1, PV.callWith, PV.argsOf, PV.argOf, PV.mutsOf, PV.lentOf, PV.isOwn, PV.putBack, PV.appC, PV.extC, PV.popC, PV.popAC, PV.setIx, PV.truth, PV.storeAll, PL.big_le_0, PL.big_le_1, PL.big_le_2, PL.big_le_3, PL.big_le_4, PL.big_le_5, PL.big_le_6, PL.big_le_7, PL.big_le_8, PL.big_le_9, PL.big_le_10, PL.big_le_11, PL.big_le_12, PL.big_le_13, PV.unpT, PV.compTurn, PV.bindTo, PV.setAll, PV.wipeE, PV.backE, PV.forTurn, PV.tupT, PV.startE, PV.slotOf, PV.endC, PV.mutsAt, PV.runF, List.getElem?_cons_zero, List.getElem?_cons_succ, List.getElem?_nil, Option.bind_some, Option.bind_none, Option.map_some, Option.map_none, List.set_cons_zero, List.set_cons_succ, List.isEmpty_nil, List.isEmpty_cons, if_true, if_false, List.replicate_succ, List.replicate_zero, List.length_cons, List.length_nil, Bool.not_true, Bool.not_false, Bool.and_true, Bool.and_false, Bool.true_and, Bool.false_and, reduceCtorEq, ne_eq, not_false_eq_true, implies_true, Bool.true_or, Bool.false_or, Bool.or_true, Bool.or_false, Nat.reduceAdd, Nat.reduceLeDiff, Nat.reduceSub, hc, cmp_nil hbad, ← badI_nil]
      unfold tn
      rw [hx, Option.bind_some]
      cases ha : xs.all isI with
      | false =>
        have : intsT xs = none := by
          cases q : intsT xs with
          | none => rfl
          | some is => rw [intsT_some q, isI_ints] at ha; cases ha
        simp only [PL.ev_con, PL.ev_loc, PL.ev_dk0, PL.ev_dk1, PL.ev_lst, PL.ev_tup, PL.ev_bin, PL.ev_neg, PL.ev_cmp, PL.ev_chn, PL.ev_and, PL.ev_or, PL.ev_tand, PL.ev_tor, PL.ev_not, PL.ev_ite, PL.ev_isn, PL.ev_isb, PL.ev_isi, PL.ev_call, PL.ev_call1, PL.ev_bi, PL.ev_app, PL.ev_ext, PL.ev_pop, PL.ev_popA, PL.ev_idx, PL.ev_ixof, PL.ev_slc, PL.ev_rev, PV.evO, PV.evOs, PV.evP, PV.evPs, PV.evF, PV.evB, PV.evS, PL.r_ok_bind, PL.r_bad_bind, PL.rs_of_ok, PL.exs_nil, PL.exs_ex, PL.exs_retl, PL.exs_ret, PL.exs_asg, PL.exs_unp, PL.exs_par, PL.exs_set, PL.exs_aug, PL.exs_ite, PL.nxt_nx, PL.nxt_rt, PL.nxt_bk, PL.nxt_ct, PV.res, PV.ress, PV.frz, PV.frzs, PV.slotT, PV.ofA, PV.ofB, PV.ofT, PV.ofA?, PV.store1, PV.callWith, PV.argsOf, PV.argOf, PV.mutsOf, PV.lentOf, PV.isOwn, PV.putBack, PV.appC, PV.extC, PV.popC, PV.popAC, PV.setIx, PV.truth, PV.storeAll, PL.big_le_0, PL.big_le_1, PL.big_le_2, PL.big_le_3, PL.big_le_4, PL.big_le_5, PL.big_le_6, PL.big_le_7, PL.big_le_8, PL.big_le_9, PL.big_le_10, PL.big_le_11, PL.big_le_12, PL.big_le_13, PV.unpT, PV.compTurn, PV.bindTo, PV.setAll, PV.wipeE, PV.backE, PV.forTurn, PV.tupT, PV.startE, PV.slotOf, PV.endC, PV.mutsAt, PV.runF, List.getElem?_cons_zero, List.getElem?_cons_succ, List.getElem?_nil, Option.bind_some, Option.bind_none, Option.map_some, Option.map_none, List.set_cons_zero, List.set_cons_succ, List.isEmpty_nil, List.isEmpty_cons, if_true, if_false, List.replicate_succ, List.replicate_zero, List.length_cons, List.length_nil, Bool.not_true, Bool.not_false, Bool.and_true, Bool.and_false, Bool.true_and, Bool.false_and, reduceCtorEq, ne_eq, not_false_eq_true, implies_true, Bool.true_or, Bool.false_or, Bool.or_true, Bool.or_false, Nat.reduceAdd, Nat.reduceLeDiff, Nat.reduceSub, this]
      | true =>
        obtain ⟨is, ex⟩ := ints_isI ha
        subst ex
        have hsort : biT .sorted [v] = some (.f ((sortI is).map T.int)) := by
          show ((itemsT v).bind intsT).bind (fun is => if is.length < 64 then some (A.f ((sortI is).map .int)) else none) = _
          rw [hx, Option.bind_some, intsT_map, Option.bind_some, if_pos (by rw [List.length_map] at hl; omega)]
        simp only [PL.ev_con, PL.ev_loc, PL.ev_dk0, PL.ev_dk1, PL.ev_lst, PL.ev_tup, PL.ev_bin, PL.ev_neg, PL.ev_cmp, PL.ev_chn, PL.ev_and, PL.ev_or, PL.ev_tand, PL.ev_tor, PL.ev_not, PL.ev_ite, PL.ev_isn, PL.ev_isb, PL.ev_isi, PL.ev_call, PL.ev_call1, PL.ev_bi, PL.ev_app, PL.ev_ext, PL.ev_pop, PL.ev_popA, PL.ev_idx, PL.ev_ixof, PL.ev_slc, PL.ev_rev, PV.evO, PV.evOs, PV.evP, PV.evPs, PV.evF, PV.evB, PV.evS, PL.r_ok_bind, PL.r_bad_bind, PL.rs_of_ok, PL.exs_nil, PL.exs_ex, PL.exs_retl, PL.exs_ret, PL.exs_asg, PL.exs_unp, PL.exs_par, PL.exs_set, PL.exs_aug, PL.exs_ite, PL.nxt_nx, PL.nxt_rt, PL.nxt_bk, PL.nxt_ct, PV.res, PV.ress, PV.frz, PV.frzs, PV.slotT, PV.ofA, PV.ofB, PV.ofT, PV.ofA?, PV.store1, PV.callWith, PV.argsOf, PV.argOf, PV.mutsOf, PV.lentOf, PV.isOwn, PV.putBack, PV.appC, PV.extC, PV.popC, PV.popAC, PV.setIx, PV.truth, PV.storeAll, PL.big_le_0, PL.big_le_1, PL.big_le_2, PL.big_le_3, PL.big_le_4, PL.big_le_5, PL.big_le_6, PL.big_le_7, PL.big_le_8, PL.big_le_9, PL.big_le_10, PL.big_le_11, PL.big_le_12, PL.big_le_13, PV.unpT, PV.compTurn, PV.bindTo, PV.setAll, PV.wipeE, PV.backE, PV.forTurn, PV.tupT, PV.startE, PV.slotOf, PV.endC, PV.mutsAt, PV.runF, List.getElem?_cons_zero, List.getElem?_cons_succ, List.getElem?_nil, Option.bind_some, Option.bind_none, Option.map_some, Option.map_none, List.set_cons_zero, List.set_cons_succ, List.isEmpty_nil, List.isEmpty_cons, if_true, if_false, List.replicate_succ, List.replicate_zero, List.length_cons, List.length_nil, Bool.not_true, Bool.not_false, Bool.and_true, Bool.and_false, Bool.true_and, Bool.false_and, reduceCtorEq, ne_eq, not_false_eq_true, implies_true, Bool.true_or, Bool.false_or, Bool.or_true, Bool.or_false, Nat.reduceAdd, Nat.reduceLeDiff, Nat.reduceSub, hsort, lrange_ok hn, cmp_ints, intsT_map]
    · have hl' : decide ((xs.length : Int) = n) = false := decide_eq_false (by omega)
      have ht : tn v n = false := by
        rw [tn_steps hx, decide_eq_false hl]; rfl
      simp only [hl', PL.ev_con, PL.ev_loc, PL.ev_dk0, PL.ev_dk1, PL.ev_lst, PL.ev_tup, PL.ev_bin, PL.ev_neg, PL.ev_cmp, PL.ev_chn, PL.ev_and, PL.ev_or, PL.ev_tand, PL.ev_tor, PL.ev_not, PL.ev_ite, PL.ev_isn, PL.ev_isb, PL.ev_isi, PL.ev_call, PL.ev_call1, PL.ev_bi, PL.ev_app, PL.ev_ext, PL.ev_pop, PL.ev_popA, PL.ev_idx, PL.ev_ixof, PL.ev_slc, PL.ev_rev, PV.evO, PV.evOs, PV.evP, PV.evPs, PV.evF, PV.evB, PV.evS, PL.r_ok_bind, PL.r_bad_bind, PL.rs_of_ok, PL.exs_nil, PL.exs_ex, PL.exs_retl, PL.exs_ret, PL.exs_asg, PL.exs_unp, PL.exs_par, PL.exs_set, PL.exs_aug, PL.exs_ite, PL.nxt_nx, PL.nxt_rt, PL.nxt_bk, PL.nxt_ct, PV.res, PV.ress, PV.frz, PV.frzs, PV.slotT, PV.ofA, PV.ofB, PV.ofT, PV.ofA?, PV.store1, PV.callWith, PV.argsOf, PV.argOf, PV.mutsOf, PV.lentOf, PV.isOwn, PV.putBack, PV.appC, PV.extC, PV.popC, PV.popAC, PV.setIx, PV.truth, PV.storeAll, PL.big_le_0, PL.big_le_1, PL.big_le_2, PL.big_le_3, PL.big_le_4, PL.big_le_5, PL.big_le_6, PL.big_le_7, PL.big_le_8, PL.big_le_9, PL.big_le_10, PL.big_le_11, PL.big_le_12, PL.big_le_13, PV.unpT, PV.compTurn, PV.bindTo, PV.setAll, PV.wipeE, PV.backE, PV.forTurn, PV.tupT, PV.startE, PV.slotOf, PV.endC, PV.mutsAt, PV.runF, List.getElem?_cons_zero, List.getElem?_cons_succ, List.getElem?_nil, Option.bind_some, Option.bind_none, Option.map_some, Option.map_none, List.set_cons_zero, List.set_cons_succ, List.isEmpty_nil, List.isEmpty_cons, if_true, if_false, List.replicate_succ, List.replicate_zero, List.length_cons, List.length_nil, Bool.not_true, Bool.not_false, Bool.and_true, Bool.and_false, Bool.true_and, Bool.false_and, reduceCtorEq, ne_eq, not_false_eq_true, implies_true, Bool.true_or, Bool.false_or, Bool.or_true, Bool.or_false, Nat.reduceAdd, Nat.reduceLeDiff, Nat.reduceSub, ht]
end K89

set_option Elab.async false
set_option linter.all false
set_option maxRecDepth 1000000
set_option maxHeartbeats 8000000
namespace K89
open PV PySem PL
theorem eqT_tupI (a b : List Int) : eqT (tupI a) (tupI b) = decide (a = b) := eqTs_ints a b
theorem anyEq_tupI (c : List Int) : ∀ l : List (List Int), anyEq (tupI c) (l.map tupI) = decide (c ∈ l)
  | [] => rfl
  | a :: l => by
    show (eqT (tupI a) (tupI c) || anyEq (tupI c) (l.map tupI)) = _
    rw [anyEq_tupI c l, eqT_tupI, Bool.eq_iff_iff, Bool.or_eq_true, decide_eq_true_iff, decide_eq_true_iff, decide_eq_true_iff, List.mem_cons]
    constructor
    · rintro (h | h)
      · exact .inl h.symm
      · exact .inr h
    · rintro (h | h)
      · exact .inl h.symm
      · exact .inr h
theorem okT_tupI (m : Nat) (a : List Int) : okT (m + 1) (tupI a) = true := by
  show (a.map T.int).all (okT m) = true
  rw [List.all_map, List.all_eq_true]
  intro x _
  cases m <;> rfl
theorem in_tss (c : List Int) (l : List (List Int)) : inT (tupI c) (.lst (l.map tupI)) = some (decide (c ∈ l)) := by
  show (if okT 63 (tupI c) && (l.map tupI).all (okT 63) then some (anyEq (tupI c) (l.map tupI)) else none) = _
  have : (l.map tupI).all (okT 63) = true := by
    rw [List.all_map, List.all_eq_true]
    exact fun x _ => okT_tupI 62 x
  rw [okT_tupI 62, this, anyEq_tupI]
  rfl
theorem cmp_in_tss (c : List Int) (l : List (List Int)) : cmpT .isin (tupI c) (.lst (l.map tupI)) = some (decide (c ∈ l)) := in_tss c l
/-- enumerate's items -/
def enumT (l : List T) : List T := l.mapIdx fun i x => .tup [.int (i : Nat), x]
theorem enumT_get (l : List T) (i : Nat) : (enumT l)[i]? = (l[i]?).map fun x => .tup [.int (i : Nat), x] := by unfold enumT; rw [List.getElem?_mapIdx]
theorem enumT_length (l : List T) : (enumT l).length = l.length := by unfold enumT; rw [List.length_mapIdx]
theorem nodup_take {α : Type} {l : List α} : l.Nodup ↔ ∀ (i : Nat) (x : α), l[i]? = some x → x ∉ l.take i := by
  constructor
  · intro h i x hi hx
    obtain ⟨j, hj⟩ := List.getElem?_of_mem hx
    rw [List.getElem?_take] at hj
    split at hj
    · rename_i hji
      have h2 := List.pairwise_iff_getElem.mp h
      have l1 := (List.getElem?_eq_some_iff.mp hi)
      have l2 := (List.getElem?_eq_some_iff.mp hj)
      obtain ⟨a1, a2⟩ := l1
      obtain ⟨b1, b2⟩ := l2
      exact h2 j i b1 a1 hji (by rw [a2, b2])
    · cases hj
  · intro h
    refine List.pairwise_iff_getElem.mpr fun i j hi hj hij e => ?_
    refine h j l[j] (List.getElem?_eq_getElem hj) ?_
    rw [← e]
    refine List.mem_of_getElem? (i := i) ?_
    rw [List.getElem?_take, if_pos hij, List.getElem?_eq_getElem hi]
/-- what the law's look at double ones gathers -/
def dbl (tss : List (List Int)) (x : T) : Option T := match x with
  | .tup [.int i, y] => if turnI y ∈ tss.take i.toNat then some (.int i) else none
  | _ => none
theorem dbl_nil (tss : List (List Int)) : ((enumT (tss.map tupI)).filterMap (dbl tss)).isEmpty = decide tss.Nodup := by
  rw [Bool.eq_iff_iff, decide_eq_true_iff, List.isEmpty_iff, List.filterMap_eq_nil_iff, nodup_take]
  have key : ∀ (i : Nat) (x : List Int), dbl tss (.tup [.int (i : Nat), tupI x]) = if x ∈ tss.take i then some (.int i) else none := fun i x => by
    show (if turnI (tupI x) ∈ tss.take (i : Int).toNat then some (T.int i) else none) = _
    rw [turnI_tupI, Int.toNat_natCast]
  constructor
  · intro h i x hi hx
    have m : T.tup [.int (i : Nat), tupI x] ∈ enumT (tss.map tupI) := List.mem_of_getElem? (i := i) (by rw [enumT_get, List.getElem?_map, hi]; rfl)
    have := h _ m
    rw [key, if_pos hx] at this
    cases this
  · intro h y hy
    obtain ⟨i, hi⟩ := List.getElem?_of_mem hy
    rw [enumT_get, List.getElem?_map] at hi
    obtain ⟨z, e1, e2⟩ := Option.map_eq_some_iff.mp hi
    obtain ⟨x, e3, e4⟩ := Option.map_eq_some_iff.mp e1
    subst e2 e4
    rw [key, if_neg (h i x e3)]
theorem sIx_nat (n d i : Nat) : sIx n d (some (i : Int)) = min i n := by
  unfold sIx
  dsimp only
  rw [if_neg (by omega), Int.toNat_natCast]
def rest17 : List Sm := c17.drop 3
theorem rest17_ok (d n : Nat) {v : T} {xs : List T} (hv : v = .lst xs ∨ v = .tup xs) (h8 : xs.length ≤ 8) (hn : n ≤ 6) (ht : xs.all (fun x => tn x n) = true) :
    ∃ ρ, exs pg (Fo (d + 1)) 1000 60 57 rest17 [.v v, .v (.int n), .u, .u, .u, .u, .u, .u] = .rt (.t (.bl (okS (xs.map turnI)))) ρ := by
  have htn : ∀ x ∈ xs, tn x n = true := fun x hx => List.all_eq_true.mp ht x hx
  generalize htss : xs.map turnI = tss
  have hT : ∀ t ∈ tss, IsT n t := fun t h => by
    rw [← htss] at h
    obtain ⟨x, hx, rfl⟩ := List.mem_map.mp h
    exact (tn_true (htn x hx)).2
  have hl : tss.length ≤ 8 := by rw [← htss, List.length_map]; exact h8
  have c1 : ∀ m, ev pg (Fo (d + 1)) 1000 (m + 5) (.comp [3, 4] [4] false 0 [.loc 0] none (.bi .tuple [.loc 4])) [.v v, .v (.int n), .u, .u, .u, .u, .u, .u] = .ok (.f (tss.map tupI)) [.v v, .v (.int n), .u, .u, .u, .u, .u, .u] := fun m => by
    rw [ev_comp_map (xs := xs) (fun x => tupI (turnI x)) (iv_loc hv) rfl (fun i => by rcases hv with rfl | rfl <;> rfl) (fun x hx => ?_) (by omega) (by unfold big; omega) rfl]
    · rw [← htss, List.map_map]; rfl
    · simp only [PL.ev_con, PL.ev_loc, PL.ev_dk0, PL.ev_dk1, PL.ev_lst, PL.ev_tup, PL.ev_bin, PL.ev_neg, PL.ev_cmp, PL.ev_chn, PL.ev_and, PL.ev_or, PL.ev_tand, PL.ev_tor, PL.ev_not, PL.ev_ite, PL.ev_isn, PL.ev_isb, PL.ev_isi, PL.ev_call, PL.ev_call1, PL.ev_bi, PL.ev_app, PL.ev_ext, PL.ev_pop, PL.ev_popA, PL.ev_idx, PL.ev_ixof, PL.ev_slc, PL.ev_rev, PV.evO, PV.evOs, PV.evP, PV.evPs, PV.evF, PV.evB, PV.evS, PL.r_ok_bind, PL.r_bad_bind, PL.rs_of_ok, PL.exs_nil, PL.exs_ex, PL.exs_retl, PL.exs_ret, PL.exs_asg, PL.exs_unp, PL.exs_par, PL.exs_set, PL.exs_aug, PL.exs_ite, PL.nxt_nx, PL.nxt_rt, PL.nxt_bk, PL.nxt_ct, PV.res, PV.ress, PV.frz, PV.frzs, PV.slotT, PV.ofA, PV.ofB, PV.ofT, PV.ofA?, PV.store1, PV.callWith, PV.argsOf, PV.argOf, PV.mutsOf, PV.lentOf, PV.isOwn, PV.putBack, PV.appC, PV.extC, PV.popC, PV.popAC, PV.setIx, PV.truth, PV.storeAll, PL.big_le_0, PL.big_le_1, PL.big_le_2, PL.big_le_3, PL.big_le_4, PL.big_le_5, PL.big_le_6, PL.big_le_7, PL.big_le_8, PL.big_le_9, PL.big_le_10, PL.big_le_11, PL.big_le_12, PL.big_le_13, PV.unpT, PV.compTurn, PV.bindTo, PV.setAll, PV.wipeE, PV.backE, PV.forTurn, PV.tupT, PV.startE, PV.slotOf, PV.endC, PV.mutsAt, PV.runF, List.getElem?_cons_zero, List.getElem?_cons_succ, List.getElem?_nil, Option.bind_some, Option.bind_none, Option.map_some, Option.map_none, List.set_cons_zero, List.set_cons_succ, List.isEmpty_nil, List.isEmpty_cons, if_true, if_false, List.replicate_succ, List.replicate_zero, List.length_cons, List.length_nil, Bool.not_true, Bool.not_false, Bool.and_true, Bool.and_false, Bool.true_and, Bool.false_and, reduceCtorEq, ne_eq, not_false_eq_true, implies_true, Bool.true_or, Bool.false_or, Bool.or_true, Bool.or_false, Nat.reduceAdd, Nat.reduceLeDiff, Nat.reduceSub, tuple_tn (htn x hx)]
  have c2 : ∀ m, ev pg (Fo (d + 1)) 1000 (m + 8) (.comp [3, 5, 4] [5, 4] true 3 [.loc 2] (some (.cmp .isin (.loc 4) ((Ex.loc 2).slc none (some (.loc 5))))) (.loc 5)) [.v v, .v (.int n), .o true (tss.map tupI), .u, .u, .u, .u, .u] = .ok (.f ((enumT (tss.map tupI)).filterMap (dbl tss))) [.v v, .v (.int n), .o true (tss.map tupI), .u, .u, .u, .u, .u] := fun m => by
    rw [ev_comp_ok (iv := .en (.d 2)) (ρ1 := [.v v, .v (.int n), .o true (tss.map tupI), .u, .u, .u, .u, .u]) (xs := enumT (tss.map tupI)) (g := dbl tss) rfl rfl (fun i => ?_) (fun x hx => ?_) (by rw [enumT_length, List.length_map]; omega) (by rw [enumT_length, List.length_map]; unfold big; omega)]
    · rfl
    · rw [enumT_get]; rfl
    · obtain ⟨i, hi⟩ := List.getElem?_of_mem hx
      rw [enumT_get, List.getElem?_map] at hi
      obtain ⟨z, e1, e2⟩ := Option.map_eq_some_iff.mp hi
      obtain ⟨a, e3, e4⟩ := Option.map_eq_some_iff.mp e1
      subst e2 e4
      have li := (List.getElem?_eq_some_iff.mp e3).1
      have hcut : cutT (.lst (tss.map tupI)) none (some (i : Int)) = some (.f ((tss.take i).map tupI)) := by
        show some (A.f (cut (tss.map tupI) none (some (i : Int)))) = _
        unfold cut
        rw [sIx_nat, List.length_map, Nat.min_eq_left (by omega), show sIx tss.length 0 none = 0 from rfl, Nat.sub_zero, List.drop_zero, List.map_take]
      have hd : dbl tss (.tup [.int (i : Nat), tupI a]) = if a ∈ tss.take i then some (.int i) else none := by
        show (if turnI (tupI a) ∈ tss.take (i : Int).toNat then some (T.int i) else none) = _
        rw [turnI_tupI, Int.toNat_natCast]
      simp only [PL.ev_con, PL.ev_loc, PL.ev_dk0, PL.ev_dk1, PL.ev_lst, PL.ev_tup, PL.ev_bin, PL.ev_neg, PL.ev_cmp, PL.ev_chn, PL.ev_and, PL.ev_or, PL.ev_tand, PL.ev_tor, PL.ev_not, PL.ev_ite, PL.ev_isn, PL.ev_isb, PL.ev_isi, PL.ev_call, PL.ev_call1, PL.ev_bi, PL.ev_app, PL.ev_ext, PL.ev_pop, PL.ev_popA, PL.ev_idx, PL.ev_ixof, PL.ev_slc, PL.ev_rev, PV.evO, PV.evOs, PV.evP, PV.evPs, PV.evF, PV.evB, PV.evS, PL.r_ok_bind, PL.r_bad_bind, PL.rs_of_ok, PL.exs_nil, PL.exs_ex, PL.exs_retl, PL.exs_ret, PL.exs_asg, PL.exs_unp, PL.exs_par, PL.exs_set, PL.exs_aug, PL.exs_ite, PL.nxt_nx, PL.nxt_rt, PL.nxt_bk, PL.nxt_ct, PV.res, PV.ress, PV.frz, PV.frzs, PV.slotT, PV.ofA, PV.ofB, PV.ofT, PV.ofA?, PV.store1, PV.callWith, PV.argsOf, PV.argOf, PV.mutsOf, PV.lentOf, PV.isOwn, PV.putBack, PV.appC, PV.extC, PV.popC, PV.popAC, PV.setIx, PV.truth, PV.storeAll, PL.big_le_0, PL.big_le_1, PL.big_le_2, PL.big_le_3, PL.big_le_4, PL.big_le_5, PL.big_le_6, PL.big_le_7, PL.big_le_8, PL.big_le_9, PL.big_le_10, PL.big_le_11, PL.big_le_12, PL.big_le_13, PV.unpT, PV.compTurn, PV.bindTo, PV.setAll, PV.wipeE, PV.backE, PV.forTurn, PV.tupT, PV.startE, PV.slotOf, PV.endC, PV.mutsAt, PV.runF, List.getElem?_cons_zero, List.getElem?_cons_succ, List.getElem?_nil, Option.bind_some, Option.bind_none, Option.map_some, Option.map_none, List.set_cons_zero, List.set_cons_succ, List.isEmpty_nil, List.isEmpty_cons, if_true, if_false, List.replicate_succ, List.replicate_zero, List.length_cons, List.length_nil, Bool.not_true, Bool.not_false, Bool.and_true, Bool.and_false, Bool.true_and, Bool.false_and, reduceCtorEq, ne_eq, not_false_eq_true, implies_true, Bool.true_or, Bool.false_or, Bool.or_true, Bool.or_false, Nat.reduceAdd, Nat.reduceLeDiff, Nat.reduceSub, hcut, cmp_in_tss, hd]
      by_cases hm : a ∈ tss.take i
      · rw [decide_eq_true hm, if_pos hm]
      · rw [decide_eq_false hm, if_neg hm]
  have hdb : ∀ x ∈ (enumT (tss.map tupI)).filterMap (dbl tss), okT 63 x = true := fun x hx => by
    obtain ⟨y, hy, hy2⟩ := List.mem_filterMap.mp hx
    unfold dbl at hy2
    split at hy2
    · split at hy2
      · cases hy2; rfl
      · cases hy2
    · cases hy2
  have hmem : ∀ a ∈ tss, ∀ b ∈ tss, ∀ x ∈ b, (0 : Int) ≤ x ∧ x < n := fun a _ b hb x hx => (hT b hb).mem x hx
  have c4 : ∀ m a, a ∈ tss → ev pg (Fo (d + 1)) 1000 (m + 8) (.comp [3, 7] [7] false 0 [.loc 2] none (.cmp .isin (.call 10 [] [.loc 6, .loc 7]) (.loc 2))) [.v v, .v (.int n), .o true (tss.map tupI), .u, .u, .u, .v (tupI a), .u] = .ok (.f (tss.map fun b => T.bl (decide (beh a b ∈ tss)))) [.v v, .v (.int n), .o true (tss.map tupI), .u, .u, .u, .v (tupI a), .u] := fun m a ha => by
    rw [ev_comp_map (iv := .sq true (.d 2)) (ρ1 := [.v v, .v (.int n), .o true (tss.map tupI), .u, .u, .u, .v (tupI a), .u]) (xs := tss.map tupI) (fun x => .bl (decide (beh a (turnI x) ∈ tss))) rfl rfl (fun i => rfl) (fun x hx => ?_) (by rw [List.length_map]; omega) (by rw [List.length_map]; unfold big; omega) rfl]
    · rw [List.map_map]
      congr 2
      apply List.map_congr_left
      intro b _
      show T.bl (decide (beh a (turnI (tupI b)) ∈ tss)) = _
      rw [turnI_tupI]
    · obtain ⟨b, hb, rfl⟩ := List.mem_map.mp hx
      have hc := beh_call d 10 (fun {a b g} h1 h2 => f10 d h1 h2) (hT a ha).len (hmem a ha b hb) (by rw [(hT b hb).len]; omega)
      simp only [PL.ev_con, PL.ev_loc, PL.ev_dk0, PL.ev_dk1, PL.ev_lst, PL.ev_tup, PL.ev_bin, PL.ev_neg, PL.ev_cmp, PL.ev_chn, PL.ev_and, PL.ev_or, PL.ev_tand, PL.ev_tor, PL.ev_not, PL.ev_ite, PL.ev_isn, PL.ev_isb, PL.ev_isi, PL.ev_call, PL.ev_call1, PL.ev_bi, PL.ev_app, PL.ev_ext, PL.ev_pop, PL.ev_popA, PL.ev_idx, PL.ev_ixof, PL.ev_slc, PL.ev_rev, PV.evO, PV.evOs, PV.evP, PV.evPs, PV.evF, PV.evB, PV.evS, PL.r_ok_bind, PL.r_bad_bind, PL.rs_of_ok, PL.exs_nil, PL.exs_ex, PL.exs_retl, PL.exs_ret, PL.exs_asg, PL.exs_unp, PL.exs_par, PL.exs_set, PL.exs_aug, PL.exs_ite, PL.nxt_nx, PL.nxt_rt, PL.nxt_bk, PL.nxt_ct, PV.res, PV.ress, PV.frz, PV.frzs, PV.slotT, PV.ofA, PV.ofB, PV.ofT, PV.ofA?, PV.store1, PV.callWith, PV.argsOf, PV.argOf, PV.mutsOf, PV.lentOf, PV.isOwn, PV.putBack, PV.appC, PV.extC, PV.popC, PV.popAC, PV.setIx, PV.truth, PV.storeAll, PL.big_le_0, PL.big_le_1, PL.big_le_2, PL.big_le_3, PL.big_le_4, PL.big_le_5, PL.big_le_6, PL.big_le_7, PL.big_le_8, PL.big_le_9, PL.big_le_10, PL.big_le_11, PL.big_le_12, PL.big_le_13, PV.unpT, PV.compTurn, PV.bindTo, PV.setAll, PV.wipeE, PV.backE, PV.forTurn, PV.tupT, PV.startE, PV.slotOf, PV.endC, PV.mutsAt, PV.runF, List.getElem?_cons_zero, List.getElem?_cons_succ, List.getElem?_nil, Option.bind_some, Option.bind_none, Option.map_some, Option.map_none, List.set_cons_zero, List.set_cons_succ, List.isEmpty_nil, List.isEmpty_cons, if_true, if_false, List.replicate_succ, List.replicate_zero, List.length_cons, List.length_nil, Bool.not_true, Bool.not_false, Bool.and_true, Bool.and_false, Bool.true_and, Bool.false_and, reduceCtorEq, ne_eq, not_false_eq_true, implies_true, Bool.true_or, Bool.false_or, Bool.or_true, Bool.or_false, Nat.reduceAdd, Nat.reduceLeDiff, Nat.reduceSub, p10, hc, cmp_in_tss, turnI_tupI]
  have c3 : ∀ m, ev pg (Fo (d + 1)) 1000 (m + 13) (.comp [3, 6] [6] false 0 [.loc 2] none (.bi .all [.comp [3, 7] [7] false 0 [.loc 2] none (.cmp .isin (.call 10 [] [.loc 6, .loc 7]) (.loc 2))])) [.v v, .v (.int n), .o true (tss.map tupI), .u, .u, .u, .u, .u] = .ok (.f (tss.map fun a => T.bl (tss.all fun b => decide (beh a b ∈ tss)))) [.v v, .v (.int n), .o true (tss.map tupI), .u, .u, .u, .u, .u] := fun m => by
    rw [ev_comp_map (iv := .sq true (.d 2)) (ρ1 := [.v v, .v (.int n), .o true (tss.map tupI), .u, .u, .u, .u, .u]) (xs := tss.map tupI) (fun x => .bl (tss.all fun b => decide (beh (turnI x) b ∈ tss))) rfl rfl (fun i => rfl) (fun x hx => ?_) (by rw [List.length_map]; omega) (by rw [List.length_map]; unfold big; omega) rfl]
    · rw [List.map_map]
      congr 2
      apply List.map_congr_left
      intro a _
      show T.bl (tss.all fun b => decide (beh (turnI (tupI a)) b ∈ tss)) = _
      rw [turnI_tupI]
    · obtain ⟨a, ha, rfl⟩ := List.mem_map.mp hx
      simp only [PL.ev_con, PL.ev_loc, PL.ev_dk0, PL.ev_dk1, PL.ev_lst, PL.ev_tup, PL.ev_bin, PL.ev_neg, PL.ev_cmp, PL.ev_chn, PL.ev_and, PL.ev_or, PL.ev_tand, PL.ev_tor, PL.ev_not, PL.ev_ite, PL.ev_isn, PL.ev_isb, PL.ev_isi, PL.ev_call, PL.ev_call1, PL.ev_bi, PL.ev_app, PL.ev_ext, PL.ev_pop, PL.ev_popA, PL.ev_idx, PL.ev_ixof, PL.ev_slc, PL.ev_rev, PV.evO, PV.evOs, PV.evP, PV.evPs, PV.evF, PV.evB, PV.evS, PL.r_ok_bind, PL.r_bad_bind, PL.rs_of_ok, PL.exs_nil, PL.exs_ex, PL.exs_retl, PL.exs_ret, PL.exs_asg, PL.exs_unp, PL.exs_par, PL.exs_set, PL.exs_aug, PL.exs_ite, PL.nxt_nx, PL.nxt_rt, PL.nxt_bk, PL.nxt_ct, PV.res, PV.ress, PV.frz, PV.frzs, PV.slotT, PV.ofA, PV.ofB, PV.ofT, PV.ofA?, PV.store1, PV.callWith, PV.argsOf, PV.argOf, PV.mutsOf, PV.lentOf, PV.isOwn, PV.putBack, PV.appC, PV.extC, PV.popC, PV.popAC, PV.setIx, PV.truth, PV.storeAll, PL.big_le_0, PL.big_le_1, PL.big_le_2, PL.big_le_3, PL.big_le_4, PL.big_le_5, PL.big_le_6, PL.big_le_7, PL.big_le_8, PL.big_le_9, PL.big_le_10, PL.big_le_11, PL.big_le_12, PL.big_le_13, PV.unpT, PV.compTurn, PV.bindTo, PV.setAll, PV.wipeE, PV.backE, PV.forTurn, PV.tupT, PV.startE, PV.slotOf, PV.endC, PV.mutsAt, PV.runF, List.getElem?_cons_zero, List.getElem?_cons_succ, List.getElem?_nil, Option.bind_some, Option.bind_none, Option.map_some, Option.map_none, List.set_cons_zero, List.set_cons_succ, List.isEmpty_nil, List.isEmpty_cons, if_true, if_false, List.replicate_succ, List.replicate_zero, List.length_cons, List.length_nil, Bool.not_true, Bool.not_false, Bool.and_true, Bool.and_false, Bool.true_and, Bool.false_and, reduceCtorEq, ne_eq, not_false_eq_true, implies_true, Bool.true_or, Bool.false_or, Bool.or_true, Bool.or_false, Nat.reduceAdd, Nat.reduceLeDiff, Nat.reduceSub, c4 _ a ha, biT_all, boolsT_map', all_id', turnI_tupI]
  unfold rest17 c17
  simp only [List.drop_succ_cons, List.drop_zero, PL.ev_con, PL.ev_loc, PL.ev_dk0, PL.ev_dk1, PL.ev_lst, PL.ev_tup, PL.ev_bin, PL.ev_neg, PL.ev_cmp, PL.ev_chn, PL.ev_and, PL.ev_or, PL.ev_tand, PL.ev_tor, PL.ev_not, PL.ev_ite, PL.ev_isn, PL.ev_isb, PL.ev_isi, PL.ev_call, PL.ev_call1, PL.ev_bi, PL.ev_app, PL.ev_ext, PL.ev_pop, PL.ev_popA, PL.ev_idx, PL.ev_ixof, PL.ev_slc, PL.ev_rev, PV.evO, PV.evOs, PV.evP, PV.evPs, PV.evF, PV.evB, PV.evS, PL.r_ok_bind, PL.r_bad_bind, PL.rs_of_ok, PL.exs_nil, PL.exs_ex, PL.exs_retl, PL.exs_ret, PL.exs_asg, PL.exs_unp, PL.exs_par, PL.exs_set, PL.exs_aug, PL.exs_ite, PL.nxt_nx, PL.nxt_rt, PL.nxt_bk, PL.nxt_ct, PV.res, PV.ress, PV.frz, PV.frzs, PV.slotT, PV.ofA, PV.ofB, PV.ofT, PV.ofA?, PV.store1, PV.callWith, PV.argsOf, PV.argOf, PV.mutsOf, PV.lentOf, PV.isOwn, PV.putBack, PV.appC, PV.extC, PV.popC, PV.popAC, PV.setIx, PV.truth, PV.storeAll, PL.big_le_0, PL.big_le_1, PL.big_le_2, PL.big_le_3, PL.big_le_4, PL.big_le_5, PL.big_le_6, PL.big_le_7, PL.big_le_8, PL.big_le_9, PL.big_le_10, PL.big_le_11, PL.big_le_12, PL.big_le_13, PV.unpT, PV.compTurn, PV.bindTo, PV.setAll, PV.wipeE, PV.backE, PV.forTurn, PV.tupT, PV.startE, PV.slotOf, PV.endC, PV.mutsAt, PV.runF, List.getElem?_cons_zero, List.getElem?_cons_succ, List.getElem?_nil, Option.bind_some, Option.bind_none, Option.map_some, Option.map_none, List.set_cons_zero, List.set_cons_succ, List.isEmpty_nil, List.isEmpty_cons, if_true, if_false, List.replicate_succ, List.replicate_zero, List.length_cons, List.length_nil, Bool.not_true, Bool.not_false, Bool.and_true, Bool.and_false, Bool.true_and, Bool.false_and, reduceCtorEq, ne_eq, not_false_eq_true, implies_true, Bool.true_or, Bool.false_or, Bool.or_true, Bool.or_false, Nat.reduceAdd, Nat.reduceLeDiff, Nat.reduceSub, c1, c2, cmp_nil hdb, dbl_nil]
  unfold okS
  cases hnd : decide tss.Nodup with
  | false => exact ⟨_, by simp only [PL.ev_con, PL.ev_loc, PL.ev_dk0, PL.ev_dk1, PL.ev_lst, PL.ev_tup, PL.ev_bin, PL.ev_neg, PL.ev_cmp, PL.ev_chn, PL.ev_and, PL.ev_or, PL.ev_tand, PL.ev_tor, PL.ev_not, PL.ev_ite, PL.ev_isn, PL.ev_isb, PL.ev_isi, PL.ev_call, PL.ev_call1, PL.ev_bi, PL.ev_app, PL.ev_ext, PL.ev_pop, PL.ev_popA, PL.ev_idx, PL.ev_ixof, PL.ev_slc, PL.ev_rev, PV.evO, PV.evOs, PV.evP, PV.evPs, PV.evF, PV.evB, PV.evS, PL.r_ok_bind, PL.r_bad_bind, PL.rs_of_ok, PL.exs_nil, PL.exs_ex, PL.exs_retl, PL.exs_ret, PL.exs_asg, PL.exs_unp, PL.exs_par, PL.exs_set, PL.exs_aug, PL.exs_ite, PL.nxt_nx, PL.nxt_rt, PL.nxt_bk, PL.nxt_ct, PV.res, PV.ress, PV.frz, PV.frzs, PV.slotT, PV.ofA, PV.ofB, PV.ofT, PV.ofA?, PV.store1, PV.callWith, PV.argsOf, PV.argOf, PV.mutsOf, PV.lentOf, PV.isOwn, PV.putBack, PV.appC, PV.extC, PV.popC, PV.popAC, PV.setIx, PV.truth, PV.storeAll, PL.big_le_0, PL.big_le_1, PL.big_le_2, PL.big_le_3, PL.big_le_4, PL.big_le_5, PL.big_le_6, PL.big_le_7, PL.big_le_8, PL.big_le_9, PL.big_le_10, PL.big_le_11, PL.big_le_12, PL.big_le_13, PV.unpT, PV.compTurn, PV.bindTo, PV.setAll, PV.wipeE, PV.backE, PV.forTurn, PV.tupT, PV.startE, PV.slotOf, PV.endC, PV.mutsAt, PV.runF, List.getElem?_cons_zero, List.getElem?_cons_succ, List.getElem?_nil, Option.bind_some, Option.bind_none, Option.map_some, Option.map_none, List.set_cons_zero, List.set_cons_succ, List.isEmpty_nil, List.isEmpty_cons, if_true, if_false, List.replicate_succ, List.replicate_zero, List.length_cons, List.length_nil, Bool.not_true, Bool.not_false, Bool.and_true, Bool.and_false, Bool.true_and, Bool.false_and, reduceCtorEq, ne_eq, not_false_eq_true, implies_true, Bool.true_or, Bool.false_or, Bool.or_true, Bool.or_false, Nat.reduceAdd, Nat.reduceLeDiff, Nat.reduceSub]; rfl⟩
  | true => exact ⟨_, by simp only [PL.ev_con, PL.ev_loc, PL.ev_dk0, PL.ev_dk1, PL.ev_lst, PL.ev_tup, PL.ev_bin, PL.ev_neg, PL.ev_cmp, PL.ev_chn, PL.ev_and, PL.ev_or, PL.ev_tand, PL.ev_tor, PL.ev_not, PL.ev_ite, PL.ev_isn, PL.ev_isb, PL.ev_isi, PL.ev_call, PL.ev_call1, PL.ev_bi, PL.ev_app, PL.ev_ext, PL.ev_pop, PL.ev_popA, PL.ev_idx, PL.ev_ixof, PL.ev_slc, PL.ev_rev, PV.evO, PV.evOs, PV.evP, PV.evPs, PV.evF, PV.evB, PV.evS, PL.r_ok_bind, PL.r_bad_bind, PL.rs_of_ok, PL.exs_nil, PL.exs_ex, PL.exs_retl, PL.exs_ret, PL.exs_asg, PL.exs_unp, PL.exs_par, PL.exs_set, PL.exs_aug, PL.exs_ite, PL.nxt_nx, PL.nxt_rt, PL.nxt_bk, PL.nxt_ct, PV.res, PV.ress, PV.frz, PV.frzs, PV.slotT, PV.ofA, PV.ofB, PV.ofT, PV.ofA?, PV.store1, PV.callWith, PV.argsOf, PV.argOf, PV.mutsOf, PV.lentOf, PV.isOwn, PV.putBack, PV.appC, PV.extC, PV.popC, PV.popAC, PV.setIx, PV.truth, PV.storeAll, PL.big_le_0, PL.big_le_1, PL.big_le_2, PL.big_le_3, PL.big_le_4, PL.big_le_5, PL.big_le_6, PL.big_le_7, PL.big_le_8, PL.big_le_9, PL.big_le_10, PL.big_le_11, PL.big_le_12, PL.big_le_13, PV.unpT, PV.compTurn, PV.bindTo, PV.setAll, PV.wipeE, PV.backE, PV.forTurn, PV.tupT, PV.startE, PV.slotOf, PV.endC, PV.mutsAt, PV.runF, List.getElem?_cons_zero, List.getElem?_cons_succ, List.getElem?_nil, Option.bind_some, Option.bind_none, Option.map_some, Option.map_none, List.set_cons_zero, List.set_cons_succ, List.isEmpty_nil, List.isEmpty_cons, if_true, if_false, List.replicate_succ, List.replicate_zero, List.length_cons, List.length_nil, Bool.not_true, Bool.not_false, Bool.and_true, Bool.and_false, Bool.true_and, Bool.false_and, reduceCtorEq, ne_eq, not_false_eq_true, implies_true, Bool.true_or, Bool.false_or, Bool.or_true, Bool.or_false, Nat.reduceAdd, Nat.reduceLeDiff, Nat.reduceSub, c3, biT_all, boolsT_map', all_id']; rfl⟩
theorem c17_eq : c17 = Sm.ite (((Ex.loc 0).isi [Ty.list, Ty.tuple]).not_.tor ((Ex.chn Cmp.le Cmp.le (Ex.con (T.int 1)) (Ex.bi Bi.len [Ex.loc 0]) (Ex.con (T.int 8))).not_.tor (((Ex.loc 0).idx (Ex.con (T.int 0))).isi [Ty.list, Ty.tuple]).not_)) [Sm.ret (Ex.con (T.bl false))] [] ::
    Sm.asg 1 (Ex.bi Bi.len [(Ex.loc 0).idx (Ex.con (T.int 0))]) ::
    Sm.ite ((Ex.chn Cmp.le Cmp.le (Ex.con (T.int 1)) (Ex.loc 1) (Ex.con (T.int 6))).not_.tor (Ex.bi Bi.all [Ex.comp [3, 4] [4] false 0 [Ex.loc 0] none (Ex.call 16 [] [Ex.loc 4, Ex.loc 1])]).not_) [Sm.ret (Ex.con (T.bl false))] [] :: rest17 := rfl
theorem f17 (d : Nat) {v : T} (h : okT 60 v = true) : Fo (d + 2) 17 [.t v] = .ok (.t (.bl (isG v))) [] := by
  have e : Fo (d + 2) 17 [.t v] = runF pg (Fo (d + 1)) 1000 60 ⟨8, [.val], c17⟩ [.t v] := rfl
  rw [e, c17_eq]
  simp only [PL.ev_con, PL.ev_loc, PL.ev_dk0, PL.ev_dk1, PL.ev_lst, PL.ev_tup, PL.ev_bin, PL.ev_neg, PL.ev_cmp, PL.ev_chn, PL.ev_and, PL.ev_or, PL.ev_tand, PL.ev_tor, PL.ev_not, PL.ev_ite, PL.ev_isn, PL.ev_isb, PL.ev_isi, PL.ev_call, PL.ev_call1, PL.ev_bi, PL.ev_app, PL.ev_ext, PL.ev_pop, PL.ev_popA, PL.ev_idx, PL.ev_ixof, PL.ev_slc, PL.ev_rev, PV.evO, PV.evOs, PV.evP, PV.evPs, PV.evF, PV.evB, PV.evS, PL.r_ok_bind, PL.r_bad_bind, PL.rs_of_ok, PL.exs_nil, PL.exs_ex, PL.exs_retl, PL.exs_ret, PL.exs_asg, PL.exs_unp, PL.exs_par, PL.exs_set, PL.exs_aug, PL.exs_ite, PL.nxt_nx, PL.nxt_rt, PL.nxt_bk, PL.nxt_ct, PV.res, PV.ress, PV.frz, PV.frzs, PV.slotT, PV.ofA, PV.ofB, PV.ofT, PV.ofA?, PV.store1, PV.callWith, PV.argsOf, PV.argOf, PV.mutsOf, PV.lentOf, PV.isOwn, PV.putBack, PV.appC, PV.extC, PV.popC, PV.popAC, PV.setIx, PV.truth, PV.storeAll, PL.big_le_0, PL.big_le_1, PL.big_le_2, PL.big_le_3, PL.big_le_4, PL.big_le_5, PL.big_le_6, PL.big_le_7, PL.big_le_8, PL.big_le_9, PL.big_le_10, PL.big_le_11, PL.big_le_12, PL.big_le_13, PV.unpT, PV.compTurn, PV.bindTo, PV.setAll, PV.wipeE, PV.backE, PV.forTurn, PV.tupT, PV.startE, PV.slotOf, PV.endC, PV.mutsAt, PV.runF, List.getElem?_cons_zero, List.getElem?_cons_succ, List.getElem?_nil, Option.bind_some, Option.bind_none, Option.map_some, Option.map_none, List.set_cons_zero, List.set_cons_succ, List.isEmpty_nil, List.isEmpty_cons, if_true, if_false, List.replicate_succ, List.replicate_zero, List.length_cons, List.length_nil, Bool.not_true, Bool.not_false, Bool.and_true, Bool.and_false, Bool.true_and, Bool.false_and, reduceCtorEq, ne_eq, not_false_eq_true, implies_true, Bool.true_or, Bool.false_or, Bool.or_true, Bool.or_false, Nat.reduceAdd, Nat.reduceLeDiff, Nat.reduceSub, isi_seq (okT_dat h)]
  unfold isG
  cases hs : seq? v with
  | false =>
    have : itemsT v = none := by
      unfold seq? at hs
      cases q : itemsT v with
      | none => rfl
      | some _ => rw [q] at hs; cases hs
    rw [this]
    simp only [PL.ev_con, PL.ev_loc, PL.ev_dk0, PL.ev_dk1, PL.ev_lst, PL.ev_tup, PL.ev_bin, PL.ev_neg, PL.ev_cmp, PL.ev_chn, PL.ev_and, PL.ev_or, PL.ev_tand, PL.ev_tor, PL.ev_not, PL.ev_ite, PL.ev_isn, PL.ev_isb, PL.ev_isi, PL.ev_call, PL.ev_call1, PL.ev_bi, PL.ev_app, PL.ev_ext, PL.ev_pop, PL.ev_popA, PL.ev_idx, PL.ev_ixof, PL.ev_slc, PL.ev_rev, PV.evO, PV.evOs, PV.evP, PV.evPs, PV.evF, PV.evB, PV.evS, PL.r_ok_bind, PL.r_bad_bind, PL.rs_of_ok, PL.exs_nil, PL.exs_ex, PL.exs_retl, PL.exs_ret, PL.exs_asg, PL.exs_unp, PL.exs_par, PL.exs_set, PL.exs_aug, PL.exs_ite, PL.nxt_nx, PL.nxt_rt, PL.nxt_bk, PL.nxt_ct, PV.res, PV.ress, PV.frz, PV.frzs, PV.slotT, PV.ofA, PV.ofB, PV.ofT, PV.ofA?, PV.store1, PV.callWith, PV.argsOf, PV.argOf, PV.mutsOf, PV.lentOf, PV.isOwn, PV.putBack, PV.appC, PV.extC, PV.popC, PV.popAC, PV.setIx, PV.truth, PV.storeAll, PL.big_le_0, PL.big_le_1, PL.big_le_2, PL.big_le_3, PL.big_le_4, PL.big_le_5, PL.big_le_6, PL.big_le_7, PL.big_le_8, PL.big_le_9, PL.big_le_10, PL.big_le_11, PL.big_le_12, PL.big_le_13, PV.unpT, PV.compTurn, PV.bindTo, PV.setAll, PV.wipeE, PV.backE, PV.forTurn, PV.tupT, PV.startE, PV.slotOf, PV.endC, PV.mutsAt, PV.runF, List.getElem?_cons_zero, List.getElem?_cons_succ, List.getElem?_nil, Option.bind_some, Option.bind_none, Option.map_some, Option.map_none, List.set_cons_zero, List.set_cons_succ, List.isEmpty_nil, List.isEmpty_cons, if_true, if_false, List.replicate_succ, List.replicate_zero, List.length_cons, List.length_nil, Bool.not_true, Bool.not_false, Bool.and_true, Bool.and_false, Bool.true_and, Bool.false_and, reduceCtorEq, ne_eq, not_false_eq_true, implies_true, Bool.true_or, Bool.false_or, Bool.or_true, Bool.or_false, Nat.reduceAdd, Nat.reduceLeDiff, Nat.reduceSub]
  | true =>
    obtain ⟨xs, hx, hv⟩ := seqItems hs
    rw [hx]
    simp only [PL.ev_con, PL.ev_loc, PL.ev_dk0, PL.ev_dk1, PL.ev_lst, PL.ev_tup, PL.ev_bin, PL.ev_neg, PL.ev_cmp, PL.ev_chn, PL.ev_and, PL.ev_or, PL.ev_tand, PL.ev_tor, PL.ev_not, PL.ev_ite, PL.ev_isn, PL.ev_isb, PL.ev_isi, PL.ev_call, PL.ev_call1, PL.ev_bi, PL.ev_app, PL.ev_ext, PL.ev_pop, PL.ev_popA, PL.ev_idx, PL.ev_ixof, PL.ev_slc, PL.ev_rev, PV.evO, PV.evOs, PV.evP, PV.evPs, PV.evF, PV.evB, PV.evS, PL.r_ok_bind, PL.r_bad_bind, PL.rs_of_ok, PL.exs_nil, PL.exs_ex, PL.exs_retl, PL.exs_ret, PL.exs_asg, PL.exs_unp, PL.exs_par, PL.exs_set, PL.exs_aug, PL.exs_ite, PL.nxt_nx, PL.nxt_rt, PL.nxt_bk, PL.nxt_ct, PV.res, PV.ress, PV.frz, PV.frzs, PV.slotT, PV.ofA, PV.ofB, PV.ofT, PV.ofA?, PV.store1, PV.callWith, PV.argsOf, PV.argOf, PV.mutsOf, PV.lentOf, PV.isOwn, PV.putBack, PV.appC, PV.extC, PV.popC, PV.popAC, PV.setIx, PV.truth, PV.storeAll, PL.big_le_0, PL.big_le_1, PL.big_le_2, PL.big_le_3, PL.big_le_4, PL.big_le_5, PL.big_le_6, PL.big_le_7, PL.big_le_8, PL.big_le_9, PL.big_le_10, PL.big_le_11, PL.big_le_12, PL.big_le_13, PV.unpT, PV.compTurn, PV.bindTo, PV.setAll, PV.wipeE, PV.backE, PV.forTurn, PV.tupT, PV.startE, PV.slotOf, PV.endC, PV.mutsAt, PV.runF, List.getElem?_cons_zero, List.getElem?_cons_succ, List.getElem?_nil, Option.bind_some, Option.bind_none, Option.map_some, Option.map_none, List.set_cons_zero, List.set_cons_succ, List.isEmpty_nil, List.isEmpty_cons, if_true, if_false, List.replicate_succ, List.replicate_zero, List.length_cons, List.length_nil, Bool.not_true, Bool.not_false, Bool.and_true, Bool.and_false, Bool.true_and, Bool.false_and, reduceCtorEq, ne_eq, not_false_eq_true, implies_true, Bool.true_or, Bool.false_or, Bool.or_true, Bool.or_false, Nat.reduceAdd, Nat.reduceLeDiff, Nat.reduceSub, len_of hv, cmp_le]
    cases h1 : decide (1 ≤ (xs.length : Int)) with
    | false =>
      have : decide (1 ≤ xs.length) = false := decide_eq_false (by have := of_decide_eq_false h1; omega)
      simp only [PL.ev_con, PL.ev_loc, PL.ev_dk0, PL.ev_dk1, PL.ev_lst, PL.ev_tup, PL.ev_bin, PL.ev_neg, PL.ev_cmp, PL.ev_chn, PL.ev_and, PL.ev_or, PL.ev_tand, PL.ev_tor, PL.ev_not, PL.ev_ite, PL.ev_isn, PL.ev_isb, PL.ev_isi, PL.ev_call, PL.ev_call1, PL.ev_bi, PL.ev_app, PL.ev_ext, PL.ev_pop, PL.ev_popA, PL.ev_idx, PL.ev_ixof, PL.ev_slc, PL.ev_rev, PV.evO, PV.evOs, PV.evP, PV.evPs, PV.evF, PV.evB, PV.evS, PL.r_ok_bind, PL.r_bad_bind, PL.rs_of_ok, PL.exs_nil, PL.exs_ex, PL.exs_retl, PL.exs_ret, PL.exs_asg, PL.exs_unp, PL.exs_par, PL.exs_set, PL.exs_aug, PL.exs_ite, PL.nxt_nx, PL.nxt_rt, PL.nxt_bk, PL.nxt_ct, PV.res, PV.ress, PV.frz, PV.frzs, PV.slotT, PV.ofA, PV.ofB, PV.ofT, PV.ofA?, PV.store1, PV.callWith, PV.argsOf, PV.argOf, PV.mutsOf, PV.lentOf, PV.isOwn, PV.putBack, PV.appC, PV.extC, PV.popC, PV.popAC, PV.setIx, PV.truth, PV.storeAll, PL.big_le_0, PL.big_le_1, PL.big_le_2, PL.big_le_3, PL.big_le_4, PL.big_le_5, PL.big_le_6, PL.big_le_7, PL.big_le_8, PL.big_le_9, PL.big_le_10, PL.big_le_11, PL.big_le_12, PL.big_le_13, PV.unpT, PV.compTurn, PV.bindTo, PV.setAll, PV.wipeE, PV.backE, PV.forTurn, PV.tupT, PV.startE, PV.slotOf, PV.endC, PV.mutsAt, PV.runF, List.getElem?_cons_zero, List.getElem?_cons_succ, List.getElem?_nil, Option.bind_some, Option.bind_none, Option.map_some, Option.map_none, List.set_cons_zero, List.set_cons_succ, List.isEmpty_nil, List.isEmpty_cons, if_true, if_false, List.replicate_succ, List.replicate_zero, List.length_cons, List.length_nil, Bool.not_true, Bool.not_false, Bool.and_true, Bool.and_false, Bool.true_and, Bool.false_and, reduceCtorEq, ne_eq, not_false_eq_true, implies_true, Bool.true_or, Bool.false_or, Bool.or_true, Bool.or_false, Nat.reduceAdd, Nat.reduceLeDiff, Nat.reduceSub, this]
    | true =>
    cases h8 : decide ((xs.length : Int) ≤ 8) with
    | false =>
      have : decide (xs.length ≤ 8) = false := decide_eq_false (by have := of_decide_eq_false h8; omega)
      simp only [PL.ev_con, PL.ev_loc, PL.ev_dk0, PL.ev_dk1, PL.ev_lst, PL.ev_tup, PL.ev_bin, PL.ev_neg, PL.ev_cmp, PL.ev_chn, PL.ev_and, PL.ev_or, PL.ev_tand, PL.ev_tor, PL.ev_not, PL.ev_ite, PL.ev_isn, PL.ev_isb, PL.ev_isi, PL.ev_call, PL.ev_call1, PL.ev_bi, PL.ev_app, PL.ev_ext, PL.ev_pop, PL.ev_popA, PL.ev_idx, PL.ev_ixof, PL.ev_slc, PL.ev_rev, PV.evO, PV.evOs, PV.evP, PV.evPs, PV.evF, PV.evB, PV.evS, PL.r_ok_bind, PL.r_bad_bind, PL.rs_of_ok, PL.exs_nil, PL.exs_ex, PL.exs_retl, PL.exs_ret, PL.exs_asg, PL.exs_unp, PL.exs_par, PL.exs_set, PL.exs_aug, PL.exs_ite, PL.nxt_nx, PL.nxt_rt, PL.nxt_bk, PL.nxt_ct, PV.res, PV.ress, PV.frz, PV.frzs, PV.slotT, PV.ofA, PV.ofB, PV.ofT, PV.ofA?, PV.store1, PV.callWith, PV.argsOf, PV.argOf, PV.mutsOf, PV.lentOf, PV.isOwn, PV.putBack, PV.appC, PV.extC, PV.popC, PV.popAC, PV.setIx, PV.truth, PV.storeAll, PL.big_le_0, PL.big_le_1, PL.big_le_2, PL.big_le_3, PL.big_le_4, PL.big_le_5, PL.big_le_6, PL.big_le_7, PL.big_le_8, PL.big_le_9, PL.big_le_10, PL.big_le_11, PL.big_le_12, PL.big_le_13, PV.unpT, PV.compTurn, PV.bindTo, PV.setAll, PV.wipeE, PV.backE, PV.forTurn, PV.tupT, PV.startE, PV.slotOf, PV.endC, PV.mutsAt, PV.runF, List.getElem?_cons_zero, List.getElem?_cons_succ, List.getElem?_nil, Option.bind_some, Option.bind_none, Option.map_some, Option.map_none, List.set_cons_zero, List.set_cons_succ, List.isEmpty_nil, List.isEmpty_cons, if_true, if_false, List.replicate_succ, List.replicate_zero, List.length_cons, List.length_nil, Bool.not_true, Bool.not_false, Bool.and_true, Bool.and_false, Bool.true_and, Bool.false_and, reduceCtorEq, ne_eq, not_false_eq_true, implies_true, Bool.true_or, Bool.false_or, Bool.or_true, Bool.or_false, Nat.reduceAdd, Nat.reduceLeDiff, Nat.reduceSub, this]
      all_goals (cases decide (1 ≤ xs.length) <;> rfl)
    | true =>
    have l1 : 1 ≤ xs.length := by have := of_decide_eq_true h1; omega
    have l8 : xs.length ≤ 8 := by have := of_decide_eq_true h8; omega
    cases xs with
    | nil => simp at l1
    | cons y r =>
    have hy : okT 59 y = true := okT_items h hx y List.mem_cons_self
    rw [decide_eq_true l1, decide_eq_true l8]
    simp only [PL.ev_con, PL.ev_loc, PL.ev_dk0, PL.ev_dk1, PL.ev_lst, PL.ev_tup, PL.ev_bin, PL.ev_neg, PL.ev_cmp, PL.ev_chn, PL.ev_and, PL.ev_or, PL.ev_tand, PL.ev_tor, PL.ev_not, PL.ev_ite, PL.ev_isn, PL.ev_isb, PL.ev_isi, PL.ev_call, PL.ev_call1, PL.ev_bi, PL.ev_app, PL.ev_ext, PL.ev_pop, PL.ev_popA, PL.ev_idx, PL.ev_ixof, PL.ev_slc, PL.ev_rev, PV.evO, PV.evOs, PV.evP, PV.evPs, PV.evF, PV.evB, PV.evS, PL.r_ok_bind, PL.r_bad_bind, PL.rs_of_ok, PL.exs_nil, PL.exs_ex, PL.exs_retl, PL.exs_ret, PL.exs_asg, PL.exs_unp, PL.exs_par, PL.exs_set, PL.exs_aug, PL.exs_ite, PL.nxt_nx, PL.nxt_rt, PL.nxt_bk, PL.nxt_ct, PV.res, PV.ress, PV.frz, PV.frzs, PV.slotT, PV.ofA, PV.ofB, PV.ofT, PV.ofA?, PV.store1, PV.callWith, PV.argsOf, PV.argOf, PV.mutsOf, PV.lentOf, PV.isOwn, PV.putBack, PV.appC, PV.extC, PV.popC, PV.popAC, PV.setIx, PV.truth, PV.storeAll, PL.big_le_0, PL.big_le_1, PL.big_le_2, PL.big_le_3, PL.big_le_4, PL.big_le_5, PL.big_le_6, PL.big_le_7, PL.big_le_8, PL.big_le_9, PL.big_le_10, PL.big_le_11, PL.big_le_12, PL.big_le_13, PV.unpT, PV.compTurn, PV.bindTo, PV.setAll, PV.wipeE, PV.backE, PV.forTurn, PV.tupT, PV.startE, PV.slotOf, PV.endC, PV.mutsAt, PV.runF, List.getElem?_cons_zero, List.getElem?_cons_succ, List.getElem?_nil, Option.bind_some, Option.bind_none, Option.map_some, Option.map_none, List.set_cons_zero, List.set_cons_succ, List.isEmpty_nil, List.isEmpty_cons, if_true, if_false, List.replicate_succ, List.replicate_zero, List.length_cons, List.length_nil, Bool.not_true, Bool.not_false, Bool.and_true, Bool.and_false, Bool.true_and, Bool.false_and, reduceCtorEq, ne_eq, not_false_eq_true, implies_true, Bool.true_or, Bool.false_or, Bool.or_true, Bool.or_false, Nat.reduceAdd, Nat.reduceLeDiff, Nat.reduceSub, idx0 hv, isi_seq (okT_dat hy)]
    cases hs2 : seq? y with
    | false =>
      have : itemsT y = none := by
        unfold seq? at hs2
        cases q : itemsT y with
        | none => rfl
        | some _ => rw [q] at hs2; cases hs2
      simp only [PL.ev_con, PL.ev_loc, PL.ev_dk0, PL.ev_dk1, PL.ev_lst, PL.ev_tup, PL.ev_bin, PL.ev_neg, PL.ev_cmp, PL.ev_chn, PL.ev_and, PL.ev_or, PL.ev_tand, PL.ev_tor, PL.ev_not, PL.ev_ite, PL.ev_isn, PL.ev_isb, PL.ev_isi, PL.ev_call, PL.ev_call1, PL.ev_bi, PL.ev_app, PL.ev_ext, PL.ev_pop, PL.ev_popA, PL.ev_idx, PL.ev_ixof, PL.ev_slc, PL.ev_rev, PV.evO, PV.evOs, PV.evP, PV.evPs, PV.evF, PV.evB, PV.evS, PL.r_ok_bind, PL.r_bad_bind, PL.rs_of_ok, PL.exs_nil, PL.exs_ex, PL.exs_retl, PL.exs_ret, PL.exs_asg, PL.exs_unp, PL.exs_par, PL.exs_set, PL.exs_aug, PL.exs_ite, PL.nxt_nx, PL.nxt_rt, PL.nxt_bk, PL.nxt_ct, PV.res, PV.ress, PV.frz, PV.frzs, PV.slotT, PV.ofA, PV.ofB, PV.ofT, PV.ofA?, PV.store1, PV.callWith, PV.argsOf, PV.argOf, PV.mutsOf, PV.lentOf, PV.isOwn, PV.putBack, PV.appC, PV.extC, PV.popC, PV.popAC, PV.setIx, PV.truth, PV.storeAll, PL.big_le_0, PL.big_le_1, PL.big_le_2, PL.big_le_3, PL.big_le_4, PL.big_le_5, PL.big_le_6, PL.big_le_7, PL.big_le_8, PL.big_le_9, PL.big_le_10, PL.big_le_11, PL.big_le_12, PL.big_le_13, PV.unpT, PV.compTurn, PV.bindTo, PV.setAll, PV.wipeE, PV.backE, PV.forTurn, PV.tupT, PV.startE, PV.slotOf, PV.endC, PV.mutsAt, PV.runF, List.getElem?_cons_zero, List.getElem?_cons_succ, List.getElem?_nil, Option.bind_some, Option.bind_none, Option.map_some, Option.map_none, List.set_cons_zero, List.set_cons_succ, List.isEmpty_nil, List.isEmpty_cons, if_true, if_false, List.replicate_succ, List.replicate_zero, List.length_cons, List.length_nil, Bool.not_true, Bool.not_false, Bool.and_true, Bool.and_false, Bool.true_and, Bool.false_and, reduceCtorEq, ne_eq, not_false_eq_true, implies_true, Bool.true_or, Bool.false_or, Bool.or_true, Bool.or_false, Nat.reduceAdd, Nat.reduceLeDiff, Nat.reduceSub, this]
    | true =>
    obtain ⟨ys, hys, hw⟩ := seqItems hs2
    have hT : ∀ n : Nat, n ≤ 6 → ∀ m, ev pg (Fo (d + 1)) 1000 (m + 8) (.comp [3, 4] [4] false 0 [.loc 0] none (.call 16 [] [.loc 4, .loc 1])) [.v v, .v (.int n), .u, .u, .u, .u, .u, .u] = .ok (.f ((y :: r).map fun x => T.bl (tn x n))) [.v v, .v (.int n), .u, .u, .u, .u, .u, .u] := fun n hn m => by
      rw [ev_comp_map (xs := y :: r) (fun x => T.bl (tn x n)) (iv_loc hv) rfl (fun i => by rcases hv with rfl | rfl <;> rfl) (fun x hx' => ?_) (by omega) (by unfold big; omega) rfl]
      · rfl
      · have hx2 := okT_items h hx x hx'
        simp only [PL.ev_con, PL.ev_loc, PL.ev_dk0, PL.ev_dk1, PL.ev_lst, PL.ev_tup, PL.ev_bin, PL.ev_neg, PL.ev_cmp, PL.ev_chn, PL.ev_and, PL.ev_or, PL.ev_tand, PL.ev_tor, PL.ev_not, PL.ev_ite, PL.ev_isn, PL.ev_isb, PL.ev_isi, PL.ev_call, PL.ev_call1, PL.ev_bi, PL.ev_app, PL.ev_ext, PL.ev_pop, PL.ev_popA, PL.ev_idx, PL.ev_ixof, PL.ev_slc, PL.ev_rev, PV.evO, PV.evOs, PV.evP, PV.evPs, PV.evF, PV.evB, PV.evS, PL.r_ok_bind, PL.r_bad_bind, PL.rs_of_ok, PL.exs_nil, PL.exs_ex, PL.exs_retl, PL.exs_ret, PL.exs_asg, PL.exs_unp, PL.exs_par, PL.exs_set, PL.exs_aug, PL.exs_ite, PL.nxt_nx, PL.nxt_rt, PL.nxt_bk, PL.nxt_ct, PV.res, PV.ress, PV.frz, PV.frzs, PV.slotT, PV.ofA, PV.ofB, PV.ofT, PV.ofA?, PV.store1, PV.callWith, PV.argsOf, PV.argOf, PV.mutsOf, PV.lentOf, PV.isOwn, PV.putBack, PV.appC, PV.extC, PV.popC, PV.popAC, PV.setIx, PV.truth, PV.storeAll, PL.big_le_0, PL.big_le_1, PL.big_le_2, PL.big_le_3, PL.big_le_4, PL.big_le_5, PL.big_le_6, PL.big_le_7, PL.big_le_8, PL.big_le_9, PL.big_le_10, PL.big_le_11, PL.big_le_12, PL.big_le_13, PV.unpT, PV.compTurn, PV.bindTo, PV.setAll, PV.wipeE, PV.backE, PV.forTurn, PV.tupT, PV.startE, PV.slotOf, PV.endC, PV.mutsAt, PV.runF, List.getElem?_cons_zero, List.getElem?_cons_succ, List.getElem?_nil, Option.bind_some, Option.bind_none, Option.map_some, Option.map_none, List.set_cons_zero, List.set_cons_succ, List.isEmpty_nil, List.isEmpty_cons, if_true, if_false, List.replicate_succ, List.replicate_zero, List.length_cons, List.length_nil, Bool.not_true, Bool.not_false, Bool.and_true, Bool.and_false, Bool.true_and, Bool.false_and, reduceCtorEq, ne_eq, not_false_eq_true, implies_true, Bool.true_or, Bool.false_or, Bool.or_true, Bool.or_false, Nat.reduceAdd, Nat.reduceLeDiff, Nat.reduceSub, f16 d n hx2 (show n < 64 by omega), p16]
    simp only [PL.ev_con, PL.ev_loc, PL.ev_dk0, PL.ev_dk1, PL.ev_lst, PL.ev_tup, PL.ev_bin, PL.ev_neg, PL.ev_cmp, PL.ev_chn, PL.ev_and, PL.ev_or, PL.ev_tand, PL.ev_tor, PL.ev_not, PL.ev_ite, PL.ev_isn, PL.ev_isb, PL.ev_isi, PL.ev_call, PL.ev_call1, PL.ev_bi, PL.ev_app, PL.ev_ext, PL.ev_pop, PL.ev_popA, PL.ev_idx, PL.ev_ixof, PL.ev_slc, PL.ev_rev, PV.evO, PV.evOs, PV.evP, PV.evPs, PV.evF, PV.evB, PV.evS, PL.r_ok_bind, PL.r_bad_bind, PL.rs_of_ok, PL.exs_nil, PL.exs_ex, PL.exs_retl, PL.exs_ret, PL.exs_asg, PL.exs_unp, PL.exs_par, PL.exs_set, PL.exs_aug, PL.exs_ite, PL.nxt_nx, PL.nxt_rt, PL.nxt_bk, PL.nxt_ct, PV.res, PV.ress, PV.frz, PV.frzs, PV.slotT, PV.ofA, PV.ofB, PV.ofT, PV.ofA?, PV.store1, PV.callWith, PV.argsOf, PV.argOf, PV.mutsOf, PV.lentOf, PV.isOwn, PV.putBack, PV.appC, PV.extC, PV.popC, PV.popAC, PV.setIx, PV.truth, PV.storeAll, PL.big_le_0, PL.big_le_1, PL.big_le_2, PL.big_le_3, PL.big_le_4, PL.big_le_5, PL.big_le_6, PL.big_le_7, PL.big_le_8, PL.big_le_9, PL.big_le_10, PL.big_le_11, PL.big_le_12, PL.big_le_13, PV.unpT, PV.compTurn, PV.bindTo, PV.setAll, PV.wipeE, PV.backE, PV.forTurn, PV.tupT, PV.startE, PV.slotOf, PV.endC, PV.mutsAt, PV.runF, List.getElem?_cons_zero, List.getElem?_cons_succ, List.getElem?_nil, Option.bind_some, Option.bind_none, Option.map_some, Option.map_none, List.set_cons_zero, List.set_cons_succ, List.isEmpty_nil, List.isEmpty_cons, if_true, if_false, List.replicate_succ, List.replicate_zero, List.length_cons, List.length_nil, Bool.not_true, Bool.not_false, Bool.and_true, Bool.and_false, Bool.true_and, Bool.false_and, reduceCtorEq, ne_eq, not_false_eq_true, implies_true, Bool.true_or, Bool.false_or, Bool.or_true, Bool.or_false, Nat.reduceAdd, Nat.reduceLeDiff, Nat.reduceSub, idx0 hv, len_of hw, cmp_le, hys]
    cases k1 : decide (1 ≤ (ys.length : Int)) with
    | false =>
      have : decide (1 ≤ ys.length) = false := decide_eq_false (by have := of_decide_eq_false k1; omega)
      simp only [PL.ev_con, PL.ev_loc, PL.ev_dk0, PL.ev_dk1, PL.ev_lst, PL.ev_tup, PL.ev_bin, PL.ev_neg, PL.ev_cmp, PL.ev_chn, PL.ev_and, PL.ev_or, PL.ev_tand, PL.ev_tor, PL.ev_not, PL.ev_ite, PL.ev_isn, PL.ev_isb, PL.ev_isi, PL.ev_call, PL.ev_call1, PL.ev_bi, PL.ev_app, PL.ev_ext, PL.ev_pop, PL.ev_popA, PL.ev_idx, PL.ev_ixof, PL.ev_slc, PL.ev_rev, PV.evO, PV.evOs, PV.evP, PV.evPs, PV.evF, PV.evB, PV.evS, PL.r_ok_bind, PL.r_bad_bind, PL.rs_of_ok, PL.exs_nil, PL.exs_ex, PL.exs_retl, PL.exs_ret, PL.exs_asg, PL.exs_unp, PL.exs_par, PL.exs_set, PL.exs_aug, PL.exs_ite, PL.nxt_nx, PL.nxt_rt, PL.nxt_bk, PL.nxt_ct, PV.res, PV.ress, PV.frz, PV.frzs, PV.slotT, PV.ofA, PV.ofB, PV.ofT, PV.ofA?, PV.store1, PV.callWith, PV.argsOf, PV.argOf, PV.mutsOf, PV.lentOf, PV.isOwn, PV.putBack, PV.appC, PV.extC, PV.popC, PV.popAC, PV.setIx, PV.truth, PV.storeAll, PL.big_le_0, PL.big_le_1, PL.big_le_2, PL.big_le_3, PL.big_le_4, PL.big_le_5, PL.big_le_6, PL.big_le_7, PL.big_le_8, PL.big_le_9, PL.big_le_10, PL.big_le_11, PL.big_le_12, PL.big_le_13, PV.unpT, PV.compTurn, PV.bindTo, PV.setAll, PV.wipeE, PV.backE, PV.forTurn, PV.tupT, PV.startE, PV.slotOf, PV.endC, PV.mutsAt, PV.runF, List.getElem?_cons_zero, List.getElem?_cons_succ, List.getElem?_nil, Option.bind_some, Option.bind_none, Option.map_some, Option.map_none, List.set_cons_zero, List.set_cons_succ, List.isEmpty_nil, List.isEmpty_cons, if_true, if_false, List.replicate_succ, List.replicate_zero, List.length_cons, List.length_nil, Bool.not_true, Bool.not_false, Bool.and_true, Bool.and_false, Bool.true_and, Bool.false_and, reduceCtorEq, ne_eq, not_false_eq_true, implies_true, Bool.true_or, Bool.false_or, Bool.or_true, Bool.or_false, Nat.reduceAdd, Nat.reduceLeDiff, Nat.reduceSub, this]
    | true =>
    cases k6 : decide ((ys.length : Int) ≤ 6) with
    | false =>
      have : decide (ys.length ≤ 6) = false := decide_eq_false (by have := of_decide_eq_false k6; omega)
      simp only [PL.ev_con, PL.ev_loc, PL.ev_dk0, PL.ev_dk1, PL.ev_lst, PL.ev_tup, PL.ev_bin, PL.ev_neg, PL.ev_cmp, PL.ev_chn, PL.ev_and, PL.ev_or, PL.ev_tand, PL.ev_tor, PL.ev_not, PL.ev_ite, PL.ev_isn, PL.ev_isb, PL.ev_isi, PL.ev_call, PL.ev_call1, PL.ev_bi, PL.ev_app, PL.ev_ext, PL.ev_pop, PL.ev_popA, PL.ev_idx, PL.ev_ixof, PL.ev_slc, PL.ev_rev, PV.evO, PV.evOs, PV.evP, PV.evPs, PV.evF, PV.evB, PV.evS, PL.r_ok_bind, PL.r_bad_bind, PL.rs_of_ok, PL.exs_nil, PL.exs_ex, PL.exs_retl, PL.exs_ret, PL.exs_asg, PL.exs_unp, PL.exs_par, PL.exs_set, PL.exs_aug, PL.exs_ite, PL.nxt_nx, PL.nxt_rt, PL.nxt_bk, PL.nxt_ct, PV.res, PV.ress, PV.frz, PV.frzs, PV.slotT, PV.ofA, PV.ofB, PV.ofT, PV.ofA?, PV.store1, PV.callWith, PV.argsOf, PV.argOf, PV.mutsOf, PV.lentOf, PV.isOwn, PV.putBack, PV.appC, PV.extC, PV.popC, PV.popAC, PV.setIx, PV.truth, PV.storeAll, PL.big_le_0, PL.big_le_1, PL.big_le_2, PL.big_le_3, PL.big_le_4, PL.big_le_5, PL.big_le_6, PL.big_le_7, PL.big_le_8, PL.big_le_9, PL.big_le_10, PL.big_le_11, PL.big_le_12, PL.big_le_13, PV.unpT, PV.compTurn, PV.bindTo, PV.setAll, PV.wipeE, PV.backE, PV.forTurn, PV.tupT, PV.startE, PV.slotOf, PV.endC, PV.mutsAt, PV.runF, List.getElem?_cons_zero, List.getElem?_cons_succ, List.getElem?_nil, Option.bind_some, Option.bind_none, Option.map_some, Option.map_none, List.set_cons_zero, List.set_cons_succ, List.isEmpty_nil, List.isEmpty_cons, if_true, if_false, List.replicate_succ, List.replicate_zero, List.length_cons, List.length_nil, Bool.not_true, Bool.not_false, Bool.and_true, Bool.and_false, Bool.true_and, Bool.false_and, reduceCtorEq, ne_eq, not_false_eq_true, implies_true, Bool.true_or, Bool.false_or, Bool.or_true, Bool.or_false, Nat.reduceAdd, Nat.reduceLeDiff, Nat.reduceSub, this]
      all_goals (cases decide (1 ≤ ys.length) <;> rfl)
    | true =>
    have l6 : ys.length ≤ 6 := by have := of_decide_eq_true k6; omega
    have l1' : 1 ≤ ys.length := by have := of_decide_eq_true k1; omega
    rw [decide_eq_true l6, decide_eq_true l1']
    simp only [PL.ev_con, PL.ev_loc, PL.ev_dk0, PL.ev_dk1, PL.ev_lst, PL.ev_tup, PL.ev_bin, PL.ev_neg, PL.ev_cmp, PL.ev_chn, PL.ev_and, PL.ev_or, PL.ev_tand, PL.ev_tor, PL.ev_not, PL.ev_ite, PL.ev_isn, PL.ev_isb, PL.ev_isi, PL.ev_call, PL.ev_call1, PL.ev_bi, PL.ev_app, PL.ev_ext, PL.ev_pop, PL.ev_popA, PL.ev_idx, PL.ev_ixof, PL.ev_slc, PL.ev_rev, PV.evO, PV.evOs, PV.evP, PV.evPs, PV.evF, PV.evB, PV.evS, PL.r_ok_bind, PL.r_bad_bind, PL.rs_of_ok, PL.exs_nil, PL.exs_ex, PL.exs_retl, PL.exs_ret, PL.exs_asg, PL.exs_unp, PL.exs_par, PL.exs_set, PL.exs_aug, PL.exs_ite, PL.nxt_nx, PL.nxt_rt, PL.nxt_bk, PL.nxt_ct, PV.res, PV.ress, PV.frz, PV.frzs, PV.slotT, PV.ofA, PV.ofB, PV.ofT, PV.ofA?, PV.store1, PV.callWith, PV.argsOf, PV.argOf, PV.mutsOf, PV.lentOf, PV.isOwn, PV.putBack, PV.appC, PV.extC, PV.popC, PV.popAC, PV.setIx, PV.truth, PV.storeAll, PL.big_le_0, PL.big_le_1, PL.big_le_2, PL.big_le_3, PL.big_le_4, PL.big_le_5, PL.big_le_6, PL.big_le_7, PL.big_le_8, PL.big_le_9, PL.big_le_10, PL.big_le_11, PL.big_le_12, PL.big_le_13, PV.unpT, PV.compTurn, PV.bindTo, PV.setAll, PV.wipeE, PV.backE, PV.forTurn, PV.tupT, PV.startE, PV.slotOf, PV.endC, PV.mutsAt, PV.runF, List.getElem?_cons_zero, List.getElem?_cons_succ, List.getElem?_nil, Option.bind_some, Option.bind_none, Option.map_some, Option.map_none, List.set_cons_zero, List.set_cons_succ, List.isEmpty_nil, List.isEmpty_cons, if_true, if_false, List.replicate_succ, List.replicate_zero, List.length_cons, List.length_nil, Bool.not_true, Bool.not_false, Bool.and_true, Bool.and_false, Bool.true_and, Bool.false_and, reduceCtorEq, ne_eq, not_false_eq_true, implies_true, Bool.true_or, Bool.false_or, Bool.or_true, Bool.or_false, Nat.reduceAdd, Nat.reduceLeDiff, Nat.reduceSub, hT ys.length l6, biT_all, boolsT_map', all_id']
    cases ha : (y :: r).all (fun x => tn x ys.length) with
    | false => simp only [PL.ev_con, PL.ev_loc, PL.ev_dk0, PL.ev_dk1, PL.ev_lst, PL.ev_tup, PL.ev_bin, PL.ev_neg, PL.ev_cmp, PL.ev_chn, PL.ev_and, PL.ev_or, PL.ev_tand, PL.ev_tor, PL.ev_not, PL.ev_ite, PL.ev_isn, PL.ev_isb, PL.ev_isi, PL.ev_call, PL.ev_call1, PL.ev_bi, PL.ev_app, PL.ev_ext, PL.ev_pop, PL.ev_popA, PL.ev_idx, PL.ev_ixof, PL.ev_slc, PL.ev_rev, PV.evO, PV.evOs, PV.evP, PV.evPs, PV.evF, PV.evB, PV.evS, PL.r_ok_bind, PL.r_bad_bind, PL.rs_of_ok, PL.exs_nil, PL.exs_ex, PL.exs_retl, PL.exs_ret, PL.exs_asg, PL.exs_unp, PL.exs_par, PL.exs_set, PL.exs_aug, PL.exs_ite, PL.nxt_nx, PL.nxt_rt, PL.nxt_bk, PL.nxt_ct, PV.res, PV.ress, PV.frz, PV.frzs, PV.slotT, PV.ofA, PV.ofB, PV.ofT, PV.ofA?, PV.store1, PV.callWith, PV.argsOf, PV.argOf, PV.mutsOf, PV.lentOf, PV.isOwn, PV.putBack, PV.appC, PV.extC, PV.popC, PV.popAC, PV.setIx, PV.truth, PV.storeAll, PL.big_le_0, PL.big_le_1, PL.big_le_2, PL.big_le_3, PL.big_le_4, PL.big_le_5, PL.big_le_6, PL.big_le_7, PL.big_le_8, PL.big_le_9, PL.big_le_10, PL.big_le_11, PL.big_le_12, PL.big_le_13, PV.unpT, PV.compTurn, PV.bindTo, PV.setAll, PV.wipeE, PV.backE, PV.forTurn, PV.tupT, PV.startE, PV.slotOf, PV.endC, PV.mutsAt, PV.runF, List.getElem?_cons_zero, List.getElem?_cons_succ, List.getElem?_nil, Option.bind_some, Option.bind_none, Option.map_some, Option.map_none, List.set_cons_zero, List.set_cons_succ, List.isEmpty_nil, List.isEmpty_cons, if_true, if_false, List.replicate_succ, List.replicate_zero, List.length_cons, List.length_nil, Bool.not_true, Bool.not_false, Bool.and_true, Bool.and_false, Bool.true_and, Bool.false_and, reduceCtorEq, ne_eq, not_false_eq_true, implies_true, Bool.true_or, Bool.false_or, Bool.or_true, Bool.or_false, Nat.reduceAdd, Nat.reduceLeDiff, Nat.reduceSub]
    | true =>
      obtain ⟨ρ, q⟩ := rest17_ok d ys.length hv l8 l6 ha
      simp only [PL.ev_con, PL.ev_loc, PL.ev_dk0, PL.ev_dk1, PL.ev_lst, PL.ev_tup, PL.ev_bin, PL.ev_neg, PL.ev_cmp, PL.ev_chn, PL.ev_and, PL.ev_or, PL.ev_tand, PL.ev_tor, PL.ev_not, PL.ev_ite, PL.ev_isn, PL.ev_isb, PL.ev_isi, PL.ev_call, PL.ev_call1, PL.ev_bi, PL.ev_app, PL.ev_ext, PL.ev_pop, PL.ev_popA, PL.ev_idx, PL.ev_ixof, PL.ev_slc, PL.ev_rev, PV.evO, PV.evOs, PV.evP, PV.evPs, PV.evF, PV.evB, PV.evS, PL.r_ok_bind, PL.r_bad_bind, PL.rs_of_ok, PL.exs_nil, PL.exs_ex, PL.exs_retl, PL.exs_ret, PL.exs_asg, PL.exs_unp, PL.exs_par, PL.exs_set, PL.exs_aug, PL.exs_ite, PL.nxt_nx, PL.nxt_rt, PL.nxt_bk, PL.nxt_ct, PV.res, PV.ress, PV.frz, PV.frzs, PV.slotT, PV.ofA, PV.ofB, PV.ofT, PV.ofA?, PV.store1, PV.callWith, PV.argsOf, PV.argOf, PV.mutsOf, PV.lentOf, PV.isOwn, PV.putBack, PV.appC, PV.extC, PV.popC, PV.popAC, PV.setIx, PV.truth, PV.storeAll, PL.big_le_0, PL.big_le_1, PL.big_le_2, PL.big_le_3, PL.big_le_4, PL.big_le_5, PL.big_le_6, PL.big_le_7, PL.big_le_8, PL.big_le_9, PL.big_le_10, PL.big_le_11, PL.big_le_12, PL.big_le_13, PV.unpT, PV.compTurn, PV.bindTo, PV.setAll, PV.wipeE, PV.backE, PV.forTurn, PV.tupT, PV.startE, PV.slotOf, PV.endC, PV.mutsAt, PV.runF, List.getElem?_cons_zero, List.getElem?_cons_succ, List.getElem?_nil, Option.bind_some, Option.bind_none, Option.map_some, Option.map_none, List.set_cons_zero, List.set_cons_succ, List.isEmpty_nil, List.isEmpty_cons, if_true, if_false, List.replicate_succ, List.replicate_zero, List.length_cons, List.length_nil, Bool.not_true, Bool.not_false, Bool.and_true, Bool.and_false, Bool.true_and, Bool.false_and, reduceCtorEq, ne_eq, not_false_eq_true, implies_true, Bool.true_or, Bool.false_or, Bool.or_true, Bool.or_false, Nat.reduceAdd, Nat.reduceLeDiff, Nat.reduceSub, q]
end K89

set_option Elab.async false
set_option linter.all false
set_option maxRecDepth 1000000
set_option maxHeartbeats 8000000
namespace K89
open PV PySem PL
/-! ### the pot -/
structure Pot (p : List T) : Prop where
  ex : ∃ a b : Int, p = [.int a, .int b] ∧ 0 ≤ a ∧ 0 ≤ b ∧ b < 4294967296
theorem log_small {i : Int} (h : i.natAbs < 2 ^ 200) : i.natAbs.log2 ≤ 200 := by
  by_cases h0 : i.natAbs = 0
  · rw [h0]; decide
  · exact Nat.le_of_lt ((Nat.log2_lt h0).mpr h)
theorem mul_ok {i j : Int} (h1 : i.natAbs < 2 ^ 200) (h2 : j.natAbs < 2 ^ 200) : binT .mul (.int i) (.int j) = some (.t (.int (i * j))) := by
  show (if okMul i j then some (A.t (.int (i * j))) else none) = _
  have := log_small h1
  have := log_small h2
  rw [if_pos (show okMul i j = true from decide_eq_true (by omega))]
theorem add_ok (i j : Int) : binT .add (.int i) (.int j) = some (.t (.int (i + j))) := rfl
theorem sub_ok (i j : Int) : binT .sub (.int i) (.int j) = some (.t (.int (i - j))) := rfl
theorem mod_ok {i j : Int} (h : 0 < j) : binT .mod (.int i) (.int j) = some (.t (.int (i % j))) := if_pos h
theorem fdiv17 (i : Int) : binT .fdiv (.int i) (.int 17) = some (.t (.int (i / 17))) := by
  show (if (0 : Int) < 17 ∧ (17 : Int).natAbs.log2 < 9000 then some (A.t (.int (i / 17))) else none) = _
  rw [if_pos (by decide)]
theorem int_ok (i : Int) : biT .int [.int i] = some (.t (.int i)) := rfl
theorem cmp_gt (i j : Int) : cmpT .gt (.int i) (.int j) = some (decide (j < i)) := rfl
theorem divmod_ok {i j : Int} (h : 0 < j ∧ j < 1073741824) : biT .divmod [.int i, .int j] = some (.t (.tup [.int (i / j), .int (i % j)])) := if_pos h
theorem idx_p0 (x y : T) : idxT (.lst [x, y]) (.int 0) = some x := rfl
theorem idx_p1 (x y : T) : idxT (.lst [x, y]) (.int 1) = some y := rfl
theorem ixN_0 : ixN 2 0 = some 0 := rfl
theorem ixN_1 : ixN 2 1 = some 1 := rfl
theorem small32 {b : Int} (h0 : 0 ≤ b) (h : b < 4294967296) : b.natAbs < 2 ^ 200 := Nat.lt_of_lt_of_le (show b.natAbs < 4294967296 by omega) (by decide)
theorem f8 (d n : Nat) {p : List T} (hp : Pot p) (h1 : 1 ≤ n) (h2 : n < 1000) : ∃ (r : Nat) (p' : List T), r < n ∧ Pot p' ∧ Fo (d + 1) 8 [.f p, .t (.int n)] = .ok (.t (.int r)) [p'] := by
  obtain ⟨a, b, rfl, ha, hb, hb2⟩ := hp.ex
  have e : Fo (d + 1) 8 [.f [.int a, .int b], .t (.int n)] = runF pg (Fo d) 1000 60 ⟨3, [.chg, .val], c8⟩ [.f [.int a, .int b], .t (.int n)] := rfl
  rw [e]
  unfold c8
  simp only [PL.ev_con, PL.ev_loc, PL.ev_dk0, PL.ev_dk1, PL.ev_lst, PL.ev_tup, PL.ev_bin, PL.ev_neg, PL.ev_cmp, PL.ev_chn, PL.ev_and, PL.ev_or, PL.ev_tand, PL.ev_tor, PL.ev_not, PL.ev_ite, PL.ev_isn, PL.ev_isb, PL.ev_isi, PL.ev_call, PL.ev_call1, PL.ev_bi, PL.ev_app, PL.ev_ext, PL.ev_pop, PL.ev_popA, PL.ev_idx, PL.ev_ixof, PL.ev_slc, PL.ev_rev, PV.evO, PV.evOs, PV.evP, PV.evPs, PV.evF, PV.evB, PV.evS, PL.r_ok_bind, PL.r_bad_bind, PL.rs_of_ok, PL.exs_nil, PL.exs_ex, PL.exs_retl, PL.exs_ret, PL.exs_asg, PL.exs_unp, PL.exs_par, PL.exs_set, PL.exs_aug, PL.exs_ite, PL.nxt_nx, PL.nxt_rt, PL.nxt_bk, PL.nxt_ct, PV.res, PV.ress, PV.frz, PV.frzs, PV.slotT, PV.ofA, PV.ofB, PV.ofT, PV.ofA?, PV.store1, PV.callWith, PV.argsOf, PV.argOf, PV.mutsOf, PV.lentOf, PV.isOwn, PV.putBack, PV.appC, PV.extC, PV.popC, PV.popAC, PV.setIx, PV.truth, PV.storeAll, PL.big_le_0, PL.big_le_1, PL.big_le_2, PL.big_le_3, PL.big_le_4, PL.big_le_5, PL.big_le_6, PL.big_le_7, PL.big_le_8, PL.big_le_9, PL.big_le_10, PL.big_le_11, PL.big_le_12, PL.big_le_13, PV.unpT, PV.compTurn, PV.bindTo, PV.setAll, PV.wipeE, PV.backE, PV.forTurn, PV.tupT, PV.startE, PV.slotOf, PV.endC, PV.mutsAt, PV.runF, List.getElem?_cons_zero, List.getElem?_cons_succ, List.getElem?_nil, Option.bind_some, Option.bind_none, Option.map_some, Option.map_none, List.set_cons_zero, List.set_cons_succ, List.isEmpty_nil, List.isEmpty_cons, if_true, if_false, List.replicate_succ, List.replicate_zero, List.length_cons, List.length_nil, Bool.not_true, Bool.not_false, Bool.and_true, Bool.and_false, Bool.true_and, Bool.false_and, reduceCtorEq, ne_eq, not_false_eq_true, implies_true, Bool.true_or, Bool.false_or, Bool.or_true, Bool.or_false, Nat.reduceAdd, Nat.reduceLeDiff, Nat.reduceSub, idx_p0, cmp_gt]
  cases h : decide (0 < a) with
  | true =>
    refine ⟨(a % n).toNat, [.int (a / n), .int b], ?_, ⟨_, _, rfl, ?_, hb, hb2⟩, ?_⟩
    · have := Int.emod_lt_of_pos a (show (0 : Int) < n by omega)
      have := Int.emod_nonneg a (show (n : Int) ≠ 0 by omega)
      omega
    · exact Int.ediv_nonneg ha (by omega)
    · have e2 : ((a % (n : Int)).toNat : Int) = a % n := Int.toNat_of_nonneg (Int.emod_nonneg a (by omega))
      simp only [PL.ev_con, PL.ev_loc, PL.ev_dk0, PL.ev_dk1, PL.ev_lst, PL.ev_tup, PL.ev_bin, PL.ev_neg, PL.ev_cmp, PL.ev_chn, PL.ev_and, PL.ev_or, PL.ev_tand, PL.ev_tor, PL.ev_not, PL.ev_ite, PL.ev_isn, PL.ev_isb, PL.ev_isi, PL.ev_call, PL.ev_call1, PL.ev_bi, PL.ev_app, PL.ev_ext, PL.ev_pop, PL.ev_popA, PL.ev_idx, PL.ev_ixof, PL.ev_slc, PL.ev_rev, PV.evO, PV.evOs, PV.evP, PV.evPs, PV.evF, PV.evB, PV.evS, PL.r_ok_bind, PL.r_bad_bind, PL.rs_of_ok, PL.exs_nil, PL.exs_ex, PL.exs_retl, PL.exs_ret, PL.exs_asg, PL.exs_unp, PL.exs_par, PL.exs_set, PL.exs_aug, PL.exs_ite, PL.nxt_nx, PL.nxt_rt, PL.nxt_bk, PL.nxt_ct, PV.res, PV.ress, PV.frz, PV.frzs, PV.slotT, PV.ofA, PV.ofB, PV.ofT, PV.ofA?, PV.store1, PV.callWith, PV.argsOf, PV.argOf, PV.mutsOf, PV.lentOf, PV.isOwn, PV.putBack, PV.appC, PV.extC, PV.popC, PV.popAC, PV.setIx, PV.truth, PV.storeAll, PL.big_le_0, PL.big_le_1, PL.big_le_2, PL.big_le_3, PL.big_le_4, PL.big_le_5, PL.big_le_6, PL.big_le_7, PL.big_le_8, PL.big_le_9, PL.big_le_10, PL.big_le_11, PL.big_le_12, PL.big_le_13, PV.unpT, PV.compTurn, PV.bindTo, PV.setAll, PV.wipeE, PV.backE, PV.forTurn, PV.tupT, PV.startE, PV.slotOf, PV.endC, PV.mutsAt, PV.runF, List.getElem?_cons_zero, List.getElem?_cons_succ, List.getElem?_nil, Option.bind_some, Option.bind_none, Option.map_some, Option.map_none, List.set_cons_zero, List.set_cons_succ, List.isEmpty_nil, List.isEmpty_cons, if_true, if_false, List.replicate_succ, List.replicate_zero, List.length_cons, List.length_nil, Bool.not_true, Bool.not_false, Bool.and_true, Bool.and_false, Bool.true_and, Bool.false_and, reduceCtorEq, ne_eq, not_false_eq_true, implies_true, Bool.true_or, Bool.false_or, Bool.or_true, Bool.or_false, Nat.reduceAdd, Nat.reduceLeDiff, Nat.reduceSub, idx_p0, divmod_ok (show (0 : Int) < n ∧ (n : Int) < 1073741824 by omega), ixN_0, e2]
  | false =>
    have q1 : (b * 40014 + 2003) % 2147483587 < 2147483587 := Int.emod_lt_of_pos _ (by decide)
    have q0 : 0 ≤ (b * 40014 + 2003) % 2147483587 := Int.emod_nonneg _ (by decide)
    have m1 := mul_ok (i := b) (j := 40014) (small32 hb hb2) (by decide)
    simp only [PL.ev_con, PL.ev_loc, PL.ev_dk0, PL.ev_dk1, PL.ev_lst, PL.ev_tup, PL.ev_bin, PL.ev_neg, PL.ev_cmp, PL.ev_chn, PL.ev_and, PL.ev_or, PL.ev_tand, PL.ev_tor, PL.ev_not, PL.ev_ite, PL.ev_isn, PL.ev_isb, PL.ev_isi, PL.ev_call, PL.ev_call1, PL.ev_bi, PL.ev_app, PL.ev_ext, PL.ev_pop, PL.ev_popA, PL.ev_idx, PL.ev_ixof, PL.ev_slc, PL.ev_rev, PV.evO, PV.evOs, PV.evP, PV.evPs, PV.evF, PV.evB, PV.evS, PL.r_ok_bind, PL.r_bad_bind, PL.rs_of_ok, PL.exs_nil, PL.exs_ex, PL.exs_retl, PL.exs_ret, PL.exs_asg, PL.exs_unp, PL.exs_par, PL.exs_set, PL.exs_aug, PL.exs_ite, PL.nxt_nx, PL.nxt_rt, PL.nxt_bk, PL.nxt_ct, PV.res, PV.ress, PV.frz, PV.frzs, PV.slotT, PV.ofA, PV.ofB, PV.ofT, PV.ofA?, PV.store1, PV.callWith, PV.argsOf, PV.argOf, PV.mutsOf, PV.lentOf, PV.isOwn, PV.putBack, PV.appC, PV.extC, PV.popC, PV.popAC, PV.setIx, PV.truth, PV.storeAll, PL.big_le_0, PL.big_le_1, PL.big_le_2, PL.big_le_3, PL.big_le_4, PL.big_le_5, PL.big_le_6, PL.big_le_7, PL.big_le_8, PL.big_le_9, PL.big_le_10, PL.big_le_11, PL.big_le_12, PL.big_le_13, PV.unpT, PV.compTurn, PV.bindTo, PV.setAll, PV.wipeE, PV.backE, PV.forTurn, PV.tupT, PV.startE, PV.slotOf, PV.endC, PV.mutsAt, PV.runF, List.getElem?_cons_zero, List.getElem?_cons_succ, List.getElem?_nil, Option.bind_some, Option.bind_none, Option.map_some, Option.map_none, List.set_cons_zero, List.set_cons_succ, List.isEmpty_nil, List.isEmpty_cons, if_true, if_false, List.replicate_succ, List.replicate_zero, List.length_cons, List.length_nil, Bool.not_true, Bool.not_false, Bool.and_true, Bool.and_false, Bool.true_and, Bool.false_and, reduceCtorEq, ne_eq, not_false_eq_true, implies_true, Bool.true_or, Bool.false_or, Bool.or_true, Bool.or_false, Nat.reduceAdd, Nat.reduceLeDiff, Nat.reduceSub, idx_p1, m1, add_ok, int_ok, mod_ok (show (0 : Int) < 2147483587 by decide), ixN_1]
    generalize (b * 40014 + 2003) % 2147483587 = c at q0 q1
    have m2 := mul_ok (i := c) (j := c) (small32 q0 (by omega)) (small32 q0 (by omega))
    have z1 := Int.emod_lt_of_pos (c * c % 2147483549 / 17) (show (0 : Int) < n by omega)
    have z0 := Int.emod_nonneg (c * c % 2147483549 / 17) (show (n : Int) ≠ 0 by omega)
    refine ⟨((c * c % 2147483549 / 17) % n).toNat, [.int a, .int c], by omega, ⟨_, _, rfl, ha, q0, by omega⟩, ?_⟩
    have e2 : (((c * c % 2147483549 / 17) % (n : Int)).toNat : Int) = (c * c % 2147483549 / 17) % n := Int.toNat_of_nonneg z0
    simp only [PL.ev_con, PL.ev_loc, PL.ev_dk0, PL.ev_dk1, PL.ev_lst, PL.ev_tup, PL.ev_bin, PL.ev_neg, PL.ev_cmp, PL.ev_chn, PL.ev_and, PL.ev_or, PL.ev_tand, PL.ev_tor, PL.ev_not, PL.ev_ite, PL.ev_isn, PL.ev_isb, PL.ev_isi, PL.ev_call, PL.ev_call1, PL.ev_bi, PL.ev_app, PL.ev_ext, PL.ev_pop, PL.ev_popA, PL.ev_idx, PL.ev_ixof, PL.ev_slc, PL.ev_rev, PV.evO, PV.evOs, PV.evP, PV.evPs, PV.evF, PV.evB, PV.evS, PL.r_ok_bind, PL.r_bad_bind, PL.rs_of_ok, PL.exs_nil, PL.exs_ex, PL.exs_retl, PL.exs_ret, PL.exs_asg, PL.exs_unp, PL.exs_par, PL.exs_set, PL.exs_aug, PL.exs_ite, PL.nxt_nx, PL.nxt_rt, PL.nxt_bk, PL.nxt_ct, PV.res, PV.ress, PV.frz, PV.frzs, PV.slotT, PV.ofA, PV.ofB, PV.ofT, PV.ofA?, PV.store1, PV.callWith, PV.argsOf, PV.argOf, PV.mutsOf, PV.lentOf, PV.isOwn, PV.putBack, PV.appC, PV.extC, PV.popC, PV.popAC, PV.setIx, PV.truth, PV.storeAll, PL.big_le_0, PL.big_le_1, PL.big_le_2, PL.big_le_3, PL.big_le_4, PL.big_le_5, PL.big_le_6, PL.big_le_7, PL.big_le_8, PL.big_le_9, PL.big_le_10, PL.big_le_11, PL.big_le_12, PL.big_le_13, PV.unpT, PV.compTurn, PV.bindTo, PV.setAll, PV.wipeE, PV.backE, PV.forTurn, PV.tupT, PV.startE, PV.slotOf, PV.endC, PV.mutsAt, PV.runF, List.getElem?_cons_zero, List.getElem?_cons_succ, List.getElem?_nil, Option.bind_some, Option.bind_none, Option.map_some, Option.map_none, List.set_cons_zero, List.set_cons_succ, List.isEmpty_nil, List.isEmpty_cons, if_true, if_false, List.replicate_succ, List.replicate_zero, List.length_cons, List.length_nil, Bool.not_true, Bool.not_false, Bool.and_true, Bool.and_false, Bool.true_and, Bool.false_and, reduceCtorEq, ne_eq, not_false_eq_true, implies_true, Bool.true_or, Bool.false_or, Bool.or_true, Bool.or_false, Nat.reduceAdd, Nat.reduceLeDiff, Nat.reduceSub, idx_p1, m2, int_ok, mod_ok (show (0 : Int) < 2147483549 by decide), mod_ok (show (0 : Int) < n by omega), fdiv17, e2]
theorem f7 (d k : Nat) (ns : List Int) (hk : k < 2) : ∃ p, Pot p ∧ Fo (d + 1) 7 [.t (.scr ns), .t (.int k)] = .ok (.f p) [] := by
  have e : Fo (d + 1) 7 [.t (.scr ns), .t (.int k)] = runF pg (Fo d) 1000 60 ⟨3, [.val, .val], c7⟩ [.t (.scr ns), .t (.int k)] := rfl
  rw [e]
  unfold c7
  have hl : biT .len [.scr ns] = some (.t (.int (ns.length : Nat))) := rfl
  have hp : binT .pow (.int 10) (.int 18) = some (.t (.int 1000000000000000000)) := by rfl
  have hk2 : ((k : Nat) : Int).natAbs < 2 ^ 200 := Nat.lt_of_lt_of_le (show ((k : Nat) : Int).natAbs < 2 by omega) (by decide)
  have m1 := mul_ok (i := 131) (j := (k : Int)) (by decide) hk2
  have m2 := mul_ok (i := 2003) (j := (k : Int)) (by decide) hk2
  have cell : ∃ c : Int, 0 ≤ c ∧ ev pg (Fo d) 1000 60 ((Ex.cmp Cmp.lt (Ex.loc 1) (Ex.bi Bi.len [Ex.loc 0])).ite (Ex.bi Bi.abs [(Ex.loc 0).idx (Ex.loc 1)]) (Ex.bin Bin.add (Ex.bin Bin.mul (Ex.con (T.int 131)) (Ex.loc 1)) (Ex.con (T.int 59)))) [.v (.scr ns), .v (.int k), .u] = .ok (.t (.int c)) [.v (.scr ns), .v (.int k), .u] := by
    simp only [PL.ev_con, PL.ev_loc, PL.ev_dk0, PL.ev_dk1, PL.ev_lst, PL.ev_tup, PL.ev_bin, PL.ev_neg, PL.ev_cmp, PL.ev_chn, PL.ev_and, PL.ev_or, PL.ev_tand, PL.ev_tor, PL.ev_not, PL.ev_ite, PL.ev_isn, PL.ev_isb, PL.ev_isi, PL.ev_call, PL.ev_call1, PL.ev_bi, PL.ev_app, PL.ev_ext, PL.ev_pop, PL.ev_popA, PL.ev_idx, PL.ev_ixof, PL.ev_slc, PL.ev_rev, PV.evO, PV.evOs, PV.evP, PV.evPs, PV.evF, PV.evB, PV.evS, PL.r_ok_bind, PL.r_bad_bind, PL.rs_of_ok, PL.exs_nil, PL.exs_ex, PL.exs_retl, PL.exs_ret, PL.exs_asg, PL.exs_unp, PL.exs_par, PL.exs_set, PL.exs_aug, PL.exs_ite, PL.nxt_nx, PL.nxt_rt, PL.nxt_bk, PL.nxt_ct, PV.res, PV.ress, PV.frz, PV.frzs, PV.slotT, PV.ofA, PV.ofB, PV.ofT, PV.ofA?, PV.store1, PV.callWith, PV.argsOf, PV.argOf, PV.mutsOf, PV.lentOf, PV.isOwn, PV.putBack, PV.appC, PV.extC, PV.popC, PV.popAC, PV.setIx, PV.truth, PV.storeAll, PL.big_le_0, PL.big_le_1, PL.big_le_2, PL.big_le_3, PL.big_le_4, PL.big_le_5, PL.big_le_6, PL.big_le_7, PL.big_le_8, PL.big_le_9, PL.big_le_10, PL.big_le_11, PL.big_le_12, PL.big_le_13, PV.unpT, PV.compTurn, PV.bindTo, PV.setAll, PV.wipeE, PV.backE, PV.forTurn, PV.tupT, PV.startE, PV.slotOf, PV.endC, PV.mutsAt, PV.runF, List.getElem?_cons_zero, List.getElem?_cons_succ, List.getElem?_nil, Option.bind_some, Option.bind_none, Option.map_some, Option.map_none, List.set_cons_zero, List.set_cons_succ, List.isEmpty_nil, List.isEmpty_cons, if_true, if_false, List.replicate_succ, List.replicate_zero, List.length_cons, List.length_nil, Bool.not_true, Bool.not_false, Bool.and_true, Bool.and_false, Bool.true_and, Bool.false_and, reduceCtorEq, ne_eq, not_false_eq_true, implies_true, Bool.true_or, Bool.false_or, Bool.or_true, Bool.or_false, Nat.reduceAdd, Nat.reduceLeDiff, Nat.reduceSub, hl, cmp_lt]
    cases h : decide ((k : Int) < (ns.length : Nat)) with
    | true =>
      have hk3 : k < ns.length := by have := of_decide_eq_true h; omega
      have hi : idxT (.scr ns) (.int k) = some (.int (ns[k]'hk3)) := by
        show (ixN ns.length k).bind (fun j => (ns[j]?).map T.int) = _
        unfold ixN
        rw [if_pos (by omega), if_pos (by omega), Option.bind_some, Int.toNat_natCast, List.getElem?_eq_getElem hk3]
        rfl
      have ha : biT .abs [.int (ns[k]'hk3)] = some (.t (.int (if ns[k]'hk3 < 0 then -(ns[k]'hk3) else ns[k]'hk3))) := rfl
      exact ⟨if ns[k]'hk3 < 0 then -(ns[k]'hk3) else ns[k]'hk3, by split <;> omega, by simp only [PL.ev_con, PL.ev_loc, PL.ev_dk0, PL.ev_dk1, PL.ev_lst, PL.ev_tup, PL.ev_bin, PL.ev_neg, PL.ev_cmp, PL.ev_chn, PL.ev_and, PL.ev_or, PL.ev_tand, PL.ev_tor, PL.ev_not, PL.ev_ite, PL.ev_isn, PL.ev_isb, PL.ev_isi, PL.ev_call, PL.ev_call1, PL.ev_bi, PL.ev_app, PL.ev_ext, PL.ev_pop, PL.ev_popA, PL.ev_idx, PL.ev_ixof, PL.ev_slc, PL.ev_rev, PV.evO, PV.evOs, PV.evP, PV.evPs, PV.evF, PV.evB, PV.evS, PL.r_ok_bind, PL.r_bad_bind, PL.rs_of_ok, PL.exs_nil, PL.exs_ex, PL.exs_retl, PL.exs_ret, PL.exs_asg, PL.exs_unp, PL.exs_par, PL.exs_set, PL.exs_aug, PL.exs_ite, PL.nxt_nx, PL.nxt_rt, PL.nxt_bk, PL.nxt_ct, PV.res, PV.ress, PV.frz, PV.frzs, PV.slotT, PV.ofA, PV.ofB, PV.ofT, PV.ofA?, PV.store1, PV.callWith, PV.argsOf, PV.argOf, PV.mutsOf, PV.lentOf, PV.isOwn, PV.putBack, PV.appC, PV.extC, PV.popC, PV.popAC, PV.setIx, PV.truth, PV.storeAll, PL.big_le_0, PL.big_le_1, PL.big_le_2, PL.big_le_3, PL.big_le_4, PL.big_le_5, PL.big_le_6, PL.big_le_7, PL.big_le_8, PL.big_le_9, PL.big_le_10, PL.big_le_11, PL.big_le_12, PL.big_le_13, PV.unpT, PV.compTurn, PV.bindTo, PV.setAll, PV.wipeE, PV.backE, PV.forTurn, PV.tupT, PV.startE, PV.slotOf, PV.endC, PV.mutsAt, PV.runF, List.getElem?_cons_zero, List.getElem?_cons_succ, List.getElem?_nil, Option.bind_some, Option.bind_none, Option.map_some, Option.map_none, List.set_cons_zero, List.set_cons_succ, List.isEmpty_nil, List.isEmpty_cons, if_true, if_false, List.replicate_succ, List.replicate_zero, List.length_cons, List.length_nil, Bool.not_true, Bool.not_false, Bool.and_true, Bool.and_false, Bool.true_and, Bool.false_and, reduceCtorEq, ne_eq, not_false_eq_true, implies_true, Bool.true_or, Bool.false_or, Bool.or_true, Bool.or_false, Nat.reduceAdd, Nat.reduceLeDiff, Nat.reduceSub, hi, ha]⟩
    | false => exact ⟨131 * k + 59, by omega, by simp only [PL.ev_con, PL.ev_loc, PL.ev_dk0, PL.ev_dk1, PL.ev_lst, PL.ev_tup, PL.ev_bin, PL.ev_neg, PL.ev_cmp, PL.ev_chn, PL.ev_and, PL.ev_or, PL.ev_tand, PL.ev_tor, PL.ev_not, PL.ev_ite, PL.ev_isn, PL.ev_isb, PL.ev_isi, PL.ev_call, PL.ev_call1, PL.ev_bi, PL.ev_app, PL.ev_ext, PL.ev_pop, PL.ev_popA, PL.ev_idx, PL.ev_ixof, PL.ev_slc, PL.ev_rev, PV.evO, PV.evOs, PV.evP, PV.evPs, PV.evF, PV.evB, PV.evS, PL.r_ok_bind, PL.r_bad_bind, PL.rs_of_ok, PL.exs_nil, PL.exs_ex, PL.exs_retl, PL.exs_ret, PL.exs_asg, PL.exs_unp, PL.exs_par, PL.exs_set, PL.exs_aug, PL.exs_ite, PL.nxt_nx, PL.nxt_rt, PL.nxt_bk, PL.nxt_ct, PV.res, PV.ress, PV.frz, PV.frzs, PV.slotT, PV.ofA, PV.ofB, PV.ofT, PV.ofA?, PV.store1, PV.callWith, PV.argsOf, PV.argOf, PV.mutsOf, PV.lentOf, PV.isOwn, PV.putBack, PV.appC, PV.extC, PV.popC, PV.popAC, PV.setIx, PV.truth, PV.storeAll, PL.big_le_0, PL.big_le_1, PL.big_le_2, PL.big_le_3, PL.big_le_4, PL.big_le_5, PL.big_le_6, PL.big_le_7, PL.big_le_8, PL.big_le_9, PL.big_le_10, PL.big_le_11, PL.big_le_12, PL.big_le_13, PV.unpT, PV.compTurn, PV.bindTo, PV.setAll, PV.wipeE, PV.backE, PV.forTurn, PV.tupT, PV.startE, PV.slotOf, PV.endC, PV.mutsAt, PV.runF, List.getElem?_cons_zero, List.getElem?_cons_succ, List.getElem?_nil, Option.bind_some, Option.bind_none, Option.map_some, Option.map_none, List.set_cons_zero, List.set_cons_succ, List.isEmpty_nil, List.isEmpty_cons, if_true, if_false, List.replicate_succ, List.replicate_zero, List.length_cons, List.length_nil, Bool.not_true, Bool.not_false, Bool.and_true, Bool.and_false, Bool.true_and, Bool.false_and, reduceCtorEq, ne_eq, not_false_eq_true, implies_true, Bool.true_or, Bool.false_or, Bool.or_true, Bool.or_false, Nat.reduceAdd, Nat.reduceLeDiff, Nat.reduceSub, m1, add_ok]⟩
  obtain ⟨c, hc, hcell⟩ := cell
  have q1 := Int.emod_lt_of_pos c (show (0 : Int) < 2147483549 by decide)
  have q0 := Int.emod_nonneg c (show (2147483549 : Int) ≠ 0 by decide)
  have m3 := mul_ok (i := c % 2147483549) (j := 37993) (small32 q0 (by omega)) (by decide)
  have r1 := Int.emod_lt_of_pos (c % 2147483549 * 37993 + 2003 * k + 71) (show (0 : Int) < 2147483563 by decide)
  have r0 := Int.emod_nonneg (c % 2147483549 * 37993 + 2003 * k + 71) (show (2147483563 : Int) ≠ 0 by decide)
  refine ⟨[.int (if c - 1000000000000000000 > 0 then c - 1000000000000000000 else 0), .int ((c % 2147483549 * 37993 + 2003 * k + 71) % 2147483563 + 1)], ⟨_, _, rfl, ?_, by omega, by omega⟩, ?_⟩
  · split <;> omega
  · have hm : biT .max2 [.int 0, .int (c - 1000000000000000000)] = some (.t (.int (if c - 1000000000000000000 > 0 then c - 1000000000000000000 else 0))) := rfl
    have hst : runF pg (Fo d) 1000 60 ⟨3, [.val, .val], c7⟩ [.t (.scr ns), .t (.int k)] = (match exs pg (Fo d) 1000 60 60 c7 [.v (.scr ns), .v (.int k), .u] with
      | .nx ρ => endC ⟨3, [.val, .val], c7⟩ (.t .non) ρ
      | .rt a ρ => endC ⟨3, [.val, .val], c7⟩ a ρ
      | .exc c ts _ => .exc c ts
      | _ => .bad) := rfl
    unfold c7 at hst
    rw [hst, exs_asg]
    erw [hcell]
    simp only [PL.ev_con, PL.ev_loc, PL.ev_dk0, PL.ev_dk1, PL.ev_lst, PL.ev_tup, PL.ev_bin, PL.ev_neg, PL.ev_cmp, PL.ev_chn, PL.ev_and, PL.ev_or, PL.ev_tand, PL.ev_tor, PL.ev_not, PL.ev_ite, PL.ev_isn, PL.ev_isb, PL.ev_isi, PL.ev_call, PL.ev_call1, PL.ev_bi, PL.ev_app, PL.ev_ext, PL.ev_pop, PL.ev_popA, PL.ev_idx, PL.ev_ixof, PL.ev_slc, PL.ev_rev, PV.evO, PV.evOs, PV.evP, PV.evPs, PV.evF, PV.evB, PV.evS, PL.r_ok_bind, PL.r_bad_bind, PL.rs_of_ok, PL.exs_nil, PL.exs_ex, PL.exs_retl, PL.exs_ret, PL.exs_asg, PL.exs_unp, PL.exs_par, PL.exs_set, PL.exs_aug, PL.exs_ite, PL.nxt_nx, PL.nxt_rt, PL.nxt_bk, PL.nxt_ct, PV.res, PV.ress, PV.frz, PV.frzs, PV.slotT, PV.ofA, PV.ofB, PV.ofT, PV.ofA?, PV.store1, PV.callWith, PV.argsOf, PV.argOf, PV.mutsOf, PV.lentOf, PV.isOwn, PV.putBack, PV.appC, PV.extC, PV.popC, PV.popAC, PV.setIx, PV.truth, PV.storeAll, PL.big_le_0, PL.big_le_1, PL.big_le_2, PL.big_le_3, PL.big_le_4, PL.big_le_5, PL.big_le_6, PL.big_le_7, PL.big_le_8, PL.big_le_9, PL.big_le_10, PL.big_le_11, PL.big_le_12, PL.big_le_13, PV.unpT, PV.compTurn, PV.bindTo, PV.setAll, PV.wipeE, PV.backE, PV.forTurn, PV.tupT, PV.startE, PV.slotOf, PV.endC, PV.mutsAt, PV.runF, List.getElem?_cons_zero, List.getElem?_cons_succ, List.getElem?_nil, Option.bind_some, Option.bind_none, Option.map_some, Option.map_none, List.set_cons_zero, List.set_cons_succ, List.isEmpty_nil, List.isEmpty_cons, if_true, if_false, List.replicate_succ, List.replicate_zero, List.length_cons, List.length_nil, Bool.not_true, Bool.not_false, Bool.and_true, Bool.and_false, Bool.true_and, Bool.false_and, reduceCtorEq, ne_eq, not_false_eq_true, implies_true, Bool.true_or, Bool.false_or, Bool.or_true, Bool.or_false, Nat.reduceAdd, Nat.reduceLeDiff, Nat.reduceSub, hp, m2, m3, add_ok, sub_ok, int_ok, hm, mod_ok (show (0 : Int) < 2147483549 by decide), mod_ok (show (0 : Int) < 2147483563 by decide)]
theorem f9 (d : Nat) {p xs : List T} (hp : Pot p) (h1 : 1 ≤ xs.length) (h2 : xs.length < 64) : ∃ x p', x ∈ xs ∧ Pot p' ∧ Fo (d + 2) 9 [.f p, .t (.lst xs)] = .ok (.t x) [p'] := by
  have e : Fo (d + 2) 9 [.f p, .t (.lst xs)] = runF pg (Fo (d + 1)) 1000 60 ⟨2, [.chg, .val], c9⟩ [.f p, .t (.lst xs)] := rfl
  rw [e]
  unfold c9
  have hl : biT .len [.lst xs] = some (.t (.int (xs.length : Nat))) := rfl
  obtain ⟨r, p', hr, hp', hc⟩ := f8 d xs.length hp h1 (by omega)
  have hi : idxT (.lst xs) (.int r) = some (xs[r]'hr) := by
    show (ixN xs.length r).bind (fun j => xs[j]?) = _
    unfold ixN
    rw [if_pos (by omega), if_pos (by omega), Option.bind_some, Int.toNat_natCast, List.getElem?_eq_getElem hr]
  refine ⟨xs[r], p', List.getElem_mem hr, hp', ?_⟩
  have nl : ((0 : Nat) ∈ ([] : List Nat)) = False := by simp
  simp only [PL.ev_con, PL.ev_loc, PL.ev_dk0, PL.ev_dk1, PL.ev_lst, PL.ev_tup, PL.ev_bin, PL.ev_neg, PL.ev_cmp, PL.ev_chn, PL.ev_and, PL.ev_or, PL.ev_tand, PL.ev_tor, PL.ev_not, PL.ev_ite, PL.ev_isn, PL.ev_isb, PL.ev_isi, PL.ev_call, PL.ev_call1, PL.ev_bi, PL.ev_app, PL.ev_ext, PL.ev_pop, PL.ev_popA, PL.ev_idx, PL.ev_ixof, PL.ev_slc, PL.ev_rev, PV.evO, PV.evOs, PV.evP, PV.evPs, PV.evF, PV.evB, PV.evS, PL.r_ok_bind, PL.r_bad_bind, PL.rs_of_ok, PL.exs_nil, PL.exs_ex, PL.exs_retl, PL.exs_ret, PL.exs_asg, PL.exs_unp, PL.exs_par, PL.exs_set, PL.exs_aug, PL.exs_ite, PL.nxt_nx, PL.nxt_rt, PL.nxt_bk, PL.nxt_ct, PV.res, PV.ress, PV.frz, PV.frzs, PV.slotT, PV.ofA, PV.ofB, PV.ofT, PV.ofA?, PV.store1, PV.callWith, PV.argsOf, PV.argOf, PV.mutsOf, PV.lentOf, PV.isOwn, PV.putBack, PV.appC, PV.extC, PV.popC, PV.popAC, PV.setIx, PV.truth, PV.storeAll, PL.big_le_0, PL.big_le_1, PL.big_le_2, PL.big_le_3, PL.big_le_4, PL.big_le_5, PL.big_le_6, PL.big_le_7, PL.big_le_8, PL.big_le_9, PL.big_le_10, PL.big_le_11, PL.big_le_12, PL.big_le_13, PV.unpT, PV.compTurn, PV.bindTo, PV.setAll, PV.wipeE, PV.backE, PV.forTurn, PV.tupT, PV.startE, PV.slotOf, PV.endC, PV.mutsAt, PV.runF, List.getElem?_cons_zero, List.getElem?_cons_succ, List.getElem?_nil, Option.bind_some, Option.bind_none, Option.map_some, Option.map_none, List.set_cons_zero, List.set_cons_succ, List.isEmpty_nil, List.isEmpty_cons, if_true, if_false, List.replicate_succ, List.replicate_zero, List.length_cons, List.length_nil, Bool.not_true, Bool.not_false, Bool.and_true, Bool.and_false, Bool.true_and, Bool.false_and, reduceCtorEq, ne_eq, not_false_eq_true, implies_true, Bool.true_or, Bool.false_or, Bool.or_true, Bool.or_false, Nat.reduceAdd, Nat.reduceLeDiff, Nat.reduceSub, hl, hc, p8, List.contains_nil, hi]
end K89

set_option Elab.async false
set_option linter.all false
set_option maxRecDepth 1000000
set_option maxHeartbeats 8000000
namespace K89
open PV PySem PL
def rangeT (n : Nat) : List T := (List.range n).map fun (k : Nat) => T.int (0 + (k : Int))
theorem rangeT_get (n i : Nat) : (rangeT n)[i]? = if i < n then some (T.int (0 + (i : Int))) else none := by
  unfold rangeT
  rw [List.getElem?_map]
  by_cases h : i < n
  · rw [List.getElem?_range h, if_pos h]; rfl
  · rw [if_neg h, List.getElem?_eq_none (by simpa using h)]; rfl
theorem rangeT_length (n : Nat) : (rangeT n).length = n := by simp [rangeT]
theorem len_lst (xs : List T) : biT .len [.lst xs] = some (.t (.int (xs.length : Nat))) := rfl
theorem list_lst (xs : List T) : biT .list [.lst xs] = some (.f xs) := rfl
theorem list_tup (xs : List T) : biT .list [.tup xs] = some (.f xs) := rfl
theorem erase_perm {α : Type} : ∀ (l : List α) (r : Nat) (h : r < l.length), (l[r] :: l.eraseIdx r).Perm l
  | x :: l, 0, _ => .refl _
  | x :: l, r + 1, h => by
    have ih := erase_perm l r (Nat.lt_of_succ_lt_succ h)
    show ((l[r]'(Nat.lt_of_succ_lt_succ h)) :: x :: l.eraseIdx r).Perm (x :: l)
    exact (List.Perm.swap _ _ _).trans (ih.cons x)
abbrev b14 : List Sm := [Sm.ex (Ex.app 3 (Ex.popA 2 (Ex.call 8 [] [Ex.loc 0, Ex.bi Bi.len [Ex.loc 2]])))]
structure I14 (xs : List T) (i : Nat) (ρ : Rho) : Prop where
  ex : ∃ q left found s, ρ = [.o false q, .v (.lst xs), .o true left, .o true found, s] ∧ Pot q ∧ (found ++ left).Perm xs ∧ left.length + i = xs.length
theorem step14 (d : Nat) {xs : List T} (h2 : xs.length < 64) (i : Nat) (x : T) (ρ : Rho) (hi : (rangeT xs.length)[i]? = some x) (hI : I14 xs i ρ) : ∃ ρ', forTurn [4] false (exs pg (Fo (d + 1)) 1000 60 58 b14) x ρ = .nx ρ' ∧ I14 xs (i + 1) ρ' := by
  obtain ⟨q, left, found, s, rfl, hq, hperm, hlen⟩ := hI.ex
  rw [rangeT_get] at hi
  split at hi
  case isFalse => cases hi
  rename_i hlt
  cases hi
  obtain ⟨r, q', hr, hq', hc⟩ := f8 d left.length hq (by omega) (by omega)
  have hx : left[r]? = some (left[r]'hr) := List.getElem?_eq_getElem hr
  have hn : ixN left.length (r : Int) = some r := by
    unfold ixN
    rw [if_pos (by omega), if_pos (by omega), Int.toNat_natCast]
  have hfl : found.length + left.length = xs.length := by rw [← hperm.length_eq, List.length_append]
  have hb1 : left.length ≤ big := Nat.le_trans (show left.length ≤ 64 by omega) (by decide)
  have hb2 : found.length < big := Nat.lt_of_lt_of_le (show found.length < 64 by omega) (by decide)
  refine ⟨[.o false q', .v (.lst xs), .o true (left.eraseIdx r), .o true (found ++ [left[r]'hr]), .v (.int (0 + (i : Int)))], ?_, ⟨q', left.eraseIdx r, found ++ [left[r]'hr], _, rfl, hq', ?_, ?_⟩⟩
  · simp only [PL.ev_con, PL.ev_loc, PL.ev_dk0, PL.ev_dk1, PL.ev_lst, PL.ev_tup, PL.ev_bin, PL.ev_neg, PL.ev_cmp, PL.ev_chn, PL.ev_and, PL.ev_or, PL.ev_tand, PL.ev_tor, PL.ev_not, PL.ev_ite, PL.ev_isn, PL.ev_isb, PL.ev_isi, PL.ev_call, PL.ev_call1, PL.ev_bi, PL.ev_app, PL.ev_ext, PL.ev_pop, PL.ev_popA, PL.ev_idx, PL.ev_ixof, PL.ev_slc, PL.ev_rev, PV.evO, PV.evOs, PV.evP, PV.evPs, PV.evF, PV.evB, PV.evS, PL.r_ok_bind, PL.r_bad_bind, PL.rs_of_ok, PL.exs_nil, PL.exs_ex, PL.exs_retl, PL.exs_ret, PL.exs_asg, PL.exs_unp, PL.exs_par, PL.exs_set, PL.exs_aug, PL.exs_ite, PL.nxt_nx, PL.nxt_rt, PL.nxt_bk, PL.nxt_ct, PV.res, PV.ress, PV.frz, PV.frzs, PV.slotT, PV.ofA, PV.ofB, PV.ofT, PV.ofA?, PV.store1, PV.callWith, PV.argsOf, PV.argOf, PV.mutsOf, PV.lentOf, PV.isOwn, PV.putBack, PV.appC, PV.extC, PV.popC, PV.popAC, PV.setIx, PV.truth, PV.storeAll, PL.big_le_0, PL.big_le_1, PL.big_le_2, PL.big_le_3, PL.big_le_4, PL.big_le_5, PL.big_le_6, PL.big_le_7, PL.big_le_8, PL.big_le_9, PL.big_le_10, PL.big_le_11, PL.big_le_12, PL.big_le_13, PV.unpT, PV.compTurn, PV.bindTo, PV.setAll, PV.wipeE, PV.backE, PV.forTurn, PV.tupT, PV.startE, PV.slotOf, PV.endC, PV.mutsAt, PV.runF, List.getElem?_cons_zero, List.getElem?_cons_succ, List.getElem?_nil, Option.bind_some, Option.bind_none, Option.map_some, Option.map_none, List.set_cons_zero, List.set_cons_succ, List.isEmpty_nil, List.isEmpty_cons, if_true, if_false, List.replicate_succ, List.replicate_zero, List.length_cons, List.length_nil, Bool.not_true, Bool.not_false, Bool.and_true, Bool.and_false, Bool.true_and, Bool.false_and, reduceCtorEq, ne_eq, not_false_eq_true, implies_true, Bool.true_or, Bool.false_or, Bool.or_true, Bool.or_false, Nat.reduceAdd, Nat.reduceLeDiff, Nat.reduceSub, len_lst, hc, p8, List.contains_nil, hn, hx, hb1, hb2]
  · refine List.Perm.trans ?_ hperm
    rw [List.append_assoc, List.singleton_append]
    exact List.Perm.append_left _ (erase_perm left r hr)
  · rw [List.length_eraseIdx_of_lt hr]; omega
theorem hif14 (d : Nat) {p xs : List T} (h2 : xs.length < 64) : evIf (ev pg (Fo (d + 1)) 1000 60) 1 [.bi .len [.loc 1]] [.o false p, .v (.lst xs), .o true xs, .o true [], .u] = .ok (.rg 0 xs.length) [.o false p, .v (.lst xs), .o true xs, .o true [], .u] := by
  refine evIf_x (t := .int (xs.length : Nat)) ?_ (iv_range (by omega))
  simp only [PL.ev_bi, PV.evPs, PV.evOs, PV.evO, PV.ress, PV.res, PV.ofA, PV.ofA?, PV.slotT, PL.r_ok_bind, List.getElem?_cons_zero, List.getElem?_cons_succ, Option.bind_some, len_lst]
theorem loop14 (d : Nat) {p xs : List T} (hp : Pot p) (h2 : xs.length < 64) : ∃ ρ', forL (forTurn [4] false (exs pg (Fo (d + 1)) 1000 60 58 b14)) (.rg 0 xs.length) 1000 0 [.o false p, .v (.lst xs), .o true xs, .o true [], .u] = .nx ρ' ∧ I14 xs xs.length ρ' := by
  have z := forL_inv (iv := .rg 0 xs.length) (xs := rangeT xs.length) (I14 xs) (fun i ρ => by rw [rangeT_get]; rfl) (step14 d h2) 1000 0 [.o false p, .v (.lst xs), .o true xs, .o true [], .u] (Nat.zero_le _) (by rw [rangeT_length]; omega) ⟨p, xs, [], .u, rfl, hp, List.Perm.refl _, rfl⟩
  rw [rangeT_length] at z
  exact z
theorem c14_eq : c14 = [Sm.par 2 3 (Ex.bi Bi.list [Ex.loc 1]) (Ex.lst []), Sm.for_ [4] false 1 [Ex.bi Bi.len [Ex.loc 1]] b14, Sm.ret (Ex.loc 3)] := rfl
theorem par14 (d : Nat) {p xs : List T} {r : List Sm} : exs pg (Fo (d + 1)) 1000 60 60 (Sm.par 2 3 (Ex.bi Bi.list [Ex.loc 1]) (Ex.lst []) :: r) [.o false p, .v (.lst xs), .u, .u, .u] = exs pg (Fo (d + 1)) 1000 60 59 r [.o false p, .v (.lst xs), .o true xs, .o true [], .u] := by
  rw [exs_par]
  simp only [PL.ev_con, PL.ev_loc, PL.ev_dk0, PL.ev_dk1, PL.ev_lst, PL.ev_tup, PL.ev_bin, PL.ev_neg, PL.ev_cmp, PL.ev_chn, PL.ev_and, PL.ev_or, PL.ev_tand, PL.ev_tor, PL.ev_not, PL.ev_ite, PL.ev_isn, PL.ev_isb, PL.ev_isi, PL.ev_call, PL.ev_call1, PL.ev_bi, PL.ev_app, PL.ev_ext, PL.ev_pop, PL.ev_popA, PL.ev_idx, PL.ev_ixof, PL.ev_slc, PL.ev_rev, PV.evO, PV.evOs, PV.evP, PV.evPs, PV.evF, PV.evB, PV.evS, PL.r_ok_bind, PL.r_bad_bind, PL.rs_of_ok, PL.exs_nil, PL.exs_ex, PL.exs_retl, PL.exs_ret, PL.exs_asg, PL.exs_unp, PL.exs_par, PL.exs_set, PL.exs_aug, PL.exs_ite, PL.nxt_nx, PL.nxt_rt, PL.nxt_bk, PL.nxt_ct, PV.res, PV.ress, PV.frz, PV.frzs, PV.slotT, PV.ofA, PV.ofB, PV.ofT, PV.ofA?, PV.store1, PV.callWith, PV.argsOf, PV.argOf, PV.mutsOf, PV.lentOf, PV.isOwn, PV.putBack, PV.appC, PV.extC, PV.popC, PV.popAC, PV.setIx, PV.truth, PV.storeAll, PL.big_le_0, PL.big_le_1, PL.big_le_2, PL.big_le_3, PL.big_le_4, PL.big_le_5, PL.big_le_6, PL.big_le_7, PL.big_le_8, PL.big_le_9, PL.big_le_10, PL.big_le_11, PL.big_le_12, PL.big_le_13, PV.unpT, PV.compTurn, PV.bindTo, PV.setAll, PV.wipeE, PV.backE, PV.forTurn, PV.tupT, PV.startE, PV.slotOf, PV.endC, PV.mutsAt, PV.runF, List.getElem?_cons_zero, List.getElem?_cons_succ, List.getElem?_nil, Option.bind_some, Option.bind_none, Option.map_some, Option.map_none, List.set_cons_zero, List.set_cons_succ, List.isEmpty_nil, List.isEmpty_cons, if_true, if_false, List.replicate_succ, List.replicate_zero, List.length_cons, List.length_nil, Bool.not_true, Bool.not_false, Bool.and_true, Bool.and_false, Bool.true_and, Bool.false_and, reduceCtorEq, ne_eq, not_false_eq_true, implies_true, Bool.true_or, Bool.false_or, Bool.or_true, Bool.or_false, Nat.reduceAdd, Nat.reduceLeDiff, Nat.reduceSub, list_lst]
theorem for14 (d : Nat) {p xs : List T} {r : List Sm} (h2 : xs.length < 64) : exs pg (Fo (d + 1)) 1000 60 59 (Sm.for_ [4] false 1 [Ex.bi Bi.len [Ex.loc 1]] b14 :: r) [.o false p, .v (.lst xs), .o true xs, .o true [], .u] = (forL (forTurn [4] false (exs pg (Fo (d + 1)) 1000 60 58 b14)) (.rg 0 xs.length) 1000 0 [.o false p, .v (.lst xs), .o true xs, .o true [], .u]).nxt (exs pg (Fo (d + 1)) 1000 60 58 r) := by
  rw [exs_for, hif14 d h2, rs_of_ok]
theorem ret14 (d : Nat) {q found xs left : List T} {s : Sl} : exs pg (Fo (d + 1)) 1000 60 58 [Sm.ret (Ex.loc 3)] [.o false q, .v (.lst xs), .o true left, .o true found, s] = .rt (.f found) [.o false q, .v (.lst xs), .o true left, .o true found, s] := by
  simp only [PL.ev_con, PL.ev_loc, PL.ev_dk0, PL.ev_dk1, PL.ev_lst, PL.ev_tup, PL.ev_bin, PL.ev_neg, PL.ev_cmp, PL.ev_chn, PL.ev_and, PL.ev_or, PL.ev_tand, PL.ev_tor, PL.ev_not, PL.ev_ite, PL.ev_isn, PL.ev_isb, PL.ev_isi, PL.ev_call, PL.ev_call1, PL.ev_bi, PL.ev_app, PL.ev_ext, PL.ev_pop, PL.ev_popA, PL.ev_idx, PL.ev_ixof, PL.ev_slc, PL.ev_rev, PV.evO, PV.evOs, PV.evP, PV.evPs, PV.evF, PV.evB, PV.evS, PL.r_ok_bind, PL.r_bad_bind, PL.rs_of_ok, PL.exs_nil, PL.exs_ex, PL.exs_retl, PL.exs_ret, PL.exs_asg, PL.exs_unp, PL.exs_par, PL.exs_set, PL.exs_aug, PL.exs_ite, PL.nxt_nx, PL.nxt_rt, PL.nxt_bk, PL.nxt_ct, PV.res, PV.ress, PV.frz, PV.frzs, PV.slotT, PV.ofA, PV.ofB, PV.ofT, PV.ofA?, PV.store1, PV.callWith, PV.argsOf, PV.argOf, PV.mutsOf, PV.lentOf, PV.isOwn, PV.putBack, PV.appC, PV.extC, PV.popC, PV.popAC, PV.setIx, PV.truth, PV.storeAll, PL.big_le_0, PL.big_le_1, PL.big_le_2, PL.big_le_3, PL.big_le_4, PL.big_le_5, PL.big_le_6, PL.big_le_7, PL.big_le_8, PL.big_le_9, PL.big_le_10, PL.big_le_11, PL.big_le_12, PL.big_le_13, PV.unpT, PV.compTurn, PV.bindTo, PV.setAll, PV.wipeE, PV.backE, PV.forTurn, PV.tupT, PV.startE, PV.slotOf, PV.endC, PV.mutsAt, PV.runF, List.getElem?_cons_zero, List.getElem?_cons_succ, List.getElem?_nil, Option.bind_some, Option.bind_none, Option.map_some, Option.map_none, List.set_cons_zero, List.set_cons_succ, List.isEmpty_nil, List.isEmpty_cons, if_true, if_false, List.replicate_succ, List.replicate_zero, List.length_cons, List.length_nil, Bool.not_true, Bool.not_false, Bool.and_true, Bool.and_false, Bool.true_and, Bool.false_and, reduceCtorEq, ne_eq, not_false_eq_true, implies_true, Bool.true_or, Bool.false_or, Bool.or_true, Bool.or_false, Nat.reduceAdd, Nat.reduceLeDiff, Nat.reduceSub]
theorem all14 (d : Nat) {p xs : List T} (hp : Pot p) (h2 : xs.length < 64) : ∃ found q ρ, found.Perm xs ∧ Pot q ∧ exs pg (Fo (d + 1)) 1000 60 60 c14 [.o false p, .v (.lst xs), .u, .u, .u] = .rt (.f found) ρ ∧ ρ[0]? = some (.o false q) := by
  obtain ⟨ρ', e1, hI⟩ := loop14 d hp h2
  obtain ⟨q, left, found, s, rfl, hq, hperm, hlen⟩ := hI.ex
  have hl0 : left = [] := List.length_eq_zero_iff.mp (by omega)
  subst hl0
  rw [List.append_nil] at hperm
  refine ⟨found, q, [.o false q, .v (.lst xs), .o true [], .o true found, s], hperm, hq, ?_, rfl⟩
  rw [c14_eq, par14, for14 d h2, e1, nxt_nx, ret14]
theorem f14 (d : Nat) {p xs : List T} (hp : Pot p) (h2 : xs.length < 64) : ∃ ys p', ys.Perm xs ∧ Pot p' ∧ Fo (d + 2) 14 [.f p, .t (.lst xs)] = .ok (.f ys) [p'] := by
  obtain ⟨found, q, ρ, h1, h3, h4, h5⟩ := all14 d hp h2
  refine ⟨found, q, h1, h3, ?_⟩
  exact Fd_rt p14 rfl h4 (by show (match ρ[0]? with | some (.o false xs) => (mutsAt 1 [.val] ρ).map (xs :: ·) | _ => none) = _; rw [h5]; rfl)
end K89

set_option Elab.async false
set_option linter.all false
set_option maxRecDepth 1000000
set_option maxHeartbeats 4000000
namespace K89
open PV PySem PL
/-! ### turns as lists of places -/
def app (a : List Int) (i : Int) : Int := a.getD i.toNat 0
theorem rng_sorted (n : Nat) : (rng n).Pairwise (· ≤ ·) := by
  unfold rng
  rw [List.pairwise_map]
  exact (List.pairwise_lt_range (n := n)).imp fun {a b} h => by omega
theorem rng_nodup (n : Nat) : (rng n).Nodup := by
  unfold rng
  exact List.pairwise_map.mpr ((List.pairwise_lt_range (n := n)).imp fun {a b} h => by omega)
theorem isT_perm {n : Nat} {l : List Int} (h : IsT n l) : l.Perm (rng n) := by
  rw [← h.s]
  exact (sortI_perm' l).symm
theorem isT_of {n : Nat} {l : List Int} (h : l.Perm (rng n)) : IsT n l := ⟨PySem.W.ksm_same ((sortI_perm' l).trans h) (sortI_sorted l) (rng_sorted n)⟩
theorem app_rng {n : Nat} {a : List Int} (h : a.length = n) : (rng n).map (app a) = a := by
  subst h
  apply List.ext_getElem?
  intro i
  unfold rng
  rw [List.map_map, List.getElem?_map]
  by_cases hi : i < a.length
  · rw [List.getElem?_range hi, List.getElem?_eq_getElem hi]
    show some (app a (i : Int)) = _
    unfold app
    rw [Int.toNat_natCast, List.getD_eq_getElem?_getD, List.getElem?_eq_getElem hi]
    rfl
  · rw [List.getElem?_eq_none (by simpa using hi), List.getElem?_eq_none (by omega)]
    rfl
theorem beh_eq (a b : List Int) : beh a b = b.map (app a) := rfl
theorem app_map {n : Nat} {b : List Int} (hb : b.length = n) (f : Int → Int) {i : Int} (h0 : 0 ≤ i) (h1 : i < n) : app (b.map f) i = f (app b i) := by
  unfold app
  have hi : i.toNat < b.length := by omega
  rw [List.getD_eq_getElem?_getD, List.getD_eq_getElem?_getD, List.getElem?_map, List.getElem?_eq_getElem hi]
  rfl
theorem app_mem {n : Nat} {a : List Int} (h : IsT n a) {i : Int} (h0 : 0 ≤ i) (h1 : i < n) : 0 ≤ app a i ∧ app a i < n := by
  have hi : i.toNat < a.length := by rw [h.len]; omega
  have : app a i ∈ a := by
    unfold app
    rw [List.getD_eq_getElem?_getD, List.getElem?_eq_getElem hi]
    exact List.getElem_mem hi
  exact h.mem _ this
theorem isT_beh {n : Nat} {a b : List Int} (ha : IsT n a) (hb : IsT n b) : IsT n (beh a b) := by
  refine isT_of ?_
  rw [beh_eq]
  have z := (isT_perm hb).map (app a)
  rw [app_rng ha.len] at z
  exact z.trans (isT_perm ha)
/-- where a place stands -/
def pos (σ : List Int) (p : Int) : Int := (((findT (.int p) (σ.map T.int)).getD 0 : Nat) : Int)
theorem find_ok : ∀ (σ : List Int) (p : Int), p ∈ σ → ∃ k : Nat, findT (.int p) (σ.map T.int) = some k ∧ σ[k]? = some p
  | [], p, h => by cases h
  | x :: σ, p, h => by
    show ∃ k, (if eqT (.int x) (.int p) then some 0 else (findT (.int p) (σ.map T.int)).map (· + 1)) = some k ∧ _
    by_cases e : x = p
    · subst e
      exact ⟨0, if_pos (beq_self_eq_true x), rfl⟩
    · have ne : ¬ eqT (.int x) (.int p) = true := fun z => e (eq_of_beq z)
      rcases List.mem_cons.mp h with z | z
      · exact absurd z.symm e
      · obtain ⟨k, k1, k2⟩ := find_ok σ p z
        exact ⟨k + 1, by rw [if_neg ne, k1]; rfl, by simpa using k2⟩
theorem pos_ok {n : Nat} {σ : List Int} (h : IsT n σ) {p : Int} (h0 : 0 ≤ p) (h1 : p < n) : 0 ≤ pos σ p ∧ pos σ p < n ∧ app σ (pos σ p) = p ∧ findT (.int p) (σ.map T.int) = some (pos σ p).toNat := by
  have hm : p ∈ σ := (isT_perm h).mem_iff.mpr (mem_rng.mpr ⟨h0, h1⟩)
  obtain ⟨k, k1, k2⟩ := find_ok σ p hm
  have e : pos σ p = (k : Int) := by unfold pos; rw [k1]; rfl
  have hk := (List.getElem?_eq_some_iff.mp k2).1
  rw [h.len] at hk
  refine ⟨by omega, by omega, ?_, by rw [e, Int.toNat_natCast]; exact k1⟩
  rw [e]
  unfold app
  rw [Int.toNat_natCast, List.getD_eq_getElem?_getD, k2]
  rfl
def inv (n : Nat) (σ : List Int) : List Int := (rng n).map (pos σ)
theorem app_inv {n : Nat} {σ : List Int} {p : Int} (h0 : 0 ≤ p) (h1 : p < n) : app (inv n σ) p = pos σ p := by
  unfold inv
  rw [app_map (rng_length n) _ h0 h1]
  congr 1
  unfold app rng
  rw [List.getD_eq_getElem?_getD, List.getElem?_map, List.getElem?_range (by omega)]
  show (p.toNat : Int) = p
  omega
theorem isT_inv {n : Nat} {σ : List Int} (h : IsT n σ) : IsT n (inv n σ) := by
  refine isT_of ?_
  have hnd : (inv n σ).Nodup := by
    unfold inv
    refine List.pairwise_map.mpr ?_
    have := rng_nodup n
    refine List.Pairwise.imp_of_mem (fun {a b} ha hb n e => n ?_) this
    rw [mem_rng] at ha hb
    rw [← (pos_ok h ha.1 ha.2).2.2.1, ← (pos_ok h hb.1 hb.2).2.2.1, e]
  have hsub : ∀ x ∈ inv n σ, x ∈ rng n := fun x hx => by
    obtain ⟨p, hp, rfl⟩ := List.mem_map.mp hx
    rw [mem_rng] at hp
    obtain ⟨a, b, _⟩ := pos_ok h hp.1 hp.2
    exact mem_rng.mpr ⟨a, b⟩
  have hlen : (inv n σ).length = n := by unfold inv; rw [List.length_map, rng_length]
  refine (List.perm_ext_iff_of_nodup hnd (rng_nodup n)).mpr fun x => ⟨hsub x, fun hx => Classical.byContradiction fun hn => ?_⟩
  have z := List.Nodup.length_le_of_subset (l₁ := x :: inv n σ) (l₂ := rng n) (List.nodup_cons.mpr ⟨hn, hnd⟩) (fun y hy => by
    rcases List.mem_cons.mp hy with rfl | hy
    · exact hx
    · exact hsub y hy)
  rw [List.length_cons, hlen, rng_length] at z
  omega
theorem inv_app {n : Nat} {σ : List Int} (h : IsT n σ) {i : Int} (h0 : 0 ≤ i) (h1 : i < n) : app (inv n σ) (app σ i) = i := by
  obtain ⟨m0, m1⟩ := app_mem h h0 h1
  rw [app_inv m0 m1]
  obtain ⟨p0, p1, p2, _⟩ := pos_ok h m0 m1
  have hnd : σ.Nodup := (isT_perm h).nodup_iff.mpr (rng_nodup n)
  have a1 : σ[(pos σ (app σ i)).toNat]? = some (app σ i) := by
    have hl : (pos σ (app σ i)).toNat < σ.length := by rw [h.len]; omega
    have : σ.getD (pos σ (app σ i)).toNat 0 = app σ i := p2
    rw [List.getD_eq_getElem?_getD, List.getElem?_eq_getElem hl] at this
    rw [List.getElem?_eq_getElem hl]
    exact congrArg some this
  have hl2 : i.toNat < σ.length := by rw [h.len]; omega
  have a2 : σ[i.toNat]? = some (app σ i) := by
    unfold app
    rw [List.getD_eq_getElem?_getD, List.getElem?_eq_getElem hl2]
    rfl
  have := (List.getElem?_inj hl2 hnd).mp (a2.trans a1.symm)
  omega
/-- the turn with the places renamed -/
def conj (n : Nat) (σ t : List Int) : List Int := beh σ (beh t (inv n σ))
theorem isT_conj {n : Nat} {σ t : List Int} (hs : IsT n σ) (ht : IsT n t) : IsT n (conj n σ t) := isT_beh hs (isT_beh ht (isT_inv hs))
theorem beh_assoc {n : Nat} {a b c : List Int} (hb : b.length = n) (hc : ∀ x ∈ c, 0 ≤ x ∧ x < n) : beh (beh a b) c = beh a (beh b c) := by
  rw [beh_eq, beh_eq, beh_eq, beh_eq, List.map_map]
  apply List.map_congr_left
  intro x hx
  exact app_map hb _ (hc x hx).1 (hc x hx).2
theorem beh_congr {a a' b : List Int} (h : ∀ x ∈ b, app a x = app a' x) : beh a b = beh a' b := List.map_congr_left h
theorem app_beh {n : Nat} {a b : List Int} (hb : b.length = n) {i : Int} (h0 : 0 ≤ i) (h1 : i < n) : app (beh a b) i = app a (app b i) := app_map hb _ h0 h1
theorem beh_len (a b : List Int) : (beh a b).length = b.length := List.length_map _
theorem app_conj {n : Nat} {σ t : List Int} (hs : IsT n σ) (ht : IsT n t) {i : Int} (h0 : 0 ≤ i) (h1 : i < n) : app (conj n σ t) i = app σ (app t (app (inv n σ) i)) := by
  unfold conj
  rw [app_beh (n := n) (by rw [beh_len]; exact (isT_inv hs).len) h0 h1, app_beh (isT_inv hs).len h0 h1]
theorem conj_beh {n : Nat} {σ a b : List Int} (hs : IsT n σ) (ha : IsT n a) (hb : IsT n b) : beh (conj n σ a) (conj n σ b) = conj n σ (beh a b) := by
  have hi := isT_inv hs
  have l : ∀ x ∈ beh b (inv n σ), 0 ≤ x ∧ x < n := (isT_beh hb hi).mem
  show beh (conj n σ a) (beh σ (beh b (inv n σ))) = beh σ (beh (beh a b) (inv n σ))
  rw [beh_assoc hb.len hi.mem]
  rw [beh_eq, beh_eq, beh_eq σ, beh_eq a, List.map_map, List.map_map]
  apply List.map_congr_left
  intro x hx
  obtain ⟨x0, x1⟩ := l x hx
  obtain ⟨s0, s1⟩ := app_mem hs x0 x1
  show app (conj n σ a) (app σ x) = app σ (app a x)
  rw [app_conj hs ha s0 s1, inv_app hs x0 x1]
theorem ext_T {n : Nat} {a b : List Int} (ha : a.length = n) (hb : b.length = n) (h : ∀ i : Int, 0 ≤ i → i < n → app a i = app b i) : a = b := by
  rw [← app_rng ha, ← app_rng hb]
  apply List.map_congr_left
  intro x hx
  rw [mem_rng] at hx
  exact h x hx.1 hx.2
theorem conj_inj {n : Nat} {σ a b : List Int} (hs : IsT n σ) (ha : IsT n a) (hb : IsT n b) (e : conj n σ a = conj n σ b) : a = b := by
  refine ext_T ha.len hb.len fun i h0 h1 => ?_
  obtain ⟨s0, s1⟩ := app_mem hs h0 h1
  have z : app (conj n σ a) (app σ i) = app (conj n σ b) (app σ i) := by rw [e]
  rw [app_conj hs ha s0 s1, app_conj hs hb s0 s1, inv_app hs h0 h1] at z
  obtain ⟨a0, a1⟩ := app_mem ha h0 h1
  obtain ⟨b0, b1⟩ := app_mem hb h0 h1
  rw [← inv_app hs a0 a1, z, inv_app hs b0 b1]
/-! ### groups -/
structure Grp (n : Nat) (tss : List (List Int)) : Prop where
  nd : tss.Nodup
  t : ∀ a ∈ tss, IsT n a
  cl : ∀ a ∈ tss, ∀ b ∈ tss, beh a b ∈ tss
theorem Grp.perm {n : Nat} {a b : List (List Int)} (h : Grp n a) (p : b.Perm a) : Grp n b where
  nd := p.nodup_iff.mpr h.nd
  t := fun x hx => h.t x (p.mem_iff.mp hx)
  cl := fun x hx y hy => p.mem_iff.mpr (h.cl x (p.mem_iff.mp hx) y (p.mem_iff.mp hy))
theorem Grp.conj {n : Nat} {l : List (List Int)} {σ : List Int} (h : Grp n l) (hs : IsT n σ) : Grp n (l.map (K89.conj n σ)) where
  nd := by
    refine List.pairwise_map.mpr ?_
    exact List.Pairwise.imp_of_mem (fun {a b} ha hb ne e => ne (conj_inj hs (h.t a ha) (h.t b hb) e)) h.nd
  t := fun x hx => by
    obtain ⟨t, ht, rfl⟩ := List.mem_map.mp hx
    exact isT_conj hs (h.t t ht)
  cl := fun x hx y hy => by
    obtain ⟨a, ha, rfl⟩ := List.mem_map.mp hx
    obtain ⟨b, hb, rfl⟩ := List.mem_map.mp hy
    rw [conj_beh hs (h.t a ha) (h.t b hb)]
    exact List.mem_map_of_mem (h.cl a ha b hb)
theorem Grp.okS {n : Nat} {l : List (List Int)} (h : Grp n l) : okS l = true := by
  unfold K89.okS
  rw [decide_eq_true h.nd, Bool.true_and, List.all_eq_true]
  intro a ha
  rw [List.all_eq_true]
  exact fun b hb => decide_eq_true (h.cl a ha b hb)
theorem tn_tupI {n : Nat} {a : List Int} (h : IsT n a) : tn (tupI a) n = true := by
  show (match (some (a.map T.int)).bind intsT with | some is => decide (sortI is = rng n) | none => false) = true
  rw [Option.bind_some, intsT_map]
  exact decide_eq_true h.s
theorem Grp.isG {n : Nat} {l : List (List Int)} (h : Grp n l) (h1 : 1 ≤ l.length) (h8 : l.length ≤ 8) (n1 : 1 ≤ n) (n6 : n ≤ 6) : isG (.lst (l.map tupI)) = true := by
  cases l with
  | nil => simp at h1
  | cons a r =>
    have hl : (a.map T.int).length = n := by rw [List.length_map]; exact (h.t a List.mem_cons_self).len
    show (decide (1 ≤ ((a :: r).map tupI).length) && (decide (((a :: r).map tupI).length ≤ 8) && (decide (1 ≤ (a.map T.int).length) && (decide ((a.map T.int).length ≤ 6) && (((a :: r).map tupI).all (fun x => tn x (a.map T.int).length) && K89.okS (((a :: r).map tupI).map turnI)))))) = true
    rw [List.length_map, hl, decide_eq_true h1, decide_eq_true h8, decide_eq_true n1, decide_eq_true n6]
    have e : ((a :: r).map tupI).map turnI = a :: r := by
      rw [List.map_map]
      conv => rhs; rw [← List.map_id (a :: r)]
      apply List.map_congr_left
      intro x _
      exact turnI_tupI x
    rw [e, h.okS]
    have ha : ((a :: r).map tupI).all (fun x => tn x n) = true := by
      rw [List.all_map, List.all_eq_true]
      exact fun x hx => tn_tupI (h.t x hx)
    rw [ha]; rfl
end K89

set_option Elab.async false
set_option linter.all false
set_option maxRecDepth 1000000
set_option maxHeartbeats 4000000
namespace K89
open PV PySem PL
/-- a known group: what makes it, its sizes, all its turns -/
structure Kn where
  m : List (List Int)
  s : List Int
  l : List (List Int)
  n : Nat
def Kn.t (k : Kn) : T := .tup [.lst (k.m.map tupI), .lst (k.s.map T.int)]
def kn12 : List Kn := [⟨[[0]], [1], [[0]], 1⟩,
  ⟨[[1, 0]], [1, 1], [[0, 1], [1, 0]], 2⟩,
  ⟨[[1, 2, 0]], [1, 2], [[0, 1, 2], [1, 2, 0], [2, 0, 1]], 3⟩,
  ⟨[[1, 2, 3, 0]], [1, 1, 2], [[0, 1, 2, 3], [1, 2, 3, 0], [2, 3, 0, 1], [3, 0, 1, 2]], 4⟩,
  ⟨[[1, 2, 3, 4, 0]], [1, 4], [[0, 1, 2, 3, 4], [1, 2, 3, 4, 0], [2, 3, 4, 0, 1], [3, 4, 0, 1, 2], [4, 0, 1, 2, 3]], 5⟩,
  ⟨[[1, 2, 3, 4, 5, 0]], [1, 1, 2, 2], [[0, 1, 2, 3, 4, 5], [1, 2, 3, 4, 5, 0], [2, 3, 4, 5, 0, 1], [3, 4, 5, 0, 1, 2], [4, 5, 0, 1, 2, 3], [5, 0, 1, 2, 3, 4]], 6⟩,
  ⟨[[1, 0, 2, 3], [0, 1, 3, 2]], [1, 1, 1, 1], [[0, 1, 2, 3], [1, 0, 2, 3], [0, 1, 3, 2], [1, 0, 3, 2]], 4⟩,
  ⟨[[1, 0, 3, 2], [2, 3, 0, 1]], [1, 1, 1, 1], [[0, 1, 2, 3], [1, 0, 3, 2], [2, 3, 0, 1], [3, 2, 1, 0]], 4⟩,
  ⟨[[1, 2, 0], [1, 0, 2]], [1, 1, 4], [[0, 1, 2], [1, 2, 0], [1, 0, 2], [2, 1, 0], [0, 2, 1], [2, 0, 1]], 3⟩,
  ⟨[[1, 0, 2, 3, 4], [0, 1, 3, 4, 2]], [1, 1, 2, 2], [[0, 1, 2, 3, 4], [1, 0, 2, 3, 4], [0, 1, 3, 4, 2], [1, 0, 3, 4, 2], [0, 1, 4, 2, 3], [1, 0, 4, 2, 3]], 5⟩,
  ⟨[[1, 2, 0, 4, 5, 3], [3, 5, 4, 0, 2, 1]], [1, 1, 4], [[0, 1, 2, 3, 4, 5], [1, 2, 0, 4, 5, 3], [3, 5, 4, 0, 2, 1], [4, 3, 5, 1, 0, 2], [5, 4, 3, 2, 1, 0], [2, 0, 1, 5, 3, 4]], 6⟩]
def kn13 : List Kn := [⟨[[1, 2, 3, 0], [3, 2, 1, 0]], [1, 1, 1, 1, 4], [[0, 1, 2, 3], [1, 2, 3, 0], [3, 2, 1, 0], [0, 3, 2, 1], [1, 0, 3, 2], [3, 0, 1, 2], [2, 1, 0, 3], [2, 3, 0, 1]], 4⟩,
  ⟨[[1, 0, 2, 3, 4, 5], [0, 1, 3, 2, 4, 5], [0, 1, 2, 3, 5, 4]], [1, 1, 1, 1, 1, 1, 1, 1], [[0, 1, 2, 3, 4, 5], [1, 0, 2, 3, 4, 5], [0, 1, 3, 2, 4, 5], [0, 1, 2, 3, 5, 4], [1, 0, 2, 3, 5, 4], [0, 1, 3, 2, 5, 4], [1, 0, 3, 2, 5, 4], [1, 0, 3, 2, 4, 5]], 6⟩,
  ⟨[[1, 0, 2, 3, 4, 5], [0, 1, 3, 4, 5, 2]], [1, 1, 1, 1, 2, 2], [[0, 1, 2, 3, 4, 5], [1, 0, 2, 3, 4, 5], [0, 1, 3, 4, 5, 2], [1, 0, 3, 4, 5, 2], [0, 1, 4, 5, 2, 3], [1, 0, 4, 5, 2, 3], [0, 1, 5, 2, 3, 4], [1, 0, 5, 2, 3, 4]], 6⟩]
theorem f12 (d : Nat) : Fo (d + 1) 12 [] = .ok (.f (kn12.map Kn.t)) [] := by kernel_rfl
theorem f13 (d : Nat) : Fo (d + 1) 13 [] = .ok (.f (kn13.map Kn.t)) [] := by kernel_rfl
/-- what is looked at once of each known group -/
def Kn.ok (k : Kn) : Bool := decide (k.l.Nodup) && (k.l.all (fun a => decide (sortI a = rng k.n)) && (k.l.all (fun a => k.l.all fun b => decide (beh a b ∈ k.l)) && (decide (1 ≤ k.l.length ∧ k.l.length ≤ 8 ∧ 1 ≤ k.n ∧ k.n ≤ 6) && (match k.m with | a :: _ => decide (a.length = k.n) | [] => false))))
theorem ok12 : kn12.all Kn.ok = true := by decide +kernel
theorem ok13 : kn13.all Kn.ok = true := by decide +kernel
theorem g12_0 (d : Nat) : Fo (d + 2) 11 [.t (.lst ([[0]].map tupI))] = .ok (.f ([[0]].map tupI)) [] := by kernel_rfl
theorem g12_1 (d : Nat) : Fo (d + 2) 11 [.t (.lst ([[1, 0]].map tupI))] = .ok (.f ([[0, 1], [1, 0]].map tupI)) [] := by kernel_rfl
theorem g12_2 (d : Nat) : Fo (d + 2) 11 [.t (.lst ([[1, 2, 0]].map tupI))] = .ok (.f ([[0, 1, 2], [1, 2, 0], [2, 0, 1]].map tupI)) [] := by kernel_rfl
theorem g12_3 (d : Nat) : Fo (d + 2) 11 [.t (.lst ([[1, 2, 3, 0]].map tupI))] = .ok (.f ([[0, 1, 2, 3], [1, 2, 3, 0], [2, 3, 0, 1], [3, 0, 1, 2]].map tupI)) [] := by kernel_rfl
theorem g12_4 (d : Nat) : Fo (d + 2) 11 [.t (.lst ([[1, 2, 3, 4, 0]].map tupI))] = .ok (.f ([[0, 1, 2, 3, 4], [1, 2, 3, 4, 0], [2, 3, 4, 0, 1], [3, 4, 0, 1, 2], [4, 0, 1, 2, 3]].map tupI)) [] := by kernel_rfl
theorem g12_5 (d : Nat) : Fo (d + 2) 11 [.t (.lst ([[1, 2, 3, 4, 5, 0]].map tupI))] = .ok (.f ([[0, 1, 2, 3, 4, 5], [1, 2, 3, 4, 5, 0], [2, 3, 4, 5, 0, 1], [3, 4, 5, 0, 1, 2], [4, 5, 0, 1, 2, 3], [5, 0, 1, 2, 3, 4]].map tupI)) [] := by kernel_rfl
theorem g12_6 (d : Nat) : Fo (d + 2) 11 [.t (.lst ([[1, 0, 2, 3], [0, 1, 3, 2]].map tupI))] = .ok (.f ([[0, 1, 2, 3], [1, 0, 2, 3], [0, 1, 3, 2], [1, 0, 3, 2]].map tupI)) [] := by kernel_rfl
theorem g12_7 (d : Nat) : Fo (d + 2) 11 [.t (.lst ([[1, 0, 3, 2], [2, 3, 0, 1]].map tupI))] = .ok (.f ([[0, 1, 2, 3], [1, 0, 3, 2], [2, 3, 0, 1], [3, 2, 1, 0]].map tupI)) [] := by kernel_rfl
theorem g12_8 (d : Nat) : Fo (d + 2) 11 [.t (.lst ([[1, 2, 0], [1, 0, 2]].map tupI))] = .ok (.f ([[0, 1, 2], [1, 2, 0], [1, 0, 2], [2, 1, 0], [0, 2, 1], [2, 0, 1]].map tupI)) [] := by kernel_rfl
theorem g12_9 (d : Nat) : Fo (d + 2) 11 [.t (.lst ([[1, 0, 2, 3, 4], [0, 1, 3, 4, 2]].map tupI))] = .ok (.f ([[0, 1, 2, 3, 4], [1, 0, 2, 3, 4], [0, 1, 3, 4, 2], [1, 0, 3, 4, 2], [0, 1, 4, 2, 3], [1, 0, 4, 2, 3]].map tupI)) [] := by kernel_rfl
theorem g12_10 (d : Nat) : Fo (d + 2) 11 [.t (.lst ([[1, 2, 0, 4, 5, 3], [3, 5, 4, 0, 2, 1]].map tupI))] = .ok (.f ([[0, 1, 2, 3, 4, 5], [1, 2, 0, 4, 5, 3], [3, 5, 4, 0, 2, 1], [4, 3, 5, 1, 0, 2], [5, 4, 3, 2, 1, 0], [2, 0, 1, 5, 3, 4]].map tupI)) [] := by kernel_rfl
theorem g13_0 (d : Nat) : Fo (d + 2) 11 [.t (.lst ([[1, 2, 3, 0], [3, 2, 1, 0]].map tupI))] = .ok (.f ([[0, 1, 2, 3], [1, 2, 3, 0], [3, 2, 1, 0], [0, 3, 2, 1], [1, 0, 3, 2], [3, 0, 1, 2], [2, 1, 0, 3], [2, 3, 0, 1]].map tupI)) [] := by kernel_rfl
theorem g13_1 (d : Nat) : Fo (d + 2) 11 [.t (.lst ([[1, 0, 2, 3, 4, 5], [0, 1, 3, 2, 4, 5], [0, 1, 2, 3, 5, 4]].map tupI))] = .ok (.f ([[0, 1, 2, 3, 4, 5], [1, 0, 2, 3, 4, 5], [0, 1, 3, 2, 4, 5], [0, 1, 2, 3, 5, 4], [1, 0, 2, 3, 5, 4], [0, 1, 3, 2, 5, 4], [1, 0, 3, 2, 5, 4], [1, 0, 3, 2, 4, 5]].map tupI)) [] := by kernel_rfl
theorem g13_2 (d : Nat) : Fo (d + 2) 11 [.t (.lst ([[1, 0, 2, 3, 4, 5], [0, 1, 3, 4, 5, 2]].map tupI))] = .ok (.f ([[0, 1, 2, 3, 4, 5], [1, 0, 2, 3, 4, 5], [0, 1, 3, 4, 5, 2], [1, 0, 3, 4, 5, 2], [0, 1, 4, 5, 2, 3], [1, 0, 4, 5, 2, 3], [0, 1, 5, 2, 3, 4], [1, 0, 5, 2, 3, 4]].map tupI)) [] := by kernel_rfl
end K89

set_option Elab.async false
set_option linter.all false
set_option maxRecDepth 1000000
set_option maxHeartbeats 8000000
namespace K89
open PV PySem PL
theorem perm_map_inv {α β : Type} {f : α → β} (g : β → α) (hg : ∀ a, g (f a) = a) {l : List α} {ys : List β} (h : ys.Perm (l.map f)) : ∃ σ : List α, σ.Perm l ∧ ys = σ.map f := by
  refine ⟨ys.map g, ?_, ?_⟩
  · have z := h.map g
    rw [List.map_map] at z
    have e : l.map (g ∘ f) = l := by
      conv => rhs; rw [← List.map_id l]
      exact List.map_congr_left fun a _ => hg a
    rw [e] at z
    exact z
  · rw [List.map_map]
    conv => lhs; rw [← List.map_id ys]
    refine List.map_congr_left fun y hy => ?_
    obtain ⟨a, _, rfl⟩ := List.mem_map.mp (h.mem_iff.mp hy)
    show f a = f (g (f a))
    rw [hg]
def unI : T → Int
  | .int i => i
  | _ => 0
theorem kn_grp {k : Kn} (h : k.ok = true) : Grp k.n k.l ∧ 1 ≤ k.l.length ∧ k.l.length ≤ 8 ∧ 1 ≤ k.n ∧ k.n ≤ 6 ∧ ∃ a r, k.m = a :: r ∧ a.length = k.n := by
  unfold Kn.ok at h
  rw [Bool.and_eq_true, Bool.and_eq_true, Bool.and_eq_true, Bool.and_eq_true] at h
  obtain ⟨h1, h2, h3, h4, h5⟩ := h
  have h4 := of_decide_eq_true h4
  refine ⟨⟨of_decide_eq_true h1, fun a ha => ⟨of_decide_eq_true (List.all_eq_true.mp h2 a ha)⟩, fun a ha b hb => of_decide_eq_true (List.all_eq_true.mp (List.all_eq_true.mp h3 a ha) b hb)⟩, h4.1, h4.2.1, h4.2.2.1, h4.2.2.2, ?_⟩
  cases e : k.m with
  | nil => rw [e] at h5; cases h5
  | cons a r => rw [e] at h5; exact ⟨a, r, rfl, of_decide_eq_true h5⟩
abbrev cElt : Ex := .comp [7, 8] [8] false 1 [.bi .len [.loc 4]] none ((Ex.loc 4).idx ((Ex.loc 6).idx ((Ex.loc 4).ixof (.loc 8))))
theorem idx_lst {a : List Int} {i : Int} (h0 : 0 ≤ i) (h1 : i < a.length) : idxT (.lst (a.map T.int)) (.int i) = some (.int (app a i)) := idx_tup h0 h1
theorem idx_tup' {a : List Int} {i : Int} (h0 : 0 ≤ i) (h1 : i < a.length) : idxT (tupI a) (.int i) = some (.int (app a i)) := idx_tup h0 h1
theorem ixof_ok {n : Nat} {σ : List Int} (h : IsT n σ) {p : Int} (h0 : 0 ≤ p) (h1 : p < n) : ixofT (.lst (σ.map T.int)) (.int p) = some (.int (pos σ p)) := by
  show (if okT 63 (.int p) && (σ.map T.int).all (okT 63) then (findT (.int p) (σ.map T.int)).map (fun (j : Nat) => T.int (j : Int)) else none) = _
  have : (σ.map T.int).all (okT 63) = true := by rw [List.all_map, List.all_eq_true]; intro x _; rfl
  obtain ⟨a, b, c, e⟩ := pos_ok h h0 h1
  rw [this, e]
  show some (T.int (((pos σ p).toNat : Nat) : Int)) = _
  rw [Int.toNat_of_nonneg a]
def fElt (σ t : List Int) (x : T) : T := .int (app σ (app t (pos σ (unI x))))
theorem elt_map (n : Nat) (σ t : List Int) : (rangeT n).map (fElt σ t) = (conj n σ t).map T.int := by
  unfold rangeT conj inv rng
  rw [beh_eq, beh_eq, List.map_map, List.map_map, List.map_map, List.map_map, List.map_map]
  apply List.map_congr_left
  intro k _
  show T.int (app σ (app t (pos σ (0 + (k : Int))))) = T.int (app σ (app t (pos σ (k : Int))))
  rw [Int.zero_add]
theorem cElt_ok (d m n : Nat) (hn : n ≤ 6) {σ t : List Int} (hs : IsT n σ) (ht : IsT n t) (a0 a1 a2 a3 a5 : Sl) : ev pg (Fo d) 1000 (m + 10) cElt [a0, a1, a2, a3, .o true (σ.map T.int), a5, .v (tupI t), .u, .u] = .ok (.f ((conj n σ t).map T.int)) [a0, a1, a2, a3, .o true (σ.map T.int), a5, .v (tupI t), .u, .u] := by
  have hiv : evIv (ev pg (Fo d) 1000 (m + 9)) 1 [.bi .len [.loc 4]] [a0, a1, a2, a3, .o true (σ.map T.int), a5, .v (tupI t), .u, .u] = .ok (.rg 0 n) [a0, a1, a2, a3, .o true (σ.map T.int), a5, .v (tupI t), .u, .u] := by
    refine evIv_x (t := .int (n : Nat)) ?_ (iv_range (by omega))
    simp only [PL.ev_bi, PV.evPs, PV.evOs, PV.evO, PV.ress, PV.res, PV.ofA, PV.ofA?, PV.slotT, PL.r_ok_bind, List.getElem?_cons_zero, List.getElem?_cons_succ, Option.bind_some, len_lst, List.length_map, hs.len]
  refine (ev_comp_map (ρ2 := [a0, a1, a2, a3, .o true (σ.map T.int), a5, .v (tupI t), .u, .u]) (xs := rangeT n) (fElt σ t) hiv rfl (fun i => by rw [rangeT_get]; rfl) (fun x hx => ?_) (by rw [rangeT_length]; omega) (by rw [rangeT_length]; exact Nat.le_trans (show n ≤ 6 from hn) (by decide)) rfl).trans ?_
  · obtain ⟨k, hk, rfl⟩ := List.mem_map.mp hx
    have hk := List.mem_range.mp hk
    have k0 : 0 ≤ 0 + (k : Int) := by omega
    have k1 : 0 + (k : Int) < n := by omega
    obtain ⟨p0, p1, _, _⟩ := pos_ok hs k0 k1
    obtain ⟨q0, q1⟩ := app_mem ht p0 p1
    have i1 := idx_tup' (a := t) p0 (by rw [ht.len]; exact p1)
    have i2 := idx_lst (a := σ) q0 (by rw [hs.len]; exact q1)
    simp only [PL.ev_con, PL.ev_loc, PL.ev_dk0, PL.ev_dk1, PL.ev_lst, PL.ev_tup, PL.ev_bin, PL.ev_neg, PL.ev_cmp, PL.ev_chn, PL.ev_and, PL.ev_or, PL.ev_tand, PL.ev_tor, PL.ev_not, PL.ev_ite, PL.ev_isn, PL.ev_isb, PL.ev_isi, PL.ev_call, PL.ev_call1, PL.ev_bi, PL.ev_app, PL.ev_ext, PL.ev_pop, PL.ev_popA, PL.ev_idx, PL.ev_ixof, PL.ev_slc, PL.ev_rev, PV.evO, PV.evOs, PV.evP, PV.evPs, PV.evF, PV.evB, PV.evS, PL.r_ok_bind, PL.r_bad_bind, PL.rs_of_ok, PL.exs_nil, PL.exs_ex, PL.exs_retl, PL.exs_ret, PL.exs_asg, PL.exs_unp, PL.exs_par, PL.exs_set, PL.exs_aug, PL.exs_ite, PL.nxt_nx, PL.nxt_rt, PL.nxt_bk, PL.nxt_ct, PV.res, PV.ress, PV.frz, PV.frzs, PV.slotT, PV.ofA, PV.ofB, PV.ofT, PV.ofA?, PV.store1, PV.callWith, PV.argsOf, PV.argOf, PV.mutsOf, PV.lentOf, PV.isOwn, PV.putBack, PV.appC, PV.extC, PV.popC, PV.popAC, PV.setIx, PV.truth, PV.storeAll, PL.big_le_0, PL.big_le_1, PL.big_le_2, PL.big_le_3, PL.big_le_4, PL.big_le_5, PL.big_le_6, PL.big_le_7, PL.big_le_8, PL.big_le_9, PL.big_le_10, PL.big_le_11, PL.big_le_12, PL.big_le_13, PV.unpT, PV.compTurn, PV.bindTo, PV.setAll, PV.wipeE, PV.backE, PV.forTurn, PV.tupT, PV.startE, PV.slotOf, PV.endC, PV.mutsAt, PV.runF, List.getElem?_cons_zero, List.getElem?_cons_succ, List.getElem?_nil, Option.bind_some, Option.bind_none, Option.map_some, Option.map_none, List.set_cons_zero, List.set_cons_succ, List.isEmpty_nil, List.isEmpty_cons, if_true, if_false, List.replicate_succ, List.replicate_zero, List.length_cons, List.length_nil, Bool.not_true, Bool.not_false, Bool.and_true, Bool.and_false, Bool.true_and, Bool.false_and, reduceCtorEq, ne_eq, not_false_eq_true, implies_true, Bool.true_or, Bool.false_or, Bool.or_true, Bool.or_false, Nat.reduceAdd, Nat.reduceLeDiff, Nat.reduceSub, ixof_ok hs k0 k1, i1, i2]
    rfl
  · rw [elt_map]
theorem tuple_lst (xs : List T) : biT .tuple [.lst xs] = some (.t (.tup xs)) := rfl
abbrev b15 : List Sm := [Sm.ex (Ex.app 5 (Ex.bi Bi.tuple [cElt]))]
theorem evO_ne {ih : Ex → Rho → PV.R A} {c : Ex} {ρ : Rho} (h : ∀ i, c ≠ .loc i) : evO ih c ρ = (ih c ρ).bind fun a ρ => .ok (ofA a) ρ := by
  cases c <;> first | rfl | exact absurd rfl (h _)
theorem turn15 (d : Nat) (c : Ex) (hc0 : ∀ i, c ≠ .loc i) {a0 a1 a2 a3 a4 s : Sl} {fs ys : List T} {x : T} (hb : fs.length < big) (hc : ev pg (Fo d) 1000 58 c [a0, a1, a2, a3, a4, .o true fs, .v x, .u, .u] = .ok (.f ys) [a0, a1, a2, a3, a4, .o true fs, .v x, .u, .u]) :
    forTurn [6] false (exs pg (Fo d) 1000 60 56 [Sm.ex (Ex.app 5 (Ex.bi Bi.tuple [c]))]) x [a0, a1, a2, a3, a4, .o true fs, s, .u, .u] = .nx [a0, a1, a2, a3, a4, .o true (fs ++ [.tup ys]), .v x, .u, .u] := by
  simp only [PV.forTurn, PV.bindTo, List.set_cons_zero, List.set_cons_succ]
  rw [exs_ex, ev_app]
  simp only [PV.isOwn, List.getElem?_cons_zero, List.getElem?_cons_succ, PV.evF, PV.evO, PL.ev_bi, PV.evPs, PV.evOs]
  rw [hc]
  simp only [PL.ev_con, PL.ev_loc, PL.ev_dk0, PL.ev_dk1, PL.ev_lst, PL.ev_tup, PL.ev_bin, PL.ev_neg, PL.ev_cmp, PL.ev_chn, PL.ev_and, PL.ev_or, PL.ev_tand, PL.ev_tor, PL.ev_not, PL.ev_ite, PL.ev_isn, PL.ev_isb, PL.ev_isi, PL.ev_call, PL.ev_call1, PL.ev_bi, PL.ev_app, PL.ev_ext, PL.ev_pop, PL.ev_popA, PL.ev_idx, PL.ev_ixof, PL.ev_slc, PL.ev_rev, PV.evO, PV.evOs, PV.evP, PV.evPs, PV.evF, PV.evB, PV.evS, PL.r_ok_bind, PL.r_bad_bind, PL.rs_of_ok, PL.exs_nil, PL.exs_ex, PL.exs_retl, PL.exs_ret, PL.exs_asg, PL.exs_unp, PL.exs_par, PL.exs_set, PL.exs_aug, PL.exs_ite, PL.nxt_nx, PL.nxt_rt, PL.nxt_bk, PL.nxt_ct, PV.res, PV.ress, PV.frz, PV.frzs, PV.slotT, PV.ofA, PV.ofB, PV.ofT, PV.ofA?, PV.store1, PV.callWith, PV.argsOf, PV.argOf, PV.mutsOf, PV.lentOf, PV.isOwn, PV.putBack, PV.appC, PV.extC, PV.popC, PV.popAC, PV.setIx, PV.truth, PV.storeAll, PL.big_le_0, PL.big_le_1, PL.big_le_2, PL.big_le_3, PL.big_le_4, PL.big_le_5, PL.big_le_6, PL.big_le_7, PL.big_le_8, PL.big_le_9, PL.big_le_10, PL.big_le_11, PL.big_le_12, PL.big_le_13, PV.unpT, PV.compTurn, PV.bindTo, PV.setAll, PV.wipeE, PV.backE, PV.forTurn, PV.tupT, PV.startE, PV.slotOf, PV.endC, PV.mutsAt, PV.runF, List.getElem?_cons_zero, List.getElem?_cons_succ, List.getElem?_nil, Option.bind_some, Option.bind_none, Option.map_some, Option.map_none, List.set_cons_zero, List.set_cons_succ, List.isEmpty_nil, List.isEmpty_cons, if_true, if_false, List.replicate_succ, List.replicate_zero, List.length_cons, List.length_nil, Bool.not_true, Bool.not_false, Bool.and_true, Bool.and_false, Bool.true_and, Bool.false_and, reduceCtorEq, ne_eq, not_false_eq_true, implies_true, Bool.true_or, Bool.false_or, Bool.or_true, Bool.or_false, Nat.reduceAdd, Nat.reduceLeDiff, Nat.reduceSub, tuple_lst, hb]
structure I15 (n : Nat) (p : List T) (kk mm ss : T) (σ : List Int) (L : List (List Int)) (i : Nat) (ρ : Rho) : Prop where
  ex : ∃ s, ρ = [.o false p, .v kk, .v mm, .v ss, .o true (σ.map T.int), .o true ((L.take i).map fun t => tupI (conj n σ t)), s, .u, .u]
theorem step15 (d n : Nat) (hn : n ≤ 6) {p : List T} {kk mm ss : T} {σ : List Int} {L : List (List Int)} (hs : IsT n σ) (hL : ∀ t ∈ L, IsT n t) (h8 : L.length ≤ 8) (i : Nat) (x : T) (ρ : Rho) (hi : (L.map tupI)[i]? = some x) (hI : I15 n p kk mm ss σ L i ρ) :
    ∃ ρ', forTurn [6] false (exs pg (Fo d) 1000 60 56 b15) x ρ = .nx ρ' ∧ I15 n p kk mm ss σ L (i + 1) ρ' := by
  obtain ⟨s, rfl⟩ := hI.ex
  rw [List.getElem?_map] at hi
  obtain ⟨t, ht, rfl⟩ := Option.map_eq_some_iff.mp hi
  have hT := hL t (List.mem_of_getElem? ht)
  have hl := (List.getElem?_eq_some_iff.mp ht).1
  have hb : ((L.take i).map fun t => tupI (conj n σ t)).length < big := by
    rw [List.length_map, List.length_take]
    exact Nat.lt_of_le_of_lt (show min i L.length ≤ 8 by omega) (by decide)
  refine ⟨[.o false p, .v kk, .v mm, .v ss, .o true (σ.map T.int), .o true (((L.take i).map fun t => tupI (conj n σ t)) ++ [tupI (conj n σ t)]), .v (tupI t), .u, .u], ?_, ⟨.v (tupI t), ?_⟩⟩
  · exact turn15 d cElt (fun i => by simp) hb (cElt_ok d 48 n hn hs hT (.o false p) (.v kk) (.v mm) (.v ss) (.o true ((L.take i).map fun t => tupI (conj n σ t))))
  · have e2 : L.take (i + 1) = L.take i ++ [t] := by rw [List.take_add_one, ht]; rfl
    rw [e2, List.map_append]
    rfl
end K89

set_option Elab.async false
set_option linter.all false
set_option maxRecDepth 1000000
set_option maxHeartbeats 8000000
namespace K89
open PV PySem PL
theorem evIf_f {ih : Ex → Rho → PV.R A} {its : List Ex} {xs : List T} {ρ : Rho} (h : evOs ih its ρ = .ok [.f xs] ρ) : evIf ih 0 its ρ = .ok (.sq true (.x (.lst xs))) ρ := by
  unfold evIf
  rw [h]
  rfl
theorem s1_15 (F : Orc) {p p' : List T} {K m s : T} {r : List Sm} (hc : F 9 [.f p, .t K] = .ok (.t (.tup [m, s])) [p']) :
    exs pg F 1000 60 60 (Sm.unp [Tg.nm 2, Tg.nm 3] (Ex.call 9 [] [Ex.loc 0, Ex.loc 1]) :: r) [.o false p, .v K, .u, .u, .u, .u, .u, .u, .u] = exs pg F 1000 60 59 r [.o false p', .v K, .v m, .v s, .u, .u, .u, .u, .u] := by
  rw [exs_unp]
  simp only [PL.ev_con, PL.ev_loc, PL.ev_dk0, PL.ev_dk1, PL.ev_lst, PL.ev_tup, PL.ev_bin, PL.ev_neg, PL.ev_cmp, PL.ev_chn, PL.ev_and, PL.ev_or, PL.ev_tand, PL.ev_tor, PL.ev_not, PL.ev_ite, PL.ev_isn, PL.ev_isb, PL.ev_isi, PL.ev_call, PL.ev_call1, PL.ev_bi, PL.ev_app, PL.ev_ext, PL.ev_pop, PL.ev_popA, PL.ev_idx, PL.ev_ixof, PL.ev_slc, PL.ev_rev, PV.evO, PV.evOs, PV.evP, PV.evPs, PV.evF, PV.evB, PV.evS, PL.r_ok_bind, PL.r_bad_bind, PL.rs_of_ok, PL.exs_nil, PL.exs_ex, PL.exs_retl, PL.exs_ret, PL.exs_asg, PL.exs_unp, PL.exs_par, PL.exs_set, PL.exs_aug, PL.exs_ite, PL.nxt_nx, PL.nxt_rt, PL.nxt_bk, PL.nxt_ct, PV.res, PV.ress, PV.frz, PV.frzs, PV.slotT, PV.ofA, PV.ofB, PV.ofT, PV.ofA?, PV.store1, PV.callWith, PV.argsOf, PV.argOf, PV.mutsOf, PV.lentOf, PV.isOwn, PV.putBack, PV.appC, PV.extC, PV.popC, PV.popAC, PV.setIx, PV.truth, PV.storeAll, PL.big_le_0, PL.big_le_1, PL.big_le_2, PL.big_le_3, PL.big_le_4, PL.big_le_5, PL.big_le_6, PL.big_le_7, PL.big_le_8, PL.big_le_9, PL.big_le_10, PL.big_le_11, PL.big_le_12, PL.big_le_13, PV.unpT, PV.compTurn, PV.bindTo, PV.setAll, PV.wipeE, PV.backE, PV.forTurn, PV.tupT, PV.startE, PV.slotOf, PV.endC, PV.mutsAt, PV.runF, List.getElem?_cons_zero, List.getElem?_cons_succ, List.getElem?_nil, Option.bind_some, Option.bind_none, Option.map_some, Option.map_none, List.set_cons_zero, List.set_cons_succ, List.isEmpty_nil, List.isEmpty_cons, if_true, if_false, List.replicate_succ, List.replicate_zero, List.length_cons, List.length_nil, Bool.not_true, Bool.not_false, Bool.and_true, Bool.and_false, Bool.true_and, Bool.false_and, reduceCtorEq, ne_eq, not_false_eq_true, implies_true, Bool.true_or, Bool.false_or, Bool.or_true, Bool.or_false, Nat.reduceAdd, Nat.reduceLeDiff, Nat.reduceSub, hc, p9, List.contains_nil]
theorem s2_15 (F : Orc) (n : Nat) {p p' : List T} {K m s a : T} {R ys : List T} {r : List Sm} (h0 : idxT m (.int 0) = some a) (h1 : biT .len [a] = some (.t (.int (n : Nat)))) (h2 : biT .lrange [.int (n : Nat)] = some (.f R)) (hc : F 14 [.f p, .t (.lst R)] = .ok (.f ys) [p']) :
    exs pg F 1000 60 59 (Sm.asg 4 (Ex.call 14 [] [Ex.loc 0, Ex.bi Bi.lrange [Ex.bi Bi.len [(Ex.loc 2).idx (Ex.con (T.int 0))]]]) :: r) [.o false p, .v K, .v m, .v s, .u, .u, .u, .u, .u] = exs pg F 1000 60 58 r [.o false p', .v K, .v m, .v s, .o true ys, .u, .u, .u, .u] := by
  rw [exs_asg]
  simp only [PL.ev_con, PL.ev_loc, PL.ev_dk0, PL.ev_dk1, PL.ev_lst, PL.ev_tup, PL.ev_bin, PL.ev_neg, PL.ev_cmp, PL.ev_chn, PL.ev_and, PL.ev_or, PL.ev_tand, PL.ev_tor, PL.ev_not, PL.ev_ite, PL.ev_isn, PL.ev_isb, PL.ev_isi, PL.ev_call, PL.ev_call1, PL.ev_bi, PL.ev_app, PL.ev_ext, PL.ev_pop, PL.ev_popA, PL.ev_idx, PL.ev_ixof, PL.ev_slc, PL.ev_rev, PV.evO, PV.evOs, PV.evP, PV.evPs, PV.evF, PV.evB, PV.evS, PL.r_ok_bind, PL.r_bad_bind, PL.rs_of_ok, PL.exs_nil, PL.exs_ex, PL.exs_retl, PL.exs_ret, PL.exs_asg, PL.exs_unp, PL.exs_par, PL.exs_set, PL.exs_aug, PL.exs_ite, PL.nxt_nx, PL.nxt_rt, PL.nxt_bk, PL.nxt_ct, PV.res, PV.ress, PV.frz, PV.frzs, PV.slotT, PV.ofA, PV.ofB, PV.ofT, PV.ofA?, PV.store1, PV.callWith, PV.argsOf, PV.argOf, PV.mutsOf, PV.lentOf, PV.isOwn, PV.putBack, PV.appC, PV.extC, PV.popC, PV.popAC, PV.setIx, PV.truth, PV.storeAll, PL.big_le_0, PL.big_le_1, PL.big_le_2, PL.big_le_3, PL.big_le_4, PL.big_le_5, PL.big_le_6, PL.big_le_7, PL.big_le_8, PL.big_le_9, PL.big_le_10, PL.big_le_11, PL.big_le_12, PL.big_le_13, PV.unpT, PV.compTurn, PV.bindTo, PV.setAll, PV.wipeE, PV.backE, PV.forTurn, PV.tupT, PV.startE, PV.slotOf, PV.endC, PV.mutsAt, PV.runF, List.getElem?_cons_zero, List.getElem?_cons_succ, List.getElem?_nil, Option.bind_some, Option.bind_none, Option.map_some, Option.map_none, List.set_cons_zero, List.set_cons_succ, List.isEmpty_nil, List.isEmpty_cons, if_true, if_false, List.replicate_succ, List.replicate_zero, List.length_cons, List.length_nil, Bool.not_true, Bool.not_false, Bool.and_true, Bool.and_false, Bool.true_and, Bool.false_and, reduceCtorEq, ne_eq, not_false_eq_true, implies_true, Bool.true_or, Bool.false_or, Bool.or_true, Bool.or_false, Nat.reduceAdd, Nat.reduceLeDiff, Nat.reduceSub, h0, h1, h2, hc, p14, List.contains_nil]
theorem s3_15 (F : Orc) {a0 a1 a2 a3 a4 : Sl} {r : List Sm} : exs pg F 1000 60 58 (Sm.asg 5 (Ex.lst []) :: r) [a0, a1, a2, a3, a4, .u, .u, .u, .u] = exs pg F 1000 60 57 r [a0, a1, a2, a3, a4, .o true [], .u, .u, .u] := by
  rw [exs_asg]
  simp only [PL.ev_con, PL.ev_loc, PL.ev_dk0, PL.ev_dk1, PL.ev_lst, PL.ev_tup, PL.ev_bin, PL.ev_neg, PL.ev_cmp, PL.ev_chn, PL.ev_and, PL.ev_or, PL.ev_tand, PL.ev_tor, PL.ev_not, PL.ev_ite, PL.ev_isn, PL.ev_isb, PL.ev_isi, PL.ev_call, PL.ev_call1, PL.ev_bi, PL.ev_app, PL.ev_ext, PL.ev_pop, PL.ev_popA, PL.ev_idx, PL.ev_ixof, PL.ev_slc, PL.ev_rev, PV.evO, PV.evOs, PV.evP, PV.evPs, PV.evF, PV.evB, PV.evS, PL.r_ok_bind, PL.r_bad_bind, PL.rs_of_ok, PL.exs_nil, PL.exs_ex, PL.exs_retl, PL.exs_ret, PL.exs_asg, PL.exs_unp, PL.exs_par, PL.exs_set, PL.exs_aug, PL.exs_ite, PL.nxt_nx, PL.nxt_rt, PL.nxt_bk, PL.nxt_ct, PV.res, PV.ress, PV.frz, PV.frzs, PV.slotT, PV.ofA, PV.ofB, PV.ofT, PV.ofA?, PV.store1, PV.callWith, PV.argsOf, PV.argOf, PV.mutsOf, PV.lentOf, PV.isOwn, PV.putBack, PV.appC, PV.extC, PV.popC, PV.popAC, PV.setIx, PV.truth, PV.storeAll, PL.big_le_0, PL.big_le_1, PL.big_le_2, PL.big_le_3, PL.big_le_4, PL.big_le_5, PL.big_le_6, PL.big_le_7, PL.big_le_8, PL.big_le_9, PL.big_le_10, PL.big_le_11, PL.big_le_12, PL.big_le_13, PV.unpT, PV.compTurn, PV.bindTo, PV.setAll, PV.wipeE, PV.backE, PV.forTurn, PV.tupT, PV.startE, PV.slotOf, PV.endC, PV.mutsAt, PV.runF, List.getElem?_cons_zero, List.getElem?_cons_succ, List.getElem?_nil, Option.bind_some, Option.bind_none, Option.map_some, Option.map_none, List.set_cons_zero, List.set_cons_succ, List.isEmpty_nil, List.isEmpty_cons, if_true, if_false, List.replicate_succ, List.replicate_zero, List.length_cons, List.length_nil, Bool.not_true, Bool.not_false, Bool.and_true, Bool.and_false, Bool.true_and, Bool.false_and, reduceCtorEq, ne_eq, not_false_eq_true, implies_true, Bool.true_or, Bool.false_or, Bool.or_true, Bool.or_false, Nat.reduceAdd, Nat.reduceLeDiff, Nat.reduceSub]
theorem s4_15 (F : Orc) {a0 a1 a3 a4 a5 : Sl} {m : T} {xs : List T} {b r : List Sm} (hc : F 11 [.t m] = .ok (.f xs) []) : exs pg F 1000 60 57 (Sm.for_ [6] false 0 [Ex.call 11 [] [Ex.loc 2]] b :: r) [a0, a1, .v m, a3, a4, a5, .u, .u, .u] = (forL (forTurn [6] false (exs pg F 1000 60 56 b)) (.sq true (.x (.lst xs))) 1000 0 [a0, a1, .v m, a3, a4, a5, .u, .u, .u]).nxt (exs pg F 1000 60 56 r) := by
  rw [exs_for, evIf_f (xs := xs) (by simp only [PL.ev_con, PL.ev_loc, PL.ev_dk0, PL.ev_dk1, PL.ev_lst, PL.ev_tup, PL.ev_bin, PL.ev_neg, PL.ev_cmp, PL.ev_chn, PL.ev_and, PL.ev_or, PL.ev_tand, PL.ev_tor, PL.ev_not, PL.ev_ite, PL.ev_isn, PL.ev_isb, PL.ev_isi, PL.ev_call, PL.ev_call1, PL.ev_bi, PL.ev_app, PL.ev_ext, PL.ev_pop, PL.ev_popA, PL.ev_idx, PL.ev_ixof, PL.ev_slc, PL.ev_rev, PV.evO, PV.evOs, PV.evP, PV.evPs, PV.evF, PV.evB, PV.evS, PL.r_ok_bind, PL.r_bad_bind, PL.rs_of_ok, PL.exs_nil, PL.exs_ex, PL.exs_retl, PL.exs_ret, PL.exs_asg, PL.exs_unp, PL.exs_par, PL.exs_set, PL.exs_aug, PL.exs_ite, PL.nxt_nx, PL.nxt_rt, PL.nxt_bk, PL.nxt_ct, PV.res, PV.ress, PV.frz, PV.frzs, PV.slotT, PV.ofA, PV.ofB, PV.ofT, PV.ofA?, PV.store1, PV.callWith, PV.argsOf, PV.argOf, PV.mutsOf, PV.lentOf, PV.isOwn, PV.putBack, PV.appC, PV.extC, PV.popC, PV.popAC, PV.setIx, PV.truth, PV.storeAll, PL.big_le_0, PL.big_le_1, PL.big_le_2, PL.big_le_3, PL.big_le_4, PL.big_le_5, PL.big_le_6, PL.big_le_7, PL.big_le_8, PL.big_le_9, PL.big_le_10, PL.big_le_11, PL.big_le_12, PL.big_le_13, PV.unpT, PV.compTurn, PV.bindTo, PV.setAll, PV.wipeE, PV.backE, PV.forTurn, PV.tupT, PV.startE, PV.slotOf, PV.endC, PV.mutsAt, PV.runF, List.getElem?_cons_zero, List.getElem?_cons_succ, List.getElem?_nil, Option.bind_some, Option.bind_none, Option.map_some, Option.map_none, List.set_cons_zero, List.set_cons_succ, List.isEmpty_nil, List.isEmpty_cons, if_true, if_false, List.replicate_succ, List.replicate_zero, List.length_cons, List.length_nil, Bool.not_true, Bool.not_false, Bool.and_true, Bool.and_false, Bool.true_and, Bool.false_and, reduceCtorEq, ne_eq, not_false_eq_true, implies_true, Bool.true_or, Bool.false_or, Bool.or_true, Bool.or_false, Nat.reduceAdd, Nat.reduceLeDiff, Nat.reduceSub, hc, p11]), rs_of_ok]
theorem s5_15 (F : Orc) {p p' : List T} {a1 a2 a4 : Sl} {s : T} {fs ys : List T} {a6 : Sl} (hc : F 14 [.f p, .t (.lst fs)] = .ok (.f ys) [p']) :
    exs pg F 1000 60 56 [Sm.ret (Ex.tup [Ex.call 14 [] [Ex.loc 0, Ex.loc 5], Ex.loc 3])] [.o false p, a1, a2, .v s, a4, .o true fs, a6, .u, .u] = .rt (.t (.tup [.lst ys, s])) [.o false p', a1, a2, .v s, a4, .v (.lst fs), a6, .u, .u] := by
  rw [exs_ret _ (fun i => by simp)]
  simp only [PL.ev_con, PL.ev_loc, PL.ev_dk0, PL.ev_dk1, PL.ev_lst, PL.ev_tup, PL.ev_bin, PL.ev_neg, PL.ev_cmp, PL.ev_chn, PL.ev_and, PL.ev_or, PL.ev_tand, PL.ev_tor, PL.ev_not, PL.ev_ite, PL.ev_isn, PL.ev_isb, PL.ev_isi, PL.ev_call, PL.ev_call1, PL.ev_bi, PL.ev_app, PL.ev_ext, PL.ev_pop, PL.ev_popA, PL.ev_idx, PL.ev_ixof, PL.ev_slc, PL.ev_rev, PV.evO, PV.evOs, PV.evP, PV.evPs, PV.evF, PV.evB, PV.evS, PL.r_ok_bind, PL.r_bad_bind, PL.rs_of_ok, PL.exs_nil, PL.exs_ex, PL.exs_retl, PL.exs_ret, PL.exs_asg, PL.exs_unp, PL.exs_par, PL.exs_set, PL.exs_aug, PL.exs_ite, PL.nxt_nx, PL.nxt_rt, PL.nxt_bk, PL.nxt_ct, PV.res, PV.ress, PV.frz, PV.frzs, PV.slotT, PV.ofA, PV.ofB, PV.ofT, PV.ofA?, PV.store1, PV.callWith, PV.argsOf, PV.argOf, PV.mutsOf, PV.lentOf, PV.isOwn, PV.putBack, PV.appC, PV.extC, PV.popC, PV.popAC, PV.setIx, PV.truth, PV.storeAll, PL.big_le_0, PL.big_le_1, PL.big_le_2, PL.big_le_3, PL.big_le_4, PL.big_le_5, PL.big_le_6, PL.big_le_7, PL.big_le_8, PL.big_le_9, PL.big_le_10, PL.big_le_11, PL.big_le_12, PL.big_le_13, PV.unpT, PV.compTurn, PV.bindTo, PV.setAll, PV.wipeE, PV.backE, PV.forTurn, PV.tupT, PV.startE, PV.slotOf, PV.endC, PV.mutsAt, PV.runF, List.getElem?_cons_zero, List.getElem?_cons_succ, List.getElem?_nil, Option.bind_some, Option.bind_none, Option.map_some, Option.map_none, List.set_cons_zero, List.set_cons_succ, List.isEmpty_nil, List.isEmpty_cons, if_true, if_false, List.replicate_succ, List.replicate_zero, List.length_cons, List.length_nil, Bool.not_true, Bool.not_false, Bool.and_true, Bool.and_false, Bool.true_and, Bool.false_and, reduceCtorEq, ne_eq, not_false_eq_true, implies_true, Bool.true_or, Bool.false_or, Bool.or_true, Bool.or_false, Nat.reduceAdd, Nat.reduceLeDiff, Nat.reduceSub, hc, p14, List.contains_nil]
theorem c15_eq : c15 = [Sm.unp [Tg.nm 2, Tg.nm 3] (Ex.call 9 [] [Ex.loc 0, Ex.loc 1]), Sm.asg 4 (Ex.call 14 [] [Ex.loc 0, Ex.bi Bi.lrange [Ex.bi Bi.len [(Ex.loc 2).idx (Ex.con (T.int 0))]]]), Sm.asg 5 (Ex.lst []), Sm.for_ [6] false 0 [Ex.call 11 [] [Ex.loc 2]] b15, Sm.ret (Ex.tup [Ex.call 14 [] [Ex.loc 0, Ex.loc 5], Ex.loc 3])] := rfl
/-- a known group's turns are told -/
theorem closed12 (d : Nat) (k : Kn) (h : k ∈ kn12) : Fo (d + 2) 11 [.t (.lst (k.m.map tupI))] = .ok (.f (k.l.map tupI)) [] := by
  unfold kn12 at h
  simp only [List.mem_cons, List.not_mem_nil, or_false] at h
  rcases h with rfl | rfl | rfl | rfl | rfl | rfl | rfl | rfl | rfl | rfl | rfl
  · exact g12_0 d
  · exact g12_1 d
  · exact g12_2 d
  · exact g12_3 d
  · exact g12_4 d
  · exact g12_5 d
  · exact g12_6 d
  · exact g12_7 d
  · exact g12_8 d
  · exact g12_9 d
  · exact g12_10 d
theorem closed13 (d : Nat) (k : Kn) (h : k ∈ kn13) : Fo (d + 2) 11 [.t (.lst (k.m.map tupI))] = .ok (.f (k.l.map tupI)) [] := by
  unfold kn13 at h
  simp only [List.mem_cons, List.not_mem_nil, or_false] at h
  rcases h with rfl | rfl | rfl
  · exact g13_0 d
  · exact g13_1 d
  · exact g13_2 d
theorem f15 (d : Nat) {p : List T} (hp : Pot p) (K : List Kn) (hok : K.all Kn.ok = true) (h1 : 1 ≤ K.length) (h2 : K.length < 64) (hcl : ∀ k ∈ K, Fo (d + 2) 11 [.t (.lst (k.m.map tupI))] = .ok (.f (k.l.map tupI)) []) :
    ∃ (n : Nat) (tss : List (List Int)) (s : T) (p' : List T), Grp n tss ∧ 1 ≤ tss.length ∧ tss.length ≤ 8 ∧ 1 ≤ n ∧ n ≤ 6 ∧ Pot p' ∧ Fo (d + 3) 15 [.f p, .t (.lst (K.map Kn.t))] = .ok (.t (.tup [.lst (tss.map tupI), s])) [p'] := by
  obtain ⟨x, p1, hx, hp1, hc1⟩ := f9 d hp (xs := K.map Kn.t) (by rw [List.length_map]; exact h1) (by rw [List.length_map]; exact h2)
  obtain ⟨k, hk, rfl⟩ := List.mem_map.mp hx
  obtain ⟨hg, l1, l8, n1, n6, a, r, hm, ha⟩ := kn_grp (List.all_eq_true.mp hok k hk)
  have hR : biT .lrange [.int (k.n : Nat)] = some (.f ((rng k.n).map T.int)) := lrange_ok (by omega)
  obtain ⟨ys, p2, hperm, hp2, hc2⟩ := f14 d hp1 (xs := (rng k.n).map T.int) (by rw [List.length_map, rng_length]; omega)
  obtain ⟨σ, hσ, rfl⟩ := perm_map_inv unI (fun _ => rfl) hperm
  have hs : IsT k.n σ := isT_of hσ
  have e2 := s2_15 (Fo (d + 2)) k.n (p := p1) (p' := p2) (K := .lst (K.map Kn.t)) (m := .lst (k.m.map tupI)) (s := .lst (k.s.map T.int)) (a := tupI a) (r := [Sm.asg 5 (Ex.lst []), Sm.for_ [6] false 0 [Ex.call 11 [] [Ex.loc 2]] b15, Sm.ret (Ex.tup [Ex.call 14 [] [Ex.loc 0, Ex.loc 5], Ex.loc 3])]) (by rw [hm]; exact idx0 (.inl rfl)) (by show some (A.t (.int (a.map T.int).length)) = _; rw [List.length_map, ha]) hR hc2
  obtain ⟨ρ', e4, hI⟩ := forL_inv (turn := forTurn [6] false (exs pg (Fo (d + 2)) 1000 60 56 b15)) (iv := .sq true (.x (.lst (k.l.map tupI)))) (xs := k.l.map tupI) (I15 k.n p2 (.lst (K.map Kn.t)) (.lst (k.m.map tupI)) (.lst (k.s.map T.int)) σ k.l) (fun i ρ => rfl) (step15 (d + 2) k.n n6 hs hg.t l8) 1000 0 [.o false p2, .v (.lst (K.map Kn.t)), .v (.lst (k.m.map tupI)), .v (.lst (k.s.map T.int)), .o true (σ.map T.int), .o true [], .u, .u, .u] (Nat.zero_le _) (by rw [List.length_map]; omega) ⟨.u, rfl⟩
  obtain ⟨s6, rfl⟩ := hI.ex
  rw [List.length_map, List.take_length] at e4
  obtain ⟨zs, p3, hperm3, hp3, hc3⟩ := f14 d hp2 (xs := k.l.map fun t => tupI (conj k.n σ t)) (by rw [List.length_map]; omega)
  have em : (k.l.map fun t => tupI (conj k.n σ t)) = (k.l.map (conj k.n σ)).map tupI := by rw [List.map_map]; rfl
  rw [em] at hperm3
  obtain ⟨tss, ht, rfl⟩ := perm_map_inv turnI turnI_tupI hperm3
  have hG := (hg.conj hs).perm ht
  have hl : tss.length = k.l.length := by rw [ht.length_eq, List.length_map]
  refine ⟨k.n, tss, .lst (k.s.map T.int), p3, hG, by omega, by omega, n1, n6, hp3, ?_⟩
  refine Fd_rt (ρ0 := [.o false p, .v (.lst (K.map Kn.t)), .u, .u, .u, .u, .u, .u, .u]) p15 rfl (a := .t (.tup [.lst (tss.map tupI), .lst (k.s.map T.int)])) (ρ := [.o false p3, .v (.lst (K.map Kn.t)), .v (.lst (k.m.map tupI)), .v (.lst (k.s.map T.int)), .o true (σ.map T.int), .v (.lst (k.l.map fun t => tupI (conj k.n σ t))), s6, .u, .u]) ?_ rfl
  show exs pg (Fo (d + 2)) 1000 60 60 c15 _ = _
  rw [c15_eq, s1_15 (Fo (d + 2)) hc1, e2, s3_15 (Fo (d + 2)), s4_15 (Fo (d + 2)) (hcl k hk), e4, nxt_nx, s5_15 (Fo (d + 2)) hc3]
end K89

set_option Elab.async false
set_option linter.all false
set_option maxRecDepth 1000000
set_option maxHeartbeats 4000000
namespace K89
open PV PySem PL PyProof.Rows
theorem textFrom_le (B : Nat) : ∀ (ts : List Str) (k : Nat) (acc : Str), (∀ t ∈ ts, t.length ≤ B) → (textFrom k acc ts).length ≤ acc.length + ts.length * (B + 2)
  | [], k, acc, _ => by show acc.length ≤ _; simp
  | t :: r, k, acc, h => by
    have ih := textFrom_le B r (k + 1) (acc ++ (if k > 0 then ", " else "" : String) ++ t) (fun x hx => h x (List.mem_cons_of_mem _ hx))
    have e : (acc ++ (if k > 0 then ", " else "" : String) ++ t).length = acc.length + (if k > 0 then 2 else 0) + t.length := by
      rw [strLen_append, strLen_append]
      congr 2
      by_cases hk : k > 0
      · rw [if_pos hk, if_pos hk]; rfl
      · rw [if_neg hk, if_neg hk]; rfl
    have ht := h t List.mem_cons_self
    rw [e] at ih
    show (textFrom (k + 1) (acc ++ (if k > 0 then ", " else "" : String) ++ t) r).length ≤ _
    rw [List.length_cons, Nat.succ_mul]
    have hk2 : (if k > 0 then 2 else 0) ≤ 2 := by split <;> omega
    omega
theorem piled_le (B : Nat) : ∀ ts : List Str, (∀ t ∈ ts, t.length ≤ B) → piled ts ≤ ts.length * (B + 2)
  | [], _ => by simp [piled]
  | t :: r, h => by
    have ih := piled_le B r fun x hx => h x (List.mem_cons_of_mem _ hx)
    have ht := h t List.mem_cons_self
    have e : piled (t :: r) = t.length + 2 + piled r := by simp [piled]
    rw [e, List.length_cons, Nat.succ_mul]
    omega
theorem shownAll_len : ∀ xs : List PyData, (PyData.shownAll xs).length = xs.length
  | [] => rfl
  | x :: xs => congrArg Nat.succ (shownAll_len xs)
theorem shownAll_mem {xs : List PyData} {t : Str} (h : t ∈ PyData.shownAll xs) : ∃ x ∈ xs, t = x.shown := by
  induction xs with
  | nil => cases h
  | cons x xs ih =>
    rcases List.mem_cons.mp (show t ∈ x.shown :: PyData.shownAll xs from h) with e | h
    · exact ⟨x, List.mem_cons_self, e⟩
    · obtain ⟨y, h1, h2⟩ := ih h
      exact ⟨y, List.mem_cons_of_mem _ h1, h2⟩
theorem toDs_map : ∀ xs : List T, toDs xs = xs.map toD
  | [] => rfl
  | x :: xs => congrArg (toD x :: ·) (toDs_map xs)
theorem shown_lst {B N : Nat} {xs : List T} (h : ∀ x ∈ xs, (toD x).shown.length ≤ B) (hl : xs.length ≤ N) : (toD (.lst xs)).shown.length ≤ 3 + N * (B + 2) := by
  show (listText (PyData.shownAll (toDs xs))).length ≤ _
  have hs : ∀ t ∈ PyData.shownAll (toDs xs), t.length ≤ B := fun t ht => by
    obtain ⟨y, h1, h2⟩ := shownAll_mem ht
    rw [toDs_map] at h1
    obtain ⟨x, h3, h4⟩ := List.mem_map.mp h1
    rw [h2, ← h4]
    exact h x h3
  have z := textFrom_le B _ 0 "[" hs
  rw [shownAll_len, toDs_map, List.length_map] at z
  unfold listText
  rw [strLen_append]
  have l1 : (("]" : String) : Str).length = 1 := rfl
  have l2 : (("[" : String) : Str).length = 1 := rfl
  rw [l1]
  rw [l2] at z
  rw [toDs_map]
  have := Nat.mul_le_mul_right (B + 2) hl
  omega
theorem shown_tup {B N : Nat} {xs : List T} (h : ∀ x ∈ xs, (toD x).shown.length ≤ B) (hl : xs.length ≤ N) : (toD (.tup xs)).shown.length ≤ 3 + N * (B + 2) := by
  show (tupleText (PyData.shownAll (toDs xs))).length ≤ _
  have hs : ∀ t ∈ PyData.shownAll (toDs xs), t.length ≤ B := fun t ht => by
    obtain ⟨y, h1, h2⟩ := shownAll_mem ht
    rw [toDs_map] at h1
    obtain ⟨x, h3, h4⟩ := List.mem_map.mp h1
    rw [h2, ← h4]
    exact h x h3
  have z := piled_le B _ hs
  rw [shownAll_len, toDs_map, List.length_map] at z
  have hm := Nat.mul_le_mul_right (B + 2) hl
  unfold tupleText
  rw [strLen_append, strLen_append]
  have l2 : (("(" : String) : Str).length = 1 := rfl
  rw [l2]
  have l3 : ∀ b : Bool, ((if b = true then ",)" else ")" : String) : Str).length ≤ 2 := by intro b; cases b <;> decide
  have l3' := l3 ((PyData.shownAll (toDs xs)).length == 1)
  by_cases hn : PyData.shownAll (toDs xs) = []
  · rw [hn]
    have : (Str.join ", " ([] : List Str)).length = 0 := rfl
    rw [this]
    rw [hn] at l3'
    omega
  · have j := join_length_add _ hn
    rw [toDs_map] at j l3' ⊢
    omega
/-! ### what the law shows -/
def W1 (x : T) : Prop := (∃ i : Int, x = .int i ∧ -1 ≤ i ∧ i ≤ 9) ∨ (∃ b, x = .bl b) ∨ x = .non ∨ x = .str "0"
theorem int_small : ∀ i : Int, -1 ≤ i → i ≤ 9 → (PyData.int i).shown.length ≤ 10 ∧ (PyData.int i).showable = true := by
  intro i h1 h2
  have : i = -1 ∨ i = 0 ∨ i = 1 ∨ i = 2 ∨ i = 3 ∨ i = 4 ∨ i = 5 ∨ i = 6 ∨ i = 7 ∨ i = 8 ∨ i = 9 := by omega
  rcases this with rfl | rfl | rfl | rfl | rfl | rfl | rfl | rfl | rfl | rfl | rfl <;> decide +kernel
theorem W1.ok {x : T} (h : W1 x) : okT 0 x = true ∧ (toD x).shown.length ≤ 10 ∧ (toD x).showable = true := by
  rcases h with ⟨i, rfl, h1, h2⟩ | ⟨b, rfl⟩ | rfl | rfl
  · exact ⟨rfl, int_small i h1 h2⟩
  · cases b <;> exact ⟨rfl, by decide +kernel, rfl⟩
  · exact ⟨rfl, by decide +kernel, rfl⟩
  · exact ⟨by decide +kernel, by decide +kernel, rfl⟩
structure L1 (xs : List T) : Prop where
  w : ∀ x ∈ xs, W1 x
  l : xs.length ≤ 8
def W2 (x : T) : Prop := W1 x ∨ ∃ xs, L1 xs ∧ (x = .lst xs ∨ x = .tup xs)
theorem showAll {xs : List T} (h : ∀ x ∈ xs, (toD x).showable = true) : PyData.showableAll (toDs xs) = true := by
  induction xs with
  | nil => rfl
  | cons x xs ih =>
    show ((toD x).showable && PyData.showableAll (toDs xs)) = true
    rw [h x List.mem_cons_self, ih fun y hy => h y (List.mem_cons_of_mem _ hy)]
    rfl
theorem W2.ok {x : T} (h : W2 x) : okT 1 x = true ∧ (toD x).shown.length ≤ 100 ∧ (toD x).showable = true := by
  rcases h with h | ⟨xs, h, e⟩
  · obtain ⟨a, b, c⟩ := h.ok
    exact ⟨okT_up a 1, by omega, c⟩
  · have ha : xs.all (okT 0) = true := List.all_eq_true.mpr fun x hx => (h.w x hx).ok.1
    have hs := showAll fun x hx => (h.w x hx).ok.2.2
    rcases e with rfl | rfl
    · exact ⟨ha, Nat.le_trans (shown_lst (B := 10) (N := 8) (fun x hx => (h.w x hx).ok.2.1) h.l) (by decide), hs⟩
    · exact ⟨ha, Nat.le_trans (shown_tup (B := 10) (N := 8) (fun x hx => (h.w x hx).ok.2.1) h.l) (by decide), hs⟩
structure L2' (xs : List T) : Prop where
  w : ∀ x ∈ xs, W2 x
  l : xs.length ≤ 10
def W3 (x : T) : Prop := ∃ xs, L2' xs ∧ (x = .lst xs ∨ x = .tup xs)
theorem W3.ok {x : T} (h : W3 x) : okT 60 x = true ∧ ∃ s, reprT x = some s := by
  obtain ⟨xs, h, e⟩ := h
  have ha : xs.all (okT 1) = true := List.all_eq_true.mpr fun x hx => (h.w x hx).ok.1
  have hs := showAll fun x hx => (h.w x hx).ok.2.2
  have key : ∀ y : T, okT 2 y = true → (toD y).showable = true → (toD y).shown.length ≤ 3 + 10 * (100 + 2) → okT 60 y = true ∧ ∃ s, reprT y = some s := fun y a b c => by
    refine ⟨okT_up a 58, (toD y).shown, ?_⟩
    unfold reprT
    rw [okT_up a 61, b, decide_eq_true (show (toD y).shown.length ≤ big from Nat.le_trans c (by decide))]
    rfl
  rcases e with rfl | rfl
  · exact key _ ha hs (shown_lst (fun x hx => (h.w x hx).ok.2.1) h.l)
  · exact key _ ha hs (shown_tup (fun x hx => (h.w x hx).ok.2.1) h.l)
/-! ### bigger from smaller -/
theorem w1_int {i : Int} (h : -1 ≤ i ∧ i ≤ 9) : W1 (.int i) := .inl ⟨i, rfl, h⟩
theorem l1_turn {n : Nat} {a : List Int} (h : IsT n a) (hn : n ≤ 6) : ∀ x ∈ a.map T.int, W1 x := fun x hx => by
  obtain ⟨i, hi, rfl⟩ := List.mem_map.mp hx
  have := h.mem i hi
  exact w1_int (by omega)
theorem w2_turn {n : Nat} {a : List Int} (h : IsT n a) (hn : n ≤ 6) : W2 (tupI a) := .inr ⟨_, ⟨l1_turn h hn, by rw [List.length_map, h.len]; omega⟩, .inr rfl⟩
theorem cut_mem {xs : List T} {lo hi : Option Int} {x : T} (h : x ∈ cut xs lo hi) : x ∈ xs := List.mem_of_mem_drop (List.mem_of_mem_take h)
theorem cut_len (xs : List T) (lo hi : Option Int) : (cut xs lo hi).length ≤ xs.length := by
  unfold cut
  rw [List.length_take, List.length_drop]
  omega
end K89

set_option Elab.async false
set_option linter.all false
set_option maxRecDepth 1000000
set_option maxHeartbeats 8000000
namespace K89
open PV PySem PL
theorem add_lst {xs ys : List T} (h : xs.length + ys.length ≤ 100) : binT .add (.lst xs) (.lst ys) = some (.f (xs ++ ys)) := by
  show (if xs.length + ys.length ≤ big then some (A.f (xs ++ ys)) else none) = _
  rw [if_pos (Nat.le_trans h (by decide))]
theorem cut_lst (xs : List T) (lo hi : Option Int) : cutT (.lst xs) lo hi = some (.f (cut xs lo hi)) := rfl
def toL : T → T
  | .tup xs => .lst xs
  | x => x
abbrev e3 : List Ex := [Ex.loc 1, Ex.bi Bi.tuple [Ex.loc 1], Ex.comp [10, 6] [6] false 0 [Ex.loc 1] none (Ex.bi Bi.list [Ex.loc 6]), Ex.loc 5, Ex.bin Bin.add (Ex.loc 1) (Ex.lst [(Ex.loc 1).idx (Ex.loc 2)]), Ex.bin Bin.add (Ex.loc 1) (Ex.lst [Ex.loc 4]), Ex.bin Bin.add (Ex.loc 5) (Ex.lst [Ex.loc 4]), (Ex.loc 1).rev]
theorem n1 (F : Orc) {n r : Nat} {p p' X : List T} {a0 : T} {ss : List Sm} (hc : F 8 [.f p, .t (.int (X.length : Nat))] = .ok (.t (.int (r : Nat))) [p']) (h0 : idxT (.lst X) (.int 0) = some a0) (h1 : biT .len [a0] = some (.t (.int (n : Nat)))) :
    exs pg F 1000 60 60 (Sm.unp [Tg.nm 2, Tg.nm 3] (Ex.tup [Ex.call 8 [] [Ex.loc 0, Ex.bi Bi.len [Ex.loc 1]], Ex.bi Bi.len [(Ex.loc 1).idx (Ex.con (T.int 0))]]) :: ss) [.o false p, .v (.lst X), .u, .u, .u, .u, .u, .u, .u, .u, .u, .u] = exs pg F 1000 60 59 ss [.o false p', .v (.lst X), .v (.int (r : Nat)), .v (.int (n : Nat)), .u, .u, .u, .u, .u, .u, .u, .u] := by
  rw [exs_unp]
  simp only [PL.ev_con, PL.ev_loc, PL.ev_dk0, PL.ev_dk1, PL.ev_lst, PL.ev_tup, PL.ev_bin, PL.ev_neg, PL.ev_cmp, PL.ev_chn, PL.ev_and, PL.ev_or, PL.ev_tand, PL.ev_tor, PL.ev_not, PL.ev_ite, PL.ev_isn, PL.ev_isb, PL.ev_isi, PL.ev_call, PL.ev_call1, PL.ev_bi, PL.ev_app, PL.ev_ext, PL.ev_pop, PL.ev_popA, PL.ev_idx, PL.ev_ixof, PL.ev_slc, PL.ev_rev, PV.evO, PV.evOs, PV.evP, PV.evPs, PV.evF, PV.evB, PV.evS, PL.r_ok_bind, PL.r_bad_bind, PL.rs_of_ok, PL.exs_nil, PL.exs_ex, PL.exs_retl, PL.exs_ret, PL.exs_asg, PL.exs_unp, PL.exs_par, PL.exs_set, PL.exs_aug, PL.exs_ite, PL.nxt_nx, PL.nxt_rt, PL.nxt_bk, PL.nxt_ct, PV.res, PV.ress, PV.frz, PV.frzs, PV.slotT, PV.ofA, PV.ofB, PV.ofT, PV.ofA?, PV.store1, PV.callWith, PV.argsOf, PV.argOf, PV.mutsOf, PV.lentOf, PV.isOwn, PV.putBack, PV.appC, PV.extC, PV.popC, PV.popAC, PV.setIx, PV.truth, PV.storeAll, PL.big_le_0, PL.big_le_1, PL.big_le_2, PL.big_le_3, PL.big_le_4, PL.big_le_5, PL.big_le_6, PL.big_le_7, PL.big_le_8, PL.big_le_9, PL.big_le_10, PL.big_le_11, PL.big_le_12, PL.big_le_13, PV.unpT, PV.compTurn, PV.bindTo, PV.setAll, PV.wipeE, PV.backE, PV.forTurn, PV.tupT, PV.startE, PV.slotOf, PV.endC, PV.mutsAt, PV.runF, List.getElem?_cons_zero, List.getElem?_cons_succ, List.getElem?_nil, Option.bind_some, Option.bind_none, Option.map_some, Option.map_none, List.set_cons_zero, List.set_cons_succ, List.isEmpty_nil, List.isEmpty_cons, if_true, if_false, List.replicate_succ, List.replicate_zero, List.length_cons, List.length_nil, Bool.not_true, Bool.not_false, Bool.and_true, Bool.and_false, Bool.true_and, Bool.false_and, reduceCtorEq, ne_eq, not_false_eq_true, implies_true, Bool.true_or, Bool.false_or, Bool.or_true, Bool.or_false, Nat.reduceAdd, Nat.reduceLeDiff, Nat.reduceSub, len_lst, hc, p8, List.contains_nil, h0, h1]
theorem n2 (F : Orc) {n r : Nat} {p p' X R ys : List T} {ss : List Sm} (hR : biT .lrange [.int (n : Nat)] = some (.f R)) (hc : F 14 [.f p, .t (.lst R)] = .ok (.f ys) [p']) (hl : (cut X none (some (r : Int))).length + (cut X (some ((r : Int) + 1)) none).length ≤ 100) :
    exs pg F 1000 60 59 (Sm.par 4 5 (Ex.bi Bi.tuple [Ex.call 14 [] [Ex.loc 0, Ex.bi Bi.lrange [Ex.loc 3]]]) (Ex.bin Bin.add ((Ex.loc 1).slc none (some (Ex.loc 2))) ((Ex.loc 1).slc (some (Ex.bin Bin.add (Ex.loc 2) (Ex.con (T.int 1)))) none)) :: ss) [.o false p, .v (.lst X), .v (.int (r : Nat)), .v (.int (n : Nat)), .u, .u, .u, .u, .u, .u, .u, .u] =
    exs pg F 1000 60 58 ss [.o false p', .v (.lst X), .v (.int (r : Nat)), .v (.int (n : Nat)), .v (.tup ys), .o true (cut X none (some (r : Int)) ++ cut X (some ((r : Int) + 1)) none), .u, .u, .u, .u, .u, .u] := by
  rw [exs_par]
  simp only [PL.ev_con, PL.ev_loc, PL.ev_dk0, PL.ev_dk1, PL.ev_lst, PL.ev_tup, PL.ev_bin, PL.ev_neg, PL.ev_cmp, PL.ev_chn, PL.ev_and, PL.ev_or, PL.ev_tand, PL.ev_tor, PL.ev_not, PL.ev_ite, PL.ev_isn, PL.ev_isb, PL.ev_isi, PL.ev_call, PL.ev_call1, PL.ev_bi, PL.ev_app, PL.ev_ext, PL.ev_pop, PL.ev_popA, PL.ev_idx, PL.ev_ixof, PL.ev_slc, PL.ev_rev, PV.evO, PV.evOs, PV.evP, PV.evPs, PV.evF, PV.evB, PV.evS, PL.r_ok_bind, PL.r_bad_bind, PL.rs_of_ok, PL.exs_nil, PL.exs_ex, PL.exs_retl, PL.exs_ret, PL.exs_asg, PL.exs_unp, PL.exs_par, PL.exs_set, PL.exs_aug, PL.exs_ite, PL.nxt_nx, PL.nxt_rt, PL.nxt_bk, PL.nxt_ct, PV.res, PV.ress, PV.frz, PV.frzs, PV.slotT, PV.ofA, PV.ofB, PV.ofT, PV.ofA?, PV.store1, PV.callWith, PV.argsOf, PV.argOf, PV.mutsOf, PV.lentOf, PV.isOwn, PV.putBack, PV.appC, PV.extC, PV.popC, PV.popAC, PV.setIx, PV.truth, PV.storeAll, PL.big_le_0, PL.big_le_1, PL.big_le_2, PL.big_le_3, PL.big_le_4, PL.big_le_5, PL.big_le_6, PL.big_le_7, PL.big_le_8, PL.big_le_9, PL.big_le_10, PL.big_le_11, PL.big_le_12, PL.big_le_13, PV.unpT, PV.compTurn, PV.bindTo, PV.setAll, PV.wipeE, PV.backE, PV.forTurn, PV.tupT, PV.startE, PV.slotOf, PV.endC, PV.mutsAt, PV.runF, List.getElem?_cons_zero, List.getElem?_cons_succ, List.getElem?_nil, Option.bind_some, Option.bind_none, Option.map_some, Option.map_none, List.set_cons_zero, List.set_cons_succ, List.isEmpty_nil, List.isEmpty_cons, if_true, if_false, List.replicate_succ, List.replicate_zero, List.length_cons, List.length_nil, Bool.not_true, Bool.not_false, Bool.and_true, Bool.and_false, Bool.true_and, Bool.false_and, reduceCtorEq, ne_eq, not_false_eq_true, implies_true, Bool.true_or, Bool.false_or, Bool.or_true, Bool.or_false, Nat.reduceAdd, Nat.reduceLeDiff, Nat.reduceSub, hR, hc, p14, List.contains_nil, tuple_lst, cut_lst, add_ok, add_lst hl]
theorem c3m (F : Orc) (m n : Nat) {X : List T} {a0 a2 a3 a4 a5 : Sl} (hX : ∀ x ∈ X, ∃ xs, x = .tup xs) (hl : X.length ≤ 10) : ev pg F 1000 (m + 5) (.comp [10, 6] [6] false 0 [.loc 1] none (.bi .list [.loc 6])) [a0, .v (.lst X), a2, a3, a4, a5, .u, .u, .u, .u, .u, .u] = .ok (.f (X.map toL)) [a0, .v (.lst X), a2, a3, a4, a5, .u, .u, .u, .u, .u, .u] := by
  refine ev_comp_map (iv := .sq true (.d 1)) (ρ1 := [a0, .v (.lst X), a2, a3, a4, a5, .u, .u, .u, .u, .u, .u]) (ρ2 := [a0, .v (.lst X), a2, a3, a4, a5, .u, .u, .u, .u, .u, .u]) (xs := X) toL rfl rfl (fun i => rfl) (fun x hx => ?_) (by omega) (Nat.le_trans hl (by decide)) rfl
  obtain ⟨xs, rfl⟩ := hX x hx
  simp only [PL.ev_con, PL.ev_loc, PL.ev_dk0, PL.ev_dk1, PL.ev_lst, PL.ev_tup, PL.ev_bin, PL.ev_neg, PL.ev_cmp, PL.ev_chn, PL.ev_and, PL.ev_or, PL.ev_tand, PL.ev_tor, PL.ev_not, PL.ev_ite, PL.ev_isn, PL.ev_isb, PL.ev_isi, PL.ev_call, PL.ev_call1, PL.ev_bi, PL.ev_app, PL.ev_ext, PL.ev_pop, PL.ev_popA, PL.ev_idx, PL.ev_ixof, PL.ev_slc, PL.ev_rev, PV.evO, PV.evOs, PV.evP, PV.evPs, PV.evF, PV.evB, PV.evS, PL.r_ok_bind, PL.r_bad_bind, PL.rs_of_ok, PL.exs_nil, PL.exs_ex, PL.exs_retl, PL.exs_ret, PL.exs_asg, PL.exs_unp, PL.exs_par, PL.exs_set, PL.exs_aug, PL.exs_ite, PL.nxt_nx, PL.nxt_rt, PL.nxt_bk, PL.nxt_ct, PV.res, PV.ress, PV.frz, PV.frzs, PV.slotT, PV.ofA, PV.ofB, PV.ofT, PV.ofA?, PV.store1, PV.callWith, PV.argsOf, PV.argOf, PV.mutsOf, PV.lentOf, PV.isOwn, PV.putBack, PV.appC, PV.extC, PV.popC, PV.popAC, PV.setIx, PV.truth, PV.storeAll, PL.big_le_0, PL.big_le_1, PL.big_le_2, PL.big_le_3, PL.big_le_4, PL.big_le_5, PL.big_le_6, PL.big_le_7, PL.big_le_8, PL.big_le_9, PL.big_le_10, PL.big_le_11, PL.big_le_12, PL.big_le_13, PV.unpT, PV.compTurn, PV.bindTo, PV.setAll, PV.wipeE, PV.backE, PV.forTurn, PV.tupT, PV.startE, PV.slotOf, PV.endC, PV.mutsAt, PV.runF, List.getElem?_cons_zero, List.getElem?_cons_succ, List.getElem?_nil, Option.bind_some, Option.bind_none, Option.map_some, Option.map_none, List.set_cons_zero, List.set_cons_succ, List.isEmpty_nil, List.isEmpty_cons, if_true, if_false, List.replicate_succ, List.replicate_zero, List.length_cons, List.length_nil, Bool.not_true, Bool.not_false, Bool.and_true, Bool.and_false, Bool.true_and, Bool.false_and, reduceCtorEq, ne_eq, not_false_eq_true, implies_true, Bool.true_or, Bool.false_or, Bool.or_true, Bool.or_false, Nat.reduceAdd, Nat.reduceLeDiff, Nat.reduceSub, list_tup]
  rfl
theorem n3 (F : Orc) {n r : Nat} {X Rst U Y : List T} {a0 : Sl} {ss : List Sm} (hX : ∀ x ∈ X, ∃ xs, x = .tup xs) (hl : X.length ≤ 10) (hr : Rst.length ≤ 10) (hi : idxT (.lst X) (.int (r : Nat)) = some (.tup U)) :
    exs pg F 1000 60 58 (Sm.asg 7 (Ex.lst e3) :: ss) [a0, .v (.lst X), .v (.int (r : Nat)), .v (.int (n : Nat)), .v (.tup Y), .o true Rst, .u, .u, .u, .u, .u, .u] =
    exs pg F 1000 60 57 ss [a0, .v (.lst X), .v (.int (r : Nat)), .v (.int (n : Nat)), .v (.tup Y), .v (.lst Rst), .u, .o true [.lst X, .tup X, .lst (X.map toL), .lst Rst, .lst (X ++ [.tup U]), .lst (X ++ [.tup Y]), .lst (Rst ++ [.tup Y]), .lst X.reverse], .u, .u, .u, .u] := by
  rw [exs_asg]
  simp only [PL.ev_con, PL.ev_loc, PL.ev_dk0, PL.ev_dk1, PL.ev_lst, PL.ev_tup, PL.ev_bin, PL.ev_neg, PL.ev_cmp, PL.ev_chn, PL.ev_and, PL.ev_or, PL.ev_tand, PL.ev_tor, PL.ev_not, PL.ev_ite, PL.ev_isn, PL.ev_isb, PL.ev_isi, PL.ev_call, PL.ev_call1, PL.ev_bi, PL.ev_app, PL.ev_ext, PL.ev_pop, PL.ev_popA, PL.ev_idx, PL.ev_ixof, PL.ev_slc, PL.ev_rev, PV.evO, PV.evOs, PV.evP, PV.evPs, PV.evF, PV.evB, PV.evS, PL.r_ok_bind, PL.r_bad_bind, PL.rs_of_ok, PL.exs_nil, PL.exs_ex, PL.exs_retl, PL.exs_ret, PL.exs_asg, PL.exs_unp, PL.exs_par, PL.exs_set, PL.exs_aug, PL.exs_ite, PL.nxt_nx, PL.nxt_rt, PL.nxt_bk, PL.nxt_ct, PV.res, PV.ress, PV.frz, PV.frzs, PV.slotT, PV.ofA, PV.ofB, PV.ofT, PV.ofA?, PV.store1, PV.callWith, PV.argsOf, PV.argOf, PV.mutsOf, PV.lentOf, PV.isOwn, PV.putBack, PV.appC, PV.extC, PV.popC, PV.popAC, PV.setIx, PV.truth, PV.storeAll, PL.big_le_0, PL.big_le_1, PL.big_le_2, PL.big_le_3, PL.big_le_4, PL.big_le_5, PL.big_le_6, PL.big_le_7, PL.big_le_8, PL.big_le_9, PL.big_le_10, PL.big_le_11, PL.big_le_12, PL.big_le_13, PV.unpT, PV.compTurn, PV.bindTo, PV.setAll, PV.wipeE, PV.backE, PV.forTurn, PV.tupT, PV.startE, PV.slotOf, PV.endC, PV.mutsAt, PV.runF, List.getElem?_cons_zero, List.getElem?_cons_succ, List.getElem?_nil, Option.bind_some, Option.bind_none, Option.map_some, Option.map_none, List.set_cons_zero, List.set_cons_succ, List.isEmpty_nil, List.isEmpty_cons, if_true, if_false, List.replicate_succ, List.replicate_zero, List.length_cons, List.length_nil, Bool.not_true, Bool.not_false, Bool.and_true, Bool.and_false, Bool.true_and, Bool.false_and, reduceCtorEq, ne_eq, not_false_eq_true, implies_true, Bool.true_or, Bool.false_or, Bool.or_true, Bool.or_false, Nat.reduceAdd, Nat.reduceLeDiff, Nat.reduceSub, tuple_lst, c3m F _ n hX hl, hi, add_lst (xs := X) (ys := [.tup U]) (by simp; omega), add_lst (xs := X) (ys := [.tup Y]) (by simp; omega), add_lst (xs := Rst) (ys := [.tup Y]) (by simp; omega)]
theorem n4 (F : Orc) {n r : Nat} {X U : List T} {a0 a3 a4 a5 a7 : Sl} {ss : List Sm} (hi : idxT (.lst X) (.int (r : Nat)) = some (.tup U)) :
    exs pg F 1000 60 57 (Sm.asg 6 (Ex.bi Bi.list [(Ex.loc 1).idx (Ex.loc 2)]) :: ss) [a0, .v (.lst X), .v (.int (r : Nat)), a3, a4, a5, .u, a7, .u, .u, .u, .u] = exs pg F 1000 60 56 ss [a0, .v (.lst X), .v (.int (r : Nat)), a3, a4, a5, .o true U, a7, .u, .u, .u, .u] := by
  rw [exs_asg]
  simp only [PL.ev_con, PL.ev_loc, PL.ev_dk0, PL.ev_dk1, PL.ev_lst, PL.ev_tup, PL.ev_bin, PL.ev_neg, PL.ev_cmp, PL.ev_chn, PL.ev_and, PL.ev_or, PL.ev_tand, PL.ev_tor, PL.ev_not, PL.ev_ite, PL.ev_isn, PL.ev_isb, PL.ev_isi, PL.ev_call, PL.ev_call1, PL.ev_bi, PL.ev_app, PL.ev_ext, PL.ev_pop, PL.ev_popA, PL.ev_idx, PL.ev_ixof, PL.ev_slc, PL.ev_rev, PV.evO, PV.evOs, PV.evP, PV.evPs, PV.evF, PV.evB, PV.evS, PL.r_ok_bind, PL.r_bad_bind, PL.rs_of_ok, PL.exs_nil, PL.exs_ex, PL.exs_retl, PL.exs_ret, PL.exs_asg, PL.exs_unp, PL.exs_par, PL.exs_set, PL.exs_aug, PL.exs_ite, PL.nxt_nx, PL.nxt_rt, PL.nxt_bk, PL.nxt_ct, PV.res, PV.ress, PV.frz, PV.frzs, PV.slotT, PV.ofA, PV.ofB, PV.ofT, PV.ofA?, PV.store1, PV.callWith, PV.argsOf, PV.argOf, PV.mutsOf, PV.lentOf, PV.isOwn, PV.putBack, PV.appC, PV.extC, PV.popC, PV.popAC, PV.setIx, PV.truth, PV.storeAll, PL.big_le_0, PL.big_le_1, PL.big_le_2, PL.big_le_3, PL.big_le_4, PL.big_le_5, PL.big_le_6, PL.big_le_7, PL.big_le_8, PL.big_le_9, PL.big_le_10, PL.big_le_11, PL.big_le_12, PL.big_le_13, PV.unpT, PV.compTurn, PV.bindTo, PV.setAll, PV.wipeE, PV.backE, PV.forTurn, PV.tupT, PV.startE, PV.slotOf, PV.endC, PV.mutsAt, PV.runF, List.getElem?_cons_zero, List.getElem?_cons_succ, List.getElem?_nil, Option.bind_some, Option.bind_none, Option.map_some, Option.map_none, List.set_cons_zero, List.set_cons_succ, List.isEmpty_nil, List.isEmpty_cons, if_true, if_false, List.replicate_succ, List.replicate_zero, List.length_cons, List.length_nil, Bool.not_true, Bool.not_false, Bool.and_true, Bool.and_false, Bool.true_and, Bool.false_and, reduceCtorEq, ne_eq, not_false_eq_true, implies_true, Bool.true_or, Bool.false_or, Bool.or_true, Bool.or_false, Nat.reduceAdd, Nat.reduceLeDiff, Nat.reduceSub, hi, list_tup]
theorem n5 (F : Orc) {n q : Nat} {p p' : List T} {a1 a2 a4 a5 a6 a7 : Sl} {ss : List Sm} (hc : F 8 [.f p, .t (.int (n : Nat))] = .ok (.t (.int (q : Nat))) [p']) :
    exs pg F 1000 60 56 (Sm.asg 8 (Ex.call 8 [] [Ex.loc 0, Ex.loc 3]) :: ss) [.o false p, a1, a2, .v (.int (n : Nat)), a4, a5, a6, a7, .u, .u, .u, .u] = exs pg F 1000 60 55 ss [.o false p', a1, a2, .v (.int (n : Nat)), a4, a5, a6, a7, .v (.int (q : Nat)), .u, .u, .u] := by
  rw [exs_asg]
  simp only [PL.ev_con, PL.ev_loc, PL.ev_dk0, PL.ev_dk1, PL.ev_lst, PL.ev_tup, PL.ev_bin, PL.ev_neg, PL.ev_cmp, PL.ev_chn, PL.ev_and, PL.ev_or, PL.ev_tand, PL.ev_tor, PL.ev_not, PL.ev_ite, PL.ev_isn, PL.ev_isb, PL.ev_isi, PL.ev_call, PL.ev_call1, PL.ev_bi, PL.ev_app, PL.ev_ext, PL.ev_pop, PL.ev_popA, PL.ev_idx, PL.ev_ixof, PL.ev_slc, PL.ev_rev, PV.evO, PV.evOs, PV.evP, PV.evPs, PV.evF, PV.evB, PV.evS, PL.r_ok_bind, PL.r_bad_bind, PL.rs_of_ok, PL.exs_nil, PL.exs_ex, PL.exs_retl, PL.exs_ret, PL.exs_asg, PL.exs_unp, PL.exs_par, PL.exs_set, PL.exs_aug, PL.exs_ite, PL.nxt_nx, PL.nxt_rt, PL.nxt_bk, PL.nxt_ct, PV.res, PV.ress, PV.frz, PV.frzs, PV.slotT, PV.ofA, PV.ofB, PV.ofT, PV.ofA?, PV.store1, PV.callWith, PV.argsOf, PV.argOf, PV.mutsOf, PV.lentOf, PV.isOwn, PV.putBack, PV.appC, PV.extC, PV.popC, PV.popAC, PV.setIx, PV.truth, PV.storeAll, PL.big_le_0, PL.big_le_1, PL.big_le_2, PL.big_le_3, PL.big_le_4, PL.big_le_5, PL.big_le_6, PL.big_le_7, PL.big_le_8, PL.big_le_9, PL.big_le_10, PL.big_le_11, PL.big_le_12, PL.big_le_13, PV.unpT, PV.compTurn, PV.bindTo, PV.setAll, PV.wipeE, PV.backE, PV.forTurn, PV.tupT, PV.startE, PV.slotOf, PV.endC, PV.mutsAt, PV.runF, List.getElem?_cons_zero, List.getElem?_cons_succ, List.getElem?_nil, Option.bind_some, Option.bind_none, Option.map_some, Option.map_none, List.set_cons_zero, List.set_cons_succ, List.isEmpty_nil, List.isEmpty_cons, if_true, if_false, List.replicate_succ, List.replicate_zero, List.length_cons, List.length_nil, Bool.not_true, Bool.not_false, Bool.and_true, Bool.and_false, Bool.true_and, Bool.false_and, reduceCtorEq, ne_eq, not_false_eq_true, implies_true, Bool.true_or, Bool.false_or, Bool.or_true, Bool.or_false, Nat.reduceAdd, Nat.reduceLeDiff, Nat.reduceSub, hc, p8, List.contains_nil]
/-- a turn with one number bent -/
def bent (Rst U : List T) (q : Nat) (x : T) : T := .lst (Rst ++ [.lst (cut U none (some (q : Int)) ++ [x] ++ cut U (some ((q : Int) + 1)) none)])
abbrev b6 : List Sm := [Sm.ex (Ex.app 7 (Ex.bin Bin.add (Ex.loc 5) (Ex.lst [Ex.bin Bin.add (Ex.bin Bin.add ((Ex.loc 6).slc none (some (Ex.loc 8))) (Ex.lst [Ex.loc 9])) ((Ex.loc 6).slc (some (Ex.bin Bin.add (Ex.loc 8) (Ex.con (T.int 1)))) none)])))]
theorem n6t (F : Orc) {q : Nat} {Rst U V : List T} {a0 a1 a2 a3 a4 s : Sl} (x : T) (hV : V.length ≤ 50) (hr : Rst.length ≤ 10) (hu : U.length ≤ 10) :
    forTurn [9] false (exs pg F 1000 60 54 b6) x [a0, a1, a2, a3, a4, .v (.lst Rst), .o true U, .o true V, .v (.int (q : Nat)), s, .u, .u] = .nx [a0, a1, a2, a3, a4, .v (.lst Rst), .o true U, .o true (V ++ [bent Rst U q x]), .v (.int (q : Nat)), .v x, .u, .u] := by
  have c1 := cut_len U none (some (q : Int))
  have c2 := cut_len U (some ((q : Int) + 1)) none
  have hb : V.length < big := Nat.lt_of_le_of_lt hV (by decide)
  simp only [PL.ev_con, PL.ev_loc, PL.ev_dk0, PL.ev_dk1, PL.ev_lst, PL.ev_tup, PL.ev_bin, PL.ev_neg, PL.ev_cmp, PL.ev_chn, PL.ev_and, PL.ev_or, PL.ev_tand, PL.ev_tor, PL.ev_not, PL.ev_ite, PL.ev_isn, PL.ev_isb, PL.ev_isi, PL.ev_call, PL.ev_call1, PL.ev_bi, PL.ev_app, PL.ev_ext, PL.ev_pop, PL.ev_popA, PL.ev_idx, PL.ev_ixof, PL.ev_slc, PL.ev_rev, PV.evO, PV.evOs, PV.evP, PV.evPs, PV.evF, PV.evB, PV.evS, PL.r_ok_bind, PL.r_bad_bind, PL.rs_of_ok, PL.exs_nil, PL.exs_ex, PL.exs_retl, PL.exs_ret, PL.exs_asg, PL.exs_unp, PL.exs_par, PL.exs_set, PL.exs_aug, PL.exs_ite, PL.nxt_nx, PL.nxt_rt, PL.nxt_bk, PL.nxt_ct, PV.res, PV.ress, PV.frz, PV.frzs, PV.slotT, PV.ofA, PV.ofB, PV.ofT, PV.ofA?, PV.store1, PV.callWith, PV.argsOf, PV.argOf, PV.mutsOf, PV.lentOf, PV.isOwn, PV.putBack, PV.appC, PV.extC, PV.popC, PV.popAC, PV.setIx, PV.truth, PV.storeAll, PL.big_le_0, PL.big_le_1, PL.big_le_2, PL.big_le_3, PL.big_le_4, PL.big_le_5, PL.big_le_6, PL.big_le_7, PL.big_le_8, PL.big_le_9, PL.big_le_10, PL.big_le_11, PL.big_le_12, PL.big_le_13, PV.unpT, PV.compTurn, PV.bindTo, PV.setAll, PV.wipeE, PV.backE, PV.forTurn, PV.tupT, PV.startE, PV.slotOf, PV.endC, PV.mutsAt, PV.runF, List.getElem?_cons_zero, List.getElem?_cons_succ, List.getElem?_nil, Option.bind_some, Option.bind_none, Option.map_some, Option.map_none, List.set_cons_zero, List.set_cons_succ, List.isEmpty_nil, List.isEmpty_cons, if_true, if_false, List.replicate_succ, List.replicate_zero, List.length_cons, List.length_nil, Bool.not_true, Bool.not_false, Bool.and_true, Bool.and_false, Bool.true_and, Bool.false_and, reduceCtorEq, ne_eq, not_false_eq_true, implies_true, Bool.true_or, Bool.false_or, Bool.or_true, Bool.or_false, Nat.reduceAdd, Nat.reduceLeDiff, Nat.reduceSub, cut_lst, add_ok, add_lst (xs := cut U none (some (q : Int))) (ys := [x]) (by simp; omega), add_lst (xs := cut U none (some (q : Int)) ++ [x]) (ys := cut U (some ((q : Int) + 1)) none) (by simp; omega),
    add_lst (xs := Rst) (ys := [.lst (cut U none (some (q : Int)) ++ [x] ++ cut U (some ((q : Int) + 1)) none)]) (by simp; omega), hb]
  rfl
structure I6 (a0 a1 a2 a3 a4 : Sl) (Rst U V xs : List T) (q i : Nat) (ρ : Rho) : Prop where
  ex : ∃ s, ρ = [a0, a1, a2, a3, a4, .v (.lst Rst), .o true U, .o true (V ++ (xs.take i).map (bent Rst U q)), .v (.int (q : Nat)), s, .u, .u]
theorem n6 (F : Orc) {q n : Nat} {Rst U V : List T} {a0 a1 a2 a4 : Sl} {x5 : T} (hV : V.length ≤ 20) (hr : Rst.length ≤ 10) (hu : U.length ≤ 10) (h5 : idxT (.lst U) (.int ((q : Int) - 1)) = some x5) :
    ∃ s, ∀ ss : List Sm, exs pg F 1000 60 55 (Sm.for_ [9] false 0 [Ex.lst [Ex.con (T.bl true), Ex.con T.non, Ex.loc 3, (Ex.con (T.int 1)).neg, Ex.con (T.str "0"), (Ex.loc 6).idx (Ex.bin Bin.sub (Ex.loc 8) (Ex.con (T.int 1)))]] b6 :: ss) [a0, a1, a2, .v (.int (n : Nat)), a4, .v (.lst Rst), .o true U, .o true V, .v (.int (q : Nat)), .u, .u, .u] =
      exs pg F 1000 60 54 ss [a0, a1, a2, .v (.int (n : Nat)), a4, .v (.lst Rst), .o true U, .o true (V ++ ([T.bl true, .non, .int (n : Nat), .int (-1), .str "0", x5] : List T).map (bent Rst U q)), .v (.int (q : Nat)), s, .u, .u] := by
  have hif : evIf (ev pg F 1000 60) 0 [Ex.lst [Ex.con (T.bl true), Ex.con T.non, Ex.loc 3, (Ex.con (T.int 1)).neg, Ex.con (T.str "0"), (Ex.loc 6).idx (Ex.bin Bin.sub (Ex.loc 8) (Ex.con (T.int 1)))]] [a0, a1, a2, .v (.int (n : Nat)), a4, .v (.lst Rst), .o true U, .o true V, .v (.int (q : Nat)), .u, .u, .u] = .ok (.sq true (.x (.lst [T.bl true, .non, .int (n : Nat), .int (-1), .str "0", x5]))) [a0, a1, a2, .v (.int (n : Nat)), a4, .v (.lst Rst), .o true U, .o true V, .v (.int (q : Nat)), .u, .u, .u] := by
    refine evIf_f ?_
    simp only [PL.ev_con, PL.ev_loc, PL.ev_dk0, PL.ev_dk1, PL.ev_lst, PL.ev_tup, PL.ev_bin, PL.ev_neg, PL.ev_cmp, PL.ev_chn, PL.ev_and, PL.ev_or, PL.ev_tand, PL.ev_tor, PL.ev_not, PL.ev_ite, PL.ev_isn, PL.ev_isb, PL.ev_isi, PL.ev_call, PL.ev_call1, PL.ev_bi, PL.ev_app, PL.ev_ext, PL.ev_pop, PL.ev_popA, PL.ev_idx, PL.ev_ixof, PL.ev_slc, PL.ev_rev, PV.evO, PV.evOs, PV.evP, PV.evPs, PV.evF, PV.evB, PV.evS, PL.r_ok_bind, PL.r_bad_bind, PL.rs_of_ok, PL.exs_nil, PL.exs_ex, PL.exs_retl, PL.exs_ret, PL.exs_asg, PL.exs_unp, PL.exs_par, PL.exs_set, PL.exs_aug, PL.exs_ite, PL.nxt_nx, PL.nxt_rt, PL.nxt_bk, PL.nxt_ct, PV.res, PV.ress, PV.frz, PV.frzs, PV.slotT, PV.ofA, PV.ofB, PV.ofT, PV.ofA?, PV.store1, PV.callWith, PV.argsOf, PV.argOf, PV.mutsOf, PV.lentOf, PV.isOwn, PV.putBack, PV.appC, PV.extC, PV.popC, PV.popAC, PV.setIx, PV.truth, PV.storeAll, PL.big_le_0, PL.big_le_1, PL.big_le_2, PL.big_le_3, PL.big_le_4, PL.big_le_5, PL.big_le_6, PL.big_le_7, PL.big_le_8, PL.big_le_9, PL.big_le_10, PL.big_le_11, PL.big_le_12, PL.big_le_13, PV.unpT, PV.compTurn, PV.bindTo, PV.setAll, PV.wipeE, PV.backE, PV.forTurn, PV.tupT, PV.startE, PV.slotOf, PV.endC, PV.mutsAt, PV.runF, List.getElem?_cons_zero, List.getElem?_cons_succ, List.getElem?_nil, Option.bind_some, Option.bind_none, Option.map_some, Option.map_none, List.set_cons_zero, List.set_cons_succ, List.isEmpty_nil, List.isEmpty_cons, if_true, if_false, List.replicate_succ, List.replicate_zero, List.length_cons, List.length_nil, Bool.not_true, Bool.not_false, Bool.and_true, Bool.and_false, Bool.true_and, Bool.false_and, reduceCtorEq, ne_eq, not_false_eq_true, implies_true, Bool.true_or, Bool.false_or, Bool.or_true, Bool.or_false, Nat.reduceAdd, Nat.reduceLeDiff, Nat.reduceSub, sub_ok, h5]
  have step : ∀ i x ρ, ([T.bl true, .non, .int (n : Nat), .int (-1), .str "0", x5] : List T)[i]? = some x → I6 a0 a1 a2 (.v (.int (n : Nat))) a4 Rst U V [T.bl true, .non, .int (n : Nat), .int (-1), .str "0", x5] q i ρ → ∃ ρ', forTurn [9] false (exs pg F 1000 60 54 b6) x ρ = .nx ρ' ∧ I6 a0 a1 a2 (.v (.int (n : Nat))) a4 Rst U V [T.bl true, .non, .int (n : Nat), .int (-1), .str "0", x5] q (i + 1) ρ' := by
    intro i x ρ hi hI
    obtain ⟨s, rfl⟩ := hI.ex
    have hi6 : i < 6 := (List.getElem?_eq_some_iff.mp hi).1
    refine ⟨_, n6t F x (by simp; omega) hr hu, .v x, ?_⟩
    rw [List.take_add_one, hi, List.map_append, List.append_assoc]
    rfl
  obtain ⟨ρ', e, hI⟩ := forL_inv (turn := forTurn [9] false (exs pg F 1000 60 54 b6)) (iv := .sq true (.x (.lst [T.bl true, .non, .int (n : Nat), .int (-1), .str "0", x5]))) (xs := [T.bl true, .non, .int (n : Nat), .int (-1), .str "0", x5]) (I6 a0 a1 a2 (.v (.int (n : Nat))) a4 Rst U V [T.bl true, .non, .int (n : Nat), .int (-1), .str "0", x5] q) (fun i ρ => rfl) step 1000 0 [a0, a1, a2, .v (.int (n : Nat)), a4, .v (.lst Rst), .o true U, .o true V, .v (.int (q : Nat)), .u, .u, .u] (Nat.zero_le _) (by simp) ⟨.u, by simp⟩
  obtain ⟨s, rfl⟩ := hI.ex
  refine ⟨s, fun ss => ?_⟩
  rw [exs_for, hif, rs_of_ok, e, nxt_nx]
  rfl
end K89

set_option Elab.async false
set_option linter.all false
set_option maxRecDepth 1000000
set_option maxHeartbeats 8000000
namespace K89
open PV PySem PL
abbrev e7 : Ex := Ex.lst [Ex.bin Bin.add (Ex.loc 5) (Ex.lst [Ex.bin Bin.add (Ex.loc 6) (Ex.lst [Ex.loc 3])]), Ex.bin Bin.add (Ex.loc 5) (Ex.lst [(Ex.loc 6).slc none (some (Ex.con (T.int 1)).neg)]), Ex.lst [Ex.loc 6], Ex.lst [Ex.bi Bi.trange [Ex.loc 3]], Ex.bin Bin.add (Ex.loc 5) (Ex.lst [Ex.con T.non]), Ex.bin Bin.add (Ex.loc 5) (Ex.lst [Ex.con (T.int 5)]), Ex.loc 6]
theorem n7 (F : Orc) {n : Nat} {Rst U V Rn : List T} {a0 a1 a2 a4 a8 a9 : Sl} {ss : List Sm} (hV : V.length ≤ 50) (hr : Rst.length ≤ 10) (hu : U.length ≤ 10) (hR : biT .trange [.int (n : Nat)] = some (.t (.tup Rn))) :
    exs pg F 1000 60 54 (Sm.ex (Ex.ext 7 e7) :: ss) [a0, a1, a2, .v (.int (n : Nat)), a4, .v (.lst Rst), .o true U, .o true V, a8, a9, .u, .u] =
    exs pg F 1000 60 53 ss [a0, a1, a2, .v (.int (n : Nat)), a4, .v (.lst Rst), .v (.lst U), .o true (V ++ [.lst (Rst ++ [.lst (U ++ [.int (n : Nat)])]), .lst (Rst ++ [.lst (cut U none (some (-1)))]), .lst [.lst U], .lst [.tup Rn], .lst (Rst ++ [.non]), .lst (Rst ++ [.int 5]), .lst U]), a8, a9, .u, .u] := by
  have hb : V.length + 7 ≤ big := Nat.le_trans (show V.length + 7 ≤ 57 by omega) (by decide)
  rw [exs_ex]
  simp only [PL.ev_con, PL.ev_loc, PL.ev_dk0, PL.ev_dk1, PL.ev_lst, PL.ev_tup, PL.ev_bin, PL.ev_neg, PL.ev_cmp, PL.ev_chn, PL.ev_and, PL.ev_or, PL.ev_tand, PL.ev_tor, PL.ev_not, PL.ev_ite, PL.ev_isn, PL.ev_isb, PL.ev_isi, PL.ev_call, PL.ev_call1, PL.ev_bi, PL.ev_app, PL.ev_ext, PL.ev_pop, PL.ev_popA, PL.ev_idx, PL.ev_ixof, PL.ev_slc, PL.ev_rev, PV.evO, PV.evOs, PV.evP, PV.evPs, PV.evF, PV.evB, PV.evS, PL.r_ok_bind, PL.r_bad_bind, PL.rs_of_ok, PL.exs_nil, PL.exs_ex, PL.exs_retl, PL.exs_ret, PL.exs_asg, PL.exs_unp, PL.exs_par, PL.exs_set, PL.exs_aug, PL.exs_ite, PL.nxt_nx, PL.nxt_rt, PL.nxt_bk, PL.nxt_ct, PV.res, PV.ress, PV.frz, PV.frzs, PV.slotT, PV.ofA, PV.ofB, PV.ofT, PV.ofA?, PV.store1, PV.callWith, PV.argsOf, PV.argOf, PV.mutsOf, PV.lentOf, PV.isOwn, PV.putBack, PV.appC, PV.extC, PV.popC, PV.popAC, PV.setIx, PV.truth, PV.storeAll, PL.big_le_0, PL.big_le_1, PL.big_le_2, PL.big_le_3, PL.big_le_4, PL.big_le_5, PL.big_le_6, PL.big_le_7, PL.big_le_8, PL.big_le_9, PL.big_le_10, PL.big_le_11, PL.big_le_12, PL.big_le_13, PV.unpT, PV.compTurn, PV.bindTo, PV.setAll, PV.wipeE, PV.backE, PV.forTurn, PV.tupT, PV.startE, PV.slotOf, PV.endC, PV.mutsAt, PV.runF, List.getElem?_cons_zero, List.getElem?_cons_succ, List.getElem?_nil, Option.bind_some, Option.bind_none, Option.map_some, Option.map_none, List.set_cons_zero, List.set_cons_succ, List.isEmpty_nil, List.isEmpty_cons, if_true, if_false, List.replicate_succ, List.replicate_zero, List.length_cons, List.length_nil, Bool.not_true, Bool.not_false, Bool.and_true, Bool.and_false, Bool.true_and, Bool.false_and, reduceCtorEq, ne_eq, not_false_eq_true, implies_true, Bool.true_or, Bool.false_or, Bool.or_true, Bool.or_false, Nat.reduceAdd, Nat.reduceLeDiff, Nat.reduceSub, cut_lst, hR, add_lst (xs := U) (ys := [.int (n : Nat)]) (by simp; omega), add_lst (xs := Rst) (ys := [.lst (U ++ [.int (n : Nat)])]) (by simp; omega), add_lst (xs := Rst) (ys := [.lst (cut U none (some (-1)))]) (by simp; omega), add_lst (xs := Rst) (ys := [.non]) (by simp; omega), add_lst (xs := Rst) (ys := [.int 5]) (by simp; omega), hb]
def addP (n : Nat) : T → T
  | .tup xs => .tup (xs ++ [.int (n : Nat)])
  | x => x
theorem c8m (F : Orc) (m n : Nat) {X : List T} {a0 a2 a4 a5 a6 a7 a8 a9 : Sl} (hX : ∀ x ∈ X, ∃ xs, x = .tup xs ∧ xs.length ≤ 10) (hl : X.length ≤ 10) : ev pg F 1000 (m + 9) (.comp [10, 11] [11] false 0 [.loc 1] none (.bi .tuple [.bin .add (.bi .list [.loc 11]) (.lst [.loc 3])])) [a0, .v (.lst X), a2, .v (.int (n : Nat)), a4, a5, a6, a7, a8, a9, .u, .u] = .ok (.f (X.map (addP n))) [a0, .v (.lst X), a2, .v (.int (n : Nat)), a4, a5, a6, a7, a8, a9, .u, .u] := by
  refine ev_comp_map (iv := .sq true (.d 1)) (ρ1 := [a0, .v (.lst X), a2, .v (.int (n : Nat)), a4, a5, a6, a7, a8, a9, .u, .u]) (ρ2 := [a0, .v (.lst X), a2, .v (.int (n : Nat)), a4, a5, a6, a7, a8, a9, .u, .u]) (xs := X) (addP n) rfl rfl (fun i => rfl) (fun x hx => ?_) (by omega) (Nat.le_trans hl (by decide)) rfl
  obtain ⟨xs, rfl, hx⟩ := hX x hx
  simp only [PL.ev_con, PL.ev_loc, PL.ev_dk0, PL.ev_dk1, PL.ev_lst, PL.ev_tup, PL.ev_bin, PL.ev_neg, PL.ev_cmp, PL.ev_chn, PL.ev_and, PL.ev_or, PL.ev_tand, PL.ev_tor, PL.ev_not, PL.ev_ite, PL.ev_isn, PL.ev_isb, PL.ev_isi, PL.ev_call, PL.ev_call1, PL.ev_bi, PL.ev_app, PL.ev_ext, PL.ev_pop, PL.ev_popA, PL.ev_idx, PL.ev_ixof, PL.ev_slc, PL.ev_rev, PV.evO, PV.evOs, PV.evP, PV.evPs, PV.evF, PV.evB, PV.evS, PL.r_ok_bind, PL.r_bad_bind, PL.rs_of_ok, PL.exs_nil, PL.exs_ex, PL.exs_retl, PL.exs_ret, PL.exs_asg, PL.exs_unp, PL.exs_par, PL.exs_set, PL.exs_aug, PL.exs_ite, PL.nxt_nx, PL.nxt_rt, PL.nxt_bk, PL.nxt_ct, PV.res, PV.ress, PV.frz, PV.frzs, PV.slotT, PV.ofA, PV.ofB, PV.ofT, PV.ofA?, PV.store1, PV.callWith, PV.argsOf, PV.argOf, PV.mutsOf, PV.lentOf, PV.isOwn, PV.putBack, PV.appC, PV.extC, PV.popC, PV.popAC, PV.setIx, PV.truth, PV.storeAll, PL.big_le_0, PL.big_le_1, PL.big_le_2, PL.big_le_3, PL.big_le_4, PL.big_le_5, PL.big_le_6, PL.big_le_7, PL.big_le_8, PL.big_le_9, PL.big_le_10, PL.big_le_11, PL.big_le_12, PL.big_le_13, PV.unpT, PV.compTurn, PV.bindTo, PV.setAll, PV.wipeE, PV.backE, PV.forTurn, PV.tupT, PV.startE, PV.slotOf, PV.endC, PV.mutsAt, PV.runF, List.getElem?_cons_zero, List.getElem?_cons_succ, List.getElem?_nil, Option.bind_some, Option.bind_none, Option.map_some, Option.map_none, List.set_cons_zero, List.set_cons_succ, List.isEmpty_nil, List.isEmpty_cons, if_true, if_false, List.replicate_succ, List.replicate_zero, List.length_cons, List.length_nil, Bool.not_true, Bool.not_false, Bool.and_true, Bool.and_false, Bool.true_and, Bool.false_and, reduceCtorEq, ne_eq, not_false_eq_true, implies_true, Bool.true_or, Bool.false_or, Bool.or_true, Bool.or_false, Nat.reduceAdd, Nat.reduceLeDiff, Nat.reduceSub, list_tup, tuple_lst, add_lst (xs := xs) (ys := [.int (n : Nat)]) (by simp; omega)]
  rfl
theorem n8 (F : Orc) (c : Ex) (hc0 : ∀ i, c ≠ .loc i) {Y V : List T} {a0 a1 a2 a3 a4 a5 a6 a8 a9 : Sl} {ss : List Sm} (hV : V.length ≤ 80) (hc : ev pg F 1000 59 c [a0, a1, a2, a3, a4, a5, a6, .o true V, a8, a9, .u, .u] = .ok (.f Y) [a0, a1, a2, a3, a4, a5, a6, .o true V, a8, a9, .u, .u]) :
    exs pg F 1000 60 53 (Sm.ex (Ex.app 7 c) :: ss) [a0, a1, a2, a3, a4, a5, a6, .o true V, a8, a9, .u, .u] = exs pg F 1000 60 52 ss [a0, a1, a2, a3, a4, a5, a6, .o true (V ++ [.lst Y]), a8, a9, .u, .u] := by
  have hb : V.length < big := Nat.lt_of_le_of_lt hV (by decide)
  rw [exs_ex, ev_app]
  simp only [PV.isOwn, List.getElem?_cons_zero, List.getElem?_cons_succ, PV.evF]
  rw [evO_ne hc0, hc]
  simp only [PL.ev_con, PL.ev_loc, PL.ev_dk0, PL.ev_dk1, PL.ev_lst, PL.ev_tup, PL.ev_bin, PL.ev_neg, PL.ev_cmp, PL.ev_chn, PL.ev_and, PL.ev_or, PL.ev_tand, PL.ev_tor, PL.ev_not, PL.ev_ite, PL.ev_isn, PL.ev_isb, PL.ev_isi, PL.ev_call, PL.ev_call1, PL.ev_bi, PL.ev_app, PL.ev_ext, PL.ev_pop, PL.ev_popA, PL.ev_idx, PL.ev_ixof, PL.ev_slc, PL.ev_rev, PV.evO, PV.evOs, PV.evP, PV.evPs, PV.evF, PV.evB, PV.evS, PL.r_ok_bind, PL.r_bad_bind, PL.rs_of_ok, PL.exs_nil, PL.exs_ex, PL.exs_retl, PL.exs_ret, PL.exs_asg, PL.exs_unp, PL.exs_par, PL.exs_set, PL.exs_aug, PL.exs_ite, PL.nxt_nx, PL.nxt_rt, PL.nxt_bk, PL.nxt_ct, PV.res, PV.ress, PV.frz, PV.frzs, PV.slotT, PV.ofA, PV.ofB, PV.ofT, PV.ofA?, PV.store1, PV.callWith, PV.argsOf, PV.argOf, PV.mutsOf, PV.lentOf, PV.isOwn, PV.putBack, PV.appC, PV.extC, PV.popC, PV.popAC, PV.setIx, PV.truth, PV.storeAll, PL.big_le_0, PL.big_le_1, PL.big_le_2, PL.big_le_3, PL.big_le_4, PL.big_le_5, PL.big_le_6, PL.big_le_7, PL.big_le_8, PL.big_le_9, PL.big_le_10, PL.big_le_11, PL.big_le_12, PL.big_le_13, PV.unpT, PV.compTurn, PV.bindTo, PV.setAll, PV.wipeE, PV.backE, PV.forTurn, PV.tupT, PV.startE, PV.slotOf, PV.endC, PV.mutsAt, PV.runF, List.getElem?_cons_zero, List.getElem?_cons_succ, List.getElem?_nil, Option.bind_some, Option.bind_none, Option.map_some, Option.map_none, List.set_cons_zero, List.set_cons_succ, List.isEmpty_nil, List.isEmpty_cons, if_true, if_false, List.replicate_succ, List.replicate_zero, List.length_cons, List.length_nil, Bool.not_true, Bool.not_false, Bool.and_true, Bool.and_false, Bool.true_and, Bool.false_and, reduceCtorEq, ne_eq, not_false_eq_true, implies_true, Bool.true_or, Bool.false_or, Bool.or_true, Bool.or_false, Nat.reduceAdd, Nat.reduceLeDiff, Nat.reduceSub, hb]
theorem n9 (F : Orc) {n r : Nat} {X V Rn : List T} {A : T} {a0 a5 a6 a8 a9 : Sl} {y : T} (hV : V.length ≤ 90) (hR : biT .trange [.int (n : Nat)] = some (.t (.tup Rn))) (hi : idxT (.lst X) (.int (r : Nat)) = some A) :
    exs pg F 1000 60 52 [Sm.ret (Ex.bin Bin.add (Ex.loc 7) (Ex.lst [Ex.lst [Ex.bi Bi.trange [Ex.loc 3], Ex.loc 4], Ex.lst [Ex.bi Bi.trange [Ex.loc 3], (Ex.loc 1).idx (Ex.loc 2)]]))] [a0, .v (.lst X), .v (.int (r : Nat)), .v (.int (n : Nat)), .v y, a5, a6, .o true V, a8, a9, .u, .u] =
      .rt (.f (V ++ [.lst [.tup Rn, y], .lst [.tup Rn, A]])) [a0, .v (.lst X), .v (.int (r : Nat)), .v (.int (n : Nat)), .v y, a5, a6, .o true V, a8, a9, .u, .u] := by
  rw [exs_ret _ (fun i => by simp)]
  simp only [PL.ev_con, PL.ev_loc, PL.ev_dk0, PL.ev_dk1, PL.ev_lst, PL.ev_tup, PL.ev_bin, PL.ev_neg, PL.ev_cmp, PL.ev_chn, PL.ev_and, PL.ev_or, PL.ev_tand, PL.ev_tor, PL.ev_not, PL.ev_ite, PL.ev_isn, PL.ev_isb, PL.ev_isi, PL.ev_call, PL.ev_call1, PL.ev_bi, PL.ev_app, PL.ev_ext, PL.ev_pop, PL.ev_popA, PL.ev_idx, PL.ev_ixof, PL.ev_slc, PL.ev_rev, PV.evO, PV.evOs, PV.evP, PV.evPs, PV.evF, PV.evB, PV.evS, PL.r_ok_bind, PL.r_bad_bind, PL.rs_of_ok, PL.exs_nil, PL.exs_ex, PL.exs_retl, PL.exs_ret, PL.exs_asg, PL.exs_unp, PL.exs_par, PL.exs_set, PL.exs_aug, PL.exs_ite, PL.nxt_nx, PL.nxt_rt, PL.nxt_bk, PL.nxt_ct, PV.res, PV.ress, PV.frz, PV.frzs, PV.slotT, PV.ofA, PV.ofB, PV.ofT, PV.ofA?, PV.store1, PV.callWith, PV.argsOf, PV.argOf, PV.mutsOf, PV.lentOf, PV.isOwn, PV.putBack, PV.appC, PV.extC, PV.popC, PV.popAC, PV.setIx, PV.truth, PV.storeAll, PL.big_le_0, PL.big_le_1, PL.big_le_2, PL.big_le_3, PL.big_le_4, PL.big_le_5, PL.big_le_6, PL.big_le_7, PL.big_le_8, PL.big_le_9, PL.big_le_10, PL.big_le_11, PL.big_le_12, PL.big_le_13, PV.unpT, PV.compTurn, PV.bindTo, PV.setAll, PV.wipeE, PV.backE, PV.forTurn, PV.tupT, PV.startE, PV.slotOf, PV.endC, PV.mutsAt, PV.runF, List.getElem?_cons_zero, List.getElem?_cons_succ, List.getElem?_nil, Option.bind_some, Option.bind_none, Option.map_some, Option.map_none, List.set_cons_zero, List.set_cons_succ, List.isEmpty_nil, List.isEmpty_cons, if_true, if_false, List.replicate_succ, List.replicate_zero, List.length_cons, List.length_nil, Bool.not_true, Bool.not_false, Bool.and_true, Bool.and_false, Bool.true_and, Bool.false_and, reduceCtorEq, ne_eq, not_false_eq_true, implies_true, Bool.true_or, Bool.false_or, Bool.or_true, Bool.or_false, Nat.reduceAdd, Nat.reduceLeDiff, Nat.reduceSub, hR, hi, add_lst (xs := V) (ys := [.lst [.tup Rn, y], .lst [.tup Rn, A]]) (by simp; omega)]
theorem c18_eq : c18 = [Sm.unp [Tg.nm 2, Tg.nm 3] (Ex.tup [Ex.call 8 [] [Ex.loc 0, Ex.bi Bi.len [Ex.loc 1]], Ex.bi Bi.len [(Ex.loc 1).idx (Ex.con (T.int 0))]]),
    Sm.par 4 5 (Ex.bi Bi.tuple [Ex.call 14 [] [Ex.loc 0, Ex.bi Bi.lrange [Ex.loc 3]]]) (Ex.bin Bin.add ((Ex.loc 1).slc none (some (Ex.loc 2))) ((Ex.loc 1).slc (some (Ex.bin Bin.add (Ex.loc 2) (Ex.con (T.int 1)))) none)),
    Sm.asg 7 (Ex.lst e3), Sm.asg 6 (Ex.bi Bi.list [(Ex.loc 1).idx (Ex.loc 2)]), Sm.asg 8 (Ex.call 8 [] [Ex.loc 0, Ex.loc 3]),
    Sm.for_ [9] false 0 [Ex.lst [Ex.con (T.bl true), Ex.con T.non, Ex.loc 3, (Ex.con (T.int 1)).neg, Ex.con (T.str "0"), (Ex.loc 6).idx (Ex.bin Bin.sub (Ex.loc 8) (Ex.con (T.int 1)))]] b6,
    Sm.ex (Ex.ext 7 e7), Sm.ex (Ex.app 7 (.comp [10, 11] [11] false 0 [.loc 1] none (.bi .tuple [.bin .add (.bi .list [.loc 11]) (.lst [.loc 3])]))),
    Sm.ret (Ex.bin Bin.add (Ex.loc 7) (Ex.lst [Ex.lst [Ex.bi Bi.trange [Ex.loc 3], Ex.loc 4], Ex.lst [Ex.bi Bi.trange [Ex.loc 3], (Ex.loc 1).idx (Ex.loc 2)]]))] := by kernel_rfl
theorem idx_nat {xs : List T} {r : Nat} (h : r < xs.length) : idxT (.lst xs) (.int (r : Nat)) = some (xs[r]'h) := by
  show (ixN xs.length r).bind (fun j => xs[j]?) = _
  unfold ixN
  rw [if_pos (by omega), if_pos (by omega), Option.bind_some, Int.toNat_natCast, List.getElem?_eq_getElem h]
/-- an item before it, the last one before the first -/
theorem idx_prev {xs : List T} {q : Nat} (h : q < xs.length) : ∃ x, x ∈ xs ∧ idxT (.lst xs) (.int ((q : Int) - 1)) = some x := by
  show ∃ x, x ∈ xs ∧ (ixN xs.length ((q : Int) - 1)).bind (fun j => xs[j]?) = some x
  unfold ixN
  by_cases h0 : q = 0
  · subst h0
    have hl : xs.length - 1 < xs.length := by omega
    refine ⟨xs[xs.length - 1], List.getElem_mem hl, ?_⟩
    rw [if_neg (by omega), if_pos (by omega), Option.bind_some]
    have : (((0 : Nat) : Int) - 1 + (xs.length : Int)).toNat = xs.length - 1 := by omega
    rw [this, List.getElem?_eq_getElem hl]
  · have hl : q - 1 < xs.length := by omega
    refine ⟨xs[q - 1], List.getElem_mem hl, ?_⟩
    rw [if_pos (by omega), if_pos (by omega), Option.bind_some]
    have : ((q : Int) - 1).toNat = q - 1 := by omega
    rw [this, List.getElem?_eq_getElem hl]
theorem w3_lst {xs : List T} (h : ∀ x ∈ xs, W2 x) (hl : xs.length ≤ 10) : W3 (.lst xs) := ⟨xs, ⟨h, hl⟩, .inl rfl⟩
theorem w2_lst {xs : List T} (h : ∀ x ∈ xs, W1 x) (hl : xs.length ≤ 8) : W2 (.lst xs) := .inr ⟨xs, ⟨h, hl⟩, .inl rfl⟩
theorem w2_tup {xs : List T} (h : ∀ x ∈ xs, W1 x) (hl : xs.length ≤ 8) : W2 (.tup xs) := .inr ⟨xs, ⟨h, hl⟩, .inr rfl⟩
theorem all_append {P : T → Prop} {xs ys : List T} (h1 : ∀ x ∈ xs, P x) (h2 : ∀ x ∈ ys, P x) : ∀ x ∈ xs ++ ys, P x := fun x hx => (List.mem_append.mp hx).elim (h1 x) (h2 x)
theorem all_one {P : T → Prop} {y : T} (h : P y) : ∀ x ∈ [y], P x := fun x hx => by rw [List.mem_singleton.mp hx]; exact h
def near8 (X Rst U ys : List T) : List T := [.lst X, .tup X, .lst (X.map toL), .lst Rst, .lst (X ++ [.tup U]), .lst (X ++ [.tup ys]), .lst (Rst ++ [.tup ys]), .lst X.reverse]
def near6 (Rst U : List T) (n q : Nat) (x5 : T) : List T := ([T.bl true, .non, .int (n : Nat), .int (-1), .str "0", x5] : List T).map (bent Rst U q)
def near7 (Rst U Rn : List T) (n : Nat) : List T := [.lst (Rst ++ [.lst (U ++ [.int (n : Nat)])]), .lst (Rst ++ [.lst (cut U none (some (-1)))]), .lst [.lst U], .lst [.tup Rn], .lst (Rst ++ [.non]), .lst (Rst ++ [.int 5]), .lst U]
def near (X Rst U ys Rn : List T) (n q : Nat) (x5 : T) : List T := near8 X Rst U ys ++ near6 Rst U n q x5 ++ near7 Rst U Rn n ++ [.lst (X.map (addP n))] ++ [.lst [.tup Rn, .tup ys], .lst [.tup Rn, .tup U]]
theorem near_len (X Rst U ys Rn : List T) (n q : Nat) (x5 : T) : (near X Rst U ys Rn n q x5).length = 24 := rfl
/-- the walk through the law's near values -/
theorem run18 (F : Orc) {n r q : Nat} {p p1 p2 p3 X Rst U ys Rn : List T} {a0 x5 : T} (hc1 : F 8 [.f p, .t (.int (X.length : Nat))] = .ok (.t (.int (r : Nat))) [p1]) (h00 : idxT (.lst X) (.int 0) = some a0) (h01 : biT .len [a0] = some (.t (.int (n : Nat))))
    (hR : biT .lrange [.int (n : Nat)] = some (.f Rn)) (hRt : biT .trange [.int (n : Nat)] = some (.t (.tup Rn))) (hc2 : F 14 [.f p1, .t (.lst Rn)] = .ok (.f ys) [p2]) (hRe : cut X none (some (r : Int)) ++ cut X (some ((r : Int) + 1)) none = Rst) (hrl : Rst.length ≤ 8)
    (hX : ∀ x ∈ X, ∃ xs, x = .tup xs ∧ xs.length ≤ 10) (hXl : X.length ≤ 8) (hU : U.length ≤ 8) (hidx : idxT (.lst X) (.int (r : Nat)) = some (.tup U)) (hc3 : F 8 [.f p2, .t (.int (n : Nat))] = .ok (.t (.int (q : Nat))) [p3]) (hc5 : idxT (.lst U) (.int ((q : Int) - 1)) = some x5) :
    ∃ ρ, exs pg F 1000 60 60 c18 [.o false p, .v (.lst X), .u, .u, .u, .u, .u, .u, .u, .u, .u, .u] = .rt (.f (near X Rst U ys Rn n q x5)) ρ ∧ ρ[0]? = some (.o false p3) := by
  have hl2 : (cut X none (some (r : Int))).length + (cut X (some ((r : Int) + 1)) none).length ≤ 100 := by rw [← hRe, List.length_append] at hrl; omega
  obtain ⟨s9, s6⟩ := n6 F (q := q) (n := n) (Rst := Rst) (U := U) (V := near8 X Rst U ys) (a0 := .o false p3) (a1 := .v (.lst X)) (a2 := .v (.int (r : Nat))) (a4 := .v (.tup ys)) (by simp [near8]) (by omega) (by omega) hc5
  refine ⟨[.o false p3, .v (.lst X), .v (.int (r : Nat)), .v (.int (n : Nat)), .v (.tup ys), .v (.lst Rst), .v (.lst U), .o true (near8 X Rst U ys ++ near6 Rst U n q x5 ++ near7 Rst U Rn n ++ [.lst (X.map (addP n))]), .v (.int (q : Nat)), s9, .u, .u], ?_, rfl⟩
  rw [c18_eq, n1 F hc1 h00 h01, n2 F hR hc2 hl2, hRe, n3 F (fun x hx => by obtain ⟨xs, e, _⟩ := hX x hx; exact ⟨xs, e⟩) (by omega) (by omega) hidx, n4 F (n := n) hidx, n5 F hc3]
  erw [s6]
  rw [n7 F (by simp [near8]) (by omega) (by omega) hRt, n8 F _ (fun i => by simp) (by simp [near8]) (c8m F 50 n hX (by omega)), n9 F (by simp [near8]) hRt hidx]
  rfl
end K89

set_option Elab.async false
set_option linter.all false
set_option maxRecDepth 1000000
set_option maxHeartbeats 8000000
namespace K89
open PV PySem PL
theorem cut2_len (xs : List T) (r : Nat) (h : r ≤ xs.length) : (cut xs none (some (r : Int))).length + (cut xs (some ((r : Int) + 1)) none).length ≤ xs.length := by
  have e1 : (cut xs none (some (r : Int))).length ≤ r := by
    unfold cut
    rw [sIx_nat, List.length_take]
    show min (min r xs.length - 0) _ ≤ r
    omega
  have e2 : (cut xs (some ((r : Int) + 1)) none).length ≤ xs.length - r := by
    unfold cut
    have : sIx xs.length 0 (some ((r : Int) + 1)) = min (r + 1) xs.length := sIx_nat xs.length 0 (r + 1)
    rw [this, List.length_take, List.length_drop]
    omega
  omega
theorem near_ok {X Rst U ys Rn : List T} {n q : Nat} {x5 : T} (hX : ∀ x ∈ X, ∃ xs, x = .tup xs ∧ (∀ y ∈ xs, W1 y) ∧ xs.length ≤ 6) (lX : X.length ≤ 8) (hR : ∀ x ∈ Rst, W2 x) (lR : Rst.length ≤ 8) (hU : ∀ x ∈ U, W1 x) (lU : U.length ≤ 6) (hY : ∀ x ∈ ys, W1 x) (lY : ys.length ≤ 6)
    (hN : ∀ x ∈ Rn, W1 x) (lN : Rn.length ≤ 6) (hn : n ≤ 6) (hq : q ≤ U.length) (h5 : W1 x5) : ∀ v ∈ near X Rst U ys Rn n q x5, W3 v := by
  have hX2 : ∀ x ∈ X, W2 x := fun x hx => by
    obtain ⟨xs, rfl, h1, h2⟩ := hX x hx
    exact w2_tup h1 (by omega)
  have wn : W1 (.int (n : Nat)) := w1_int (by omega)
  have wU2 : W2 (.tup U) := w2_tup hU (by omega)
  have wY2 : W2 (.tup ys) := w2_tup hY (by omega)
  have wN2 : W2 (.tup Rn) := w2_tup hN (by omega)
  have app1 : ∀ {xs : List T} {y : T}, (∀ x ∈ xs, W2 x) → xs.length ≤ 8 → W2 y → W3 (.lst (xs ++ [y])) := fun {xs y} h l hy => w3_lst (all_append h (all_one hy)) (by rw [List.length_append, List.length_singleton]; omega)
  have hb : ∀ x, W1 x → W3 (bent Rst U q x) := fun x hx => by
    refine app1 hR lR (w2_lst (all_append (all_append (fun y hy => hU y (cut_mem hy)) (all_one hx)) fun y hy => hU y (cut_mem hy)) ?_)
    have := cut2_len U q hq
    rw [List.length_append, List.length_append, List.length_singleton]
    omega
  unfold near
  refine all_append (all_append (all_append (all_append ?_ ?_) ?_) ?_) ?_
  · unfold near8
    simp only [List.forall_mem_cons, List.not_mem_nil, false_implies, implies_true, and_true]
    refine ⟨w3_lst hX2 (by omega), ⟨X, ⟨hX2, by omega⟩, .inr rfl⟩, w3_lst (fun x hx => ?_) (by rw [List.length_map]; omega), w3_lst hR (by omega), app1 hX2 lX wU2, app1 hX2 lX wY2, app1 hR lR wY2, w3_lst (fun x hx => hX2 x (List.mem_reverse.mp hx)) (by rw [List.length_reverse]; omega)⟩
    obtain ⟨y, hy, rfl⟩ := List.mem_map.mp hx
    obtain ⟨xs, rfl, h1, h2⟩ := hX y hy
    exact w2_lst h1 (by omega)
  · unfold near6
    intro v hv
    obtain ⟨x, hx, rfl⟩ := List.mem_map.mp hv
    refine hb x ?_
    simp only [List.mem_cons, List.not_mem_nil, or_false] at hx
    rcases hx with rfl | rfl | rfl | rfl | rfl | rfl
    · exact .inr (.inl ⟨_, rfl⟩)
    · exact .inr (.inr (.inl rfl))
    · exact wn
    · exact w1_int (by omega)
    · exact .inr (.inr (.inr rfl))
    · exact h5
  · unfold near7
    simp only [List.forall_mem_cons, List.not_mem_nil, false_implies, implies_true, and_true]
    refine ⟨app1 hR lR (w2_lst (all_append hU (all_one wn)) (by rw [List.length_append, List.length_singleton]; omega)), app1 hR lR (w2_lst (fun y hy => hU y (cut_mem hy)) (by have := cut_len U none (some (-1)); omega)), w3_lst (all_one (w2_lst hU (by omega))) (by simp), w3_lst (all_one wN2) (by simp), app1 hR lR (.inl (.inr (.inr (.inl rfl)))), app1 hR lR (.inl (w1_int (by omega))), w3_lst (fun x hx => .inl (hU x hx)) (by omega)⟩
  · refine all_one (w3_lst (fun x hx => ?_) (by rw [List.length_map]; omega))
    obtain ⟨y, hy, rfl⟩ := List.mem_map.mp hx
    obtain ⟨xs, rfl, h1, h2⟩ := hX y hy
    exact w2_tup (all_append h1 (all_one wn)) (by rw [List.length_append, List.length_singleton]; omega)
  · simp only [List.forall_mem_cons, List.not_mem_nil, false_implies, implies_true, and_true]
    refine ⟨w3_lst ?_ (by simp), w3_lst ?_ (by simp)⟩
    · simp only [List.forall_mem_cons, List.not_mem_nil, false_implies, implies_true, and_true]
      exact ⟨wN2, wY2⟩
    · simp only [List.forall_mem_cons, List.not_mem_nil, false_implies, implies_true, and_true]
      exact ⟨wN2, wU2⟩
theorem f18 (d : Nat) {p : List T} (hp : Pot p) {n : Nat} {tss : List (List Int)} (hG : Grp n tss) (l1 : 1 ≤ tss.length) (l8 : tss.length ≤ 8) (n1' : 1 ≤ n) (n6' : n ≤ 6) :
    ∃ (vals p' : List T), (∀ v ∈ vals, W3 v) ∧ vals.length ≤ 100 ∧ Pot p' ∧ Fo (d + 3) 18 [.f p, .t (.lst (tss.map tupI))] = .ok (.f vals) [p'] := by
  generalize hXe : tss.map tupI = X
  have hXl : X.length = tss.length := by rw [← hXe, List.length_map]
  have hXt : ∀ x ∈ X, ∃ xs, x = .tup xs ∧ (∀ y ∈ xs, W1 y) ∧ xs.length = n := fun x hx => by
    rw [← hXe] at hx
    obtain ⟨t, ht, rfl⟩ := List.mem_map.mp hx
    exact ⟨_, rfl, l1_turn (hG.t t ht) n6', by rw [List.length_map, (hG.t t ht).len]⟩
  obtain ⟨r, p1, hr, hp1, hc1⟩ := f8 (d + 1) X.length hp (by omega) (by omega)
  obtain ⟨xs0, h0e, _, h0n⟩ := hXt (X[0]'(by omega)) (List.getElem_mem _)
  have h00 : idxT (.lst X) (.int 0) = some (X[0]'(by omega)) := idx_nat (xs := X) (r := 0) (by omega)
  have h01 : biT .len [X[0]'(by omega)] = some (.t (.int (n : Nat))) := by rw [h0e]; show some (A.t (.int (xs0.length : Nat))) = _; rw [h0n]
  have hw_rng : ∀ x ∈ (rng n).map T.int, W1 x := fun x hx => by
    obtain ⟨i, hi, rfl⟩ := List.mem_map.mp hx
    rw [mem_rng] at hi
    exact w1_int (by omega)
  have hl_rng : ((rng n).map T.int).length ≤ 6 := by rw [List.length_map, rng_length]; omega
  obtain ⟨ys, p2, hperm, hp2, hc2⟩ := f14 d hp1 (xs := (rng n).map T.int) (by omega)
  obtain ⟨U, hUe, hU1, hUn⟩ := hXt (X[r]'hr) (List.getElem_mem _)
  have hidx : idxT (.lst X) (.int (r : Nat)) = some (.tup U) := by rw [idx_nat hr, hUe]
  obtain ⟨q, p3, hq, hp3, hc3⟩ := f8 (d + 1) n hp2 n1' (by omega)
  obtain ⟨x5, hx5, hc5⟩ := idx_prev (xs := U) (q := q) (by omega)
  have hl2 := cut2_len X r (by omega)
  obtain ⟨ρ, e1, e2⟩ := run18 (Fo (d + 2)) hc1 h00 h01 (lrange_ok (by omega)) (trange_ok (by omega)) hc2 rfl (by rw [List.length_append]; omega) (fun x hx => by obtain ⟨xs, e, _, l⟩ := hXt x hx; exact ⟨xs, e, by omega⟩) (by omega) (by omega) hidx hc3 hc5
  refine ⟨_, p3, ?_, ?_, hp3, Fd_rt (ρ0 := [.o false p, .v (.lst X), .u, .u, .u, .u, .u, .u, .u, .u, .u, .u]) p18 rfl e1 ?_⟩
  · refine near_ok (fun x hx => by obtain ⟨xs, e, h1, l⟩ := hXt x hx; exact ⟨xs, e, h1, by omega⟩) (by omega) (fun x hx => ?_) (by rw [List.length_append]; omega) hU1 (by omega) (fun x hx => hw_rng x (hperm.mem_iff.mp hx)) (by rw [hperm.length_eq]; exact hl_rng) hw_rng hl_rng n6' (by omega) (hU1 x5 hx5)
    have : x ∈ X := by
      rcases List.mem_append.mp hx with h | h
      · exact cut_mem h
      · exact cut_mem h
    obtain ⟨xs, rfl, h1, l⟩ := hXt x this
    exact w2_tup h1 (by omega)
  · rw [near_len]; omega
  · show (match ρ[0]? with | some (.o false xs) => (mutsAt 1 [.val] ρ).map (xs :: ·) | _ => none) = _
    rw [e2]
    rfl
end K89

set_option Elab.async false
set_option linter.all false
set_option maxRecDepth 1000000
set_option maxHeartbeats 8000000
namespace K89
open PV PySem PL PyProof.Rows
/-! ### shown texts are texts -/
theorem strB_append (a b : Str) : strB (a ++ b) = (strB a && strB b) := by
  show (a.cps ++ b.cps).all _ = _
  rw [Array.all_append]
  rfl
theorem strB_from : ∀ (ts : List Str) (k : Nat) (acc : Str), strB acc = true → (∀ t ∈ ts, strB t = true) → strB (textFrom k acc ts) = true
  | [], _, _, h, _ => h
  | t :: r, k, acc, h, ht => by
    refine strB_from r (k + 1) _ ?_ fun x hx => ht x (List.mem_cons_of_mem _ hx)
    rw [strB_append, strB_append, h, ht t List.mem_cons_self]
    by_cases hk : k > 0
    · rw [if_pos hk]; decide +kernel
    · rw [if_neg hk]; decide +kernel
theorem strB_join : ∀ ts : List Str, (∀ t ∈ ts, strB t = true) → strB (Str.join ", " ts) = true
  | [], _ => by decide +kernel
  | [x], h => h x List.mem_cons_self
  | x :: y :: r, h => by
    show strB (x ++ ", " ++ Str.join ", " (y :: r)) = true
    rw [strB_append, strB_append, h x List.mem_cons_self, strB_join (y :: r) fun t ht => h t (List.mem_cons_of_mem _ ht)]
    decide +kernel
theorem strB_all {xs : List T} (h : ∀ x ∈ xs, strB (toD x).shown = true) : ∀ t ∈ PyData.shownAll (toDs xs), strB t = true := fun t ht => by
  obtain ⟨y, h1, h2⟩ := shownAll_mem ht
  rw [toDs_map] at h1
  obtain ⟨x, h3, h4⟩ := List.mem_map.mp h1
  rw [h2, ← h4]
  exact h x h3
theorem strB_lst {xs : List T} (h : ∀ x ∈ xs, strB (toD x).shown = true) : strB (toD (.lst xs)).shown = true := by
  show strB (textFrom 0 "[" (PyData.shownAll (toDs xs)) ++ "]") = true
  rw [strB_append, strB_from _ 0 _ (by decide +kernel) (strB_all h)]
  decide +kernel
theorem strB_tup {xs : List T} (h : ∀ x ∈ xs, strB (toD x).shown = true) : strB (toD (.tup xs)).shown = true := by
  show strB (("(" : Str) ++ Str.join ", " (PyData.shownAll (toDs xs)) ++ (if (PyData.shownAll (toDs xs)).length == 1 then ",)" else ")" : String)) = true
  rw [strB_append, strB_append, strB_join _ (strB_all h)]
  cases (PyData.shownAll (toDs xs)).length == 1 <;> decide +kernel
theorem W1.b {x : T} (h : W1 x) : strB (toD x).shown = true := by
  rcases h with ⟨i, rfl, h1, h2⟩ | ⟨b, rfl⟩ | rfl | rfl
  · have : i = -1 ∨ i = 0 ∨ i = 1 ∨ i = 2 ∨ i = 3 ∨ i = 4 ∨ i = 5 ∨ i = 6 ∨ i = 7 ∨ i = 8 ∨ i = 9 := by omega
    rcases this with rfl | rfl | rfl | rfl | rfl | rfl | rfl | rfl | rfl | rfl | rfl <;> decide +kernel
  · cases b <;> decide +kernel
  · decide +kernel
  · decide +kernel
theorem W2.b {x : T} (h : W2 x) : strB (toD x).shown = true := by
  rcases h with h | ⟨xs, h, rfl | rfl⟩
  · exact h.b
  · exact strB_lst fun x hx => (h.w x hx).b
  · exact strB_tup fun x hx => (h.w x hx).b
theorem W3.b {x : T} (h : W3 x) : strB (toD x).shown = true := by
  obtain ⟨xs, h, rfl | rfl⟩ := h
  · exact strB_lst fun x hx => (h.w x hx).b
  · exact strB_tup fun x hx => (h.w x hx).b
theorem repr_W3 {x : T} (h : W3 x) : biT .repr [x] = some (.t (.str (toD x).shown)) := by
  obtain ⟨s, e⟩ := h.ok.2
  have e2 : s = (toD x).shown := by
    unfold reprT at e
    split at e
    · cases e; rfl
    · cases e
  show (reprT x).map (fun s => A.t (.str s)) = _
  rw [e, e2]
  rfl
theorem repr_bl (b : Bool) : biT .repr [.bl b] = some (.t (.str (PyData.bool b).shown)) := by
  cases b <;> kernel_rfl
theorem ne_str {s : Str} (h : strB s = true) : cmpT .ne (.str s) (.str s) = some false := by
  show (if okT 64 (.str s) && okT 64 (.str s) then some (!(s == s)) else none) = _
  rw [show okT 64 (.str s) = true from h]
  simp
theorem bl_b (b : Bool) : strB (PyData.bool b).shown = true := by cases b <;> decide +kernel
/-! ### the law for one pot -/
theorem evIf_f' {ih : Ex → Rho → PV.R A} {its : List Ex} {xs : List T} {ρ ρ' : Rho} (h : evOs ih its ρ = .ok [.f xs] ρ') : evIf ih 0 its ρ = .ok (.sq true (.x (.lst xs))) ρ' := by
  unfold evIf
  rw [h]
  rfl
theorem eq0 (r : Nat) : cmpT .eq (.int (r : Nat)) (.int 0) = some (decide ((r : Int) = 0)) := rfl
theorem r1 (F : Orc) {r : Nat} {p p1 p2 K : List T} {g s : T} {ss : List Sm} (h8 : F 8 [.f p, .t (.int 4)] = .ok (.t (.int (r : Nat))) [p1]) (h13 : r = 0 → F 13 [] = .ok (.f K) []) (h12 : r ≠ 0 → F 12 [] = .ok (.f K) []) (h15 : F 15 [.f p1, .t (.lst K)] = .ok (.t (.tup [g, s])) [p2]) :
    exs pg F 1000 60 60 (Sm.unp [Tg.nm 1, Tg.nm 2] (Ex.call 15 [] [Ex.loc 0, (Ex.cmp Cmp.eq (Ex.call 8 [] [Ex.loc 0, Ex.con (T.int 4)]) (Ex.con (T.int 0))).ite (Ex.call 13 [] []) (Ex.call 12 [] [])]) :: ss) [.o false p, .u, .u, .u, .u, .u] = exs pg F 1000 60 59 ss [.o false p2, .v g, .v s, .u, .u, .u] := by
  rw [exs_unp]
  by_cases hr : r = 0
  · have e := eq0 r
    rw [decide_eq_true (show (r : Int) = 0 by omega)] at e
    simp only [PL.ev_con, PL.ev_loc, PL.ev_dk0, PL.ev_dk1, PL.ev_lst, PL.ev_tup, PL.ev_bin, PL.ev_neg, PL.ev_cmp, PL.ev_chn, PL.ev_and, PL.ev_or, PL.ev_tand, PL.ev_tor, PL.ev_not, PL.ev_ite, PL.ev_isn, PL.ev_isb, PL.ev_isi, PL.ev_call, PL.ev_call1, PL.ev_bi, PL.ev_app, PL.ev_ext, PL.ev_pop, PL.ev_popA, PL.ev_idx, PL.ev_ixof, PL.ev_slc, PL.ev_rev, PV.evO, PV.evOs, PV.evP, PV.evPs, PV.evF, PV.evB, PV.evS, PL.r_ok_bind, PL.r_bad_bind, PL.rs_of_ok, PL.exs_nil, PL.exs_ex, PL.exs_retl, PL.exs_ret, PL.exs_asg, PL.exs_unp, PL.exs_par, PL.exs_set, PL.exs_aug, PL.exs_ite, PL.nxt_nx, PL.nxt_rt, PL.nxt_bk, PL.nxt_ct, PV.res, PV.ress, PV.frz, PV.frzs, PV.slotT, PV.ofA, PV.ofB, PV.ofT, PV.ofA?, PV.store1, PV.callWith, PV.argsOf, PV.argOf, PV.mutsOf, PV.lentOf, PV.isOwn, PV.putBack, PV.appC, PV.extC, PV.popC, PV.popAC, PV.setIx, PV.truth, PV.storeAll, PL.big_le_0, PL.big_le_1, PL.big_le_2, PL.big_le_3, PL.big_le_4, PL.big_le_5, PL.big_le_6, PL.big_le_7, PL.big_le_8, PL.big_le_9, PL.big_le_10, PL.big_le_11, PL.big_le_12, PL.big_le_13, PV.unpT, PV.compTurn, PV.bindTo, PV.setAll, PV.wipeE, PV.backE, PV.forTurn, PV.tupT, PV.startE, PV.slotOf, PV.endC, PV.mutsAt, PV.runF, List.getElem?_cons_zero, List.getElem?_cons_succ, List.getElem?_nil, Option.bind_some, Option.bind_none, Option.map_some, Option.map_none, List.set_cons_zero, List.set_cons_succ, List.isEmpty_nil, List.isEmpty_cons, if_true, if_false, List.replicate_succ, List.replicate_zero, List.length_cons, List.length_nil, Bool.not_true, Bool.not_false, Bool.and_true, Bool.and_false, Bool.true_and, Bool.false_and, reduceCtorEq, ne_eq, not_false_eq_true, implies_true, Bool.true_or, Bool.false_or, Bool.or_true, Bool.or_false, Nat.reduceAdd, Nat.reduceLeDiff, Nat.reduceSub, h8, p8, p13, p15, List.contains_nil, e, h13 hr, h15]
  · have e := eq0 r
    rw [decide_eq_false (show ¬ (r : Int) = 0 by omega)] at e
    simp only [PL.ev_con, PL.ev_loc, PL.ev_dk0, PL.ev_dk1, PL.ev_lst, PL.ev_tup, PL.ev_bin, PL.ev_neg, PL.ev_cmp, PL.ev_chn, PL.ev_and, PL.ev_or, PL.ev_tand, PL.ev_tor, PL.ev_not, PL.ev_ite, PL.ev_isn, PL.ev_isb, PL.ev_isi, PL.ev_call, PL.ev_call1, PL.ev_bi, PL.ev_app, PL.ev_ext, PL.ev_pop, PL.ev_popA, PL.ev_idx, PL.ev_ixof, PL.ev_slc, PL.ev_rev, PV.evO, PV.evOs, PV.evP, PV.evPs, PV.evF, PV.evB, PV.evS, PL.r_ok_bind, PL.r_bad_bind, PL.rs_of_ok, PL.exs_nil, PL.exs_ex, PL.exs_retl, PL.exs_ret, PL.exs_asg, PL.exs_unp, PL.exs_par, PL.exs_set, PL.exs_aug, PL.exs_ite, PL.nxt_nx, PL.nxt_rt, PL.nxt_bk, PL.nxt_ct, PV.res, PV.ress, PV.frz, PV.frzs, PV.slotT, PV.ofA, PV.ofB, PV.ofT, PV.ofA?, PV.store1, PV.callWith, PV.argsOf, PV.argOf, PV.mutsOf, PV.lentOf, PV.isOwn, PV.putBack, PV.appC, PV.extC, PV.popC, PV.popAC, PV.setIx, PV.truth, PV.storeAll, PL.big_le_0, PL.big_le_1, PL.big_le_2, PL.big_le_3, PL.big_le_4, PL.big_le_5, PL.big_le_6, PL.big_le_7, PL.big_le_8, PL.big_le_9, PL.big_le_10, PL.big_le_11, PL.big_le_12, PL.big_le_13, PV.unpT, PV.compTurn, PV.bindTo, PV.setAll, PV.wipeE, PV.backE, PV.forTurn, PV.tupT, PV.startE, PV.slotOf, PV.endC, PV.mutsAt, PV.runF, List.getElem?_cons_zero, List.getElem?_cons_succ, List.getElem?_nil, Option.bind_some, Option.bind_none, Option.map_some, Option.map_none, List.set_cons_zero, List.set_cons_succ, List.isEmpty_nil, List.isEmpty_cons, if_true, if_false, List.replicate_succ, List.replicate_zero, List.length_cons, List.length_nil, Bool.not_true, Bool.not_false, Bool.and_true, Bool.and_false, Bool.true_and, Bool.false_and, reduceCtorEq, ne_eq, not_false_eq_true, implies_true, Bool.true_or, Bool.false_or, Bool.or_true, Bool.or_false, Nat.reduceAdd, Nat.reduceLeDiff, Nat.reduceSub, h8, p8, p12, p15, List.contains_nil, e, h12 hr, h15]
abbrev b1 : List Sm := [Sm.par 4 5 (Ex.call 17 [] [Ex.loc 3]) (Ex.bi Bi.repr [Ex.loc 3]), Sm.ite ((Ex.cmp Cmp.ne (Ex.bi Bi.repr [Ex.call 6 [] [Ex.loc 3]]) (Ex.bi Bi.repr [Ex.loc 4])).tor (Ex.cmp Cmp.ne (Ex.bi Bi.repr [Ex.loc 3]) (Ex.loc 5))) [Sm.ret (Ex.con (T.bl false))] []]
abbrev b2 : List Sm := [Sm.ite (Ex.isb true (Ex.call 6 [Sum.inl 0] [Ex.loc 3]) false) [Sm.ret (Ex.con (T.bl false))] []]
structure IR (p : List T) (g s : T) (i : Nat) (ρ : Rho) : Prop where
  ex : ∃ s3 s4 s5, ρ = [.o false p, .v g, .v s, s3, s4, s5]
theorem tl1 (F : Orc) {p : List T} {g s v : T} {b : Bool} {s3 s4 s5 : Sl} (hv : W3 v) (h17 : F 17 [.t v] = .ok (.t (.bl b)) []) (h6 : F 6 [.t v] = .ok (.t (.bl b)) []) :
    forTurn [3] false (exs pg F 1000 60 58 b1) v [.o false p, .v g, .v s, s3, s4, s5] = .nx [.o false p, .v g, .v s, .v v, .v (.bl b), .v (.str (toD v).shown)] := by
  simp only [PV.forTurn, PV.bindTo, List.set_cons_zero, List.set_cons_succ]
  rw [exs_par]
  simp only [PL.ev_con, PL.ev_loc, PL.ev_dk0, PL.ev_dk1, PL.ev_lst, PL.ev_tup, PL.ev_bin, PL.ev_neg, PL.ev_cmp, PL.ev_chn, PL.ev_and, PL.ev_or, PL.ev_tand, PL.ev_tor, PL.ev_not, PL.ev_ite, PL.ev_isn, PL.ev_isb, PL.ev_isi, PL.ev_call, PL.ev_call1, PL.ev_bi, PL.ev_app, PL.ev_ext, PL.ev_pop, PL.ev_popA, PL.ev_idx, PL.ev_ixof, PL.ev_slc, PL.ev_rev, PV.evO, PV.evOs, PV.evP, PV.evPs, PV.evF, PV.evB, PV.evS, PL.r_ok_bind, PL.r_bad_bind, PL.rs_of_ok, PL.exs_nil, PL.exs_ex, PL.exs_retl, PL.exs_ret, PL.exs_asg, PL.exs_unp, PL.exs_par, PL.exs_set, PL.exs_aug, PL.exs_ite, PL.nxt_nx, PL.nxt_rt, PL.nxt_bk, PL.nxt_ct, PV.res, PV.ress, PV.frz, PV.frzs, PV.slotT, PV.ofA, PV.ofB, PV.ofT, PV.ofA?, PV.store1, PV.callWith, PV.argsOf, PV.argOf, PV.mutsOf, PV.lentOf, PV.isOwn, PV.putBack, PV.appC, PV.extC, PV.popC, PV.popAC, PV.setIx, PV.truth, PV.storeAll, PL.big_le_0, PL.big_le_1, PL.big_le_2, PL.big_le_3, PL.big_le_4, PL.big_le_5, PL.big_le_6, PL.big_le_7, PL.big_le_8, PL.big_le_9, PL.big_le_10, PL.big_le_11, PL.big_le_12, PL.big_le_13, PV.unpT, PV.compTurn, PV.bindTo, PV.setAll, PV.wipeE, PV.backE, PV.forTurn, PV.tupT, PV.startE, PV.slotOf, PV.endC, PV.mutsAt, PV.runF, List.getElem?_cons_zero, List.getElem?_cons_succ, List.getElem?_nil, Option.bind_some, Option.bind_none, Option.map_some, Option.map_none, List.set_cons_zero, List.set_cons_succ, List.isEmpty_nil, List.isEmpty_cons, if_true, if_false, List.replicate_succ, List.replicate_zero, List.length_cons, List.length_nil, Bool.not_true, Bool.not_false, Bool.and_true, Bool.and_false, Bool.true_and, Bool.false_and, reduceCtorEq, ne_eq, not_false_eq_true, implies_true, Bool.true_or, Bool.false_or, Bool.or_true, Bool.or_false, Nat.reduceAdd, Nat.reduceLeDiff, Nat.reduceSub, h17, p17, repr_W3 hv, h6, p6, repr_bl, ne_str (bl_b b), ne_str hv.b]
theorem l1_ (F : Orc) {p p2 vals : List T} {g s : T} {ss : List Sm} (hF : ∀ v ∈ vals, W3 v ∧ ∃ b, F 17 [.t v] = .ok (.t (.bl b)) [] ∧ F 6 [.t v] = .ok (.t (.bl b)) []) (hl : vals.length ≤ 100) (h18 : F 18 [.f p, .t g] = .ok (.f vals) [p2]) :
    ∃ s3 s4 s5, exs pg F 1000 60 59 (Sm.for_ [3] false 0 [Ex.call 18 [] [Ex.loc 0, Ex.loc 1]] b1 :: ss) [.o false p, .v g, .v s, .u, .u, .u] = exs pg F 1000 60 58 ss [.o false p2, .v g, .v s, s3, s4, s5] := by
  have hif : evIf (ev pg F 1000 60) 0 [Ex.call 18 [] [Ex.loc 0, Ex.loc 1]] [.o false p, .v g, .v s, .u, .u, .u] = .ok (.sq true (.x (.lst vals))) [.o false p2, .v g, .v s, .u, .u, .u] := by
    refine evIf_f' ?_
    simp only [PL.ev_con, PL.ev_loc, PL.ev_dk0, PL.ev_dk1, PL.ev_lst, PL.ev_tup, PL.ev_bin, PL.ev_neg, PL.ev_cmp, PL.ev_chn, PL.ev_and, PL.ev_or, PL.ev_tand, PL.ev_tor, PL.ev_not, PL.ev_ite, PL.ev_isn, PL.ev_isb, PL.ev_isi, PL.ev_call, PL.ev_call1, PL.ev_bi, PL.ev_app, PL.ev_ext, PL.ev_pop, PL.ev_popA, PL.ev_idx, PL.ev_ixof, PL.ev_slc, PL.ev_rev, PV.evO, PV.evOs, PV.evP, PV.evPs, PV.evF, PV.evB, PV.evS, PL.r_ok_bind, PL.r_bad_bind, PL.rs_of_ok, PL.exs_nil, PL.exs_ex, PL.exs_retl, PL.exs_ret, PL.exs_asg, PL.exs_unp, PL.exs_par, PL.exs_set, PL.exs_aug, PL.exs_ite, PL.nxt_nx, PL.nxt_rt, PL.nxt_bk, PL.nxt_ct, PV.res, PV.ress, PV.frz, PV.frzs, PV.slotT, PV.ofA, PV.ofB, PV.ofT, PV.ofA?, PV.store1, PV.callWith, PV.argsOf, PV.argOf, PV.mutsOf, PV.lentOf, PV.isOwn, PV.putBack, PV.appC, PV.extC, PV.popC, PV.popAC, PV.setIx, PV.truth, PV.storeAll, PL.big_le_0, PL.big_le_1, PL.big_le_2, PL.big_le_3, PL.big_le_4, PL.big_le_5, PL.big_le_6, PL.big_le_7, PL.big_le_8, PL.big_le_9, PL.big_le_10, PL.big_le_11, PL.big_le_12, PL.big_le_13, PV.unpT, PV.compTurn, PV.bindTo, PV.setAll, PV.wipeE, PV.backE, PV.forTurn, PV.tupT, PV.startE, PV.slotOf, PV.endC, PV.mutsAt, PV.runF, List.getElem?_cons_zero, List.getElem?_cons_succ, List.getElem?_nil, Option.bind_some, Option.bind_none, Option.map_some, Option.map_none, List.set_cons_zero, List.set_cons_succ, List.isEmpty_nil, List.isEmpty_cons, if_true, if_false, List.replicate_succ, List.replicate_zero, List.length_cons, List.length_nil, Bool.not_true, Bool.not_false, Bool.and_true, Bool.and_false, Bool.true_and, Bool.false_and, reduceCtorEq, ne_eq, not_false_eq_true, implies_true, Bool.true_or, Bool.false_or, Bool.or_true, Bool.or_false, Nat.reduceAdd, Nat.reduceLeDiff, Nat.reduceSub, h18, p18, List.contains_nil]
  have step : ∀ i x ρ, vals[i]? = some x → IR p2 g s i ρ → ∃ ρ', forTurn [3] false (exs pg F 1000 60 58 b1) x ρ = .nx ρ' ∧ IR p2 g s (i + 1) ρ' := by
    intro i x ρ hi hI
    obtain ⟨s3, s4, s5, rfl⟩ := hI.ex
    obtain ⟨hw, b, h17, h6⟩ := hF x (List.mem_of_getElem? hi)
    exact ⟨_, tl1 F hw h17 h6, _, _, _, rfl⟩
  obtain ⟨ρ', e, hI⟩ := forL_inv (iv := .sq true (.x (.lst vals))) (xs := vals) (IR p2 g s) (fun i ρ => rfl) step 1000 0 [.o false p2, .v g, .v s, .u, .u, .u] (Nat.zero_le _) (by omega) ⟨.u, .u, .u, rfl⟩
  obtain ⟨s3, s4, s5, rfl⟩ := hI.ex
  refine ⟨s3, s4, s5, ?_⟩
  rw [exs_for, hif, rs_of_ok, e, nxt_nx]
theorem tl2 (F : Orc) {p : List T} {g s v : T} {s3 s4 s5 : Sl} (h6 : F 6 [.t v] = .ok (.t (.bl false)) []) : forTurn [3] false (exs pg F 1000 60 57 b2) v [.o false p, .v g, .v s, s3, s4, s5] = .nx [.o false p, .v g, .v s, .v v, s4, s5] := by
  simp only [PL.ev_con, PL.ev_loc, PL.ev_dk0, PL.ev_dk1, PL.ev_lst, PL.ev_tup, PL.ev_bin, PL.ev_neg, PL.ev_cmp, PL.ev_chn, PL.ev_and, PL.ev_or, PL.ev_tand, PL.ev_tor, PL.ev_not, PL.ev_ite, PL.ev_isn, PL.ev_isb, PL.ev_isi, PL.ev_call, PL.ev_call1, PL.ev_bi, PL.ev_app, PL.ev_ext, PL.ev_pop, PL.ev_popA, PL.ev_idx, PL.ev_ixof, PL.ev_slc, PL.ev_rev, PV.evO, PV.evOs, PV.evP, PV.evPs, PV.evF, PV.evB, PV.evS, PL.r_ok_bind, PL.r_bad_bind, PL.rs_of_ok, PL.exs_nil, PL.exs_ex, PL.exs_retl, PL.exs_ret, PL.exs_asg, PL.exs_unp, PL.exs_par, PL.exs_set, PL.exs_aug, PL.exs_ite, PL.nxt_nx, PL.nxt_rt, PL.nxt_bk, PL.nxt_ct, PV.res, PV.ress, PV.frz, PV.frzs, PV.slotT, PV.ofA, PV.ofB, PV.ofT, PV.ofA?, PV.store1, PV.callWith, PV.argsOf, PV.argOf, PV.mutsOf, PV.lentOf, PV.isOwn, PV.putBack, PV.appC, PV.extC, PV.popC, PV.popAC, PV.setIx, PV.truth, PV.storeAll, PL.big_le_0, PL.big_le_1, PL.big_le_2, PL.big_le_3, PL.big_le_4, PL.big_le_5, PL.big_le_6, PL.big_le_7, PL.big_le_8, PL.big_le_9, PL.big_le_10, PL.big_le_11, PL.big_le_12, PL.big_le_13, PV.unpT, PV.compTurn, PV.bindTo, PV.setAll, PV.wipeE, PV.backE, PV.forTurn, PV.tupT, PV.startE, PV.slotOf, PV.endC, PV.mutsAt, PV.runF, List.getElem?_cons_zero, List.getElem?_cons_succ, List.getElem?_nil, Option.bind_some, Option.bind_none, Option.map_some, Option.map_none, List.set_cons_zero, List.set_cons_succ, List.isEmpty_nil, List.isEmpty_cons, if_true, if_false, List.replicate_succ, List.replicate_zero, List.length_cons, List.length_nil, Bool.not_true, Bool.not_false, Bool.and_true, Bool.and_false, Bool.true_and, Bool.false_and, reduceCtorEq, ne_eq, not_false_eq_true, implies_true, Bool.true_or, Bool.false_or, Bool.or_true, Bool.or_false, Nat.reduceAdd, Nat.reduceLeDiff, Nat.reduceSub, h6, p6, PV.place]
  rfl
abbrev odd : List T := [.non, .int 0, .bl true, .str "", .str "0", .dit [] [], .lst [], .tup [], .lst [.lst []], .lst [.non], .dik [.inl 0] [.lst [.int 0]], .lst [.lst [.int 0, .int 1, .int 2, .int 3, .int 4, .int 5, .int 6]]]
abbrev eOdd : Ex := Ex.lst [Ex.con T.non, Ex.con (T.int 0), Ex.con (T.bl true), Ex.con (T.str ""), Ex.con (T.str "0"), Ex.dk0, Ex.lst [], Ex.tup [], Ex.lst [Ex.lst []], Ex.lst [Ex.con T.non], Ex.dk1 0 (Ex.lst [Ex.con (T.int 0)]), Ex.lst [Ex.lst [Ex.con (T.int 0), Ex.con (T.int 1), Ex.con (T.int 2), Ex.con (T.int 3), Ex.con (T.int 4), Ex.con (T.int 5), Ex.con (T.int 6)]]]
theorem l2_ (F : Orc) {p : List T} {g s : T} {s3 s4 s5 : Sl} {ss : List Sm} (hF : ∀ v ∈ odd, F 6 [.t v] = .ok (.t (.bl false)) []) :
    ∃ s3' s4' s5', exs pg F 1000 60 58 (Sm.for_ [3] false 0 [eOdd] b2 :: ss) [.o false p, .v g, .v s, s3, s4, s5] = exs pg F 1000 60 57 ss [.o false p, .v g, .v s, s3', s4', s5'] := by
  have hif : evIf (ev pg F 1000 60) 0 [eOdd] [.o false p, .v g, .v s, s3, s4, s5] = .ok (.sq true (.x (.lst odd))) [.o false p, .v g, .v s, s3, s4, s5] := by
    refine evIf_f' ?_
    simp only [PL.ev_con, PL.ev_loc, PL.ev_dk0, PL.ev_dk1, PL.ev_lst, PL.ev_tup, PL.ev_bin, PL.ev_neg, PL.ev_cmp, PL.ev_chn, PL.ev_and, PL.ev_or, PL.ev_tand, PL.ev_tor, PL.ev_not, PL.ev_ite, PL.ev_isn, PL.ev_isb, PL.ev_isi, PL.ev_call, PL.ev_call1, PL.ev_bi, PL.ev_app, PL.ev_ext, PL.ev_pop, PL.ev_popA, PL.ev_idx, PL.ev_ixof, PL.ev_slc, PL.ev_rev, PV.evO, PV.evOs, PV.evP, PV.evPs, PV.evF, PV.evB, PV.evS, PL.r_ok_bind, PL.r_bad_bind, PL.rs_of_ok, PL.exs_nil, PL.exs_ex, PL.exs_retl, PL.exs_ret, PL.exs_asg, PL.exs_unp, PL.exs_par, PL.exs_set, PL.exs_aug, PL.exs_ite, PL.nxt_nx, PL.nxt_rt, PL.nxt_bk, PL.nxt_ct, PV.res, PV.ress, PV.frz, PV.frzs, PV.slotT, PV.ofA, PV.ofB, PV.ofT, PV.ofA?, PV.store1, PV.callWith, PV.argsOf, PV.argOf, PV.mutsOf, PV.lentOf, PV.isOwn, PV.putBack, PV.appC, PV.extC, PV.popC, PV.popAC, PV.setIx, PV.truth, PV.storeAll, PL.big_le_0, PL.big_le_1, PL.big_le_2, PL.big_le_3, PL.big_le_4, PL.big_le_5, PL.big_le_6, PL.big_le_7, PL.big_le_8, PL.big_le_9, PL.big_le_10, PL.big_le_11, PL.big_le_12, PL.big_le_13, PV.unpT, PV.compTurn, PV.bindTo, PV.setAll, PV.wipeE, PV.backE, PV.forTurn, PV.tupT, PV.startE, PV.slotOf, PV.endC, PV.mutsAt, PV.runF, List.getElem?_cons_zero, List.getElem?_cons_succ, List.getElem?_nil, Option.bind_some, Option.bind_none, Option.map_some, Option.map_none, List.set_cons_zero, List.set_cons_succ, List.isEmpty_nil, List.isEmpty_cons, if_true, if_false, List.replicate_succ, List.replicate_zero, List.length_cons, List.length_nil, Bool.not_true, Bool.not_false, Bool.and_true, Bool.and_false, Bool.true_and, Bool.false_and, reduceCtorEq, ne_eq, not_false_eq_true, implies_true, Bool.true_or, Bool.false_or, Bool.or_true, Bool.or_false, Nat.reduceAdd, Nat.reduceLeDiff, Nat.reduceSub]
  have step : ∀ i x ρ, odd[i]? = some x → IR p g s i ρ → ∃ ρ', forTurn [3] false (exs pg F 1000 60 57 b2) x ρ = .nx ρ' ∧ IR p g s (i + 1) ρ' := by
    intro i x ρ hi hI
    obtain ⟨s3, s4, s5, rfl⟩ := hI.ex
    exact ⟨_, tl2 F (hF x (List.mem_of_getElem? hi)), _, _, _, rfl⟩
  obtain ⟨ρ', e, hI⟩ := forL_inv (iv := .sq true (.x (.lst odd))) (xs := odd) (IR p g s) (fun i ρ => rfl) step 1000 0 [.o false p, .v g, .v s, s3, s4, s5] (Nat.zero_le _) (by simp) ⟨s3, s4, s5, rfl⟩
  obtain ⟨s3', s4', s5', rfl⟩ := hI.ex
  refine ⟨s3', s4', s5', ?_⟩
  rw [exs_for, hif, rs_of_ok, e, nxt_nx]
theorem r4 (F : Orc) {p : List T} {g s : T} {s3 s4 s5 : Sl} (h6 : F 6 [.t g] = .ok (.t (.bl true)) []) : exs pg F 1000 60 57 [Sm.ret (Ex.isb false (Ex.call 6 [] [Ex.loc 1]) true)] [.o false p, .v g, .v s, s3, s4, s5] = .rt (.t (.bl true)) [.o false p, .v g, .v s, s3, s4, s5] := by
  rw [exs_ret _ (fun i => by simp)]
  simp only [PL.ev_con, PL.ev_loc, PL.ev_dk0, PL.ev_dk1, PL.ev_lst, PL.ev_tup, PL.ev_bin, PL.ev_neg, PL.ev_cmp, PL.ev_chn, PL.ev_and, PL.ev_or, PL.ev_tand, PL.ev_tor, PL.ev_not, PL.ev_ite, PL.ev_isn, PL.ev_isb, PL.ev_isi, PL.ev_call, PL.ev_call1, PL.ev_bi, PL.ev_app, PL.ev_ext, PL.ev_pop, PL.ev_popA, PL.ev_idx, PL.ev_ixof, PL.ev_slc, PL.ev_rev, PV.evO, PV.evOs, PV.evP, PV.evPs, PV.evF, PV.evB, PV.evS, PL.r_ok_bind, PL.r_bad_bind, PL.rs_of_ok, PL.exs_nil, PL.exs_ex, PL.exs_retl, PL.exs_ret, PL.exs_asg, PL.exs_unp, PL.exs_par, PL.exs_set, PL.exs_aug, PL.exs_ite, PL.nxt_nx, PL.nxt_rt, PL.nxt_bk, PL.nxt_ct, PV.res, PV.ress, PV.frz, PV.frzs, PV.slotT, PV.ofA, PV.ofB, PV.ofT, PV.ofA?, PV.store1, PV.callWith, PV.argsOf, PV.argOf, PV.mutsOf, PV.lentOf, PV.isOwn, PV.putBack, PV.appC, PV.extC, PV.popC, PV.popAC, PV.setIx, PV.truth, PV.storeAll, PL.big_le_0, PL.big_le_1, PL.big_le_2, PL.big_le_3, PL.big_le_4, PL.big_le_5, PL.big_le_6, PL.big_le_7, PL.big_le_8, PL.big_le_9, PL.big_le_10, PL.big_le_11, PL.big_le_12, PL.big_le_13, PV.unpT, PV.compTurn, PV.bindTo, PV.setAll, PV.wipeE, PV.backE, PV.forTurn, PV.tupT, PV.startE, PV.slotOf, PV.endC, PV.mutsAt, PV.runF, List.getElem?_cons_zero, List.getElem?_cons_succ, List.getElem?_nil, Option.bind_some, Option.bind_none, Option.map_some, Option.map_none, List.set_cons_zero, List.set_cons_succ, List.isEmpty_nil, List.isEmpty_cons, if_true, if_false, List.replicate_succ, List.replicate_zero, List.length_cons, List.length_nil, Bool.not_true, Bool.not_false, Bool.and_true, Bool.and_false, Bool.true_and, Bool.false_and, reduceCtorEq, ne_eq, not_false_eq_true, implies_true, Bool.true_or, Bool.false_or, Bool.or_true, Bool.or_false, Nat.reduceAdd, Nat.reduceLeDiff, Nat.reduceSub, h6, p6]
  rfl
end K89

set_option Elab.async false
set_option linter.all false
set_option maxRecDepth 1000000
set_option maxHeartbeats 8000000
namespace K89
open PV PySem PL
theorem c19_eq : c19 = [Sm.unp [Tg.nm 1, Tg.nm 2] (Ex.call 15 [] [Ex.loc 0, (Ex.cmp Cmp.eq (Ex.call 8 [] [Ex.loc 0, Ex.con (T.int 4)]) (Ex.con (T.int 0))).ite (Ex.call 13 [] []) (Ex.call 12 [] [])]),
    Sm.for_ [3] false 0 [Ex.call 18 [] [Ex.loc 0, Ex.loc 1]] b1, Sm.for_ [3] false 0 [eOdd] b2, Sm.ret (Ex.isb false (Ex.call 6 [] [Ex.loc 1]) true)] := by kernel_rfl
theorem odd_ok (d : Nat) : ∀ v ∈ odd, Fo (d + 5) 6 [.t v] = .ok (.t (.bl false)) [] := by
  simp only [List.forall_mem_cons, List.not_mem_nil, false_implies, implies_true, and_true]
  have a : ∀ {v : T}, okT 60 v = true → isG v = false → Fo (d + 5) 6 [.t v] = .ok (.t (.bl false)) [] := fun h1 h2 => by rw [f6 d h1, h2]
  exact ⟨a (by decide +kernel) (by decide +kernel), a (by decide +kernel) (by decide +kernel), a (by decide +kernel) (by decide +kernel), a (by decide +kernel) (by decide +kernel), a (by decide +kernel) (by decide +kernel), by kernel_rfl, a (by decide +kernel) (by decide +kernel), a (by decide +kernel) (by decide +kernel), a (by decide +kernel) (by decide +kernel), a (by decide +kernel) (by decide +kernel), by kernel_rfl, a (by decide +kernel) (by decide +kernel)⟩
theorem f19 (d : Nat) {p : List T} (hp : Pot p) : ∃ p', Fo (d + 6) 19 [.f p] = .ok (.t (.bl true)) [p'] := by
  obtain ⟨r, p1, hr, hp1, h8⟩ := f8 (d + 4) 4 hp (by omega) (by omega)
  have hk : ∃ K : List Kn, K.all Kn.ok = true ∧ 1 ≤ K.length ∧ K.length < 64 ∧ (∀ k ∈ K, Fo (d + 2 + 2) 11 [.t (.lst (k.m.map tupI))] = .ok (.f (k.l.map tupI)) []) ∧ (r = 0 → Fo (d + 5) 13 [] = .ok (.f (K.map Kn.t)) []) ∧ (r ≠ 0 → Fo (d + 5) 12 [] = .ok (.f (K.map Kn.t)) []) := by
    by_cases h : r = 0
    · exact ⟨kn13, ok13, by decide, by decide, closed13 (d + 2), fun _ => f13 (d + 4), fun z => absurd h z⟩
    · exact ⟨kn12, ok12, by decide, by decide, closed12 (d + 2), fun z => absurd z h, fun _ => f12 (d + 4)⟩
  obtain ⟨K, k1, k2, k3, k4, k5, k6⟩ := hk
  obtain ⟨n, tss, s, p2, hG, l1, l8, n1, n6, hp2, h15⟩ := f15 (d + 2) hp1 K k1 k2 k3 k4
  obtain ⟨vals, p3, hv, hl, hp3, h18⟩ := f18 (d + 2) hp2 hG l1 l8 n1 n6
  have hF : ∀ v ∈ vals, W3 v ∧ ∃ b, Fo (d + 5) 17 [.t v] = .ok (.t (.bl b)) [] ∧ Fo (d + 5) 6 [.t v] = .ok (.t (.bl b)) [] := fun v h => ⟨hv v h, isG v, f17 (d + 3) (hv v h).ok.1, f6 d (hv v h).ok.1⟩
  obtain ⟨s3, s4, s5, e1⟩ := l1_ (Fo (d + 5)) (g := .lst (tss.map tupI)) (s := s) (ss := [Sm.for_ [3] false 0 [eOdd] b2, Sm.ret (Ex.isb false (Ex.call 6 [] [Ex.loc 1]) true)]) hF hl h18
  obtain ⟨t3, t4, t5, e2⟩ := l2_ (Fo (d + 5)) (p := p3) (g := .lst (tss.map tupI)) (s := s) (s3 := s3) (s4 := s4) (s5 := s5) (ss := [Sm.ret (Ex.isb false (Ex.call 6 [] [Ex.loc 1]) true)]) (odd_ok d)
  have hok : okT 60 (.lst (tss.map tupI)) = true := by
    show (tss.map tupI).all (okT 59) = true
    rw [List.all_map, List.all_eq_true]
    exact fun x _ => okT_tupI 58 x
  have h6 : Fo (d + 5) 6 [.t (.lst (tss.map tupI))] = .ok (.t (.bl true)) [] := by rw [f6 d hok, hG.isG l1 l8 n1 n6]
  have e3 := r4 (Fo (d + 5)) (p := p3) (g := .lst (tss.map tupI)) (s := s) (s3 := t3) (s4 := t4) (s5 := t5) h6
  refine ⟨p3, Fd_rt (ρ0 := [.o false p, .u, .u, .u, .u, .u]) p19 rfl (ρ := [.o false p3, .v (.lst (tss.map tupI)), .v s, t3, t4, t5]) ?_ rfl⟩
  show exs pg (Fo (d + 5)) 1000 60 60 c19 _ = _
  rw [c19_eq, r1 (Fo (d + 5)) h8 k5 k6 h15, e1, e2, e3]
abbrev cLaw : Ex := .comp [1, 2] [2] false 1 [.bi .max2 [.con (.int 1), .bi .min2 [.con (.int 2), .bi .len [.loc 0]]]] none (.call1 19 (.call 7 [] [.loc 0, .loc 2]))
theorem c20_eq : c20 = [Sm.ret (Ex.bi Bi.all [cLaw])] := by kernel_rfl
theorem many (ns : List Int) : ∃ m : Nat, m ≤ 2 ∧ ∃ j : Int, biT .min2 [.int 2, .int (ns.length : Nat)] = some (.t (.int j)) ∧ biT .max2 [.int 1, .int j] = some (.t (.int (m : Nat))) := by
  by_cases h : ((ns.length : Nat) : Int) < 2
  · by_cases h1 : ns.length = 1
    · refine ⟨1, by omega, 1, ?_, rfl⟩
      show some (A.t (.int (if ((ns.length : Nat) : Int) < 2 then ((ns.length : Nat) : Int) else 2))) = _
      rw [if_pos h, h1]; rfl
    · have h0 : ns.length = 0 := by omega
      refine ⟨1, by omega, 0, ?_, rfl⟩
      show some (A.t (.int (if ((ns.length : Nat) : Int) < 2 then ((ns.length : Nat) : Int) else 2))) = _
      rw [if_pos h, h0]; rfl
  · refine ⟨2, by omega, 2, ?_, rfl⟩
    show some (A.t (.int (if ((ns.length : Nat) : Int) < 2 then ((ns.length : Nat) : Int) else 2))) = _
    rw [if_neg h]
theorem cLaw_ok (F : Orc) (m0 : Nat) {ns : List Int} (hF : ∀ k : Nat, k < 2 → ∃ p p', F 7 [.t (.scr ns), .t (.int (k : Nat))] = .ok (.f p) [] ∧ F 19 [.f p] = .ok (.t (.bl true)) [p']) : ∃ m, ev pg F 1000 (m0 + 10) cLaw [.v (.scr ns), .u, .u] = .ok (.f ((rangeT m).map fun _ => T.bl true)) [.v (.scr ns), .u, .u] := by
  obtain ⟨m, hm, j, hj1, hj2⟩ := many ns
  refine ⟨m, ?_⟩
  have hl : biT .len [.scr ns] = some (.t (.int (ns.length : Nat))) := rfl
  have hiv : evIv (ev pg F 1000 (m0 + 9)) 1 [.bi .max2 [.con (.int 1), .bi .min2 [.con (.int 2), .bi .len [.loc 0]]]] [.v (.scr ns), .u, .u] = .ok (.rg 0 m) [.v (.scr ns), .u, .u] := by
    refine evIv_x (t := .int (m : Nat)) ?_ (iv_range (by omega))
    simp only [PL.ev_con, PL.ev_loc, PL.ev_dk0, PL.ev_dk1, PL.ev_lst, PL.ev_tup, PL.ev_bin, PL.ev_neg, PL.ev_cmp, PL.ev_chn, PL.ev_and, PL.ev_or, PL.ev_tand, PL.ev_tor, PL.ev_not, PL.ev_ite, PL.ev_isn, PL.ev_isb, PL.ev_isi, PL.ev_call, PL.ev_call1, PL.ev_bi, PL.ev_app, PL.ev_ext, PL.ev_pop, PL.ev_popA, PL.ev_idx, PL.ev_ixof, PL.ev_slc, PL.ev_rev, PV.evO, PV.evOs, PV.evP, PV.evPs, PV.evF, PV.evB, PV.evS, PL.r_ok_bind, PL.r_bad_bind, PL.rs_of_ok, PL.exs_nil, PL.exs_ex, PL.exs_retl, PL.exs_ret, PL.exs_asg, PL.exs_unp, PL.exs_par, PL.exs_set, PL.exs_aug, PL.exs_ite, PL.nxt_nx, PL.nxt_rt, PL.nxt_bk, PL.nxt_ct, PV.res, PV.ress, PV.frz, PV.frzs, PV.slotT, PV.ofA, PV.ofB, PV.ofT, PV.ofA?, PV.store1, PV.callWith, PV.argsOf, PV.argOf, PV.mutsOf, PV.lentOf, PV.isOwn, PV.putBack, PV.appC, PV.extC, PV.popC, PV.popAC, PV.setIx, PV.truth, PV.storeAll, PL.big_le_0, PL.big_le_1, PL.big_le_2, PL.big_le_3, PL.big_le_4, PL.big_le_5, PL.big_le_6, PL.big_le_7, PL.big_le_8, PL.big_le_9, PL.big_le_10, PL.big_le_11, PL.big_le_12, PL.big_le_13, PV.unpT, PV.compTurn, PV.bindTo, PV.setAll, PV.wipeE, PV.backE, PV.forTurn, PV.tupT, PV.startE, PV.slotOf, PV.endC, PV.mutsAt, PV.runF, List.getElem?_cons_zero, List.getElem?_cons_succ, List.getElem?_nil, Option.bind_some, Option.bind_none, Option.map_some, Option.map_none, List.set_cons_zero, List.set_cons_succ, List.isEmpty_nil, List.isEmpty_cons, if_true, if_false, List.replicate_succ, List.replicate_zero, List.length_cons, List.length_nil, Bool.not_true, Bool.not_false, Bool.and_true, Bool.and_false, Bool.true_and, Bool.false_and, reduceCtorEq, ne_eq, not_false_eq_true, implies_true, Bool.true_or, Bool.false_or, Bool.or_true, Bool.or_false, Nat.reduceAdd, Nat.reduceLeDiff, Nat.reduceSub, hl, hj1, hj2]
  refine ev_comp_map (ρ2 := [.v (.scr ns), .u, .u]) (xs := rangeT m) (fun _ => T.bl true) hiv rfl (fun i => by rw [rangeT_get]; rfl) (fun x hx => ?_) (by rw [rangeT_length]; omega) (by rw [rangeT_length]; exact Nat.le_trans hm (by decide)) rfl
  obtain ⟨k, hk, rfl⟩ := List.mem_map.mp hx
  have hk := List.mem_range.mp hk
  obtain ⟨p, p', h7, h19⟩ := hF k (by omega)
  have e0 : (T.int (0 + (k : Int))) = .int (k : Nat) := by rw [Int.zero_add]
  rw [e0]
  simp only [PL.ev_con, PL.ev_loc, PL.ev_dk0, PL.ev_dk1, PL.ev_lst, PL.ev_tup, PL.ev_bin, PL.ev_neg, PL.ev_cmp, PL.ev_chn, PL.ev_and, PL.ev_or, PL.ev_tand, PL.ev_tor, PL.ev_not, PL.ev_ite, PL.ev_isn, PL.ev_isb, PL.ev_isi, PL.ev_call, PL.ev_call1, PL.ev_bi, PL.ev_app, PL.ev_ext, PL.ev_pop, PL.ev_popA, PL.ev_idx, PL.ev_ixof, PL.ev_slc, PL.ev_rev, PV.evO, PV.evOs, PV.evP, PV.evPs, PV.evF, PV.evB, PV.evS, PL.r_ok_bind, PL.r_bad_bind, PL.rs_of_ok, PL.exs_nil, PL.exs_ex, PL.exs_retl, PL.exs_ret, PL.exs_asg, PL.exs_unp, PL.exs_par, PL.exs_set, PL.exs_aug, PL.exs_ite, PL.nxt_nx, PL.nxt_rt, PL.nxt_bk, PL.nxt_ct, PV.res, PV.ress, PV.frz, PV.frzs, PV.slotT, PV.ofA, PV.ofB, PV.ofT, PV.ofA?, PV.store1, PV.callWith, PV.argsOf, PV.argOf, PV.mutsOf, PV.lentOf, PV.isOwn, PV.putBack, PV.appC, PV.extC, PV.popC, PV.popAC, PV.setIx, PV.truth, PV.storeAll, PL.big_le_0, PL.big_le_1, PL.big_le_2, PL.big_le_3, PL.big_le_4, PL.big_le_5, PL.big_le_6, PL.big_le_7, PL.big_le_8, PL.big_le_9, PL.big_le_10, PL.big_le_11, PL.big_le_12, PL.big_le_13, PV.unpT, PV.compTurn, PV.bindTo, PV.setAll, PV.wipeE, PV.backE, PV.forTurn, PV.tupT, PV.startE, PV.slotOf, PV.endC, PV.mutsAt, PV.runF, List.getElem?_cons_zero, List.getElem?_cons_succ, List.getElem?_nil, Option.bind_some, Option.bind_none, Option.map_some, Option.map_none, List.set_cons_zero, List.set_cons_succ, List.isEmpty_nil, List.isEmpty_cons, if_true, if_false, List.replicate_succ, List.replicate_zero, List.length_cons, List.length_nil, Bool.not_true, Bool.not_false, Bool.and_true, Bool.and_false, Bool.true_and, Bool.false_and, reduceCtorEq, ne_eq, not_false_eq_true, implies_true, Bool.true_or, Bool.false_or, Bool.or_true, Bool.or_false, Nat.reduceAdd, Nat.reduceLeDiff, Nat.reduceSub, h7, p7, p19, h19]
theorem s20 (F : Orc) (c : Ex) (hc0 : ∀ i, c ≠ .loc i) {ns : List Int} {m : Nat} (hc : ev pg F 1000 59 c [.v (.scr ns), .u, .u] = .ok (.f ((rangeT m).map fun _ => T.bl true)) [.v (.scr ns), .u, .u]) : exs pg F 1000 60 60 [Sm.ret (Ex.bi Bi.all [c])] [.v (.scr ns), .u, .u] = .rt (.t (.bl true)) [.v (.scr ns), .u, .u] := by
  rw [exs_ret _ (fun i => by simp), ev_bi]
  simp only [PV.evPs, PV.evOs]
  rw [evO_ne hc0, hc]
  simp only [PL.ev_con, PL.ev_loc, PL.ev_dk0, PL.ev_dk1, PL.ev_lst, PL.ev_tup, PL.ev_bin, PL.ev_neg, PL.ev_cmp, PL.ev_chn, PL.ev_and, PL.ev_or, PL.ev_tand, PL.ev_tor, PL.ev_not, PL.ev_ite, PL.ev_isn, PL.ev_isb, PL.ev_isi, PL.ev_call, PL.ev_call1, PL.ev_bi, PL.ev_app, PL.ev_ext, PL.ev_pop, PL.ev_popA, PL.ev_idx, PL.ev_ixof, PL.ev_slc, PL.ev_rev, PV.evO, PV.evOs, PV.evP, PV.evPs, PV.evF, PV.evB, PV.evS, PL.r_ok_bind, PL.r_bad_bind, PL.rs_of_ok, PL.exs_nil, PL.exs_ex, PL.exs_retl, PL.exs_ret, PL.exs_asg, PL.exs_unp, PL.exs_par, PL.exs_set, PL.exs_aug, PL.exs_ite, PL.nxt_nx, PL.nxt_rt, PL.nxt_bk, PL.nxt_ct, PV.res, PV.ress, PV.frz, PV.frzs, PV.slotT, PV.ofA, PV.ofB, PV.ofT, PV.ofA?, PV.store1, PV.callWith, PV.argsOf, PV.argOf, PV.mutsOf, PV.lentOf, PV.isOwn, PV.putBack, PV.appC, PV.extC, PV.popC, PV.popAC, PV.setIx, PV.truth, PV.storeAll, PL.big_le_0, PL.big_le_1, PL.big_le_2, PL.big_le_3, PL.big_le_4, PL.big_le_5, PL.big_le_6, PL.big_le_7, PL.big_le_8, PL.big_le_9, PL.big_le_10, PL.big_le_11, PL.big_le_12, PL.big_le_13, PV.unpT, PV.compTurn, PV.bindTo, PV.setAll, PV.wipeE, PV.backE, PV.forTurn, PV.tupT, PV.startE, PV.slotOf, PV.endC, PV.mutsAt, PV.runF, List.getElem?_cons_zero, List.getElem?_cons_succ, List.getElem?_nil, Option.bind_some, Option.bind_none, Option.map_some, Option.map_none, List.set_cons_zero, List.set_cons_succ, List.isEmpty_nil, List.isEmpty_cons, if_true, if_false, List.replicate_succ, List.replicate_zero, List.length_cons, List.length_nil, Bool.not_true, Bool.not_false, Bool.and_true, Bool.and_false, Bool.true_and, Bool.false_and, reduceCtorEq, ne_eq, not_false_eq_true, implies_true, Bool.true_or, Bool.false_or, Bool.or_true, Bool.or_false, Nat.reduceAdd, Nat.reduceLeDiff, Nat.reduceSub, biT_all, boolsT_map' (fun _ : T => true), all_id' (fun _ : T => true)]
  have : (rangeT m).all (fun _ => true) = true := List.all_eq_true.mpr fun _ _ => rfl
  rw [this]
theorem plain (ns : List Int) (h : ns.length ≤ 63) : ∃ ms, Fd R.pg R.L R.n 13 20 [.t (.scr ns)] = .ok (.t (.bl true)) ms := by
  have hF : ∀ k : Nat, k < 2 → ∃ p p', Fo 12 7 [.t (.scr ns), .t (.int (k : Nat))] = .ok (.f p) [] ∧ Fo 12 19 [.f p] = .ok (.t (.bl true)) [p'] := fun k hk => by
    obtain ⟨p, hp, h7⟩ := f7 11 k ns hk
    obtain ⟨p', h19⟩ := f19 6 hp
    exact ⟨p, p', h7, h19⟩
  obtain ⟨m, e⟩ := cLaw_ok (Fo 12) 49 hF
  refine ⟨[], ?_⟩
  show Fd pg 1000 60 (12 + 1) 20 [.t (.scr ns)] = _
  refine Fd_rt (ρ0 := [.v (.scr ns), .u, .u]) p20 rfl (ρ := [.v (.scr ns), .u, .u]) ?_ rfl
  show exs pg (Fo 12) 1000 60 60 c20 _ = _
  rw [c20_eq, s20 (Fo 12) cLaw (fun i => by simp) e]
end K89

set_option Elab.async false
set_option linter.all false
set_option maxRecDepth 1000000
set_option maxHeartbeats 0
namespace K89
open PV PySem PySem.Spec PyProof.Rows L2
/-- what a def's text gives -/
structure DefT (D : DefI) : Prop where
  sc : FnScope D.N D.ps D.scope
  len : D.ps.length = D.md.length
  one : oneMut D.md
  bd : ∀ (kV doc pm : Value) (an : Option Addr) (cdv ct : Value) (us : List Value), us.length = D.ps.length → bindArgs (PySem.W.fnOf D.x D.qual D.params D.body D.scope .none kV doc pm an cdv ct) ⟨us, []⟩ = pure (D.ps.zip us)
  kb : ∀ q ∈ D.kws, ∀ (kV doc pm : Value) (an : Option Addr) (cdv ct : Value) (us ws : List Value), us.length = q.1 → ws.length = q.2.length → bindArgs (PySem.W.fnOf D.x D.qual D.params D.body D.scope .none kV doc pm an cdv ct) ⟨us, q.2.zip ws⟩ = pure (D.ps.zip ((ordOf D.ps q.1 q.2).filterMap fun i => (us ++ ws)[i]?))
theorem one_of : ∀ {md : List Md}, (md.filter fun m => decide (m = .chg)).length ≤ 1 → oneMut md
  | [], _ => fun i j h => by simp at h
  | m :: ms, h => by
    intro i j hi hj
    rw [List.filter_cons] at h
    split at h
    · rename_i e
      have z : ms.filter (fun m => decide (m = .chg)) = [] := List.length_eq_zero_iff.mp (by simpa using h)
      have none : ∀ k, ms[k]? ≠ some Md.chg := fun k hk => by
        have m1 : Md.chg ∈ ms.filter fun m => decide (m = .chg) := List.mem_filter.mpr ⟨List.mem_of_getElem? hk, by decide⟩
        rw [z] at m1; cases m1
      cases i with
      | succ i => exact absurd (by simpa using hi) (none i)
      | zero =>
        cases j with
        | succ j => exact absurd (by simpa using hj) (none j)
        | zero => rfl
    · rename_i e
      have ne : m ≠ .chg := fun z => e (by simp [z])
      cases i with
      | zero => simp at hi; exact absurd hi ne
      | succ i =>
        cases j with
        | zero => simp at hj; exact absurd hj ne
        | succ j => exact congrArg Nat.succ (one_of h i j (by simpa using hi) (by simpa using hj))
theorem t0 : ∃ D, ds[0]? = some D ∧ DefT D := ⟨_, rfl, { sc := ⟨rfl, rfl, rfl, by decide +kernel, rfl, by decide +kernel, by decide +kernel⟩, len := rfl, one := one_of (by decide +kernel), bd := fun _ _ _ _ _ _ us hl => match us, hl with | [_], _ => rfl, kb := fun q hq => (nomatch (show q ∈ ([] : List (Nat × List Str)) from hq)) }⟩
theorem t1 : ∃ D, ds[1]? = some D ∧ DefT D := ⟨_, rfl, { sc := ⟨rfl, rfl, rfl, by decide +kernel, rfl, by decide +kernel, by decide +kernel⟩, len := rfl, one := one_of (by decide +kernel), bd := fun _ _ _ _ _ _ us hl => match us, hl with | [_], _ => rfl, kb := fun q hq => (nomatch (show q ∈ ([] : List (Nat × List Str)) from hq)) }⟩
theorem t2 : ∃ D, ds[2]? = some D ∧ DefT D := ⟨_, rfl, { sc := ⟨rfl, rfl, rfl, by decide +kernel, rfl, by decide +kernel, by decide +kernel⟩, len := rfl, one := one_of (by decide +kernel), bd := fun _ _ _ _ _ _ us hl => match us, hl with | [_], _ => rfl, kb := fun q hq => (nomatch (show q ∈ ([] : List (Nat × List Str)) from hq)) }⟩
theorem t3 : ∃ D, ds[3]? = some D ∧ DefT D := ⟨_, rfl, { sc := ⟨rfl, rfl, rfl, by decide +kernel, rfl, by decide +kernel, by decide +kernel⟩, len := rfl, one := one_of (by decide +kernel), bd := fun _ _ _ _ _ _ us hl => match us, hl with | [_, _], _ => rfl, kb := fun q hq => (nomatch (show q ∈ ([] : List (Nat × List Str)) from hq)) }⟩
theorem t4 : ∃ D, ds[4]? = some D ∧ DefT D := ⟨_, rfl, { sc := ⟨rfl, rfl, rfl, by decide +kernel, rfl, by decide +kernel, by decide +kernel⟩, len := rfl, one := one_of (by decide +kernel), bd := fun _ _ _ _ _ _ us hl => match us, hl with | [_, _], _ => rfl, kb := fun q hq => (nomatch (show q ∈ ([] : List (Nat × List Str)) from hq)) }⟩
theorem t5 : ∃ D, ds[5]? = some D ∧ DefT D := ⟨_, rfl, { sc := ⟨rfl, rfl, rfl, by decide +kernel, rfl, by decide +kernel, by decide +kernel⟩, len := rfl, one := one_of (by decide +kernel), bd := fun _ _ _ _ _ _ us hl => match us, hl with | [_], _ => rfl, kb := fun q hq => (nomatch (show q ∈ ([] : List (Nat × List Str)) from hq)) }⟩
theorem t6 : ∃ D, ds[6]? = some D ∧ DefT D := by
    refine ⟨_, rfl, { sc := ⟨rfl, rfl, rfl, by decide +kernel, rfl, by decide +kernel, by decide +kernel⟩, len := rfl, one := one_of (by decide +kernel), bd := fun _ _ _ _ _ _ us hl => match us, hl with | [_], _ => rfl, kb := ?_ }⟩
    intro q hq kV doc pm an cdv ct us ws h1 h2
    have hq2 : q ∈ ([(0, ["value"])] : List (Nat × List Str)) := hq
    simp only [List.mem_cons, List.not_mem_nil, or_false] at hq2
    subst hq2
    match us, ws, h1, h2 with
    | [], [_], _, _ => rfl
theorem t7 : ∃ D, ds[7]? = some D ∧ DefT D := ⟨_, rfl, { sc := ⟨rfl, rfl, rfl, by decide +kernel, rfl, by decide +kernel, by decide +kernel⟩, len := rfl, one := one_of (by decide +kernel), bd := fun _ _ _ _ _ _ us hl => match us, hl with | [_, _], _ => rfl, kb := fun q hq => (nomatch (show q ∈ ([] : List (Nat × List Str)) from hq)) }⟩
theorem t8 : ∃ D, ds[8]? = some D ∧ DefT D := ⟨_, rfl, { sc := ⟨rfl, rfl, rfl, by decide +kernel, rfl, by decide +kernel, by decide +kernel⟩, len := rfl, one := one_of (by decide +kernel), bd := fun _ _ _ _ _ _ us hl => match us, hl with | [_, _], _ => rfl, kb := fun q hq => (nomatch (show q ∈ ([] : List (Nat × List Str)) from hq)) }⟩
theorem t9 : ∃ D, ds[9]? = some D ∧ DefT D := ⟨_, rfl, { sc := ⟨rfl, rfl, rfl, by decide +kernel, rfl, by decide +kernel, by decide +kernel⟩, len := rfl, one := one_of (by decide +kernel), bd := fun _ _ _ _ _ _ us hl => match us, hl with | [_, _], _ => rfl, kb := fun q hq => (nomatch (show q ∈ ([] : List (Nat × List Str)) from hq)) }⟩
theorem t10 : ∃ D, ds[10]? = some D ∧ DefT D := ⟨_, rfl, { sc := ⟨rfl, rfl, rfl, by decide +kernel, rfl, by decide +kernel, by decide +kernel⟩, len := rfl, one := one_of (by decide +kernel), bd := fun _ _ _ _ _ _ us hl => match us, hl with | [_, _], _ => rfl, kb := fun q hq => (nomatch (show q ∈ ([] : List (Nat × List Str)) from hq)) }⟩
theorem t11 : ∃ D, ds[11]? = some D ∧ DefT D := ⟨_, rfl, { sc := ⟨rfl, rfl, rfl, by decide +kernel, rfl, by decide +kernel, by decide +kernel⟩, len := rfl, one := one_of (by decide +kernel), bd := fun _ _ _ _ _ _ us hl => match us, hl with | [_], _ => rfl, kb := fun q hq => (nomatch (show q ∈ ([] : List (Nat × List Str)) from hq)) }⟩
theorem t12 : ∃ D, ds[12]? = some D ∧ DefT D := ⟨_, rfl, { sc := ⟨rfl, rfl, rfl, by decide +kernel, rfl, by decide +kernel, by decide +kernel⟩, len := rfl, one := one_of (by decide +kernel), bd := fun _ _ _ _ _ _ us hl => match us, hl with | [], _ => rfl, kb := fun q hq => (nomatch (show q ∈ ([] : List (Nat × List Str)) from hq)) }⟩
theorem t13 : ∃ D, ds[13]? = some D ∧ DefT D := ⟨_, rfl, { sc := ⟨rfl, rfl, rfl, by decide +kernel, rfl, by decide +kernel, by decide +kernel⟩, len := rfl, one := one_of (by decide +kernel), bd := fun _ _ _ _ _ _ us hl => match us, hl with | [], _ => rfl, kb := fun q hq => (nomatch (show q ∈ ([] : List (Nat × List Str)) from hq)) }⟩
theorem t14 : ∃ D, ds[14]? = some D ∧ DefT D := ⟨_, rfl, { sc := ⟨rfl, rfl, rfl, by decide +kernel, rfl, by decide +kernel, by decide +kernel⟩, len := rfl, one := one_of (by decide +kernel), bd := fun _ _ _ _ _ _ us hl => match us, hl with | [_, _], _ => rfl, kb := fun q hq => (nomatch (show q ∈ ([] : List (Nat × List Str)) from hq)) }⟩
theorem t15 : ∃ D, ds[15]? = some D ∧ DefT D := ⟨_, rfl, { sc := ⟨rfl, rfl, rfl, by decide +kernel, rfl, by decide +kernel, by decide +kernel⟩, len := rfl, one := one_of (by decide +kernel), bd := fun _ _ _ _ _ _ us hl => match us, hl with | [_, _], _ => rfl, kb := fun q hq => (nomatch (show q ∈ ([] : List (Nat × List Str)) from hq)) }⟩
theorem t16 : ∃ D, ds[16]? = some D ∧ DefT D := ⟨_, rfl, { sc := ⟨rfl, rfl, rfl, by decide +kernel, rfl, by decide +kernel, by decide +kernel⟩, len := rfl, one := one_of (by decide +kernel), bd := fun _ _ _ _ _ _ us hl => match us, hl with | [_, _], _ => rfl, kb := fun q hq => (nomatch (show q ∈ ([] : List (Nat × List Str)) from hq)) }⟩
theorem t17 : ∃ D, ds[17]? = some D ∧ DefT D := ⟨_, rfl, { sc := ⟨rfl, rfl, rfl, by decide +kernel, rfl, by decide +kernel, by decide +kernel⟩, len := rfl, one := one_of (by decide +kernel), bd := fun _ _ _ _ _ _ us hl => match us, hl with | [_], _ => rfl, kb := fun q hq => (nomatch (show q ∈ ([] : List (Nat × List Str)) from hq)) }⟩
theorem t18 : ∃ D, ds[18]? = some D ∧ DefT D := ⟨_, rfl, { sc := ⟨rfl, rfl, rfl, by decide +kernel, rfl, by decide +kernel, by decide +kernel⟩, len := rfl, one := one_of (by decide +kernel), bd := fun _ _ _ _ _ _ us hl => match us, hl with | [_, _], _ => rfl, kb := fun q hq => (nomatch (show q ∈ ([] : List (Nat × List Str)) from hq)) }⟩
theorem t19 : ∃ D, ds[19]? = some D ∧ DefT D := ⟨_, rfl, { sc := ⟨rfl, rfl, rfl, by decide +kernel, rfl, by decide +kernel, by decide +kernel⟩, len := rfl, one := one_of (by decide +kernel), bd := fun _ _ _ _ _ _ us hl => match us, hl with | [_], _ => rfl, kb := fun q hq => (nomatch (show q ∈ ([] : List (Nat × List Str)) from hq)) }⟩
theorem t20 : ∃ D, ds[20]? = some D ∧ DefT D := ⟨_, rfl, { sc := ⟨rfl, rfl, rfl, by decide +kernel, rfl, by decide +kernel, by decide +kernel⟩, len := rfl, one := one_of (by decide +kernel), bd := fun _ _ _ _ _ _ us hl => match us, hl with | [_], _ => rfl, kb := fun q hq => (nomatch (show q ∈ ([] : List (Nat × List Str)) from hq)) }⟩
theorem texts (D : DefI) (h : D ∈ ds) : DefT D := by
  obtain ⟨i, h⟩ := List.getElem?_of_mem h
  have hi : i < 21 := by rw [← len_ds]; exact (List.getElem?_eq_some_iff.mp h).1
  have fin : ∀ {i : Nat}, (∃ D, ds[i]? = some D ∧ DefT D) → ds[i]? = some D → DefT D := fun ⟨D1, e1, t⟩ e2 => by rw [e1] at e2; cases e2; exact t
  match i, hi, h with
  | 0, _, h => exact fin t0 h
  | 1, _, h => exact fin t1 h
  | 2, _, h => exact fin t2 h
  | 3, _, h => exact fin t3 h
  | 4, _, h => exact fin t4 h
  | 5, _, h => exact fin t5 h
  | 6, _, h => exact fin t6 h
  | 7, _, h => exact fin t7 h
  | 8, _, h => exact fin t8 h
  | 9, _, h => exact fin t9 h
  | 10, _, h => exact fin t10 h
  | 11, _, h => exact fin t11 h
  | 12, _, h => exact fin t12 h
  | 13, _, h => exact fin t13 h
  | 14, _, h => exact fin t14 h
  | 15, _, h => exact fin t15 h
  | 16, _, h => exact fin t16 h
  | 17, _, h => exact fin t17 h
  | 18, _, h => exact fin t18 h
  | 19, _, h => exact fin t19 h
  | 20, _, h => exact fin t20 h
  | n + 21, hi, _ => exact absurd hi (by omega)
def fn : List He.DefD := ds.map fun D => ⟨(D.x, none), D.x, D.qual, D.params, D.body, D.scope, [], []⟩
def fa : List He.Fa := (ds.map fun D => He.Fa.glo D.x) ++ (bts.map He.Fa.free ++ consts.map fun q => He.Fa.int q.1 q.2)
abbrev Rw : PySem.W.OpenRow := PySem.W.OpenLaw.row PySem.Challenge.rw_producttables_k89_any_values_as_groups_o
abbrev hk : PySem.W.Hook := He.hookD 4 fa fn
def ob (s : PySem.W.SharedT) : He.AlD := He.obsDG 4 fa fn (HandSHeadRun.getT s)
theorem ob_eq (s : PySem.W.SharedT) : ob s = hk.obs s.abs := He.obsDG_eq (HandSHeadRun.getT_eq s)
def names0 : List Str := ["is_integer", "is_count", "is_list", "MOST_TURNS", "MOST_PLACES", "is_turn", "behind", "told_turns", "is_turns", "_law_pot", "_law_draw", "_law_pick", "_law_behind", "_law_closed", "_law_known", "_law_eight", "_law_mixed", "_law_group", "_law_is_turn", "_law_is_group"]
def names1 : List Str := ["_law_near", "_law_right"]
def names : List Str := names0 ++ names1
theorem run (w : World) : HandSHeadRun.RunEq Rw (PySem.W.view Rw.prog [25]) hk ob 3000 names w := by
  intro os
  kernel_rfl
theorem deft {K : PySem.W.Frag} {h : Heap} {mg : Str → Option Value} (X : K.In h) (G : h.Ns mainGlobals mg) (c : He.SaysD fa fn K) : ∀ D ∈ R.defs, DefOk K mg D := by
  intro D hD
  have t := texts D hD
  obtain ⟨fd, F⟩ := c.defs (d := ⟨(D.x, none), D.x, D.qual, D.params, D.body, D.scope, [], []⟩) (List.mem_map.mpr ⟨D, hD, rfl⟩)
  have g := He.glo_ok X G (c.facts (f := .glo D.x) (List.mem_append_left _ (List.mem_map.mpr ⟨D, hD, rfl⟩)))
  refine ⟨⟨_, fd, F, g, FunD.bindsN F t.bd, fun q hq s us ws h1 h2 hK => ?_⟩, t.sc, t.len, t.one⟩
  obtain ⟨_, _, dV, kV, doc, pm, an, cdv, ct, _, rfl, _, _, hD2, _⟩ := F.ex
  rcases hD2 with ⟨_, rfl⟩ | ⟨e, _⟩
  · exact .of_eq (t.kb q hq kV doc pm an cdv ct us ws h1 h2)
  · exact absurd rfl e
theorem ends {P : Program} {w : World} {K : PySem.W.Frag} {h : Heap} {mg : Str → Option Value} {f : Addr} {dep : Nat} (plain : ∀ ns : List Int, ns.length ≤ 63 → ∃ ms, Fd R.pg R.L R.n (dep + 1) 20 [.t (.scr ns)] = .ok (.t (.bl true)) ms) (X : K.In h) (G : h.Ns mainGlobals mg) (hfa : mg ("law" : Str) = some (.ref f)) (c : He.SaysD fa fn K) :
    ∃ (fd : FuncData) (sp : Sp), (∀ (s : Shared) (v : Value), BindsTo s fd ⟨[v], []⟩ [("_law_script", v)]) ∧ (∀ (H : Hp) (a : Addr) (ns : List Int), ns.length ≤ 63 → Only H → SqL K H a (ns.map V.int) → sp [.ref a] H (fun v _ => v = .bl true) fun _ _ _ => False) ∧
      ∀ base : Heap, K.In base → base.Ns mainGlobals mg → FnG P w K mg base (L2.CX P w) (dep + 1) f fd ["_law_script"] sp := by
  have hall := deft X G c
  obtain ⟨D, hD, t⟩ := t20
  have hx : D.x = ("law" : Str) ∧ D.ps = (["_law_script"] : List Str) ∧ D.md = [.val] := by
    have e : ((ds[20]?).map fun D => (D.x, D.ps, D.md)) = some (("law" : Str), (["_law_script"] : List Str), [Md.val]) := by kernel_rfl
    rw [hD] at e
    injection e with e
    injection e with e1 e
    injection e with e2 e3
    exact ⟨e1, e2, e3⟩
  obtain ⟨fa', fd, F, g, b, _⟩ := (hall D (List.mem_of_getElem? hD)).ex
  rw [hx.1, hfa] at g
  cases g
  refine ⟨fd, SpF K ⟨fun _ => 0, fun _ => []⟩ (Fd R.pg R.L R.n (dep + 1)) [.val] 20, fun s v => ?_, fun H a ns hl hO hS => ?_, fun base hb hg => ?_⟩
  · have z := FunD.bindsA (ps := D.ps) F t.bd s [v] (by rw [hx.2.1]; rfl)
    rw [hx.2.1] at z
    exact z
  · obtain ⟨ms, e⟩ := plain ns hl
    exact law_sp hO hS e
  · have z := fun_top (P := P) (w := w) (K := K) (mg := mg) (base := base) (G := ⟨fun _ => 0, fun _ => []⟩) comp hall (fun x hx => He.free_ok X G (c.facts (f := .free x) (List.mem_append_right _ (List.mem_append_left _ (List.mem_map.mpr ⟨x, hx, rfl⟩)))))
      (fun q hq => He.int_ok X G (c.facts (f := .int q.1 q.2) (List.mem_append_right _ (List.mem_append_right _ (List.mem_map.mpr ⟨q, hq, rfl⟩))))) dep 20 D hD F
    rw [hx.2.1, hx.2.2] at z
    exact z
end K89

set_option Elab.async false
set_option linter.all false
set_option maxRecDepth 1000000
set_option maxHeartbeats 0
open PySem PySem.W PySem.Calls PyProof.Rows
theorem PySem.Challenge.cw_producttables_k89_any_values_as_groups_o_holds : PySem.Challenge.rw_producttables_k89_any_values_as_groups_o.Holds := by
  w_on; o_law
  refine HandSHeadRun.head_any (r := K89.Rw) (q := view K89.Rw.prog [25]) (H := K89.hk) (ob := K89.ob) (M := 3000) (loose := K89.names) (d := HandSHeadRun.topDef K89.Rw.prog 25) (kwd := []) K89.ob_eq
    (by kernel_rfl) (fun s => by kernel_rfl) K89.run (by kernel_rfl) (by kernel_rfl) (by kernel_rfl) (by rfl) (by first | assumption | decide +kernel) (by decide +kernel) ⟨rfl, rfl, rfl, rfl, rfl, by decide +kernel⟩ ?hw ?hc
  case hw => w_witness2
  case hc =>
    refine PV.law_end (l := PySem.Challenge.rw_producttables_k89_any_values_as_groups_o) (most := 63) (dep := 13) (scr := "_law_script") rfl (by decide) (by kernel_rfl) ⟨rfl, by decide, by decide⟩ ?F
    intro w mg fa h Y G hmg0
    obtain ⟨K, KX, c⟩ := Y
    have hmg : mg ("law" : PySem.Str) = some (.ref fa) := by
      have e : (HandSHeadRun.topDef K89.Rw.prog 25).name = ("law" : PySem.Str) := by kernel_rfl
      rw [← e]
      exact hmg0
    obtain ⟨fd, sp, hb, hs, hF⟩ := K89.ends (P := (PySem.Challenge.rw_producttables_k89_any_values_as_groups_o).prog) (w := w) (dep := 12) K89.plain KX G hmg c
    exact ⟨K, fd, sp, KX, hb, hs, hF⟩
