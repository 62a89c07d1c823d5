import PyProof.Rows.All
import Wide.All
import OpenK.AllK
import Wide.FinOn
import HandS.ForMost
import HandS.TryMany
import HandS.TupAny
import HandS.TupMul
import HandS.Style
import HandS.IsInst
import HandS.Deep
import HandS.Wide
import HandS.Exc
import HandS.ExcOwn
import HandS.WordsExc
import HandS.CallSlots
import PySem.Challenge.RW_earthends_k05_cables_as_texts
set_option Elab.async false
set_option linter.all false
set_option maxRecDepth 100000
/-! The data-level evaluator: values, store, a small language, what it computes. -/
namespace Ev
open PySem
open L2 (ixN atI)

/-- data -/
inductive D where
  | non
  | bl (b : Bool)
  | int (i : Int)
  | str (x : List Nat)
  | tup (xs : List D)
  | lst (xs : List D)
  | fz (xs : List D)
  | dct (ks vs : List D)
  | ref (n : Nat)
  | exn (c : Nat) (r : List D)
  deriving Inhabited, Repr

/-- what stands in the store: things that are changed -/
inductive Ob where
  | lst (xs : List D)
  | dct (ks vs : List D)
  | ins (c : Nat) (fs : List (String × D))
  deriving Inhabited, Repr

abbrev Store := List Ob
abbrev Env := List (Option D)
inductive R (α : Type) where
  | ok (a : α) (S : Store)
  | exc (c : Nat) (r : List D) (S : Store)
  deriving Repr
abbrev Out (α : Type) := Option (R α)
def bnd {α β : Type} (o : Out α) (f : α → Store → Out β) : Out β := match o with
  | some (.ok a S) => f a S
  | some (.exc c r S) => some (.exc c r S)
  | none => none
@[simp] theorem bnd_ok {α β : Type} (a : α) (S : Store) (f : α → Store → Out β) : bnd (some (.ok a S)) f = f a S := rfl
@[simp] theorem bnd_exc {α β : Type} (c : Nat) (r : List D) (S : Store) (f : α → Store → Out β) : bnd (some (.exc c r S)) f = some (.exc c r S) := rfl
@[simp] theorem bnd_none {α β : Type} (f : α → Store → Out β) : bnd none f = none := rfl

/-! ### equality, bounds -/
mutual
def eqD : D → D → Bool
  | .non, .non => true
  | .bl a, .bl b => a == b
  | .bl a, .int j => (if a then 1 else 0) == j
  | .int i, .bl b => i == (if b then 1 else 0)
  | .int i, .int j => i == j
  | .str x, .str y => x == y
  | .lst xs, .lst ys => eqDs xs ys
  | .tup xs, .tup ys => eqDs xs ys
  | _, _ => false
def eqDs : List D → List D → Bool
  | [], [] => true
  | x :: xs, y :: ys => eqD x y && eqDs xs ys
  | _, _ => false
end
mutual
/-- what may be compared: no dict, no reference within, at most so deep -/
def shp : Nat → D → Bool
  | _, .non => true
  | _, .bl _ => true
  | _, .int _ => true
  | _, .str x => x.all (· < 1114112)
  | 0, .lst _ => false
  | 0, .tup _ => false
  | k + 1, .lst xs => shps k xs
  | k + 1, .tup xs => shps k xs
  | _, _ => false
def shps : Nat → List D → Bool
  | _, [] => true
  | k, x :: xs => shp k x && shps k xs
end
mutual
/-- the same thing, to the letter -/
def same : D → D → Bool
  | .non, .non => true
  | .bl a, .bl b => a == b
  | .int i, .int j => i == j
  | .str x, .str y => x == y
  | .lst xs, .lst ys => sames xs ys
  | .fz xs, .fz ys => sames xs ys
  | .tup xs, .tup ys => sames xs ys
  | .dct ks vs, .dct ks' vs' => sames ks ks' && sames vs vs'
  | .ref m, .ref n => m == n
  | .exn c r, .exn c' r' => c == c' && sames r r'
  | _, _ => false
def sames : List D → List D → Bool
  | [], [] => true
  | x :: xs, y :: ys => same x y && sames xs ys
  | _, _ => false
end
mutual
/-- no reference from n on -/
def below (n : Nat) : D → Bool
  | .lst xs => belows n xs
  | .fz xs => belows n xs
  | .tup xs => belows n xs
  | .dct ks vs => belows n ks && belows n vs
  | .ref m => m < n
  | .exn _ _ => false
  | _ => true
def belows (n : Nat) : List D → Bool
  | [] => true
  | x :: xs => below n x && belows n xs
end
def belowO (n : Nat) : Ob → Bool
  | .lst xs => belows n xs
  | .dct ks vs => belows n ks && belows n vs
  | .ins _ fs => fs.all fun p => below n p.2
def sameO : Ob → Ob → Bool
  | .lst xs, .lst ys => sames xs ys
  | .dct ks vs, .dct ks' vs' => sames ks ks' && sames vs vs'
  | .ins c fs, .ins c' fs' => c == c' && fs.map (·.1) == fs'.map (·.1) && sames (fs.map (·.2)) (fs'.map (·.2))
  | _, _ => false
/-- the store behind a call, without what the call made; none where something of it is still reached -/
def cutOk (n : Nat) : Store → Store → Bool
  | [], _ => true
  | o :: S, o' :: S' => (sameO o' o || belowO n o') && cutOk n S S'
  | _, _ => false

def lim : Nat := 16777216
/-- a list, a tuple, a dict read -/
def view (S : Store) : D → D
  | .ref n => match S[n]? with
    | some (.lst xs) => .lst xs
    | some (.dct ks vs) => .dct ks vs
    | _ => .ref n
  | .fz xs => .lst xs
  | d => d
/-- the items of a list or tuple -/
def items (S : Store) (d : D) : Option (List D) := match view S d with
  | .lst xs => some xs
  | .tup xs => some xs
  | _ => none

/-! ### operators -/
inductive BOp | add | sub | mul | fdiv | mod | pow
  deriving Repr, DecidableEq
inductive COp | eq | ne | lt | le | gt | ge | isN | notN | isin | notin
  deriving Repr, DecidableEq
def mulOk (a b : Int) : Bool := decide (a.natAbs.log2 + b.natAbs.log2 < 1000000)
def divOk (b : Int) : Bool := decide (0 < b) && decide (b.natAbs.log2 < 9000)
def powOk (a b : Int) : Bool := decide (0 ≤ b) && decide (b ≤ 1000000) && decide (a.natAbs < 2 ^ 64)
/-- a binary operation; lists made by it are frozen ones -/
def bin (o : BOp) (x y : D) (S : Store) : Out D := match o, x, y with
  | .add, .int a, .int b => some (.ok (.int (a + b)) S)
  | .sub, .int a, .int b => some (.ok (.int (a - b)) S)
  | .mul, .int a, .int b => if mulOk a b then some (.ok (.int (a * b)) S) else none
  | .fdiv, .int a, .int b => if divOk b then some (.ok (.int (a / b)) S) else none
  | .mod, .int a, .int b => if 0 < b then some (.ok (.int (a % b)) S) else none
  | .pow, .int a, .int b => if powOk a b then some (.ok (.int (a ^ b.toNat)) S) else none
  | .add, .str a, .str b => if a.length + b.length ≤ lim then some (.ok (.str (a ++ b)) S) else none
  | .add, .tup a, .tup b => if a.length + b.length ≤ lim then some (.ok (.tup (a ++ b)) S) else none
  | .add, .lst a, .lst b => if a.length + b.length ≤ lim then some (.ok (.lst (a ++ b)) S) else none
  | .mul, .lst a, .int k => if 0 ≤ k ∧ k ≤ 1000 ∧ a.length ≤ 1000 then some (.ok (.lst (List.replicate k.toNat a).flatten) S) else none
  | .mul, .tup a, .int k => if 2 ≤ k ∧ k ≤ 1000 ∧ a.length ≤ 1000 ∧ a ≠ [] then some (.ok (.tup (List.replicate k.toNat a).flatten) S) else none
  | .mul, .str a, .int k => if k = 0 then some (.ok (.str []) S) else if k = 1 then some (.ok (.str a) S) else none
  | _, _, _ => none
def cmpI (o : COp) (a b : Int) : Option Bool := match o with
  | .lt => some (decide (a < b))
  | .le => some (decide (a ≤ b))
  | .gt => some (decide (b < a))
  | .ge => some (decide (b ≤ a))
  | _ => none
/-- a comparison of two values (refs already seen through) -/
def cmp (o : COp) (x y : D) : Option Bool := match o with
  | .eq => if shp 60 x && shp 60 y then some (eqD x y) else none
  | .ne => if shp 60 x && shp 60 y then some (!eqD x y) else none
  | .isN => match y with | .non => some (match x with | .non => true | _ => false) | _ => none
  | .notN => match y with | .non => some (match x with | .non => false | _ => true) | _ => none
  | .isin => match x, y with
    | .str [c], .str z => some (decide (c ∈ z))
    | x, .lst ys => if shp 60 x && shps 60 ys then some (ys.any fun z => eqD z x) else none
    | x, .tup ys => if shp 60 x && shps 60 ys then some (ys.any fun z => eqD z x) else none
    | _, _ => none
  | .notin => match x, y with
    | .str [c], .str z => some (!decide (c ∈ z))
    | x, .lst ys => if shp 60 x && shps 60 ys then some (!ys.any fun z => eqD z x) else none
    | x, .tup ys => if shp 60 x && shps 60 ys then some (!ys.any fun z => eqD z x) else none
    | _, _ => none
  | o => match x, y with
    | .int a, .int b => cmpI o a b
    | _, _ => none
def idx (x i : D) (S : Store) : Out D := match x, i with
  | .tup xs, .int i => (atI xs i).map fun v => .ok v S
  | .lst xs, .int i => (atI xs i).map fun v => .ok v S
  | .str xs, .int i => (atI xs i).map fun c => .ok (.str [c]) S
  | _, _ => none
def cutL {α : Type} (xs : List α) (lo hi : Option Int) : List α := (xs.drop (HT.sIx xs.length 0 lo)).take (HT.sIx xs.length xs.length hi - HT.sIx xs.length 0 lo)
def slc (x : D) (lo hi : Option Int) (S : Store) : Out D := match x with
  | .tup xs => some (.ok (.tup (cutL xs lo hi)) S)
  | .lst xs => some (.ok (.lst (cutL xs lo hi)) S)
  | .str xs => some (.ok (.str (cutL xs lo hi)) S)
  | _ => none
def revd (x : D) (S : Store) : Out D := match x with
  | .tup xs => some (.ok (.tup xs.reverse) S)
  | .lst xs => some (.ok (.lst xs.reverse) S)
  | _ => none

/-! ### built-in functions and methods that change nothing -/
inductive Ty | int | bool | str | tuple | list | dict
  deriving Repr, DecidableEq
def isTy (t : Ty) (S : Store) (d : D) : Option Bool := match view S d with
  | .non => some false
  | .bl _ => some (t == .bool || t == .int)
  | .int _ => some (t == .int)
  | .str _ => some (t == .str)
  | .tup _ => some (t == .tuple)
  | .lst _ => some (t == .list)
  | .dct _ _ => some (t == .dict)
  | .fz _ => none
  | .ref _ => none
  | .exn _ _ => none
def boolsD : List D → Option (List Bool)
  | [] => some []
  | .bl b :: r => (boolsD r).map (b :: ·)
  | _ => none
def intsD : List D → Option (List Int)
  | [] => some []
  | .int b :: r => (intsD r).map (b :: ·)
  | _ => none
def strsD : List D → Option (List (List Nat))
  | [] => some []
  | .str b :: r => (strsD r).map (b :: ·)
  | _ => none
inductive Bf | len | abs | all | any | sum | int | str | tuple | list | max2 | min2
  deriving Repr, DecidableEq
def intL (i : Int) : List Nat := TL.tl (Str.ofString (toString i))
def intOf (x : List Nat) : Option Int := if x.length ≤ 640 then PySem.intText? ⟨x.toArray⟩ else none
def blt (f : Bf) (ds : List D) (S : Store) : Out D := match f, ds with
  | .len, [.str x] => some (.ok (.int x.length) S)
  | .len, [d] => (items S d).map fun xs => .ok (.int xs.length) S
  | .abs, [.int i] => some (.ok (.int (if i < 0 then -i else i)) S)
  | .all, [d] => match view S d with
    | .lst xs => (boolsD xs).map fun bs => .ok (.bl (bs.all id)) S
    | _ => none
  | .any, [d] => match view S d with
    | .lst xs => (boolsD xs).map fun bs => .ok (.bl (bs.any id)) S
    | _ => none
  | .sum, [d] => match view S d with
    | .lst xs => (intsD xs).map fun bs => .ok (.int bs.sum) S
    | _ => none
  | .int, [.int i] => some (.ok (.int i) S)
  | .int, [.bl b] => some (.ok (.int (if b then 1 else 0)) S)
  | .int, [.str x] => (intOf x).map fun i => .ok (.int i) S
  | .str, [.int i] => if i.natAbs.log2 < 1920 ∧ (intL i).length ≤ lim then some (.ok (.str (intL i)) S) else none
  | .tuple, [d] => match view S d with
    | .lst xs => some (.ok (.tup xs) S)
    | .tup xs => some (.ok (.tup xs) S)
    | _ => none
  | .list, [d] => match view S d with
    | .lst xs => some (.ok (.lst xs) S)
    | .tup xs => some (.ok (.lst xs) S)
    | _ => none
  | .max2, [.int i, .int j] => some (.ok (.int (if j > i then j else i)) S)
  | .min2, [.int i, .int j] => some (.ok (.int (if j < i then j else i)) S)
  | _, _ => none
inductive Mf | split | partition | join | countTrue | indexTrue
  deriving Repr, DecidableEq
def latin (b : List Nat) : Bool := b ≠ [] && b.all (· < 256)
def mth (f : Mf) (o : D) (ds : List D) (S : Store) : Out D := match f, o, ds with
  | .split, .str a, [.str b] => if latin b && a.length + 2 ≤ lim then some (.ok (.lst ((TL.spl b 0 [] a).map .str)) S) else none
  | .partition, .str a, [.str b] => if latin b then some (.ok (match TL.par b [] a with | some (p, q) => .tup [.str p, .str b, .str q] | none => .tup [.str a, .str [], .str []]) S) else none
  | .join, .str a, [d] => match items S d with
    | some xs => (strsD xs).bind fun ys => if (ys.map (·.length)).sum + ys.length * a.length ≤ lim then some (.ok (.str (TL.joinL a ys)) S) else none
    | none => none
  | .countTrue, .lst xs, [.bl true] => (boolsD xs).map fun bs => .ok (.int (bs.count true)) S
  | .indexTrue, .lst xs, [.bl true] => (boolsD xs).bind fun bs => if true ∈ bs then some (.ok (.int (bs.idxOf true)) S) else none
  | _, _, _ => none

def isStr : D → Bool
  | .str _ => true
  | _ => false
def isLst : D → Bool
  | .lst _ => true
  | _ => false
def mthOk (f : Mf) (d : D) : Bool := match f with
  | .split | .partition | .join => isStr d
  | .countTrue | .indexTrue => isLst d
/-! ### the language -/
mutual
inductive E where
  | var (i : Nat)
  | con (d : D)
  | bin (o : BOp) (a b : E)
  | neg (a : E)
  | cmp (o : COp) (a b : E)
  | chain (o o' : COp) (a b c : E)
  | and (a b : E)
  | or (a b : E)
  | not (a : E)
  | ife (c a b : E)
  | tup (es : Es)
  | lst (m : Bool) (es : Es)
  | call (f : Nat) (es : Es)
  | blt (f : Bf) (es : Es)
  | mth (f : Mf) (o : E) (es : Es)
  | isi (t : Ty) (e : E)
  | isx (c : Nat) (e : E)
  | row (e : E)
  | idx (a i : E)
  | slc (a : E) (lo hi : Es)
  | rev (a : E)
  | comp (m : Bool) (tg : List Nat) (it : It) (cond : Es) (elt : E)
  | mut (f : Nat) (o : E) (es : Es)
  | never
inductive Es where
  | nil
  | cons (e : E) (es : Es)
inductive It where
  | seq (e : E)
  | rng1 (e : E)
  | rng2 (a b : E)
  | enum (e : E)
end
mutual
inductive S where
  | asg (i : Nat) (e : E)
  | asgT (is : List Nat) (e : E)
  | setix (a i v : E)
  | expr (e : E)
  | ret (e : E)
  | ife (c : E) (a b : Ss)
  | whl (c : E) (b : Ss)
  | for_ (tg : List Nat) (one : Bool) (it : It) (b : Ss)
  | raise_ (c : Nat) (es : Es)
  | try_ (b : Ss) (c : Nat) (i : Nat) (s : Ss)
  | pass
  | brk
  | cont
  | never
inductive Ss where
  | nil
  | cons (s : S) (r : Ss)
end
inductive F where
  | nx (ρ : Env)
  | bk (ρ : Env)
  | ct (ρ : Env)
  | rt (v : D)
  | xc (ρ : Env) (c : Nat) (r : List D)
  deriving Repr
def bndS {α : Type} (o : Out α) (ρ : Env) (f : α → Store → Out F) : Out F := match o with
  | some (.ok a S) => f a S
  | some (.exc c r S) => some (.ok (.xc ρ c r) S)
  | none => none
@[simp] theorem bndS_ok {α : Type} (a : α) (S : Store) (ρ : Env) (f : α → Store → Out F) : bndS (some (.ok a S)) ρ f = f a S := rfl
@[simp] theorem bndS_exc {α : Type} (c : Nat) (r : List D) (S : Store) (ρ : Env) (f : α → Store → Out F) : bndS (some (.exc c r S)) ρ f = some (.ok (.xc ρ c r) S) := rfl
@[simp] theorem bndS_none {α : Type} (ρ : Env) (f : α → Store → Out F) : bndS none ρ f = none := rfl

def getB : D → Option Bool
  | .bl b => some b
  | _ => none
def asB (o : Out D) : Out Bool := bnd o fun v S => match v with | .bl b => some (.ok b S) | _ => none
def setTg (ρ : Env) : List Nat → Bool → D → Option Env
  | [i], true, v => some (ρ.set i (some v))
  | is, _, .tup vs => if is.length = vs.length then some ((is.zip vs).foldl (fun ρ p => ρ.set p.1 (some p.2)) ρ) else none
  | _, _, _ => none
def rngL (a b : Int) : List D := (List.range (b - a).toNat).map fun (k : Nat) => D.int (a + (k : Int))
def rngOk (a b : Int) : Bool := decide (-(2 ^ 61) ≤ a) && decide (a < 2 ^ 61) && decide (-(2 ^ 61) ≤ b) && decide (b - a ≤ 1000000)
def enumL (i : Nat) : List D → List D
  | [] => []
  | x :: xs => .tup [.int i, x] :: enumL (i + 1) xs
def compL (f : D → Store → Out (Option D)) : List D → Store → Out (List D)
  | [], S => some (.ok [] S)
  | x :: xs, S => bnd (f x S) fun y S1 => bnd (compL f xs S1) fun ys S2 => some (.ok (match y with | some y => y :: ys | none => ys) S2)
def okPart : List D → Bool
  | [] => true
  | [.int _] => true
  | _ => false
/-- a slice's part: none, or a whole number -/
def part (o : Out (List D)) : Out (List D) := bnd o fun l S => if okPart l then some (.ok l S) else none
/-- one turn of a comprehension -/
def cturn (is : List Nat) (fc : Env → Store → Out Bool) (fe : Env → Store → Out D) (ρ : Env) (x : D) (S : Store) : Out (Option D) := match setTg ρ is (is.length == 1) x with
  | none => none
  | some ρ1 => bnd (fc ρ1 S) fun b S => if b then bnd (fe ρ1 S) fun y S => some (.ok (some y) S) else some (.ok none S)
/-- an exception within a comprehension isn't served -/
def nox {α : Type} (o : Out α) : Out α := match o with
  | some (.exc _ _ _) => none
  | o => o
def alloc (m : Bool) (d : D) (S : Store) : Out D := if m then (match d with
  | .lst xs => some (.ok (.ref S.length) (S ++ [.lst xs]))
  | .dct ks vs => some (.ok (.ref S.length) (S ++ [.dct ks vs]))
  | _ => none) else some (.ok d S)
/-- list.append (0), list.reverse (1), list.pop (2) -/
def mutate (f : Nat) (o : D) (ds : List D) (S : Store) : Out D := match o with
  | .ref n => match S[n]? with
    | some (.lst xs) => match f, ds with
      | 0, [y] => if xs.length < lim then some (.ok .non (S.set n (.lst (xs ++ [y])))) else none
      | 1, [] => some (.ok .non (S.set n (.lst xs.reverse)))
      | 2, [] => match xs[xs.length - 1]? with | some y => some (.ok y (S.set n (.lst xs.dropLast))) | none => none
      | _, _ => none
    | _ => none
  | _ => none
def setix (o i v : D) (S : Store) : Option Store := match o with
  | .ref n => match S[n]? with
    | some (.lst xs) => match i with
      | .int k => (ixN xs.length k).map fun j => S.set n (.lst (xs.set j v))
      | _ => none
    | _ => none
  | _ => none
section
/-! the class table: of each class its ancestors, itself among them -/
variable (anc : Nat → List Nat) (Φ : Nat → List D → Store → Out D)
mutual
def ev : E → Env → Store → Out D
  | .var i, ρ, S => match ρ[i]? with | some (some v) => some (.ok v S) | _ => none
  | .con d, _, S => some (.ok d S)
  | .bin o a b, ρ, S => bnd (ev a ρ S) fun x S => bnd (ev b ρ S) fun y S => bin o x y S
  | .neg a, ρ, S => bnd (ev a ρ S) fun x S => match x with | .int i => some (.ok (.int (-i)) S) | _ => none
  | .cmp o a b, ρ, S => bnd (ev a ρ S) fun x S => bnd (ev b ρ S) fun y S => (cmp o (view S x) (view S y)).map fun b => .ok (.bl b) S
  | .chain o o' a b c, ρ, S => bnd (ev a ρ S) fun x S => bnd (ev b ρ S) fun y S => match cmp o (view S x) (view S y) with
    | some true => bnd (ev c ρ S) fun z S => (cmp o' (view S y) (view S z)).map fun b => .ok (.bl b) S
    | some false => some (.ok (.bl false) S)
    | none => none
  | .and a b, ρ, S => bnd (asB (ev a ρ S)) fun x S => if x then ev b ρ S else some (.ok (.bl false) S)
  | .or a b, ρ, S => bnd (asB (ev a ρ S)) fun x S => if x then some (.ok (.bl true) S) else ev b ρ S
  | .not a, ρ, S => bnd (asB (ev a ρ S)) fun x S => some (.ok (.bl (!x)) S)
  | .ife c a b, ρ, S => bnd (asB (ev c ρ S)) fun x S => if x then ev a ρ S else ev b ρ S
  | .tup es, ρ, S => bnd (evs es ρ S) fun xs S => some (.ok (.tup xs) S)
  | .lst m es, ρ, S => bnd (evs es ρ S) fun xs S => alloc m (.lst xs) S
  | .call f es, ρ, S => bnd (evs es ρ S) fun xs S => Φ f xs S
  | .blt f es, ρ, S => bnd (evs es ρ S) fun xs S => blt f xs S
  | .mth f o es, ρ, S => bnd (ev o ρ S) fun x S => if mthOk f (view S x) then bnd (evs es ρ S) fun xs S => mth f (view S x) xs S else none
  | .isi t e, ρ, S => bnd (ev e ρ S) fun x S => (isTy t S x).map fun b => .ok (.bl b) S
  | .isx c e, ρ, S => bnd (ev e ρ S) fun x S => match x with | .exn k _ => some (.ok (.bl (decide (c ∈ anc k))) S) | _ => none
  | .row e, ρ, S => bnd (ev e ρ S) fun x S => match x with | .exn _ [v] => some (.ok v S) | _ => none
  | .idx a i, ρ, S => bnd (ev a ρ S) fun x S => bnd (ev i ρ S) fun y S => idx (view S x) y S
  | .slc a lo hi, ρ, S => bnd (ev a ρ S) fun x S => bnd (part (evs lo ρ S)) fun l S => bnd (part (evs hi ρ S)) fun h S => match l, h with
    | [], [] => slc (view S x) none none S
    | [.int i], [] => slc (view S x) (some i) none S
    | [], [.int j] => slc (view S x) none (some j) S
    | [.int i], [.int j] => slc (view S x) (some i) (some j) S
    | _, _ => none
  | .rev a, ρ, S => bnd (ev a ρ S) fun x S => revd (view S x) S
  | .comp m tg it cond elt, ρ, S => bnd (evi it ρ S) fun xs S => bnd (nox (compL (cturn tg (fun ρ S => evc cond ρ S) (fun ρ S => ev elt ρ S) ρ) xs S)) fun ys S => alloc m (.lst ys) S
  | .mut f o es, ρ, S => bnd (ev o ρ S) fun x S => if isLst (view S x) then bnd (evs es ρ S) fun xs S => mutate f x xs S else none
  | .never, _, _ => none
def evs : Es → Env → Store → Out (List D)
  | .nil, _, S => some (.ok [] S)
  | .cons e es, ρ, S => bnd (ev e ρ S) fun x S => bnd (evs es ρ S) fun xs S => some (.ok (x :: xs) S)
/-- a comprehension's test: none, or one -/
def evc : Es → Env → Store → Out Bool
  | .nil, _, S => some (.ok true S)
  | .cons e _, ρ, S => asB (ev e ρ S)
def evi : It → Env → Store → Out (List D)
  | .seq e, ρ, S => bnd (ev e ρ S) fun x S => match x with
    | .lst xs => some (.ok xs S)
    | .tup xs => some (.ok xs S)
    | .str xs => some (.ok (xs.map fun c => .str [c]) S)
    | _ => none
  | .rng1 e, ρ, S => bnd (ev e ρ S) fun x S => match x with | .int j => if rngOk 0 j then some (.ok (rngL 0 j) S) else none | _ => none
  | .rng2 a b, ρ, S => bnd (ev a ρ S) fun x S => bnd (ev b ρ S) fun y S => match x, y with | .int i, .int j => if rngOk i j then some (.ok (rngL i j) S) else none | _, _ => none
  | .enum e, ρ, S => bnd (ev e ρ S) fun x S => match x with | .lst xs => some (.ok (enumL 0 xs) S) | _ => none
end
/-- while -/
def whl (c : Env → Store → Out Bool) (b : Env → Store → Out F) (ρ : Env) (S : Store) : Out F :=
  match c ρ S with
  | some (.ok true S) => match b ρ S with
    | some (.ok (.nx ρ) S) => whl c b ρ S
    | some (.ok (.ct ρ) S) => whl c b ρ S
    | some (.ok (.bk ρ) S) => some (.ok (.nx ρ) S)
    | o => o
  | some (.ok false S) => some (.ok (.nx ρ) S)
  | some (.exc c r S) => some (.ok (.xc ρ c r) S)
  | none => none
partial_fixpoint
def forL (tg : List Nat) (one : Bool) (b : Env → Store → Out F) : List D → Env → Store → Out F
  | [], ρ, S => some (.ok (.nx ρ) S)
  | x :: xs, ρ, S => match setTg ρ tg one x with
    | none => none
    | some ρ => match b ρ S with
      | some (.ok (.nx ρ) S) => forL tg one b xs ρ S
      | some (.ok (.ct ρ) S) => forL tg one b xs ρ S
      | some (.ok (.bk ρ) S) => some (.ok (.nx ρ) S)
      | o => o
mutual
def ex : S → Env → Store → Out F
  | .asg i e, ρ, S => bndS (ev anc Φ e ρ S) ρ fun v S => some (.ok (.nx (ρ.set i (some v))) S)
  | .asgT is e, ρ, S => bndS (ev anc Φ e ρ S) ρ fun v S => match setTg ρ is false v with | some ρ => some (.ok (.nx ρ) S) | none => none
  | .setix a i v, ρ, S => bndS (ev anc Φ v ρ S) ρ fun v S => bndS (ev anc Φ a ρ S) ρ fun x S => bndS (ev anc Φ i ρ S) ρ fun k S => match setix x k v S with | some S => some (.ok (.nx ρ) S) | none => none
  | .expr e, ρ, S => bndS (ev anc Φ e ρ S) ρ fun _ S => some (.ok (.nx ρ) S)
  | .ret e, ρ, S => bndS (ev anc Φ e ρ S) ρ fun v S => some (.ok (.rt v) S)
  | .ife c a b, ρ, S => bndS (asB (ev anc Φ c ρ S)) ρ fun x S => if x then exs a ρ S else exs b ρ S
  | .whl c b, ρ, S => whl (fun ρ S => asB (ev anc Φ c ρ S)) (fun ρ S => exs b ρ S) ρ S
  | .for_ tg one it b, ρ, S => bndS (evi anc Φ it ρ S) ρ fun xs S => forL tg one (fun ρ S => exs b ρ S) xs ρ S
  | .raise_ c es, ρ, S => bndS (evs anc Φ es ρ S) ρ fun xs S => some (.ok (.xc ρ c xs) S)
  | .try_ b c i s, ρ, S => match exs b ρ S with
    | some (.ok (.xc ρ k r) S) => if c ∈ anc k then
        (match exs s (ρ.set i (some (.exn k r))) S with
          | some (.ok (.nx ρ) S) => some (.ok (.nx (ρ.set i none)) S)
          | some (.ok (.rt v) S) => some (.ok (.rt v) S)
          | _ => none)
      else some (.ok (.xc ρ k r) S)
    | o => o
  | .pass, ρ, S => some (.ok (.nx ρ) S)
  | .brk, ρ, S => some (.ok (.bk ρ) S)
  | .cont, ρ, S => some (.ok (.ct ρ) S)
  | .never, _, _ => none
def exs : Ss → Env → Store → Out F
  | .nil, ρ, S => some (.ok (.nx ρ) S)
  | .cons s r, ρ, S => match ex s ρ S with
    | some (.ok (.nx ρ) S) => exs r ρ S
    | o => o
end
end

/-! ### calls -/
structure Fn where
  np : Nat
  ns : Nat
  raw : Bool
  body : Ss
/-- a made list that is told: from here on it is never changed -/
def freeze (n : Nat) (S : Store) : D → Option D
  | .ref m => if m < n then some (.ref m) else match S[m]? with
    | some (.lst xs) => if belows n xs then some (.lst xs) else none
    | some (.dct ks vs) => if belows n ks && belows n vs then some (.dct ks vs) else none
    | _ => none
  | d => if below n d then some d else none
def close (raw : Bool) (S S' : Store) (v : D) : Out D :=
  if raw || S'.length == S.length then some (.ok v S')
  else match freeze S.length S' v with
    | some v => if cutOk S.length S S' then some (.ok v (S'.take S.length)) else none
    | none => none
def fin (raw : Bool) (S : Store) : Out F → Out D
  | some (.ok (.rt v) S') => close raw S S' v
  | some (.ok (.nx _) S') => close raw S S' .non
  | some (.ok (.xc _ c r) S') => if S'.length == S.length then some (.exc c r S') else if belows S.length r && cutOk S.length S S' then some (.exc c r (S'.take S.length)) else none
  | _ => none
structure Prog where
  anc : Nat → List Nat
  fns : List Fn
def call (P : Prog) : Nat → Nat → List D → Store → Out D
  | 0, _, _, _ => none
  | d + 1, f, args, S => match P.fns[f]? with
    | none => none
    | some Fn => if args.length = Fn.np then fin Fn.raw S (exs P.anc (call P d) Fn.body (args.map some ++ List.replicate (Fn.ns - Fn.np) none) S) else none
end Ev

set_option Elab.async false
set_option linter.all false
set_option maxRecDepth 100000
set_option maxHeartbeats 2000000
/-! How data lie in the heap; what the evaluator's words mean for the machine. -/
namespace Ev
open PySem PySem.Spec L2
open PyProof.Rows hiding St

def toS (x : List Nat) : Str := ⟨x.toArray⟩
@[simp] theorem toS_tl (x : List Nat) : (toS x).cps.toList = x := rfl
theorem toS_len (x : List Nat) : (toS x).length = x.length := by simp [toS, Str.length]

/-- what representing hangs on, besides the heap: the written part, the pinned exceptions, the classes' addresses -/
structure RC where
  K : PySem.W.Frag
  pn : List (Addr × Obj)
  cls : Nat → Option Addr
  hid : List Addr
/-- a thing that no data of the store stands for, nor a list that is being made -/
def Fr (C : RC) (ι : List Addr) (p : Addr) : Prop := p ∉ ι ∧ p ∉ C.hid

def Scal : D → V → Prop
  | .non, v => v = .non
  | .bl b, v => v = .bl b
  | .int i, v => v = .int i
  | .str x, v => v = .str (toS x) ∧ x.length ≤ lim
  | _, _ => False
def RowRep (ι : List Addr) (H : Hp) (d : Option Addr) : List D → Prop
  | [] => True
  | [x] => ∃ dd fs y, d = some dd ∧ dd ∉ ι ∧ H dd = some (.xd fs) ∧ fs.lookup (Str.ofString "row") = some y ∧ Scal x y
  | _ => False
/-- a list of the written part -/
def KL (K : PySem.W.Frag) (a : Addr) (xs : List V) : Prop := ∃ (o : Obj) (its : Array Value) (n : Nat), K.lookup a = some o ∧ o.cls = .type "list" ∧ o.dict = none ∧ o.data = .seq its n ∧ its.size ≤ sizeLine ∧ Vals xs its.toList
/-- a list that nobody changes: the script -/
def SqF (K : PySem.W.Frag) (H : Hp) (p : Addr) (xs : List V) : Prop := (∃ o, H p = some (.frz o (.lst xs))) ∨ KL K p xs
theorem SqF.seq {K : PySem.W.Frag} {H : Hp} {p : Addr} {xs : List V} (h : SqF K H p xs) : SqL K H p xs := by
  rcases h with ⟨o, h⟩ | h
  · exact .inl (.inr ⟨o, h⟩)
  · exact .inr h
mutual
def Rep (C : RC) (ι : List Addr) (H : Hp) : D → V → Prop
  | .non, v => v = .non
  | .bl b, v => v = .bl b
  | .int i, v => v = .int i
  | .str x, v => v = .str (toS x) ∧ x.length ≤ lim
  | .tup ds, v => ∃ p xs, v = .ref p ∧ SqT C.K H p xs ∧ ds.length ≤ lim ∧ Reps C ι H ds xs
  | .lst ds, v => ∃ p xs, v = .ref p ∧ Fr C ι p ∧ H p = some (.lst xs) ∧ ds.length ≤ lim ∧ Reps C ι H ds xs
  | .fz ds, v => ∃ p xs, v = .ref p ∧ SqF C.K H p xs ∧ ds.length ≤ lim ∧ Reps C ι H ds xs
  | .dct ks vs, v => ∃ p, v = .ref p ∧ Fr C ι p ∧ H p = some (.dK []) ∧ ks = [] ∧ vs = []
  | .ref n, v => ∃ p, ι[n]? = some p ∧ v = .ref p
  | .exn c r, v => ∃ a oe d Ca, v = .ref a ∧ (a, oe) ∈ C.pn ∧ C.cls c = some Ca ∧ Zc (.ref Ca) d oe ∧ (∃ vs, oe.data = .fields vs) ∧ RowRep ι H d r
def Reps (C : RC) (ι : List Addr) (H : Hp) : List D → List V → Prop
  | [], vs => vs = []
  | d :: ds, vs => ∃ v r, vs = v :: r ∧ Rep C ι H d v ∧ Reps C ι H ds r
end
/-- what a call, an expression may do to the heap -/
structure Ext (ι : List Addr) (H : Hp) (ι' : List Addr) (H' : Hp) : Prop where
  pre : ∃ more, ι' = ι ++ more
  keep : ∀ p o, H p = some o → p ∉ ι → H' p = some o ∧ p ∉ ι'
  tups : ∀ p xs, H p = some (.tup xs) → H' p = some (.tup xs)
  frzs : ∀ p o u, H p = some (.frz o u) → H' p = some (.frz o u)
theorem Ext.refl {ι : List Addr} {H : Hp} : Ext ι H ι H := ⟨⟨[], by simp⟩, fun _ _ h n => ⟨h, n⟩, fun _ _ h => h, fun _ _ _ h => h⟩
theorem Ext.trans {ι ι' ι'' : List Addr} {H H' H'' : Hp} (a : Ext ι H ι' H') (b : Ext ι' H' ι'' H'') : Ext ι H ι'' H'' := by
  obtain ⟨m, e⟩ := a.pre
  obtain ⟨m', e'⟩ := b.pre
  exact ⟨⟨m ++ m', by rw [e', e, List.append_assoc]⟩, fun p o h n => b.keep p o (a.keep p o h n).1 (a.keep p o h n).2, fun p xs h => b.tups p xs (a.tups p xs h), fun p o u h => b.frzs p o u (a.frzs p o u h)⟩
/-- a new object -/
theorem Ext.new {ι : List Addr} {H : Hp} {p : Addr} {o : HO} (h : H p = none) : Ext ι H ι (upd H p o) :=
  ⟨⟨[], by simp⟩, fun q u e n => ⟨by rw [upd_ne (ne_of_none e h)]; exact e, n⟩, fun q xs e => by rw [upd_ne (ne_of_none e h)]; exact e, fun q u w e => by rw [upd_ne (ne_of_none e h)]; exact e⟩
theorem Ext.get {ι ι' : List Addr} {H H' : Hp} (x : Ext ι H ι' H') {n : Nat} {p : Addr} (h : ι[n]? = some p) : ι'[n]? = some p := by
  obtain ⟨m, e⟩ := x.pre
  rw [e, List.getElem?_append_left (List.getElem?_eq_some_iff.mp h).1]
  exact h
theorem Ext.seqT {K : PySem.W.Frag} {ι ι' : List Addr} {H H' : Hp} (x : Ext ι H ι' H') {p : Addr} {xs : List V} (h : SqT K H p xs) : SqT K H' p xs := by
  rcases h with (h | ⟨o, h⟩) | h
  · exact .inl (.inl (x.tups _ _ h))
  · exact .inl (.inr ⟨o, x.frzs _ _ _ h⟩)
  · exact .inr h
theorem Ext.seqF {K : PySem.W.Frag} {ι ι' : List Addr} {H H' : Hp} (x : Ext ι H ι' H') {p : Addr} {xs : List V} (h : SqF K H p xs) : SqF K H' p xs := by
  rcases h with ⟨o, h⟩ | h
  · exact .inl ⟨o, x.frzs _ _ _ h⟩
  · exact .inr h
theorem RowRep.mono {ι ι' : List Addr} {H H' : Hp} (x : Ext ι H ι' H') {d : Option Addr} : ∀ {r : List D}, RowRep ι H d r → RowRep ι' H' d r
  | [], _ => trivial
  | [_], ⟨dd, fs, y, e, n, h, l, s⟩ => ⟨dd, fs, y, e, (x.keep _ _ h n).2, (x.keep _ _ h n).1, l, s⟩
mutual
theorem Rep.mono {C : RC} {ι ι' : List Addr} {H H' : Hp} (x : Ext ι H ι' H') : ∀ (d : D) (v : V), Rep C ι H d v → Rep C ι' H' d v
  | .non, _, h => h
  | .bl _, _, h => h
  | .int _, _, h => h
  | .str _, _, h => h
  | .tup ds, _, ⟨p, xs, e, h, l, r⟩ => ⟨p, xs, e, x.seqT h, l, Reps.mono x ds xs r⟩
  | .lst ds, _, ⟨p, xs, e, n, h, l, r⟩ => ⟨p, xs, e, ⟨(x.keep _ _ h n.1).2, n.2⟩, (x.keep _ _ h n.1).1, l, Reps.mono x ds xs r⟩
  | .fz ds, _, ⟨p, xs, e, h, l, r⟩ => ⟨p, xs, e, x.seqF h, l, Reps.mono x ds xs r⟩
  | .dct _ _, _, ⟨p, e, n, h, k⟩ => ⟨p, e, ⟨(x.keep _ _ h n.1).2, n.2⟩, (x.keep _ _ h n.1).1, k⟩
  | .ref _, _, ⟨p, h, e⟩ => ⟨p, x.get h, e⟩
  | .exn _ _, _, ⟨a, oe, d, Ca, e, h1, h2, h3, h4, h5⟩ => ⟨a, oe, d, Ca, e, h1, h2, h3, h4, h5.mono x⟩
theorem Reps.mono {C : RC} {ι ι' : List Addr} {H H' : Hp} (x : Ext ι H ι' H') : ∀ (ds : List D) (vs : List V), Reps C ι H ds vs → Reps C ι' H' ds vs
  | [], _, h => h
  | d :: ds, _, ⟨v, r, e, h1, h2⟩ => ⟨v, r, e, Rep.mono x d v h1, Reps.mono x ds r h2⟩
end
theorem Reps.length {C : RC} {ι : List Addr} {H : Hp} : ∀ {ds : List D} {vs : List V}, Reps C ι H ds vs → ds.length = vs.length
  | [], _, h => by cases h; rfl
  | _ :: _, _, ⟨_, _, e, _, h⟩ => by subst e; simp [h.length]
theorem Reps.get {C : RC} {ι : List Addr} {H : Hp} : ∀ {ds : List D} {vs : List V} {i : Nat} {d : D}, Reps C ι H ds vs → ds[i]? = some d → ∃ v, vs[i]? = some v ∧ Rep C ι H d v
  | [], _, _, _, _, h => by simp at h
  | _ :: _, _, 0, _, ⟨v, r, e, h, _⟩, q => by subst e; simp at q; subst q; exact ⟨v, rfl, h⟩
  | _ :: _, _, i + 1, _, ⟨v, r, e, _, h⟩, q => by
    subst e
    obtain ⟨v, h1, h2⟩ := h.get (i := i) (by simpa using q)
    exact ⟨v, by simpa using h1, h2⟩
theorem Reps.get' {C : RC} {ι : List Addr} {H : Hp} {ds : List D} {vs : List V} {i : Nat} {v : V} (h : Reps C ι H ds vs) (q : vs[i]? = some v) : ∃ d, ds[i]? = some d ∧ Rep C ι H d v := by
  have hl := h.length
  have hi : i < ds.length := by rw [hl]; exact (List.getElem?_eq_some_iff.mp q).1
  obtain ⟨w, h1, h2⟩ := h.get (i := i) (d := ds[i]) (by simp [hi])
  rw [q] at h1
  cases h1
  exact ⟨ds[i], by simp [hi], h2⟩
theorem Reps.append {C : RC} {ι : List Addr} {H : Hp} : ∀ {ds es : List D} {vs ws : List V}, Reps C ι H ds vs → Reps C ι H es ws → Reps C ι H (ds ++ es) (vs ++ ws)
  | [], _, _, _, h, q => by cases h; exact q
  | _ :: _, _, _, _, ⟨v, r, e, h1, h2⟩, q => by subst e; exact ⟨v, _, rfl, h1, h2.append q⟩
theorem Reps.drop {C : RC} {ι : List Addr} {H : Hp} : ∀ (n : Nat) {ds : List D} {vs : List V}, Reps C ι H ds vs → Reps C ι H (ds.drop n) (vs.drop n)
  | 0, _, _, h => h
  | _ + 1, [], _, h => by cases h; exact rfl
  | n + 1, _ :: _, _, ⟨_, _, e, _, h⟩ => by subst e; exact h.drop n
theorem Reps.take {C : RC} {ι : List Addr} {H : Hp} : ∀ (n : Nat) {ds : List D} {vs : List V}, Reps C ι H ds vs → Reps C ι H (ds.take n) (vs.take n)
  | 0, _, _, h => rfl
  | _ + 1, [], _, h => by cases h; exact rfl
  | n + 1, _ :: _, _, ⟨_, _, e, h1, h⟩ => by subst e; exact ⟨_, _, rfl, h1, h.take n⟩
theorem Reps.set {C : RC} {ι : List Addr} {H : Hp} {d : D} {v : V} (h : Rep C ι H d v) : ∀ (n : Nat) {ds : List D} {vs : List V}, Reps C ι H ds vs → Reps C ι H (ds.set n d) (vs.set n v)
  | _, [], _, q => by cases q; exact rfl
  | 0, _ :: _, _, ⟨_, _, e, h1, q⟩ => by subst e; exact ⟨_, _, rfl, h, q⟩
  | n + 1, _ :: _, _, ⟨_, _, e, h1, q⟩ => by subst e; exact ⟨_, _, rfl, h1, q.set h n⟩
theorem Reps.snoc {C : RC} {ι : List Addr} {H : Hp} {ds : List D} {vs : List V} {d : D} {v : V} (h : Reps C ι H ds vs) (q : Rep C ι H d v) : Reps C ι H (ds ++ [d]) (vs ++ [v]) := h.append ⟨v, [], rfl, q, rfl⟩
theorem Reps.reverse {C : RC} {ι : List Addr} {H : Hp} : ∀ {ds : List D} {vs : List V}, Reps C ι H ds vs → Reps C ι H ds.reverse vs.reverse
  | [], _, h => by cases h; exact rfl
  | d :: ds, _, ⟨v, r, e, h1, h2⟩ => by
    subst e
    rw [List.reverse_cons, List.reverse_cons]
    exact h2.reverse.snoc h1

def ObRep (C : RC) (ι : List Addr) (H : Hp) : Ob → Addr → Prop
  | .lst ds, p => ∃ xs, H p = some (.lst xs) ∧ ds.length ≤ lim ∧ Reps C ι H ds xs
  | .dct ks vs, p => False
  | .ins c fs, p => False
structure WRel (C : RC) (ι : List Addr) (H : Hp) (S : Store) : Prop where
  len : S.length = ι.length
  nd : ι.Nodup
  at_ : ∀ (n : Nat) (o : Ob) (p : Addr), S[n]? = some o → ι[n]? = some p → ObRep C ι H o p
  hid : ∀ p ∈ C.hid, (∃ xs, H p = some (.lst xs)) ∧ p ∉ ι
structure EnvRep (C : RC) (ι : List Addr) (H : Hp) (ρ : Env) (σ : St) : Prop where
  len : ρ.length = σ.length
  at_ : ∀ (i : Nat) (d : D), ρ[i]? = some (some d) → ∃ x, σ[i]? = some (some x) ∧ Rep C ι H d x
theorem ObRep.mono {C : RC} {ι ι' : List Addr} {H H' : Hp} (x : Ext ι H ι' H') {p : Addr} (k : ∀ o, H p = some o → H' p = some o) : ∀ {o : Ob}, ObRep C ι H o p → ObRep C ι' H' o p
  | .lst _, ⟨xs, h, l, r⟩ => ⟨xs, k _ h, l, r.mono x⟩
  | .dct _ _, h => h.elim
  | .ins _ _, h => h.elim
theorem ObRep.tracked {C : RC} {ι : List Addr} {H : Hp} {p : Addr} : ∀ {o : Ob}, ObRep C ι H o p → ∃ u, H p = some u ∧ Mut (some u)
  | .lst _, ⟨xs, h, _⟩ => ⟨_, h, trivial⟩
  | .dct _ _, h => h.elim
  | .ins _ _, h => h.elim
theorem WRel.tracked {C : RC} {ι : List Addr} {H : Hp} {S : Store} (w : WRel C ι H S) {p : Addr} (h : p ∈ ι) : ∃ u, H p = some u ∧ Mut (some u) := by
  obtain ⟨n, hn, e⟩ := List.getElem_of_mem h
  have hs : n < S.length := by rw [w.len]; exact hn
  exact (w.at_ n S[n] p (by simp [hs]) (by rw [← e]; simp [hn])).tracked
theorem WRel.free {C : RC} {ι : List Addr} {H : Hp} {S : Store} (w : WRel C ι H S) {p : Addr} (h : H p = none) : p ∉ ι := fun hp => by
  obtain ⟨u, e, _⟩ := w.tracked hp
  rw [h] at e; cases e
theorem EnvRep.mono {C : RC} {ι ι' : List Addr} {H H' : Hp} (x : Ext ι H ι' H') {ρ : Env} {σ : St} (h : EnvRep C ι H ρ σ) : EnvRep C ι' H' ρ σ :=
  ⟨h.len, fun i d e => let ⟨v, a, b⟩ := h.at_ i d e; ⟨v, a, b.mono x⟩⟩
theorem EnvRep.set {C : RC} {ι : List Addr} {H : Hp} {ρ : Env} {σ : St} (h : EnvRep C ι H ρ σ) {i : Nat} {d : D} {v : V} (r : Rep C ι H d v) : EnvRep C ι H (ρ.set i (some d)) (σ.set i (some v)) := by
  refine ⟨by simp [h.len], fun j d' e => ?_⟩
  by_cases hj : i = j
  · subst hj
    by_cases hl : i < ρ.length
    · rw [List.getElem?_set_self hl] at e
      cases e
      exact ⟨v, by rw [List.getElem?_set_self (by rw [← h.len]; exact hl)], r⟩
    · rw [List.getElem?_eq_none (by simpa using hl)] at e; cases e
  · rw [List.getElem?_set_ne hj] at e
    obtain ⟨x, h1, h2⟩ := h.at_ j d' e
    exact ⟨x, by rw [List.getElem?_set_ne hj]; exact h1, h2⟩
theorem WRel.fr {C : RC} {ι : List Addr} {H : Hp} {S : Store} (w : WRel C ι H S) {p : Addr} (h : H p = none) : Fr C ι p := ⟨w.free h, fun z => by
  obtain ⟨⟨xs, e⟩, _⟩ := w.hid p z
  rw [h] at e; cases e⟩
/-- a new thing that isn't of the store -/
theorem WRel.new {C : RC} {ι : List Addr} {H : Hp} {S : Store} (w : WRel C ι H S) {p : Addr} {o : HO} (h : H p = none) : WRel C ι (upd H p o) S :=
  ⟨w.len, w.nd, fun n ob q e1 e2 => (w.at_ n ob q e1 e2).mono (Ext.new h) (fun u e => by rw [upd_ne (ne_of_none e h)]; exact e), fun q hq => by
    obtain ⟨⟨xs, e⟩, n⟩ := w.hid q hq
    exact ⟨⟨xs, by rw [upd_ne (ne_of_none e h)]; exact e⟩, n⟩⟩
/-- a new thing of the store -/
theorem WRel.push {C : RC} {ι : List Addr} {H : Hp} {S : Store} (w : WRel C ι H S) {p : Addr} {o : HO} {ob : Ob} (h : H p = none) (r : ObRep C (ι ++ [p]) (upd H p o) ob p) : Ext ι H (ι ++ [p]) (upd H p o) ∧ WRel C (ι ++ [p]) (upd H p o) (S ++ [ob]) := by
  have hp := w.free h
  have x : Ext ι H (ι ++ [p]) (upd H p o) := ⟨⟨[p], rfl⟩, fun q u e n => ⟨by rw [upd_ne (ne_of_none e h)]; exact e, by simp only [List.mem_append, List.mem_singleton, not_or]; exact ⟨n, ne_of_none e h⟩⟩,
    fun q xs e => by rw [upd_ne (ne_of_none e h)]; exact e, fun q u w e => by rw [upd_ne (ne_of_none e h)]; exact e⟩
  refine ⟨x, by simp [w.len], ?_, fun n o' q e1 e2 => ?_, fun q hq => ?_⟩
  · rw [List.nodup_append]
    exact ⟨w.nd, by simp, fun a ha b hb e => by simp at hb; subst hb; subst e; exact hp ha⟩
  · by_cases hn : n < S.length
    · rw [List.getElem?_append_left hn] at e1
      rw [List.getElem?_append_left (by rw [← w.len]; exact hn)] at e2
      exact (w.at_ n o' q e1 e2).mono x (fun u e => by rw [upd_ne (ne_of_none e h)]; exact e)
    · have hn' : n = S.length := by
        have := (List.getElem?_eq_some_iff.mp e1).1
        simp at this; omega
      subst hn'
      rw [List.getElem?_append_right (Nat.le_refl _)] at e1
      rw [List.getElem?_append_right (by rw [w.len]; exact Nat.le_refl _)] at e2
      simp at e1
      simp [w.len] at e2
      subst e1; subst e2
      exact r
  · obtain ⟨⟨xs, e⟩, n⟩ := w.hid q hq
    exact ⟨⟨xs, by rw [upd_ne (ne_of_none e h)]; exact e⟩, by simp only [List.mem_append, List.mem_singleton, not_or]; exact ⟨n, ne_of_none e h⟩⟩
/-- a thing of the store is changed -/
theorem WRel.write {C : RC} {ι : List Addr} {H : Hp} {S : Store} (w : WRel C ι H S) {n : Nat} {p : Addr} {o : HO} {ob : Ob} (hn : ι[n]? = some p) (x : Ext ι H ι (upd H p o)) (r : ObRep C ι (upd H p o) ob p) : WRel C ι (upd H p o) (S.set n ob) := by
  refine ⟨by simp [w.len], w.nd, fun m o' q e1 e2 => ?_, fun q hq => by
    obtain ⟨⟨xs, e⟩, k⟩ := w.hid q hq
    exact ⟨⟨xs, by rw [upd_ne (fun z => k (by rw [z]; exact List.mem_of_getElem? hn))]; exact e⟩, k⟩⟩
  by_cases hm : m = n
  · subst hm
    rw [hn] at e2; cases e2
    have hl : m < S.length := by rw [w.len]; exact (List.getElem?_eq_some_iff.mp hn).1
    rw [List.getElem?_set_self hl] at e1
    cases e1
    exact r
  · rw [List.getElem?_set_ne (fun z => hm z.symm)] at e1
    have hqp : q ≠ p := fun z => by
      subst z
      exact hm (nd_ix w.nd e2 hn)
    exact (w.at_ m o' q e1 e2).mono x fun u e => by rw [upd_ne hqp]; exact e
theorem Ext.write {C : RC} {ι : List Addr} {H : Hp} {S : Store} (w : WRel C ι H S) {p : Addr} {o : HO} (hp : p ∈ ι) : Ext ι H ι (upd H p o) := by
  obtain ⟨u, e, m⟩ := w.tracked hp
  refine ⟨⟨[], by simp⟩, fun q v e' n => ⟨by rw [upd_ne (fun z => n (by rw [z]; exact hp))]; exact e', n⟩, fun q xs e' => ?_, fun q o' v e' => ?_⟩
  · rw [upd_ne]; exact e'
    intro z; subst z; rw [e] at e'; cases e'; exact m
  · rw [upd_ne]; exact e'
    intro z; subst z; rw [e] at e'; cases e'; exact m
/-! ### a list that is being made -/
def RC.hide (C : RC) (p : Addr) : RC := { C with hid := p :: C.hid }
theorem RowRep.at {ι : List Addr} {H H' : Hp} {d : Option Addr} (k : ∀ dd fs, H dd = some (.xd fs) → H' dd = some (.xd fs)) : ∀ {r : List D}, RowRep ι H d r → RowRep ι H' d r
  | [], _ => trivial
  | [_], ⟨dd, fs, y, e, n, h, l, s⟩ => ⟨dd, fs, y, e, n, k _ _ h, l, s⟩
mutual
theorem Rep.unhide {C : RC} {ι : List Addr} {H : Hp} {q : Addr} : ∀ (d : D) (v : V), Rep (C.hide q) ι H d v → Rep C ι H d v
  | .non, _, h => h
  | .bl _, _, h => h
  | .int _, _, h => h
  | .str _, _, h => h
  | .tup ds, _, ⟨p, xs, e, h, l, r⟩ => ⟨p, xs, e, h, l, Reps.unhide ds xs r⟩
  | .lst ds, _, ⟨p, xs, e, n, h, l, r⟩ => ⟨p, xs, e, ⟨n.1, fun z => n.2 (List.mem_cons_of_mem _ z)⟩, h, l, Reps.unhide ds xs r⟩
  | .fz ds, _, ⟨p, xs, e, h, l, r⟩ => ⟨p, xs, e, h, l, Reps.unhide ds xs r⟩
  | .dct _ _, _, ⟨p, e, n, h, k⟩ => ⟨p, e, ⟨n.1, fun z => n.2 (List.mem_cons_of_mem _ z)⟩, h, k⟩
  | .ref _, _, h => h
  | .exn _ _, _, h => h
theorem Reps.unhide {C : RC} {ι : List Addr} {H : Hp} {q : Addr} : ∀ (ds : List D) (vs : List V), Reps (C.hide q) ι H ds vs → Reps C ι H ds vs
  | [], _, h => h
  | d :: ds, _, ⟨v, r, e, h1, h2⟩ => ⟨v, r, e, Rep.unhide d v h1, Reps.unhide ds r h2⟩
end
mutual
/-- what stood ahead of the new list stands with it hidden -/
theorem Rep.hidden {C : RC} {ι : List Addr} {H : Hp} {q : Addr} (hq : H q = none) : ∀ (d : D) (v : V), Rep C ι H d v → Rep (C.hide q) ι H d v
  | .non, _, h => h
  | .bl _, _, h => h
  | .int _, _, h => h
  | .str _, _, h => h
  | .tup ds, _, ⟨p, xs, e, h, l, r⟩ => ⟨p, xs, e, h, l, Reps.hidden hq ds xs r⟩
  | .lst ds, _, ⟨p, xs, e, n, h, l, r⟩ => ⟨p, xs, e, ⟨n.1, fun z => (List.mem_cons.mp z).elim (ne_of_none h hq) n.2⟩, h, l, Reps.hidden hq ds xs r⟩
  | .fz ds, _, ⟨p, xs, e, h, l, r⟩ => ⟨p, xs, e, h, l, Reps.hidden hq ds xs r⟩
  | .dct _ _, _, ⟨p, e, n, h, k⟩ => ⟨p, e, ⟨n.1, fun z => (List.mem_cons.mp z).elim (ne_of_none h hq) n.2⟩, h, k⟩
  | .ref _, _, h => h
  | .exn _ _, _, h => h
theorem Reps.hidden {C : RC} {ι : List Addr} {H : Hp} {q : Addr} (hq : H q = none) : ∀ (ds : List D) (vs : List V), Reps C ι H ds vs → Reps (C.hide q) ι H ds vs
  | [], _, h => h
  | d :: ds, _, ⟨v, r, e, h1, h2⟩ => ⟨v, r, e, Rep.hidden hq d v h1, Reps.hidden hq ds r h2⟩
end
section
variable {C : RC} {ι : List Addr} {H : Hp} {q : Addr} {ys zs : List V}
theorem upd_keep {o : HO} {p : Addr} {u : HO} (hq : H q = some (.lst ys)) (h : H p = some o) (d : o ≠ .lst ys) : upd H q u p = some o := by
  rw [upd_ne (ne_of h hq d)]; exact h
theorem seqT_upd {K : PySem.W.Frag} {p : Addr} {xs : List V} {u : HO} (hq : H q = some (.lst ys)) (h : SqT K H p xs) : SqT K (upd H q u) p xs := by
  rcases h with (h | ⟨o, h⟩) | h
  · exact .inl (.inl (upd_keep hq h (fun z => nomatch z)))
  · exact .inl (.inr ⟨o, upd_keep hq h (fun z => nomatch z)⟩)
  · exact .inr h
theorem seqF_upd {K : PySem.W.Frag} {p : Addr} {xs : List V} {u : HO} (hq : H q = some (.lst ys)) (h : SqF K H p xs) : SqF K (upd H q u) p xs := by
  rcases h with ⟨o, h⟩ | h
  · exact .inl ⟨o, upd_keep hq h (fun z => nomatch z)⟩
  · exact .inr h
mutual
/-- .. and is not touched by what is done to that list -/
theorem Rep.upd {u : HO} (hq : H q = some (.lst ys)) (hm : q ∈ C.hid) : ∀ (d : D) (v : V), Rep C ι H d v → Rep C ι (upd H q u) d v
  | .non, _, h => h
  | .bl _, _, h => h
  | .int _, _, h => h
  | .str _, _, h => h
  | .tup ds, _, ⟨p, xs, e, h, l, r⟩ => ⟨p, xs, e, seqT_upd hq h, l, Reps.upd hq hm ds xs r⟩
  | .lst ds, _, ⟨p, xs, e, n, h, l, r⟩ => ⟨p, xs, e, n, by rw [upd_ne (a := q) (b := p) (fun z => n.2 (by rw [z]; exact hm))]; exact h, l, Reps.upd hq hm ds xs r⟩
  | .fz ds, _, ⟨p, xs, e, h, l, r⟩ => ⟨p, xs, e, seqF_upd hq h, l, Reps.upd hq hm ds xs r⟩
  | .dct _ _, _, ⟨p, e, n, h, k⟩ => ⟨p, e, n, by rw [upd_ne (a := q) (b := p) (fun z => n.2 (by rw [z]; exact hm))]; exact h, k⟩
  | .ref _, _, h => h
  | .exn _ _, _, ⟨a, oe, d, Ca, e, h1, h2, h3, h4, h5⟩ => ⟨a, oe, d, Ca, e, h1, h2, h3, h4, h5.at fun _ _ z => upd_keep hq z (fun z => nomatch z)⟩
theorem Reps.upd {u : HO} (hq : H q = some (.lst ys)) (hm : q ∈ C.hid) : ∀ (ds : List D) (vs : List V), Reps C ι H ds vs → Reps C ι (upd H q u) ds vs
  | [], _, h => h
  | d :: ds, _, ⟨v, r, e, h1, h2⟩ => ⟨v, r, e, Rep.upd hq hm d v h1, Reps.upd hq hm ds r h2⟩
end
theorem WRel.unhide {S : Store} (w : WRel (C.hide q) ι H S) : WRel C ι H S :=
  ⟨w.len, w.nd, fun n o p h1 h2 => by
    have := w.at_ n o p h1 h2
    cases o with
    | lst ds => obtain ⟨xs, e, l, r⟩ := this; exact ⟨xs, e, l, r.unhide⟩
    | dct ks vs => exact this
    | ins c fs => exact this, fun p hp => w.hid p (List.mem_cons_of_mem _ hp)⟩
theorem WRel.hidden {S : Store} (w : WRel C ι H S) (hq : H q = none) : WRel (C.hide q) ι (L2.upd H q (.lst [])) S := by
  have w1 := w.new (o := .lst []) hq
  refine ⟨w1.len, w1.nd, fun n o p h1 h2 => ?_, fun p hp => ?_⟩
  · have := w.at_ n o p h1 h2
    cases o with
    | lst ds =>
      obtain ⟨xs, e, l, r⟩ := this
      exact ⟨xs, by rw [upd_ne (ne_of_none e hq)]; exact e, l, Reps.mono (Ext.new hq) ds xs (Reps.hidden hq ds xs r)⟩
    | dct ks vs => exact this
    | ins c fs => exact this
  · rcases List.mem_cons.mp hp with rfl | hp
    · exact ⟨⟨[], upd_same⟩, w.free hq⟩
    · exact w1.hid p hp
theorem WRel.upd {S : Store} (w : WRel (C.hide q) ι H S) : WRel (C.hide q) ι (L2.upd H q (.lst zs)) S := by
  obtain ⟨⟨ys, hq⟩, hn⟩ := w.hid q List.mem_cons_self
  refine ⟨w.len, w.nd, fun n o p h1 h2 => ?_, fun p hp => ?_⟩
  · have := w.at_ n o p h1 h2
    cases o with
    | lst ds =>
      obtain ⟨xs, e, l, r⟩ := this
      exact ⟨xs, by rw [upd_ne (a := q) (b := p) (fun z => hn (by rw [← z]; exact List.mem_of_getElem? h2))]; exact e, l, Reps.upd hq List.mem_cons_self ds xs r⟩
    | dct ks vs => exact this
    | ins c fs => exact this
  · obtain ⟨⟨xs, e⟩, k⟩ := w.hid p hp
    by_cases hpq : p = q
    · subst hpq; exact ⟨⟨zs, upd_same⟩, k⟩
    · exact ⟨⟨xs, by rw [upd_ne hpq]; exact e⟩, k⟩
end
end Ev

set_option Elab.async false
set_option linter.all false
set_option maxRecDepth 100000
set_option maxHeartbeats 2000000
/-! Readings of the evaluator's words; operators. -/
namespace Ev
open PySem PySem.Spec L2
open PyProof.Rows hiding St

/-! ### readings -/
def Fin {α β : Type} (C : RC) (W : L2.WX) (σ : St) (R : List Addr → Hp → α → β → Prop) (ι : List Addr) (H : Hp) (o : Out α) (Q : β → Hp → Prop) : Prop := match o with
  | some (.ok a S') => ∀ ι' H' x, Ext ι H ι' H' → WRel C ι' H' S' → R ι' H' a x → Q x H'
  | some (.exc c r S') => ∀ ι' H' d Ca, Ext ι H ι' H' → WRel C ι' H' S' → C.cls c = some Ca → RowRep ι' H' d r → W (.ref Ca) d σ H'
  | none => False
section
variable {α β γ δ : Type} {C : RC} {W : L2.WX} {σ : St} {R : List Addr → Hp → α → β → Prop} {R' : List Addr → Hp → γ → δ → Prop} {ι ι' : List Addr} {H H' : Hp} {o : Out α} {S : Store}
theorem Fin.shift {Q : β → Hp → Prop} (x : Ext ι H ι' H') (h : Fin C W σ R ι H o Q) : Fin C W σ R ι' H' o Q := by
  cases o with
  | none => exact h
  | some r =>
    cases r with
    | ok a S => exact fun ι2 H2 y x2 w r => h ι2 H2 y (x.trans x2) w r
    | exc c r S => exact fun ι2 H2 d Ca x2 w e r => h ι2 H2 d Ca (x.trans x2) w e r
theorem Fin.ok {Q : β → Hp → Prop} {a : α} {y : β} (h : Fin C W σ R ι H (some (.ok a S)) Q) (w : WRel C ι H S) (r : R ι H a y) : Q y H := h ι H y Ext.refl w r
theorem Fin.bnd {Q : δ → Hp → Prop} {K : β → Hp → Prop} {g : α → Store → Out γ} (h : Fin C W σ R' ι H (bnd o g) Q)
    (k : ∀ ι1 H1 S1 a x, Ext ι H ι1 H1 → WRel C ι1 H1 S1 → R ι1 H1 a x → Fin C W σ R' ι1 H1 (g a S1) Q → K x H1) : Fin C W σ R ι H o K := by
  cases o with
  | none => exact h
  | some r =>
    cases r with
    | ok a S => exact fun ι2 H2 y x2 w r => k ι2 H2 S a y x2 w r (Fin.shift x2 h)
    | exc c r S => exact h
end
/-- a reading: some data stand so, and what the evaluator tells meets the wish -/
def tG {α β : Type} (C : RC) (W : L2.WX) (R : List Addr → Hp → α → β → Prop) (f : Env → Store → Out α) : St → Hp → (β → Hp → Prop) → Prop := fun σ H Q =>
  ∃ ι S ρ, WRel C ι H S ∧ EnvRep C ι H ρ σ ∧ Fin C W σ R ι H (f ρ S) Q
abbrev tE (C : RC) (W : L2.WX) (f : Env → Store → Out D) : TE := tG C W (Rep C) f
abbrev tL (C : RC) (W : L2.WX) (f : Env → Store → Out (List D)) : TA := tG C W (Reps C) f
abbrev RB : List Addr → Hp → Bool → Bool → Prop := fun _ _ a b => a = b
abbrev tT (C : RC) (W : L2.WX) (f : Env → Store → Out Bool) : TT := tG C W RB f

theorem _root_.L2.PE.imp {X : Cx} {e : Expr} {t t' : TE} (h : PE X e t) (k : ∀ σ H Q, t' σ H Q → t σ H Q) : PE X e t' := ⟨fun pins s σ H Q I q => h.run pins s σ H Q I (k σ H Q q)⟩
theorem _root_.L2.PT.imp {X : Cx} {e : Expr} {t t' : TT} (h : PT X e t) (k : ∀ σ H Q, t' σ H Q → t σ H Q) : PT X e t' := ⟨fun pins s σ H Q I q => h.run pins s σ H Q I (k σ H Q q)⟩
theorem _root_.L2.PW.imp {X : Cx} {e : Expr} {t t' : TT} (h : PW X e t) (k : ∀ σ H Q, t' σ H Q → t σ H Q) : PW X e t' := ⟨fun u pins s σ H Q I q => h.run u pins s σ H Q I (k σ H Q q)⟩
theorem _root_.L2.PA.imp {X : Cx} {e : List Expr} {t t' : TA} (h : PA X e t) (k : ∀ σ H Q, t' σ H Q → t σ H Q) : PA X e t' := ⟨fun pos pins s σ H Q I q => h.run pos pins s σ H Q I (k σ H Q q)⟩
theorem _root_.L2.PS.imp {X : Cx} {e : Stmt} {t t' : TS} (h : PS X e t) (k : ∀ D σ H, t' D σ H → t D σ H) : PS X e t' := ⟨fun pins s σ H D I q => h.run pins s σ H D I (k D σ H q)⟩
theorem _root_.L2.PSs.imp {X : Cx} {e : List Stmt} {t t' : TS} (h : PSs X e t) (k : ∀ D σ H, t' D σ H → t D σ H) : PSs X e t' := ⟨fun pins s σ H D I q => h.run pins s σ H D I (k D σ H q)⟩

section
variable {α β γ δ : Type} {C : RC} {W : L2.WX} {σ : St} {H : Hp}
/-- one step, then the rest -/
theorem step1 {α β γ δ : Type} {R : List Addr → Hp → α → β → Prop} {R' : List Addr → Hp → γ → δ → Prop} {f : Env → Store → Out α} {g : Env → α → Store → Out γ} {Q : δ → Hp → Prop} {K : β → Hp → Prop} (h : tG C W R' (fun ρ S => bnd (f ρ S) (g ρ)) σ H Q)
    (k : ∀ ι H S ρ a x, WRel C ι H S → EnvRep C ι H ρ σ → R ι H a x → Fin C W σ R' ι H (g ρ a S) Q → K x H) : tG C W R f σ H K := by
  obtain ⟨ι, S, ρ, w, e, h⟩ := h
  exact ⟨ι, S, ρ, w, e, h.bnd fun ι1 H1 S1 a x x1 w1 r1 h1 => k ι1 H1 S1 ρ a x w1 (e.mono x1) r1 h1⟩
/-- two steps, then the rest -/
theorem step2 {α β γ δ ε ζ : Type} {R : List Addr → Hp → α → β → Prop} {Rm : ∀ {ι ι' H H' a x}, Ext ι H ι' H' → R ι H a x → R ι' H' a x} {R1 : List Addr → Hp → ε → ζ → Prop} {R' : List Addr → Hp → γ → δ → Prop}
    {f : Env → Store → Out α} {f1 : Env → Store → Out ε} {g : Env → α → ε → Store → Out γ} {Q : δ → Hp → Prop} {K : β → ζ → Hp → Prop}
    (h : tG C W R' (fun ρ S => bnd (f ρ S) fun a S => bnd (f1 ρ S) fun b S => g ρ a b S) σ H Q)
    (k : ∀ ι H S ρ a b x y, WRel C ι H S → EnvRep C ι H ρ σ → R ι H a x → R1 ι H b y → Fin C W σ R' ι H (g ρ a b S) Q → K x y H) : tG C W R f σ H fun x H1 => tG C W R1 f1 σ H1 fun y H2 => K x y H2 :=
  step1 h fun ι1 H1 S1 ρ a x w1 e1 r1 h1 => ⟨ι1, S1, ρ, w1, e1, h1.bnd fun ι2 H2 S2 b y x2 w2 r2 h2 => k ι2 H2 S2 ρ a b x y w2 (e1.mono x2) (Rm x2 r1) r2 h2⟩
end

/-! ### what is read -/
def RepV (C : RC) (ι : List Addr) (H : Hp) : D → V → Prop
  | .lst ds, v => ∃ p xs, v = .ref p ∧ SqL C.K H p xs ∧ ds.length ≤ lim ∧ Reps C ι H ds xs
  | d, v => Rep C ι H d v
theorem view_rep {C : RC} {ι : List Addr} {H : Hp} {S : Store} (w : WRel C ι H S) : ∀ {d : D} {v : V}, Rep C ι H d v → RepV C ι H (view S d) v
  | .non, _, h => h
  | .bl _, _, h => h
  | .int _, _, h => h
  | .str _, _, h => h
  | .tup _, _, h => h
  | .lst _, _, ⟨p, xs, e, _, h, l, r⟩ => ⟨p, xs, e, .inl (.inl h), l, r⟩
  | .fz _, _, ⟨p, xs, e, h, l, r⟩ => ⟨p, xs, e, h.seq, l, r⟩
  | .dct _ _, _, h => h
  | .exn _ _, _, h => h
  | .ref n, v, ⟨p, h, e⟩ => by
    have hl : n < S.length := by rw [w.len]; exact (List.getElem?_eq_some_iff.mp h).1
    have hs : S[n]? = some S[n] := by simp [hl]
    have o := w.at_ n S[n] p hs h
    show RepV C ι H (match S[n]? with | some (Ob.lst xs) => D.lst xs | some (Ob.dct ks vs) => D.dct ks vs | _ => D.ref n) v
    rw [hs]
    cases q : S[n] with
    | lst ds =>
      rw [q] at o
      obtain ⟨xs, h1, l, r⟩ := o
      exact ⟨p, xs, e, .inl (.inl h1), l, r⟩
    | dct ks vs => rw [q] at o; exact o.elim
    | ins c fs => rw [q] at o; exact o.elim
theorem Rep.get_str {C : RC} {ι : List Addr} {H : Hp} {x : List Nat} {v : V} (h : Rep C ι H (.str x) v) : v = .str (toS x) ∧ x.length ≤ lim := h

theorem Reps.nil_of {C : RC} {ι : List Addr} {H : Hp} {ds : List D} {vs : List V} (h : Reps C ι H ds vs) (e : vs = []) : ds = [] := by
  cases ds with
  | nil => rfl
  | cons d ds => obtain ⟨_, _, z, _⟩ := h; rw [e] at z; cases z
theorem toS_append (a b : List Nat) : toS a ++ toS b = toS (a ++ b) := by
  apply TL.ext_tl
  rw [TL.tl_append]
  rfl
theorem lim_eq : lim = sizeLine := by decide

/-! ### arithmetic -/
/-- what an operator's rule asks: the data of both, and the evaluator's word -/
def rOp (C : RC) (W : L2.WX) (f : D → D → Store → Out D) : R2 := fun x y H Q => ∃ ι S a b σ, WRel C ι H S ∧ Rep C ι H a x ∧ Rep C ι H b y ∧ Fin C W σ (Rep C) ι H (f a b S) Q
section
variable {X : Cx} {C : RC} {W : L2.WX}
theorem wide_mul_ok {a b : Int} (h : mulOk a b = true) : CMulW a b := of_decide_eq_true (p := a.natAbs.log2 + b.natAbs.log2 < 1000000) h
theorem wide_div_ok {b : Int} (h : divOk b = true) (a : Int) : CDivW a b := by
  unfold divOk at h
  rw [Bool.and_eq_true] at h
  exact ⟨of_decide_eq_true h.1, of_decide_eq_true h.2⟩
theorem pow_ok {a b : Int} (h : powOk a b = true) : CPow a b := by
  unfold powOk at h
  rw [Bool.and_eq_true, Bool.and_eq_true] at h
  exact ⟨of_decide_eq_true h.1.1, of_decide_eq_true h.1.2, of_decide_eq_true h.2⟩

theorem opr_sub : OpR X (binaryOp .Sub) (rOp C W (bin .sub)) := by
  intro pins s σ H x y v u Q I rx ry ⟨ι, S, a, b, σ', w, ra, rb, h⟩
  cases a <;> cases b <;> first | exact h.elim | skip
  obtain rfl := ra
  obtain rfl := rb
  exact op_sub pins s σ H _ _ v u Q I rx ry ⟨_, _, rfl, rfl, h.ok w rfl⟩
theorem opr_mod : OpR X (binaryOp .Mod) (rOp C W (bin .mod)) := by
  intro pins s σ H x y v u Q I rx ry ⟨ι, S, a, b, σ', w, ra, rb, h⟩
  cases a <;> cases b <;> first | exact h.elim | skip
  obtain rfl := ra
  obtain rfl := rb
  dsimp only [bin] at h
  split at h
  · rename_i hc
    exact op_mod pins s σ H _ _ v u Q I rx ry ⟨_, _, rfl, rfl, hc, h.ok w rfl⟩
  · exact h.elim
theorem opr_fdiv : OpR X (binaryOp .FloorDiv) (rOp C W (bin .fdiv)) := by
  intro pins s σ H x y v u Q I rx ry ⟨ι, S, a, b, σ', w, ra, rb, h⟩
  cases a <;> cases b <;> first | exact h.elim | skip
  obtain rfl := ra
  obtain rfl := rb
  dsimp only [bin] at h
  split at h
  · rename_i hc
    exact op_fdivW pins s σ H _ _ v u Q I rx ry ⟨_, _, rfl, rfl, wide_div_ok hc _, h.ok w rfl⟩
  · exact h.elim
theorem opr_pow : OpR X (binaryOp .Pow) (rOp C W (bin .pow)) := by
  intro pins s σ H x y v u Q I rx ry ⟨ι, S, a, b, σ', w, ra, rb, h⟩
  cases a <;> cases b <;> first | exact h.elim | skip
  obtain rfl := ra
  obtain rfl := rb
  dsimp only [bin] at h
  split at h
  · rename_i hc
    exact op_pow pins s σ H _ _ v u Q I rx ry ⟨_, _, rfl, rfl, pow_ok hc, h.ok w rfl⟩
  · exact h.elim
/-- a new frozen list, a new tuple -/
theorem Fin.newL {Q : VK} {σ : St} {ι : List Addr} {H : Hp} {S : Store} {ds : List D} {xs : List V} (h : Fin C W σ (Rep C) ι H (some (.ok (.lst ds) S)) Q) (w : WRel C ι H S) (r : Reps C ι H ds xs) (l : ds.length ≤ lim) :
    ∀ p, H p = none → Q (.ref p) (upd H p (.lst xs)) := fun p hp =>
  h ι _ _ (Ext.new hp) (w.new hp) ⟨p, xs, rfl, w.fr hp, upd_same, l, r.mono (Ext.new hp)⟩
theorem Fin.newT {Q : VK} {σ : St} {ι : List Addr} {H : Hp} {S : Store} {ds : List D} {xs : List V} (h : Fin C W σ (Rep C) ι H (some (.ok (.tup ds) S)) Q) (w : WRel C ι H S) (r : Reps C ι H ds xs) (l : ds.length ≤ lim) :
    ∀ p, H p = none → Q (.ref p) (upd H p (.tup xs)) := fun p hp =>
  h ι _ _ (Ext.new hp) (w.new hp) ⟨p, xs, rfl, .inl (.inl upd_same), l, r.mono (Ext.new hp)⟩
theorem opr_add (hC : C.K = X.K) : OpR X (binaryOp .Add) (rOp C W (bin .add)) := by
  intro pins s σ H x y v u Q I rx ry ⟨ι, S, a, b, σ', w, ra, rb, h⟩
  cases a <;> cases b <;> first | exact h.elim | skip
  · obtain rfl := ra
    obtain rfl := rb
    exact op_add pins s σ H _ _ v u Q I rx ry ⟨_, _, rfl, rfl, h.ok w rfl⟩
  · obtain ⟨rfl, la⟩ := ra
    obtain ⟨rfl, lb⟩ := rb
    dsimp only [bin] at h
    split at h
    · rename_i hc
      refine op_add_str pins s σ H _ _ v u Q I rx ry ⟨_, _, rfl, rfl, by rw [toS_len, toS_len, ← lim_eq]; exact hc, ?_⟩
      rw [toS_append]
      exact h.ok w ⟨rfl, by simpa using hc⟩
    · exact h.elim
  · obtain ⟨p, xs, rfl, h1, l1, r1⟩ := ra
    obtain ⟨q, ys, rfl, h2, l2, r2⟩ := rb
    dsimp only [bin] at h
    split at h
    · rename_i hc
      rw [hC] at h1 h2
      refine op_catA pins s σ H _ _ v u Q I rx ry ⟨p, q, xs, ys, rfl, rfl, h1, h2, by rw [← r1.length, ← r2.length, ← lim_eq]; exact hc, fun e => ?_, fun _ e => ?_, fun _ _ => h.newT w (r1.append r2) (by simpa using hc)⟩
      · have e' := r1.nil_of e
        subst e'
        exact h.ok w ⟨q, ys, rfl, by rw [hC]; exact h2, l2, r2⟩
      · have e' := r2.nil_of e
        subst e'
        rw [List.append_nil] at h
        exact h.ok w ⟨p, xs, rfl, by rw [hC]; exact h1, l1, r1⟩
    · exact h.elim
  · obtain ⟨p, xs, rfl, n1, h1, l1, r1⟩ := ra
    obtain ⟨q, ys, rfl, n2, h2, l2, r2⟩ := rb
    dsimp only [bin] at h
    split at h
    · rename_i hc
      exact op_cat pins s σ H _ _ v u Q I rx ry ⟨p, q, xs, ys, rfl, rfl, h1, h2, by rw [← r1.length, ← r2.length, ← lim_eq]; exact hc, h.newL w (r1.append r2) (by simpa using hc)⟩
    · exact h.elim
end
end Ev

set_option Elab.async false
set_option linter.all false
set_option maxRecDepth 100000
set_option maxHeartbeats 2000000
namespace Ev
open PySem PySem.Spec L2
open PyProof.Rows hiding St
/-! ### equality -/
mutual
def toPD : D → PyData
  | .non => .none
  | .bl b => .bool b
  | .int i => .int i
  | .str x => .str (toS x)
  | .tup xs => .tuple (toPDs xs)
  | .lst xs => .list (toPDs xs)
  | _ => .none
def toPDs : List D → List PyData
  | [] => []
  | x :: xs => toPD x :: toPDs xs
end
theorem toS_inj {x y : List Nat} : (toS x == toS y) = (x == y) := by
  by_cases h : x = y
  · subst h; simp
  · have : toS x ≠ toS y := fun e => h (by have := congrArg (fun z : Str => z.cps.toList) e; simpa using this)
    rw [beq_eq_false_iff_ne.mpr this, beq_eq_false_iff_ne.mpr h]
mutual
theorem eqD_pd : ∀ (k k' : Nat) (a b : D), shp k a = true → shp k' b = true → PyData.eqv (toPD a) (toPD b) = eqD a b
  | k, k', a, b, ha, hb => by
    cases a <;> cases b <;> first | (simp only [shp, Bool.false_eq_true] at ha; done) | (simp only [shp, Bool.false_eq_true] at hb; done) | skip
    all_goals first
      | (simp only [toPD, PyData.eqv, eqD]; done)
      | (simp only [toPD, PyData.eqv, eqD]; exact toS_inj)
      | (simp only [toPD, PyData.eqv, eqD]; cases k <;> cases k' <;> first | (simp only [shp, Bool.false_eq_true] at ha; done) | (simp only [shp, Bool.false_eq_true] at hb; done) | exact eqDs_pd _ _ _ _ (by simpa only [shp] using ha) (by simpa only [shp] using hb))
theorem eqDs_pd : ∀ (k k' : Nat) (a b : List D), shps k a = true → shps k' b = true → PyData.eqvAll (toPDs a) (toPDs b) = eqDs a b
  | _, _, [], [], _, _ => by simp only [toPDs, PyData.eqvAll, eqDs]
  | _, _, [], _ :: _, _, _ => by simp only [toPDs, PyData.eqvAll, eqDs]
  | _, _, _ :: _, [], _, _ => by simp only [toPDs, PyData.eqvAll, eqDs]
  | k, k', a :: as, b :: bs, ha, hb => by
    simp only [shps, Bool.and_eq_true] at ha hb
    simp only [toPDs, PyData.eqvAll, eqDs]
    rw [eqD_pd k k' a b ha.1 hb.1, eqDs_pd k k' as bs ha.2 hb.2]
end
mutual
theorem shp_pd : ∀ (k : Nat) (a : D), shp k a = true → (toPD a).canLay0 = true ∧ (toPD a).depth ≤ k
  | _, .non, _ => by simp only [toPD, PyData.canLay0, PyData.depth]; exact ⟨trivial, Nat.zero_le _⟩
  | _, .bl _, _ => by simp only [toPD, PyData.canLay0, PyData.depth]; exact ⟨trivial, Nat.zero_le _⟩
  | _, .int _, _ => by simp only [toPD, PyData.canLay0, PyData.depth]; exact ⟨trivial, Nat.zero_le _⟩
  | _, .str x, ha => by
    simp only [toPD, PyData.canLay0, PyData.depth]
    simp only [shp] at ha
    refine ⟨?_, Nat.zero_le _⟩
    unfold PyData.strOk toS
    simpa using ha
  | 0, .tup _, ha => by simp only [shp, Bool.false_eq_true] at ha
  | 0, .lst _, ha => by simp only [shp, Bool.false_eq_true] at ha
  | k + 1, .tup xs, ha => by
    have z := shps_pd k xs (by simpa only [shp] using ha)
    simp only [toPD, PyData.canLay0, PyData.depth]
    exact ⟨z.1, Nat.succ_le_succ z.2⟩
  | k + 1, .lst xs, ha => by
    have z := shps_pd k xs (by simpa only [shp] using ha)
    simp only [toPD, PyData.canLay0, PyData.depth]
    exact ⟨z.1, Nat.succ_le_succ z.2⟩
  | _, .fz _, ha => by simp only [shp, Bool.false_eq_true] at ha
  | _, .dct _ _, ha => by simp only [shp, Bool.false_eq_true] at ha
  | _, .ref _, ha => by simp only [shp, Bool.false_eq_true] at ha
  | _, .exn _ _, ha => by simp only [shp, Bool.false_eq_true] at ha
theorem shps_pd : ∀ (k : Nat) (a : List D), shps k a = true → PyData.canLayAll0 (toPDs a) = true ∧ PyData.depthAll (toPDs a) ≤ k
  | _, [], _ => by simp only [toPDs, PyData.canLayAll0, PyData.depthAll]; exact ⟨trivial, Nat.zero_le _⟩
  | k, a :: as, h => by
    simp only [shps, Bool.and_eq_true] at h
    have z := shp_pd k a h.1
    have z' := shps_pd k as h.2
    simp only [toPDs, PyData.canLayAll0, PyData.depthAll, Bool.and_eq_true]
    exact ⟨⟨z.1, z'.1⟩, Nat.max_le.mpr ⟨z.2, z'.2⟩⟩
end
theorem shp_shaped {k : Nat} {a : D} (h : shp k a = true) (hk : k ≤ 64) : SeqAt.shaped (toPD a) = true := by
  have z := shp_pd k a h
  unfold SeqAt.shaped
  rw [z.1, Bool.true_and]
  exact decide_eq_true (Nat.le_trans z.2 hk)
mutual
theorem dp_of {C : RC} {ι : List Addr} {H : Hp} : ∀ (k : Nat) (a : D) (v : V), shp k a = true → RepV C ι H a v → Dp C.K H v (toPD a)
  | _, .non, _, _, h => by cases (show _ = V.non from h); simp only [toPD]; exact .non
  | _, .bl b, _, _, h => by cases (show _ = V.bl b from h); simp only [toPD]; exact .bl b
  | _, .int b, _, _, h => by cases (show _ = V.int b from h); simp only [toPD]; exact .int b
  | _, .str x, _, _, h => by
    obtain ⟨h, _⟩ := (show _ = V.str (toS x) ∧ _ from h)
    subst h; simp only [toPD]; exact .str _
  | 0, .tup xs, _, hs, _ => by simp only [shp, Bool.false_eq_true] at hs
  | k + 1, .tup xs, _, hs, h => by
    obtain ⟨p, ys, rfl, h1, _, r⟩ := (show ∃ p xs', _ = V.ref p ∧ SqT C.K H p xs' ∧ _ ∧ Reps C ι H xs xs' from h)
    simp only [toPD]
    exact .tup h1 (dps_of k xs ys (by simpa only [shp] using hs) r)
  | 0, .lst xs, _, hs, _ => by simp only [shp, Bool.false_eq_true] at hs
  | k + 1, .lst xs, _, hs, h => by
    obtain ⟨p, ys, rfl, h1, _, r⟩ := (show ∃ p xs', _ = V.ref p ∧ SqL C.K H p xs' ∧ _ ∧ Reps C ι H xs xs' from h)
    simp only [toPD]
    exact .lst h1 (dps_of k xs ys (by simpa only [shp] using hs) r)
  | _, .fz _, _, hs, _ => by simp only [shp, Bool.false_eq_true] at hs
  | _, .dct _ _, _, hs, _ => by simp only [shp, Bool.false_eq_true] at hs
  | _, .ref _, _, hs, _ => by simp only [shp, Bool.false_eq_true] at hs
  | _, .exn _ _, _, hs, _ => by simp only [shp, Bool.false_eq_true] at hs
theorem dps_of {C : RC} {ι : List Addr} {H : Hp} : ∀ (k : Nat) (a : List D) (vs : List V), shps k a = true → Reps C ι H a vs → DpAll C.K H vs (toPDs a)
  | _, [], _, _, h => by cases h; simp only [toPDs]; exact .nil
  | k, a :: as, _, hs, ⟨v, r, e, h1, h2⟩ => by
    subst e
    simp only [shps, Bool.and_eq_true] at hs
    simp only [toPDs]
    refine .cons (dp_of (ι := ι) k a v hs.1 ?_) (dps_of k as r hs.2 h2)
    cases a <;> first | exact h1 | skip
    obtain ⟨p, xs, e, _, h, l, q⟩ := h1
    exact ⟨p, xs, e, .inl (.inl h), l, q⟩
end
end Ev

set_option Elab.async false
set_option linter.all false
set_option maxRecDepth 100000
set_option maxHeartbeats 2000000
namespace Ev
open PySem PySem.Spec L2
open PyProof.Rows hiding St
/-! ### comparisons -/
def opOf : COp → CmpOp
  | .eq => .Eq
  | .ne => .NotEq
  | .lt => .Lt
  | .le => .LtE
  | .gt => .Gt
  | .ge => .GtE
  | .isN => .Is
  | .notN => .IsNot
  | .isin => .In
  | .notin => .NotIn
def rCmp (C : RC) (o : COp) : R2 := fun x y H Q => ∃ ι S a b k, WRel C ι H S ∧ Rep C ι H a x ∧ Rep C ι H b y ∧ cmp o (view S a) (view S b) = some k ∧ Q (.bl k) H
section
variable {X : Cx} {C : RC}
theorem RepV.non {ι : List Addr} {H : Hp} {v : V} : ∀ {d : D}, RepV C ι H d v → (v = .non ↔ d = .non)
  | .non, h => by cases (show v = V.non from h); simp
  | .bl b, h => by cases (show v = V.bl b from h); simp
  | .int b, h => by cases (show v = V.int b from h); simp
  | .str x, h => by obtain ⟨h, _⟩ := (show v = V.str (toS x) ∧ _ from h); subst h; simp
  | .tup xs, h => by obtain ⟨p, _, rfl, _⟩ := (show ∃ p xs', v = V.ref p ∧ _ from h); simp
  | .lst xs, h => by obtain ⟨p, _, rfl, _⟩ := (show ∃ p xs', v = V.ref p ∧ _ from h); simp
  | .fz xs, h => by obtain ⟨p, _, rfl, _⟩ := (show ∃ p xs', v = V.ref p ∧ _ from h); simp
  | .dct _ _, h => by obtain ⟨p, rfl, _⟩ := (show ∃ p, v = V.ref p ∧ _ from h); simp
  | .ref _, h => by obtain ⟨p, _, rfl⟩ := (show ∃ p, _ ∧ v = V.ref p from h); simp
  | .exn _ _, h => by obtain ⟨a, oe, d, Ca, rfl, _⟩ := (show ∃ a oe d Ca, v = V.ref a ∧ _ from h); simp
theorem occ_one (c : Nat) (z : List Nat) : True := trivial
theorem opr_cmp (hC : C.K = X.K) (hu : X.A.units + 65 < cLine) : ∀ o : COp, OpR X (compareOp (opOf o)) (rCmp C o)
  | .eq => by
    intro pins s σ H x y v u Q I rx ry ⟨ι, S, a, b, k, w, ra, rb, e, h⟩
    dsimp only [cmp] at e
    split at e
    · rename_i hs
      rw [Bool.and_eq_true] at hs
      cases e
      refine op_eqD (by omega) pins s σ H x y v u Q I rx ry ⟨_, _, hC ▸ dp_of 60 _ x hs.1 (view_rep w ra), hC ▸ dp_of 60 _ y hs.2 (view_rep w rb), shp_shaped hs.1 (by decide), shp_shaped hs.2 (by decide), ?_⟩
      rw [eqD_pd 60 60 _ _ hs.1 hs.2]
      exact h
    · cases e
  | .ne => by
    intro pins s σ H x y v u Q I rx ry ⟨ι, S, a, b, k, w, ra, rb, e, h⟩
    dsimp only [cmp] at e
    split at e
    · rename_i hs
      rw [Bool.and_eq_true] at hs
      cases e
      refine op_neD (by omega) pins s σ H x y v u Q I rx ry ⟨_, _, hC ▸ dp_of 60 _ x hs.1 (view_rep w ra), hC ▸ dp_of 60 _ y hs.2 (view_rep w rb), shp_shaped hs.1 (by decide), shp_shaped hs.2 (by decide), ?_⟩
      rw [eqD_pd 60 60 _ _ hs.1 hs.2]
      exact h
    · cases e
  | .lt => by
    intro pins s σ H x y v u Q I rx ry ⟨ι, S, a, b, k, w, ra, rb, e, h⟩
    have va := view_rep w ra
    have vb := view_rep w rb
    generalize view S a = a' at va e
    generalize view S b = b' at vb e
    cases a' <;> cases b' <;> first | (simp only [cmp] at e; cases e; done) | skip
    obtain rfl := va
    obtain rfl := vb
    simp only [cmp, cmpI] at e
    cases e
    exact op_lt pins s σ H _ _ v u Q I rx ry ⟨_, _, rfl, rfl, h⟩
  | .le => by
    intro pins s σ H x y v u Q I rx ry ⟨ι, S, a, b, k, w, ra, rb, e, h⟩
    have va := view_rep w ra
    have vb := view_rep w rb
    generalize view S a = a' at va e
    generalize view S b = b' at vb e
    cases a' <;> cases b' <;> first | (simp only [cmp] at e; cases e; done) | skip
    obtain rfl := va
    obtain rfl := vb
    simp only [cmp, cmpI] at e
    cases e
    exact op_le pins s σ H _ _ v u Q I rx ry ⟨_, _, rfl, rfl, h⟩
  | .gt => by
    intro pins s σ H x y v u Q I rx ry ⟨ι, S, a, b, k, w, ra, rb, e, h⟩
    have va := view_rep w ra
    have vb := view_rep w rb
    generalize view S a = a' at va e
    generalize view S b = b' at vb e
    cases a' <;> cases b' <;> first | (simp only [cmp] at e; cases e; done) | skip
    obtain rfl := va
    obtain rfl := vb
    simp only [cmp, cmpI] at e
    cases e
    exact op_gt pins s σ H _ _ v u Q I rx ry ⟨_, _, rfl, rfl, h⟩
  | .ge => by
    intro pins s σ H x y v u Q I rx ry ⟨ι, S, a, b, k, w, ra, rb, e, h⟩
    have va := view_rep w ra
    have vb := view_rep w rb
    generalize view S a = a' at va e
    generalize view S b = b' at vb e
    cases a' <;> cases b' <;> first | (simp only [cmp] at e; cases e; done) | skip
    obtain rfl := va
    obtain rfl := vb
    simp only [cmp, cmpI] at e
    cases e
    exact op_ge pins s σ H _ _ v u Q I rx ry ⟨_, _, rfl, rfl, h⟩
  | .isN => by
    intro pins s σ H x y v u Q I rx ry ⟨ι, S, a, b, k, w, ra, rb, e, h⟩
    have va := view_rep w ra
    have vb := view_rep w rb
    generalize view S a = a' at va e
    generalize view S b = b' at vb e
    cases b' <;> first | (simp only [cmp] at e; cases e; done) | skip
    obtain rfl := vb
    have hn := va.non
    refine op_isN pins s σ H _ _ v u Q I rx ry ⟨rfl, ?_⟩
    have : k = decide (x = V.non) := by
      simp only [cmp, Option.some.injEq] at e
      subst e
      cases a' <;> simp [hn]
    rw [← this]; exact h
  | .notN => by
    intro pins s σ H x y v u Q I rx ry ⟨ι, S, a, b, k, w, ra, rb, e, h⟩
    have va := view_rep w ra
    have vb := view_rep w rb
    generalize view S a = a' at va e
    generalize view S b = b' at vb e
    cases b' <;> first | (simp only [cmp] at e; cases e; done) | skip
    obtain rfl := vb
    have hn := va.non
    refine op_notN pins s σ H _ _ v u Q I rx ry ⟨rfl, ?_⟩
    have : k = !decide (x = V.non) := by
      simp only [cmp, Option.some.injEq] at e
      subst e
      cases a' <;> simp [hn]
    rw [← this]; exact h
  | .isin => by
    intro pins s σ H x y v u Q I rx ry ⟨ι, S, a, b, k, w, ra, rb, e, h⟩
    have va := view_rep w ra
    have vb := view_rep w rb
    generalize view S a = a' at va e
    generalize view S b = b' at vb e
    have any_eq : ∀ (n : Nat) (zs : List D), shps n zs = true → shp 60 a' = true → ((toPDs zs).any fun z => PyData.eqv z (toPD a')) = zs.any fun z => eqD z a' := fun n zs h1 h2 => by
      induction zs with
      | nil => rfl
      | cons z zs ih =>
        simp only [shps, Bool.and_eq_true] at h1
        simp only [toPDs, List.any_cons]
        rw [eqD_pd n 60 z a' h1.1 h2, ih h1.2]
    have seqCase : ∀ ys : List D, b' = .lst ys ∨ b' = .tup ys → (shp 60 a' && shps 60 ys) = true → k = (ys.any fun z => eqD z a') → wpAny (model X.prog X.w) X.A (compareOp .In v u) (L2.EP X pins σ Q) X.xe s := fun ys hb hs hk => by
      rw [Bool.and_eq_true] at hs
      obtain ⟨as, r1⟩ := Dp.reads I _ x v (hC ▸ dp_of 60 a' x hs.1 va) rx
      have s1 := shp_shaped hs.1 (by decide)
      have s2 := shps_pd 60 ys hs.2
      have hroom : X.A.units + 1 + min (PyData.depthAll (toPDs ys)) (toPD a').depth < cLine := by
        have h1 := SeqAt.depth_of_shaped s1
        have h2 : min (PyData.depthAll (toPDs ys)) (toPD a').depth ≤ (toPD a').depth := Nat.min_le_right _ _
        omega
      have fin : Q (.bl ((toPDs ys).any fun z => PyData.eqv z (toPD a'))) H := by rw [any_eq 60 ys hs.2 hs.1, ← hk]; exact h
      rcases hb with rfl | rfl
      · obtain ⟨p, xs, rfl, h1, _, r⟩ := (show ∃ p xs', y = V.ref p ∧ SqL C.K H p xs' ∧ _ ∧ Reps C ι H ys xs' from vb)
        obtain ⟨bs, r2⟩ := Dp.reads I (.list (toPDs ys)) _ u (hC ▸ Dp.lst h1 (dps_of 60 ys xs hs.2 r)) ry
        exact SeqAt.in_list_reads r2 r1 s2.1 (SeqAt.canLay_of_shaped s1) hroom ⟨.bl _, H, I, rfl, fin⟩
      · obtain ⟨p, xs, rfl, h1, _, r⟩ := (show ∃ p xs', y = V.ref p ∧ SqT C.K H p xs' ∧ _ ∧ Reps C ι H ys xs' from vb)
        obtain ⟨bs, r2⟩ := Dp.reads I (.tuple (toPDs ys)) _ u (hC ▸ Dp.tup h1 (dps_of 60 ys xs hs.2 r)) ry
        exact SeqAt.in_tuple_reads r2 r1 s2.1 (SeqAt.canLay_of_shaped s1) hroom ⟨.bl _, H, I, rfl, fin⟩
    dsimp only [cmp] at e
    split at e
    · rename_i c z
      obtain ⟨rfl, _⟩ := va
      obtain ⟨rfl, _⟩ := vb
      cases e
      exact op_in_sign pins s σ H _ _ v u Q I rx ry ⟨c, toS z, rfl, rfl, h⟩
    · split at e
      · cases e; exact seqCase _ (.inl rfl) (by assumption) rfl
      · cases e
    · split at e
      · cases e; exact seqCase _ (.inr rfl) (by assumption) rfl
      · cases e
    · cases e
  | .notin => by
    intro pins s σ H x y v u Q I rx ry ⟨ι, S, a, b, k, w, ra, rb, e, h⟩
    have va := view_rep w ra
    have vb := view_rep w rb
    generalize view S a = a' at va e
    generalize view S b = b' at vb e
    have any_eq : ∀ (n : Nat) (zs : List D), shps n zs = true → shp 60 a' = true → ((toPDs zs).any fun z => PyData.eqv z (toPD a')) = zs.any fun z => eqD z a' := fun n zs h1 h2 => by
      induction zs with
      | nil => rfl
      | cons z zs ih =>
        simp only [shps, Bool.and_eq_true] at h1
        simp only [toPDs, List.any_cons]
        rw [eqD_pd n 60 z a' h1.1 h2, ih h1.2]
    have seqCase : ∀ ys : List D, b' = .lst ys ∨ b' = .tup ys → (shp 60 a' && shps 60 ys) = true → k = (!ys.any fun z => eqD z a') → wpAny (model X.prog X.w) X.A (compareOp .NotIn v u) (L2.EP X pins σ Q) X.xe s := fun ys hb hs hk => by
      rw [Bool.and_eq_true] at hs
      obtain ⟨as, r1⟩ := Dp.reads I _ x v (hC ▸ dp_of 60 a' x hs.1 va) rx
      have s1 := shp_shaped hs.1 (by decide)
      have s2 := shps_pd 60 ys hs.2
      have hroom : X.A.units + 1 + min (PyData.depthAll (toPDs ys)) (toPD a').depth < cLine := by
        have h1 := SeqAt.depth_of_shaped s1
        have h2 : min (PyData.depthAll (toPDs ys)) (toPD a').depth ≤ (toPD a').depth := Nat.min_le_right _ _
        omega
      have fin : Q (.bl (!(toPDs ys).any fun z => PyData.eqv z (toPD a'))) H := by rw [any_eq 60 ys hs.2 hs.1, ← hk]; exact h
      rcases hb with rfl | rfl
      · obtain ⟨p, xs, rfl, h1, _, r⟩ := (show ∃ p xs', y = V.ref p ∧ SqL C.K H p xs' ∧ _ ∧ Reps C ι H ys xs' from vb)
        obtain ⟨bs, r2⟩ := Dp.reads I (.list (toPDs ys)) _ u (hC ▸ Dp.lst h1 (dps_of 60 ys xs hs.2 r)) ry
        exact SeqAt.notIn_list_reads r2 r1 s2.1 (SeqAt.canLay_of_shaped s1) hroom ⟨.bl _, H, I, rfl, fin⟩
      · obtain ⟨p, xs, rfl, h1, _, r⟩ := (show ∃ p xs', y = V.ref p ∧ SqT C.K H p xs' ∧ _ ∧ Reps C ι H ys xs' from vb)
        obtain ⟨bs, r2⟩ := Dp.reads I (.tuple (toPDs ys)) _ u (hC ▸ Dp.tup h1 (dps_of 60 ys xs hs.2 r)) ry
        exact SeqAt.notIn_tuple_reads r2 r1 s2.1 (SeqAt.canLay_of_shaped s1) hroom ⟨.bl _, H, I, rfl, fin⟩
    dsimp only [cmp] at e
    split at e
    · rename_i c z
      obtain ⟨rfl, _⟩ := va
      obtain ⟨rfl, _⟩ := vb
      cases e
      exact op_notIn_sign pins s σ H _ _ v u Q I rx ry ⟨c, toS z, rfl, rfl, h⟩
    · split at e
      · cases e; exact seqCase _ (.inl rfl) (by assumption) rfl
      · cases e
    · split at e
      · cases e; exact seqCase _ (.inr rfl) (by assumption) rfl
      · cases e
    · cases e
end
end Ev

set_option Elab.async false
set_option linter.all false
set_option maxRecDepth 100000
set_option maxHeartbeats 2000000
namespace Ev
open PySem PySem.Spec L2
open PyProof.Rows hiding St
section
variable {X : Cx} {C : RC} {W : L2.WX}
/-! ### *, - -/
theorem Reps.rep {ι : List Addr} {H : Hp} {ds : List D} {vs : List V} (h : Reps C ι H ds vs) : ∀ n : Nat, Reps C ι H (List.replicate n ds).flatten (List.replicate n vs).flatten
  | 0 => rfl
  | n + 1 => by
    rw [List.replicate_succ, List.flatten_cons, List.replicate_succ, List.flatten_cons]
    exact h.append (h.rep n)
theorem len_rep {α : Type} (l : List α) : ∀ n : Nat, (List.replicate n l).flatten.length = n * l.length
  | 0 => by simp
  | n + 1 => by rw [List.replicate_succ, List.flatten_cons, List.length_append, len_rep l n, Nat.succ_mul, Nat.add_comm]
theorem opr_mul (hC : C.K = X.K) : OpR X (binaryOp .Mult) (rOp C W (bin .mul)) := by
  intro pins s σ H x y v u Q I rx ry ⟨ι, S, a, b, σ', w, ra, rb, h⟩
  have lm := lim_eq
  have ls := sizeLine_eq
  cases a <;> cases b <;> first | exact h.elim | skip
  · obtain rfl := ra
    obtain rfl := rb
    dsimp only [bin] at h
    split at h
    · rename_i hc
      exact op_mulW pins s σ H _ _ v u Q I rx ry ⟨_, _, rfl, rfl, wide_mul_ok hc, h.ok w rfl⟩
    · exact h.elim
  · rename_i x k
    obtain ⟨rfl, la⟩ := ra
    obtain rfl := rb
    dsimp only [bin] at h
    obtain ⟨t, rfl⟩ := rx
    obtain ⟨t', rfl⟩ := ry
    split at h
    · rename_i hc
      subst hc
      refine PySem.P.mul_str_none (by decide) (by decide) ⟨.str (toS []), H, I.tok _, ⟨_, rfl⟩, ?_⟩
      exact h.ok w ⟨rfl, Nat.zero_le _⟩
    · split at h
      · rename_i hc
        subst hc
        refine PySem.P.mul_str (by decide) (fun _ z => ?_) (fun _ z => ?_) ?_
        · simp at z
        · simp at z
        · rw [if_neg (by decide), if_pos (by simp)]
          exact ⟨.str (toS x), H, I, ⟨t, rfl⟩, h.ok w ⟨rfl, la⟩⟩
      · exact h.elim
  · rename_i ds k
    obtain ⟨p, xs, rfl, h1, l1, r1⟩ := ra
    obtain rfl := rb
    dsimp only [bin] at h
    split at h
    · rename_i hc
      rw [hC] at h1
      have hl := r1.length
      have hne : xs ≠ [] := fun e => hc.2.2.2 (r1.nil_of e)
      have hb : k.toNat ≤ 1000 := by omega
      exact op_repT pins s σ H _ _ v u Q I rx ry ⟨p, k, xs, rfl, rfl, h1, hne, hc.1, hc.2.1, by omega, h.newT w (r1.rep _) (by
        rw [len_rep]
        have : k.toNat * ds.length ≤ 1000 * 1000 := Nat.mul_le_mul hb hc.2.2.1
        omega)⟩
    · exact h.elim
  · rename_i ds k
    obtain ⟨p, xs, rfl, n1, h1, l1, r1⟩ := ra
    obtain rfl := rb
    dsimp only [bin] at h
    split at h
    · rename_i hc
      have hl := r1.length
      have hb : k.toNat ≤ 1000 := by omega
      have hm : ds.length * k.toNat ≤ 1000 * 1000 := Nat.mul_le_mul hc.2.2 hb
      exact op_rep pins s σ H _ _ v u Q I rx ry ⟨p, k, xs, rfl, rfl, h1, by omega, by omega, by rw [← hl]; omega, h.newL w (r1.rep _) (by
        rw [len_rep, Nat.mul_comm]
        omega)⟩
    · exact h.elim
/-! ### a[i] -/
theorem atI_get2 {α β : Type} {xs : List α} {ys : List β} (hl : xs.length = ys.length) {i : Int} {v : α} (h : atI xs i = some v) : ∃ j, ixN xs.length i = some j ∧ xs[j]? = some v ∧ ∀ y, ys[j]? = some y → atI ys i = some y := by
  unfold atI at h
  cases e : ixN xs.length i with
  | none => rw [e] at h; cases h
  | some j =>
    rw [e] at h
    refine ⟨j, rfl, h, fun y hy => ?_⟩
    unfold atI
    rw [← hl, e]
    exact hy
theorem Reps.atI {ι : List Addr} {H : Hp} {ds : List D} {vs : List V} (h : Reps C ι H ds vs) {i : Int} {d : D} (q : L2.atI ds i = some d) : ∃ v, L2.atI vs i = some v ∧ Rep C ι H d v := by
  obtain ⟨j, _, h2, h3⟩ := atI_get2 h.length q
  obtain ⟨v, h4, h5⟩ := h.get h2
  exact ⟨v, h3 v h4, h5⟩
def rIdx (C : RC) (W : L2.WX) : R2 := fun x y H Q => ∃ ι S a b σ, WRel C ι H S ∧ Rep C ι H a x ∧ Rep C ι H b y ∧ Fin C W σ (Rep C) ι H (idx (view S a) b S) Q
theorem ix_idx (hC : C.K = X.K) : IxR X (rIdx C W) := by
  intro value slice pins s σ H x y v u Q I rx ry ⟨ι, S, a, b, σ', w, ra, rb, h⟩ hs
  have va := view_rep w ra
  generalize view S a = a' at va h
  have lm := lim_eq
  cases a' <;> cases b <;> first | exact h.elim | skip
  all_goals dsimp only [idx] at h
  · obtain ⟨rfl, la⟩ := va
    obtain rfl := rb
    rename_i z i
    cases e : L2.atI z i with
    | none => rw [e] at h; exact h.elim
    | some c =>
      rw [e] at h
      exact ix_seq value slice pins s σ H _ _ v u Q I rx ry (.inr (.inr ⟨toS z, i, c, rfl, rfl, by rw [toS_len, ← lm]; exact la, e, h.ok w ⟨rfl, by show 1 ≤ lim; decide⟩⟩)) hs
  · obtain ⟨p, xs, rfl, h1, l1, r1⟩ := va
    obtain rfl := rb
    rename_i z i
    cases e : L2.atI z i with
    | none => rw [e] at h; exact h.elim
    | some c =>
      rw [e] at h
      obtain ⟨y, h3, h4⟩ := r1.atI e
      exact ix_seq value slice pins s σ H _ _ v u Q I rx ry (.inr (.inl ⟨p, xs, i, y, rfl, rfl, hC ▸ h1, h3, h.ok w h4⟩)) hs
  · obtain ⟨p, xs, rfl, h1, l1, r1⟩ := va
    obtain rfl := rb
    rename_i z i
    cases e : L2.atI z i with
    | none => rw [e] at h; exact h.elim
    | some c =>
      rw [e] at h
      obtain ⟨y, h3, h4⟩ := r1.atI e
      exact ix_seq value slice pins s σ H _ _ v u Q I rx ry (.inl ⟨p, xs, i, y, rfl, rfl, hC ▸ h1, h3, h.ok w h4⟩) hs
/-! ### a[i:j] -/
theorem Reps.cut {ι : List Addr} {H : Hp} {ds : List D} {vs : List V} (h : Reps C ι H ds vs) (lo hi : Option Int) : Reps C ι H (cutL ds lo hi) (cutV vs lo hi) := by
  unfold cutL cutV
  rw [h.length]
  exact (h.drop _).take _
theorem cutL_len {α : Type} (xs : List α) (lo hi : Option Int) : (cutL xs lo hi).length ≤ xs.length := by
  unfold cutL
  rw [List.length_take, List.length_drop]
  omega
def rSlc (C : RC) (W : L2.WX) : V → Option Int → Option Int → Hp → VK → Prop := fun x lo hi H Q => ∃ ι S a σ, WRel C ι H S ∧ Rep C ι H a x ∧ Fin C W σ (Rep C) ι H (slc (view S a) lo hi S) Q
theorem sl_slc (hC : C.K = X.K) : SlR X (rSlc C W) := by
  intro pins s σ H x v vl vu lo hi sl Q I rx hs pl pu ⟨ι, S, a, σ', w, ra, h⟩
  have va := view_rep w ra
  generalize view S a = a' at va h
  have lm := lim_eq
  cases a' <;> first | exact h.elim | skip
  all_goals dsimp only [slc] at h
  · obtain ⟨rfl, la⟩ := va
    rename_i z
    refine sl_str pins s σ H _ v vl vu lo hi sl Q I rx hs pl pu ⟨toS z, rfl, by rw [toS_len, ← lm]; exact la, ?_⟩
    have e : cutS (toS z) lo hi = toS (cutL z lo hi) := by
      apply TL.ext_tl
      unfold cutS cutL
      rw [toS_len]
      rfl
    rw [e]
    exact h.ok w ⟨rfl, Nat.le_trans (cutL_len _ _ _) la⟩
  · obtain ⟨p, xs, rfl, h1, l1, r1⟩ := va
    refine sl_tupA pins s σ H _ v vl vu lo hi sl Q I rx hs pl pu ⟨p, xs, rfl, hC ▸ h1, fun e => ?_, fun _ => h.newT w (r1.cut lo hi) (Nat.le_trans (cutL_len _ _ _) l1)⟩
    refine h.ok w ⟨p, xs, rfl, h1, Nat.le_trans (cutL_len _ _ _) l1, ?_⟩
    have := r1.cut lo hi
    have e2 : cutV xs lo hi = xs := by
      unfold cutV
      rw [e.1, e.2, List.drop_zero, Nat.sub_zero, List.take_length]
    rw [e2] at this
    exact this
  · obtain ⟨p, xs, rfl, h1, l1, r1⟩ := va
    exact sl_list pins s σ H _ v vl vu lo hi sl Q I rx hs pl pu ⟨p, xs, rfl, hC ▸ h1, h.newL w (r1.cut lo hi) (Nat.le_trans (cutL_len _ _ _) l1)⟩
/-! ### built-in functions -/
def rBlt (C : RC) (W : L2.WX) (f : Bf) : List V → Hp → VK → Prop := fun vs H Q => ∃ ι S ds σ, WRel C ι H S ∧ Reps C ι H ds vs ∧ Fin C W σ (Rep C) ι H (blt f ds S) Q
theorem reps1 {ι : List Addr} {H : Hp} {d : D} {vs : List V} (h : Reps C ι H [d] vs) : ∃ v, vs = [v] ∧ Rep C ι H d v := by
  obtain ⟨v, r, rfl, h1, h2⟩ := h
  cases h2
  exact ⟨v, rfl, h1⟩
theorem reps2 {ι : List Addr} {H : Hp} {d e : D} {vs : List V} (h : Reps C ι H [d, e] vs) : ∃ v u, vs = [v, u] ∧ Rep C ι H d v ∧ Rep C ι H e u := by
  obtain ⟨v, r, rfl, h1, h2⟩ := h
  obtain ⟨u, rfl, h3⟩ := reps1 h2
  exact ⟨v, u, rfl, h1, h3⟩
theorem boolsD_rep {ι : List Addr} {H : Hp} : ∀ {ds : List D} {bs : List Bool} {vs : List V}, boolsD ds = some bs → Reps C ι H ds vs → vs = bs.map V.bl
  | [], _, _, h, r => by cases h; cases r; rfl
  | .bl b :: ds, _, _, h, ⟨v, q, e, h1, h2⟩ => by
    simp only [boolsD, Option.map_eq_some_iff] at h
    obtain ⟨bs, h3, rfl⟩ := h
    obtain rfl := h1
    rw [e, boolsD_rep h3 h2]
    rfl
  | .non :: _, _, _, h, _ => by cases h
  | .int _ :: _, _, _, h, _ => by cases h
  | .str _ :: _, _, _, h, _ => by cases h
  | .tup _ :: _, _, _, h, _ => by cases h
  | .lst _ :: _, _, _, h, _ => by cases h
  | .fz _ :: _, _, _, h, _ => by cases h
  | .dct _ _ :: _, _, _, h, _ => by cases h
  | .ref _ :: _, _, _, h, _ => by cases h
  | .exn _ _ :: _, _, _, h, _ => by cases h
theorem intsD_rep {ι : List Addr} {H : Hp} : ∀ {ds : List D} {bs : List Int} {vs : List V}, intsD ds = some bs → Reps C ι H ds vs → vs = bs.map V.int
  | [], _, _, h, r => by cases h; cases r; rfl
  | .int b :: ds, _, _, h, ⟨v, q, e, h1, h2⟩ => by
    simp only [intsD, Option.map_eq_some_iff] at h
    obtain ⟨bs, h3, rfl⟩ := h
    obtain rfl := h1
    rw [e, intsD_rep h3 h2]
    rfl
  | .non :: _, _, _, h, _ => by cases h
  | .bl _ :: _, _, _, h, _ => by cases h
  | .str _ :: _, _, _, h, _ => by cases h
  | .tup _ :: _, _, _, h, _ => by cases h
  | .lst _ :: _, _, _, h, _ => by cases h
  | .fz _ :: _, _, _, h, _ => by cases h
  | .dct _ _ :: _, _, _, h, _ => by cases h
  | .ref _ :: _, _, _, h, _ => by cases h
  | .exn _ _ :: _, _, _, h, _ => by cases h
theorem strsD_rep {ι : List Addr} {H : Hp} : ∀ {ds : List D} {bs : List (List Nat)} {vs : List V}, strsD ds = some bs → Reps C ι H ds vs → vs = (bs.map toS).map V.str
  | [], _, _, h, r => by cases h; cases r; rfl
  | .str b :: ds, _, _, h, ⟨v, q, e, h1, h2⟩ => by
    simp only [strsD, Option.map_eq_some_iff] at h
    obtain ⟨bs, h3, rfl⟩ := h
    obtain ⟨rfl, _⟩ := h1
    rw [e, strsD_rep h3 h2]
    rfl
  | .non :: _, _, _, h, _ => by cases h
  | .bl _ :: _, _, _, h, _ => by cases h
  | .int _ :: _, _, _, h, _ => by cases h
  | .tup _ :: _, _, _, h, _ => by cases h
  | .lst _ :: _, _, _, h, _ => by cases h
  | .fz _ :: _, _, _, h, _ => by cases h
  | .dct _ _ :: _, _, _, h, _ => by cases h
  | .ref _ :: _, _, _, h, _ => by cases h
  | .exn _ _ :: _, _, _, h, _ => by cases h
/-- the items of a list, a tuple -/
theorem items_rep {ι : List Addr} {H : Hp} {S : Store} {d : D} {v : V} {xs : List D} (w : WRel C ι H S) (r : Rep C ι H d v) (e : items S d = some xs) :
    ∃ p ys, v = .ref p ∧ (SqL C.K H p ys ∨ SqT C.K H p ys) ∧ xs.length ≤ lim ∧ Reps C ι H xs ys := by
  have va := view_rep w r
  unfold items at e
  generalize view S d = d' at va e
  cases d' <;> first | (cases e; done) | skip
  · cases e
    obtain ⟨p, ys, rfl, h1, l1, r1⟩ := va
    exact ⟨p, ys, rfl, .inr h1, l1, r1⟩
  · cases e
    obtain ⟨p, ys, rfl, h1, l1, r1⟩ := va
    exact ⟨p, ys, rfl, .inl h1, l1, r1⟩
theorem lst_rep {ι : List Addr} {H : Hp} {S : Store} {d : D} {v : V} {xs : List D} (w : WRel C ι H S) (r : Rep C ι H d v) (e : view S d = .lst xs) :
    ∃ p ys, v = .ref p ∧ SqL C.K H p ys ∧ xs.length ≤ lim ∧ Reps C ι H xs ys := by
  have va := view_rep w r
  rw [e] at va
  exact va
theorem tup_rep {ι : List Addr} {H : Hp} {S : Store} {d : D} {v : V} {xs : List D} (w : WRel C ι H S) (r : Rep C ι H d v) (e : view S d = .tup xs) :
    ∃ p ys, v = .ref p ∧ SqT C.K H p ys ∧ xs.length ≤ lim ∧ Reps C ι H xs ys := by
  have va := view_rep w r
  rw [e] at va
  exact va
theorem cr_len (hC : C.K = X.K) : CallR X (.builtin "len") (rBlt C W .len) := by
  intro pins s σ H xs us Q I r ⟨ι, S, ds, σ', w, rs, h⟩
  have lm := lim_eq
  match ds, h with
  | [.str x], h =>
    obtain ⟨v, rfl, rv⟩ := reps1 rs
    obtain ⟨rfl, la⟩ := rv
    refine call_len pins s σ H _ us Q I r ⟨_, x.length, rfl, ⟨by rw [toS_len, ← lm]; exact la, by rw [toS_len]⟩, h.ok w rfl⟩
  | [.non], h => exact h.elim
  | [.bl _], h => exact h.elim
  | [.int _], h => exact h.elim
  | [.dct _ _], h => exact h.elim
  | [.exn _ _], h => exact h.elim
  | [.tup ys], h =>
    obtain ⟨v, rfl, rv⟩ := reps1 rs
    obtain ⟨p, zs, rfl, h1, l1, r1⟩ := rv
    exact call_len pins s σ H _ us Q I r ⟨_, ys.length, rfl, .inr ⟨zs, hC ▸ h1, r1.length⟩, h.ok w rfl⟩
  | [.lst ys], h =>
    obtain ⟨v, rfl, rv⟩ := reps1 rs
    obtain ⟨p, zs, rfl, n1, h1, l1, r1⟩ := rv
    exact call_len pins s σ H _ us Q I r ⟨_, ys.length, rfl, .inl ⟨zs, .inl (.inl h1), r1.length⟩, h.ok w rfl⟩
  | [.fz ys], h =>
    obtain ⟨v, rfl, rv⟩ := reps1 rs
    obtain ⟨p, zs, rfl, h1, l1, r1⟩ := rv
    exact call_len pins s σ H _ us Q I r ⟨_, ys.length, rfl, .inl ⟨zs, hC ▸ h1.seq, r1.length⟩, h.ok w rfl⟩
  | [.ref n], h =>
    obtain ⟨v, rfl, rv⟩ := reps1 rs
    cases e : items S (.ref n) with
    | none =>
      have : blt .len [.ref n] S = none := by simp only [blt, e]; rfl
      rw [this] at h; exact h.elim
    | some ys =>
      have : blt .len [.ref n] S = some (.ok (.int ys.length) S) := by simp only [blt, e]; rfl
      rw [this] at h
      obtain ⟨p, zs, rfl, h1, l1, r1⟩ := items_rep w rv e
      exact call_len pins s σ H _ us Q I r ⟨_, ys.length, rfl, h1.imp (fun q => ⟨zs, hC ▸ q, r1.length⟩) (fun q => ⟨zs, hC ▸ q, r1.length⟩), h.ok w rfl⟩
  | [], h => exact h.elim
  | _ :: _ :: _, h => 
    simp only [blt] at h
    exact h.elim
theorem cr_absD : CallR X (.builtin "abs") (rBlt C W .abs) := by
  intro pins s σ H xs us Q I r ⟨ι, S, ds, σ', w, rs, h⟩
  rcases ds with _ | ⟨d, _ | ⟨e, tl⟩⟩
  · exact h.elim
  · obtain ⟨v, rfl, rv⟩ := reps1 rs
    cases d <;> first | exact h.elim | skip
    obtain rfl := rv
    exact call_abs pins s σ H _ us Q I r ⟨_, rfl, h.ok w rfl⟩
  · exact (show False by cases d <;> exact h).elim
theorem cr_maxD (hc : X.calm = true) : CallR X (.builtin "max") (rBlt C W .max2) := by
  intro pins s σ H xs us Q I r ⟨ι, S, ds, σ', w, rs, h⟩
  rcases ds with _ | ⟨d, _ | ⟨e, _ | ⟨f, tl⟩⟩⟩
  · exact h.elim
  · exact (show False by cases d <;> exact h).elim
  · obtain ⟨v, u, rfl, rv, ru⟩ := reps2 rs
    cases d <;> cases e <;> first | exact h.elim | skip
    obtain rfl := rv
    obtain rfl := ru
    exact call_max2 hc pins s σ H _ us Q I r ⟨_, _, rfl, h.ok w rfl⟩
  · exact (show False by cases d <;> first | exact h | (cases e <;> exact h)).elim
theorem cr_minD (hc : X.calm = true) : CallR X (.builtin "min") (rBlt C W .min2) := by
  intro pins s σ H xs us Q I r ⟨ι, S, ds, σ', w, rs, h⟩
  rcases ds with _ | ⟨d, _ | ⟨e, _ | ⟨f, tl⟩⟩⟩
  · exact h.elim
  · exact (show False by cases d <;> exact h).elim
  · obtain ⟨v, u, rfl, rv, ru⟩ := reps2 rs
    cases d <;> cases e <;> first | exact h.elim | skip
    obtain rfl := rv
    obtain rfl := ru
    exact call_min2 hc pins s σ H _ us Q I r ⟨_, _, rfl, h.ok w rfl⟩
  · exact (show False by cases d <;> first | exact h | (cases e <;> exact h)).elim
theorem cr_allD (hc : X.calm = true) (hC : C.K = X.K) : CallR X (.builtin "all") (rBlt C W .all) := by
  intro pins s σ H xs us Q I r ⟨ι, S, ds, σ', w, rs, h⟩
  rcases ds with _ | ⟨d, _ | ⟨e, tl⟩⟩
  · exact h.elim
  · obtain ⟨v, rfl, rv⟩ := reps1 rs
    dsimp only [blt] at h
    cases e : view S d <;> rw [e] at h <;> first | exact h.elim | skip
    rename_i ys
    cases e2 : boolsD ys <;> simp only [e2, Option.map_none, Option.map_some] at h
    · exact h.elim
    · obtain ⟨p, zs, rfl, h1, _, r1⟩ := lst_rep w rv e
      have := boolsD_rep e2 r1
      subst this
      exact cr_all hc pins s σ H _ us Q I r ⟨p, _, rfl, hC ▸ h1, h.ok w rfl⟩
  · exact h.elim
theorem cr_anyD (hc : X.calm = true) (hC : C.K = X.K) : CallR X (.builtin "any") (rBlt C W .any) := by
  intro pins s σ H xs us Q I r ⟨ι, S, ds, σ', w, rs, h⟩
  rcases ds with _ | ⟨d, _ | ⟨e, tl⟩⟩
  · exact h.elim
  · obtain ⟨v, rfl, rv⟩ := reps1 rs
    dsimp only [blt] at h
    cases e : view S d <;> rw [e] at h <;> first | exact h.elim | skip
    rename_i ys
    cases e2 : boolsD ys <;> simp only [e2, Option.map_none, Option.map_some] at h
    · exact h.elim
    · obtain ⟨p, zs, rfl, h1, _, r1⟩ := lst_rep w rv e
      have := boolsD_rep e2 r1
      subst this
      exact cr_any hc pins s σ H _ us Q I r ⟨p, _, rfl, hC ▸ h1, h.ok w rfl⟩
  · exact h.elim
theorem cr_sumD (hc : X.calm = true) (hC : C.K = X.K) : CallR X (.builtin "sum") (rBlt C W .sum) := by
  intro pins s σ H xs us Q I r ⟨ι, S, ds, σ', w, rs, h⟩
  rcases ds with _ | ⟨d, _ | ⟨e, tl⟩⟩
  · exact h.elim
  · obtain ⟨v, rfl, rv⟩ := reps1 rs
    dsimp only [blt] at h
    cases e : view S d <;> rw [e] at h <;> first | exact h.elim | skip
    rename_i ys
    cases e2 : intsD ys <;> simp only [e2, Option.map_none, Option.map_some] at h
    · exact h.elim
    · obtain ⟨p, zs, rfl, h1, _, r1⟩ := lst_rep w rv e
      have := intsD_rep e2 r1
      subst this
      exact cr_sum hc pins s σ H _ us Q I r ⟨p, _, rfl, hC ▸ h1, h.ok w rfl⟩
  · exact h.elim
theorem cr_intD : CallR X (.type "int") (rBlt C W .int) := by
  intro pins s σ H xs us Q I r ⟨ι, S, ds, σ', w, rs, h⟩
  rcases ds with _ | ⟨d, _ | ⟨e, tl⟩⟩
  · exact h.elim
  · obtain ⟨v, rfl, rv⟩ := reps1 rs
    cases d <;> first | exact h.elim | skip
    · obtain rfl := rv
      exact call_int1 pins s σ H _ us Q I r (.inr ⟨_, rfl, h.ok w rfl⟩)
    · obtain rfl := rv
      exact call_int1 pins s σ H _ us Q I r (.inl ⟨_, rfl, h.ok w rfl⟩)
    · rename_i x
      obtain ⟨rfl, _⟩ := rv
      dsimp only [blt] at h
      unfold intOf at h
      split at h
      · rename_i hl
        cases e : intText? ⟨x.toArray⟩ with
        | none => rw [e] at h; exact h.elim
        | some n =>
          rw [e] at h
          exact call_int_str pins s σ H _ us Q I r ⟨toS x, n, rfl, e, by rw [toS_len]; exact hl, h.ok w rfl⟩
      · exact h.elim
  · exact (show False by cases d <;> exact h).elim
theorem cr_strD : CallR X (.type "str") (rBlt C W .str) := by
  intro pins s σ H xs us Q I r ⟨ι, S, ds, σ', w, rs, h⟩
  rcases ds with _ | ⟨d, _ | ⟨e, tl⟩⟩
  · exact h.elim
  · obtain ⟨v, rfl, rv⟩ := reps1 rs
    cases d <;> first | exact h.elim | skip
    obtain rfl := rv
    dsimp only [blt] at h
    split at h
    · rename_i i hl
      refine call_str_int pins s σ H _ us Q I r ⟨i, rfl, hl.1, ?_⟩
      exact h.ok w ⟨rfl, hl.2⟩
    · exact h.elim
  · exact (show False by cases d <;> exact h).elim
theorem cr_tupleD (hC : C.K = X.K) : CallR X (.type "tuple") (rBlt C W .tuple) := by
  intro pins s σ H xs us Q I r ⟨ι, S, ds, σ', w, rs, h⟩
  rcases ds with _ | ⟨d, _ | ⟨e, tl⟩⟩
  · exact h.elim
  · obtain ⟨v, rfl, rv⟩ := reps1 rs
    dsimp only [blt] at h
    cases e : view S d <;> rw [e] at h <;> first | exact h.elim | skip
    · obtain ⟨p, zs, rfl, h1, l1, r1⟩ := tup_rep w rv e
      exact call_tuple_of pins s σ H _ us Q I r ⟨p, zs, rfl, .inr ⟨hC ▸ h1, h.ok w ⟨p, zs, rfl, h1, l1, r1⟩⟩⟩
    · obtain ⟨p, zs, rfl, h1, l1, r1⟩ := lst_rep w rv e
      exact call_tuple_of pins s σ H _ us Q I r ⟨p, zs, rfl, .inl ⟨hC ▸ h1, h.newT w r1 l1⟩⟩
  · exact h.elim
theorem cr_listD (hC : C.K = X.K) : CallR X (.type "list") (rBlt C W .list) := by
  intro pins s σ H xs us Q I r ⟨ι, S, ds, σ', w, rs, h⟩
  rcases ds with _ | ⟨d, _ | ⟨e, tl⟩⟩
  · exact h.elim
  · obtain ⟨v, rfl, rv⟩ := reps1 rs
    dsimp only [blt] at h
    cases e : view S d <;> rw [e] at h <;> first | exact h.elim | skip
    · obtain ⟨p, zs, rfl, h1, l1, r1⟩ := tup_rep w rv e
      exact call_list_of pins s σ H _ us Q I r ⟨p, zs, rfl, .inr (hC ▸ h1), h.newL w r1 l1⟩
    · obtain ⟨p, zs, rfl, h1, l1, r1⟩ := lst_rep w rv e
      exact call_list_of pins s σ H _ us Q I r ⟨p, zs, rfl, .inl (hC ▸ h1), h.newL w r1 l1⟩
  · exact h.elim
/-! ### methods of texts and lists -/
def rMth (C : RC) (W : L2.WX) (f : Mf) : V → List V → Hp → VK → Prop := fun x vs H Q => ∃ ι S a ds σ, WRel C ι H S ∧ Rep C ι H a x ∧ Reps C ι H ds vs ∧ Fin C W σ (Rep C) ι H (mth f (view S a) ds S) Q
theorem latin_ok {b : List Nat} (h : latin b = true) : b ≠ [] ∧ (b.all (· < 256)) = true := by
  unfold latin at h
  rw [Bool.and_eq_true] at h
  exact ⟨of_decide_eq_true h.1, h.2⟩
theorem toS_all (b : List Nat) (p : Nat → Bool) : (toS b).cps.all p = b.all p := by simp [toS]
theorem reps_strs {ι : List Addr} {H : Hp} : ∀ (zs : List (List Nat)), (∀ z ∈ zs, z.length ≤ lim) → Reps C ι H (zs.map D.str) ((zs.map toS).map V.str)
  | [], _ => rfl
  | z :: zs, h => ⟨_, _, rfl, ⟨rfl, h z (List.mem_cons_self)⟩, reps_strs zs fun y hy => h y (List.mem_cons_of_mem _ hy)⟩
theorem spl_len (S : List Nat) : ∀ (l : List Nat) (k : Nat) (acc : List Nat) , (∀ z ∈ TL.spl S k acc l, z.length ≤ acc.length + l.length) ∧ (TL.spl S k acc l).length ≤ l.length + 1
  | [], k, acc => by rw [TL.spl_nil]; simp
  | c :: r, 0, acc => by
    cases e : TL.pre S (c :: r) with
    | true =>
      rw [TL.spl_hit e]
      have ih := spl_len S r (S.length - 1) []
      refine ⟨fun z hz => ?_, by simp only [List.length_cons]; omega⟩
      rcases List.mem_cons.mp hz with rfl | hz
      · omega
      · have := ih.1 z hz
        simp only [List.length_cons, List.length_nil] at this ⊢
        omega
    | false =>
      rw [TL.spl_miss e]
      have ih := spl_len S r 0 (acc ++ [c])
      refine ⟨fun z hz => ?_, by simp only [List.length_cons]; omega⟩
      have := ih.1 z hz
      simp only [List.length_cons, List.length_append, List.length_nil] at this ⊢
      omega
  | c :: r, k + 1, acc => by
    have ih := spl_len S r k acc
    have e : TL.spl S (k + 1) acc (c :: r) = TL.spl S k acc r := by simp only [TL.spl]
    rw [e]
    refine ⟨fun z hz => ?_, by simp only [List.length_cons]; omega⟩
    have := ih.1 z hz
    simp only [List.length_cons]
    omega
theorem mt_splitD : MtR X "str.split" (rMth C W .split) := by
  intro pins s σ H x xs v us Q I rx rs ⟨ι, S, a, ds, σ', w, ra, rds, h⟩
  have lm := lim_eq
  have va := view_rep w ra
  generalize view S a = a' at va h
  rcases ds with _ | ⟨d, _ | ⟨e, tl⟩⟩
  · exact (show False by cases a' <;> exact h).elim
  · obtain ⟨u, rfl, rv⟩ := reps1 rds
    cases a' <;> cases d <;> first | exact h.elim | skip
    obtain ⟨rfl, la⟩ := va
    obtain ⟨rfl, lb⟩ := rv
    rename_i z b
    dsimp only [mth] at h
    split at h
    · rename_i hc
      rw [Bool.and_eq_true] at hc
      obtain ⟨hb1, hb2⟩ := latin_ok hc.1
      have hl := of_decide_eq_true hc.2
      have hsp : (Txt.split (toS z) (toS b)).map TL.tl = TL.spl b 0 [] z := TL.split_spl (toS z) (toS b) hb1 (TL.kind_ok (by rw [toS_all]; exact hb2))
      have e : Txt.split (toS z) (toS b) = (TL.spl b 0 [] z).map toS := by
        apply TL.map_tl_inj
        rw [hsp, List.map_map]
        exact (List.map_id'' (fun _ => rfl) _).symm
      refine mt_split pins s σ H _ _ v us Q I rx rs ⟨toS z, toS b, rfl, rfl, ?_, by rw [toS_len, ← lm]; exact hl, ?_⟩
      · rw [toS_len]
        cases b with
        | nil => exact absurd rfl hb1
        | cons _ _ => rfl
      · rw [e]
        have hs := spl_len b z 0 []
        have h1 : ((TL.spl b 0 [] z).map D.str).length ≤ lim := by rw [List.length_map]; omega
        exact h.newL w (reps_strs _ fun y hy => by have := hs.1 y hy; simp only [List.length_nil] at this; omega) h1
    · exact h.elim
  · exact (show False by cases a' <;> first | exact h | (cases d <;> exact h)).elim
end
end Ev

set_option Elab.async false
set_option linter.all false
set_option maxRecDepth 100000
set_option maxHeartbeats 2000000
namespace Ev
open PySem PySem.Spec L2
open PyProof.Rows hiding St
section
variable {X : Cx} {C : RC} {W : L2.WX}
theorem mt_partitionD : MtR X "str.partition" (rMth C W .partition) := by
  intro pins s σ H x xs v us Q I rx rs ⟨ι, S, a, ds, σ', w, ra, rds, h⟩
  have lm := lim_eq
  have va := view_rep w ra
  generalize view S a = a' at va h
  rcases ds with _ | ⟨d, _ | ⟨e, tl⟩⟩
  · exact (show False by cases a' <;> exact h).elim
  · obtain ⟨u, rfl, rv⟩ := reps1 rds
    cases a' <;> cases d <;> first | exact h.elim | skip
    obtain ⟨rfl, la⟩ := va
    obtain ⟨rfl, lb⟩ := rv
    rename_i z b
    dsimp only [mth] at h
    split at h
    · rename_i hc
      obtain ⟨hb1, hb2⟩ := latin_ok hc
      have hp := TL.partition_par (toS z) (toS b) hb1
      have hp' : Txt.partition (toS z) (toS b) = (match TL.par b [] z with | some (a, c) => (toS a, toS b, toS c) | none => (toS z, toS b |> fun _ => Str.empty, Str.empty)) := hp
      refine mt_partition pins s σ H _ _ v us Q I rx rs ⟨toS z, toS b, rfl, rfl, ?_, by rw [toS_len, ← lm]; exact la, ?_⟩
      · rw [toS_len]
        cases b with
        | nil => exact absurd rfl hb1
        | cons _ _ => rfl
      · have hl : ∀ (l acc p q : List Nat), TL.par b acc l = some (p, q) → p.length ≤ acc.length + l.length ∧ q.length ≤ l.length := by
          intro l
          induction l with
          | nil => intro acc p q e; simp [TL.par] at e
          | cons c r ih =>
            intro acc p q e
            cases e2 : TL.pre b (c :: r) with
            | true =>
              rw [TL.par_hit e2] at e
              cases e
              refine ⟨by omega, ?_⟩
              rw [List.length_drop]; omega
            | false =>
              rw [TL.par_miss e2] at e
              have := ih _ _ _ e
              simp only [List.length_append, List.length_cons, List.length_nil] at this ⊢
              omega
        rw [hp']
        cases e : TL.par b [] z with
        | none =>
          rw [e] at h
          exact h.newT (ds := [.str z, .str [], .str []]) w ⟨_, _, rfl, ⟨rfl, la⟩, _, _, rfl, ⟨rfl, Nat.zero_le _⟩, _, _, rfl, ⟨rfl, Nat.zero_le _⟩, rfl⟩ (by show 3 ≤ lim; decide)
        | some pq =>
          obtain ⟨p, q⟩ := pq
          rw [e] at h
          have hh := hl z [] p q e
          simp only [List.length_nil, Nat.zero_add] at hh
          exact h.newT (ds := [.str p, .str b, .str q]) w ⟨_, _, rfl, ⟨rfl, by omega⟩, _, _, rfl, ⟨rfl, lb⟩, _, _, rfl, ⟨rfl, by omega⟩, rfl⟩ (by show 3 ≤ lim; decide)
    · exact h.elim
  · exact (show False by cases a' <;> first | exact h | (cases d <;> exact h)).elim
theorem mt_joinD (hC : C.K = X.K) : MtR X "str.join" (rMth C W .join) := by
  intro pins s σ H x xs v us Q I rx rs ⟨ι, S, a, ds, σ', w, ra, rds, h⟩
  have lm := lim_eq
  have ls := sizeLine_eq
  have va := view_rep w ra
  generalize view S a = a' at va h
  rcases ds with _ | ⟨d, _ | ⟨e, tl⟩⟩
  · exact (show False by cases a' <;> exact h).elim
  · obtain ⟨u, rfl, rv⟩ := reps1 rds
    cases a' <;> first | exact h.elim | skip
    obtain ⟨rfl, la⟩ := va
    rename_i z
    dsimp only [mth] at h
    cases e : items S d with
    | none => rw [e] at h; exact h.elim
    | some ys =>
      rw [e] at h
      dsimp only at h
      cases e2 : strsD ys with
      | none => rw [e2] at h; exact h.elim
      | some zs =>
        rw [e2, Option.bind_some] at h
        split at h
        · rename_i hc
          obtain ⟨p, qs, rfl, h1, l1, r1⟩ := items_rep w rv e
          have := strsD_rep e2 r1
          subst this
          have hsum : ((zs.map toS).map (·.length)).sum = (zs.map (·.length)).sum := by
            rw [List.map_map]
            exact congrArg List.sum (List.map_congr_left fun y _ => toS_len y)
          refine mt_join pins s σ H _ _ v us Q I rx rs ⟨toS z, p, zs.map toS, rfl, rfl, hC ▸ h1, by rw [hsum, List.length_map, toS_len]; rw [lm, ls] at hc; exact hc, ?_⟩
          have ej : Txt.join (toS z) (zs.map toS) = toS (TL.joinL z zs) := by
            apply TL.ext_tl
            rw [TL.join_eq, TL.tl_join, List.map_map]
            have e3 : zs.map (TL.tl ∘ toS) = zs := by
              rw [show (TL.tl ∘ toS) = id from funext fun _ => rfl, List.map_id]
            show TL.joinL z (zs.map (TL.tl ∘ toS)) = TL.joinL z zs
            rw [e3]
          rw [ej]
          have hj : ∀ l : List (List Nat), (TL.joinL z l).length ≤ (l.map (·.length)).sum + l.length * z.length := by
            intro l
            induction l with
            | nil => simp [TL.joinL]
            | cons y r ih =>
              cases r with
              | nil => simp [TL.joinL]
              | cons y2 r2 =>
                simp only [TL.joinL, List.length_append, List.map_cons, List.sum_cons, List.length_cons, Nat.succ_mul] at ih ⊢
                omega
          exact h.ok w ⟨rfl, Nat.le_trans (hj zs) hc⟩
        · exact h.elim
  · exact (show False by cases a' <;> first | exact h | (cases d <;> exact h)).elim
/-! ### isinstance -/
def tyS : Ty → String
  | .int => "int"
  | .bool => "bool"
  | .str => "str"
  | .tuple => "tuple"
  | .list => "list"
  | .dict => "dict"
/-- the type that a thing has -/
def tyOf : D → Option String
  | .non => some "NoneType"
  | .bl _ => some "bool"
  | .int _ => some "int"
  | .str _ => some "str"
  | .tup _ => some "tuple"
  | .lst _ => some "list"
  | .dct _ _ => some "dict"
  | _ => none
theorem kitB_tab : ∀ t : Ty, kitB "NoneType" (tyS t) = some false ∧ kitB "bool" (tyS t) = some (t == .bool || t == .int) ∧ kitB "int" (tyS t) = some (t == .int) ∧ kitB "str" (tyS t) = some (t == .str) ∧
    kitB "tuple" (tyS t) = some (t == .tuple) ∧ kitB "list" (tyS t) = some (t == .list) ∧ kitB "dict" (tyS t) = some (t == .dict) := by
  intro t
  cases t <;> decide +kernel
theorem isTy_kit {t : Ty} {S : Store} {d : D} {b : Bool} (h : isTy t S d = some b) : ∃ a, tyOf (view S d) = some a ∧ kitB a (tyS t) = some b := by
  unfold isTy at h
  obtain ⟨k1, k2, k3, k4, k5, k6, k7⟩ := kitB_tab t
  cases e : view S d <;> rw [e] at h <;> first | (cases h; done) | skip
  all_goals cases h
  · exact ⟨_, rfl, k1⟩
  · exact ⟨_, rfl, k2⟩
  · exact ⟨_, rfl, k3⟩
  · exact ⟨_, rfl, k4⟩
  · exact ⟨_, rfl, k5⟩
  · exact ⟨_, rfl, k6⟩
  · exact ⟨_, rfl, k7⟩
theorem tyX_seqL {K : PySem.W.Frag} {H : Hp} {p : Addr} {xs : List V} (h : SqL K H p xs) : TyX K H (.ref p) (.type "list") := by
  rcases h with (h | ⟨o, h⟩) | ⟨o, its, n, h1, h2, _⟩
  · exact .base (.lst h)
  · exact .base (.frz h)
  · exact .kList h1 h2
theorem tyX_seqT {K : PySem.W.Frag} {H : Hp} {p : Addr} {xs : List V} (h : SqT K H p xs) : TyX K H (.ref p) (.type "tuple") := by
  rcases h with (h | ⟨o, h⟩) | ⟨o, its, n, h1, h2, _⟩
  · exact .base (.tup h)
  · exact .fTuple h
  · exact .kTuple h1 h2
theorem tyX_of {ι : List Addr} {H : Hp} {a : String} {v : V} : ∀ {d : D}, RepV C ι H d v → tyOf d = some a → TyX C.K H v (.type a)
  | .non, h, e => by cases e; cases (show v = V.non from h); exact .base .non
  | .bl b, h, e => by cases e; cases (show v = V.bl b from h); exact .base (.bl _)
  | .int b, h, e => by cases e; cases (show v = V.int b from h); exact .base (.int _)
  | .str x, h, e => by cases e; obtain ⟨rfl, _⟩ := (show v = V.str (toS x) ∧ _ from h); exact .base (.str _)
  | .tup xs, h, e => by cases e; obtain ⟨p, ys, rfl, h1, _⟩ := (show ∃ p xs', v = V.ref p ∧ SqT C.K H p xs' ∧ _ from h); exact tyX_seqT h1
  | .lst xs, h, e => by cases e; obtain ⟨p, ys, rfl, h1, _⟩ := (show ∃ p xs', v = V.ref p ∧ SqL C.K H p xs' ∧ _ from h); exact tyX_seqL h1
  | .dct _ _, h, e => by cases e; obtain ⟨p, rfl, _, h1, _⟩ := (show ∃ p, v = V.ref p ∧ _ ∧ H p = some (.dK []) ∧ _ from h); exact .base (.dK h1)
  | .fz _, _, e => by cases e
  | .ref _, _, e => by cases e
  | .exn _ _, _, e => by cases e
def rIsT (C : RC) (W : L2.WX) (t : Ty) : List V → Hp → VK → Prop := fun vs H Q => ∃ ι S d x b, vs = [x, .ty (tyS t)] ∧ WRel C ι H S ∧ Rep C ι H d x ∧ isTy t S d = some b ∧ Q (.bl b) H
theorem cr_isT (hC : C.K = X.K) (t : Ty) : CallR X (.builtin "isinstance") (rIsT C W t) := by
  intro pins s σ H xs us Q I r ⟨ι, S, d, x, b, e, w, rd, hb, h⟩
  obtain ⟨a, h1, h2⟩ := isTy_kit hb
  exact call_isi pins s σ H _ us Q I r ⟨x, _, .type a, .type (tyS t), b, e, .ty _, hC ▸ tyX_of (view_rep w rd) h1, kit_ty h2, h⟩
/-! ### what changes a list -/
def rMut (C : RC) (W : L2.WX) (f : Nat) : V → List V → Hp → VK → Prop := fun x vs H Q => ∃ ι S a ds σ, WRel C ι H S ∧ Rep C ι H a x ∧ Reps C ι H ds vs ∧ Fin C W σ (Rep C) ι H (mutate f a ds S) Q
/-- the list at n of the store -/
theorem at_lst {ι : List Addr} {H : Hp} {S : Store} {n : Nat} {xs : List D} {v : V} (w : WRel C ι H S) (r : Rep C ι H (.ref n) v) (e : S[n]? = some (.lst xs)) :
    ∃ p ys, v = .ref p ∧ ι[n]? = some p ∧ H p = some (.lst ys) ∧ xs.length ≤ lim ∧ Reps C ι H xs ys := by
  obtain ⟨p, h, rfl⟩ := r
  obtain ⟨ys, h1, h2, h3⟩ := w.at_ n _ p e h
  exact ⟨p, ys, rfl, h, h1, h2, h3⟩
theorem mutate_cases {f : Nat} {a : D} {ds : List D} {S : Store} {r : R D} (h : mutate f a ds S = some r) : ∃ n xs, a = .ref n ∧ S[n]? = some (.lst xs) ∧
    ((∃ y, f = 0 ∧ ds = [y] ∧ xs.length < lim ∧ r = .ok .non (S.set n (.lst (xs ++ [y])))) ∨ (f = 1 ∧ ds = [] ∧ r = .ok .non (S.set n (.lst xs.reverse))) ∨ (∃ y, f = 2 ∧ ds = [] ∧ xs[xs.length - 1]? = some y ∧ r = .ok y (S.set n (.lst xs.dropLast)))) := by
  cases a <;> first | (cases h; done) | skip
  rename_i n
  unfold mutate at h
  dsimp only at h
  cases e : S[n]? with
  | none => rw [e] at h; cases h
  | some o =>
    rw [e] at h
    cases o <;> first | (cases h; done) | skip
    rename_i xs
    dsimp only at h
    refine ⟨n, xs, rfl, e, ?_⟩
    split at h
    · split at h
      · cases h; exact .inl ⟨_, rfl, rfl, by assumption, rfl⟩
      · cases h
    · cases h; exact .inr (.inl ⟨rfl, rfl, rfl⟩)
    · split at h
      · cases h; exact .inr (.inr ⟨_, rfl, rfl, by assumption, rfl⟩)
      · cases h
    · cases h
theorem mt_appendD : MtM X "list.append" (rMut C W 0) := by
  intro pins s σ H x xs v us Q I rx rs ⟨ι, S, a, ds, σ', w, ra, rds, h⟩
  have lm := lim_eq
  cases e : mutate 0 a ds S with
  | none => rw [e] at h; exact h.elim
  | some r =>
    rw [e] at h
    obtain ⟨n, zs, rfl, hs, ⟨y, _, rfl, hl, rfl⟩ | ⟨z, _⟩ | ⟨_, z, _⟩⟩ := mutate_cases e
    · obtain ⟨p, ys, rfl, hp, h1, h2, h3⟩ := at_lst w ra hs
      obtain ⟨u, rfl, ru⟩ := reps1 rds
      have hpm : p ∈ ι := List.mem_of_getElem? hp
      have x1 := Ext.write (o := .lst (ys ++ [u])) w hpm
      refine mt_append pins s σ H _ _ v us Q I rx rs ⟨p, ys, u, rfl, rfl, h1, by rw [← h3.length, ← lm]; exact hl, ?_⟩
      exact h ι _ _ x1 (w.write hp x1 ⟨_, upd_same, by rw [List.length_append]; exact hl, (h3.mono x1).snoc (ru.mono x1)⟩) rfl
    · cases z
    · cases z
theorem mt_reverseD : MtM X "list.reverse" (rMut C W 1) := by
  intro pins s σ H x xs v us Q I rx rs ⟨ι, S, a, ds, σ', w, ra, rds, h⟩
  cases e : mutate 1 a ds S with
  | none => rw [e] at h; exact h.elim
  | some r =>
    rw [e] at h
    obtain ⟨n, zs, rfl, hs, ⟨y, z, _⟩ | ⟨_, rfl, rfl⟩ | ⟨_, z, _⟩⟩ := mutate_cases e
    · cases z
    · obtain ⟨p, ys, rfl, hp, h1, h2, h3⟩ := at_lst w ra hs
      cases rds
      have hpm : p ∈ ι := List.mem_of_getElem? hp
      have x1 := Ext.write (o := .lst ys.reverse) w hpm
      refine mt_reverse pins s σ H _ _ v us Q I rx rs ⟨p, ys, rfl, rfl, h1, ?_⟩
      exact h ι _ _ x1 (w.write hp x1 ⟨_, upd_same, by rw [List.length_reverse]; exact h2, (h3.mono x1).reverse⟩) rfl
    · cases z
theorem Reps.dropLast {ι : List Addr} {H : Hp} : ∀ {ds : List D} {vs : List V}, Reps C ι H ds vs → Reps C ι H ds.dropLast vs.dropLast
  | [], _, h => by cases h; exact rfl
  | [d], _, h => by obtain ⟨v, rfl, h1⟩ := reps1 h; exact rfl
  | d :: e :: ds, _, ⟨v, r, q, h1, u, r', q', h2, h3⟩ => by
    subst q; subst q'
    exact ⟨_, _, rfl, h1, Reps.dropLast (ds := e :: ds) ⟨u, r', rfl, h2, h3⟩⟩
theorem mt_popD : MtM X "list.pop" (rMut C W 2) := by
  intro pins s σ H x xs v us Q I rx rs ⟨ι, S, a, ds, σ', w, ra, rds, h⟩
  cases e : mutate 2 a ds S with
  | none => rw [e] at h; exact h.elim
  | some r =>
    rw [e] at h
    obtain ⟨n, zs, rfl, hs, ⟨y, z, _⟩ | ⟨z, _⟩ | ⟨y, _, rfl, hy, rfl⟩⟩ := mutate_cases e
    · cases z
    · cases z
    · obtain ⟨p, ys, rfl, hp, h1, h2, h3⟩ := at_lst w ra hs
      cases rds
      have hpm : p ∈ ι := List.mem_of_getElem? hp
      have x1 := Ext.write (o := .lst ys.dropLast) w hpm
      obtain ⟨u, hu, ru⟩ := h3.get hy
      refine mt_pop pins s σ H _ _ v us Q I rx rs ⟨p, ys, u, rfl, rfl, h1, by rw [← h3.length]; exact hu, ?_⟩
      exact h ι _ _ x1 (w.write hp x1 ⟨_, upd_same, by rw [List.length_dropLast]; omega, (h3.mono x1).dropLast⟩) (ru.mono x1)
def rSetix (C : RC) : V → V → V → Hp → (Hp → Prop) → Prop := fun o i v H Q => ∃ ι S a b c S', WRel C ι H S ∧ Rep C ι H a o ∧ Rep C ι H b i ∧ Rep C ι H c v ∧ setix a b c S = some S' ∧ ∀ H', Ext ι H ι H' → WRel C ι H' S' → Q H'
theorem set_setix : PSet X (rSetix C) := by
  intro pins s σ H o i v o' i' v' Q I ro ri rv ⟨ι, S, a, b, c, S', w, ra, rb, rc, e, h⟩
  cases a <;> first | (cases e; done) | skip
  rename_i n
  unfold setix at e
  dsimp only at e
  cases es : S[n]? with
  | none => rw [es] at e; cases e
  | some ob =>
    rw [es] at e
    cases ob <;> first | (cases e; done) | skip
    rename_i xs
    dsimp only at e
    cases b <;> first | (cases e; done) | skip
    rename_i k
    dsimp only at e
    cases ej : ixN xs.length k with
    | none => rw [ej] at e; cases e
    | some j =>
      rw [ej] at e
      cases e
      obtain ⟨p, ys, rfl, hp, h1, h2, h3⟩ := at_lst w ra es
      obtain rfl := rb
      have hpm : p ∈ ι := List.mem_of_getElem? hp
      have x1 := Ext.write (o := .lst (ys.set j v)) w hpm
      refine set_list pins s σ H _ _ v o' i' v' Q I ro ri rv ⟨p, ys, k, j, rfl, rfl, h1, by rw [← h3.length]; exact ej, ?_⟩
      exact h _ x1 (w.write hp x1 ⟨_, upd_same, by rw [List.length_set]; exact h2, Reps.set (rc.mono x1) j (h3.mono x1)⟩)
end
end Ev

set_option Elab.async false
set_option linter.all false
set_option maxRecDepth 100000
set_option maxHeartbeats 2000000
namespace Ev
open PySem PySem.Spec L2
open PyProof.Rows hiding St

/-! ### shapes of expressions -/
def starB : Expr → Bool
  | .Starred _ _ => true
  | _ => false
theorem star1 {e : Expr} (h : starB e = false) (es : List Expr) (env : PySem.Env) : starEach (e :: es) env = (false, eval e env) :: starEach es env := by
  cases e <;> first | rfl | (exact absurd h (by simp [starB]))
theorem nostar : ∀ {es : List Expr} (h : ∀ e ∈ es, starB e = false) (env : PySem.Env) (pos : Pos), (backTo pos (starEach es env)).any (·.1) = false
  | [], _, _, _ => rfl
  | e :: es, h, env, pos => by
    rw [star1 (h e List.mem_cons_self)]
    show (false || (backTo pos (starEach es env)).any (·.1)) = false
    rw [nostar (fun x hx => h x (List.mem_cons_of_mem _ hx))]
    rfl
theorem nostar_all : ∀ {es : List Expr} (h : ∀ e ∈ es, starB e = false) (env : PySem.Env) (pos : Pos), ((backTo pos (starEach es env)).all fun x => !x.1) = true
  | [], _, _, _ => rfl
  | e :: es, h, env, pos => by
    rw [star1 (h e List.mem_cons_self)]
    show (true && (backTo pos (starEach es env)).all (fun x => !x.1)) = true
    rw [nostar_all (fun x hx => h x (List.mem_cons_of_mem _ hx))]
    rfl
def callB : Expr → Bool
  | .Call (.Name _ _) [] [] _ => true
  | _ => false
theorem attrBase {o : Expr} (h : callB o = false) (m : Str) (env : PySem.Env) (w : Sem Value) : attributeBase o m env w = w := by
  unfold attributeBase
  split
  · rename_i id q pos
    exact absurd h (by simp [callB])
  · rfl
def sliceB : Expr → Bool
  | .Slice _ _ _ _ => true
  | _ => false
theorem plainIx {b : Expr} (h : sliceB b = false) : PlainIx b := by
  intro o i
  cases b <;> first | rfl | exact absurd h (by simp [sliceB])
def setB : Expr → Bool
  | .Set _ _ _ => true
  | _ => false
theorem noSet {e : Expr} (h : setB e = false) (env : PySem.Env) (x : Value) : foldedSetIterable e env x = pure x := by
  cases e <;> first | rfl | exact absurd h (by simp [setB])
theorem marks {e : Expr} (h : setB e = false) (op : CmpOp) : behindInMarks op e = false := by
  cases e <;> first | rfl | exact absurd h (by simp [setB])
theorem marks2 {b c : Expr} (h : setB c = false) (op op' : CmpOp) : lastMarks [op, op'] [b, c] = false := by
  show behindInMarks op' c = false
  exact marks h op'
/-- a test that is a value -/
def testB : Expr → Bool
  | .UnaryOp .Not _ _ => true
  | .BoolOp _ _ _ => true
  | .IfExp _ _ _ _ => true
  | .Compare _ _ _ _ => true
  | _ => false
theorem testVal {e : Expr} (h : testB e = false) (env : PySem.Env) (whole : Sem Value) : isTrue e env whole = (do let v ← whole; standAt e.pos; holding [v] (truthy v)) := by
  cases e <;> first | rfl | (rename_i op _ _; cases op <;> first | rfl | exact absurd h (by simp [testB])) | exact absurd h (by simp [testB])
def compB : Expr → Bool
  | .ListComp _ _ _ _ => true
  | .SetComp _ _ _ _ => true
  | .DictComp _ _ _ _ _ => true
  | _ => false
theorem noSwap {e : Expr} (h : compB e = false) (t : Option Expr) (l : Nat) (env : PySem.Env) : swapsWith e t l env = pure false := by
  cases e <;> first | rfl | exact absurd h (by simp [compB])

section
variable {X : Cx} {C : RC} {W : L2.WX} {fa fb fc : Env → Store → Out D} {a b c e o : Expr} {pos : Pos}
/-! ### expressions -/
theorem asTest (h : PE X e (tE C W fa)) (ht : testB e = false) : PT X e (tT C W fun ρ S => asB (fa ρ S)) := by
  refine (pt_val h fun w => testVal ht _ w).imp fun σ H Q q => ?_
  refine step1 q fun ι H S ρ d x w er r h => ?_
  cases d <;> first | exact h.elim | skip
  obtain rfl := r
  exact ⟨_, rfl, h.ok w rfl⟩
theorem se_var {i : Nat} {x : Str} (hN : X.N[i]? = some x) (hv : Vis X.env.scope x) (hd : (x == ("__debug__" : Str)) = false) (hcd : (x == ("__classdict__" : Str)) = false) :
    PE X (.Name x pos) (tE C W fun ρ S => match ρ[i]? with | some (some v) => some (.ok v S) | _ => none) := by
  refine (pe_var hN hv hd hcd).imp fun σ H Q ⟨ι, S, ρ, w, er, h⟩ => ?_
  dsimp only at h
  split at h
  · rename_i v e
    obtain ⟨y, e2, r⟩ := er.at_ i v e
    exact ⟨y, e2, h.ok w r⟩
  · exact h.elim
/-- a constant -/
theorem se_con {d : D} {v : V} (h : PE X e (tC v)) (r : ∀ ι H, Rep C ι H d v) : PE X e (tE C W fun _ S => some (.ok d S)) :=
  h.imp fun σ H Q ⟨ι, S, ρ, w, er, q⟩ => q.ok w (r _ _)
theorem se_dict0 : PE X (.Dict [] [] pos) (tE C W fun _ S => some (.ok (.dct [] []) S)) := by
  refine pe_dnewK.imp fun σ H Q ⟨ι, S, ρ, w, er, q⟩ => fun p hp => ?_
  exact q ι _ _ (Ext.new hp) (w.new hp) ⟨p, rfl, w.fr hp, upd_same, rfl, rfl⟩
theorem se_bin {op : Operator} {f : D → D → Store → Out D} (ho : OpR X (binaryOp op) (rOp C W f)) (ha : PE X a (tE C W fa)) (hb : PE X b (tE C W fb)) :
    PE X (.BinOp a op b pos) (tE C W fun ρ S => bnd (fa ρ S) fun x S => bnd (fb ρ S) fun y S => f x y S) :=
  (pe_op ho ha hb).imp fun σ H Q h => step2 (Rm := fun x r => r.mono x) h fun ι H S ρ a b x y w er ra rb q => ⟨ι, S, a, b, σ, w, ra, rb, q⟩
theorem se_neg (ha : PE X a (tE C W fa)) : PE X (.UnaryOp .USub a pos) (tE C W fun ρ S => bnd (fa ρ S) fun x S => match x with | .int i => some (.ok (.int (-i)) S) | _ => none) := by
  refine (pe_un un_neg ha).imp fun σ H Q h => step1 h fun ι H S ρ d x w er r q => ?_
  cases d <;> first | exact q.elim | skip
  obtain rfl := r
  exact ⟨_, rfl, q.ok w rfl⟩
theorem cmp_step {op : COp} {σ : St} {H : Hp} {Q : VK} (h : tE C W (fun ρ S => bnd (fa ρ S) fun x S => bnd (fb ρ S) fun y S => (cmp op (view S x) (view S y)).map fun b => .ok (.bl b) S) σ H Q) : tOp (rCmp C op) (tE C W fa) (tE C W fb) σ H Q := by
  refine step2 (Rm := fun x r => r.mono x) h fun ι H S ρ a b x y w er ra rb q => ?_
  cases e : cmp op (view S a) (view S b) with
  | none => rw [e] at q; exact q.elim
  | some k => rw [e] at q; exact ⟨ι, S, a, b, k, w, ra, rb, e, q.ok w rfl⟩
theorem se_cmp {op : COp} (ho : OpR X (compareOp (opOf op)) (rCmp C op)) (ha : PE X a (tE C W fa)) (hb : PE X b (tE C W fb)) (hs : setB b = false) :
    PE X (.Compare a [opOf op] [b] pos) (tE C W fun ρ S => bnd (fa ρ S) fun x S => bnd (fb ρ S) fun y S => (cmp op (view S x) (view S y)).map fun b => .ok (.bl b) S) :=
  (pe_cmpR ho ha hb (marks hs _)).imp fun σ H Q h => cmp_step h
theorem tT_of {f : Env → Store → Out D} {σ : St} {H : Hp} {Q : Bool → Hp → Prop} (h : tT C W (fun ρ S => asB (f ρ S)) σ H Q) : tE C W f σ H fun x H' => ∃ k, x = .bl k ∧ Q k H' := by
  refine step1 h fun ι H S ρ d x w er r q => ?_
  cases d <;> first | exact q.elim | skip
  obtain rfl := r
  exact ⟨_, rfl, q.ok w rfl⟩
theorem st_cmp {op : COp} (ho : OpR X (compareOp (opOf op)) (rCmp C op)) (ha : PE X a (tE C W fa)) (hb : PE X b (tE C W fb)) (hs : setB b = false) :
    PT X (.Compare a [opOf op] [b] pos) (tT C W fun ρ S => asB (bnd (fa ρ S) fun x S => bnd (fb ρ S) fun y S => (cmp op (view S x) (view S y)).map fun b => .ok (.bl b) S)) :=
  (pt_cmpR ho ha hb (marks hs _)).imp fun σ H Q h => cmp_step (tT_of h)
theorem chain_step {op op' : COp} {σ : St} {H : Hp} {Q : VK} (h : tE C W (fun ρ S => bnd (fa ρ S) fun x S => bnd (fb ρ S) fun y S => match cmp op (view S x) (view S y) with
    | some true => bnd (fc ρ S) fun z S => (cmp op' (view S y) (view S z)).map fun b => .ok (.bl b) S
    | some false => some (.ok (.bl false) S)
    | none => none) σ H Q) : tChain (rCmp C op) (rCmp C op') (tE C W fa) (tE C W fb) (tE C W fc) σ H Q := by
  refine step2 (Rm := fun x r => r.mono x) h fun ι H S ρ a b x y w er ra rb q => ?_
  cases e : cmp op (view S a) (view S b) with
  | none => rw [e] at q; exact q.elim
  | some k =>
    rw [e] at q
    refine ⟨ι, S, a, b, k, w, ra, rb, e, k, rfl, ?_⟩
    cases k with
    | false => exact q.ok w rfl
    | true =>
      refine ⟨ι, S, ρ, w, er, Fin.bnd (R := Rep C) q fun ι1 H1 S1 c z x1 w1 r1 q1 => ?_⟩
      cases e2 : cmp op' (view S1 b) (view S1 c) with
      | none => rw [e2] at q1; exact q1.elim
      | some k2 => rw [e2] at q1; exact ⟨ι1, S1, b, c, k2, w1, rb.mono x1, r1, e2, q1.ok w1 rfl⟩
theorem se_chain {op op' : COp} (ho : OpR X (compareOp (opOf op)) (rCmp C op)) (ho' : OpR X (compareOp (opOf op')) (rCmp C op')) (ha : PE X a (tE C W fa)) (hb : PE X b (tE C W fb)) (hc : PE X c (tE C W fc)) (hs : setB c = false) :
    PE X (.Compare a [opOf op, opOf op'] [b, c] pos) (tE C W fun ρ S => bnd (fa ρ S) fun x S => bnd (fb ρ S) fun y S => match cmp op (view S x) (view S y) with
    | some true => bnd (fc ρ S) fun z S => (cmp op' (view S y) (view S z)).map fun b => .ok (.bl b) S
    | some false => some (.ok (.bl false) S)
    | none => none) :=
  (pe_chain ho ho' ha hb hc (marks2 hs _ _)).imp fun σ H Q h => chain_step h
theorem st_chain {op op' : COp} (ho : OpR X (compareOp (opOf op)) (rCmp C op)) (ho' : OpR X (compareOp (opOf op')) (rCmp C op')) (ha : PE X a (tE C W fa)) (hb : PE X b (tE C W fb)) (hc : PE X c (tE C W fc)) (hs : setB c = false) :
    PT X (.Compare a [opOf op, opOf op'] [b, c] pos) (tT C W fun ρ S => asB (bnd (fa ρ S) fun x S => bnd (fb ρ S) fun y S => match cmp op (view S x) (view S y) with
    | some true => bnd (fc ρ S) fun z S => (cmp op' (view S y) (view S z)).map fun b => .ok (.bl b) S
    | some false => some (.ok (.bl false) S)
    | none => none)) :=
  (pt_chain ho ho' ha hb hc (marks2 hs _ _)).imp fun σ H Q h => chain_step (tT_of h)
/-! and, or, not -/
theorem and_step {fb : Env → Store → Out D} {σ : St} {H : Hp} {Q : VK} (h : tE C W (fun ρ S => bnd (asB (fa ρ S)) fun x S => if x then fb ρ S else some (.ok (.bl false) S)) σ H Q) : tAndV (tE C W fa) (tE C W fb) σ H Q := by
  obtain ⟨ι, S, ρ, w, er, h⟩ := h
  refine ⟨ι, S, ρ, w, er, ?_⟩
  unfold asB at h
  dsimp only at h
  cases e : fa ρ S with
  | none => rw [e] at h; exact h.elim
  | some r =>
    rw [e] at h
    cases r with
    | exc k r S => exact h
    | ok d S1 =>
      intro ι1 H1 x x1 w1 r1
      cases d <;> first | exact h.elim | skip
      obtain rfl := r1
      rename_i k
      refine ⟨k, rfl, ?_⟩
      have h := Fin.shift x1 (show Fin C W σ (Rep C) ι H (if k = true then fb ρ S1 else some (.ok (.bl false) S1)) Q from h)
      cases k with
      | true => exact ⟨ι1, S1, ρ, w1, er.mono x1, h⟩
      | false => exact Fin.ok (R := Rep C) h w1 rfl
theorem or_step {fb : Env → Store → Out D} {σ : St} {H : Hp} {Q : VK} (h : tE C W (fun ρ S => bnd (asB (fa ρ S)) fun x S => if x then some (.ok (.bl true) S) else fb ρ S) σ H Q) : tOrV (tE C W fa) (tE C W fb) σ H Q := by
  obtain ⟨ι, S, ρ, w, er, h⟩ := h
  refine ⟨ι, S, ρ, w, er, ?_⟩
  unfold asB at h
  dsimp only at h
  cases e : fa ρ S with
  | none => rw [e] at h; exact h.elim
  | some r =>
    rw [e] at h
    cases r with
    | exc k r S => exact h
    | ok d S1 =>
      intro ι1 H1 x x1 w1 r1
      cases d <;> first | exact h.elim | skip
      obtain rfl := r1
      rename_i k
      refine ⟨k, rfl, ?_⟩
      have h := Fin.shift x1 (show Fin C W σ (Rep C) ι H (if k = true then some (.ok (.bl true) S1) else fb ρ S1) Q from h)
      cases k with
      | false => exact ⟨ι1, S1, ρ, w1, er.mono x1, h⟩
      | true => exact Fin.ok (R := Rep C) h w1 rfl
theorem se_not (ha : PE X a (tE C W fa)) : PE X (.UnaryOp .Not a pos) (tE C W fun ρ S => bnd (asB (fa ρ S)) fun x S => some (.ok (.bl (!x)) S)) := by
  refine (pe_not ha).imp fun σ H Q h => ?_
  have h' : tT C W (fun ρ S => asB (fa ρ S)) σ H (fun k H' => Q (.bl (!k)) H') := step1 h fun ι H S ρ d x w er r q => by
    have r : d = x := r
    subst r
    exact q.ok w rfl
  obtain h2 := tT_of h'
  exact h2
theorem st_not (ha : PT X a (tT C W fun ρ S => asB (fa ρ S))) : PT X (.UnaryOp .Not a pos) (tT C W fun ρ S => asB (bnd (asB (fa ρ S)) fun x S => some (.ok (.bl (!x)) S))) := by
  refine (pt_not ha).imp fun σ H Q h => ?_
  obtain ⟨ι, S, ρ, w, er, h⟩ := h
  refine ⟨ι, S, ρ, w, er, ?_⟩
  dsimp only at h ⊢
  cases e : asB (fa ρ S) with
  | none => rw [e] at h; exact h
  | some r =>
    rw [e] at h
    cases r with
    | exc k r S => exact h
    | ok k S1 =>
      intro ι1 H1 x x1 w1 r1
      have r1 : k = x := r1
      subst r1
      exact h ι1 H1 _ x1 w1 rfl
theorem st_and (ha : PT X a (tT C W fun ρ S => asB (fa ρ S))) {es : List Expr} (hb : PW X (.BoolOp .And (b :: es) pos) (tT C W fun ρ S => asB (fb ρ S))) :
    PW X (.BoolOp .And (a :: b :: es) pos) (tT C W fun ρ S => asB (bnd (asB (fa ρ S)) fun x S => if x then fb ρ S else some (.ok (.bl false) S))) := by
  refine (pw_and ha hb).imp fun σ H Q h => ?_
  obtain ⟨ι, S, ρ, w, er, h⟩ := h
  refine ⟨ι, S, ρ, w, er, ?_⟩
  dsimp only at h ⊢
  cases e : asB (fa ρ S) with
  | none => rw [e] at h; exact h
  | some r =>
    rw [e] at h
    cases r with
    | exc k r S => exact h
    | ok k S1 =>
      intro ι1 H1 x x1 w1 r1
      have r1 : k = x := r1
      subst r1
      cases k with
      | true => exact ⟨ι1, S1, ρ, w1, er.mono x1, Fin.shift x1 h⟩
      | false => exact h ι1 H1 _ x1 w1 rfl
theorem st_or (ha : PT X a (tT C W fun ρ S => asB (fa ρ S))) {es : List Expr} (hb : PW X (.BoolOp .Or (b :: es) pos) (tT C W fun ρ S => asB (fb ρ S))) :
    PW X (.BoolOp .Or (a :: b :: es) pos) (tT C W fun ρ S => asB (bnd (asB (fa ρ S)) fun x S => if x then some (.ok (.bl true) S) else fb ρ S)) := by
  refine (pw_or ha hb).imp fun σ H Q h => ?_
  obtain ⟨ι, S, ρ, w, er, h⟩ := h
  refine ⟨ι, S, ρ, w, er, ?_⟩
  dsimp only at h ⊢
  cases e : asB (fa ρ S) with
  | none => rw [e] at h; exact h
  | some r =>
    rw [e] at h
    cases r with
    | exc k r S => exact h
    | ok k S1 =>
      intro ι1 H1 x x1 w1 r1
      have r1 : k = x := r1
      subst r1
      cases k with
      | false => exact ⟨ι1, S1, ρ, w1, er.mono x1, Fin.shift x1 h⟩
      | true => exact h ι1 H1 _ x1 w1 rfl
theorem se_ife (hc : PT X c (tT C W fun ρ S => asB (fc ρ S))) (ha : PE X a (tE C W fa)) (hb : PE X b (tE C W fb)) :
    PE X (.IfExp c a b pos) (tE C W fun ρ S => bnd (asB (fc ρ S)) fun x S => if x then fa ρ S else fb ρ S) := by
  refine (pe_ifExp hc ha hb).imp fun σ H Q h => step1 h fun ι H S ρ d x w er r q => ?_
  have r : d = x := r
  subst r
  cases d with
  | true => exact ⟨ι, S, ρ, w, er, q⟩
  | false => exact ⟨ι, S, ρ, w, er, q⟩
/-! subscripts, slices -/
theorem se_idx (hC : C.K = X.K) (ha : PE X a (tE C W fa)) (hb : PE X b (tE C W fb)) (hs : sliceB b = false) :
    PE X (.Subscript a b pos) (tE C W fun ρ S => bnd (fa ρ S) fun x S => bnd (fb ρ S) fun y S => idx (view S x) y S) :=
  (pe_ix (ix_idx hC) ha hb (plainIx hs)).imp fun σ H Q h => step2 (Rm := fun x r => r.mono x) h fun ι H S ρ a b x y w er ra rb q => ⟨ι, S, a, b, σ, w, ra, rb, q⟩
/-- an optional part -/
abbrev RO (C : RC) : List Addr → Hp → List D → Option Int → Prop := fun _ _ l o => (l = [] ∧ o = none) ∨ ∃ i, l = [.int i] ∧ o = some i
theorem se_slc (hC : C.K = X.K) {lo hi : Option Expr} {fl fh : Env → Store → Out (List D)} {p2 : Pos} (ha : PE X a (tE C W fa))
    (hl : PO X lo fun σ H Q => tG C W (RO C) fl σ H Q) (hh : PO X hi fun σ H Q => tG C W (RO C) fh σ H Q) :
    PE X (.Subscript a (.Slice lo hi none p2) pos) (tE C W fun ρ S => bnd (fa ρ S) fun x S => bnd (fl ρ S) fun l S => bnd (fh ρ S) fun h S => match l, h with
    | [], [] => slc (view S x) none none S
    | [.int i], [] => slc (view S x) (some i) none S
    | [], [.int j] => slc (view S x) none (some j) S
    | [.int i], [.int j] => slc (view S x) (some i) (some j) S
    | _, _ => none) := by
  refine (pe_slice (sl_slc (W := W) hC) ha hl hh).imp fun σ H Q h => ?_
  refine step1 h fun ι H S ρ d x w er r q => ?_
  refine ⟨ι, S, ρ, w, er, Fin.bnd (R := RO C) q fun ι1 H1 S1 l lo' x1 w1 r1 q1 => ?_⟩
  refine ⟨ι1, S1, ρ, w1, er.mono x1, Fin.bnd (R := RO C) q1 fun ι2 H2 S2 h hi' x2 w2 r2 q2 => ?_⟩
  refine ⟨ι2, S2, d, σ, w2, (r.mono x1).mono x2, ?_⟩
  rcases r1 with ⟨rfl, rfl⟩ | ⟨i, rfl, rfl⟩ <;> rcases r2 with ⟨rfl, rfl⟩ | ⟨j, rfl, rfl⟩ <;> exact q2
theorem po_noneD : PO X none fun σ H Q => tG C W (RO C) (fun _ S => some (.ok [] S)) σ H Q := by
  refine ⟨fun pins s σ H Q I h => ?_⟩
  obtain ⟨ι, S, ρ, w, er, h⟩ := h
  exact po_none.run pins s σ H Q I (h.ok w (.inl ⟨rfl, rfl⟩))
end
end Ev

set_option Elab.async false
set_option linter.all false
set_option maxRecDepth 100000
set_option maxHeartbeats 2000000
namespace Ev
open PySem PySem.Spec L2
open PyProof.Rows hiding St
section
variable {X : Cx} {C : RC} {W : L2.WX} {fa fb fc : Env → Store → Out D} {fl : Env → Store → Out (List D)} {a b c e o : Expr} {es : List Expr} {pos : Pos}
/-! ### rows of expressions -/
theorem sa_nil : PA X [] (tL C W fun _ S => some (.ok [] S)) := pa_nil.imp fun σ H Q ⟨ι, S, ρ, w, er, h⟩ => h.ok w rfl
theorem sa_cons (ha : PE X a (tE C W fa)) (hr : PA X es (tL C W fl)) (hs : starB a = false) :
    PA X (a :: es) (tL C W fun ρ S => bnd (fa ρ S) fun x S => bnd (fl ρ S) fun xs S => some (.ok (x :: xs) S)) :=
  (pa_cons ha hr (star1 hs _ _)).imp fun σ H Q h => step2 (Rm := fun x r => r.mono x) h fun ι H S ρ a b x y w er ra rb q => q.ok w ⟨x, y, rfl, ra, rb⟩
/-- a new list, frozen or of the store -/
theorem Fin.allocL {Q : VK} {σ : St} {ι : List Addr} {H : Hp} {S : Store} {ds : List D} {xs : List V} {m : Bool} (h : Fin C W σ (Rep C) ι H (alloc m (.lst ds) S) Q) (w : WRel C ι H S) (r : Reps C ι H ds xs) (l : ds.length ≤ lim) :
    ∀ p, H p = none → Q (.ref p) (upd H p (.lst xs)) := by
  cases m with
  | false => exact h.newL w r l
  | true =>
    intro p hp
    have x0 : Ext ι H (ι ++ [p]) (upd H p (.lst xs)) := ⟨⟨[p], rfl⟩, fun q u e n => ⟨by rw [upd_ne (ne_of_none e hp)]; exact e, by simp only [List.mem_append, List.mem_singleton, not_or]; exact ⟨n, ne_of_none e hp⟩⟩,
      fun q xs e => by rw [upd_ne (ne_of_none e hp)]; exact e, fun q u w e => by rw [upd_ne (ne_of_none e hp)]; exact e⟩
    obtain ⟨x1, w1⟩ := w.push (o := .lst xs) (ob := .lst ds) hp ⟨xs, upd_same, l, r.mono x0⟩
    exact h _ _ _ x1 w1 ⟨p, by rw [w.len, List.getElem?_append_right (Nat.le_refl _)]; simp, rfl⟩
/-- a row's length -/
def LenF (fl : Env → Store → Out (List D)) (n : Nat) : Prop := ∀ ρ S ds S', fl ρ S = some (.ok ds S') → ds.length = n
theorem tup_step {n : Nat} (hn : LenF fl n) (hl : n ≤ lim) {σ : St} {H : Hp} {Q : VK} (h : tE C W (fun ρ S => bnd (fl ρ S) fun xs S => some (.ok (.tup xs) S)) σ H Q) : tTup (tL C W fl) σ H Q := by
  obtain ⟨ι, S, ρ, w, er, h⟩ := h
  refine ⟨ι, S, ρ, w, er, ?_⟩
  dsimp only at h
  cases e : fl ρ S with
  | none => rw [e] at h; exact h
  | some r =>
    rw [e] at h
    cases r with
    | exc k r S => exact h
    | ok ds S1 =>
      intro ι1 H1 xs x1 w1 r1
      have hd := hn _ _ _ _ e
      exact ⟨by rw [← r1.length, ← lim_eq, hd]; exact hl, (Fin.shift x1 h).newT w1 r1 (by rw [hd]; exact hl)⟩
theorem se_tup {k : Nat} {n : Nat} (h : PA X es (tL C W fl)) (hn : LenF fl n) (hl : n ≤ lim) : PE X (.Tuple es k pos) (tE C W fun ρ S => bnd (fl ρ S) fun xs S => some (.ok (.tup xs) S)) :=
  (pe_tup h).imp fun σ H Q h => tup_step hn hl h
theorem se_lst {n : Nat} (m : Bool) (h : PA X es (tL C W fl)) (hn : LenF fl n) (hl : n ≤ lim) : PE X (.List es pos) (tE C W fun ρ S => bnd (fl ρ S) fun xs S => alloc m (.lst xs) S) := by
  refine (pe_lst h).imp fun σ H Q h => ?_
  obtain ⟨ι, S, ρ, w, er, h⟩ := h
  refine ⟨ι, S, ρ, w, er, ?_⟩
  dsimp only at h
  cases e : fl ρ S with
  | none => rw [e] at h; exact h
  | some r =>
    rw [e] at h
    cases r with
    | exc k r S => exact h
    | ok ds S1 =>
      intro ι1 H1 xs x1 w1 r1
      have hd := hn _ _ _ _ e
      exact ⟨by rw [← r1.length, ← lim_eq, hd]; exact hl, (Fin.shift x1 h).allocL w1 r1 (by rw [hd]; exact hl)⟩
/-! ### calls -/
/-- a def's promise: it does what the evaluator tells -/
def spOf (C : RC) (P : Prog) (d f : Nat) : Sp := fun vs H Q E => ∃ ι S ds, WRel C ι H S ∧ Reps C ι H ds vs ∧ Fin C (fun cls d _ H => E cls d H) [] (Rep C) ι H (call P d f ds S) Q
theorem Fin.wish {α β : Type} {R : List Addr → Hp → α → β → Prop} {W' : L2.WX} {σ σ' : St} {ι : List Addr} {H : Hp} {o : Out α} {Q : β → Hp → Prop} (h : Fin C W σ R ι H o Q) (k : ∀ c d H, W c d σ H → W' c d σ' H) : Fin C W' σ' R ι H o Q := by
  cases o with
  | none => exact h
  | some r =>
    cases r with
    | ok a S => exact h
    | exc c r S => exact fun ι' H' d Ca x w e q => k _ _ _ (h ι' H' d Ca x w e q)
theorem se_call {P : Prog} {d f : Nat} {k : Nat} {fa : Addr} {fd : FuncData} {ps : List Str} {x : Str} {p : Pos} (tk : Takes X W)
    (F : FnOk X.prog X.w X.K X.mg X.base (L2.CX X.prog X.w) k fa fd ps (spOf C P d f)) (hr : Room k X.A) (hg : Gl X x) (hm : X.mg x = some (.ref fa)) (hk : PySem.W.keepIn X.K (.ref fa) = true) (hb : Binds X.K fd ps [])
    (ha : PA X (e :: es) (tL C W fl)) (hdb : (x == ("__debug__" : Str)) = false) (hs : ∀ y ∈ e :: es, starB y = false) :
    PE X (.Call (.Name x p) (e :: es) [] pos) (tE C W fun ρ S => bnd (fl ρ S) fun xs S => call P d f xs S) := by
  refine (pe_callS F hr hg hm hk hb (fun σ => passAt tk σ) ha hdb (star1 (hs e List.mem_cons_self) _ _) (nostar (fun y hy => hs y (List.mem_cons_of_mem _ hy)) _ _)).imp fun σ H Q h => ?_
  refine step1 h fun ι H S ρ ds vs w er r q => ?_
  exact ⟨ι, S, ds, w, r, q.wish fun c d H z => z⟩
theorem se_blt {f : Bf} {id : String} {x : Str} {p : Pos} (hc : CallR X (.builtin id) (rBlt C W f)) (hg : Gl X x) (hm : X.mg x = none) (hv : bootBuiltins x = some (.builtin id)) (ha : PA X (e :: es) (tL C W fl))
    (hn : x ≠ "__name__") (hdb : (x == ("__debug__" : Str)) = false) (hs : ∀ y ∈ e :: es, starB y = false) :
    PE X (.Call (.Name x p) (e :: es) [] pos) (tE C W fun ρ S => bnd (fl ρ S) fun xs S => blt f xs S) :=
  (pe_callB hc hg hm hv ha hn hdb (star1 (hs e List.mem_cons_self) _ _) (nostar (fun y hy => hs y (List.mem_cons_of_mem _ hy)) _ _)).imp fun σ H Q h =>
    step1 h fun ι H S ρ ds vs w er r q => ⟨ι, S, ds, σ, w, r, q⟩
theorem se_bltT {f : Bf} {id : String} {x : Str} {p : Pos} (hc : CallR X (.type id) (rBlt C W f)) (hg : Gl X x) (hm : X.mg x = none) (hv : bootBuiltins x = some (.type id)) (ha : PA X (e :: es) (tL C W fl))
    (hn : x ≠ "__name__") (hdb : (x == ("__debug__" : Str)) = false) (hs : ∀ y ∈ e :: es, starB y = false) :
    PE X (.Call (.Name x p) (e :: es) [] pos) (tE C W fun ρ S => bnd (fl ρ S) fun xs S => blt f xs S) :=
  (pe_callTy hc hg hm hv ha hn hdb (star1 (hs e List.mem_cons_self) _ _) (nostar (fun y hy => hs y (List.mem_cons_of_mem _ hy)) _ _)).imp fun σ H Q h =>
    step1 h fun ι H S ρ ds vs w er r q => ⟨ι, S, ds, σ, w, r, q⟩
theorem se_isi (hC : C.K = X.K) {t : Ty} {tn : Str} {p p' : Pos} (ha : PE X a (tE C W fa)) (hg : Gl X "isinstance") (hm : X.mg "isinstance" = none) (hgt : Gl X tn) (hmt : X.mg tn = none) (hvt : bootBuiltins tn = some (.type (tyS t)))
    (hnt : tn ≠ "__name__") (hdt : (tn == ("__debug__" : Str)) = false) (hs : starB a = false) :
    PE X (.Call (.Name "isinstance" p) [a, .Name tn p'] [] pos) (tE C W fun ρ S => bnd (fa ρ S) fun x S => (isTy t S x).map fun b => .ok (.bl b) S) := by
  refine (pe_callB (cr_isT (W := W) hC t) hg hm (by decide +kernel) (pa_cons ha (pa_cons (pe_bltn hgt hmt hvt (v := .ty (tyS t)) rfl hnt hdt) pa_nil) (star1 hs _ _)) (by decide) (by decide) (star1 hs _ _) rfl).imp fun σ H Q h => ?_
  refine step1 h fun ι H S ρ d x w er r q => ?_
  cases e : isTy t S d with
  | none => rw [e] at q; exact q.elim
  | some b => rw [e] at q; exact ⟨ι, S, d, x, b, rfl, w, r, e, q.ok w rfl⟩
/-! ### methods -/
theorem ite_step {α β : Type} {R : List Addr → Hp → α → β → Prop} {σ : St} {ι : List Addr} {H : Hp} {c : Bool} {o : Out α} {Q : β → Hp → Prop} (h : Fin C W σ R ι H (if c then o else none) Q) : c = true ∧ Fin C W σ R ι H o Q := by
  cases c with
  | true => exact ⟨rfl, h⟩
  | false => exact h.elim
theorem isStr_rep {ι : List Addr} {H : Hp} {S : Store} {d : D} {v : V} (w : WRel C ι H S) (r : Rep C ι H d v) (h : isStr (view S d) = true) : ∃ z, v = .str z := by
  have va := view_rep w r
  generalize view S d = d' at va h
  cases d' <;> first | (cases h; done) | skip
  exact ⟨_, va.1⟩
theorem isLst_rep {ι : List Addr} {H : Hp} {S : Store} {d : D} {v : V} (w : WRel C ι H S) (r : Rep C ι H d v) (h : isLst (view S d) = true) : ∃ p xs, v = .ref p ∧ SqL C.K H p xs := by
  have va := view_rep w r
  generalize view S d = d' at va h
  cases d' <;> first | (cases h; done) | skip
  obtain ⟨p, xs, e, h1, _⟩ := va
  exact ⟨p, xs, e, h1⟩
theorem meth_step {f : Mf} (hf : f = .split ∨ f = .partition ∨ f = .join) {fo : Env → Store → Out D} {K : PySem.W.Frag} {σ : St} {H : Hp} {Q : VK}
    (h : tE C W (fun ρ S => bnd (fo ρ S) fun x S => if mthOk f (view S x) then bnd (fl ρ S) fun xs S => mth f (view S x) xs S else none) σ H Q) : tBM K "str" (rMth C W f) (tE C W fo) (tL C W fl) σ H Q := by
  refine step1 h fun ι H S ρ d x w er rd q => ?_
  obtain ⟨h1, q⟩ := ite_step q
  obtain ⟨z, rfl⟩ := isStr_rep w rd (by rcases hf with rfl | rfl | rfl <;> exact h1)
  refine ⟨rfl, ι, S, ρ, w, er, Fin.bnd (R := Reps C) q fun ι1 H1 S1 ds vs x1 w1 r1 q1 => ?_⟩
  have r2 := rd.mono x1
  exact ⟨ι1, S1, d, ds, σ, w1, r2, r1, q1⟩
theorem se_mth {f : Mf} {id : String} {m : Str} {apos : Pos} {fo : Env → Store → Out D} (hf : f = .split ∨ f = .partition ∨ f = .join) (slot : Slot "str" m id) (hty : typeOf (.builtin id) = pure (.type "method_descriptor")) (hm : MtR X id (rMth C W f))
    (ho : PE X o (tE C W fo)) (ha : PA X (e :: es) (tL C W fl)) (hb : callB o = false) (hs : ∀ y ∈ e :: es, starB y = false) (hlen : (e :: es).length < 29) (hline : (apos.endLine == pos.line) = true) :
    PE X (.Call (.Attribute o m apos) (e :: es) [] pos) (tE C W fun ρ S => bnd (fo ρ S) fun x S => if mthOk f (view S x) then bnd (fl ρ S) fun xs S => mth f (view S x) xs S else none) := by
  refine (pe_bm F.plainAttrs_str slot hty hm ho ha (attrBase hb _ _ _) ?_ hline (star1 (hs e List.mem_cons_self) _ _) (nostar (fun y hy => hs y (List.mem_cons_of_mem _ hy)) _ _)).imp fun σ H Q h => meth_step hf h
  rw [nostar_all hs]
  show (true && decide ((e :: es).length + 0 + 0 < 30)) = true
  rw [Bool.true_and]
  exact decide_eq_true (by omega)
theorem se_mut {f : Nat} {id : String} {m : Str} {apos : Pos} {fo : Env → Store → Out D} (slot : Slot "list" m id) (hty : typeOf (.builtin id) = pure (.type "method_descriptor")) (hm : MtR X id (rMut C W f)) (hC : C.K = X.K)
    (ho : PE X o (tE C W fo)) (ha : PA X (e :: es) (tL C W fl)) (hb : callB o = false) (hs : ∀ y ∈ e :: es, starB y = false) (hlen : (e :: es).length < 29) (hline : (apos.endLine == pos.line) = true) :
    PE X (.Call (.Attribute o m apos) (e :: es) [] pos) (tE C W fun ρ S => bnd (fo ρ S) fun x S => if isLst (view S x) then bnd (fl ρ S) fun xs S => mutate f x xs S else none) := by
  refine (pe_bm F.plainAttrs_list slot hty hm ho ha (attrBase hb _ _ _) ?_ hline (star1 (hs e List.mem_cons_self) _ _) (nostar (fun y hy => hs y (List.mem_cons_of_mem _ hy)) _ _)).imp fun σ H Q h => ?_
  · rw [nostar_all hs]
    show (true && decide ((e :: es).length + 0 + 0 < 30)) = true
    rw [Bool.true_and]
    exact decide_eq_true (by omega)
  · refine step1 h fun ι H S ρ d x w er rd q => ?_
    obtain ⟨h1, q⟩ := ite_step q
    obtain ⟨p, xs, rfl, h2⟩ := isLst_rep w rd h1
    refine ⟨.inl ⟨rfl, xs, hC ▸ h2⟩, ι, S, ρ, w, er, Fin.bnd (R := Reps C) q fun ι1 H1 S1 ds vs x1 w1 r1 q1 => ?_⟩
    exact ⟨ι1, S1, d, ds, σ, w1, rd.mono x1, r1, q1⟩
theorem se_mut0 {f : Nat} {id : String} {m : Str} {apos : Pos} {fo : Env → Store → Out D} (slot : Slot "list" m id) (hty : typeOf (.builtin id) = pure (.type "method_descriptor")) (hm : MtR X id (rMut C W f)) (hC : C.K = X.K)
    (ho : PE X o (tE C W fo)) (hb : callB o = false) (hline : (apos.endLine == pos.line) = true) :
    PE X (.Call (.Attribute o m apos) [] [] pos) (tE C W fun ρ S => bnd (fo ρ S) fun x S => if isLst (view S x) then bnd (some (.ok [] S)) fun xs S => mutate f x xs S else none) := by
  refine (pe_bm0 F.plainAttrs_list slot hty hm ho (attrBase hb _ _ _) hline).imp fun σ H Q h => ?_
  refine step1 h fun ι H S ρ d x w er rd q => ?_
  obtain ⟨h1, q⟩ := ite_step q
  obtain ⟨p, xs, rfl, h2⟩ := isLst_rep w rd h1
  exact ⟨.inl ⟨rfl, xs, hC ▸ h2⟩, ι, S, d, [], σ, w, rd, rfl, q⟩
end
end Ev

set_option Elab.async false
set_option linter.all false
set_option maxRecDepth 100000
set_option maxHeartbeats 2000000
namespace Ev
open PySem PySem.Spec L2
open PyProof.Rows hiding St
/-! ### what is walked -/
structure Yl (C : RC) (J : L2.It) (ι0 : List Addr) (H0 : Hp) (ds : List D) : Prop where
  go : ∀ ι H i d, Ext ι0 H0 ι H → ds[i]? = some d → J.go i H
  len : ds.length ≤ lim
  yld : ∀ C' ι H S i d x H', (C' = C ∨ ∃ q, H0 q = none ∧ C' = C.hide q) → Ext ι0 H0 ι H → WRel C' ι H S → ds[i]? = some d → J.yld i H x H' → Ext ι H ι H' ∧ WRel C' ι H' S ∧ Rep C' ι H' d x
  stop : ∀ ι H i, Ext ι0 H0 ι H → ds.length ≤ i → J.stop i H
abbrev RY (C : RC) : List Addr → Hp → List D → L2.It → Prop := fun ι H ds J => Yl C J ι H ds
section
variable {X : Cx} {C : RC} {W : L2.WX} {fe fa fb : Env → Store → Out D} {e a b tg : Expr} {pos : Pos}
theorem rep_or {C C' : RC} {ι : List Addr} {H : Hp} {d : D} {v : V} (h : C' = C ∨ ∃ q, H q = none ∧ C' = C.hide q) (r : Rep C ι H d v) : Rep C' ι H d v := by
  rcases h with rfl | ⟨q, hq, rfl⟩
  · exact r
  · exact Rep.hidden hq d v r
theorem yl_lst {ι : List Addr} {H : Hp} {p : Addr} {xs : List V} {ds : List D} (n : p ∉ ι) (h : H p = some (.lst xs)) (l : ds.length ≤ lim) (r : Reps C ι H ds xs) : Yl C (Itl C.K p) ι H ds where
  len := l
  go := fun ι1 H1 i d x e => by
    obtain ⟨v, h1, _⟩ := r.get e
    exact ⟨xs, v, .inl (.inl (x.keep _ _ h n).1), h1⟩
  yld := fun C' ι1 H1 S i d v H' hh x w e ⟨e1, e2⟩ => by
    subst e1
    obtain ⟨v', h1, h2⟩ := r.get e
    have := e2 xs (.inl (.inl (x.keep _ _ h n).1))
    rw [h1] at this
    cases this
    exact ⟨Ext.refl, w, (rep_or hh h2).mono x⟩
  stop := fun ι1 H1 i x e => ⟨xs, .inl (.inl (x.keep _ _ h n).1), by rw [← r.length]; exact e⟩
theorem yl_tup {ι : List Addr} {H : Hp} {p : Addr} {xs : List V} {ds : List D} (h : SqT C.K H p xs) (l : ds.length ≤ lim) (r : Reps C ι H ds xs) : Yl C (Itt C.K p) ι H ds where
  len := l
  go := fun ι1 H1 i d x e => by
    obtain ⟨v, h1, _⟩ := r.get e
    exact ⟨xs, v, x.seqT h, h1⟩
  yld := fun C' ι1 H1 S i d v H' hh x w e ⟨e1, e2⟩ => by
    subst e1
    obtain ⟨v', h1, h2⟩ := r.get e
    have := e2 xs (x.seqT h)
    rw [h1] at this
    cases this
    exact ⟨Ext.refl, w, (rep_or hh h2).mono x⟩
  stop := fun ι1 H1 i x e => ⟨xs, x.seqT h, by rw [← r.length]; exact e⟩
theorem yl_str {ι : List Addr} {H : Hp} {z : List Nat} (l : z.length ≤ lim) : Yl C (Its (toS z)) ι H (z.map fun c => D.str [c]) where
  len := by rw [List.length_map]; exact l
  go := fun ι1 H1 i d x e => by
    have := (List.getElem?_eq_some_iff.mp e).1
    show i < (toS z).cps.size
    simpa [toS] using this
  yld := fun C' ι1 H1 S i d v H' hh x w e ⟨e1, c, e2, e3⟩ => by
    subst e1; subst e3
    have e2 : z[i]? = some c := by simpa [toS] using e2
    rw [List.getElem?_map, e2] at e
    cases e
    exact ⟨Ext.refl, w, rfl, by show 1 ≤ lim; decide⟩
  stop := fun ι1 H1 i x e => by
    show (toS z).cps.size ≤ i
    simpa [toS] using e
theorem yl_rng {ι : List Addr} {H : Hp} {lo hi : Int} (l : hi - lo ≤ 1000000) : Yl C (Itr lo (hi - lo).toNat) ι H (rngL lo hi) where
  len := by
    rw [rngL, List.length_map, List.length_range]
    have : lim = 16777216 := rfl
    omega
  go := fun ι1 H1 i d x e => by
    have := (List.getElem?_eq_some_iff.mp e).1
    show i < (hi - lo).toNat
    rw [rngL, List.length_map, List.length_range] at this
    exact this
  yld := fun C' ι1 H1 S i d v H' hh x w e ⟨e1, e2⟩ => by
    subst e1; subst e2
    unfold rngL at e
    rw [List.getElem?_map, Option.map_eq_some_iff] at e
    obtain ⟨k, e, rfl⟩ := e
    rw [List.getElem?_eq_some_iff] at e
    obtain ⟨hl, e⟩ := e
    rw [List.getElem_range] at e
    subst e
    exact ⟨Ext.refl, w, rfl⟩
  stop := fun ι1 H1 i x e => by
    show (hi - lo).toNat ≤ i
    simpa [rngL] using e
theorem enumL_get : ∀ (ds : List D) (k i : Nat), (enumL k ds)[i]? = (ds[i]?).map fun d => D.tup [.int ((k + i : Nat) : Int), d]
  | [], k, i => by simp [enumL]
  | d :: ds, k, 0 => by simp [enumL]
  | d :: ds, k, i + 1 => by
    rw [enumL, List.getElem?_cons_succ, enumL_get ds (k + 1) i, List.getElem?_cons_succ]
    have : k + 1 + i = k + (i + 1) := by omega
    rw [this]
theorem enumL_len : ∀ (ds : List D) (k : Nat), (enumL k ds).length = ds.length
  | [], _ => rfl
  | _ :: ds, k => by rw [enumL, List.length_cons, enumL_len ds, List.length_cons]
theorem yl_enum {ι : List Addr} {H : Hp} {p : Addr} {xs : List V} {ds : List D} (n : p ∉ ι) (h : H p = some (.lst xs)) (l : ds.length ≤ lim) (r : Reps C ι H ds xs) : Yl C (Ite C.K p) ι H (enumL 0 ds) where
  len := by rw [enumL_len]; exact l
  go := fun ι1 H1 i d x e => by
    rw [enumL_get, Option.map_eq_some_iff] at e
    obtain ⟨d', e, _⟩ := e
    obtain ⟨v, h1, _⟩ := r.get e
    exact ⟨xs, v, .inl (.inl (x.keep _ _ h n).1), h1⟩
  yld := fun C' ι1 H1 S i d v H' hh x w e ⟨T, y, e1, hT, e2, e3⟩ => by
    subst e1; subst e2
    rw [enumL_get, Option.map_eq_some_iff] at e
    obtain ⟨d', e, rfl⟩ := e
    obtain ⟨v', h1, h2⟩ := r.get e
    have := e3 xs (.inl (.inl (x.keep _ _ h n).1))
    rw [h1] at this
    cases this
    refine ⟨Ext.new hT, w.new hT, T, _, rfl, .inl (.inl upd_same), by show 2 ≤ lim; decide, _, _, rfl, ?_, _, _, rfl, ((rep_or hh h2).mono x).mono (Ext.new hT), rfl⟩
    show V.int _ = V.int _
    simp
  stop := fun ι1 H1 i x e => ⟨xs, .inl (.inl (x.keep _ _ h n).1), by rw [← r.length, ← enumL_len ds 0]; exact e⟩
/-- a list, a tuple, a text -/
theorem pi_seq (hC : C.K = X.K) (ha : PE X e (tE C W fe)) : PI X tg e (tG C W (RY C) fun ρ S => bnd (fe ρ S) fun x S => match x with
    | .lst xs => some (.ok xs S)
    | .tup xs => some (.ok xs S)
    | .str xs => some (.ok (xs.map fun c => .str [c]) S)
    | _ => none) := by
  refine ⟨fun pins s σ H R I ⟨ι, S, ρ, w, er, h⟩ => ?_⟩
  dsimp only at h
  cases q : fe ρ S with
  | none => rw [q] at h; exact h.elim
  | some r =>
    rw [q] at h
    cases r with
    | exc c r S1 => exact (pi_list ha).run pins s σ H R I ⟨ι, S, ρ, w, er, by rw [q]; exact h⟩
    | ok d S1 =>
      cases d <;> first | exact h.elim | skip
      · refine pi_str ha |>.run pins s σ H R I ⟨ι, S, ρ, w, er, ?_⟩
        rw [q]
        intro ι1 H1 x x1 w1 ⟨r1, l1⟩
        exact ⟨_, r1, h ι1 H1 _ x1 w1 (yl_str l1)⟩
      · refine (pi_tup ha).run pins s σ H R I ⟨ι, S, ρ, w, er, ?_⟩
        rw [q]
        intro ι1 H1 x x1 w1 rr
        obtain ⟨p, xs, rfl, h1, l1, r1⟩ := rr
        have y1 := yl_tup h1 l1 r1
        rw [hC] at h1 y1
        exact ⟨p, rfl, ⟨xs, h1⟩, h ι1 H1 _ x1 w1 y1⟩
      · refine (pi_list ha).run pins s σ H R I ⟨ι, S, ρ, w, er, ?_⟩
        rw [q]
        intro ι1 H1 x x1 w1 rr
        obtain ⟨p, xs, rfl, n1, h1, l1, r1⟩ := rr
        have y1 := yl_lst n1.1 h1 l1 r1
        rw [hC] at y1
        exact ⟨p, rfl, ⟨xs, .inl (.inl h1)⟩, h ι1 H1 _ x1 w1 y1⟩
theorem rngOk_ok {i j : Int} (h : rngOk i j = true) : -(2 ^ 62) ≤ i ∧ i < 2 ^ 62 ∧ -(2 ^ 62) ≤ j ∧ j < 2 ^ 62 ∧ j - i ≤ 1000000 := by
  unfold rngOk at h
  rw [Bool.and_eq_true, Bool.and_eq_true, Bool.and_eq_true] at h
  have h1 := of_decide_eq_true h.1.1.1
  have h2 := of_decide_eq_true h.1.1.2
  have h3 := of_decide_eq_true h.1.2
  have h4 := of_decide_eq_true h.2
  omega
theorem pi_rng1 {p : Pos} (hg : Gl X "range") (hm : X.mg "range" = none) (ha : PE X e (tE C W fe)) (hs : starB e = false) :
    PI X tg (.Call (.Name "range" p) [e] [] pos) (tG C W (RY C) fun ρ S => bnd (fe ρ S) fun x S => match x with | .int j => if rngOk 0 j then some (.ok (rngL 0 j) S) else none | _ => none) := by
  refine ⟨fun pins s σ H R I h => (pi_range1 hg hm (pa_cons ha pa_nil (star1 hs _ _)) (star1 hs _ _)).run pins s σ H R I ?_⟩
  refine step1 h fun ι H S ρ d x w er r q => ?_
  cases d <;> first | exact q.elim | skip
  obtain rfl := r
  rename_i j
  obtain ⟨h1, q⟩ := ite_step q
  obtain ⟨_, _, h2, h3, h4⟩ := rngOk_ok h1
  refine ⟨j, rfl, h2, h3, q.ok w ?_⟩
  have := yl_rng (C := C) (ι := ι) (H := H) (lo := 0) (hi := j) h4
  simpa using this
theorem pi_rng2 {p : Pos} (hg : Gl X "range") (hm : X.mg "range" = none) (ha : PE X a (tE C W fa)) (hb : PE X b (tE C W fb)) (hs : starB a = false) (hs2 : starB b = false) :
    PI X tg (.Call (.Name "range" p) [a, b] [] pos) (tG C W (RY C) fun ρ S => bnd (fa ρ S) fun x S => bnd (fb ρ S) fun y S => match x, y with | .int i, .int j => if rngOk i j then some (.ok (rngL i j) S) else none | _, _ => none) := by
  refine ⟨fun pins s σ H R I h => (pi_range2 hg hm (pa_cons ha (pa_cons hb pa_nil (star1 hs2 _ _)) (star1 hs _ _)) ((star1 hs _ _).trans (by rw [star1 hs2]; rfl)) (star1 hs2 _ _)).run pins s σ H R I ?_⟩
  refine step2 (Rm := fun x r => r.mono x) h fun ι H S ρ d d' x y w er r r' q => ?_
  cases d <;> cases d' <;> first | exact q.elim | skip
  obtain rfl := r
  obtain rfl := r'
  obtain ⟨h1, q⟩ := ite_step q
  obtain ⟨h2, h3, h4, h5, h6⟩ := rngOk_ok h1
  exact ⟨_, _, rfl, ⟨h2, h3, h4, h5⟩, q.ok w (yl_rng h6)⟩
theorem pi_enumD (hC : C.K = X.K) {p tpos : Pos} {elts : List Expr} {kk : Nat} (hg : Gl X "enumerate") (hm : X.mg "enumerate" = none) (ha : PE X e (tE C W fe)) (hs : starB e = false) :
    PI X (.Tuple elts kk tpos) (.Call (.Name "enumerate" p) [e] [] pos) (tG C W (RY C) fun ρ S => bnd (fe ρ S) fun x S => match x with | .lst xs => some (.ok (enumL 0 xs) S) | _ => none) := by
  refine ⟨fun pins s σ H R I h => (pi_enum hg hm (pa_cons ha pa_nil (star1 hs _ _)) (star1 hs _ _)).run pins s σ H R I ?_⟩
  refine step1 h fun ι H S ρ d x w er r q => ?_
  cases d <;> first | exact q.elim | skip
  obtain ⟨p, xs, rfl, n1, h1, l1, r1⟩ := r
  have y1 := yl_enum n1.1 h1 l1 r1
  rw [hC] at y1
  exact ⟨p, xs, rfl, .inl (.inl h1), q.ok w y1⟩
/-! ### targets -/
def gNames : List Nat → TGs
  | [] => gNil
  | i :: is => gCons (gName i) (gNames is)
def gOf (K : PySem.W.Frag) (is : List Nat) (one : Bool) : TG := match is, one with
  | [i], true => gName i
  | is, _ => gTup K is.length (gNames is)
theorem setAll_rep {ι : List Addr} {H : Hp} : ∀ {is : List Nat} {ds : List D} {vs : List V} {ρ : Env} {σ : St}, is.length = ds.length → Reps C ι H ds vs → EnvRep C ι H ρ σ → ∀ {Q : St → Hp → Prop},
    (∀ σ', EnvRep C ι H ((is.zip ds).foldl (fun ρ p => ρ.set p.1 (some p.2)) ρ) σ' → Q σ' H) → gNames is vs σ H Q
  | [], [], _, ρ, σ, _, h, er, Q, k => by cases h; exact ⟨rfl, k σ er⟩
  | i :: is, d :: ds, _, ρ, σ, hl, ⟨v, r, e, h1, h2⟩, er, Q, k => ⟨v, r, e, setAll_rep (by simpa using hl) h2 (er.set h1) k⟩
  | [], _ :: _, _, _, _, hl, _, _, _, _ => by simp at hl
  | _ :: _, [], _, _, _, hl, _, _, _, _ => by simp at hl
theorem tg_step {ι : List Addr} {H : Hp} {ρ ρ1 : Env} {σ : St} {is : List Nat} {one : Bool} {d : D} {x : V} (h : setTg ρ is one d = some ρ1) (r : Rep C ι H d x) (er : EnvRep C ι H ρ σ) {Q : St → Hp → Prop} (k : ∀ σ', EnvRep C ι H ρ1 σ' → Q σ' H) : gOf C.K is one x σ H Q := by
  have gen : ∀ vs, d = .tup vs → is.length = vs.length → ρ1 = ((is.zip vs).foldl (fun ρ p => ρ.set p.1 (some p.2)) ρ) → gTup C.K is.length (gNames is) x σ H Q := fun vs hd hl hρ => by
    subst hd; subst hρ
    obtain ⟨p, xs, rfl, h1, l1, r1⟩ := r
    exact ⟨p, xs, rfl, h1, by rw [← r1.length, hl], setAll_rep hl r1 er k⟩
  unfold setTg at h
  split at h
  · cases h
    exact k _ (er.set r)
  · rename_i is' one' vs hne
    split at h
    · rename_i hl
      cases h
      have := gen vs rfl hl rfl
      unfold gOf
      split
      · exact (hne _ rfl rfl).elim
      · exact this
    · cases h
  · cases h
end
end Ev

set_option Elab.async false
set_option linter.all false
set_option maxRecDepth 100000
set_option maxHeartbeats 2000000
namespace Ev
open PySem PySem.Spec L2
open PyProof.Rows hiding St
/-! ### comprehensions -/
abbrev W0 : L2.WX := fun _ _ _ _ => False
theorem wipe_get (σ : St) : ∀ (vs : List Nat) (j : Nat), (wipe σ vs)[j]? = if j ∈ vs then (σ[j]?).map (fun _ => none) else σ[j]?
  | [], j => by simp [wipe]
  | v :: vs, j => by
    unfold wipe
    by_cases h : v = j
    · subst h
      simp only [List.mem_cons, true_or, if_true]
      by_cases hl : v < (wipe σ vs).length
      · rw [List.getElem?_set_self hl]
        have hl' : v < σ.length := by rwa [wipe_length] at hl
        rw [List.getElem?_eq_getElem hl']; rfl
      · rw [List.getElem?_eq_none (by simpa using hl)]
        have hl' : ¬ v < σ.length := by rwa [wipe_length] at hl
        rw [List.getElem?_eq_none (by omega)]; rfl
    · rw [List.getElem?_set_ne h, wipe_get σ vs j]
      have : (j ∈ v :: vs) = (j ∈ vs) := by simp [List.mem_cons, Ne.symm h]
      simp only [this]
theorem wipe_set {σ : St} {vs : List Nat} {i : Nat} {x : Option V} (h : i ∈ vs) : wipe (σ.set i x) vs = wipe σ vs := by
  apply List.ext_getElem?
  intro j
  rw [wipe_get, wipe_get]
  by_cases hj : j ∈ vs
  · rw [if_pos hj, if_pos hj]
    by_cases hij : i = j
    · subst hij
      by_cases hl : i < σ.length
      · rw [List.getElem?_set_self hl, List.getElem?_eq_getElem hl]; rfl
      · rw [List.getElem?_eq_none (by simpa using hl), List.getElem?_eq_none (by omega)]
    · rw [List.getElem?_set_ne hij]
  · rw [if_neg hj, if_neg hj, List.getElem?_set_ne (fun z => hj (by rw [← z]; exact h))]
theorem wipe_wipe (σ : St) (vs : List Nat) : wipe (wipe σ vs) vs = wipe σ vs := by
  apply List.ext_getElem?
  intro j
  rw [wipe_get, wipe_get]
  by_cases hj : j ∈ vs
  · rw [if_pos hj, if_pos hj, Option.map_map]; rfl
  · rw [if_neg hj, if_neg hj]
/-- the environment but for some places -/
structure EnvBut (C : RC) (ι : List Addr) (H : Hp) (vs : List Nat) (ρ : Env) (σ : St) : Prop where
  len : ρ.length = σ.length
  at_ : ∀ (i : Nat) (d : D), i ∉ vs → ρ[i]? = some (some d) → ∃ x, σ[i]? = some (some x) ∧ Rep C ι H d x
theorem EnvRep.but {C : RC} {ι : List Addr} {H : Hp} {vs : List Nat} {ρ : Env} {σ : St} (h : EnvRep C ι H ρ σ) : EnvBut C ι H vs ρ (wipe σ vs) := by
  refine ⟨by rw [wipe_length, h.len], fun i d hi e => ?_⟩
  obtain ⟨x, h1, h2⟩ := h.at_ i d e
  exact ⟨x, by rw [wipe_get, if_neg hi]; exact h1, h2⟩
theorem EnvBut.set {C : RC} {ι : List Addr} {H : Hp} {vs : List Nat} {ρ : Env} {σ : St} {i : Nat} {d : D} {v : V} (h : EnvBut C ι H (i :: vs) ρ σ) (r : Rep C ι H d v) : EnvBut C ι H vs (ρ.set i (some d)) (σ.set i (some v)) := by
  refine ⟨by simp [h.len], fun j d' hj e => ?_⟩
  by_cases hij : i = j
  · subst hij
    by_cases hl : i < ρ.length
    · rw [List.getElem?_set_self hl] at e
      cases e
      exact ⟨v, by rw [List.getElem?_set_self (by rw [← h.len]; exact hl)], r⟩
    · rw [List.getElem?_eq_none (by simpa using hl)] at e; cases e
  · rw [List.getElem?_set_ne hij] at e
    obtain ⟨x, h1, h2⟩ := h.at_ j d' (by simp only [List.mem_cons, not_or]; exact ⟨fun z => hij z.symm, hj⟩) e
    exact ⟨x, by rw [List.getElem?_set_ne hij]; exact h1, h2⟩
theorem EnvBut.full {C : RC} {ι : List Addr} {H : Hp} {ρ : Env} {σ : St} (h : EnvBut C ι H [] ρ σ) : EnvRep C ι H ρ σ := ⟨h.len, fun i d e => h.at_ i d (by simp) e⟩
section
variable {C : RC} {ι : List Addr} {H : Hp}
theorem setAllW {σ0 : St} {all : List Nat} : ∀ {is : List Nat} {ds : List D} {vs : List V} {ρ : Env} {σ : St}, is.length = ds.length → (∀ i ∈ is, i ∈ all) → wipe σ all = σ0 → Reps C ι H ds vs → EnvBut C ι H is ρ σ → ∀ {Q : St → Hp → Prop},
    (∀ σ', wipe σ' all = σ0 → EnvRep C ι H ((is.zip ds).foldl (fun ρ p => ρ.set p.1 (some p.2)) ρ) σ' → Q σ' H) → gNames is vs σ H Q
  | [], [], _, ρ, σ, _, _, hw, h, er, Q, k => by cases h; exact ⟨rfl, k σ hw er.full⟩
  | i :: is, d :: ds, _, ρ, σ, hl, ha, hw, ⟨v, r, e, h1, h2⟩, er, Q, k => ⟨v, r, e, setAllW (by simpa using hl) (fun j hj => ha j (List.mem_cons_of_mem _ hj)) (by rw [wipe_set (ha i List.mem_cons_self)]; exact hw) h2 (er.set h1) k⟩
  | [], _ :: _, _, _, _, hl, _, _, _, _, _, _ => by simp at hl
  | _ :: _, [], _, _, _, hl, _, _, _, _, _, _ => by simp at hl
theorem tgw_step {ρ ρ1 : Env} {σ : St} {is : List Nat} {one : Bool} {d : D} {x : V} (h : setTg ρ is one d = some ρ1) (r : Rep C ι H d x) (er : EnvBut C ι H is ρ (wipe σ is)) {Q : St → Hp → Prop}
    (k : ∀ σ', wipe σ' is = wipe σ is → EnvRep C ι H ρ1 σ' → Q σ' H) : gOf C.K is one x (wipe σ is) H Q := by
  have gen : ∀ vs, d = .tup vs → is.length = vs.length → ρ1 = ((is.zip vs).foldl (fun ρ p => ρ.set p.1 (some p.2)) ρ) → gTup C.K is.length (gNames is) x (wipe σ is) H Q := fun vs hd hl hρ => by
    subst hd; subst hρ
    obtain ⟨p, xs, rfl, h1, l1, r1⟩ := r
    exact ⟨p, xs, rfl, h1, by rw [← r1.length, hl], setAllW hl (fun _ z => z) (wipe_wipe σ is) r1 er k⟩
  unfold setTg at h
  split at h
  · cases h
    exact k _ (by rw [wipe_set List.mem_cons_self, wipe_wipe]) (er.set r).full
  · rename_i is' one' vs hne
    split at h
    · rename_i hl
      cases h
      have := gen vs rfl hl rfl
      unfold gOf
      split
      · exact (hne _ rfl rfl).elim
      · exact this
    · cases h
  · cases h
/-- the list is taken into the store -/
theorem RowRep.grow {H : Hp} {ι ι' : List Addr} {d : Option Addr} (k : ∀ dd fs, H dd = some (.xd fs) → dd ∉ ι → dd ∉ ι') : ∀ {r : List D}, RowRep ι H d r → RowRep ι' H d r
  | [], _ => trivial
  | [_], ⟨dd, fs, y, e, n, h, l, s⟩ => ⟨dd, fs, y, e, k _ _ h n, h, l, s⟩
mutual
theorem Rep.adopt {q : Addr} {ys : List V} (hq : H q = some (.lst ys)) : ∀ (d : D) (v : V), Rep (C.hide q) ι H d v → Rep C (ι ++ [q]) H d v
  | .non, _, h => h
  | .bl _, _, h => h
  | .int _, _, h => h
  | .str _, _, h => h
  | .tup ds, _, ⟨p, xs, e, h, l, r⟩ => ⟨p, xs, e, h, l, Reps.adopt hq ds xs r⟩
  | .lst ds, _, ⟨p, xs, e, n, h, l, r⟩ => ⟨p, xs, e, ⟨by simp only [List.mem_append, List.mem_singleton, not_or]; exact ⟨n.1, fun z => n.2 (by rw [z]; exact List.mem_cons_self)⟩, fun z => n.2 (List.mem_cons_of_mem _ z)⟩, h, l, Reps.adopt hq ds xs r⟩
  | .fz ds, _, ⟨p, xs, e, h, l, r⟩ => ⟨p, xs, e, h, l, Reps.adopt hq ds xs r⟩
  | .dct _ _, _, ⟨p, e, n, h, k⟩ => ⟨p, e, ⟨by simp only [List.mem_append, List.mem_singleton, not_or]; exact ⟨n.1, fun z => n.2 (by rw [z]; exact List.mem_cons_self)⟩, fun z => n.2 (List.mem_cons_of_mem _ z)⟩, h, k⟩
  | .ref n, _, ⟨p, h, e⟩ => ⟨p, by rw [List.getElem?_append_left (List.getElem?_eq_some_iff.mp h).1]; exact h, e⟩
  | .exn _ _, _, ⟨a, oe, d, Ca, e, h1, h2, h3, h4, h5⟩ => ⟨a, oe, d, Ca, e, h1, h2, h3, h4, h5.grow fun dd fs e n => by
      simp only [List.mem_append, List.mem_singleton, not_or]
      exact ⟨n, ne_of e hq (fun z => nomatch z)⟩⟩
theorem Reps.adopt {q : Addr} {ys : List V} (hq : H q = some (.lst ys)) : ∀ (ds : List D) (vs : List V), Reps (C.hide q) ι H ds vs → Reps C (ι ++ [q]) H ds vs
  | [], _, h => h
  | d :: ds, _, ⟨v, r, e, h1, h2⟩ => ⟨v, r, e, Rep.adopt hq d v h1, Reps.adopt hq ds r h2⟩
end
theorem WRel.adopt {S : Store} {q : Addr} {ys : List V} {ds : List D} (w : WRel (C.hide q) ι H S) (hq : H q = some (.lst ys)) (hc : q ∉ C.hid) (l : ds.length ≤ lim) (r : Reps (C.hide q) ι H ds ys) : WRel C (ι ++ [q]) H (S ++ [.lst ds]) := by
  have hn := (w.hid q List.mem_cons_self).2
  refine ⟨by simp [w.len], ?_, fun n o p e1 e2 => ?_, fun p hp => ?_⟩
  · rw [List.nodup_append]
    exact ⟨w.nd, by simp, fun a ha b hb e => by simp at hb; subst hb; subst e; exact hn ha⟩
  · by_cases hs : n < S.length
    · rw [List.getElem?_append_left hs] at e1
      rw [List.getElem?_append_left (by rw [← w.len]; exact hs)] at e2
      have := w.at_ n o p e1 e2
      cases o with
      | lst zs => obtain ⟨xs, h1, h2, h3⟩ := this; exact ⟨xs, h1, h2, h3.adopt hq⟩
      | dct ks vs => exact this
      | ins c fs => exact this
    · have hn' : n = S.length := by
        have := (List.getElem?_eq_some_iff.mp e1).1
        simp at this; omega
      subst hn'
      rw [List.getElem?_append_right (Nat.le_refl _)] at e1
      rw [List.getElem?_append_right (by rw [w.len]; exact Nat.le_refl _)] at e2
      simp at e1
      simp [w.len] at e2
      subst e1; subst e2
      exact ⟨ys, hq, l, r.adopt hq⟩
  · obtain ⟨h1, h2⟩ := w.hid p (List.mem_cons_of_mem _ hp)
    refine ⟨h1, ?_⟩
    simp only [List.mem_append, List.mem_singleton, not_or]
    exact ⟨h2, fun z => hc (z ▸ hp)⟩
theorem Ext.upd0 {ι' : List Addr} {H' : Hp} {q : Addr} {o : HO} (x : Ext ι H ι' H') (hq : H q = none) : Ext ι H ι' (upd H' q o) :=
  ⟨x.pre, fun p u h n => ⟨by rw [upd_ne (ne_of_none h hq)]; exact (x.keep p u h n).1, (x.keep p u h n).2⟩, fun p xs h => by rw [upd_ne (ne_of_none h hq)]; exact x.tups p xs h, fun p u w h => by rw [upd_ne (ne_of_none h hq)]; exact x.frzs p u w h⟩
theorem Ext.adopt {ι' : List Addr} {H' : Hp} {q : Addr} (x : Ext ι H ι' H') (hq : H q = none) : Ext ι H (ι' ++ [q]) H' := by
  obtain ⟨m, e⟩ := x.pre
  refine ⟨⟨m ++ [q], by rw [e, List.append_assoc]⟩, fun p u h n => ⟨(x.keep p u h n).1, ?_⟩, x.tups, x.frzs⟩
  simp only [List.mem_append, List.mem_singleton, not_or]
  exact ⟨(x.keep p u h n).2, ne_of_none h hq⟩
end
section
variable {X : Cx} {C : RC} {W : L2.WX} {fi : Env → Store → Out (List D)} {fc : Env → Store → Out Bool} {fe : Env → Store → Out D}
theorem comp_step {is : List Nat} {m : Bool} {σ : St} {H : Hp} {Q : VK}
    (h : tE C W (fun ρ S => bnd (fi ρ S) fun xs S => bnd (nox (compL (cturn is fc fe ρ) xs S)) fun ys S => alloc m (.lst ys) S) σ H Q) :
    tLc (tG C W (RY C) fi) (gOf C.K is (is.length == 1)) (fun σ H Q => ∃ D, tT (C.hide D) W0 fc σ H Q) (fun σ H Q => ∃ D, tE (C.hide D) W0 fe σ H Q) is σ H Q := by
  refine step1 h fun ι1 H1 S1 ρ ds J w1 er y q => ?_
  intro D hD
  -- the whole list
  cases ec : compL (cturn is fc fe ρ) ds S1 with
  | none => rw [ec] at q; exact q.elim
  | some r =>
  rw [ec] at q
  cases r with
  | exc c r S => exact q.elim
  | ok ys S2 =>
  replace q : Fin C W σ (Rep C) ι1 H1 (alloc m (.lst ys) S2) Q := q
  refine ⟨fun i k H' => k = ds.length - i ∧ i ≤ ds.length ∧ ∃ ι' S' accD accV rest, Ext ι1 H1 ι' H' ∧ WRel (C.hide D) ι' H' S' ∧ H' D = some (.lst accV) ∧ Reps (C.hide D) ι' H' accD accV ∧ accD.length ≤ i ∧
    compL (cturn is fc fe ρ) (ds.drop i) S' = some (.ok rest S2) ∧ ys = accD ++ rest, ⟨ds.length, by simp, Nat.zero_le _, ι1, S1, [], [], ys, Ext.new hD, w1.hidden hD, upd_same, rfl, Nat.le_refl _, by rw [List.drop_zero]; exact ec, rfl⟩, ?_⟩
  rintro i k H2 ⟨rfl, hi, ι2, S3, accD, accV, rest, x2, w2, hH, r2, hacc, hc, rfl⟩
  by_cases hlt : i < ds.length
  · right
    have hd : ds[i]? = some ds[i] := by simp [hlt]
    rw [List.drop_eq_getElem_cons hlt] at hc
    -- the turn
    have hc2 : bnd (cturn is fc fe ρ ds[i] S3) (fun y S1 => bnd (compL (cturn is fc fe ρ) (ds.drop (i + 1)) S1) fun ys S2 => some (.ok (match y with | some y => y :: ys | none => ys) S2)) = some (.ok rest S2) := hc
    refine ⟨y.go _ _ _ _ x2 hd, fun H' => ds.length - (i + 1) = ds.length - (i + 1) ∧ i + 1 ≤ ds.length ∧ ∃ ι' S' accD' accV' rest', Ext ι1 H1 ι' H' ∧ WRel (C.hide D) ι' H' S' ∧ H' D = some (.lst accV') ∧ Reps (C.hide D) ι' H' accD' accV' ∧ accD'.length ≤ i + 1 ∧
      compL (cturn is fc fe ρ) (ds.drop (i + 1)) S' = some (.ok rest' S2) ∧ accD ++ rest = accD' ++ rest', fun H' hN => ⟨ds.length - (i + 1), by omega, hN⟩, fun x H3 yx => ?_⟩
    obtain ⟨x3, w3, r3⟩ := y.yld (C.hide D) _ _ _ _ _ _ _ (.inr ⟨D, hD, rfl⟩) x2 w2 hd yx
    have hD2 := (w2.hid D List.mem_cons_self).2
    cases es : setTg ρ is (is.length == 1) ds[i] with
    | none => unfold cturn at hc2; rw [es] at hc2; cases hc2
    | some ρ1 =>
    have hc3 : bnd (bnd (fc ρ1 S3) fun b S => if b then bnd (fe ρ1 S) fun y S => some (.ok (some y) S) else some (.ok none S)) (fun y S1 => bnd (compL (cturn is fc fe ρ) (ds.drop (i + 1)) S1) fun ys S2 => some (.ok (match y with | some y => y :: ys | none => ys) S2)) = some (.ok rest S2) := by
      unfold cturn at hc2 ⊢
      rw [es] at hc2
      exact hc2
    have er3 : EnvBut (C.hide D) ι2 H3 is ρ (wipe σ is) := by
      have e1 := (er.but (vs := is))
      refine ⟨e1.len, fun j d hj e => ?_⟩
      obtain ⟨v, h1, h2⟩ := e1.at_ j d hj e
      exact ⟨v, h1, (Rep.hidden hD d v h2).mono (x2.trans x3)⟩
    refine tgw_step (C := C.hide D) es r3 er3 fun σ2 hw2 er2 => ⟨hw2, ?_⟩
    cases e4 : fc ρ1 S3 with
    | none => rw [e4] at hc3; cases hc3
    | some r =>
    rw [e4] at hc3
    cases r with
    | exc c r S => cases hc3
    | ok b S4 =>
    refine ⟨D, ι2, S3, ρ1, w3, er2, ?_⟩
    rw [e4]
    intro ι4 H4 b' x4 w4 hb
    have hb : b = b' := hb
    subst hb
    have hH4 : H4 D = some (.lst accV) := (x4.keep _ _ (x3.keep _ _ hH hD2).1 (x3.keep _ _ hH hD2).2).1
    have r4 : Reps (C.hide D) ι4 H4 accD accV := (r2.mono x3).mono x4
    cases b with
    | false =>
      replace hc3 : bnd (compL (cturn is fc fe ρ) (ds.drop (i + 1)) S4) (fun ys S2 => some (.ok ys S2)) = some (.ok rest S2) := hc3
      cases e5 : compL (cturn is fc fe ρ) (ds.drop (i + 1)) S4 with
      | none => rw [e5] at hc3; cases hc3
      | some r =>
        rw [e5] at hc3
        cases r with
        | exc c r S => cases hc3
        | ok rest' S5 =>
          cases hc3
          exact ⟨rfl, hlt, ι4, S4, accD, accV, rest, (x2.trans x3).trans x4, w4, hH4, r4, by omega, e5, rfl⟩
    | true =>
      replace hc3 : bnd (bnd (fe ρ1 S4) fun y S => some (.ok (some y) S)) (fun y S1 => bnd (compL (cturn is fc fe ρ) (ds.drop (i + 1)) S1) fun ys S2 => some (.ok (match y with | some y => y :: ys | none => ys) S2)) = some (.ok rest S2) := hc3
      cases e5 : fe ρ1 S4 with
      | none => rw [e5] at hc3; cases hc3
      | some r =>
      rw [e5] at hc3
      cases r with
      | exc c r S => cases hc3
      | ok z S5 =>
      refine ⟨D, ι4, S4, ρ1, w4, er2.mono x4, ?_⟩
      rw [e5]
      intro ι5 H5 v x5 w5 r5
      have hH5 : H5 D = some (.lst accV) := (x5.keep _ _ hH4 (w4.hid D List.mem_cons_self).2).1
      replace hc3 : bnd (compL (cturn is fc fe ρ) (ds.drop (i + 1)) S5) (fun ys S2 => some (.ok (z :: ys) S2)) = some (.ok rest S2) := hc3
      cases e6 : compL (cturn is fc fe ρ) (ds.drop (i + 1)) S5 with
      | none => rw [e6] at hc3; cases hc3
      | some r =>
        rw [e6] at hc3
        cases r with
        | exc c r S => cases hc3
        | ok rest' S6 =>
          cases hc3
          have hl := y.len
          have lm := lim_eq
          refine ⟨accV, hH5, by rw [← r2.length]; omega, rfl, hlt, ι5, S5, accD ++ [z], accV ++ [v], rest', (((x2.trans x3).trans x4).trans x5).upd0 hD, w5.upd, upd_same, ?_, by rw [List.length_append]; simp; omega, e6, by simp⟩
          have a1 := Reps.upd (u := .lst (accV ++ [v])) hH5 List.mem_cons_self accD accV (r4.mono x5)
          have a2 := Rep.upd (u := .lst (accV ++ [v])) hH5 List.mem_cons_self z v r5
          exact a1.snoc a2
  · left
    have hi' : i = ds.length := by omega
    subst hi'
    rw [List.drop_length] at hc
    cases hc
    refine ⟨y.stop _ _ _ x2 (Nat.le_refl _), ?_⟩
    rw [List.append_nil] at q
    have hl := y.len
    have hDh : D ∉ C.hid := (w1.fr hD).2
    cases m with
    | false => exact q ι2 H2 _ x2 w2.unhide ⟨D, accV, rfl, ⟨(w2.hid D List.mem_cons_self).2, hDh⟩, hH, by omega, r2.unhide⟩
    | true =>
      refine q (ι2 ++ [D]) H2 _ (x2.adopt hD) (w2.adopt hH hDh (by omega) r2) ⟨D, ?_, rfl⟩
      rw [w2.len, List.getElem?_append_right (Nat.le_refl _)]
      simp
end
end Ev

set_option Elab.async false
set_option linter.all false
set_option maxRecDepth 100000
set_option maxHeartbeats 2000000
namespace Ev
open PySem PySem.Spec L2
open PyProof.Rows hiding St
/-! ### statements -/
def FinS (C : RC) (W : L2.WX) (ι : List Addr) (H : Hp) (o : Out F) (D : Ends) : Prop := match o with
  | some (.ok (.nx ρ) S') => ∀ ι' H' σ', Ext ι H ι' H' → WRel C ι' H' S' → EnvRep C ι' H' ρ σ' → D.nx σ' H'
  | some (.ok (.bk ρ) S') => ∀ ι' H' σ', Ext ι H ι' H' → WRel C ι' H' S' → EnvRep C ι' H' ρ σ' → D.bk σ' H'
  | some (.ok (.ct ρ) S') => ∀ ι' H' σ', Ext ι H ι' H' → WRel C ι' H' S' → EnvRep C ι' H' ρ σ' → D.ct σ' H'
  | some (.ok (.rt d) S') => ∀ ι' H' x, Ext ι H ι' H' → WRel C ι' H' S' → Rep C ι' H' d x → D.rt x H'
  | some (.ok (.xc ρ c r) S') => ∀ ι' H' σ' d Ca, Ext ι H ι' H' → WRel C ι' H' S' → EnvRep C ι' H' ρ σ' → C.cls c = some Ca → RowRep ι' H' d r → W (.ref Ca) d σ' H'
  | some (.exc _ _ _) => False
  | none => False
def tSt (C : RC) (W : L2.WX) (f : Env → Store → Out F) : TS := fun D σ H => ∃ ι S ρ, WRel C ι H S ∧ EnvRep C ι H ρ σ ∧ FinS C W ι H (f ρ S) D
section
variable {C : RC} {W : L2.WX} {ι ι' : List Addr} {H H' : Hp} {o : Out F} {D : Ends} {σ : St} {ρ : Env} {S : Store}
theorem FinS.shift (x : Ext ι H ι' H') (h : FinS C W ι H o D) : FinS C W ι' H' o D := by
  cases o with
  | none => exact h
  | some r =>
    cases r with
    | exc c r S => exact h
    | ok f S =>
      cases f with
      | nx ρ => exact fun ι2 H2 σ' x2 w e => h ι2 H2 σ' (x.trans x2) w e
      | bk ρ => exact fun ι2 H2 σ' x2 w e => h ι2 H2 σ' (x.trans x2) w e
      | ct ρ => exact fun ι2 H2 σ' x2 w e => h ι2 H2 σ' (x.trans x2) w e
      | rt d => exact fun ι2 H2 y x2 w e => h ι2 H2 y (x.trans x2) w e
      | xc ρ c r => exact fun ι2 H2 σ' d Ca x2 w e => h ι2 H2 σ' d Ca (x.trans x2) w e
/-- other ends, but for the end that isn't reached -/
theorem FinS.ends {D' : Ends} (h : FinS C W ι H o D) (h1 : ∀ ρ S, o = some (.ok (.nx ρ) S) → ∀ ι' H' σ', Ext ι H ι' H' → WRel C ι' H' S → EnvRep C ι' H' ρ σ' → D'.nx σ' H')
    (h2 : ∀ ρ S, o = some (.ok (.bk ρ) S) → ∀ ι' H' σ', Ext ι H ι' H' → WRel C ι' H' S → EnvRep C ι' H' ρ σ' → D'.bk σ' H')
    (h3 : ∀ ρ S, o = some (.ok (.ct ρ) S) → ∀ ι' H' σ', Ext ι H ι' H' → WRel C ι' H' S → EnvRep C ι' H' ρ σ' → D'.ct σ' H') (h4 : D'.rt = D.rt) : FinS C W ι H o D' := by
  cases o with
  | none => exact h
  | some r =>
    cases r with
    | exc c r S => exact h
    | ok f S =>
      cases f with
      | nx ρ => exact h1 _ _ rfl
      | bk ρ => exact h2 _ _ rfl
      | ct ρ => exact h3 _ _ rfl
      | rt d => intro ι2 H2 y x2 w e; rw [h4]; exact h ι2 H2 y x2 w e
      | xc ρ c r => exact h
theorem FinS.bnd {α β : Type} {R : List Addr → Hp → α → β → Prop} {o : Out α} {g : α → Store → Out F} {K : β → Hp → Prop} (h : FinS C W ι H (bndS o ρ g) D) (er : EnvRep C ι H ρ σ)
    (k : ∀ ι1 H1 S1 a x, Ext ι H ι1 H1 → WRel C ι1 H1 S1 → R ι1 H1 a x → FinS C W ι1 H1 (g a S1) D → K x H1) : Fin C W σ R ι H o K := by
  cases o with
  | none => exact h
  | some r =>
    cases r with
    | ok a S => exact fun ι2 H2 y x2 w r => k ι2 H2 S a y x2 w r (FinS.shift x2 h)
    | exc c r S => exact fun ι2 H2 d Ca x2 w e q => h ι2 H2 σ d Ca x2 w (er.mono x2) e q
theorem stepS {α β : Type} {R : List Addr → Hp → α → β → Prop} {f : Env → Store → Out α} {g : Env → α → Store → Out F} {K : β → Hp → Prop} (h : tSt C W (fun ρ S => bndS (f ρ S) ρ (g ρ)) D σ H)
    (k : ∀ ι H S ρ a x, WRel C ι H S → EnvRep C ι H ρ σ → R ι H a x → FinS C W ι H (g ρ a S) D → K x H) : tG C W R f σ H K := by
  obtain ⟨ι, S, ρ, w, e, h⟩ := h
  exact ⟨ι, S, ρ, w, e, FinS.bnd h e fun ι1 H1 S1 a x x1 w1 r1 h1 => k ι1 H1 S1 ρ a x w1 (e.mono x1) r1 h1⟩
end
section
variable {X : Cx} {C : RC} {W : L2.WX} {fa fe fi' fv : Env → Store → Out D} {fb fs : Env → Store → Out F} {fl fi : Env → Store → Out (List D)} {e a i v tg iter : Expr} {pos : Pos}
theorem ss_asg {j : Nat} {x : Str} {px : Pos} (hN : X.N.Nodup) (hi : X.N[j]? = some x) (hx : Loc X.env.scope x) (hf : X.fn x = true ∨ X.env.scope.names.lookup x = some .local) (he : PE X e (tE C W fe)) (hs : swapsWith e (some (.Name x px)) pos.line X.env = pure false) :
    PS X (.Assign [.Name x px] e pos) (tSt C W fun ρ S => bndS (fe ρ S) ρ fun v S => some (.ok (.nx (ρ.set j (some v))) S)) :=
  (ps_set hN hi hx he hs hf).imp fun D σ H h => stepS h fun ι H S ρ a x w er r q => q ι H _ Ext.refl w (er.set r)
theorem ss_asgC {j : Nat} {x : Str} {px : Pos} {te : TE} {e : Expr} {σ : St} {H : Hp} {D : Ends} (h : tSt C W (fun ρ S => bndS (fe ρ S) ρ fun v S => some (.ok (.nx (ρ.set j (some v))) S)) D σ H) : tAsg (tE C W fe) (gName j) D σ H :=
  stepS h fun ι H S ρ a x w er r q => q ι H _ Ext.refl w (er.set r)
theorem ss_asgT {is : List Nat} (hC : C.K = X.K) (he : PE X e (tE C W fe)) (hg : PG X tg (gOf X.K is false)) (hs : swapsWithSole [tg] e pos.line X.env = pure false) (hw : swappedStores [tg] e X.env = pure none)
    (h1 : (assignEach [tg] X.env).map (·.2) = [assign tg X.env]) :
    PS X (.Assign [tg] e pos) (tSt C W fun ρ S => bndS (fe ρ S) ρ fun v S => match setTg ρ is false v with | some ρ => some (.ok (.nx ρ) S) | none => none) :=
  (ps_asg he hg hs hw h1).imp fun D σ H h => stepS h fun ι H S ρ a x w er r q => by
    cases es : setTg ρ is false a with
    | none => rw [es] at q; exact q.elim
    | some ρ1 =>
      rw [es] at q
      rw [← hC]
      exact tg_step es r er fun σ' e' => q ι H _ Ext.refl w e'
theorem ss_setix (he : PE X v (tE C W fv)) (hg : PG X tg (gSub (tE C W fa) (tE C W fi') (rSetix C))) (hs : swapsWithSole [tg] v pos.line X.env = pure false) (hw : swappedStores [tg] v X.env = pure none)
    (h1 : (assignEach [tg] X.env).map (·.2) = [assign tg X.env]) :
    PS X (.Assign [tg] v pos) (tSt C W fun ρ S => bndS (fv ρ S) ρ fun v S => bndS (fa ρ S) ρ fun x S => bndS (fi' ρ S) ρ fun k S => match setix x k v S with | some S => some (.ok (.nx ρ) S) | none => none) :=
  (ps_asg he hg hs hw h1).imp fun D σ H h => stepS h fun ι H S ρ a x w er r q => by
    refine ⟨ι, S, ρ, w, er, FinS.bnd (R := Rep C) q er fun ι1 H1 S1 b y x1 w1 r1 q1 => ?_⟩
    refine ⟨ι1, S1, ρ, w1, er.mono x1, FinS.bnd (R := Rep C) q1 (er.mono x1) fun ι2 H2 S2 c z x2 w2 r2 q2 => ?_⟩
    cases es : setix b c a S2 with
    | none => rw [es] at q2; exact q2.elim
    | some S3 =>
      rw [es] at q2
      exact ⟨ι2, S2, b, c, a, S3, w2, r1.mono x2, r2, (r.mono x1).mono x2, es, fun H3 x3 w3 => q2 ι2 H3 _ x3 w3 (((er.mono x1).mono x2).mono x3)⟩
theorem ss_expr (he : PE X e (tE C W fe)) (hs : swapsWith e none pos.line X.env = pure false) : PS X (.Expr e pos) (tSt C W fun ρ S => bndS (fe ρ S) ρ fun _ S => some (.ok (.nx ρ) S)) :=
  (ps_expr he hs).imp fun D σ H h => stepS h fun ι H S ρ a x w er r q => q ι H _ Ext.refl w er
theorem ss_ret (he : PE X e (tE C W fe)) : PS X (.Return (some e) pos) (tSt C W fun ρ S => bndS (fe ρ S) ρ fun v S => some (.ok (.rt v) S)) :=
  (ps_ret he).imp fun D σ H h => stepS h fun ι H S ρ a x w er r q => q ι H _ Ext.refl w r
theorem ss_retN : PS X (.Return none pos) (tSt C W fun ρ S => bndS (some (.ok .non S)) ρ fun v S => some (.ok (.rt v) S)) :=
  ps_retN.imp fun D σ H ⟨ι, S, ρ, w, er, q⟩ => q ι H _ Ext.refl w rfl
theorem ss_pass : PS X (.Pass pos) (tSt C W fun ρ S => some (.ok (.nx ρ) S)) := ps_pass.imp fun D σ H ⟨ι, S, ρ, w, er, q⟩ => q ι H _ Ext.refl w er
theorem ss_brk : PS X (.Break pos) (tSt C W fun ρ S => some (.ok (.bk ρ) S)) := ps_break.imp fun D σ H ⟨ι, S, ρ, w, er, q⟩ => q ι H _ Ext.refl w er
theorem ss_cont : PS X (.Continue pos) (tSt C W fun ρ S => some (.ok (.ct ρ) S)) := ps_continue.imp fun D σ H ⟨ι, S, ρ, w, er, q⟩ => q ι H _ Ext.refl w er
theorem sb_nil : PSs X [] (tSt C W fun ρ S => some (.ok (.nx ρ) S)) := pss_nil.imp fun D σ H ⟨ι, S, ρ, w, er, q⟩ => q ι H _ Ext.refl w er
theorem sb_cons {st : Stmt} {rest : List Stmt} (h1 : PS X st (tSt C W fs)) (h2 : PSs X rest (tSt C W fb)) :
    PSs X (st :: rest) (tSt C W fun ρ S => match fs ρ S with
      | some (.ok (.nx ρ) S) => fb ρ S
      | o => o) := by
  refine (pss_cons h1 h2).imp fun D σ H ⟨ι, S, ρ, w, er, q⟩ => ⟨ι, S, ρ, w, er, ?_⟩
  dsimp only at q
  cases e : fs ρ S with
  | none => rw [e] at q; exact q
  | some r =>
    rw [e] at q
    cases r with
    | exc c r S => exact q
    | ok f S1 =>
      cases f with
      | nx ρ1 => exact fun ι1 H1 σ1 x1 w1 e1 => ⟨ι1, S1, ρ1, w1, e1, FinS.shift x1 q⟩
      | bk ρ => exact q
      | ct ρ => exact q
      | rt d => exact q
      | xc ρ c r => exact q
theorem ss_if {c : Expr} {fc : Env → Store → Out D} {ta tb : List Stmt} (hc : PT X c (tT C W fun ρ S => asB (fc ρ S))) (ha : PSs X ta (tSt C W fs)) (hb : PSs X tb (tSt C W fb)) :
    PS X (.If c ta tb pos) (tSt C W fun ρ S => bndS (asB (fc ρ S)) ρ fun x S => if x then fs ρ S else fb ρ S) :=
  (ps_if hc ha hb).imp fun D σ H h => stepS h fun ι H S ρ a x w er r q => by
    have r : a = x := r
    subst r
    cases a with
    | true => exact ⟨ι, S, ρ, w, er, q⟩
    | false => exact ⟨ι, S, ρ, w, er, q⟩
/-! while -/
/-- it ends so, in so many turns -/
inductive WhlN (c : Env → Store → Out Bool) (b : Env → Store → Out F) : Nat → Env → Store → R F → Prop
  | go {n : Nat} {ρ ρ1 : Env} {S S1 S2 : Store} {r : R F} (h1 : c ρ S = some (.ok true S1)) (h2 : b ρ S1 = some (.ok (.nx ρ1) S2) ∨ b ρ S1 = some (.ok (.ct ρ1) S2)) (h : WhlN c b n ρ1 S2 r) : WhlN c b (n + 1) ρ S r
  | brk {ρ ρ1 : Env} {S S1 S2 : Store} (h1 : c ρ S = some (.ok true S1)) (h2 : b ρ S1 = some (.ok (.bk ρ1) S2)) : WhlN c b 0 ρ S (.ok (.nx ρ1) S2)
  | out {ρ : Env} {S S1 : Store} {r : R F} (h1 : c ρ S = some (.ok true S1)) (h2 : b ρ S1 = some r) (h3 : ∀ ρ S, r ≠ .ok (.nx ρ) S ∧ r ≠ .ok (.ct ρ) S ∧ r ≠ .ok (.bk ρ) S) : WhlN c b 0 ρ S r
  | done {ρ : Env} {S S1 : Store} (h1 : c ρ S = some (.ok false S1)) : WhlN c b 0 ρ S (.ok (.nx ρ) S1)
  | exc {ρ : Env} {S S1 : Store} {k : Nat} {r : List D} (h1 : c ρ S = some (.exc k r S1)) : WhlN c b 0 ρ S (.ok (.xc ρ k r) S1)
theorem whl_n {c : Env → Store → Out Bool} {b : Env → Store → Out F} : ∀ ρ S r, whl c b ρ S = some r → ∃ n, WhlN c b n ρ S r := by
  refine whl.partial_correctness c b (fun ρ S r => ∃ n, WhlN c b n ρ S r) fun wh ih ρ S r h => ?_
  cases e1 : c ρ S with
  | none => rw [e1] at h; cases h
  | some q =>
    rw [e1] at h
    cases q with
    | exc k r S1 => cases h; exact ⟨0, .exc e1⟩
    | ok t S1 =>
      cases t with
      | false => cases h; exact ⟨0, .done e1⟩
      | true =>
        dsimp only at h
        cases e2 : b ρ S1 with
        | none => rw [e2] at h; cases h
        | some q =>
          rw [e2] at h
          cases q with
          | exc k r S2 => cases h; exact ⟨0, .out e1 e2 fun _ _ => ⟨nofun, nofun, nofun⟩⟩
          | ok f S2 =>
            cases f with
            | nx ρ1 => obtain ⟨n, hn⟩ := ih _ _ _ h; exact ⟨n + 1, .go e1 (.inl e2) hn⟩
            | ct ρ1 => obtain ⟨n, hn⟩ := ih _ _ _ h; exact ⟨n + 1, .go e1 (.inr e2) hn⟩
            | bk ρ1 => cases h; exact ⟨0, .brk e1 e2⟩
            | rt d => cases h; exact ⟨0, .out e1 e2 fun _ _ => ⟨nofun, nofun, nofun⟩⟩
            | xc ρ k r => cases h; exact ⟨0, .out e1 e2 fun _ _ => ⟨nofun, nofun, nofun⟩⟩
theorem ss_while {c : Expr} {fc : Env → Store → Out D} {body : List Stmt} (hp : PassesOwn (model X.prog X.w) X.A X.env X.xe) (hc : PT X c (tT C W fun ρ S => asB (fc ρ S))) (hb : PSs X body (tSt C W fb)) :
    PS X (.While c body [] pos) (tSt C W fun ρ S => whl (fun ρ S => asB (fc ρ S)) fb ρ S) := by
  refine (ps_while hp hc hb).imp fun D σ H ⟨ι, S, ρ, w, er, q⟩ => ?_
  dsimp only at q
  cases e : whl (fun ρ S => asB (fc ρ S)) fb ρ S with
  | none => rw [e] at q; exact q.elim
  | some r =>
    rw [e] at q
    obtain ⟨n, hn⟩ := whl_n _ _ _ e
    refine ⟨fun m σ H => ∃ ι S ρ, WRel C ι H S ∧ EnvRep C ι H ρ σ ∧ WhlN (fun ρ S => asB (fc ρ S)) fb m ρ S r ∧ FinS C W ι H (some r) D, ⟨n, ι, S, ρ, w, er, hn, q⟩, ?_⟩
    rintro m σ H ⟨ι, S, ρ, w, er, hn, q⟩
    refine ⟨ι, S, ρ, w, er, ?_⟩
    cases hn with
    | go h1 h2 hn =>
      dsimp only
      rw [h1]
      intro ι1 H1 b x1 w1 hb
      have hb : true = b := hb
      subst hb
      rw [if_pos rfl]
      refine ⟨fun σ' H' => ∃ m', m' < _ ∧ ∃ ι S ρ, WRel C ι H' S ∧ EnvRep C ι H' ρ σ' ∧ WhlN (fun ρ S => asB (fc ρ S)) fb m' ρ S r ∧ FinS C W ι H' (some r) D, fun σ' H' z => z, ι1, _, ρ, w1, er.mono x1, ?_⟩
      rcases h2 with h2 | h2
      · rw [h2]; exact fun ι2 H2 σ2 x2 w2 e2 => ⟨_, Nat.lt_succ_self _, ι2, _, _, w2, e2, hn, FinS.shift (x1.trans x2) q⟩
      · rw [h2]; exact fun ι2 H2 σ2 x2 w2 e2 => ⟨_, Nat.lt_succ_self _, ι2, _, _, w2, e2, hn, FinS.shift (x1.trans x2) q⟩
    | brk h1 h2 =>
      dsimp only
      rw [h1]
      intro ι1 H1 b x1 w1 hb
      have hb : true = b := hb
      subst hb
      rw [if_pos rfl]
      refine ⟨fun _ _ => False, fun _ _ z => z.elim, ι1, _, ρ, w1, er.mono x1, ?_⟩
      rw [h2]
      exact fun ι2 H2 σ2 x2 w2 e2 => FinS.shift x1 q ι2 H2 σ2 x2 w2 e2
    | out h1 h2 h3 =>
      dsimp only
      rw [h1]
      intro ι1 H1 b x1 w1 hb
      have hb : true = b := hb
      subst hb
      rw [if_pos rfl]
      refine ⟨fun _ _ => False, fun _ _ z => z.elim, ι1, _, ρ, w1, er.mono x1, ?_⟩
      rw [h2]
      refine (FinS.shift x1 q).ends (fun ρ S e => ?_) (fun ρ S e => ?_) (fun ρ S e => ?_) rfl
      · cases e; exact absurd rfl (h3 ρ S).1
      · cases e; exact absurd rfl (h3 ρ S).2.2
      · cases e; exact absurd rfl (h3 ρ S).2.1
    | done h1 =>
      dsimp only
      rw [h1]
      intro ι1 H1 b x1 w1 hb
      have hb : false = b := hb
      subst hb
      rw [if_neg Bool.false_ne_true]
      exact q ι1 H1 _ x1 w1 (er.mono x1)
    | exc h1 =>
      dsimp only
      rw [h1]
      exact fun ι2 H2 d Ca x2 w2 e2 q2 => q ι2 H2 _ d Ca x2 w2 (er.mono x2) e2 q2
theorem ss_for {is : List Nat} {one : Bool} {body : List Stmt} (hns : setB iter = false) (hC : C.K = X.K) (hp : PassesOwn (model X.prog X.w) X.A X.env X.xe) (hc : X.calm = true) (hi : PI X tg iter (tG C W (RY C) fi)) (hg : PG X tg (gOf X.K is one)) (hb : PSs X body (tSt C W fb)) :
    PS X (.For tg iter body [] pos) (tSt C W fun ρ S => bndS (fi ρ S) ρ fun xs S => forL is one fb xs ρ S) := by
  refine (ps_for hp hc hi hg hb (hs := noSet hns _)).imp fun D σ H h => stepS h fun ι1 H1 S1 ρ ds J w1 er1 y q => ?_
  refine ⟨fun i m σ H => m = ds.length - i ∧ i ≤ ds.length ∧ ∃ ι S ρ, Ext ι1 H1 ι H ∧ WRel C ι H S ∧ EnvRep C ι H ρ σ ∧ FinS C W ι H (forL is one fb (ds.drop i) ρ S) D,
    ⟨ds.length, by simp, Nat.zero_le _, ι1, S1, ρ, Ext.refl, w1, er1, by rw [List.drop_zero]; exact q⟩, ?_⟩
  rintro i m σ H ⟨rfl, hi, ι, S, ρ, x, w, er, q⟩
  by_cases hlt : i < ds.length
  · right
    have hd : ds[i]? = some ds[i] := by simp [hlt]
    rw [List.drop_eq_getElem_cons hlt] at q
    refine ⟨y.go _ _ _ _ x hd, fun σ H => ds.length - (i + 1) = ds.length - (i + 1) ∧ i + 1 ≤ ds.length ∧ ∃ ι S ρ, Ext ι1 H1 ι H ∧ WRel C ι H S ∧ EnvRep C ι H ρ σ ∧ FinS C W ι H (forL is one fb (ds.drop (i + 1)) ρ S) D, fun σ' H' hN => ⟨_, by omega, hN⟩, fun v H2 yx => ?_⟩
    obtain ⟨x2, w2, r2⟩ := y.yld C _ _ _ _ _ _ _ (.inl rfl) x w hd yx
    rw [forL] at q
    cases es : setTg ρ is one ds[i] with
    | none => rw [es] at q; exact q.elim
    | some ρ1 =>
      rw [es] at q
      dsimp only at q
      rw [← hC]
      refine tg_step es r2 (er.mono x2) fun σ2 er2 => ⟨ι, S, ρ1, w2, er2, ?_⟩
      cases eb : fb ρ1 S with
      | none => rw [eb] at q; exact q.elim
      | some r =>
        rw [eb] at q
        cases r with
        | exc c r S => exact q.elim
        | ok f S3 =>
          cases f with
          | nx ρ2 => exact fun ι3 H3 σ3 x3 w3 e3 => ⟨rfl, hlt, ι3, S3, ρ2, (x.trans x2).trans x3, w3, e3, FinS.shift (x2.trans x3) q⟩
          | ct ρ2 => exact fun ι3 H3 σ3 x3 w3 e3 => ⟨rfl, hlt, ι3, S3, ρ2, (x.trans x2).trans x3, w3, e3, FinS.shift (x2.trans x3) q⟩
          | bk ρ2 => exact fun ι3 H3 σ3 x3 w3 e3 => q ι3 H3 σ3 (x2.trans x3) w3 e3
          | rt d => exact fun ι3 H3 v3 x3 w3 e3 => q ι3 H3 v3 (x2.trans x3) w3 e3
          | xc ρ2 c r => exact fun ι3 H3 σ3 d Ca x3 w3 e3 => q ι3 H3 σ3 d Ca (x2.trans x3) w3 e3
  · left
    have hi' : i = ds.length := by omega
    subst hi'
    rw [List.drop_length] at q
    exact ⟨y.stop _ _ _ x (Nat.le_refl _), q ι H _ Ext.refl w er⟩
/-- raise C('..'), C without an __init__ of its own -/
theorem ss_raise0 {c : Nat} {x m : Str} {j : Nat} {p p2 p3 : Pos} {Ca : Addr} {B newId initId : String} {bmB : List Value} (hc : X.calm = true) (tk : Takes X W) (F : ExcBaseFacts B newId initId bmB) (q : PySem.W.excIn X.K Ca bmB newId = true) (gC : X.mg x = some (.ref Ca))
    (kC : PySem.W.keepIn X.K (.ref Ca) = true) (r : Raises X (.ref Ca)) (hg : Gl X x) (hdb : (x == ("__debug__" : Str)) = false) (hcl : C.cls c = some Ca) :
    PS X (.Raise (some (.Call (.Name x p) [.Constant (.str m) j p2] [] p3)) none pos) (tSt C W fun ρ S => bndS (some (.ok [] S)) ρ fun xs S => some (.ok (.xc ρ c xs) S)) :=
  (ps_raise hc tk (pmk_own F q gC kC r hg hdb)).imp fun D σ H ⟨ι, S, ρ, w, er, h⟩ => h ι H σ none Ca Ext.refl w er hcl trivial
end
end Ev

set_option Elab.async false
set_option linter.all false
set_option maxRecDepth 100000
set_option maxHeartbeats 2000000
namespace HT
open PySem PySem.Spec L2
open PyProof.Rows hiding St
section
variable {prog : Program} {w : World} {A : Around} {E : Value → Shared → Prop} {s : Shared}
theorem places_rev (n : Nat) : Builtin.Slice.sliceAdjust none none (-1) (n : Int) = ((n : Int) - 1, -1) ∧ Builtin.Slice.slicePlaces ((n : Int) - 1) (-1) (-1) = n := by
  constructor
  · unfold Builtin.Slice.sliceAdjust
    simp
  · unfold Builtin.Slice.slicePlaces
    rw [if_neg (by decide)]
    by_cases h : (n : Int) - 1 > -1
    · rw [if_pos h]
      have : ((n : Int) - 1 - -1 - 1) / (- -1) + 1 = (n : Int) := by
        rw [show (- -1 : Int) = 1 by decide, Int.ediv_one]
        omega
      rw [this]
      rfl
    · rw [if_neg h]
      have : n = 0 := by omega
      subst this
      rfl
theorem sliceApplied_rev {sl : Addr} {vl vu vs : Value} {n : Nat} {Q : Int × Int × Nat → Shared → Prop} (hs : s.heap.IsSliceOf sl vl vu vs) (pl : IsPart vl none) (pu : IsPart vu none) (ps : IsPart vs (some (-1)))
    (h : Q ((n : Int) - 1, -1, n) s) : wpAny (model prog w) A (Builtin.Slice.sliceApplied (.ref sl) (pure (n : Int))) Q E s := by
  obtain ⟨os, hos, hcs, hds⟩ := id hs
  unfold Builtin.Slice.sliceApplied Builtin.Slice.sliceFields
  refine wpAny_bind (wpAny_bind (wpAny_field hos hds (x := vl) rfl (wpAny_bind (wpAny_field hos hds (x := vu) rfl (wpAny_bind (wpAny_field hos hds (x := vs) rfl (wpAny_pure ?_)))))))
  refine wpAny_bind (slicePart_ ps ?_)
  show wpAny _ _ (if ((-1 : Int) == 0) = true then _ else _) _ _ s
  rw [if_neg (by decide)]
  refine wpAny_bind (slicePart_ pl (wpAny_bind (slicePart_ pu (wpAny_bind (wpAny_pure ?_)))))
  show wpAny _ _ (match Builtin.Slice.sliceAdjust none none (-1) (n : Int) with | (lo, hi) => pure (lo, (-1 : Int), Builtin.Slice.slicePlaces lo hi (-1))) _ _ s
  rw [(places_rev n).1]
  show wpAny _ _ (pure ((n : Int) - 1, (-1 : Int), Builtin.Slice.slicePlaces ((n : Int) - 1) (-1) (-1))) _ _ s
  rw [(places_rev n).2]
  exact wpAny_pure h
theorem fm_congr {α β : Type} {f g : α → Option β} : ∀ {l : List α}, (∀ a ∈ l, f a = g a) → l.filterMap f = l.filterMap g
  | [], _ => rfl
  | a :: l, h => by
    rw [List.filterMap_cons, List.filterMap_cons, h a List.mem_cons_self, fm_congr (l := l) fun b hb => h b (List.mem_cons_of_mem _ hb)]
theorem pick_rev (xs : Array Value) : ((List.range xs.size).filterMap fun (m : Nat) => xs[(((xs.size : Int) - 1) + (m : Int) * -1).toNat]?).toArray = xs.toList.reverse.toArray := by
  have e : ((List.range xs.size).filterMap fun (m : Nat) => xs[(((xs.size : Int) - 1) + (m : Int) * -1).toNat]?) = ((List.range xs.size).map fun k => xs.size - 1 - k).filterMap (xs[·]?) := by
    rw [List.filterMap_map]
    refine fm_congr fun m hm => ?_
    have : (((xs.size : Int) - 1) + (m : Int) * -1).toNat = xs.size - 1 - m := by omega
    show xs[(((xs.size : Int) - 1) + (m : Int) * -1).toNat]? = xs[xs.size - 1 - m]?
    rw [this]
  rw [e, PySem.W.krv_range, List.filterMap_reverse, PySem.W.krv_all]
theorem getItem_tuple_rev {t sl : Addr} {items : Array Value} {vl vu vs : Value} {Q : Value → Shared → Prop} (ht : IsTup s.heap t items) (hs : s.heap.IsSliceOf sl vl vu vs) (pl : IsPart vl none) (pu : IsPart vu none) (ps : IsPart vs (some (-1)))
    (h : Q (.ref s.heap.objs.size) { s with heap := s.heap.push { cls := .type "tuple", data := .seq items.toList.reverse.toArray } })
    (hsz : items.size ≤ sizeLine) : wpAny (model prog w) A (getItem (.ref t) (.ref sl)) Q E s := by
  have htake : sizeOk (.seq items.toList.reverse.toArray) := by
    show items.toList.reverse.toArray.size ≤ sizeLine
    rw [List.size_toArray, List.length_reverse, Array.length_toList]
    exact hsz
  obtain ⟨os, hos, hcs, hds⟩ := id hs
  have hTs : s.TypeIs (.ref sl) "slice" := ⟨os, hos, hcs⟩
  unfold getItem
  try with_reducible refine wpAny_holding ?_
  first | refine wpAny_bind (wpAny_pure ?_) | skip
  refine wpAny_bind (wpAny_sequenceKey ht.typeIs (by decide) ?_)
  refine wpAny_bind (wpAny_callSpecial?_slot (name := Str.ofString "__getitem__") ht.typeIs PyProof.Rows.slot_tuple_getitem
    (wpAny_call_entry PyProof.Rows.slot_tuple_getitem ht.typeIs entry_tuple_getitem ?_ (args_tuple_getitem _ _)))
  show wpAny _ _ (Builtin.Tuple.tupleItemsOf (.ref t) >>= _) _ _ s
  refine wpAny_bind (tupleItemsOf_ ht ?_)
  refine wpAny_bind (wpAny_typeOf hTs ?_)
  rw [if_pos (by decide)]
  refine wpAny_bind (sliceApplied_rev hs pl pu ps ?_)
  show wpAny _ _ (if (((items.size : Int) - 1) == 0 && (-1 : Int) == 1 && items.size == items.size) = true then _ else _) _ _ s
  rw [if_neg (by simp)]
  rw [pick_rev]
  first
    | exact wpAny_bind (m := Builtin.Tuple.tupleExact _) (wpAny_newObj_type (wpAny_pure ⟨_, rfl, wpAny_pure h⟩) htake)
    | exact wpAny_bind (m := Builtin.Tuple.tupleExact _) (wpAny_newObj_type (wpAny_bind (wpAny_pure (wpAny_pure ⟨_, rfl, wpAny_pure h⟩))) htake)
    | exact wpAny_bind (wpAny_bind (m := Builtin.Tuple.tupleExact _) (wpAny_newObj_type (wpAny_pure (wpAny_pure ⟨_, rfl, wpAny_pure h⟩)) htake))
    | exact wpAny_bind (wpAny_bind (m := Builtin.Tuple.tupleExact _) (wpAny_newObj_type (wpAny_pure ⟨_, rfl, wpAny_pure h⟩) htake))
end
end HT
namespace Ev
open PySem PySem.Spec L2
open PyProof.Rows hiding St
def tRevT (K : PySem.W.Frag) (te : TE) : TE := fun σ H Q => te σ H fun x H1 => ∃ a xs, x = .ref a ∧ SqT K H1 a xs ∧ ∀ p, H1 p = none → Q (.ref p) (upd H1 p (.tup xs.reverse))
theorem pe_revT {X : Cx} {e : Expr} {te : TE} {k : Nat} {p1 p2 p3 pos : Pos} (he : PE X e te) : PE X (.Subscript e (.Slice none none (some (.UnaryOp .USub (.Constant (.int 1) k p1) p2)) p3) pos) (tRevT X.K te) := by
  refine ⟨fun pins s σ H Q I h => ?_⟩
  refine Subscript_ (thn (he.run pins s σ H _ I h) fun v s1 ⟨x, H1, I1, r1, q1⟩ => ?_)
  obtain ⟨a, xs, ex, hx, q⟩ := q1
  subst ex
  cases r1
  have hst : PO X (some (.UnaryOp .USub (.Constant (.int 1) k p1) p2)) (tPart (tUn (rU fun i => .int (-i)) (tC (.int 1)))) := po_some (pe_un un_neg pe_int)
  refine wpAny_Slice (thn (po_none.run pins s1 σ H1 (fun o H2 => o = none ∧ H2 = H1) I1 ⟨rfl, rfl⟩) fun vl s2 ⟨l, H2, I2, pl, el, e2⟩ => ?_)
  subst el e2
  refine thn (po_none.run pins s2 σ H2 (fun o H3 => o = none ∧ H3 = H2) I2 ⟨rfl, rfl⟩) fun vu s3 ⟨u, H3, I3, pu, eu, e3⟩ => ?_
  subst eu e3
  refine thn (hst.run pins s3 σ H3 (fun o H4 => o = some (-1) ∧ H4 = H3) I3 ⟨1, rfl, -1, rfl, rfl, rfl⟩) fun vs s4 ⟨o, H4, I4, ps, eo, e4⟩ => ?_
  subst eo e4
  have I5 : Inv X pins σ H4 { s4 with heap := s4.heap.push { cls := .type "slice", data := .fields #[vl, vu, vs] } } := I4.kept (t' := s4.toks) fun b ob q => Heap.get?_push_of_some _ q
  obtain ⟨its, r, ht, hz⟩ := I5.tuple hx
  have hlen := r.length
  show wpAny (model X.prog X.w) X.A (subscriptTail e (.Slice none none (some (.UnaryOp .USub (.Constant (.int 1) k p1) p2)) p3) (.ref a) (.ref s4.heap.objs.size)) (L2.EP X pins σ Q) X.xe { s4 with heap := s4.heap.push { cls := .type "slice", data := .fields #[vl, vu, vs] } }
  refine tail_any (ops := [.ref a, .ref s4.heap.objs.size]) ht.typeIs (PyProof.Rows.slot_tuple_getitem.lookup) ?_ (by with_unfolding_all rfl)
  refine HT.getItem_tuple_rev ht (Heap.IsSliceOf.new _ vl vu vs) pl pu ps ?_ (by rw [List.size_toArray]; omega)
  refine ⟨.ref _, _, I5.laid (t' := s4.toks) (o := .tup xs.reverse) (fun b ob q => Heap.get?_push_of_some _ q) (Nat.le_refl _) ?_, rfl, q _ (I5.hok.fresh (Nat.le_refl _))⟩
  exact ⟨by rw [List.length_reverse]; exact hz, _, r.reverse, ⟨_, Heap.get?_push_size _ rfl, rfl, _, rfl⟩⟩
theorem se_rev {X : Cx} {C : RC} {W : L2.WX} {a : Expr} {fa : Env → Store → Out D} {k : Nat} {p1 p2 p3 pos : Pos} (hC : C.K = X.K) (ha : PE X a (tE C W fa)) :
    PE X (.Subscript a (.Slice none none (some (.UnaryOp .USub (.Constant (.int 1) k p1) p2)) p3) pos) (tE C W fun ρ S => bnd (fa ρ S) fun x S => revd (view S x) S) := by
  refine ⟨fun pins s σ H Q I ⟨ι, S, ρ, w, er, h⟩ => ?_⟩
  dsimp only at h
  cases e : fa ρ S with
  | none => rw [e] at h; exact h.elim
  | some r =>
    rw [e] at h
    cases r with
    | exc c r S1 => exact (pe_revL ha).run pins s σ H Q I ⟨ι, S, ρ, w, er, by rw [e]; exact h⟩
    | ok d S1 =>
      cases ev : view S1 d with
      | tup xs =>
        refine (pe_revT ha).run pins s σ H Q I ⟨ι, S, ρ, w, er, ?_⟩
        rw [e]
        intro ι1 H1 x x1 w1 r1
        obtain ⟨p, ys, rfl, h1, l1, r2⟩ := tup_rep w1 r1 ev
        have h2 := Fin.shift x1 h
        dsimp only [bnd] at h2
        rw [ev] at h2
        rw [hC] at h1
        exact ⟨p, ys, rfl, h1, h2.newT w1 r2.reverse (by rw [List.length_reverse]; exact l1)⟩
      | lst xs =>
        refine (pe_revL ha).run pins s σ H Q I ⟨ι, S, ρ, w, er, ?_⟩
        rw [e]
        intro ι1 H1 x x1 w1 r1
        obtain ⟨p, ys, rfl, h1, l1, r2⟩ := lst_rep w1 r1 ev
        have h2 := Fin.shift x1 h
        dsimp only [bnd] at h2
        rw [ev] at h2
        rw [hC] at h1
        exact ⟨p, ys, rfl, h1, h2.newL w1 r2.reverse (by rw [List.length_reverse]; exact l1)⟩
      | _ => dsimp only [bnd] at h; rw [ev] at h; exact h.elim
end Ev

set_option Elab.async false
set_option linter.all false
set_option maxRecDepth 100000
set_option maxHeartbeats 4000000
namespace Ev
open PySem PySem.Spec L2
open PyProof.Rows hiding St
/-! ### the checker: a text's expression against one of the language -/
structure Tab where
  fns : List Str
  con : List (Str × D)
  cls : List Str
def okN (x : Str) : Bool := x != "__debug__" && x != "__classdict__" && x != "__name__"
def visB (sc : Scope) (x : Str) : Bool := sc.names.lookup x == some .local || sc.names.lookup x == some .cell || sc.names.lookup x == some .free
def locB (sc : Scope) (x : Str) : Bool := sc.names.lookup x == some .local || sc.names.lookup x == some .cell
def glB (sc : Scope) (x : Str) : Bool := sc.names.lookup x == some .globalImplicit
def bltNames : List Str := ["isinstance", "len", "abs", "all", "any", "sum", "int", "str", "tuple", "list", "max", "min", "range", "enumerate", "bool", "dict"]
def bltB (sc : Scope) (x : Str) : Bool := glB sc x && bltNames.contains x
/-- none of the odd forms -/
def shapeB (e : Expr) : Bool := !starB e && !setB e && !sliceB e
def opB : BOp → Operator → Bool
  | .add, .Add => true
  | .sub, .Sub => true
  | .mul, .Mult => true
  | .fdiv, .FloorDiv => true
  | .mod, .Mod => true
  | .pow, .Pow => true
  | _, _ => false
def constB : Const → D → Bool
  | .none, .non => true
  | .bool a, .bl b => a == b
  | .int a, .int b => a == b
  | .str s, .str x => s.cps.toList == x && decide (x.length ≤ 100000)
  | _, _ => false
def Es.len : Es → Nat
  | .nil => 0
  | .cons _ es => es.len + 1
def chkB (f : Expr → E → Bool) (isAnd : Bool) : List Expr → E → Bool
  | [], _ => false
  | [v], ir => f v ir
  | v :: w :: r, ir => match isAnd, ir with
    | true, .and a b => f v a && chkB f isAnd (w :: r) b
    | false, .or a b => f v a && chkB f isAnd (w :: r) b
    | _, _ => false
def chkEs (f : Expr → E → Bool) : List Expr → Es → Bool
  | [], .nil => true
  | e :: r, .cons i is => f e i && chkEs f r is
  | _, _ => false
def chkO (f : Expr → E → Bool) : Option Expr → Es → Bool
  | none, .nil => true
  | some e, .cons i .nil => f e i
  | _, _ => false
def nmE : Expr → Option Str
  | .Name x _ => some x
  | _ => none
/-- a target's names -/
def tgN : Expr → Option (List Str)
  | .Name x _ => some [x]
  | .Tuple es _ _ => es.mapM nmE
  | _ => none
def isTup : Expr → Bool
  | .Tuple _ _ _ => true
  | _ => false
def tgB (N : List Str) (sc : Scope) : List Str → List Nat → Bool
  | [], [] => true
  | x :: xs, i :: is => N[i]? == some x && locB sc x && tgB N sc xs is
  | _, _ => false
/-- a target: one name, or two and more in a row -/
def chkT (N : List Str) (sc : Scope) (tg : Expr) (is : List Nat) (one : Bool) : Bool := match tg with
  | .Name x _ => one && tgB N sc [x] is
  | .Tuple es _ _ => !one && decide (2 ≤ is.length) && (match es.mapM nmE with | some xs => tgB N sc xs is | none => false)
  | _ => false
def bfN : Bf → Str
  | .len => "len"
  | .abs => "abs"
  | .all => "all"
  | .any => "any"
  | .sum => "sum"
  | .int => "int"
  | .str => "str"
  | .tuple => "tuple"
  | .list => "list"
  | .max2 => "max"
  | .min2 => "min"
def mfN : Mf → Str
  | .split => "split"
  | .partition => "partition"
  | .join => "join"
  | .countTrue => "count"
  | .indexTrue => "index"
def muN : Nat → Option Str
  | 0 => some "append"
  | 1 => some "reverse"
  | 2 => some "pop"
  | _ => none
def chkC (f : Expr → E → Bool) : List Expr → Es → Bool
  | [], .nil => true
  | [c], .cons i .nil => f c i
  | _, _ => false
/-- the check of what is walked -/
def chkI (f : Expr → E → Bool) (sc : Scope) (tg iter : Expr) (it : It) : Bool := match it with
  | .seq a => f iter a
  | .rng1 a => (match iter with | .Call (.Name x _) [y] [] _ => bltB sc x && x == "range" && f y a | _ => false)
  | .rng2 a b => (match iter with | .Call (.Name x _) [y, z] [] _ => bltB sc x && x == "range" && f y a && f z b | _ => false)
  | .enum a => (match iter with | .Call (.Name x _) [y] [] _ => bltB sc x && x == "enumerate" && isTup tg && f y a | _ => false)
def chkE (T : Tab) (N : List Str) : Nat → Scope → Expr → E → Bool
  | 0, _, _, _ => false
  | n + 1, sc, e, ir => shapeB e && match ir with
    | .never => true
    | .var i => (match e with | .Name x _ => N[i]? == some x && visB sc x && okN x | _ => false)
    | .con d => (match e with
      | .Name x _ => glB sc x && okN x && T.con.any fun p => p.1 == x && same p.2 d
      | .Constant c _ _ => constB c d
      | .Dict [] [] _ => (match d with | .dct [] [] => true | _ => false)
      | _ => false)
    | .bin o a b => (match e with | .BinOp l op r _ => opB o op && chkE T N n sc l a && chkE T N n sc r b | _ => false)
    | .neg a => (match e with | .UnaryOp .USub x _ => chkE T N n sc x a | _ => false)
    | .not a => (match e with | .UnaryOp .Not x _ => chkE T N n sc x a | _ => false)
    | .cmp o a b => (match e with | .Compare l [op] [r] _ => op == opOf o && chkE T N n sc l a && chkE T N n sc r b | _ => false)
    | .chain o o' a b c => (match e with | .Compare l [op, op'] [r, s] _ => op == opOf o && op' == opOf o' && chkE T N n sc l a && chkE T N n sc r b && chkE T N n sc s c | _ => false)
    | .and a b => (match e with | .BoolOp .And vs _ => chkB (chkE T N n sc) true vs (.and a b) | _ => false)
    | .or a b => (match e with | .BoolOp .Or vs _ => chkB (chkE T N n sc) false vs (.or a b) | _ => false)
    | .ife c a b => (match e with | .IfExp t x y _ => chkE T N n sc t c && chkE T N n sc x a && chkE T N n sc y b | _ => false)
    | .tup es => (match e with | .Tuple xs _ _ => chkEs (chkE T N n sc) xs es && decide (es.len ≤ 1000) | _ => false)
    | .lst m es => (match e with | .List xs _ => chkEs (chkE T N n sc) xs es && decide (es.len ≤ 1000) | _ => false)
    | .call f es => (match e with | .Call (.Name x _) (y :: ys) [] _ => glB sc x && okN x && T.fns[f]? == some x && chkEs (chkE T N n sc) (y :: ys) es | _ => false)
    | .blt f es => (match e with | .Call (.Name x _) (y :: ys) [] _ => bltB sc x && x == bfN f && chkEs (chkE T N n sc) (y :: ys) es | _ => false)
    | .isi t a => (match e with | .Call (.Name x _) [y, .Name z _] [] _ => bltB sc x && x == "isinstance" && bltB sc z && z == (Str.ofString (tyS t)) && chkE T N n sc y a | _ => false)
    | .isx _ _ => false
    | .row _ => false
    | .mth f o es => (match e with | .Call (.Attribute r m apos) (y :: ys) [] pos => m == mfN f && (f == .split || f == .partition || f == .join) && !callB r && chkE T N n sc r o && chkEs (chkE T N n sc) (y :: ys) es && apos.endLine == pos.line && decide (ys.length < 20) | _ => false)
    | .mut f o es => (match e with | .Call (.Attribute r m apos) ys [] pos => muN f == some m && !callB r && chkE T N n sc r o && chkEs (chkE T N n sc) ys es && apos.endLine == pos.line && decide (ys.length < 20) | _ => false)
    | .idx a i => (match e with | .Subscript x y _ => chkE T N n sc x a && chkE T N n sc y i | _ => false)
    | .slc a lo hi => (match e with | .Subscript x (.Slice l h none _) _ => chkE T N n sc x a && chkO (chkE T N n sc) l lo && chkO (chkE T N n sc) h hi | _ => false)
    | .rev a => (match e with | .Subscript x (.Slice none none (some (.UnaryOp .USub (.Constant (.int 1) _ _) _)) _) _ => chkE T N n sc x a | _ => false)
    | .comp m is it cond elt => (match e with
      | .ListComp el [⟨tg, iter, ifs, as⟩] scope _ => as == 0 && !setB iter && (match tgN tg with | some xs => blkC N sc scope (xs.zip is) && tgB N scope xs is && decide (xs.length = is.length) | none => false) && (isTup tg == (is.length != 1)) && chkT N scope tg is (is.length == 1) &&
        chkI (chkE T N n sc) sc tg iter it &&
        chkC (chkE T N n (relS scope sc)) ifs cond && chkE T N n (relS scope sc) el elt
      | _ => false)
end Ev

set_option Elab.async false
set_option linter.all false
set_option maxRecDepth 100000
set_option maxHeartbeats 4000000
namespace Ev
open PySem PySem.Spec L2
open PyProof.Rows hiding St
/-- where an expression stands: what is known of the module, the depth that is left -/
structure Cxt (X : Cx) (cls : Nat → Option Addr) (P : Prog) (T : Tab) (d : Nat) : Prop where
  calm : X.calm = true
  nd : X.N.Nodup
  room : Room d X.A
  fn : ∀ (f : Nat) (x : Str), T.fns[f]? = some x → ∃ fa fd ps, X.mg x = some (.ref fa) ∧ PySem.W.keepIn X.K (.ref fa) = true ∧ Binds X.K fd ps [] ∧
    ∀ C : RC, C.K = X.K → C.cls = cls → C.pn = [] → FnOk X.prog X.w X.K X.mg X.base (L2.CX X.prog X.w) d fa fd ps (spOf C P d f)
  con : ∀ (x : Str) (dv : D), (x, dv) ∈ T.con → ∃ v u, X.mg x = some u ∧ RelV v u ∧ ∀ (C : RC) ι H, C.K = X.K → Rep C ι H dv v
  blt : ∀ x ∈ bltNames, X.mg x = none
theorem okN_ok {x : Str} (h : okN x = true) : (x == ("__debug__" : Str)) = false ∧ (x == ("__classdict__" : Str)) = false ∧ x ≠ "__name__" := by
  unfold okN at h
  simp only [Bool.and_eq_true, bne_iff_ne, ne_eq] at h
  exact ⟨beq_eq_false_iff_ne.mpr h.1.1, beq_eq_false_iff_ne.mpr h.1.2, h.2⟩
theorem bltN_ok : ∀ x ∈ bltNames, (x == ("__debug__" : Str)) = false ∧ x ≠ "__name__" := by decide +kernel
theorem visB_ok {sc : Scope} {x : Str} (h : visB sc x = true) : Vis sc x := by
  unfold visB at h
  simp only [Bool.or_eq_true, beq_iff_eq] at h
  rcases h with (h | h) | h
  · exact .inl h
  · exact .inr (.inl h)
  · exact .inr (.inr h)
theorem locB_ok {sc : Scope} {x : Str} (h : locB sc x = true) : Loc sc x := by
  unfold locB at h
  simp only [Bool.or_eq_true, beq_iff_eq] at h
  exact h
theorem shape_ok {e : Expr} (h : shapeB e = true) : starB e = false ∧ setB e = false ∧ sliceB e = false := by
  unfold shapeB at h
  simp only [Bool.and_eq_true, Bool.not_eq_true'] at h
  exact ⟨h.1.1, h.1.2, h.2⟩
mutual
theorem same_eq : ∀ (a b : D), same a b = true → a = b
  | .non, b, h => by cases b <;> simp only [same, Bool.false_eq_true] at h; rfl
  | .bl x, b, h => by cases b <;> simp only [same, Bool.false_eq_true, beq_iff_eq] at h; subst h; rfl
  | .int x, b, h => by cases b <;> simp only [same, Bool.false_eq_true, beq_iff_eq] at h; subst h; rfl
  | .str x, b, h => by cases b <;> simp only [same, Bool.false_eq_true, beq_iff_eq] at h; subst h; rfl
  | .tup xs, b, h => by cases b <;> simp only [same, Bool.false_eq_true] at h; rw [sames_eq _ _ h]
  | .lst xs, b, h => by cases b <;> simp only [same, Bool.false_eq_true] at h; rw [sames_eq _ _ h]
  | .fz xs, b, h => by cases b <;> simp only [same, Bool.false_eq_true] at h; rw [sames_eq _ _ h]
  | .dct ks vs, b, h => by
    cases b <;> simp only [same, Bool.false_eq_true, Bool.and_eq_true] at h
    rw [sames_eq _ _ h.1, sames_eq _ _ h.2]
  | .ref n, b, h => by cases b <;> simp only [same, Bool.false_eq_true, beq_iff_eq] at h; subst h; rfl
  | .exn c r, b, h => by
    cases b <;> simp only [same, Bool.false_eq_true, Bool.and_eq_true, beq_iff_eq] at h
    rw [h.1, sames_eq _ _ h.2]
theorem sames_eq : ∀ (a b : List D), sames a b = true → a = b
  | [], b, h => by cases b <;> simp only [sames, Bool.false_eq_true] at h; rfl
  | x :: xs, b, h => by
    cases b <;> simp only [sames, Bool.false_eq_true, Bool.and_eq_true] at h
    rw [same_eq _ _ h.1, sames_eq _ _ h.2]
end
section
variable {X : Cx} {C : RC} {W : L2.WX} {P : Prog} {T : Tab} {d : Nat}
theorem se_never {e : Expr} : PE X e (tE C W fun _ _ => none) := ⟨fun _ _ _ _ _ _ ⟨_, _, _, _, _, h⟩ => h.elim⟩
theorem st_never {e : Expr} : PT X e (tT C W fun _ _ => none) := ⟨fun _ _ _ _ _ _ ⟨_, _, _, _, _, h⟩ => h.elim⟩
/-- a constant's value -/
theorem const_ok {c : Const} {dv : D} {k : Nat} {pos : Pos} (h : constB c dv = true) : PE X (.Constant c k pos) (tE C W fun _ S => some (.ok dv S)) := by
  cases c <;> cases dv <;> simp only [constB, Bool.false_eq_true, beq_iff_eq, Bool.and_eq_true, decide_eq_true_eq] at h
  · exact se_con pe_non fun _ _ => rfl
  · subst h; exact se_con pe_bl fun _ _ => rfl
  · subst h; exact se_con pe_int fun _ _ => rfl
  · rename_i s x
    obtain ⟨h1, h2⟩ := h
    have : s = toS x := by
      apply TL.ext_tl
      rw [show TL.tl (toS x) = x from rfl]
      exact h1
    subst this
    exact se_con pe_str fun _ _ => ⟨rfl, by have : lim = 16777216 := rfl; omega⟩
/-- a row of and, or -/
theorem chkB_ok {f : Expr → E → Bool} (hf : ∀ v ir, f v ir = true → PE X v (tE C W fun ρ S => ev P.anc (call P d) ir ρ S) ∧ PT X v (tT C W fun ρ S => asB (ev P.anc (call P d) ir ρ S))) {pos : Pos} :
    ∀ (vs : List Expr) (ir : E), (chkB f true vs ir = true → PE X (.BoolOp .And vs pos) (tE C W fun ρ S => ev P.anc (call P d) ir ρ S) ∧ PW X (.BoolOp .And vs pos) (tT C W fun ρ S => asB (ev P.anc (call P d) ir ρ S))) ∧
      (chkB f false vs ir = true → PE X (.BoolOp .Or vs pos) (tE C W fun ρ S => ev P.anc (call P d) ir ρ S) ∧ PW X (.BoolOp .Or vs pos) (tT C W fun ρ S => asB (ev P.anc (call P d) ir ρ S)))
  | [], ir => ⟨fun h => by simp [chkB] at h, fun h => by simp [chkB] at h⟩
  | [v], ir => ⟨fun h => by
      simp only [chkB] at h
      obtain ⟨h1, h2⟩ := hf v ir h
      exact ⟨pe_one h1, pw_and1 h2⟩, fun h => by
      simp only [chkB] at h
      obtain ⟨h1, h2⟩ := hf v ir h
      exact ⟨pe_one h1, pw_or1 h2⟩⟩
  | v :: w :: r, ir => ⟨fun h => by
      cases ir <;> simp only [chkB, Bool.false_eq_true, Bool.and_eq_true] at h
      rename_i a b
      obtain ⟨h1, h2⟩ := hf v a h.1
      obtain ⟨h3, h4⟩ := (chkB_ok hf (w :: r) b).1 h.2
      exact ⟨(pe_and h1 h3).imp fun σ H Q q => and_step q, st_and h2 h4⟩, fun h => by
      cases ir <;> simp only [chkB, Bool.false_eq_true, Bool.and_eq_true] at h
      rename_i a b
      obtain ⟨h1, h2⟩ := hf v a h.1
      obtain ⟨h3, h4⟩ := (chkB_ok hf (w :: r) b).2 h.2
      exact ⟨(pe_or h1 h3).imp fun σ H Q q => or_step q, st_or h2 h4⟩⟩
theorem chkEs_ok {f : Expr → E → Bool} (hf : ∀ v ir, f v ir = true → PE X v (tE C W fun ρ S => ev P.anc (call P d) ir ρ S)) (hs : ∀ v ir, f v ir = true → starB v = false) :
    ∀ (es : List Expr) (is : Es), chkEs f es is = true → PA X es (tL C W fun ρ S => evs P.anc (call P d) is ρ S) ∧ ∀ y ∈ es, starB y = false
  | [], .nil, _ => ⟨sa_nil, fun _ h => by simp at h⟩
  | e :: es, .cons i is, h => by
    simp only [chkEs, Bool.and_eq_true] at h
    obtain ⟨h1, h2⟩ := chkEs_ok hf hs es is h.2
    exact ⟨sa_cons (hf _ _ h.1) h1 (hs _ _ h.1), fun y hy => (List.mem_cons.mp hy).elim (fun z => by rw [z]; exact hs _ _ h.1) (h2 y)⟩
  | [], .cons _ _, h => by simp [chkEs] at h
  | _ :: _, .nil, h => by simp [chkEs] at h
theorem lenF : ∀ (is : Es), LenF (fun ρ S => evs P.anc (call P d) is ρ S) is.len
  | .nil, ρ, S, ds, S', h => by cases h; rfl
  | .cons e es, ρ, S, ds, S', h => by
    simp only [evs] at h
    cases e1 : ev P.anc (call P d) e ρ S with
    | none => rw [e1] at h; cases h
    | some r =>
      rw [e1] at h
      cases r with
      | exc c r S => cases h
      | ok x S1 =>
        simp only [bnd_ok] at h
        cases e2 : evs P.anc (call P d) es ρ S1 with
        | none => rw [e2] at h; cases h
        | some r =>
          rw [e2] at h
          cases r with
          | exc c r S => cases h
          | ok xs S2 =>
            cases h
            have := lenF es ρ S1 xs S' e2
            simp [Es.len, this]
theorem chkO_ok {f : Expr → E → Bool} (hf : ∀ v ir, f v ir = true → PE X v (tE C W fun ρ S => ev P.anc (call P d) ir ρ S)) {o : Option Expr} {is : Es} (h : chkO f o is = true) :
    PO X o fun σ H Q => tG C W (RO C) (fun ρ S => part (evs P.anc (call P d) is ρ S)) σ H Q := by
  cases o with
  | none =>
    cases is with
    | nil => exact po_noneD
    | cons _ _ => simp [chkO] at h
  | some e =>
    cases is with
    | nil => simp [chkO] at h
    | cons i is =>
      cases is with
      | cons _ _ => simp [chkO] at h
      | nil =>
        simp only [chkO] at h
        refine ⟨fun pins s σ H Q I q => (po_some (hf e i h)).run pins s σ H Q I ?_⟩
        obtain ⟨ι, S, ρ, w, er, q⟩ := q
        refine ⟨ι, S, ρ, w, er, ?_⟩
        simp only [evs, part] at q
        dsimp only
        cases e1 : ev P.anc (call P d) i ρ S with
        | none => rw [e1] at q; exact q
        | some r =>
          rw [e1] at q
          cases r with
          | exc c r S => exact q
          | ok x S1 =>
            simp only [bnd_ok] at q
            obtain ⟨h1, q⟩ := ite_step q
            cases x <;> first | (cases h1; done) | skip
            intro ι1 H1 v x1 w1 r1
            obtain rfl := r1
            exact ⟨_, rfl, q ι1 H1 _ x1 w1 (.inr ⟨_, rfl, rfl⟩)⟩
end
end Ev

set_option Elab.async false
set_option linter.all false
set_option maxRecDepth 100000
set_option maxHeartbeats 8000000
namespace Ev
open PySem PySem.Spec L2
open PyProof.Rows hiding St
section
variable {X : Cx} {C : RC} {W : L2.WX} {P : Prog} {T : Tab} {d : Nat}
theorem chkC_ok {f : Expr → E → Bool} (hf : ∀ v ir, f v ir = true → PT X v (tT C W fun ρ S => asB (ev P.anc (call P d) ir ρ S))) {ifs : List Expr} {is : Es} (h : chkC f ifs is = true) :
    PTs X ifs (tT C W fun ρ S => evc P.anc (call P d) is ρ S) := by
  match ifs, is, h with
  | [], .nil, _ =>
    refine ⟨fun pins s σ H Q I ⟨ι, S, ρ, w, er, h⟩ => pts_nil.run pins s σ H Q I (h.ok w rfl)⟩
  | [c], .cons i .nil, h =>
    simp only [chkC] at h
    exact pts_one (hf c i h)
/-- targets -/
theorem tgB_names (hN : X.N.Nodup) (scB : Scope) (hl : ∀ x, locB scB x = true → Loc X.env.scope x ∧ (X.fn x = true ∨ X.env.scope.names.lookup x = some .local)) :
    ∀ (es : List Expr) (xs : List Str) (is : List Nat), (es.mapM nmE) = some xs → tgB X.N scB xs is = true →
      PGs X es (gNames is) ∧ (assignEach es X.env).length = is.length ∧ (assignEach es X.env).findIdx? (·.1) = none
  | [], xs, is, h, hb => by
    simp at h
    subst h
    cases is with
    | nil => exact ⟨pgs_nil, rfl, rfl⟩
    | cons _ _ => simp [tgB] at hb
  | e :: es, xs, is, h, hb => by
    rw [List.mapM_cons] at h
    cases e <;> simp only [nmE, Option.bind_eq_bind, Option.bind_some, Option.bind_none, Option.pure_def] at h <;> first | (cases h; done) | skip
    rename_i x px
    cases e2 : (es.mapM nmE) with
    | none => rw [e2] at h; cases h
    | some ys =>
      rw [e2] at h
      cases h
      cases is with
      | nil => simp [tgB] at hb
      | cons i is =>
        simp only [tgB, Bool.and_eq_true, beq_iff_eq] at hb
        obtain ⟨h1, h2, h3⟩ := tgB_names hN scB hl es ys is e2 hb.2
        obtain ⟨l1, l2⟩ := hl x hb.1.2
        refine ⟨pgs_cons (pg_name hN hb.1.1 l1 l2) h1, ?_, ?_⟩
        · show ((false, assign (.Name x px) X.env) :: assignEach es X.env).length = _
          rw [List.length_cons, h2, List.length_cons]
        · show ((false, assign (.Name x px) X.env) :: assignEach es X.env).findIdx? (·.1) = none
          rw [List.findIdx?_cons]
          simp only [Bool.false_eq_true, if_false]
          rw [h3]
          rfl
theorem chkT_ok (hc : X.calm = true) (hN : X.N.Nodup) (scB : Scope) (hl : ∀ x, locB scB x = true → Loc X.env.scope x ∧ (X.fn x = true ∨ X.env.scope.names.lookup x = some .local)) {tg : Expr} {is : List Nat} {one : Bool} (h : chkT X.N scB tg is one = true) :
    PG X tg (gOf X.K is one) := by
  cases tg <;> simp only [chkT, Bool.false_eq_true] at h
  · rename_i x px
    rw [Bool.and_eq_true] at h
    obtain ⟨h1, h2⟩ := h
    subst h1
    match is, h2 with
    | [i], h2 =>
      simp only [tgB, Bool.and_eq_true, beq_iff_eq] at h2
      obtain ⟨l1, l2⟩ := hl x h2.1.2
      exact pg_name hN h2.1.1 l1 l2
    | [], h2 => simp [tgB] at h2
    | i :: j :: r, h2 => simp [tgB] at h2
  · rename_i es k pos
    rw [Bool.and_eq_true, Bool.and_eq_true] at h
    obtain ⟨⟨h1, h2⟩, h3⟩ := h
    have h1 : one = false := by simpa using h1
    subst h1
    have h2 := of_decide_eq_true h2
    cases e : (es.mapM nmE) with
    | none => rw [e] at h3; cases h3
    | some xs =>
      rw [e] at h3
      obtain ⟨q1, q2, q3⟩ := tgB_names hN scB hl es xs is e h3
      have : gOf X.K is false = gTup X.K is.length (gNames is) := by
        unfold gOf
        split
        · rename_i heq; cases heq
        · rfl
      rw [this]
      exact pg_tup hc q1 q2 q3
/-- the context of a comprehension's block -/
theorem Cxt.blk {cls : Nat → Option Addr} (cx : Cxt X cls P T d) (s : Shared) (H : Hp) (scope : Scope) (cl : List (Str × Addr)) (Cc : Addr) (fp : List Addr) : Cxt (X.blk s H scope (compEnvC scope cl Cc X.env) fp) cls P T d :=
  ⟨cx.calm, cx.nd, cx.room, cx.fn, cx.con, cx.blt⟩
theorem takesW0 : Takes X W0 := fun _ _ x => by
  obtain ⟨_, _, _, _, _, _, _, _, _, _, _, _, _, _, _, _, z⟩ := x
  exact z.elim
/-- own names of a block: where they stand in the scope that runs -/
theorem blk_loc {scope sc : Scope} {s : Shared} {H : Hp} {cl : List (Str × Addr)} {Cc : Addr} {fp : List Addr} (hsc : X.env.scope = sc) {x : Str} (h : locB scope x = true) :
    Loc (X.blk s H scope (compEnvC scope cl Cc X.env) fp).env.scope x ∧ ((X.blk s H scope (compEnvC scope cl Cc X.env) fp).fn x = true ∨ (X.blk s H scope (compEnvC scope cl Cc X.env) fp).env.scope.names.lookup x = some .local) := by
  have hs : (X.blk s H scope (compEnvC scope cl Cc X.env) fp).env.scope = relS scope X.env.scope := rfl
  rw [hs]
  rcases locB_ok h with h | h
  · have := lookup_relS_keep (sc := X.env.scope) (names := scope.names) (x := x) (k := .local) (by decide) h
    exact ⟨.inl this, .inr this⟩
  · have := lookup_relS_keep (sc := X.env.scope) (names := scope.names) (x := x) (k := .cell) (by decide) h
    refine ⟨.inr this, .inl ?_⟩
    show (scope.names.lookup x == some .cell) = true
    rw [h]; rfl
theorem mfind {p : Str × D → Bool} {l : List (Str × D)} (h : l.any p = true) : ∃ q ∈ l, p q = true := List.any_eq_true.mp h
theorem gl_of {x : Str} (h : glB X.env.scope x = true) : Gl X x := by
  unfold glB at h
  exact beq_iff_eq.mp h
theorem blt_of {cls : Nat → Option Addr} (cx : Cxt X cls P T d) {x : Str} (h : bltB X.env.scope x = true) : Gl X x ∧ X.mg x = none ∧ (x == ("__debug__" : Str)) = false ∧ x ≠ "__name__" := by
  unfold bltB at h
  rw [Bool.and_eq_true] at h
  have hm := List.contains_iff_mem.mp h.2
  exact ⟨gl_of h.1, cx.blt x hm, bltN_ok x hm⟩
end
end Ev

set_option Elab.async false
set_option linter.all false
set_option maxRecDepth 100000
set_option maxHeartbeats 8000000
namespace Ev
open PySem PySem.Spec L2
open PyProof.Rows hiding St
section
variable {X : Cx} {C : RC} {W : L2.WX} {P : Prog} {T : Tab} {d : Nat} {cls : Nat → Option Addr}
theorem chkI_ok (cx : Cxt X cls P T d) (hC : C.K = X.K) {f : Expr → E → Bool} (hf : ∀ v ir, f v ir = true → PE X v (tE C W fun ρ S => ev P.anc (call P d) ir ρ S)) (hs : ∀ v ir, f v ir = true → starB v = false) {tg iter : Expr} {it : It}
    (h : chkI f X.env.scope tg iter it = true) : PI X tg iter (tG C W (RY C) fun ρ S => evi P.anc (call P d) it ρ S) := by
  cases it with
  | seq a => exact pi_seq hC (hf iter a h)
  | rng1 a =>
    simp only [chkI] at h
    split at h
    · rename_i x px y q
      simp only [Bool.and_eq_true, beq_iff_eq] at h
      obtain ⟨⟨h1, rfl⟩, h3⟩ := h
      obtain ⟨g1, g2, _⟩ := blt_of cx h1
      exact pi_rng1 g1 g2 (hf _ _ h3) (hs _ _ h3)
    · cases h
  | rng2 a b =>
    simp only [chkI] at h
    split at h
    · rename_i x px y z q
      simp only [Bool.and_eq_true, beq_iff_eq] at h
      obtain ⟨⟨⟨h1, rfl⟩, h3⟩, h4⟩ := h
      obtain ⟨g1, g2, _⟩ := blt_of cx h1
      exact pi_rng2 g1 g2 (hf _ _ h3) (hf _ _ h4) (hs _ _ h3) (hs _ _ h4)
    · cases h
  | enum a =>
    simp only [chkI] at h
    split at h
    · rename_i x px y q
      simp only [Bool.and_eq_true, beq_iff_eq] at h
      obtain ⟨⟨⟨h1, rfl⟩, h5⟩, h3⟩ := h
      obtain ⟨g1, g2, _⟩ := blt_of cx h1
      cases tg <;> first | (cases h5; done) | skip
      exact pi_enumD hC g1 g2 (hf _ _ h3) (hs _ _ h3)
    · cases h
theorem opB_rule (hC : C.K = X.K) {o : BOp} {op : Operator} (h : opB o op = true) : OpR X (binaryOp op) (rOp C W (bin o)) := by
  cases o <;> cases op <;> first | (cases h; done) | skip
  · exact opr_add hC
  · exact opr_sub
  · exact opr_mul hC
  · exact opr_fdiv
  · exact opr_mod
  · exact opr_pow
theorem chkE_shape {N : List Str} {n : Nat} {sc : Scope} {e : Expr} {ir : E} (h : chkE T N n sc e ir = true) : starB e = false ∧ setB e = false ∧ sliceB e = false := by
  cases n with
  | zero => simp [chkE] at h
  | succ n =>
    simp only [chkE, Bool.and_eq_true] at h
    exact shape_ok h.1
theorem bf_rule (hc : X.calm = true) (hC : C.K = X.K) (f : Bf) : (∃ id, bootBuiltins (bfN f) = some (.builtin id) ∧ CallR X (.builtin id) (rBlt C W f)) ∨ ∃ id, bootBuiltins (bfN f) = some (.type id) ∧ CallR X (.type id) (rBlt C W f) := by
  cases f
  · exact .inl ⟨"len", by decide +kernel, cr_len hC⟩
  · exact .inl ⟨"abs", by decide +kernel, cr_absD⟩
  · exact .inl ⟨"all", by decide +kernel, cr_allD hc hC⟩
  · exact .inl ⟨"any", by decide +kernel, cr_anyD hc hC⟩
  · exact .inl ⟨"sum", by decide +kernel, cr_sumD hc hC⟩
  · exact .inr ⟨"int", by decide +kernel, cr_intD⟩
  · exact .inr ⟨"str", by decide +kernel, cr_strD⟩
  · exact .inr ⟨"tuple", by decide +kernel, cr_tupleD hC⟩
  · exact .inr ⟨"list", by decide +kernel, cr_listD hC⟩
  · exact .inl ⟨"max", by decide +kernel, cr_maxD hc⟩
  · exact .inl ⟨"min", by decide +kernel, cr_minD hc⟩
theorem tyS_boot (t : Ty) : bootBuiltins (Str.ofString (tyS t)) = some (.type (tyS t)) := by
  cases t <;> decide +kernel
/-- a comprehension -/
theorem se_comp {is : List Nat} {m : Bool} {own : List (Str × Nat)} {elt tg iter : Expr} {ifs : List Expr} {scope : Scope} {pos : Pos} {fi : Env → Store → Out (List D)} {fc : Env → Store → Out Bool} {fe : Env → Store → Out D} (hc : X.calm = true) (hN : X.N.Nodup) (hC : C.K = X.K)
    (hi : PI X tg iter (tG C W (RY C) fi)) (ok : BlkOk X.N X.env.scope scope own) (ho : own.map (·.2) = is)
    (hg : ∀ (s : Shared) (H : Hp) (Cc : Addr) (cl : List (Str × Addr)) (fp : List Addr), PG (X.blk s H scope (compEnvC scope cl Cc X.env) fp) tg (gOf X.K is (is.length == 1)))
    (ht : ∀ (s : Shared) (H : Hp) (Cc : Addr) (cl : List (Str × Addr)) (fp : List Addr) (q : Addr), PTs (X.blk s H scope (compEnvC scope cl Cc X.env) fp) ifs (tT (C.hide q) W0 fc))
    (he : ∀ (s : Shared) (H : Hp) (Cc : Addr) (cl : List (Str × Addr)) (fp : List Addr) (q : Addr), PE (X.blk s H scope (compEnvC scope cl Cc X.env) fp) elt (tE (C.hide q) W0 fe)) (hs : setB iter = false) :
    PE X (.ListComp elt [⟨tg, iter, ifs, 0⟩] scope pos) (tE C W (fun ρ S => bnd (fi ρ S) fun xs S => bnd (nox (compL (cturn is fc fe ρ) xs S)) fun ys S => alloc m (.lst ys) S)) := by
  subst ho
  refine (pe_lc (te := fun σ H Q => ∃ D, tE (C.hide D) W0 fe σ H Q) (tt := fun σ H Q => ∃ D, tT (C.hide D) W0 fc σ H Q) hc hN hi ok hg (fun s H Cc cl fp => ⟨fun pins s' σ H' Q I ⟨q, h⟩ => (ht s H Cc cl fp q).run pins s' σ H' Q I h⟩) (fun s H Cc cl fp => ⟨fun pins s' σ H' Q I ⟨q, h⟩ => (he s H Cc cl fp q).run pins s' σ H' Q I h⟩) (noSet hs _)).imp fun σ H Q h => ?_
  rw [← hC]
  exact comp_step h
theorem ss_comp {is : List Nat} {m : Bool} {own : List (Str × Nat)} {j : Nat} {y : Str} {py spos : Pos} {elt tg iter : Expr} {ifs : List Expr} {scope : Scope} {pos : Pos} {fi : Env → Store → Out (List D)} {fc : Env → Store → Out Bool} {fe : Env → Store → Out D} (hc : X.calm = true) (hN : X.N.Nodup) (hC : C.K = X.K)
    (hy : X.N[j]? = some y) (hyl : X.env.scope.names.lookup y = some .local) (hsw : swapsWith (.ListComp elt [⟨tg, iter, ifs, 0⟩] scope pos) (some (.Name y py)) spos.line X.env = pure true)
    (hi : PI X tg iter (tG C W (RY C) fi)) (ok : BlkOk X.N X.env.scope scope own) (ho : own.map (·.2) = is)
    (hg : ∀ (s : Shared) (H : Hp) (Cc : Addr) (cl : List (Str × Addr)) (fp : List Addr), PG (X.blk s H scope (compEnvC scope cl Cc X.env) fp) tg (gOf X.K is (is.length == 1)))
    (ht : ∀ (s : Shared) (H : Hp) (Cc : Addr) (cl : List (Str × Addr)) (fp : List Addr) (q : Addr), PTs (X.blk s H scope (compEnvC scope cl Cc X.env) fp) ifs (tT (C.hide q) W0 fc))
    (he : ∀ (s : Shared) (H : Hp) (Cc : Addr) (cl : List (Str × Addr)) (fp : List Addr) (q : Addr), PE (X.blk s H scope (compEnvC scope cl Cc X.env) fp) elt (tE (C.hide q) W0 fe)) (hs : setB iter = false) :
    PS X (.Assign [.Name y py] (.ListComp elt [⟨tg, iter, ifs, 0⟩] scope pos) spos) (tSt C W fun ρ S => bndS (bnd (fi ρ S) fun xs S => bnd (nox (compL (cturn is fc fe ρ) xs S)) fun ys S => alloc m (.lst ys) S) ρ fun v S => some (.ok (.nx (ρ.set j (some v))) S)) := by
  subst ho
  refine (ps_setLc (te := fun σ H Q => ∃ D, tE (C.hide D) W0 fe σ H Q) (tt := fun σ H Q => ∃ D, tT (C.hide D) W0 fc σ H Q) hc hN hy hyl hsw hi ok hg (fun s H Cc cl fp => ⟨fun pins s' σ H' Q I ⟨q, h⟩ => (ht s H Cc cl fp q).run pins s' σ H' Q I h⟩) (fun s H Cc cl fp => ⟨fun pins s' σ H' Q I ⟨q, h⟩ => (he s H Cc cl fp q).run pins s' σ H' Q I h⟩) (noSet hs _)).imp fun D σ H h => ?_
  have h2 := stepS (R := Rep C) (K := fun x H1 => D.nx (σ.set j (some x)) H1) h fun ι H S ρ a x w er r q => q ι H _ Ext.refl w (er.set r)
  rw [← hC]
  exact comp_step h2
/-- the parts of a comprehension, from the checks -/
theorem comp_parts (cx : Cxt X cls P T d) (hC : C.K = X.K) {n : Nat} (ih : ∀ {X : Cx} (cx : Cxt X cls P T d) {C : RC} (hC : C.K = X.K) (hcls : C.cls = cls) (hpn : C.pn = []) {W : L2.WX} (tk : Takes X W) (e : Expr) (ir : E), chkE T X.N n X.env.scope e ir = true →
      PE X e (tE C W fun ρ S => ev P.anc (call P d) ir ρ S) ∧ PT X e (tT C W fun ρ S => asB (ev P.anc (call P d) ir ρ S))) (hcls : C.cls = cls) (hpn : C.pn = []) (tk : Takes X W)
    {elt tg iter : Expr} {ifs : List Expr} {scope : Scope} {is : List Nat} {it : It} {cond : Es} {ielt : E} {xs : List Str}
    (h1 : setB iter = false) (h2 : tgN tg = some xs) (h3 : blkC X.N X.env.scope scope (xs.zip is) = true) (h4 : xs.length = is.length) (h5 : chkT X.N scope tg is (is.length == 1) = true) (h6 : chkI (chkE T X.N n X.env.scope) X.env.scope tg iter it = true)
    (h7 : chkC (chkE T X.N n (relS scope X.env.scope)) ifs cond = true) (h8 : chkE T X.N n (relS scope X.env.scope) elt ielt = true) :
    PI X tg iter (tG C W (RY C) fun ρ S => evi P.anc (call P d) it ρ S) ∧ BlkOk X.N X.env.scope scope (xs.zip is) ∧ (xs.zip is).map (·.2) = is ∧
    (∀ (s : Shared) (H : Hp) (Cc : Addr) (cl : List (Str × Addr)) (fp : List Addr), PG (X.blk s H scope (compEnvC scope cl Cc X.env) fp) tg (gOf X.K is (is.length == 1))) ∧
    (∀ (s : Shared) (H : Hp) (Cc : Addr) (cl : List (Str × Addr)) (fp : List Addr) (q : Addr), PTs (X.blk s H scope (compEnvC scope cl Cc X.env) fp) ifs (tT (C.hide q) W0 fun ρ S => evc P.anc (call P d) cond ρ S)) ∧
    (∀ (s : Shared) (H : Hp) (Cc : Addr) (cl : List (Str × Addr)) (fp : List Addr) (q : Addr), PE (X.blk s H scope (compEnvC scope cl Cc X.env) fp) elt (tE (C.hide q) W0 fun ρ S => ev P.anc (call P d) ielt ρ S)) := by
  refine ⟨chkI_ok cx hC (fun v ir h => (ih cx hC hcls hpn tk v ir h).1) (fun v ir h => (chkE_shape h).1) h6, blkOk_by h3, ?_, fun s H Cc cl fp => ?_, fun s H Cc cl fp q => ?_, fun s H Cc cl fp q => ?_⟩
  · exact List.map_snd_zip (by omega)
  · exact chkT_ok (X := X.blk s H scope (compEnvC scope cl Cc X.env) fp) cx.calm cx.nd scope (fun x hx => blk_loc rfl hx) h5
  · exact chkC_ok (X := X.blk s H scope (compEnvC scope cl Cc X.env) fp) (f := chkE T X.N n (relS scope X.env.scope)) (fun v ir h => (ih (cx.blk s H scope cl Cc fp) (C := C.hide q) hC hcls hpn takesW0 v ir h).2) h7
  · exact (ih (cx.blk s H scope cl Cc fp) (C := C.hide q) hC hcls hpn takesW0 elt ielt h8).1
end
end Ev

set_option Elab.async false
set_option linter.all false
set_option maxRecDepth 100000
set_option maxHeartbeats 8000000
namespace Ev
open PySem PySem.Spec L2
open PyProof.Rows hiding St
theorem st_ife {X : Cx} {C : RC} {W : L2.WX} {fa fb fc : Env → Store → Out D} {a b c : Expr} {pos : Pos} (hc : PT X c (tT C W fun ρ S => asB (fc ρ S))) (ha : PT X a (tT C W fun ρ S => asB (fa ρ S))) (hb : PT X b (tT C W fun ρ S => asB (fb ρ S))) :
    PT X (.IfExp c a b pos) (tT C W fun ρ S => asB (bnd (asB (fc ρ S)) fun x S => if x then fa ρ S else fb ρ S)) := by
  refine ⟨fun pins s σ H Q I h => ?_⟩
  have h2 : tT C W (fun ρ S => asB (fc ρ S)) σ H (fun k H1 => if k = true then tT C W (fun ρ S => asB (fa ρ S)) σ H1 Q else tT C W (fun ρ S => asB (fb ρ S)) σ H1 Q) := by
    obtain ⟨ι, S, ρ, w, er, h⟩ := h
    refine ⟨ι, S, ρ, w, er, ?_⟩
    dsimp only at h ⊢
    cases e : asB (fc ρ S) with
    | none => rw [e] at h; exact h
    | some r =>
      rw [e] at h
      cases r with
      | exc c r S => exact h
      | ok k S1 =>
        intro ι1 H1 x x1 w1 r1
        have r1 : k = x := r1
        subst r1
        cases k with
        | true => exact ⟨ι1, S1, ρ, w1, er.mono x1, Fin.shift x1 h⟩
        | false => exact ⟨ι1, S1, ρ, w1, er.mono x1, Fin.shift x1 h⟩
  show wpAny _ _ (do if ← isTrue c X.env (eval c X.env) then isTrue a X.env (eval a X.env) else isTrue b X.env (eval b X.env)) _ _ _
  refine wpAny_bind (thn (hc.run pins s σ H _ I h2) fun k s1 ⟨H1, I1, q1⟩ => ?_)
  cases k with
  | true => exact ha.run pins s1 σ H1 Q I1 q1
  | false => exact hb.run pins s1 σ H1 Q I1 q1
/-! ### the expressions' soundness -/
theorem soundE {P : Prog} {T : Tab} {d : Nat} {cls : Nat → Option Addr} : ∀ (n : Nat) {X : Cx} (cx : Cxt X cls P T d) {C : RC} (hC : C.K = X.K) (hcls : C.cls = cls) (hpn : C.pn = []) {W : L2.WX} (tk : Takes X W) (e : Expr) (ir : E), chkE T X.N n X.env.scope e ir = true →
    PE X e (tE C W fun ρ S => ev P.anc (call P d) ir ρ S) ∧ PT X e (tT C W fun ρ S => asB (ev P.anc (call P d) ir ρ S)) := by
  intro n
  induction n with
  | zero => intro X cx C hC hcls hpn W tk e ir h; simp [chkE] at h
  | succ n ih =>
    intro X cx C hC hcls hpn W tk e ir h
    have hu : X.A.units + 65 < cLine := by have := cx.room.un; omega
    have hE := fun v ir h => (ih cx hC hcls hpn tk v ir h).1
    have hS : ∀ v ir, chkE T X.N n X.env.scope v ir = true → starB v = false := fun v ir h => (chkE_shape h).1
    have h0 := h
    simp only [chkE, Bool.and_eq_true] at h
    obtain ⟨hsh, h⟩ := h
    obtain ⟨sh1, sh2, sh3⟩ := shape_ok hsh
    cases ir with
    | never => exact ⟨se_never, st_never⟩
    | var i =>
      dsimp only at h
      split at h
      · rename_i x px
        simp only [Bool.and_eq_true, beq_iff_eq] at h
        obtain ⟨⟨h1, h2⟩, h3⟩ := h
        have o := okN_ok h3
        have pe : PE X (.Name x px) (tE C W fun ρ S => ev P.anc (call P d) (.var i) ρ S) := se_var h1 (visB_ok h2) o.1 o.2.1
        exact ⟨pe, asTest pe rfl⟩
      · cases h
    | con dv =>
      dsimp only at h
      split at h
      · rename_i x px
        rw [Bool.and_eq_true, Bool.and_eq_true] at h
        obtain ⟨⟨h1, h2⟩, h3⟩ := h
        obtain ⟨⟨x', dv'⟩, hm, hq⟩ := mfind h3
        rw [Bool.and_eq_true, beq_iff_eq] at hq
        obtain ⟨hq1, hq2⟩ := hq
        have e2 := same_eq _ _ hq2
        dsimp only at hq1 e2
        subst hq1; subst e2
        obtain ⟨v, u, g1, g2, g3⟩ := cx.con _ _ hm
        have pe : PE X (.Name x' px) (tE C W fun ρ S => ev P.anc (call P d) (.con dv') ρ S) := se_con (pe_glob (gl_of h1) g1 g2 (okN_ok h2).1) fun ι H => g3 C ι H hC
        exact ⟨pe, asTest pe rfl⟩
      · rename_i c k px
        have pe : PE X (.Constant c k px) (tE C W fun ρ S => ev P.anc (call P d) (.con dv) ρ S) := const_ok h
        exact ⟨pe, asTest pe rfl⟩
      · rename_i px
        split at h
        · have pe : PE X (.Dict [] [] px) (tE C W fun ρ S => ev P.anc (call P d) (.con (.dct [] [])) ρ S) := se_dict0
          exact ⟨pe, asTest pe rfl⟩
        · cases h
      · cases h
    | bin o a b =>
      dsimp only at h
      split at h
      · rename_i l op r px
        simp only [Bool.and_eq_true] at h
        obtain ⟨⟨h1, h2⟩, h3⟩ := h
        have pe : PE X (.BinOp l op r px) (tE C W fun ρ S => ev P.anc (call P d) (.bin o a b) ρ S) := se_bin (opB_rule hC h1) (hE _ _ h2) (hE _ _ h3)
        exact ⟨pe, asTest pe rfl⟩
      · cases h
    | neg a =>
      dsimp only at h
      split at h
      · rename_i x px
        have pe : PE X (.UnaryOp .USub x px) (tE C W fun ρ S => ev P.anc (call P d) (.neg a) ρ S) := se_neg (hE _ _ h)
        exact ⟨pe, asTest pe rfl⟩
      · cases h
    | not a =>
      dsimp only at h
      split at h
      · rename_i x px
        obtain ⟨q1, q2⟩ := ih cx hC hcls hpn tk _ _ h
        exact ⟨se_not q1, st_not q2⟩
      · cases h
    | cmp o a b =>
      dsimp only at h
      split at h
      · rename_i l op r px
        simp only [Bool.and_eq_true, beq_iff_eq] at h
        obtain ⟨⟨rfl, h2⟩, h3⟩ := h
        exact ⟨se_cmp (opr_cmp hC hu o) (hE _ _ h2) (hE _ _ h3) (chkE_shape h3).2.1, st_cmp (opr_cmp hC hu o) (hE _ _ h2) (hE _ _ h3) (chkE_shape h3).2.1⟩
      · cases h
    | chain o o' a b c =>
      dsimp only at h
      split at h
      · rename_i l op op' r s px
        simp only [Bool.and_eq_true, beq_iff_eq] at h
        obtain ⟨⟨⟨⟨rfl, rfl⟩, h2⟩, h3⟩, h4⟩ := h
        exact ⟨se_chain (opr_cmp hC hu o) (opr_cmp hC hu o') (hE _ _ h2) (hE _ _ h3) (hE _ _ h4) (chkE_shape h4).2.1, st_chain (opr_cmp hC hu o) (opr_cmp hC hu o') (hE _ _ h2) (hE _ _ h3) (hE _ _ h4) (chkE_shape h4).2.1⟩
      · cases h
    | and a b =>
      dsimp only at h
      split at h
      · rename_i vs px
        obtain ⟨q1, q2⟩ := (chkB_ok (P := P) (d := d) (fun v ir h => ih cx hC hcls hpn tk v ir h) vs (.and a b)).1 h
        exact ⟨q1, q2.pt⟩
      · cases h
    | or a b =>
      dsimp only at h
      split at h
      · rename_i vs px
        obtain ⟨q1, q2⟩ := (chkB_ok (P := P) (d := d) (fun v ir h => ih cx hC hcls hpn tk v ir h) vs (.or a b)).2 h
        exact ⟨q1, q2.pt⟩
      · cases h
    | ife c a b =>
      dsimp only at h
      split at h
      · rename_i t x y px
        simp only [Bool.and_eq_true] at h
        obtain ⟨⟨h1, h2⟩, h3⟩ := h
        have pe : PE X (.IfExp t x y px) (tE C W fun ρ S => ev P.anc (call P d) (.ife c a b) ρ S) := se_ife (ih cx hC hcls hpn tk _ _ h1).2 (hE _ _ h2) (hE _ _ h3)
        exact ⟨pe, st_ife (ih cx hC hcls hpn tk _ _ h1).2 (ih cx hC hcls hpn tk _ _ h2).2 (ih cx hC hcls hpn tk _ _ h3).2⟩
      · cases h
    | tup es =>
      dsimp only at h
      split at h
      · rename_i xs k px
        simp only [Bool.and_eq_true, decide_eq_true_eq] at h
        obtain ⟨q1, q2⟩ := chkEs_ok (P := P) (d := d) hE hS _ _ h.1
        have pe : PE X (.Tuple xs k px) (tE C W fun ρ S => ev P.anc (call P d) (.tup es) ρ S) := se_tup q1 (lenF es) (by have : lim = 16777216 := rfl; omega)
        exact ⟨pe, asTest pe rfl⟩
      · cases h
    | lst m es =>
      dsimp only at h
      split at h
      · rename_i xs px
        simp only [Bool.and_eq_true, decide_eq_true_eq] at h
        obtain ⟨q1, q2⟩ := chkEs_ok (P := P) (d := d) hE hS _ _ h.1
        have pe : PE X (.List xs px) (tE C W fun ρ S => ev P.anc (call P d) (.lst m es) ρ S) := se_lst m q1 (lenF es) (by have : lim = 16777216 := rfl; omega)
        exact ⟨pe, asTest pe rfl⟩
      · cases h
    | call f es =>
      dsimp only at h
      split at h
      · rename_i x px y ys px2
        simp only [Bool.and_eq_true, beq_iff_eq] at h
        obtain ⟨⟨⟨h1, h2⟩, h3⟩, h4⟩ := h
        obtain ⟨q1, q2⟩ := chkEs_ok (P := P) (d := d) hE hS _ _ h4
        obtain ⟨fa, fd, ps, g1, g2, g3, g4⟩ := cx.fn f x h3
        have pe : PE X (.Call (.Name x px) (y :: ys) [] px2) (tE C W fun ρ S => ev P.anc (call P d) (.call f es) ρ S) := se_call tk (g4 C hC hcls hpn) cx.room (gl_of h1) g1 g2 g3 q1 (okN_ok h2).1 q2
        exact ⟨pe, asTest pe rfl⟩
      · cases h
    | blt f es =>
      dsimp only at h
      split at h
      · rename_i x px y ys px2
        simp only [Bool.and_eq_true, beq_iff_eq] at h
        obtain ⟨⟨h1, rfl⟩, h4⟩ := h
        obtain ⟨q1, q2⟩ := chkEs_ok (P := P) (d := d) hE hS _ _ h4
        obtain ⟨g1, g2, g3, g4⟩ := blt_of cx h1
        have pe : PE X (.Call (.Name (bfN f) px) (y :: ys) [] px2) (tE C W fun ρ S => ev P.anc (call P d) (.blt f es) ρ S) := by
          rcases bf_rule (W := W) cx.calm hC f with ⟨id, hb, hr⟩ | ⟨id, hb, hr⟩
          · exact se_blt hr g1 g2 hb q1 g4 g3 q2
          · exact se_bltT hr g1 g2 hb q1 g4 g3 q2
        exact ⟨pe, asTest pe rfl⟩
      · cases h
    | isi t a =>
      dsimp only at h
      split at h
      · rename_i x px y z pz px2
        simp only [Bool.and_eq_true, beq_iff_eq] at h
        obtain ⟨⟨⟨⟨h1, rfl⟩, h3⟩, rfl⟩, h5⟩ := h
        obtain ⟨g1, g2, g3, g4⟩ := blt_of cx h1
        obtain ⟨k1, k2, k3, k4⟩ := blt_of cx h3
        have pe : PE X (.Call (.Name "isinstance" px) [y, .Name (Str.ofString (tyS t)) pz] [] px2) (tE C W fun ρ S => ev P.anc (call P d) (.isi t a) ρ S) := se_isi hC (hE _ _ h5) g1 g2 k1 k2 (tyS_boot t) k4 k3 (hS _ _ h5)
        exact ⟨pe, asTest pe rfl⟩
      · cases h
    | isx _ _ => cases h
    | row _ => cases h
    | mth f o es =>
      dsimp only at h
      split at h
      · rename_i r m apos y ys pos
        simp only [Bool.and_eq_true, beq_iff_eq, Bool.or_eq_true, Bool.not_eq_true', decide_eq_true_eq] at h
        obtain ⟨⟨⟨⟨⟨⟨rfl, h2⟩, h3⟩, h4⟩, h5⟩, h6⟩, h7⟩ := h
        obtain ⟨q1, q2⟩ := chkEs_ok (P := P) (d := d) hE hS _ _ h5
        have hf : f = .split ∨ f = .partition ∨ f = .join := by rcases h2 with (h | h) | h <;> simp [h]
        have pe : PE X (.Call (.Attribute r (mfN f) apos) (y :: ys) [] pos) (tE C W fun ρ S => ev P.anc (call P d) (.mth f o es) ρ S) := by
          rcases hf with rfl | rfl | rfl
          · exact se_mth (.inl rfl) F.slot_str_split F.type_str_split mt_splitD (hE _ _ h4) q1 h3 q2 (by simp; omega) (beq_iff_eq.mpr h6)
          · exact se_mth (.inr (.inl rfl)) F.slot_str_partition F.type_str_partition mt_partitionD (hE _ _ h4) q1 h3 q2 (by simp; omega) (beq_iff_eq.mpr h6)
          · exact se_mth (.inr (.inr rfl)) F.slot_str_join F.type_str_join (mt_joinD hC) (hE _ _ h4) q1 h3 q2 (by simp; omega) (beq_iff_eq.mpr h6)
        exact ⟨pe, asTest pe rfl⟩
      · cases h
    | «mut» f o es =>
      dsimp only at h
      split at h
      · rename_i r m apos ys pos
        simp only [Bool.and_eq_true, beq_iff_eq, Bool.not_eq_true', decide_eq_true_eq] at h
        obtain ⟨⟨⟨⟨⟨h1, h3⟩, h4⟩, h5⟩, h6⟩, h7⟩ := h
        obtain ⟨q1, q2⟩ := chkEs_ok (P := P) (d := d) hE hS _ _ h5
        have pe : PE X (.Call (.Attribute r m apos) ys [] pos) (tE C W fun ρ S => ev P.anc (call P d) (.mut f o es) ρ S) := by
          have hline := beq_iff_eq.mpr h6
          cases ys with
          | nil =>
            cases es with
            | cons _ _ => simp [chkEs] at h5
            | nil =>
              match f, h1 with
              | 0, h1 => cases h1; exact se_mut0 PySem.F.slot_list_append PySem.F.type_list_append mt_appendD hC (hE _ _ h4) h3 hline
              | 1, h1 => cases h1; exact se_mut0 PySem.F.slot_list_reverse PySem.F.type_list_reverse mt_reverseD hC (hE _ _ h4) h3 hline
              | 2, h1 => cases h1; exact se_mut0 PySem.F.slot_list_pop PySem.F.type_list_pop mt_popD hC (hE _ _ h4) h3 hline
          | cons y ys =>
            have hlen : (y :: ys).length < 29 := by simp only [List.length_cons] at h7 ⊢; omega
            match f, h1 with
            | 0, h1 => cases h1; exact se_mut PySem.F.slot_list_append PySem.F.type_list_append mt_appendD hC (hE _ _ h4) q1 h3 q2 hlen hline
            | 1, h1 => cases h1; exact se_mut PySem.F.slot_list_reverse PySem.F.type_list_reverse mt_reverseD hC (hE _ _ h4) q1 h3 q2 hlen hline
            | 2, h1 => cases h1; exact se_mut PySem.F.slot_list_pop PySem.F.type_list_pop mt_popD hC (hE _ _ h4) q1 h3 q2 hlen hline
        exact ⟨pe, asTest pe rfl⟩
      · cases h
    | idx a i =>
      dsimp only at h
      split at h
      · rename_i x y px
        simp only [Bool.and_eq_true] at h
        have pe : PE X (.Subscript x y px) (tE C W fun ρ S => ev P.anc (call P d) (.idx a i) ρ S) := se_idx hC (hE _ _ h.1) (hE _ _ h.2) (chkE_shape h.2).2.2
        exact ⟨pe, asTest pe rfl⟩
      · cases h
    | slc a lo hi =>
      dsimp only at h
      split at h
      · rename_i x l u p2 px
        simp only [Bool.and_eq_true] at h
        obtain ⟨⟨h1, h2⟩, h3⟩ := h
        have pe : PE X (.Subscript x (.Slice l u none p2) px) (tE C W fun ρ S => ev P.anc (call P d) (.slc a lo hi) ρ S) := se_slc hC (hE _ _ h1) (chkO_ok (P := P) (d := d) hE h2) (chkO_ok (P := P) (d := d) hE h3)
        exact ⟨pe, asTest pe rfl⟩
      · cases h
    | rev a =>
      dsimp only at h
      split at h
      · exact ⟨se_rev hC (hE _ _ h), asTest (se_rev hC (hE _ _ h)) rfl⟩
      · cases h
    | comp m is it cond elt =>
      dsimp only at h
      split at h
      · rename_i el tg iter ifs as scope px
        simp only [Bool.and_eq_true, beq_iff_eq, Bool.not_eq_true'] at h
        obtain ⟨⟨⟨⟨⟨⟨⟨rfl, h1⟩, h2⟩, h3⟩, h4⟩, h5⟩, h6⟩, h7⟩ := h
        cases et : tgN tg with
        | none => rw [et] at h2; cases h2
        | some xs =>
          rw [et] at h2
          simp only [Bool.and_eq_true, decide_eq_true_eq] at h2
          obtain ⟨k1, k2, k3, k4, k5, k6⟩ := comp_parts cx hC ih hcls hpn tk h1 et h2.1.1 h2.2 h4 h5 h6 h7
          have pe : PE X (.ListComp el [⟨tg, iter, ifs, 0⟩] scope px) (tE C W fun ρ S => ev P.anc (call P d) (.comp m is it cond elt) ρ S) := se_comp cx.calm cx.nd hC k1 k2 k3 k4 k5 k6 h1
          exact ⟨pe, asTest pe rfl⟩
      · cases h
end Ev

set_option Elab.async false
set_option linter.all false
set_option maxRecDepth 100000
set_option maxHeartbeats 8000000
namespace Ev
open PySem PySem.Spec L2
open PyProof.Rows hiding St
/-! ### two or three names stored at once -/
def tupE : Expr → Bool
  | .Tuple _ _ _ => true
  | _ => false
theorem swap_none1 {tg e : Expr} {env : PySem.Env} (h : tupE e = false) : swappedStores [tg] e env = pure none := by
  unfold swappedStores
  cases e <;> first | (cases tg <;> rfl) | (simp [tupE] at h)
theorem swap_none2 {tg e : Expr} {env : PySem.Env} (h : (match tg with | .Tuple _ _ _ => true | .List _ _ => true | _ => false) = false) : swappedStores [tg] e env = pure none := by
  unfold swappedStores
  cases tg <;> first | (cases e <;> rfl) | (simp at h)
def lineOf : Expr → Nat
  | .Name _ p => p.line
  | _ => 0
/-- the names are plain locals on one line -/
def locals1 (sc : Scope) (ts : List Expr) : Bool :=
  let line := (ts.head?.map (·.pos.line)).getD 0
  ts.all fun | .Name x p => sc.names.lookup x == some .local && p.line == line | _ => false
theorem swap_fold {ts vs : List Expr} {k k' : Nat} {pt pv : Pos} {env : PySem.Env} (h : vs.all (foldedForSure 8) = true) : swappedStores [.Tuple ts k pt] (.Tuple vs k' pv) env = pure none := by
  unfold swappedStores
  simp only [h, if_true]
  split
  · rfl
  · split
    · rfl
    · split
      · rfl
      · rfl
theorem swap_len {ts vs : List Expr} {k k' : Nat} {pt pv : Pos} {env : PySem.Env} (h : (ts.length == 2 || ts.length == 3) = false) : swappedStores [.Tuple ts k pt] (.Tuple vs k' pv) env = pure none := by
  unfold swappedStores
  simp only [h, Bool.not_false, Bool.true_or, if_true]
theorem swap_2 {x y : Str} {px py pt pv : Pos} {a b : Expr} {k k' : Nat} {env : PySem.Env} (hk : env.scope.kind = .function) (sa : starB a = false) (sb : starB b = false) (hx : env.scope.names.lookup x = some .local) (hy : env.scope.names.lookup y = some .local) (hl : py.line = px.line) (hne : x ≠ y)
    (hf : ([a, b].all (foldedForSure 8)) = false) (hc : ([a, b].all (constantsAlone 8)) = false) : swappedStores [.Tuple [.Name x px, .Name y py] k pt] (.Tuple [a, b] k' pv) env = pure (some [x, y]) := by
  have hb : env.blockKind = .function := by unfold Env.blockKind; rw [hk]; rfl
  have h1 : env.kindOf x = some .local := hx
  have h2 : env.kindOf y = some .local := hy
  have hne' : ¬ y = x := fun z => hne z.symm
  have q1 : (y == x) = false := beq_eq_false_iff_ne.mpr hne'
  have hd : ([x, y].eraseDups).length = 2 := by simp [List.eraseDups, List.eraseDupsBy, List.eraseDupsBy.loop, q1]
  unfold swappedStores
  simp only [List.length_cons, List.length_nil, List.head?_cons, Option.map_some, Option.getD_some, Expr.pos, List.filterMap_cons, List.filterMap_nil, h1, h2, hl, beq_self_eq_true, Bool.and_self, if_true, Bool.true_or, Bool.not_true, bne_self_eq_false, Bool.or_self, hb, List.any_cons, List.any_nil, Bool.or_false, Bool.false_eq_true, if_false, hd, hf, hc]
  clear hf hc
  refine if_neg fun h => ?_
  rcases Bool.or_eq_true_iff.mp h with h | h
  · cases a <;> first | exact absurd h Bool.false_ne_true | exact absurd sa (fun z => nomatch z)
  · cases b <;> first | exact absurd h Bool.false_ne_true | exact absurd sb (fun z => nomatch z)
theorem swap_3 {x y z : Str} {px py pz pt pv : Pos} {a b c : Expr} {k k' : Nat} {env : PySem.Env} (hk : env.scope.kind = .function) (sa : starB a = false) (sb : starB b = false) (sc : starB c = false) (hx : env.scope.names.lookup x = some .local) (hy : env.scope.names.lookup y = some .local) (hz : env.scope.names.lookup z = some .local)
    (hl : py.line = px.line) (hl2 : pz.line = px.line) (hne : x ≠ y) (hne2 : x ≠ z) (hne3 : y ≠ z)
    (hf : ([a, b, c].all (foldedForSure 8)) = false) (hc : ([a, b, c].all (constantsAlone 8)) = false) : swappedStores [.Tuple [.Name x px, .Name y py, .Name z pz] k pt] (.Tuple [a, b, c] k' pv) env = pure (some [x, y, z]) := by
  have hb : env.blockKind = .function := by unfold Env.blockKind; rw [hk]; rfl
  have h1 : env.kindOf x = some .local := hx
  have h2 : env.kindOf y = some .local := hy
  have h3 : env.kindOf z = some .local := hz
  have q1 : (y == x) = false := beq_eq_false_iff_ne.mpr fun z => hne z.symm
  have q2 : (z == x) = false := beq_eq_false_iff_ne.mpr fun w => hne2 w.symm
  have q3 : (z == y) = false := beq_eq_false_iff_ne.mpr fun w => hne3 w.symm
  have hd : ([x, y, z].eraseDups).length = 3 := by simp [List.eraseDups, List.eraseDupsBy, List.eraseDupsBy.loop, q1, q2, q3]
  unfold swappedStores
  simp only [List.length_cons, List.length_nil, List.head?_cons, Option.map_some, Option.getD_some, Expr.pos, List.filterMap_cons, List.filterMap_nil, h1, h2, h3, hl, hl2, beq_self_eq_true, Bool.and_self, if_true, Bool.true_or, Bool.or_true, Bool.not_true, bne_self_eq_false, Bool.or_self, hb, List.any_cons, List.any_nil, Bool.or_false, Bool.false_eq_true, if_false, hd, hf, hc]
  clear hf hc
  refine if_neg fun h => ?_
  rcases Bool.or_eq_true_iff.mp h with h | h
  · cases a <;> first | exact absurd h Bool.false_ne_true | exact absurd sa (fun z => nomatch z)
  · rcases Bool.or_eq_true_iff.mp h with h | h
    · cases b <;> first | exact absurd h Bool.false_ne_true | exact absurd sb (fun z => nomatch z)
    · cases c <;> first | exact absurd h Bool.false_ne_true | exact absurd sc (fun z => nomatch z)
end Ev

set_option Elab.async false
set_option linter.all false
set_option maxRecDepth 100000
set_option maxHeartbeats 8000000
namespace Ev
open PySem PySem.Spec L2
open PyProof.Rows hiding St
/-! ### the checker: a text's statement against one of the language -/
def chkL (f : Stmt → S → Bool) : List Stmt → Ss → Bool
  | [], .nil => true
  | _, .cons .never _ => true
  | s :: r, .cons i is => f s i && chkL f r is
  | _, _ => false
def sole (sc : Scope) (x : Str) : Bool := sc.names.lookup x == some .local
/-- two or three names at once -/
def chkW (sc : Scope) (N : List Str) : List Expr → List Expr → List Nat → Bool
  | [.Name x px, .Name y py], [a, b], [i, j] => sole sc x && sole sc y && py.line == px.line && x != y && i != j && N[i]? == some x && N[j]? == some y && !([a, b].all (foldedForSure 8)) && !([a, b].all (constantsAlone 8))
  | [.Name x px, .Name y py, .Name z pz], [a, b, c], [i, j, k] => sole sc x && sole sc y && sole sc z && py.line == px.line && pz.line == px.line && x != y && x != z && y != z && i != j && i != k && j != k && N[i]? == some x && N[j]? == some y && N[k]? == some z && !([a, b, c].all (foldedForSure 8)) && !([a, b, c].all (constantsAlone 8))
  | _, _, _ => false
def chkS (T : Tab) (N : List Str) : Nat → Scope → Stmt → S → Bool
  | 0, _, _, _ => false
  | n + 1, sc, st, ir => match ir with
    | .never => true
    | .asg i e => (match st with
      | .Assign [.Name x px] v pos => N[i]? == some x && locB sc x && chkE T N n sc v e &&
          (!compB v || (match v with | .ListComp _ _ scope p2 => sole sc x && px.line == p2.line && !(scope.names.any fun (n, k) => n == x && (k == .local || k == .cell)) | _ => false))
      | _ => false)
    | .asgT is e => (match st with
      | .Assign [.Tuple ts k pt] (.Tuple vs k' pv) pos => chkE T N n sc (.Tuple vs k' pv) e &&
          (if (ts.length == 2 || ts.length == 3) && !(vs.all (foldedForSure 8)) then chkW sc N ts vs is && (match e with | .tup es => chkEs (chkE T N n sc) vs es | _ => false) else chkT N sc (.Tuple ts k pt) is false)
      | .Assign [.Tuple ts k pt] v pos => !compB v && !tupE v && chkT N sc (.Tuple ts k pt) is false && chkE T N n sc v e
      | _ => false)
    | .setix a i v => (match st with
      | .Assign [.Subscript o ix p] val pos => !compB val && chkE T N n sc o a && chkE T N n sc ix i && chkE T N n sc val v
      | _ => false)
    | .expr e => (match st with | .Expr v pos => !compB v && chkE T N n sc v e | _ => false)
    | .ret e => (match st with
      | .Return (some v) _ => chkE T N n sc v e
      | .Return none _ => (match e with | .con .non => true | _ => false)
      | _ => false)
    | .ife c a b => (match st with | .If t x y _ => chkE T N n sc t c && chkL (chkS T N n sc) x a && chkL (chkS T N n sc) y b | _ => false)
    | .whl c b => (match st with | .While t x [] _ => chkE T N n sc t c && chkL (chkS T N n sc) x b | _ => false)
    | .for_ tg one it b => (match st with | .For t iter x [] _ => !setB iter && chkT N sc t tg one && chkI (chkE T N n sc) sc t iter it && chkL (chkS T N n sc) x b | _ => false)
    | .pass => (match st with | .Pass _ => true | _ => false)
    | .brk => (match st with | .Break _ => true | _ => false)
    | .cont => (match st with | .Continue _ => true | _ => false)
    | .raise_ _ _ => false
    | .try_ _ _ _ _ => false
section
variable {X : Cx} {C : RC} {W : L2.WX} {P : Prog} {T : Tab} {d : Nat} {cls : Nat → Option Addr}
theorem ss_never {st : Stmt} : PS X st (tSt C W fun _ _ => none) := ⟨fun _ _ _ _ _ _ ⟨_, _, _, _, _, h⟩ => h.elim⟩
theorem sb_never {st : List Stmt} : PSs X st (tSt C W fun _ _ => none) := ⟨fun _ _ _ _ _ _ ⟨_, _, _, _, _, h⟩ => h.elim⟩
/-- two names at once -/
theorem ss_par {i j : Nat} {x y : Str} {a b : Expr} {fl : Env → Store → Out (List D)} {px py pt pos : Pos} {kt k2 pt2} (hc : X.calm = true) (hN : X.N.Nodup) (hi : X.N[i]? = some x) (hj : X.N[j]? = some y) (hij : i ≠ j)
    (hx : X.env.scope.names.lookup x = some .local) (hy : X.env.scope.names.lookup y = some .local) (ha : PA X [a, b] (tL C W fl))
    (hw : swappedStores [.Tuple [.Name x px, .Name y py] kt pt] (.Tuple [a, b] k2 pt2) X.env = pure (some [x, y])) :
    PS X (.Assign [.Tuple [.Name x px, .Name y py] kt pt] (.Tuple [a, b] k2 pt2) pos) (tSt C W fun ρ S => bndS (bnd (fl ρ S) fun xs S => some (.ok (.tup xs) S)) ρ fun v S => match setTg ρ [i, j] false v with | some ρ => some (.ok (.nx ρ) S) | none => none) := by
  refine (ps_par hc hN hi hj hij hx hy ha hw).imp fun D σ H ⟨ι, S, ρ, w, er, q⟩ => ⟨ι, S, ρ, w, er, ?_⟩
  dsimp only at q
  cases e : fl ρ S with
  | none => rw [e] at q; exact q.elim
  | some r =>
    rw [e] at q
    cases r with
    | exc c r S => exact fun ι1 H1 d Ca x1 w1 e1 q1 => q ι1 H1 _ d Ca x1 w1 (er.mono x1) e1 q1
    | ok ds S1 =>
      simp only [bnd_ok, bndS_ok] at q
      intro ι1 H1 vs x1 w1 r1
      cases es : setTg ρ [i, j] false (.tup ds) with
      | none => rw [es] at q; exact q.elim
      | some ρ1 =>
        rw [es] at q
        have hl : ds.length = 2 := by
          by_cases hl : 2 = ds.length
          · exact hl.symm
          · have : setTg ρ [i, j] false (.tup ds) = none := if_neg hl
            rw [this] at es; cases es
        match ds, hl with
        | [d1, d2], _ =>
          obtain ⟨v1, _, rfl, r1, v2, _, rfl, r2, rfl⟩ := r1
          cases es
          exact ⟨v1, v2, rfl, q ι1 H1 _ x1 w1 (((er.mono x1).set r1).set r2)⟩
theorem ss_par3 {i j l : Nat} {x y z : Str} {a b c : Expr} {fl : Env → Store → Out (List D)} {px py pz pt pos : Pos} {kt k2 pt2} (hc : X.calm = true) (hN : X.N.Nodup) (hi : X.N[i]? = some x) (hj : X.N[j]? = some y) (hl : X.N[l]? = some z) (hij : i ≠ j) (hil : i ≠ l) (hjl : j ≠ l)
    (hx : X.env.scope.names.lookup x = some .local) (hy : X.env.scope.names.lookup y = some .local) (hz : X.env.scope.names.lookup z = some .local) (ha : PA X [a, b, c] (tL C W fl))
    (hw : swappedStores [.Tuple [.Name x px, .Name y py, .Name z pz] kt pt] (.Tuple [a, b, c] k2 pt2) X.env = pure (some [x, y, z])) :
    PS X (.Assign [.Tuple [.Name x px, .Name y py, .Name z pz] kt pt] (.Tuple [a, b, c] k2 pt2) pos) (tSt C W fun ρ S => bndS (bnd (fl ρ S) fun xs S => some (.ok (.tup xs) S)) ρ fun v S => match setTg ρ [i, j, l] false v with | some ρ => some (.ok (.nx ρ) S) | none => none) := by
  refine (ps_par3 hc hN hi hj hl hij hil hjl hx hy hz ha hw).imp fun D σ H ⟨ι, S, ρ, w, er, q⟩ => ⟨ι, S, ρ, w, er, ?_⟩
  dsimp only at q
  cases e : fl ρ S with
  | none => rw [e] at q; exact q.elim
  | some r =>
    rw [e] at q
    cases r with
    | exc c r S => exact fun ι1 H1 d Ca x1 w1 e1 q1 => q ι1 H1 _ d Ca x1 w1 (er.mono x1) e1 q1
    | ok ds S1 =>
      simp only [bnd_ok, bndS_ok] at q
      intro ι1 H1 vs x1 w1 r1
      cases es : setTg ρ [i, j, l] false (.tup ds) with
      | none => rw [es] at q; exact q.elim
      | some ρ1 =>
        rw [es] at q
        have hl : ds.length = 3 := by
          by_cases hl : 3 = ds.length
          · exact hl.symm
          · have : setTg ρ [i, j, l] false (.tup ds) = none := if_neg hl
            rw [this] at es; cases es
        match ds, hl with
        | [d1, d2, d3], _ =>
          obtain ⟨v1, _, rfl, r1, v2, _, rfl, r2, v3, _, rfl, r3, rfl⟩ := r1
          cases es
          exact ⟨v1, v2, v3, rfl, q ι1 H1 _ x1 w1 ((((er.mono x1).set r1).set r2).set r3)⟩
theorem sole_ok {sc : Scope} {x : Str} (h : sole sc x = true) : sc.names.lookup x = some .local := beq_iff_eq.mp h
theorem chkL_ok {f : Stmt → S → Bool} (hf : ∀ st ir, f st ir = true → PS X st (tSt C W fun ρ S => ex P.anc (call P d) ir ρ S)) : ∀ (sts : List Stmt) (is : Ss), chkL f sts is = true → PSs X sts (tSt C W fun ρ S => exs P.anc (call P d) is ρ S)
  | [], .nil, _ => sb_nil
  | s :: r, .cons i is, h => by
    by_cases hn : i = .never
    · subst hn; exact sb_never
    · have h : (f s i && chkL f r is) = true := by
        cases i <;> first | exact absurd rfl hn | exact h
      rw [Bool.and_eq_true] at h
      exact sb_cons (hf _ _ h.1) (chkL_ok hf r is h.2)
  | [], .cons i is, h => by
    cases i <;> first | exact sb_never | (simp [chkL] at h)
  | _ :: _, .nil, h => by simp [chkL] at h
end
end Ev

set_option Elab.async false
set_option linter.all false
set_option maxRecDepth 100000
set_option maxHeartbeats 8000000
namespace Ev
open PySem PySem.Spec L2
open PyProof.Rows hiding St
theorem wh_none {tg : Expr} (h : tupE tg = true) {e : Expr} (he : tupE e = false) (env : PySem.Env) : swappedStores [tg] e env = pure none := swap_none1 he
/-! ### the statements' soundness -/
theorem soundS {P : Prog} {T : Tab} {d : Nat} {cls : Nat → Option Addr} : ∀ (n : Nat) {X : Cx} (cx : Cxt X cls P T d) (hk : X.env.scope.kind = .function) (hfn : ∀ x, X.fn x = true) (hp : PassesOwn (model X.prog X.w) X.A X.env X.xe) {C : RC} (hC : C.K = X.K) (hcls : C.cls = cls) (hpn : C.pn = []) {W : L2.WX} (tk : Takes X W) (st : Stmt) (ir : S),
    chkS T X.N n X.env.scope st ir = true → PS X st (tSt C W fun ρ S => ex P.anc (call P d) ir ρ S) := by
  intro n
  induction n with
  | zero => intro X cx hk hfn hp C hC hcls hpn W tk st ir h; simp [chkS] at h
  | succ n ih =>
    intro X cx hk hfn hp C hC hcls hpn W tk st ir h
    have hE := fun v ir h => (soundE (P := P) (d := d) n cx (C := C) hC hcls hpn tk v ir h).1
    have hT := fun v ir h => (soundE (P := P) (d := d) n cx (C := C) hC hcls hpn tk v ir h).2
    have hS : ∀ v ir, chkE T X.N n X.env.scope v ir = true → starB v = false := fun v ir h => (chkE_shape h).1
    have hL := fun b is h => chkL_ok (P := P) (d := d) (fun st ir h => ih cx hk hfn hp (C := C) hC hcls hpn tk st ir h) b is h
    have hG : ∀ x, locB X.env.scope x = true → Loc X.env.scope x ∧ (X.fn x = true ∨ X.env.scope.names.lookup x = some .local) := fun x h => ⟨locB_ok h, .inl (hfn x)⟩
    simp only [chkS] at h
    cases ir with
    | never => exact ss_never
    | asg i e =>
      dsimp only at h
      split at h
      · rename_i x px v pos
        simp only [Bool.and_eq_true, beq_iff_eq] at h
        obtain ⟨⟨⟨h1, h2⟩, h3⟩, h4⟩ := h
        cases hcb : compB v with
        | false => exact ss_asg cx.nd h1 (locB_ok h2) (.inl (hfn x)) (hE _ _ h3) (noSwap hcb _ _ _)
        | true =>
          rw [hcb] at h4
          simp only [Bool.not_true, Bool.false_or] at h4
          split at h4
          · rename_i el gs scope p2
            simp only [Bool.and_eq_true, beq_iff_eq, Bool.not_eq_true'] at h4
            obtain ⟨⟨k1, k2⟩, k3⟩ := h4
            cases n with
            | zero => simp [chkE] at h3
            | succ m =>
              simp only [chkE, Bool.and_eq_true] at h3
              obtain ⟨hsh, h3⟩ := h3
              cases e <;> first | exact absurd h3 Bool.false_ne_true | skip
              · rename_i m' is it cond elt
                dsimp only at h3
                split at h3
                · rename_i el' tg iter ifs as scope' px' heq
                  cases heq
                  simp only [Bool.and_eq_true, beq_iff_eq, Bool.not_eq_true'] at h3
                  obtain ⟨⟨⟨⟨⟨⟨⟨rfl, h1'⟩, h2'⟩, h3'⟩, h4'⟩, h5'⟩, h6'⟩, h7'⟩ := h3
                  cases et : tgN tg with
                  | none => rw [et] at h2'; cases h2'
                  | some xs =>
                    rw [et] at h2'
                    simp only [Bool.and_eq_true, decide_eq_true_eq] at h2'
                    obtain ⟨q1, q2, q3, q4, q5, q6⟩ := comp_parts cx hC (fun {X} cx {C} hC hcls hpn {W} tk e ir h => soundE (P := P) (d := d) m cx hC hcls hpn tk e ir h) hcls hpn tk h1' et h2'.1.1 h2'.2 h4' h5' h6' h7'
                    exact ss_comp cx.calm cx.nd hC h1 (sole_ok k1) (sw_true hk (sole_ok k1) (beq_iff_eq.mpr k2) k3) q1 q2 q3 q4 q5 q6 h1'
                · cases h3
              · exact (ss_never (X := X)).imp fun D σ H ⟨ι, S, ρ, w, er, q⟩ => ⟨ι, S, ρ, w, er, q⟩
          · cases h4
      · cases h
    | asgT is e =>
      dsimp only at h
      split at h
      · rename_i ts k pt vs k' pv pos
        rw [Bool.and_eq_true] at h
        obtain ⟨h1, h⟩ := h
        split at h
        · rename_i hc
          rw [Bool.and_eq_true] at h
          obtain ⟨h2, h3⟩ := h
          cases e <;> first | (exact absurd h3 Bool.false_ne_true) | skip
          rename_i es
          dsimp only at h3
          obtain ⟨q1, q2⟩ := chkEs_ok (P := P) (d := d) hE hS _ _ h3
          simp only [chkW] at h2
          split at h2
          · rename_i x px y py a b i j
            simp only [Bool.and_eq_true, beq_iff_eq, bne_iff_ne, ne_eq, Bool.not_eq_true'] at h2
            obtain ⟨⟨⟨⟨⟨⟨⟨⟨s1, s2⟩, l1⟩, n1⟩, n2⟩, i1⟩, i2⟩, f1⟩, f2⟩ := h2
            exact ss_par cx.calm cx.nd i1 i2 n2 (sole_ok s1) (sole_ok s2) q1 (swap_2 hk (q2 a (by simp)) (q2 b (by simp)) (sole_ok s1) (sole_ok s2) l1 n1 f1 f2)
          · rename_i x px y py z pz a b c i j l
            simp only [Bool.and_eq_true, beq_iff_eq, bne_iff_ne, ne_eq, Bool.not_eq_true'] at h2
            obtain ⟨⟨⟨⟨⟨⟨⟨⟨⟨⟨⟨⟨⟨⟨⟨s1, s2⟩, s3⟩, l1⟩, l2⟩, n1⟩, n2⟩, n3⟩, m1⟩, m2⟩, m3⟩, i1⟩, i2⟩, i3⟩, f1⟩, f2⟩ := h2
            exact ss_par3 cx.calm cx.nd i1 i2 i3 m1 m2 m3 (sole_ok s1) (sole_ok s2) (sole_ok s3) q1 (swap_3 hk (q2 a (by simp)) (q2 b (by simp)) (q2 c (by simp)) (sole_ok s1) (sole_ok s2) (sole_ok s3) l1 l2 n1 n2 n3 f1 f2)
          · cases h2
        · rename_i hc
          have hw : swappedStores [.Tuple ts k pt] (.Tuple vs k' pv) X.env = pure none := by
            cases hl : (ts.length == 2 || ts.length == 3) with
            | false => exact swap_len hl
            | true =>
              cases hv : vs.all (foldedForSure 8) with
              | true => exact swap_fold hv
              | false => rw [hl, hv] at hc; exact absurd rfl hc
          exact ss_asgT hC (hE _ _ h1) (chkT_ok cx.calm cx.nd X.env.scope hG h) rfl hw rfl
      · rename_i ts k pt v pos hne
        simp only [Bool.and_eq_true, Bool.not_eq_true'] at h
        obtain ⟨⟨⟨h1, h2⟩, h3⟩, h4⟩ := h
        exact ss_asgT hC (hE _ _ h4) (chkT_ok cx.calm cx.nd X.env.scope hG h3) (noSwap h1 (some (.Tuple ts k pt)) pos.line X.env) (swap_none1 h2) rfl
      · cases h
    | setix a i v =>
      dsimp only at h
      split at h
      · rename_i o ix p val pos
        simp only [Bool.and_eq_true, Bool.not_eq_true'] at h
        obtain ⟨⟨⟨h1, h2⟩, h3⟩, h4⟩ := h
        have hsl := (chkE_shape h3).2.2
        refine ss_setix (hE _ _ h4) (pg_sub (hE _ _ h2) (hE _ _ h3) set_setix fun u => ?_) (noSwap h1 (some (.Subscript o ix p)) pos.line X.env) (swap_none2 rfl) rfl
        cases ix <;> first | rfl | exact absurd hsl (fun z => nomatch z)
      · cases h
    | expr e =>
      dsimp only at h
      split at h
      · rename_i v pos
        simp only [Bool.and_eq_true, Bool.not_eq_true'] at h
        exact ss_expr (hE _ _ h.2) (noSwap h.1 _ _ _)
      · cases h
    | ret e =>
      dsimp only at h
      split at h
      · exact ss_ret (hE _ _ h)
      · split at h
        · exact ss_retN
        · cases h
      · cases h
    | ife c a b =>
      dsimp only at h
      split at h
      · simp only [Bool.and_eq_true] at h
        obtain ⟨⟨h1, h2⟩, h3⟩ := h
        exact ss_if (hT _ _ h1) (hL _ _ h2) (hL _ _ h3)
      · cases h
    | whl c b =>
      dsimp only at h
      split at h
      · simp only [Bool.and_eq_true] at h
        exact ss_while hp (hT _ _ h.1) (hL _ _ h.2)
      · cases h
    | for_ tg one it b =>
      dsimp only at h
      split at h
      · simp only [Bool.and_eq_true, Bool.not_eq_true'] at h
        obtain ⟨⟨⟨h1, h2⟩, h3⟩, h4⟩ := h
        exact ss_for h1 hC hp cx.calm (chkI_ok (P := P) (d := d) cx hC hE hS h3) (chkT_ok cx.calm cx.nd X.env.scope hG h2) (hL _ _ h4)
      · cases h
    | pass =>
      dsimp only at h
      split at h
      · exact ss_pass
      · cases h
    | brk =>
      dsimp only at h
      split at h
      · exact ss_brk
      · cases h
    | cont =>
      dsimp only at h
      split at h
      · exact ss_cont
      · cases h
    | raise_ _ _ => cases h
    | try_ _ _ _ _ => cases h
theorem soundL {P : Prog} {T : Tab} {d : Nat} {cls : Nat → Option Addr} (n : Nat) {X : Cx} (cx : Cxt X cls P T d) (hk : X.env.scope.kind = .function) (hfn : ∀ x, X.fn x = true) (hp : PassesOwn (model X.prog X.w) X.A X.env X.xe) {C : RC} (hC : C.K = X.K) (hcls : C.cls = cls) (hpn : C.pn = []) {W : L2.WX} (tk : Takes X W) (sts : List Stmt) (is : Ss)
    (h : chkL (chkS T X.N n X.env.scope) sts is = true) : PSs X sts (tSt C W fun ρ S => exs P.anc (call P d) is ρ S) :=
  chkL_ok (P := P) (d := d) (fun st ir h => soundS n cx hk hfn hp (C := C) hC hcls hpn tk st ir h) sts is h
end Ev

set_option Elab.async false
set_option linter.all false
set_option maxRecDepth 100000
set_option maxHeartbeats 8000000
namespace Ev
open PySem PySem.Spec L2
open PyProof.Rows hiding St
/-! ### a call's end: the store cut back -/
section
variable {C : RC} {ι ι1 : List Addr} {H H1 : Hp} {n : Nat}
theorem getElem?_pre {ι more : List Addr} {m : Nat} {p : Addr} (h : (ι ++ more)[m]? = some p) (hm : m < ι.length) : ι[m]? = some p := by
  rw [List.getElem?_append_left hm] at h; exact h
theorem Fr.cut {more : List Addr} {p : Addr} (h : Fr C (ι ++ more) p) : Fr C ι p := ⟨fun z => h.1 (List.mem_append_left _ z), h.2⟩
mutual
theorem Rep.cutB {more : List Addr} : ∀ (d : D) (v : V), below ι.length d = true → Rep C (ι ++ more) H d v → Rep C ι H d v
  | .non, _, _, h => h
  | .bl _, _, _, h => h
  | .int _, _, _, h => h
  | .str _, _, _, h => h
  | .tup ds, _, b, ⟨p, xs, e, h, l, r⟩ => ⟨p, xs, e, h, l, Reps.cutB ds xs b r⟩
  | .lst ds, _, b, ⟨p, xs, e, n, h, l, r⟩ => ⟨p, xs, e, n.cut, h, l, Reps.cutB ds xs b r⟩
  | .fz ds, _, b, ⟨p, xs, e, h, l, r⟩ => ⟨p, xs, e, h, l, Reps.cutB ds xs b r⟩
  | .dct _ _, _, _, ⟨p, e, n, h, k⟩ => ⟨p, e, n.cut, h, k⟩
  | .ref m, _, b, ⟨p, h, e⟩ => ⟨p, getElem?_pre h (of_decide_eq_true b), e⟩
  | .exn _ _, _, b, _ => absurd b (fun z => nomatch z)
theorem Reps.cutB {more : List Addr} : ∀ (ds : List D) (vs : List V), belows ι.length ds = true → Reps C (ι ++ more) H ds vs → Reps C ι H ds vs
  | [], _, _, h => h
  | d :: ds, _, b, ⟨v, r, e, h1, h2⟩ => by
    simp only [belows, Bool.and_eq_true] at b
    exact ⟨v, r, e, Rep.cutB d v b.1 h1, Reps.cutB ds r b.2 h2⟩
end
theorem RowRep.cut {more : List Addr} {d : Option Addr} : ∀ {r : List D}, RowRep (ι ++ more) H d r → RowRep ι H d r
  | [], _ => trivial
  | [_], ⟨dd, fs, y, e, n, h, l, s⟩ => ⟨dd, fs, y, e, fun z => n (List.mem_append_left _ z), h, l, s⟩
mutual
theorem Rep.cutO {more : List Addr} : ∀ (d : D) (v v0 : V), Rep C ι H d v0 → Rep C (ι ++ more) H1 d v → Rep C ι H1 d v
  | .non, _, _, _, h => h
  | .bl _, _, _, _, h => h
  | .int _, _, _, _, h => h
  | .str _, _, _, _, h => h
  | .tup ds, _, _, ⟨_, _, _, _, _, b⟩, ⟨p, xs, e, h, l, r⟩ => ⟨p, xs, e, h, l, Reps.cutO ds xs _ b r⟩
  | .lst ds, _, _, ⟨_, _, _, _, _, _, b⟩, ⟨p, xs, e, n, h, l, r⟩ => ⟨p, xs, e, n.cut, h, l, Reps.cutO ds xs _ b r⟩
  | .fz ds, _, _, ⟨_, _, _, _, _, b⟩, ⟨p, xs, e, h, l, r⟩ => ⟨p, xs, e, h, l, Reps.cutO ds xs _ b r⟩
  | .dct _ _, _, _, _, ⟨p, e, n, h, k⟩ => ⟨p, e, n.cut, h, k⟩
  | .ref m, _, _, ⟨q, h0, _⟩, ⟨p, h, e⟩ => ⟨p, getElem?_pre h (List.getElem?_eq_some_iff.mp h0).1, e⟩
  | .exn _ _, _, _, _, ⟨a, oe, d, Ca, e, h1, h2, h3, h4, h5⟩ => ⟨a, oe, d, Ca, e, h1, h2, h3, h4, h5.cut⟩
theorem Reps.cutO {more : List Addr} : ∀ (ds : List D) (vs vs0 : List V), Reps C ι H ds vs0 → Reps C (ι ++ more) H1 ds vs → Reps C ι H1 ds vs
  | [], _, _, _, h => h
  | d :: ds, _, _, ⟨_, _, _, b1, b2⟩, ⟨v, r, e, h1, h2⟩ => ⟨v, r, e, Rep.cutO d v _ b1 h1, Reps.cutO ds r _ b2 h2⟩
end
theorem sameO_lst {o o' : Ob} {ds : List D} (h : sameO o' o = true) (e : o' = .lst ds) : o = .lst ds := by
  subst e
  cases o <;> simp only [sameO, Bool.false_eq_true] at h
  rw [sames_eq _ _ h]
theorem cutOk_at : ∀ {S S' : Store} {n i : Nat} {o o' : Ob}, cutOk n S S' = true → S[i]? = some o → S'[i]? = some o' → (sameO o' o || belowO n o') = true
  | [], _, _, _, _, _, _, h, _ => by simp at h
  | _ :: _, [], _, _, _, _, h, _, _ => by simp [cutOk] at h
  | o :: S, o' :: S', n, 0, _, _, h, h1, h2 => by
    simp only [cutOk, Bool.and_eq_true] at h
    simp at h1 h2
    subst h1; subst h2
    exact h.1
  | o :: S, o' :: S', n, i + 1, _, _, h, h1, h2 => by
    simp only [cutOk, Bool.and_eq_true] at h
    exact cutOk_at h.2 (by simpa using h1) (by simpa using h2)
theorem Ext.cut {more : List Addr} (x : Ext ι H (ι ++ more) H1) : Ext ι H ι H1 :=
  ⟨⟨[], by simp⟩, fun p o h n => ⟨(x.keep p o h n).1, n⟩, x.tups, x.frzs⟩
theorem WRel.cut {S S' : Store} {more : List Addr} (w : WRel C ι H S) (w1 : WRel C (ι ++ more) H1 S') (hc : cutOk S.length S S' = true) : WRel C ι H1 (S'.take S.length) := by
  have hlen : S.length ≤ S'.length := by rw [w.len, w1.len]; simp
  refine ⟨by rw [List.length_take, Nat.min_eq_left hlen]; exact w.len, w.nd, fun m o' p h1 h2 => ?_, fun p hp => ⟨(w1.hid p hp).1, fun z => (w1.hid p hp).2 (List.mem_append_left _ z)⟩⟩
  have hm : m < S.length := by rw [w.len]; exact (List.getElem?_eq_some_iff.mp h2).1
  rw [List.getElem?_take_of_lt hm] at h1
  have hs : S[m]? = some S[m] := by simp [hm]
  have r1 := w1.at_ m o' p h1 (by rw [List.getElem?_append_left (by rw [← w.len]; exact hm)]; exact h2)
  have r0 := w.at_ m _ p hs h2
  have hk := cutOk_at hc hs h1
  cases o' with
  | dct _ _ => exact r1
  | ins _ _ => exact r1
  | lst ds =>
    obtain ⟨xs, e1, l1, r1⟩ := r1
    refine ⟨xs, e1, l1, ?_⟩
    rcases Bool.or_eq_true_iff.mp hk with hk | hk
    · rw [sameO_lst hk rfl] at r0
      obtain ⟨ys, _, _, r0⟩ := r0
      exact Reps.cutO _ _ _ r0 r1
    · rw [w.len] at hk
      exact Reps.cutB _ _ hk r1
theorem freeze_ok {S S' : Store} {more : List Addr} {d d' : D} {v : V} (w : WRel C ι H S) (w1 : WRel C (ι ++ more) H1 S') (h : freeze S.length S' d = some d') (r : Rep C (ι ++ more) H1 d v) : Rep C ι H1 d' v := by
  rw [w.len] at h
  have rest : ∀ d, below ι.length d = true → Rep C (ι ++ more) H1 d v → Rep C ι H1 d v := fun d b r => Rep.cutB d v b r
  cases d with
  | ref m =>
    simp only [freeze] at h
    split at h
    · rename_i hm
      cases h
      exact rest _ (decide_eq_true hm) r
    · rename_i hm
      obtain ⟨p, hp, rfl⟩ := r
      cases hs : S'[m]? with
      | none => rw [hs] at h; cases h
      | some o =>
        rw [hs] at h
        have ro := w1.at_ m o p hs hp
        cases o with
        | dct _ _ => exact ro.elim
        | ins _ _ => exact ro.elim
        | lst xs =>
          dsimp only at h
          split at h
          · rename_i hb
            cases h
            obtain ⟨ys, e1, l1, r1⟩ := ro
            refine ⟨p, ys, rfl, ⟨fun z => ?_, fun z => (w1.hid p z).2 (List.mem_of_getElem? hp)⟩, e1, l1, Reps.cutB _ _ hb r1⟩
            obtain ⟨k, hk, e⟩ := List.getElem_of_mem z
            have e2 : (ι ++ more)[k]? = some p := by rw [List.getElem?_append_left hk]; simp [hk, e]
            have := nd_ix w1.nd e2 hp
            omega
          · cases h
  | non => cases h; exact r
  | bl _ => cases h; exact r
  | int _ => cases h; exact r
  | str _ => cases h; exact r
  | tup ds =>
    simp only [freeze] at h
    split at h
    · rename_i hb; cases h; exact rest _ hb r
    · cases h
  | lst ds =>
    simp only [freeze] at h
    split at h
    · rename_i hb; cases h; exact rest _ hb r
    · cases h
  | fz ds =>
    simp only [freeze] at h
    split at h
    · rename_i hb; cases h; exact rest _ hb r
    · cases h
  | dct _ _ =>
    simp only [freeze] at h
    split at h
    · rename_i hb; cases h; exact rest _ hb r
    · cases h
  | exn _ _ =>
    simp only [freeze] at h
    split at h
    · rename_i hb; exact absurd hb (fun z => nomatch z)
    · cases h
theorem close_ok {raw : Bool} {S S' : Store} {d : D} {W : L2.WX} {σ : St} {Q : V → Hp → Prop} (w : WRel C ι H S) (h : Fin C W σ (Rep C) ι H (close raw S S' d) Q) : ∀ ι1 H1 v, Ext ι H ι1 H1 → WRel C ι1 H1 S' → Rep C ι1 H1 d v → Q v H1 := by
  intro ι1 H1 v x w1 r
  unfold close at h
  split at h
  · exact h ι1 H1 v x w1 r
  · cases hf : freeze S.length S' d with
    | none => rw [hf] at h; exact h.elim
    | some d' =>
      rw [hf] at h
      dsimp only at h
      split at h
      · rename_i hc
        obtain ⟨more, rfl⟩ := x.pre
        exact h ι H1 v x.cut (w.cut w1 hc) (freeze_ok w w1 hf r)
      · exact h.elim
theorem fin_ok {raw : Bool} {S : Store} {o : Out F} {E : XK} {Q : V → Hp → Prop} (w : WRel C ι H S) (h : Fin C (fun cls d _ H => E cls d H) [] (Rep C) ι H (fin raw S o) Q) :
    FinS C (fun cls d _ H => E cls d H) ι H o { nx := fun _ H' => Q .non H', rt := Q } := by
  cases o with
  | none => exact h.elim
  | some r =>
    cases r with
    | exc c r S => exact h.elim
    | ok f S' =>
      cases f with
      | nx ρ => exact fun ι1 H1 σ1 x1 w1 e1 => close_ok w h ι1 H1 .non x1 w1 rfl
      | bk ρ => exact h.elim
      | ct ρ => exact h.elim
      | rt d => exact close_ok w h
      | xc ρ c r =>
        intro ι1 H1 σ1 d Ca x1 w1 e1 hc hr
        simp only [fin] at h
        split at h
        · exact h ι1 H1 d Ca x1 w1 hc hr
        · split at h
          · rename_i hk
            rw [Bool.and_eq_true] at hk
            obtain ⟨more, rfl⟩ := x1.pre
            exact h ι H1 d Ca x1.cut (w.cut w1 hk.2) hc hr.cut
          · exact h.elim
end
/-- the slots at the entry -/
theorem env_start {C : RC} {ι : List Addr} {H : Hp} {N : List Str} {ds : List D} {vs : List V} (r : Reps C ι H ds vs) {k : Nat} (hk : k = N.length - ds.length) : EnvRep C ι H (ds.map some ++ List.replicate k none) (L2.start N vs) := by
  subst hk
  refine ⟨by simp [L2.start, r.length], fun i d h => ?_⟩
  by_cases hi : i < ds.length
  · rw [List.getElem?_append_left (by simpa using hi)] at h
    rw [List.getElem?_map] at h
    cases e : ds[i]? with
    | none => rw [e] at h; cases h
    | some d' =>
      rw [e] at h
      cases h
      obtain ⟨v, h1, h2⟩ := r.get e
      refine ⟨v, ?_, h2⟩
      unfold L2.start
      rw [List.getElem?_append_left (by simpa [← r.length] using hi), List.getElem?_map, h1]
      rfl
  · rw [List.getElem?_append_right (by simpa using hi)] at h
    have := List.mem_of_getElem? h
    rw [List.mem_replicate] at this
    exact absurd this.2 (fun z => nomatch z)
/-! ### a def -/
theorem fn_sound {P : Prog} {T : Tab} {d : Nat} {cls : Nat → Option Addr} {prog : Program} {w : World} {K : PySem.W.Frag} {mg : Str → Option Value} {base : Heap} {C : RC} {x qual : Str} {st : Stmt} {fa : Addr} {fd : FuncData} {N ps : List Str} {f : Nat} {Fn : Fn}
    (F : Fun K x qual st fa fd) (hS : FnScope N ps (defScope st)) (hP : P.fns[f]? = some Fn) (hnp : Fn.np = ps.length) (hns : Fn.ns = N.length) {n : Nat} (hchk : chkL (chkS T N n (defScope st)) (defBody st) Fn.body = true)
    (hC : C.K = K) (hcls : C.cls = cls) (hpn : C.pn = [])
    (cx : ∀ X : Cx, X.prog = prog → X.w = w → X.K = K → X.mg = mg → X.base = base → X.calm = true → X.N.Nodup → Room d X.A → Cxt X cls P T d) :
    FnOk prog w K mg base (L2.CX prog w) (d + 1) fa fd ps (spOf C P (d + 1) f) := by
  have hlen : ∀ (S : Store) (ds : List D), call P (d + 1) f ds S ≠ none → ds.length = ps.length ∧ call P (d + 1) f ds S = fin Fn.raw S (exs P.anc (call P d) Fn.body (ds.map some ++ List.replicate (Fn.ns - Fn.np) none) S) := fun S ds h => by
    unfold call at h ⊢
    rw [hP] at h ⊢
    dsimp only at h ⊢
    split at h
    · rename_i hl
      exact ⟨hl.trans hnp, by rw [if_pos hl]⟩
    · exact absurd rfl h
  have hne : ∀ {ι : List Addr} {H : Hp} {Q : VK} {E : XK} {o : Out D}, Fin C (fun cls d _ H => E cls d H) [] (Rep C) ι H o Q → o ≠ none := fun h e => by subst e; exact h
  refine Fun.okX F hS (fun vs H Q E ⟨ι, S, ds, w1, r, q⟩ => ?_) fun cdv A outer s H vs Q E hr ⟨ι, S, ds, w1, r, q⟩ => ?_
  · rw [← r.length]
    exact (hlen S ds (hne q)).1
  · obtain ⟨hl, hcall⟩ := hlen S ds (hne q)
    refine ⟨tSt C (fun cls d _ H => E cls d H) fun ρ S => exs P.anc (call P d) Fn.body ρ S, ?_, ι, S, _, w1, env_start r ?_, fin_ok w1 (hcall ▸ q)⟩
    · exact soundL (X := cxOf (L2.CX prog w) prog w K mg base N qual (defScope st) fa cdv A outer s H E) n (cx _ rfl rfl rfl rfl rfl rfl hS.nd hr) hS.kind (fun _ => rfl) (passes_of rfl) hC hcls hpn (takes_of rfl rfl rfl rfl) _ _ hchk
    · rw [hns, hnp, hl]
end Ev

set_option Elab.async false
set_option linter.all false
set_option maxRecDepth 100000
set_option maxHeartbeats 8000000
namespace Ev
open PySem PySem.Spec L2
open PyProof.Rows hiding St
/-! ### all defs of a text -/
def scB (N ps : List Str) (sc : Scope) : Bool :=
  decide (sc.kind = .function) && !sc.isCoroutine && !sc.isGenerator && decide N.Nodup && decide (N.take ps.length = ps) && ps.all (fun x => locB sc x) && sc.names.all (fun y => !decide (y.2 = .free))
theorem scB_ok {N ps : List Str} {sc : Scope} (h : scB N ps sc = true) : FnScope N ps sc := by
  unfold scB at h
  simp only [Bool.and_eq_true, Bool.not_eq_true', decide_eq_true_eq, List.all_eq_true, decide_eq_false_iff_not] at h
  obtain ⟨⟨⟨⟨⟨⟨h1, h2⟩, h3⟩, h4⟩, h5⟩, h6⟩, h7⟩ := h
  exact ⟨h1, h2, h3, h4, h5, fun x hx => locB_ok (h6 x hx), h7⟩
/-- a def's text stands against its row of the language -/
structure Txt (P : Prog) (T : Tab) (n : Nat) (f : Nat) (x : Str) (st : Stmt) (N ps : List Str) : Prop where
  sc : scB N ps (defScope st) = true
  fn : ∃ Fn, P.fns[f]? = some Fn ∧ Fn.np = ps.length ∧ Fn.ns = N.length ∧ chkL (chkS T N n (defScope st)) (defBody st) Fn.body = true
/-- every parameter is given, none has a default -/
def BF (fd : FuncData) (ps : List Str) : Prop := ∀ us : List Value, us.length = ps.length → bindArgs fd ⟨us, []⟩ = pure (ps.zip us)
/-- a def as it stands in the written part -/
def DefAt (K : PySem.W.Frag) (mg : Str → Option Value) (P : Prog) (T : Tab) (ps : List Str) (f : Nat) (x : Str) (fa : Addr) (fd : FuncData) : Prop :=
  ∃ (st : Stmt) (N : List Str) (n : Nat), Fun K x x st fa fd ∧ mg x = some (.ref fa) ∧ PySem.W.keepIn K (.ref fa) = true ∧ BF fd ps ∧ Txt P T n f x st N ps
def DefOk (K : PySem.W.Frag) (mg : Str → Option Value) (P : Prog) (T : Tab) (ps : List Str) (f : Nat) (x : Str) : Prop := ∃ fa fd, DefAt K mg P T ps f x fa fd
def ConOk (K : PySem.W.Frag) (mg : Str → Option Value) (x : Str) (dv : D) : Prop := ∃ v u, mg x = some u ∧ RelV v u ∧ ∀ (C : RC) ι H, C.K = K → Rep C ι H dv v
theorem con_int {K : PySem.W.Frag} {mg : Str → Option Value} {x : Str} {i : Int} {t : Tok} (h : mg x = some (.int i t)) : ConOk K mg x (.int i) := ⟨.int i, .int i t, h, ⟨t, rfl⟩, fun _ _ _ _ => rfl⟩
theorem con_str {K : PySem.W.Frag} {mg : Str → Option Value} {x : Str} {s : Str} {l : List Nat} {t : Tok} (h : mg x = some (.str s t)) (hs : s.cps.toList = l) (hl : l.length ≤ lim) : ConOk K mg x (.str l) :=
  ⟨.str s, .str s t, h, ⟨t, rfl⟩, fun _ _ _ _ => ⟨by congr 1; apply TL.ext_tl; exact hs, hl⟩⟩
theorem all_ok {K : PySem.W.Frag} {mg : Str → Option Value} {P : Prog} {T : Tab} {cls : Nat → Option Addr} {prog : Program} {w : World} {base : Heap}
    {pt : Nat → List Str} (hd : ∀ (f : Nat) (x : Str), T.fns[f]? = some x → DefOk K mg P T (pt f) f x) (hc : ∀ (x : Str) (dv : D), (x, dv) ∈ T.con → ConOk K mg x dv) (hb : ∀ x ∈ bltNames, mg x = none) :
    ∀ (d f : Nat) (x : Str) (fa : Addr) (fd : FuncData), DefAt K mg P T (pt f) f x fa fd → ∀ C : RC, C.K = K → C.cls = cls → C.pn = [] → FnOk prog w K mg base (L2.CX prog w) d fa fd (pt f) (spOf C P d f)
  | 0, f, x, fa, fd, _ => fun C _ _ _ => by
    refine ⟨fun vs H Q E h => ?_, fun A outer s H args us vs Q E _ _ _ _ h => ?_⟩
    · obtain ⟨ι, S, ds, _, _, h⟩ := h
      exact h.elim
    · obtain ⟨ι, S, ds, _, _, h⟩ := h
      exact h.elim
  | d + 1, f, x, fa, fd, h => fun C hC hcls hpn => by
    obtain ⟨st, N, n, F, h1, h2, h3, t⟩ := h
    obtain ⟨Fn, t1, t2, t3, t4⟩ := t.fn
    refine fn_sound F (scB_ok t.sc) t1 t2 t3 t4 hC hcls hpn fun X e1 e2 e3 e4 e5 e6 e7 e8 => ⟨e6, e7, e8, fun f x hf => ?_, fun x dv h => ?_, fun x h => by rw [e4]; exact hb x h⟩
    · obtain ⟨fa, fd, h⟩ := hd f x hf
      have g4 := all_ok (cls := cls) (prog := prog) (w := w) (base := base) hd hc hb d f x fa fd h
      obtain ⟨st, N, n, F, h1, h2, h3, t⟩ := h
      rw [e1, e2, e3, e4, e5]
      exact ⟨fa, fd, pt f, h1, h2, .all h3, g4⟩
    · have := hc x dv h
      rw [e4, e3]
      exact this
/-! ### the law -/
theorem sqF_of {K : PySem.W.Frag} {H : Hp} {a : Addr} {xs : List V} (hO : Only H) (h : SqL K H a xs) : SqF K H a xs := by
  rcases h with (h | h) | h
  · rcases hO a with e | ⟨o, ys, e⟩
    · rw [h] at e; cases e
    · rw [h] at e; cases e
  · exact .inl h
  · exact .inr h
theorem reps_ints {C : RC} {ι : List Addr} {H : Hp} : ∀ (ns : List Int), Reps C ι H (ns.map .int) (ns.map V.int)
  | [] => rfl
  | n :: ns => ⟨.int n, ns.map V.int, rfl, rfl, reps_ints ns⟩
theorem hCX {prog : Program} {w : World} {H : Hp} {s : Shared} {e : Value} {s' : Shared} (h : L2.CX prog w [] H s (fun _ _ _ => False) e s') : False := by
  obtain ⟨_, _, _, _, _, _, _, _, _, _, _, _, z⟩ := h
  exact z
theorem law_walk {l : PySem.W.OpenLaw} {q : Program} {loose : List Str} {XP : (Str → Option Value) → Heap → Prop} {YP : World → Heap → Prop} {d : DefRec} {K : Params → PySem.W.Frag} {P : Prog} {T : Tab} {pt : Nat → List Str} {k f : Nat} {x : Str}
    (hn : l.most = some 63) (hdf : d.params.defaults = []) (hr : Room k callerA) (hY : ∀ (w : World) (h : Heap), YP w h → (K w.params).In h)
    (hf : T.fns[f]? = some d.name) (hp : pt f = [x])
    (F : ∀ (w : World) (mg : Str → Option Value) (h : Heap), (K w.params).In h → h.Ns mainGlobals mg →
      (∀ (f : Nat) (x : Str), T.fns[f]? = some x → DefOk (K w.params) mg P T (pt f) f x) ∧ (∀ (x : Str) (dv : D), (x, dv) ∈ T.con → ConOk (K w.params) mg x dv) ∧ (∀ x ∈ bltNames, mg x = none))
    (hlaw : ∀ ns : List Int, ns.length ≤ 63 → ∃ S, call P k f [.fz (ns.map .int)] [] = some (.ok (.bl true) S)) :
    PySem.W.WalkO q loose XP YP l.row.toRowW d [] (fun f vs => PySem.call f vs) := by
  refine L2.walk_of (n := 63) (k := k) (x := x) (K := K) (CX := fun w => L2.CX l.prog w) (sp := fun w => spOf ⟨K w.params, [], fun _ => none, []⟩ P k f) hn (by decide) hdf hr hY (fun w mg fa h KX G hmg => ?_) (fun w H a ns hl hO hS => ?_) fun _ _ _ _ _ h => hCX h
  · obtain ⟨F1, F2, F3⟩ := F w mg h KX G
    obtain ⟨fa', fd, hat⟩ := F1 f _ hf
    have k4 := fun base => all_ok (cls := fun _ => none) (prog := l.prog) (w := w) (base := base) F1 F2 F3 k f _ fa' fd hat ⟨K w.params, [], fun _ => none, []⟩ rfl rfl rfl
    obtain ⟨st, N, n, F, h1, h2, h3, t⟩ := hat
    rw [hmg] at h1
    cases h1
    rw [hp] at h3 k4
    exact ⟨fd, fun s u => .of_eq (h3 [u] rfl), fun base hb hbn => k4 base⟩
  · obtain ⟨S, hS'⟩ := hlaw ns hl
    refine ⟨[], [], [.fz (ns.map .int)], ⟨rfl, .nil, fun n o p h => by simp at h, fun p hp => by simp at hp⟩, ⟨.ref a, [], rfl, ⟨a, ns.map V.int, rfl, sqF_of hO hS, by simp; have : lim = 16777216 := rfl; omega, reps_ints ns⟩, rfl⟩, ?_⟩
    rw [hS']
    exact fun ι' H' x _ _ r => r
end Ev

set_option Elab.async false
set_option linter.all false
set_option maxRecDepth 100000
set_option maxHeartbeats 4000000
/-! Reckoning with the evaluator. -/
namespace Ev
open PySem
theorem call_at {P : Prog} {d f : Nat} {args : List D} {S : Store} {Fn : Fn} (hf : P.fns[f]? = some Fn) (hl : args.length = Fn.np) :
    call P (d + 1) f args S = fin Fn.raw S (exs P.anc (call P d) Fn.body (args.map some ++ List.replicate (Fn.ns - Fn.np) none) S) := by
  unfold call
  rw [hf]
  dsimp only
  rw [if_pos hl]
section
variable {anc : Nat → List Nat} {Φ : Nat → List D → Store → Out D} {ρ : Env} {S : Store}
@[simp] theorem ev_con {d : D} : ev anc Φ (.con d) ρ S = some (.ok d S) := rfl
theorem ev_var {i : Nat} {v : D} (h : ρ[i]? = some (some v)) : ev anc Φ (.var i) ρ S = some (.ok v S) := by simp only [ev, h]
@[simp] theorem ev_bin {o : BOp} {a b : E} : ev anc Φ (.bin o a b) ρ S = bnd (ev anc Φ a ρ S) fun x S => bnd (ev anc Φ b ρ S) fun y S => bin o x y S := rfl
@[simp] theorem ev_cmp {o : COp} {a b : E} : ev anc Φ (.cmp o a b) ρ S = bnd (ev anc Φ a ρ S) fun x S => bnd (ev anc Φ b ρ S) fun y S => (cmp o (view S x) (view S y)).map fun b => .ok (.bl b) S := rfl
@[simp] theorem ev_chain {o o' : COp} {a b c : E} : ev anc Φ (.chain o o' a b c) ρ S = bnd (ev anc Φ a ρ S) fun x S => bnd (ev anc Φ b ρ S) fun y S => match cmp o (view S x) (view S y) with
    | some true => bnd (ev anc Φ c ρ S) fun z S => (cmp o' (view S y) (view S z)).map fun b => .ok (.bl b) S
    | some false => some (.ok (.bl false) S)
    | none => none := rfl
@[simp] theorem ev_and {a b : E} : ev anc Φ (.and a b) ρ S = bnd (asB (ev anc Φ a ρ S)) fun x S => if x then ev anc Φ b ρ S else some (.ok (.bl false) S) := rfl
@[simp] theorem ev_or {a b : E} : ev anc Φ (.or a b) ρ S = bnd (asB (ev anc Φ a ρ S)) fun x S => if x then some (.ok (.bl true) S) else ev anc Φ b ρ S := rfl
@[simp] theorem ev_not {a : E} : ev anc Φ (.not a) ρ S = bnd (asB (ev anc Φ a ρ S)) fun x S => some (.ok (.bl (!x)) S) := rfl
@[simp] theorem ev_neg {a : E} : ev anc Φ (.neg a) ρ S = bnd (ev anc Φ a ρ S) fun x S => match x with | .int i => some (.ok (.int (-i)) S) | _ => none := rfl
@[simp] theorem ev_ife {a b c : E} : ev anc Φ (.ife c a b) ρ S = bnd (asB (ev anc Φ c ρ S)) fun x S => if x then ev anc Φ a ρ S else ev anc Φ b ρ S := rfl
@[simp] theorem ev_tup {es : Es} : ev anc Φ (.tup es) ρ S = bnd (evs anc Φ es ρ S) fun xs S => some (.ok (.tup xs) S) := rfl
@[simp] theorem ev_lst {m : Bool} {es : Es} : ev anc Φ (.lst m es) ρ S = bnd (evs anc Φ es ρ S) fun xs S => alloc m (.lst xs) S := rfl
@[simp] theorem ev_call {f : Nat} {es : Es} : ev anc Φ (.call f es) ρ S = bnd (evs anc Φ es ρ S) fun xs S => Φ f xs S := rfl
@[simp] theorem ev_blt {f : Bf} {es : Es} : ev anc Φ (.blt f es) ρ S = bnd (evs anc Φ es ρ S) fun xs S => blt f xs S := rfl
@[simp] theorem ev_mth {f : Mf} {o : E} {es : Es} : ev anc Φ (.mth f o es) ρ S = bnd (ev anc Φ o ρ S) fun x S => if mthOk f (view S x) then bnd (evs anc Φ es ρ S) fun xs S => mth f (view S x) xs S else none := rfl
@[simp] theorem ev_mut {f : Nat} {o : E} {es : Es} : ev anc Φ (.mut f o es) ρ S = bnd (ev anc Φ o ρ S) fun x S => if isLst (view S x) then bnd (evs anc Φ es ρ S) fun xs S => mutate f x xs S else none := rfl
@[simp] theorem ev_isi {t : Ty} {e : E} : ev anc Φ (.isi t e) ρ S = bnd (ev anc Φ e ρ S) fun x S => (isTy t S x).map fun b => .ok (.bl b) S := rfl
@[simp] theorem ev_isx {c : Nat} {e : E} : ev anc Φ (.isx c e) ρ S = bnd (ev anc Φ e ρ S) fun x S => match x with | .exn k _ => some (.ok (.bl (decide (c ∈ anc k))) S) | _ => none := rfl
@[simp] theorem ev_row {e : E} : ev anc Φ (.row e) ρ S = bnd (ev anc Φ e ρ S) fun x S => match x with | .exn _ [v] => some (.ok v S) | _ => none := rfl
@[simp] theorem ev_idx {a i : E} : ev anc Φ (.idx a i) ρ S = bnd (ev anc Φ a ρ S) fun x S => bnd (ev anc Φ i ρ S) fun y S => idx (view S x) y S := rfl
@[simp] theorem ev_slc {a : E} {lo hi : Es} : ev anc Φ (.slc a lo hi) ρ S = bnd (ev anc Φ a ρ S) fun x S => bnd (part (evs anc Φ lo ρ S)) fun l S => bnd (part (evs anc Φ hi ρ S)) fun h S => match l, h with
    | [], [] => slc (view S x) none none S
    | [.int i], [] => slc (view S x) (some i) none S
    | [], [.int j] => slc (view S x) none (some j) S
    | [.int i], [.int j] => slc (view S x) (some i) (some j) S
    | _, _ => none := rfl
@[simp] theorem ev_rev {a : E} : ev anc Φ (.rev a) ρ S = bnd (ev anc Φ a ρ S) fun x S => revd (view S x) S := rfl
/-- loops as words without lambdas -/
def compE (anc : Nat → List Nat) (Φ : Nat → List D → Store → Out D) (tg : List Nat) (cond : Es) (elt : E) (ρ : Env) (xs : List D) (S : Store) : Out (List D) := nox (compL (cturn tg (fun ρ S => evc anc Φ cond ρ S) (fun ρ S => ev anc Φ elt ρ S) ρ) xs S)
def whlE (anc : Nat → List Nat) (Φ : Nat → List D → Store → Out D) (c : E) (b : Ss) (ρ : Env) (S : Store) : Out F := whl (fun ρ S => asB (ev anc Φ c ρ S)) (fun ρ S => exs anc Φ b ρ S) ρ S
def forE (anc : Nat → List Nat) (Φ : Nat → List D → Store → Out D) (tg : List Nat) (one : Bool) (b : Ss) (xs : List D) (ρ : Env) (S : Store) : Out F := forL tg one (fun ρ S => exs anc Φ b ρ S) xs ρ S
@[simp] theorem ev_comp {m : Bool} {tg : List Nat} {it : It} {cond : Es} {elt : E} : ev anc Φ (.comp m tg it cond elt) ρ S = bnd (evi anc Φ it ρ S) fun xs S => bnd (compE anc Φ tg cond elt ρ xs S) fun ys S => alloc m (.lst ys) S := rfl
@[simp] theorem evs_nil : evs anc Φ .nil ρ S = some (.ok [] S) := rfl
@[simp] theorem evs_cons {e : E} {es : Es} : evs anc Φ (.cons e es) ρ S = bnd (ev anc Φ e ρ S) fun x S => bnd (evs anc Φ es ρ S) fun xs S => some (.ok (x :: xs) S) := rfl
@[simp] theorem evc_nil : evc anc Φ .nil ρ S = some (.ok true S) := rfl
@[simp] theorem evc_cons {e : E} {es : Es} : evc anc Φ (.cons e es) ρ S = asB (ev anc Φ e ρ S) := rfl
@[simp] theorem evi_seq {e : E} : evi anc Φ (.seq e) ρ S = bnd (ev anc Φ e ρ S) fun x S => match x with
    | .lst xs => some (.ok xs S)
    | .tup xs => some (.ok xs S)
    | .str xs => some (.ok (xs.map fun c => .str [c]) S)
    | _ => none := rfl
@[simp] theorem evi_rng1 {e : E} : evi anc Φ (.rng1 e) ρ S = bnd (ev anc Φ e ρ S) fun x S => match x with | .int j => if rngOk 0 j then some (.ok (rngL 0 j) S) else none | _ => none := rfl
@[simp] theorem evi_rng2 {a b : E} : evi anc Φ (.rng2 a b) ρ S = bnd (ev anc Φ a ρ S) fun x S => bnd (ev anc Φ b ρ S) fun y S => match x, y with | .int i, .int j => if rngOk i j then some (.ok (rngL i j) S) else none | _, _ => none := rfl
@[simp] theorem evi_enum {e : E} : evi anc Φ (.enum e) ρ S = bnd (ev anc Φ e ρ S) fun x S => match x with | .lst xs => some (.ok (enumL 0 xs) S) | _ => none := rfl
@[simp] theorem ex_asg {i : Nat} {e : E} : ex anc Φ (.asg i e) ρ S = bndS (ev anc Φ e ρ S) ρ fun v S => some (.ok (.nx (ρ.set i (some v))) S) := rfl
@[simp] theorem ex_asgT {is : List Nat} {e : E} : ex anc Φ (.asgT is e) ρ S = bndS (ev anc Φ e ρ S) ρ fun v S => match setTg ρ is false v with | some ρ => some (.ok (.nx ρ) S) | none => none := rfl
@[simp] theorem ex_setix {a i v : E} : ex anc Φ (.setix a i v) ρ S = bndS (ev anc Φ v ρ S) ρ fun v S => bndS (ev anc Φ a ρ S) ρ fun x S => bndS (ev anc Φ i ρ S) ρ fun k S => match setix x k v S with | some S => some (.ok (.nx ρ) S) | none => none := rfl
@[simp] theorem ex_expr {e : E} : ex anc Φ (.expr e) ρ S = bndS (ev anc Φ e ρ S) ρ fun _ S => some (.ok (.nx ρ) S) := rfl
@[simp] theorem ex_ret {e : E} : ex anc Φ (.ret e) ρ S = bndS (ev anc Φ e ρ S) ρ fun v S => some (.ok (.rt v) S) := rfl
@[simp] theorem ex_ife {c : E} {a b : Ss} : ex anc Φ (.ife c a b) ρ S = bndS (asB (ev anc Φ c ρ S)) ρ fun x S => if x then exs anc Φ a ρ S else exs anc Φ b ρ S := rfl
@[simp] theorem ex_whl {c : E} {b : Ss} : ex anc Φ (.whl c b) ρ S = whlE anc Φ c b ρ S := rfl
@[simp] theorem ex_for {tg : List Nat} {one : Bool} {it : It} {b : Ss} : ex anc Φ (.for_ tg one it b) ρ S = bndS (evi anc Φ it ρ S) ρ fun xs S => forE anc Φ tg one b xs ρ S := rfl
@[simp] theorem ex_raise {c : Nat} {es : Es} : ex anc Φ (.raise_ c es) ρ S = bndS (evs anc Φ es ρ S) ρ fun xs S => some (.ok (.xc ρ c xs) S) := rfl
@[simp] theorem ex_pass : ex anc Φ .pass ρ S = some (.ok (.nx ρ) S) := rfl
@[simp] theorem ex_brk : ex anc Φ .brk ρ S = some (.ok (.bk ρ) S) := rfl
@[simp] theorem ex_cont : ex anc Φ .cont ρ S = some (.ok (.ct ρ) S) := rfl
@[simp] theorem exs_nil : exs anc Φ .nil ρ S = some (.ok (.nx ρ) S) := rfl
/-- what comes behind a statement -/
def seqF (o : Out F) (k : Env → Store → Out F) : Out F := match o with
  | some (.ok (.nx ρ) S) => k ρ S
  | o => o
@[simp] theorem exs_cons {s : Ev.S} {r : Ss} : exs anc Φ (.cons s r) ρ S = seqF (ex anc Φ s ρ S) fun ρ S => exs anc Φ r ρ S := rfl
@[simp] theorem seqF_nx {k : Env → Store → Out F} : seqF (some (.ok (.nx ρ) S)) k = k ρ S := rfl
@[simp] theorem seqF_rt {k : Env → Store → Out F} {v : D} : seqF (some (.ok (.rt v) S)) k = some (.ok (.rt v) S) := rfl
@[simp] theorem seqF_xc {k : Env → Store → Out F} {c : Nat} {r : List D} : seqF (some (.ok (.xc ρ c r) S)) k = some (.ok (.xc ρ c r) S) := rfl
@[simp] theorem seqF_bk {k : Env → Store → Out F} : seqF (some (.ok (.bk ρ) S)) k = some (.ok (.bk ρ) S) := rfl
@[simp] theorem seqF_ct {k : Env → Store → Out F} : seqF (some (.ok (.ct ρ) S)) k = some (.ok (.ct ρ) S) := rfl
@[simp] theorem asB_bl {b : Bool} : asB (some (.ok (.bl b) S)) = some (.ok b S) := rfl
@[simp] theorem asB_bnd {α : Type} {o : Out α} {f : α → Store → Out D} : asB (bnd o f) = bnd o fun a S => asB (f a S) := by
  cases o with
  | none => rfl
  | some r => cases r <;> rfl
@[simp] theorem fin_rt {raw : Bool} {v : D} : fin raw S (some (.ok (.rt v) S)) = some (.ok v S) := by simp [fin, close]
@[simp] theorem fin_nx {raw : Bool} : fin raw S (some (.ok (.nx ρ) S)) = some (.ok .non S) := by simp [fin, close]
@[simp] theorem fin_xc {raw : Bool} {c : Nat} {r : List D} : fin raw S (some (.ok (.xc ρ c r) S)) = some (.exc c r S) := by simp [fin]
/-! loops -/
theorem whlE_go {c : E} {b : Ss} {ρ' : Env} {S1 S2 : Store} (h1 : asB (ev anc Φ c ρ S) = some (.ok true S1)) (h2 : exs anc Φ b ρ S1 = some (.ok (.nx ρ') S2)) : whlE anc Φ c b ρ S = whlE anc Φ c b ρ' S2 := by
  show whl _ _ ρ S = _
  rw [whl, h1]
  dsimp only
  rw [h2]
  rfl
theorem whlE_end {c : E} {b : Ss} {S1 : Store} (h1 : asB (ev anc Φ c ρ S) = some (.ok false S1)) : whlE anc Φ c b ρ S = some (.ok (.nx ρ) S1) := by
  show whl _ _ ρ S = _
  rw [whl, h1]
theorem forE_nil {tg : List Nat} {one : Bool} {b : Ss} : forE anc Φ tg one b [] ρ S = some (.ok (.nx ρ) S) := rfl
theorem forE_go {tg : List Nat} {one : Bool} {b : Ss} {x : D} {xs : List D} {ρ1 ρ2 : Env} {S1 : Store} (h1 : setTg ρ tg one x = some ρ1) (h2 : exs anc Φ b ρ1 S = some (.ok (.nx ρ2) S1)) : forE anc Φ tg one b (x :: xs) ρ S = forE anc Φ tg one b xs ρ2 S1 := by
  show forL _ _ _ (x :: xs) ρ S = _
  rw [forL, h1]
  dsimp only
  rw [h2]
  rfl
theorem forE_rt {tg : List Nat} {one : Bool} {b : Ss} {x : D} {xs : List D} {ρ1 : Env} {S1 : Store} {v : D} (h1 : setTg ρ tg one x = some ρ1) (h2 : exs anc Φ b ρ1 S = some (.ok (.rt v) S1)) : forE anc Φ tg one b (x :: xs) ρ S = some (.ok (.rt v) S1) := by
  show forL _ _ _ (x :: xs) ρ S = _
  rw [forL, h1]
  dsimp only
  rw [h2]
/-- a comprehension whose turns change nothing -/
theorem compE_map {tg : List Nat} {elt : E} {g : D → D} : ∀ {xs : List D}, (∀ x ∈ xs, ∃ ρ1, setTg ρ tg (tg.length == 1) x = some ρ1 ∧ ev anc Φ elt ρ1 S = some (.ok (g x) S)) → compE anc Φ tg .nil elt ρ xs S = some (.ok (xs.map g) S) := by
  intro xs h
  have : compL (cturn tg (fun ρ S => evc anc Φ .nil ρ S) (fun ρ S => ev anc Φ elt ρ S) ρ) xs S = some (.ok (xs.map g) S) := by
    induction xs with
    | nil => rfl
    | cons x xs ih =>
      obtain ⟨ρ1, h1, h2⟩ := h x List.mem_cons_self
      have e : cturn tg (fun ρ S => evc anc Φ .nil ρ S) (fun ρ S => ev anc Φ elt ρ S) ρ x S = some (.ok (some (g x)) S) := by
        unfold cturn
        rw [h1]
        dsimp only
        rw [evc_nil, bnd_ok, h2]
        rfl
      unfold compL
      rw [e, bnd_ok, ih fun y hy => h y (List.mem_cons_of_mem _ hy)]
      rfl
  unfold compE
  rw [this]
  rfl
/-- a for loop by an invariant that counts the turns -/
theorem forE_inv {tg : List Nat} {one : Bool} {b : Ss} (I : Nat → Env → Store → Prop) : ∀ (xs : List D) (k : Nat) (ρ : Env) (S : Store), I k ρ S →
    (∀ j x ρ S, xs[j]? = some x → I (k + j) ρ S → ∃ ρ1 ρ2 S2, setTg ρ tg one x = some ρ1 ∧ exs anc Φ b ρ1 S = some (.ok (.nx ρ2) S2) ∧ I (k + j + 1) ρ2 S2) →
    ∃ ρ' S', I (k + xs.length) ρ' S' ∧ forE anc Φ tg one b xs ρ S = some (.ok (.nx ρ') S')
  | [], k, ρ, S, h, _ => ⟨ρ, S, h, rfl⟩
  | x :: xs, k, ρ, S, h, st => by
    obtain ⟨ρ1, ρ2, S2, h1, h2, h3⟩ := st 0 x ρ S rfl h
    rw [forE_go h1 h2]
    obtain ⟨ρ', S', q1, q2⟩ := forE_inv I xs (k + 1) ρ2 S2 h3 fun j y ρ S e hI => by
      have := st (j + 1) y ρ S (by simpa using e) (by rw [show k + (j + 1) = k + 1 + j by omega]; exact hI)
      rw [show k + (j + 1) + 1 = k + 1 + j + 1 by omega] at this
      exact this
    exact ⟨ρ', S', by rw [List.length_cons, show k + (xs.length + 1) = k + 1 + xs.length by omega]; exact q1, q2⟩
end
end Ev

set_option Elab.async false
set_option linter.all false
set_option maxRecDepth 100000
set_option maxHeartbeats 4000000
namespace Ev
open PySem
section
variable {S : Store}
@[simp] theorem view_int {i : Int} : view S (.int i) = .int i := rfl
@[simp] theorem view_bl {i : Bool} : view S (.bl i) = .bl i := rfl
@[simp] theorem view_non : view S .non = .non := rfl
@[simp] theorem view_str {i : List Nat} : view S (.str i) = .str i := rfl
@[simp] theorem view_tup {i : List D} : view S (.tup i) = .tup i := rfl
@[simp] theorem view_lst {i : List D} : view S (.lst i) = .lst i := rfl
@[simp] theorem view_fz {i : List D} : view S (.fz i) = .lst i := rfl
theorem view_ref {n : Nat} {xs : List D} (h : S[n]? = some (.lst xs)) : view S (.ref n) = .lst xs := by simp only [view, h]
@[simp] theorem bin_add {a b : Int} : bin .add (.int a) (.int b) S = some (.ok (.int (a + b)) S) := rfl
@[simp] theorem bin_sub {a b : Int} : bin .sub (.int a) (.int b) S = some (.ok (.int (a - b)) S) := rfl
theorem bin_mul {a b : Int} (h : mulOk a b = true) : bin .mul (.int a) (.int b) S = some (.ok (.int (a * b)) S) := if_pos h
theorem bin_fdiv {a b : Int} (h : divOk b = true) : bin .fdiv (.int a) (.int b) S = some (.ok (.int (a / b)) S) := if_pos h
theorem bin_mod {a b : Int} (h : 0 < b) : bin .mod (.int a) (.int b) S = some (.ok (.int (a % b)) S) := if_pos h
theorem bin_pow {a b : Int} (h : powOk a b = true) : bin .pow (.int a) (.int b) S = some (.ok (.int (a ^ b.toNat)) S) := if_pos h
theorem bin_adds {a b : List Nat} (h : a.length + b.length ≤ lim) : bin .add (.str a) (.str b) S = some (.ok (.str (a ++ b)) S) := if_pos h
theorem bin_addt {a b : List D} (h : a.length + b.length ≤ lim) : bin .add (.tup a) (.tup b) S = some (.ok (.tup (a ++ b)) S) := if_pos h
theorem bin_addl {a b : List D} (h : a.length + b.length ≤ lim) : bin .add (.lst a) (.lst b) S = some (.ok (.lst (a ++ b)) S) := if_pos h
@[simp] theorem cmp_lt {a b : Int} : cmp .lt (.int a) (.int b) = some (decide (a < b)) := rfl
@[simp] theorem cmp_le {a b : Int} : cmp .le (.int a) (.int b) = some (decide (a ≤ b)) := rfl
@[simp] theorem cmp_gt {a b : Int} : cmp .gt (.int a) (.int b) = some (decide (b < a)) := rfl
@[simp] theorem cmp_ge {a b : Int} : cmp .ge (.int a) (.int b) = some (decide (b ≤ a)) := rfl
@[simp] theorem cmp_eqi {a b : Int} : cmp .eq (.int a) (.int b) = some (decide (a = b)) := rfl
@[simp] theorem cmp_nei {a b : Int} : cmp .ne (.int a) (.int b) = some (!decide (a = b)) := rfl
theorem cmp_eq {x y : D} (hx : shp 60 x = true) (hy : shp 60 y = true) : cmp .eq x y = some (eqD x y) := by simp only [cmp, hx, hy, Bool.and_self, if_true]
theorem cmp_ne {x y : D} (hx : shp 60 x = true) (hy : shp 60 y = true) : cmp .ne x y = some (!eqD x y) := by simp only [cmp, hx, hy, Bool.and_self, if_true]
theorem atI_nat {xs : List D} {j : Nat} {x : D} (h : xs[j]? = some x) : L2.atI xs (j : Int) = some x := by
  have hl := (List.getElem?_eq_some_iff.mp h).1
  unfold L2.atI L2.ixN
  rw [if_pos (by omega), if_pos (by omega)]
  simpa using h
theorem idx_tn {xs : List D} {j : Nat} {x : D} (h : xs[j]? = some x) : idx (.tup xs) (.int (j : Int)) S = some (.ok x S) := by simp only [idx, atI_nat h, Option.map_some]
theorem idx_ln {xs : List D} {j : Nat} {x : D} (h : xs[j]? = some x) : idx (.lst xs) (.int (j : Int)) S = some (.ok x S) := by simp only [idx, atI_nat h, Option.map_some]
@[simp] theorem idx_t0 {x : D} {xs : List D} : idx (.tup (x :: xs)) (.int 0) S = some (.ok x S) := idx_tn (j := 0) rfl
@[simp] theorem idx_t1 {x y : D} {xs : List D} : idx (.tup (x :: y :: xs)) (.int 1) S = some (.ok y S) := idx_tn (j := 1) rfl
@[simp] theorem idx_l0 {x : D} {xs : List D} : idx (.lst (x :: xs)) (.int 0) S = some (.ok x S) := idx_ln (j := 0) rfl
@[simp] theorem idx_l1 {x y : D} {xs : List D} : idx (.lst (x :: y :: xs)) (.int 1) S = some (.ok y S) := idx_ln (j := 1) rfl
@[simp] theorem idx_l2 {x y z : D} {xs : List D} : idx (.lst (x :: y :: z :: xs)) (.int 2) S = some (.ok z S) := idx_ln (j := 2) rfl
theorem idx_ok {xs : List D} {i : Int} (h0 : 0 ≤ i) (h1 : i < xs.length) : ∃ x ∈ xs, idx (.lst xs) (.int i) S = some (.ok x S) := by
  obtain ⟨j, rfl⟩ := Int.eq_ofNat_of_zero_le h0
  have hi : j < xs.length := by omega
  exact ⟨xs[j], List.getElem_mem hi, idx_ln (by simp [hi])⟩
end
theorem log2_lt {n k : Nat} (h : n < 2 ^ k) : n.log2 < k ∨ n = 0 := by
  by_cases hn : n = 0
  · exact .inr hn
  · exact .inl ((Nat.log2_lt hn).mpr h)
theorem mulOk_of {a b : Int} (ha : a.natAbs < 2 ^ 400) (hb : b.natAbs < 2 ^ 400) : mulOk a b = true := by
  refine decide_eq_true ?_
  have h0 : (0 : Nat).log2 = 0 := by decide
  rcases log2_lt ha with h | h <;> rcases log2_lt hb with h' | h' <;> first | omega | (rw [h, h0]; omega) | (rw [h', h0]; omega) | (rw [h, h', h0]; omega)
theorem divOk_of {b : Int} (h0 : 0 < b) (hb : b.natAbs < 2 ^ 400) : divOk b = true := by
  unfold divOk
  rw [Bool.and_eq_true]
  refine ⟨decide_eq_true h0, decide_eq_true ?_⟩
  have h0 : (0 : Nat).log2 = 0 := by decide
  rcases log2_lt hb with h | h
  · omega
  · rw [h, h0]; omega
/-! a call's end with new things in the store -/
theorem cutOk_of {n : Nat} : ∀ {S S' : Store}, S.length ≤ S'.length → (∀ o ∈ S'.take S.length, belowO n o = true) → cutOk n S S' = true
  | [], _, _, _ => rfl
  | _ :: _, [], h, _ => absurd h (by simp)
  | _ :: S, o' :: S', h, hb => by
    simp only [cutOk, Bool.and_eq_true, Bool.or_eq_true]
    exact ⟨.inr (hb o' (by simp)), cutOk_of (by simpa using h) fun o ho => hb o (by simp [ho])⟩
theorem fin_len {raw : Bool} {S S' : Store} {v : D} (h : S'.length = S.length) : fin raw S (some (.ok (.rt v) S')) = some (.ok v S') := by simp [fin, close, h]
theorem fin_cut {S S' : Store} {v w : D} (h : S.length < S'.length) (hf : freeze S.length S' v = some w) (hb : ∀ o ∈ S'.take S.length, belowO S.length o = true) : fin false S (some (.ok (.rt v) S')) = some (.ok w (S'.take S.length)) := by
  have hn : (S'.length == S.length) = false := by simp; omega
  simp only [fin, close, Bool.false_or, hn, Bool.false_eq_true, if_false, hf, cutOk_of (by omega) hb, if_true]
theorem rngL_at {a b : Int} {j : Nat} {x : D} (h : (rngL a b)[j]? = some x) : x = .int (a + j) ∧ (a + j < b) := by
  have hl := (List.getElem?_eq_some_iff.mp h)
  obtain ⟨h1, h2⟩ := hl
  simp [rngL] at h1 h2
  exact ⟨h2.symm, by omega⟩
end Ev

set_option maxRecDepth 100000
namespace Ev
namespace k05
/-- is_whole(x): slots x -/
def f_is_whole : Fn := { np := 1, ns := 1, raw := false, body := (.cons (.ret (.and (.isi .int (.var 0)) (.not (.isi .bool (.var 0))))) .nil) }
/-- share_of(one, other): slots one other -/
def f_share_of : Fn := { np := 2, ns := 2, raw := false, body := (.cons (.whl (.cmp .gt (.var 1) (.con (.int 0))) (.cons (.asgT [0, 1] (.tup (.cons (.var 1) (.cons (.bin .mod (.var 0) (.var 1)) .nil)))) .nil)) (.cons (.ret (.var 0)) .nil)) }
/-- is_fraction(x): slots x -/
def f_is_fraction : Fn := { np := 1, ns := 1, raw := false, body := (.cons (.ife (.or (.not (.isi .tuple (.var 0))) (.or (.cmp .ne (.blt .len (.cons (.var 0) .nil)) (.con (.int 2))) (.or (.not (.call 0 (.cons (.idx (.var 0) (.con (.int 0))) .nil))) (.not (.call 0 (.cons (.idx (.var 0) (.con (.int 1))) .nil)))))) (.cons (.ret (.con (.bl false))) .nil) .nil) (.cons (.ret (.and (.cmp .gt (.idx (.var 0) (.con (.int 1))) (.con (.int 0))) (.cmp .eq (.call 1 (.cons (.blt .abs (.cons (.idx (.var 0) (.con (.int 0))) .nil)) (.cons (.idx (.var 0) (.con (.int 1))) .nil))) (.con (.int 1))))) .nil)) }
/-- is_from_zero(x): slots x -/
def f_is_from_zero : Fn := { np := 1, ns := 1, raw := false, body := (.cons (.ret (.and (.call 2 (.cons (.var 0) .nil)) (.cmp .ge (.idx (.var 0) (.con (.int 0))) (.con (.int 0))))) .nil) }
/-- is_above_zero(x): slots x -/
def f_is_above_zero : Fn := { np := 1, ns := 1, raw := false, body := (.cons (.ret (.and (.call 2 (.cons (.var 0) .nil)) (.cmp .gt (.idx (.var 0) (.con (.int 0))) (.con (.int 0))))) .nil) }
/-- is_small(x): slots x -/
def f_is_small : Fn := { np := 1, ns := 1, raw := false, body := (.cons (.ret (.and (.cmp .le (.idx (.var 0) (.con (.int 0))) (.con (.int 999))) (.cmp .le (.idx (.var 0) (.con (.int 1))) (.con (.int 999))))) .nil) }
/-- is_length(x): slots x -/
def f_is_length : Fn := { np := 1, ns := 1, raw := false, body := (.cons (.ife (.or (.not (.isi .tuple (.var 0))) (.or (.cmp .ne (.blt .len (.cons (.var 0) .nil)) (.con (.int 2))) (.or (.not (.call 0 (.cons (.idx (.var 0) (.con (.int 0))) .nil))) (.not (.chain .le .le (.con (.int 1)) (.idx (.var 0) (.con (.int 0))) (.con (.int 999))))))) (.cons (.ret (.con (.bl false))) .nil) .nil) (.cons (.ret (.and (.call 4 (.cons (.idx (.var 0) (.con (.int 1))) .nil)) (.call 5 (.cons (.idx (.var 0) (.con (.int 1))) .nil)))) .nil)) }
/-- is_cable(x): slots x one -/
def f_is_cable : Fn := { np := 1, ns := 2, raw := false, body := (.cons (.ife (.or (.not (.isi .tuple (.var 0))) (.or (.cmp .ne (.blt .len (.cons (.var 0) .nil)) (.con (.int 2))) (.not (.isi .tuple (.idx (.var 0) (.con (.int 0))))))) (.cons (.ret (.con (.bl false))) .nil) .nil) (.cons (.ife (.or (.not (.chain .le .le (.con (.int 1)) (.blt .len (.cons (.idx (.var 0) (.con (.int 0))) .nil)) (.con (.int 12)))) (.not (.blt .all (.cons (.comp false [1] (.seq (.idx (.var 0) (.con (.int 0)))) .nil (.call 6 (.cons (.var 1) .nil))) .nil)))) (.cons (.ret (.con (.bl false))) .nil) .nil) (.cons (.ret (.and (.call 3 (.cons (.idx (.var 0) (.con (.int 1))) .nil)) (.call 5 (.cons (.idx (.var 0) (.con (.int 1))) .nil)))) .nil))) }
/-- check_cable(cable): slots cable -/
def f_check_cable : Fn := { np := 1, ns := 1, raw := false, body := (.cons (.ife (.not (.call 7 (.cons (.var 0) .nil))) (.cons .never .nil) .nil) .nil) }
/-- show_fraction(a): slots a -/
def f_show_fraction : Fn := { np := 1, ns := 1, raw := false, body := (.cons (.ife (.cmp .eq (.idx (.var 0) (.con (.int 1))) (.con (.int 1))) (.cons (.ret (.blt .str (.cons (.idx (.var 0) (.con (.int 0))) .nil))) .nil) .nil) (.cons (.ret (.bin .add (.bin .add (.blt .str (.cons (.idx (.var 0) (.con (.int 0))) .nil)) (.con (.str [47]))) (.blt .str (.cons (.idx (.var 0) (.con (.int 1))) .nil)))) .nil)) }
/-- show_cable(cable): slots cable rows steps drag -/
def f_show_cable : Fn := { np := 1, ns := 4, raw := false, body := (.cons (.expr (.call 8 (.cons (.var 0) .nil))) (.cons (.asg 1 (.lst false (.cons (.bin .add (.con (.str [98, 97, 99, 107, 32])) (.call 9 (.cons (.idx (.var 0) (.con (.int 1))) .nil))) .nil))) (.cons (.ret (.mth .join (.con (.str [10])) (.cons (.bin .add (.var 1) (.comp false [2, 3] (.seq (.idx (.var 0) (.con (.int 0)))) .nil (.bin .add (.bin .add (.blt .str (.cons (.var 2) .nil)) (.con (.str [32, 120, 32]))) (.call 9 (.cons (.var 3) .nil))))) .nil))) .nil))) }
/-- number_in(word, most): slots word most sign -/
def f_number_in : Fn := { np := 2, ns := 3, raw := false, body := (.cons (.ife (.or (.not (.chain .le .le (.con (.int 1)) (.blt .len (.cons (.var 0) .nil)) (.var 1))) (.not (.blt .all (.cons (.comp false [2] (.seq (.var 0)) .nil (.cmp .isin (.var 2) (.con (.str [48, 49, 50, 51, 52, 53, 54, 55, 56, 57])))) .nil)))) (.cons (.ret (.con .non)) .nil) .nil) (.cons (.ife (.and (.cmp .eq (.idx (.var 0) (.con (.int 0))) (.con (.str [48]))) (.cmp .ne (.var 0) (.con (.str [48])))) (.cons (.ret (.con .non)) .nil) .nil) (.cons (.ret (.blt .int (.cons (.var 0) .nil))) .nil))) }
/-- fraction_in(word, most): slots word most head stroke tail top bottom -/
def f_fraction_in : Fn := { np := 2, ns := 7, raw := false, body := (.cons (.asgT [2, 3, 4] (.mth .partition (.var 0) (.cons (.con (.str [47])) .nil))) (.cons (.asgT [5, 6] (.tup (.cons (.call 11 (.cons (.var 2) (.cons (.var 1) .nil))) (.cons (.con (.int 1)) .nil)))) (.cons (.ife (.cmp .ne (.var 3) (.con (.str []))) (.cons (.asg 6 (.call 11 (.cons (.var 4) (.cons (.var 1) .nil)))) .nil) .nil) (.cons (.ife (.or (.cmp .isN (.var 5) (.con .non)) (.or (.cmp .isN (.var 6) (.con .non)) (.or (.and (.cmp .ne (.var 3) (.con (.str []))) (.cmp .lt (.var 6) (.con (.int 2)))) (.not (.call 3 (.cons (.tup (.cons (.var 5) (.cons (.var 6) .nil))) .nil)))))) (.cons (.ret (.con .non)) .nil) .nil) (.cons (.ret (.tup (.cons (.var 5) (.cons (.var 6) .nil)))) .nil))))) }
/-- back_in(row): slots row words found -/
def f_back_in : Fn := { np := 1, ns := 3, raw := false, body := (.cons (.asg 1 (.mth .split (.var 0) (.cons (.con (.str [32])) .nil))) (.cons (.ife (.or (.cmp .ne (.blt .len (.cons (.var 1) .nil)) (.con (.int 2))) (.cmp .ne (.idx (.var 1) (.con (.int 0))) (.con (.str [98, 97, 99, 107])))) (.cons (.ret (.con .non)) .nil) .nil) (.cons (.asg 2 (.call 12 (.cons (.idx (.var 1) (.con (.int 1))) (.cons (.con (.int 3)) .nil)))) (.cons (.ife (.or (.cmp .isN (.var 2) (.con .non)) (.not (.call 5 (.cons (.var 2) .nil)))) (.cons (.ret (.con .non)) .nil) .nil) (.cons (.ret (.var 2)) .nil))))) }
/-- length_in(row): slots row words found -/
def f_length_in : Fn := { np := 1, ns := 3, raw := false, body := (.cons (.asg 1 (.mth .split (.var 0) (.cons (.con (.str [32])) .nil))) (.cons (.ife (.or (.cmp .ne (.blt .len (.cons (.var 1) .nil)) (.con (.int 3))) (.cmp .ne (.idx (.var 1) (.con (.int 1))) (.con (.str [120])))) (.cons (.ret (.con .non)) .nil) .nil) (.cons (.asg 2 (.tup (.cons (.call 11 (.cons (.idx (.var 1) (.con (.int 0))) (.cons (.con (.int 3)) .nil))) (.cons (.call 12 (.cons (.idx (.var 1) (.con (.int 2))) (.cons (.con (.int 3)) .nil))) .nil)))) (.cons (.ife (.not (.call 6 (.cons (.var 2) .nil))) (.cons (.ret (.con .non)) .nil) .nil) (.cons (.ret (.var 2)) .nil))))) }
/-- read_cable(text): slots text rows back lengths number row found -/
def f_read_cable : Fn := { np := 1, ns := 7, raw := false, body := (.cons (.ife (.not (.isi .str (.var 0))) (.cons .never .nil) .nil) (.cons (.asg 1 (.mth .split (.var 0) (.cons (.con (.str [10])) .nil))) (.cons (.asg 2 (.call 13 (.cons (.idx (.var 1) (.con (.int 0))) .nil))) (.cons (.ife (.cmp .isN (.var 2) (.con .non)) (.cons .never .nil) .nil) (.cons (.asg 3 (.tup .nil)) (.cons (.for_ [4, 5] false (.enum (.slc (.var 1) (.cons (.con (.int 1)) .nil) .nil)) (.cons (.asg 6 (.call 14 (.cons (.var 5) .nil))) (.cons (.ife (.or (.cmp .isN (.var 6) (.con .non)) (.cmp .eq (.var 4) (.con (.int 12)))) (.cons .never .nil) .nil) (.cons (.asg 3 (.bin .add (.var 3) (.tup (.cons (.var 6) .nil)))) .nil)))) (.cons (.ife (.cmp .eq (.var 3) (.tup .nil)) (.cons .never .nil) .nil) (.cons (.ret (.tup (.cons (.var 3) (.cons (.var 2) .nil)))) .nil)))))))) }
/-- _law_cell(_law_script, _law_k): slots _law_script _law_k _law_state _law_cell_here -/
def f__law_cell : Fn := { np := 2, ns := 4, raw := false, body := (.cons (.ife (.cmp .lt (.var 1) (.blt .len (.cons (.var 0) .nil))) (.cons (.ret (.idx (.var 0) (.var 1))) .nil) .nil) (.cons (.asg 2 (.bin .mod (.bin .mul (.con (.int 70001)) (.bin .add (.bin .add (.bin .mul (.var 1) (.var 1)) (.bin .mul (.con (.int 11)) (.var 1))) (.con (.int 5)))) (.con (.int 1000000021)))) (.cons (.for_ [3] true (.seq (.slc (.var 0) .nil (.cons (.con (.int 4)) .nil))) (.cons (.asg 2 (.bin .mod (.bin .add (.bin .mul (.var 2) (.con (.int 20011))) (.var 3)) (.con (.int 1000000021)))) .nil)) (.cons (.ret (.var 2)) .nil)))) }
/-- _law_purse(_law_cell_here): slots _law_cell_here -/
def f__law_purse : Fn := { np := 1, ns := 1, raw := true, body := (.cons (.ret (.lst true (.cons (.bin .add (.bin .mul (.bin .mod (.var 0) (.con (.int 999999893))) (.con (.int 6007))) (.con (.int 2503))) (.cons (.idx (.lst false (.cons (.con (.int 0)) (.cons (.var 0) .nil))) (.blt .int (.cons (.cmp .ge (.var 0) (.bin .pow (.con (.int 10)) (.con (.int 18)))) .nil))) (.cons (.con (.int 0)) .nil))))) .nil) }
/-- _law_pick(_law_purse_here, _law_many): slots _law_purse_here _law_many _law_state _law_taken -/
def f__law_pick : Fn := { np := 2, ns := 4, raw := false, body := (.cons (.setix (.var 0) (.con (.int 2)) (.bin .add (.idx (.var 0) (.con (.int 2))) (.con (.int 1)))) (.cons (.asg 2 (.bin .mod (.idx (.var 0) (.con (.int 0))) (.con (.int 999999893)))) (.cons (.setix (.var 0) (.con (.int 0)) (.bin .add (.bin .mul (.var 2) (.bin .add (.bin .mod (.var 2) (.con (.int 40009))) (.con (.int 10007)))) (.bin .mul (.con (.int 80021)) (.idx (.var 0) (.con (.int 2)))))) (.cons (.ife (.cmp .gt (.idx (.var 0) (.con (.int 1))) (.con (.int 0))) (.cons (.asg 3 (.bin .mod (.idx (.var 0) (.con (.int 1))) (.var 1))) (.cons (.setix (.var 0) (.con (.int 1)) (.bin .fdiv (.idx (.var 0) (.con (.int 1))) (.var 1))) (.cons (.ret (.var 3)) .nil))) .nil) (.cons (.ret (.bin .mod (.bin .fdiv (.bin .mod (.idx (.var 0) (.con (.int 0))) (.con (.int 999999893))) (.con (.int 16))) (.var 1))) .nil))))) }
/-- _law_whole(_law_thing): slots _law_thing -/
def f__law_whole : Fn := { np := 1, ns := 1, raw := false, body := (.cons (.ret (.and (.isi .int (.var 0)) (.not (.isi .bool (.var 0))))) .nil) }
/-- _law_low(_law_top, _law_bottom): slots _law_top _law_bottom _law_one _law_other -/
def f__law_low : Fn := { np := 2, ns := 4, raw := false, body := (.cons (.ife (.cmp .lt (.var 1) (.con (.int 0))) (.cons (.asgT [0, 1] (.tup (.cons (.bin .sub (.con (.int 0)) (.var 0)) (.cons (.bin .sub (.con (.int 0)) (.var 1)) .nil)))) .nil) .nil) (.cons (.asgT [2, 3] (.tup (.cons (.blt .abs (.cons (.var 0) .nil)) (.cons (.var 1) .nil)))) (.cons (.whl (.cmp .gt (.var 3) (.con (.int 0))) (.cons (.asgT [2, 3] (.tup (.cons (.var 3) (.cons (.bin .mod (.var 2) (.var 3)) .nil)))) .nil)) (.cons (.ret (.tup (.cons (.bin .fdiv (.var 0) (.var 2)) (.cons (.bin .fdiv (.var 1) (.var 2)) .nil)))) .nil)))) }
/-- _law_fraction_text(_law_a): slots _law_a -/
def f__law_fraction_text : Fn := { np := 1, ns := 1, raw := false, body := (.cons (.ret (.bin .add (.blt .str (.cons (.idx (.var 0) (.con (.int 0))) .nil)) (.idx (.lst false (.cons (.bin .add (.con (.str [47])) (.blt .str (.cons (.idx (.var 0) (.con (.int 1))) .nil))) (.cons (.con (.str [])) .nil))) (.blt .int (.cons (.cmp .eq (.idx (.var 0) (.con (.int 1))) (.con (.int 1))) .nil))))) .nil) }
/-- _law_text(_law_cable_here): slots _law_cable_here _law_rows _law_steps _law_drag -/
def f__law_text : Fn := { np := 1, ns := 4, raw := false, body := (.cons (.asg 1 (.lst true (.cons (.bin .add (.con (.str [98, 97, 99, 107, 32])) (.call 21 (.cons (.idx (.var 0) (.con (.int 1))) .nil))) .nil))) (.cons (.for_ [2, 3] false (.seq (.idx (.var 0) (.con (.int 0)))) (.cons (.expr (.mut 0 (.var 1) (.cons (.bin .add (.bin .add (.blt .str (.cons (.var 2) .nil)) (.con (.str [32, 120, 32]))) (.call 21 (.cons (.var 3) .nil))) .nil))) .nil)) (.cons (.ret (.mth .join (.con (.str [10])) (.cons (.var 1) .nil))) .nil))) }
/-- _law_small(_law_purse_here, _law_least): slots _law_purse_here _law_least _law_top _law_bottom -/
def f__law_small : Fn := { np := 2, ns := 4, raw := false, body := (.cons (.asg 2 (.idx (.lst false (.cons (.var 1) (.cons (.con (.int 999)) (.cons (.bin .add (.var 1) (.call 18 (.cons (.var 0) (.cons (.con (.int 9)) .nil)))) (.cons (.bin .add (.var 1) (.call 18 (.cons (.var 0) (.cons (.con (.int 999)) .nil)))) .nil))))) (.call 18 (.cons (.var 0) (.cons (.con (.int 4)) .nil))))) (.cons (.asg 3 (.idx (.lst false (.cons (.con (.int 1)) (.cons (.con (.int 1)) (.cons (.con (.int 999)) (.cons (.bin .add (.con (.int 1)) (.call 18 (.cons (.var 0) (.cons (.con (.int 9)) .nil)))) (.cons (.bin .add (.con (.int 1)) (.call 18 (.cons (.var 0) (.cons (.con (.int 999)) .nil)))) .nil)))))) (.call 18 (.cons (.var 0) (.cons (.con (.int 5)) .nil))))) (.cons (.ret (.call 20 (.cons (.var 2) (.cons (.var 3) .nil)))) .nil))) }
/-- _law_cable(_law_purse_here, _law_many): slots _law_purse_here _law_many _law_lengths _law_k _law_steps -/
def f__law_cable : Fn := { np := 2, ns := 5, raw := false, body := (.cons (.asg 2 (.lst true .nil)) (.cons (.for_ [3] true (.rng1 (.var 1)) (.cons (.asg 4 (.idx (.lst false (.cons (.con (.int 1)) (.cons (.con (.int 999)) (.cons (.bin .add (.con (.int 1)) (.call 18 (.cons (.var 0) (.cons (.con (.int 9)) .nil)))) (.cons (.bin .add (.con (.int 1)) (.call 18 (.cons (.var 0) (.cons (.con (.int 999)) .nil)))) .nil))))) (.call 18 (.cons (.var 0) (.cons (.con (.int 4)) .nil))))) (.cons (.expr (.mut 0 (.var 2) (.cons (.tup (.cons (.var 4) (.cons (.call 23 (.cons (.var 0) (.cons (.con (.int 1)) .nil))) .nil))) .nil))) .nil))) (.cons (.ret (.tup (.cons (.blt .tuple (.cons (.var 2) .nil)) (.cons (.call 23 (.cons (.var 0) (.cons (.con (.int 0)) .nil))) .nil)))) .nil))) }
/-- _law_pure(_law_thing): slots _law_thing _law_part -/
def f__law_pure : Fn := { np := 1, ns := 2, raw := false, body := (.cons (.ife (.isi .tuple (.var 0)) (.cons (.ret (.blt .all (.cons (.comp false [1] (.seq (.var 0)) .nil (.call 25 (.cons (.var 1) .nil))) .nil))) .nil) .nil) (.cons (.ret (.call 19 (.cons (.var 0) .nil))) .nil)) }
/-- _law_right(_law_cable_here, _law_other): slots _law_cable_here _law_other _law_one _law_text_here _law_told -/
def f__law_right : Fn := { np := 2, ns := 5, raw := false, body := (.cons (.for_ [2] true (.seq (.lst false (.cons (.var 0) (.cons (.var 1) (.cons (.var 0) .nil))))) (.cons (.asg 3 (.call 10 (.cons (.var 2) .nil))) (.cons (.ife (.or (.not (.isi .str (.var 3))) (.cmp .ne (.var 3) (.call 22 (.cons (.var 2) .nil)))) (.cons (.ret (.con (.bl false))) .nil) .nil) (.cons (.asg 4 (.call 15 (.cons (.call 22 (.cons (.var 2) .nil)) .nil))) (.cons (.ife (.or (.not (.isi .tuple (.var 4))) (.or (.not (.call 25 (.cons (.var 4) .nil))) (.cmp .ne (.var 4) (.var 2)))) (.cons (.ret (.con (.bl false))) .nil) .nil) .nil))))) (.cons (.ret (.cmp .eq (.cmp .eq (.call 10 (.cons (.var 0) .nil)) (.call 10 (.cons (.var 1) .nil))) (.cmp .eq (.var 0) (.var 1)))) .nil)) }
/-- law(_law_script): slots _law_script _law_ahead _law_k _law_purse_here _law_cable_here -/
def f_law : Fn := { np := 1, ns := 5, raw := false, body := (.cons (.asg 1 (.tup (.cons (.bin .add (.bin .mul (.tup (.cons (.tup (.cons (.con (.int 1)) (.cons (.tup (.cons (.con (.int 1)) (.cons (.con (.int 1)) .nil))) .nil))) .nil)) (.con (.int 11))) (.tup (.cons (.tup (.cons (.con (.int 999)) (.cons (.tup (.cons (.con (.int 999)) (.cons (.con (.int 998)) .nil))) .nil))) .nil))) (.cons (.tup (.cons (.con (.int 999)) (.cons (.con (.int 998)) .nil))) .nil)))) (.cons (.for_ [2] true (.rng1 (.blt .max2 (.cons (.con (.int 2)) (.cons (.blt .min2 (.cons (.con (.int 8)) (.cons (.blt .len (.cons (.var 0) .nil)) .nil))) .nil)))) (.cons (.asg 3 (.call 17 (.cons (.call 16 (.cons (.var 0) (.cons (.var 2) .nil))) .nil))) (.cons (.asg 4 (.call 24 (.cons (.var 3) (.cons (.idx (.lst false (.cons (.con (.int 1)) (.cons (.con (.int 2)) (.cons (.con (.int 3)) (.cons (.con (.int 4)) (.cons (.con (.int 5)) (.cons (.idx (.lst false (.cons (.con (.int 2)) (.cons (.con (.int 12)) .nil))) (.blt .int (.cons (.cmp .lt (.var 2) (.con (.int 2))) .nil))) (.cons (.idx (.lst false (.cons (.con (.int 1)) (.cons (.con (.int 11)) .nil))) (.blt .int (.cons (.cmp .lt (.var 2) (.con (.int 2))) .nil))) (.cons (.con (.int 1)) .nil))))))))) (.call 18 (.cons (.var 3) (.cons (.con (.int 8)) .nil)))) .nil)))) (.cons (.ife (.or (.not (.call 26 (.cons (.var 4) (.cons (.var 1) .nil)))) (.not (.call 26 (.cons (.var 4) (.cons (.tup (.cons (.rev (.idx (.var 4) (.con (.int 0)))) (.cons (.idx (.var 4) (.con (.int 1))) .nil))) .nil))))) (.cons (.ret (.con (.bl false))) .nil) .nil) (.cons (.asg 1 (.var 4)) .nil))))) (.cons (.ret (.con (.bl true))) .nil))) }
def prog : Prog := { anc := fun k => ([[0, 100, 101, 102], [1, 0, 100, 101, 102], [2, 0, 100, 101, 102]] : List (List Nat)).getD k [], fns := [f_is_whole, f_share_of, f_is_fraction, f_is_from_zero, f_is_above_zero, f_is_small, f_is_length, f_is_cable, f_check_cable, f_show_fraction, f_show_cable, f_number_in, f_fraction_in, f_back_in, f_length_in, f_read_cable, f__law_cell, f__law_purse, f__law_pick, f__law_whole, f__law_low, f__law_fraction_text, f__law_text, f__law_small, f__law_cable, f__law_pure, f__law_right, f_law] }
abbrev i_is_whole : Nat := 0
abbrev i_share_of : Nat := 1
abbrev i_is_fraction : Nat := 2
abbrev i_is_from_zero : Nat := 3
abbrev i_is_above_zero : Nat := 4
abbrev i_is_small : Nat := 5
abbrev i_is_length : Nat := 6
abbrev i_is_cable : Nat := 7
abbrev i_check_cable : Nat := 8
abbrev i_show_fraction : Nat := 9
abbrev i_show_cable : Nat := 10
abbrev i_number_in : Nat := 11
abbrev i_fraction_in : Nat := 12
abbrev i_back_in : Nat := 13
abbrev i_length_in : Nat := 14
abbrev i_read_cable : Nat := 15
abbrev i__law_cell : Nat := 16
abbrev i__law_purse : Nat := 17
abbrev i__law_pick : Nat := 18
abbrev i__law_whole : Nat := 19
abbrev i__law_low : Nat := 20
abbrev i__law_fraction_text : Nat := 21
abbrev i__law_text : Nat := 22
abbrev i__law_small : Nat := 23
abbrev i__law_cable : Nat := 24
abbrev i__law_pure : Nat := 25
abbrev i__law_right : Nat := 26
abbrev i_law : Nat := 27

end k05
end Ev

set_option Elab.async false
set_option linter.all false
set_option maxRecDepth 100000
set_option maxHeartbeats 8000000
namespace Ev
namespace k05
open PySem PySem.Spec L2
open PyProof.Rows hiding St
def top (i : Nat) : Stmt := PySem.Challenge.pw_earthends_k05_cables_as_texts.main.body.getD i (.Pass ⟨0, 0, 0, 0⟩)
def T : Tab := { fns := ["is_whole", "share_of", "is_fraction", "is_from_zero", "is_above_zero", "is_small", "is_length", "is_cable", "check_cable", "show_fraction", "show_cable", "number_in", "fraction_in", "back_in", "length_in", "read_cable", "_law_cell", "_law_purse", "_law_pick", "_law_whole", "_law_low", "_law_fraction_text", "_law_text", "_law_small", "_law_cable", "_law_pure", "_law_right", "law"], con := [("MOST_LENGTHS", (.int 12)), ("MOST_NUMBER", (.int 999)), ("FIGURES", (.str [48, 49, 50, 51, 52, 53, 54, 55, 56, 57])), ("MOST_FIGURES", (.int 3))], cls := ["EarthError", "NoCable", "NoText"] }
def pt (i : Nat) : List Str := ([["x"], ["one", "other"], ["x"], ["x"], ["x"], ["x"], ["x"], ["x"], ["cable"], ["a"], ["cable"], ["word", "most"], ["word", "most"], ["row"], ["row"], ["text"], ["_law_script", "_law_k"], ["_law_cell_here"], ["_law_purse_here", "_law_many"], ["_law_thing"], ["_law_top", "_law_bottom"], ["_law_a"], ["_law_cable_here"], ["_law_purse_here", "_law_least"], ["_law_purse_here", "_law_many"], ["_law_thing"], ["_law_cable_here", "_law_other"], ["_law_script"]] : List (List Str)).getD i []
theorem t_is_whole : Txt prog T 60 0 "is_whole" (top 5) ["x"] ["x"] := ⟨by decide +kernel, f_is_whole, rfl, rfl, rfl, by decide +kernel⟩
theorem t_share_of : Txt prog T 60 1 "share_of" (top 6) ["one", "other"] ["one", "other"] := ⟨by decide +kernel, f_share_of, rfl, rfl, rfl, by decide +kernel⟩
theorem t_is_fraction : Txt prog T 60 2 "is_fraction" (top 7) ["x"] ["x"] := ⟨by decide +kernel, f_is_fraction, rfl, rfl, rfl, by decide +kernel⟩
theorem t_is_from_zero : Txt prog T 60 3 "is_from_zero" (top 8) ["x"] ["x"] := ⟨by decide +kernel, f_is_from_zero, rfl, rfl, rfl, by decide +kernel⟩
theorem t_is_above_zero : Txt prog T 60 4 "is_above_zero" (top 9) ["x"] ["x"] := ⟨by decide +kernel, f_is_above_zero, rfl, rfl, rfl, by decide +kernel⟩
theorem t_is_small : Txt prog T 60 5 "is_small" (top 13) ["x"] ["x"] := ⟨by decide +kernel, f_is_small, rfl, rfl, rfl, by decide +kernel⟩
theorem t_is_length : Txt prog T 60 6 "is_length" (top 14) ["x"] ["x"] := ⟨by decide +kernel, f_is_length, rfl, rfl, rfl, by decide +kernel⟩
theorem t_is_cable : Txt prog T 60 7 "is_cable" (top 15) ["x", "one"] ["x"] := ⟨by decide +kernel, f_is_cable, rfl, rfl, rfl, by decide +kernel⟩
theorem t_check_cable : Txt prog T 60 8 "check_cable" (top 16) ["cable"] ["cable"] := ⟨by decide +kernel, f_check_cable, rfl, rfl, rfl, by decide +kernel⟩
theorem t_show_fraction : Txt prog T 60 9 "show_fraction" (top 20) ["a"] ["a"] := ⟨by decide +kernel, f_show_fraction, rfl, rfl, rfl, by decide +kernel⟩
theorem t_show_cable : Txt prog T 60 10 "show_cable" (top 21) ["cable", "rows", "steps", "drag"] ["cable"] := ⟨by decide +kernel, f_show_cable, rfl, rfl, rfl, by decide +kernel⟩
theorem t_number_in : Txt prog T 60 11 "number_in" (top 22) ["word", "most", "sign"] ["word", "most"] := ⟨by decide +kernel, f_number_in, rfl, rfl, rfl, by decide +kernel⟩
theorem t_fraction_in : Txt prog T 60 12 "fraction_in" (top 23) ["word", "most", "head", "stroke", "tail", "top", "bottom"] ["word", "most"] := ⟨by decide +kernel, f_fraction_in, rfl, rfl, rfl, by decide +kernel⟩
theorem t_back_in : Txt prog T 60 13 "back_in" (top 24) ["row", "words", "found"] ["row"] := ⟨by decide +kernel, f_back_in, rfl, rfl, rfl, by decide +kernel⟩
theorem t_length_in : Txt prog T 60 14 "length_in" (top 25) ["row", "words", "found"] ["row"] := ⟨by decide +kernel, f_length_in, rfl, rfl, rfl, by decide +kernel⟩
theorem t_read_cable : Txt prog T 60 15 "read_cable" (top 26) ["text", "rows", "back", "lengths", "number", "row", "found"] ["text"] := ⟨by decide +kernel, f_read_cable, rfl, rfl, rfl, by decide +kernel⟩
theorem t__law_cell : Txt prog T 60 16 "_law_cell" (top 28) ["_law_script", "_law_k", "_law_state", "_law_cell_here"] ["_law_script", "_law_k"] := ⟨by decide +kernel, f__law_cell, rfl, rfl, rfl, by decide +kernel⟩
theorem t__law_purse : Txt prog T 60 17 "_law_purse" (top 29) ["_law_cell_here"] ["_law_cell_here"] := ⟨by decide +kernel, f__law_purse, rfl, rfl, rfl, by decide +kernel⟩
theorem t__law_pick : Txt prog T 60 18 "_law_pick" (top 30) ["_law_purse_here", "_law_many", "_law_state", "_law_taken"] ["_law_purse_here", "_law_many"] := ⟨by decide +kernel, f__law_pick, rfl, rfl, rfl, by decide +kernel⟩
theorem t__law_whole : Txt prog T 60 19 "_law_whole" (top 31) ["_law_thing"] ["_law_thing"] := ⟨by decide +kernel, f__law_whole, rfl, rfl, rfl, by decide +kernel⟩
theorem t__law_low : Txt prog T 60 20 "_law_low" (top 32) ["_law_top", "_law_bottom", "_law_one", "_law_other"] ["_law_top", "_law_bottom"] := ⟨by decide +kernel, f__law_low, rfl, rfl, rfl, by decide +kernel⟩
theorem t__law_fraction_text : Txt prog T 60 21 "_law_fraction_text" (top 33) ["_law_a"] ["_law_a"] := ⟨by decide +kernel, f__law_fraction_text, rfl, rfl, rfl, by decide +kernel⟩
theorem t__law_text : Txt prog T 60 22 "_law_text" (top 34) ["_law_cable_here", "_law_rows", "_law_steps", "_law_drag"] ["_law_cable_here"] := ⟨by decide +kernel, f__law_text, rfl, rfl, rfl, by decide +kernel⟩
theorem t__law_small : Txt prog T 60 23 "_law_small" (top 35) ["_law_purse_here", "_law_least", "_law_top", "_law_bottom"] ["_law_purse_here", "_law_least"] := ⟨by decide +kernel, f__law_small, rfl, rfl, rfl, by decide +kernel⟩
theorem t__law_cable : Txt prog T 60 24 "_law_cable" (top 36) ["_law_purse_here", "_law_many", "_law_lengths", "_law_k", "_law_steps"] ["_law_purse_here", "_law_many"] := ⟨by decide +kernel, f__law_cable, rfl, rfl, rfl, by decide +kernel⟩
theorem t__law_pure : Txt prog T 60 25 "_law_pure" (top 37) ["_law_thing", "_law_part"] ["_law_thing"] := ⟨by decide +kernel, f__law_pure, rfl, rfl, rfl, by decide +kernel⟩
theorem t__law_right : Txt prog T 60 26 "_law_right" (top 38) ["_law_cable_here", "_law_other", "_law_one", "_law_text_here", "_law_told"] ["_law_cable_here", "_law_other"] := ⟨by decide +kernel, f__law_right, rfl, rfl, rfl, by decide +kernel⟩
theorem t_law : Txt prog T 60 27 "law" (top 39) ["_law_script", "_law_ahead", "_law_k", "_law_purse_here", "_law_cable_here"] ["_law_script"] := ⟨by decide +kernel, f_law, rfl, rfl, rfl, by decide +kernel⟩
theorem all_mk {K : PySem.W.Frag} {h : Heap} {mg : Str → Option Value} (X : K.In h) (G : h.Ns mainGlobals mg)
    {a0 a1 a2 a3 a4 a5 a6 a7 a8 a9 a10 a11 a12 a13 a14 a15 a16 a17 a18 a19 a20 a21 a22 a23 a24 a25 a26 a27 : Addr}
    {od0 an0 od1 an1 od2 an2 od3 an3 od4 an4 od5 an5 od6 an6 od7 an7 od8 an8 od9 an9 od10 an10 od11 an11 od12 an12 od13 an13 od14 an14 od15 an15 od16 an16 od17 an17 od18 an18 od19 an19 od20 an20 od21 an21 od22 an22 od23 an23 od24 an24 od25 an25 od26 an26 od27 an27 : Option Addr}
    {sl0 sl1 sl2 sl3 sl4 sl5 sl6 sl7 sl8 sl9 sl10 sl11 sl12 sl13 sl14 sl15 sl16 sl17 sl18 sl19 sl20 sl21 sl22 sl23 sl24 sl25 sl26 sl27 : Array (Option Value)}
    {oc0 kV0 dc0 pm0 cd0 ct0 oc1 kV1 dc1 pm1 cd1 ct1 oc2 kV2 dc2 pm2 cd2 ct2 oc3 kV3 dc3 pm3 cd3 ct3 oc4 kV4 dc4 pm4 cd4 ct4 oc5 kV5 dc5 pm5 cd5 ct5 oc6 kV6 dc6 pm6 cd6 ct6 oc7 kV7 dc7 pm7 cd7 ct7 oc8 kV8 dc8 pm8 cd8 ct8 oc9 kV9 dc9 pm9 cd9 ct9 oc10 kV10 dc10 pm10 cd10 ct10 oc11 kV11 dc11 pm11 cd11 ct11 oc12 kV12 dc12 pm12 cd12 ct12 oc13 kV13 dc13 pm13 cd13 ct13 oc14 kV14 dc14 pm14 cd14 ct14 oc15 kV15 dc15 pm15 cd15 ct15 oc16 kV16 dc16 pm16 cd16 ct16 oc17 kV17 dc17 pm17 cd17 ct17 oc18 kV18 dc18 pm18 cd18 ct18 oc19 kV19 dc19 pm19 cd19 ct19 oc20 kV20 dc20 pm20 cd20 ct20 oc21 kV21 dc21 pm21 cd21 ct21 oc22 kV22 dc22 pm22 cd22 ct22 oc23 kV23 dc23 pm23 cd23 ct23 oc24 kV24 dc24 pm24 cd24 ct24 oc25 kV25 dc25 pm25 cd25 ct25 oc26 kV26 dc26 pm26 cd26 ct26 oc27 kV27 dc27 pm27 cd27 ct27 : Value}
    (g0 : PySem.W.nsIn K mainGlobals "is_whole" = some (some (.ref a0)))
    (l0 : K.lookup a0 = some ⟨oc0, od0, .func (PySem.W.fnOf "is_whole" "is_whole" (defArgs (top 5)) (defBody (top 5)) (defScope (top 5)) .none kV0 dc0 pm0 an0 cd0 ct0), sl0⟩)
    (c0 : PySem.W.codeIn K cd0 "is_whole" = true) (k0 : PySem.W.keepIn K (.ref a0) = true)
    (g1 : PySem.W.nsIn K mainGlobals "share_of" = some (some (.ref a1)))
    (l1 : K.lookup a1 = some ⟨oc1, od1, .func (PySem.W.fnOf "share_of" "share_of" (defArgs (top 6)) (defBody (top 6)) (defScope (top 6)) .none kV1 dc1 pm1 an1 cd1 ct1), sl1⟩)
    (c1 : PySem.W.codeIn K cd1 "share_of" = true) (k1 : PySem.W.keepIn K (.ref a1) = true)
    (g2 : PySem.W.nsIn K mainGlobals "is_fraction" = some (some (.ref a2)))
    (l2 : K.lookup a2 = some ⟨oc2, od2, .func (PySem.W.fnOf "is_fraction" "is_fraction" (defArgs (top 7)) (defBody (top 7)) (defScope (top 7)) .none kV2 dc2 pm2 an2 cd2 ct2), sl2⟩)
    (c2 : PySem.W.codeIn K cd2 "is_fraction" = true) (k2 : PySem.W.keepIn K (.ref a2) = true)
    (g3 : PySem.W.nsIn K mainGlobals "is_from_zero" = some (some (.ref a3)))
    (l3 : K.lookup a3 = some ⟨oc3, od3, .func (PySem.W.fnOf "is_from_zero" "is_from_zero" (defArgs (top 8)) (defBody (top 8)) (defScope (top 8)) .none kV3 dc3 pm3 an3 cd3 ct3), sl3⟩)
    (c3 : PySem.W.codeIn K cd3 "is_from_zero" = true) (k3 : PySem.W.keepIn K (.ref a3) = true)
    (g4 : PySem.W.nsIn K mainGlobals "is_above_zero" = some (some (.ref a4)))
    (l4 : K.lookup a4 = some ⟨oc4, od4, .func (PySem.W.fnOf "is_above_zero" "is_above_zero" (defArgs (top 9)) (defBody (top 9)) (defScope (top 9)) .none kV4 dc4 pm4 an4 cd4 ct4), sl4⟩)
    (c4 : PySem.W.codeIn K cd4 "is_above_zero" = true) (k4 : PySem.W.keepIn K (.ref a4) = true)
    (g5 : PySem.W.nsIn K mainGlobals "is_small" = some (some (.ref a5)))
    (l5 : K.lookup a5 = some ⟨oc5, od5, .func (PySem.W.fnOf "is_small" "is_small" (defArgs (top 13)) (defBody (top 13)) (defScope (top 13)) .none kV5 dc5 pm5 an5 cd5 ct5), sl5⟩)
    (c5 : PySem.W.codeIn K cd5 "is_small" = true) (k5 : PySem.W.keepIn K (.ref a5) = true)
    (g6 : PySem.W.nsIn K mainGlobals "is_length" = some (some (.ref a6)))
    (l6 : K.lookup a6 = some ⟨oc6, od6, .func (PySem.W.fnOf "is_length" "is_length" (defArgs (top 14)) (defBody (top 14)) (defScope (top 14)) .none kV6 dc6 pm6 an6 cd6 ct6), sl6⟩)
    (c6 : PySem.W.codeIn K cd6 "is_length" = true) (k6 : PySem.W.keepIn K (.ref a6) = true)
    (g7 : PySem.W.nsIn K mainGlobals "is_cable" = some (some (.ref a7)))
    (l7 : K.lookup a7 = some ⟨oc7, od7, .func (PySem.W.fnOf "is_cable" "is_cable" (defArgs (top 15)) (defBody (top 15)) (defScope (top 15)) .none kV7 dc7 pm7 an7 cd7 ct7), sl7⟩)
    (c7 : PySem.W.codeIn K cd7 "is_cable" = true) (k7 : PySem.W.keepIn K (.ref a7) = true)
    (g8 : PySem.W.nsIn K mainGlobals "check_cable" = some (some (.ref a8)))
    (l8 : K.lookup a8 = some ⟨oc8, od8, .func (PySem.W.fnOf "check_cable" "check_cable" (defArgs (top 16)) (defBody (top 16)) (defScope (top 16)) .none kV8 dc8 pm8 an8 cd8 ct8), sl8⟩)
    (c8 : PySem.W.codeIn K cd8 "check_cable" = true) (k8 : PySem.W.keepIn K (.ref a8) = true)
    (g9 : PySem.W.nsIn K mainGlobals "show_fraction" = some (some (.ref a9)))
    (l9 : K.lookup a9 = some ⟨oc9, od9, .func (PySem.W.fnOf "show_fraction" "show_fraction" (defArgs (top 20)) (defBody (top 20)) (defScope (top 20)) .none kV9 dc9 pm9 an9 cd9 ct9), sl9⟩)
    (c9 : PySem.W.codeIn K cd9 "show_fraction" = true) (k9 : PySem.W.keepIn K (.ref a9) = true)
    (g10 : PySem.W.nsIn K mainGlobals "show_cable" = some (some (.ref a10)))
    (l10 : K.lookup a10 = some ⟨oc10, od10, .func (PySem.W.fnOf "show_cable" "show_cable" (defArgs (top 21)) (defBody (top 21)) (defScope (top 21)) .none kV10 dc10 pm10 an10 cd10 ct10), sl10⟩)
    (c10 : PySem.W.codeIn K cd10 "show_cable" = true) (k10 : PySem.W.keepIn K (.ref a10) = true)
    (g11 : PySem.W.nsIn K mainGlobals "number_in" = some (some (.ref a11)))
    (l11 : K.lookup a11 = some ⟨oc11, od11, .func (PySem.W.fnOf "number_in" "number_in" (defArgs (top 22)) (defBody (top 22)) (defScope (top 22)) .none kV11 dc11 pm11 an11 cd11 ct11), sl11⟩)
    (c11 : PySem.W.codeIn K cd11 "number_in" = true) (k11 : PySem.W.keepIn K (.ref a11) = true)
    (g12 : PySem.W.nsIn K mainGlobals "fraction_in" = some (some (.ref a12)))
    (l12 : K.lookup a12 = some ⟨oc12, od12, .func (PySem.W.fnOf "fraction_in" "fraction_in" (defArgs (top 23)) (defBody (top 23)) (defScope (top 23)) .none kV12 dc12 pm12 an12 cd12 ct12), sl12⟩)
    (c12 : PySem.W.codeIn K cd12 "fraction_in" = true) (k12 : PySem.W.keepIn K (.ref a12) = true)
    (g13 : PySem.W.nsIn K mainGlobals "back_in" = some (some (.ref a13)))
    (l13 : K.lookup a13 = some ⟨oc13, od13, .func (PySem.W.fnOf "back_in" "back_in" (defArgs (top 24)) (defBody (top 24)) (defScope (top 24)) .none kV13 dc13 pm13 an13 cd13 ct13), sl13⟩)
    (c13 : PySem.W.codeIn K cd13 "back_in" = true) (k13 : PySem.W.keepIn K (.ref a13) = true)
    (g14 : PySem.W.nsIn K mainGlobals "length_in" = some (some (.ref a14)))
    (l14 : K.lookup a14 = some ⟨oc14, od14, .func (PySem.W.fnOf "length_in" "length_in" (defArgs (top 25)) (defBody (top 25)) (defScope (top 25)) .none kV14 dc14 pm14 an14 cd14 ct14), sl14⟩)
    (c14 : PySem.W.codeIn K cd14 "length_in" = true) (k14 : PySem.W.keepIn K (.ref a14) = true)
    (g15 : PySem.W.nsIn K mainGlobals "read_cable" = some (some (.ref a15)))
    (l15 : K.lookup a15 = some ⟨oc15, od15, .func (PySem.W.fnOf "read_cable" "read_cable" (defArgs (top 26)) (defBody (top 26)) (defScope (top 26)) .none kV15 dc15 pm15 an15 cd15 ct15), sl15⟩)
    (c15 : PySem.W.codeIn K cd15 "read_cable" = true) (k15 : PySem.W.keepIn K (.ref a15) = true)
    (g16 : PySem.W.nsIn K mainGlobals "_law_cell" = some (some (.ref a16)))
    (l16 : K.lookup a16 = some ⟨oc16, od16, .func (PySem.W.fnOf "_law_cell" "_law_cell" (defArgs (top 28)) (defBody (top 28)) (defScope (top 28)) .none kV16 dc16 pm16 an16 cd16 ct16), sl16⟩)
    (c16 : PySem.W.codeIn K cd16 "_law_cell" = true) (k16 : PySem.W.keepIn K (.ref a16) = true)
    (g17 : PySem.W.nsIn K mainGlobals "_law_purse" = some (some (.ref a17)))
    (l17 : K.lookup a17 = some ⟨oc17, od17, .func (PySem.W.fnOf "_law_purse" "_law_purse" (defArgs (top 29)) (defBody (top 29)) (defScope (top 29)) .none kV17 dc17 pm17 an17 cd17 ct17), sl17⟩)
    (c17 : PySem.W.codeIn K cd17 "_law_purse" = true) (k17 : PySem.W.keepIn K (.ref a17) = true)
    (g18 : PySem.W.nsIn K mainGlobals "_law_pick" = some (some (.ref a18)))
    (l18 : K.lookup a18 = some ⟨oc18, od18, .func (PySem.W.fnOf "_law_pick" "_law_pick" (defArgs (top 30)) (defBody (top 30)) (defScope (top 30)) .none kV18 dc18 pm18 an18 cd18 ct18), sl18⟩)
    (c18 : PySem.W.codeIn K cd18 "_law_pick" = true) (k18 : PySem.W.keepIn K (.ref a18) = true)
    (g19 : PySem.W.nsIn K mainGlobals "_law_whole" = some (some (.ref a19)))
    (l19 : K.lookup a19 = some ⟨oc19, od19, .func (PySem.W.fnOf "_law_whole" "_law_whole" (defArgs (top 31)) (defBody (top 31)) (defScope (top 31)) .none kV19 dc19 pm19 an19 cd19 ct19), sl19⟩)
    (c19 : PySem.W.codeIn K cd19 "_law_whole" = true) (k19 : PySem.W.keepIn K (.ref a19) = true)
    (g20 : PySem.W.nsIn K mainGlobals "_law_low" = some (some (.ref a20)))
    (l20 : K.lookup a20 = some ⟨oc20, od20, .func (PySem.W.fnOf "_law_low" "_law_low" (defArgs (top 32)) (defBody (top 32)) (defScope (top 32)) .none kV20 dc20 pm20 an20 cd20 ct20), sl20⟩)
    (c20 : PySem.W.codeIn K cd20 "_law_low" = true) (k20 : PySem.W.keepIn K (.ref a20) = true)
    (g21 : PySem.W.nsIn K mainGlobals "_law_fraction_text" = some (some (.ref a21)))
    (l21 : K.lookup a21 = some ⟨oc21, od21, .func (PySem.W.fnOf "_law_fraction_text" "_law_fraction_text" (defArgs (top 33)) (defBody (top 33)) (defScope (top 33)) .none kV21 dc21 pm21 an21 cd21 ct21), sl21⟩)
    (c21 : PySem.W.codeIn K cd21 "_law_fraction_text" = true) (k21 : PySem.W.keepIn K (.ref a21) = true)
    (g22 : PySem.W.nsIn K mainGlobals "_law_text" = some (some (.ref a22)))
    (l22 : K.lookup a22 = some ⟨oc22, od22, .func (PySem.W.fnOf "_law_text" "_law_text" (defArgs (top 34)) (defBody (top 34)) (defScope (top 34)) .none kV22 dc22 pm22 an22 cd22 ct22), sl22⟩)
    (c22 : PySem.W.codeIn K cd22 "_law_text" = true) (k22 : PySem.W.keepIn K (.ref a22) = true)
    (g23 : PySem.W.nsIn K mainGlobals "_law_small" = some (some (.ref a23)))
    (l23 : K.lookup a23 = some ⟨oc23, od23, .func (PySem.W.fnOf "_law_small" "_law_small" (defArgs (top 35)) (defBody (top 35)) (defScope (top 35)) .none kV23 dc23 pm23 an23 cd23 ct23), sl23⟩)
    (c23 : PySem.W.codeIn K cd23 "_law_small" = true) (k23 : PySem.W.keepIn K (.ref a23) = true)
    (g24 : PySem.W.nsIn K mainGlobals "_law_cable" = some (some (.ref a24)))
    (l24 : K.lookup a24 = some ⟨oc24, od24, .func (PySem.W.fnOf "_law_cable" "_law_cable" (defArgs (top 36)) (defBody (top 36)) (defScope (top 36)) .none kV24 dc24 pm24 an24 cd24 ct24), sl24⟩)
    (c24 : PySem.W.codeIn K cd24 "_law_cable" = true) (k24 : PySem.W.keepIn K (.ref a24) = true)
    (g25 : PySem.W.nsIn K mainGlobals "_law_pure" = some (some (.ref a25)))
    (l25 : K.lookup a25 = some ⟨oc25, od25, .func (PySem.W.fnOf "_law_pure" "_law_pure" (defArgs (top 37)) (defBody (top 37)) (defScope (top 37)) .none kV25 dc25 pm25 an25 cd25 ct25), sl25⟩)
    (c25 : PySem.W.codeIn K cd25 "_law_pure" = true) (k25 : PySem.W.keepIn K (.ref a25) = true)
    (g26 : PySem.W.nsIn K mainGlobals "_law_right" = some (some (.ref a26)))
    (l26 : K.lookup a26 = some ⟨oc26, od26, .func (PySem.W.fnOf "_law_right" "_law_right" (defArgs (top 38)) (defBody (top 38)) (defScope (top 38)) .none kV26 dc26 pm26 an26 cd26 ct26), sl26⟩)
    (c26 : PySem.W.codeIn K cd26 "_law_right" = true) (k26 : PySem.W.keepIn K (.ref a26) = true)
    (g27 : PySem.W.nsIn K mainGlobals "law" = some (some (.ref a27)))
    (l27 : K.lookup a27 = some ⟨oc27, od27, .func (PySem.W.fnOf "law" "law" (defArgs (top 39)) (defBody (top 39)) (defScope (top 39)) .none kV27 dc27 pm27 an27 cd27 ct27), sl27⟩)
    (c27 : PySem.W.codeIn K cd27 "law" = true) (k27 : PySem.W.keepIn K (.ref a27) = true)
    {t0 t1 t2 t3 : Tok}
    (n0 : PySem.W.nsIn K mainGlobals "MOST_LENGTHS" = some (some (.int 12 t0)))
    (n1 : PySem.W.nsIn K mainGlobals "MOST_NUMBER" = some (some (.int 999 t1)))
    (n2 : PySem.W.nsIn K mainGlobals "FIGURES" = some (some (.str "0123456789" t2)))
    (n3 : PySem.W.nsIn K mainGlobals "MOST_FIGURES" = some (some (.int 3 t3)))
    (z0 : PySem.W.nsIn K mainGlobals "isinstance" = some none)
    (z1 : PySem.W.nsIn K mainGlobals "len" = some none)
    (z2 : PySem.W.nsIn K mainGlobals "abs" = some none)
    (z3 : PySem.W.nsIn K mainGlobals "all" = some none)
    (z4 : PySem.W.nsIn K mainGlobals "any" = some none)
    (z5 : PySem.W.nsIn K mainGlobals "sum" = some none)
    (z6 : PySem.W.nsIn K mainGlobals "int" = some none)
    (z7 : PySem.W.nsIn K mainGlobals "str" = some none)
    (z8 : PySem.W.nsIn K mainGlobals "tuple" = some none)
    (z9 : PySem.W.nsIn K mainGlobals "list" = some none)
    (z10 : PySem.W.nsIn K mainGlobals "max" = some none)
    (z11 : PySem.W.nsIn K mainGlobals "min" = some none)
    (z12 : PySem.W.nsIn K mainGlobals "range" = some none)
    (z13 : PySem.W.nsIn K mainGlobals "enumerate" = some none)
    (z14 : PySem.W.nsIn K mainGlobals "bool" = some none)
    (z15 : PySem.W.nsIn K mainGlobals "dict" = some none)
    : (∀ (f : Nat) (x : Str), T.fns[f]? = some x → DefOk K mg prog T (pt f) f x) ∧ (∀ (x : Str) (dv : D), (x, dv) ∈ T.con → ConOk K mg x dv) ∧ (∀ x ∈ bltNames, mg x = none) := by
  refine ⟨fun f x hf => ?_, fun x dv hm => ?_, fun x hx => ?_⟩
  · match f, hf with
    | 0, hf => cases hf; exact ⟨_, _, _, _, _, fun_mk (st := top 5) l0 c0 k0, PySem.W.mg_of X G g0, k0, fun us hl => (match us, hl with | [_], _ => rfl), t_is_whole⟩
    | 1, hf => cases hf; exact ⟨_, _, _, _, _, fun_mk (st := top 6) l1 c1 k1, PySem.W.mg_of X G g1, k1, fun us hl => (match us, hl with | [_, _], _ => rfl), t_share_of⟩
    | 2, hf => cases hf; exact ⟨_, _, _, _, _, fun_mk (st := top 7) l2 c2 k2, PySem.W.mg_of X G g2, k2, fun us hl => (match us, hl with | [_], _ => rfl), t_is_fraction⟩
    | 3, hf => cases hf; exact ⟨_, _, _, _, _, fun_mk (st := top 8) l3 c3 k3, PySem.W.mg_of X G g3, k3, fun us hl => (match us, hl with | [_], _ => rfl), t_is_from_zero⟩
    | 4, hf => cases hf; exact ⟨_, _, _, _, _, fun_mk (st := top 9) l4 c4 k4, PySem.W.mg_of X G g4, k4, fun us hl => (match us, hl with | [_], _ => rfl), t_is_above_zero⟩
    | 5, hf => cases hf; exact ⟨_, _, _, _, _, fun_mk (st := top 13) l5 c5 k5, PySem.W.mg_of X G g5, k5, fun us hl => (match us, hl with | [_], _ => rfl), t_is_small⟩
    | 6, hf => cases hf; exact ⟨_, _, _, _, _, fun_mk (st := top 14) l6 c6 k6, PySem.W.mg_of X G g6, k6, fun us hl => (match us, hl with | [_], _ => rfl), t_is_length⟩
    | 7, hf => cases hf; exact ⟨_, _, _, _, _, fun_mk (st := top 15) l7 c7 k7, PySem.W.mg_of X G g7, k7, fun us hl => (match us, hl with | [_], _ => rfl), t_is_cable⟩
    | 8, hf => cases hf; exact ⟨_, _, _, _, _, fun_mk (st := top 16) l8 c8 k8, PySem.W.mg_of X G g8, k8, fun us hl => (match us, hl with | [_], _ => rfl), t_check_cable⟩
    | 9, hf => cases hf; exact ⟨_, _, _, _, _, fun_mk (st := top 20) l9 c9 k9, PySem.W.mg_of X G g9, k9, fun us hl => (match us, hl with | [_], _ => rfl), t_show_fraction⟩
    | 10, hf => cases hf; exact ⟨_, _, _, _, _, fun_mk (st := top 21) l10 c10 k10, PySem.W.mg_of X G g10, k10, fun us hl => (match us, hl with | [_], _ => rfl), t_show_cable⟩
    | 11, hf => cases hf; exact ⟨_, _, _, _, _, fun_mk (st := top 22) l11 c11 k11, PySem.W.mg_of X G g11, k11, fun us hl => (match us, hl with | [_, _], _ => rfl), t_number_in⟩
    | 12, hf => cases hf; exact ⟨_, _, _, _, _, fun_mk (st := top 23) l12 c12 k12, PySem.W.mg_of X G g12, k12, fun us hl => (match us, hl with | [_, _], _ => rfl), t_fraction_in⟩
    | 13, hf => cases hf; exact ⟨_, _, _, _, _, fun_mk (st := top 24) l13 c13 k13, PySem.W.mg_of X G g13, k13, fun us hl => (match us, hl with | [_], _ => rfl), t_back_in⟩
    | 14, hf => cases hf; exact ⟨_, _, _, _, _, fun_mk (st := top 25) l14 c14 k14, PySem.W.mg_of X G g14, k14, fun us hl => (match us, hl with | [_], _ => rfl), t_length_in⟩
    | 15, hf => cases hf; exact ⟨_, _, _, _, _, fun_mk (st := top 26) l15 c15 k15, PySem.W.mg_of X G g15, k15, fun us hl => (match us, hl with | [_], _ => rfl), t_read_cable⟩
    | 16, hf => cases hf; exact ⟨_, _, _, _, _, fun_mk (st := top 28) l16 c16 k16, PySem.W.mg_of X G g16, k16, fun us hl => (match us, hl with | [_, _], _ => rfl), t__law_cell⟩
    | 17, hf => cases hf; exact ⟨_, _, _, _, _, fun_mk (st := top 29) l17 c17 k17, PySem.W.mg_of X G g17, k17, fun us hl => (match us, hl with | [_], _ => rfl), t__law_purse⟩
    | 18, hf => cases hf; exact ⟨_, _, _, _, _, fun_mk (st := top 30) l18 c18 k18, PySem.W.mg_of X G g18, k18, fun us hl => (match us, hl with | [_, _], _ => rfl), t__law_pick⟩
    | 19, hf => cases hf; exact ⟨_, _, _, _, _, fun_mk (st := top 31) l19 c19 k19, PySem.W.mg_of X G g19, k19, fun us hl => (match us, hl with | [_], _ => rfl), t__law_whole⟩
    | 20, hf => cases hf; exact ⟨_, _, _, _, _, fun_mk (st := top 32) l20 c20 k20, PySem.W.mg_of X G g20, k20, fun us hl => (match us, hl with | [_, _], _ => rfl), t__law_low⟩
    | 21, hf => cases hf; exact ⟨_, _, _, _, _, fun_mk (st := top 33) l21 c21 k21, PySem.W.mg_of X G g21, k21, fun us hl => (match us, hl with | [_], _ => rfl), t__law_fraction_text⟩
    | 22, hf => cases hf; exact ⟨_, _, _, _, _, fun_mk (st := top 34) l22 c22 k22, PySem.W.mg_of X G g22, k22, fun us hl => (match us, hl with | [_], _ => rfl), t__law_text⟩
    | 23, hf => cases hf; exact ⟨_, _, _, _, _, fun_mk (st := top 35) l23 c23 k23, PySem.W.mg_of X G g23, k23, fun us hl => (match us, hl with | [_, _], _ => rfl), t__law_small⟩
    | 24, hf => cases hf; exact ⟨_, _, _, _, _, fun_mk (st := top 36) l24 c24 k24, PySem.W.mg_of X G g24, k24, fun us hl => (match us, hl with | [_, _], _ => rfl), t__law_cable⟩
    | 25, hf => cases hf; exact ⟨_, _, _, _, _, fun_mk (st := top 37) l25 c25 k25, PySem.W.mg_of X G g25, k25, fun us hl => (match us, hl with | [_], _ => rfl), t__law_pure⟩
    | 26, hf => cases hf; exact ⟨_, _, _, _, _, fun_mk (st := top 38) l26 c26 k26, PySem.W.mg_of X G g26, k26, fun us hl => (match us, hl with | [_, _], _ => rfl), t__law_right⟩
    | 27, hf => cases hf; exact ⟨_, _, _, _, _, fun_mk (st := top 39) l27 c27 k27, PySem.W.mg_of X G g27, k27, fun us hl => (match us, hl with | [_], _ => rfl), t_law⟩
    | _ + 28, hf => cases hf
  · simp only [T, List.mem_cons, List.mem_nil_iff, or_false, Prod.mk.injEq] at hm
    rcases hm with ⟨rfl, rfl⟩ | ⟨rfl, rfl⟩ | ⟨rfl, rfl⟩ | ⟨rfl, rfl⟩
    · exact con_int (PySem.W.mg_of X G n0)
    · exact con_int (PySem.W.mg_of X G n1)
    · exact con_str (PySem.W.mg_of X G n2) rfl (by decide)
    · exact con_int (PySem.W.mg_of X G n3)
  · simp only [bltNames, List.mem_cons, List.mem_nil_iff, or_false] at hx
    rcases hx with rfl | rfl | rfl | rfl | rfl | rfl | rfl | rfl | rfl | rfl | rfl | rfl | rfl | rfl | rfl | rfl
    · exact PySem.W.mg_none_of X G z0
    · exact PySem.W.mg_none_of X G z1
    · exact PySem.W.mg_none_of X G z2
    · exact PySem.W.mg_none_of X G z3
    · exact PySem.W.mg_none_of X G z4
    · exact PySem.W.mg_none_of X G z5
    · exact PySem.W.mg_none_of X G z6
    · exact PySem.W.mg_none_of X G z7
    · exact PySem.W.mg_none_of X G z8
    · exact PySem.W.mg_none_of X G z9
    · exact PySem.W.mg_none_of X G z10
    · exact PySem.W.mg_none_of X G z11
    · exact PySem.W.mg_none_of X G z12
    · exact PySem.W.mg_none_of X G z13
    · exact PySem.W.mg_none_of X G z14
    · exact PySem.W.mg_none_of X G z15
end k05
end Ev

set_option Elab.async false
set_option linter.all false
set_option maxRecDepth 100000
set_option maxHeartbeats 4000000
namespace Ev
/-- Euclid's loop -/
theorem whl_euclid {anc : Nat → List Nat} {Φ : Nat → List D → Store → Out D} {c : E} {b : Ss} {S : Store} (mk : Int → Int → Env) (hc : ∀ x y, asB (ev anc Φ c (mk x y) S) = some (.ok (decide (0 < y)) S)) (hb : ∀ x y, 0 < y → exs anc Φ b (mk x y) S = some (.ok (.nx (mk y (x % y))) S)) :
    ∀ (n y x : Nat), y ≤ n → whlE anc Φ c b (mk x y) S = some (.ok (.nx (mk (Nat.gcd x y : Nat) 0)) S)
  | n, 0, x, _ => by
    rw [whlE_end (by rw [hc]; rfl)]
    simp
  | 0, y + 1, x, h => absurd h (by omega)
  | n + 1, y + 1, x, h => by
    have hp : (0 : Int) < ((y + 1 : Nat) : Int) := by omega
    rw [whlE_go (by rw [hc, decide_eq_true hp]) (hb _ _ hp)]
    have e : ((x : Int) % ((y + 1 : Nat) : Int)) = ((x % (y + 1) : Nat) : Int) := by simp
    have hl : x % (y + 1) < y + 1 := Nat.mod_lt _ (by omega)
    rw [e, whl_euclid mk hc hb n (x % (y + 1)) (y + 1) (by omega)]
    rw [Nat.gcd_comm (y + 1), ← Nat.gcd_rec, Nat.gcd_comm]
namespace k05
open PySem
section
variable {d : Nat} {S : Store}
abbrev Fr := Nat × Nat
abbrev Ln := Nat × Fr
abbrev Cab := List Ln × Fr
def frD (f : Fr) : D := .tup [.int f.1, .int f.2]
def lnD (l : Ln) : D := .tup [.int l.1, frD l.2]
def cabD (c : Cab) : D := .tup [.tup (c.1.map lnD), frD c.2]
structure FrOk (f : Fr) : Prop where
  pos : 0 < f.2
  low : Nat.gcd f.1 f.2 = 1
  t : f.1 ≤ 999
  b : f.2 ≤ 999
structure LnOk (l : Ln) : Prop where
  s0 : 1 ≤ l.1
  s1 : l.1 ≤ 999
  fr : FrOk l.2
  pos : 0 < l.2.1
structure CabOk (c : Cab) : Prop where
  n0 : 1 ≤ c.1.length
  n1 : c.1.length ≤ 12
  ln : ∀ l ∈ c.1, LnOk l
  bk : FrOk c.2
theorem is_whole_int {i : Int} : call prog (d + 1) 0 [.int i] S = some (.ok (.bl true) S) := by
  rw [call_at (Fn := f_is_whole) rfl rfl]
  simp [f_is_whole, ev_var, isTy]
theorem is_small_ok {f : Fr} (h : FrOk f) : call prog (d + 1) 5 [frD f] S = some (.ok (.bl true) S) := by
  rw [call_at (Fn := f_is_small) rfl rfl]
  have h1 : (f.1 : Int) ≤ 999 := by have := h.t; omega
  have h2 : (f.2 : Int) ≤ 999 := by have := h.b; omega
  simp [f_is_small, frD, ev_var, h1, h2]
theorem share_ok {x y : Nat} : call prog (d + 1) 1 [.int x, .int y] S = some (.ok (.int (Nat.gcd x y : Nat)) S) := by
  rw [call_at (Fn := f_share_of) rfl rfl]
  have := whl_euclid (anc := prog.anc) (Φ := call prog d) (S := S) (c := .cmp .gt (.var 1) (.con (.int 0))) (b := .cons (.asgT [0, 1] (.tup (.cons (.var 1) (.cons (.bin .mod (.var 0) (.var 1)) .nil)))) .nil)
    (fun x y => [some (.int x), some (.int y)]) (fun x y => by simp [ev_var]) (fun x y h => by simp [ev_var, bin_mod h, setTg]) y y x (Nat.le_refl _)
  simp [f_share_of, this, ev_var]
theorem is_fraction_ok {f : Fr} (h : FrOk f) : call prog (d + 2) 2 [frD f] S = some (.ok (.bl true) S) := by
  rw [call_at (Fn := f_is_fraction) rfl rfl]
  have h1 : ¬ ((f.1 : Int) < 0) := by omega
  have h2 : (0 : Int) < f.2 := by have := h.pos; omega
  simp [f_is_fraction, frD, ev_var, isTy, blt, items, is_whole_int, h1, h2, h.pos, share_ok, h.low]
theorem is_from_zero_ok {f : Fr} (h : FrOk f) : call prog (d + 3) 3 [frD f] S = some (.ok (.bl true) S) := by
  rw [call_at (Fn := f_is_from_zero) rfl rfl]
  have h1 : (0 : Int) ≤ f.1 := by omega
  simp [f_is_from_zero, ev_var, is_fraction_ok h]
  simp [frD, h1]
theorem is_above_zero_ok {f : Fr} (h : FrOk f) (hp : 0 < f.1) : call prog (d + 3) 4 [frD f] S = some (.ok (.bl true) S) := by
  rw [call_at (Fn := f_is_above_zero) rfl rfl]
  simp [f_is_above_zero, ev_var, is_fraction_ok h]
  simp [frD, hp]
theorem is_length_ok {l : Ln} (h : LnOk l) : call prog (d + 4) 6 [lnD l] S = some (.ok (.bl true) S) := by
  rw [call_at (Fn := f_is_length) rfl rfl]
  have h1 : (1 : Int) ≤ l.1 := by have := h.s0; omega
  have h2 : (l.1 : Int) ≤ 999 := by have := h.s1; omega
  simp [f_is_length, lnD, ev_var, isTy, blt, items, is_whole_int, h1, h2, is_above_zero_ok h.fr h.pos, is_small_ok h.fr]
theorem boolsD_all : ∀ {n : Nat}, boolsD (List.replicate n (.bl true)) = some (List.replicate n true)
  | 0 => rfl
  | n + 1 => by simp [List.replicate_succ, boolsD, boolsD_all]
theorem const_map {α : Type} {g : D} : ∀ (xs : List α), xs.map (fun _ => g) = List.replicate xs.length g
  | [] => rfl
  | _ :: xs => by rw [List.map_cons, const_map xs]; rfl
theorem is_cable_ok {c : Cab} (h : CabOk c) : call prog (d + 5) 7 [cabD c] S = some (.ok (.bl true) S) := by
  rw [call_at (Fn := f_is_cable) rfl rfl]
  have h1 : (1 : Int) ≤ c.1.length := by have := h.n0; omega
  have h2 : (c.1.length : Int) ≤ 12 := by have := h.n1; omega
  have hc := compE_map (anc := prog.anc) (Φ := call prog (d + 4)) (S := S) (ρ := [some (cabD c), none]) (tg := [1]) (elt := .call 6 (.cons (.var 1) .nil)) (g := fun _ => .bl true) (xs := c.1.map lnD) fun x hx => by
      obtain ⟨l, hl, rfl⟩ := List.mem_map.mp hx
      exact ⟨_, rfl, by simp [ev_var, is_length_ok (h.ln l hl)]⟩
  rw [const_map, List.length_map] at hc
  have hv : ev prog.anc (call prog (d + 4)) (.var 0) [some (cabD c), none] S = some (.ok (.tup [.tup (c.1.map lnD), frD c.2]) S) := ev_var rfl
  simp [f_is_cable, hv, isTy, blt, items, h1, h2, h.n0, h.n1, hc, boolsD_all, is_from_zero_ok h.bk, is_small_ok h.bk, alloc]
theorem check_cable_ok {c : Cab} (h : CabOk c) : call prog (d + 6) 8 [cabD c] S = some (.ok .non S) := by
  rw [call_at (Fn := f_check_cable) rfl rfl]
  simp [f_check_cable, ev_var, is_cable_ok h]
end
end k05
end Ev

set_option Elab.async false
set_option linter.all false
set_option maxRecDepth 100000
set_option maxHeartbeats 4000000
set_option exponentiation.threshold 500
namespace Ev
namespace k05
open PySem
/-- a purse of at most n picks -/
def PS (n : Nat) (o : Ob) : Prop := ∃ p0 p1 p2 : Int, o = .lst [.int p0, .int p1, .int p2] ∧ 0 ≤ p2 ∧ p2 ≤ n
theorem PS.mono {m n : Nat} {o : Ob} (h : PS m o) (l : m ≤ n) : PS n o := by
  obtain ⟨p0, p1, p2, e, h0, h1⟩ := h
  exact ⟨p0, p1, p2, e, h0, by omega⟩
theorem toNat_of {v : Int} {m : Nat} (h0 : 0 ≤ v) (h1 : v < m) : ∃ k : Nat, v = k ∧ k < m := by
  obtain ⟨k, rfl⟩ := Int.eq_ofNat_of_zero_le h0
  exact ⟨k, rfl, by omega⟩
section
variable {d : Nat} {S : Store}
theorem pick_ok {a : Nat} {o : Ob} {n m : Nat} (ho : S[a]? = some o) (hp : PS n o) (hn : n ≤ 10000) (hm : 0 < m) (hm2 : m ≤ 10000) :
    ∃ (v : Nat) (o' : Ob), v < m ∧ PS (n + 1) o' ∧ call prog (d + 1) 18 [.ref a, .int m] S = some (.ok (.int v) (S.set a o')) := by
  obtain ⟨p0, p1, p2, rfl, h0, h1⟩ := hp
  have ha : a < S.length := (List.getElem?_eq_some_iff.mp ho).1
  have hS : ∀ o : Ob, (S.set a o)[a]? = some o := fun o => List.getElem?_set_self ha
  have hmi : (0 : Int) < m := by omega
  have hd : divOk m = true := divOk_of hmi (by simp; exact Nat.lt_of_le_of_lt hm2 (by decide))
  have hs0 := Int.emod_nonneg p0 (show (999999893 : Int) ≠ 0 by decide)
  have hs1 := Int.emod_lt_of_pos p0 (show (0 : Int) < 999999893 by decide)
  have ht0 := Int.emod_nonneg (p0 % 999999893) (show (40009 : Int) ≠ 0 by decide)
  have ht1 := Int.emod_lt_of_pos (p0 % 999999893) (show (0 : Int) < 40009 by decide)
  have m1 : mulOk (p0 % 999999893) (p0 % 999999893 % 40009 + 10007) = true := mulOk_of (by
    have : (p0 % 999999893).natAbs < 2 ^ 64 := by omega
    exact Nat.lt_trans this (by decide)) (by
    have : (p0 % 999999893 % 40009 + 10007).natAbs < 2 ^ 64 := by omega
    exact Nat.lt_trans this (by decide))
  have m2 : mulOk 80021 (p2 + 1) = true := mulOk_of (by decide) (by
    have : (p2 + 1).natAbs < 2 ^ 64 := by omega
    exact Nat.lt_trans this (by decide))
  have md : ∀ x : Int, bin .mod (.int x) (.int m) = fun S => some (.ok (.int (x % m)) S) := fun x => funext fun S => bin_mod hmi
  have mf : ∀ x : Int, bin .fdiv (.int x) (.int m) = fun S => some (.ok (.int (x / m)) S) := fun x => funext fun S => bin_fdiv hd
  have hraw : ∀ (S' : Store) (v : D), S'.length = S.length → fin false S (some (.ok (.rt v) S')) = some (.ok v S') := fun S' v h => by simp [fin, close, h]
  rw [call_at (Fn := f__law_pick) rfl rfl]
  by_cases hb : 0 < p1
  · have hv0 := Int.emod_nonneg p1 (show (m : Int) ≠ 0 by omega)
    have hv1 := Int.emod_lt_of_pos p1 hmi
    obtain ⟨k, hk, hk2⟩ := toNat_of hv0 hv1
    refine ⟨k, .lst [.int (p0 % 999999893 * (p0 % 999999893 % 40009 + 10007) + 80021 * (p2 + 1)), .int (p1 / m), .int (p2 + 1)], hk2, ⟨_, _, _, rfl, by omega, by push_cast; omega⟩, ?_⟩
    rw [← hk]
    simp [f__law_pick, ev_var, view, ho, setix, L2.ixN, hS, bin_mod, bin_mul m1, bin_mul m2, hb, md, mf]
    rw [hraw _ _ (by simp)]
  · have hv0 := Int.emod_nonneg ((p0 % 999999893 * (p0 % 999999893 % 40009 + 10007) + 80021 * (p2 + 1)) % 999999893 / 16) (show (m : Int) ≠ 0 by omega)
    have hv1 := Int.emod_lt_of_pos ((p0 % 999999893 * (p0 % 999999893 % 40009 + 10007) + 80021 * (p2 + 1)) % 999999893 / 16) hmi
    obtain ⟨k, hk, hk2⟩ := toNat_of hv0 hv1
    refine ⟨k, .lst [.int (p0 % 999999893 * (p0 % 999999893 % 40009 + 10007) + 80021 * (p2 + 1)), .int p1, .int (p2 + 1)], hk2, ⟨_, _, _, rfl, by omega, by push_cast; omega⟩, ?_⟩
    rw [← hk]
    have d16 : divOk 16 = true := by decide
    simp [f__law_pick, ev_var, view, ho, setix, L2.ixN, hS, bin_mod, bin_mul m1, bin_mul m2, hb, md, mf, bin_fdiv d16]
    rw [hraw _ _ (by simp)]
theorem purse_ok {c : Int} : ∃ o, PS 0 o ∧ call prog (d + 1) 17 [.int c] S = some (.ok (.ref S.length) (S ++ [o])) := by
  have hp : bin .pow (.int 10) (.int 18) = fun S => some (.ok (.int (10 ^ 18)) S) := funext fun S => bin_pow (by decide)
  have m1 : mulOk (c % 999999893) 6007 = true := mulOk_of (by
    have h0 := Int.emod_nonneg c (show (999999893 : Int) ≠ 0 by decide)
    have h1 := Int.emod_lt_of_pos c (show (0 : Int) < 999999893 by decide)
    have : (c % 999999893).natAbs < 2 ^ 64 := by omega
    exact Nat.lt_trans this (by decide)) (by decide)
  rw [call_at (Fn := f__law_purse) rfl rfl]
  by_cases hc : (10 : Int) ^ 18 ≤ c
  · refine ⟨.lst [.int (c % 999999893 * 6007 + 2503), .int c, .int 0], ⟨_, _, _, rfl, by omega, by omega⟩, ?_⟩
    have hc' : (1000000000000000000 : Int) ≤ c := hc
    simp [f__law_purse, ev_var, bin_mod, bin_mul m1, hp, hc', blt, alloc, fin, close]
  · refine ⟨.lst [.int (c % 999999893 * 6007 + 2503), .int 0, .int 0], ⟨_, _, _, rfl, by omega, by omega⟩, ?_⟩
    have hc' : ¬ (1000000000000000000 : Int) ≤ c := hc
    simp [f__law_purse, ev_var, bin_mod, bin_mul m1, hp, hc', blt, alloc, fin, close]
theorem low_ok {t b : Nat} (hb : 0 < b) (ht : t ≤ 10000) (hb2 : b ≤ 10000) : call prog (d + 1) 20 [.int t, .int b] S = some (.ok (frD (t / Nat.gcd t b, b / Nat.gcd t b)) S) := by
  rw [call_at (Fn := f__law_low) rfl rfl]
  have := whl_euclid (anc := prog.anc) (Φ := call prog d) (S := S) (c := .cmp .gt (.var 3) (.con (.int 0))) (b := .cons (.asgT [2, 3] (.tup (.cons (.var 3) (.cons (.bin .mod (.var 2) (.var 3)) .nil)))) .nil)
    (fun x y => [some (.int t), some (.int b), some (.int x), some (.int y)]) (fun x y => by simp [ev_var]) (fun x y h => by simp [ev_var, bin_mod h, setTg]) b b t (Nat.le_refl _)
  have g0 : 0 < Nat.gcd t b := Nat.gcd_pos_of_pos_right t hb
  have gl : Nat.gcd t b ≤ b := Nat.gcd_le_right t hb
  have gd : divOk (Nat.gcd t b : Nat) = true := divOk_of (by omega) (by simp; exact Nat.lt_of_le_of_lt (Nat.le_trans gl hb2) (by decide))
  have h1 : ¬ ((t : Int) < 0) := by omega
  have h2 : ¬ ((b : Int) < 0) := by omega
  have h3 : ∀ x : Nat, bin .fdiv (.int (x : Int)) (.int ((Nat.gcd t b : Nat) : Int)) = fun S => some (.ok (.int ((x / Nat.gcd t b : Nat) : Int)) S) := fun x => funext fun S => by rw [bin_fdiv gd]; simp
  simp [f__law_low, this, ev_var, h1, h2, setTg, blt, frD]
  simp [ev_var, h3]
theorem low_fr {t b : Nat} (hb : 0 < b) (ht : t ≤ 999) (hb2 : b ≤ 999) : FrOk (t / Nat.gcd t b, b / Nat.gcd t b) := by
  have g0 : 0 < Nat.gcd t b := Nat.gcd_pos_of_pos_right t hb
  have gl : Nat.gcd t b ≤ b := Nat.gcd_le_right t hb
  exact ⟨Nat.div_pos gl g0, Nat.gcd_div_gcd_div_gcd_of_pos_right hb, Nat.le_trans (Nat.div_le_self _ _) ht, Nat.le_trans (Nat.div_le_self _ _) hb2⟩
theorem low_pos {t b : Nat} (hb : 0 < b) (ht : 0 < t) : 0 < t / Nat.gcd t b := Nat.div_pos (Nat.gcd_le_left b ht) (Nat.gcd_pos_of_pos_right t hb)
end
end k05
end Ev

set_option Elab.async false
set_option linter.all false
set_option maxRecDepth 100000
set_option maxHeartbeats 4000000
set_option exponentiation.threshold 500
namespace Ev
namespace k05
open PySem
section
variable {d : Nat} {S : Store}
theorem pick_at {a : Nat} {o : Ob} {n m : Nat} (ha : a < S.length) (hp : PS n o) (hn : n ≤ 10000) (hm : 0 < m) (hm2 : m ≤ 10000) {mi : Int} (hmi : (m : Int) = mi) :
    ∃ (v : Nat) (o' : Ob), v < m ∧ PS (n + 1) o' ∧ call prog (d + 1) 18 [.ref a, .int mi] (S.set a o) = some (.ok (.int v) (S.set a o')) := by
  obtain ⟨v, o', h1, h2, h3⟩ := pick_ok (d := d) (S := S.set a o) (List.getElem?_set_self ha) hp hn hm hm2
  rw [List.set_set, hmi] at h3
  exact ⟨v, o', h1, h2, h3⟩
theorem small_ok {a : Nat} {o : Ob} {n least : Nat} (ha : a < S.length) (hp : PS n o) (hn : n ≤ 9000) (hl : least ≤ 1) {li : Int} (hli : (least : Int) = li) :
    ∃ (f : Fr) (o' : Ob), FrOk f ∧ (0 < least → 0 < f.1) ∧ PS (n + 6) o' ∧ call prog (d + 2) 23 [.ref a, .int li] (S.set a o) = some (.ok (frD f) (S.set a o')) := by
  obtain ⟨v1, o1, l1, p1, e1⟩ := pick_at (d := d) (m := 9) (mi := 9) ha hp (by omega) (by omega) (by omega) rfl
  obtain ⟨v2, o2, l2, p2, e2⟩ := pick_at (d := d) (m := 999) (mi := 999) ha p1 (by omega) (by omega) (by omega) rfl
  obtain ⟨v3, o3, l3, p3, e3⟩ := pick_at (d := d) (m := 4) (mi := 4) ha p2 (by omega) (by omega) (by omega) rfl
  obtain ⟨v4, o4, l4, p4, e4⟩ := pick_at (d := d) (m := 9) (mi := 9) ha p3 (by omega) (by omega) (by omega) rfl
  obtain ⟨v5, o5, l5, p5, e5⟩ := pick_at (d := d) (m := 999) (mi := 999) ha p4 (by omega) (by omega) (by omega) rfl
  obtain ⟨v6, o6, l6, p6, e6⟩ := pick_at (d := d) (m := 5) (mi := 5) ha p5 (by omega) (by omega) (by omega) rfl
  have top : ∃ t : Nat, least ≤ t ∧ t ≤ 999 ∧ ∀ S, idx (.lst [.int least, .int 999, .int (least + v1), .int (least + v2)]) (.int v3) S = some (.ok (.int t) S) := by
    match v3, l3 with
    | 0, _ => exact ⟨least, by omega, by omega, fun S => idx_ln (j := 0) rfl⟩
    | 1, _ => exact ⟨999, by omega, by omega, fun S => idx_ln (j := 1) rfl⟩
    | 2, _ => exact ⟨least + v1, by omega, by omega, fun S => idx_ln (j := 2) rfl⟩
    | 3, _ => exact ⟨least + v2, by omega, by omega, fun S => idx_ln (j := 3) rfl⟩
  have bot : ∃ t : Nat, 0 < t ∧ t ≤ 999 ∧ ∀ S, idx (.lst [.int 1, .int 1, .int 999, .int (1 + v4), .int (1 + v5)]) (.int v6) S = some (.ok (.int t) S) := by
    match v6, l6 with
    | 0, _ => exact ⟨1, by omega, by omega, fun S => idx_ln (j := 0) rfl⟩
    | 1, _ => exact ⟨1, by omega, by omega, fun S => idx_ln (j := 1) rfl⟩
    | 2, _ => exact ⟨999, by omega, by omega, fun S => idx_ln (j := 2) rfl⟩
    | 3, _ => exact ⟨1 + v4, by omega, by omega, fun S => idx_ln (j := 3) rfl⟩
    | 4, _ => exact ⟨1 + v5, by omega, by omega, fun S => idx_ln (j := 4) rfl⟩
  obtain ⟨t, t0, t1, et⟩ := top
  obtain ⟨b, b0, b1, eb⟩ := bot
  refine ⟨(t / Nat.gcd t b, b / Nat.gcd t b), o6, low_fr b0 t1 b1, fun h => low_pos b0 (by omega), p6, ?_⟩
  subst hli
  rw [call_at (Fn := f__law_small) rfl rfl]
  simp [f__law_small, ev_var, alloc, e1, e2, e3, e4, e5, e6, et, eb, low_ok b0 (by omega : t ≤ 10000) (by omega : b ≤ 10000)]
  exact fin_len (by simp)
theorem below_fr {n : Nat} {f : Fr} : below n (frD f) = true := rfl
theorem below_ln {n : Nat} {l : Ln} : below n (lnD l) = true := rfl
theorem below_lns {n : Nat} : ∀ {ls : List Ln}, belows n (ls.map lnD) = true
  | [] => rfl
  | l :: ls => by simp [belows, below_ln, below_lns]
theorem below_cab {n : Nat} {c : Cab} : below n (cabD c) = true := by
  simp [cabD, below, belows, below_lns, below_fr]
theorem belowO_PS {n m : Nat} {o : Ob} (h : PS m o) : belowO n o = true := by
  obtain ⟨p0, p1, p2, rfl, _⟩ := h
  rfl
/-- all purses -/
def AP (S : Store) : Prop := ∀ o ∈ S, ∃ n, PS n o
theorem AP.set {n a : Nat} {o : Ob} (h : AP S) (p : PS n o) : AP (S.set a o) := fun x hx => by
  rcases List.mem_or_eq_of_mem_set hx with hx | rfl
  · exact h x hx
  · exact ⟨n, p⟩
theorem AP.push {n : Nat} {o : Ob} (h : AP S) (p : PS n o) : AP (S ++ [o]) := fun x hx => by
  rcases List.mem_append.mp hx with hx | hx
  · exact h x hx
  · rw [List.mem_singleton] at hx; subst hx; exact ⟨n, p⟩
theorem AP.below {k : Nat} (h : AP S) : ∀ o ∈ S, belowO k o = true := fun o ho => by
  obtain ⟨n, p⟩ := h o ho
  exact belowO_PS p
def cable_body : Ss := (.cons (.asg 4 (.idx (.lst false (.cons (.con (.int 1)) (.cons (.con (.int 999)) (.cons (.bin .add (.con (.int 1)) (.call 18 (.cons (.var 0) (.cons (.con (.int 9)) .nil)))) (.cons (.bin .add (.con (.int 1)) (.call 18 (.cons (.var 0) (.cons (.con (.int 999)) .nil)))) .nil))))) (.call 18 (.cons (.var 0) (.cons (.con (.int 4)) .nil))))) (.cons (.expr (.mut 0 (.var 2) (.cons (.tup (.cons (.var 4) (.cons (.call 23 (.cons (.var 0) (.cons (.con (.int 1)) .nil))) .nil))) .nil))) .nil))
theorem cable_ok {a : Nat} {o : Ob} {n many : Nat} (hS : AP S) (ha : a < S.length) (hp : PS n o) (hn : n ≤ 1000) (h0 : 1 ≤ many) (h1 : many ≤ 12) :
    ∃ (c : Cab) (o' : Ob), CabOk c ∧ PS (n + 200) o' ∧ call prog (d + 3) 24 [.ref a, .int many] (S.set a o) = some (.ok (cabD c) (S.set a o')) := by
  have hlen : ∀ o : Ob, (S.set a o).length = S.length := fun o => List.length_set
  -- the loop
  have loop := forE_inv (anc := prog.anc) (Φ := call prog (d + 2)) (tg := [3]) (one := true) (b := cable_body)
    (fun k ρ S' => ∃ (ls : List Ln) (o' : Ob) (x y : Option D), ρ = [some (.ref a), some (.int many), some (.ref S.length), x, y] ∧ S' = S.set a o' ++ [Ob.lst (ls.map lnD)] ∧ (∀ l ∈ ls, LnOk l) ∧ PS (n + 10 * k) o' ∧ ls.length = k)
    (rngL 0 many) 0 [some (.ref a), some (.int many), some (.ref S.length), none, none] (S.set a o ++ [Ob.lst []])
    ⟨[], o, none, none, rfl, rfl, fun l h => by simp at h, hp, rfl⟩ ?_
  · obtain ⟨ρ', S', ⟨ls, o', x, y, rfl, rfl, hl, hp', hlen'⟩, hloop⟩ := loop
    have hr : (rngL 0 many).length = many := by simp [rngL]
    rw [hr] at hlen' hp'
    obtain ⟨f, o2, f1, f2, p2, e2⟩ := small_ok (S := S ++ [Ob.lst (ls.map lnD)]) (d := d) (a := a) (least := 0) (li := 0) (by simp; omega) hp' (by omega) (by omega) rfl
    have hset : ∀ o : Ob, (S ++ [Ob.lst (ls.map lnD)]).set a o = S.set a o ++ [Ob.lst (ls.map lnD)] := fun o => List.set_append_left _ _ ha
    rw [hset, hset] at e2
    refine ⟨(ls, f), o2, ⟨by rw [hlen']; omega, by rw [hlen']; omega, hl, f1⟩, p2.mono (by omega), ?_⟩
    rw [call_at (Fn := f__law_cable) rfl rfl]
    have hrng : rngOk 0 many = true := by simp [rngOk]; omega
    have hv : view (S.set a o' ++ [Ob.lst (ls.map lnD)]) (.ref S.length) = .lst (ls.map lnD) := by
      refine view_ref ?_
      rw [List.getElem?_append_right (by rw [hlen]; exact Nat.le_refl _), hlen]
      simp
    have e2' : call prog (d + 2) 23 [.ref a, .int 0] (S.set a o' ++ [Ob.lst (ls.map lnD)]) = some (.ok (frD f) (S.set a o2 ++ [Ob.lst (ls.map lnD)])) := e2
    simp [f__law_cable, ev_var, alloc, hrng, hlen]
    simp only [cable_body] at hloop
    rw [hloop]
    simp [ev_var, blt, hv, e2']
    have hfin := fin_cut (S := S.set a o) (S' := S.set a o2 ++ [Ob.lst (ls.map lnD)]) (v := cabD (ls, f)) (w := cabD (ls, f)) (by simp) (by
      show (if below _ (cabD (ls, f)) = true then some (cabD (ls, f)) else none) = _
      rw [below_cab, if_pos rfl]) (fun ob hob => by
      rw [hlen, List.take_left' (by simp)] at hob
      exact (hS.set p2).below ob hob)
    rw [hlen, List.take_left' (by simp)] at hfin
    exact hfin
  · rintro j x ρ S' hx ⟨ls, o', y, z, rfl, rfl, hl, hp', hlen'⟩
    obtain ⟨rfl, hj⟩ := rngL_at hx
    have hj : j < 12 := by omega
    rw [Int.zero_add]
    have hset : ∀ o : Ob, (S ++ [Ob.lst (ls.map lnD)]).set a o = S.set a o ++ [Ob.lst (ls.map lnD)] := fun o => List.set_append_left _ _ ha
    have ha' : a < (S ++ [Ob.lst (ls.map lnD)]).length := by simp; omega
    obtain ⟨v1, o1, l1, p1, e1⟩ := pick_at (d := d + 1) (m := 9) (mi := 9) ha' hp' (by omega) (by omega) (by omega) rfl
    obtain ⟨v2, o2, l2, p2, e2⟩ := pick_at (d := d + 1) (m := 999) (mi := 999) ha' p1 (by omega) (by omega) (by omega) rfl
    obtain ⟨v3, o3, l3, p3, e3⟩ := pick_at (d := d + 1) (m := 4) (mi := 4) ha' p2 (by omega) (by omega) (by omega) rfl
    obtain ⟨f, o4, f1, f2, p4, e4⟩ := small_ok (d := d) (least := 1) (li := 1) ha' p3 (by omega) (by omega) rfl
    rw [hset, hset] at e1 e2 e3 e4
    have top : ∃ t : Nat, 1 ≤ t ∧ t ≤ 999 ∧ ∀ S, idx (.lst [.int 1, .int 999, .int (1 + v1), .int (1 + v2)]) (.int v3) S = some (.ok (.int t) S) := by
      match v3, l3 with
      | 0, _ => exact ⟨1, by omega, by omega, fun S => idx_ln (j := 0) rfl⟩
      | 1, _ => exact ⟨999, by omega, by omega, fun S => idx_ln (j := 1) rfl⟩
      | 2, _ => exact ⟨1 + v1, by omega, by omega, fun S => idx_ln (j := 2) rfl⟩
      | 3, _ => exact ⟨1 + v2, by omega, by omega, fun S => idx_ln (j := 3) rfl⟩
    obtain ⟨t, t0, t1, et⟩ := top
    have hg : ∀ o : Ob, (S.set a o ++ [Ob.lst (ls.map lnD)])[S.length]? = some (Ob.lst (ls.map lnD)) := fun o => by
      rw [List.getElem?_append_right (by rw [hlen]; exact Nat.le_refl _), hlen]
      simp
    have hw : ∀ (o : Ob) (q : Ob), (S.set a o ++ [Ob.lst (ls.map lnD)]).set S.length q = S.set a o ++ [q] := fun o q => by
      rw [List.set_append_right _ _ (by rw [hlen]; exact Nat.le_refl _), hlen]
      simp
    have hlim : ls.length < lim := by have : lim = 16777216 := rfl; omega
    refine ⟨_, _, _, rfl, ?_, ls ++ [(t, f)], o4, some (.int j), some (.int t), rfl, rfl, fun l h => ?_, p4.mono (by omega), by simp [hlen']⟩
    · simp [cable_body, ev_var, alloc, e1, e2, e3, et, e4, view, hg, isLst, mutate, hlim, hw, lnD]
    · rcases List.mem_append.mp h with h | h
      · exact hl l h
      · rw [List.mem_singleton] at h
        subst h
        exact ⟨t0, t1, f1, f2 (by omega)⟩
end
end k05
end Ev

set_option Elab.async false
set_option linter.all false
set_option maxRecDepth 100000
set_option maxHeartbeats 4000000
set_option exponentiation.threshold 500
namespace Ev
namespace k05
open PySem
section
variable {d : Nat} {S : Store}
theorem small64 {x : Int} (h0 : -1000000000000000000 ≤ x) (h : x ≤ 1000000000000000000) : x.natAbs < 2 ^ 400 := by
  have : x.natAbs < 2 ^ 64 := by omega
  exact Nat.lt_trans this (by decide)
def cell_body : Ss := (.cons (.asg 2 (.bin .mod (.bin .add (.bin .mul (.var 2) (.con (.int 20011))) (.var 3)) (.con (.int 1000000021)))) .nil)
theorem cell_ok {ns : List Int} {k : Nat} (hk : k ≤ 8) : ∃ c : Int, call prog (d + 1) 16 [.fz (ns.map .int), .int k] S = some (.ok (.int c) S) := by
  rw [call_at (Fn := f__law_cell) rfl rfl]
  by_cases h : k < ns.length
  · refine ⟨ns[k], ?_⟩
    have e : idx (.lst (ns.map .int)) (.int (k : Int)) = fun S => some (.ok (.int ns[k]) S) := funext fun S => idx_ln (by simp [h])
    have hi : (k : Int) < ns.length := by omega
    simp [f__law_cell, ev_var, blt, items, view, h, e]
  · have hi : ¬ (k : Int) < ns.length := by omega
    have loop := forE_inv (anc := prog.anc) (Φ := call prog d) (tg := [3]) (one := true) (b := cell_body)
      (fun _ ρ S' => ∃ (s : Int) (x : Option D), ρ = [some (.fz (ns.map .int)), some (.int k), some (.int s), x] ∧ 0 ≤ s ∧ s < 1000000021 ∧ S' = S)
      (cutL (ns.map .int) none (some 4)) 0 [some (.fz (ns.map .int)), some (.int k), some (.int (70001 * (k * k + 11 * k + 5) % 1000000021)), none] S
      ⟨_, _, rfl, Int.emod_nonneg _ (by decide), Int.emod_lt_of_pos _ (by decide), rfl⟩ ?_
    · obtain ⟨ρ', S', ⟨s, x, rfl, h0, h1, rfl⟩, hloop⟩ := loop
      refine ⟨s, ?_⟩
      have hkk : (k : Int) * k ≤ 64 := by
        have : (k : Int) ≤ 8 := by omega
        have := Int.mul_le_mul this this (by omega) (by decide)
        omega
      have hk0 : 0 ≤ (k : Int) * k := Int.mul_nonneg (by omega) (by omega)
      have m1 : mulOk (k : Int) k = true := mulOk_of (small64 (by omega) (by omega)) (small64 (by omega) (by omega))
      have m2 : mulOk 11 (k : Int) = true := mulOk_of (by decide) (small64 (by omega) (by omega))
      have m3 : mulOk 70001 ((k : Int) * k + 11 * k + 5) = true := mulOk_of (by decide) (small64 (by omega) (by omega))
      simp only [cell_body] at hloop
      simp [f__law_cell, ev_var, blt, items, view, h, hi, bin_mul m1, bin_mul m2, bin_mul m3, bin_mod, part, okPart, slc, hloop]
    · rintro j x ρ S' hx ⟨s, y, rfl, h0, h1, rfl⟩
      have hm : x ∈ ns.map D.int := by
        have := List.mem_of_getElem? hx
        exact List.mem_of_mem_drop (List.mem_of_mem_take this)
      obtain ⟨n, _, rfl⟩ := List.mem_map.mp hm
      have m1 : mulOk s 20011 = true := mulOk_of (small64 (by omega) (by omega)) (by decide)
      refine ⟨_, _, _, rfl, ?_, (s * 20011 + n) % 1000000021, some (.int n), rfl, Int.emod_nonneg _ (by decide), Int.emod_lt_of_pos _ (by decide), rfl⟩
      simp [cell_body, ev_var, bin_mul m1, bin_mod]
/-! ### texts -/
def frT (f : Fr) : List Nat := if f.2 = 1 then TL.numL f.1 else TL.numL f.1 ++ (47 :: TL.numL f.2)
def lnT (l : Ln) : List Nat := TL.numL l.1 ++ ([32, 120, 32] ++ frT l.2)
def bkT (f : Fr) : List Nat := [98, 97, 99, 107, 32] ++ frT f
def rowsT (c : Cab) : List (List Nat) := bkT c.2 :: c.1.map lnT
def cabT (c : Cab) : List Nat := TL.joinL [10] (rowsT c)
theorem num_len {n : Nat} (h : n ≤ 999) : (TL.numL n).length ≤ 3 := TL.numL_len (by decide) (by omega)
theorem intL_nat {n : Nat} : intL (n : Int) = TL.numL n := TL.tl_num n
theorem str_ok {n : Nat} (h : n ≤ 999) : blt .str [.int (n : Int)] S = some (.ok (.str (TL.numL n)) S) := by
  have h1 : (n : Int).natAbs.log2 < 1920 := by
    have : (n : Int).natAbs = n := by simp
    rw [this]
    rcases log2_lt (n := n) (k := 10) (by omega) with h | h
    · omega
    · subst h; decide
  have h2 : (intL (n : Int)).length ≤ lim := by
    rw [intL_nat]
    have := num_len h
    have : lim = 16777216 := rfl
    omega
  show ((if (n : Int).natAbs.log2 < 1920 ∧ (intL (n : Int)).length ≤ lim then some (.ok (.str (intL n)) S) else none) : Out D) = _
  rw [if_pos ⟨h1, h2⟩, intL_nat]
theorem limE : lim = 16777216 := rfl
theorem frT_len {f : Fr} (h : FrOk f) : (frT f).length ≤ 7 := by
  have := num_len h.t
  have := num_len h.b
  unfold frT
  split
  · omega
  · simp; omega
theorem lnT_len {l : Ln} (h : LnOk l) : (lnT l).length ≤ 13 := by
  have := num_len h.s1
  have := frT_len h.fr
  simp [lnT]; omega
theorem show_fraction_ok {f : Fr} (h : FrOk f) : call prog (d + 1) 9 [frD f] S = some (.ok (.str (frT f)) S) := by
  rw [call_at (Fn := f_show_fraction) rfl rfl]
  have l1 := num_len h.t
  have l2 := num_len h.b
  have s1 := fun S => str_ok (S := S) h.t
  have s2 := fun S => str_ok (S := S) h.b
  have b1 : ∀ S, bin .add (.str (TL.numL f.1)) (.str [47]) S = some (.ok (.str (TL.numL f.1 ++ [47])) S) := fun S => bin_adds (by rw [limE]; simp; omega)
  have b2 : ∀ S, bin .add (.str (TL.numL f.1 ++ [47])) (.str (TL.numL f.2)) S = some (.ok (.str (TL.numL f.1 ++ [47] ++ TL.numL f.2)) S) := fun S => bin_adds (by rw [limE]; simp; omega)
  by_cases hb : f.2 = 1
  · have hb' : (f.2 : Int) = 1 := by omega
    simp [f_show_fraction, frD, ev_var, hb, s1, frT]
  · have hb' : ¬ (f.2 : Int) = 1 := by omega
    simp [f_show_fraction, frD, ev_var, hb, hb', s1, s2, b1, b2, frT]
theorem law_fraction_ok {f : Fr} (h : FrOk f) : call prog (d + 1) 21 [frD f] S = some (.ok (.str (frT f)) S) := by
  rw [call_at (Fn := f__law_fraction_text) rfl rfl]
  have l1 := num_len h.t
  have l2 := num_len h.b
  have s1 := fun S => str_ok (S := S) h.t
  have s2 := fun S => str_ok (S := S) h.b
  have b1 : ∀ S, bin .add (.str [47]) (.str (TL.numL f.2)) S = some (.ok (.str ([47] ++ TL.numL f.2)) S) := fun S => bin_adds (by rw [limE]; simp; omega)
  have b2 : ∀ S, bin .add (.str (TL.numL f.1)) (.str ([47] ++ TL.numL f.2)) S = some (.ok (.str (TL.numL f.1 ++ ([47] ++ TL.numL f.2))) S) := fun S => bin_adds (by rw [limE]; simp; omega)
  have b3 : ∀ S, bin .add (.str (TL.numL f.1)) (.str []) S = some (.ok (.str (TL.numL f.1 ++ [])) S) := fun S => bin_adds (by rw [limE]; simp; omega)
  by_cases hb : f.2 = 1
  · have hb' : (f.2 : Int) = 1 := by omega
    have bi : ∀ S, blt .int [.bl true] S = some (.ok (.int 1) S) := fun S => rfl
    simp only [List.append_nil] at b3
    rw [hb] at s2 b1
    simp at s2 b1
    simp [f__law_fraction_text, frD, ev_var, hb, s1, s2, frT, b1, b3, alloc, bi]
  · have hb' : ¬ (f.2 : Int) = 1 := by omega
    have bi : ∀ S, blt .int [.bl false] S = some (.ok (.int 0) S) := fun S => rfl
    simp at b1 b2
    simp [f__law_fraction_text, frD, ev_var, hb, hb', s1, s2, b1, b2, frT, alloc, bi]
end
end k05
end Ev

set_option Elab.async false
set_option linter.all false
set_option maxRecDepth 100000
set_option maxHeartbeats 4000000
set_option exponentiation.threshold 500
namespace Ev
theorem strsD_map : ∀ (ys : List (List Nat)), strsD (ys.map .str) = some ys
  | [] => rfl
  | y :: ys => by simp [strsD, strsD_map ys]
theorem sum_len {k : Nat} : ∀ {ys : List (List Nat)}, (∀ y ∈ ys, y.length ≤ k) → (ys.map (·.length)).sum ≤ k * ys.length
  | [], _ => by simp
  | y :: ys, h => by
    have h1 := h y (by simp)
    have h2 := sum_len (ys := ys) fun y hy => h y (by simp [hy])
    simp only [List.map_cons, List.sum_cons, List.length_cons, Nat.mul_add, Nat.mul_one]
    omega
theorem join_ok {S : Store} {k : Nat} {a : List Nat} {ys : List (List Nat)} {d : D} (hi : items S d = some (ys.map .str)) (hl : ∀ y ∈ ys, y.length ≤ k) (h : k * ys.length + ys.length * a.length ≤ lim) : mth .join (.str a) [d] S = some (.ok (.str (TL.joinL a ys)) S) := by
  simp only [mth, hi, strsD_map, Option.bind_some]
  rw [if_pos]
  have := sum_len hl
  omega
namespace k05
open PySem
section
variable {d : Nat} {S : Store}
theorem bkT_len {f : Fr} (h : FrOk f) : (bkT f).length ≤ 13 := by
  have := frT_len h
  simp [bkT]; omega
theorem rowsT_len {c : Cab} (h : CabOk c) : ∀ y ∈ rowsT c, y.length ≤ 13 := by
  intro y hy
  rcases List.mem_cons.mp hy with rfl | hy
  · exact bkT_len h.bk
  · obtain ⟨l, hl, rfl⟩ := List.mem_map.mp hy
    exact lnT_len (h.ln l hl)
theorem back_add {f : Fr} (h : FrOk f) : bin .add (.str [98, 97, 99, 107, 32]) (.str (frT f)) S = some (.ok (.str (bkT f)) S) := bin_adds (by
  have := frT_len h
  rw [limE]; simp; omega)
theorem ln_add1 {l : Ln} (h : LnOk l) : bin .add (.str (TL.numL l.1)) (.str [32, 120, 32]) S = some (.ok (.str (TL.numL l.1 ++ [32, 120, 32])) S) := bin_adds (by
  have := num_len h.s1
  rw [limE]; simp; omega)
theorem ln_add2 {l : Ln} (h : LnOk l) : bin .add (.str (TL.numL l.1 ++ [32, 120, 32])) (.str (frT l.2)) S = some (.ok (.str (lnT l)) S) := by
  have h1 := num_len h.s1
  have h2 := frT_len h.fr
  rw [bin_adds (by rw [limE]; simp; omega)]
  simp [lnT]
theorem show_cable_ok {c : Cab} (h : CabOk c) : call prog (d + 7) 10 [cabD c] S = some (.ok (.str (cabT c)) S) := by
  rw [call_at (Fn := f_show_cable) rfl rfl]
  have hc := fun ρ0 : Option D => compE_map (anc := prog.anc) (Φ := call prog (d + 6)) (S := S) (ρ := [some (cabD c), ρ0, none, none]) (tg := [2, 3])
    (elt := .bin .add (.bin .add (.blt .str (.cons (.var 2) .nil)) (.con (.str [32, 120, 32]))) (.call 9 (.cons (.var 3) .nil))) (g := fun x => match x with | .tup [.int s, .tup [.int t, .int b]] => .str (lnT (s.toNat, t.toNat, b.toNat)) | _ => .non) (xs := c.1.map lnD) fun x hx => by
      obtain ⟨l, hl, rfl⟩ := List.mem_map.mp hx
      have hl' := h.ln l hl
      refine ⟨[some (cabD c), ρ0, some (.int l.1), some (frD l.2)], rfl, ?_⟩
      simp [ev_var, str_ok hl'.s1, ln_add1 hl', show_fraction_ok hl'.fr, ln_add2 hl', lnD]
      simp [frD]
  have hm : (List.map (fun x => match x with | D.tup [.int s, .tup [.int t, .int b]] => D.str (lnT (s.toNat, t.toNat, b.toNat)) | _ => .non) (c.1.map lnD)) = (c.1.map lnT).map .str := by
    simp [lnD, frD]
  rw [hm] at hc
  have hv : ∀ x y z : Option D, ev prog.anc (call prog (d + 6)) (.var 0) [some (cabD c), x, y, z] S = some (.ok (.tup [.tup (c.1.map lnD), frD c.2]) S) := fun _ _ _ => ev_var rfl
  have hlen : (c.1.map lnT).length ≤ 12 := by rw [List.length_map]; exact h.n1
  have ha : bin .add (.lst [.str (bkT c.2)]) (.lst ((c.1.map lnT).map .str)) S = some (.ok (.lst ((rowsT c).map .str)) S) := bin_addl (by
    rw [limE]; simp at hlen ⊢; omega)
  have hj : mth .join (.str [10]) [.lst ((rowsT c).map .str)] S = some (.ok (.str (cabT c)) S) := join_ok (k := 13) rfl (rowsT_len h) (by
    have := h.n1
    rw [limE]; simp [rowsT]; omega)
  have h8 : call prog (d + 6) 8 [.tup [.tup (c.1.map lnD), frD c.2]] S = some (.ok .non S) := check_cable_ok h
  simp only [List.map_map] at ha hj hc
  have hv1 : ∀ (v : D) (y z : Option D), ev prog.anc (call prog (d + 6)) (.var 1) [some (cabD c), some v, y, z] S = some (.ok v S) := fun _ _ _ => ev_var rfl
  simp [f_show_cable, hv, hv1, h8, show_fraction_ok h.bk, back_add h.bk, alloc, hc, ha, hj, mthOk, isStr]
def text_body : Ss := (.cons (.expr (.mut 0 (.var 1) (.cons (.bin .add (.bin .add (.blt .str (.cons (.var 2) .nil)) (.con (.str [32, 120, 32]))) (.call 21 (.cons (.var 3) .nil))) .nil))) .nil)
theorem law_text_ok {c : Cab} (hS : AP S) (h : CabOk c) : call prog (d + 2) 22 [cabD c] S = some (.ok (.str (cabT c)) S) := by
  rw [call_at (Fn := f__law_text) rfl rfl]
  have hv : ∀ (x y z : Option D) (S : Store), ev prog.anc (call prog (d + 1)) (.var 0) [some (cabD c), x, y, z] S = some (.ok (.tup [.tup (c.1.map lnD), frD c.2]) S) := fun _ _ _ _ => ev_var rfl
  have loop := forE_inv (anc := prog.anc) (Φ := call prog (d + 1)) (tg := [2, 3]) (one := false) (b := text_body)
    (fun k ρ S' => ∃ x y : Option D, ρ = [some (cabD c), some (.ref S.length), x, y] ∧ S' = S ++ [Ob.lst ((bkT c.2 :: (c.1.take k).map lnT).map .str)])
    (c.1.map lnD) 0 [some (cabD c), some (.ref S.length), none, none] (S ++ [Ob.lst [.str (bkT c.2)]]) ⟨none, none, rfl, rfl⟩ ?_
  · obtain ⟨ρ', S', ⟨x, y, rfl, rfl⟩, hloop⟩ := loop
    rw [List.length_map, Nat.zero_add, List.take_length] at hloop
    simp only [text_body] at hloop
    have hi : items (S ++ [Ob.lst ((bkT c.2 :: c.1.map lnT).map .str)]) (.ref S.length) = some ((rowsT c).map .str) := by
      unfold items
      rw [view_ref (xs := (rowsT c).map .str)]
      rw [List.getElem?_append_right (Nat.le_refl _)]
      simp [rowsT]
    have hj := join_ok (k := 13) (a := [10]) hi (rowsT_len h) (by
      have := h.n1
      rw [limE]; simp [rowsT]; omega)
    have hfin := fin_cut (S := S) (S' := S ++ [Ob.lst ((bkT c.2 :: c.1.map lnT).map .str)]) (v := .str (cabT c)) (w := .str (cabT c)) (by simp) rfl (fun ob hob => by
      rw [List.take_left' rfl] at hob
      exact hS.below ob hob)
    rw [List.take_left' rfl] at hfin
    have hv1 : ev prog.anc (call prog (d + 1)) (.var 1) [some (cabD c), some (.ref S.length), x, y] (S ++ [Ob.lst ((bkT c.2 :: c.1.map lnT).map .str)]) = some (.ok (.ref S.length) _) := ev_var rfl
    have hj' : mth .join (.str [10]) [.ref S.length] (S ++ [Ob.lst ((bkT c.2 :: c.1.map lnT).map .str)]) = some (.ok (.str (cabT c)) (S ++ [Ob.lst ((bkT c.2 :: c.1.map lnT).map .str)])) := hj
    simp only [f__law_text, List.map_cons, List.map_nil, List.replicate, List.cons_append, List.nil_append, exs_cons, exs_nil, ex_asg, ev_lst, evs_cons, evs_nil, ev_bin, ev_con, ev_call, ev_idx, hv, bnd_ok, view_tup, idx_t1, idx_t0, law_fraction_ok h.bk, back_add h.bk, alloc, if_true, bndS_ok, seqF_nx, List.set_cons_succ, List.set_cons_zero, ex_for, evi_seq, hloop, ex_ret, ev_mth, mthOk, isStr, view_str, seqF_rt]
    simp only [List.map_cons] at hv1 hj' hfin
    simp only [hv1, hj', bnd_ok, bndS_ok, seqF_rt]
    exact hfin
  · rintro j x ρ S' hx ⟨y, z, rfl, rfl⟩
    rw [List.getElem?_map] at hx
    cases e : c.1[j]? with
    | none => rw [e] at hx; cases hx
    | some l =>
      rw [e] at hx
      cases hx
      have hl := h.ln l (List.mem_of_getElem? e)
      have hj : j < c.1.length := (List.getElem?_eq_some_iff.mp e).1
      refine ⟨_, _, _, rfl, ?_, some (.int l.1), some (frD l.2), rfl, rfl⟩
      have hg : (S ++ [Ob.lst ((bkT c.2 :: (c.1.take j).map lnT).map .str)])[S.length]? = some (Ob.lst ((bkT c.2 :: (c.1.take j).map lnT).map .str)) := by
        rw [List.getElem?_append_right (Nat.le_refl _)]; simp
      have hw : ∀ q : Ob, (S ++ [Ob.lst ((bkT c.2 :: (c.1.take j).map lnT).map .str)]).set S.length q = S ++ [q] := fun q => by
        rw [List.set_append_right _ _ (Nat.le_refl _)]; simp
      have ht : (bkT c.2 :: (c.1.take (j + 1)).map lnT).map D.str = (bkT c.2 :: (c.1.take j).map lnT).map D.str ++ [.str (lnT l)] := by
        rw [List.take_succ, e]; simp
      have hlim : ((bkT c.2 :: (c.1.take j).map lnT).map D.str).length < lim := by
        have := h.n1
        rw [limE]; simp; omega
      rw [Nat.zero_add] at *
      rw [ht]
      generalize hq : (bkT c.2 :: (c.1.take j).map lnT).map D.str = q at *
      simp [text_body, ev_var, str_ok hl.s1, ln_add1 hl, law_fraction_ok hl.fr, ln_add2 hl, view, hg, isLst, mutate, hlim, hw]
end
end k05
end Ev

set_option Elab.async false
set_option linter.all false
set_option maxRecDepth 100000
set_option maxHeartbeats 4000000
set_option exponentiation.threshold 500
namespace Ev
section
variable {S : Store}
@[simp] theorem cmp_isN_tup {xs : List D} : cmp .isN (.tup xs) .non = some false := rfl
@[simp] theorem cmp_isN_int {i : Int} : cmp .isN (.int i) .non = some false := rfl
@[simp] theorem cmp_isN_non : cmp .isN .non .non = some true := rfl
@[simp] theorem blt_len_str {x : List Nat} : blt .len [.str x] S = some (.ok (.int x.length) S) := rfl
@[simp] theorem blt_len_lst {x : List D} : blt .len [.lst x] S = some (.ok (.int x.length) S) := rfl
@[simp] theorem blt_len_tup {x : List D} : blt .len [.tup x] S = some (.ok (.int x.length) S) := rfl
@[simp] theorem blt_len_fz {x : List D} : blt .len [.fz x] S = some (.ok (.int x.length) S) := rfl
theorem asc_shp {x : List Nat} (h : ∀ c ∈ x, c < 128) : shp 60 (.str x) = true := by
  show x.all (· < 1114112) = true
  rw [List.all_eq_true]
  intro c hc
  have := h c hc
  exact decide_eq_true (by omega)
theorem cmp_eqs {x y : List Nat} (hx : ∀ c ∈ x, c < 128) (hy : ∀ c ∈ y, c < 128) : cmp .eq (.str x) (.str y) = some (x == y) := cmp_eq (asc_shp hx) (asc_shp hy)
theorem cmp_nes {x y : List Nat} (hx : ∀ c ∈ x, c < 128) (hy : ∀ c ∈ y, c < 128) : cmp .ne (.str x) (.str y) = some (!(x == y)) := cmp_ne (asc_shp hx) (asc_shp hy)
@[simp] theorem idx_s0 {c : Nat} {x : List Nat} : idx (.str (c :: x)) (.int 0) S = some (.ok (.str [c]) S) := by simp [idx, L2.atI, L2.ixN]
theorem split_ok {a : List Nat} {s : Nat} {parts : List (List Nat)} (hs : s < 256) (e : TL.joinL [s] parts = a) (hne : parts ≠ []) (hp : ∀ p ∈ parts, s ∉ p) (hl : a.length + 2 ≤ lim) : mth .split (.str a) [.str [s]] S = some (.ok (.lst (parts.map .str)) S) := by
  have hlat : latin [s] = true := by simp [latin, hs]
  simp only [mth, hlat, Bool.true_and, decide_eq_true hl, if_true]
  rw [← e, TL.spl_join hne hp]
theorem cutL1 {α : Type} {x : α} {xs : List α} : cutL (x :: xs) (some 1) none = xs := by
  have h1 : HT.sIx (x :: xs).length 0 (some 1) = 1 := by simp [HT.sIx]
  have h2 : HT.sIx (x :: xs).length (x :: xs).length none = xs.length + 1 := by simp [HT.sIx]
  unfold cutL
  rw [h1, h2]
  simp
theorem enumL_at : ∀ {xs : List D} {k j : Nat} {y : D}, (enumL k xs)[j]? = some y → ∃ x, xs[j]? = some x ∧ y = .tup [.int ((k + j : Nat) : Int), x]
  | [], _, _, _, h => by simp [enumL] at h
  | x :: xs, k, 0, y, h => by simp [enumL] at h; exact ⟨x, rfl, h.symm⟩
  | x :: xs, k, j + 1, y, h => by
    simp [enumL] at h
    obtain ⟨z, h1, h2⟩ := enumL_at h
    exact ⟨z, by simpa using h1, by rw [h2, show k + 1 + j = k + (j + 1) by omega]⟩
theorem enumL_sz : ∀ {xs : List D} {k : Nat}, (enumL k xs).length = xs.length
  | [], _ => rfl
  | _ :: xs, k => by simp [enumL, enumL_sz]
end
namespace k05
open PySem
section
variable {d : Nat} {S : Store}
theorem num_asc {n : Nat} : ∀ c ∈ TL.numL n, c < 128 := fun c hc => by
  have := TL.numL_digits n c hc
  exact Nat.lt_of_le_of_lt this.2 (by decide)
theorem num_zero : ∀ n : _root_.Fin 1000, (TL.numL n.val).head? = some 48 → n.val = 0 := by decide +kernel
theorem boolsD_true {n : Nat} : blt .all [.lst (List.replicate n (.bl true))] S = some (.ok (.bl true) S) := by
  simp [blt, boolsD_all]
theorem int_ok {n : Nat} (h : n ≤ 999) : blt .int [.str (TL.numL n)] S = some (.ok (.int n) S) := by
  have hl := num_len h
  have e : (⟨(TL.numL n).toArray⟩ : Str) = Str.ofString (toString ((n : Nat) : Int)) := by
    apply TL.ext_tl
    rw [TL.tl_num]
  have : intOf (TL.numL n) = some (n : Int) := by
    unfold intOf
    rw [if_pos (by omega), e, TL.int_num (by omega)]
  simp only [blt, this, Option.map_some]
theorem number_in_ok {n : Nat} (h : n ≤ 999) : call prog (d + 1) 11 [.str (TL.numL n), .int 3] S = some (.ok (.int n) S) := by
  rw [call_at (Fn := f_number_in) rfl rfl]
  have hl := num_len h
  have hne := TL.numL_ne n
  have hpos : 1 ≤ (TL.numL n).length := List.length_pos_iff.mpr hne
  have h1 : (1 : Int) ≤ (TL.numL n).length := by omega
  have h2 : ((TL.numL n).length : Int) ≤ 3 := by omega
  have hc := compE_map (anc := prog.anc) (Φ := call prog d) (S := S) (ρ := [some (.str (TL.numL n)), some (.int 3), none]) (tg := [2])
    (elt := .cmp .isin (.var 2) (.con (.str [48, 49, 50, 51, 52, 53, 54, 55, 56, 57]))) (g := fun _ => .bl true) (xs := (TL.numL n).map fun c => .str [c]) fun x hx => by
      obtain ⟨c, hc, rfl⟩ := List.mem_map.mp hx
      refine ⟨_, rfl, ?_⟩
      have hd := TL.numL_digits n c hc
      have : c ∈ [48, 49, 50, 51, 52, 53, 54, 55, 56, 57] := by simp; omega
      have e : cmp .isin (.str [c]) (.str [48, 49, 50, 51, 52, 53, 54, 55, 56, 57]) = some true := by
        show some (decide _) = _
        rw [decide_eq_true this]
      simp [ev_var, e]
  rw [const_map, List.length_map] at hc
  cases hq : TL.numL n with
  | nil => exact absurd hq hne
  | cons c r =>
    have hasc : ∀ y ∈ c :: r, y < 128 := hq ▸ num_asc
    have e1 : cmp .eq (.str [c]) (.str [48]) = some ([c] == [48]) := cmp_eqs (fun y hy => hasc y (by simp at hy; simp [hy])) (by decide)
    have e2 : cmp .ne (.str (c :: r)) (.str [48]) = some (!((c :: r) == [48])) := cmp_nes hasc (by decide)
    have e3 := fun S => int_ok (S := S) h
    rw [hq] at hc e3 h1 h2 hpos hl
    have e4 : ([c] == [48]) = true → (!((c :: r) == [48])) = false := fun he => by
      have hc48 : c = 48 := by simpa using he
      have := num_zero ⟨n, by omega⟩ (by rw [hq, hc48]; rfl)
      have hn : n = 0 := this
      subst hn
      have : TL.numL 0 = [48] := by decide +kernel
      rw [this] at hq
      cases hq
      rfl
    simp only [List.length_cons, List.map_cons] at hc
    have h1 : (1 : Int) ≤ (r.length : Int) + 1 := by omega
    have h2 : (r.length : Int) + 1 ≤ 3 := by simp at hl; omega
    have h3 : blt .all [.lst (.bl true :: List.replicate r.length (.bl true))] S = some (.ok (.bl true) S) := boolsD_true (n := r.length + 1)
    cases hb : ([c] == [48]) with
    | false => simp [f_number_in, ev_var, h1, h2, hc, alloc, List.replicate_succ, h3, e1, e2, hb, e3]
    | true =>
      have e5 := e4 hb
      rw [e5] at e2
      simp [f_number_in, ev_var, h1, h2, hc, alloc, List.replicate_succ, h3, e1, e2, hb, e3]
theorem frT_asc {f : Fr} : ∀ c ∈ frT f, c < 128 := by
  intro c hc
  unfold frT at hc
  split at hc
  · exact num_asc c hc
  · simp at hc
    rcases hc with hc | rfl | hc
    · exact num_asc c hc
    · decide
    · exact num_asc c hc
theorem frT_free {f : Fr} {s : Nat} (h : s < 47) : s ∉ frT f := by
  intro hc
  unfold frT at hc
  split at hc
  · exact TL.numL_free (by omega) hc
  · simp at hc
    rcases hc with hc | hc | hc
    · exact TL.numL_free (by omega) hc
    · omega
    · exact TL.numL_free (by omega) hc
theorem fraction_in_ok {f : Fr} (h : FrOk f) : call prog (d + 4) 12 [.str (frT f), .int 3] S = some (.ok (frD f) S) := by
  rw [call_at (Fn := f_fraction_in) rfl rfl]
  have hz := fun S => is_from_zero_ok (d := d) (S := S) h
  have n1 := fun S => number_in_ok (d := d + 2) (S := S) h.t
  have n2 := fun S => number_in_ok (d := d + 2) (S := S) h.b
  have hlat : latin [47] = true := by decide
  have e0 : cmp .ne (.str []) (.str []) = some false := by rw [cmp_nes (by simp) (by simp)]; rfl
  have e1 : cmp .ne (.str [47]) (.str []) = some true := by rw [cmp_nes (by decide) (by simp)]; rfl
  simp only [frD] at hz
  by_cases hb : f.2 = 1
  · have ht : frT f = TL.numL f.1 := by rw [frT, if_pos hb]
    have hp : mth .partition (.str (TL.numL f.1)) [.str [47]] S = some (.ok (.tup [.str (TL.numL f.1), .str [], .str []]) S) := by
      simp only [mth, hlat, if_true]
      rw [TL.par_none1 (TL.numL_free (by decide))]
    rw [ht]
    rw [hb] at hz
    have hz : ∀ S, call prog (d + 3) 3 [.tup [.int f.1, .int 1]] S = some (.ok (.bl true) S) := hz
    simp [f_fraction_in, ev_var, mthOk, isStr, hp, setTg, n1, e0, hz, frD, hb]
  · have ht : frT f = TL.numL f.1 ++ ([47] ++ TL.numL f.2) := by rw [frT, if_neg hb]; rfl
    have hp : mth .partition (.str (frT f)) [.str [47]] S = some (.ok (.tup [.str (TL.numL f.1), .str [47], .str (TL.numL f.2)]) S) := by
      simp only [mth, hlat, if_true]
      rw [ht, TL.par_part1 (TL.numL_free (by decide))]
      simp
    have h2 : ¬ ((f.2 : Int) < 2) := by have := h.pos; omega
    simp [f_fraction_in, ev_var, mthOk, isStr, hp, setTg, n1, n2, e1, hz, frD, h2]
theorem back_in_ok {f : Fr} (h : FrOk f) : call prog (d + 5) 13 [.str (bkT f)] S = some (.ok (frD f) S) := by
  rw [call_at (Fn := f_back_in) rfl rfl]
  have hf := fun S => fraction_in_ok (d := d) (S := S) h
  have hs := fun S => is_small_ok (d := d + 3) (S := S) h
  have hsp : mth .split (.str (bkT f)) [.str [32]] S = some (.ok (.lst [.str [98, 97, 99, 107], .str (frT f)]) S) :=
    split_ok (parts := [[98, 97, 99, 107], frT f]) (by decide) rfl (by simp) (by simp [frT_free]) (by have := bkT_len h; rw [limE]; omega)
  have e1 : cmp .ne (.str [98, 97, 99, 107]) (.str [98, 97, 99, 107]) = some false := by rw [cmp_nes (by decide) (by decide)]; rfl
  simp only [frD] at hf hs
  simp [f_back_in, ev_var, mthOk, isStr, hsp, e1, hf, hs, frD]
theorem length_in_ok {l : Ln} (h : LnOk l) : call prog (d + 5) 14 [.str (lnT l)] S = some (.ok (lnD l) S) := by
  rw [call_at (Fn := f_length_in) rfl rfl]
  have hf := fun S => fraction_in_ok (d := d) (S := S) h.fr
  have hn := fun S => number_in_ok (d := d + 3) (S := S) h.s1
  have hs := fun S => is_length_ok (d := d) (S := S) h
  have hsp : mth .split (.str (lnT l)) [.str [32]] S = some (.ok (.lst [.str (TL.numL l.1), .str [120], .str (frT l.2)]) S) :=
    split_ok (parts := [TL.numL l.1, [120], frT l.2]) (by decide) rfl (by simp) (by simp [frT_free, TL.numL_free]) (by have := lnT_len h; rw [limE]; omega)
  have e1 : cmp .ne (.str [120]) (.str [120]) = some false := by rw [cmp_nes (by decide) (by decide)]; rfl
  simp only [lnD] at hs
  simp [f_length_in, ev_var, mthOk, isStr, hsp, e1, hf, hn, hs, lnD]
end
end k05
end Ev

set_option Elab.async false
set_option linter.all false
set_option maxRecDepth 100000
set_option maxHeartbeats 4000000
set_option exponentiation.threshold 500
namespace Ev
mutual
theorem eqD_refl : ∀ (k : Nat) (d : D), shp k d = true → eqD d d = true
  | _, .non, _ => rfl
  | _, .bl _, _ => by simp [eqD]
  | _, .int _, _ => by simp [eqD]
  | _, .str _, _ => by simp [eqD]
  | 0, .lst _, h => by simp [shp] at h
  | 0, .tup _, h => by simp [shp] at h
  | k + 1, .lst xs, h => by
    simp only [shp] at h
    simp only [eqD]
    exact eqDs_refl k xs h
  | k + 1, .tup xs, h => by
    simp only [shp] at h
    simp only [eqD]
    exact eqDs_refl k xs h
  | _, .fz _, h => by simp [shp] at h
  | _, .dct _ _, h => by simp [shp] at h
  | _, .ref _, h => by simp [shp] at h
  | _, .exn _ _, h => by simp [shp] at h
theorem eqDs_refl : ∀ (k : Nat) (ds : List D), shps k ds = true → eqDs ds ds = true
  | _, [], _ => rfl
  | k, d :: ds, h => by
    simp only [shps, Bool.and_eq_true] at h
    simp only [eqDs, Bool.and_eq_true]
    exact ⟨eqD_refl k d h.1, eqDs_refl k ds h.2⟩
end
namespace k05
open PySem
section
variable {d : Nat} {S : Store}
theorem shp_fr {k : Nat} {f : Fr} : shp (k + 1) (frD f) = true := by simp [frD, shp, shps]
theorem shp_ln {k : Nat} {l : Ln} : shp (k + 2) (lnD l) = true := by simp [lnD, shp, shps, shp_fr]
theorem shp_lns {k : Nat} : ∀ {ls : List Ln}, shps (k + 2) (ls.map lnD) = true
  | [] => rfl
  | l :: ls => by simp [shps, shp_ln, shp_lns]
theorem shp_cab {k : Nat} {c : Cab} : shp (k + 4) (cabD c) = true := by simp [cabD, shp, shps, shp_fr, shp_lns]
theorem rowsT_free {c : Cab} : ∀ y ∈ rowsT c, 10 ∉ y := by
  intro y hy
  rcases List.mem_cons.mp hy with rfl | hy
  · simp [bkT, frT_free]
  · obtain ⟨l, hl, rfl⟩ := List.mem_map.mp hy
    simp [lnT, frT_free, TL.numL_free]
theorem join_len {a : Nat} {k : Nat} : ∀ {ys : List (List Nat)}, (∀ y ∈ ys, y.length ≤ k) → (TL.joinL [a] ys).length ≤ (k + 1) * ys.length
  | [], _ => by simp [TL.joinL]
  | [y], h => by
    have := h y (by simp)
    simp [TL.joinL]; omega
  | y :: z :: ys, h => by
    have h1 := h y (by simp)
    have h2 := join_len (a := a) (ys := z :: ys) fun y hy => h y (by simp [hy])
    simp only [TL.joinL, List.length_append, List.length_cons, List.length_nil, Nat.mul_add, Nat.mul_one] at h2 ⊢
    omega
theorem cabT_len {c : Cab} (h : CabOk c) : (cabT c).length ≤ 200 := by
  have h1 := join_len (a := 10) (rowsT_len h)
  have h2 := h.n1
  have h3 : (rowsT c).length = c.1.length + 1 := by simp [rowsT]
  rw [h3] at h1
  unfold cabT
  omega
theorem rows_back {c : Cab} : TL.spl [10] 0 [] (cabT c) = rowsT c := TL.spl_join (by simp [rowsT]) rowsT_free
theorem split_cab {c : Cab} (h : CabOk c) : mth .split (.str (cabT c)) [.str [10]] S = some (.ok (.lst (.str (bkT c.2) :: (c.1.map lnT).map .str)) S) :=
  split_ok (parts := rowsT c) (by decide) rfl (by simp [rowsT]) rowsT_free (by have := cabT_len h; rw [limE]; omega)
def read_body : Ss := (.cons (.asg 6 (.call 14 (.cons (.var 5) .nil))) (.cons (.ife (.or (.cmp .isN (.var 6) (.con .non)) (.cmp .eq (.var 4) (.con (.int 12)))) (.cons .never .nil) .nil) (.cons (.asg 3 (.bin .add (.var 3) (.tup (.cons (.var 6) .nil)))) .nil)))
theorem read_cable_ok {c : Cab} (h : CabOk c) : call prog (d + 6) 15 [.str (cabT c)] S = some (.ok (cabD c) S) := by
  rw [call_at (Fn := f_read_cable) rfl rfl]
  have hsp := split_cab (S := S) h
  have hb := back_in_ok (d := d) (S := S) h.bk
  have loop := forE_inv (anc := prog.anc) (Φ := call prog (d + 5)) (tg := [4, 5]) (one := false) (b := read_body)
    (fun k ρ S' => ∃ x y z : Option D, ρ = [some (.str (cabT c)), some (.lst (.str (bkT c.2) :: (c.1.map lnT).map .str)), some (frD c.2), some (.tup ((c.1.take k).map lnD)), x, y, z] ∧ S' = S)
    (enumL 0 ((c.1.map lnT).map .str)) 0 [some (.str (cabT c)), some (.lst (.str (bkT c.2) :: (c.1.map lnT).map .str)), some (frD c.2), some (.tup []), none, none, none] S ⟨none, none, none, rfl, rfl⟩ ?_
  · obtain ⟨ρ', S', ⟨x, y, z, rfl, rfl⟩, hloop⟩ := loop
    rw [enumL_sz, List.length_map, List.length_map, Nat.zero_add, List.take_length] at hloop
    simp only [read_body, List.map_map] at hloop hsp
    have hs : slc (.lst (.str (bkT c.2) :: List.map (D.str ∘ lnT) c.1)) (some 1) none S' = some (.ok (.lst (List.map (D.str ∘ lnT) c.1)) S') := by simp only [slc, cutL1]
    have he : cmp .eq (.tup (c.1.map lnD)) (.tup []) = some false := by
      rw [cmp_eq (by simp [shp, shp_lns]) (by simp [shp, shps])]
      have := h.n0
      match hc : c.1, this with
      | l :: ls, _ => simp [eqD, eqDs]
    have hfr : ∀ S, cmp .isN (view S (frD c.2)) .non = some false := fun S => rfl
    simp [f_read_cable, ev_var, isTy, mthOk, isStr, hsp, hb, hfr, part, okPart, hs, hloop, he, cabD]
  · rintro j x ρ S' hx ⟨y, z, w, rfl, rfl⟩
    obtain ⟨t, ht, rfl⟩ := enumL_at hx
    rw [List.map_map, List.getElem?_map] at ht
    cases e : c.1[j]? with
    | none => rw [e] at ht; cases ht
    | some l =>
      rw [e] at ht
      cases ht
      have hl := h.ln l (List.mem_of_getElem? e)
      have hj : j < c.1.length := (List.getElem?_eq_some_iff.mp e).1
      have hj2 : ¬ ((j : Int) = 12) := by have := h.n1; omega
      have hi := length_in_ok (d := d) (S := S') hl
      rw [Nat.zero_add] at *
      refine ⟨_, _, _, rfl, ?_, some (.int j), some (.str (lnT l)), some (lnD l), rfl, rfl⟩
      have ht : (c.1.take (j + 1)).map lnD = (c.1.take j).map lnD ++ [lnD l] := by
        rw [List.take_succ, e]; simp
      have hfr : ∀ S, cmp .isN (view S (lnD l)) .non = some false := fun S => rfl
      have ha : bin .add (.tup ((c.1.take j).map lnD)) (.tup [lnD l]) S' = some (.ok (.tup ((c.1.take j).map lnD ++ [lnD l])) S') := bin_addt (by
        have := h.n1
        rw [limE]; simp; omega)
      rw [ht]
      generalize (c.1.take j).map lnD = q at *
      simp [read_body, ev_var, hi, hfr, hj2, ha]
end
end k05
end Ev

set_option Elab.async false
set_option linter.all false
set_option maxRecDepth 100000
set_option maxHeartbeats 4000000
set_option exponentiation.threshold 500
namespace Ev
namespace k05
open PySem
section
variable {d : Nat} {S : Store}
theorem eq_fr {f g : Fr} : eqD (frD f) (frD g) = decide (f = g) := by
  obtain ⟨a, b⟩ := f
  obtain ⟨a', b'⟩ := g
  by_cases h1 : a = a' <;> by_cases h2 : b = b' <;> simp [frD, eqD, eqDs, h1, h2] <;> omega
theorem eq_ln {f g : Ln} : eqD (lnD f) (lnD g) = decide (f = g) := by
  obtain ⟨a, b⟩ := f
  obtain ⟨a', b'⟩ := g
  by_cases h1 : a = a' <;> by_cases h2 : b = b' <;> simp [lnD, eqD, eqDs, eq_fr, h1, h2] <;> omega
theorem eq_lns : ∀ {f g : List Ln}, eqDs (f.map lnD) (g.map lnD) = decide (f = g)
  | [], [] => rfl
  | [], _ :: _ => rfl
  | _ :: _, [] => rfl
  | a :: f, b :: g => by
    by_cases h1 : a = b <;> by_cases h2 : f = g <;> simp [eqDs, eq_ln, eq_lns, h1, h2]
theorem eq_cab {c o : Cab} : eqD (cabD c) (cabD o) = decide (c = o) := by
  obtain ⟨a, b⟩ := c
  obtain ⟨a', b'⟩ := o
  by_cases h1 : a = a' <;> by_cases h2 : b = b' <;> simp [cabD, eqD, eqDs, eq_fr, eq_lns, h1, h2]
theorem cab_inj {c o : Cab} (h : cabD c = cabD o) : c = o := by
  have := eq_cab (c := c) (o := o)
  rw [← h, eqD_refl 60 _ shp_cab] at this
  exact of_decide_eq_true this.symm
theorem text_inj {c o : Cab} (hc : CabOk c) (ho : CabOk o) (h : cabT c = cabT o) : c = o := by
  have h1 := read_cable_ok (d := 0) (S := []) hc
  have h2 := read_cable_ok (d := 0) (S := []) ho
  rw [h, h2] at h1
  have h3 : cabD o = cabD c := by injection h1 with h1; injection h1
  exact (cab_inj h3).symm
theorem cabT_asc {c : Cab} : ∀ y ∈ cabT c, y < 128 := by
  have : ∀ (ys : List (List Nat)), (∀ y ∈ ys, ∀ x ∈ y, x < 128) → ∀ x ∈ TL.joinL [10] ys, x < 128 := by
    intro ys
    induction ys with
    | nil => intro _ x hx; simp [TL.joinL] at hx
    | cons y ys ih =>
      intro h x hx
      cases ys with
      | nil => exact h y (by simp) x hx
      | cons z zs =>
        simp only [TL.joinL, List.mem_append] at hx
        rcases hx with hx | hx | hx
        · exact h y (by simp) x hx
        · simp at hx; omega
        · exact ih (fun y hy => h y (by simp at hy ⊢; right; exact hy)) x hx
  refine this _ fun y hy => ?_
  rcases List.mem_cons.mp hy with rfl | hy
  · intro x hx
    simp only [bkT, List.mem_append] at hx
    rcases hx with hx | hx
    · revert x; decide
    · exact frT_asc x hx
  · obtain ⟨l, hl, rfl⟩ := List.mem_map.mp hy
    intro x hx
    simp only [lnT, List.mem_append] at hx
    rcases hx with hx | hx | hx
    · exact num_asc x hx
    · revert x; decide
    · exact frT_asc x hx
/-! ### pure -/
theorem whole_ok {i : Int} : call prog (d + 1) 19 [.int i] S = some (.ok (.bl true) S) := by
  rw [call_at (Fn := f__law_whole) rfl rfl]
  simp [f__law_whole, ev_var, isTy]
theorem pure_int {i : Int} : call prog (d + 2) 25 [.int i] S = some (.ok (.bl true) S) := by
  rw [call_at (Fn := f__law_pure) rfl rfl]
  have h : isTy .tuple S (.int i) = some false := rfl
  simp [f__law_pure, ev_var, h, whole_ok]
theorem pure_tup {xs : List D} (h : ∀ x ∈ xs, call prog d 25 [x] S = some (.ok (.bl true) S)) : call prog (d + 1) 25 [.tup xs] S = some (.ok (.bl true) S) := by
  rw [call_at (Fn := f__law_pure) rfl rfl]
  have h0 : isTy .tuple S (.tup xs) = some true := rfl
  have hc := compE_map (anc := prog.anc) (Φ := call prog d) (S := S) (ρ := [some (.tup xs), none]) (tg := [1]) (elt := .call 25 (.cons (.var 1) .nil)) (g := fun _ => .bl true) (xs := xs) fun x hx => ⟨_, rfl, by simp [ev_var, h x hx]⟩
  rw [const_map] at hc
  simp [f__law_pure, ev_var, h0, hc, alloc, boolsD_true]
theorem pure_fr {f : Fr} : call prog (d + 3) 25 [frD f] S = some (.ok (.bl true) S) := pure_tup fun x hx => by
  simp at hx
  rcases hx with rfl | rfl <;> exact pure_int
theorem pure_ln {l : Ln} : call prog (d + 4) 25 [lnD l] S = some (.ok (.bl true) S) := pure_tup fun x hx => by
  simp at hx
  rcases hx with rfl | rfl
  · exact pure_int
  · exact pure_fr
theorem pure_cab {c : Cab} : call prog (d + 6) 25 [cabD c] S = some (.ok (.bl true) S) := pure_tup fun x hx => by
  simp at hx
  rcases hx with rfl | rfl
  · exact pure_tup fun y hy => by
      obtain ⟨l, _, rfl⟩ := List.mem_map.mp hy
      exact pure_ln
  · exact pure_fr
/-! ### right -/
def right_body : Ss := (.cons (.asg 3 (.call 10 (.cons (.var 2) .nil))) (.cons (.ife (.or (.not (.isi .str (.var 3))) (.cmp .ne (.var 3) (.call 22 (.cons (.var 2) .nil)))) (.cons (.ret (.con (.bl false))) .nil) .nil) (.cons (.asg 4 (.call 15 (.cons (.call 22 (.cons (.var 2) .nil)) .nil))) (.cons (.ife (.or (.not (.isi .tuple (.var 4))) (.or (.not (.call 25 (.cons (.var 4) .nil))) (.cmp .ne (.var 4) (.var 2)))) (.cons (.ret (.con (.bl false))) .nil) .nil) .nil))))
theorem right_turn (hS : AP S) {c : Cab} (h : CabOk c) (a b x y : Option D) : exs prog.anc (call prog (d + 7)) right_body [a, b, some (cabD c), x, y] S = some (.ok (.nx [a, b, some (cabD c), some (.str (cabT c)), some (cabD c)]) S) := by
  have e1 := show_cable_ok (d := d) (S := S) h
  have e2 := law_text_ok (d := d + 5) hS h
  have e3 := read_cable_ok (d := d + 1) (S := S) h
  have e4 := pure_cab (d := d + 1) (S := S) (c := c)
  have n1 : cmp .ne (.str (cabT c)) (.str (cabT c)) = some false := by rw [cmp_nes cabT_asc cabT_asc]; simp
  have n2 : cmp .ne (view S (cabD c)) (view S (cabD c)) = some false := by
    show cmp .ne (cabD c) (cabD c) = _
    rw [cmp_ne shp_cab shp_cab, eqD_refl 60 _ shp_cab]
    rfl
  have i1 : isTy .tuple S (cabD c) = some true := rfl
  have i2 : isTy .str S (.str (cabT c)) = some true := rfl
  simp [right_body, ev_var, e1, e2, e3, e4, n1, n2, i1, i2]
theorem right_ok (hS : AP S) {c o : Cab} (h : CabOk c) (ho : CabOk o) : call prog (d + 8) 26 [cabD c, cabD o] S = some (.ok (.bl true) S) := by
  rw [call_at (Fn := f__law_right) rfl rfl]
  have e1 := show_cable_ok (d := d) (S := S) h
  have e2 := show_cable_ok (d := d) (S := S) ho
  have loop : forE prog.anc (call prog (d + 7)) [2] true right_body [cabD c, cabD o, cabD c] [some (cabD c), some (cabD o), none, none, none] S = some (.ok (.nx [some (cabD c), some (cabD o), some (cabD c), some (.str (cabT c)), some (cabD c)]) S) := by
    rw [forE_go rfl (right_turn hS h _ _ _ _), forE_go rfl (right_turn hS ho _ _ _ _), forE_go rfl (right_turn hS h _ _ _ _)]
    rfl
  simp only [right_body] at loop
  have c1 : cmp .eq (.str (cabT c)) (.str (cabT o)) = some (decide (c = o)) := by
    rw [cmp_eqs cabT_asc cabT_asc]
    by_cases hq : c = o
    · subst hq; simp
    · have : ¬ cabT c = cabT o := fun z => hq (text_inj h ho z)
      simp [hq, this]
  have c2 : cmp .eq (view S (cabD c)) (view S (cabD o)) = some (decide (c = o)) := by
    show cmp .eq (cabD c) (cabD o) = _
    rw [cmp_eq shp_cab shp_cab, eq_cab]
  have c3 : cmp .eq (.bl (decide (c = o))) (.bl (decide (c = o))) = some true := by
    rw [cmp_eq rfl rfl]; simp [eqD]
  simp [f__law_right, ev_var, alloc, loop, e1, e2, c1, c2, c3]
end
end k05
end Ev

set_option Elab.async false
set_option linter.all false
set_option maxRecDepth 100000
set_option maxHeartbeats 4000000
set_option exponentiation.threshold 500
namespace Ev
namespace k05
open PySem
section
variable {d : Nat} {S : Store}
def ahead0 : Cab := (List.replicate 11 (1, 1, 1) ++ [(999, 999, 998)], (999, 998))
theorem ahead0_ok : CabOk ahead0 := by
  refine ⟨by decide, by decide, fun l hl => ?_, ⟨by decide, by decide, by decide, by decide⟩⟩
  have : l = (1, 1, 1) ∨ l = (999, 999, 998) := by
    simp [ahead0] at hl
    exact hl
  rcases this with rfl | rfl
  · exact ⟨by decide, by decide, ⟨by decide, by decide, by decide, by decide⟩, by decide⟩
  · exact ⟨by decide, by decide, ⟨by decide, by decide, by decide, by decide⟩, by decide⟩
def law_body : Ss := (.cons (.asg 3 (.call 17 (.cons (.call 16 (.cons (.var 0) (.cons (.var 2) .nil))) .nil))) (.cons (.asg 4 (.call 24 (.cons (.var 3) (.cons (.idx (.lst false (.cons (.con (.int 1)) (.cons (.con (.int 2)) (.cons (.con (.int 3)) (.cons (.con (.int 4)) (.cons (.con (.int 5)) (.cons (.idx (.lst false (.cons (.con (.int 2)) (.cons (.con (.int 12)) .nil))) (.blt .int (.cons (.cmp .lt (.var 2) (.con (.int 2))) .nil))) (.cons (.idx (.lst false (.cons (.con (.int 1)) (.cons (.con (.int 11)) .nil))) (.blt .int (.cons (.cmp .lt (.var 2) (.con (.int 2))) .nil))) (.cons (.con (.int 1)) .nil))))))))) (.call 18 (.cons (.var 3) (.cons (.con (.int 8)) .nil)))) .nil)))) (.cons (.ife (.or (.not (.call 26 (.cons (.var 4) (.cons (.var 1) .nil)))) (.not (.call 26 (.cons (.var 4) (.cons (.tup (.cons (.rev (.idx (.var 4) (.con (.int 0)))) (.cons (.idx (.var 4) (.con (.int 1))) .nil))) .nil))))) (.cons (.ret (.con (.bl false))) .nil) .nil) (.cons (.asg 1 (.var 4)) .nil))))
def ahead_e : E := (.tup (.cons (.bin .add (.bin .mul (.tup (.cons (.tup (.cons (.con (.int 1)) (.cons (.tup (.cons (.con (.int 1)) (.cons (.con (.int 1)) .nil))) .nil))) .nil)) (.con (.int 11))) (.tup (.cons (.tup (.cons (.con (.int 999)) (.cons (.tup (.cons (.con (.int 999)) (.cons (.con (.int 998)) .nil))) .nil))) .nil))) (.cons (.tup (.cons (.con (.int 999)) (.cons (.con (.int 998)) .nil))) .nil)))
theorem fin_nil {b : Bool} {S' : Store} : fin false [] (some (.ok (.rt (.bl b)) S')) = some (.ok (.bl b) []) := by cases S' <;> rfl
theorem law_true : ∀ ns : List Int, ns.length ≤ 63 → ∃ S, call prog 40 i_law [.fz (ns.map .int)] [] = some (.ok (.bl true) S) := by
  intro ns hns
  have hn : ∃ n : Nat, n ≤ 8 ∧ ((if (2 : Int) < (if (ns.length : Int) < 8 then (ns.length : Int) else 8) then (if (ns.length : Int) < 8 then (ns.length : Int) else 8) else 2) = (n : Int)) := by
    by_cases h1 : (ns.length : Int) < 8
    · by_cases h2 : (2 : Int) < ns.length
      · exact ⟨ns.length, by omega, by rw [if_pos h1, if_pos h2]⟩
      · exact ⟨2, by omega, by rw [if_pos h1, if_neg h2]; rfl⟩
    · exact ⟨8, by omega, by rw [if_neg h1]; rfl⟩
  obtain ⟨n, hn8, hn⟩ := hn
  have loop := forE_inv (anc := prog.anc) (Φ := call prog 39) (tg := [2]) (one := true) (b := law_body)
    (fun _ ρ S => ∃ (c : Cab) (x y z : Option D), CabOk c ∧ AP S ∧ ρ = [some (.fz (ns.map .int)), some (cabD c), x, y, z])
    (rngL 0 n) 0 [some (.fz (ns.map .int)), some (cabD ahead0), none, none, none] [] ⟨ahead0, none, none, none, ahead0_ok, fun o ho => by simp at ho, rfl⟩ ?_
  · obtain ⟨ρ', S', ⟨c, x, y, z, hc, hS, rfl⟩, hloop⟩ := loop
    refine ⟨[], ?_⟩
    rw [call_at (Fn := f_law) rfl rfl]
    have hr : rngOk 0 n = true := by simp [rngOk]; omega
    have h0 : ∀ ρ, ev prog.anc (call prog 39) ahead_e ρ [] = some (.ok (cabD ahead0) []) := fun ρ => by rfl
    have hmin : blt .min2 [.int 8, .int ns.length] = fun S => some (.ok (.int (if (ns.length : Int) < 8 then (ns.length : Int) else 8)) S) := funext fun S => rfl
    have hmax : ∀ j : Int, blt .max2 [.int 2, .int j] = fun S => some (.ok (.int (if j > 2 then j else 2)) S) := fun j => funext fun S => rfl
    simp only [law_body] at hloop
    simp only [ahead_e] at h0
    simp only [f_law, List.map_cons, List.map_nil, List.replicate, List.cons_append, List.nil_append, exs_cons, exs_nil, ex_asg, h0, bndS_ok, seqF_nx, List.set_cons_succ, List.set_cons_zero, ex_for, evi_rng1, ev_blt, evs_cons, evs_nil, ev_con, bnd_ok, ev_var (ρ := [some (D.fz (ns.map .int)), some (cabD ahead0), none, none, none]) (i := 0) rfl, blt_len_fz, List.length_map, hmin, hmax, gt_iff_lt, hn, hr, if_true, hloop, ex_ret, seqF_rt]
    exact fin_nil
  · rintro j x ρ S hx ⟨c, x1, y1, z1, hc, hS, rfl⟩
    obtain ⟨rfl, hj⟩ := rngL_at hx
    rw [Int.zero_add]
    obtain ⟨cl, e1⟩ := cell_ok (d := 38) (S := S) (ns := ns) (k := j) (by omega)
    obtain ⟨o, p, e2⟩ := purse_ok (d := 38) (S := S) (c := cl)
    have hS1 : AP (S ++ [o]) := hS.push p
    have ha : S.length < (S ++ [o]).length := by simp
    obtain ⟨v, o1, l1, p1, e3⟩ := pick_ok (d := 38) (S := S ++ [o]) (a := S.length) (m := 8) (by rw [List.getElem?_append_right (Nat.le_refl _)]; simp) p (by omega) (by omega) (by omega)
    have e3 : call prog 39 18 [.ref S.length, .int 8] (S ++ [o]) = some (.ok (.int v) ((S ++ [o]).set S.length o1)) := e3
    obtain ⟨many, hm0, hm1, em⟩ : ∃ many : Nat, 1 ≤ many ∧ many ≤ 12 ∧ ∀ S, idx (.lst [.int 1, .int 2, .int 3, .int 4, .int 5, (if (j : Int) < 2 then .int 12 else .int 2), (if (j : Int) < 2 then .int 11 else .int 1), .int 1]) (.int v) S = some (.ok (.int many) S) := by
      by_cases h2 : (j : Int) < 2
      · simp only [h2, if_true]
        match v, l1 with
        | 0, _ => exact ⟨1, by omega, by omega, fun S => idx_ln (j := 0) rfl⟩
        | 1, _ => exact ⟨2, by omega, by omega, fun S => idx_ln (j := 1) rfl⟩
        | 2, _ => exact ⟨3, by omega, by omega, fun S => idx_ln (j := 2) rfl⟩
        | 3, _ => exact ⟨4, by omega, by omega, fun S => idx_ln (j := 3) rfl⟩
        | 4, _ => exact ⟨5, by omega, by omega, fun S => idx_ln (j := 4) rfl⟩
        | 5, _ => exact ⟨12, by omega, by omega, fun S => idx_ln (j := 5) rfl⟩
        | 6, _ => exact ⟨11, by omega, by omega, fun S => idx_ln (j := 6) rfl⟩
        | 7, _ => exact ⟨1, by omega, by omega, fun S => idx_ln (j := 7) rfl⟩
      · simp only [h2, if_false]
        match v, l1 with
        | 0, _ => exact ⟨1, by omega, by omega, fun S => idx_ln (j := 0) rfl⟩
        | 1, _ => exact ⟨2, by omega, by omega, fun S => idx_ln (j := 1) rfl⟩
        | 2, _ => exact ⟨3, by omega, by omega, fun S => idx_ln (j := 2) rfl⟩
        | 3, _ => exact ⟨4, by omega, by omega, fun S => idx_ln (j := 3) rfl⟩
        | 4, _ => exact ⟨5, by omega, by omega, fun S => idx_ln (j := 4) rfl⟩
        | 5, _ => exact ⟨2, by omega, by omega, fun S => idx_ln (j := 5) rfl⟩
        | 6, _ => exact ⟨1, by omega, by omega, fun S => idx_ln (j := 6) rfl⟩
        | 7, _ => exact ⟨1, by omega, by omega, fun S => idx_ln (j := 7) rfl⟩
    obtain ⟨c2, o2, hc2, p2, e4⟩ := cable_ok (d := 36) (S := S ++ [o]) hS1 ha p1 (by omega) hm0 hm1
    have hq : ∀ q : Ob, (S ++ [o]).set S.length q = S ++ [q] := fun q => by
      rw [List.set_append_right _ _ (Nat.le_refl _)]; simp
    have hS2 : AP ((S ++ [o]).set S.length o2) := hS1.set p2
    rw [hq] at e3 hS2
    rw [hq, hq] at e4
    have hc3 : CabOk (c2.1.reverse, c2.2) := ⟨by simp; exact hc2.n0, by simp; exact hc2.n1, fun l hl => hc2.ln l (by simpa using hl), hc2.bk⟩
    have r1 := right_ok (d := 31) hS2 hc2 hc
    have r2 := right_ok (d := 31) hS2 hc2 hc3
    have hrev : revd (.tup (c2.1.map lnD)) (S ++ [o2]) = some (.ok (.tup (c2.1.reverse.map lnD)) (S ++ [o2])) := by
      simp only [revd, List.map_reverse]
    have i0 : idx (view (S ++ [o2]) (cabD c2)) (.int 0) (S ++ [o2]) = some (.ok (.tup (c2.1.map lnD)) (S ++ [o2])) := idx_t0
    have i1 : idx (view (S ++ [o2]) (cabD c2)) (.int 1) (S ++ [o2]) = some (.ok (frD c2.2) (S ++ [o2])) := idx_t1
    have hcd : D.tup [.tup (c2.1.map lnD).reverse, frD c2.2] = cabD (c2.1.reverse, c2.2) := by simp [cabD, List.map_reverse]
    have bt : ∀ S, blt .int [.bl true] S = some (.ok (.int 1) S) := fun S => rfl
    have bf : ∀ S, blt .int [.bl false] S = some (.ok (.int 0) S) := fun S => rfl
    refine ⟨_, _, _, rfl, ?_, c2, some (.int j), some (.ref S.length), some (cabD c2), hc2, hS2, rfl⟩
    by_cases h2 : (j : Int) < 2
    · simp only [h2, if_true] at em
      simp [law_body, ev_var, e1, e2, e3, em, e4, r1, r2, hrev, i0, i1, hcd, alloc, h2, bt]
    · simp only [h2, if_false] at em
      simp [law_body, ev_var, e1, e2, e3, em, e4, r1, r2, hrev, i0, i1, hcd, alloc, h2, bf]
end
end k05
end Ev

open PySem PySem.W PyProof.Rows in
set_option maxRecDepth 100000 in
set_option maxHeartbeats 0 in
theorem PySem.Challenge.cw_earthends_k05_cables_as_texts_holds : PySem.Challenge.rw_earthends_k05_cables_as_texts.Holds := by
  w_on; o_law; k_head; (case hw => w_witness2)
  k_fill
  refine Ev.law_walk (l := PySem.Challenge.rw_earthends_k05_cables_as_texts) (P := Ev.k05.prog) (T := Ev.k05.T) (pt := Ev.k05.pt) (k := 40) (f := Ev.k05.i_law) (x := "_law_script") rfl rfl ⟨rfl, by decide, by decide⟩ (fun w h Y => PySem.W.kIn_of Y) rfl rfl ?F Ev.k05.law_true
  case F =>
    intro w mg h KX G
    refine' Ev.k05.all_mk KX G ?ev_g0 ?ev_l0 ?ev_c0 ?ev_k0 ?ev_g1 ?ev_l1 ?ev_c1 ?ev_k1 ?ev_g2 ?ev_l2 ?ev_c2 ?ev_k2 ?ev_g3 ?ev_l3 ?ev_c3 ?ev_k3 ?ev_g4 ?ev_l4 ?ev_c4 ?ev_k4 ?ev_g5 ?ev_l5 ?ev_c5 ?ev_k5 ?ev_g6 ?ev_l6 ?ev_c6 ?ev_k6 ?ev_g7 ?ev_l7 ?ev_c7 ?ev_k7 ?ev_g8 ?ev_l8 ?ev_c8 ?ev_k8 ?ev_g9 ?ev_l9 ?ev_c9 ?ev_k9 ?ev_g10 ?ev_l10 ?ev_c10 ?ev_k10 ?ev_g11 ?ev_l11 ?ev_c11 ?ev_k11 ?ev_g12 ?ev_l12 ?ev_c12 ?ev_k12 ?ev_g13 ?ev_l13 ?ev_c13 ?ev_k13 ?ev_g14 ?ev_l14 ?ev_c14 ?ev_k14 ?ev_g15 ?ev_l15 ?ev_c15 ?ev_k15 ?ev_g16 ?ev_l16 ?ev_c16 ?ev_k16 ?ev_g17 ?ev_l17 ?ev_c17 ?ev_k17 ?ev_g18 ?ev_l18 ?ev_c18 ?ev_k18 ?ev_g19 ?ev_l19 ?ev_c19 ?ev_k19 ?ev_g20 ?ev_l20 ?ev_c20 ?ev_k20 ?ev_g21 ?ev_l21 ?ev_c21 ?ev_k21 ?ev_g22 ?ev_l22 ?ev_c22 ?ev_k22 ?ev_g23 ?ev_l23 ?ev_c23 ?ev_k23 ?ev_g24 ?ev_l24 ?ev_c24 ?ev_k24 ?ev_g25 ?ev_l25 ?ev_c25 ?ev_k25 ?ev_g26 ?ev_l26 ?ev_c26 ?ev_k26 ?ev_g27 ?ev_l27 ?ev_c27 ?ev_k27 ?ev_n0 ?ev_n1 ?ev_n2 ?ev_n3 ?ev_z0 ?ev_z1 ?ev_z2 ?ev_z3 ?ev_z4 ?ev_z5 ?ev_z6 ?ev_z7 ?ev_z8 ?ev_z9 ?ev_z10 ?ev_z11 ?ev_z12 ?ev_z13 ?ev_z14 ?ev_z15
    (case ev_g0 => k_is)
    (case ev_l0 => k_is)
    (case ev_c0 => k_is)
    (case ev_k0 => k_is)
    (case ev_g1 => k_is)
    (case ev_l1 => k_is)
    (case ev_c1 => k_is)
    (case ev_k1 => k_is)
    (case ev_g2 => k_is)
    (case ev_l2 => k_is)
    (case ev_c2 => k_is)
    (case ev_k2 => k_is)
    (case ev_g3 => k_is)
    (case ev_l3 => k_is)
    (case ev_c3 => k_is)
    (case ev_k3 => k_is)
    (case ev_g4 => k_is)
    (case ev_l4 => k_is)
    (case ev_c4 => k_is)
    (case ev_k4 => k_is)
    (case ev_g5 => k_is)
    (case ev_l5 => k_is)
    (case ev_c5 => k_is)
    (case ev_k5 => k_is)
    (case ev_g6 => k_is)
    (case ev_l6 => k_is)
    (case ev_c6 => k_is)
    (case ev_k6 => k_is)
    (case ev_g7 => k_is)
    (case ev_l7 => k_is)
    (case ev_c7 => k_is)
    (case ev_k7 => k_is)
    (case ev_g8 => k_is)
    (case ev_l8 => k_is)
    (case ev_c8 => k_is)
    (case ev_k8 => k_is)
    (case ev_g9 => k_is)
    (case ev_l9 => k_is)
    (case ev_c9 => k_is)
    (case ev_k9 => k_is)
    (case ev_g10 => k_is)
    (case ev_l10 => k_is)
    (case ev_c10 => k_is)
    (case ev_k10 => k_is)
    (case ev_g11 => k_is)
    (case ev_l11 => k_is)
    (case ev_c11 => k_is)
    (case ev_k11 => k_is)
    (case ev_g12 => k_is)
    (case ev_l12 => k_is)
    (case ev_c12 => k_is)
    (case ev_k12 => k_is)
    (case ev_g13 => k_is)
    (case ev_l13 => k_is)
    (case ev_c13 => k_is)
    (case ev_k13 => k_is)
    (case ev_g14 => k_is)
    (case ev_l14 => k_is)
    (case ev_c14 => k_is)
    (case ev_k14 => k_is)
    (case ev_g15 => k_is)
    (case ev_l15 => k_is)
    (case ev_c15 => k_is)
    (case ev_k15 => k_is)
    (case ev_g16 => k_is)
    (case ev_l16 => k_is)
    (case ev_c16 => k_is)
    (case ev_k16 => k_is)
    (case ev_g17 => k_is)
    (case ev_l17 => k_is)
    (case ev_c17 => k_is)
    (case ev_k17 => k_is)
    (case ev_g18 => k_is)
    (case ev_l18 => k_is)
    (case ev_c18 => k_is)
    (case ev_k18 => k_is)
    (case ev_g19 => k_is)
    (case ev_l19 => k_is)
    (case ev_c19 => k_is)
    (case ev_k19 => k_is)
    (case ev_g20 => k_is)
    (case ev_l20 => k_is)
    (case ev_c20 => k_is)
    (case ev_k20 => k_is)
    (case ev_g21 => k_is)
    (case ev_l21 => k_is)
    (case ev_c21 => k_is)
    (case ev_k21 => k_is)
    (case ev_g22 => k_is)
    (case ev_l22 => k_is)
    (case ev_c22 => k_is)
    (case ev_k22 => k_is)
    (case ev_g23 => k_is)
    (case ev_l23 => k_is)
    (case ev_c23 => k_is)
    (case ev_k23 => k_is)
    (case ev_g24 => k_is)
    (case ev_l24 => k_is)
    (case ev_c24 => k_is)
    (case ev_k24 => k_is)
    (case ev_g25 => k_is)
    (case ev_l25 => k_is)
    (case ev_c25 => k_is)
    (case ev_k25 => k_is)
    (case ev_g26 => k_is)
    (case ev_l26 => k_is)
    (case ev_c26 => k_is)
    (case ev_k26 => k_is)
    (case ev_g27 => k_is)
    (case ev_l27 => k_is)
    (case ev_c27 => k_is)
    (case ev_k27 => k_is)
    (case ev_n0 => k_is)
    (case ev_n1 => k_is)
    (case ev_n2 => k_is)
    (case ev_n3 => k_is)
    (case ev_z0 => k_is)
    (case ev_z1 => k_is)
    (case ev_z2 => k_is)
    (case ev_z3 => k_is)
    (case ev_z4 => k_is)
    (case ev_z5 => k_is)
    (case ev_z6 => k_is)
    (case ev_z7 => k_is)
    (case ev_z8 => k_is)
    (case ev_z9 => k_is)
    (case ev_z10 => k_is)
    (case ev_z11 => k_is)
    (case ev_z12 => k_is)
    (case ev_z13 => k_is)
    (case ev_z14 => k_is)
    (case ev_z15 => k_is)
