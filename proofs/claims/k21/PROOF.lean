import PyProof.Rows.All
import Wide.All
import OpenK.AllK
import Wide.FinOn
import HandS.ForMost
import HandS.Walk
import HandS.Wide
import PyProof.Fits
import HandS.Lambda
import HandS.WordsExc
import HandS.TupAny
import HandS.TupMul
import HandS.SortInts
import HandS.Style
import HandS.Flow
import HandS.IsInst
import HandS.Star
import HandS.Dict
import KE.KSortedM
import HandS.Exc
import HandS.ExcOwn
import HandS.ExcValue
import HandS.ExcIs
import HandS.Defaults
import HandS.NoneIn
import HandS.Zip0
import HandS.Iter
import HandS.Zip
import PyProof.EnumMake
import HandS.Comp
import KE.KDictDisplayH
import KE.KRevSl
import HandS.Head0
import HandS.Head1
import HandS.Head2
import HandS.Head3
import HandS.HeadEnd
import HandS.HeadHook1
import HandS.HeadHook2
import HandS.HeadHook4
import HandS.EndTab
import HandS.HeadWalk
import KE.DataEq
import PySem.Challenge.RW_wordsback_k21_whole_two_letters
set_option Elab.async false
set_option linter.all false
set_option maxRecDepth 100000
set_option maxHeartbeats 0
set_option exponentiation.threshold 2000
section
/-! Wb: values as trees, a small language over them, its meaning as a predicate transformer. -/
namespace Wb
open PySem PySem.Spec PyProof.Rows L2

/-- a value as a tree; tok: the state of the draws; fn: a def as a value; exc: a caught error; scr: the script -/
inductive D where
  | non | bl (b : Bool) | int (i : Int) | str (x : Str)
  | lst (xs : List D) | tup (xs : List D) | dct (tk : Bool) (kvs : List (D × D))
  | tok | fn (x : Str) | exc (c : Str) | scr (ns : List Int)

/-- an error that leaves: its class, what it carries -/
structure Exn where
  cls : Str
  arg : Option D := none

/-- a run: what is wanted of its value, what is wanted of an error -/
def M (α : Type) : Type := (α → Prop) → (Exn → Prop) → Prop
namespace M
variable {α β : Type}
def ret (a : α) : M α := fun Q _ => Q a
def bind (m : M α) (f : α → M β) : M β := fun Q E => m (fun a => f a Q E) E
def fail : M α := fun _ _ => False
def need (P : Prop) (m : M α) : M α := fun Q E => P ∧ m Q E
def throw (e : Exn) : M α := fun _ E => E e
/-- no error may leave -/
def nox (m : M α) : M α := fun Q _ => m Q (fun _ => False)
def opt : Option α → M α
  | some a => ret a
  | none => fail
end M

abbrev Env := List (Option D)
abbrev Fen := Nat → List D → M D

inductive Op where
  | add | sub | mul | fdiv | mod | pow | cat | rep
  deriving DecidableEq
inductive Cm where
  | eq | ne | lt | le | gt | ge | isN | notN | inn | nin
  deriving DecidableEq
/-- built-in functions of evaluated arguments -/
inductive Bi where
  | len | tuple | list | sorted | sum | sumL | min | max | min2 | max2 | all | any | int | abs | repr
  deriving DecidableEq
inductive Ty where
  | int | bool | str | list | tuple | dict
  deriving DecidableEq
/-- how much of a variable's value is its own: shared; a list of these; a dict with int and text keys, with tuple keys; lent -/
inductive Ow where
  | sh | li (t : Ow) | dk | dt | bo (t : Ow)
  deriving DecidableEq

mutual
inductive Ex where
  | var (i : Nat) | mov (i : Nat) | int (n : Int) | bl (b : Bool) | non | str (x : Str) | gint (x : Str) (n : Int) | fnv (x : Str)
  | bin (o : Op) (a b : Ex) | neg (a : Ex) | nt (a : Ex)
  | cmp (c : Cm) (a b : Ex) | chn (c c' : Cm) (a b d : Ex)
  | and (es : Els) | or (es : Els) | ite (t a b : Ex)
  | tup (es : Els) | lst (es : Els) | dct0 (tk : Bool) | dct (ks vs : Els)
  | call (f : Nat) (es : Els) | callK (f : Nat) (pm : List Nat) (es ks : Els)
  | tokW (i : Nat) | tokN (i : Nat) | tokC (i : Nat) | tokNew (i j : Nat)
  | blt (b : Bi) (es : Els) | getd (o k d : Ex) | isin (e : Ex) (t : Ty)
  | sub (a i : Ex) | slc (a : Ex) (lo hi : Oe) | rev (a : Ex)
  | comp (own : List Nat) (e : Ex) (tg : Tg) (it : It) (fs : Els)
  | comp2 (own own1 : List Nat) (e : Ex) (tg : Tg) (it : It) (fs : Els) (tg1 : Tg) (it1 : It) (fs1 : Els)
  | dcomp (tk : Bool) (own : List Nat) (k v : Ex) (tg : Tg) (it : It) (fs : Els)
  | itl (b : Bi) (it : It)
  | caught (c : Str) (cs : List Str) (e : Ex)
inductive Els where
  | nil | cons (star : Bool) (e : Ex) (r : Els)
inductive Oe where
  | none | some (e : Ex)
inductive It where
  | seq (e : Ex) | scr (e : Ex) | keys (e : Ex) | items (e : Ex) | vals (e : Ex)
  | rng1 (a : Ex) | rng2 (a b : Ex) | rng3 (a b : Ex) (c : Int)
  | enum (e : Ex) | zip (a b : Ex) | zip3 (a b d : Ex)
inductive Tg where
  | nm (i : Nat) | tp (ts : Tgs)
inductive Tgs where
  | nil | cons (t : Tg) (r : Tgs)
end

/-- a place: a variable, an item of a place -/
inductive Pl where
  | v (i : Nat) | s (p : Pl) (e : Ex)

mutual
inductive Sm where
  | set (i : Nat) (t : Ow) (e : Ex)
  | asg (tg : Tg) (e : Ex)
  | par2 (i j : Nat) (ti tj : Ow) (a b : Ex)
  | par3 (i j k : Nat) (ti tj tk : Ow) (a b c : Ex)
  | parP (i j : Nat) (a : Ex) (p : Pl)
  | app (p : Pl) (e : Ex)
  | put (p : Pl) (k : Ex) (e : Ex)
  | pop (i : Nat) (p : Pl)
  | swap (p : Pl) (a b : Ex)
  | aug (i : Nat) (o : Op) (e : Ex)
  | augP (p : Pl) (k : Ex) (o : Op) (e : Ex)
  | ife (t : Ex) (a b : Sms)
  | for_ (tg : Tg) (it : It) (b : Sms)
  | whl (t : Ex) (b : Sms)
  | ret (e : Ex) | retN | brk | cnt | pas
  | raise (c : Str) (e : Oe)
  | exp (e : Ex)
  | tokDiv (i : Nat) (e : Ex) | tokInc (i : Nat) | mv (i j : Nat) | forK (tg : Tg) (i : Nat) (b : Sms)
  | never
inductive Sms where
  | nil | cons (s : Sm) (r : Sms)
end

/-! ### what the parts mean -/
def strOkB (x : Str) : Bool := PyData.strOk x
mutual
def noD : D → Bool
  | .non | .bl _ | .int _ => true
  | .str x => strOkB x
  | .lst xs | .tup xs => noDs xs
  | .dct _ _ | .tok | .fn _ | .exc _ | .scr _ => false
def noDs : List D → Bool
  | [] => true
  | x :: xs => noD x && noDs xs
end
mutual
def toPy : D → PyData
  | .non => .none
  | .bl b => .bool b
  | .int i => .int i
  | .str x => .str x
  | .lst xs => .list (toPys xs)
  | .tup xs => .tuple (toPys xs)
  | .dct _ _ | .tok | .fn _ | .exc _ | .scr _ => .none
def toPys : List D → List PyData
  | [] => []
  | x :: xs => toPy x :: toPys xs
end
/-- data that == is asked of -/
def okEq (d : D) : Bool := noD d && decide ((toPy d).depth ≤ 64)
def eqv (d e : D) : Bool := PyData.eqv (toPy d) (toPy e)
/-- text and int keys; tuples of them -/
def kOf : D → Option Key
  | .int i => some (.inl i)
  | .str x => some (.inr x)
  | _ => none
def ksOf : List D → Option (List Key)
  | [] => some []
  | d :: ds => match kOf d, ksOf ds with
    | some k, some ks => some (k :: ks)
    | _, _ => none
inductive Ky where
  | k (k : Key) | t (ks : List Key)
  deriving DecidableEq
def kyOf : D → Option Ky
  | .int i => some (.k (.inl i))
  | .str x => some (.k (.inr x))
  | .tup ds => (ksOf ds).map .t
  | _ => none
/-- the key of a dict of that kind -/
def kyT : Bool → D → Option Ky
  | true, .tup ds => (ksOf ds).map .t
  | false, .int i => some (.k (.inl i))
  | false, .str x => some (.k (.inr x))
  | _, _ => none
def dOfK : Key → D
  | .inl i => .int i
  | .inr x => .str x
def dOfKy : Ky → D
  | .k k => dOfK k
  | .t ks => .tup (ks.map dOfK)
def lookD : List (D × D) → Ky → Option D
  | [], _ => none
  | (k, v) :: r, q => if kyOf k = some q then some v else lookD r q
def putD (kvs : List (D × D)) (q : Ky) (v : D) : List (D × D) := if (kvs.any fun kv => decide (kyOf kv.1 = some q)) = true then kvs.map (fun kv => if kyOf kv.1 = some q then (kv.1, v) else kv) else kvs ++ [(dOfKy q, v)]

def truthD : D → M Bool
  | .bl b => .ret b
  | .int i => .ret (i != 0)
  | .non => .ret false
  | .lst xs | .tup xs => .ret (!xs.isEmpty)
  | _ => .fail
def seqD : D → M (List D)
  | .lst xs | .tup xs => .ret xs
  | _ => .fail
def binD : Op → D → D → M D
  | .add, .int a, .int b => .ret (.int (a + b))
  | .add, .lst xs, .lst ys => .need (xs.length + ys.length ≤ sizeLine) (.ret (.lst (xs ++ ys)))
  | .add, .tup xs, .tup ys => .need (xs.length + ys.length ≤ sizeLine) (.ret (.tup (xs ++ ys)))
  | .cat, .lst xs, .lst ys => .need (xs.length + ys.length ≤ sizeLine) (.ret (.lst (xs ++ ys)))
  | .rep, .lst xs, .int k => .need (-(2 ^ 63) ≤ k ∧ k < 2 ^ 63 ∧ xs.length * k.toNat ≤ sizeLine) (.ret (.lst (List.replicate k.toNat xs).flatten))
  | .sub, .int a, .int b => .ret (.int (a - b))
  | .mul, .int a, .int b => .need (IntMulOk a b) (.ret (.int (a * b)))
  | .mul, .lst xs, .int k => .need (-(2 ^ 63) ≤ k ∧ k < 2 ^ 63 ∧ xs.length * k.toNat ≤ sizeLine) (.ret (.lst (List.replicate k.toNat xs).flatten))
  | .mul, .tup xs, .int k => .need (-(2 ^ 63) ≤ k ∧ k ≤ 1000 ∧ xs.length ≤ 1000) (.ret (.tup (List.replicate k.toNat xs).flatten))
  | .fdiv, .int a, .int b => .need (CDivW a b) (.ret (.int (a / b)))
  | .mod, .int a, .int b => .need (0 < b) (.ret (.int (a % b)))
  | .pow, .int a, .int b => .need (CPow a b) (.ret (.int (a ^ b.toNat)))
  | _, _, _ => .fail
/-- ints alone -/
def augD : Op → D → D → M D
  | .add, .int a, .int b => .ret (.int (a + b))
  | .sub, .int a, .int b => .ret (.int (a - b))
  | _, _, _ => .fail
def isNonD : D → Bool
  | .non => true
  | _ => false
/-- a plain value -/
def flatD : D → Bool
  | .non | .bl _ | .int _ | .str _ => true
  | _ => false
def anyEq (d : D) (xs : List D) : Bool := xs.any fun e => eqv e d
def cmpD : Cm → D → D → M Bool
  | .eq, a, b => .need (okEq a = true ∧ okEq b = true) (.ret (eqv a b))
  | .ne, a, b => .need (okEq a = true ∧ okEq b = true) (.ret (!eqv a b))
  | .lt, .int a, .int b => .ret (decide (a < b))
  | .le, .int a, .int b => .ret (decide (a ≤ b))
  | .gt, .int a, .int b => .ret (decide (b < a))
  | .ge, .int a, .int b => .ret (decide (b ≤ a))
  | .isN, a, _ => .ret (isNonD a)
  | .notN, a, _ => .ret (!isNonD a)
  | .inn, a, .lst xs | .inn, a, .tup xs => .need (flatD a = true ∧ xs.all flatD = true) (.ret (anyEq a xs))
  | .nin, a, .lst xs | .nin, a, .tup xs => .need (flatD a = true ∧ xs.all flatD = true) (.ret (!anyEq a xs))
  | _, _, _ => .fail
def ixD (xs : List D) (i : Int) : Option D := atI xs i
def subD : D → D → M D
  | .lst xs, .int i | .tup xs, .int i => .opt (ixD xs i)
  | .dct t kvs, k => .bind (.opt (kyT t k)) fun q => .opt (lookD kvs q)
  | _, _ => .fail
def cutD (xs : List D) (lo hi : Option Int) : List D := (xs.drop (HT.sIx xs.length 0 lo)).take (HT.sIx xs.length xs.length hi - HT.sIx xs.length 0 lo)
def intsD : List D → Option (List Int)
  | [] => some []
  | .int i :: r => (intsD r).map (i :: ·)
  | _ => none
def blsD : List D → Option (List Bool)
  | [] => some []
  | .bl b :: r => (blsD r).map (b :: ·)
  | _ => none
def insI (a : Int) : List Int → List Int
  | [] => [a]
  | b :: r => if a ≤ b then a :: b :: r else b :: insI a r
def sortI : List Int → List Int
  | [] => []
  | a :: r => insI a (sortI r)
def minI : List Int → Option Int
  | [] => none
  | a :: r => some (r.foldl (fun x y => if y < x then y else x) a)
def maxI : List Int → Option Int
  | [] => none
  | a :: r => some (r.foldl (fun x y => if x < y then y else x) a)
def lstsD : List D → Option (List (List D))
  | [] => some []
  | .lst xs :: r => (lstsD r).map (xs :: ·)
  | _ => none
def bltD : Bi → List D → M D
  | .len, [.lst xs] | .len, [.tup xs] => .ret (.int xs.length)
  | .len, [.scr ns] => .ret (.int ns.length)
  | .tuple, [.lst xs] | .tuple, [.tup xs] => .ret (.tup xs)
  | .list, [.lst xs] | .list, [.tup xs] => .ret (.lst xs)
  | .sorted, [.lst xs] | .sorted, [.tup xs] => .bind (.opt (intsD xs)) fun ns => .ret (.lst ((sortI ns).map .int))
  | .sum, [.lst xs] | .sum, [.tup xs] => .bind (.opt (intsD xs)) fun ns => .ret (.int ns.sum)
  | .sumL, [.lst xs, .lst []] => .bind (.opt (lstsD xs)) fun ls => .need (ls.flatten.length ≤ sizeLine) (.ret (.lst ls.flatten))
  | .min, [.lst xs] | .min, [.tup xs] => .bind (.opt (intsD xs)) fun ns => .bind (.opt (minI ns)) fun m => .ret (.int m)
  | .max, [.lst xs] | .max, [.tup xs] => .bind (.opt (intsD xs)) fun ns => .bind (.opt (maxI ns)) fun m => .ret (.int m)
  | .min2, [.int a, .int b] => .ret (.int (if b < a then b else a))
  | .max2, [.int a, .int b] => .ret (.int (if b > a then b else a))
  | .all, [.lst xs] | .all, [.tup xs] => .bind (.opt (blsD xs)) fun bs => .ret (.bl (bs.all id))
  | .any, [.lst xs] | .any, [.tup xs] => .bind (.opt (blsD xs)) fun bs => .ret (.bl (bs.any id))
  | .int, [.int a] => .ret (.int a)
  | .abs, [.int a] => .ret (.int (if a < 0 then -a else a))
  | .repr, [.bl b] => .ret (.str (if b then "True" else "False"))
  | .repr, [.non] => .ret (.str "None")
  | _, _ => .fail
def isinD : Ty → D → M Bool
  | .int, .int _ | .int, .bl _ => .ret true
  | .bool, .bl _ => .ret true
  | .str, .str _ => .ret true
  | .list, .lst _ => .ret true
  | .tuple, .tup _ => .ret true
  | .dict, .dct _ _ => .ret true
  | _, .tok | _, .fn _ | _, .exc _ | _, .scr _ => .fail
  | _, _ => .ret false
def setE (ρ : Env) (i : Nat) (d : D) : Env := ρ.set i (some d)
mutual
def asgT : Tg → D → Env → M Env
  | .nm i, d, ρ => .ret (setE ρ i d)
  | .tp ts, d, ρ => .bind (seqD d) fun xs => asgTs ts xs ρ
def asgTs : Tgs → List D → Env → M Env
  | .nil, [], ρ => .ret ρ
  | .cons t r, d :: ds, ρ => .bind (asgT t d ρ) fun ρ' => asgTs r ds ρ'
  | _, _, _ => .fail
end
def wipeE (ρ : Env) : List Nat → Env
  | [] => ρ
  | v :: vs => (wipeE ρ vs).set v none
/-- the loop of a comprehension -/
def compL (f : D → M (Option D)) : List D → M (List D)
  | [] => .ret []
  | x :: xs => .bind (f x) fun o => .bind (compL f xs) fun ys => .ret (o.toList ++ ys)
def compL2 (f : Nat → D → M (List D)) : Nat → List D → M (List D)
  | _, [] => .ret []
  | n, x :: xs => .bind (f n x) fun o => .bind (compL2 f (n + o.length) xs) fun ys => .ret (o ++ ys)
def dcompL (f : D → M (Option (Ky × D))) : List D → List (D × D) → M (List (D × D))
  | [], acc => .ret acc
  | x :: xs, acc => .bind (f x) fun o => dcompL f xs (match o with | some (k, v) => putD acc k v | none => acc)
def enumD : Nat → List D → List D
  | _, [] => []
  | n, x :: xs => .tup [.int n, x] :: enumD (n + 1) xs
def zipD : List D → List D → List D
  | x :: xs, y :: ys => .tup [x, y] :: zipD xs ys
  | _, _ => []
def zip3D : List D → List D → List D → List D
  | x :: xs, y :: ys, z :: zs => .tup [x, y, z] :: zip3D xs ys zs
  | _, _, _ => []
def rngD (lo : Int) (n : Nat) (c : Int) : List D := (List.range n).map fun i => .int (lo + (i : Nat) * c)
def small62 (i : Int) : Prop := -(2 ^ 62) ≤ i ∧ i < 2 ^ 62
/-- the number of turns of range(a, b, c) -/
def rngN (a b c : Int) : Nat := if 0 < c then ((b - a + c - 1) / c).toNat else if c < 0 then ((a - b + (-c) - 1) / (-c)).toNat else 0

/-- a permuted list of arguments -/
def pmL {α : Type} (pm : List Nat) (us : List α) : List α := pm.filterMap fun i => us[i]?
section
variable (Φ : Fen)
mutual
def evE : Ex → Env → M D
  | .var i, ρ | .mov i, ρ => .opt (ρ[i]?.join)
  | .int n, _ | .gint _ n, _ => .ret (.int n)
  | .bl b, _ => .ret (.bl b)
  | .non, _ => .ret .non
  | .str x, _ => .ret (.str x)
  | .fnv x, _ => .ret (.fn x)
  | .bin o a b, ρ => .bind (evE a ρ) fun x => .bind (evE b ρ) fun y => binD o x y
  | .neg a, ρ => .bind (evE a ρ) fun x => match x with
    | .int i => .ret (.int (-i))
    | _ => .fail
  | .nt a, ρ => .bind (evE a ρ) fun x => .bind (truthD x) fun b => .ret (.bl (!b))
  | .cmp c a b, ρ => .bind (evE a ρ) fun x => .bind (evE b ρ) fun y => .bind (cmpD c x y) fun r => .ret (.bl r)
  | .chn c c' a b d, ρ => .bind (evE a ρ) fun x => .bind (evE b ρ) fun y => .bind (cmpD c x y) fun r =>
      if r = true then .bind (evE d ρ) fun z => .bind (cmpD c' y z) fun r' => .ret (.bl r') else .ret (.bl false)
  | .and es, ρ => evAnd es ρ
  | .or es, ρ => evOr es ρ
  | .ite t a b, ρ => .bind (evE t ρ) fun x => .bind (truthD x) fun c => if c = true then evE a ρ else evE b ρ
  | .tup es, ρ => .bind (evEs es ρ) fun xs => .need (xs.length ≤ sizeLine) (.ret (.tup xs))
  | .lst es, ρ => .bind (evEs es ρ) fun xs => .need (xs.length ≤ sizeLine) (.ret (.lst xs))
  | .dct0 t, _ => .ret (.dct t [])
  | .dct ks vs, ρ => match ks, vs with
    | .cons false k .nil, .cons false v .nil => .bind (evE k ρ) fun x => .bind (evE v ρ) fun y => .bind (.opt (kyT true x)) fun q => .ret (.dct true [(dOfKy q, y)])
    | _, _ => .fail
  | .call f es, ρ => .bind (evEs es ρ) fun xs => Φ f xs
  | .callK f pm es ks, ρ => .bind (evEs es ρ) fun xs => .bind (evEs ks ρ) fun ys => Φ f (pmL pm (xs ++ ys))
  | .tokW i, ρ => .bind (.opt (ρ[i]?.join)) fun x => match x with
    | .tok => fun Q _ => ∀ w : Int, 0 ≤ w → Q (.int w)
    | _ => .fail
  | .tokN i, ρ => .bind (.opt (ρ[i]?.join)) fun x => match x with
    | .tok => fun Q _ => ∀ w : Int, Q (.int w)
    | _ => .fail
  | .tokC i, ρ => .bind (.opt (ρ[i]?.join)) fun x => match x with
    | .tok => fun Q _ => ∀ ns : List Int, ns.length ≤ 1000 → Q (.lst (ns.map .int))
    | _ => .fail
  | .tokNew i j, ρ => .bind (.opt (ρ[i]?.join)) fun x => .bind (.opt (ρ[j]?.join)) fun y => match x, y with
    | .int w, .lst cs => .need (0 ≤ w ∧ cs.length ≤ 1000) (.bind (.opt (intsD cs)) fun _ => .ret .tok)
    | _, _ => .fail
  | .blt b es, ρ => .bind (evEs es ρ) fun xs => bltD b xs
  | .getd o k d, ρ => .bind (evE o ρ) fun x => .bind (match x with | .dct t kvs => .ret (t, kvs) | _ => .fail) fun (tk : Bool × List (D × D)) => .bind (evE k ρ) fun k => .bind (evE d ρ) fun d => .bind (.opt (kyT tk.1 k)) fun q => .ret ((lookD tk.2 q).getD d)
  | .isin e t, ρ => .bind (evE e ρ) fun x => .bind (isinD t x) fun b => .ret (.bl b)
  | .sub a i, ρ => .bind (evE a ρ) fun x => .bind (evE i ρ) fun y => subD x y
  | .slc a lo hi, ρ => .bind (evE a ρ) fun x => .bind (evO lo ρ) fun l => .bind (evO hi ρ) fun h => match x with
    | .lst xs => .ret (.lst (cutD xs l h))
    | .tup xs => .ret (.tup (cutD xs l h))
    | _ => .fail
  | .rev a, ρ => .bind (evE a ρ) fun x => match x with
    | .lst xs => .ret (.lst xs.reverse)
    | .tup xs => .ret (.tup xs.reverse)
    | _ => .fail
  | .comp own e tg it fs, ρ => .bind (evI it ρ) fun items => .bind (.nox (compL (fun d => .bind (asgT tg d (wipeE ρ own)) fun ρ1 => .bind (evF fs ρ1) fun b => if b = true then .bind (evE e ρ1) fun y => .ret (some y) else .ret none) items)) fun ys => .ret (.lst ys)
  | .comp2 own own1 e tg it fs tg1 it1 fs1, ρ => .bind (evI it ρ) fun items => .bind (.nox (compL2 (fun n d => .bind (asgT tg d (wipeE ρ own)) fun ρ1 => .bind (evF fs ρ1) fun b =>
      if b = true then .bind (evI it1 ρ1) fun items1 => .need (n + items1.length ≤ sizeLine) (compL (fun d1 => .bind (asgT tg1 d1 (wipeE ρ1 own1)) fun ρ2 => .bind (evF fs1 ρ2) fun b1 =>
        if b1 = true then .bind (evE e ρ2) fun y => .ret (some y) else .ret none) items1) else .ret []) 0 items)) fun ys => .ret (.lst ys)
  | .dcomp t own k v tg it fs, ρ => .bind (evI it ρ) fun items => .bind (.nox (dcompL (fun d => .bind (asgT tg d (wipeE ρ own)) fun ρ1 => .bind (evF fs ρ1) fun b =>
      if b = true then .bind (evE k ρ1) fun x => .bind (evE v ρ1) fun y => .bind (.opt (kyT t x)) fun q => .ret (some (q, y)) else .ret none) items [])) fun ys => .ret (.dct t ys)
  | .itl b it, ρ => .bind (evI it ρ) fun items => bltD b [.lst items]
  | .caught c cs e, ρ => fun Q _ => evE e ρ (fun _ => Q (.bl false)) (fun x => x.cls ∈ cs ∧ Q (.bl (decide (x.cls = c))))
def evEs : Els → Env → M (List D)
  | .nil, _ => .ret []
  | .cons false e r, ρ => .bind (evE e ρ) fun x => .bind (evEs r ρ) fun xs => .ret (x :: xs)
  | .cons true e r, ρ => .bind (evE e ρ) fun x => .bind (seqD x) fun ys => .bind (evEs r ρ) fun xs => .ret (ys ++ xs)
def evAnd : Els → Env → M D
  | .nil, _ => .fail
  | .cons _ e .nil, ρ => evE e ρ
  | .cons _ e r, ρ => .bind (evE e ρ) fun x => .bind (truthD x) fun t => if t = true then evAnd r ρ else .ret x
def evOr : Els → Env → M D
  | .nil, _ => .fail
  | .cons _ e .nil, ρ => evE e ρ
  | .cons _ e r, ρ => .bind (evE e ρ) fun x => .bind (truthD x) fun t => if t = true then .ret x else evOr r ρ
def evO : Oe → Env → M (Option Int)
  | .none, _ => .ret none
  | .some e, ρ => .bind (evE e ρ) fun x => match x with
    | .int i => .ret (some i)
    | _ => .fail
/-- the tests of a comprehension -/
def evF : Els → Env → M Bool
  | .nil, _ => .ret true
  | .cons _ e _, ρ => .bind (evE e ρ) fun x => truthD x
def evI : It → Env → M (List D)
  | .seq e, ρ => .bind (evE e ρ) fun x => seqD x
  | .scr e, ρ => .bind (evE e ρ) fun x => match x with
    | .scr ns => .ret (ns.map .int)
    | _ => .fail
  | .keys e, ρ => .bind (evE e ρ) fun x => match x with
    | .dct _ kvs => .ret (kvs.map (·.1))
    | _ => .fail
  | .items e, ρ => .bind (evE e ρ) fun x => match x with
    | .dct _ kvs => .ret (kvs.map fun kv => .tup [kv.1, kv.2])
    | _ => .fail
  | .vals e, ρ => .bind (evE e ρ) fun x => match x with
    | .dct _ kvs => .ret (kvs.map (·.2))
    | _ => .fail
  | .rng1 a, ρ => .bind (evE a ρ) fun x => match x with
    | .int j => .need (small62 j ∧ j.toNat ≤ sizeLine) (.ret (rngD 0 j.toNat 1))
    | _ => .fail
  | .rng2 a b, ρ => .bind (evE a ρ) fun x => .bind (evE b ρ) fun y => match x, y with
    | .int i, .int j => .need (small62 i ∧ small62 j ∧ (j - i).toNat ≤ sizeLine) (.ret (rngD i (j - i).toNat 1))
    | _, _ => .fail
  | .rng3 a b c, ρ => .bind (evE a ρ) fun x => .bind (evE b ρ) fun y => match x, y with
    | .int i, .int j => .need (RgC i j c (rngN i j c) ∧ rngN i j c ≤ sizeLine) (.ret (rngD i (rngN i j c) c))
    | _, _ => .fail
  | .enum e, ρ => .bind (evE e ρ) fun x => .bind (seqD x) fun xs => .ret (enumD 0 xs)
  | .zip a b, ρ => .bind (evE a ρ) fun x => .bind (evE b ρ) fun y => match x, y with
    | .lst xs, .lst ys => .ret (zipD xs ys)
    | .tup xs, .tup ys => .ret (zipD xs ys)
    | _, _ => .fail
  | .zip3 a b d, ρ => .bind (evE a ρ) fun x => .bind (evE b ρ) fun y => .bind (evE d ρ) fun z => .bind (seqD x) fun xs => .bind (seqD y) fun ys => .bind (seqD z) fun zs => .ret (zip3D xs ys zs)
end
end

/-! ### statements -/
inductive Fl where
  | nx | bk | ct | rt (d : D)
/-- an item changed, along a path of indices -/
def updD : List Int → (D → Option D) → D → Option D
  | [], f, d => f d
  | k :: ks, f, .lst xs => match ixN xs.length k with
    | some j => match xs[j]? with
      | some x => (updD ks f x).map fun y => .lst (xs.set j y)
      | none => none
    | none => none
  | _ :: _, _, _ => none
def updE (ρ : Env) (i : Nat) (ks : List Int) (f : D → Option D) : Option Env := match ρ[i]? with
  | some (some d) => (updD ks f d).map (setE ρ i)
  | _ => none
def appD (y : D) : D → Option D
  | .lst xs => if xs.length < sizeLine then some (.lst (xs ++ [y])) else none
  | _ => none
def setD (k y : D) : D → Option D
  | .lst xs => match k with
    | .int i => (ixN xs.length i).map fun j => .lst (xs.set j y)
    | _ => none
  | .dct t kvs => (kyT t k).bind fun q => if kvs.length < sizeLine ∧ q ≠ .k (.inr ("whole" : Str)) then some (.dct t (putD kvs q y)) else none
  | _ => none
def asLst : D → Option (List D)
  | .lst xs => some xs
  | _ => none
def popD : D → Option D
  | .lst xs => if xs = [] then none else some (.lst xs.dropLast)
  | _ => none
def lastD : D → Option D
  | .lst xs => xs.getLast?
  | _ => none
def swapD (a b : D) : D → Option D
  | .lst xs => match a, b with
    | .int i, .int j => match ixN xs.length i, ixN xs.length j with
      | some k, some l => match xs[k]?, xs[l]? with
        | some x, some y => some (.lst ((xs.set k y).set l x))
        | _, _ => none
      | _, _ => none
    | _, _ => none
  | _ => none
def whlN (c : Env → M Bool) (b : Env → M (Fl × Env)) : Nat → Env → M (Fl × Env)
  | 0, _ => .fail
  | n + 1, ρ => .bind (c ρ) fun t => if t = true then .bind (b ρ) fun r => match r with
      | (.nx, ρ') | (.ct, ρ') => whlN c b n ρ'
      | (.bk, ρ') => .ret (.nx, ρ')
      | (.rt d, ρ') => .ret (.rt d, ρ')
    else .ret (.nx, ρ)
def forL (f : D → Env → M (Fl × Env)) : List D → Env → M (Fl × Env)
  | [], ρ => .ret (.nx, ρ)
  | x :: xs, ρ => .bind (f x ρ) fun r => match r with
      | (.nx, ρ') | (.ct, ρ') => forL f xs ρ'
      | (.bk, ρ') => .ret (.nx, ρ')
      | (.rt d, ρ') => .ret (.rt d, ρ')
section
variable (Φ : Fen)
/-- the indices of a place -/
def keysP : Pl → Env → M (Nat × List Int)
  | .v i, _ => .ret (i, [])
  | .s p e, ρ => .bind (keysP p ρ) fun r => .bind (evE Φ e ρ) fun k => match k with
    | .int n => .ret (r.1, r.2 ++ [n])
    | _ => .fail
def getK : D → List Int → Option D
  | d, [] => some d
  | .lst xs, k :: ks => (ixD xs k).bind fun x => getK x ks
  | _, _ :: _ => none
def getE (ρ : Env) (i : Nat) (ks : List Int) : Option D := match ρ[i]? with
  | some (some d) => getK d ks
  | _ => none

mutual
def evS : Sm → Env → M (Fl × Env)
  | .set i _ e, ρ => .bind (evE Φ e ρ) fun x => .ret (.nx, setE ρ i x)
  | .asg tg e, ρ => .bind (evE Φ e ρ) fun x => .bind (asgT tg x ρ) fun ρ' => .ret (.nx, ρ')
  | .par2 i j _ _ a b, ρ => .bind (evE Φ a ρ) fun x => .bind (evE Φ b ρ) fun y => .ret (.nx, setE (setE ρ i x) j y)
  | .par3 i j k _ _ _ a b c, ρ => .bind (evE Φ a ρ) fun x => .bind (evE Φ b ρ) fun y => .bind (evE Φ c ρ) fun z => .ret (.nx, setE (setE (setE ρ i x) j y) k z)
  | .parP i j a p, ρ => .bind (evE Φ a ρ) fun x => .bind (keysP Φ p ρ) fun r => .bind (.opt ((getE ρ r.1 r.2).bind lastD)) fun y =>
      .bind (.opt (updE ρ r.1 r.2 popD)) fun ρ' => .ret (.nx, setE (setE ρ' i x) j y)
  | .app p e, ρ => .bind (keysP Φ p ρ) fun r => .bind (.opt ((getE ρ r.1 r.2).bind asLst)) fun _ => .bind (evE Φ e ρ) fun y => .bind (.opt (updE ρ r.1 r.2 (appD y))) fun ρ' => .ret (.nx, ρ')
  | .put p k e, ρ => .bind (evE Φ e ρ) fun y => .bind (keysP Φ p ρ) fun r => .bind (.opt (getE ρ r.1 r.2)) fun _ => .bind (evE Φ k ρ) fun x => .bind (.opt (updE ρ r.1 r.2 (setD x y))) fun ρ' => .ret (.nx, ρ')
  | .pop i p, ρ => .bind (keysP Φ p ρ) fun r => .bind (.opt ((getE ρ r.1 r.2).bind lastD)) fun y => .bind (.opt (updE ρ r.1 r.2 popD)) fun ρ' => .ret (.nx, setE ρ' i y)
  | .swap p a b, ρ => .bind (keysP Φ p ρ) fun r => .bind (evE Φ a ρ) fun x => .bind (evE Φ b ρ) fun y => .bind (.opt (updE ρ r.1 r.2 (swapD x y))) fun ρ' => .ret (.nx, ρ')
  | .aug i o e, ρ => .bind (.opt (ρ[i]?.join)) fun x => .bind (evE Φ e ρ) fun y => .bind (augD o x y) fun z => .ret (.nx, setE ρ i z)
  | .augP p k o e, ρ => .bind (keysP Φ p ρ) fun r => .bind (evE Φ k ρ) fun q => .bind (.opt (getE ρ r.1 r.2)) fun d => .bind (subD d q) fun x => .bind (evE Φ e ρ) fun y =>
      .bind (binD o x y) fun z => .bind (.opt (updE ρ r.1 r.2 (setD q z))) fun ρ' => .ret (.nx, ρ')
  | .ife t a b, ρ => .bind (evE Φ t ρ) fun x => .bind (truthD x) fun c => if c = true then evB a ρ else evB b ρ
  | .for_ tg it b, ρ => .bind (evI Φ it ρ) fun items => forL (fun d ρ' => .bind (asgT tg d ρ') fun ρ1 => evB b ρ1) items ρ
  | .whl t b, ρ => fun Q E => ∃ n, whlN (fun ρ => .bind (evE Φ t ρ) truthD) (fun ρ => evB b ρ) n ρ Q E
  | .ret e, ρ => .bind (evE Φ e ρ) fun x => .ret (.rt x, ρ)
  | .retN, ρ => .ret (.rt .non, ρ)
  | .brk, ρ => .ret (.bk, ρ)
  | .cnt, ρ => .ret (.ct, ρ)
  | .pas, ρ => .ret (.nx, ρ)
  | .raise c .none, _ => .throw ⟨c, none⟩
  | .raise c (.some e), ρ => .bind (evE Φ e ρ) fun x => .throw ⟨c, some x⟩
  | .exp e, ρ => .bind (evE Φ e ρ) fun _ => .ret (.nx, ρ)
  | .tokDiv i e, ρ => .bind (.opt (ρ[i]?.join)) fun x => match x with
    | .tok => .bind (evE Φ e ρ) fun y => match y with
      | .int j => .need (CDivW 0 j) (.ret (.nx, ρ))
      | _ => .fail
    | _ => .fail
  | .tokInc i, ρ => .bind (.opt (ρ[i]?.join)) fun x => match x with
    | .tok => .ret (.nx, ρ)
    | _ => .fail
  | .mv i j, ρ => .bind (.opt (ρ[j]?.join)) fun d => .ret (.nx, setE (ρ.set j none) i d)
  | .forK tg i b, ρ => .bind (.opt (ρ[i]?.join)) fun x => match x with
    | .dct _ kvs => .bind (.nox (forL (fun d ρ' => .bind (asgT tg d ρ') fun ρ1 => evB b ρ1) (kvs.map (·.1)) ρ)) fun r => match r with
      | (.nx, ρ') => .ret (.nx, ρ')
      | _ => .fail
    | _ => .fail
  | .never, _ => .fail
def evB : Sms → Env → M (Fl × Env)
  | .nil, ρ => .ret (.nx, ρ)
  | .cons s r, ρ => .bind (evS s ρ) fun q => match q with
    | (.nx, ρ') => evB r ρ'
    | (f, ρ') => .ret (f, ρ')
end
end
/-- a def's body upon its arguments; n: how many names it has; nn: it may end without a return -/
def evD (Φ : Fen) (n : Nat) (nn : Bool) (b : Sms) (ds : List D) : M D := .bind (evB Φ b (ds.map some ++ List.replicate (n - ds.length) none)) fun r => match r with
  | (.rt d, _) => .ret d
  | (.nx, _) => if nn = true then .ret .non else .fail
  | _ => .fail
end Wb

end
section
/-! Wb: the meaning grows with the specs and with what is wanted; the specs of a list of defs. -/
namespace Wb
open PySem PySem.Spec PyProof.Rows L2
def Le {α : Type} (m m' : M α) : Prop := ∀ (Q Q' : α → Prop) (E E' : Exn → Prop), (∀ a, Q a → Q' a) → (∀ e, E e → E' e) → m Q E → m' Q' E'
namespace Le
variable {α β : Type} {m m' : M α} {f f' : α → M β}
theorem bind (h : Le m m') (k : ∀ a, Le (f a) (f' a)) : Le (m.bind f) (m'.bind f') := fun _ _ _ _ hq he x => h _ _ _ _ (fun a => k a _ _ _ _ hq he) he x
theorem ret (a : α) : Le (M.ret a) (M.ret a) := fun _ _ _ _ hq _ x => hq a x
theorem fail : Le (M.fail : M α) m' := fun _ _ _ _ _ _ x => (x : False).elim
theorem need {P : Prop} (h : Le m m') : Le (M.need P m) (M.need P m') := fun _ _ _ _ hq he x => ⟨x.1, h _ _ _ _ hq he x.2⟩
theorem throw (e : Exn) : Le (M.throw e : M α) (M.throw e) := fun _ _ _ _ _ he x => he e x
theorem nox (h : Le m m') : Le m.nox m'.nox := fun _ _ _ _ hq _ x => h _ _ _ _ hq (fun _ z => z) x
theorem opt (o : Option α) : Le (M.opt o) (M.opt o) := by cases o with
  | none => exact fail
  | some a => exact ret a
theorem ite {m1 m1' m2 m2' : M α} (b : Bool) (h1 : Le m1 m1') (h2 : Le m2 m2') : Le (if b = true then m1 else m2) (if b = true then m1' else m2') := by cases b; exact h2; exact h1
theorem trans {m1 m2 m3 : M α} (h : Le m1 m2) (k : Le m2 m3) : Le m1 m3 := fun _ _ _ _ hq he x => k _ _ _ _ (fun _ z => z) (fun _ z => z) (h _ _ _ _ hq he x)
end Le
theorem le_truth (d : D) : Le (truthD d) (truthD d) := by cases d <;> first | exact Le.ret _ | exact Le.fail
theorem le_seq (d : D) : Le (seqD d) (seqD d) := by cases d <;> first | exact Le.ret _ | exact Le.fail
theorem le_bin (o : Op) (x y : D) : Le (binD o x y) (binD o x y) := by
  unfold binD
  split <;> first | exact Le.ret _ | exact Le.fail | exact Le.need (Le.ret _)
theorem le_aug (o : Op) (x y : D) : Le (augD o x y) (augD o x y) := by
  unfold augD
  split <;> first | exact Le.ret _ | exact Le.fail | exact Le.need (Le.ret _)
theorem le_cmp (c : Cm) (x y : D) : Le (cmpD c x y) (cmpD c x y) := by
  unfold cmpD
  split <;> first | exact Le.ret _ | exact Le.fail | exact Le.need (Le.ret _)
theorem le_sub (x y : D) : Le (subD x y) (subD x y) := by
  unfold subD
  split <;> first | exact Le.opt _ | exact Le.fail | exact Le.bind (Le.opt _) fun _ => Le.opt _
theorem le_blt (b : Bi) (xs : List D) : Le (bltD b xs) (bltD b xs) := by
  unfold bltD
  split <;> first | exact Le.ret _ | exact Le.fail | exact Le.bind (Le.opt _) fun _ => Le.ret _ | exact Le.bind (Le.opt _) fun _ => Le.need (Le.ret _) | exact Le.bind (Le.opt _) fun _ => Le.bind (Le.opt _) fun _ => Le.ret _
theorem le_isin (t : Ty) (x : D) : Le (isinD t x) (isinD t x) := by
  unfold isinD
  split <;> first | exact Le.ret _ | exact Le.fail
mutual
theorem le_asg : ∀ (t : Tg) (d : D) (ρ : Env), Le (asgT t d ρ) (asgT t d ρ)
  | .nm i, d, ρ => by rw [asgT]; exact Le.ret _
  | .tp ts, d, ρ => by rw [asgT]; exact Le.bind (le_seq d) fun xs => le_asgs ts xs ρ
theorem le_asgs : ∀ (ts : Tgs) (ds : List D) (ρ : Env), Le (asgTs ts ds ρ) (asgTs ts ds ρ)
  | .nil, [], ρ => by rw [asgTs]; exact Le.ret _
  | .nil, _ :: _, ρ => by rw [asgTs] <;> first | exact Le.fail | simp
  | .cons t r, d :: ds, ρ => by rw [asgTs]; exact Le.bind (le_asg t d ρ) fun ρ' => le_asgs r ds ρ'
  | .cons t r, [], ρ => by rw [asgTs] <;> first | exact Le.fail | simp
end
theorem le_comp {f f' : D → M (Option D)} (h : ∀ d, Le (f d) (f' d)) : ∀ xs, Le (compL f xs) (compL f' xs)
  | [] => Le.ret _
  | x :: xs => Le.bind (h x) fun o => Le.bind (le_comp h xs) fun ys => Le.ret _
theorem le_comp2 {f f' : Nat → D → M (List D)} (h : ∀ n d, Le (f n d) (f' n d)) : ∀ xs n, Le (compL2 f n xs) (compL2 f' n xs)
  | [], _ => Le.ret _
  | x :: xs, n => Le.bind (h n x) fun o => Le.bind (le_comp2 h xs _) fun ys => Le.ret _
theorem le_dcomp {f f' : D → M (Option (Ky × D))} (h : ∀ d, Le (f d) (f' d)) : ∀ xs acc, Le (dcompL f xs acc) (dcompL f' xs acc)
  | [], _ => Le.ret _
  | x :: xs, acc => Le.bind (h x) fun o => le_dcomp h xs _
theorem le_for {f f' : D → Env → M (Fl × Env)} (h : ∀ d ρ, Le (f d ρ) (f' d ρ)) : ∀ xs ρ, Le (forL f xs ρ) (forL f' xs ρ)
  | [], _ => Le.ret _
  | x :: xs, ρ => Le.bind (h x ρ) fun r => by
    obtain ⟨fl, ρ'⟩ := r
    cases fl with
    | nx => exact le_for h xs ρ'
    | ct => exact le_for h xs ρ'
    | bk => exact Le.ret _
    | rt d => exact Le.ret _
theorem le_whl {c c' : Env → M Bool} {b b' : Env → M (Fl × Env)} (hc : ∀ ρ, Le (c ρ) (c' ρ)) (hb : ∀ ρ, Le (b ρ) (b' ρ)) : ∀ n ρ, Le (whlN c b n ρ) (whlN c' b' n ρ)
  | 0, _ => Le.fail
  | n + 1, ρ => Le.bind (hc ρ) fun t => Le.ite t (Le.bind (hb ρ) fun r => by
      obtain ⟨fl, ρ'⟩ := r
      cases fl with
      | nx => exact le_whl hc hb n ρ'
      | ct => exact le_whl hc hb n ρ'
      | bk => exact Le.ret _
      | rt d => exact Le.ret _) (Le.ret _)
section
variable {Φ Φ' : Fen}
theorem evAnd_two {s0 s : Bool} {e e2 : Ex} {r : Els} {ρ : Env} : evAnd Φ (.cons s0 e (.cons s e2 r)) ρ = .bind (evE Φ e ρ) fun x => .bind (truthD x) fun t => if t = true then evAnd Φ (.cons s e2 r) ρ else .ret x := by
  rw [evAnd]
  intro z; cases z
theorem evOr_two {s0 s : Bool} {e e2 : Ex} {r : Els} {ρ : Env} : evOr Φ (.cons s0 e (.cons s e2 r)) ρ = .bind (evE Φ e ρ) fun x => .bind (truthD x) fun t => if t = true then .ret x else evOr Φ (.cons s e2 r) ρ := by
  rw [evOr]
  intro z; cases z
mutual
theorem le_E (h : ∀ i xs, Le (Φ i xs) (Φ' i xs)) : ∀ (e : Ex) (ρ : Env), Le (evE Φ e ρ) (evE Φ' e ρ)
  | .var i, ρ | .mov i, ρ => by rw [evE, evE]; exact Le.opt _
  | .int _, ρ | .gint _ _, ρ | .bl _, ρ | .non, ρ | .str _, ρ | .fnv _, ρ => by rw [evE, evE]; exact Le.ret _
  | .bin o a b, ρ => by rw [evE, evE]; exact Le.bind (le_E h a ρ) fun x => Le.bind (le_E h b ρ) fun y => le_bin o x y
  | .neg a, ρ => by
    rw [evE, evE]
    refine Le.bind (le_E h a ρ) fun x => ?_
    cases x <;> first | exact Le.ret _ | exact Le.fail
  | .nt a, ρ => by rw [evE, evE]; exact Le.bind (le_E h a ρ) fun x => Le.bind (le_truth x) fun b => Le.ret _
  | .cmp c a b, ρ => by rw [evE, evE]; exact Le.bind (le_E h a ρ) fun x => Le.bind (le_E h b ρ) fun y => Le.bind (le_cmp c x y) fun r => Le.ret _
  | .chn c c' a b d, ρ => by
    rw [evE, evE]
    refine Le.bind (le_E h a ρ) fun x => Le.bind (le_E h b ρ) fun y => Le.bind (le_cmp c x y) fun r => Le.ite r ?_ (Le.ret _)
    exact Le.bind (le_E h d ρ) fun z => Le.bind (le_cmp c' y z) fun r' => Le.ret _
  | .and es, ρ => by rw [evE, evE]; exact le_And h es ρ
  | .or es, ρ => by rw [evE, evE]; exact le_Or h es ρ
  | .ite t a b, ρ => by
    rw [evE, evE]
    refine Le.bind (le_E h t ρ) fun x => Le.bind (le_truth x) fun c => Le.ite c (le_E h a ρ) (le_E h b ρ)
  | .tup es, ρ => by rw [evE, evE]; exact Le.bind (le_Es h es ρ) fun xs => Le.need (Le.ret _)
  | .lst es, ρ => by rw [evE, evE]; exact Le.bind (le_Es h es ρ) fun xs => Le.need (Le.ret _)
  | .dct0 t, ρ => by rw [evE, evE]; exact Le.ret _
  | .dct (.cons false k .nil) (.cons false v .nil), ρ => by rw [evE, evE]; exact Le.bind (le_E h k ρ) fun x => Le.bind (le_E h v ρ) fun y => Le.bind (Le.opt _) fun q => Le.ret _
  | .dct .nil _, ρ | .dct (.cons true _ _) _, ρ | .dct (.cons false _ (.cons _ _ _)) _, ρ | .dct (.cons false _ .nil) .nil, ρ | .dct (.cons false _ .nil) (.cons true _ _), ρ | .dct (.cons false _ .nil) (.cons false _ (.cons _ _ _)), ρ => by
    rw [evE] <;> first | exact Le.fail | simp
  | .call f es, ρ => by rw [evE, evE]; exact Le.bind (le_Es h es ρ) fun xs => h f xs
  | .callK f pm es ks, ρ => by rw [evE, evE]; exact Le.bind (le_Es h es ρ) fun xs => Le.bind (le_Es h ks ρ) fun ys => h f _
  | .tokW i, ρ => by
    rw [evE, evE]
    refine Le.bind (Le.opt _) fun x => ?_
    cases x <;> first | exact Le.fail | exact fun _ _ _ _ hq _ z w hw => hq _ (z w hw)
  | .tokN i, ρ => by
    rw [evE, evE]
    refine Le.bind (Le.opt _) fun x => ?_
    cases x <;> first | exact Le.fail | exact fun _ _ _ _ hq _ z w => hq _ (z w)
  | .tokC i, ρ => by
    rw [evE, evE]
    refine Le.bind (Le.opt _) fun x => ?_
    cases x <;> first | exact Le.fail | exact fun _ _ _ _ hq _ z w hw => hq _ (z w hw)
  | .tokNew i j, ρ => by
    rw [evE, evE]
    refine Le.bind (Le.opt _) fun x => Le.bind (Le.opt _) fun y => ?_
    split
    · exact Le.need (Le.bind (Le.opt _) fun _ => Le.ret _)
    · exact Le.fail
  | .blt b es, ρ => by rw [evE, evE]; exact Le.bind (le_Es h es ρ) fun xs => le_blt b xs
  | .getd o k d, ρ => by
    rw [evE, evE]
    refine Le.bind (le_E h o ρ) fun x => Le.bind ?_ fun tk => Le.bind (le_E h k ρ) fun k => Le.bind (le_E h d ρ) fun d => Le.bind (Le.opt _) fun q => Le.ret _
    cases x <;> first | exact Le.ret _ | exact Le.fail
  | .isin e t, ρ => by rw [evE, evE]; exact Le.bind (le_E h e ρ) fun x => Le.bind (le_isin t x) fun b => Le.ret _
  | .sub a i, ρ => by rw [evE, evE]; exact Le.bind (le_E h a ρ) fun x => Le.bind (le_E h i ρ) fun y => le_sub x y
  | .slc a lo hi, ρ => by
    rw [evE, evE]
    refine Le.bind (le_E h a ρ) fun x => Le.bind (le_O h lo ρ) fun l => Le.bind (le_O h hi ρ) fun u => ?_
    cases x <;> first | exact Le.ret _ | exact Le.fail
  | .rev a, ρ => by
    rw [evE, evE]
    refine Le.bind (le_E h a ρ) fun x => ?_
    cases x <;> first | exact Le.ret _ | exact Le.fail
  | .comp own e tg it fs, ρ => by
    rw [evE, evE]
    refine Le.bind (le_I h it ρ) fun items => Le.bind (Le.nox (le_comp (fun d => Le.bind (le_asg tg d _) fun ρ1 => Le.bind (le_F h fs ρ1) fun b => Le.ite b ?_ (Le.ret _)) items)) fun ys => Le.ret _
    exact Le.bind (le_E h e ρ1) fun y => Le.ret _
  | .comp2 own own1 e tg it fs tg1 it1 fs1, ρ => by
    rw [evE, evE]
    refine Le.bind (le_I h it ρ) fun items => Le.bind (Le.nox (le_comp2 (fun n d => Le.bind (le_asg tg d _) fun ρ1 => Le.bind (le_F h fs ρ1) fun b => Le.ite b ?_ (Le.ret _)) items 0)) fun ys => Le.ret _
    refine Le.bind (le_I h it1 ρ1) fun items1 => Le.need (le_comp (fun d1 => Le.bind (le_asg tg1 d1 _) fun ρ2 => Le.bind (le_F h fs1 ρ2) fun b1 => Le.ite b1 ?_ (Le.ret _)) items1)
    exact Le.bind (le_E h e ρ2) fun y => Le.ret _
  | .dcomp t own k v tg it fs, ρ => by
    rw [evE, evE]
    refine Le.bind (le_I h it ρ) fun items => Le.bind (Le.nox (le_dcomp (fun d => Le.bind (le_asg tg d _) fun ρ1 => Le.bind (le_F h fs ρ1) fun b => Le.ite b ?_ (Le.ret _)) items [])) fun ys => Le.ret _
    exact Le.bind (le_E h k ρ1) fun x => Le.bind (le_E h v ρ1) fun y => Le.bind (Le.opt _) fun q => Le.ret _
  | .itl b it, ρ => by rw [evE, evE]; exact Le.bind (le_I h it ρ) fun items => le_blt b _
  | .caught c cs e, ρ => by
    rw [evE, evE]
    exact fun _ _ _ _ hq _ z => le_E h e ρ _ _ _ _ (fun _ w => hq _ w) (fun x w => ⟨w.1, hq _ w.2⟩) z
theorem le_Es (h : ∀ i xs, Le (Φ i xs) (Φ' i xs)) : ∀ (es : Els) (ρ : Env), Le (evEs Φ es ρ) (evEs Φ' es ρ)
  | .nil, ρ => by rw [evEs, evEs]; exact Le.ret _
  | .cons false e r, ρ => by rw [evEs, evEs]; exact Le.bind (le_E h e ρ) fun x => Le.bind (le_Es h r ρ) fun xs => Le.ret _
  | .cons true e r, ρ => by rw [evEs, evEs]; exact Le.bind (le_E h e ρ) fun x => Le.bind (le_seq x) fun ys => Le.bind (le_Es h r ρ) fun xs => Le.ret _
theorem le_And (h : ∀ i xs, Le (Φ i xs) (Φ' i xs)) : ∀ (es : Els) (ρ : Env), Le (evAnd Φ es ρ) (evAnd Φ' es ρ)
  | .nil, ρ => by rw [evAnd]; exact Le.fail
  | .cons _ e .nil, ρ => by rw [evAnd, evAnd]; exact le_E h e ρ
  | .cons s0 e (.cons s e2 r), ρ => by
    rw [evAnd_two, evAnd_two]
    refine Le.bind (le_E h e ρ) fun x => Le.bind (le_truth x) fun t => Le.ite t (le_And h (.cons s e2 r) ρ) (Le.ret _)
theorem le_Or (h : ∀ i xs, Le (Φ i xs) (Φ' i xs)) : ∀ (es : Els) (ρ : Env), Le (evOr Φ es ρ) (evOr Φ' es ρ)
  | .nil, ρ => by rw [evOr]; exact Le.fail
  | .cons _ e .nil, ρ => by rw [evOr, evOr]; exact le_E h e ρ
  | .cons s0 e (.cons s e2 r), ρ => by
    rw [evOr_two, evOr_two]
    refine Le.bind (le_E h e ρ) fun x => Le.bind (le_truth x) fun t => Le.ite t (Le.ret _) (le_Or h (.cons s e2 r) ρ)
theorem le_O (h : ∀ i xs, Le (Φ i xs) (Φ' i xs)) : ∀ (o : Oe) (ρ : Env), Le (evO Φ o ρ) (evO Φ' o ρ)
  | .none, ρ => by rw [evO, evO]; exact Le.ret _
  | .some e, ρ => by
    rw [evO, evO]
    refine Le.bind (le_E h e ρ) fun x => ?_
    cases x <;> first | exact Le.ret _ | exact Le.fail
theorem le_F (h : ∀ i xs, Le (Φ i xs) (Φ' i xs)) : ∀ (es : Els) (ρ : Env), Le (evF Φ es ρ) (evF Φ' es ρ)
  | .nil, ρ => by rw [evF, evF]; exact Le.ret _
  | .cons _ e _, ρ => by rw [evF, evF]; exact Le.bind (le_E h e ρ) fun x => le_truth x
theorem le_I (h : ∀ i xs, Le (Φ i xs) (Φ' i xs)) : ∀ (it : It) (ρ : Env), Le (evI Φ it ρ) (evI Φ' it ρ)
  | .seq e, ρ => by rw [evI, evI]; exact Le.bind (le_E h e ρ) fun x => le_seq x
  | .scr e, ρ | .keys e, ρ | .items e, ρ | .vals e, ρ => by
    rw [evI, evI]
    refine Le.bind (le_E h e ρ) fun x => ?_
    cases x <;> first | exact Le.ret _ | exact Le.fail
  | .rng1 a, ρ => by
    rw [evI, evI]
    refine Le.bind (le_E h a ρ) fun x => ?_
    cases x <;> first | exact Le.need (Le.ret _) | exact Le.fail
  | .rng2 a b, ρ => by
    rw [evI, evI]
    refine Le.bind (le_E h a ρ) fun x => Le.bind (le_E h b ρ) fun y => ?_
    split
    · exact Le.need (Le.ret _)
    · exact Le.fail
  | .rng3 a b c, ρ => by
    rw [evI, evI]
    refine Le.bind (le_E h a ρ) fun x => Le.bind (le_E h b ρ) fun y => ?_
    split
    · exact Le.need (Le.ret _)
    · exact Le.fail
  | .enum e, ρ => by rw [evI, evI]; exact Le.bind (le_E h e ρ) fun x => Le.bind (le_seq x) fun xs => Le.ret _
  | .zip a b, ρ => by
    rw [evI, evI]
    refine Le.bind (le_E h a ρ) fun x => Le.bind (le_E h b ρ) fun y => ?_
    split <;> first | exact Le.ret _ | exact Le.fail
  | .zip3 a b d, ρ => by rw [evI, evI]; exact Le.bind (le_E h a ρ) fun x => Le.bind (le_E h b ρ) fun y => Le.bind (le_E h d ρ) fun z => Le.bind (le_seq x) fun xs => Le.bind (le_seq y) fun ys => Le.bind (le_seq z) fun zs => Le.ret _
end
theorem le_P (h : ∀ i xs, Le (Φ i xs) (Φ' i xs)) : ∀ (p : Pl) (ρ : Env), Le (keysP Φ p ρ) (keysP Φ' p ρ)
  | .v i, ρ => Le.ret _
  | .s p e, ρ => by
    refine Le.bind (le_P h p ρ) fun r => Le.bind (le_E h e ρ) fun k => ?_
    cases k <;> first | exact Le.ret _ | exact Le.fail
mutual
theorem le_S (h : ∀ i xs, Le (Φ i xs) (Φ' i xs)) : ∀ (s : Sm) (ρ : Env), Le (evS Φ s ρ) (evS Φ' s ρ)
  | .set i t e, ρ => by rw [evS, evS]; exact Le.bind (le_E h e ρ) fun x => Le.ret _
  | .asg tg e, ρ => by rw [evS, evS]; exact Le.bind (le_E h e ρ) fun x => Le.bind (le_asg tg x ρ) fun _ => Le.ret _
  | .par2 i j _ _ a b, ρ => by rw [evS, evS]; exact Le.bind (le_E h a ρ) fun x => Le.bind (le_E h b ρ) fun y => Le.ret _
  | .par3 i j k _ _ _ a b c, ρ => by rw [evS, evS]; exact Le.bind (le_E h a ρ) fun x => Le.bind (le_E h b ρ) fun y => Le.bind (le_E h c ρ) fun z => Le.ret _
  | .parP i j a p, ρ => by rw [evS, evS]; exact Le.bind (le_E h a ρ) fun x => Le.bind (le_P h p ρ) fun r => Le.bind (Le.opt _) fun y => Le.bind (Le.opt _) fun ρ' => Le.ret _
  | .app p e, ρ => by rw [evS, evS]; exact Le.bind (le_P h p ρ) fun r => Le.bind (Le.opt _) fun _ => Le.bind (le_E h e ρ) fun y => Le.bind (Le.opt _) fun ρ' => Le.ret _
  | .put p k e, ρ => by rw [evS, evS]; exact Le.bind (le_E h e ρ) fun y => Le.bind (le_P h p ρ) fun r => Le.bind (Le.opt _) fun _ => Le.bind (le_E h k ρ) fun x => Le.bind (Le.opt _) fun ρ' => Le.ret _
  | .pop i p, ρ => by rw [evS, evS]; exact Le.bind (le_P h p ρ) fun r => Le.bind (Le.opt _) fun y => Le.bind (Le.opt _) fun ρ' => Le.ret _
  | .swap p a b, ρ => by rw [evS, evS]; exact Le.bind (le_P h p ρ) fun r => Le.bind (le_E h a ρ) fun x => Le.bind (le_E h b ρ) fun y => Le.bind (Le.opt _) fun ρ' => Le.ret _
  | .aug i o e, ρ => by rw [evS, evS]; exact Le.bind (Le.opt _) fun x => Le.bind (le_E h e ρ) fun y => Le.bind (le_aug o x y) fun z => Le.ret _
  | .augP p k o e, ρ => by rw [evS, evS]; exact Le.bind (le_P h p ρ) fun r => Le.bind (le_E h k ρ) fun q => Le.bind (Le.opt _) fun d => Le.bind (le_sub d q) fun x => Le.bind (le_E h e ρ) fun y => Le.bind (le_bin o x y) fun z => Le.bind (Le.opt _) fun ρ' => Le.ret _
  | .ife t a b, ρ => by
    rw [evS, evS]
    refine Le.bind (le_E h t ρ) fun x => Le.bind (le_truth x) fun c => Le.ite c (le_B h a ρ) (le_B h b ρ)
  | .for_ tg it b, ρ => by rw [evS, evS]; exact Le.bind (le_I h it ρ) fun items => le_for (fun d ρ' => Le.bind (le_asg tg d ρ') fun ρ1 => le_B h b ρ1) items ρ
  | .whl t b, ρ => by
    rw [evS, evS]
    exact fun _ _ _ _ hq he ⟨n, z⟩ => ⟨n, le_whl (fun ρ => Le.bind (le_E h t ρ) fun x => le_truth x) (fun ρ => le_B h b ρ) n ρ _ _ _ _ hq he z⟩
  | .ret e, ρ => by rw [evS, evS]; exact Le.bind (le_E h e ρ) fun x => Le.ret _
  | .retN, ρ => by rw [evS, evS]; exact Le.ret _
  | .brk, ρ | .cnt, ρ | .pas, ρ => by rw [evS, evS]; exact Le.ret _
  | .raise c .none, ρ => by rw [evS, evS]; exact Le.throw _
  | .raise c (.some e), ρ => by rw [evS, evS]; exact Le.bind (le_E h e ρ) fun x => Le.throw _
  | .exp e, ρ => by rw [evS, evS]; exact Le.bind (le_E h e ρ) fun x => Le.ret _
  | .tokDiv i e, ρ => by
    rw [evS, evS]
    refine Le.bind (Le.opt _) fun x => ?_
    cases x <;> first | exact Le.fail | skip
    refine Le.bind (le_E h e ρ) fun y => ?_
    cases y <;> first | exact Le.fail | exact Le.need (Le.ret _)
  | .tokInc i, ρ => by
    rw [evS, evS]
    refine Le.bind (Le.opt _) fun x => ?_
    cases x <;> first | exact Le.fail | exact Le.ret _
  | .mv i j, ρ => by rw [evS, evS]; exact Le.bind (Le.opt _) fun d => Le.ret _
  | .forK tg i b, ρ => by
    rw [evS, evS]
    refine Le.bind (Le.opt _) fun x => ?_
    cases x <;> first | exact Le.fail | skip
    refine Le.bind (Le.nox (le_for (fun d ρ' => Le.bind (le_asg tg d ρ') fun ρ1 => le_B h b ρ1) _ ρ)) fun r => ?_
    split <;> first | exact Le.ret _ | exact Le.fail
  | .never, ρ => by rw [evS, evS]; exact Le.fail
theorem le_B (h : ∀ i xs, Le (Φ i xs) (Φ' i xs)) : ∀ (b : Sms) (ρ : Env), Le (evB Φ b ρ) (evB Φ' b ρ)
  | .nil, ρ => by rw [evB, evB]; exact Le.ret _
  | .cons s r, ρ => by
    rw [evB, evB]
    refine Le.bind (le_S h s ρ) fun q => ?_
    obtain ⟨fl, ρ'⟩ := q
    cases fl with
    | nx => exact le_B h r ρ'
    | _ => exact Le.ret _
end
theorem le_D (h : ∀ i xs, Le (Φ i xs) (Φ' i xs)) (n : Nat) (nn : Bool) (b : Sms) (ds : List D) : Le (evD Φ n nn b ds) (evD Φ' n nn b ds) := by
  unfold evD
  refine Le.bind (le_B h b _) fun r => ?_
  obtain ⟨fl, ρ'⟩ := r
  cases fl with
  | rt d => exact Le.ret _
  | nx => cases nn; exact Le.fail; exact Le.ret _
  | bk => exact Le.fail
  | ct => exact Le.fail
end
end Wb

end
section
/-! Wb: the meaning as a machine: what comes next stands as a name, so that one step after another can be taken by simp only. -/
namespace Wb
open PySem PySem.Spec PyProof.Rows L2
section
variable (Φ : Fen)
/-! ### what comes next -/
def kOpt {α : Type} : Option α → (α → Prop) → Prop
  | some a, Q => Q a
  | none, _ => False
def kBin2 (o : Op) (x : D) (Q : D → Prop) (E : Exn → Prop) : D → Prop := fun y => binD o x y Q E
def kBin (o : Op) (b : Ex) (ρ : Env) (Q : D → Prop) (E : Exn → Prop) : D → Prop := fun x => evE Φ b ρ (kBin2 o x Q E) E
def kNeg (Q : D → Prop) : D → Prop
  | .int i => Q (.int (-i))
  | _ => False
def kBl (Q : D → Prop) : Bool → Prop := fun b => Q (.bl b)
def kNtB (Q : D → Prop) : Bool → Prop := fun b => Q (.bl (!b))
def kNt (Q : D → Prop) (E : Exn → Prop) : D → Prop := fun x => truthD x (kNtB Q) E
def kCmp2 (c : Cm) (x : D) (Q : D → Prop) (E : Exn → Prop) : D → Prop := fun y => cmpD c x y (kBl Q) E
def kCmp (c : Cm) (b : Ex) (ρ : Env) (Q : D → Prop) (E : Exn → Prop) : D → Prop := fun x => evE Φ b ρ (kCmp2 c x Q E) E
def kChnB (c' : Cm) (d : Ex) (ρ : Env) (y : D) (Q : D → Prop) (E : Exn → Prop) : Bool → Prop
  | true => evE Φ d ρ (kCmp2 c' y Q E) E
  | false => Q (.bl false)
def kChn2 (c c' : Cm) (d : Ex) (ρ : Env) (x : D) (Q : D → Prop) (E : Exn → Prop) : D → Prop := fun y => cmpD c x y (kChnB Φ c' d ρ y Q E) E
def kChn (c c' : Cm) (b d : Ex) (ρ : Env) (Q : D → Prop) (E : Exn → Prop) : D → Prop := fun x => evE Φ b ρ (kChn2 Φ c c' d ρ x Q E) E
def kAndB (r : Els) (ρ : Env) (x : D) (Q : D → Prop) (E : Exn → Prop) : Bool → Prop
  | true => evAnd Φ r ρ Q E
  | false => Q x
def kAnd (r : Els) (ρ : Env) (Q : D → Prop) (E : Exn → Prop) : D → Prop := fun x => truthD x (kAndB Φ r ρ x Q E) E
def kOrB (r : Els) (ρ : Env) (x : D) (Q : D → Prop) (E : Exn → Prop) : Bool → Prop
  | true => Q x
  | false => evOr Φ r ρ Q E
def kOr (r : Els) (ρ : Env) (Q : D → Prop) (E : Exn → Prop) : D → Prop := fun x => truthD x (kOrB Φ r ρ x Q E) E
def kIteB (a b : Ex) (ρ : Env) (Q : D → Prop) (E : Exn → Prop) : Bool → Prop
  | true => evE Φ a ρ Q E
  | false => evE Φ b ρ Q E
def kIte (a b : Ex) (ρ : Env) (Q : D → Prop) (E : Exn → Prop) : D → Prop := fun x => truthD x (kIteB Φ a b ρ Q E) E
def kTup (Q : D → Prop) : List D → Prop := fun xs => xs.length ≤ sizeLine ∧ Q (.tup xs)
def kLst (Q : D → Prop) : List D → Prop := fun xs => xs.length ≤ sizeLine ∧ Q (.lst xs)
def kDct2 (x : D) (Q : D → Prop) : D → Prop := fun y => kOpt (kyT true x) fun q => Q (.dct true [(dOfKy q, y)])
def kDct (v : Ex) (ρ : Env) (Q : D → Prop) (E : Exn → Prop) : D → Prop := fun x => evE Φ v ρ (kDct2 x Q) E
def kCall (f : Nat) (Q : D → Prop) (E : Exn → Prop) : List D → Prop := fun xs => Φ f xs Q E
def kCallK2 (f : Nat) (pm : List Nat) (xs : List D) (Q : D → Prop) (E : Exn → Prop) : List D → Prop := fun ys => Φ f (pmL pm (xs ++ ys)) Q E
def kCallK (f : Nat) (pm : List Nat) (ks : Els) (ρ : Env) (Q : D → Prop) (E : Exn → Prop) : List D → Prop := fun xs => evEs Φ ks ρ (kCallK2 Φ f pm xs Q E) E
def kBlt (b : Bi) (Q : D → Prop) (E : Exn → Prop) : List D → Prop := fun xs => bltD b xs Q E
def kGetd3 (t : Bool) (kvs : List (D × D)) (k : D) (Q : D → Prop) : D → Prop := fun d => kOpt (kyT t k) fun q => Q ((lookD kvs q).getD d)
def kGetd2 (t : Bool) (kvs : List (D × D)) (d : Ex) (ρ : Env) (Q : D → Prop) (E : Exn → Prop) : D → Prop := fun k => evE Φ d ρ (kGetd3 t kvs k Q) E
def kGetd (k d : Ex) (ρ : Env) (Q : D → Prop) (E : Exn → Prop) : D → Prop
  | .dct t kvs => evE Φ k ρ (kGetd2 Φ t kvs d ρ Q E) E
  | _ => False
def kIsin (t : Ty) (Q : D → Prop) (E : Exn → Prop) : D → Prop := fun x => isinD t x (kBl Q) E
def kSub2 (x : D) (Q : D → Prop) (E : Exn → Prop) : D → Prop := fun y => subD x y Q E
def kSub (i : Ex) (ρ : Env) (Q : D → Prop) (E : Exn → Prop) : D → Prop := fun x => evE Φ i ρ (kSub2 x Q E) E
def kSlc3 (x : D) (l : Option Int) (Q : D → Prop) : Option Int → Prop := fun h => match x with
  | .lst xs => Q (.lst (cutD xs l h))
  | .tup xs => Q (.tup (cutD xs l h))
  | _ => False
def kSlc2 (x : D) (hi : Oe) (ρ : Env) (Q : D → Prop) (E : Exn → Prop) : Option Int → Prop := fun l => evO Φ hi ρ (kSlc3 x l Q) E
def kSlc (lo hi : Oe) (ρ : Env) (Q : D → Prop) (E : Exn → Prop) : D → Prop := fun x => evO Φ lo ρ (kSlc2 Φ x hi ρ Q E) E
def kRev (Q : D → Prop) : D → Prop
  | .lst xs => Q (.lst xs.reverse)
  | .tup xs => Q (.tup xs.reverse)
  | _ => False
/-- one turn of a comprehension -/
def cmpF (own : List Nat) (e : Ex) (tg : Tg) (fs : Els) (ρ : Env) (d : D) : M (Option D) := .bind (asgT tg d (wipeE ρ own)) fun ρ1 => .bind (evF Φ fs ρ1) fun b => if b = true then .bind (evE Φ e ρ1) fun y => .ret (some y) else .ret none
def kComp (own : List Nat) (e : Ex) (tg : Tg) (fs : Els) (ρ : Env) (Q : D → Prop) : List D → Prop := fun items => compL (cmpF Φ own e tg fs ρ) items (fun ys => Q (.lst ys)) fun _ => False
/-- one turn of the outer clause -/
def cmpG (own own1 : List Nat) (e : Ex) (tg : Tg) (fs : Els) (tg1 : Tg) (it1 : It) (fs1 : Els) (ρ : Env) (n : Nat) (d : D) : M (List D) := .bind (asgT tg d (wipeE ρ own)) fun ρ1 => .bind (evF Φ fs ρ1) fun b => if b = true then .bind (evI Φ it1 ρ1) fun items1 => .need (n + items1.length ≤ sizeLine) (compL (cmpF Φ own1 e tg1 fs1 ρ1) items1) else .ret []
def kComp2 (own own1 : List Nat) (e : Ex) (tg : Tg) (fs : Els) (tg1 : Tg) (it1 : It) (fs1 : Els) (ρ : Env) (Q : D → Prop) : List D → Prop := fun items => compL2 (cmpG Φ own own1 e tg fs tg1 it1 fs1 ρ) 0 items (fun ys => Q (.lst ys)) fun _ => False
def kDcomp (t : Bool) (own : List Nat) (k v : Ex) (tg : Tg) (fs : Els) (ρ : Env) (Q : D → Prop) : List D → Prop := fun items => dcompL (fun d => .bind (asgT tg d (wipeE ρ own)) fun ρ1 => .bind (evF Φ fs ρ1) fun b =>
      if b = true then .bind (evE Φ k ρ1) fun x => .bind (evE Φ v ρ1) fun y => .bind (.opt (kyT t x)) fun q => .ret (some (q, y)) else .ret none) items [] (fun ys => Q (.dct t ys)) fun _ => False
def kItl (b : Bi) (Q : D → Prop) (E : Exn → Prop) : List D → Prop := fun items => bltD b [.lst items] Q E
def kEs2 (x : D) (Q : List D → Prop) : List D → Prop := fun xs => Q (x :: xs)
def kEs (r : Els) (ρ : Env) (Q : List D → Prop) (E : Exn → Prop) : D → Prop := fun x => evEs Φ r ρ (kEs2 x Q) E
def kEss2 (ys : List D) (Q : List D → Prop) : List D → Prop := fun xs => Q (ys ++ xs)
def kEss (r : Els) (ρ : Env) (Q : List D → Prop) (E : Exn → Prop) : D → Prop := fun x => seqD x (fun ys => evEs Φ r ρ (kEss2 ys Q) E) E
def kO (Q : Option Int → Prop) : D → Prop
  | .int i => Q (some i)
  | _ => False
def kF (Q : Bool → Prop) (E : Exn → Prop) : D → Prop := fun x => truthD x Q E
def kSeq (Q : List D → Prop) (E : Exn → Prop) : D → Prop := fun x => seqD x Q E
def kScr (Q : List D → Prop) : D → Prop
  | .scr ns => Q (ns.map .int)
  | _ => False
def kRng1 (Q : List D → Prop) : D → Prop
  | .int j => (small62 j ∧ j.toNat ≤ sizeLine) ∧ Q (rngD 0 j.toNat 1)
  | _ => False
def kRng2b (x : D) (Q : List D → Prop) : D → Prop := fun y => match x, y with
    | .int i, .int j => (small62 i ∧ small62 j ∧ (j - i).toNat ≤ sizeLine) ∧ Q (rngD i (j - i).toNat 1)
    | _, _ => False
def kRng2 (b : Ex) (ρ : Env) (Q : List D → Prop) (E : Exn → Prop) : D → Prop := fun x => evE Φ b ρ (kRng2b x Q) E
def kRng3b (c : Int) (x : D) (Q : List D → Prop) : D → Prop := fun y => match x, y with
    | .int i, .int j => (RgC i j c (rngN i j c) ∧ rngN i j c ≤ sizeLine) ∧ Q (rngD i (rngN i j c) c)
    | _, _ => False
def kRng3 (b : Ex) (c : Int) (ρ : Env) (Q : List D → Prop) (E : Exn → Prop) : D → Prop := fun x => evE Φ b ρ (kRng3b c x Q) E
def kEnum (Q : List D → Prop) (E : Exn → Prop) : D → Prop := fun x => seqD x (fun xs => Q (enumD 0 xs)) E
def kZip2 (x : D) (Q : List D → Prop) : D → Prop := fun y => match x, y with
    | .lst xs, .lst ys => Q (zipD xs ys)
    | .tup xs, .tup ys => Q (zipD xs ys)
    | _, _ => False
def kZip (b : Ex) (ρ : Env) (Q : List D → Prop) (E : Exn → Prop) : D → Prop := fun x => evE Φ b ρ (kZip2 x Q) E
/-! statements -/
def kB (r : Sms) (Q : Fl × Env → Prop) (E : Exn → Prop) : Fl × Env → Prop
  | (.nx, ρ') => evB Φ r ρ' Q E
  | (f, ρ') => Q (f, ρ')
def kSet (i : Nat) (ρ : Env) (Q : Fl × Env → Prop) : D → Prop := fun x => Q (.nx, setE ρ i x)
def kAsg (tg : Tg) (ρ : Env) (Q : Fl × Env → Prop) (E : Exn → Prop) : D → Prop := fun x => asgT tg x ρ (fun ρ' => Q (.nx, ρ')) E
def kPar2b (i j : Nat) (x : D) (ρ : Env) (Q : Fl × Env → Prop) : D → Prop := fun y => Q (.nx, setE (setE ρ i x) j y)
def kPar2 (i j : Nat) (b : Ex) (ρ : Env) (Q : Fl × Env → Prop) (E : Exn → Prop) : D → Prop := fun x => evE Φ b ρ (kPar2b i j x ρ Q) E
def kPar3c (i j k : Nat) (x y : D) (ρ : Env) (Q : Fl × Env → Prop) : D → Prop := fun z => Q (.nx, setE (setE (setE ρ i x) j y) k z)
def kPar3b (i j k : Nat) (x : D) (c : Ex) (ρ : Env) (Q : Fl × Env → Prop) (E : Exn → Prop) : D → Prop := fun y => evE Φ c ρ (kPar3c i j k x y ρ Q) E
def kPar3 (i j k : Nat) (b c : Ex) (ρ : Env) (Q : Fl × Env → Prop) (E : Exn → Prop) : D → Prop := fun x => evE Φ b ρ (kPar3b Φ i j k x c ρ Q E) E
def kApp2 (r : Nat × List Int) (ρ : Env) (Q : Fl × Env → Prop) : D → Prop := fun y => kOpt (updE ρ r.1 r.2 (appD y)) fun ρ' => Q (.nx, ρ')
def kApp (e : Ex) (ρ : Env) (Q : Fl × Env → Prop) (E : Exn → Prop) : Nat × List Int → Prop := fun r => kOpt ((getE ρ r.1 r.2).bind asLst) fun _ => evE Φ e ρ (kApp2 r ρ Q) E
def kPut3 (r : Nat × List Int) (y : D) (ρ : Env) (Q : Fl × Env → Prop) : D → Prop := fun x => kOpt (updE ρ r.1 r.2 (setD x y)) fun ρ' => Q (.nx, ρ')
def kPut2 (k : Ex) (y : D) (ρ : Env) (Q : Fl × Env → Prop) (E : Exn → Prop) : Nat × List Int → Prop := fun r => kOpt (getE ρ r.1 r.2) fun _ => evE Φ k ρ (kPut3 r y ρ Q) E
def kPut (p : Pl) (k : Ex) (ρ : Env) (Q : Fl × Env → Prop) (E : Exn → Prop) : D → Prop := fun y => keysP Φ p ρ (kPut2 Φ k y ρ Q E) E
def kPop (i : Nat) (ρ : Env) (Q : Fl × Env → Prop) : Nat × List Int → Prop := fun r => kOpt ((getE ρ r.1 r.2).bind lastD) fun y => kOpt (updE ρ r.1 r.2 popD) fun ρ' => Q (.nx, setE ρ' i y)
def kParP2 (i j : Nat) (x : D) (ρ : Env) (Q : Fl × Env → Prop) : Nat × List Int → Prop := fun r => kOpt ((getE ρ r.1 r.2).bind lastD) fun y => kOpt (updE ρ r.1 r.2 popD) fun ρ' => Q (.nx, setE (setE ρ' i x) j y)
def kParP (i j : Nat) (p : Pl) (ρ : Env) (Q : Fl × Env → Prop) (E : Exn → Prop) : D → Prop := fun x => keysP Φ p ρ (kParP2 i j x ρ Q) E
def kSwap3 (r : Nat × List Int) (x : D) (ρ : Env) (Q : Fl × Env → Prop) : D → Prop := fun y => kOpt (updE ρ r.1 r.2 (swapD x y)) fun ρ' => Q (.nx, ρ')
def kSwap2 (r : Nat × List Int) (b : Ex) (ρ : Env) (Q : Fl × Env → Prop) (E : Exn → Prop) : D → Prop := fun x => evE Φ b ρ (kSwap3 r x ρ Q) E
def kSwap (a b : Ex) (ρ : Env) (Q : Fl × Env → Prop) (E : Exn → Prop) : Nat × List Int → Prop := fun r => evE Φ a ρ (kSwap2 Φ r b ρ Q E) E
def kAug (i : Nat) (o : Op) (x : D) (ρ : Env) (Q : Fl × Env → Prop) (E : Exn → Prop) : D → Prop := fun y => augD o x y (fun z => Q (.nx, setE ρ i z)) E
def kAugP3 (r : Nat × List Int) (o : Op) (q x : D) (ρ : Env) (Q : Fl × Env → Prop) (E : Exn → Prop) : D → Prop := fun y => binD o x y (fun z => kOpt (updE ρ r.1 r.2 (setD q z)) fun ρ' => Q (.nx, ρ')) E
def kAugP2 (r : Nat × List Int) (o : Op) (e : Ex) (ρ : Env) (Q : Fl × Env → Prop) (E : Exn → Prop) : D → Prop := fun q => kOpt (getE ρ r.1 r.2) fun d => subD d q (fun x => evE Φ e ρ (kAugP3 r o q x ρ Q E) E) E
def kAugP (k : Ex) (o : Op) (e : Ex) (ρ : Env) (Q : Fl × Env → Prop) (E : Exn → Prop) : Nat × List Int → Prop := fun r => evE Φ k ρ (kAugP2 Φ r o e ρ Q E) E
def kIfB (a b : Sms) (ρ : Env) (Q : Fl × Env → Prop) (E : Exn → Prop) : Bool → Prop
  | true => evB Φ a ρ Q E
  | false => evB Φ b ρ Q E
def kIf (a b : Sms) (ρ : Env) (Q : Fl × Env → Prop) (E : Exn → Prop) : D → Prop := fun x => truthD x (kIfB Φ a b ρ Q E) E
/-- one turn of a for -/
def forF (tg : Tg) (b : Sms) (d : D) (ρ : Env) : M (Fl × Env) := .bind (asgT tg d ρ) fun ρ1 => evB Φ b ρ1
def kFor (tg : Tg) (b : Sms) (ρ : Env) (Q : Fl × Env → Prop) (E : Exn → Prop) : List D → Prop := fun items => forL (forF Φ tg b) items ρ Q E
def whS (t : Ex) (b : Sms) (ρ : Env) (Q : Fl × Env → Prop) (E : Exn → Prop) : Prop := ∃ n, whlN (fun ρ => .bind (evE Φ t ρ) truthD) (fun ρ => evB Φ b ρ) n ρ Q E
def kRet (ρ : Env) (Q : Fl × Env → Prop) : D → Prop := fun x => Q (.rt x, ρ)
def kRaise (c : Str) (E : Exn → Prop) : D → Prop := fun x => E ⟨c, some x⟩
def kExp (ρ : Env) (Q : Fl × Env → Prop) : D → Prop := fun _ => Q (.nx, ρ)
def kTokDiv (ρ : Env) (Q : Fl × Env → Prop) : D → Prop
  | .int j => CDivW 0 j ∧ Q (.nx, ρ)
  | _ => False
def kForK (Q : Fl × Env → Prop) : Fl × Env → Prop
  | (.nx, ρ') => Q (.nx, ρ')
  | _ => False
def kTokW (Q : D → Prop) : D → Prop
  | .tok => ∀ w : Int, 0 ≤ w → Q (.int w)
  | _ => False
def kTokN (Q : D → Prop) : D → Prop
  | .tok => ∀ w : Int, Q (.int w)
  | _ => False
def kTokC (Q : D → Prop) : D → Prop
  | .tok => ∀ ns : List Int, ns.length ≤ 1000 → Q (.lst (ns.map .int))
  | _ => False
def kCau (cs : List Str) (c : Str) (Q : D → Prop) : Exn → Prop := fun x => x.cls ∈ cs ∧ Q (.bl (decide (x.cls = c)))
def kD (nn : Bool) (Q : D → Prop) : Fl × Env → Prop
  | (.rt d, _) => Q d
  | (.nx, _) => nn = true ∧ Q .non
  | _ => False
end
section
variable {Φ : Fen} {ρ : Env} {Q : D → Prop} {E : Exn → Prop} {S : Fl × Env → Prop} {i j k : Nat} {a b d e : Ex} {x y z : D} {es r : Els} {o : Op} {c c' : Cm} {tg : Tg} {it : It} {L : List D → Prop}
theorem opt_k {α : Type} {o : Option α} {Q : α → Prop} {E : Exn → Prop} : M.opt o Q E = kOpt o Q := by cases o <;> rfl
theorem kOpt_some {α : Type} {a : α} {Q : α → Prop} : kOpt (some a) Q = Q a := (rfl)
theorem kOpt_none {α : Type} {Q : α → Prop} : kOpt none Q = False := (rfl)
/-! expressions -/
theorem w_var : evE Φ (.var i) ρ Q E = kOpt (ρ[i]?.join) Q := opt_k
theorem w_mov : evE Φ (.mov i) ρ Q E = kOpt (ρ[i]?.join) Q := opt_k
theorem w_int {n : Int} : evE Φ (.int n) ρ Q E = Q (.int n) := (rfl)
theorem w_gint {y : Str} {n : Int} : evE Φ (.gint y n) ρ Q E = Q (.int n) := (rfl)
theorem w_bl {b : Bool} : evE Φ (.bl b) ρ Q E = Q (.bl b) := (rfl)
theorem w_non : evE Φ .non ρ Q E = Q .non := (rfl)
theorem w_str {y : Str} : evE Φ (.str y) ρ Q E = Q (.str y) := (rfl)
theorem w_bin : evE Φ (.bin o a b) ρ Q E = evE Φ a ρ (kBin Φ o b ρ Q E) E := (rfl)
theorem w_kBin : kBin Φ o b ρ Q E x = evE Φ b ρ (kBin2 o x Q E) E := (rfl)
theorem w_kBin2 : kBin2 o x Q E y = binD o x y Q E := (rfl)
theorem w_neg : evE Φ (.neg a) ρ Q E = evE Φ a ρ (kNeg Q) E := by
  show evE Φ a ρ _ E = _
  congr 1
  funext x
  cases x <;> rfl
theorem w_kNeg {n : Int} : kNeg Q (.int n) = Q (.int (-n)) := (rfl)
theorem w_nt : evE Φ (.nt a) ρ Q E = evE Φ a ρ (kNt Q E) E := (rfl)
theorem w_kNt : kNt Q E x = truthD x (kNtB Q) E := (rfl)
theorem w_kNtB {b : Bool} : kNtB Q b = Q (.bl (!b)) := (rfl)
theorem w_kBl {b : Bool} : kBl Q b = Q (.bl b) := (rfl)
theorem w_cmp : evE Φ (.cmp c a b) ρ Q E = evE Φ a ρ (kCmp Φ c b ρ Q E) E := (rfl)
theorem w_kCmp : kCmp Φ c b ρ Q E x = evE Φ b ρ (kCmp2 c x Q E) E := (rfl)
theorem w_kCmp2 : kCmp2 c x Q E y = cmpD c x y (kBl Q) E := (rfl)
theorem w_chn : evE Φ (.chn c c' a b d) ρ Q E = evE Φ a ρ (kChn Φ c c' b d ρ Q E) E := by
  show evE Φ a ρ (fun x => evE Φ b ρ (fun y => cmpD c x y (fun t => (if t = true then (evE Φ d ρ).bind fun z => (cmpD c' y z).bind fun r' => M.ret (.bl r') else M.ret (.bl false)) Q E) E) E) E = _
  congr 1
  funext x
  show _ = evE Φ b ρ (kChn2 Φ c c' d ρ x Q E) E
  congr 1
  funext y
  show _ = cmpD c x y (kChnB Φ c' d ρ y Q E) E
  congr 1
  funext t
  cases t <;> rfl
theorem w_kChn : kChn Φ c c' b d ρ Q E x = evE Φ b ρ (kChn2 Φ c c' d ρ x Q E) E := (rfl)
theorem w_kChn2 : kChn2 Φ c c' d ρ x Q E y = cmpD c x y (kChnB Φ c' d ρ y Q E) E := (rfl)
theorem w_kChnT : kChnB Φ c' d ρ y Q E true = evE Φ d ρ (kCmp2 c' y Q E) E := (rfl)
theorem w_kChnF : kChnB Φ c' d ρ y Q E false = Q (.bl false) := (rfl)
theorem w_and : evE Φ (.and es) ρ Q E = evAnd Φ es ρ Q E := (rfl)
theorem w_and1 {s : Bool} : evAnd Φ (.cons s e .nil) ρ Q E = evE Φ e ρ Q E := (rfl)
theorem w_and2 {s s' : Bool} {e' : Ex} : evAnd Φ (.cons s e (.cons s' e' r)) ρ Q E = evE Φ e ρ (kAnd Φ (.cons s' e' r) ρ Q E) E := by
  rw [evAnd_two]
  show evE Φ e ρ (fun x => truthD x (fun t => (if t = true then evAnd Φ (.cons s' e' r) ρ else M.ret x) Q E) E) E = _
  congr 1
  funext x
  show _ = truthD x (kAndB Φ (.cons s' e' r) ρ x Q E) E
  congr 1
  funext t
  cases t <;> rfl
theorem w_kAnd : kAnd Φ r ρ Q E x = truthD x (kAndB Φ r ρ x Q E) E := (rfl)
theorem w_kAndT : kAndB Φ r ρ x Q E true = evAnd Φ r ρ Q E := (rfl)
theorem w_kAndF : kAndB Φ r ρ x Q E false = Q x := (rfl)
theorem w_or : evE Φ (.or es) ρ Q E = evOr Φ es ρ Q E := (rfl)
theorem w_or1 {s : Bool} : evOr Φ (.cons s e .nil) ρ Q E = evE Φ e ρ Q E := (rfl)
theorem w_or2 {s s' : Bool} {e' : Ex} : evOr Φ (.cons s e (.cons s' e' r)) ρ Q E = evE Φ e ρ (kOr Φ (.cons s' e' r) ρ Q E) E := by
  rw [evOr_two]
  show evE Φ e ρ (fun x => truthD x (fun t => (if t = true then M.ret x else evOr Φ (.cons s' e' r) ρ) Q E) E) E = _
  congr 1
  funext x
  show _ = truthD x (kOrB Φ (.cons s' e' r) ρ x Q E) E
  congr 1
  funext t
  cases t <;> rfl
theorem w_kOr : kOr Φ r ρ Q E x = truthD x (kOrB Φ r ρ x Q E) E := (rfl)
theorem w_kOrT : kOrB Φ r ρ x Q E true = Q x := (rfl)
theorem w_kOrF : kOrB Φ r ρ x Q E false = evOr Φ r ρ Q E := (rfl)
theorem w_ite : evE Φ (.ite a b d) ρ Q E = evE Φ a ρ (kIte Φ b d ρ Q E) E := by
  show evE Φ a ρ (fun x => truthD x (fun t => (if t = true then evE Φ b ρ else evE Φ d ρ) Q E) E) E = _
  congr 1
  funext x
  show _ = truthD x (kIteB Φ b d ρ Q E) E
  congr 1
  funext t
  cases t <;> rfl
theorem w_kIte : kIte Φ b d ρ Q E x = truthD x (kIteB Φ b d ρ Q E) E := (rfl)
theorem w_kIteT : kIteB Φ b d ρ Q E true = evE Φ b ρ Q E := (rfl)
theorem w_kIteF : kIteB Φ b d ρ Q E false = evE Φ d ρ Q E := (rfl)
theorem w_tup : evE Φ (.tup es) ρ Q E = evEs Φ es ρ (kTup Q) E := (rfl)
theorem w_kTup {xs : List D} : kTup Q xs = (xs.length ≤ sizeLine ∧ Q (.tup xs)) := (rfl)
theorem w_lst : evE Φ (.lst es) ρ Q E = evEs Φ es ρ (kLst Q) E := (rfl)
theorem w_kLst {xs : List D} : kLst Q xs = (xs.length ≤ sizeLine ∧ Q (.lst xs)) := (rfl)
theorem w_dct0 {t : Bool} : evE Φ (.dct0 t) ρ Q E = Q (.dct t []) := (rfl)
theorem w_dct : evE Φ (.dct (.cons false a .nil) (.cons false b .nil)) ρ Q E = evE Φ a ρ (kDct Φ b ρ Q E) E := by
  show evE Φ a ρ (fun x => evE Φ b ρ (fun y => M.opt (kyT true x) (fun q => Q (.dct true [(dOfKy q, y)])) E) E) E = _
  simp only [opt_k]
  rfl
theorem w_kDct : kDct Φ b ρ Q E x = evE Φ b ρ (kDct2 x Q) E := (rfl)
theorem w_kDct2 : kDct2 x Q y = kOpt (kyT true x) fun q => Q (.dct true [(dOfKy q, y)]) := (rfl)
theorem w_call : evE Φ (.call k es) ρ Q E = evEs Φ es ρ (kCall Φ k Q E) E := (rfl)
theorem w_kCall {xs : List D} : kCall Φ k Q E xs = Φ k xs Q E := (rfl)
theorem w_callK {pm : List Nat} : evE Φ (.callK k pm es r) ρ Q E = evEs Φ es ρ (kCallK Φ k pm r ρ Q E) E := (rfl)
theorem w_kCallK {pm : List Nat} {xs : List D} : kCallK Φ k pm r ρ Q E xs = evEs Φ r ρ (kCallK2 Φ k pm xs Q E) E := (rfl)
theorem w_kCallK2 {pm : List Nat} {xs ys : List D} : kCallK2 Φ k pm xs Q E ys = Φ k (pmL pm (xs ++ ys)) Q E := (rfl)
theorem w_tokW : evE Φ (.tokW i) ρ Q E = kOpt (ρ[i]?.join) (kTokW Q) := by
  rw [← opt_k (E := E)]
  show M.opt _ _ _ = _
  congr 1
  funext x
  cases x <;> rfl
theorem w_kTokW : kTokW Q .tok = ∀ w : Int, 0 ≤ w → Q (.int w) := (rfl)
theorem w_tokN : evE Φ (.tokN i) ρ Q E = kOpt (ρ[i]?.join) (kTokN Q) := by
  rw [← opt_k (E := E)]
  show M.opt _ _ _ = _
  congr 1
  funext x
  cases x <;> rfl
theorem w_kTokN : kTokN Q .tok = ∀ w : Int, Q (.int w) := (rfl)
theorem w_tokC : evE Φ (.tokC i) ρ Q E = kOpt (ρ[i]?.join) (kTokC Q) := by
  rw [← opt_k (E := E)]
  show M.opt _ _ _ = _
  congr 1
  funext x
  cases x <;> rfl
theorem w_kTokC : kTokC Q .tok = ∀ ns : List Int, ns.length ≤ 1000 → Q (.lst (ns.map .int)) := (rfl)
theorem w_blt {f : Bi} : evE Φ (.blt f es) ρ Q E = evEs Φ es ρ (kBlt f Q E) E := (rfl)
theorem w_kBlt {f : Bi} {xs : List D} : kBlt f Q E xs = bltD f xs Q E := (rfl)
theorem w_getd : evE Φ (.getd a b d) ρ Q E = evE Φ a ρ (kGetd Φ b d ρ Q E) E := by
  show evE Φ a ρ _ E = _
  congr 1
  funext x
  cases x <;> try rfl
  show evE Φ b ρ (fun k => evE Φ d ρ (fun d => M.opt (kyT _ k) (fun q => Q _) E) E) E = _
  simp only [opt_k]
  rfl
theorem w_kGetd {t : Bool} {kvs : List (D × D)} : kGetd Φ b d ρ Q E (.dct t kvs) = evE Φ b ρ (kGetd2 Φ t kvs d ρ Q E) E := (rfl)
theorem w_kGetd2 {t : Bool} {kvs : List (D × D)} : kGetd2 Φ t kvs d ρ Q E x = evE Φ d ρ (kGetd3 t kvs x Q) E := (rfl)
theorem w_kGetd3 {t : Bool} {kvs : List (D × D)} : kGetd3 t kvs x Q y = kOpt (kyT t x) fun q => Q ((lookD kvs q).getD y) := (rfl)
theorem w_isin {t : Ty} : evE Φ (.isin a t) ρ Q E = evE Φ a ρ (kIsin t Q E) E := (rfl)
theorem w_kIsin {t : Ty} : kIsin t Q E x = isinD t x (kBl Q) E := (rfl)
theorem w_sub : evE Φ (.sub a b) ρ Q E = evE Φ a ρ (kSub Φ b ρ Q E) E := (rfl)
theorem w_kSub : kSub Φ b ρ Q E x = evE Φ b ρ (kSub2 x Q E) E := (rfl)
theorem w_kSub2 : kSub2 x Q E y = subD x y Q E := (rfl)
theorem w_slc {lo hi : Oe} : evE Φ (.slc a lo hi) ρ Q E = evE Φ a ρ (kSlc Φ lo hi ρ Q E) E := by
  show evE Φ a ρ (fun x => evO Φ lo ρ (fun l => evO Φ hi ρ _ E) E) E = _
  congr 1
  funext x
  show _ = evO Φ lo ρ (kSlc2 Φ x hi ρ Q E) E
  congr 1
  funext l
  show _ = evO Φ hi ρ (kSlc3 x l Q) E
  congr 1
  funext h
  cases x <;> rfl
theorem w_kSlc {lo hi : Oe} : kSlc Φ lo hi ρ Q E x = evO Φ lo ρ (kSlc2 Φ x hi ρ Q E) E := (rfl)
theorem w_kSlc2 {hi : Oe} {l : Option Int} : kSlc2 Φ x hi ρ Q E l = evO Φ hi ρ (kSlc3 x l Q) E := (rfl)
theorem w_kSlcL {xs : List D} {l h : Option Int} : kSlc3 (.lst xs) l Q h = Q (.lst (cutD xs l h)) := (rfl)
theorem w_kSlcT {xs : List D} {l h : Option Int} : kSlc3 (.tup xs) l Q h = Q (.tup (cutD xs l h)) := (rfl)
theorem w_rev : evE Φ (.rev a) ρ Q E = evE Φ a ρ (kRev Q) E := by
  show evE Φ a ρ _ E = _
  congr 1
  funext x
  cases x <;> rfl
theorem w_kRevL {xs : List D} : kRev Q (.lst xs) = Q (.lst xs.reverse) := (rfl)
theorem w_kRevT {xs : List D} : kRev Q (.tup xs) = Q (.tup xs.reverse) := (rfl)
theorem w_comp {own : List Nat} : evE Φ (.comp own e tg it es) ρ Q E = evI Φ it ρ (kComp Φ own e tg es ρ Q) E := (rfl)
theorem w_kComp {own : List Nat} {xs : List D} : kComp Φ own e tg es ρ Q xs = compL (cmpF Φ own e tg es ρ) xs (fun ys => Q (.lst ys)) fun _ => False := (rfl)
theorem w_comp2 {own own1 : List Nat} {tg1 : Tg} {it1 : It} {fs1 : Els} : evE Φ (.comp2 own own1 e tg it es tg1 it1 fs1) ρ Q E = evI Φ it ρ (kComp2 Φ own own1 e tg es tg1 it1 fs1 ρ Q) E := rfl
theorem w_kComp2 {own own1 : List Nat} {tg1 : Tg} {it1 : It} {fs1 : Els} {xs : List D} : kComp2 Φ own own1 e tg es tg1 it1 fs1 ρ Q xs = compL2 (cmpG Φ own own1 e tg es tg1 it1 fs1 ρ) 0 xs (fun ys => Q (.lst ys)) fun _ => False := rfl
theorem w_itl {f : Bi} : evE Φ (.itl f it) ρ Q E = evI Φ it ρ (kItl f Q E) E := (rfl)
theorem w_kItl {f : Bi} {xs : List D} : kItl f Q E xs = bltD f [.lst xs] Q E := (rfl)
theorem w_cau {cn : Str} {cs : List Str} : evE Φ (.caught cn cs e) ρ Q E = evE Φ e ρ (fun _ => Q (.bl false)) (kCau cs cn Q) := (rfl)
theorem w_kCau {cn : Str} {cs : List Str} {x : Exn} : kCau cs cn Q x = (x.cls ∈ cs ∧ Q (.bl (decide (x.cls = cn)))) := (rfl)
theorem w_esN : evEs Φ .nil ρ L E = L [] := (rfl)
theorem w_esC : evEs Φ (.cons false e r) ρ L E = evE Φ e ρ (kEs Φ r ρ L E) E := (rfl)
theorem w_kEs : kEs Φ r ρ L E x = evEs Φ r ρ (kEs2 x L) E := (rfl)
theorem w_kEs2 {xs : List D} : kEs2 x L xs = L (x :: xs) := (rfl)
theorem w_esS : evEs Φ (.cons true e r) ρ L E = evE Φ e ρ (kEss Φ r ρ L E) E := (rfl)
theorem w_kEssL {ys : List D} : kEss Φ r ρ L E (.lst ys) = evEs Φ r ρ (kEss2 ys L) E := (rfl)
theorem w_kEssT {ys : List D} : kEss Φ r ρ L E (.tup ys) = evEs Φ r ρ (kEss2 ys L) E := (rfl)
theorem w_kEss2 {xs ys : List D} : kEss2 ys L xs = L (ys ++ xs) := (rfl)
theorem w_oN {O : Option Int → Prop} : evO Φ .none ρ O E = O none := (rfl)
theorem w_oS {O : Option Int → Prop} : evO Φ (.some e) ρ O E = evE Φ e ρ (kO O) E := by
  show evE Φ e ρ _ E = _
  congr 1
  funext x
  cases x <;> rfl
theorem w_kO {O : Option Int → Prop} {n : Int} : kO O (.int n) = O (some n) := (rfl)
theorem w_fN {B : Bool → Prop} : evF Φ .nil ρ B E = B true := (rfl)
theorem w_fC {B : Bool → Prop} {s : Bool} : evF Φ (.cons s e r) ρ B E = evE Φ e ρ (kF B E) E := (rfl)
theorem w_kF {B : Bool → Prop} : kF B E x = truthD x B E := (rfl)
theorem w_seq : evI Φ (.seq e) ρ L E = evE Φ e ρ (kSeq L E) E := (rfl)
theorem w_kSeqL {xs : List D} : kSeq L E (.lst xs) = L xs := (rfl)
theorem w_kSeqT {xs : List D} : kSeq L E (.tup xs) = L xs := (rfl)
theorem w_scr : evI Φ (.scr e) ρ L E = evE Φ e ρ (kScr L) E := by
  show evE Φ e ρ _ E = _
  congr 1
  funext x
  cases x <;> rfl
theorem w_kScr {ns : List Int} : kScr L (.scr ns) = L (ns.map .int) := (rfl)
theorem w_rng1 : evI Φ (.rng1 e) ρ L E = evE Φ e ρ (kRng1 L) E := by
  show evE Φ e ρ _ E = _
  congr 1
  funext x
  cases x <;> rfl
theorem w_kRng1 {n : Int} : kRng1 L (.int n) = ((small62 n ∧ n.toNat ≤ sizeLine) ∧ L (rngD 0 n.toNat 1)) := (rfl)
theorem w_rng2 : evI Φ (.rng2 a b) ρ L E = evE Φ a ρ (kRng2 Φ b ρ L E) E := by
  show evE Φ a ρ (fun x => evE Φ b ρ _ E) E = _
  congr 1
  funext x
  show _ = evE Φ b ρ (kRng2b x L) E
  congr 1
  funext y
  cases x <;> cases y <;> rfl
theorem w_kRng2 : kRng2 Φ b ρ L E x = evE Φ b ρ (kRng2b x L) E := (rfl)
theorem w_kRng2b {n m : Int} : kRng2b (.int n) L (.int m) = ((small62 n ∧ small62 m ∧ (m - n).toNat ≤ sizeLine) ∧ L (rngD n (m - n).toNat 1)) := (rfl)
theorem w_rng3 {n : Int} : evI Φ (.rng3 a b n) ρ L E = evE Φ a ρ (kRng3 Φ b n ρ L E) E := by
  show evE Φ a ρ (fun x => evE Φ b ρ _ E) E = _
  congr 1
  funext x
  show _ = evE Φ b ρ (kRng3b n x L) E
  congr 1
  funext y
  cases x <;> cases y <;> rfl
theorem w_kRng3 {n : Int} : kRng3 Φ b n ρ L E x = evE Φ b ρ (kRng3b n x L) E := (rfl)
theorem w_kRng3b {n m q : Int} : kRng3b q (.int n) L (.int m) = ((RgC n m q (rngN n m q) ∧ rngN n m q ≤ sizeLine) ∧ L (rngD n (rngN n m q) q)) := (rfl)
theorem w_enum : evI Φ (.enum e) ρ L E = evE Φ e ρ (kEnum L E) E := (rfl)
theorem w_kEnumL {xs : List D} : kEnum L E (.lst xs) = L (enumD 0 xs) := (rfl)
theorem w_kEnumT {xs : List D} : kEnum L E (.tup xs) = L (enumD 0 xs) := (rfl)
theorem w_zip : evI Φ (.zip a b) ρ L E = evE Φ a ρ (kZip Φ b ρ L E) E := by
  show evE Φ a ρ (fun x => evE Φ b ρ _ E) E = _
  congr 1
  funext x
  show _ = evE Φ b ρ (kZip2 x L) E
  congr 1
  funext y
  cases x <;> cases y <;> rfl
theorem w_kZip : kZip Φ b ρ L E x = evE Φ b ρ (kZip2 x L) E := (rfl)
theorem w_kZipL {xs ys : List D} : kZip2 (.lst xs) L (.lst ys) = L (zipD xs ys) := (rfl)
theorem w_kZipT {xs ys : List D} : kZip2 (.tup xs) L (.tup ys) = L (zipD xs ys) := (rfl)
/-! statements -/
theorem w_bN : evB Φ .nil ρ S E = S (.nx, ρ) := (rfl)
theorem w_bC {s : Sm} {r : Sms} : evB Φ (.cons s r) ρ S E = evS Φ s ρ (kB Φ r S E) E := by
  show evS Φ s ρ _ E = _
  congr 1
  funext q
  obtain ⟨f, ρ'⟩ := q
  cases f <;> rfl
theorem w_kBnx {r : Sms} {ρ' : Env} : kB Φ r S E (.nx, ρ') = evB Φ r ρ' S E := (rfl)
theorem w_kBrt {r : Sms} {ρ' : Env} : kB Φ r S E (.rt x, ρ') = S (.rt x, ρ') := (rfl)
theorem w_kBbk {r : Sms} {ρ' : Env} : kB Φ r S E (.bk, ρ') = S (.bk, ρ') := (rfl)
theorem w_kBct {r : Sms} {ρ' : Env} : kB Φ r S E (.ct, ρ') = S (.ct, ρ') := (rfl)
theorem w_set {t : Ow} : evS Φ (.set i t e) ρ S E = evE Φ e ρ (kSet i ρ S) E := (rfl)
theorem w_kSet : kSet i ρ S x = S (.nx, setE ρ i x) := (rfl)
theorem w_asg : evS Φ (.asg tg e) ρ S E = evE Φ e ρ (kAsg tg ρ S E) E := (rfl)
theorem w_kAsg : kAsg tg ρ S E x = asgT tg x ρ (fun ρ' => S (.nx, ρ')) E := (rfl)
theorem w_par2 {t t' : Ow} : evS Φ (.par2 i j t t' a b) ρ S E = evE Φ a ρ (kPar2 Φ i j b ρ S E) E := (rfl)
theorem w_kPar2 : kPar2 Φ i j b ρ S E x = evE Φ b ρ (kPar2b i j x ρ S) E := (rfl)
theorem w_kPar2b : kPar2b i j x ρ S y = S (.nx, setE (setE ρ i x) j y) := (rfl)
theorem w_par3 {t t' t'' : Ow} : evS Φ (.par3 i j k t t' t'' a b d) ρ S E = evE Φ a ρ (kPar3 Φ i j k b d ρ S E) E := (rfl)
theorem w_kPar3 : kPar3 Φ i j k b d ρ S E x = evE Φ b ρ (kPar3b Φ i j k x d ρ S E) E := (rfl)
theorem w_kPar3b : kPar3b Φ i j k x d ρ S E y = evE Φ d ρ (kPar3c i j k x y ρ S) E := (rfl)
theorem w_kPar3c : kPar3c i j k x y ρ S z = S (.nx, setE (setE (setE ρ i x) j y) k z) := (rfl)
theorem w_app {p : Pl} : evS Φ (.app p e) ρ S E = keysP Φ p ρ (kApp Φ e ρ S E) E := by
  show keysP Φ p ρ (fun r => M.opt _ (fun _ => evE Φ e ρ (fun y => M.opt _ (fun ρ' => S (.nx, ρ')) E) E) E) E = _
  simp only [opt_k]
  rfl
theorem w_kApp {q : Nat × List Int} : kApp Φ e ρ S E q = kOpt ((getE ρ q.1 q.2).bind asLst) fun _ => evE Φ e ρ (kApp2 q ρ S) E := (rfl)
theorem w_kApp2 {q : Nat × List Int} : kApp2 q ρ S y = kOpt (updE ρ q.1 q.2 (appD y)) fun ρ' => S (.nx, ρ') := (rfl)
theorem w_put {p : Pl} : evS Φ (.put p a e) ρ S E = evE Φ e ρ (kPut Φ p a ρ S E) E := by
  show evE Φ e ρ (fun y => keysP Φ p ρ (fun r => M.opt _ (fun _ => evE Φ a ρ (fun x => M.opt _ (fun ρ' => S (.nx, ρ')) E) E) E) E) E = _
  simp only [opt_k]
  rfl
theorem w_kPut {p : Pl} : kPut Φ p a ρ S E y = keysP Φ p ρ (kPut2 Φ a y ρ S E) E := (rfl)
theorem w_kPut2 {q : Nat × List Int} : kPut2 Φ a y ρ S E q = kOpt (getE ρ q.1 q.2) fun _ => evE Φ a ρ (kPut3 q y ρ S) E := (rfl)
theorem w_kPut3 {q : Nat × List Int} : kPut3 q y ρ S x = kOpt (updE ρ q.1 q.2 (setD x y)) fun ρ' => S (.nx, ρ') := (rfl)
theorem w_pop {p : Pl} : evS Φ (.pop i p) ρ S E = keysP Φ p ρ (kPop i ρ S) E := by
  show keysP Φ p ρ (fun r => M.opt _ (fun y => M.opt _ (fun ρ' => S (.nx, setE ρ' i y)) E) E) E = _
  simp only [opt_k]
  rfl
theorem w_kPop {q : Nat × List Int} : kPop i ρ S q = kOpt ((getE ρ q.1 q.2).bind lastD) fun y => kOpt (updE ρ q.1 q.2 popD) fun ρ' => S (.nx, setE ρ' i y) := (rfl)
theorem w_parP {p : Pl} : evS Φ (.parP i j a p) ρ S E = evE Φ a ρ (kParP Φ i j p ρ S E) E := by
  show evE Φ a ρ (fun x => keysP Φ p ρ (fun r => M.opt _ (fun y => M.opt _ (fun ρ' => S (.nx, setE (setE ρ' i x) j y)) E) E) E) E = _
  simp only [opt_k]
  rfl
theorem w_kParP {p : Pl} : kParP Φ i j p ρ S E x = keysP Φ p ρ (kParP2 i j x ρ S) E := (rfl)
theorem w_kParP2 {q : Nat × List Int} : kParP2 i j x ρ S q = kOpt ((getE ρ q.1 q.2).bind lastD) fun y => kOpt (updE ρ q.1 q.2 popD) fun ρ' => S (.nx, setE (setE ρ' i x) j y) := (rfl)
theorem w_swap {p : Pl} : evS Φ (.swap p a b) ρ S E = keysP Φ p ρ (kSwap Φ a b ρ S E) E := by
  show keysP Φ p ρ (fun r => evE Φ a ρ (fun x => evE Φ b ρ (fun y => M.opt _ (fun ρ' => S (.nx, ρ')) E) E) E) E = _
  simp only [opt_k]
  rfl
theorem w_kSwap {q : Nat × List Int} : kSwap Φ a b ρ S E q = evE Φ a ρ (kSwap2 Φ q b ρ S E) E := (rfl)
theorem w_kSwap2 {q : Nat × List Int} : kSwap2 Φ q b ρ S E x = evE Φ b ρ (kSwap3 q x ρ S) E := (rfl)
theorem w_kSwap3 {q : Nat × List Int} : kSwap3 q x ρ S y = kOpt (updE ρ q.1 q.2 (swapD x y)) fun ρ' => S (.nx, ρ') := (rfl)
theorem w_aug : evS Φ (.aug i o e) ρ S E = kOpt (ρ[i]?.join) fun x => evE Φ e ρ (kAug i o x ρ S E) E := opt_k
theorem w_kAug : kAug i o x ρ S E y = augD o x y (fun z => S (.nx, setE ρ i z)) E := (rfl)
theorem w_augP {p : Pl} : evS Φ (.augP p a o e) ρ S E = keysP Φ p ρ (kAugP Φ a o e ρ S E) E := by
  show keysP Φ p ρ (fun r => evE Φ a ρ (fun q => M.opt _ (fun d => subD d q (fun x => evE Φ e ρ (fun y => binD o x y (fun z => M.opt _ (fun ρ' => S (.nx, ρ')) E) E) E) E) E) E) E = _
  simp only [opt_k]
  rfl
theorem w_kAugP {q : Nat × List Int} : kAugP Φ a o e ρ S E q = evE Φ a ρ (kAugP2 Φ q o e ρ S E) E := (rfl)
theorem w_kAugP2 {q : Nat × List Int} : kAugP2 Φ q o e ρ S E y = kOpt (getE ρ q.1 q.2) fun d => subD d y (fun x => evE Φ e ρ (kAugP3 q o y x ρ S E) E) E := (rfl)
theorem w_kAugP3 {q : Nat × List Int} : kAugP3 q o z x ρ S E y = binD o x y (fun w => kOpt (updE ρ q.1 q.2 (setD z w)) fun ρ' => S (.nx, ρ')) E := (rfl)
theorem w_keysV : keysP Φ (.v i) ρ P E = P (i, []) := (rfl)
theorem w_if {p q : Sms} : evS Φ (.ife e p q) ρ S E = evE Φ e ρ (kIf Φ p q ρ S E) E := by
  show evE Φ e ρ (fun x => truthD x (fun t => (if t = true then evB Φ p ρ else evB Φ q ρ) S E) E) E = _
  congr 1
  funext x
  show _ = truthD x (kIfB Φ p q ρ S E) E
  congr 1
  funext t
  cases t <;> rfl
theorem w_kIf {p q : Sms} : kIf Φ p q ρ S E x = truthD x (kIfB Φ p q ρ S E) E := (rfl)
theorem w_kIfT {p q : Sms} : kIfB Φ p q ρ S E true = evB Φ p ρ S E := (rfl)
theorem w_kIfF {p q : Sms} : kIfB Φ p q ρ S E false = evB Φ q ρ S E := (rfl)
theorem w_for {s : Sms} : evS Φ (.for_ tg it s) ρ S E = evI Φ it ρ (kFor Φ tg s ρ S E) E := (rfl)
theorem w_kFor {s : Sms} {xs : List D} : kFor Φ tg s ρ S E xs = forL (forF Φ tg s) xs ρ S E := (rfl)
theorem w_whl {s : Sms} : evS Φ (.whl e s) ρ S E = whS Φ e s ρ S E := (rfl)
theorem w_ret : evS Φ (.ret e) ρ S E = evE Φ e ρ (kRet ρ S) E := (rfl)
theorem w_kRet : kRet ρ S x = S (.rt x, ρ) := (rfl)
theorem w_retN : evS Φ .retN ρ S E = S (.rt .non, ρ) := (rfl)
theorem w_brk : evS Φ .brk ρ S E = S (.bk, ρ) := (rfl)
theorem w_cnt : evS Φ .cnt ρ S E = S (.ct, ρ) := (rfl)
theorem w_pas : evS Φ .pas ρ S E = S (.nx, ρ) := (rfl)
theorem w_rai0 {cn : Str} : evS Φ (.raise cn .none) ρ S E = E ⟨cn, none⟩ := (rfl)
theorem w_rai1 {cn : Str} : evS Φ (.raise cn (.some e)) ρ S E = evE Φ e ρ (kRaise cn E) E := (rfl)
theorem w_kRaise {cn : Str} : kRaise cn E x = E ⟨cn, some x⟩ := (rfl)
theorem w_exp : evS Φ (.exp e) ρ S E = evE Φ e ρ (kExp ρ S) E := (rfl)
theorem w_kExp : kExp ρ S x = S (.nx, ρ) := (rfl)
theorem w_mv : evS Φ (.mv i j) ρ S E = kOpt (ρ[j]?.join) fun d => S (.nx, setE (ρ.set j none) i d) := opt_k
theorem w_tokInc : evS Φ (.tokInc i) ρ S E = kOpt (ρ[i]?.join) fun x => match x with | .tok => S (.nx, ρ) | _ => False := by
  rw [← opt_k (E := E)]
  show M.opt _ _ _ = _
  congr 1
  funext x
  cases x <;> rfl
theorem w_tokDiv : evS Φ (.tokDiv i e) ρ S E = kOpt (ρ[i]?.join) fun x => match x with | .tok => evE Φ e ρ (kTokDiv ρ S) E | _ => False := by
  rw [← opt_k (E := E)]
  show M.opt _ _ _ = _
  congr 1
  funext x
  cases x <;> try rfl
  show evE Φ e ρ _ E = _
  congr 1
  funext y
  cases y <;> rfl
theorem w_kTokDiv {n : Int} : kTokDiv ρ S (.int n) = (CDivW 0 n ∧ S (.nx, ρ)) := (rfl)
theorem w_tokNew : evE Φ (.tokNew i j) ρ Q E = kOpt (ρ[i]?.join) fun x => kOpt (ρ[j]?.join) fun y => match x, y with
    | .int w, .lst cs => (0 ≤ w ∧ cs.length ≤ 1000) ∧ kOpt (intsD cs) fun _ => Q .tok
    | _, _ => False := by
  rw [← opt_k (E := E)]
  show M.opt _ (fun x => M.opt _ (fun y => _) E) E = _
  congr 1
  funext x
  rw [opt_k]
  congr 1
  funext y
  cases x <;> cases y <;> try rfl
  show (_ ∧ M.opt _ _ E) = _
  rw [opt_k]
  rfl
theorem w_D {n : Nat} {nn : Bool} {p : Sms} {ds : List D} : evD Φ n nn p ds Q E = evB Φ p (ds.map some ++ List.replicate (n - ds.length) none) (kD nn Q) E := by
  show evB Φ p _ _ E = _
  congr 1
  funext q
  obtain ⟨f, ρ'⟩ := q
  cases f <;> try rfl
  cases nn
  · exact propext ⟨fun z => z.elim, fun z => by cases z.1⟩
  · exact propext ⟨fun z => ⟨rfl, z⟩, fun z => z.2⟩
theorem w_kDrt {nn : Bool} : kD nn Q (.rt x, ρ) = Q x := (rfl)
theorem w_kDnx {nn : Bool} : kD nn Q (.nx, ρ) = (nn = true ∧ Q .non) := (rfl)
/-! by values -/
theorem v_truB {b : Bool} {B : Bool → Prop} : truthD (.bl b) B E = B b := (rfl)
theorem v_truI {n : Int} {B : Bool → Prop} : truthD (.int n) B E = B (n != 0) := (rfl)
theorem v_truL {xs : List D} {B : Bool → Prop} : truthD (.lst xs) B E = B (!xs.isEmpty) := (rfl)
theorem v_truT {xs : List D} {B : Bool → Prop} : truthD (.tup xs) B E = B (!xs.isEmpty) := (rfl)
theorem v_add {n m : Int} : binD .add (.int n) (.int m) Q E = Q (.int (n + m)) := (rfl)
theorem v_sub {n m : Int} : binD .sub (.int n) (.int m) Q E = Q (.int (n - m)) := (rfl)
theorem v_mul {n m : Int} : binD .mul (.int n) (.int m) Q E = (IntMulOk n m ∧ Q (.int (n * m))) := (rfl)
theorem v_fdiv {n m : Int} : binD .fdiv (.int n) (.int m) Q E = (CDivW n m ∧ Q (.int (n / m))) := (rfl)
theorem v_mod {n m : Int} : binD .mod (.int n) (.int m) Q E = (0 < m ∧ Q (.int (n % m))) := (rfl)
theorem v_pow {n m : Int} : binD .pow (.int n) (.int m) Q E = (CPow n m ∧ Q (.int (n ^ m.toNat))) := (rfl)
theorem v_addL {xs ys : List D} : binD .add (.lst xs) (.lst ys) Q E = (xs.length + ys.length ≤ sizeLine ∧ Q (.lst (xs ++ ys))) := (rfl)
theorem v_addT {xs ys : List D} : binD .add (.tup xs) (.tup ys) Q E = (xs.length + ys.length ≤ sizeLine ∧ Q (.tup (xs ++ ys))) := (rfl)
theorem v_cat {xs ys : List D} : binD .cat (.lst xs) (.lst ys) Q E = (xs.length + ys.length ≤ sizeLine ∧ Q (.lst (xs ++ ys))) := (rfl)
theorem v_rep {xs : List D} {n : Int} : binD .rep (.lst xs) (.int n) Q E = ((-(2 ^ 63) ≤ n ∧ n < 2 ^ 63 ∧ xs.length * n.toNat ≤ sizeLine) ∧ Q (.lst (List.replicate n.toNat xs).flatten)) := (rfl)
theorem v_mulL {xs : List D} {n : Int} : binD .mul (.lst xs) (.int n) Q E = ((-(2 ^ 63) ≤ n ∧ n < 2 ^ 63 ∧ xs.length * n.toNat ≤ sizeLine) ∧ Q (.lst (List.replicate n.toNat xs).flatten)) := (rfl)
theorem v_mulT {xs : List D} {n : Int} : binD .mul (.tup xs) (.int n) Q E = ((-(2 ^ 63) ≤ n ∧ n ≤ 1000 ∧ xs.length ≤ 1000) ∧ Q (.tup (List.replicate n.toNat xs).flatten)) := (rfl)
theorem v_augA {n m : Int} : augD .add (.int n) (.int m) Q E = Q (.int (n + m)) := (rfl)
theorem v_augS {n m : Int} : augD .sub (.int n) (.int m) Q E = Q (.int (n - m)) := (rfl)
theorem eqvB {b b' : Bool} : eqv (.bl b) (.bl b') = decide (b = b') := by cases b <;> cases b' <;> rfl
theorem okI {n : Int} : okEq (.int n) = true := by unfold okEq; simp [noD, toPy, PyData.depth]
theorem v_lt {n m : Int} {B : Bool → Prop} : cmpD .lt (.int n) (.int m) B E = B (decide (n < m)) := (rfl)
theorem v_le {n m : Int} {B : Bool → Prop} : cmpD .le (.int n) (.int m) B E = B (decide (n ≤ m)) := (rfl)
theorem v_gt {n m : Int} {B : Bool → Prop} : cmpD .gt (.int n) (.int m) B E = B (decide (m < n)) := (rfl)
theorem v_ge {n m : Int} {B : Bool → Prop} : cmpD .ge (.int n) (.int m) B E = B (decide (m ≤ n)) := (rfl)
theorem v_isN {B : Bool → Prop} : cmpD .isN x y B E = B (isNonD x) := (rfl)
theorem v_notN {B : Bool → Prop} : cmpD .notN x y B E = B (!isNonD x) := (rfl)
theorem v_eq {B : Bool → Prop} : cmpD .eq x y B E = ((okEq x = true ∧ okEq y = true) ∧ B (eqv x y)) := (rfl)
theorem v_ne {B : Bool → Prop} : cmpD .ne x y B E = ((okEq x = true ∧ okEq y = true) ∧ B (!eqv x y)) := (rfl)
theorem v_lenL {xs : List D} : bltD .len [.lst xs] Q E = Q (.int xs.length) := (rfl)
theorem v_lenT {xs : List D} : bltD .len [.tup xs] Q E = Q (.int xs.length) := (rfl)
theorem v_lenS {ns : List Int} : bltD .len [.scr ns] Q E = Q (.int ns.length) := (rfl)
theorem v_tupL {xs : List D} : bltD .tuple [.lst xs] Q E = Q (.tup xs) := (rfl)
theorem v_tupT {xs : List D} : bltD .tuple [.tup xs] Q E = Q (.tup xs) := (rfl)
theorem v_lstL {xs : List D} : bltD .list [.lst xs] Q E = Q (.lst xs) := (rfl)
theorem v_lstT {xs : List D} : bltD .list [.tup xs] Q E = Q (.lst xs) := (rfl)
theorem v_intI {n : Int} : bltD .int [.int n] Q E = Q (.int n) := (rfl)
theorem v_absI {n : Int} : bltD .abs [.int n] Q E = Q (.int (if n < 0 then -n else n)) := (rfl)
theorem v_repB {b : Bool} : bltD .repr [.bl b] Q E = Q (.str (if b then "True" else "False")) := (rfl)
theorem v_repN : bltD .repr [.non] Q E = Q (.str "None") := (rfl)
theorem v_min2 {n m : Int} : bltD .min2 [.int n, .int m] Q E = Q (.int (if m < n then m else n)) := (rfl)
theorem v_max2 {n m : Int} : bltD .max2 [.int n, .int m] Q E = Q (.int (if m > n then m else n)) := (rfl)
theorem v_srtL {xs : List D} : bltD .sorted [.lst xs] Q E = kOpt (intsD xs) fun ns => Q (.lst ((sortI ns).map .int)) := opt_k
theorem v_srtT {xs : List D} : bltD .sorted [.tup xs] Q E = kOpt (intsD xs) fun ns => Q (.lst ((sortI ns).map .int)) := opt_k
theorem v_sumL {xs : List D} : bltD .sum [.lst xs] Q E = kOpt (intsD xs) fun ns => Q (.int ns.sum) := opt_k
theorem v_sumT {xs : List D} : bltD .sum [.tup xs] Q E = kOpt (intsD xs) fun ns => Q (.int ns.sum) := opt_k
theorem v_allL {xs : List D} : bltD .all [.lst xs] Q E = kOpt (blsD xs) fun bs => Q (.bl (bs.all id)) := opt_k
theorem v_anyL {xs : List D} : bltD .any [.lst xs] Q E = kOpt (blsD xs) fun bs => Q (.bl (bs.any id)) := opt_k
theorem v_subL {xs : List D} {n : Int} : subD (.lst xs) (.int n) Q E = kOpt (ixD xs n) Q := opt_k
theorem v_subT {xs : List D} {n : Int} : subD (.tup xs) (.int n) Q E = kOpt (ixD xs n) Q := opt_k
theorem v_subD {t : Bool} {kvs : List (D × D)} : subD (.dct t kvs) x Q E = kOpt (kyT t x) fun q => kOpt (lookD kvs q) Q := by
  show M.opt _ (fun q => M.opt _ Q E) E = _
  rw [opt_k]
  simp only [opt_k]
theorem v_asgN {A : Env → Prop} : asgT (.nm i) x ρ A E = A (setE ρ i x) := (rfl)
theorem v_asgTL {ts : Tgs} {xs : List D} {A : Env → Prop} : asgT (.tp ts) (.lst xs) ρ A E = asgTs ts xs ρ A E := (rfl)
theorem v_asgTT {ts : Tgs} {xs : List D} {A : Env → Prop} : asgT (.tp ts) (.tup xs) ρ A E = asgTs ts xs ρ A E := (rfl)
theorem v_asgsN {A : Env → Prop} : asgTs .nil [] ρ A E = A ρ := (rfl)
theorem v_asgsC {t : Tg} {ts : Tgs} {xs : List D} {A : Env → Prop} : asgTs (.cons t ts) (x :: xs) ρ A E = asgT t x ρ (fun ρ' => asgTs ts xs ρ' A E) E := (rfl)
end
theorem v_eqI {n m : Int} {B : Bool → Prop} {E : Exn → Prop} : cmpD .eq (.int n) (.int m) B E = B (decide (n = m)) := by
  rw [v_eq, okI, okI]
  exact propext ⟨fun z => z.2, fun z => ⟨⟨rfl, rfl⟩, z⟩⟩
theorem v_neI {n m : Int} {B : Bool → Prop} {E : Exn → Prop} : cmpD .ne (.int n) (.int m) B E = B (!decide (n = m)) := by
  rw [v_ne, okI, okI]
  exact propext ⟨fun z => z.2, fun z => ⟨⟨rfl, rfl⟩, z⟩⟩
theorem v_eqB {n m : Bool} {B : Bool → Prop} {E : Exn → Prop} : cmpD .eq (.bl n) (.bl m) B E = B (decide (n = m)) := by
  rw [v_eq, eqvB]
  exact propext ⟨fun z => z.2, fun z => ⟨⟨rfl, rfl⟩, z⟩⟩
theorem w_forK {Φ : Fen} {tg : Tg} {i : Nat} {b : Sms} {ρ : Env} {S : Fl × Env → Prop} {E : Exn → Prop} : evS Φ (.forK tg i b) ρ S E = kOpt (ρ[i]?.join) fun x => match x with
    | .dct _ kvs => forL (forF Φ tg b) (kvs.map (·.1)) ρ (kForK S) fun _ => False
    | _ => False := by
  rw [← opt_k (E := E)]
  show M.opt _ _ _ = _
  congr 1
  funext x
  cases x <;> try rfl
  show forL _ _ ρ _ _ = forL _ _ ρ (kForK S) _
  congr 1
  funext q
  obtain ⟨f, ρ'⟩ := q
  cases f <;> rfl
theorem w_kForK {S : Fl × Env → Prop} {ρ : Env} : kForK S (.nx, ρ) = S (.nx, ρ) := (rfl)
theorem v_inL {xs : List D} {x : D} {B : Bool → Prop} {E : Exn → Prop} : cmpD .inn x (.lst xs) B E = ((flatD x = true ∧ xs.all flatD = true) ∧ B (anyEq x xs)) := by cases x <;> rfl
theorem v_inT {xs : List D} {x : D} {B : Bool → Prop} {E : Exn → Prop} : cmpD .inn x (.tup xs) B E = ((flatD x = true ∧ xs.all flatD = true) ∧ B (anyEq x xs)) := by cases x <;> rfl
theorem v_niL {xs : List D} {x : D} {B : Bool → Prop} {E : Exn → Prop} : cmpD .nin x (.lst xs) B E = ((flatD x = true ∧ xs.all flatD = true) ∧ B (!anyEq x xs)) := by cases x <;> rfl
theorem v_niT {xs : List D} {x : D} {B : Bool → Prop} {E : Exn → Prop} : cmpD .nin x (.tup xs) B E = ((flatD x = true ∧ xs.all flatD = true) ∧ B (!anyEq x xs)) := by cases x <;> rfl
theorem v_app {xs : List D} {y : D} : appD y (.lst xs) = if xs.length < 16777216 then some (.lst (xs ++ [y])) else none := (rfl)
theorem v_kOite {α β : Type} {c : Prop} {_ : Decidable c} {a : α} {f : α → β} {Q : β → Prop} : kOpt (Option.map f (if c then some a else none)) Q = (c ∧ Q (f a)) := by
  by_cases h : c
  · rw [if_pos h]
    exact propext ⟨fun z => ⟨h, z⟩, fun z => z.2⟩
  · rw [if_neg h]
    exact propext ⟨fun z => z.elim, fun z => h z.1⟩
theorem v_kOite0 {α : Type} {c : Prop} {_ : Decidable c} {a : α} {Q : α → Prop} : kOpt (if c then some a else none) Q = (c ∧ Q a) := by
  by_cases h : c
  · rw [if_pos h]
    exact propext ⟨fun z => ⟨h, z⟩, fun z => z.2⟩
  · rw [if_neg h]
    exact propext ⟨fun z => z.elim, fun z => h z.1⟩
theorem v_setL {xs : List D} {n : Int} {y : D} : setD (.int n) y (.lst xs) = (ixN xs.length n).map fun j => .lst (xs.set j y) := (rfl)
theorem v_popL {xs : List D} {d : D} : popD (.lst (xs ++ [d])) = some (.lst xs) := by
  show (if xs ++ [d] = [] then none else some (D.lst (xs ++ [d]).dropLast)) = _
  rw [if_neg (by simp), List.dropLast_concat]
theorem v_lastL {xs : List D} {d : D} : lastD (.lst (xs ++ [d])) = some d := by
  show (xs ++ [d]).getLast? = _
  simp
theorem v_asL {xs : List D} : asLst (.lst xs) = some xs := (rfl)
theorem v_isnN : isNonD .non = true := (rfl)
theorem v_isnI {n : Int} : isNonD (.int n) = false := (rfl)
theorem v_isnB {b : Bool} : isNonD (.bl b) = false := (rfl)
theorem v_isnS {y : Str} : isNonD (.str y) = false := (rfl)
theorem v_isnL {xs : List D} : isNonD (.lst xs) = false := (rfl)
theorem v_isnT {xs : List D} : isNonD (.tup xs) = false := (rfl)
section
variable {B : Bool → Prop} {E : Exn → Prop} {n : Int} {b : Bool} {x : Str} {xs : List D}
theorem v_iII : isinD .int (.int n) B E = B true := (rfl)
theorem v_iIB : isinD .int (.bl b) B E = B true := (rfl)
theorem v_iIN : isinD .int .non B E = B false := (rfl)
theorem v_iIS : isinD .int (.str x) B E = B false := (rfl)
theorem v_iIL : isinD .int (.lst xs) B E = B false := (rfl)
theorem v_iIT : isinD .int (.tup xs) B E = B false := (rfl)
theorem v_iBI : isinD .bool (.int n) B E = B false := (rfl)
theorem v_iBB : isinD .bool (.bl b) B E = B true := (rfl)
theorem v_iBN : isinD .bool .non B E = B false := (rfl)
theorem v_iBS : isinD .bool (.str x) B E = B false := (rfl)
theorem v_iBL : isinD .bool (.lst xs) B E = B false := (rfl)
theorem v_iBT : isinD .bool (.tup xs) B E = B false := (rfl)
theorem v_iSI : isinD .str (.int n) B E = B false := (rfl)
theorem v_iSB : isinD .str (.bl b) B E = B false := (rfl)
theorem v_iSN : isinD .str .non B E = B false := (rfl)
theorem v_iSS : isinD .str (.str x) B E = B true := (rfl)
theorem v_iSL : isinD .str (.lst xs) B E = B false := (rfl)
theorem v_iST : isinD .str (.tup xs) B E = B false := (rfl)
theorem v_iLI : isinD .list (.int n) B E = B false := (rfl)
theorem v_iLB : isinD .list (.bl b) B E = B false := (rfl)
theorem v_iLN : isinD .list .non B E = B false := (rfl)
theorem v_iLS : isinD .list (.str x) B E = B false := (rfl)
theorem v_iLL : isinD .list (.lst xs) B E = B true := (rfl)
theorem v_iLT : isinD .list (.tup xs) B E = B false := (rfl)
theorem v_iTI : isinD .tuple (.int n) B E = B false := (rfl)
theorem v_iTB : isinD .tuple (.bl b) B E = B false := (rfl)
theorem v_iTN : isinD .tuple .non B E = B false := (rfl)
theorem v_iTS : isinD .tuple (.str x) B E = B false := (rfl)
theorem v_iTL : isinD .tuple (.lst xs) B E = B false := (rfl)
theorem v_iTT : isinD .tuple (.tup xs) B E = B true := (rfl)
theorem v_iDI : isinD .dict (.int n) B E = B false := (rfl)
theorem v_iDB : isinD .dict (.bl b) B E = B false := (rfl)
theorem v_iDN : isinD .dict .non B E = B false := (rfl)
theorem v_iDS : isinD .dict (.str x) B E = B false := (rfl)
theorem v_iDL : isinD .dict (.lst xs) B E = B false := (rfl)
theorem v_iDT : isinD .dict (.tup xs) B E = B false := (rfl)
end
theorem v_p1 : CPow 10 18 = True := eq_true (by unfold CPow; decide)
theorem v_p2 : CPow 2 61 = True := eq_true (by unfold CPow; decide)
theorem v_p3 : CPow 2 17 = True := eq_true (by unfold CPow; decide)
theorem v_p4 : CPow 2 50 = True := eq_true (by unfold CPow; decide)
theorem v_p5 : CPow 10 20 = True := eq_true (by unfold CPow; decide)
/-! ### rules of loops -/
def Mono (Φ : Fen) : Prop := ∀ i xs, Le (Φ i xs) (Φ i xs)
/-- returns d -/
def Rts (Φ : Fen) (i : Nat) (xs : List D) (d : D) : Prop := ∀ (Q : D → Prop) (E : Exn → Prop), Q d → Φ i xs Q E
/-- raises -/
def Ras (Φ : Fen) (i : Nat) (xs : List D) (c : Str) (a : Option D := none) : Prop := ∀ (Q : D → Prop) (E : Exn → Prop), E ⟨c, a⟩ → Φ i xs Q E
/-- what follows a turn: I told of the env where another turn comes -/
def kTurn (I : Env → Prop) (S : Fl × Env → Prop) : Fl × Env → Prop
  | (.nx, ρ') => I ρ'
  | (.ct, ρ') => I ρ'
  | (.bk, ρ') => S (.nx, ρ')
  | (.rt d, ρ') => S (.rt d, ρ')
theorem w_tNx {I : Env → Prop} {S : Fl × Env → Prop} {ρ' : Env} : kTurn I S (.nx, ρ') = I ρ' := (rfl)
theorem w_tCt {I : Env → Prop} {S : Fl × Env → Prop} {ρ' : Env} : kTurn I S (.ct, ρ') = I ρ' := (rfl)
theorem w_tBk {I : Env → Prop} {S : Fl × Env → Prop} {ρ' : Env} : kTurn I S (.bk, ρ') = S (.nx, ρ') := (rfl)
theorem w_tRt {I : Env → Prop} {S : Fl × Env → Prop} {ρ' : Env} {d : D} : kTurn I S (.rt d, ρ') = S (.rt d, ρ') := (rfl)
/-- what follows a while's test -/
def kWhl (Φ : Fen) (b : Sms) (I : Nat → Env → Prop) (m : Nat) (ρ : Env) (S : Fl × Env → Prop) (E : Exn → Prop) : Bool → Prop
  | true => evB Φ b ρ (kTurn (fun ρ' => ∃ m', m' < m ∧ I m' ρ') S) E
  | false => S (.nx, ρ)
theorem w_whT {Φ : Fen} {b : Sms} {I : Nat → Env → Prop} {m : Nat} {ρ : Env} {S : Fl × Env → Prop} {E : Exn → Prop} : kWhl Φ b I m ρ S E true = evB Φ b ρ (kTurn (fun ρ' => ∃ m', m' < m ∧ I m' ρ') S) E := (rfl)
theorem w_whF {Φ : Fen} {b : Sms} {I : Nat → Env → Prop} {m : Nat} {ρ : Env} {S : Fl × Env → Prop} {E : Exn → Prop} : kWhl Φ b I m ρ S E false = S (.nx, ρ) := (rfl)
section
variable {Φ : Fen} (hΦ : Mono Φ)
theorem forL_ind {f : D → Env → M (Fl × Env)} (hf : ∀ d ρ, Le (f d ρ) (f d ρ)) {S : Fl × Env → Prop} {E : Exn → Prop} (I : List D → Env → Prop) (step : ∀ x r ρ, I (x :: r) ρ → f x ρ (kTurn (I r) S) E) (fin : ∀ ρ, I [] ρ → S (.nx, ρ)) : ∀ {xs : List D} {ρ : Env}, I xs ρ → forL f xs ρ S E
  | [], ρ, h => fin ρ h
  | x :: r, ρ, h => hf x ρ _ _ _ _ (fun q hq => by
      obtain ⟨fl, ρ'⟩ := q
      cases fl with
      | nx => exact forL_ind hf I step fin hq
      | ct => exact forL_ind hf I step fin hq
      | bk => exact hq
      | rt d => exact hq) (fun _ z => z) (step x r ρ h)
include hΦ in
theorem le_forF (tg : Tg) (b : Sms) (d : D) (ρ : Env) : Le (forF Φ tg b d ρ) (forF Φ tg b d ρ) := Le.bind (le_asg tg d ρ) fun ρ1 => le_B hΦ b ρ1
include hΦ in
/-- a for over anything: I tells of what is left -/
theorem for_ind {tg : Tg} {b : Sms} {S : Fl × Env → Prop} {E : Exn → Prop} {xs : List D} {ρ : Env} (I : List D → Env → Prop) (start : I xs ρ) (step : ∀ x r ρ, I (x :: r) ρ → asgT tg x ρ (fun ρ1 => evB Φ b ρ1 (kTurn (I r) S) E) E) (fin : ∀ ρ, I [] ρ → S (.nx, ρ)) : forL (forF Φ tg b) xs ρ S E :=
  forL_ind (fun d ρ => le_forF hΦ tg b d ρ) I (fun x r ρ h => step x r ρ h) fin start
include hΦ in
/-- a for over a mapped list: I tells of what is done and what is left -/
theorem for_map {α : Type} {g : α → D} {tg : Tg} {b : Sms} {S : Fl × Env → Prop} {E : Exn → Prop} {xs : List α} {ρ : Env} (I : List α → List α → Env → Prop) (start : I [] xs ρ) (step : ∀ p x r ρ, xs = p ++ x :: r → I p (x :: r) ρ → asgT tg (g x) ρ (fun ρ1 => evB Φ b ρ1 (kTurn (I (p ++ [x]) r) S) E) E) (fin : ∀ ρ, I xs [] ρ → S (.nx, ρ)) : forL (forF Φ tg b) (xs.map g) ρ S E := by
  suffices ∀ p r ρ, xs = p ++ r → I p r ρ → forL (forF Φ tg b) (r.map g) ρ S E from this [] xs ρ rfl start
  intro p r
  induction r generalizing p with
  | nil =>
    intro ρ e h
    rw [List.append_nil] at e
    subst e
    exact fin ρ h
  | cons x r ih =>
    intro ρ e h
    refine le_forF hΦ tg b (g x) ρ _ _ _ _ (fun q hq => ?_) (fun _ z => z) (step p x r ρ e h)
    obtain ⟨fl, ρ'⟩ := q
    have e2 : xs = (p ++ [x]) ++ r := by rw [e]; simp
    cases fl with
    | nx => exact ih _ ρ' e2 hq
    | ct => exact ih _ ρ' e2 hq
    | bk => exact hq
    | rt d => exact hq
include hΦ in
/-- a for over a range: I tells of how many turns are done -/
theorem for_rng {tg : Tg} {b : Sms} {S : Fl × Env → Prop} {E : Exn → Prop} {lo c : Int} {n : Nat} {ρ : Env} (I : Nat → Env → Prop) (start : I 0 ρ) (step : ∀ k ρ, k < n → I k ρ → asgT tg (.int (lo + k * c)) ρ (fun ρ1 => evB Φ b ρ1 (kTurn (I (k + 1)) S) E) E) (fin : ∀ ρ, I n ρ → S (.nx, ρ)) : forL (forF Φ tg b) (rngD lo n c) ρ S E := by
  unfold rngD
  refine for_map hΦ (fun p r ρ => I p.length ρ) start (fun p x r ρ e h => ?_) (fun ρ h => fin ρ (by simpa using h))
  have hx : x = p.length ∧ p.length < n := by
    have h1 : (List.range n)[p.length]? = some x := by rw [e]; simp
    have h2 := (List.getElem?_eq_some_iff.mp h1)
    obtain ⟨h3, h4⟩ := h2
    simp at h3 h4
    exact ⟨h4.symm, h3⟩
  obtain ⟨rfl, hl⟩ := hx
  have := step _ ρ hl h
  simpa using this
include hΦ in
/-- a while: I tells of a number that falls -/
theorem whl_ind {t : Ex} {b : Sms} {S : Fl × Env → Prop} {E : Exn → Prop} {ρ : Env} {m : Nat} (I : Nat → Env → Prop) (start : I m ρ) (step : ∀ m ρ, I m ρ → evE Φ t ρ (kF (kWhl Φ b I m ρ S E) E) E) : whS Φ t b ρ S E := by
  refine ⟨m + 1, ?_⟩
  suffices ∀ n m ρ, m < n → I m ρ → whlN (fun ρ => .bind (evE Φ t ρ) truthD) (fun ρ => evB Φ b ρ) n ρ S E from this _ _ _ (Nat.lt_succ_self m) start
  intro n
  induction n with
  | zero => intro m ρ h; omega
  | succ n ih =>
    intro m ρ hm h
    refine le_E hΦ t ρ _ _ _ _ (fun x hx => ?_) (fun _ z => z) (step m ρ h)
    refine le_truth x _ _ _ _ (fun c hc => ?_) (fun _ z => z) hx
    cases c with
    | false => exact hc
    | true =>
      refine le_B hΦ b ρ _ _ _ _ (fun q hq => ?_) (fun _ z => z) hc
      obtain ⟨fl, ρ'⟩ := q
      cases fl with
      | nx => obtain ⟨m', h1, h2⟩ := hq; exact ih m' ρ' (by omega) h2
      | ct => obtain ⟨m', h1, h2⟩ := hq; exact ih m' ρ' (by omega) h2
      | bk => exact hq
      | rt d => exact hq
include hΦ in
theorem le_cmpF (own : List Nat) (e : Ex) (tg : Tg) (fs : Els) (ρ : Env) (d : D) : Le (cmpF Φ own e tg fs ρ d) (cmpF Φ own e tg fs ρ d) := by
  refine Le.bind (le_asg tg d _) fun ρ1 => Le.bind (le_F hΦ fs ρ1) fun b => Le.ite b ?_ (Le.ret _)
  exact Le.bind (le_E hΦ e ρ1) fun y => Le.ret _
/-- a comprehension, by what its turns give -/
theorem compL_ind {f : D → M (Option D)} (hf : ∀ d, Le (f d) (f d)) {E : Exn → Prop} {P : D → Option D → Prop} : ∀ {xs : List D} {Q : List D → Prop}, (∀ x ∈ xs, f x (P x) E) → (∀ os : List (Option D), os.length = xs.length → (∀ (i : Nat) x o, xs[i]? = some x → os[i]? = some o → P x o) → Q (os.filterMap id)) → compL f xs Q E
  | [], Q, _, h => h [] rfl (fun i x o e => by simp at e)
  | x :: xs, Q, hx, h => hf x _ _ _ _ (fun o ho => compL_ind hf (xs := xs) (fun y hy => hx y (List.mem_cons_of_mem _ hy)) fun os hl hos => by
      have := h (o :: os) (by simp [hl]) (fun i y o' e1 e2 => by
        cases i with
        | zero => simp at e1 e2; subst e1 e2; exact ho
        | succ i => exact hos i y o' (by simpa using e1) (by simpa using e2))
      show Q (o.toList ++ os.filterMap id)
      cases o <;> simpa using this) (fun _ z => z) (hx x List.mem_cons_self)
theorem compL_fm {f : D → M (Option D)} (hf : ∀ d, Le (f d) (f d)) {E : Exn → Prop} (g : D → Option D) {xs : List D} {Q : List D → Prop} (hx : ∀ x ∈ xs, f x (fun o => o = g x) E) (h : Q (xs.filterMap g)) : compL f xs Q E := by
  refine compL_ind hf (P := fun x o => o = g x) hx fun os hl hos => ?_
  have e : os = xs.map g := by
    apply List.ext_getElem?
    intro i
    rw [List.getElem?_map]
    cases e1 : xs[i]? with
    | none =>
      rw [List.getElem?_eq_none_iff] at e1
      rw [Option.map_none, List.getElem?_eq_none_iff]
      omega
    | some x =>
      have hi : i < os.length := by
        have := (List.getElem?_eq_some_iff.mp e1).1
        omega
      rw [List.getElem?_eq_getElem hi, Option.map_some]
      exact congrArg some (hos i x _ e1 (List.getElem?_eq_getElem hi))
  rw [e, List.filterMap_map]
  exact h
include hΦ in
/-- [e for x in xs if t]: each turn by what it gives -/
theorem comp_fm {own : List Nat} {e : Ex} {tg : Tg} {fs : Els} {ρ : Env} {E : Exn → Prop} {xs : List D} {Q : List D → Prop} (g : D → Option D) (hx : ∀ x ∈ xs, cmpF Φ own e tg fs ρ x (fun o => o = g x) E) (h : Q (xs.filterMap g)) : compL (cmpF Φ own e tg fs ρ) xs Q E := compL_fm (fun d => le_cmpF hΦ own e tg fs ρ d) g hx h
include hΦ in
theorem comp_mapf {α : Type} {g0 : α → D} {own : List Nat} {e : Ex} {tg : Tg} {fs : Els} {ρ : Env} {E : Exn → Prop} (g : α → Option D) : ∀ {xs : List α} {Q : List D → Prop}, (∀ x ∈ xs, cmpF Φ own e tg fs ρ (g0 x) (fun o => o = g x) E) → Q (xs.filterMap g) → compL (cmpF Φ own e tg fs ρ) (xs.map g0) Q E
  | [], Q, _, h => h
  | x :: xs, Q, hx, h => le_cmpF hΦ own e tg fs ρ (g0 x) _ _ _ _ (fun o ho => comp_mapf g (xs := xs) (Q := fun ys => Q (o.toList ++ ys)) (fun y hy => hx y (List.mem_cons_of_mem _ hy)) (by
      subst ho
      cases e1 : g x with
      | none => rw [List.filterMap_cons_none e1] at h; exact h
      | some y => rw [List.filterMap_cons_some e1] at h; exact h)) (fun _ z => z) (hx x List.mem_cons_self)
include hΦ in
theorem comp_map {α : Type} {g0 : α → D} {own : List Nat} {e : Ex} {tg : Tg} {fs : Els} {ρ : Env} {E : Exn → Prop} (g : α → D) {xs : List α} {Q : List D → Prop} (hx : ∀ x ∈ xs, cmpF Φ own e tg fs ρ (g0 x) (fun o => o = some (g x)) E) (h : Q (xs.map g)) : compL (cmpF Φ own e tg fs ρ) (xs.map g0) Q E :=
  comp_mapf hΦ (fun x => some (g x)) hx (by
    have e : xs.filterMap (fun x => some (g x)) = xs.map g := by induction xs with
      | nil => rfl
      | cons a r ih => simp [List.filterMap_cons]
    rw [e]; exact h)
include hΦ in
/-- a comprehension that draws: each item as told -/
theorem comp_draw {own : List Nat} {e : Ex} {tg : Tg} {fs : Els} {ρ : Env} {E : Exn → Prop} (P : D → Prop) : ∀ {xs : List D} {Q : List D → Prop}, (∀ x ∈ xs, cmpF Φ own e tg fs ρ x (fun o => ∃ y, o = some y ∧ P y) E) → (∀ ys : List D, ys.length = xs.length → (∀ y ∈ ys, P y) → Q ys) → compL (cmpF Φ own e tg fs ρ) xs Q E
  | [], Q, _, h => h [] rfl (fun _ z => absurd z (by simp))
  | x :: xs, Q, hx, h => le_cmpF hΦ own e tg fs ρ x _ _ _ _ (fun o ⟨y, ho, hy⟩ => comp_draw P (xs := xs) (Q := fun ys => Q (o.toList ++ ys)) (fun y hy => hx y (List.mem_cons_of_mem _ hy)) (fun ys hl hp => by
      subst ho
      exact h (y :: ys) (by simp [hl]) (fun z hz => (List.mem_cons.mp hz).elim (fun e => by rw [e]; exact hy) (hp z)))) (fun _ z => z) (hx x List.mem_cons_self)
include hΦ in
theorem le_cmpG (own own1 : List Nat) (e : Ex) (tg : Tg) (fs : Els) (tg1 : Tg) (it1 : It) (fs1 : Els) (ρ : Env) (n : Nat) (d : D) : Le (cmpG Φ own own1 e tg fs tg1 it1 fs1 ρ n d) (cmpG Φ own own1 e tg fs tg1 it1 fs1 ρ n d) := by
  refine Le.bind (le_asg tg d _) fun ρ1 => Le.bind (le_F hΦ fs ρ1) fun b => Le.ite b ?_ (Le.ret _)
  exact Le.bind (le_I hΦ it1 ρ1) fun items1 => Le.need (le_comp (fun d1 => le_cmpF hΦ own1 e tg1 fs1 ρ1 d1) items1)
include hΦ in
/-- [e for x in xs for y in ..]: each outer turn by the list that it gives -/
theorem comp2_map {α : Type} {g0 : α → D} {own own1 : List Nat} {e : Ex} {tg : Tg} {fs : Els} {tg1 : Tg} {it1 : It} {fs1 : Els} {ρ : Env} {E : Exn → Prop} (g : α → List D) (L : Nat) : ∀ {xs : List α} {n : Nat} {Q : List D → Prop}, n + (xs.flatMap g).length ≤ L → (∀ x ∈ xs, ∀ k, k + (g x).length ≤ L → cmpG Φ own own1 e tg fs tg1 it1 fs1 ρ k (g0 x) (fun o => o = g x) E) → Q (xs.flatMap g) → compL2 (cmpG Φ own own1 e tg fs tg1 it1 fs1 ρ) n (xs.map g0) Q E
  | [], _, Q, _, _, h => h
  | x :: xs, n, Q, hn, hx, h => by
    rw [List.flatMap_cons, List.length_append] at hn
    refine le_cmpG hΦ own own1 e tg fs tg1 it1 fs1 ρ n (g0 x) _ _ _ _ (fun o ho => ?_) (fun _ z => z) (hx x List.mem_cons_self n (by omega))
    subst ho
    refine comp2_map g L (xs := xs) (n := n + (g x).length) (Q := fun ys => Q (g x ++ ys)) (by omega) (fun y hy => hx y (List.mem_cons_of_mem _ hy)) ?_
    rw [List.flatMap_cons] at h
    exact h
end
section
variable {Φ : Fen} {ρ : Env} {E : Exn → Prop} {e : Ex} {es : Els} {tg : Tg}
def kGB (Φ : Fen) (own1 : List Nat) (e : Ex) (tg1 : Tg) (it1 : It) (fs1 : Els) (n : Nat) (ρ : Env) (Q : List D → Prop) (E : Exn → Prop) : Bool → Prop
  | true => evI Φ it1 ρ (fun items1 => (n + items1.length ≤ sizeLine) ∧ compL (cmpF Φ own1 e tg1 fs1 ρ) items1 Q E) E
  | false => Q []
theorem w_cmpG {own own1 : List Nat} {tg1 : Tg} {it1 : It} {fs1 : Els} {n : Nat} {d : D} {Q : List D → Prop} : cmpG Φ own own1 e tg es tg1 it1 fs1 ρ n d Q E = asgT tg d (wipeE ρ own) (fun ρ1 => evF Φ es ρ1 (kGB Φ own1 e tg1 it1 fs1 n ρ1 Q E) E) E := by
  show asgT tg d (wipeE ρ own) (fun ρ1 => evF Φ es ρ1 (fun b => (if b = true then (evI Φ it1 ρ1).bind fun items1 => .need (n + items1.length ≤ sizeLine) (compL (cmpF Φ own1 e tg1 fs1 ρ1) items1) else M.ret []) Q E) E) E = _
  congr 1
  funext ρ1
  congr 1
  funext b
  cases b <;> rfl
theorem w_kGT {own1 : List Nat} {tg1 : Tg} {it1 : It} {fs1 : Els} {n : Nat} {Q : List D → Prop} : kGB Φ own1 e tg1 it1 fs1 n ρ Q E true = evI Φ it1 ρ (fun items1 => (n + items1.length ≤ sizeLine) ∧ compL (cmpF Φ own1 e tg1 fs1 ρ) items1 Q E) E := (rfl)
theorem w_kGF {own1 : List Nat} {tg1 : Tg} {it1 : It} {fs1 : Els} {n : Nat} {Q : List D → Prop} : kGB Φ own1 e tg1 it1 fs1 n ρ Q E false = Q [] := (rfl)
def kCompE (Q : Option D → Prop) : D → Prop := fun y => Q (some y)
def kCompB (Φ : Fen) (e : Ex) (ρ : Env) (Q : Option D → Prop) (E : Exn → Prop) : Bool → Prop
  | true => evE Φ e ρ (kCompE Q) E
  | false => Q none
theorem w_cmpF {own : List Nat} {d : D} {Q : Option D → Prop} : cmpF Φ own e tg es ρ d Q E = asgT tg d (wipeE ρ own) (fun ρ1 => evF Φ es ρ1 (kCompB Φ e ρ1 Q E) E) E := by
  show asgT tg d (wipeE ρ own) (fun ρ1 => evF Φ es ρ1 (fun b => (if b = true then (evE Φ e ρ1).bind fun y => M.ret (some y) else M.ret none) Q E) E) E = _
  congr 1
  funext ρ1
  congr 1
  funext b
  cases b <;> rfl
theorem w_kCompT {Q : Option D → Prop} : kCompB Φ e ρ Q E true = evE Φ e ρ (kCompE Q) E := (rfl)
theorem w_kCompF {Q : Option D → Prop} : kCompB Φ e ρ Q E false = Q none := (rfl)
theorem w_kCompE {Q : Option D → Prop} {y : D} : kCompE Q y = Q (some y) := (rfl)
end
end Wb

end
section
/-! Wb: how trees lie in the abstract heap. -/
namespace Wb
open PySem PySem.Spec PyProof.Rows L2

/-- the draws' dict -/
def drawK (w : Int) (c : Addr) (n : Int) : List (Key × V) := [(.inr "whole", .int w), (.inr "cells", .ref c), (.inr "count", .int n)]
def drawO (w : Int) (c : Addr) (n : Int) : HO := .dK (drawK w c n)
def notDraw (kvs : List (Key × V)) : Prop := kvs.head?.map (·.1) ≠ some (.inr "whole")
/-- what becomes of a tracked thing that nobody owns -/
inductive Kp : HO → Option HO → Prop
  | same (o : HO) : Kp o (some o)
  | draw {w n w' n' : Int} {c : Addr} : 0 ≤ w' → Kp (drawO w c n) (some (drawO w' c n'))
  | tbl (ps more : Array Value) : Kp (.tbl ps) (some (.tbl (ps ++ more)))
theorem Kp.trans {o : HO} {x y : Option HO} (h : Kp o x) (k : ∀ u, x = some u → Kp u y) : Kp o y := by
  cases h with
  | same => exact k _ rfl
  | @draw w n w' n' c h1 =>
    have q := k _ rfl
    generalize hu : drawO w' c n' = u at q
    cases q with
    | same => rw [← hu]; exact .draw h1
    | @draw w1 n1 w2 n2 c2 g1 =>
      have e : drawO w' c n' = drawO w1 c2 n1 := hu
      simp only [drawO, drawK, HO.dK.injEq, List.cons.injEq, Prod.mk.injEq, V.int.injEq, V.ref.injEq, and_true, true_and] at e
      obtain ⟨e1, e2, e3⟩ := e
      subst e1 e2
      exact .draw g1
    | tbl => simp [drawO] at hu
  | tbl ps more =>
    have q := k _ rfl
    generalize hu : HO.tbl (ps ++ more) = u at q
    cases q with
    | same => rw [← hu]; exact .tbl ps more
    | draw => simp [drawO] at hu
    | tbl ps2 more2 =>
      cases hu
      rw [Array.append_assoc]
      exact .tbl ps _
theorem Kp.lst {xs : List V} {x : Option HO} (h : Kp (.lst xs) x) : x = some (.lst xs) := by
  generalize hu : HO.lst xs = u at h
  cases h with
  | same => rfl
  | draw => simp [drawO] at hu
  | tbl => cases hu
theorem Kp.tup {xs : List V} {x : Option HO} (h : Kp (.tup xs) x) : x = some (.tup xs) := by
  generalize hu : HO.tup xs = u at h
  cases h with
  | same => rfl
  | draw => simp [drawO] at hu
  | tbl => cases hu
theorem Kp.frz {o : Obj} {u : HO} {x : Option HO} (h : Kp (.frz o u) x) : x = some (.frz o u) := by
  generalize hu : HO.frz o u = v at h
  cases h with
  | same => rfl
  | draw => simp [drawO] at hu
  | tbl => cases hu
theorem Kp.dT {kvs : List (List Key × V)} {x : Option HO} (h : Kp (.dT kvs) x) : x = some (.dT kvs) := by
  generalize hu : HO.dT kvs = v at h
  cases h with
  | same => rfl
  | draw => simp [drawO] at hu
  | tbl => cases hu
theorem Kp.dK {kvs : List (Key × V)} {x : Option HO} (h : Kp (.dK kvs) x) (n : notDraw kvs) : x = some (.dK kvs) := by
  generalize hu : HO.dK kvs = v at h
  cases h with
  | same => rfl
  | draw =>
    cases hu
    exact absurd rfl n
  | tbl => cases hu
theorem Kp.ext {φ : Heap → Prop} {x : Option HO} (h : Kp (.ext φ) x) : x = some (.ext φ) := by
  generalize hu : HO.ext φ = v at h
  cases h with
  | same => rfl
  | draw => simp [drawO] at hu
  | tbl => cases hu
theorem Kp.xd {fs : List (Str × V)} {x : Option HO} (h : Kp (.xd fs) x) : x = some (.xd fs) := by
  generalize hu : HO.xd fs = v at h
  cases h with
  | same => rfl
  | draw => simp [drawO] at hu
  | tbl => cases hu

/-- the written part, the module's names -/
structure Cn where
  K : PySem.W.Frag
  mg : Str → Option Value
/-- what nobody owns is kept, and nobody owns it -/
def Sv (H : Hp) (O : Addr → Prop) (H' : Hp) (O' : Addr → Prop) : Prop := ∀ a o, H a = some o → ¬ O a → Kp o (H' a) ∧ ¬ O' a
theorem Sv.trans {H H1 H2 : Hp} {O O1 O2 : Addr → Prop} (h : Sv H O H1 O1) (k : Sv H1 O1 H2 O2) : Sv H O H2 O2 := fun a o e n => by
  obtain ⟨q, n1⟩ := h a o e n
  cases e1 : H1 a with
  | none => rw [e1] at q; cases q
  | some o1 =>
    rw [e1] at q
    obtain ⟨q2, n2⟩ := k a o1 e1 n1
    exact ⟨q.trans fun u hu => by rw [← Option.some.inj hu]; exact q2, n2⟩
theorem Sv.refl (H : Hp) (O : Addr → Prop) : Sv H O H O := fun a o e n => ⟨by rw [e]; exact .same o, n⟩
mutual
/-- v is the tree d, no object of it owned by O -/
inductive RepS (C : Cn) (H : Hp) (O : Addr → Prop) : V → D → Prop
  | non : RepS C H O .non .non
  | bl (b : Bool) : RepS C H O (.bl b) (.bl b)
  | int (i : Int) : RepS C H O (.int i) (.int i)
  | str (x : Str) : RepS C H O (.str x) (.str x)
  | lst {a : Addr} {xs : List V} {ds : List D} : ¬ O a → Rd H a (.lst xs) → xs.length ≤ sizeLine → RepSs C H O xs ds → RepS C H O (.ref a) (.lst ds)
  | tup {a : Addr} {xs : List V} {ds : List D} : ¬ O a → H a = some (.tup xs) → xs.length ≤ sizeLine → RepSs C H O xs ds → RepS C H O (.ref a) (.tup ds)
  | dk {a : Addr} {kvs : List (Key × V)} {ds : List (D × D)} : ¬ O a → Rd H a (.dK kvs) → kvs.length ≤ sizeLine → notDraw kvs → RepKs C H O kvs ds → RepS C H O (.ref a) (.dct false ds)
  | dt {a : Addr} {kvs : List (List Key × V)} {ds : List (D × D)} : ¬ O a → Rd H a (.dT kvs) → kvs.length ≤ sizeLine → RepTs C H O kvs ds → RepS C H O (.ref a) (.dct true ds)
  | tok {a c : Addr} {w n : Int} {cs : List Int} : ¬ O a → ¬ O c → H a = some (drawO w c n) → 0 ≤ w → cs.length ≤ 1000 → H c = some (.lst (cs.map V.int)) → RepS C H O (.ref a) .tok
  | scr {a : Addr} {ns : List Int} : ns.length ≤ 1000 → ¬ O a → Rd H a (.lst (ns.map V.int)) → RepS C H O (.ref a) (.scr ns)
  | scrK {a : Addr} {ns : List Int} : ns.length ≤ 1000 → (∀ H', SqL C.K H' a (ns.map V.int)) → RepS C H O (.ref a) (.scr ns)
  | fn {x : Str} {f : Addr} : C.mg x = some (.ref f) → RepS C H O (.ref f) (.fn x)
inductive RepSs (C : Cn) (H : Hp) (O : Addr → Prop) : List V → List D → Prop
  | nil : RepSs C H O [] []
  | cons {v : V} {vs : List V} {d : D} {ds : List D} : RepS C H O v d → RepSs C H O vs ds → RepSs C H O (v :: vs) (d :: ds)
inductive RepKs (C : Cn) (H : Hp) (O : Addr → Prop) : List (Key × V) → List (D × D) → Prop
  | nil : RepKs C H O [] []
  | cons {k : Key} {v : V} {vs : List (Key × V)} {d : D} {ds : List (D × D)} : RepS C H O v d → RepKs C H O vs ds → RepKs C H O ((k, v) :: vs) ((dOfK k, d) :: ds)
inductive RepTs (C : Cn) (H : Hp) (O : Addr → Prop) : List (List Key × V) → List (D × D) → Prop
  | nil : RepTs C H O [] []
  | cons {k : List Key} {v : V} {vs : List (List Key × V)} {d : D} {ds : List (D × D)} : k.length ≤ sizeLine → RepS C H O v d → RepTs C H O vs ds → RepTs C H O ((k, v) :: vs) ((.tup (k.map dOfK), d) :: ds)
end

section
variable {C : Cn} {H H' : Hp} {O O' : Addr → Prop}
theorem Sv.rd {a : Addr} {u : HO} (s : Sv H O H' O') (n : ¬ O a) (h : Rd H a u) (k : Kp u (H' a) → H' a = some u) : Rd H' a u ∧ ¬ O' a := by
  rcases h with h | ⟨o, h⟩
  · obtain ⟨q, m⟩ := s a _ h n
    exact ⟨.inl (k q), m⟩
  · obtain ⟨q, m⟩ := s a _ h n
    exact ⟨.inr ⟨o, q.frz⟩, m⟩
mutual
theorem RepS.mono (s : Sv H O H' O') : ∀ (d : D) (v : V), RepS C H O v d → RepS C H' O' v d
  | .non, _, h => by cases h; exact .non
  | .bl b, _, h => by cases h; exact .bl b
  | .int i, _, h => by cases h; exact .int i
  | .str x, _, h => by cases h; exact .str x
  | .lst ds, _, h => by
    cases h with
    | lst n r z q =>
      obtain ⟨r', n'⟩ := s.rd n r Kp.lst
      exact .lst n' r' z (RepSs.mono s ds _ q)
  | .tup ds, _, h => by
    cases h with
    | tup n r z q =>
      obtain ⟨r', n'⟩ := s _ _ r n
      exact .tup n' r'.tup z (RepSs.mono s ds _ q)
  | .dct t ds, _, h => by
    cases h with
    | dk n r z nd q =>
      obtain ⟨r', n'⟩ := s.rd n r (fun k => k.dK nd)
      exact .dk n' r' z nd (RepKs.mono s ds _ q)
    | dt n r z q =>
      obtain ⟨r', n'⟩ := s.rd n r Kp.dT
      exact .dt n' r' z (RepTs.mono s ds _ q)
  | .tok, _, h => by
    cases h with
    | @tok a c w n cs na nc ha h0 hb hc =>
      obtain ⟨k, na'⟩ := s _ _ ha na
      obtain ⟨kc, nc'⟩ := s _ _ hc nc
      have hc' := kc.lst
      generalize hu : drawO w c n = u at k
      generalize hx : H' a = x at k
      cases k with
      | same => exact .tok na' nc' (by rw [hx, hu]) h0 hb hc'
      | @draw w1 n1 w' n' c1 h1 =>
        simp only [drawO, drawK, HO.dK.injEq, List.cons.injEq, Prod.mk.injEq, V.int.injEq, V.ref.injEq, and_true, true_and] at hu
        obtain ⟨e1, e2, e3⟩ := hu
        subst e1 e2
        exact .tok na' nc' hx h1 hb hc'
      | tbl => simp [drawO] at hu
  | .fn x, _, h => by cases h with | fn e => exact .fn e
  | .exc c, _, h => by cases h
  | .scr ns, _, h => by
    cases h with
    | scr l n r =>
      obtain ⟨r', n'⟩ := s.rd n r Kp.lst
      exact .scr l n' r'
    | scrK l e => exact .scrK l e
theorem RepSs.mono (s : Sv H O H' O') : ∀ (ds : List D) (vs : List V), RepSs C H O vs ds → RepSs C H' O' vs ds
  | [], _, h => by cases h; exact .nil
  | d :: ds, _, h => by
    cases h with
    | cons r q => exact .cons (RepS.mono s d _ r) (RepSs.mono s ds _ q)
theorem RepKs.mono (s : Sv H O H' O') : ∀ (ds : List (D × D)) (vs : List (Key × V)), RepKs C H O vs ds → RepKs C H' O' vs ds
  | [], _, h => by cases h; exact .nil
  | (k, d) :: ds, _, h => by
    cases h with
    | cons r q => exact .cons (RepS.mono s d _ r) (RepKs.mono s ds _ q)
theorem RepTs.mono (s : Sv H O H' O') : ∀ (ds : List (D × D)) (vs : List (List Key × V)), RepTs C H O vs ds → RepTs C H' O' vs ds
  | [], _, h => by cases h; exact .nil
  | (k, d) :: ds, _, h => by
    cases h with
    | cons hk r q => exact .cons hk (RepS.mono s d _ r) (RepTs.mono s ds _ q)
end
theorem RepSs.length : ∀ {vs : List V} {ds : List D}, RepSs C H O vs ds → vs.length = ds.length
  | _, _, .nil => rfl
  | _, _, .cons _ q => by simp [RepSs.length q]
theorem RepSs.get : ∀ {vs : List V} {ds : List D} {i : Nat} {d : D}, RepSs C H O vs ds → ds[i]? = some d → ∃ v, vs[i]? = some v ∧ RepS C H O v d
  | _, _, _, _, .nil, h => by simp at h
  | _, _, 0, _, .cons r _, h => by simp at h; subst h; exact ⟨_, rfl, r⟩
  | _, _, i + 1, d, .cons _ q, h => by
    obtain ⟨v, e, r⟩ := RepSs.get (i := i) q (by simpa using h)
    exact ⟨v, by simpa using e, r⟩
theorem RepSs.getV : ∀ {vs : List V} {ds : List D} {i : Nat} {v : V}, RepSs C H O vs ds → vs[i]? = some v → ∃ d, ds[i]? = some d ∧ RepS C H O v d
  | _, _, _, _, .nil, h => by simp at h
  | _, _, 0, _, .cons r _, h => by simp at h; subst h; exact ⟨_, rfl, r⟩
  | _, _, i + 1, d, .cons _ q, h => by
    obtain ⟨v, e, r⟩ := RepSs.getV (i := i) q (by simpa using h)
    exact ⟨v, by simpa using e, r⟩
theorem RepSs.append : ∀ {vs ws : List V} {ds es : List D}, RepSs C H O vs ds → RepSs C H O ws es → RepSs C H O (vs ++ ws) (ds ++ es)
  | _, _, _, _, .nil, h => h
  | _, _, _, _, .cons r q, h => .cons r (q.append h)
theorem RepSs.drop : ∀ {vs : List V} {ds : List D} (n : Nat), RepSs C H O vs ds → RepSs C H O (vs.drop n) (ds.drop n)
  | _, _, 0, h => h
  | _, _, _ + 1, .nil => .nil
  | _, _, n + 1, .cons _ q => q.drop n
theorem RepSs.take : ∀ {vs : List V} {ds : List D} (n : Nat), RepSs C H O vs ds → RepSs C H O (vs.take n) (ds.take n)
  | _, _, 0, _ => .nil
  | _, _, _ + 1, .nil => .nil
  | _, _, n + 1, .cons r q => .cons r (q.take n)
theorem RepSs.snoc {vs : List V} {ds : List D} {v : V} {d : D} (h : RepSs C H O vs ds) (r : RepS C H O v d) : RepSs C H O (vs ++ [v]) (ds ++ [d]) := h.append (.cons r .nil)
theorem RepSs.rev : ∀ {vs : List V} {ds : List D}, RepSs C H O vs ds → RepSs C H O vs.reverse ds.reverse
  | _, _, .nil => .nil
  | _, _, .cons r q => by
    rw [List.reverse_cons, List.reverse_cons]
    exact q.rev.snoc r
theorem RepSs.set : ∀ {vs : List V} {ds : List D} (i : Nat) {v : V} {d : D}, RepSs C H O vs ds → RepS C H O v d → RepSs C H O (vs.set i v) (ds.set i d)
  | _, _, _, _, _, .nil, _ => .nil
  | _, _, 0, _, _, .cons _ q, r => .cons r q
  | _, _, i + 1, _, _, .cons p q, r => .cons p (q.set i r)
theorem RepSs.dropLast {vs : List V} {ds : List D} (h : RepSs C H O vs ds) : RepSs C H O vs.dropLast ds.dropLast := by
  rw [List.dropLast_eq_take, List.dropLast_eq_take, h.length]
  exact h.take _
theorem RepSs.flat : ∀ (k : Nat) {vs : List V} {ds : List D}, RepSs C H O vs ds → RepSs C H O (List.replicate k vs).flatten (List.replicate k ds).flatten
  | 0, _, _, _ => .nil
  | k + 1, _, _, h => by
    rw [List.replicate_succ, List.flatten_cons, List.replicate_succ, List.flatten_cons]
    exact h.append (RepSs.flat k h)
theorem RepSs.ints : ∀ {vs : List V} {ds : List D} {ns : List Int}, RepSs C H O vs ds → intsD ds = some ns → vs = ns.map V.int ∧ ds = ns.map D.int
  | _, _, _, .nil, e => by simp [intsD] at e; subst e; exact ⟨rfl, rfl⟩
  | _, _, ns, .cons (d := d) (ds := ds) r q, e => by
    cases d with
    | int i =>
      cases r
      simp only [intsD, Option.map_eq_some_iff] at e
      obtain ⟨ms, e1, e2⟩ := e
      obtain ⟨h1, h2⟩ := q.ints e1
      subst e2
      exact ⟨by rw [h1]; rfl, by rw [h2]; rfl⟩
    | _ => simp [intsD] at e
theorem RepSs.bls : ∀ {vs : List V} {ds : List D} {ns : List Bool}, RepSs C H O vs ds → blsD ds = some ns → vs = ns.map V.bl ∧ ds = ns.map D.bl
  | _, _, _, .nil, e => by simp [blsD] at e; subst e; exact ⟨rfl, rfl⟩
  | _, _, ns, .cons (d := d) (ds := ds) r q, e => by
    cases d with
    | bl i =>
      cases r
      simp only [blsD, Option.map_eq_some_iff] at e
      obtain ⟨ms, e1, e2⟩ := e
      obtain ⟨h1, h2⟩ := q.bls e1
      subst e2
      exact ⟨by rw [h1]; rfl, by rw [h2]; rfl⟩
    | _ => simp [blsD] at e
theorem repInts (ns : List Int) : RepSs C H O (ns.map V.int) (ns.map D.int) := by
  induction ns with
  | nil => exact .nil
  | cons n r ih => exact .cons (.int n) ih
end
end Wb

end
section
/-! Wb: what the variables own; transitions. -/
namespace Wb
open PySem PySem.Spec PyProof.Rows L2

inductive All3 (R : V → D → List Addr → Prop) : List V → List D → List (List Addr) → Prop
  | nil : All3 R [] [] []
  | cons {v : V} {vs : List V} {d : D} {ds : List D} {F : List Addr} {Fs : List (List Addr)} : R v d F → All3 R vs ds Fs → All3 R (v :: vs) (d :: ds) (F :: Fs)
/-- v is the tree d; F: the objects that are its own -/
def RepT (C : Cn) (H : Hp) (O : Addr → Prop) : Ow → V → D → List Addr → Prop
  | .sh, v, d, F => F = [] ∧ RepS C H O v d
  | .li t, v, d, F => ∃ (a : Addr) (vs : List V) (ds : List D) (Fs : List (List Addr)), v = .ref a ∧ d = .lst ds ∧ H a = some (.lst vs) ∧ vs.length ≤ sizeLine ∧ F = a :: Fs.flatten ∧ All3 (RepT C H O t) vs ds Fs
  | .dk, v, d, F => ∃ (a : Addr) (kvs : List (Key × V)) (ds : List (D × D)), v = .ref a ∧ d = .dct false ds ∧ H a = some (.dK kvs) ∧ kvs.length ≤ sizeLine ∧ notDraw kvs ∧ F = [a] ∧ RepKs C H O kvs ds
  | .dt, v, d, F => ∃ (a : Addr) (kvs : List (List Key × V)) (ds : List (D × D)), v = .ref a ∧ d = .dct true ds ∧ H a = some (.dT kvs) ∧ kvs.length ≤ sizeLine ∧ F = [a] ∧ RepTs C H O kvs ds
  | .bo t, v, d, F => F = [] ∧ ∃ F', RepT C H O t v d F'
def noBo : Ow → Bool
  | .li t => noBo t
  | .bo _ => false
  | _ => true
/-- every tracked thing is kept -/
def KpA (H H' : Hp) : Prop := ∀ a o, H a = some o → Kp o (H' a)
theorem KpA.refl (H : Hp) : KpA H H := fun a o h => by rw [h]; exact .same o
theorem KpA.trans {H H1 H2 : Hp} (h : KpA H H1) (k : KpA H1 H2) : KpA H H2 := fun a o e => (h a o e).trans fun u e1 => k a u e1
theorem KpA.upd {H : Hp} {p : Addr} {o : HO} (h : H p = none) : KpA H (upd H p o) := fun a u e => by
  rw [upd_ne (ne_of_none e h), e]
  exact .same u
section
variable {C : Cn} {H H' : Hp} {O O' : Addr → Prop}
theorem All3.imp {R R' : V → D → List Addr → Prop} (f : ∀ v d F, R v d F → R' v d F) : ∀ {vs : List V} {ds : List D} {Fs : List (List Addr)}, All3 R vs ds Fs → All3 R' vs ds Fs
  | _, _, _, .nil => .nil
  | _, _, _, .cons r q => .cons (f _ _ _ r) (q.imp f)
theorem All3.impM {R R' : V → D → List Addr → Prop} : ∀ {vs : List V} {ds : List D} {Fs : List (List Addr)}, All3 R vs ds Fs → (∀ v d F, F ∈ Fs → R v d F → R' v d F) → All3 R' vs ds Fs
  | _, _, _, .nil, _ => .nil
  | _, _, _, .cons r q, f => .cons (f _ _ _ List.mem_cons_self r) (q.impM fun v d F hF => f v d F (List.mem_cons_of_mem _ hF))
theorem All3.length {R : V → D → List Addr → Prop} : ∀ {vs : List V} {ds : List D} {Fs : List (List Addr)}, All3 R vs ds Fs → vs.length = ds.length ∧ Fs.length = ds.length
  | _, _, _, .nil => ⟨rfl, rfl⟩
  | _, _, _, .cons r q => by
    obtain ⟨h1, h2⟩ := q.length
    exact ⟨by simp [h1], by simp [h2]⟩
theorem KpA.sv (k : KpA H H') (n : ∀ a o, H a = some o → O' a → O a) : Sv H O H' O' := fun a o h q => ⟨k a o h, fun z => q (n a o h z)⟩
theorem RepT.mono (k : KpA H H') (n : ∀ a o, H a = some o → O' a → O a) : ∀ (t : Ow) {v : V} {d : D} {F : List Addr}, RepT C H O t v d F → RepT C H' O' t v d F
  | .sh, _, _, _, h => ⟨h.1, RepS.mono (k.sv n) _ _ h.2⟩
  | .li t, _, _, _, h => by
    obtain ⟨a, vs, ds, Fs, e1, e2, e3, e4, e5, e6⟩ := h
    exact ⟨a, vs, ds, Fs, e1, e2, (k a _ e3).lst, e4, e5, e6.imp fun v d F r => RepT.mono k n t r⟩
  | .dk, _, _, _, h => by
    obtain ⟨a, kvs, ds, e1, e2, e3, e4, e5, e6, e7⟩ := h
    exact ⟨a, kvs, ds, e1, e2, (k a _ e3).dK e5, e4, e5, e6, RepKs.mono (k.sv n) _ _ e7⟩
  | .dt, _, _, _, h => by
    obtain ⟨a, kvs, ds, e1, e2, e3, e4, e6, e7⟩ := h
    exact ⟨a, kvs, ds, e1, e2, (k a _ e3).dT, e4, e6, RepTs.mono (k.sv n) _ _ e7⟩
  | .bo t, _, _, _, h => by
    obtain ⟨e, F', r⟩ := h
    exact ⟨e, F', RepT.mono k n t r⟩
/-- .. where its own objects alone are told to be kept -/
theorem RepT.monoS (s : Sv H O H' O') : ∀ (t : Ow) {v : V} {d : D} {F : List Addr}, noBo t = true → (∀ a ∈ F, H' a = H a) → RepT C H O t v d F → RepT C H' O' t v d F
  | .sh, _, _, _, _, _, h => ⟨h.1, RepS.mono s _ _ h.2⟩
  | .li t, _, _, F, b, k, h => by
    obtain ⟨a, vs, ds, Fs, e1, e2, e3, e4, e5, e6⟩ := h
    subst e5
    exact ⟨a, vs, ds, Fs, e1, e2, (k a List.mem_cons_self).trans e3, e4, rfl, e6.impM fun v d F hF r => RepT.monoS s t b (fun x hx => k x (List.mem_cons_of_mem _ (List.mem_flatten.mpr ⟨F, hF, hx⟩))) r⟩
  | .dk, _, _, _, _, k, h => by
    obtain ⟨a, kvs, ds, e1, e2, e3, e4, e5, e6, e7⟩ := h
    subst e6
    exact ⟨a, kvs, ds, e1, e2, (k a List.mem_cons_self).trans e3, e4, e5, rfl, RepKs.mono s _ _ e7⟩
  | .dt, _, _, _, _, k, h => by
    obtain ⟨a, kvs, ds, e1, e2, e3, e4, e6, e7⟩ := h
    subst e6
    exact ⟨a, kvs, ds, e1, e2, (k a List.mem_cons_self).trans e3, e4, rfl, RepTs.mono s _ _ e7⟩
  | .bo t, _, _, _, b, _, _ => by cases b
/-- owned by a smaller lot -/
theorem RepS.less (n : ∀ a, O' a → O a) {v : V} {d : D} (h : RepS C H O v d) : RepS C H O' v d := RepS.mono (fun a o e q => ⟨by rw [e]; exact .same o, fun z => q (n a z)⟩) d v h
mutual
/-- given up: shared from now on -/
theorem RepT.freeze (n : ∀ a, O' a → O a) : ∀ (t : Ow) {v : V} {d : D} {F : List Addr}, noBo t = true → (∀ a ∈ F, ¬ O' a) → RepT C H O t v d F → RepS C H O' v d
  | .sh, _, _, _, _, _, h => h.2.less n
  | .li t, _, _, F, b, k, h => by
    obtain ⟨a, vs, ds, Fs, e1, e2, e3, e4, e5, e6⟩ := h
    subst e1 e2 e5
    exact .lst (k a List.mem_cons_self) (.inl e3) e4 (RepT.freezes n t b e6 fun x hx => k x (List.mem_cons_of_mem _ hx))
  | .dk, _, _, _, _, k, h => by
    obtain ⟨a, kvs, ds, e1, e2, e3, e4, e5, e6, e7⟩ := h
    subst e1 e2 e6
    exact .dk (k a List.mem_cons_self) (.inl e3) e4 e5 (RepKs.mono (fun a o e q => ⟨by rw [e]; exact .same o, fun z => q (n a z)⟩) _ _ e7)
  | .dt, _, _, _, _, k, h => by
    obtain ⟨a, kvs, ds, e1, e2, e3, e4, e6, e7⟩ := h
    subst e1 e2 e6
    exact .dt (k a List.mem_cons_self) (.inl e3) e4 (RepTs.mono (fun a o e q => ⟨by rw [e]; exact .same o, fun z => q (n a z)⟩) _ _ e7)
  | .bo t, _, _, _, b, _, _ => by cases b
theorem RepT.freezes (n : ∀ a, O' a → O a) (t : Ow) (b : noBo t = true) : ∀ {vs : List V} {ds : List D} {Fs : List (List Addr)}, All3 (RepT C H O t) vs ds Fs → (∀ a ∈ Fs.flatten, ¬ O' a) → RepSs C H O' vs ds
  | _, _, _, .nil, _ => .nil
  | _, _, _, .cons (F := F) (Fs := Fs) r q, k => .cons (RepT.freeze n t b (fun a ha => k a (by rw [List.flatten_cons]; exact List.mem_append_left _ ha)) r) (RepT.freezes n t b q fun a ha => k a (by rw [List.flatten_cons]; exact List.mem_append_right _ ha))
end
end

/-- things that may be owned -/
def ownable : HO → Prop
  | .lst _ => True
  | .dK kvs => notDraw kvs
  | .dT _ => True
  | _ => False
theorem Kp.own {o : HO} {x : Option HO} (h : Kp o x) (k : ownable o) : x = some o := by
  cases o with
  | lst xs => exact h.lst
  | dK kvs => exact h.dK k
  | dT kvs => exact h.dT
  | _ => exact k.elim
def Ownd (Fs : Nat → List Addr) (a : Addr) : Prop := ∃ i, a ∈ Fs i
def Oall (O : Addr → Prop) (Fs : Nat → List Addr) (a : Addr) : Prop := O a ∨ Ownd Fs a
def plus (O : Addr → Prop) (F : List Addr) (a : Addr) : Prop := O a ∨ a ∈ F
theorem plus_nil (O : Addr → Prop) : plus O [] = O := by
  funext a
  simp [plus]
theorem plus_plus (O : Addr → Prop) (F G : List Addr) : plus (plus O F) G = plus O (F ++ G) := by
  funext a
  simp [plus, or_assoc]
/-- the variables: Γ what they own, Fs the objects; O: what others own -/
structure Rl (C : Cn) (T : List (Addr × Str)) (O : Addr → Prop) (Γ : List Ow) (Fs : Nat → List Addr) (σ : L2.St) (H : Hp) (ρ : Env) : Prop where
  len : ρ.length = σ.length
  gl : Γ.length = ρ.length
  slot : ∀ i d, ρ[i]? = some (some d) → ∃ v τ, σ[i]? = some (some v) ∧ Γ[i]? = some τ ∧ RepT C H (Oall O Fs) τ v d (Fs i)
  nd : ∀ i, (Fs i).Nodup
  dj : ∀ i j a, a ∈ Fs i → a ∈ Fs j → i = j
  dj0 : ∀ i a, a ∈ Fs i → ¬ O a
  ok : ∀ a, Oall O Fs a → ∃ o, H a = some o ∧ ownable o
  tabs : LamX.Tabs T H
/-- behind an expression whose value owns F -/
structure TrE (H : Hp) (Fs : Nat → List Addr) (H' : Hp) (Fs' : Nat → List Addr) (F : List Addr) : Prop where
  kp : KpA H H'
  fr : ∀ a, Ownd Fs' a ∨ a ∈ F → Ownd Fs a ∨ H a = none
theorem TrE.refl (H : Hp) (Fs : Nat → List Addr) : TrE H Fs H Fs [] := ⟨KpA.refl H, fun a h => h.elim .inl (fun z => absurd z (by simp))⟩
theorem TrE.trans {H H1 H2 : Hp} {Fs Fs1 Fs2 : Nat → List Addr} {F G : List Addr} (h : TrE H Fs H1 Fs1 F) (k : TrE H1 Fs1 H2 Fs2 G) : TrE H Fs H2 Fs2 (F ++ G) := by
  have low : ∀ a, H1 a = none → H a = none := fun a e => by
    cases q : H a with
    | none => rfl
    | some o =>
      have z := h.kp a o q
      rw [e] at z
      cases z
  refine ⟨h.kp.trans k.kp, fun a z => ?_⟩
  have key : Ownd Fs2 a ∨ a ∈ G → Ownd Fs a ∨ H a = none := fun z => by
    rcases k.fr a z with z | z
    · exact h.fr a (.inl z)
    · exact .inr (low a z)
  rcases z with z | z
  · exact key (.inl z)
  · rcases List.mem_append.mp z with z | z
    · exact h.fr a (.inr z)
    · exact key (.inr z)
/-- behind a statement -/
def TrS (H : Hp) (Fs : Nat → List Addr) (H' : Hp) (Fs' : Nat → List Addr) : Prop := ∀ a o, H a = some o → ¬ Ownd Fs a → Kp o (H' a) ∧ ¬ Ownd Fs' a
theorem TrS.refl (H : Hp) (Fs : Nat → List Addr) : TrS H Fs H Fs := fun a o h n => ⟨by rw [h]; exact .same o, n⟩
theorem TrS.trans {H H1 H2 : Hp} {Fs Fs1 Fs2 : Nat → List Addr} (h : TrS H Fs H1 Fs1) (k : TrS H1 Fs1 H2 Fs2) : TrS H Fs H2 Fs2 := fun a o e n => by
  obtain ⟨q, n1⟩ := h a o e n
  cases e1 : H1 a with
  | none => rw [e1] at q; cases q
  | some o1 =>
    rw [e1] at q
    obtain ⟨q2, n2⟩ := k a o1 e1 n1
    exact ⟨q.trans fun u hu => by rw [← Option.some.inj hu]; exact q2, n2⟩
theorem TrE.toS {H H' : Hp} {Fs Fs' : Nat → List Addr} {F : List Addr} (h : TrE H Fs H' Fs' F) : TrS H Fs H' Fs' := fun a o e n => ⟨h.kp a o e, fun z => by
  rcases h.fr a (.inl z) with z | z
  · exact n z
  · rw [e] at z; cases z⟩
/-- .. the value stored too -/
theorem TrE.toS' {H H' : Hp} {Fs Fs' Fs2 : Nat → List Addr} {F : List Addr} (h : TrE H Fs H' Fs' F) (k : ∀ a, Ownd Fs2 a → Ownd Fs' a ∨ a ∈ F) : TrS H Fs H' Fs2 := fun a o e n => ⟨h.kp a o e, fun z => by
  rcases h.fr a (k a z) with z | z
  · exact n z
  · rw [e] at z; cases z⟩

section
variable {C : Cn} {T : List (Addr × Str)} {O : Addr → Prop} {Γ : List Ow} {Fs : Nat → List Addr} {σ : L2.St} {H : Hp} {ρ : Env}
/-- the heap grows, all is kept -/
theorem Rl.grow {H' : Hp} (r : Rl C T O Γ Fs σ H ρ) (k : KpA H H') (tb : LamX.Tabs T H') : Rl C T O Γ Fs σ H' ρ :=
  ⟨r.len, r.gl, fun i d e => by
    obtain ⟨v, τ, e1, e2, q⟩ := r.slot i d e
    exact ⟨v, τ, e1, e2, q.mono k (fun _ _ _ z => z)⟩, r.nd, r.dj, r.dj0, fun a h => by
    obtain ⟨o, e, w⟩ := r.ok a h
    exact ⟨o, (k a o e).own w, w⟩, tb⟩
/-- a new object of others -/
theorem Rl.more {F : List Addr} (r : Rl C T O Γ Fs σ H ρ) (f : ∀ a ∈ F, ∃ o, H a = some o ∧ ownable o) (n : ∀ a ∈ F, ¬ Ownd Fs a) (q : ∀ i d, ρ[i]? = some (some d) → ∀ v τ, σ[i]? = some (some v) → Γ[i]? = some τ → RepT C H (Oall O Fs) τ v d (Fs i) → RepT C H (Oall (plus O F) Fs) τ v d (Fs i)) :
    Rl C T (plus O F) Γ Fs σ H ρ :=
  ⟨r.len, r.gl, fun i d e => by
    obtain ⟨v, τ, e1, e2, z⟩ := r.slot i d e
    exact ⟨v, τ, e1, e2, q i d e v τ e1 e2 z⟩, r.nd, r.dj, fun i a h z => z.elim (r.dj0 i a h) fun z => n a z ⟨i, h⟩, fun a h => by
    rcases h with (h | h) | h
    · exact r.ok a (.inl h)
    · exact f a h
    · exact r.ok a (.inr h), r.tabs⟩
/-- others own less -/
theorem Rl.less {O' : Addr → Prop} (r : Rl C T O Γ Fs σ H ρ) (n : ∀ a, O' a → O a) : Rl C T O' Γ Fs σ H ρ :=
  ⟨r.len, r.gl, fun i d e => by
    obtain ⟨v, τ, e1, e2, q⟩ := r.slot i d e
    exact ⟨v, τ, e1, e2, q.mono (KpA.refl H) fun a _ _ z => z.imp (n a) id⟩, r.nd, r.dj, fun i a h z => r.dj0 i a h (n a z), fun a h => r.ok a (h.imp (n a) id), r.tabs⟩
def updF (Fs : Nat → List Addr) (i : Nat) (F : List Addr) : Nat → List Addr := fun j => if j = i then F else Fs j
theorem updF_same {i : Nat} {F : List Addr} : updF Fs i F i = F := if_pos rfl
theorem updF_ne {i j : Nat} {F : List Addr} (h : j ≠ i) : updF Fs i F j = Fs j := if_neg h
theorem ownd_updF {i : Nat} {F : List Addr} {a : Addr} (h : Ownd (updF Fs i F) a) : Ownd Fs a ∨ a ∈ F := by
  obtain ⟨j, hj⟩ := h
  by_cases e : j = i
  · subst e; rw [updF_same] at hj; exact .inr hj
  · rw [updF_ne e] at hj; exact .inl ⟨j, hj⟩
/-- a variable takes a value that owns F (F lies with the others' till then) -/
theorem Rl.store {F : List Addr} {i : Nat} {τ : Ow} {v : V} {d : D} (r : Rl C T (plus O F) Γ Fs σ H ρ) (hi : i < ρ.length) (nd : F.Nodup) (n : ∀ a ∈ F, ¬ O a) (q : RepT C H (Oall (plus O F) Fs) τ v d F) :
    Rl C T O (Γ.set i τ) (updF Fs i F) (σ.set i (some v)) H (setE ρ i d) := by
  have sub : ∀ a, Oall O (updF Fs i F) a → Oall (plus O F) Fs a := fun a h => by
    rcases h with h | h
    · exact .inl (.inl h)
    · rcases ownd_updF h with h | h
      · exact .inr h
      · exact .inl (.inr h)
  refine ⟨by simp [setE, r.len], by simp [setE, r.gl], fun j e hj => ?_, fun j => ?_, fun j k a h1 h2 => ?_, fun j a h => ?_, fun a h => r.ok a (sub a h), r.tabs⟩
  · by_cases hji : j = i
    · subst hji
      simp only [setE] at hj
      rw [List.getElem?_set_self hi] at hj
      cases hj
      refine ⟨v, τ, by rw [List.getElem?_set_self (by rw [← r.len]; exact hi)], by rw [List.getElem?_set_self (by rw [r.gl]; exact hi)], ?_⟩
      rw [updF_same]
      exact q.mono (KpA.refl H) fun a _ _ z => sub a z
    · simp only [setE] at hj
      rw [List.getElem?_set_ne (Ne.symm hji)] at hj
      obtain ⟨v', τ', e1, e2, z⟩ := r.slot j e hj
      refine ⟨v', τ', by rw [List.getElem?_set_ne (Ne.symm hji)]; exact e1, by rw [List.getElem?_set_ne (Ne.symm hji)]; exact e2, ?_⟩
      rw [updF_ne hji]
      exact z.mono (KpA.refl H) fun a _ _ z => sub a z
  · by_cases hji : j = i
    · subst hji; rw [updF_same]; exact nd
    · rw [updF_ne hji]; exact r.nd j
  · by_cases hj : j = i
    · subst hj
      by_cases hk : k = j
      · exact hk.symm
      · rw [updF_same] at h1
        rw [updF_ne hk] at h2
        exact absurd (.inr h1) (r.dj0 k a h2)
    · by_cases hk : k = i
      · subst hk
        rw [updF_ne hj] at h1
        rw [updF_same] at h2
        exact absurd (.inr h2) (r.dj0 j a h1)
      · rw [updF_ne hj] at h1
        rw [updF_ne hk] at h2
        exact r.dj j k a h1 h2
  · by_cases hj : j = i
    · subst hj; rw [updF_same] at h; exact n a h
    · rw [updF_ne hj] at h
      exact fun z => r.dj0 j a h (.inl z)
/-- a variable's value, given up -/
theorem Rl.give {i : Nat} {τ : Ow} {d : D} (r : Rl C T O Γ Fs σ H ρ) (hd : ρ[i]? = some (some d)) (ht : Γ[i]? = some τ) (b : noBo τ = true) :
    ∃ v, σ[i]? = some (some v) ∧ Rl C T O (Γ.set i .sh) (updF Fs i []) σ H ρ ∧ RepS C H (Oall O (updF Fs i [])) v d := by
  obtain ⟨v, τ', e1, e2, q⟩ := r.slot i d hd
  rw [ht] at e2; cases e2
  have hi : i < ρ.length := (List.getElem?_eq_some_iff.mp hd).1
  have sub : ∀ a, Oall O (updF Fs i []) a → Oall O Fs a := fun a h => by
    rcases h with h | h
    · exact .inl h
    · rcases ownd_updF h with h | h
      · exact .inr h
      · exact absurd h (by simp)
  have q' : RepS C H (Oall O (updF Fs i [])) v d := q.freeze sub τ b fun a ha z => by
    rcases z with z | ⟨j, z⟩
    · exact r.dj0 i a ha z
    · by_cases hj : j = i
      · subst hj; rw [updF_same] at z; exact absurd z (by simp)
      · rw [updF_ne hj] at z; exact hj (r.dj j i a z ha)
  refine ⟨v, e1, ⟨r.len, by simp [r.gl], fun j e hj => ?_, fun j => ?_, fun j k a h1 h2 => ?_, fun j a h => ?_, fun a h => r.ok a (sub a h), r.tabs⟩, q'⟩
  · by_cases hji : j = i
    · subst hji
      rw [hd] at hj; cases hj
      exact ⟨v, .sh, e1, by rw [List.getElem?_set_self (by rw [r.gl]; exact hi)], by rw [updF_same]; exact ⟨rfl, q'⟩⟩
    · obtain ⟨v', τ', e1, e2, z⟩ := r.slot j e hj
      refine ⟨v', τ', e1, by rw [List.getElem?_set_ne (Ne.symm hji)]; exact e2, ?_⟩
      rw [updF_ne hji]
      exact z.mono (KpA.refl H) fun a _ _ z => sub a z
  · by_cases hji : j = i
    · subst hji; rw [updF_same]; exact List.nodup_nil
    · rw [updF_ne hji]; exact r.nd j
  · by_cases hj : j = i
    · subst hj; rw [updF_same] at h1; exact absurd h1 (by simp)
    · by_cases hk : k = i
      · subst hk; rw [updF_same] at h2; exact absurd h2 (by simp)
      · rw [updF_ne hj] at h1
        rw [updF_ne hk] at h2
        exact r.dj j k a h1 h2
  · by_cases hj : j = i
    · subst hj; rw [updF_same] at h; exact absurd h (by simp)
    · rw [updF_ne hj] at h; exact r.dj0 j a h
/-- a variable's value, moved out -/
theorem Rl.move {i : Nat} {τ : Ow} {d : D} (r : Rl C T O Γ Fs σ H ρ) (hd : ρ[i]? = some (some d)) (ht : Γ[i]? = some τ) :
    ∃ v, σ[i]? = some (some v) ∧ Rl C T (plus O (Fs i)) Γ (updF Fs i []) σ H (ρ.set i none) ∧ RepT C H (Oall (plus O (Fs i)) (updF Fs i [])) τ v d (Fs i) := by
  obtain ⟨v, τ', e1, e2, q⟩ := r.slot i d hd
  rw [ht] at e2; cases e2
  have sub : ∀ a, Oall (plus O (Fs i)) (updF Fs i []) a → Oall O Fs a := fun a h => by
    rcases h with (h | h) | h
    · exact .inl h
    · exact .inr ⟨i, h⟩
    · rcases ownd_updF h with h | h
      · exact .inr h
      · exact absurd h (by simp)
  refine ⟨v, e1, ⟨by simp [r.len], by simp [r.gl], fun j e hj => ?_, fun j => ?_, fun j k a h1 h2 => ?_, fun j a h z => ?_, fun a h => r.ok a (sub a h), r.tabs⟩, q.mono (KpA.refl H) fun a _ _ z => sub a z⟩
  · by_cases hji : j = i
    · subst hji
      have hi : j < ρ.length := (List.getElem?_eq_some_iff.mp hd).1
      rw [List.getElem?_set_self hi] at hj; cases hj
    · rw [List.getElem?_set_ne (Ne.symm hji)] at hj
      obtain ⟨v', τ', e1, e2, z⟩ := r.slot j e hj
      refine ⟨v', τ', e1, e2, ?_⟩
      rw [updF_ne hji]
      exact z.mono (KpA.refl H) fun a _ _ z => sub a z
  · by_cases hji : j = i
    · subst hji; rw [updF_same]; exact List.nodup_nil
    · rw [updF_ne hji]; exact r.nd j
  · by_cases hj : j = i
    · subst hj; rw [updF_same] at h1; exact absurd h1 (by simp)
    · by_cases hk : k = i
      · subst hk; rw [updF_same] at h2; exact absurd h2 (by simp)
      · rw [updF_ne hj] at h1
        rw [updF_ne hk] at h2
        exact r.dj j k a h1 h2
  · by_cases hj : j = i
    · subst hj; rw [updF_same] at h; exact absurd h (by simp)
    · rw [updF_ne hj] at h
      rcases z with z | z
      · exact r.dj0 j a h z
      · exact hj (r.dj j i a h z)
end
end Wb

end
section
/-! Wb: readings over trees. -/
namespace Wb
open PySem PySem.Spec PyProof.Rows L2

/-- an error as it leaves -/
def ExR (C : Cn) (H : Hp) (ex : Exn) (cls : Value) (dx : Option Addr) : Prop := ∃ A : Addr, C.mg ex.cls = some (.ref A) ∧ cls = .ref A ∧ dx = none
def Xp (C : Cn) (T : List (Addr × Str)) (E : XK) (H : Hp) (Fs : Nat → List Addr) (Ed : Exn → Prop) : Prop :=
  ∀ ex cls dx H', Ed ex → (∀ a o, H a = some o → ¬ Ownd Fs a → Kp o (H' a)) → LamX.Tabs T H' → ExR C H' ex cls dx → E cls dx H'
theorem Xp.tr {C : Cn} {T : List (Addr × Str)} {E : XK} {H H1 : Hp} {Fs Fs1 : Nat → List Addr} {Ed : Exn → Prop} (x : Xp C T E H Fs Ed) (t : TrS H Fs H1 Fs1) : Xp C T E H1 Fs1 Ed := fun ex cls dx H' h k tb r =>
  x ex cls dx H' h (fun a o e n => by
    obtain ⟨q, n1⟩ := t a o e n
    cases e1 : H1 a with
    | none => rw [e1] at q; cases q
    | some o1 =>
      rw [e1] at q
      exact q.trans fun u hu => by rw [← Option.some.inj hu]; exact k a o1 e1 n1) tb r
theorem Xp.false {C : Cn} {T : List (Addr × Str)} {E : XK} {H : Hp} {Fs : Nat → List Addr} : Xp C T E H Fs (fun _ => False) := fun _ _ _ _ h => h.elim

/-- what is read: shared, or lent -/
def RepR (C : Cn) (H : Hp) (O : Addr → Prop) : Ow → V → D → Prop
  | .bo t, v, d => ∃ F, RepT C H O t v d F
  | _, v, d => RepS C H O v d
def lend : Ow → Ow
  | .bo t => .bo t
  | _ => .sh
section
variable {C : Cn} {H H' : Hp} {O O' : Addr → Prop}
theorem RepR.mono (k : KpA H H') (n : ∀ a o, H a = some o → O' a → O a) {t : Ow} {v : V} {d : D} (h : RepR C H O t v d) : RepR C H' O' t v d := by
  cases t with
  | bo t =>
    obtain ⟨F, r⟩ := h
    exact ⟨F, r.mono k n⟩
  | sh => exact RepS.mono (k.sv n) d v h
  | li t => exact RepS.mono (k.sv n) d v h
  | dk => exact RepS.mono (k.sv n) d v h
  | dt => exact RepS.mono (k.sv n) d v h
end

section
variable (C : Cn) (T : List (Addr × Str))
/-- an expression whose value may own things -/
def tO (E : XK) (Γ Γ' : List Ow) (τ : Ow) (m : Env → M D) : TE := fun σ H Q => ∃ (O : Addr → Prop) (Fs : Nat → List Addr) (ρ : Env) (Qd : D → Prop) (Ed : Exn → Prop), Rl C T O Γ Fs σ H ρ ∧ m ρ Qd Ed ∧ Xp C T E H Fs Ed ∧
  ∀ d v H' Fs' F, Qd d → TrE H Fs H' Fs' F → Rl C T (plus O F) Γ' Fs' σ H' ρ → RepT C H' (Oall (plus O F) Fs') τ v d F → F.Nodup → (∀ a ∈ F, ¬ O a) → Q v H'
/-- .. shared or lent -/
def tV (E : XK) (Γ Γ' : List Ow) (τ : Ow) (m : Env → M D) : TE := fun σ H Q => ∃ (O : Addr → Prop) (Fs : Nat → List Addr) (ρ : Env) (Qd : D → Prop) (Ed : Exn → Prop), Rl C T O Γ Fs σ H ρ ∧ m ρ Qd Ed ∧ Xp C T E H Fs Ed ∧
  ∀ d v H' Fs', Qd d → TrE H Fs H' Fs' [] → Rl C T O Γ' Fs' σ H' ρ → RepR C H' (Oall O Fs') τ v d → Q v H'
/-- a test -/
def tT (E : XK) (Γ Γ' : List Ow) (m : Env → M Bool) : TT := fun σ H Q => ∃ (O : Addr → Prop) (Fs : Nat → List Addr) (ρ : Env) (Qd : Bool → Prop) (Ed : Exn → Prop), Rl C T O Γ Fs σ H ρ ∧ m ρ Qd Ed ∧ Xp C T E H Fs Ed ∧
  ∀ b H' Fs', Qd b → TrE H Fs H' Fs' [] → Rl C T O Γ' Fs' σ H' ρ → Q b H'
/-- several values, all shared -/
def tA (E : XK) (Γ Γ' : List Ow) (m : Env → M (List D)) : TA := fun σ H Q => ∃ (O : Addr → Prop) (Fs : Nat → List Addr) (ρ : Env) (Qd : List D → Prop) (Ed : Exn → Prop), Rl C T O Γ Fs σ H ρ ∧ m ρ Qd Ed ∧ Xp C T E H Fs Ed ∧
  ∀ ds vs H' Fs', Qd ds → TrE H Fs H' Fs' [] → Rl C T O Γ' Fs' σ H' ρ → RepSs C H' (Oall O Fs') vs ds → Q vs H'
end
theorem _root_.L2.PE.imp {X : Cx} {e : Expr} {t t' : TE} (h : PE X e t) (k : ∀ σ H Q, t' σ H Q → t σ H Q) : PE X e t' := ⟨fun pins s σ H Q I q => h.run pins s σ H Q I (k σ H Q q)⟩
theorem _root_.L2.PT.imp {X : Cx} {e : Expr} {t t' : TT} (h : PT X e t) (k : ∀ σ H Q, t' σ H Q → t σ H Q) : PT X e t' := ⟨fun pins s σ H Q I q => h.run pins s σ H Q I (k σ H Q q)⟩
theorem _root_.L2.PW.imp {X : Cx} {e : Expr} {t t' : TT} (h : PW X e t) (k : ∀ σ H Q, t' σ H Q → t σ H Q) : PW X e t' := ⟨fun wh pins s σ H Q I q => h.run wh pins s σ H Q I (k σ H Q q)⟩
theorem _root_.L2.PA.imp {X : Cx} {es : List Expr} {t t' : TA} (h : PA X es t) (k : ∀ σ H Q, t' σ H Q → t σ H Q) : PA X es t' := ⟨fun pos pins s σ H Q I q => h.run pos pins s σ H Q I (k σ H Q q)⟩
theorem _root_.L2.PS.imp {X : Cx} {st : Stmt} {t t' : TS} (h : PS X st t) (k : ∀ D σ H, t' D σ H → t D σ H) : PS X st t' := ⟨fun pins s σ H D I q => h.run pins s σ H D I (k D σ H q)⟩
theorem _root_.L2.PSs.imp {X : Cx} {st : List Stmt} {t t' : TS} (h : PSs X st t) (k : ∀ D σ H, t' D σ H → t D σ H) : PSs X st t' := ⟨fun pins s σ H D I q => h.run pins s σ H D I (k D σ H q)⟩
theorem _root_.L2.PI.imp {X : Cx} {tg e : Expr} {t t' : TI} (h : PI X tg e t) (k : ∀ σ H Q, t' σ H Q → t σ H Q) : PI X tg e t' := ⟨fun pins s σ H Q I q => h.run pins s σ H Q I (k σ H Q q)⟩
theorem _root_.L2.PG.imp {X : Cx} {tg : Expr} {t t' : TG} (h : PG X tg t) (k : ∀ v σ H Q, t' v σ H Q → t v σ H Q) : PG X tg t' := ⟨fun pins s σ H v u Q I r q => h.run pins s σ H v u Q I r (k v σ H Q q)⟩
section
variable {C : Cn} {T : List (Addr × Str)} {E : XK} {Γ Γ1 Γ2 : List Ow} {τ : Ow} {m : Env → M D}
theorem freezeF {O : Addr → Prop} {F : List Addr} {Fs : Nat → List Addr} {σ : L2.St} {H : Hp} {ρ : Env} {v : V} {d : D} (b : noBo τ = true) (r : Rl C T (plus O F) Γ Fs σ H ρ) (q : RepT C H (Oall (plus O F) Fs) τ v d F) (n : ∀ a ∈ F, ¬ O a) : RepS C H (Oall O Fs) v d :=
  q.freeze (fun a h => h.imp .inl id) τ b fun a ha h => h.elim (n a ha) fun ⟨i, h⟩ => r.dj0 i a h (.inr ha)
theorem TrE.drop {H H' : Hp} {Fs Fs' : Nat → List Addr} {F : List Addr} (h : TrE H Fs H' Fs' F) : TrE H Fs H' Fs' [] := ⟨h.kp, fun a z => h.fr a (z.imp id fun q => absurd q (by simp))⟩
theorem tO_lend {X : Cx} {e : Expr} (h : PE X e (tO C T E Γ Γ1 τ m)) (b : noBo τ = true ∨ ∃ t, τ = .bo t) : PE X e (tV C T E Γ Γ1 (lend τ) m) := h.imp fun σ H Q ⟨O, Fs, ρ, Qd, Ed, r, hm, x, k⟩ => by
  refine ⟨O, Fs, ρ, Qd, Ed, r, hm, x, fun d v H' Fs' F hd t r' q nd n => k d v H' Fs' hd t.drop (r'.less fun a z => .inl z) ?_⟩
  rcases b with b | ⟨t, rfl⟩
  · have z := freezeF b r' q n
    cases τ with
    | bo t => cases b
    | _ => exact z
  · obtain ⟨rfl, F', q⟩ := q
    rw [plus_nil] at q
    exact ⟨F', q⟩
/-- what is read owns nothing -/
theorem tV_own {X : Cx} {e : Expr} (h : PE X e (tV C T E Γ Γ1 .sh m)) : PE X e (tO C T E Γ Γ1 .sh m) := h.imp fun σ H Q ⟨O, Fs, ρ, Qd, Ed, r, hm, x, k⟩ =>
  ⟨O, Fs, ρ, Qd, Ed, r, hm, x, fun d v H' Fs' hd t r' q => k d v H' Fs' [] hd t (by rw [plus_nil]; exact r') ⟨rfl, by rw [plus_nil]; exact q⟩ List.nodup_nil (fun a h => absurd h (by simp))⟩
theorem tV_own' {X : Cx} {e : Expr} {t : Ow} (h : PE X e (tV C T E Γ Γ1 (.bo t) m)) : PE X e (tO C T E Γ Γ1 (.bo t) m) := h.imp fun σ H Q ⟨O, Fs, ρ, Qd, Ed, r, hm, x, k⟩ =>
  ⟨O, Fs, ρ, Qd, Ed, r, hm, x, fun d v H' Fs' hd t r' ⟨F, q⟩ => k d v H' Fs' [] hd t (by rw [plus_nil]; exact r') ⟨rfl, F, by rw [plus_nil]; exact q⟩ List.nodup_nil (fun a h => absurd h (by simp))⟩
end

/-! ### operations that make at most new things -/
/-- what a simple operation's rule asks, by trees: the tree wanted, the new things -/
def Sim (C : Cn) (O : Addr → Prop) (H : Hp) (τ : Ow) (Qd : D → Prop) (Q : VK) : Prop := ∀ d v H' F, Qd d → Same H H' → RepT C H' (plus O F) τ v d F → F.Nodup → (∀ a ∈ F, H a = none ∧ ∃ o, H' a = some o ∧ ownable o) → Q v H'
theorem kpaS {H H' : Hp} (s : Same H H') : KpA H H' := fun a o h => by rw [s a o h]; exact .same o
theorem same_upd {H : Hp} {p : Addr} {o : HO} (h : H p = none) : Same H (upd H p o) := fun a u e => by rw [upd_ne (ne_of_none e h)]; exact e
section
variable {C : Cn} {O : Addr → Prop} {H : Hp} {τ : Ow} {Qd : D → Prop} {Q : VK}
/-- a value without a new thing -/
theorem Sim.val (s : Sim C O H .sh Qd Q) {d : D} {v : V} (h : Qd d) (r : RepS C H O v d) : Q v H := s d v H [] h (Same.refl H) ⟨rfl, by rw [plus_nil]; exact r⟩ List.nodup_nil (fun a h => absurd h (by simp))
theorem RepSs.up {p : Addr} {o : HO} (hp : H p = none) {vs : List V} {ds : List D} (r : RepSs C H O vs ds) : RepSs C (upd H p o) O vs ds :=
  RepSs.mono ((kpaS (same_upd hp)).sv fun _ _ _ z => z) ds vs r
theorem RepSs.up1 {p : Addr} {o : HO} (hp : H p = none) {vs : List V} {ds : List D} (r : RepSs C H O vs ds) : RepSs C (upd H p o) (plus O [p]) vs ds :=
  RepSs.mono ((kpaS (same_upd hp)).sv fun a u e z => z.elim id fun z => by
    have : a = p := by simpa using z
    subst this
    rw [hp] at e; cases e) ds vs r
theorem all_sh {H : Hp} {O : Addr → Prop} : ∀ {vs : List V} {ds : List D}, RepSs C H O vs ds → ∃ Fs : List (List Addr), Fs.flatten = [] ∧ All3 (RepT C H O .sh) vs ds Fs
  | _, _, .nil => ⟨[], rfl, .nil⟩
  | _, _, .cons r q => by
    obtain ⟨Fs, e, a⟩ := all_sh q
    exact ⟨[] :: Fs, by simp [e], .cons ⟨rfl, r⟩ a⟩
theorem up1_all {p : Addr} {o : HO} (hp : H p = none) {vs : List V} {ds : List D} (r : RepSs C H O vs ds) : ∃ Fs : List (List Addr), Fs.flatten = [] ∧ All3 (RepT C (upd H p o) (plus O [p]) .sh) vs ds Fs := by
  exact all_sh (r.up1 (o := o) hp)
/-- a new list -/
theorem Sim.lst (s : Sim C O H (.li .sh) Qd Q) {ds : List D} {vs : List V} (h : Qd (.lst ds)) (z : vs.length ≤ sizeLine) (r : RepSs C H O vs ds) : ∀ p, H p = none → Q (.ref p) (upd H p (.lst vs)) := fun p hp => by
  obtain ⟨Fs, e, a⟩ := up1_all (o := .lst vs) hp r
  exact s _ _ _ [p] h (same_upd hp) ⟨p, vs, ds, Fs, rfl, rfl, upd_same, z, by rw [e], a⟩ (by simp) fun a ha => by
    have : a = p := by simpa using ha
    subst this
    exact ⟨hp, _, upd_same, trivial⟩
/-- a new list, shared at once -/
theorem Sim.lstS (s : Sim C O H .sh Qd Q) (hO : ∀ a, O a → H a ≠ none) {ds : List D} {vs : List V} (h : Qd (.lst ds)) (z : vs.length ≤ sizeLine) (r : RepSs C H O vs ds) : ∀ p, H p = none → Q (.ref p) (upd H p (.lst vs)) := fun p hp =>
  s _ _ _ [] h (same_upd hp) ⟨rfl, by rw [plus_nil]; exact .lst (fun z => hO p z hp) (.inl upd_same) z (r.up hp)⟩ List.nodup_nil (fun a h => absurd h (by simp))
theorem Sim.tup (s : Sim C O H .sh Qd Q) (hO : ∀ a, O a → H a ≠ none) {ds : List D} {vs : List V} (h : Qd (.tup ds)) (z : vs.length ≤ sizeLine) (r : RepSs C H O vs ds) : ∀ p, H p = none → Q (.ref p) (upd H p (.tup vs)) := fun p hp =>
  s _ _ _ [] h (same_upd hp) ⟨rfl, by rw [plus_nil]; exact .tup (fun z => hO p z hp) upd_same z (r.up hp)⟩ List.nodup_nil (fun a h => absurd h (by simp))
end
section
variable {C : Cn} {T : List (Addr × Str)} {E : XK} {Γ Γ1 Γ2 : List Ow} {τ τ1 τ2 : Ow} {m1 m2 : Env → M D}
/-- the end of a simple operation, behind its operands -/
theorem sim_end {O : Addr → Prop} {Fs Fs2 : Nat → List Addr} {σ : L2.St} {H H2 : Hp} {ρ : Env} {Qd : D → Prop} {Q : VK} (r2 : Rl C T O Γ2 Fs2 σ H2 ρ) (t : TrE H Fs H2 Fs2 [])
    (k : ∀ d v H' Fs' F, Qd d → TrE H Fs H' Fs' F → Rl C T (plus O F) Γ2 Fs' σ H' ρ → RepT C H' (Oall (plus O F) Fs') τ v d F → F.Nodup → (∀ a ∈ F, ¬ O a) → Q v H') : Sim C (Oall O Fs2) H2 τ Qd Q := fun d v H' F hd s q nd hF => by
  have nO : ∀ a ∈ F, ¬ Oall O Fs2 a := fun a ha z => by
    obtain ⟨o, e, _⟩ := r2.ok a z
    rw [(hF a ha).1] at e; cases e
  have e : ∀ a, Oall (plus O F) Fs2 a ↔ plus (Oall O Fs2) F a := fun a => by
    simp only [Oall, plus]
    constructor
    · rintro ((h | h) | h)
      · exact .inl (.inl h)
      · exact .inr h
      · exact .inl (.inr h)
    · rintro ((h | h) | h)
      · exact .inl (.inl h)
      · exact .inr h
      · exact .inl (.inr h)
  refine k d v H' Fs2 F hd ?_ ?_ ?_ nd fun a ha z => nO a ha (.inl z)
  · have := t.trans (TrE.mk (H := H2) (Fs := Fs2) (H' := H') (Fs' := Fs2) (F := F) (kpaS s) fun a z => z.elim .inl fun z => .inr (hF a z).1)
    exact this
  · have r3 := r2.grow (kpaS s) (r2.tabs.ext s)
    refine r3.more (fun a ha => (hF a ha).2) (fun a ha z => nO a ha (.inr z)) fun i d e v τ e1 e2 z => ?_
    -- a thing new to H2 is in nobody's tree: told from H2
    obtain ⟨v', τ', g1, g2, g3⟩ := r2.slot i d e
    rw [e1] at g1; cases g1
    rw [e2] at g2; cases g2
    exact g3.mono (kpaS s) fun a o ha z => by
      rcases z with (z | z) | z
      · exact .inl z
      · rw [(hF a z).1] at ha; cases ha
      · exact .inr z
  · have : Oall (plus O F) Fs2 = plus (Oall O Fs2) F := funext fun a => propext (e a)
    rw [this]
    exact q
/-- two operands -/
theorem ve2 {X : Cx} {op : Operator} {a b : Expr} {pos : Pos} {r : R2} {o : D → D → M D} (ho : OpR X (binaryOp op) r) (ha : PE X a (tV C T E Γ Γ1 τ1 m1)) (hb : PE X b (tV C T E Γ1 Γ2 τ2 m2))
    (sem : ∀ (O : Addr → Prop) (H : Hp) (x y : V) (dx dy : D) (Qd : D → Prop) (Ed : Exn → Prop) (Q : VK), (∀ a, O a → H a ≠ none) → RepR C H O τ1 x dx → RepR C H O τ2 y dy → o dx dy Qd Ed → Sim C O H τ Qd Q → r x y H Q) :
    PE X (.BinOp a op b pos) (tO C T E Γ Γ2 τ (fun ρ => .bind (m1 ρ) fun x => .bind (m2 ρ) fun y => o x y)) := by
  refine (pe_op ho ha hb).imp fun σ H Q ⟨O, Fs, ρ, Qd, Ed, r0, hm, x, k⟩ => ?_
  refine ⟨O, Fs, ρ, _, Ed, r0, hm, x, fun d1 v1 H1 Fs1 h1 t1 r1 q1 => ?_⟩
  refine ⟨O, Fs1, ρ, _, Ed, r1, h1, x.tr t1.toS, fun d2 v2 H2 Fs2 h2 t2 r2 q2 => ?_⟩
  refine sem (Oall O Fs2) H2 v1 v2 d1 d2 Qd Ed Q (fun a z => by obtain ⟨o, e, _⟩ := r2.ok a z; rw [e]; exact fun z => nomatch z) (q1.mono t2.kp fun a o e z => ?_) q2 h2 (sim_end r2 (t1.trans t2) k)
  rcases z with z | z
  · exact .inl z
  · rcases t2.fr a (.inl z) with z | z
    · exact .inr z
    · rw [z] at e; cases e
end
end Wb

end
section
/-! Wb: operators upon trees. -/
namespace Wb
open PySem PySem.Spec PyProof.Rows L2

/-- the items of what is read so are shared -/
def flatO : Ow → Bool
  | .bo (.li .sh) => true
  | .bo (.li _) => false
  | .bo (.bo _) => false
  | _ => true
/-- lent or shared: no owned thing in hand -/
def rdO : Ow → Bool
  | .bo _ => true
  | .sh => true
  | _ => false
section
variable {C : Cn} {H : Hp} {O : Addr → Prop} {τ : Ow} {v : V}
theorem RepS.of_bo {t : Ow} {F : List Addr} {d : D} (h : RepT C H O t v d F) (ht : t = .sh) : RepS C H O v d := by subst ht; exact h.2
theorem RepT.int : ∀ {t : Ow} {F : List Addr} {i : Int}, RepT C H O t v (.int i) F → v = .int i
  | .sh, _, _, h => by obtain ⟨_, h⟩ := h; cases h; rfl
  | .li t, _, _, h => by obtain ⟨_, _, _, _, _, e, _⟩ := h; cases e
  | .dk, _, _, h => by obtain ⟨_, _, _, _, e, _⟩ := h; cases e
  | .dt, _, _, h => by obtain ⟨_, _, _, _, e, _⟩ := h; cases e
  | .bo t, _, _, h => by obtain ⟨_, _, h⟩ := h; exact h.int
theorem RepT.bl : ∀ {t : Ow} {F : List Addr} {i : Bool}, RepT C H O t v (.bl i) F → v = .bl i
  | .sh, _, _, h => by obtain ⟨_, h⟩ := h; cases h; rfl
  | .li t, _, _, h => by obtain ⟨_, _, _, _, _, e, _⟩ := h; cases e
  | .dk, _, _, h => by obtain ⟨_, _, _, _, e, _⟩ := h; cases e
  | .dt, _, _, h => by obtain ⟨_, _, _, _, e, _⟩ := h; cases e
  | .bo t, _, _, h => by obtain ⟨_, _, h⟩ := h; exact h.bl
theorem RepT.tup : ∀ {t : Ow} {F : List Addr} {ds : List D}, RepT C H O t v (.tup ds) F → ∃ a vs, v = .ref a ∧ ¬ O a ∧ H a = some (.tup vs) ∧ vs.length ≤ sizeLine ∧ RepSs C H O vs ds
  | .sh, _, _, h => by obtain ⟨_, h⟩ := h; cases h with | tup n r z q => exact ⟨_, _, rfl, n, r, z, q⟩
  | .li t, _, _, h => by obtain ⟨_, _, _, _, _, e, _⟩ := h; cases e
  | .dk, _, _, h => by obtain ⟨_, _, _, _, e, _⟩ := h; cases e
  | .dt, _, _, h => by obtain ⟨_, _, _, _, e, _⟩ := h; cases e
  | .bo t, _, _, h => by obtain ⟨_, _, h⟩ := h; exact h.tup
theorem RepR.T {d : D} (h : RepR C H O τ v d) : ∃ t F, RepT C H O t v d F := by
  cases τ with
  | bo t => obtain ⟨F, h⟩ := h; exact ⟨t, F, h⟩
  | _ => exact ⟨.sh, [], rfl, h⟩
theorem RepR.int {i : Int} (h : RepR C H O τ v (.int i)) : v = .int i := by obtain ⟨t, F, h⟩ := h.T; exact h.int
theorem RepR.bl {i : Bool} (h : RepR C H O τ v (.bl i)) : v = .bl i := by obtain ⟨t, F, h⟩ := h.T; exact h.bl
theorem RepR.tup {ds : List D} (h : RepR C H O τ v (.tup ds)) : ∃ a vs, v = .ref a ∧ ¬ O a ∧ H a = some (.tup vs) ∧ vs.length ≤ sizeLine ∧ RepSs C H O vs ds := by obtain ⟨t, F, h⟩ := h.T; exact h.tup
theorem sh_all : ∀ {vs : List V} {ds : List D} {Fs : List (List Addr)}, All3 (RepT C H O .sh) vs ds Fs → RepSs C H O vs ds
  | _, _, _, .nil => .nil
  | _, _, _, .cons r q => .cons r.2 (sh_all q)
theorem RepR.lst {ds : List D} (f : flatO τ = true) (h : RepR C H O τ v (.lst ds)) : ∃ a vs, v = .ref a ∧ Rd H a (.lst vs) ∧ vs.length ≤ sizeLine ∧ RepSs C H O vs ds := by
  have key : ∀ {v : V} {ds : List D}, RepS C H O v (.lst ds) → ∃ a vs, v = .ref a ∧ Rd H a (.lst vs) ∧ vs.length ≤ sizeLine ∧ RepSs C H O vs ds := fun h => by
    cases h with | lst n r z q => exact ⟨_, _, rfl, r, z, q⟩
  cases τ with
  | bo t =>
    obtain ⟨F, h⟩ := h
    cases t with
    | sh => exact key h.2
    | li t =>
      cases t with
      | sh =>
        obtain ⟨a, vs, ds', Fs, e1, e2, e3, e4, e5, e6⟩ := h
        cases e2
        exact ⟨a, vs, e1, .inl e3, e4, sh_all e6⟩
      | _ => cases f
    | dk => obtain ⟨_, _, _, _, e, _⟩ := h; cases e
    | dt => obtain ⟨_, _, _, _, e, _⟩ := h; cases e
    | bo t => cases f
  | _ => exact key h
theorem Rd.sqL {K : PySem.W.Frag} {a : Addr} {xs : List V} (h : Rd H a (.lst xs)) : SqL K H a xs := .inl h
theorem Rd.sqT {K : PySem.W.Frag} {a : Addr} {xs : List V} (h : Rd H a (.tup xs)) : SqT K H a xs := .inl h
/-- any dict -/
theorem RepT.dct : ∀ {t : Ow} {F : List Addr} {k : Bool} {ds : List (D × D)}, RepT C H O t v (.dct k ds) F → ∃ a, v = .ref a ∧ ((k = false ∧ ∃ kvs, Rd H a (.dK kvs) ∧ kvs.length ≤ sizeLine ∧ notDraw kvs ∧ RepKs C H O kvs ds) ∨ (k = true ∧ ∃ kvs, Rd H a (.dT kvs) ∧ kvs.length ≤ sizeLine ∧ RepTs C H O kvs ds))
  | .sh, _, _, _, h => by
    obtain ⟨_, h⟩ := h
    cases h with
    | dk n r z nd q => exact ⟨_, rfl, .inl ⟨rfl, _, r, z, nd, q⟩⟩
    | dt n r z q => exact ⟨_, rfl, .inr ⟨rfl, _, r, z, q⟩⟩
  | .li t, _, _, _, h => by obtain ⟨_, _, _, _, _, e, _⟩ := h; cases e
  | .dk, _, _, _, h => by
    obtain ⟨a, kvs, ds', e1, e2, e3, e4, e5, e6, e7⟩ := h
    cases e2
    exact ⟨a, e1, .inl ⟨rfl, kvs, .inl e3, e4, e5, e7⟩⟩
  | .dt, _, _, _, h => by
    obtain ⟨a, kvs, ds', e1, e2, e3, e4, e6, e7⟩ := h
    cases e2
    exact ⟨a, e1, .inr ⟨rfl, kvs, .inl e3, e4, e7⟩⟩
  | .bo t, _, _, _, h => by obtain ⟨_, _, h⟩ := h; exact h.dct
theorem RepR.dct {k : Bool} {ds : List (D × D)} (h : RepR C H O τ v (.dct k ds)) : ∃ a, v = .ref a ∧ ((k = false ∧ ∃ kvs, Rd H a (.dK kvs) ∧ kvs.length ≤ sizeLine ∧ notDraw kvs ∧ RepKs C H O kvs ds) ∨ (k = true ∧ ∃ kvs, Rd H a (.dT kvs) ∧ kvs.length ≤ sizeLine ∧ RepTs C H O kvs ds)) := by
  obtain ⟨t, F, h⟩ := h.T; exact h.dct
/-! data as PyData -/
mutual
theorem RepS.dp : ∀ (d : D) (v : V), RepS C H O v d → noD d = true → Dp C.K H v (toPy d)
  | .non, _, h, _ => by cases h; rw [toPy]; exact .non
  | .bl b, _, h, _ => by cases h; rw [toPy]; exact .bl b
  | .int i, _, h, _ => by cases h; rw [toPy]; exact .int i
  | .str x, _, h, _ => by cases h; rw [toPy]; exact .str x
  | .lst ds, _, h, n => by
    cases h with
    | lst _ r z q =>
      rw [toPy]
      exact .lst (.inl r) (RepSs.dp ds _ q (by rw [noD] at n; exact n))
  | .tup ds, _, h, n => by
    cases h with
    | tup _ r z q =>
      rw [toPy]
      exact .tup (SqT.of r) (RepSs.dp ds _ q (by rw [noD] at n; exact n))
  | .dct _ _, _, _, n => by rw [noD] at n; cases n
  | .tok, _, _, n => by rw [noD] at n; cases n
  | .fn _, _, _, n => by rw [noD] at n; cases n
  | .exc _, _, _, n => by rw [noD] at n; cases n
  | .scr _, _, _, n => by rw [noD] at n; cases n
theorem RepSs.dp : ∀ (ds : List D) (vs : List V), RepSs C H O vs ds → noDs ds = true → DpAll C.K H vs (toPys ds)
  | [], _, h, _ => by cases h; rw [toPys]; exact .nil
  | d :: ds, _, h, n => by
    cases h with
    | cons r q =>
      rw [noDs, Bool.and_eq_true] at n
      rw [toPys]
      exact .cons (RepS.dp d _ r n.1) (RepSs.dp ds _ q n.2)
end
mutual
theorem RepT.dp : ∀ (t : Ow) {v : V} {d : D} {F : List Addr}, RepT C H O t v d F → noD d = true → Dp C.K H v (toPy d)
  | .sh, _, _, _, h, n => RepS.dp _ _ h.2 n
  | .li t, _, _, _, h, n => by
    obtain ⟨a, vs, ds, Fs, e1, e2, e3, e4, e5, e6⟩ := h
    subst e1 e2
    rw [toPy]
    exact .lst (.inl (.inl e3)) (RepT.dps t e6 (by rw [noD] at n; exact n))
  | .dk, _, _, _, h, n => by obtain ⟨_, _, _, _, e, _⟩ := h; subst e; rw [noD] at n; cases n
  | .dt, _, _, _, h, n => by obtain ⟨_, _, _, _, e, _⟩ := h; subst e; rw [noD] at n; cases n
  | .bo t, _, _, _, h, n => by obtain ⟨_, _, h⟩ := h; exact RepT.dp t h n
theorem RepT.dps (t : Ow) : ∀ {vs : List V} {ds : List D} {Fs : List (List Addr)}, All3 (RepT C H O t) vs ds Fs → noDs ds = true → DpAll C.K H vs (toPys ds)
  | _, _, _, .nil, _ => by rw [toPys]; exact .nil
  | _, _, _, .cons r q, n => by
    rw [noDs, Bool.and_eq_true] at n
    rw [toPys]
    exact .cons (RepT.dp t r n.1) (RepT.dps t q n.2)
end
theorem RepR.dp {d : D} (h : RepR C H O τ v d) (n : noD d = true) : Dp C.K H v (toPy d) := by
  obtain ⟨t, F, h⟩ := h.T
  exact RepT.dp t h n
mutual
theorem noD_can : ∀ d : D, noD d = true → (toPy d).canLay0 = true
  | .non, _ => by simp [toPy, PyData.canLay0]
  | .bl b, _ => by simp [toPy, PyData.canLay0]
  | .int i, _ => by simp [toPy, PyData.canLay0]
  | .str x, n => by rw [noD] at n; simp only [toPy, PyData.canLay0]; exact n
  | .lst ds, n => by rw [noD] at n; simp only [toPy, PyData.canLay0]; exact noDs_can ds n
  | .tup ds, n => by rw [noD] at n; simp only [toPy, PyData.canLay0]; exact noDs_can ds n
  | .dct _ _, n => by rw [noD] at n; cases n
  | .tok, n => by rw [noD] at n; cases n
  | .fn _, n => by rw [noD] at n; cases n
  | .exc _, n => by rw [noD] at n; cases n
  | .scr _, n => by rw [noD] at n; cases n
theorem noDs_can : ∀ ds : List D, noDs ds = true → PyData.canLayAll0 (toPys ds) = true
  | [], _ => by simp [toPys, PyData.canLayAll0]
  | d :: ds, n => by
    rw [noDs, Bool.and_eq_true] at n
    simp only [toPys, PyData.canLayAll0, noD_can d n.1, noDs_can ds n.2, Bool.and_self]
end
theorem okEq_sh {d : D} (h : okEq d = true) : noD d = true ∧ SeqAt.shaped (toPy d) = true := by
  unfold okEq at h
  rw [Bool.and_eq_true] at h
  refine ⟨h.1, ?_⟩
  unfold SeqAt.shaped
  rw [noD_can d h.1, h.2] <;> rfl
end

/-! ### list + list, list * int over what may be read -/
section
variable {X : Cx}
theorem _root_.L2.Inv.lstR {pins : List (Addr × Obj)} {σ : L2.St} {H : Hp} {s : Shared} {l : Addr} {xs : List V} (I : Inv X pins σ H s) (hH : Rd H l (.lst xs)) : xs.length ≤ sizeLine ∧ ∃ (its : List Value) (n : Nat), Vals xs its ∧ xs.length = its.length ∧ s.heap.get? l = some { cls := .type "list", data := .seq its.toArray n } := by
  obtain ⟨z, its, n, r, e⟩ := hH.ok I.hok
  exact ⟨z, its, n, r, r.length, e⟩
def rCatR : R2 := fun x y H Q => ∃ l b xs zs, x = .ref l ∧ y = .ref b ∧ Rd H l (.lst xs) ∧ Rd H b (.lst zs) ∧ xs.length + zs.length ≤ sizeLine ∧ ∀ p, H p = none → Q (.ref p) (upd H p (.lst (xs ++ zs)))
theorem op_catR : OpR X (binaryOp .Add) rCatR := by
  intro pins s σ H x y v u Q I rx ry h
  obtain ⟨l, b, xs, zs, rfl, rfl, hH, hB, hz, q⟩ := h
  cases rx
  cases ry
  obtain ⟨z, its, n, r, hl, e⟩ := I.lstR hH
  obtain ⟨z2, its2, n2, r2, hl2, e2⟩ := I.lstR hB
  refine PySem.P.add_list e e2 ?_ (by rw [List.size_toArray, List.size_toArray]; omega)
  have ea : its.toArray ++ its2.toArray = (its ++ its2).toArray := by simp
  rw [ea]
  exact ⟨.ref _, _, I.lnew (t' := s.toks) (r.append r2) (by rw [List.length_append]; omega), rfl, q _ I.fresh⟩
def rRepR : R2 := fun x y H Q => ∃ l k xs, x = .ref l ∧ y = .int k ∧ Rd H l (.lst xs) ∧ -(2 ^ 63) ≤ k ∧ k < 2 ^ 63 ∧ xs.length * k.toNat ≤ sizeLine ∧ ∀ p, H p = none → Q (.ref p) (upd H p (.lst (List.replicate k.toNat xs).flatten))
theorem op_repR : OpR X (binaryOp .Mult) rRepR := by
  intro pins s σ H x y v u Q I rx ry h
  obtain ⟨l, k, xs, rfl, rfl, hH, h1, h2, hz, q⟩ := h
  cases rx
  obtain ⟨t, rfl⟩ := ry
  obtain ⟨z, its, n, r, hl, e⟩ := I.lstR hH
  have hlen : its.toArray.size * k.toNat ≤ sizeLine := by rw [List.size_toArray, ← hl]; exact hz
  have hcap : ¬ its.toArray.size * k.toNat > (2 ^ 63 - 1) / 8 := by
    have : (sizeLine : Nat) ≤ (2 ^ 63 - 1) / 8 := by decide
    omega
  have hfit : ¬ (!Builtin.List.listFitsIndex k) = true := by
    rw [fitsIndex_both h1 h2]
    exact Bool.false_ne_true
  have hlong : ¬ Builtin.List.listTooLong (its.toArray.size * k.toNat) = true := by
    rw [notLongL hlen]
    exact Bool.false_ne_true
  have hnew : List.foldl (fun x1 x2 => x1 ++ x2) #[] (List.replicate (if its.toArray.isEmpty = true then 0 else k.toNat) its.toArray) = (List.replicate k.toNat its).flatten.toArray := by
    have f0 : ∀ m : Nat, List.foldl (fun x1 x2 => x1 ++ x2) #[] (List.replicate m its.toArray) = (List.replicate m its).flatten.toArray := fun m => by
      have := foldl_rep its m []
      rw [List.nil_append] at this
      exact this
    rw [f0]
    cases its with
    | nil => simp
    | cons a r' => rw [if_neg (by simp)]
  refine wpAny_binaryOp_repeat_ref (T := "list") (U := "int") (by decide) ⟨_, e, rfl⟩ (fun s' => typeIs_int s' k t) noFill_list_mul F.fills_int_mul F.slot_int_rmul repeat_list F.slot_int_index.lookup
    (call_meets F.slot_int_rmul (typeIs_int s k t) F.entry_int_rmul (F.args_int_rmul_2 _ _) (int___rmul___int_list k t l its.toArray n)
      ⟨e, rfl, ⟨_, e, rfl⟩, call_meets F.slot_list_mul ⟨_, e, rfl⟩ F.entry_list_mul (F.args_list_mul_2 _ _) (AutoListH.list___mul___list_int_3 l its.toArray n k t hfit hcap hlong) ⟨e, ?_⟩⟩)
  rw [hnew]
  exact ⟨.ref _, _, I.lnew (t' := s.toks) (r.rep k.toNat) (by rw [PyProof.Rows.lm_len_rep_flat, Nat.mul_comm]; exact hz), rfl, q _ I.fresh⟩
end
end Wb

end
section
/-! Wb: tuple * 1, () * k: the tuple itself; tuple * 0: a new (). -/
namespace Wb
open PySem PySem.Spec PyProof.Rows L2
theorem tuple_mulS (l : Addr) (items : Array Value) (n : Nat) (dd : Option Addr) (sl : Array (Option Value)) (x : Int) (u : Tok) (c0 : (decide (x < -(2 ^ 63)) || decide (x ≥ 2 ^ 63)) = false) (c1 : (items.isEmpty || x == 1) = true) :
    Meets (Builtin.«tuple.__mul__» ⟨[.ref l, .int x u], []⟩) (fun _ R s => s.heap.get? l = some { cls := .type "tuple", dict := dd, data := .seq items n, slots := sl } ∧
      R (.ok (.ret (Value.ref l))) s) :=
  .of_wp fun prog w A R s h => by
    obtain ⟨hp, g, d, tk, os⟩ := s
    obtain ⟨hl, h⟩ := h
    have f1 := AutoSeq1.idx_int
    wp_walk using wpAny_loadPart' hl
    repeat (first
      | (refine wpAny_ite_false (decide_eq_false (by rw [c0]; exact Bool.false_ne_true)) ?_; wp_walk using wpAny_loadPart' hl)
      | (refine wpAny_ite_true (decide_eq_true c1) ?_; wp_walk using wpAny_loadPart' hl)
      | (refine wpAny_bind (wpAny_typeOf (T := "tuple") ⟨_, hl, rfl⟩ ?_); wp_walk using wpAny_loadPart' hl))
    exact ⟨_, rfl, h⟩
theorem tuple_mul0 (l : Addr) (items : Array Value) (n : Nat) (dd : Option Addr) (sl : Array (Option Value)) (x : Int) (u : Tok) (c0 : (decide (x < -(2 ^ 63)) || decide (x ≥ 2 ^ 63)) = false) (c1 : (items.isEmpty || x == 1) = false) (c2 : (decide (x ≤ 0) || items.isEmpty) = true) :
    Meets (Builtin.«tuple.__mul__» ⟨[.ref l, .int x u], []⟩) (fun _ R s => s.heap.get? l = some { cls := .type "tuple", dict := dd, data := .seq items n, slots := sl } ∧
      R (.ok (.ret (Value.ref s.heap.objs.size))) { s with heap := s.heap.push { cls := Value.type "tuple", data := Data.seq #[] }, toks := s.toks }) :=
  .of_wp fun prog w A R s h => by
    obtain ⟨hp, g, d, tk, os⟩ := s
    obtain ⟨hl, h⟩ := h
    have f1 := AutoSeq1.idx_int
    wp_walk using wpAny_loadPart' hl
    repeat (first
      | (refine wpAny_ite_false (decide_eq_false (by rw [c0]; exact Bool.false_ne_true)) ?_; wp_walk using wpAny_loadPart' hl)
      | (refine wpAny_ite_false (decide_eq_false (by rw [c1]; exact Bool.false_ne_true)) ?_; wp_walk using wpAny_loadPart' hl)
      | (refine wpAny_ite_true (decide_eq_true c2) ?_; wp_walk using wpAny_loadPart' hl))
    exact ⟨_, rfl, h⟩
def rRepS (K : PySem.W.Frag) : R2 := fun x y H Q => ∃ l k xs, x = .ref l ∧ y = .int k ∧ SqT K H l xs ∧ (xs = [] ∨ k = 1) ∧ -(2 ^ 63) ≤ k ∧ k < 2 ^ 63 ∧ Q (.ref l) H
def rRep0 (K : PySem.W.Frag) : R2 := fun x y H Q => ∃ l k xs, x = .ref l ∧ y = .int k ∧ SqT K H l xs ∧ xs ≠ [] ∧ k ≤ 0 ∧ -(2 ^ 63) ≤ k ∧ ∀ p, H p = none → Q (.ref p) (upd H p (.tup []))
section
variable {X : Cx}
theorem op_repS : OpR X (binaryOp .Mult) (rRepS X.K) := by
  intro pins s σ H x y v u Q I rx ry h
  obtain ⟨l, k, xs, rfl, rfl, hT, hne, h1, h2, q⟩ := h
  have rx0 := rx
  cases rx
  obtain ⟨t, rfl⟩ := ry
  obtain ⟨its, r, ⟨⟨cls, dd, data, sl⟩, ho, hc, n, hd⟩, hs⟩ := I.tuple hT
  simp only at hc hd
  subst hc hd
  have c0 : (decide (k < -(2 ^ 63)) || decide (k ≥ 2 ^ 63)) = false := by
    rw [decide_eq_false (by omega), decide_eq_false (by omega)] <;> rfl
  have c1 : (its.toArray.isEmpty || k == 1) = true := by
    rcases hne with e | e
    · subst e
      cases r
      rfl
    · subst e; rw [show ((1 : Int) == 1) = true from rfl, Bool.or_true]
  refine wpAny_binaryOp_repeat_ref (T := "tuple") (U := "int") (by decide) ⟨_, ho, rfl⟩ (fun s' => typeIs_int s' k t) noFill_tuple_mul F.fills_int_mul F.slot_int_rmul repeat_tuple F.slot_int_index.lookup
    (call_meets F.slot_int_rmul (typeIs_int s k t) F.entry_int_rmul (F.args_int_rmul_2 _ _) (int_rmul_tuple k t l its.toArray n dd sl)
      ⟨ho, rfl, ⟨_, ho, rfl⟩, call_meets F.slot_tuple_mul ⟨_, ho, rfl⟩ F.entry_tuple_mul (F.args_tuple_mul_2 _ _) (tuple_mulS l its.toArray n dd sl k t c0 c1) ⟨ho, ?_⟩⟩)
  exact ⟨.ref l, H, I, rx0, q⟩
theorem op_rep0 : OpR X (binaryOp .Mult) (rRep0 X.K) := by
  intro pins s σ H x y v u Q I rx ry h
  obtain ⟨l, k, xs, rfl, rfl, hT, hne, h1, h2, q⟩ := h
  cases rx
  obtain ⟨t, rfl⟩ := ry
  obtain ⟨its, r, ⟨⟨cls, dd, data, sl⟩, ho, hc, n, hd⟩, hs⟩ := I.tuple hT
  simp only at hc hd
  subst hc hd
  have hle : its.length = xs.length := r.length.symm
  have hn : its ≠ [] := fun e => hne (by
    rw [e] at hle
    exact List.eq_nil_of_length_eq_zero hle.symm)
  have hi : its.toArray.isEmpty = false := by
    cases its with
    | nil => exact absurd rfl hn
    | cons a b => rfl
  have c0 : (decide (k < -(2 ^ 63)) || decide (k ≥ 2 ^ 63)) = false := by
    rw [decide_eq_false (by omega), decide_eq_false (by omega)] <;> rfl
  have c1 : (its.toArray.isEmpty || k == 1) = false := by
    rw [hi, Bool.false_or]
    exact beq_eq_false_iff_ne.mpr (by omega)
  have c2 : (decide (k ≤ 0) || its.toArray.isEmpty) = true := by
    rw [hi, Bool.or_false]
    exact decide_eq_true h1
  refine wpAny_binaryOp_repeat_ref (T := "tuple") (U := "int") (by decide) ⟨_, ho, rfl⟩ (fun s' => typeIs_int s' k t) noFill_tuple_mul F.fills_int_mul F.slot_int_rmul repeat_tuple F.slot_int_index.lookup
    (call_meets F.slot_int_rmul (typeIs_int s k t) F.entry_int_rmul (F.args_int_rmul_2 _ _) (int_rmul_tuple k t l its.toArray n dd sl)
      ⟨ho, rfl, ⟨_, ho, rfl⟩, call_meets F.slot_tuple_mul ⟨_, ho, rfl⟩ F.entry_tuple_mul (F.args_tuple_mul_2 _ _) (tuple_mul0 l its.toArray n dd sl k t c0 c1 c2) ⟨ho, ?_⟩⟩)
  refine ⟨.ref s.heap.objs.size, _, I.laid (t' := s.toks) (o := .tup []) (fun b ob q => Heap.get?_push_of_some _ q) (Nat.le_refl _) ?_, rfl, q _ (I.hok.fresh (Nat.le_refl _))⟩
  exact ⟨Nat.zero_le _, [], .nil, IsTup.new _ _⟩
end
end Wb

end
section
/-! Wb: expressions, form by form. -/
namespace Wb
open PySem PySem.Spec PyProof.Rows L2

/-- what a variable's value is to a reader -/
def rdT : Ow → Ow
  | .sh => .sh
  | .bo t => .bo t
  | t => .bo t
section
variable {C : Cn} {T : List (Addr × Str)} {E : XK} {X : Cx} {Γ Γ1 Γ2 Γ3 : List Ow} {τ τ1 τ2 τ3 : Ow} {m m1 m2 m3 : Env → M D} {pos p : Pos}
theorem opt_some {α : Type} {o : Option α} {Q : α → Prop} {Ed : Exn → Prop} (h : M.opt o Q Ed) : ∃ a, o = some a ∧ Q a := by
  cases o with
  | none => exact h.elim
  | some a => exact ⟨a, rfl, h⟩
theorem join_some {α : Type} {o : Option (Option α)} {a : α} (h : o.join = some a) : o = some (some a) := by
  cases o with
  | none => cases h
  | some o => exact congrArg some h
theorem RepT.rd {H : Hp} {O : Addr → Prop} {v : V} {d : D} {F : List Addr} (h : RepT C H O τ v d F) : RepR C H O (rdT τ) v d := by
  cases τ with
  | sh => exact h.2
  | li t => exact ⟨F, h⟩
  | dk => exact ⟨F, h⟩
  | dt => exact ⟨F, h⟩
  | bo t => obtain ⟨_, F', h⟩ := h; exact ⟨F', h⟩
/-- a variable, read -/
theorem ve_var {i : Nat} {x : Str} (hN : X.N[i]? = some x) (hv : Vis X.env.scope x) (hd : (x == ("__debug__" : Str)) = false) (hcd : (x == ("__classdict__" : Str)) = false) (ht : Γ[i]? = some τ) :
    PE X (.Name x pos) (tV C T E Γ Γ (rdT τ) (fun ρ => .opt (ρ[i]?.join))) := by
  refine (pe_var (i := i) hN hv hd hcd).imp fun σ H Q ⟨O, Fs, ρ, Qd, Ed, r, hm, xp, k⟩ => ?_
  obtain ⟨d, e, hq⟩ := opt_some hm
  obtain ⟨v, τ', e1, e2, q⟩ := r.slot i d (join_some e)
  rw [ht] at e2; cases e2
  exact ⟨v, e1, k d v H Fs hq (TrE.refl H Fs) r q.rd⟩
theorem updF_nil_own {Fs : Nat → List Addr} {i : Nat} {a : Addr} (h : Ownd (updF Fs i []) a) : Ownd Fs a := (ownd_updF h).elim id fun z => absurd z (by simp)
/-- a variable, given up -/
theorem ve_give {i : Nat} {x : Str} (hN : X.N[i]? = some x) (hv : Vis X.env.scope x) (hd : (x == ("__debug__" : Str)) = false) (hcd : (x == ("__classdict__" : Str)) = false) (ht : Γ[i]? = some τ) (b : noBo τ = true) :
    PE X (.Name x pos) (tV C T E Γ (Γ.set i .sh) .sh (fun ρ => .opt (ρ[i]?.join))) := by
  refine (pe_var (i := i) hN hv hd hcd).imp fun σ H Q ⟨O, Fs, ρ, Qd, Ed, r, hm, xp, k⟩ => ?_
  obtain ⟨d, e, hq⟩ := opt_some hm
  obtain ⟨v, e1, r', q⟩ := r.give (join_some e) ht b
  exact ⟨v, e1, k d v H _ hq ⟨KpA.refl H, fun a z => .inl (z.elim updF_nil_own fun z => absurd z (by simp))⟩ r' q⟩
/-- a written value -/
theorem ve_c {e : Expr} {v : V} {d : D} (h : PE X e (tC v)) (q : ∀ H O, RepS C H O v d) : PE X e (tV C T E Γ Γ .sh (fun _ => .ret d)) :=
  h.imp fun σ H Q ⟨O, Fs, ρ, Qd, Ed, r, hm, xp, k⟩ => k d v H Fs hm (TrE.refl H Fs) r (q _ _)
theorem ve_int {i j} : PE X (.Constant (.int i) j pos) (tV C T E Γ Γ .sh (fun _ => .ret (.int i))) := ve_c pe_int fun _ _ => .int i
theorem ve_bl {b j} : PE X (.Constant (.bool b) j pos) (tV C T E Γ Γ .sh (fun _ => .ret (.bl b))) := ve_c pe_bl fun _ _ => .bl b
theorem ve_non {j} : PE X (.Constant .none j pos) (tV C T E Γ Γ .sh (fun _ => .ret .non)) := ve_c pe_non fun _ _ => .non
theorem ve_str {x j} : PE X (.Constant (.str x) j pos) (tV C T E Γ Γ .sh (fun _ => .ret (.str x))) := ve_c pe_str fun _ _ => .str x
theorem ve_gint {x : Str} {n : Int} {t : Tok} (hg : Gl X x) (hm : X.mg x = some (.int n t)) (hd : (x == ("__debug__" : Str)) = false) : PE X (.Name x pos) (tV C T E Γ Γ .sh (fun _ => .ret (.int n))) :=
  ve_c (pe_glob hg hm (v := .int n) ⟨t, rfl⟩ hd) fun _ _ => .int n
theorem ve_fn {x : Str} {f : Addr} (hg : Gl X x) (hm : X.mg x = some (.ref f)) (hC : C.mg = X.mg) (hd : (x == ("__debug__" : Str)) = false) : PE X (.Name x pos) (tV C T E Γ Γ .sh (fun _ => .ret (.fn x))) :=
  ve_c (pe_glob hg hm (v := .ref f) rfl hd) fun _ _ => .fn (by rw [hC]; exact hm)

/-! operators: what each asks, by trees -/
theorem Oall_ne {O : Addr → Prop} {Fs : Nat → List Addr} {σ : L2.St} {H : Hp} {ρ : Env} (r : Rl C T O Γ Fs σ H ρ) : ∀ a, Oall O Fs a → H a ≠ none := fun a z => by
  obtain ⟨o, e, _⟩ := r.ok a z
  rw [e]; exact fun z => nomatch z
/-- an operation upon two -/
def Sem2 (C : Cn) (r : R2) (o : D → D → M D) (τ1 τ2 τ : Ow) : Prop := ∀ (O : Addr → Prop) (H : Hp) (x y : V) (dx dy : D) (Qd : D → Prop) (Ed : Exn → Prop) (Q : VK), (∀ a, O a → H a ≠ none) → RepR C H O τ1 x dx → RepR C H O τ2 y dy → o dx dy Qd Ed → Sim C O H τ Qd Q → r x y H Q
theorem sem_sub : Sem2 C (rI0 fun i j => .int (i - j)) (binD .sub) τ1 τ2 .sh := by
  intro O H x y dx dy Qd Ed Q hO rx ry h s
  cases dx <;> cases dy <;> first | exact (h : False).elim | skip
  have e1 := rx.int; have e2 := ry.int
  subst e1 e2
  exact ⟨_, _, rfl, rfl, s.val h (.int _)⟩
theorem sem_fdiv : Sem2 C (rI CDivW fun i j => .int (i / j)) (binD .fdiv) τ1 τ2 .sh := by
  intro O H x y dx dy Qd Ed Q hO rx ry h s
  cases dx <;> cases dy <;> first | exact (h : False).elim | skip
  have e1 := rx.int; have e2 := ry.int
  subst e1 e2
  exact ⟨_, _, rfl, rfl, h.1, s.val h.2 (.int _)⟩
theorem sem_mod : Sem2 C (rI (fun _ j => 0 < j) fun i j => .int (i % j)) (binD .mod) τ1 τ2 .sh := by
  intro O H x y dx dy Qd Ed Q hO rx ry h s
  cases dx <;> cases dy <;> first | exact (h : False).elim | skip
  have e1 := rx.int; have e2 := ry.int
  subst e1 e2
  exact ⟨_, _, rfl, rfl, h.1, s.val h.2 (.int _)⟩
theorem sem_pow : Sem2 C (rI CPow fun i j => .int (i ^ j.toNat)) (binD .pow) τ1 τ2 .sh := by
  intro O H x y dx dy Qd Ed Q hO rx ry h s
  cases dx <;> cases dy <;> first | exact (h : False).elim | skip
  have e1 := rx.int; have e2 := ry.int
  subst e1 e2
  exact ⟨_, _, rfl, rfl, h.1, s.val h.2 (.int _)⟩
def rAddD (K : PySem.W.Frag) : R2 := fun x y H Q => rI0 (fun i j => .int (i + j)) x y H Q ∨ (rCatR x y H Q ∨ rCatA K x y H Q)
theorem op_addD : OpR X (binaryOp .Add) (rAddD X.K) := op_add.or (op_catR.or op_catA)
theorem sem_add (f1 : flatO τ1 = true) (f2 : flatO τ2 = true) : Sem2 C (rAddD C.K) (binD .add) τ1 τ2 .sh := by
  intro O H x y dx dy Qd Ed Q hO rx ry h s
  cases dx <;> cases dy <;> first | exact (h : False).elim | skip
  · have e1 := rx.int; have e2 := ry.int
    subst e1 e2
    exact .inl ⟨_, _, rfl, rfl, s.val h (.int _)⟩
  · rename_i xs ys
    obtain ⟨a, vs, rfl, ra, za, qa⟩ := rx.lst f1
    obtain ⟨b, ws, rfl, rb, zb, qb⟩ := ry.lst f2
    obtain ⟨hz, hq⟩ := h
    have hz' : vs.length + ws.length ≤ sizeLine := by rw [qa.length, qb.length]; exact hz
    exact .inr (.inl ⟨a, b, vs, ws, rfl, rfl, ra, rb, hz', s.lstS hO hq (by rw [List.length_append]; exact hz') (qa.append qb)⟩)
  · rename_i xs ys
    obtain ⟨a, vs, rfl, na, ra, za, qa⟩ := rx.tup
    obtain ⟨b, ws, rfl, nb, rb, zb, qb⟩ := ry.tup
    obtain ⟨hz, hq⟩ := h
    have hz' : vs.length + ws.length ≤ sizeLine := by rw [qa.length, qb.length]; exact hz
    refine .inr (.inr ⟨a, b, vs, ws, rfl, rfl, SqT.of ra, SqT.of rb, hz', fun e => ?_, fun _ e => ?_, fun _ _ => s.tup hO hq (by rw [List.length_append]; exact hz') (qa.append qb)⟩)
    · subst e
      have : xs = [] := by cases qa; rfl
      subst this
      exact s.val hq (.tup nb rb zb qb)
    · subst e
      have : ys = [] := by cases qb; rfl
      subst this
      rw [List.append_nil] at hq
      exact s.val hq (.tup na ra za qa)
theorem sem_cat (f1 : flatO τ1 = true) (f2 : flatO τ2 = true) : Sem2 C rCatR (binD .cat) τ1 τ2 (.li .sh) := by
  intro O H x y dx dy Qd Ed Q hO rx ry h s
  cases dx <;> cases dy <;> first | exact (h : False).elim | skip
  obtain ⟨a, vs, rfl, ra, za, qa⟩ := rx.lst f1
  obtain ⟨b, ws, rfl, rb, zb, qb⟩ := ry.lst f2
  obtain ⟨hz, hq⟩ := h
  have hz' : vs.length + ws.length ≤ sizeLine := by rw [qa.length, qb.length]; exact hz
  exact ⟨a, b, vs, ws, rfl, rfl, ra, rb, hz', s.lst hq (by rw [List.length_append]; exact hz') (qa.append qb)⟩
theorem sem_rep (f1 : flatO τ1 = true) : Sem2 C rRepR (binD .rep) τ1 τ2 (.li .sh) := by
  intro O H x y dx dy Qd Ed Q hO rx ry h s
  cases dx <;> cases dy <;> first | exact (h : False).elim | skip
  obtain ⟨a, vs, rfl, ra, za, qa⟩ := rx.lst f1
  have e2 := ry.int
  subst e2
  obtain ⟨⟨h1, h2, hz⟩, hq⟩ := h
  rw [← qa.length] at hz
  exact ⟨a, _, vs, rfl, rfl, ra, h1, h2, hz, s.lst hq (by rw [PyProof.Rows.lm_len_rep_flat, Nat.mul_comm]; exact hz) (qa.flat _)⟩
def rMulD (K : PySem.W.Frag) : R2 := fun x y H Q => rI IntMulOk (fun i j => .int (i * j)) x y H Q ∨ (rRepR x y H Q ∨ (rRepT K x y H Q ∨ (rRepS K x y H Q ∨ rRep0 K x y H Q)))
theorem op_mulZ : OpR X (binaryOp .Mult) (rI IntMulOk fun i j => .int (i * j)) := opI fun _ _ _ _ _ _ _ hc q => mul_int q hc
theorem op_mulD : OpR X (binaryOp .Mult) (rMulD X.K) := op_mulZ.or (op_repR.or (op_repT.or (op_repS.or op_rep0)))
theorem sem_mul (f1 : flatO τ1 = true) : Sem2 C (rMulD C.K) (binD .mul) τ1 τ2 .sh := by
  intro O H x y dx dy Qd Ed Q hO rx ry h s
  cases dx <;> cases dy <;> first | exact (h : False).elim | skip
  · have e1 := rx.int; have e2 := ry.int
    subst e1 e2
    exact .inl ⟨_, _, rfl, rfl, h.1, s.val h.2 (.int _)⟩
  · obtain ⟨a, vs, rfl, ra, za, qa⟩ := rx.lst f1
    have e2 := ry.int
    subst e2
    obtain ⟨⟨h1, h2, hz⟩, hq⟩ := h
    rw [← qa.length] at hz
    exact .inr (.inl ⟨a, _, vs, rfl, rfl, ra, h1, h2, hz, s.lstS hO hq (by rw [PyProof.Rows.lm_len_rep_flat, Nat.mul_comm]; exact hz) (qa.flat _)⟩)
  · obtain ⟨a, vs, rfl, na, ra, za, qa⟩ := rx.tup
    have e2 := ry.int
    subst e2
    rename_i ds k
    obtain ⟨⟨h1, h2, hz⟩, hq⟩ := h
    have hz' : vs.length ≤ 1000 := by rw [qa.length]; exact hz
    by_cases hnil : vs = []
    · subst hnil
      cases qa
      refine .inr (.inr (.inr (.inl ⟨a, _, [], rfl, rfl, SqT.of ra, .inl rfl, h1, by omega, ?_⟩)))
      have e0 : (List.replicate k.toNat ([] : List D)).flatten = [] := by
        induction k.toNat with
        | zero => rfl
        | succ n ih => rw [List.replicate_succ, List.flatten_cons, ih]; rfl
      rw [e0] at hq
      exact s.val hq (.tup na ra za .nil)
    by_cases hk1 : k = 1
    · subst hk1
      refine .inr (.inr (.inr (.inl ⟨a, _, vs, rfl, rfl, SqT.of ra, .inr rfl, by decide, by decide, ?_⟩)))
      rw [show (List.replicate (1 : Int).toNat ds).flatten = ds by rw [show (1 : Int).toNat = 1 from rfl, List.replicate_succ, List.replicate_zero, List.flatten_cons, List.flatten_nil, List.append_nil]] at hq
      exact s.val hq (.tup na ra za qa)
    by_cases hk0 : k ≤ 0
    · refine .inr (.inr (.inr (.inr ⟨a, _, vs, rfl, rfl, SqT.of ra, hnil, hk0, h1, ?_⟩)))
      rw [show k.toNat = 0 by omega] at hq
      exact s.tup hO hq (Nat.zero_le _) .nil
    refine .inr (.inr (.inl ⟨a, _, vs, rfl, rfl, SqT.of ra, hnil, by omega, h2, hz', s.tup hO hq ?_ (qa.flat _)⟩))
    rw [PyProof.Rows.lm_len_rep_flat, sizeLine_eq]
    have a1 : k.toNat * vs.length ≤ 1000 * 1000 := Nat.mul_le_mul (by omega) hz'
    omega

/-! comparisons -/
def Sem2B (C : Cn) (r : R2) (o : D → D → M Bool) (τ1 τ2 : Ow) : Prop := ∀ (O : Addr → Prop) (H : Hp) (x y : V) (dx dy : D) (Qd : Bool → Prop) (Ed : Exn → Prop) (Q : VK), RepR C H O τ1 x dx → RepR C H O τ2 y dy → o dx dy Qd Ed → (∀ b, Qd b → Q (.bl b) H) → r x y H Q
theorem semB_int {c : Cm} {g : Int → Int → Bool} (hc : ∀ i j, cmpD c (.int i) (.int j) = .ret (g i j)) (ho : ∀ x y, (∀ i j, x = .int i → y = .int j → False) → cmpD c x y = .fail) : Sem2B C (rI0 fun i j => .bl (g i j)) (cmpD c) τ1 τ2 := by
  intro O H x y dx dy Qd Ed Q rx ry h s
  by_cases hi : ∃ i j, dx = .int i ∧ dy = .int j
  · obtain ⟨i, j, rfl, rfl⟩ := hi
    have e1 := rx.int; have e2 := ry.int
    subst e1 e2
    rw [hc] at h
    exact ⟨_, _, rfl, rfl, s _ h⟩
  · rw [ho dx dy fun i j e1 e2 => hi ⟨i, j, e1, e2⟩] at h
    exact (h : False).elim
theorem semB_lt : Sem2B C (rI0 fun i j => .bl (decide (i < j))) (cmpD .lt) τ1 τ2 := semB_int (fun _ _ => rfl) fun x y h => by cases x <;> cases y <;> first | rfl | exact (h _ _ rfl rfl).elim
theorem semB_le : Sem2B C (rI0 fun i j => .bl (decide (i ≤ j))) (cmpD .le) τ1 τ2 := semB_int (fun _ _ => rfl) fun x y h => by cases x <;> cases y <;> first | rfl | exact (h _ _ rfl rfl).elim
theorem semB_gt : Sem2B C (rI0 fun i j => .bl (decide (j < i))) (cmpD .gt) τ1 τ2 := semB_int (fun _ _ => rfl) fun x y h => by cases x <;> cases y <;> first | rfl | exact (h _ _ rfl rfl).elim
theorem semB_ge : Sem2B C (rI0 fun i j => .bl (decide (j ≤ i))) (cmpD .ge) τ1 τ2 := semB_int (fun _ _ => rfl) fun x y h => by cases x <;> cases y <;> first | rfl | exact (h _ _ rfl rfl).elim
theorem semB_eq : Sem2B C (rEqD C.K) (cmpD .eq) τ1 τ2 := by
  intro O H x y dx dy Qd Ed Q rx ry h s
  have h' : (okEq dx = true ∧ okEq dy = true) ∧ Qd (eqv dx dy) := by cases dx <;> exact h
  obtain ⟨⟨h1, h2⟩, hq⟩ := h'
  exact ⟨_, _, rx.dp (okEq_sh h1).1, ry.dp (okEq_sh h2).1, (okEq_sh h1).2, (okEq_sh h2).2, s _ hq⟩
theorem semB_ne : Sem2B C (rNeD C.K) (cmpD .ne) τ1 τ2 := by
  intro O H x y dx dy Qd Ed Q rx ry h s
  have h' : (okEq dx = true ∧ okEq dy = true) ∧ Qd (!eqv dx dy) := by cases dx <;> exact h
  obtain ⟨⟨h1, h2⟩, hq⟩ := h'
  exact ⟨_, _, rx.dp (okEq_sh h1).1, ry.dp (okEq_sh h2).1, (okEq_sh h1).2, (okEq_sh h2).2, s _ hq⟩
theorem RepT.isNon {H : Hp} {O : Addr → Prop} {v : V} : ∀ {t : Ow} {F : List Addr} {d : D}, RepT C H O t v d F → decide (v = .non) = isNonD d
  | .sh, _, _, h => by
    obtain ⟨_, h⟩ := h
    cases h <;> simp [isNonD]
  | .li t, _, _, h => by obtain ⟨_, _, _, _, e, e', _⟩ := h; subst e e'; simp [isNonD]
  | .dk, _, _, h => by obtain ⟨_, _, _, e, e', _⟩ := h; subst e e'; simp [isNonD]
  | .dt, _, _, h => by obtain ⟨_, _, _, e, e', _⟩ := h; subst e e'; simp [isNonD]
  | .bo t, _, _, h => by obtain ⟨_, _, h⟩ := h; exact h.isNon
theorem RepR.isNon {H : Hp} {O : Addr → Prop} {v : V} {d : D} (h : RepR C H O τ v d) : decide (v = .non) = isNonD d := by obtain ⟨t, F, h⟩ := h.T; exact h.isNon
theorem ve_cmp {op : CmpOp} {a b : Expr} {r : R2} {c : Cm} (ho : OpR X (compareOp op) r) (ha : PE X a (tV C T E Γ Γ1 τ1 m1)) (hb : PE X b (tV C T E Γ1 Γ2 τ2 m2)) (hm : behindInMarks op b = false) (sem : Sem2B C r (cmpD c) τ1 τ2) :
    PE X (.Compare a [op] [b] pos) (tV C T E Γ Γ2 .sh (fun ρ => .bind (m1 ρ) fun x => .bind (m2 ρ) fun y => .bind (cmpD c x y) fun r => .ret (.bl r))) := by
  refine (pe_cmpR ho ha hb hm).imp fun σ H Q ⟨O, Fs, ρ, Qd, Ed, r0, hm, x, k⟩ => ?_
  refine ⟨O, Fs, ρ, _, Ed, r0, hm, x, fun d1 v1 H1 Fs1 h1 t1 r1 q1 => ?_⟩
  refine ⟨O, Fs1, ρ, _, Ed, r1, h1, x.tr t1.toS, fun d2 v2 H2 Fs2 h2 t2 r2 q2 => ?_⟩
  refine sem (Oall O Fs2) H2 v1 v2 d1 d2 _ Ed Q (q1.mono t2.kp fun a o e z => ?_) q2 h2 fun b hb => k _ _ H2 Fs2 hb (t1.trans t2) r2 (RepS.bl b)
  rcases z with z | z
  · exact .inl z
  · rcases t2.fr a (.inl z) with z | z
    · exact .inr z
    · rw [z] at e; cases e
theorem ve_isN {a : Expr} {j : Nat} {pos' : Pos} (ha : PE X a (tV C T E Γ Γ1 τ1 m1)) : PE X (.Compare a [.Is] [.Constant .none j pos'] pos) (tV C T E Γ Γ1 .sh (fun ρ => .bind (m1 ρ) fun x => .bind (.ret D.non) fun y => .bind (cmpD .isN x y) fun r => .ret (.bl r))) := by
  refine (pe_cmp (pc_isN ha) rfl).imp fun σ H Q ⟨O, Fs, ρ, Qd, Ed, r0, hm, x, k⟩ => ?_
  refine ⟨O, Fs, ρ, _, Ed, r0, hm, x, fun d1 v1 H1 Fs1 h1 t1 r1 q1 => ?_⟩
  have e := q1.isNon
  have h1' : Qd (.bl (isNonD d1)) := by cases d1 <;> exact h1
  show Q (.bl (decide (v1 = .non))) H1
  rw [e]
  exact k _ _ H1 Fs1 h1' t1 r1 (RepS.bl _)
theorem ve_notN {a : Expr} {j : Nat} {pos' : Pos} (ha : PE X a (tV C T E Γ Γ1 τ1 m1)) : PE X (.Compare a [.IsNot] [.Constant .none j pos'] pos) (tV C T E Γ Γ1 .sh (fun ρ => .bind (m1 ρ) fun x => .bind (.ret D.non) fun y => .bind (cmpD .notN x y) fun r => .ret (.bl r))) := by
  refine (pe_cmp (pc_notN ha) rfl).imp fun σ H Q ⟨O, Fs, ρ, Qd, Ed, r0, hm, x, k⟩ => ?_
  refine ⟨O, Fs, ρ, _, Ed, r0, hm, x, fun d1 v1 H1 Fs1 h1 t1 r1 q1 => ?_⟩
  have e := q1.isNon
  have h1' : Qd (.bl (!isNonD d1)) := by cases d1 <;> exact h1
  show Q (.bl (!decide (v1 = .non))) H1
  rw [e]
  exact k _ _ H1 Fs1 h1' t1 r1 (RepS.bl _)
theorem ve_chn {op op' : CmpOp} {a b d : Expr} {r r' : R2} {c c' : Cm} (ho : OpR X (compareOp op) r) (ho' : OpR X (compareOp op') r') (ha : PE X a (tV C T E Γ Γ1 τ1 m1)) (hb : PE X b (tV C T E Γ1 Γ2 τ2 m2)) (hd : PE X d (tV C T E Γ2 Γ2 τ3 m3))
    (hm : lastMarks [op, op'] [b, d] = false) (sem : Sem2B C r (cmpD c) τ1 τ2) (sem' : Sem2B C r' (cmpD c') τ2 τ3) :
    PE X (.Compare a [op, op'] [b, d] pos) (tV C T E Γ Γ2 .sh (fun ρ => .bind (m1 ρ) fun x => .bind (m2 ρ) fun y => .bind (cmpD c x y) fun r => if r = true then .bind (m3 ρ) fun z => .bind (cmpD c' y z) fun r' => .ret (.bl r') else .ret (.bl false))) := by
  refine (pe_chain ho ho' ha hb hd hm).imp fun σ H Q ⟨O, Fs, ρ, Qd, Ed, r0, hm, x, k⟩ => ?_
  refine ⟨O, Fs, ρ, _, Ed, r0, hm, x, fun d1 v1 H1 Fs1 h1 t1 r1 q1 => ?_⟩
  refine ⟨O, Fs1, ρ, _, Ed, r1, h1, x.tr t1.toS, fun d2 v2 H2 Fs2 h2 t2 r2 q2 => ?_⟩
  have mv : ∀ {H H' : Hp} {Fs Fs' : Nat → List Addr}, TrE H Fs H' Fs' [] → ∀ a o, H a = some o → Oall O Fs' a → Oall O Fs a := fun t2 a o e z => by
    rcases z with z | z
    · exact .inl z
    · rcases t2.fr a (.inl z) with z | z
      · exact .inr z
      · rw [z] at e; cases e
  refine sem (Oall O Fs2) H2 v1 v2 d1 d2 _ Ed _ (q1.mono t2.kp (mv t2)) q2 h2 fun b hb => ⟨b, rfl, ?_⟩
  cases b with
  | false => exact k _ _ H2 Fs2 hb (t1.trans t2) r2 (RepS.bl false)
  | true =>
    refine ⟨O, Fs2, ρ, _, Ed, r2, hb, (x.tr t1.toS).tr t2.toS, fun d3 v3 H3 Fs3 h3 t3 r3 q3 => ?_⟩
    exact sem' (Oall O Fs3) H3 v2 v3 d2 d3 _ Ed Q (q2.mono t3.kp (mv t3)) q3 h3 fun b hb => k _ _ H3 Fs3 hb ((t1.trans t2).trans t3) r3 (RepS.bl b)
end
end Wb

end
section
/-! Wb: tests, displays, subscripts, slices. -/
namespace Wb
open PySem PySem.Spec PyProof.Rows L2

section
variable {C : Cn} {T : List (Addr × Str)} {E : XK} {X : Cx} {Γ Γ1 Γ2 Γ3 : List Ow} {τ τ1 τ2 τ3 : Ow} {m m1 m2 m3 : Env → M D} {pos p : Pos}
theorem own_mv {O : Addr → Prop} {H H' : Hp} {Fs Fs' : Nat → List Addr} (t2 : TrE H Fs H' Fs' []) : ∀ a o, H a = some o → Oall O Fs' a → Oall O Fs a := fun a o e z => by
  rcases z with z | z
  · exact .inl z
  · rcases t2.fr a (.inl z) with z | z
    · exact .inr z
    · rw [z] at e; cases e
/-! ### truth -/
theorem RepS.tru {H : Hp} {O : Addr → Prop} {v : V} {d : D} {Q : Bool → Prop} {Ed : Exn → Prop} (h : RepS C H O v d) (t : truthD d Q Ed) : ∃ k, TruV C.K v H k ∧ Q k := by
  cases h with
  | non => exact ⟨_, rfl, t⟩
  | bl b => exact ⟨_, rfl, t⟩
  | int i => exact ⟨_, rfl, t⟩
  | str x => exact (t : False).elim
  | lst n r z q =>
    refine ⟨_, .inl ⟨_, .inl r, rfl⟩, ?_⟩
    have : ∀ {xs : List V} {ds : List D}, RepSs C H O xs ds → xs.isEmpty = ds.isEmpty := fun q => by cases q <;> rfl
    rw [this q]; exact t
  | tup n r z q =>
    refine ⟨_, .inr (.inl ⟨_, SqT.of r, rfl⟩), ?_⟩
    have : ∀ {xs : List V} {ds : List D}, RepSs C H O xs ds → xs.isEmpty = ds.isEmpty := fun q => by cases q <;> rfl
    rw [this q]; exact t
  | dk => exact (t : False).elim
  | dt => exact (t : False).elim
  | tok => exact (t : False).elim
  | scr => exact (t : False).elim
  | scrK => exact (t : False).elim
  | fn => exact (t : False).elim
theorem RepT.tru : ∀ {t : Ow} {F : List Addr} {H : Hp} {O : Addr → Prop} {v : V} {d : D} {Q : Bool → Prop} {Ed : Exn → Prop}, RepT C H O t v d F → truthD d Q Ed → ∃ k, TruV C.K v H k ∧ Q k
  | .sh, _, _, _, _, _, _, _, h, t => h.2.tru t
  | .li t, _, _, _, _, _, _, _, h, t' => by
    obtain ⟨a, vs, ds, Fs, e1, e2, e3, e4, e5, e6⟩ := h
    subst e1 e2
    refine ⟨_, .inl ⟨_, .inl (.inl e3), rfl⟩, ?_⟩
    have : vs.isEmpty = ds.isEmpty := by cases e6 <;> rfl
    rw [this]; exact t'
  | .dk, _, _, _, _, _, _, _, h, t => by obtain ⟨_, _, _, _, e, _⟩ := h; subst e; exact (t : False).elim
  | .dt, _, _, _, _, _, _, _, h, t => by obtain ⟨_, _, _, _, e, _⟩ := h; subst e; exact (t : False).elim
  | .bo t, _, _, _, _, _, _, _, h, t' => by obtain ⟨_, _, h⟩ := h; exact h.tru t'
theorem RepR.tru {H : Hp} {O : Addr → Prop} {v : V} {d : D} {Q : Bool → Prop} {Ed : Exn → Prop} (h : RepR C H O τ v d) (t : truthD d Q Ed) : ∃ k, TruV C.K v H k ∧ Q k := by obtain ⟨_, _, h⟩ := h.T; exact h.tru t
theorem vt_of {e : Expr} (hK : C.K = X.K) (h : PE X e (tV C T E Γ Γ1 τ m)) (he : ∀ whole, isTrue e X.env whole = (do let v ← whole; standAt e.pos; holding [v] (truthy v))) : PT X e (tT C T E Γ Γ1 (fun ρ => .bind (m ρ) truthD)) := by
  refine (pt_truth h he).imp fun σ H Q ⟨O, Fs, ρ, Qd, Ed, r, hm, x, k⟩ => ?_
  refine ⟨O, Fs, ρ, _, Ed, r, hm, x, fun d v H' Fs' hd t r' q => ?_⟩
  obtain ⟨b, hb, hq⟩ := q.tru hd
  rw [hK] at hb
  exact ⟨b, hb, k b H' Fs' hq t r'⟩
/-- a test that is a comparison, or the like: by its value, a bool -/
theorem vt_cmp {op : CmpOp} {a b : Expr} {r : R2} {c : Cm} (ho : OpR X (compareOp op) r) (ha : PE X a (tV C T E Γ Γ1 τ1 m1)) (hb : PE X b (tV C T E Γ1 Γ2 τ2 m2)) (hm : behindInMarks op b = false) (sem : Sem2B C r (cmpD c) τ1 τ2) :
    PT X (.Compare a [op] [b] pos) (tT C T E Γ Γ2 (fun ρ => .bind (.bind (m1 ρ) fun x => .bind (m2 ρ) fun y => .bind (cmpD c x y) fun r => .ret (.bl r)) truthD)) := by
  refine (pt_cmpR ho ha hb hm).imp fun σ H Q ⟨O, Fs, ρ, Qd, Ed, r0, hm, x, k⟩ => ?_
  refine ⟨O, Fs, ρ, _, Ed, r0, hm, x, fun d1 v1 H1 Fs1 h1 t1 r1 q1 => ?_⟩
  refine ⟨O, Fs1, ρ, _, Ed, r1, h1, x.tr t1.toS, fun d2 v2 H2 Fs2 h2 t2 r2 q2 => ?_⟩
  exact sem (Oall O Fs2) H2 v1 v2 d1 d2 _ Ed _ (q1.mono t2.kp (own_mv t2)) q2 h2 fun b hb => ⟨b, rfl, k b H2 Fs2 hb (t1.trans t2) r2⟩
theorem vt_isN {a : Expr} {j : Nat} {pos' : Pos} (ha : PE X a (tV C T E Γ Γ1 τ1 m1)) : PT X (.Compare a [.Is] [.Constant .none j pos'] pos) (tT C T E Γ Γ1 (fun ρ => .bind (.bind (m1 ρ) fun x => .bind (.ret D.non) fun y => .bind (cmpD .isN x y) fun r => .ret (.bl r)) truthD)) := by
  refine (pt_cmp (pc_isN ha) rfl).imp fun σ H Q ⟨O, Fs, ρ, Qd, Ed, r0, hm, x, k⟩ => ?_
  refine ⟨O, Fs, ρ, _, Ed, r0, hm, x, fun d1 v1 H1 Fs1 h1 t1 r1 q1 => ⟨_, rfl, ?_⟩⟩
  have h1' : Qd (isNonD d1) := by cases d1 <;> exact h1
  rw [q1.isNon]
  exact k _ H1 Fs1 h1' t1 r1
theorem vt_notN {a : Expr} {j : Nat} {pos' : Pos} (ha : PE X a (tV C T E Γ Γ1 τ1 m1)) : PT X (.Compare a [.IsNot] [.Constant .none j pos'] pos) (tT C T E Γ Γ1 (fun ρ => .bind (.bind (m1 ρ) fun x => .bind (.ret D.non) fun y => .bind (cmpD .notN x y) fun r => .ret (.bl r)) truthD)) := by
  refine (pt_cmp (pc_notN ha) rfl).imp fun σ H Q ⟨O, Fs, ρ, Qd, Ed, r0, hm, x, k⟩ => ?_
  refine ⟨O, Fs, ρ, _, Ed, r0, hm, x, fun d1 v1 H1 Fs1 h1 t1 r1 q1 => ⟨_, rfl, ?_⟩⟩
  have h1' : Qd (!isNonD d1) := by cases d1 <;> exact h1
  rw [q1.isNon]
  exact k _ H1 Fs1 h1' t1 r1
theorem vt_chn {op op' : CmpOp} {a b d : Expr} {r r' : R2} {c c' : Cm} (ho : OpR X (compareOp op) r) (ho' : OpR X (compareOp op') r') (ha : PE X a (tV C T E Γ Γ1 τ1 m1)) (hb : PE X b (tV C T E Γ1 Γ2 τ2 m2)) (hd : PE X d (tV C T E Γ2 Γ2 τ3 m3))
    (hm : lastMarks [op, op'] [b, d] = false) (sem : Sem2B C r (cmpD c) τ1 τ2) (sem' : Sem2B C r' (cmpD c') τ2 τ3) :
    PT X (.Compare a [op, op'] [b, d] pos) (tT C T E Γ Γ2 (fun ρ => .bind (.bind (m1 ρ) fun x => .bind (m2 ρ) fun y => .bind (cmpD c x y) fun r => if r = true then .bind (m3 ρ) fun z => .bind (cmpD c' y z) fun r' => .ret (.bl r') else .ret (.bl false)) truthD)) := by
  refine (pt_chain ho ho' ha hb hd hm).imp fun σ H Q ⟨O, Fs, ρ, Qd, Ed, r0, hm, x, k⟩ => ?_
  refine ⟨O, Fs, ρ, _, Ed, r0, hm, x, fun d1 v1 H1 Fs1 h1 t1 r1 q1 => ?_⟩
  refine ⟨O, Fs1, ρ, _, Ed, r1, h1, x.tr t1.toS, fun d2 v2 H2 Fs2 h2 t2 r2 q2 => ?_⟩
  refine sem (Oall O Fs2) H2 v1 v2 d1 d2 _ Ed _ (q1.mono t2.kp (own_mv t2)) q2 h2 fun b hb => ⟨b, rfl, ?_⟩
  cases b with
  | false => exact ⟨_, rfl, k _ H2 Fs2 hb (t1.trans t2) r2⟩
  | true =>
    refine ⟨O, Fs2, ρ, _, Ed, r2, hb, (x.tr t1.toS).tr t2.toS, fun d3 v3 H3 Fs3 h3 t3 r3 q3 => ?_⟩
    exact sem' (Oall O Fs3) H3 v2 v3 d2 d3 _ Ed _ (q2.mono t3.kp (own_mv t3)) q3 h3 fun b hb => ⟨b, rfl, k _ H3 Fs3 hb ((t1.trans t2).trans t3) r3⟩
/-! ### and, or, not as tests: over tests -/
theorem truth_det {d : D} {Q : Bool → Prop} {Ed : Exn → Prop} (h : truthD d Q Ed) : ∃ b, truthD d = .ret b ∧ Q b := by
  cases d <;> first | exact (h : False).elim | exact ⟨_, rfl, h⟩
theorem vw_and {a b : Expr} {rest : List Expr} (ha : PT X a (tT C T E Γ Γ1 (fun ρ => .bind (m1 ρ) truthD))) (hb : PW X (.BoolOp .And (b :: rest) pos) (tT C T E Γ1 Γ1 (fun ρ => .bind (m2 ρ) truthD))) :
    PW X (.BoolOp .And (a :: b :: rest) pos) (tT C T E Γ Γ1 (fun ρ => .bind (.bind (m1 ρ) fun x => .bind (truthD x) fun t => if t = true then m2 ρ else .ret x) truthD)) := by
  refine (pw_and ha hb).imp fun σ H Q ⟨O, Fs, ρ, Qd, Ed, r0, hm, x, k⟩ => ?_
  refine ⟨O, Fs, ρ, fun t => (t = true → m2 ρ (fun y => truthD y Qd Ed) Ed) ∧ (t = false → Qd false), Ed, r0, ?_, x, fun t H1 Fs1 h1 t1 r1 => ?_⟩
  · refine cast ?_ hm
    show m1 ρ _ Ed = m1 ρ _ Ed
    congr 1
    funext d
    show (truthD d (fun t => (if t = true then m2 ρ else .ret d) (fun y => truthD y Qd Ed) Ed) Ed) = truthD d _ Ed
    apply propext
    constructor
    · intro h
      obtain ⟨b, e, h⟩ := truth_det h
      rw [e]
      cases b with
      | true => exact ⟨fun _ => h, fun z => nomatch z⟩
      | false =>
        refine ⟨fun z => (nomatch z), fun _ => ?_⟩
        have h' : truthD d Qd Ed := h
        rw [e] at h'
        exact h'
    · intro h
      obtain ⟨b, e, h⟩ := truth_det h
      rw [e]
      cases b with
      | true => exact h.1 rfl
      | false =>
        show truthD d Qd Ed
        rw [e]
        exact h.2 rfl
  · cases t with
    | true => exact ⟨O, Fs1, ρ, Qd, Ed, r1, h1.1 rfl, x.tr t1.toS, fun b H2 Fs2 hb t2 r2 => k b H2 Fs2 hb (t1.trans t2) r2⟩
    | false => exact k false H1 Fs1 (h1.2 rfl) t1 r1
theorem vw_or {a b : Expr} {rest : List Expr} (ha : PT X a (tT C T E Γ Γ1 (fun ρ => .bind (m1 ρ) truthD))) (hb : PW X (.BoolOp .Or (b :: rest) pos) (tT C T E Γ1 Γ1 (fun ρ => .bind (m2 ρ) truthD))) :
    PW X (.BoolOp .Or (a :: b :: rest) pos) (tT C T E Γ Γ1 (fun ρ => .bind (.bind (m1 ρ) fun x => .bind (truthD x) fun t => if t = true then .ret x else m2 ρ) truthD)) := by
  refine (pw_or ha hb).imp fun σ H Q ⟨O, Fs, ρ, Qd, Ed, r0, hm, x, k⟩ => ?_
  refine ⟨O, Fs, ρ, fun t => (t = false → m2 ρ (fun y => truthD y Qd Ed) Ed) ∧ (t = true → Qd true), Ed, r0, ?_, x, fun t H1 Fs1 h1 t1 r1 => ?_⟩
  · refine cast ?_ hm
    show m1 ρ _ Ed = m1 ρ _ Ed
    congr 1
    funext d
    show (truthD d (fun t => (if t = true then .ret d else m2 ρ) (fun y => truthD y Qd Ed) Ed) Ed) = truthD d _ Ed
    apply propext
    constructor
    · intro h
      obtain ⟨b, e, h⟩ := truth_det h
      rw [e]
      cases b with
      | false => exact ⟨fun _ => h, fun z => nomatch z⟩
      | true =>
        refine ⟨fun z => (nomatch z), fun _ => ?_⟩
        have h' : truthD d Qd Ed := h
        rw [e] at h'
        exact h'
    · intro h
      obtain ⟨b, e, h⟩ := truth_det h
      rw [e]
      cases b with
      | false => exact h.1 rfl
      | true =>
        show truthD d Qd Ed
        rw [e]
        exact h.2 rfl
  · cases t with
    | false => exact ⟨O, Fs1, ρ, Qd, Ed, r1, h1.1 rfl, x.tr t1.toS, fun b H2 Fs2 hb t2 r2 => k b H2 Fs2 hb (t1.trans t2) r2⟩
    | true => exact k true H1 Fs1 (h1.2 rfl) t1 r1
theorem vw_and1 {a : Expr} {mt : Env → M Bool} (ha : PT X a (tT C T E Γ Γ1 mt)) : PW X (.BoolOp .And [a] pos) (tT C T E Γ Γ1 mt) := pw_and1 ha
theorem vw_or1 {a : Expr} {mt : Env → M Bool} (ha : PT X a (tT C T E Γ Γ1 mt)) : PW X (.BoolOp .Or [a] pos) (tT C T E Γ Γ1 mt) := pw_or1 ha
theorem vt_not {a : Expr} (ha : PT X a (tT C T E Γ Γ1 (fun ρ => .bind (m1 ρ) truthD))) : PT X (.UnaryOp .Not a pos) (tT C T E Γ Γ1 (fun ρ => .bind (.bind (m1 ρ) fun x => .bind (truthD x) fun b => .ret (.bl (!b))) truthD)) := by
  refine (pt_not ha).imp fun σ H Q ⟨O, Fs, ρ, Qd, Ed, r0, hm, x, k⟩ => ?_
  exact ⟨O, Fs, ρ, fun b => Qd (!b), Ed, r0, hm, x, fun b H1 Fs1 h1 t1 r1 => k _ H1 Fs1 h1 t1 r1⟩
/-! ### as values -/
theorem ve_not {a : Expr} (hK : C.K = X.K) (ha : PE X a (tV C T E Γ Γ1 τ1 m1)) : PE X (.UnaryOp .Not a pos) (tV C T E Γ Γ1 .sh (fun ρ => .bind (m1 ρ) fun x => .bind (truthD x) fun b => .ret (.bl (!b)))) := by
  refine (pe_notT ha).imp fun σ H Q ⟨O, Fs, ρ, Qd, Ed, r0, hm, x, k⟩ => ?_
  refine ⟨O, Fs, ρ, _, Ed, r0, hm, x, fun d v H' Fs' hd t r' q => ?_⟩
  obtain ⟨b, hb, hq⟩ := q.tru hd
  rw [hK] at hb
  exact ⟨b, hb, k _ _ H' Fs' hq t r' (RepS.bl _)⟩
theorem ve_and {a b : Expr} {rest : List Expr} (hK : C.K = X.K) (ha : PE X a (tV C T E Γ Γ1 .sh m1)) (hb : PE X (.BoolOp .And (b :: rest) pos) (tV C T E Γ1 Γ1 .sh m2)) :
    PE X (.BoolOp .And (a :: b :: rest) pos) (tV C T E Γ Γ1 .sh (fun ρ => .bind (m1 ρ) fun x => .bind (truthD x) fun t => if t = true then m2 ρ else .ret x)) := by
  refine (pe_andT ha hb).imp fun σ H Q ⟨O, Fs, ρ, Qd, Ed, r0, hm, x, k⟩ => ?_
  refine ⟨O, Fs, ρ, _, Ed, r0, hm, x, fun d v H1 Fs1 hd t1 r1 q => ?_⟩
  obtain ⟨b, hb, hq⟩ := RepR.tru q hd
  rw [hK] at hb
  refine ⟨b, hb, ?_⟩
  cases b with
  | true => exact ⟨O, Fs1, ρ, Qd, Ed, r1, hq, x.tr t1.toS, fun d v H2 Fs2 hb t2 r2 q2 => k d v H2 Fs2 hb (t1.trans t2) r2 q2⟩
  | false => exact k d v H1 Fs1 hq t1 r1 q
theorem ve_or {a b : Expr} {rest : List Expr} (hK : C.K = X.K) (ha : PE X a (tV C T E Γ Γ1 .sh m1)) (hb : PE X (.BoolOp .Or (b :: rest) pos) (tV C T E Γ1 Γ1 .sh m2)) :
    PE X (.BoolOp .Or (a :: b :: rest) pos) (tV C T E Γ Γ1 .sh (fun ρ => .bind (m1 ρ) fun x => .bind (truthD x) fun t => if t = true then .ret x else m2 ρ)) := by
  refine (pe_orT ha hb).imp fun σ H Q ⟨O, Fs, ρ, Qd, Ed, r0, hm, x, k⟩ => ?_
  refine ⟨O, Fs, ρ, _, Ed, r0, hm, x, fun d v H1 Fs1 hd t1 r1 q => ?_⟩
  obtain ⟨b, hb, hq⟩ := RepR.tru q hd
  rw [hK] at hb
  refine ⟨b, hb, ?_⟩
  cases b with
  | false => exact ⟨O, Fs1, ρ, Qd, Ed, r1, hq, x.tr t1.toS, fun d v H2 Fs2 hb t2 r2 q2 => k d v H2 Fs2 hb (t1.trans t2) r2 q2⟩
  | true => exact k d v H1 Fs1 hq t1 r1 q
theorem ve_one {op} {a : Expr} {t : TE} (h : PE X a t) : PE X (.BoolOp op [a] pos) t := pe_one h
theorem ve_ite {c a b : Expr} (hc : PT X c (tT C T E Γ Γ1 (fun ρ => .bind (m ρ) truthD))) (ha : PE X a (tV C T E Γ1 Γ1 τ m1)) (hb : PE X b (tV C T E Γ1 Γ1 τ m2)) :
    PE X (.IfExp c a b pos) (tV C T E Γ Γ1 τ (fun ρ => .bind (m ρ) fun x => .bind (truthD x) fun c => if c = true then m1 ρ else m2 ρ)) := by
  refine (pe_ifExp hc ha hb).imp fun σ H Q ⟨O, Fs, ρ, Qd, Ed, r0, hm, x, k⟩ => ?_
  refine ⟨O, Fs, ρ, fun c => (if c = true then m1 ρ else m2 ρ) Qd Ed, Ed, r0, hm, x, fun c H1 Fs1 h1 t1 r1 => ?_⟩
  cases c with
  | true => exact ⟨O, Fs1, ρ, Qd, Ed, r1, h1, x.tr t1.toS, fun d v H2 Fs2 hb t2 r2 q2 => k d v H2 Fs2 hb (t1.trans t2) r2 q2⟩
  | false => exact ⟨O, Fs1, ρ, Qd, Ed, r1, h1, x.tr t1.toS, fun d v H2 Fs2 hb t2 r2 q2 => k d v H2 Fs2 hb (t1.trans t2) r2 q2⟩
theorem ve_neg {a : Expr} (ha : PE X a (tV C T E Γ Γ1 τ1 m1)) : PE X (.UnaryOp .USub a pos) (tV C T E Γ Γ1 .sh (fun ρ => .bind (m1 ρ) fun x => match x with
    | .int i => .ret (.int (-i))
    | _ => .fail)) := by
  refine (pe_un un_neg ha).imp fun σ H Q ⟨O, Fs, ρ, Qd, Ed, r0, hm, x, k⟩ => ?_
  refine ⟨O, Fs, ρ, _, Ed, r0, hm, x, fun d v H1 Fs1 hd t1 r1 q => ?_⟩
  cases d <;> first | exact (hd : False).elim | skip
  have e := q.int
  subst e
  exact ⟨_, rfl, k _ _ H1 Fs1 hd t1 r1 (RepS.int _)⟩

/-! ### argument lists -/
theorem va_nil : PA X [] (tA C T E Γ Γ (fun _ => .ret [])) := pa_nil.imp fun σ H Q ⟨O, Fs, ρ, Qd, Ed, r, hm, x, k⟩ => k [] [] H Fs hm (TrE.refl H Fs) r .nil
theorem va_cons {e : Expr} {es : List Expr} {ms : Env → M (List D)} (ha : PE X e (tV C T E Γ Γ1 .sh m1)) (hr : PA X es (tA C T E Γ1 Γ2 ms)) (hs : starEach (e :: es) X.env = (false, eval e X.env) :: starEach es X.env) :
    PA X (e :: es) (tA C T E Γ Γ2 (fun ρ => .bind (m1 ρ) fun x => .bind (ms ρ) fun xs => .ret (x :: xs))) := by
  refine (pa_cons ha hr hs).imp fun σ H Q ⟨O, Fs, ρ, Qd, Ed, r0, hm, x, k⟩ => ?_
  refine ⟨O, Fs, ρ, _, Ed, r0, hm, x, fun d v H1 Fs1 hd t1 r1 q => ?_⟩
  refine ⟨O, Fs1, ρ, _, Ed, r1, hd, x.tr t1.toS, fun ds vs H2 Fs2 h2 t2 r2 q2 => k _ _ H2 Fs2 h2 (t1.trans t2) r2 (.cons ?_ q2)⟩
  exact RepS.mono (t2.kp.sv (own_mv t2)) _ _ q
theorem va_star {e : Expr} {p' : Pos} {es : List Expr} {ms : Env → M (List D)} (hK : C.K = X.K) (ha : PE X e (tV C T E Γ Γ1 τ m1)) (hf : flatO τ = true) (hr : PA X es (tA C T E Γ1 Γ2 ms)) (hst : starEach (.Starred e p' :: es) X.env = (true, eval e X.env) :: starEach es X.env) :
    PA X (.Starred e p' :: es) (tA C T E Γ Γ2 (fun ρ => .bind (m1 ρ) fun x => .bind (seqD x) fun ys => .bind (ms ρ) fun xs => .ret (ys ++ xs))) := by
  refine (StX.pa_star ha hr hst).imp fun σ H Q ⟨O, Fs, ρ, Qd, Ed, r0, hm, x, k⟩ => ?_
  refine ⟨O, Fs, ρ, _, Ed, r0, hm, x, fun d v H1 Fs1 hd t1 r1 q => ?_⟩
  cases d <;> first | exact (hd : False).elim | skip
  · obtain ⟨a, vs, rfl, ra, za, qa⟩ := q.lst hf
    refine ⟨a, vs, rfl, .inr (.inl ra), O, Fs1, ρ, _, Ed, r1, hd, x.tr t1.toS, fun ds vs' H2 Fs2 h2 t2 r2 q2 => k _ _ H2 Fs2 h2 (t1.trans t2) r2 ?_⟩
    exact (RepSs.mono (t2.kp.sv (own_mv t2)) _ _ qa).append q2
  · obtain ⟨a, vs, rfl, na, ra, za, qa⟩ := q.tup
    refine ⟨a, vs, rfl, .inl (SqT.of ra), O, Fs1, ρ, _, Ed, r1, hd, x.tr t1.toS, fun ds vs' H2 Fs2 h2 t2 r2 q2 => k _ _ H2 Fs2 h2 (t1.trans t2) r2 ?_⟩
    exact (RepSs.mono (t2.kp.sv (own_mv t2)) _ _ qa).append q2
theorem ve_tup {es : List Expr} {x1 : Nat} {ms : Env → M (List D)} (h : PA X es (tA C T E Γ Γ1 ms)) : PE X (.Tuple es x1 pos) (tO C T E Γ Γ1 .sh (fun ρ => .bind (ms ρ) fun xs => .need (xs.length ≤ sizeLine) (.ret (.tup xs)))) := by
  refine (pe_tup h).imp fun σ H Q ⟨O, Fs, ρ, Qd, Ed, r0, hm, x, k⟩ => ?_
  refine ⟨O, Fs, ρ, _, Ed, r0, hm, x, fun ds vs H1 Fs1 hd t1 r1 q => ?_⟩
  obtain ⟨hz, hq⟩ := hd
  have hz' : vs.length ≤ sizeLine := by rw [q.length]; exact hz
  exact ⟨hz', (sim_end r1 t1 k).tup (Oall_ne r1) hq hz' q⟩
theorem ve_lst {es : List Expr} {ms : Env → M (List D)} (h : PA X es (tA C T E Γ Γ1 ms)) : PE X (.List es pos) (tO C T E Γ Γ1 (.li .sh) (fun ρ => .bind (ms ρ) fun xs => .need (xs.length ≤ sizeLine) (.ret (.lst xs)))) := by
  refine (pe_lst h).imp fun σ H Q ⟨O, Fs, ρ, Qd, Ed, r0, hm, x, k⟩ => ?_
  refine ⟨O, Fs, ρ, _, Ed, r0, hm, x, fun ds vs H1 Fs1 hd t1 r1 q => ?_⟩
  obtain ⟨hz, hq⟩ := hd
  have hz' : vs.length ≤ sizeLine := by rw [q.length]; exact hz
  exact ⟨hz', (sim_end r1 t1 k).lst hq hz' q⟩
end
end Wb

end
section
/-! Wb: subscripts, slices, calls. -/
namespace Wb
open PySem PySem.Spec PyProof.Rows L2

/-- what an item of it is to a reader -/
def elT : Ow → Ow
  | .bo (.li t) => rdT t
  | _ => .sh
section
variable {X : Cx}
def rIxD : R2 := fun x y H Q => ∃ a v, x = .ref a ∧ DGet H a y (some v) ∧ Q v H
theorem ix_dict (hu : X.A.units + 1 < cLine) : IxR X rIxD := by
  intro value slice pins s σ H x y v u Q I rx ry h hs
  obtain ⟨a, w, rfl, g, q⟩ := h
  cases rx
  have hT : s.TypeIs (.ref a) "dict" := dict_typeIs I g
  have h2 : wpAny (model X.prog X.w) X.A (getItem (.ref a) u) (EP X pins σ Q) X.xe s := d_getItem hu I g ry fun w' s3 I3 rw' => ⟨w, H, I3, rw', q⟩
  unfold subscriptTail
  refine wpAny_bind ?_
  rw [getitemInPython_of_ne hT.not_modules]
  refine wpAny_bind (wpAny_specialOf hT PySem.F.slot_dict_getitem.lookup ?_)
  have fin : wpAny (model X.prog X.w) X.A (subscripted slice false (.ref a) u) (fun r s₃ => wpAny (model X.prog X.w) X.A (letTemporaryGo value (.ref a) r >>= fun _ => pure r) (EP X pins σ Q) X.xe s₃) X.xe s := by
    rw [hs]
    exact wpAny_operating (wpAny_mono h2 (fun r s₃ h₃ => wpAny_bind (wpAny_letTemporaryGo (wpAny_pure h₃))) fun _ _ x => x)
  first
    | exact wpAny_pure (wpAny_bind fin)
    | exact wpAny_bind (wpAny_pure (wpAny_bind fin))
    | exact wpAny_bind fin
def rIxA (K : PySem.W.Frag) : R2 := fun x y H Q => rIxL K x y H Q ∨ (rIxT K x y H Q ∨ rIxD x y H Q)
theorem ix_any (hu : X.A.units + 1 < cLine) : IxR X (rIxA X.K) := ix_list.or (ix_tup.or (ix_dict hu))
end
section
variable {C : Cn} {H : Hp} {O : Addr → Prop}
theorem All3.getD {R : V → D → List Addr → Prop} : ∀ {vs : List V} {ds : List D} {Fs : List (List Addr)} {i : Nat} {d : D}, All3 R vs ds Fs → ds[i]? = some d → ∃ v F, vs[i]? = some v ∧ Fs[i]? = some F ∧ R v d F
  | _, _, _, _, _, .nil, h => by simp at h
  | _, _, _, 0, _, .cons r _, h => by simp at h; subst h; exact ⟨_, _, rfl, rfl, r⟩
  | _, _, _, i + 1, d, .cons _ q, h => by
    obtain ⟨v, F, e1, e2, r⟩ := q.getD (i := i) (by simpa using h)
    exact ⟨v, F, by simpa using e1, by simpa using e2, r⟩
/-- a list, whatever its items are -/
theorem RepR.lstG {τ : Ow} {v : V} {ds : List D} (h : RepR C H O τ v (.lst ds)) (hb : τ = .sh ∨ ∃ t, τ = .bo t ∧ noBo t = true) : ∃ a vs, v = .ref a ∧ Rd H a (.lst vs) ∧ vs.length ≤ sizeLine ∧ vs.length = ds.length ∧ ∀ (i : Nat) (d : D), ds[i]? = some d → ∃ w, vs[i]? = some w ∧ RepR C H O (elT τ) w d := by
  rcases hb with rfl | ⟨t, rfl, hb⟩
  · obtain ⟨a, vs, e, r, z, q⟩ := RepR.lst (τ := .sh) rfl h
    exact ⟨a, vs, e, r, z, q.length, fun i d hd => q.get hd⟩
  · obtain ⟨F, h⟩ := h
    cases t with
    | sh =>
      obtain ⟨a, vs, e, r, z, q⟩ := RepR.lst (τ := .sh) rfl h.2
      exact ⟨a, vs, e, r, z, q.length, fun i d hd => q.get hd⟩
    | li t =>
      obtain ⟨a, vs, ds', Fs, e1, e2, e3, e4, e5, e6⟩ := h
      cases e2
      refine ⟨a, vs, e1, .inl e3, e4, e6.length.1, fun i d hd => ?_⟩
      obtain ⟨w, F', g1, g2, g3⟩ := e6.getD hd
      exact ⟨w, g1, g3.rd⟩
    | dk => obtain ⟨_, _, _, _, e, _⟩ := h; cases e
    | dt => obtain ⟨_, _, _, _, e, _⟩ := h; cases e
    | bo t => cases hb
theorem atI_len {α β : Type} {xs : List α} {ys : List β} (e : xs.length = ys.length) (i : Int) {y : β} (h : atI ys i = some y) : ∃ j : Nat, ys[j]? = some y ∧ ∀ x, xs[j]? = some x → atI xs i = some x := by
  unfold atI at h
  cases q : ixN ys.length i with
  | none => rw [q] at h; cases h
  | some j =>
    rw [q] at h
    exact ⟨j, h, fun x hx => by unfold atI; rw [e, q]; exact hx⟩
/-! dicts -/
theorem kOf_d (k : Key) : kOf (dOfK k) = some k := by cases k <;> rfl
theorem kyOf_d (k : Key) : kyOf (dOfK k) = some (.k k) := by cases k <;> rfl
theorem ksOf_d : ∀ ks : List Key, ksOf (ks.map dOfK) = some ks
  | [] => rfl
  | k :: ks => by simp [ksOf, kOf_d, ksOf_d ks]
theorem kyOf_t (ks : List Key) : kyOf (.tup (ks.map dOfK)) = some (.t ks) := by simp [kyOf, ksOf_d]
theorem ksOf_inv : ∀ {ds : List D} {ks : List Key}, ksOf ds = some ks → ds = ks.map dOfK
  | [], ks, h => by simp [ksOf] at h; subst h; rfl
  | d :: ds, ks, h => by
    simp only [ksOf] at h
    cases e1 : kOf d with
    | none => rw [e1] at h; cases h
    | some k =>
      cases e2 : ksOf ds with
      | none => rw [e1, e2] at h; cases h
      | some l =>
        rw [e1, e2] at h
        cases h
        rw [ksOf_inv e2]
        cases d <;> simp [kOf] at e1 <;> subst e1 <;> rfl
theorem kVd {k : Key} {v : V} (h : RepS C H O v (dOfK k)) : v = kV k := by
  cases k <;> cases h <;> rfl
theorem RepKs.look : ∀ {kvs : List (Key × V)} {ds : List (D × D)}, RepKs C H O kvs ds → ∀ k : Key, (∀ d, lookD ds (.k k) = some d → ∃ v, valV kvs k = some v ∧ RepS C H O v d) ∧ (lookD ds (.k k) = none → valV kvs k = none)
  | _, _, .nil, k => ⟨fun d h => by simp [lookD] at h, fun _ => rfl⟩
  | _, _, .cons (k := k') (v := v) (vs := vs) (d := d) (ds := ds) r q, k => by
    by_cases e : k' = k
    · subst e
      have e1 : lookD ((dOfK k', d) :: ds) (.k k') = some d := by simp [lookD, kyOf_d]
      have e2 : valV ((k', v) :: vs) k' = some v := valV_pos rfl
      exact ⟨fun d' h => by rw [e1] at h; cases h; exact ⟨v, e2, r⟩, fun h => by rw [e1] at h; cases h⟩
    · have e1 : lookD ((dOfK k', d) :: ds) (.k k) = lookD ds (.k k) := by simp [lookD, kyOf_d, e]
      have e2 : valV ((k', v) :: vs) k = valV vs k := valV_neg e
      rw [e1, e2]
      exact q.look k
theorem RepTs.look : ∀ {kvs : List (List Key × V)} {ds : List (D × D)}, RepTs C H O kvs ds → ∀ k : List Key, (∀ d, lookD ds (.t k) = some d → ∃ v, valV kvs k = some v ∧ RepS C H O v d) ∧ (lookD ds (.t k) = none → valV kvs k = none)
  | _, _, .nil, k => ⟨fun d h => by simp [lookD] at h, fun _ => rfl⟩
  | _, _, .cons (k := k') (v := v) (vs := vs) (d := d) (ds := ds) _ r q, k => by
    by_cases e : k' = k
    · subst e
      have e1 : lookD ((.tup (k'.map dOfK), d) :: ds) (.t k') = some d := by simp [lookD, kyOf_t]
      have e2 : valV ((k', v) :: vs) k' = some v := valV_pos rfl
      exact ⟨fun d' h => by rw [e1] at h; cases h; exact ⟨v, e2, r⟩, fun h => by rw [e1] at h; cases h⟩
    · have e1 : lookD ((.tup (k'.map dOfK), d) :: ds) (.t k) = lookD ds (.t k) := by simp [lookD, kyOf_t, e]
      have e2 : valV ((k', v) :: vs) k = valV vs k := valV_neg e
      rw [e1, e2]
      exact q.look k
theorem vals_kV : ∀ {vs : List V} {ks : List Key}, RepSs C H O vs (ks.map dOfK) → vs = ks.map kV
  | vs, [], h => by cases h; rfl
  | vs, k :: ks, h => by
    cases h with
    | cons r q => rw [kVd r, vals_kV q]; rfl
/-- a look at a dict -/
theorem dget {τ τ' : Ow} {v y : V} {t : Bool} {ds : List (D × D)} {dy : D} {k : Ky} (h : RepR C H O τ v (.dct t ds)) (hy : RepR C H O τ' y dy) (hk : kyT t dy = some k) :
    ∃ a, v = .ref a ∧ (∀ d, lookD ds k = some d → ∃ w, DGet H a y (some w) ∧ RepS C H O w d) ∧ (lookD ds k = none → DGet H a y none) := by
  obtain ⟨a, e, h⟩ := h.dct
  refine ⟨a, e, ?_⟩
  rcases h with ⟨rfl, kvs, r, z, nd, q⟩ | ⟨rfl, kvs, r, z, q⟩
  · have key : ∃ k0 : Key, k = .k k0 ∧ y = kV k0 := by
      cases dy <;> simp [kyT] at hk <;> subst hk
      · exact ⟨_, rfl, hy.int⟩
      · obtain ⟨t, F, hy⟩ := hy.T
        have : ∀ {t : Ow} {F : List Addr} {x : Str}, RepT C H O t y (.str x) F → y = .str x := by
          intro t
          induction t with
          | sh => intro F x h; cases h.2; rfl
          | li t => intro F x h; obtain ⟨_, _, _, _, _, e, _⟩ := h; cases e
          | dk => intro F x h; obtain ⟨_, _, _, _, e, _⟩ := h; cases e
          | dt => intro F x h; obtain ⟨_, _, _, _, e, _⟩ := h; cases e
          | bo t ih => intro F x h; obtain ⟨_, _, h⟩ := h; exact ih h
        exact ⟨_, rfl, this hy⟩
    obtain ⟨k0, rfl, rfl⟩ := key
    refine ⟨fun d hd => ?_, fun hn => ?_⟩
    · obtain ⟨w, e1, e2⟩ := (q.look k0).1 d hd
      exact ⟨w, .inl ⟨kvs, k0, r, rfl, e1.symm⟩, e2⟩
    · exact .inl ⟨kvs, k0, r, rfl, ((q.look k0).2 hn).symm⟩
  · cases dy with
    | tup es =>
      simp only [kyT, Option.map_eq_some_iff] at hk
      obtain ⟨ks, e1, rfl⟩ := hk
      obtain ⟨b, vs, rfl, nb, rb, zb, qb⟩ := hy.tup
      rw [ksOf_inv e1] at qb
      have ev := vals_kV qb
      subst ev
      refine ⟨fun d hd => ?_, fun hn => ?_⟩
      · obtain ⟨w, e1, e2⟩ := (q.look ks).1 d hd
        exact ⟨w, .inr ⟨kvs, ks, b, r, rfl, rb, e1.symm⟩, e2⟩
      · exact .inr ⟨kvs, ks, b, r, rfl, rb, ((q.look ks).2 hn).symm⟩
    | _ => simp [kyT] at hk
end
end Wb

end
section
/-! Wb: further rules of the machine. -/
namespace Wb
open PySem PySem.Spec PyProof.Rows L2

section
variable {prog : Program} {w : World} {A : Around} {E : Value → Shared → Prop} {s : Shared}
theorem collect_tup {l : Addr} {vs : List Value} {Q : List Value → Shared → Prop} (hl : IsTup s.heap l vs.toArray)
    (h : Q vs { s with heap := (s.heap.push (seqObj "list" #[] 0)).update s.heap.objs.size (Obj.mapSeq (· ++ vs.toArray)) }) (hsz : vs.length ≤ sizeLine) :
    wpAny (model prog w) A (collect (.ref l)) Q E s := by
  obtain ⟨o, ho, hc, n, hd⟩ := id hl
  unfold collect
  refine wpAny_bind (wpAny_runValue (codeAny_builtin entry_proto_collect' ?_))
  show wpAny _ _ (do again (.builtin "list.__iadd__" ⟨[← newList [], .ref l], []⟩)) _ _ s
  refine wpAny_bind (wpAny_newList (wpAny_pure ⟨Code.quiet_builtin _ (by decide +kernel), codeAny_builtin entry_list_iadd' ?_⟩))
  show wpAny _ _ (Builtin.List.listExtendWith (.ref s.heap.objs.size) (.ref l) (.ref s.heap.objs.size)) _ _ { s with heap := s.heap.push (seqObj "list" #[] 0) }
  unfold Builtin.List.listExtendWith
  have ho' : (s.heap.push (seqObj "list" #[] 0)).get? l = some o := Heap.get?_push_of_some _ ho
  refine wpAny_bind (wpAny_typeOf (T := "tuple") ⟨o, ho', hc⟩ ?_)
  have ht : (Value.type "tuple" == Value.type "tuple") = true := by rfl
  rw [if_pos (by rw [ht]; simp)]
  refine wpAny_bind (listItems_at ho' hd ?_)
  refine wpAny_bind (listItems_at (xs := #[]) (n := 0) (Heap.get?_push_size _ rfl) rfl ?_)
  rw [if_neg (by simp)]
  refine wpAny_bind (listUpdate_at (xs := #[]) (n := 0) (Heap.get?_push_size _ rfl) rfl ?_ (Nat.zero_le _) (by show (#[] ++ vs.toArray).size ≤ sizeLine + 1; simp only [Array.size_append, List.size_toArray, List.length_nil]; omega))
  refine wpAny_pure ?_
  show wpAny (model prog w) A (do
      let o ← load s.heap.objs.size
      match o.data with
      | .seq xs _ => pure xs.toList
      | _ => unsupported "internal:collect") Q E { s with heap := (s.heap.push (seqObj "list" #[] 0)).update s.heap.objs.size (Obj.mapSeq (· ++ vs.toArray)) }
  refine wpAny_bind (wpAny_load (get?_update_seq (Heap.get?_push_size _ rfl) _) ?_)
  show wpAny _ _ (pure ((#[] : Array Value) ++ vs.toArray).toList) Q E _
  rw [show ((#[] : Array Value) ++ vs.toArray).toList = vs by simp]
  exact wpAny_pure h
open SrtO in
theorem sorted_ordT {l : Addr} {vs : List Value} {ltv : Value → Value → Bool} {Q : Value → Shared → Prop} (O : Swo ltv) (hl : IsTup s.heap l vs.toArray) (hz : vs.length ≤ sizeLine)
    (hS : 2 ≤ vs.length → ∀ (h₁ : Heap) (a : Addr), h₁.get? a = some (seqObj "list" vs.toArray 0) → (∀ b o, s.heap.get? b = some o → b ≠ a ∧ h₁.get? b = some o) → SortableO prog w A.in1.in1 { s with heap := h₁ } a vs ltv)
    (h : ∀ out : List Value, Srtd ltv out → Stb ltv out vs → Q (.ref (s.heap.objs.size + 1)) { s with heap := sortedAll s.heap vs out.toArray }) :
    wpAny (model prog w) A (call (.builtin "sorted") [.ref l]) Q E s := by
  refine Calls.call_function_entry kind_sorted plain_sorted entry_sorted (args_sorted1 _) ?_
  unfold Builtin.«sorted»
  refine wpAny_bind (m := checkCount "sorted" 1 1 _) (wpAny_pure ?_)
  refine wpAny_bind (collect_tup hl ?_ hz)
  refine wpAny_bind (wpAny_newList ?_ hz)
  have hsz : ((s.heap.push (seqObj "list" #[] 0)).update s.heap.objs.size (Obj.mapSeq (· ++ vs.toArray))).objs.size = s.heap.objs.size + 1 := by
    rw [Heap.size_update, size_push']
  have hoL : (((s.heap.push (seqObj "list" #[] 0)).update s.heap.objs.size (Obj.mapSeq (· ++ vs.toArray))).push (seqObj "list" vs.toArray 0)).get? (s.heap.objs.size + 1) = some (seqObj "list" vs.toArray 0) := by
    rw [← hsz]; exact Heap.get?_push_size _ rfl
  have keep : ∀ b o, s.heap.get? b = some o → b ≠ s.heap.objs.size + 1 ∧ (((s.heap.push (seqObj "list" #[] 0)).update s.heap.objs.size (Obj.mapSeq (· ++ vs.toArray))).push (seqObj "list" vs.toArray 0)).get? b = some o := fun b o q => by
    have hlt : b < s.heap.objs.size := Heap.lt_size q
    refine ⟨Nat.ne_of_lt (Nat.lt_succ_of_lt hlt), Heap.get?_push_of_some _ ?_⟩
    rw [Heap.get?_update_ne _ _ _ _ (Nat.ne_of_lt hlt)]
    exact Heap.get?_push_of_some _ q
  show wpAny _ _ _ _ _ { s with heap := ((s.heap.push (seqObj "list" #[] 0)).update s.heap.objs.size (Obj.mapSeq (· ++ vs.toArray))).push (seqObj "list" vs.toArray 0) }
  rw [hsz]
  refine wpAny_bind (wpAny_holding (wpAny_call_entry slot_list_sort ⟨_, hoL, rfl⟩ entry_list_sort (list_sort_ord O hoL hz (fun h2 => hS h2 _ _ hoL keep) fun out hs hb => ⟨_, rfl, ?_⟩) (args_list_sort _)))
  exact wpAny_pure ⟨_, rfl, h out hs hb⟩
theorem iter_anyT {l : Addr} {its : Array Value} {Q : Value → Shared → Prop} (hl : IsTup s.heap l its)
    (h : ∀ s₂ : Shared, s₂ = { s with heap := s.heap.push { cls := .type "tuple_iterator", data := .fields #[.ref l, .int 0 0] } } → (s₂.heap.IsTupleIter s.heap.objs.size l 0 ∧ s₂.heap.IsTuple l its) → l ≠ s.heap.objs.size → (∀ b ∈ [s.heap.objs.size, l], b < s₂.heap.objs.size) → Q (.ref s.heap.objs.size) s₂) :
    wpAny (model prog w) A (pyIter (.ref l)) Q E s := by
  have ht : s.heap.IsTuple l its := hl
  have hlt : l < s.heap.objs.size := hl.lt
  refine wpAny_pyIter_tuple ht ?_
  refine h _ rfl ⟨⟨_, Heap.get?_push_size _ rfl, rfl, rfl⟩, ?_⟩ (Nat.ne_of_lt hlt) fun b hb => ?_
  · obtain ⟨o, ho, r⟩ := ht
    exact ⟨o, Heap.get?_push_of_some _ ho, r⟩
  · show b < (s.heap.push _).objs.size
    rw [Heap.size_push]
    rcases List.mem_cons.mp hb with rfl | hb
    · exact Nat.lt_succ_self _
    · rw [List.mem_singleton.mp hb]
      exact Nat.lt_succ_of_lt hlt
end
section
variable {X : Cx}
def rSortedT (K : PySem.W.Frag) : List V → Hp → VK → Prop := fun vs H Q => ∃ (a : Addr) (ns : List Int), vs = [V.ref a] ∧ SqT K H a (ns.map V.int) ∧
  ∀ (ns' : List Int) (p : Addr), ns'.Perm ns → ns'.Pairwise (· ≤ ·) → H p = none → Q (.ref p) (upd H p (.lst (ns'.map V.int)))
theorem cr_sortedT : CallR X (.builtin "sorted") (rSortedT X.K) := by
  intro pins s σ H vs us Q I r h
  obtain ⟨a, ns, rfl, hs, q⟩ := h
  obtain ⟨its, rv, hl, hz⟩ := I.tuple hs
  rw [Vals.ref1 r]
  have hi := rv.ints
  refine sorted_ordT SrtO.swo_int hl (by rw [← rv.length]; exact hz) (fun h2 h₁ a' _ _ => SrtO.ints_sortable hi h2) fun out h1 h2 => ?_
  obtain ⟨k1, k2, k3⟩ := SrtO.ints_out hi h1 h2
  obtain ⟨ep, he'⟩ := PyProof.Rows.sortedAll_at s.heap its out.toArray
  have hlen : ((out.map SrtO.iv).map V.int).length ≤ sizeLine := by
    rw [List.length_map, k2.length_eq]
    rw [List.length_map] at hz
    exact hz
  exact ⟨.ref _, upd H (s.heap.objs.size + 1) (.lst ((out.map SrtO.iv).map V.int)), I.laid (t' := s.toks) (fun _ _ => PyProof.Rows.sortedAll_old) (Nat.le_succ _) ⟨hlen, out, ep, vals_of_ints k1, he'⟩, rfl, q _ _ k2 k3 (I.hok.fresh (Nat.le_succ _))⟩
def rAllT (K : PySem.W.Frag) : List V → Hp → VK → Prop := fun vs H Q => ∃ (a : Addr) (bs : List Bool), vs = [V.ref a] ∧ SqT K H a (bs.map V.bl) ∧ Q (.bl (bs.all id)) H
def rAnyT (K : PySem.W.Frag) : List V → Hp → VK → Prop := fun vs H Q => ∃ (a : Addr) (bs : List Bool), vs = [V.ref a] ∧ SqT K H a (bs.map V.bl) ∧ Q (.bl (bs.any id)) H
theorem old_keptT {s : Shared} {l : Addr} {h' : Heap} (hk : ∀ b o, b ∉ [s.heap.objs.size] → (s.heap.push { cls := .type "tuple_iterator", data := .fields #[.ref l, .int 0 0] }).get? b = some o → h'.get? b = some o) :
    ∀ b o, s.heap.get? b = some o → h'.get? b = some o := fun b o e => by
  refine hk b o (fun hm => ?_) (Heap.get?_push_of_some _ e)
  rcases List.mem_cons.mp hm with e1 | hm
  · exact absurd (e1 ▸ Heap.lt_size e) (Nat.lt_irrefl _)
  · cases hm
theorem cr_allT (hc : X.calm = true) : CallR X (.builtin "all") (rAllT X.K) := by
  intro pins s σ H vs us Q I r h
  obtain ⟨a, bs, rfl, hs, q⟩ := h
  obtain ⟨its, rv, hl, _⟩ := I.tuple hs
  rw [Vals.ref1 r]
  have hb := rv.bls
  refine call_all_walk (iter_anyT hl fun s₂ e2 st hne _ => ?_)
  subst e2
  refine ⟨_, _, _, _, _, _, _, rfl, Walks.tuple (A := X.A.in1) (I.ok.hd hc) _ a hne its.toArray, st, truth_bools hb, fun h' tk hk => ?_⟩
  refine ⟨.bl _, H, I.kept (old_keptT hk), ?_, q⟩
  show Value.bool _ = Value.bool _
  rw [← L2.all_range, hb, List.size_toArray, List.length_map]
theorem cr_anyT (hc : X.calm = true) : CallR X (.builtin "any") (rAnyT X.K) := by
  intro pins s σ H vs us Q I r h
  obtain ⟨a, bs, rfl, hs, q⟩ := h
  obtain ⟨its, rv, hl, _⟩ := I.tuple hs
  rw [Vals.ref1 r]
  have hb := rv.bls
  refine call_any_walk (iter_anyT hl fun s₂ e2 st hne _ => ?_)
  subst e2
  refine ⟨_, _, _, _, _, _, _, rfl, Walks.tuple (A := X.A.in1) (I.ok.hd hc) _ a hne its.toArray, st, truth_bools hb, fun h' tk hk => ?_⟩
  refine ⟨.bl _, H, I.kept (old_keptT hk), ?_, q⟩
  show Value.bool _ = Value.bool _
  rw [← L2.any_range, hb, List.size_toArray, List.length_map]
end
section
variable {prog : Program} {w : World} {A : Around} {E : Value → Shared → Prop} {s : Shared} {l : Addr}
theorem max_intTup {xs : Array (Int × Tok)} {Q : Value → Shared → Prop} (hh : A.handled = none) (hl : IsTup s.heap l (intItems xs)) (hne : 0 < xs.size)
    (h : ∀ v h' tk, (intItems xs)[argBest (fun i j => decide (numAt xs i > numAt xs j)) (xs.size - 1)]? = some v → (∀ b o, s.heap.get? b = some o → h'.get? b = some o) → Q v { s with heap := h', toks := tk }) :
    wpAny (model prog w) A (call (.builtin "max") [.ref l]) Q E s := by
  refine call_max_walk (iter_anyT hl fun s₂ e st hlI hfp => ?_)
  subst e
  refine ⟨_, _, _, _, _, _, _, rfl, Walks.tuple (A := A.in1) hh _ l hlI (intItems xs), st, hfp, by simpa [intItems] using hne, CmpOf.ints_gt (numAt xs) (fun _ _ => intItems_at), fun v h' tk hP hk => ?_⟩
  exact h v h' tk (by simpa [intItems] using hP) (old_keptT hk)
theorem min_intTup {xs : Array (Int × Tok)} {Q : Value → Shared → Prop} (hh : A.handled = none) (hl : IsTup s.heap l (intItems xs)) (hne : 0 < xs.size)
    (h : ∀ v h' tk, (intItems xs)[argBest (fun i j => decide (numAt xs i < numAt xs j)) (xs.size - 1)]? = some v → (∀ b o, s.heap.get? b = some o → h'.get? b = some o) → Q v { s with heap := h', toks := tk }) :
    wpAny (model prog w) A (call (.builtin "min") [.ref l]) Q E s := by
  refine call_min_walk (iter_anyT hl fun s₂ e st hlI hfp => ?_)
  subst e
  refine ⟨_, _, _, _, _, _, _, rfl, Walks.tuple (A := A.in1) hh _ l hlI (intItems xs), st, hfp, by simpa [intItems] using hne, CmpOf.ints_lt (numAt xs) (fun _ _ => intItems_at), fun v h' tk hP hk => ?_⟩
  exact h v h' tk (by simpa [intItems] using hP) (old_keptT hk)
theorem sum_intTup {xs : Array (Int × Tok)} {Q : Value → Shared → Prop} (hh : A.handled = none) (hl : IsTup s.heap l (intItems xs))
    (h : ∀ h' tk t', (∀ b o, s.heap.get? b = some o → h'.get? b = some o) → Q (.int (preSum (numAt xs) xs.size) t') { s with heap := h', toks := tk }) :
    wpAny (model prog w) A (call (.builtin "sum") [.ref l]) Q E s := by
  refine call_sum_walkG (iter_anyT hl fun s₂ e st hlI hfp => ?_)
  subst e
  refine ⟨_, _, _, _, _, _, numAt xs, rfl, Walks.tuple (A := A.in1) hh _ l hlI (intItems xs), st, hfp, (fun _ _ => intItems_at), fun h' tk t' hk => ?_⟩
  have := h h' tk t' (old_keptT hk)
  simpa [intItems] using this
variable {its : List Value} {ns : List Int} {Q : Value → Shared → Prop}
theorem sum_rawT (hh : A.handled = none) (hl : IsTup s.heap l its.toArray) (hi : IntsAre its ns)
    (h : ∀ h' tk t', (∀ b o, s.heap.get? b = some o → h'.get? b = some o) → Q (.int ns.sum t') { s with heap := h', toks := tk }) : wpAny (model prog w) A (call (.builtin "sum") [.ref l]) Q E s := by
  obtain ⟨xs, e⟩ := hi.allInts.items
  have hn : numsOf (intItems xs).toList = ns := by rw [← e]; exact hi.numsOf
  rw [nums_intItems] at hn
  rw [e] at hl
  refine sum_intTup hh hl fun h' tk t' hk => ?_
  have := h h' tk t' hk
  rw [preSum_eq, List.take_of_length_le (by simp), hn]; exact this
theorem max_rawT (hh : A.handled = none) (hl : IsTup s.heap l its.toArray) (hi : IntsAre its ns) (hne : 0 < ns.length)
    (h : ∀ h' tk M t', (∀ b o, s.heap.get? b = some o → h'.get? b = some o) → M ∈ ns → (∀ a, a ∈ ns → a ≤ M) → Q (.int M t') { s with heap := h', toks := tk }) : wpAny (model prog w) A (call (.builtin "max") [.ref l]) Q E s := by
  obtain ⟨xs, e⟩ := hi.allInts.items
  have hn : numsOf (intItems xs).toList = ns := by rw [← e]; exact hi.numsOf
  rw [nums_intItems] at hn
  subst hn
  rw [e] at hl
  have hsz : 0 < xs.size := by simpa using hne
  refine max_intTup hh hl hsz fun v h' tk hv hk => ?_
  obtain ⟨t, rfl⟩ := intItems_at hv
  obtain ⟨h1, h2⟩ := argBest_gt (numAt xs) (xs.size - 1)
  refine h h' tk _ t hk ?_ fun a ha => ?_
  · rw [numAt_eq]; exact PySem.getD_mem (by rw [List.length_map, Array.length_toList]; omega)
  · obtain ⟨j, hj, rfl⟩ := mem_getD ha
    rw [List.length_map, Array.length_toList] at hj
    rw [← numAt_eq]; exact h2 j (by omega)
theorem min_rawT (hh : A.handled = none) (hl : IsTup s.heap l its.toArray) (hi : IntsAre its ns) (hne : 0 < ns.length)
    (h : ∀ h' tk M t', (∀ b o, s.heap.get? b = some o → h'.get? b = some o) → M ∈ ns → (∀ a, a ∈ ns → M ≤ a) → Q (.int M t') { s with heap := h', toks := tk }) : wpAny (model prog w) A (call (.builtin "min") [.ref l]) Q E s := by
  obtain ⟨xs, e⟩ := hi.allInts.items
  have hn : numsOf (intItems xs).toList = ns := by rw [← e]; exact hi.numsOf
  rw [nums_intItems] at hn
  subst hn
  rw [e] at hl
  have hsz : 0 < xs.size := by simpa using hne
  refine min_intTup hh hl hsz fun v h' tk hv hk => ?_
  obtain ⟨t, rfl⟩ := intItems_at hv
  obtain ⟨h1, h2⟩ := argBest_lt (numAt xs) (xs.size - 1)
  refine h h' tk _ t hk ?_ fun a ha => ?_
  · rw [numAt_eq]; exact PySem.getD_mem (by rw [List.length_map, Array.length_toList]; omega)
  · obtain ⟨j, hj, rfl⟩ := mem_getD ha
    rw [List.length_map, Array.length_toList] at hj
    rw [← numAt_eq]; exact h2 j (by omega)
end
section
variable {X : Cx}
def rSumT (K : PySem.W.Frag) : List V → Hp → VK → Prop := fun vs H Q => ∃ (a : Addr) (ns : List Int), vs = [V.ref a] ∧ SqT K H a (ns.map V.int) ∧ Q (.int ns.sum) H
def rMaxT (K : PySem.W.Frag) : List V → Hp → VK → Prop := fun vs H Q => ∃ (a : Addr) (ns : List Int), vs = [V.ref a] ∧ SqT K H a (ns.map V.int) ∧ 0 < ns.length ∧ ∀ m, m ∈ ns → (∀ y, y ∈ ns → y ≤ m) → Q (.int m) H
def rMinT (K : PySem.W.Frag) : List V → Hp → VK → Prop := fun vs H Q => ∃ (a : Addr) (ns : List Int), vs = [V.ref a] ∧ SqT K H a (ns.map V.int) ∧ 0 < ns.length ∧ ∀ m, m ∈ ns → (∀ y, y ∈ ns → m ≤ y) → Q (.int m) H
theorem cr_sumT (hc : X.calm = true) : CallR X (.builtin "sum") (rSumT X.K) := by
  intro pins s σ H vs us Q I r h
  obtain ⟨a, ns, rfl, hs, q⟩ := h
  obtain ⟨its, rv, hl, _⟩ := I.tuple hs
  rw [Vals.ref1 r]
  exact sum_rawT (I.ok.hd hc) hl rv.ints fun h' tk t' hk => ⟨.int _, H, I.kept hk, ⟨_, rfl⟩, q⟩
theorem cr_maxT (hc : X.calm = true) : CallR X (.builtin "max") (rMaxT X.K) := by
  intro pins s σ H vs us Q I r h
  obtain ⟨a, ns, rfl, hs, hne, q⟩ := h
  obtain ⟨its, rv, hl, _⟩ := I.tuple hs
  rw [Vals.ref1 r]
  exact max_rawT (I.ok.hd hc) hl rv.ints hne fun h' tk m t' hk h1 h2 => ⟨.int _, H, I.kept hk, ⟨_, rfl⟩, q m h1 h2⟩
theorem cr_minT (hc : X.calm = true) : CallR X (.builtin "min") (rMinT X.K) := by
  intro pins s σ H vs us Q I r h
  obtain ⟨a, ns, rfl, hs, hne, q⟩ := h
  obtain ⟨its, rv, hl, _⟩ := I.tuple hs
  rw [Vals.ref1 r]
  exact min_rawT (I.ok.hd hc) hl rv.ints hne fun h' tk m t' hk h1 h2 => ⟨.int _, H, I.kept hk, ⟨_, rfl⟩, q m h1 h2⟩
end
end Wb

end
section
/-! Wb: subscripts, slices, built-in calls, calls. -/
namespace Wb
open PySem PySem.Spec PyProof.Rows L2

section
variable {C : Cn} {T : List (Addr × Str)} {E : XK} {X : Cx} {Γ Γ1 Γ2 Γ3 : List Ow} {τ τ1 τ2 τ3 : Ow} {m m1 m2 m3 : Env → M D} {pos p : Pos}
theorem elT_rd (hb : τ = .sh ∨ ∃ t, τ = .bo t ∧ noBo t = true) : elT τ = .sh ∨ ∃ t, elT τ = .bo t ∧ noBo t = true := by
  rcases hb with rfl | ⟨t, rfl, hb⟩
  · exact .inl rfl
  · cases t with
    | li t =>
      cases t with
      | sh => exact .inl rfl
      | bo t => cases hb
      | li t => exact .inr ⟨_, rfl, hb⟩
      | dk => exact .inr ⟨_, rfl, rfl⟩
      | dt => exact .inr ⟨_, rfl, rfl⟩
    | _ => exact .inl rfl
/-- elT's kind, read as shared where it is -/
theorem repR_sh {H : Hp} {O : Addr → Prop} {v : V} {d : D} (hb : τ = .sh ∨ ∃ t, τ = .bo t ∧ noBo t = true) (h : RepS C H O v d) : RepR C H O (elT τ) v d ∨ (∃ t, elT τ = .bo t) := by
  rcases elT_rd hb with e | ⟨t, e, _⟩
  · rw [e]; exact .inl h
  · exact .inr ⟨t, e⟩
/-- a[i] -/
theorem ve_sub {a i : Expr} (hK : C.K = X.K) (hu : X.A.units + 1 < cLine) (ha : PE X a (tV C T E Γ Γ1 τ1 m1)) (hi : PE X i (tV C T E Γ1 Γ2 τ2 m2)) (hs : PlainIx i) (hb : τ1 = .sh ∨ ∃ t, τ1 = .bo t ∧ noBo t = true) :
    PE X (.Subscript a i pos) (tV C T E Γ Γ2 (elT τ1) (fun ρ => .bind (m1 ρ) fun x => .bind (m2 ρ) fun y => subD x y)) := by
  refine (pe_ix (ix_any hu) ha hi hs).imp fun σ H Q ⟨O, Fs, ρ, Qd, Ed, r0, hm, x, k⟩ => ?_
  refine ⟨O, Fs, ρ, _, Ed, r0, hm, x, fun d1 v1 H1 Fs1 h1 t1 r1 q1 => ?_⟩
  refine ⟨O, Fs1, ρ, _, Ed, r1, h1, x.tr t1.toS, fun d2 v2 H2 Fs2 h2 t2 r2 q2 => ?_⟩
  replace q1 := q1.mono t2.kp (own_mv t2)
  have fin := fun d v hd q => k d v H2 Fs2 hd (t1.trans t2) r2 q
  have nosh : ∀ {ds : List D} {kk : Bool} {dd : List (D × D)}, (d1 = .tup ds ∨ d1 = .dct kk dd) → elT τ1 = .sh := fun {ds kk dd} e => by
    rcases hb with rfl | ⟨t, rfl, hb⟩
    · rfl
    · cases t with
      | li t =>
        obtain ⟨F, q⟩ := q1
        obtain ⟨_, _, _, _, _, e', _⟩ := q
        rcases e with e | e <;> rw [e] at e' <;> cases e'
      | _ => rfl
  cases d1 <;> first | exact (h2 : False).elim | skip
  · -- a list
    cases d2 <;> first | exact (h2 : False).elim | skip
    have e2 := q2.int
    subst e2
    obtain ⟨d, e, hq⟩ := opt_some h2
    obtain ⟨a', vs, rfl, ra, za, hl, hg⟩ := q1.lstG hb
    obtain ⟨j, hj, hat⟩ := atI_len hl _ e
    obtain ⟨w, ew, qw⟩ := hg j d hj
    exact .inl ⟨a', vs, _, w, rfl, rfl, .inl ra, hat w ew, fin d w hq qw⟩
  · -- a tuple
    cases d2 <;> first | exact (h2 : False).elim | skip
    have e2 := q2.int
    subst e2
    obtain ⟨d, e, hq⟩ := opt_some h2
    obtain ⟨a', vs, rfl, na, ra, za, qa⟩ := q1.tup
    obtain ⟨j, hj, hat⟩ := atI_len qa.length _ e
    obtain ⟨w, ew, qw⟩ := qa.get hj
    refine .inr (.inl ⟨a', vs, _, w, rfl, rfl, SqT.of ra, hat w ew, fin d w hq ?_⟩)
    rw [nosh (kk := true) (dd := []) (.inl rfl)]
    exact qw
  · -- a dict
    rename_i kk dd
    have h2' : (M.opt (kyT kk d2)).bind (fun q => M.opt (lookD dd q)) Qd Ed := by cases d2 <;> exact h2
    obtain ⟨q, e, h3⟩ := opt_some h2'
    obtain ⟨d, e', hq⟩ := opt_some h3
    obtain ⟨a', rfl, hd, _⟩ := dget q1 q2 e
    obtain ⟨w, g, qw⟩ := hd d e'
    refine .inr (.inr ⟨a', w, rfl, g, fin d w hq ?_⟩)
    rw [nosh (ds := []) (.inr rfl)]
    exact qw

/-! ### slices -/
def tPO (C : Cn) (T : List (Addr × Str)) (E : XK) (Γ Γ' : List Ow) (m : Env → M (Option Int)) : TO := fun σ H Q => ∃ (O : Addr → Prop) (Fs : Nat → List Addr) (ρ : Env) (Qd : Option Int → Prop) (Ed : Exn → Prop), Rl C T O Γ Fs σ H ρ ∧ m ρ Qd Ed ∧ Xp C T E H Fs Ed ∧
  ∀ o H' Fs', Qd o → TrE H Fs H' Fs' [] → Rl C T O Γ' Fs' σ H' ρ → Q o H'
theorem _root_.L2.PO.imp {X : Cx} {e : Option Expr} {t t' : TO} (h : PO X e t) (k : ∀ σ H Q, t' σ H Q → t σ H Q) : PO X e t' := ⟨fun pins s σ H Q I q => h.run pins s σ H Q I (k σ H Q q)⟩
theorem vpo_none : PO X none (tPO C T E Γ Γ (fun _ => .ret none)) := po_none.imp fun σ H Q ⟨O, Fs, ρ, Qd, Ed, r0, hm, x, k⟩ => k none H Fs hm (TrE.refl H Fs) r0
theorem vpo_some {e : Expr} (h : PE X e (tV C T E Γ Γ1 τ1 m1)) : PO X (some e) (tPO C T E Γ Γ1 (fun ρ => .bind (m1 ρ) fun x => match x with
    | .int i => .ret (some i)
    | _ => .fail)) := (po_some h).imp fun σ H Q ⟨O, Fs, ρ, Qd, Ed, r0, hm, x, k⟩ => by
  refine ⟨O, Fs, ρ, _, Ed, r0, hm, x, fun d v H1 Fs1 hd t1 r1 q => ?_⟩
  cases d <;> first | exact (hd : False).elim | skip
  have e := q.int
  subst e
  exact ⟨_, rfl, k _ H1 Fs1 hd t1 r1⟩
def rSlD (K : PySem.W.Frag) : V → Option Int → Option Int → Hp → VK → Prop := fun x lo hi H Q => rSlL K x lo hi H Q ∨ rSlA K x lo hi H Q
theorem sl_any : SlR X (rSlD X.K) := sl_list.or sl_tupA
theorem RepSs.cut {H : Hp} {O : Addr → Prop} {vs : List V} {ds : List D} (q : RepSs C H O vs ds) (lo hi : Option Int) : RepSs C H O (cutV vs lo hi) (cutD ds lo hi) := by
  unfold cutV cutD
  rw [q.length]
  exact (q.drop _).take _
theorem ve_slc {a : Expr} {lo hi : Option Expr} {p2 : Pos} {ml mh : Env → M (Option Int)} (hK : C.K = X.K) (ha : PE X a (tV C T E Γ Γ1 τ1 m1)) (f : flatO τ1 = true) (hl : PO X lo (tPO C T E Γ1 Γ2 ml)) (hh : PO X hi (tPO C T E Γ2 Γ3 mh)) :
    PE X (.Subscript a (.Slice lo hi none p2) pos) (tO C T E Γ Γ3 .sh (fun ρ => .bind (m1 ρ) fun x => .bind (ml ρ) fun l => .bind (mh ρ) fun h => match x with
      | .lst xs => .ret (.lst (cutD xs l h))
      | .tup xs => .ret (.tup (cutD xs l h))
      | _ => .fail)) := by
  refine (pe_slice sl_any ha hl hh).imp fun σ H Q ⟨O, Fs, ρ, Qd, Ed, r0, hm, x, k⟩ => ?_
  refine ⟨O, Fs, ρ, _, Ed, r0, hm, x, fun d1 v1 H1 Fs1 h1 t1 r1 q1 => ?_⟩
  refine ⟨O, Fs1, ρ, _, Ed, r1, h1, x.tr t1.toS, fun l H2 Fs2 h2 t2 r2 => ?_⟩
  refine ⟨O, Fs2, ρ, _, Ed, r2, h2, (x.tr t1.toS).tr t2.toS, fun h H3 Fs3 h3 t3 r3 => ?_⟩
  replace q1 := (q1.mono t2.kp (own_mv t2)).mono t3.kp (own_mv t3)
  have S := sim_end r3 ((t1.trans t2).trans t3) k
  cases d1 <;> first | exact (h3 : False).elim | skip
  · obtain ⟨a', vs, rfl, ra, za, qa⟩ := q1.lst f
    exact .inl ⟨a', vs, rfl, .inl ra, S.lstS (Oall_ne r3) h3 (Nat.le_trans (cutV_length _ _ _) za) (qa.cut l h)⟩
  · obtain ⟨a', vs, rfl, na, ra, za, qa⟩ := q1.tup
    refine .inr ⟨a', vs, rfl, SqT.of ra, fun hw => ?_, fun _ => S.tup (Oall_ne r3) h3 (Nat.le_trans (cutV_length _ _ _) za) (qa.cut l h)⟩
    refine S.val h3 ?_
    rename_i ds
    have e : cutD ds l h = ds := by
      unfold cutD
      rw [← qa.length, hw.1, hw.2, Nat.sub_zero, List.drop_zero, qa.length, List.take_length]
    rw [e]
    exact .tup na ra za qa

/-! ### built-in calls of one argument -/
def Sem1 (C : Cn) (r : List V → Hp → VK → Prop) (o : D → M D) (τ1 τ : Ow) : Prop := ∀ (O : Addr → Prop) (H : Hp) (x : V) (dx : D) (Qd : D → Prop) (Ed : Exn → Prop) (Q : VK), (∀ a, O a → H a ≠ none) → RepR C H O τ1 x dx → o dx Qd Ed → Sim C O H τ Qd Q → r [x] H Q
theorem ve_b1 {x : Str} {bid : String} {r : List V → Hp → VK → Prop} {o : D → M D} {a : Expr} (hc : CallR X (.builtin bid) r) (hg : Gl X x) (hm : X.mg x = none) (hv : bootBuiltins x = some (.builtin bid)) (ha : PE X a (tV C T E Γ Γ1 τ1 m1))
    (hn : x ≠ "__name__") (hdb : (x == ("__debug__" : Str)) = false) (he : starEach [a] X.env = (false, eval a X.env) :: starEach [] X.env) (hpl : (backTo pos (starEach [] X.env)).any (·.1) = false) (sem : Sem1 C r o τ1 τ) :
    PE X (.Call (.Name x p) [a] [] pos) (tO C T E Γ Γ1 τ (fun ρ => .bind (m1 ρ) o)) := by
  refine (pe_callB hc hg hm hv (pa_cons ha pa_nil he) hn hdb he hpl).imp fun σ H Q ⟨O, Fs, ρ, Qd, Ed, r0, hm, x, k⟩ => ?_
  refine ⟨O, Fs, ρ, _, Ed, r0, hm, x, fun d v H1 Fs1 hd t1 r1 q => ?_⟩
  exact sem (Oall O Fs1) H1 v d Qd Ed Q (Oall_ne r1) q hd (sim_end r1 t1 k)
theorem ve_t1 {x : Str} {bid : String} {r : List V → Hp → VK → Prop} {o : D → M D} {a : Expr} (hc : CallR X (.type bid) r) (hg : Gl X x) (hm : X.mg x = none) (hv : bootBuiltins x = some (.type bid)) (ha : PE X a (tV C T E Γ Γ1 τ1 m1))
    (hn : x ≠ "__name__") (hdb : (x == ("__debug__" : Str)) = false) (he : starEach [a] X.env = (false, eval a X.env) :: starEach [] X.env) (hpl : (backTo pos (starEach [] X.env)).any (·.1) = false) (sem : Sem1 C r o τ1 τ) :
    PE X (.Call (.Name x p) [a] [] pos) (tO C T E Γ Γ1 τ (fun ρ => .bind (m1 ρ) o)) := by
  refine (pe_callTy hc hg hm hv (pa_cons ha pa_nil he) hn hdb he hpl).imp fun σ H Q ⟨O, Fs, ρ, Qd, Ed, r0, hm, x, k⟩ => ?_
  refine ⟨O, Fs, ρ, _, Ed, r0, hm, x, fun d v H1 Fs1 hd t1 r1 q => ?_⟩
  exact sem (Oall O Fs1) H1 v d Qd Ed Q (Oall_ne r1) q hd (sim_end r1 t1 k)
theorem ve_b2 {x : Str} {bid : String} {r : List V → Hp → VK → Prop} {o : D → D → M D} {a b : Expr} (hc : CallR X (.builtin bid) r) (hg : Gl X x) (hm : X.mg x = none) (hv : bootBuiltins x = some (.builtin bid)) (ha : PE X a (tV C T E Γ Γ1 τ1 m1)) (hb : PE X b (tV C T E Γ1 Γ2 τ2 m2))
    (hn : x ≠ "__name__") (hdb : (x == ("__debug__" : Str)) = false) (he : starEach [a, b] X.env = (false, eval a X.env) :: starEach [b] X.env) (he2 : starEach [b] X.env = (false, eval b X.env) :: starEach [] X.env) (hpl : (backTo pos (starEach [b] X.env)).any (·.1) = false)
    (sem : ∀ (O : Addr → Prop) (H : Hp) (x y : V) (dx dy : D) (Qd : D → Prop) (Ed : Exn → Prop) (Q : VK), (∀ a, O a → H a ≠ none) → RepR C H O τ1 x dx → RepR C H O τ2 y dy → o dx dy Qd Ed → Sim C O H τ Qd Q → r [x, y] H Q) :
    PE X (.Call (.Name x p) [a, b] [] pos) (tO C T E Γ Γ2 τ (fun ρ => .bind (m1 ρ) fun x => .bind (m2 ρ) fun y => o x y)) := by
  refine (pe_callB hc hg hm hv (pa_cons ha (pa_cons hb pa_nil he2) he) hn hdb he hpl).imp fun σ H Q ⟨O, Fs, ρ, Qd, Ed, r0, hm, x, k⟩ => ?_
  refine ⟨O, Fs, ρ, _, Ed, r0, hm, x, fun d v H1 Fs1 hd t1 r1 q => ?_⟩
  refine ⟨O, Fs1, ρ, _, Ed, r1, hd, x.tr t1.toS, fun d2 v2 H2 Fs2 h2 t2 r2 q2 => ?_⟩
  exact sem (Oall O Fs2) H2 v v2 d d2 Qd Ed Q (Oall_ne r2) (q.mono t2.kp (own_mv t2)) q2 h2 (sim_end r2 (t1.trans t2) k)
def o1 (b : Bi) (d : D) : M D := bltD b [d]
def o2 (b : Bi) (d e : D) : M D := bltD b [d, e]
theorem RepT.lstA : ∀ {t : Ow} {F : List Addr} {H : Hp} {O : Addr → Prop} {v : V} {ds : List D}, RepT C H O t v (.lst ds) F → ∃ a vs, v = .ref a ∧ Rd H a (.lst vs) ∧ vs.length = ds.length
  | .sh, _, _, _, _, _, h => by obtain ⟨_, h⟩ := h; cases h with | lst n r z q => exact ⟨_, _, rfl, r, q.length⟩
  | .li t, _, _, _, _, _, h => by
    obtain ⟨a, vs, ds', Fs, e1, e2, e3, e4, e5, e6⟩ := h
    cases e2
    exact ⟨a, vs, e1, .inl e3, e6.length.1⟩
  | .dk, _, _, _, _, _, h => by obtain ⟨_, _, _, _, e, _⟩ := h; cases e
  | .dt, _, _, _, _, _, h => by obtain ⟨_, _, _, _, e, _⟩ := h; cases e
  | .bo t, _, _, _, _, _, h => by obtain ⟨_, _, h⟩ := h; exact h.lstA
theorem RepR.lstA {H : Hp} {O : Addr → Prop} {v : V} {ds : List D} (h : RepR C H O τ v (.lst ds)) : ∃ a vs, v = .ref a ∧ Rd H a (.lst vs) ∧ vs.length = ds.length := by obtain ⟨_, _, h⟩ := h.T; exact h.lstA
theorem RepT.scr : ∀ {t : Ow} {F : List Addr} {H : Hp} {O : Addr → Prop} {v : V} {ns : List Int}, RepT C H O t v (.scr ns) F → ∃ a, v = .ref a ∧ SqL C.K H a (ns.map V.int)
  | .sh, _, H, O, _, _, h => by obtain ⟨_, h⟩ := h; cases h with | scr l n r => exact ⟨_, rfl, .inl r⟩ | scrK l e => exact ⟨_, rfl, e H⟩
  | .li t, _, _, _, _, _, h => by obtain ⟨_, _, _, _, _, e, _⟩ := h; cases e
  | .dk, _, _, _, _, _, h => by obtain ⟨_, _, _, _, e, _⟩ := h; cases e
  | .dt, _, _, _, _, _, h => by obtain ⟨_, _, _, _, e, _⟩ := h; cases e
  | .bo t, _, _, _, _, _, h => by obtain ⟨_, _, h⟩ := h; exact h.scr
def rLenD (K : PySem.W.Frag) : List V → Hp → VK → Prop := fun xs H Q => ∃ p ys, xs = [.ref p] ∧ (SqL K H p ys ∨ SqT K H p ys) ∧ Q (.int ys.length) H
theorem sem_len : Sem1 C (rLenD C.K) (o1 .len) τ1 .sh := by
  intro O H x dx Qd Ed Q hO rx h s
  cases dx <;> first | exact (h : False).elim | skip
  · obtain ⟨a, vs, rfl, r, e⟩ := rx.lstA
    exact ⟨a, vs, rfl, .inl (.inl r), by rw [e]; exact s.val h (.int _)⟩
  · obtain ⟨a, vs, rfl, na, r, z, q⟩ := rx.tup
    exact ⟨a, vs, rfl, .inr (SqT.of r), by rw [q.length]; exact s.val h (.int _)⟩
  · obtain ⟨t, F, rx⟩ := rx.T
    obtain ⟨a, rfl, r⟩ := rx.scr
    refine ⟨a, _, rfl, .inl r, ?_⟩
    rw [List.length_map]
    exact s.val h (.int _)
def rTupleD (K : PySem.W.Frag) : List V → Hp → VK → Prop := fun xs H Q => ∃ p ys, xs = [.ref p] ∧ ((SqL K H p ys ∧ ∀ l, H l = none → Q (.ref l) (upd H l (.tup ys))) ∨ (SqT K H p ys ∧ Q (.ref p) H))
theorem sem_tuple (f : flatO τ1 = true) : Sem1 C (rTupleD C.K) (o1 .tuple) τ1 .sh := by
  intro O H x dx Qd Ed Q hO rx h s
  cases dx <;> first | exact (h : False).elim | skip
  · obtain ⟨a, vs, rfl, r, z, q⟩ := rx.lst f
    exact ⟨a, vs, rfl, .inl ⟨.inl r, s.tup hO h z q⟩⟩
  · obtain ⟨a, vs, rfl, na, r, z, q⟩ := rx.tup
    exact ⟨a, vs, rfl, .inr ⟨SqT.of r, s.val h (.tup na r z q)⟩⟩
def rListD' (K : PySem.W.Frag) : List V → Hp → VK → Prop := fun xs H Q => ∃ p ys, xs = [.ref p] ∧ (SqL K H p ys ∨ SqT K H p ys) ∧ ∀ l, H l = none → Q (.ref l) (upd H l (.lst ys))
theorem sem_list (f : flatO τ1 = true) : Sem1 C (rListD' C.K) (o1 .list) τ1 (.li .sh) := by
  intro O H x dx Qd Ed Q hO rx h s
  cases dx <;> first | exact (h : False).elim | skip
  · obtain ⟨a, vs, rfl, r, z, q⟩ := rx.lst f
    exact ⟨a, vs, rfl, .inl (.inl r), s.lst h z q⟩
  · obtain ⟨a, vs, rfl, na, r, z, q⟩ := rx.tup
    exact ⟨a, vs, rfl, .inr (SqT.of r), s.lst h z q⟩
/-! sorting -/
theorem insI_perm (a : Int) : ∀ l, (insI a l).Perm (a :: l)
  | [] => .refl _
  | b :: r => by
    unfold insI
    split
    · exact .refl _
    · exact ((insI_perm a r).cons b).trans (List.Perm.swap a b r)
theorem sortI_perm : ∀ l, (sortI l).Perm l
  | [] => .refl _
  | a :: r => (insI_perm a (sortI r)).trans ((sortI_perm r).cons a)
theorem insI_sorted (a : Int) : ∀ l : List Int, l.Pairwise (· ≤ ·) → (insI a l).Pairwise (· ≤ ·)
  | [], _ => by simp [insI]
  | b :: r, h => by
    unfold insI
    obtain ⟨h1, h2⟩ := List.pairwise_cons.mp h
    split
    · rename_i hab
      refine List.pairwise_cons.mpr ⟨fun x hx => ?_, h⟩
      rcases List.mem_cons.mp hx with rfl | hx
      · exact hab
      · exact Int.le_trans hab (h1 x hx)
    · rename_i hab
      refine List.pairwise_cons.mpr ⟨fun x hx => ?_, insI_sorted a r h2⟩
      rcases List.mem_cons.mp ((insI_perm a r).mem_iff.mp hx) with rfl | hx
      · omega
      · exact h1 x hx
theorem sortI_sorted : ∀ l, (sortI l).Pairwise (· ≤ ·)
  | [] => List.Pairwise.nil
  | a :: r => insI_sorted a _ (sortI_sorted r)
theorem sortI_eq {ns ns' : List Int} (h : ns'.Perm ns) (s : ns'.Pairwise (· ≤ ·)) : ns' = sortI ns := PySem.W.ksm_same (h.trans (sortI_perm ns).symm) s (sortI_sorted ns)
def rSortD (K : PySem.W.Frag) : List V → Hp → VK → Prop := fun xs H Q => rSortedI K xs H Q ∨ rSortedT K xs H Q
theorem cr_sortD : CallR X (.builtin "sorted") (rSortD X.K) := cr_sortedI.or cr_sortedT
theorem sem_sorted (f : flatO τ1 = true) : Sem1 C (rSortD C.K) (o1 .sorted) τ1 (.li .sh) := by
  intro O H x dx Qd Ed Q hO rx h s
  cases dx <;> first | exact (h : False).elim | skip
  · obtain ⟨a, vs, rfl, r, z, q⟩ := rx.lst f
    obtain ⟨ns, e, hq⟩ := opt_some h
    obtain ⟨e1, e2⟩ := q.ints e
    subst e1
    refine .inl ⟨a, ns, rfl, .inl r, fun ns' p hp hs hn => ?_⟩
    rw [sortI_eq hp hs]
    refine s.lst hq ?_ (repInts _) p hn
    rw [List.length_map, (sortI_perm ns).length_eq]
    rw [List.length_map] at z
    exact z
  · obtain ⟨a, vs, rfl, na, r, z, q⟩ := rx.tup
    obtain ⟨ns, e, hq⟩ := opt_some h
    obtain ⟨e1, e2⟩ := q.ints e
    subst e1
    refine .inr ⟨a, ns, rfl, SqT.of r, fun ns' p hp hs hn => ?_⟩
    rw [sortI_eq hp hs]
    refine s.lst hq ?_ (repInts _) p hn
    rw [List.length_map, (sortI_perm ns).length_eq]
    rw [List.length_map] at z
    exact z
def rSumD (K : PySem.W.Frag) : List V → Hp → VK → Prop := fun xs H Q => rSum K xs H Q ∨ rSumT K xs H Q
theorem cr_sumD (hc : X.calm = true) : CallR X (.builtin "sum") (rSumD X.K) := (cr_sum hc).or (cr_sumT hc)
theorem sem_sum (f : flatO τ1 = true) : Sem1 C (rSumD C.K) (o1 .sum) τ1 .sh := by
  intro O H x dx Qd Ed Q hO rx h s
  cases dx <;> first | exact (h : False).elim | skip
  · obtain ⟨a, vs, rfl, r, z, q⟩ := rx.lst f
    obtain ⟨ns, e, hq⟩ := opt_some h
    obtain ⟨e1, e2⟩ := q.ints e
    subst e1
    exact .inl ⟨a, ns, rfl, .inl r, s.val hq (.int _)⟩
  · obtain ⟨a, vs, rfl, na, r, z, q⟩ := rx.tup
    obtain ⟨ns, e, hq⟩ := opt_some h
    obtain ⟨e1, e2⟩ := q.ints e
    subst e1
    exact .inr ⟨a, ns, rfl, SqT.of r, s.val hq (.int _)⟩
theorem foldl_min : ∀ (r : List Int) (a : Int), r.foldl (fun x y => if y < x then y else x) a ∈ a :: r ∧ ∀ y ∈ a :: r, r.foldl (fun x y => if y < x then y else x) a ≤ y
  | [], a => by simp
  | b :: r, a => by
    obtain ⟨h1, h2⟩ := foldl_min r (if b < a then b else a)
    rw [List.foldl_cons]
    refine ⟨?_, fun y hy => ?_⟩
    · rcases List.mem_cons.mp h1 with h1 | h1
      · rw [h1]; split <;> simp
      · simp [h1]
    · have hb := h2 _ List.mem_cons_self
      rcases List.mem_cons.mp hy with rfl | hy
      · revert hb; generalize List.foldl _ _ _ = z; split <;> omega
      · rcases List.mem_cons.mp hy with rfl | hy
        · revert hb; generalize List.foldl _ _ _ = z; split <;> omega
        · exact h2 y (List.mem_cons_of_mem _ hy)
theorem foldl_max : ∀ (r : List Int) (a : Int), r.foldl (fun x y => if x < y then y else x) a ∈ a :: r ∧ ∀ y ∈ a :: r, y ≤ r.foldl (fun x y => if x < y then y else x) a
  | [], a => by simp
  | b :: r, a => by
    obtain ⟨h1, h2⟩ := foldl_max r (if a < b then b else a)
    rw [List.foldl_cons]
    refine ⟨?_, fun y hy => ?_⟩
    · rcases List.mem_cons.mp h1 with h1 | h1
      · rw [h1]; split <;> simp
      · simp [h1]
    · have hb := h2 _ List.mem_cons_self
      rcases List.mem_cons.mp hy with rfl | hy
      · revert hb; generalize List.foldl _ _ _ = z; split <;> omega
      · rcases List.mem_cons.mp hy with rfl | hy
        · revert hb; generalize List.foldl _ _ _ = z; split <;> omega
        · exact h2 y (List.mem_cons_of_mem _ hy)
theorem minI_ok {ns : List Int} {m : Int} (e : minI ns = some m) : 0 < ns.length ∧ ∀ m', m' ∈ ns → (∀ y, y ∈ ns → m' ≤ y) → m' = m := by
  cases ns with
  | nil => simp [minI] at e
  | cons a r =>
    simp only [minI, Option.some.injEq] at e
    obtain ⟨h1, h2⟩ := foldl_min r a
    rw [e] at h1 h2
    exact ⟨by simp, fun m' hm hall => Int.le_antisymm (hall m h1) (h2 m' hm)⟩
theorem maxI_ok {ns : List Int} {m : Int} (e : maxI ns = some m) : 0 < ns.length ∧ ∀ m', m' ∈ ns → (∀ y, y ∈ ns → y ≤ m') → m' = m := by
  cases ns with
  | nil => simp [maxI] at e
  | cons a r =>
    simp only [maxI, Option.some.injEq] at e
    obtain ⟨h1, h2⟩ := foldl_max r a
    rw [e] at h1 h2
    exact ⟨by simp, fun m' hm hall => Int.le_antisymm (h2 m' hm) (hall m h1)⟩
def rMinD (K : PySem.W.Frag) : List V → Hp → VK → Prop := fun xs H Q => rMin K xs H Q ∨ rMinT K xs H Q
theorem cr_minD (hc : X.calm = true) : CallR X (.builtin "min") (rMinD X.K) := (cr_min hc).or (cr_minT hc)
def rMaxD' (K : PySem.W.Frag) : List V → Hp → VK → Prop := fun xs H Q => rMax K xs H Q ∨ rMaxT K xs H Q
theorem cr_maxD' (hc : X.calm = true) : CallR X (.builtin "max") (rMaxD' X.K) := (cr_max hc).or (cr_maxT hc)
theorem sem_min (f : flatO τ1 = true) : Sem1 C (rMinD C.K) (o1 .min) τ1 .sh := by
  intro O H x dx Qd Ed Q hO rx h s
  cases dx <;> first | exact (h : False).elim | skip
  · obtain ⟨a, vs, rfl, r, z, q⟩ := rx.lst f
    obtain ⟨ns, e, h2⟩ := opt_some h
    obtain ⟨m, em, hq⟩ := opt_some h2
    obtain ⟨e1, e2⟩ := q.ints e
    subst e1
    obtain ⟨hp, hu⟩ := minI_ok em
    exact .inl ⟨a, ns, rfl, .inl r, hp, fun m' h1 h2 => by rw [hu m' h1 h2]; exact s.val hq (.int _)⟩
  · obtain ⟨a, vs, rfl, na, r, z, q⟩ := rx.tup
    obtain ⟨ns, e, h2⟩ := opt_some h
    obtain ⟨m, em, hq⟩ := opt_some h2
    obtain ⟨e1, e2⟩ := q.ints e
    subst e1
    obtain ⟨hp, hu⟩ := minI_ok em
    exact .inr ⟨a, ns, rfl, SqT.of r, hp, fun m' h1 h2 => by rw [hu m' h1 h2]; exact s.val hq (.int _)⟩
theorem sem_max (f : flatO τ1 = true) : Sem1 C (rMaxD' C.K) (o1 .max) τ1 .sh := by
  intro O H x dx Qd Ed Q hO rx h s
  cases dx <;> first | exact (h : False).elim | skip
  · obtain ⟨a, vs, rfl, r, z, q⟩ := rx.lst f
    obtain ⟨ns, e, h2⟩ := opt_some h
    obtain ⟨m, em, hq⟩ := opt_some h2
    obtain ⟨e1, e2⟩ := q.ints e
    subst e1
    obtain ⟨hp, hu⟩ := maxI_ok em
    exact .inl ⟨a, ns, rfl, .inl r, hp, fun m' h1 h2 => by rw [hu m' h1 h2]; exact s.val hq (.int _)⟩
  · obtain ⟨a, vs, rfl, na, r, z, q⟩ := rx.tup
    obtain ⟨ns, e, h2⟩ := opt_some h
    obtain ⟨m, em, hq⟩ := opt_some h2
    obtain ⟨e1, e2⟩ := q.ints e
    subst e1
    obtain ⟨hp, hu⟩ := maxI_ok em
    exact .inr ⟨a, ns, rfl, SqT.of r, hp, fun m' h1 h2 => by rw [hu m' h1 h2]; exact s.val hq (.int _)⟩
def rAllD (K : PySem.W.Frag) : List V → Hp → VK → Prop := fun xs H Q => rAll K xs H Q ∨ rAllT K xs H Q
theorem cr_allD (hc : X.calm = true) : CallR X (.builtin "all") (rAllD X.K) := (cr_all hc).or (cr_allT hc)
def rAnyD (K : PySem.W.Frag) : List V → Hp → VK → Prop := fun xs H Q => rAny K xs H Q ∨ rAnyT K xs H Q
theorem cr_anyD (hc : X.calm = true) : CallR X (.builtin "any") (rAnyD X.K) := (cr_any hc).or (cr_anyT hc)
theorem sem_all (f : flatO τ1 = true) : Sem1 C (rAllD C.K) (o1 .all) τ1 .sh := by
  intro O H x dx Qd Ed Q hO rx h s
  cases dx <;> first | exact (h : False).elim | skip
  · obtain ⟨a, vs, rfl, r, z, q⟩ := rx.lst f
    obtain ⟨ns, e, hq⟩ := opt_some h
    obtain ⟨e1, e2⟩ := q.bls e
    subst e1
    exact .inl ⟨a, ns, rfl, .inl r, s.val hq (.bl _)⟩
  · obtain ⟨a, vs, rfl, na, r, z, q⟩ := rx.tup
    obtain ⟨ns, e, hq⟩ := opt_some h
    obtain ⟨e1, e2⟩ := q.bls e
    subst e1
    exact .inr ⟨a, ns, rfl, SqT.of r, s.val hq (.bl _)⟩
theorem sem_any (f : flatO τ1 = true) : Sem1 C (rAnyD C.K) (o1 .any) τ1 .sh := by
  intro O H x dx Qd Ed Q hO rx h s
  cases dx <;> first | exact (h : False).elim | skip
  · obtain ⟨a, vs, rfl, r, z, q⟩ := rx.lst f
    obtain ⟨ns, e, hq⟩ := opt_some h
    obtain ⟨e1, e2⟩ := q.bls e
    subst e1
    exact .inl ⟨a, ns, rfl, .inl r, s.val hq (.bl _)⟩
  · obtain ⟨a, vs, rfl, na, r, z, q⟩ := rx.tup
    obtain ⟨ns, e, hq⟩ := opt_some h
    obtain ⟨e1, e2⟩ := q.bls e
    subst e1
    exact .inr ⟨a, ns, rfl, SqT.of r, s.val hq (.bl _)⟩
theorem sem_int : Sem1 C (fun xs H Q => (∃ i, xs = [.int i] ∧ Q (.int i) H) ∨ ∃ k, xs = [.bl k] ∧ Q (.int (if k then 1 else 0)) H) (o1 .int) τ1 .sh := by
  intro O H x dx Qd Ed Q hO rx h s
  cases dx <;> first | exact (h : False).elim | skip
  have e := rx.int
  subst e
  exact .inl ⟨_, rfl, s.val h (.int _)⟩
theorem sem_abs : Sem1 C (fun xs H Q => ∃ i, xs = [.int i] ∧ Q (.int (if i < 0 then -i else i)) H) (o1 .abs) τ1 .sh := by
  intro O H x dx Qd Ed Q hO rx h s
  cases dx <;> first | exact (h : False).elim | skip
  have e := rx.int
  subst e
  exact ⟨_, rfl, s.val h (.int _)⟩
end
end Wb

end
section
/-! Wb: a caught error kept as a value. -/
namespace Wb
open PySem PySem.Spec PyProof.Rows L2
def dbgB (x : Str) : Bool := !(x == ("__debug__" : Str)) && !(x == ("__classdict__" : Str)) && !(x == ("__name__" : Str))
theorem dbg1 {x : Str} (h : dbgB x = true) : (x == ("__debug__" : Str)) = false := by
  unfold dbgB at h; revert h
  cases (x == ("__debug__" : Str)) <;> simp
theorem dbg2 {x : Str} (h : dbgB x = true) : (x == ("__classdict__" : Str)) = false := by
  unfold dbgB at h; revert h
  cases (x == ("__classdict__" : Str)) <;> simp
theorem dbg3 {x : Str} (h : dbgB x = true) : x ≠ "__name__" := by
  unfold dbgB at h
  intro e
  rw [Bool.and_eq_true, Bool.not_eq_true'] at h
  rw [e] at h
  have := h.2
  simp at this
/-- an error caught, at a -/
def ExV (cls : Value) (a : Addr) : HO := .ext fun h => ∃ (oe : Obj) (vs : Array Value), h.get? a = some oe ∧ Zc cls none oe ∧ oe.data = .fields vs
section
variable {X : Cx} {pins : List (Addr × Obj)} {σ σ0 : L2.St} {H H0 : Hp} {s sI : Shared} {a : Addr} {oe : Obj} {cls : Value}
/-- an object newer than an earlier state may be told of from now on -/
theorem adopt {φ : Heap → Prop} (J : Inv X pins σ0 H0 sI) (n : sI.heap.get? a = none) (hex : X.ex = []) (I : Inv X pins σ H s) (na : H a = none) (new : ObjOk X.prog X.w (upd H a (.ext φ)) s.heap a (.ext φ)) : Inv X pins σ (upd H a (.ext φ)) s := by
  have off : ∀ {b : Addr} {o : Obj}, sI.heap.get? b = some o → b ≠ a := fun {b o} e z => by
    rw [z, n] at e
    cases e
  have n0 : ∀ {b : Addr} {o : Obj}, X.s_0.heap.get? b = some o → b ≠ a := fun {b o} e => by
    obtain ⟨o', e'⟩ := J.base.there b o e (by rw [hex]; exact fun z => nomatch z)
    exact off e'
  have nH : ∀ {b : Addr} {o : HO}, H b = some o → b ≠ a := fun {b o} e z => by
    rw [z, na] at e
    cases e
  have B := I.base
  refine { I with base := { B with free := fun b o e m q => ?_, tups := fun b xs e => ?_, frzs := fun b o u e => ?_, tbls := fun b ps e => ?_ }, free := ?_, freeC := fun x c e => ?_, pin := fun p hp => ?_, hok := ?_ }
  · rw [upd_ne (n0 e)]
    exact B.free b o e m q
  · have z := B.tups b xs e
    rw [upd_ne (nH z)]
    exact z
  · have z := B.frzs b o u e
    rw [upd_ne (nH z)]
    exact z
  · obtain ⟨m, z⟩ := B.tbls b ps e
    exact ⟨m, by rw [upd_ne (nH z)]; exact z⟩
  · obtain ⟨m, ⟨o, es, ep, ho, _⟩, _⟩ := J.loc
    rw [upd_ne (off ho)]
    exact I.free
  · obtain ⟨v, o, ho, _⟩ := J.cell x c e
    rw [upd_ne (off ho)]
    exact I.freeC x c e
  · obtain ⟨e1, e2, e3⟩ := I.pin p hp
    exact ⟨e1, by rw [upd_ne (off (J.pin p hp).1)]; exact e2, e3⟩
  · exact I.hok.laidN (fun _ _ q => q) na new
end
/-- what is wished of an error that a clause keeps -/
def wGot (K : PySem.W.Frag) (c : Value) (i : Nat) (ts : Addr → TS) (D : Ends) : WX := fun cls d σ H =>
  PySem.W.exmOne K cls c = some true ∧ d = none ∧ ∀ a, H a = none → ts a ⟨fun σ' H' => H' a = none → D.nx (σ'.set i none) (upd H' a (ExV cls a)), fun _ _ => False, fun _ _ => False, fun _ _ => False⟩ (σ.set i (some (.ref a))) H
theorem held_none {B : Heap} {l : List PySem.Env} {a : Addr} {Z : Obj → Prop} {h : Heap} (f : HandSPX.FlyingZ B l a Z h) : B.get? a = none ∧ a ∉ frs l := by
  obtain ⟨k1, k2, k3, oe, vs, T, oT, ts', he, hz, hd, h1, hr⟩ := f
  refine ⟨k2, fun hm => ?_⟩
  obtain ⟨_, o', e', hnf⟩ := k3.mem hm
  rw [he] at e'
  cases e'
  exact hnf _ hd
section
variable {X : Cx} {x n : Str} {c : Value} {i : Nat} {body suite : List Stmt} {b₀ : Stmt} {np pos pos' : Pos} {tb : WX → TS} {ts : Addr → TS}
theorem ps_got (hs : X.stack = X.env :: X.outer) (hf : X.env.frame = some X.env.locals) (hex : X.ex = []) (hN : X.N.Nodup) (hi : X.N[i]? = some n) (hln : X.env.kindOf n = some .local) (hc : Names X x c)
    (hb : ∀ (W : WX) (pn : List (Addr × Obj)) (xe : Value → Shared → Prop), Takes (X.tr pn xe) W → PassesOwn (model X.prog X.w) X.A X.env xe → PSs (X.tr pn xe) body (tb W))
    (hsu : ∀ (a : Addr) (oe : Obj) (pn : List (Addr × Obj)), PSs (X.suite a ((a, oe) :: pn)) (b₀ :: suite) (ts a)) :
    PS X (.Try body [.ExceptHandler (some (.Name x np)) (some n) (b₀ :: suite) pos'] [] [] pos) (fun D σ H => tb (wGot X.K c i ts D) D σ H) := by
  refine ⟨fun pins s σ H D I h => ?_⟩
  have ok := I.ok
  have hfr : X.A.frames = some (X.env :: X.outer) := ok.frames.trans (congrArg some hs)
  refine wpAny_Try_except (wpAny_mono ((hb (wGot X.K c i ts D) (X.pn ++ pins) _ (fun u s' xx => ?_) PassesOwn.looking).run [] s σ H D (I.toTry _) h) (fun f s1 q => ?_) fun _ _ q => q)
  · obtain ⟨a, B, sI, pins', σ', H', cls, d, rfl, J', nb, up, sky, na, os, ag, hexm, rfl, hk⟩ := xx
    have J : Inv X pins σ' H' sI := J'.ofTry ok
    rw [show (X.tr (X.pn ++ pins) _).stack = X.env :: X.outer from hs] at sky
    show wpAny (model X.prog X.w) X.A (noteFrame (.ref a) X.env) _ _ _
    refine Sky.land Zc.steady hfr hf sky fun h3 fl3 up3 => ?_
    obtain ⟨gB, nfr⟩ := held_none fl3
    have nI : sI.heap.get? a = none := by
      cases e : sI.heap.get? a with
      | none => rfl
      | some o =>
        have z := nb a o e (by rw [show (X.tr (X.pn ++ pins) _).stack = X.env :: X.outer from hs]; exact nfr)
        rw [gB] at z
        cases z
    have nL : a ≠ X.env.locals := fun z => nfr (List.mem_filterMap.mpr ⟨X.env, List.mem_cons_self, hf.trans (congrArg some z.symm)⟩)
    have nF : a ∉ X.fs := fun hm => by
      obtain ⟨e, he, q⟩ := List.mem_filterMap.mp hm
      exact nfr (List.mem_filterMap.mpr ⟨e, List.mem_cons_of_mem _ he, q⟩)
    have J3 : Inv X pins σ' H' { s' with heap := h3 } := J.landed nb fl3.1 (up.trans up3) os ag
    obtain ⟨o3, v3, g3, z3, d3⟩ := fl3.there
    have S3 := J3.suite g3 d3 na nL nF
    refine wpAny_handleBy_cons (codeAny_handlers_test ?_) (by intro q; cases q)
    have see : ∀ {Q E : Value → Shared → Prop}, Q c { s' with heap := h3 } → wpAny (model X.prog X.w) (X.A.mark (some (.ref a))) (eval (.Name x np) X.env) Q E { s' with heap := h3 } := fun {Q E} q => by
      obtain ⟨hg, hdbg, hm | ⟨hm, hv, hnn⟩⟩ := hc
      · exact ld_glob (X := X.suite a ((a, o3) :: (X.pn ++ pins))) S3 hg hm q hdbg
      · exact ld_blt (X := X.suite a ((a, o3) :: (X.pn ++ pins))) S3 hg hm hv q hnn hdbg
    have LT : PySem.W.Looks (model X.prog X.w) h3 (typeOf (.ref a)) cls := fun A Q E s k q => wpAny_typeOf_ref (k _ _ g3) (by rw [z3.1]; exact q)
    refine see ((PySem.W.exm_one (M := model X.prog X.w) J3.kIn LT hexm).here (codeAny_handlers_suite_as ?_))
    refine HandSPX.lands_againZ fl3 fun h4 fl4 up4 => ?_
    have J4 : Inv X pins σ' H' { s' with heap := h4 } := J.landed nb fl4.1 ((up.trans up3).trans up4) os ag
    obtain ⟨o4, v4, g4, z4, d4⟩ := fl4.there
    have S4 := J4.suite g4 d4 na nL nF
    refine store_ok (X := X.suite a ((a, o4) :: (X.pn ++ pins))) (v := .ref a) S4 hN hi (.inl hln) rfl (fun s5 S5 => ?_) (.inr hln)
    refine wpAny_mono ((hsu a o4 (X.pn ++ pins)).run [] s5 _ H' _ S5 (hk a na)) (fun f s6 q6 => ?_) fun _ _ z => z.elim
    cases f with
    | brk =>
      obtain ⟨_, _, _, z⟩ := q6
      exact z.elim
    | cont =>
      obtain ⟨_, _, _, z⟩ := q6
      exact z.elim
    | ret u =>
      obtain ⟨_, _, _, _, _, z⟩ := q6
      exact z.elim
    | next =>
      obtain ⟨σ6, H6, S6, z6⟩ := q6
      have J6 : Inv X ((a, o4) :: pins) σ6 H6 s6 := ⟨ok, S6.os, S6.bare, S6.base, S6.loc, S6.cell, S6.free, S6.freeC, fun p hp => S6.pin p (by
        rw [List.append_nil]
        rcases List.mem_append.mp hp with hp | hp
        · exact List.mem_cons_of_mem _ (List.mem_append_left _ hp)
        · rcases List.mem_cons.mp hp with rfl | hp
          · exact List.mem_cons_self
          · exact List.mem_cons_of_mem _ (List.mem_append_right _ hp)), S6.hok, S6.len⟩
      refine gone_ok J6 hN hi hln fun s7 J7 => ?_
      obtain ⟨g7, n7, _⟩ := J7.pin (a, o4) (List.mem_append_right _ List.mem_cons_self)
      have K7 : Inv X pins (σ6.set i none) H6 s7 := ⟨J7.ok, J7.os, J7.bare, J7.base, J7.loc, J7.cell, J7.free, J7.freeC, fun p hp => J7.pin p (by
        rcases List.mem_append.mp hp with hp | hp
        · exact List.mem_append_left _ hp
        · exact List.mem_append_right _ (List.mem_cons_of_mem _ hp)), J7.hok, J7.len⟩
      exact ⟨_, _, adopt J nI hex K7 n7 ⟨⟨o4, v4, g7, z4, d4⟩, ⟨o4, g7⟩, fun _ _ ⟨o, v, q, r⟩ k => ⟨o, v, k o q, r⟩⟩, z6 n7⟩
  · cases f with
    | next =>
      obtain ⟨σ', H', J', q⟩ := q
      exact wpAny_execs_nil ⟨σ', H', J'.ofTry ok, q⟩
    | brk =>
      obtain ⟨σ', H', J', q⟩ := q
      exact ⟨σ', H', J'.ofTry ok, q⟩
    | cont =>
      obtain ⟨σ', H', J', q⟩ := q
      exact ⟨σ', H', J'.ofTry ok, q⟩
    | ret u =>
      obtain ⟨v, σ', H', J', r, q⟩ := q
      exact ⟨v, σ', H', J'.ofTry ok, r, q⟩
end
/-- a frame's names are as many as they were -/
theorem takes_len {X : Cx} {W : WX} (t : Takes X W) : Takes X (fun cls d σ H => σ.length = X.N.length → W cls d σ H) := fun u s' ⟨a, B, sI, pins, σ, H, cls, d, e, I, nb, up, sky, na, os, ag, w⟩ =>
  t u s' ⟨a, B, sI, pins, σ, H, cls, d, e, I, nb, up, sky, na, os, ag, w I.len⟩
/-- a() tried, its error kept and told -/
def TTc (K : PySem.W.Frag) (CS : Addr) : (XK → Hp → VK → Prop) → Hp → VK → Prop := fun tl H Q =>
  tl (fun cls d H' => PySem.W.exmOne K cls (.ref CS) = some true ∧ d = none ∧ ∀ a, H' a = none → Q (.ref a) (upd H' a (ExV cls a))) H fun _ H' => ∃ v, (some (some V.non) : Option (Option V)) = some (some v) ∧ Q v H'
theorem caught_gives {X : Cx} {x a y n e q : Str} {sg : Scope} {g CS : Addr} {cdg : Value} {j : Nat} {p1 p2 p3 p4 p5 p6 p7 p8 p9 p10 p11 p12 p13 p14 : Pos} (nd : [a, y, n].Nodup) (hge : sg.names.lookup e = some .globalImplicit) (hme : X.mg e = some (.ref CS)) (hde : (e == ("__debug__" : Str)) = false) (hy : sg.names.lookup y = some .local) (hn : sg.names.lookup n = some .local)
    (by1 : dbgB y = true) (bn1 : dbgB n = true) :
    LamX.GivesTo X [a, y, n] x sg g cdg [.Assign [.Name y p1] (.Constant .none j p2) p3, .Try [.Expr (.Call (.Name a p4) [] [] p5) p6] [.ExceptHandler (some (.Name e p7)) (some n) [.Assign [.Name y p8] (.Name n p9) p10] p11] [] [] p12, .Return (some (.Name y p13)) p14] a q (TTc X.K CS) := by
  intro f c' s H Q tl act hc h
  have hgl : Gl (cxOf C8.CX0 X.prog X.w X.K X.mg X.base [a, y, n] x sg g cdg X.A X.stack s H C8.E0).nox e := hge
  have b1 := pe_var (X := (cxOf C8.CX0 X.prog X.w X.K X.mg X.base [a, y, n] x sg g cdg X.A X.stack s H C8.E0).nox) (pos := p13) (i := 1) (x := y) rfl (.inl hy) (dbg1 by1) (dbg2 by1)
  refine ⟨_, pss_cons (ps_set (i := 1) nd rfl (.inl hy) pe_non rfl (.inr hy)) (pss_cons (ps_got (c := .ref CS) (i := 2) (ts := fun _ => tAsg (tVar 2) (gName 1))
      (tb := fun W D (σ : L2.St) H => σ[0]? = some (some (V.ref f)) ∧ H c' = some (LamX.CodeO c' q) ∧ ∃ Ech : XK, (∀ cls d (σ' : L2.St) H', Ech cls d H' → σ'.length = 3 → W cls d σ' H') ∧ tl Ech H fun _ H' => D.nx σ H')
      rfl rfl rfl nd rfl hn ⟨hgl, hde, .inl hme⟩ (fun W pn xe tk _ => ?_) fun a' oe pn => ?_) (pss_one (ps_ret b1))), ?_⟩
  · refine ⟨fun pins s' σ H' D I ⟨h1, h2, Ech, hW, h3⟩ => ?_⟩
    have hp := act (fun cls d σ H => σ.length = 3 → W cls d σ H) pn xe Ech p4 p5 (takes_len tk) hW
    exact (pss_one (ps_expr hp)).run pins s' σ H' D I ⟨h1, h2, h3⟩
  · exact pss_one (ps_set (i := 1) nd rfl (.inl hy) (pe_var (i := 2) rfl (.inl hn) (dbg1 bn1) (dbg2 bn1)) rfl (.inr hy))
  · refine ⟨rfl, hc, fun cls d H' => PySem.W.exmOne X.K cls (.ref CS) = some true ∧ d = none ∧ ∀ a, H' a = none → Q (.ref a) (upd H' a (ExV cls a)), fun cls d σ' H' hE hl => ?_, h⟩
    · obtain ⟨k1, k2, k3⟩ := hE
      refine ⟨k1, k2, fun a' na => ?_⟩
      refine ⟨.ref a', by simp [hl], fun na' => ?_⟩
      exact ⟨.ref a', by simp [hl], k3 a' na'⟩
/-- isinstance(x, A): x None or an error kept -/
def rIsV (K : PySem.W.Frag) : List V → Hp → VK → Prop := fun xs H Q => ∃ (x : V) (A : Addr) (b : Bool), xs = [x, .ref A] ∧
  ((x = .non ∧ PySem.W.kitOne K (.type "NoneType") (.ref A) = some b) ∨ ∃ a D, x = .ref a ∧ H a = some (ExV (.ref D) a) ∧ ExcC K D ∧ PySem.W.kitOne K (.ref D) (.ref A) = some b) ∧ Q (.bl b) H
theorem call_isV {X : Cx} : CallR X (.builtin "isinstance") (rIsV X.K) := by
  intro pins s σ H xs us Q I r h
  obtain ⟨x, A, b, rfl, h, q⟩ := h
  obtain ⟨u1, u2, rfl, r1, r2⟩ := vals2 r
  cases (show u2 = Value.ref A from r2)
  rcases h with ⟨rfl, e⟩ | ⟨a, D, rfl, ea, F, e⟩
  · cases (show u1 = Value.none from r1)
    exact PySem.W.kia_one PySem.W.kitx_none I.kIn trivial e (fun z => nomatch z) fun tk => ⟨.bl b, H, I.tok tk, rfl, q⟩
  · cases (show u1 = Value.ref a from r1)
    obtain ⟨⟨oe, vs, ho, ⟨z1, z2⟩, hd⟩, _, _⟩ := I.hok a _ ea
    have J : PySem.W.InstAt s.heap a oe D none := by
      obtain ⟨oc, od, oda, osl⟩ := oe
      dsimp only at z1 z2 hd
      subst z1 z2 hd
      exact ⟨ho, rfl, rfl, trivial⟩
    exact PySem.W.kia_one (PySem.W.handS_kitx_exc F.hg F.hk F.hs F.hd F.ha F.hn F.ht F.hm) I.kIn J e (fun z => nomatch z) fun tk => ⟨.bl b, H, I.tok tk, rfl, q⟩
end Wb

end
section
/-! Wb: a lambda handed on; the tables of code objects only grow. -/
namespace Wb
open PySem PySem.Spec PyProof.Rows L2
section
variable {X : Cx} {pins : List (Addr × Obj)} {σ : L2.St} {H : Hp} {s : Shared} {T : List (Addr × Str)} {c P : Addr} {params : Arguments} {body : Expr} {scope : Scope} {pos : Pos}
abbrev lamQ (X : Cx) : Str := X.env.qual ++ "<lambda>"
/-- the def object of a lambda -/
abbrev lamO (X : Cx) (params : Arguments) (body : Expr) (scope : Scope) (pm : Value) (c' : Addr) (ctv : Value) : Obj := PySem.W.kla_obj "<lambda>" (lamQ X) params body scope (cloFrom X.env.cells scope.names []) pm c' ctv
/-- what is known of a lambda made at f -/
structure Made (X : Cx) (pins : List (Addr × Obj)) (σ : L2.St) (H : Hp) (T : List (Addr × Str)) (params : Arguments) (body : Expr) (scope : Scope) (f c' : Addr) (pm ctv : Value) (H1 : Hp) (s' : Shared) : Prop where
  inv : Inv X pins σ H1 s'
  kp : KpA H H1
  tabs : LamX.Tabs T H1
  at_ : s'.heap.get? f = some (lamO X params body scope pm c' ctv)
  new : H1 f = none
  nofr : f ∉ frs X.stack
  code : H1 c' = some (LamX.CodeO c' (lamQ X))
theorem kp_same {o : HO} {x : Option HO} (h : x = some o) : Kp o x := by rw [h]; exact .same o
theorem lam_made {E : Value → Shared → Prop} {Q : Value → Shared → Prop} (I : Inv X pins σ H s) (TB : LamX.TabB X.base X.mg c P) (hcode : X.env.code = .ref c) (hm : (P, lamQ X) ∈ T) (hu : ∀ p ∈ T, p.1 = P → p.2 = lamQ X) (hT : LamX.Tabs T H) (hdef : defaultsOf params X.env = ([], []))
    (hfree : ∀ y ∈ scope.names, y.2 = .free → ∃ c, X.env.cells.lookup y.1 = some c) (h : ∀ f c' pm ctv H1 s', Made X pins σ H T params body scope f c' pm ctv H1 s' → Q (.ref f) s') :
    wpAny (model X.prog X.w) X.A (eval (.Lambda params body scope pos) X.env) Q E s := by
  obtain ⟨ps, hP, ht, ha⟩ := hT _ hm
  have gP : s.heap.get? P = some { cls := .none, data := .fields ps } := I.hok P _ hP
  have far : ∀ {f}, s.heap.objs.size ≤ f → f ∉ frs X.stack := fun {f} hf z => (List.mem_cons.mp (I.stkSub _ z)).elim (fun e => by
    have h1 := I.lt
    rw [← e] at h1
    exact absurd h1 (Nat.not_lt.mpr hf)) (I.nofs hf)
  refine PySem.W.kla_eval hdef ?_
  cases hc : codeAmong pos ps.toList with
  | some cv =>
    obtain ⟨c', rfl, hco⟩ := ha pos cv hc
    exact PySem.W.kla_makeFunctionHit (mg := X.mg) (c := c) (P := P) (ps := ps) (closure_ok hfree) I.ok.glob (I.mod.glob.keeps I.bk) hcode (TB.code.keeps I.bk) gP ht hc (TB.bm.keeps I.bk) fun ctv h' tk hx hsz =>
      h _ c' _ ctv H _ ⟨I.kept fun b o e => Heap.get?_push_of_some _ (hx b o e), KpA.refl H, hT, Heap.get?_push_size _ rfl, I.hok.fresh hsz, far hsz, hco⟩
  | none =>
    refine PySem.W.kla_makeFunction (mg := X.mg) (c := c) (P := P) (ps := ps) (closure_ok hfree) I.ok.glob (I.mod.glob.keeps I.bk) hcode (TB.code.keeps I.bk) gP ht hc TB.gP (TB.bm.keeps I.bk) fun c' ctv h' tk hx hge hlt ⟨c2, oc, vs, t, e2, hoc, hd, hv⟩ htb => ?_
    cases e2
    have hsz : s.heap.objs.size ≤ h'.objs.size := by omega
    have nC : H c' = none := I.hok.fresh hge
    have hK : KpA H (upd (upd H P (.tbl (ps ++ #[rawInt pos.line, rawInt pos.col, .ref c']))) c' (LamX.CodeO c' (lamQ X))) := fun b o e => by
      rw [upd_ne (ne_of_none e nC)]
      by_cases hb : b = P
      · subst hb
        rw [hP] at e
        cases e
        rw [upd_same]
        exact .tbl ps _
      · rw [upd_ne hb]
        exact kp_same e
    have at1 : upd (upd H P (.tbl (ps ++ #[rawInt pos.line, rawInt pos.col, .ref c']))) c' (LamX.CodeO c' (lamQ X)) P = some (.tbl (ps ++ #[rawInt pos.line, rawInt pos.col, .ref c'])) := by rw [upd_ne (ne_of_none hP nC), upd_same]
    have cd : ∀ {c0 q}, H c0 = some (LamX.CodeO c0 q) → upd (upd H P (.tbl (ps ++ #[rawInt pos.line, rawInt pos.col, .ref c']))) c' (LamX.CodeO c' (lamQ X)) c0 = some (LamX.CodeO c0 q) := fun {c0 q} e => (hK _ _ e).ext
    refine h _ c' _ ctv _ _ ⟨LamX.inv_table (t' := tk) I hP (fun b o hb e => Heap.get?_push_of_some _ (hx b o hb e)) (Heap.get?_push_of_some _ htb) hge ⟨oc, vs, t, Heap.get?_push_of_some _ hoc, hd, hv⟩, hK, fun p hp => ?_, Heap.get?_push_size _ rfl, ?_, far hsz, upd_same⟩
    · by_cases hb : p.1 = P
      · have eL : (ps ++ #[rawInt pos.line, rawInt pos.col, .ref c']).toList = ps.toList ++ [rawInt pos.line, rawInt pos.col, .ref c'] := by simp
        rw [hu p hp hb, hb]
        refine ⟨_, at1, by rw [eL]; exact PySem.TriplesOk_snoc _ _ _ _ ht, fun p' cv hcv => ?_⟩
        rw [eL] at hcv
        rcases LamX.among_app _ ht hcv with z | z
        · obtain ⟨c0, e1, e2⟩ := ha p' cv z
          exact ⟨c0, e1, cd e2⟩
        · exact ⟨c', z, upd_same⟩
      · obtain ⟨ps', a1, a2, a3⟩ := hT p hp
        refine ⟨ps', by rw [upd_ne (ne_of_none a1 nC), upd_ne hb]; exact a1, a2, fun p' cv hcv => ?_⟩
        obtain ⟨c0, e1, e2⟩ := a3 p' cv hcv
        exact ⟨c0, e1, cd e2⟩
    · have n2 : h'.objs.size ≠ P := Nat.ne_of_gt (Nat.lt_of_lt_of_le (Heap.lt_size gP) hsz)
      rw [upd_ne (Nat.ne_of_gt hlt), upd_ne n2]
      exact I.hok.fresh hsz
end
/-- what is known of the def that tries what it gets -/
structure LamF (X : Cx) (T : List (Addr × Str)) (x : Str) (TT : (XK → Hp → VK → Prop) → Hp → VK → Prop) : Prop where
  ex : ∃ (g c P : Addr) (a : Str) (Ng : List Str) (pg : Arguments) (bg : List Stmt) (sg : Scope) (dV kV doc pm cdv ct oc : Value) (an od : Option Addr) (osl : Array (Option Value)),
    X.mg x = some (.ref g) ∧ PySem.W.keepIn X.K (.ref g) = true ∧ X.K.lookup g = some ⟨oc, od, .func (PySem.W.fnOf x x pg bg sg dV kV doc pm an cdv ct), osl⟩ ∧ PySem.W.codeIn X.K cdv x = true ∧ L2.Binds X.K (PySem.W.fnOf x x pg bg sg dV kV doc pm an cdv ct) [a] [] ∧
    FnScope Ng [a] sg ∧ Ng[0]? = some a ∧ Vis sg a ∧ dbgB a = true ∧ LamX.GivesTo X Ng x sg g cdv bg a (lamQ X) TT ∧ LamX.TabB X.base X.mg c P ∧ X.env.code = .ref c ∧ (P, lamQ X) ∈ T ∧ ∀ p ∈ T, p.1 = P → p.2 = lamQ X
def tLamK (T : List (Addr × Str)) (TT : (XK → Hp → VK → Prop) → Hp → VK → Prop) (t : XK → TE) : TE := fun σ H Q => LamX.Tabs T H ∧ ∀ H1, KpA H H1 → LamX.Tabs T H1 → TT (fun E H' Q' => t E σ H' Q') H1 Q
theorem pe_handed {X : Cx} {T : List (Addr × Str)} {TT : (XK → Hp → VK → Prop) → Hp → VK → Prop} {x : Str} {k : Nat} {params : Arguments} {body : Expr} {scope : Scope} {t : XK → TE} {p lpos pos : Pos} (F : LamF X T x TT) (hg : Gl X x) (hx : dbgB x = true) (hr : Room (k + 2) X.A) (L : LamX.LamS X.env.scope scope) (hdef : defaultsOf params X.env = ([], []))
    (hbind : ∀ (q : Str) (cl : List (Str × Addr)) (pm cv ctv : Value), bindArgs (PySem.W.kla_fn "<lambda>" q params body scope cl pm cv ctv) ⟨[], []⟩ = pure [])
    (hbody : ∀ (A : Around) (outer : List PySem.Env) (s : Shared) (H : Hp) (E : XK) (f c' : Addr), Room k (A.deeper (LamX.lamEnv X scope s.heap.objs.size f c')) → PE (LamX.lamCx X A outer s H E scope f c') body (t E)) :
    PE X (.Call (.Name x p) [.Lambda params body scope lpos] [] pos) (tLamK T TT t) := by
  obtain ⟨g, c, P, a, Ng, pg, bg, sg, dV, kV, doc, pm, cdv, ct, oc, an, od, osl, hm, hk, lk, hcg, hb, Sg, hNg, hva, da, hG, TB, hcode, hmT, hu⟩ := F.ex
  refine ⟨fun pins s σ H Q I ⟨hT, h⟩ => wpAny_Call_Name_kw (ld_glob I hg hm (PySem.W.callWith_K (h₀ := X.base) I.ok.mod.kin hk ?_ (by rfl) (by rfl)) (dbg1 hx))⟩
  show wpAny _ _ (spliced ((false, eval (.Lambda params body scope lpos) X.env) :: backTo pos (starEach [] X.env))) _ _ s
  refine Calls.spliced_cons (lam_made I TB hcode hmT hu hT hdef (L.has I.ok) fun f c' pm' ctv H1 s' M => ?_)
  refine Calls.spliced_nil ⟨M.inv.kIn, wpAny_call (codeAny_mono (LamX.run_ofS (CX := C8.CX0) (E := C8.E0) (Q := Q) (outer := X.stack) (H := H1) (N := Ng) (ps := [a]) (us := [.ref f]) (vs := [.ref f]) lk hcg Sg hr M.inv.env0 (hb s' [.ref f] M.inv.kIn rfl) (.cons rfl .nil) rfl fun hr' => ?_) fun r s2 hq => ?_)⟩
  · obtain ⟨t', ht', hq'⟩ := hG f c' s' H1 Q (fun E H' Q' => t E σ H' Q') (fun W pn xe E p1 p2 tk hW => LamX.pe_act (i := 0) M.inv L M.at_ M.new M.nofr (hbind _ _ _ _ _) tk hW hr' (fun A outer s H hr2 => hbody A outer s H E f c' hr2) hNg hva (dbg1 da) (dbg2 da)) M.code (h H1 M.kp M.tabs)
    exact ⟨t', ht'.nox, hq'⟩
  · cases r with
    | error e => exact (show False from hq).elim
    | ok fl =>
      cases fl with
      | ret u => exact M.inv.after hq
      | next => exact hq.elim
      | brk => exact hq.elim
      | cont => exact hq.elim
end Wb

end
section
/-! Wb: the context; isinstance, calls. -/
namespace Wb
open PySem PySem.Spec PyProof.Rows L2

structure FnI where
  name : Str
  ps : List Str
  ret : Ow := .sh
  ar : List Nat
  kws : List (Nat × List Str × List Nat) := []
structure Tab where
  gi : List (Str × Int)
  fns : List FnI
  abs : List Str
  exs : List Str
  leaf : List Str := []
structure Nfo where
  N : List Str
  sc : Scope
  fn : Str → Bool
  tab : Tab
  lv : Nat
  lam : Bool
/-- the room of a body: its callees stand three levels apart, for a lambda between -/
def Nfo.rm (I : Nfo) : Nat := 3 * I.lv + cond I.lam 2 0
theorem Nfo.rm_le {I : Nfo} {i : Nat} (h : i < I.lv) : 3 * i + 3 ≤ I.rm := by unfold Nfo.rm; cases I.lam <;> simp <;> omega
/-- a def's promise, by trees -/
def spOf (C : Cn) (T : List (Addr × Str)) (τ : Ow) (φ : List D → M D) (n : Nat) : Sp := fun vs H Q E => vs.length = n ∧ ∃ (O : Addr → Prop) (ds : List D) (Qd : D → Prop) (Ed : Exn → Prop),
  (∀ a, O a → ∃ o, H a = some o ∧ ownable o) ∧ LamX.Tabs T H ∧ RepSs C H O vs ds ∧ φ ds Qd Ed ∧
  (∀ ex cls dx H', Ed ex → KpA H H' → LamX.Tabs T H' → ExR C H' ex cls dx → E cls dx H') ∧
  ∀ d v H' F, Qd d → KpA H H' → LamX.Tabs T H' → RepT C H' (plus O F) τ v d F → F.Nodup → (∀ a ∈ F, H a = none ∧ ∃ o, H' a = some o ∧ ownable o) → Q v H'
structure FnFact (X : Cx) (C : Cn) (T : List (Addr × Str)) (Φ : Fen) (i : Nat) (fi : FnI) (a : Addr) (fd : FuncData) : Prop where
  mg : X.mg fi.name = some (.ref a)
  keep : PySem.W.keepIn X.K (.ref a) = true
  ok : FnOk X.prog X.w X.K X.mg X.base (L2.CX X.prog X.w) (3 * i + 3) a fd fi.ps (spOf C T fi.ret (Φ i) fi.ps.length)
  ar : ∀ k ∈ fi.ar, ∃ (dvs : List V) (ds : List Value) (dd : List D), k + dvs.length = fi.ps.length ∧ Binds X.K fd fi.ps ds ∧ Vals dvs ds ∧ (∀ H O, RepSs C H O dvs dd) ∧ ∀ xs Q E, xs.length = k → Φ i xs Q E → Φ i (xs ++ dd) Q E
  kws : ∀ q ∈ fi.kws, q.2.2.length = fi.ps.length ∧ (∀ j ∈ q.2.2, j < q.1 + q.2.1.length) ∧ KBn X.K fd fi.ps q.1 q.2.1 (fun us ws => pmL q.2.2 (us ++ ws)) (fun us ws => pmL q.2.2 (us ++ ws))
structure Gd (X : Cx) (C : Cn) (T : List (Addr × Str)) (E : XK) (Φ : Fen) (I : Nfo) : Prop where
  hK : C.K = X.K
  hC : C.mg = X.mg
  calm : X.calm = true
  nd : X.N.Nodup
  hN : X.N = I.N
  sc : X.env.scope = I.sc
  fun_ : I.sc.kind = .function
  fn : X.fn = I.fn
  own : PassesOwn (model X.prog X.w) X.A X.env X.xe
  room : Room I.rm X.A
  tk : Takes X (fun cls d _ H => E cls d H)
  gi : ∀ x n, I.tab.gi.lookup x = some n → ∃ t, X.mg x = some (.int n t)
  abs : ∀ x ∈ I.tab.abs, X.mg x = none
  exs : ∀ x ∈ I.tab.exs, ∃ (A : Addr) (bmB : List Value) (B newId initId : String), ExcBaseFacts B newId initId bmB ∧ PySem.W.excIn X.K A bmB newId = true ∧ X.mg x = some (.ref A) ∧ PySem.W.keepIn X.K (.ref A) = true ∧ Raises X (.ref A)
  fns : ∀ i fi, I.tab.fns[i]? = some fi → i < I.lv → ∃ a fd, FnFact X C T Φ i fi a fd
  lam : I.lam = true → ∃ CS, LamF X T "_law_caught" (TTc X.K CS) ∧ ∀ x ∈ I.tab.leaf, ∃ D, X.mg x = some (.ref D) ∧ PySem.W.exmOne X.K (.ref D) (.ref CS) = some true ∧ ExcC X.K D ∧ PySem.W.kitOne X.K (.type "NoneType") (.ref D) = some false ∧ ∀ z ∈ I.tab.leaf, ∃ A, X.mg z = some (.ref A) ∧ PySem.W.kitOne X.K (.ref D) (.ref A) = some (decide (x = z))
def locB (sc : Scope) (x : Str) : Bool := match sc.names.lookup x with
  | some .local | some .cell => true
  | _ => false
def visB (sc : Scope) (x : Str) : Bool := match sc.names.lookup x with
  | some .local | some .cell | some .free => true
  | _ => false
def glB (sc : Scope) (x : Str) : Bool := match sc.names.lookup x with
  | some .globalImplicit => true
  | _ => false
def stB (I : Nfo) (x : Str) : Bool := match I.sc.names.lookup x with
  | some .local => true
  | some .cell => I.fn x
  | _ => false
section
variable {X : Cx} {C : Cn} {T : List (Addr × Str)} {E : XK} {Φ : Fen} {I : Nfo}
theorem Gd.units (G : Gd X C T E Φ I) : X.A.units + 1 < cLine := by have := G.room.un; omega
theorem Gd.vis (G : Gd X C T E Φ I) {x : Str} (h : visB I.sc x = true) : Vis X.env.scope x := by
  rw [G.sc]
  unfold visB at h
  unfold Vis
  revert h
  cases I.sc.names.lookup x with
  | none => exact fun h => nomatch h
  | some k => cases k <;> simp
theorem Gd.gl (G : Gd X C T E Φ I) {x : Str} (h : glB I.sc x = true) : Gl X x := by
  show X.env.scope.names.lookup x = some .globalImplicit
  rw [G.sc]
  unfold glB at h
  revert h
  cases I.sc.names.lookup x with
  | none => exact fun h => nomatch h
  | some k => cases k <;> simp
theorem Gd.st (G : Gd X C T E Φ I) {x : Str} (h : stB I x = true) : L2.Loc X.env.scope x ∧ (X.fn x = true ∨ X.env.scope.names.lookup x = some .local) := by
  rw [G.sc, G.fn]
  unfold stB at h
  unfold L2.Loc
  revert h
  cases I.sc.names.lookup x with
  | none => exact fun h => nomatch h
  | some k => cases k <;> simp
end
/-- no star -/
def nstB : Expr → Bool
  | .Starred _ _ => false
  | _ => true
theorem starEach_cons {e : Expr} {es : List Expr} {env : PySem.Env} (h : nstB e = true) : starEach (e :: es) env = (false, eval e env) :: starEach es env := by
  cases e <;> first | (cases h; done) | rfl
theorem assignEach_cons {e : Expr} {es : List Expr} {env : PySem.Env} (h : nstB e = true) : assignEach (e :: es) env = (false, assign e env) :: assignEach es env := by
  cases e <;> first | (cases h; done) | rfl
theorem star_plain {es : List Expr} {pos : Pos} {env : PySem.Env} (h : es.all nstB = true) : (backTo pos (starEach es env)).any (·.1) = false := by
  induction es with
  | nil => rfl
  | cons e es ih =>
    rw [List.all_cons, Bool.and_eq_true] at h
    rw [starEach_cons h.1]
    show (false || (backTo pos (starEach es env)).any (·.1)) = false
    rw [ih h.2]
    rfl
/-- not a comprehension: a store of it is plain -/
def ncpB : Expr → Bool
  | .ListComp .. | .SetComp .. | .DictComp .. => false
  | _ => true
theorem swaps_no {e : Expr} {t : Option Expr} {l : Nat} {env : PySem.Env} (h : ncpB e = true) : swapsWith e t l env = pure false := by
  cases e <;> first | (cases h; done) | rfl
theorem swapsS_no {e : Expr} {t : List Expr} {l : Nat} {env : PySem.Env} (h : ncpB e = true) : swapsWithSole t e l env = pure false := by
  unfold swapsWithSole
  split
  · exact swaps_no h
  · rfl
/-- a plain index -/
def pixB : Expr → Bool
  | .Slice .. => false
  | _ => true
theorem plain_ix {b : Expr} (h : pixB b = true) : PlainIx b := by
  intro o i
  cases b <;> first | (cases h; done) | rfl
/-- not a set display: a loop's or a test's own treatment of it -/
def nsetB : Expr → Bool
  | .Set .. => false
  | _ => true
theorem behind_no {op : CmpOp} {b : Expr} (h : nsetB b = true) : behindInMarks op b = false := by
  cases b <;> first | (cases h; done) | rfl

/-! ### types -/
def dty : D → Option String
  | .non => some "NoneType"
  | .bl _ => some "bool"
  | .int _ => some "int"
  | .str _ => some "str"
  | .lst _ => some "list"
  | .tup _ => some "tuple"
  | .dct _ _ => some "dict"
  | _ => none
def tyN : Ty → String
  | .int => "int"
  | .bool => "bool"
  | .str => "str"
  | .list => "list"
  | .tuple => "tuple"
  | .dict => "dict"
def tyS : Ty → Str
  | .int => "int"
  | .bool => "bool"
  | .str => "str"
  | .list => "list"
  | .tuple => "tuple"
  | .dict => "dict"
theorem tyS_boot (t : Ty) : bootBuiltins (tyS t) = some (.type (tyN t)) := by cases t <;> rfl
section
variable {C : Cn} {H : Hp} {O : Addr → Prop}
/-- as isinstance asks -/
def TyD (K : PySem.W.Frag) (H : Hp) (v : V) (t : Value) : Prop := TyX K H v t ∨ (t = .type "dict" ∧ ∃ a o kvs, v = .ref a ∧ H a = some (.frz o (.dT kvs)))
theorem RepS.tyx {v : V} {d : D} {n : String} (h : RepS C H O v d) (e : dty d = some n) : TyD C.K H v (.type n) := by
  cases h with
  | non => cases e; exact .inl (.base .non)
  | bl b => cases e; exact .inl (.base (.bl b))
  | int b => cases e; exact .inl (.base (.int b))
  | str b => cases e; exact .inl (.base (.str b))
  | lst n r => cases e; exact .inl (r.elim (fun r => .base (.lst r)) fun ⟨_, r⟩ => .base (.frz r))
  | tup n r => cases e; exact .inl (.base (.tup r))
  | dk n r => cases e; exact .inl (r.elim (fun r => .base (.dK r)) fun ⟨_, r⟩ => .fDict r)
  | dt n r => cases e; exact r.elim (fun r => .inl (.base (.dT r))) fun ⟨_, r⟩ => .inr ⟨rfl, _, _, _, rfl, r⟩
  | tok => cases e
  | scr => cases e
  | scrK => cases e
  | fn => cases e
theorem RepT.tyx : ∀ {t : Ow} {v : V} {d : D} {F : List Addr} {n : String}, RepT C H O t v d F → dty d = some n → TyD C.K H v (.type n)
  | .sh, _, _, _, _, h, e => h.2.tyx e
  | .li t, _, _, _, _, h, e => by obtain ⟨_, _, _, _, e1, e2, r, _⟩ := h; subst e1 e2; cases e; exact .inl (.base (.lst r))
  | .dk, _, _, _, _, h, e => by obtain ⟨_, _, _, e1, e2, r, _⟩ := h; subst e1 e2; cases e; exact .inl (.base (.dK r))
  | .dt, _, _, _, _, h, e => by obtain ⟨_, _, _, e1, e2, r, _⟩ := h; subst e1 e2; cases e; exact .inl (.base (.dT r))
  | .bo t, _, _, _, _, h, e => by obtain ⟨_, _, h⟩ := h; exact h.tyx e
theorem RepR.tyx {τ : Ow} {v : V} {d : D} {n : String} (h : RepR C H O τ v d) (e : dty d = some n) : TyD C.K H v (.type n) := by obtain ⟨_, _, h⟩ := h.T; exact h.tyx e
end
def rIsiD (K : PySem.W.Frag) : List V → Hp → VK → Prop := fun xs H Q => ∃ (x c : V) (t u : Value) (b : Bool), xs = [x, c] ∧ ClsV c u ∧ TyD K H x t ∧ PySem.W.kitOne K t u = some b ∧ Q (.bl b) H
theorem call_isiD {X : Cx} : CallR X (.builtin "isinstance") (rIsiD X.K) := by
  intro pins s σ H xs us Q I r h
  obtain ⟨x, c, t, u, b, rfl, k, ty, e, q⟩ := h
  rcases ty with ty | ⟨rfl, a, ob, kvs, rfl, ea⟩
  · exact call_isi pins s σ H _ us Q I r ⟨x, c, t, u, b, rfl, k, ty, e, q⟩
  · obtain ⟨u1, u2, rfl, r1, r2⟩ := vals2 r
    have e2 := k.eq r2
    subst e2
    cases (show u1 = Value.ref a from r1)
    obtain ⟨_, _, _, xs, _, o, es, ep, h1, h2, _⟩ := (show ObjOk X.prog X.w H s.heap a (.frz ob (.dT kvs)) from I.hok a _ ea)
    exact PySem.W.kia_one PySem.W.kitx_dict I.kIn ⟨o, h1, h2.1⟩ e (fun z => nomatch z) fun tk => ⟨.bl b, H, I.tok tk, rfl, q⟩
theorem kit_all : ∀ (t : Ty) (d : D) (n : String), dty d = some n → ∃ b, kitB n (tyN t) = some b ∧ isinD t d = .ret b := by
  intro t d n e
  cases d <;> first | (cases e; done) | (cases e; cases t <;> exact ⟨_, by decide +kernel, rfl⟩)
theorem isin_dty {t : Ty} {d : D} {Q : Bool → Prop} {Ed : Exn → Prop} (h : isinD t d Q Ed) : ∃ n, dty d = some n := by
  cases d <;> first | exact ⟨_, rfl⟩ | (cases t <;> exact (h : False).elim)
section
variable {C : Cn} {T : List (Addr × Str)} {E : XK} {X : Cx} {Φ : Fen} {I : Nfo} {Γ Γ1 Γ2 Γ3 : List Ow} {τ τ1 τ2 τ3 : Ow} {m m1 m2 m3 : Env → M D} {pos p p2 : Pos}
theorem pa_gty {x : Str} {n : String} (hg : Gl X x) (hm : X.mg x = none) (hv : bootBuiltins x = some (.type n)) (hn : x ≠ "__name__") (hd : (x == ("__debug__" : Str)) = false) : PE X (.Name x p) (tC (.ty n)) := by
  refine ⟨fun pins s σ H Q I h => ?_⟩
  exact ld_blt I hg hm hv ⟨.ty n, H, I, rfl, h⟩ hn hd
theorem ve_isin {t : Ty} {e : Expr} (hK : C.K = X.K) (hg : Gl X "isinstance") (hm : X.mg "isinstance" = none) (he : PE X e (tV C T E Γ Γ1 τ1 m1)) (hs : nstB e = true) (hgt : Gl X (tyS t)) (hmt : X.mg (tyS t) = none) :
    PE X (.Call (.Name "isinstance" p) [e, .Name (tyS t) p2] [] pos) (tV C T E Γ Γ1 .sh (fun ρ => .bind (m1 ρ) fun x => .bind (isinD t x) fun b => .ret (.bl b))) := by
  have ht : PE X (.Name (tyS t) p2) (tC (.ty (tyN t))) := pa_gty hgt hmt (tyS_boot t) (by cases t <;> decide) (by cases t <;> decide)
  refine (pe_callB call_isiD hg hm rfl (pa_cons he (pa_cons ht pa_nil (starEach_cons rfl)) (starEach_cons hs)) (by decide) (by decide) (starEach_cons hs) rfl).imp fun σ H Q ⟨O, Fs, ρ, Qd, Ed, r0, hm, x, k⟩ => ?_
  refine ⟨O, Fs, ρ, _, Ed, r0, hm, x, fun d v H1 Fs1 hd t1 r1 q => ?_⟩
  obtain ⟨n, hn⟩ := isin_dty hd
  obtain ⟨b, hb, hi⟩ := kit_all t d n hn
  have hd' : (isinD t d).bind (fun b => .ret (.bl b)) Qd Ed := hd
  rw [hi] at hd'
  rw [← hK]
  exact ⟨v, _, _, _, b, rfl, .ty _, q.tyx hn, kit_ty hb, k _ _ H1 Fs1 hd' t1 r1 (RepS.bl b)⟩
end
end Wb

end
section
/-! Wb: calls of the text's own functions. -/
namespace Wb
open PySem PySem.Spec PyProof.Rows L2
section
variable {C : Cn} {T : List (Addr × Str)} {E : XK} {X : Cx} {Φ : Fen} {I : Nfo} {Γ Γ1 Γ2 Γ3 : List Ow} {τ τ1 τ2 τ3 : Ow} {m m1 m2 m3 : Env → M D} {pos p p2 : Pos}
theorem xp_kp {H H' H'' : Hp} {Fs : Nat → List Addr} {Ed : Exn → Prop} (x : Xp C T E H Fs Ed) (k : KpA H H') : ∀ ex cls dx H', Ed ex → KpA H H' → LamX.Tabs T H' → ExR C H' ex cls dx → E cls dx H' := fun ex cls dx H' h k tb r =>
  x ex cls dx H' h (fun a o e _ => k a o e) tb r
/-- behind the arguments: the callee's promise is met -/
theorem sp_meet {Φi : List D → M D} {O : Addr → Prop} {Fs : Nat → List Addr} {σ : L2.St} {H : Hp} {ρ : Env} {Qd : D → Prop} {Ed : Exn → Prop} {Q : VK} {vs : List V} {ds : List D} {n : Nat}
    (r : Rl C T O Γ Fs σ H ρ) (q : RepSs C H (Oall O Fs) vs ds) (hl : vs.length = n) (h : Φi ds Qd Ed) (x : Xp C T E H Fs Ed)
    (k : ∀ d v H' Fs' F, Qd d → TrE H Fs H' Fs' F → Rl C T (plus O F) Γ Fs' σ H' ρ → RepT C H' (Oall (plus O F) Fs') τ v d F → F.Nodup → (∀ a ∈ F, ¬ O a) → Q v H') : spOf C T τ Φi n vs H Q E := by
  refine ⟨hl, Oall O Fs, ds, Qd, Ed, r.ok, r.tabs, q, h, xp_kp (H'' := H) x (KpA.refl H), fun d v H' F hd kp tb q' nd hF => ?_⟩
  have nO : ∀ a ∈ F, ¬ Oall O Fs a := fun a ha z => by
    obtain ⟨o, e, _⟩ := r.ok a z
    rw [(hF a ha).1] at e; cases e
  have e : Oall (plus O F) Fs = plus (Oall O Fs) F := funext fun a => propext ⟨fun h => h.elim (fun h => h.elim (fun h => .inl (.inl h)) .inr) (fun h => .inl (.inr h)), fun h => h.elim (fun h => h.elim (fun h => .inl (.inl h)) .inr) (fun h => .inl (.inr h))⟩
  refine k d v H' Fs F hd ⟨kp, fun a z => z.elim .inl fun z => .inr (hF a z).1⟩ ?_ (by rw [e]; exact q') nd fun a ha z => nO a ha (.inl z)
  have r3 := r.grow kp tb
  refine r3.more (fun a ha => (hF a ha).2) (fun a ha z => nO a ha (.inr z)) fun i d e v τ e1 e2 z => ?_
  obtain ⟨v', τ', g1, g2, g3⟩ := r.slot i d e
  rw [e1] at g1; cases g1
  rw [e2] at g2; cases g2
  exact g3.mono kp fun a o ha z => by
    rcases z with (z | z) | z
    · exact .inl z
    · rw [(hF a z).1] at ha; cases ha
    · exact .inr z
theorem Gd.pass (G : Gd X C T E Φ I) : Passes (L2.CX X.prog X.w) X E := passes_call G.tk fun _ _ _ _ h => h
theorem tE_tr {H H1 : Hp} {Fs Fs1 : Nat → List Addr} {O : Addr → Prop} {Γ1 : List Ow} {σ : L2.St} {ρ : Env} {Qd : D → Prop} {Q : VK} (t1 : TrE H Fs H1 Fs1 [])
    (k : ∀ d v H' Fs' F, Qd d → TrE H Fs H' Fs' F → Rl C T (plus O F) Γ1 Fs' σ H' ρ → RepT C H' (Oall (plus O F) Fs') τ v d F → F.Nodup → (∀ a ∈ F, ¬ O a) → Q v H') :
    ∀ d v H' Fs' F, Qd d → TrE H1 Fs1 H' Fs' F → Rl C T (plus O F) Γ1 Fs' σ H' ρ → RepT C H' (Oall (plus O F) Fs') τ v d F → F.Nodup → (∀ a ∈ F, ¬ O a) → Q v H' :=
  fun d v H' Fs' F hd t r q nd n => k d v H' Fs' F hd (t1.trans t) r q nd n
theorem all_len {es : List Expr} : True := trivial
/-- f(e, ..) with k arguments; ms tells how many they are -/
theorem ve_call {i : Nat} {fi : FnI} {e : Expr} {es : List Expr} {ms : Env → M (List D)} (G : Gd X C T E Φ I) (hf : I.tab.fns[i]? = some fi) (hi : i < I.lv) (hg : glB I.sc fi.name = true) (hd : dbgB fi.name = true) (hs : (e :: es).all nstB = true) (har : (e :: es).length ∈ fi.ar)
    (ha : PA X (e :: es) (tA C T E Γ Γ1 ms)) (hlen : ∀ ρ Q Ed, ms ρ Q Ed → ms ρ (fun xs => xs.length = (e :: es).length ∧ Q xs) Ed) :
    PE X (.Call (.Name fi.name p) (e :: es) [] pos) (tO C T E Γ Γ1 fi.ret (fun ρ => .bind (ms ρ) fun xs => Φ i xs)) := by
  obtain ⟨a, fd, F⟩ := G.fns i fi hf hi
  obtain ⟨dvs, ds, dd, hn, hb, hdv, hrd, hΦ⟩ := F.ar _ har
  have hr : Room (3 * i + 3) X.A := G.room.mono (Nfo.rm_le hi)
  rw [List.all_cons, Bool.and_eq_true] at hs
  refine (pe_call F.ok hr (G.gl hg) F.mg F.keep hb hdv G.pass ha (dbg1 hd) (starEach_cons hs.1) (star_plain hs.2)).imp fun σ H Q ⟨O, Fs, ρ, Qd, Ed, r0, hm, x, k⟩ => ?_
  refine ⟨O, Fs, ρ, _, Ed, r0, hlen ρ _ _ hm, x, fun xs vs H1 Fs1 hx t1 r1 q => ?_⟩
  have q2 : RepSs C H1 (Oall O Fs1) (vs ++ dvs) (xs ++ dd) := q.append (hrd _ _)
  have hl : (vs ++ dvs).length = fi.ps.length := by
    rw [List.length_append, q.length, hx.1]
    exact hn
  exact sp_meet r1 q2 hl (hΦ xs Qd Ed hx.1 hx.2) (x.tr t1.toS) (tE_tr t1 k)
/-- f() -/
theorem ve_call0 {i : Nat} {fi : FnI} (G : Gd X C T E Φ I) (hf : I.tab.fns[i]? = some fi) (hi : i < I.lv) (hg : glB I.sc fi.name = true) (hd : dbgB fi.name = true) (har : 0 ∈ fi.ar) :
    PE X (.Call (.Name fi.name p) [] [] pos) (tO C T E Γ Γ fi.ret (fun ρ => .bind (.ret []) fun xs => Φ i xs)) := by
  obtain ⟨a, fd, F⟩ := G.fns i fi hf hi
  obtain ⟨dvs, ds, dd, hn, hb, hdv, hrd, hΦ⟩ := F.ar _ har
  have hr : Room (3 * i + 3) X.A := G.room.mono (Nfo.rm_le hi)
  refine (pe_call0 F.ok hr (G.gl hg) F.mg F.keep hb hdv G.pass (dbg1 hd)).imp fun σ H Q ⟨O, Fs, ρ, Qd, Ed, r0, hm, x, k⟩ => ?_
  have q2 : RepSs C H (Oall O Fs) dvs dd := hrd _ _
  have hl : dvs.length = fi.ps.length := by omega
  exact sp_meet r0 q2 hl (hΦ [] Qd Ed rfl hm) x k
/-! ### keywords -/
theorem pk_imp {kws : List Keyword} {t t' : TA} (h : PK X kws t) (k : ∀ σ H Q, t' σ H Q → t σ H Q) : PK X kws t' := ⟨fun pos pins s σ H Q I q => h.run pos pins s σ H Q I (k σ H Q q)⟩
theorem vk_nil : PK X [] (tA C T E Γ Γ (fun _ => .ret [])) := pk_imp pk_nil fun σ H Q ⟨O, Fs, ρ, Qd, Ed, r, hm, x, k⟩ => k [] [] H Fs hm (TrE.refl H Fs) r .nil
theorem vk_cons {nm : Option Str} {kp : Pos} {e : Expr} {es : List Keyword} {ms : Env → M (List D)} (ha : PE X e (tV C T E Γ Γ1 .sh m1)) (hr : PK X es (tA C T E Γ1 Γ2 ms)) :
    PK X (⟨nm, e, kp⟩ :: es) (tA C T E Γ Γ2 (fun ρ => .bind (m1 ρ) fun x => .bind (ms ρ) fun xs => .ret (x :: xs))) := by
  refine pk_imp (pk_cons ha hr) fun σ H Q ⟨O, Fs, ρ, Qd, Ed, r0, hm, x, k⟩ => ?_
  refine ⟨O, Fs, ρ, _, Ed, r0, hm, x, fun d v H1 Fs1 hd t1 r1 q => ?_⟩
  refine ⟨O, Fs1, ρ, _, Ed, r1, hd, x.tr t1.toS, fun ds vs H2 Fs2 h2 t2 r2 q2 => k _ _ H2 Fs2 h2 (t1.trans t2) r2 (.cons ?_ q2)⟩
  exact RepS.mono (t2.kp.sv (own_mv t2)) _ _ q
theorem pe_callK0 {CX : CXT} {k : Nat} {f : Addr} {fd : FuncData} {ps ks : List Str} {sp : Sp} {x : Str} {kws : List Keyword} {tk : TA} {g : List Value → List Value → List Value} {gV : List V → List V → List V}
    (F : FnOk X.prog X.w X.K X.mg X.base CX k f fd ps sp) (hr : Room k X.A) (hg : Gl X x) (hm : X.mg x = some (.ref f)) (hk : PySem.W.keepIn X.K (.ref f) = true) (hb : KBn X.K fd ps 0 ks g gV) (hx : Passes CX X E)
    (hkw : PK X kws tk) (hall : (backToKw pos (keywordEach kws X.env)).all (·.1.isSome) = true) (hks : (backToKw pos (keywordEach kws X.env)).filterMap (·.1) = ks)
    (hdb : (x == ("__debug__" : Str)) = false) (hpl : ((backTo pos (starEach ([] : List Expr) X.env)).any (·.1) || (backToKw pos (keywordEach kws X.env)).any (·.1.isNone)) = false) :
    PE X (.Call (.Name x p) [] kws pos) (tCallN 0 ks.length sp gV E tNil tk) := by
  refine ⟨fun pins s σ H Q I h => ?_⟩
  refine wpAny_Call_Name_kw (ld_glob I hg hm ?_ hdb)
  refine PySem.W.callWith_KW0 (h₀ := X.base) I.ok.mod.kin hk hall ?_ hpl
  refine thn (hkw.run pos pins s σ H _ I h) fun ws s2 ⟨zs, H2, I2, rz, l1, l2, q2⟩ => ⟨I2.kIn, ?_⟩
  rw [hks]
  exact run_fnN F hr hb hx I2 .nil rz l1 l2 q2
theorem RepSs.pm {H : Hp} {O : Addr → Prop} {vs : List V} {ds : List D} (q : RepSs C H O vs ds) : ∀ pm : List Nat, RepSs C H O (pmL pm vs) (pmL pm ds)
  | [] => .nil
  | j :: r => by
    have ih := RepSs.pm q r
    unfold pmL at ih ⊢
    cases e : vs[j]? with
    | none =>
      have e2 : ds[j]? = none := by
        rw [List.getElem?_eq_none_iff] at e ⊢
        rw [← q.length]; exact e
      rw [List.filterMap_cons_none (by exact e), List.filterMap_cons_none (by exact e2)]
      exact ih
    | some v =>
      obtain ⟨d, e2, rd⟩ := q.getV e
      rw [List.filterMap_cons_some (by exact e), List.filterMap_cons_some (by exact e2)]
      exact .cons rd ih
theorem pm_len {α : Type} {us : List α} : ∀ {pm : List Nat}, (∀ j ∈ pm, j < us.length) → (pmL pm us).length = pm.length
  | [], _ => rfl
  | j :: r, h => by
    have ih := pm_len (us := us) (pm := r) fun k hk => h k (List.mem_cons_of_mem _ hk)
    have hj := h j List.mem_cons_self
    unfold pmL at ih ⊢
    rw [List.filterMap_cons_some (b := us[j]) (by simp [hj]), List.length_cons, List.length_cons, ih]
/-- the keywords' names, all there -/
def kwN : List Keyword → List Str → Bool
  | [], [] => true
  | ⟨some n, _, _⟩ :: r, m :: ms => decide (n = m) && kwN r ms
  | _, _ => false
theorem kwN_all : ∀ {kws : List Keyword} {ks : List Str}, kwN kws ks = true → kws.length = ks.length ∧ ((backToKw pos (keywordEach kws X.env)).all (·.1.isSome) = true ∧ (backToKw pos (keywordEach kws X.env)).filterMap (·.1) = ks ∧ (backToKw pos (keywordEach kws X.env)).any (·.1.isNone) = false)
  | [], [], _ => ⟨rfl, rfl, rfl, rfl⟩
  | [], _ :: _, h => by cases h
  | ⟨none, _, _⟩ :: _, _, h => by unfold kwN at h; cases h
  | ⟨some n, _, _⟩ :: _, [], h => by cases h
  | ⟨some n, v, q⟩ :: r, m :: ms, h => by
    unfold kwN at h
    rw [Bool.and_eq_true, decide_eq_true_eq] at h
    obtain ⟨e, h2⟩ := h
    obtain ⟨i1, i2, i3, i4⟩ := kwN_all (kws := r) h2
    subst e
    refine ⟨by simp [i1], ?_, ?_, ?_⟩
    · show (true && (backToKw pos (keywordEach r X.env)).all (·.1.isSome)) = true
      rw [i2]; rfl
    · show n :: (backToKw pos (keywordEach r X.env)).filterMap (·.1) = n :: ms
      rw [i3]
    · show (false || (backToKw pos (keywordEach r X.env)).any (·.1.isNone)) = false
      rw [i4]; rfl
theorem callK_meet {i : Nat} {fi : FnI} {a : Addr} {fd : FuncData} {n : Nat} {ks : List Str} {pm : List Nat} {ms ms2 : Env → M (List D)} (F : FnFact X C T Φ i fi a fd) (hq : (n, ks, pm) ∈ fi.kws)
    (h1 : ∀ ρ Q Ed, ms ρ Q Ed → ms ρ (fun xs => xs.length = n ∧ Q xs) Ed) (h2 : ∀ ρ Q Ed, ms2 ρ Q Ed → ms2 ρ (fun xs => xs.length = ks.length ∧ Q xs) Ed) :
    ∀ σ H Q, tO C T E Γ Γ2 fi.ret (fun ρ => .bind (ms ρ) fun xs => .bind (ms2 ρ) fun ys => Φ i (pmL pm (xs ++ ys))) σ H Q → tCallN n ks.length (spOf C T fi.ret (Φ i) fi.ps.length) (fun us ws => pmL pm (us ++ ws)) E (tA C T E Γ Γ1 ms) (tA C T E Γ1 Γ2 ms2) σ H Q := fun σ H Q ⟨O, Fs, ρ, Qd, Ed, r0, hm, x, k⟩ => by
  obtain ⟨l1, l2, kb⟩ := F.kws _ hq
  refine ⟨O, Fs, ρ, _, Ed, r0, h1 ρ _ _ hm, x, fun xs vs H1 Fs1 hx t1 r1 q => ?_⟩
  refine ⟨O, Fs1, ρ, _, Ed, r1, h2 ρ _ _ hx.2, x.tr t1.toS, fun ys ws H2 Fs2 hy t2 r2 q2 => ?_⟩
  have q1 := RepSs.mono (t2.kp.sv (own_mv t2)) _ _ q
  have qq := (q1.append q2).pm pm
  have hl : (pmL pm (vs ++ ws)).length = fi.ps.length := by
    rw [qq.length, ← l1]
    refine pm_len fun j hj => ?_
    rw [List.length_append, hx.1, hy.1]
    exact l2 j hj
  refine ⟨q.length.trans hx.1, q2.length.trans hy.1, ?_⟩
  exact sp_meet r2 qq hl hy.2 ((x.tr t1.toS).tr t2.toS) (tE_tr (t1.trans t2) k)
theorem ve_callK {i : Nat} {fi : FnI} {es : List Expr} {kws : List Keyword} {ks : List Str} {pm : List Nat} {ms ms2 : Env → M (List D)} (G : Gd X C T E Φ I) (hf : I.tab.fns[i]? = some fi) (hi : i < I.lv) (hg : glB I.sc fi.name = true) (hd : dbgB fi.name = true) (hs : es.all nstB = true)
    (hq : (es.length, ks, pm) ∈ fi.kws) (hk : kwN kws ks = true) (ha : PA X es (tA C T E Γ Γ1 ms)) (hkw : PK X kws (tA C T E Γ1 Γ2 ms2)) (hnil : es = [] → Γ1 = Γ ∧ ms = fun _ => .ret [])
    (h1 : ∀ ρ Q Ed, ms ρ Q Ed → ms ρ (fun xs => xs.length = es.length ∧ Q xs) Ed) (h2 : ∀ ρ Q Ed, ms2 ρ Q Ed → ms2 ρ (fun xs => xs.length = ks.length ∧ Q xs) Ed) :
    PE X (.Call (.Name fi.name p) es kws pos) (tO C T E Γ Γ2 fi.ret (fun ρ => .bind (ms ρ) fun xs => .bind (ms2 ρ) fun ys => Φ i (pmL pm (xs ++ ys)))) := by
  obtain ⟨a, fd, F⟩ := G.fns i fi hf hi
  have hr : Room (3 * i + 3) X.A := G.room.mono (Nfo.rm_le hi)
  obtain ⟨_, k1, k2, k3⟩ := kwN_all (X := X) (pos := pos) hk
  cases es with
  | nil =>
    obtain ⟨rfl, rfl⟩ := hnil rfl
    refine (pe_callK0 F.ok hr (G.gl hg) F.mg F.keep (F.kws _ hq).2.2 G.pass hkw k1 k2 (dbg1 hd) (by rw [k3]; rfl)).imp fun σ H Q h => ?_
    obtain ⟨O, Fs, ρ, Qd, Ed, r0, hm, x, k⟩ := h
    obtain ⟨l1, l2, kb⟩ := F.kws _ hq
    refine ⟨O, Fs, ρ, _, Ed, r0, h2 ρ _ _ hm, x, fun ys ws H2 Fs2 hy t2 r2 q2 => ?_⟩
    have qq := q2.pm pm
    have hl : (pmL pm ws).length = fi.ps.length := by
      rw [qq.length, ← l1]
      refine pm_len fun j hj => ?_
      have := l2 j hj
      rw [hy.1]
      simpa using this
    refine ⟨rfl, q2.length.trans hy.1, ?_⟩
    exact sp_meet r2 qq hl hy.2 (x.tr t2.toS) (tE_tr t2 k)
  | cons e es =>
    rw [List.all_cons, Bool.and_eq_true] at hs
    refine (pe_callN F.ok hr (G.gl hg) F.mg F.keep (F.kws _ hq).2.2 G.pass ha hkw k1 k2 (dbg1 hd) (starEach_cons hs.1) ?_).imp (callK_meet F hq h1 h2)
    rw [k3, Bool.or_false]
    exact star_plain (es := e :: es) (by rw [List.all_cons, Bool.and_eq_true]; exact hs)
end
end Wb

end
section
/-! Wb: statements. -/
namespace Wb
open PySem PySem.Spec PyProof.Rows L2
/-- a statement: Γl what a loop around it wants at its turn's end, τr what a return gives -/
def tS (C : Cn) (T : List (Addr × Str)) (E : XK) (τr : Ow) (Γl Γ Γ' : List Ow) (m : Env → M (Fl × Env)) : TS := fun D σ H => ∃ (O : Addr → Prop) (Fs : Nat → List Addr) (ρ : Env) (Qd : Fl × Env → Prop) (Ed : Exn → Prop), Rl C T O Γ Fs σ H ρ ∧ m ρ Qd Ed ∧ Xp C T E H Fs Ed ∧
  (∀ ρ' σ' H' Fs', Qd (.nx, ρ') → TrS H Fs H' Fs' → Rl C T O Γ' Fs' σ' H' ρ' → D.nx σ' H') ∧
  (∀ ρ' σ' H' Fs', Qd (.bk, ρ') → TrS H Fs H' Fs' → Rl C T O Γl Fs' σ' H' ρ' → D.bk σ' H') ∧
  (∀ ρ' σ' H' Fs', Qd (.ct, ρ') → TrS H Fs H' Fs' → Rl C T O Γl Fs' σ' H' ρ' → D.ct σ' H') ∧
  ∀ ρ' d v H' F, Qd (.rt d, ρ') → TrS H Fs H' (fun _ => F) → LamX.Tabs T H' → RepT C H' (plus O F) τr v d F → F.Nodup → (∀ a ∈ F, ¬ O a ∧ ∃ o, H' a = some o ∧ ownable o) → D.rt v H'
section
variable {C : Cn} {T : List (Addr × Str)} {E : XK} {X : Cx} {Φ : Fen} {I : Nfo} {Γl Γ Γ1 Γ2 Γ3 Γ' : List Ow} {τr τ τ1 τ2 τ3 : Ow} {m m1 m2 m3 : Env → M D} {pos p p2 : Pos}
/-- the end of a statement that goes on to the next -/
theorem tS_mono {D D' : Ends} {O : Addr → Prop} {Fs Fs1 : Nat → List Addr} {H H1 : Hp} {σ : L2.St} {Qd : Fl × Env → Prop} : True := trivial
theorem vs_nil : PSs X [] (tS C T E τr Γl Γ Γ (fun ρ => .ret (.nx, ρ))) := pss_nil.imp fun D σ H ⟨O, Fs, ρ, Qd, Ed, r, hm, x, k1, k2, k3, k4⟩ => k1 ρ σ H Fs hm (TrS.refl H Fs) r
theorem TrS.const {H H1 H2 : Hp} {Fs Fs1 : Nat → List Addr} {F : List Addr} (h : TrS H Fs H1 Fs1) (k : TrS H1 Fs1 H2 (fun _ => F)) : TrS H Fs H2 (fun _ => F) := h.trans k
theorem vs_cons {st : Stmt} {rest : List Stmt} {ms mr : Env → M (Fl × Env)} (h1 : PS X st (tS C T E τr Γl Γ Γ1 ms)) (h2 : PSs X rest (tS C T E τr Γl Γ1 Γ2 mr)) :
    PSs X (st :: rest) (tS C T E τr Γl Γ Γ2 (fun ρ => .bind (ms ρ) fun q => match q with
      | (.nx, ρ') => mr ρ'
      | (f, ρ') => .ret (f, ρ'))) := (pss_cons h1 h2).imp fun D σ H ⟨O, Fs, ρ, Qd, Ed, r, hm, x, k1, k2, k3, k4⟩ => by
  refine ⟨O, Fs, ρ, _, Ed, r, hm, x, fun ρ' σ' H' Fs' hq t r' => ?_, fun ρ' σ' H' Fs' hq t r' => k2 ρ' σ' H' Fs' hq t r', fun ρ' σ' H' Fs' hq t r' => k3 ρ' σ' H' Fs' hq t r', fun ρ' d v H' F hq t tb q nd hF => k4 ρ' d v H' F hq t tb q nd hF⟩
  exact ⟨O, Fs', ρ', Qd, Ed, r', hq, x.tr t, fun ρ2 σ2 H2 Fs2 hq t2 r2 => k1 ρ2 σ2 H2 Fs2 hq (t.trans t2) r2, fun ρ2 σ2 H2 Fs2 hq t2 r2 => k2 ρ2 σ2 H2 Fs2 hq (t.trans t2) r2, fun ρ2 σ2 H2 Fs2 hq t2 r2 => k3 ρ2 σ2 H2 Fs2 hq (t.trans t2) r2,
    fun ρ2 d v H2 F hq t2 tb q nd hF => k4 ρ2 d v H2 F hq (t.trans t2) tb q nd hF⟩
/-- a statement that never comes to its end: any Γ' behind it -/
theorem vs_never {st : Stmt} : PS X st (tS C T E τr Γl Γ Γ' (fun _ => .fail)) := ps_never.imp fun D σ H ⟨O, Fs, ρ, Qd, Ed, r, hm, x, k1, k2, k3, k4⟩ => hm
theorem vs_pass : PS X (.Pass pos) (tS C T E τr Γl Γ Γ (fun ρ => .ret (.nx, ρ))) := ps_pass.imp fun D σ H ⟨O, Fs, ρ, Qd, Ed, r, hm, x, k1, k2, k3, k4⟩ => k1 ρ σ H Fs hm (TrS.refl H Fs) r
theorem vs_brk (hw : ∀ O Fs σ H ρ, Rl C T O Γ Fs σ H ρ → ∃ Fs', Rl C T O Γl Fs' σ H ρ ∧ TrS H Fs H Fs') : PS X (.Break pos) (tS C T E τr Γl Γ Γ' (fun ρ => .ret (.bk, ρ))) := ps_break.imp fun D σ H ⟨O, Fs, ρ, Qd, Ed, r, hm, x, k1, k2, k3, k4⟩ => by
  obtain ⟨Fs', r', t⟩ := hw O Fs σ H ρ r
  exact k2 ρ σ H Fs' hm t r'
theorem vs_cnt (hw : ∀ O Fs σ H ρ, Rl C T O Γ Fs σ H ρ → ∃ Fs', Rl C T O Γl Fs' σ H ρ ∧ TrS H Fs H Fs') : PS X (.Continue pos) (tS C T E τr Γl Γ Γ' (fun ρ => .ret (.ct, ρ))) := ps_continue.imp fun D σ H ⟨O, Fs, ρ, Qd, Ed, r, hm, x, k1, k2, k3, k4⟩ => by
  obtain ⟨Fs', r', t⟩ := hw O Fs σ H ρ r
  exact k3 ρ σ H Fs' hm t r'
theorem vs_exp {e : Expr} (he : PE X e (tV C T E Γ Γ1 τ m)) (hs : ncpB e = true) : PS X (.Expr e pos) (tS C T E τr Γl Γ Γ1 (fun ρ => .bind (m ρ) fun _ => .ret (.nx, ρ))) :=
  (ps_expr he (swaps_no hs)).imp fun D σ H ⟨O, Fs, ρ, Qd, Ed, r, hm, x, k1, k2, k3, k4⟩ => ⟨O, Fs, ρ, _, Ed, r, hm, x, fun d v H1 Fs1 hd t1 r1 q => k1 ρ σ H1 Fs1 hd t1.toS r1⟩
/-- name = value -/
theorem set_end {i : Nat} {O : Addr → Prop} {Fs Fs1 : Nat → List Addr} {σ : L2.St} {H H1 : Hp} {ρ : Env} {d : D} {v : V} {F : List Addr} (hi : i < Γ1.length) (t1 : TrE H Fs H1 Fs1 F) (r1 : Rl C T (plus O F) Γ1 Fs1 σ H1 ρ) (q : RepT C H1 (Oall (plus O F) Fs1) τ v d F) (nd : F.Nodup) (n : ∀ a ∈ F, ¬ O a) :
    TrS H Fs H1 (updF Fs1 i F) ∧ Rl C T O (Γ1.set i τ) (updF Fs1 i F) (σ.set i (some v)) H1 (setE ρ i d) :=
  ⟨t1.toS' fun a h => ownd_updF h, r1.store (by rw [← r1.gl]; exact hi) nd n q⟩
theorem vs_set {i : Nat} {x : Str} {e : Expr} (G : Gd X C T E Φ I) (hN : I.N[i]? = some x) (hst : stB I x = true) (he : PE X e (tO C T E Γ Γ1 τ m)) (hs : swapsWith e (some (.Name x p)) pos.line X.env = pure false) (hi : i < Γ1.length) :
    PS X (.Assign [.Name x p] e pos) (tS C T E τr Γl Γ (Γ1.set i τ) (fun ρ => .bind (m ρ) fun x => .ret (.nx, setE ρ i x))) :=
  (ps_set (i := i) G.nd (by rw [G.hN]; exact hN) (G.st hst).1 he hs (G.st hst).2).imp fun D σ H ⟨O, Fs, ρ, Qd, Ed, r, hm, x, k1, k2, k3, k4⟩ => by
  refine ⟨O, Fs, ρ, _, Ed, r, hm, x, fun d v H1 Fs1 F hd t1 r1 q nd n => ?_⟩
  obtain ⟨t, r2⟩ := set_end (i := i) hi t1 r1 q nd n
  exact k1 _ _ H1 _ hd t r2
/-! ### returns, errors -/
theorem vs_ret {e : Expr} (he : PE X e (tO C T E Γ Γ1 τr m)) : PS X (.Return (some e) pos) (tS C T E τr Γl Γ Γ' (fun ρ => .bind (m ρ) fun x => .ret (.rt x, ρ))) := (ps_ret he).imp fun D σ H ⟨O, Fs, ρ, Qd, Ed, r, hm, x, k1, k2, k3, k4⟩ => by
  refine ⟨O, Fs, ρ, _, Ed, r, hm, x, fun d v H1 Fs1 F hd t1 r1 q nd n => ?_⟩
  refine k4 ρ d v H1 F hd (fun a o e nn => ?_) r1.tabs (q.mono (KpA.refl H1) fun a _ _ z => .inl z) nd fun a ha => ⟨n a ha, r1.ok a (.inl (.inr ha))⟩
  refine ⟨t1.kp a o e, fun ⟨_, z⟩ => ?_⟩
  rcases t1.fr a (.inr z) with z | z
  · exact nn z
  · rw [e] at z; cases z
theorem vs_retN : PS X (.Return none pos) (tS C T E .sh Γl Γ Γ' (fun ρ => .ret (.rt .non, ρ))) := ps_retN.imp fun D σ H ⟨O, Fs, ρ, Qd, Ed, r, hm, x, k1, k2, k3, k4⟩ =>
  k4 ρ .non .non H [] hm (fun a o e nn => ⟨by rw [e]; exact .same o, fun ⟨_, z⟩ => absurd z (by simp)⟩) r.tabs ⟨rfl, .non⟩ List.nodup_nil (fun a h => absurd h (by simp))
/-! ### if -/
theorem vs_if {c : Expr} {a b : List Stmt} {ma mb : Env → M (Fl × Env)} (hc : PT X c (tT C T E Γ Γ1 (fun ρ => .bind (m ρ) truthD))) (ha : PSs X a (tS C T E τr Γl Γ1 Γ' ma)) (hb : PSs X b (tS C T E τr Γl Γ1 Γ' mb)) :
    PS X (.If c a b pos) (tS C T E τr Γl Γ Γ' (fun ρ => .bind (m ρ) fun x => .bind (truthD x) fun c => if c = true then ma ρ else mb ρ)) := (ps_if hc ha hb).imp fun D σ H ⟨O, Fs, ρ, Qd, Ed, r, hm, x, k1, k2, k3, k4⟩ => by
  refine ⟨O, Fs, ρ, fun c => (if c = true then ma ρ else mb ρ) Qd Ed, Ed, r, hm, x, fun c H1 Fs1 h1 t1 r1 => ?_⟩
  have t := t1.toS
  cases c with
  | true => exact ⟨O, Fs1, ρ, Qd, Ed, r1, h1, x.tr t, fun ρ2 σ2 H2 Fs2 hq t2 r2 => k1 ρ2 σ2 H2 Fs2 hq (t.trans t2) r2, fun ρ2 σ2 H2 Fs2 hq t2 r2 => k2 ρ2 σ2 H2 Fs2 hq (t.trans t2) r2, fun ρ2 σ2 H2 Fs2 hq t2 r2 => k3 ρ2 σ2 H2 Fs2 hq (t.trans t2) r2,
    fun ρ2 d v H2 F hq t2 tb q nd hF => k4 ρ2 d v H2 F hq (t.trans t2) tb q nd hF⟩
  | false => exact ⟨O, Fs1, ρ, Qd, Ed, r1, h1, x.tr t, fun ρ2 σ2 H2 Fs2 hq t2 r2 => k1 ρ2 σ2 H2 Fs2 hq (t.trans t2) r2, fun ρ2 σ2 H2 Fs2 hq t2 r2 => k2 ρ2 σ2 H2 Fs2 hq (t.trans t2) r2, fun ρ2 σ2 H2 Fs2 hq t2 r2 => k3 ρ2 σ2 H2 Fs2 hq (t.trans t2) r2,
    fun ρ2 d v H2 F hq t2 tb q nd hF => k4 ρ2 d v H2 F hq (t.trans t2) tb q nd hF⟩
/-! ### weaker types -/
/-- τ may be taken for τ' -/
def wkO (τ τ' : Ow) : Bool := decide (τ = τ') || (noBo τ && decide (τ' = .sh))
def wkG : List Ow → List Ow → Bool
  | [], [] => true
  | τ :: r, τ' :: r' => wkO τ τ' && wkG r r'
  | _, _ => false
theorem Rl.giveW {O : Addr → Prop} {Fs : Nat → List Addr} {σ : L2.St} {H : Hp} {ρ : Env} {i : Nat} (r : Rl C T O Γ Fs σ H ρ) (ht : Γ[i]? = some τ) (b : noBo τ = true) : Rl C T O (Γ.set i .sh) (updF Fs i []) σ H ρ := by
  have sub : ∀ a, Oall O (updF Fs i []) a → Oall O Fs a := fun a h => h.imp id updF_nil_own
  have hi : i < Γ.length := (List.getElem?_eq_some_iff.mp ht).1
  refine ⟨r.len, by simp [r.gl], fun j e hj => ?_, fun j => ?_, fun j k a h1 h2 => ?_, fun j a h => ?_, fun a h => r.ok a (sub a h), r.tabs⟩
  · by_cases hji : j = i
    · subst hji
      obtain ⟨v, τ', e1, e2, q⟩ := r.slot j e hj
      rw [ht] at e2; cases e2
      have q' : RepS C H (Oall O (updF Fs j [])) v e := q.freeze sub τ b fun a ha z => by
        rcases z with z | ⟨k, z⟩
        · exact r.dj0 j a ha z
        · by_cases hk : k = j
          · subst hk; rw [updF_same] at z; exact absurd z (by simp)
          · rw [updF_ne hk] at z; exact hk (r.dj k j a z ha)
      refine ⟨v, .sh, e1, by rw [List.getElem?_set_self hi], ?_⟩
      rw [updF_same]
      exact ⟨rfl, q'⟩
    · obtain ⟨v', τ', e1, e2, z⟩ := r.slot j e hj
      refine ⟨v', τ', e1, by rw [List.getElem?_set_ne (Ne.symm hji)]; exact e2, ?_⟩
      rw [updF_ne hji]
      exact z.mono (KpA.refl H) fun a _ _ z => sub a z
  · by_cases hji : j = i
    · subst hji; rw [updF_same]; exact List.nodup_nil
    · rw [updF_ne hji]; exact r.nd j
  · by_cases hj : j = i
    · subst hj; rw [updF_same] at h1; exact absurd h1 (by simp)
    · by_cases hk : k = i
      · subst hk; rw [updF_same] at h2; exact absurd h2 (by simp)
      · rw [updF_ne hj] at h1
        rw [updF_ne hk] at h2
        exact r.dj j k a h1 h2
  · by_cases hj : j = i
    · subst hj; rw [updF_same] at h; exact absurd h (by simp)
    · rw [updF_ne hj] at h; exact r.dj0 j a h
theorem TrS.fewer {H : Hp} {Fs Fs' : Nat → List Addr} (h : ∀ a, Ownd Fs' a → Ownd Fs a) : TrS H Fs H Fs' := fun a o e n => ⟨by rw [e]; exact .same o, fun z => n (h a z)⟩
theorem wkG_len : ∀ {Γ Γ' : List Ow}, wkG Γ Γ' = true → Γ.length = Γ'.length
  | [], [], _ => rfl
  | [], _ :: _, h => by cases h
  | _ :: _, [], h => by cases h
  | _ :: r, _ :: r', h => by
    unfold wkG at h
    rw [Bool.and_eq_true] at h
    simp [wkG_len h.2]
theorem Rl.weak_from : ∀ (Γr Γr' Γa : List Ow) {O : Addr → Prop} {Fs : Nat → List Addr} {σ : L2.St} {H : Hp} {ρ : Env}, wkG Γr Γr' = true → Rl C T O (Γa ++ Γr) Fs σ H ρ → ∃ Fs', Rl C T O (Γa ++ Γr') Fs' σ H ρ ∧ ∀ a, Ownd Fs' a → Ownd Fs a
  | [], [], Γa, _, Fs, _, _, _, _, r => ⟨Fs, r, fun _ h => h⟩
  | [], _ :: _, _, _, _, _, _, _, h, _ => by cases h
  | _ :: _, [], _, _, _, _, _, _, h, _ => by cases h
  | τ :: Γr, τ' :: Γr', Γa, O, Fs, σ, H, ρ, h, r => by
    unfold wkG at h
    rw [Bool.and_eq_true] at h
    have key : ∃ Fs1, Rl C T O (Γa ++ τ' :: Γr) Fs1 σ H ρ ∧ ∀ a, Ownd Fs1 a → Ownd Fs a := by
      by_cases e : τ = τ'
      · subst e; exact ⟨Fs, r, fun _ h => h⟩
      · have h1 := h.1
        unfold wkO at h1
        rw [decide_eq_false e, Bool.false_or, Bool.and_eq_true, decide_eq_true_eq] at h1
        obtain ⟨b, rfl⟩ := h1
        have r1 := r.giveW (i := Γa.length) (τ := τ) (by simp) b
        rw [show (Γa ++ τ :: Γr).set Γa.length .sh = Γa ++ .sh :: Γr by simp] at r1
        exact ⟨_, r1, fun a z => updF_nil_own z⟩
    obtain ⟨Fs1, r1, n1⟩ := key
    have r1' : Rl C T O ((Γa ++ [τ']) ++ Γr) Fs1 σ H ρ := by rw [List.append_assoc]; exact r1
    obtain ⟨Fs2, r2, n2⟩ := Rl.weak_from Γr Γr' (Γa ++ [τ']) h.2 r1'
    rw [List.append_assoc] at r2
    exact ⟨Fs2, r2, fun a z => n1 a (n2 a z)⟩
theorem Rl.weak (h : wkG Γ Γ' = true) {O : Addr → Prop} {Fs : Nat → List Addr} {σ : L2.St} {H : Hp} {ρ : Env} (r : Rl C T O Γ Fs σ H ρ) : ∃ Fs', Rl C T O Γ' Fs' σ H ρ ∧ TrS H Fs H Fs' := by
  obtain ⟨Fs', r', n⟩ := Rl.weak_from Γ Γ' [] h r
  exact ⟨Fs', r', TrS.fewer n⟩
/-- a block's end, weakened -/
theorem vs_weak {sts : List Stmt} {ms : Env → M (Fl × Env)} (h : PSs X sts (tS C T E τr Γl Γ Γ1 ms)) (w : wkG Γ1 Γ' = true) : PSs X sts (tS C T E τr Γl Γ Γ' ms) := h.imp fun D σ H ⟨O, Fs, ρ, Qd, Ed, r, hm, x, k1, k2, k3, k4⟩ =>
  ⟨O, Fs, ρ, Qd, Ed, r, hm, x, fun ρ' σ' H' Fs' hq t r' => by
    obtain ⟨Fs2, r2, t2⟩ := Rl.weak w r'
    exact k1 ρ' σ' H' Fs2 hq (t.trans t2) r2, k2, k3, k4⟩
/-- ahead of a statement -/
theorem vs_weak0 {sts : List Stmt} {ms : Env → M (Fl × Env)} (h : PSs X sts (tS C T E τr Γl Γ1 Γ' ms)) (w : wkG Γ Γ1 = true) : PSs X sts (tS C T E τr Γl Γ Γ' ms) := h.imp fun D σ H ⟨O, Fs, ρ, Qd, Ed, r, hm, x, k1, k2, k3, k4⟩ => by
  obtain ⟨Fs1, r1, t⟩ := Rl.weak w r
  exact ⟨O, Fs1, ρ, Qd, Ed, r1, hm, x.tr t, fun ρ2 σ2 H2 Fs2 hq t2 r2 => k1 ρ2 σ2 H2 Fs2 hq (t.trans t2) r2, fun ρ2 σ2 H2 Fs2 hq t2 r2 => k2 ρ2 σ2 H2 Fs2 hq (t.trans t2) r2, fun ρ2 σ2 H2 Fs2 hq t2 r2 => k3 ρ2 σ2 H2 Fs2 hq (t.trans t2) r2,
    fun ρ2 d v H2 F hq t2 tb q nd hF => k4 ρ2 d v H2 F hq (t.trans t2) tb q nd hF⟩
/-! ### while -/
theorem whlN_succ {c : Env → M Bool} {b : Env → M (Fl × Env)} {n : Nat} {ρ : Env} : whlN c b (n + 1) ρ = .bind (c ρ) fun t => if t = true then .bind (b ρ) fun r => match r with
      | (.nx, ρ') | (.ct, ρ') => whlN c b n ρ'
      | (.bk, ρ') => .ret (.nx, ρ')
      | (.rt d, ρ') => .ret (.rt d, ρ')
    else .ret (.nx, ρ) := rfl
theorem vs_whl {c : Expr} {body : List Stmt} {mb : Env → M (Fl × Env)} (G : Gd X C T E Φ I) (hc : PT X c (tT C T E Γ Γ (fun ρ => .bind (m ρ) truthD))) (hb : PSs X body (tS C T E τr Γ Γ Γ mb)) :
    PS X (.While c body [] pos) (tS C T E τr Γl Γ Γ (fun ρ => fun Q E => ∃ n, whlN (fun ρ => .bind (m ρ) truthD) mb n ρ Q E)) := (ps_while G.own hc hb).imp fun D σ H ⟨O, Fs, ρ, Qd, Ed, r, ⟨n0, hm⟩, x, k1, k2, k3, k4⟩ => by
  refine ⟨fun n σ1 H1 => ∃ Fs1 ρ1, Rl C T O Γ Fs1 σ1 H1 ρ1 ∧ TrS H Fs H1 Fs1 ∧ whlN (fun ρ => .bind (m ρ) truthD) mb n ρ1 Qd Ed, ⟨n0, Fs, ρ, r, TrS.refl H Fs, hm⟩, ?_⟩
  rintro n σ1 H1 ⟨Fs1, ρ1, r1, t1, h1⟩
  cases n with
  | zero => exact (h1 : False).elim
  | succ n =>
    rw [whlN_succ] at h1
    refine ⟨O, Fs1, ρ1, _, Ed, r1, h1, x.tr t1, fun b H2 Fs2 h2 t2 r2 => ?_⟩
    cases b with
    | false => exact k1 ρ1 σ1 H2 Fs2 h2 (t1.trans t2.toS) r2
    | true =>
      refine ⟨_, fun σ' H' z => ⟨n, Nat.lt_succ_self n, z⟩, O, Fs2, ρ1, _, Ed, r2, h2, x.tr (t1.trans t2.toS), ?_, ?_, ?_, ?_⟩
      · exact fun ρ3 σ3 H3 Fs3 h3 t3 r3 => ⟨Fs3, ρ3, r3, (t1.trans t2.toS).trans t3, h3⟩
      · exact fun ρ3 σ3 H3 Fs3 h3 t3 r3 => k1 ρ3 σ3 H3 Fs3 h3 ((t1.trans t2.toS).trans t3) r3
      · exact fun ρ3 σ3 H3 Fs3 h3 t3 r3 => ⟨Fs3, ρ3, r3, (t1.trans t2.toS).trans t3, h3⟩
      · exact fun ρ3 d v H3 F h3 t3 tb q nd hF => k4 ρ3 d v H3 F h3 ((t1.trans t2.toS).trans t3) tb q nd hF
end
end Wb

end
section
/-! Wb: targets, parallel stores, lists and dicts that change. -/
namespace Wb
open PySem PySem.Spec PyProof.Rows L2
section
variable {C : Cn} {T : List (Addr × Str)} {E : XK} {X : Cx} {Φ : Fen} {I : Nfo} {Γl Γ Γ1 Γ2 Γ3 Γ' : List Ow} {τr τ τ1 τ2 τ3 : Ow} {m m1 m2 m3 : Env → M D} {pos p p2 p3 : Pos}
/-! ### targets: all that is stored is shared -/
/-- is: the slots of the target's names -/
def tG (C : Cn) (T : List (Addr × Str)) (is : List Nat) (Γ : List Ow) (m : D → Env → M Env) : TG := fun v σ H Q => ∃ (O : Addr → Prop) (Fs : Nat → List Addr) (ρ : Env) (d : D) (Qd : Env → Prop) (Ed : Exn → Prop), Rl C T O Γ Fs σ H ρ ∧ RepS C H (Oall O Fs) v d ∧ m d ρ Qd Ed ∧
  ∀ ρ' σ' Fs', Qd ρ' → (∀ a, Ownd Fs' a → Ownd Fs a) → (∀ j, j ∉ is → σ'[j]? = σ[j]?) → σ'.length = σ.length → Rl C T O Γ Fs' σ' H ρ' → Q σ' H
def tGs (C : Cn) (T : List (Addr × Str)) (is : List Nat) (Γ : List Ow) (m : List D → Env → M Env) : TGs := fun vs σ H Q => ∃ (O : Addr → Prop) (Fs : Nat → List Addr) (ρ : Env) (ds : List D) (Qd : Env → Prop) (Ed : Exn → Prop), Rl C T O Γ Fs σ H ρ ∧ RepSs C H (Oall O Fs) vs ds ∧ m ds ρ Qd Ed ∧
  ∀ ρ' σ' Fs', Qd ρ' → (∀ a, Ownd Fs' a → Ownd Fs a) → (∀ j, j ∉ is → σ'[j]? = σ[j]?) → σ'.length = σ.length → Rl C T O Γ Fs' σ' H ρ' → Q σ' H
theorem _root_.L2.PGs.imp {X : Cx} {e : List Expr} {t t' : TGs} (h : PGs X e t) (k : ∀ v σ H Q, t' v σ H Q → t v σ H Q) : PGs X e t' := ⟨fun pins s σ H v u Q I r q => h.run pins s σ H v u Q I r (k v σ H Q q)⟩
theorem _root_.L2.PG.or {X : Cx} {e : Expr} {t t' : TG} (h : PG X e t) (h' : PG X e t') : PG X e (fun v σ H Q => t v σ H Q ∨ t' v σ H Q) := ⟨fun pins s σ H v u Q I r q => q.elim (h.run pins s σ H v u Q I r) (h'.run pins s σ H v u Q I r)⟩
theorem set_id {α : Type} {l : List α} {i : Nat} {x : α} (h : l[i]? = some x) : l.set i x = l := by
  apply List.ext_getElem?
  intro j
  by_cases e : i = j
  · subst e
    rw [List.getElem?_set_self (List.getElem?_eq_some_iff.mp h).1, h]
  · rw [List.getElem?_set_ne e]
theorem vg_nm {i : Nat} {x : Str} (G : Gd X C T E Φ I) (hN : I.N[i]? = some x) (hst : stB I x = true) (ht : Γ[i]? = some .sh) : PG X (.Name x p) (tG C T [i] Γ (asgT (.nm i))) :=
  (pg_name (i := i) G.nd (by rw [G.hN]; exact hN) (G.st hst).1 (G.st hst).2).imp fun v σ H Q ⟨O, Fs, ρ, d, Qd, Ed, r, q, hm, k⟩ => by
  have r0 : Rl C T (plus O []) Γ Fs σ H ρ := by rw [plus_nil]; exact r
  have hi : i < Γ.length := (List.getElem?_eq_some_iff.mp ht).1
  have r1 := r0.store (i := i) (τ := .sh) (v := v) (d := d) (by rw [← r.gl]; exact hi) List.nodup_nil (fun a h => absurd h (by simp)) ⟨rfl, by rw [plus_nil]; exact q⟩
  rw [set_id ht] at r1
  exact k _ _ _ hm (fun a h => updF_nil_own h) (fun j hj => List.getElem?_set_ne (fun e => hj (by simp [e]))) (by simp) r1
theorem vgs_nil : PGs X [] (tGs C T [] Γ (asgTs .nil)) := pgs_nil.imp fun vs σ H Q ⟨O, Fs, ρ, ds, Qd, Ed, r, q, hm, k⟩ => by
  cases ds with
  | nil => cases q; exact ⟨rfl, k ρ σ Fs hm (fun _ h => h) (fun _ _ => rfl) rfl r⟩
  | cons d ds => exact (hm : False).elim
theorem vgs_cons {t : Tg} {ts : Tgs} {e : Expr} {es : List Expr} {is is' : List Nat} (h1 : PG X e (tG C T is Γ (asgT t))) (h2 : PGs X es (tGs C T is' Γ (asgTs ts))) (hs : nstB e = true) : PGs X (e :: es) (tGs C T (is ++ is') Γ (asgTs (.cons t ts))) :=
  (pgs_cons h1 h2 (by rw [assignEach_cons hs]; rfl)).imp fun vs σ H Q ⟨O, Fs, ρ, ds, Qd, Ed, r, q, hm, k⟩ => by
  cases ds with
  | nil => exact (hm : False).elim
  | cons d ds =>
    cases q with
    | cons q1 q2 =>
      have hm' : asgT t d ρ (fun ρ' => asgTs ts ds ρ' Qd Ed) Ed := hm
      refine ⟨_, _, rfl, O, Fs, ρ, d, _, Ed, r, q1, hm', fun ρ' σ' Fs' hq n o1 l1 r' => ?_⟩
      exact ⟨O, Fs', ρ', ds, Qd, Ed, r', q2.mono (fun a o e z => ⟨by rw [e]; exact .same o, fun w => z (w.imp id (n a))⟩), hq, fun ρ2 σ2 Fs2 hq n2 o2 l2 r2 => k ρ2 σ2 Fs2 hq (fun a h => n a (n2 a h))
        (fun j hj => (o2 j fun z => hj (List.mem_append_right _ z)).trans (o1 j fun z => hj (List.mem_append_left _ z))) (l2.trans l1) r2⟩
def tgsLen : Tgs → Nat
  | .nil => 0
  | .cons _ r => tgsLen r + 1
theorem assignEach_len {es : List Expr} {env : PySem.Env} (h : es.all nstB = true) : (assignEach es env).length = es.length ∧ (assignEach es env).findIdx? (·.1) = none := by
  induction es with
  | nil => exact ⟨rfl, rfl⟩
  | cons e es ih =>
    rw [List.all_cons, Bool.and_eq_true] at h
    obtain ⟨h1, h2⟩ := ih h.2
    rw [assignEach_cons h.1]
    refine ⟨by simp [h1], ?_⟩
    rw [List.findIdx?_cons]
    simp [h2]
theorem vg_tp {ts : Tgs} {es : List Expr} {k0 : Nat} {is : List Nat} (G : Gd X C T E Φ I) (h : PGs X es (tGs C T is Γ (asgTs ts))) (hs : es.all nstB = true) (hl : ∀ ds ρ Q Ed, asgTs ts ds ρ Q Ed → ds.length = es.length) : PG X (.Tuple es k0 pos) (tG C T is Γ (asgT (.tp ts))) := by
  obtain ⟨l1, l2⟩ := assignEach_len (env := X.env) hs
  refine ((pg_tup G.calm h l1 l2).or (pg_unl G.calm h l1 l2)).imp fun v σ H Q ⟨O, Fs, ρ, d, Qd, Ed, r, q, hm, k⟩ => ?_
  cases d <;> first | exact (hm : False).elim | skip
  · cases q with
    | lst n ra z qa =>
      refine .inr ⟨_, _, rfl, .inl ra, by rw [qa.length]; exact hl _ _ _ _ hm, O, Fs, ρ, _, Qd, Ed, r, qa, hm, k⟩
  · cases q with
    | tup n ra z qa =>
      exact .inl ⟨_, _, rfl, SqT.of ra, by rw [qa.length]; exact hl _ _ _ _ hm, O, Fs, ρ, _, Qd, Ed, r, qa, hm, k⟩
mutual
theorem asgT_ex : ∀ (t : Tg) (d : D) (ρ : Env) (Q : Env → Prop) (Ed : Exn → Prop), asgT t d ρ Q Ed → ∃ ρ', Q ρ'
  | .nm i, d, ρ, Q, Ed, h => by rw [asgT] at h; exact ⟨_, h⟩
  | .tp ts, d, ρ, Q, Ed, h => by
    rw [asgT] at h
    have h' : seqD d (fun xs => asgTs ts xs ρ Q Ed) Ed := h
    cases d <;> first | exact (h' : False).elim | exact asgTs_ex ts _ ρ Q Ed h'
theorem asgTs_ex : ∀ (ts : Tgs) (ds : List D) (ρ : Env) (Q : Env → Prop) (Ed : Exn → Prop), asgTs ts ds ρ Q Ed → ∃ ρ', Q ρ'
  | .nil, [], ρ, Q, Ed, h => by rw [asgTs] at h; exact ⟨_, h⟩
  | .nil, _ :: _, ρ, Q, Ed, h => (by rw [asgTs] at h; exact (h : False).elim; all_goals simp)
  | .cons _ _, [], ρ, Q, Ed, h => (by rw [asgTs] at h; exact (h : False).elim; all_goals simp)
  | .cons t r, d :: ds, ρ, Q, Ed, h => by
    rw [asgTs] at h
    have h' : asgT t d ρ (fun ρ' => asgTs r ds ρ' Q Ed) Ed := h
    obtain ⟨ρ', h2⟩ := asgT_ex t d ρ _ Ed h'
    exact asgTs_ex r ds ρ' Q Ed h2
end
theorem asgTs_length : ∀ (ts : Tgs) (ds : List D) (ρ : Env) (Q : Env → Prop) (Ed : Exn → Prop), asgTs ts ds ρ Q Ed → ds.length = tgsLen ts
  | .nil, [], _, _, _, _ => rfl
  | .nil, _ :: _, _, _, _, h => (by rw [asgTs] at h; exact (h : False).elim; all_goals simp)
  | .cons _ _, [], _, _, _, h => (by rw [asgTs] at h; exact (h : False).elim; all_goals simp)
  | .cons t r, d :: ds, ρ, Q, Ed, h => by
    rw [asgTs] at h
    have h' : asgT t d ρ (fun ρ' => asgTs r ds ρ' Q Ed) Ed := h
    obtain ⟨ρ', h2⟩ := asgT_ex t d ρ _ Ed h'
    show ds.length + 1 = tgsLen r + 1
    rw [asgTs_length r ds ρ' Q Ed h2]
mutual
theorem asgT_mono : ∀ (t : Tg) (d : D) (ρ : Env) (Q Q' : Env → Prop) (Ed : Exn → Prop), (∀ x, Q x → Q' x) → asgT t d ρ Q Ed → asgT t d ρ Q' Ed
  | .nm i, d, ρ, Q, Q', Ed, k, h => by
    rw [asgT] at h ⊢
    exact k _ h
  | .tp ts, d, ρ, Q, Q', Ed, k, h => by
    rw [asgT] at h ⊢
    have h' : seqD d (fun xs => asgTs ts xs ρ Q Ed) Ed := h
    show seqD d (fun xs => asgTs ts xs ρ Q' Ed) Ed
    cases d <;> first | exact (h' : False).elim | exact asgTs_mono ts _ ρ Q Q' Ed k h'
theorem asgTs_mono : ∀ (ts : Tgs) (ds : List D) (ρ : Env) (Q Q' : Env → Prop) (Ed : Exn → Prop), (∀ x, Q x → Q' x) → asgTs ts ds ρ Q Ed → asgTs ts ds ρ Q' Ed
  | .nil, [], ρ, Q, Q', Ed, k, h => by
    rw [asgTs] at h ⊢
    exact k _ h
  | .nil, _ :: _, ρ, Q, Q', Ed, k, h => (by rw [asgTs] at h; exact (h : False).elim; all_goals simp)
  | .cons _ _, [], ρ, Q, Q', Ed, k, h => (by rw [asgTs] at h; exact (h : False).elim; all_goals simp)
  | .cons t r, d :: ds, ρ, Q, Q', Ed, k, h => by
    rw [asgTs] at h ⊢
    exact asgT_mono t d ρ _ _ Ed (fun ρ' h' => asgTs_mono r ds ρ' Q Q' Ed k h') h
end
mutual
def tgIx : Tg → List Nat
  | .nm i => [i]
  | .tp ts => tgsIx ts
def tgsIx : Tgs → List Nat
  | .nil => []
  | .cons t r => tgIx t ++ tgsIx r
end
mutual
theorem asgT_off : ∀ (t : Tg) (d : D) (ρ : Env) (Q : Env → Prop) (Ed : Exn → Prop), asgT t d ρ Q Ed → asgT t d ρ (fun ρ' => Q ρ' ∧ (∀ j, j ∉ tgIx t → ρ'[j]? = ρ[j]?) ∧ ρ'.length = ρ.length) Ed
  | .nm i, d, ρ, Q, Ed, h => by
    rw [asgT] at h ⊢
    exact ⟨h, fun j hj => List.getElem?_set_ne (fun e => hj (by simp [tgIx, e])), by simp [setE]⟩
  | .tp ts, d, ρ, Q, Ed, h => by
    rw [asgT] at h ⊢
    have h' : seqD d (fun xs => asgTs ts xs ρ Q Ed) Ed := h
    show seqD d (fun xs => asgTs ts xs ρ _ Ed) Ed
    cases d <;> first | exact (h' : False).elim | exact asgTs_off ts _ ρ Q Ed h'
theorem asgTs_off : ∀ (ts : Tgs) (ds : List D) (ρ : Env) (Q : Env → Prop) (Ed : Exn → Prop), asgTs ts ds ρ Q Ed → asgTs ts ds ρ (fun ρ' => Q ρ' ∧ (∀ j, j ∉ tgsIx ts → ρ'[j]? = ρ[j]?) ∧ ρ'.length = ρ.length) Ed
  | .nil, [], ρ, Q, Ed, h => by
    rw [asgTs] at h ⊢
    exact ⟨h, fun _ _ => rfl, rfl⟩
  | .nil, _ :: _, ρ, Q, Ed, h => (by rw [asgTs] at h; exact (h : False).elim; all_goals simp)
  | .cons _ _, [], ρ, Q, Ed, h => (by rw [asgTs] at h; exact (h : False).elim; all_goals simp)
  | .cons t r, d :: ds, ρ, Q, Ed, h => by
    rw [asgTs] at h ⊢
    have h' : asgT t d ρ (fun ρ' => asgTs r ds ρ' Q Ed) Ed := h
    have h2 := asgT_off t d ρ _ Ed h'
    have key : ∀ ρ', (asgTs r ds ρ' Q Ed ∧ (∀ j, j ∉ tgIx t → ρ'[j]? = ρ[j]?) ∧ ρ'.length = ρ.length) → asgTs r ds ρ' (fun ρ2 => Q ρ2 ∧ (∀ j, j ∉ tgsIx (.cons t r) → ρ2[j]? = ρ[j]?) ∧ ρ2.length = ρ.length) Ed := fun ρ' ⟨a, b, c⟩ => by
      have h3 := asgTs_off r ds ρ' Q Ed a
      refine asgTs_mono r ds ρ' _ _ Ed (fun ρ2 ⟨x, y, z⟩ => ⟨x, fun j hj => ?_, z.trans c⟩) h3
      rw [tgsIx] at hj
      exact (y j fun w => hj (List.mem_append_right _ w)).trans (b j fun w => hj (List.mem_append_left _ w))
    exact asgT_mono t d ρ _ _ Ed key h2
end
/-- target = value -/
theorem vs_asg {t : Tg} {tg e : Expr} {is : List Nat} (he : PE X e (tV C T E Γ Γ1 .sh m)) (hg : PG X tg (tG C T is Γ1 (asgT t))) (hs : ncpB e = true) (hn : nstB tg = true) (hw : swappedStores [tg] e X.env = pure none) :
    PS X (.Assign [tg] e pos) (tS C T E τr Γl Γ Γ1 (fun ρ => .bind (m ρ) fun x => .bind (asgT t x ρ) fun ρ' => .ret (.nx, ρ'))) :=
  (ps_asg he hg (swapsS_no hs) hw (by rw [assignEach_cons hn]; rfl)).imp fun D σ H ⟨O, Fs, ρ, Qd, Ed, r, hm, x, k1, k2, k3, k4⟩ => by
  refine ⟨O, Fs, ρ, _, Ed, r, hm, x, fun d v H1 Fs1 hd t1 r1 q => ?_⟩
  exact ⟨O, Fs1, ρ, d, _, Ed, r1, q, hd, fun ρ' σ' Fs' hq n _ _ r' => k1 ρ' σ' H1 Fs' hq (t1.toS.trans (TrS.fewer n)) r'⟩
/-! ### a, b = x, y -/
theorem mv2 {O : Addr → Prop} {H1 H2 : Hp} {Fs1 Fs2 : Nat → List Addr} {F1 F2 : List Addr} {v : V} {d : D} (t2 : TrE H1 Fs1 H2 Fs2 F2) (q : RepT C H1 (Oall (plus O F1) Fs1) τ v d F1) : RepT C H2 (Oall (plus (plus O F1) F2) Fs2) τ v d F1 :=
  q.mono t2.kp fun a o e z => by
    rcases z with (z | z) | z
    · exact .inl z
    · rcases t2.fr a (.inr z) with z | z
      · exact .inr z
      · rw [e] at z; cases z
    · rcases t2.fr a (.inl z) with z | z
      · exact .inr z
      · rw [e] at z; cases z
theorem vs_par2 {i j : Nat} {x y : Str} {a b : Expr} {px py pt pt2 : Pos} {k0 k2 : Nat} (G : Gd X C T E Φ I) (hi : I.N[i]? = some x) (hj : I.N[j]? = some y) (hij : i ≠ j) (hx : I.sc.names.lookup x = some .local) (hy : I.sc.names.lookup y = some .local)
    (ha : PE X a (tO C T E Γ Γ1 τ1 m1)) (hb : PE X b (tO C T E Γ1 Γ2 τ2 m2)) (na : nstB a = true) (nb : nstB b = true) (hil : i < Γ2.length) (hjl : j < Γ2.length)
    (hw : swappedStores [.Tuple [.Name x px, .Name y py] k0 pt] (.Tuple [a, b] k2 pt2) X.env = pure (some [x, y])) :
    PS X (.Assign [.Tuple [.Name x px, .Name y py] k0 pt] (.Tuple [a, b] k2 pt2) pos) (tS C T E τr Γl Γ ((Γ2.set j τ2).set i τ1) (fun ρ => .bind (m1 ρ) fun x => .bind (m2 ρ) fun y => .ret (.nx, setE (setE ρ i x) j y))) :=
  (ps_par (i := i) (j := j) G.calm G.nd (by rw [G.hN]; exact hi) (by rw [G.hN]; exact hj) hij (by rw [G.sc]; exact hx) (by rw [G.sc]; exact hy) (pa_cons ha (pa_cons hb pa_nil (starEach_cons nb)) (starEach_cons na)) hw rfl).imp fun D σ H ⟨O, Fs, ρ, Qd, Ed, r, hm, x, k1, k2, k3, k4⟩ => by
  refine ⟨O, Fs, ρ, _, Ed, r, hm, x, fun d1 v1 H1 Fs1 F1 hd1 t1 r1 q1 nd1 n1 => ?_⟩
  refine ⟨plus O F1, Fs1, ρ, _, Ed, r1, hd1, x.tr (t1.drop.toS), fun d2 v2 H2 Fs2 F2 hd2 t2 r2 q2 nd2 n2 => ?_⟩
  refine ⟨v1, v2, rfl, ?_⟩
  have z1 := mv2 t2 q1
  have s1 := r2.store (i := j) (by rw [← r2.gl]; exact hjl) nd2 n2 q2
  have hlen : i < (setE ρ j d2).length := by
    show i < (ρ.set j (some d2)).length
    rw [List.length_set, ← r2.gl]; exact hil
  have s2 := s1.store (i := i) hlen nd1 n1 (z1.mono (KpA.refl H2) fun a o e z => by
    rcases z with (z | z) | z
    · exact .inl (.inl (.inl z))
    · exact .inl (.inl (.inr z))
    · rcases ownd_updF z with z | z
      · exact .inr z
      · exact .inl (.inr z))
  have ec : (σ.set i (some v1)).set j (some v2) = (σ.set j (some v2)).set i (some v1) := List.set_comm _ _ hij
  have ec2 : setE (setE ρ i d1) j d2 = setE (setE ρ j d2) i d1 := List.set_comm _ _ hij
  rw [ec]
  refine k1 _ _ H2 _ (by rw [← ec2]; exact hd2) ?_ s2
  refine (t1.trans t2).toS' fun a h => ?_
  rcases ownd_updF h with h | h
  · rcases ownd_updF h with h | h
    · exact .inl h
    · exact .inr (List.mem_append_right _ h)
  · exact .inr (List.mem_append_left _ h)
theorem vs_par3 {i j l : Nat} {x y w : Str} {a b c : Expr} {px py pz pt pt2 : Pos} {k0 k2 : Nat} (G : Gd X C T E Φ I) (hi : I.N[i]? = some x) (hj : I.N[j]? = some y) (hl : I.N[l]? = some w) (hij : i ≠ j) (hil' : i ≠ l) (hjl' : j ≠ l) (hx : I.sc.names.lookup x = some .local) (hy : I.sc.names.lookup y = some .local) (hz : I.sc.names.lookup w = some .local)
    (ha : PE X a (tO C T E Γ Γ1 τ1 m1)) (hb : PE X b (tO C T E Γ1 Γ2 τ2 m2)) (hc : PE X c (tO C T E Γ2 Γ3 τ3 m3)) (na : nstB a = true) (nb : nstB b = true) (nc : nstB c = true) (hil : i < Γ3.length) (hjl : j < Γ3.length) (hll : l < Γ3.length)
    (hw : swappedStores [.Tuple [.Name x px, .Name y py, .Name w pz] k0 pt] (.Tuple [a, b, c] k2 pt2) X.env = pure (some [x, y, w])) :
    PS X (.Assign [.Tuple [.Name x px, .Name y py, .Name w pz] k0 pt] (.Tuple [a, b, c] k2 pt2) pos) (tS C T E τr Γl Γ (((Γ3.set l τ3).set j τ2).set i τ1) (fun ρ => .bind (m1 ρ) fun x => .bind (m2 ρ) fun y => .bind (m3 ρ) fun z => .ret (.nx, setE (setE (setE ρ i x) j y) l z))) :=
  (ps_par3 (i := i) (j := j) (l := l) G.calm G.nd (by rw [G.hN]; exact hi) (by rw [G.hN]; exact hj) (by rw [G.hN]; exact hl) hij hil' hjl' (by rw [G.sc]; exact hx) (by rw [G.sc]; exact hy) (by rw [G.sc]; exact hz)
    (pa_cons ha (pa_cons hb (pa_cons hc pa_nil (starEach_cons nc)) (starEach_cons nb)) (starEach_cons na)) hw rfl).imp fun D σ H ⟨O, Fs, ρ, Qd, Ed, r, hm, x, k1, k2, k3, k4⟩ => by
  refine ⟨O, Fs, ρ, _, Ed, r, hm, x, fun d1 v1 H1 Fs1 F1 hd1 t1 r1 q1 nd1 n1 => ?_⟩
  refine ⟨plus O F1, Fs1, ρ, _, Ed, r1, hd1, x.tr (t1.drop.toS), fun d2 v2 H2 Fs2 F2 hd2 t2 r2 q2 nd2 n2 => ?_⟩
  refine ⟨plus (plus O F1) F2, Fs2, ρ, _, Ed, r2, hd2, (x.tr (t1.drop.toS)).tr t2.drop.toS, fun d3 v3 H3 Fs3 F3 hd3 t3 r3 q3 nd3 n3 => ?_⟩
  refine ⟨v1, v2, v3, rfl, ?_⟩
  have z2 : RepT C H3 (Oall (plus (plus (plus O F1) F2) F3) Fs3) τ2 v2 d2 F2 := mv2 t3 q2
  have z1 : RepT C H3 (Oall (plus (plus (plus O F1) F2) F3) Fs3) τ1 v1 d1 F1 := (mv2 t2 q1).mono t3.kp fun a o e z => by
    rcases z with (z | z) | z
    · exact .inl z
    · rcases t3.fr a (.inr z) with z | z
      · exact .inr z
      · rw [e] at z; cases z
    · rcases t3.fr a (.inl z) with z | z
      · exact .inr z
      · rw [e] at z; cases z
  have s1 := r3.store (i := l) (by rw [← r3.gl]; exact hll) nd3 n3 q3
  have s2 := s1.store (i := j) (by show j < (ρ.set l (some d3)).length; rw [List.length_set, ← r3.gl]; exact hjl) nd2 n2 (z2.mono (KpA.refl H3) fun a o e z => by
    rcases z with (z | z) | z
    · exact .inl (.inl (.inl z))
    · exact .inl (.inl (.inr z))
    · rcases ownd_updF z with z | z
      · exact .inr z
      · exact .inl (.inr z))
  have s3 := s2.store (i := i) (by show i < ((ρ.set l (some d3)).set j (some d2)).length; rw [List.length_set, List.length_set, ← r3.gl]; exact hil) nd1 n1 (z1.mono (KpA.refl H3) fun a o e z => by
    rcases z with (z | z) | z
    · exact .inl (.inl (.inl (.inl z)))
    · exact .inl (.inl (.inl (.inr z)))
    · rcases ownd_updF z with z | z
      · rcases ownd_updF z with z | z
        · exact .inr z
        · exact .inl (.inr z)
      · exact .inl (.inl (.inr z)))
  have ec : ((σ.set i (some v1)).set j (some v2)).set l (some v3) = ((σ.set l (some v3)).set j (some v2)).set i (some v1) := by
    rw [List.set_comm (some v1) (some v2) hij, List.set_comm (some v1) (some v3) hil', List.set_comm (some v2) (some v3) hjl']
  have ec2 : setE (setE (setE ρ i d1) j d2) l d3 = setE (setE (setE ρ l d3) j d2) i d1 := by
    show ((ρ.set i (some d1)).set j (some d2)).set l (some d3) = ((ρ.set l (some d3)).set j (some d2)).set i (some d1)
    rw [List.set_comm (some d1) (some d2) hij, List.set_comm (some d1) (some d3) hil', List.set_comm (some d2) (some d3) hjl']
  rw [ec]
  refine k1 _ _ H3 _ (by rw [← ec2]; exact hd3) ?_ s3
  refine ((t1.trans t2).trans t3).toS' fun a h => ?_
  rcases ownd_updF h with h | h
  · rcases ownd_updF h with h | h
    · rcases ownd_updF h with h | h
      · exact .inl h
      · exact .inr (List.mem_append_right _ h)
    · exact .inr (List.mem_append_left _ (List.mem_append_right _ h))
  · exact .inr (List.mem_append_left _ (List.mem_append_left _ h))
end
end Wb

end
section
/-! Wb: lists and dicts that change, the draws, errors. -/
namespace Wb
open PySem PySem.Spec PyProof.Rows L2
section
variable {C : Cn} {T : List (Addr × Str)} {E : XK} {X : Cx} {Φ : Fen} {I : Nfo} {Γl Γ Γ1 Γ2 Γ3 Γ' : List Ow} {τr τ τ1 τ2 τ3 : Ow} {m m1 m2 m3 : Env → M D} {pos p p2 p3 : Pos}
theorem all_get {α : Type} {f : α → Bool} {l : List α} {i : Nat} {x : α} (h : l.all f = true) (e : l[i]? = some x) : f x = true := List.all_eq_true.mp h x (List.mem_of_getElem? e)
theorem tabs_upd {H : Hp} {l : Addr} {o u : HO} (h : H l = some u) (hu : ownable u) (tb : LamX.Tabs T H) : LamX.Tabs T (upd H l o) := by
  intro q hq
  obtain ⟨ps, a1, a2, a3⟩ := tb q hq
  have n1 : q.1 ≠ l := fun e => by rw [e, h] at a1; cases a1; exact hu
  refine ⟨ps, by rw [upd_ne n1]; exact a1, a2, fun p' cv hcv => ?_⟩
  obtain ⟨c0, e1, e2⟩ := a3 p' cv hcv
  refine ⟨c0, e1, ?_⟩
  have n2 : c0 ≠ l := fun e => by rw [e, h] at e2; cases e2; exact hu
  rw [upd_ne n2]; exact e2
theorem sv_upd {H : Hp} {P : Addr → Prop} {l : Addr} {o : HO} (hl : P l) : Sv H P (upd H l o) P := fun a u e n => by
  have : a ≠ l := fun z => n (by rw [z]; exact hl)
  rw [upd_ne this, e]
  exact ⟨.same u, n⟩
/-- an owned thing changes -/
theorem Rl.mut {O : Addr → Prop} {Fs : Nat → List Addr} {σ : L2.St} {H : Hp} {ρ : Env} {i : Nat} {v : V} {d' : D} {l : Addr} {o u : HO} (r : Rl C T O Γ Fs σ H ρ) (nb : Γ.all noBo = true) (hi : i < ρ.length) (hv : σ[i]? = some (some v)) (ht : Γ[i]? = some τ) (hl : l ∈ Fs i)
    (hu : H l = some u) (hou : ownable u) (ho : ownable o) (q' : RepT C (upd H l o) (Oall O Fs) τ v d' (Fs i)) : Rl C T O Γ Fs σ (upd H l o) (setE ρ i d') ∧ TrS H Fs (upd H l o) Fs := by
  have hP : Oall O Fs l := .inr ⟨i, hl⟩
  have sv : Sv H (Oall O Fs) (upd H l o) (Oall O Fs) := sv_upd hP
  refine ⟨⟨by simp [setE, r.len], by simp [setE, r.gl], fun j e hj => ?_, r.nd, r.dj, r.dj0, fun a h => ?_, tabs_upd hu hou r.tabs⟩, fun a u e n => ?_⟩
  · by_cases hji : j = i
    · subst hji
      simp only [setE] at hj
      rw [List.getElem?_set_self hi] at hj
      cases hj
      exact ⟨v, τ, hv, ht, q'⟩
    · simp only [setE] at hj
      rw [List.getElem?_set_ne (Ne.symm hji)] at hj
      obtain ⟨v', τ', e1, e2, z⟩ := r.slot j e hj
      refine ⟨v', τ', e1, e2, z.monoS sv τ' (all_get nb e2) fun a ha => upd_ne fun e => hji ?_⟩
      subst e
      exact r.dj j i a ha hl
  · by_cases e : a = l
    · subst e; exact ⟨o, upd_same, ho⟩
    · obtain ⟨u, h1, h2⟩ := r.ok a h
      exact ⟨u, by rw [upd_ne e]; exact h1, h2⟩
  · have : a ≠ l := fun z => n ⟨i, by rw [z]; exact hl⟩
    rw [upd_ne this, e]
    exact ⟨.same u, n⟩
theorem all3_sh {H : Hp} {P : Addr → Prop} : ∀ {vs : List V} {ds : List D}, RepSs C H P vs ds → All3 (RepT C H P .sh) vs ds (List.replicate ds.length [])
  | _, _, .nil => .nil
  | _, _, .cons r q => .cons ⟨rfl, r⟩ (all3_sh q)
theorem flat_nil {α : Type} (n : Nat) : (List.replicate n ([] : List α)).flatten = [] := by
  induction n with
  | zero => rfl
  | succ n ih => rw [List.replicate_succ, List.flatten_cons, ih]; rfl
/-- a list of shared things -/
theorem repT_li {H : Hp} {P : Addr → Prop} {v : V} {d : D} {F : List Addr} (h : RepT C H P (.li .sh) v d F) : ∃ a vs ds, v = .ref a ∧ d = .lst ds ∧ H a = some (.lst vs) ∧ vs.length ≤ sizeLine ∧ F = [a] ∧ RepSs C H P vs ds := by
  obtain ⟨a, vs, ds, Fs, e1, e2, e3, e4, e5, e6⟩ := h
  refine ⟨a, vs, ds, e1, e2, e3, e4, ?_, sh_all e6⟩
  have key : ∀ {vs : List V} {ds : List D} {Fs : List (List Addr)}, All3 (RepT C H P .sh) vs ds Fs → Fs.flatten = [] := by
    intro vs ds Fs h
    induction h with
    | nil => rfl
    | cons r q ih => rw [List.flatten_cons, r.1, ih]; rfl
  rw [e5, key e6]
theorem li_repT {H : Hp} {P : Addr → Prop} {a : Addr} {vs : List V} {ds : List D} (h : H a = some (.lst vs)) (z : vs.length ≤ sizeLine) (q : RepSs C H P vs ds) : RepT C H P (.li .sh) (.ref a) (.lst ds) [a] :=
  ⟨a, vs, ds, _, rfl, rfl, h, z, by rw [flat_nil], all3_sh q⟩
/-- the receiver: a variable's own list -/
theorem var_own {O : Addr → Prop} {Fs : Nat → List Addr} {σ : L2.St} {H : Hp} {ρ : Env} {i : Nat} {d : D} (r : Rl C T O Γ Fs σ H ρ) (hd : ρ[i]? = some (some d)) (ht : Γ[i]? = some τ) : ∃ v, σ[i]? = some (some v) ∧ RepT C H (Oall O Fs) τ v d (Fs i) := by
  obtain ⟨v, τ', e1, e2, q⟩ := r.slot i d hd
  rw [ht] at e2; cases e2
  exact ⟨v, e1, q⟩
theorem updE_some {ρ ρ' : Env} {i : Nat} {f : D → Option D} (h : updE ρ i [] f = some ρ') : ∃ d d', ρ[i]? = some (some d) ∧ f d = some d' ∧ ρ' = setE ρ i d' := by
  unfold updE at h
  split at h
  · rename_i d e
    rw [updD, Option.map_eq_some_iff] at h
    obtain ⟨d', e1, e2⟩ := h
    exact ⟨d, d', e, e1, e2.symm⟩
  · cases h
theorem lt_of_get {α : Type} {l : List α} {i : Nat} {x : α} (h : l[i]? = some x) : i < l.length := (List.getElem?_eq_some_iff.mp h).1
theorem getE_v {ρ : Env} {i : Nat} {α : Type} {f : D → Option α} {y : α} (h : (getE ρ i []).bind f = some y) : ∃ d, ρ[i]? = some (some d) ∧ f d = some y := by
  unfold getE at h
  split at h
  · rename_i d e
    rw [getK] at h
    exact ⟨d, e, h⟩
  · cases h
/-- x.append(e) -/
theorem vs_app {i : Nat} {x : Str} {e : Expr} {apos cpos : Pos} (G : Gd X C T E Φ I) (hN : I.N[i]? = some x) (hvis : visB I.sc x = true) (hdb : dbgB x = true) (ht : Γ[i]? = some (.li .sh)) (ht1 : Γ1[i]? = some (.li .sh)) (nb : Γ1.all noBo = true) (he : PE X e (tV C T E Γ Γ1 .sh m)) (ns : nstB e = true) (hline : (apos.endLine == cpos.line) = true) :
    PS X (.Expr (.Call (.Attribute (.Name x p) "append" apos) [e] [] cpos) pos) (tS C T E τr Γl Γ Γ1 (fun ρ => .bind (keysP Φ (.v i) ρ) fun r => .bind (.opt ((getE ρ r.1 r.2).bind asLst)) fun _ => .bind (m ρ) fun y => .bind (.opt (updE ρ r.1 r.2 (appD y))) fun ρ' => .ret (.nx, ρ'))) := by
  have ho := pe_var (X := X) (pos := p) (i := i) (x := x) (by rw [G.hN]; exact hN) (G.vis hvis) (dbg1 hdb) (dbg2 hdb)
  have hb : attributeBase (.Name x p) "append" X.env (eval (.Name x p) X.env) = eval (.Name x p) X.env := rfl
  refine (ps_expr (pe_bm PySem.F.plainAttrs_list PySem.F.slot_list_append PySem.F.type_list_append mt_append ho (pa_cons he pa_nil (starEach_cons ns)) hb (by rw [starEach_cons ns]; rfl) hline (starEach_cons ns) rfl) rfl).imp fun D σ H ⟨O, Fs, ρ, Qd, Ed, r, hm, x, k1, k2, k3, k4⟩ => ?_
  obtain ⟨ds0, e0, hm'⟩ := opt_some (Q := fun _ => m ρ (fun y => M.opt (updE ρ i [] (appD y)) (fun ρ' => Qd (.nx, ρ')) Ed) Ed) hm
  obtain ⟨d0, hd0, hl0⟩ := getE_v e0
  obtain ⟨v, hv, q⟩ := var_own r hd0 ht
  obtain ⟨a, vs, ds, rfl, rfl, ha, z, eF, qs⟩ := repT_li q
  refine ⟨.ref a, hv, .inl ⟨rfl, vs, .inl (.inl ha)⟩, O, Fs, ρ, _, Ed, r, hm', x, fun d1 v1 H1 Fs1 hd1 t1 r1 q1 => ?_⟩
  obtain ⟨ρ', e1, hq⟩ := opt_some hd1
  obtain ⟨d2, d', g1, g2, rfl⟩ := updE_some e1
  rw [hd0] at g1; cases g1
  obtain ⟨v2, hv2, q2⟩ := var_own r1 hd0 ht1
  rw [hv] at hv2; cases hv2
  obtain ⟨a2, vs2, ds2, ea, ed, ha2, z2, eF2, qs2⟩ := repT_li q2
  cases ea
  cases ed
  rw [(t1.kp a _ ha).lst] at ha2; cases ha2
  have g3 : (if ds.length < sizeLine then some (.lst (ds ++ [d1])) else none) = some d' := g2
  by_cases hz : ds.length < sizeLine
  · rw [if_pos hz] at g3
    cases g3
    have hz' : vs.length < sizeLine := by rw [qs2.length]; exact hz
    have hl : a ∈ Fs1 i := by rw [eF2]; exact List.mem_cons_self
    have ha1 : H1 a = some (.lst vs) := (t1.kp a _ ha).lst
    have sv : Sv H1 (Oall O Fs1) (upd H1 a (.lst (vs ++ [v1]))) (Oall O Fs1) := sv_upd (.inr ⟨i, hl⟩)
    obtain ⟨r2, t2⟩ := r1.mut (o := .lst (vs ++ [v1])) (d' := .lst (ds ++ [d1])) nb (lt_of_get hd0) hv ht1 hl ha1 trivial trivial (by
      rw [eF2]
      exact li_repT upd_same (by rw [List.length_append]; exact hz') ((RepSs.mono sv _ _ qs2).snoc (RepS.mono sv _ _ q1)))
    exact ⟨a, vs, v1, rfl, rfl, ha1, hz', k1 _ σ _ Fs1 hq (t1.toS.trans t2) r2⟩
  · rw [if_neg hz] at g3; cases g3
/-- y = x.pop() -/
theorem vs_pop {i j : Nat} {x y : Str} {apos cpos : Pos} (G : Gd X C T E Φ I) (hN : I.N[j]? = some x) (hvis : visB I.sc x = true) (hdb : dbgB x = true) (hNi : I.N[i]? = some y) (hst : stB I y = true) (ht : Γ[j]? = some (.li .sh)) (nb : Γ.all noBo = true) (hi : i < Γ.length) (hline : (apos.endLine == cpos.line) = true) :
    PS X (.Assign [.Name y p2] (.Call (.Attribute (.Name x p) "pop" apos) [] [] cpos) pos) (tS C T E τr Γl Γ (Γ.set i .sh) (fun ρ => .bind (keysP Φ (.v j) ρ) fun r => .bind (.opt ((getE ρ r.1 r.2).bind lastD)) fun y => .bind (.opt (updE ρ r.1 r.2 popD)) fun ρ' => .ret (.nx, setE ρ' i y))) := by
  have ho := pe_var (X := X) (pos := p) (i := j) (x := x) (by rw [G.hN]; exact hN) (G.vis hvis) (dbg1 hdb) (dbg2 hdb)
  have hb : attributeBase (.Name x p) "pop" X.env (eval (.Name x p) X.env) = eval (.Name x p) X.env := rfl
  refine (ps_set (i := i) G.nd (by rw [G.hN]; exact hNi) (G.st hst).1 (pe_bm0 PySem.F.plainAttrs_list PySem.F.slot_list_pop PySem.F.type_list_pop mt_pop ho hb hline) (swaps_no rfl) (G.st hst).2).imp fun D σ H ⟨O, Fs, ρ, Qd, Ed, r, hm, x, k1, k2, k3, k4⟩ => ?_
  obtain ⟨dl, e0, hm'⟩ := opt_some (Q := fun y => M.opt (updE ρ j [] popD) (fun ρ' => Qd (.nx, setE ρ' i y)) Ed) hm
  obtain ⟨d0, hd0, hl0⟩ := getE_v e0
  obtain ⟨ρ', e1, hq⟩ := opt_some hm'
  obtain ⟨d2, d', g1, g2, rfl⟩ := updE_some e1
  rw [hd0] at g1; cases g1
  obtain ⟨v, hv, q⟩ := var_own r hd0 ht
  obtain ⟨a, vs, ds, rfl, rfl, ha, z, eF, qs⟩ := repT_li q
  have hl : a ∈ Fs j := by rw [eF]; exact List.mem_cons_self
  have hlast : ds[ds.length - 1]? = some dl := by
    have : ds.getLast? = some dl := hl0
    rw [List.getLast?_eq_getElem?] at this
    exact this
  obtain ⟨w, hw, qw⟩ := qs.get hlast
  rw [← qs.length] at hw
  have g3 : (if ds = [] then none else some (Wb.D.lst ds.dropLast)) = some d' := g2
  have hne : ds ≠ [] := fun e => by subst e; simp at hlast
  rw [if_neg hne] at g3
  cases g3
  have sv : Sv H (Oall O Fs) (upd H a (.lst vs.dropLast)) (Oall O Fs) := sv_upd (.inr ⟨j, hl⟩)
  obtain ⟨r2, t2⟩ := r.mut (o := .lst vs.dropLast) (d' := .lst ds.dropLast) nb (lt_of_get hd0) hv ht hl ha trivial trivial (by
    rw [eF]
    exact li_repT upd_same (by rw [List.length_dropLast]; omega) ((RepSs.mono sv _ _ qs).dropLast))
  have r2' : Rl C T (plus O []) Γ Fs σ (upd H a (.lst vs.dropLast)) (setE ρ j (.lst ds.dropLast)) := by rw [plus_nil]; exact r2
  obtain ⟨t3, r3⟩ := set_end (i := i) (τ := .sh) (d := dl) (v := w) (F := []) hi (TrE.refl _ Fs) r2' ⟨rfl, by rw [plus_nil]; exact RepS.mono sv _ _ qw⟩ List.nodup_nil (fun a h => absurd h (by simp))
  exact ⟨.ref a, hv, .inl ⟨rfl, vs, .inl (.inl ha)⟩, a, vs, w, rfl, rfl, ha, hw, k1 _ _ _ _ hq (t2.trans t3) r3⟩
/-! ### x op= e -/
theorem vs_aug {i : Nat} {x : Str} {e : Expr} {op : Operator} {rd : R2} {o : D → D → M D} (G : Gd X C T E Φ I) (hN : I.N[i]? = some x) (hst : stB I x = true) (ht : Γ[i]? = some .sh) (he : PE X e (tV C T E Γ Γ1 τ1 m)) (hop : PIp X op rd) (hi : i < Γ1.length)
    (sem : ∀ (O : Addr → Prop) (H : Hp) (x y : V) (dx dy : D) (Qd : D → Prop) (Ed : Exn → Prop) (Q : VK), (∀ a, O a → H a ≠ none) → RepR C H O .sh x dx → RepR C H O τ1 y dy → o dx dy Qd Ed → Sim C O H .sh Qd Q → rd x y H Q) :
    PS X (.AugAssign (.Name x p) op e pos) (tS C T E τr Γl Γ (Γ1.set i .sh) (fun ρ => .bind (.opt (ρ[i]?.join)) fun x => .bind (m ρ) fun y => .bind (o x y) fun z => .ret (.nx, setE ρ i z))) :=
  (ps_aug (i := i) G.nd (by rw [G.hN]; exact hN) (G.st hst).1 he hop (G.st hst).2).imp fun D σ H ⟨O, Fs, ρ, Qd, Ed, r, hm, x, k1, k2, k3, k4⟩ => by
  obtain ⟨d0, e0, hm'⟩ := opt_some hm
  obtain ⟨v, hv, q⟩ := var_own r (join_some e0) ht
  refine ⟨v, hv, O, Fs, ρ, _, Ed, r, hm', x, fun d1 v1 H1 Fs1 hd1 t1 r1 q1 => ?_⟩
  have q0 : RepS C H1 (Oall O Fs1) v d0 := RepS.mono (t1.kp.sv (own_mv t1)) _ _ q.2
  refine sem (Oall O Fs1) H1 v v1 d0 d1 _ Ed _ (Oall_ne r1) q0 q1 hd1 (sim_end (τ := .sh) r1 t1 fun d v2 H2 Fs2 F hd t2 r2 q2 nd n => ?_)
  obtain ⟨t3, r3⟩ := set_end (i := i) hi t2 r2 q2 nd n
  exact k1 _ _ H2 _ hd t3 r3
/-! ### x[k] = e -/
theorem getE_some {ρ : Env} {i : Nat} {d : D} (h : getE ρ i [] = some d) : ρ[i]? = some (some d) := by
  unfold getE at h
  split at h
  · rename_i d' e
    rw [getK] at h
    cases h
    exact e
  · cases h
theorem vs_putL {i : Nat} {x : Str} {k e : Expr} (G : Gd X C T E Φ I) (hN : I.N[i]? = some x) (hvis : visB I.sc x = true) (hdb : dbgB x = true) (ht1 : Γ1[i]? = some (.li .sh)) (ht : Γ2[i]? = some (.li .sh)) (nb : Γ2.all noBo = true) (he : PE X e (tV C T E Γ Γ1 .sh m1)) (hk : PE X k (tV C T E Γ1 Γ2 τ2 m2)) (hs : ncpB e = true) (hp : pixB k = true) :
    PS X (.Assign [.Subscript (.Name x p) k p2] e pos) (tS C T E τr Γl Γ Γ2 (fun ρ => .bind (m1 ρ) fun y => .bind (keysP Φ (.v i) ρ) fun r => .bind (.opt (getE ρ r.1 r.2)) fun _ => .bind (m2 ρ) fun z => .bind (.opt (updE ρ r.1 r.2 (setD z y))) fun ρ' => .ret (.nx, ρ'))) := by
  have ho := pe_var (X := X) (pos := p) (i := i) (x := x) (by rw [G.hN]; exact hN) (G.vis hvis) (dbg1 hdb) (dbg2 hdb)
  have hpu : ∀ v : Value, assign (.Subscript (.Name x p) k p2) X.env v = (do
      let ov ← holding [v] (eval (.Name x p) X.env)
      let iv ← holding [v, ov] (eval k X.env)
      standAt p2
      holding [v, ov, iv] (setItem ov iv v)
      release [v, ov, iv] []) := by
    intro v
    cases k <;> first | (cases hp; done) | rfl
  refine (ps_asg he (pg_sub ho hk set_list hpu) (swapsS_no hs) rfl rfl).imp fun D σ H ⟨O, Fs, ρ, Qd, Ed, r, hm, x, k1, k2, k3, k4⟩ => ?_
  refine ⟨O, Fs, ρ, _, Ed, r, hm, x, fun d1 v1 H1 Fs1 hd1 t1 r1 q1 => ?_⟩
  obtain ⟨d0, e0, hd1'⟩ := opt_some (Q := fun _ => m2 ρ (fun z => M.opt (updE ρ i [] (setD z d1)) (fun ρ' => Qd (.nx, ρ')) Ed) Ed) hd1
  obtain ⟨v, hv, _⟩ := var_own r1 (getE_some e0) ht1
  refine ⟨v, hv, O, Fs1, ρ, _, Ed, r1, hd1', x.tr t1.toS, fun d2 v2 H2 Fs2 hd2 t2 r2 q2 => ?_⟩
  obtain ⟨ρ', e1, hq⟩ := opt_some hd2
  obtain ⟨d0, d', g1, g2, rfl⟩ := updE_some e1
  obtain ⟨v', hv', q⟩ := var_own r2 g1 ht
  rw [hv] at hv'; cases hv'
  obtain ⟨a, vs, ds, rfl, rfl, ha, z, eF, qs⟩ := repT_li q
  cases d2 <;> first | (cases g2; done) | skip
  rename_i n
  have g3 : (ixN ds.length n).map (fun j => Wb.D.lst (ds.set j d1)) = some d' := g2
  obtain ⟨j, ej, rfl⟩ := Option.map_eq_some_iff.mp g3
  have en := q2.int
  subst en
  have hl : a ∈ Fs2 i := by rw [eF]; exact List.mem_cons_self
  have sv : Sv H2 (Oall O Fs2) (upd H2 a (.lst (vs.set j v1))) (Oall O Fs2) := sv_upd (.inr ⟨i, hl⟩)
  have q1' : RepS C H2 (Oall O Fs2) v1 d1 := RepS.mono (t2.kp.sv (own_mv t2)) _ _ q1
  obtain ⟨r3, t3⟩ := r2.mut (o := .lst (vs.set j v1)) (d' := .lst (ds.set j d1)) nb (lt_of_get g1) hv ht hl ha trivial trivial (by
    rw [eF]
    exact li_repT upd_same (by rw [List.length_set]; exact z) ((RepSs.mono sv _ _ qs).set j (RepS.mono sv _ _ q1')))
  exact ⟨a, vs, n, j, rfl, rfl, ha, by rw [qs.length]; exact ej, k1 _ σ _ Fs2 hq ((t1.trans t2).toS.trans t3) r3⟩
/-! dicts -/
theorem RepKs.any {H : Hp} {P : Addr → Prop} (k : Key) : ∀ {kvs : List (Key × V)} {ds : List (D × D)}, RepKs C H P kvs ds → (kvs.any fun kv => decide (kv.1 = k)) = (ds.any fun kv => decide (kyOf kv.1 = some (.k k)))
  | _, _, .nil => rfl
  | _, _, .cons (k := k') r q => by
    rw [List.any_cons, List.any_cons, RepKs.any k q, kyOf_d]
    simp
theorem RepKs.repl {H : Hp} {P : Addr → Prop} {v : V} {d : D} (rv : RepS C H P v d) (k : Key) : ∀ {kvs : List (Key × V)} {ds : List (D × D)}, RepKs C H P kvs ds → RepKs C H P (kvs.map fun kv => if kv.1 = k then (kv.1, v) else kv) (ds.map fun kv => if kyOf kv.1 = some (.k k) then (kv.1, d) else kv)
  | _, _, .nil => .nil
  | _, _, .cons (k := k') r q => by
    rw [List.map_cons, List.map_cons]
    have ih := RepKs.repl rv k q
    by_cases e : k' = k
    · subst e
      rw [if_pos rfl, if_pos (kyOf_d k')]
      exact .cons rv ih
    · rw [if_neg e, if_neg (by rw [kyOf_d]; simpa using e)]
      exact .cons r ih
theorem RepKs.snoc {H : Hp} {P : Addr → Prop} {v : V} {d : D} (rv : RepS C H P v d) (k : Key) : ∀ {kvs : List (Key × V)} {ds : List (D × D)}, RepKs C H P kvs ds → RepKs C H P (kvs ++ [(k, v)]) (ds ++ [(dOfK k, d)])
  | _, _, .nil => .cons rv .nil
  | _, _, .cons r q => .cons r (q.snoc rv k)
theorem RepKs.put {H : Hp} {P : Addr → Prop} {v : V} {d : D} (rv : RepS C H P v d) (k : Key) {kvs : List (Key × V)} {ds : List (D × D)} (q : RepKs C H P kvs ds) : RepKs C H P (putK kvs k v) (putD ds (.k k) d) := by
  unfold putK putD
  rw [q.any k]
  split
  · exact q.repl rv k
  · exact q.snoc rv k
theorem RepTs.any {H : Hp} {P : Addr → Prop} (k : List Key) : ∀ {kvs : List (List Key × V)} {ds : List (D × D)}, RepTs C H P kvs ds → (kvs.any fun kv => decide (kv.1 = k)) = (ds.any fun kv => decide (kyOf kv.1 = some (.t k)))
  | _, _, .nil => rfl
  | _, _, .cons (k := k') hk r q => by
    rw [List.any_cons, List.any_cons, RepTs.any k q, kyOf_t]
    simp
theorem RepTs.repl {H : Hp} {P : Addr → Prop} {v : V} {d : D} (rv : RepS C H P v d) (k : List Key) : ∀ {kvs : List (List Key × V)} {ds : List (D × D)}, RepTs C H P kvs ds → RepTs C H P (kvs.map fun kv => if kv.1 = k then (kv.1, v) else kv) (ds.map fun kv => if kyOf kv.1 = some (.t k) then (kv.1, d) else kv)
  | _, _, .nil => .nil
  | _, _, .cons (k := k') hk r q => by
    rw [List.map_cons, List.map_cons]
    have ih := RepTs.repl rv k q
    by_cases e : k' = k
    · subst e
      rw [if_pos rfl, if_pos (kyOf_t k')]
      exact .cons hk rv ih
    · rw [if_neg e, if_neg (by rw [kyOf_t]; simpa using e)]
      exact .cons hk r ih
theorem RepTs.snoc {H : Hp} {P : Addr → Prop} {v : V} {d : D} (rv : RepS C H P v d) (k : List Key) (hk : k.length ≤ sizeLine) : ∀ {kvs : List (List Key × V)} {ds : List (D × D)}, RepTs C H P kvs ds → RepTs C H P (kvs ++ [(k, v)]) (ds ++ [(.tup (k.map dOfK), d)])
  | _, _, .nil => .cons hk rv .nil
  | _, _, .cons hk' r q => .cons hk' r (q.snoc rv k hk)
theorem RepTs.put {H : Hp} {P : Addr → Prop} {v : V} {d : D} (rv : RepS C H P v d) (k : List Key) (hk : k.length ≤ sizeLine) {kvs : List (List Key × V)} {ds : List (D × D)} (q : RepTs C H P kvs ds) : RepTs C H P (putK kvs k v) (putD ds (.t k) d) := by
  unfold putK putD
  rw [q.any k]
  split
  · exact q.repl rv k
  · exact q.snoc rv k hk
theorem RepKs.length {H : Hp} {P : Addr → Prop} : ∀ {kvs : List (Key × V)} {ds : List (D × D)}, RepKs C H P kvs ds → kvs.length = ds.length
  | _, _, .nil => rfl
  | _, _, .cons _ q => by simp [q.length]
theorem RepTs.length {H : Hp} {P : Addr → Prop} : ∀ {kvs : List (List Key × V)} {ds : List (D × D)}, RepTs C H P kvs ds → kvs.length = ds.length
  | _, _, .nil => rfl
  | _, _, .cons _ _ q => by simp [q.length]
theorem putK_notDraw {kvs : List (Key × V)} {k : Key} {v : V} (n : notDraw kvs) (hk : k ≠ .inr ("whole" : Str)) : notDraw (putK kvs k v) := by
  unfold notDraw at n ⊢
  unfold putK
  split
  · cases kvs with
    | nil => simp
    | cons kv r =>
      rw [List.map_cons]
      simp only [List.head?_cons, Option.map_some] at n ⊢
      split
      · exact n
      · exact n
  · cases kvs with
    | nil => simpa using hk
    | cons kv r => simpa using n
theorem kyT_k {τ' : Ow} {H : Hp} {P : Addr → Prop} {y : V} {dy : D} {q : Ky} (hy : RepR C H P τ' y dy) (hk : kyT false dy = some q) : ∃ k0 : Key, q = .k k0 ∧ y = kV k0 := by
  cases dy <;> simp [kyT] at hk <;> subst hk
  · exact ⟨_, rfl, hy.int⟩
  · obtain ⟨t, F, hy⟩ := hy.T
    have : ∀ {t : Ow} {F : List Addr} {x : Str}, RepT C H P t y (.str x) F → y = .str x := by
      intro t
      induction t with
      | sh => intro F x h; cases h.2; rfl
      | li t => intro F x h; obtain ⟨_, _, _, _, _, e, _⟩ := h; cases e
      | dk => intro F x h; obtain ⟨_, _, _, _, e, _⟩ := h; cases e
      | dt => intro F x h; obtain ⟨_, _, _, _, e, _⟩ := h; cases e
      | bo t ih => intro F x h; obtain ⟨_, _, h⟩ := h; exact ih h
    exact ⟨_, rfl, this hy⟩
theorem kyT_t {τ' : Ow} {H : Hp} {P : Addr → Prop} {y : V} {dy : D} {q : Ky} (hy : RepR C H P τ' y dy) (hk : kyT true dy = some q) : ∃ (ks : List Key) (b : Addr), q = .t ks ∧ y = .ref b ∧ H b = some (.tup (ks.map kV)) ∧ ks.length ≤ sizeLine := by
  cases dy with
  | tup es =>
    simp only [kyT, Option.map_eq_some_iff] at hk
    obtain ⟨ks, e1, rfl⟩ := hk
    obtain ⟨b, vs, rfl, nb, rb, zb, qb⟩ := hy.tup
    rw [ksOf_inv e1] at qb
    have ev := vals_kV qb
    subst ev
    exact ⟨ks, b, rfl, rfl, rb, by rw [List.length_map] at zb; exact zb⟩
  | _ => simp [kyT] at hk
theorem vs_putD {i : Nat} {t : Bool} {x : Str} {k e : Expr} (G : Gd X C T E Φ I) (hN : I.N[i]? = some x) (hvis : visB I.sc x = true) (hdb : dbgB x = true) (hτ : τ = if t = true then Ow.dt else Ow.dk) (ht1 : Γ1[i]? = some τ) (ht : Γ2[i]? = some τ) (nb : Γ2.all noBo = true) (he : PE X e (tV C T E Γ Γ1 .sh m1)) (hk : PE X k (tV C T E Γ1 Γ2 τ2 m2)) (hs : ncpB e = true) (hp : pixB k = true) :
    PS X (.Assign [.Subscript (.Name x p) k p2] e pos) (tS C T E τr Γl Γ Γ2 (fun ρ => .bind (m1 ρ) fun y => .bind (keysP Φ (.v i) ρ) fun r => .bind (.opt (getE ρ r.1 r.2)) fun _ => .bind (m2 ρ) fun z => .bind (.opt (updE ρ r.1 r.2 (setD z y))) fun ρ' => .ret (.nx, ρ'))) := by
  have ho := pe_var (X := X) (pos := p) (i := i) (x := x) (by rw [G.hN]; exact hN) (G.vis hvis) (dbg1 hdb) (dbg2 hdb)
  refine (ps_dput G.units ho hk he (swaps_no hs)).imp fun D σ H ⟨O, Fs, ρ, Qd, Ed, r, hm, x, k1, k2, k3, k4⟩ => ?_
  refine ⟨O, Fs, ρ, _, Ed, r, hm, x, fun d1 v1 H1 Fs1 hd1 t1 r1 q1 => ?_⟩
  obtain ⟨d0, e0, hd1'⟩ := opt_some (Q := fun _ => m2 ρ (fun z => M.opt (updE ρ i [] (setD z d1)) (fun ρ' => Qd (.nx, ρ')) Ed) Ed) hd1
  obtain ⟨v, hv, _⟩ := var_own r1 (getE_some e0) ht1
  refine ⟨v, hv, O, Fs1, ρ, _, Ed, r1, hd1', x.tr t1.toS, fun d2 v2 H2 Fs2 hd2 t2 r2 q2 => ?_⟩
  obtain ⟨ρ', e1, hq⟩ := opt_some hd2
  obtain ⟨d0', d', g1, g2, rfl⟩ := updE_some e1
  obtain ⟨v', hv', q⟩ := var_own r2 g1 ht
  rw [hv] at hv'; cases hv'
  have q1' : RepS C H2 (Oall O Fs2) v1 d1 := RepS.mono (t2.kp.sv (own_mv t2)) _ _ q1
  cases t with
  | false =>
    rw [if_neg (by decide)] at hτ
    subst hτ
    obtain ⟨a, kvs, ds, rfl, rfl, ha, z, nd, eF, qs⟩ := q
    have g3 : (kyT false d2).bind (fun q => if ds.length < sizeLine ∧ q ≠ .k (.inr ("whole" : Str)) then some (Wb.D.dct false (putD ds q d1)) else none) = some d' := g2
    obtain ⟨q, eq, g4⟩ := Option.bind_eq_some_iff.mp g3
    obtain ⟨k0, rfl, rfl⟩ := kyT_k q2 eq
    split at g4
    · rename_i hc
      cases g4
      have hl : a ∈ Fs2 i := by rw [eF]; exact List.mem_cons_self
      have nd' : notDraw (putK kvs k0 v1) := putK_notDraw nd fun z => hc.2 (by rw [z])
      have sv : Sv H2 (Oall O Fs2) (upd H2 a (.dK (putK kvs k0 v1))) (Oall O Fs2) := sv_upd (.inr ⟨i, hl⟩)
      have hz : kvs.length < sizeLine := by rw [qs.length]; exact hc.1
      obtain ⟨r3, t3⟩ := r2.mut (o := .dK (putK kvs k0 v1)) (d' := .dct false (putD ds (.k k0) d1)) nb (lt_of_get g1) hv ht hl ha nd nd' (by
        rw [eF]
        exact ⟨a, _, _, rfl, rfl, upd_same, Nat.le_trans (length_putK _ _ _) hz, nd', rfl, (RepKs.mono sv _ _ qs).put (RepS.mono sv _ _ q1') k0⟩)
      exact ⟨a, _, rfl, DPut.k ha hz, k1 _ σ _ Fs2 hq ((t1.trans t2).toS.trans t3) r3⟩
    · cases g4
  | true =>
    rw [if_pos rfl] at hτ
    subst hτ
    obtain ⟨a, kvs, ds, rfl, rfl, ha, z, eF, qs⟩ := q
    have g3 : (kyT true d2).bind (fun q => if ds.length < sizeLine ∧ q ≠ .k (.inr ("whole" : Str)) then some (Wb.D.dct true (putD ds q d1)) else none) = some d' := g2
    obtain ⟨q, eq, g4⟩ := Option.bind_eq_some_iff.mp g3
    obtain ⟨k0, b, rfl, rfl, hb, hkl⟩ := kyT_t q2 eq
    split at g4
    · rename_i hc
      cases g4
      have hl : a ∈ Fs2 i := by rw [eF]; exact List.mem_cons_self
      have sv : Sv H2 (Oall O Fs2) (upd H2 a (.dT (putK kvs k0 v1))) (Oall O Fs2) := sv_upd (.inr ⟨i, hl⟩)
      have hz : kvs.length < sizeLine := by rw [qs.length]; exact hc.1
      obtain ⟨r3, t3⟩ := r2.mut (o := .dT (putK kvs k0 v1)) (d' := .dct true (putD ds (.t k0) d1)) nb (lt_of_get g1) hv ht hl ha trivial trivial (by
        rw [eF]
        exact ⟨a, _, _, rfl, rfl, upd_same, Nat.le_trans (length_putK _ _ _) hz, rfl, (RepTs.mono sv _ _ qs).put (RepS.mono sv _ _ q1') k0 hkl⟩)
      exact ⟨a, _, rfl, DPut.t ha hb hz, k1 _ σ _ Fs2 hq ((t1.trans t2).toS.trans t3) r3⟩
    · cases g4
end
end Wb

end
section
/-! Wb: the draws, errors. -/
namespace Wb
open PySem PySem.Spec PyProof.Rows L2
section
variable {C : Cn} {T : List (Addr × Str)} {E : XK} {X : Cx} {Φ : Fen} {I : Nfo} {Γl Γ Γ1 Γ2 Γ3 Γ' : List Ow} {τr τ τ1 τ2 τ3 : Ow} {m m1 m2 m3 : Env → M D} {pos p p2 p3 : Pos}
theorem RepT.tok : ∀ {t : Ow} {H : Hp} {P : Addr → Prop} {v : V} {F : List Addr}, RepT C H P t v .tok F → ∃ (a c : Addr) (w n : Int) (cs : List Int), v = .ref a ∧ ¬ P a ∧ ¬ P c ∧ H a = some (drawO w c n) ∧ 0 ≤ w ∧ cs.length ≤ 1000 ∧ H c = some (.lst (cs.map V.int))
  | .sh, _, _, _, _, h => by
    obtain ⟨_, h⟩ := h
    cases h with
    | tok n1 n2 h0 h1 h2 h3 => exact ⟨_, _, _, _, _, rfl, n1, n2, h0, h1, h2, h3⟩
  | .li t, _, _, _, _, h => by obtain ⟨_, _, _, _, _, e, _⟩ := h; cases e
  | .dk, _, _, _, _, h => by obtain ⟨_, _, _, _, e, _⟩ := h; cases e
  | .dt, _, _, _, _, h => by obtain ⟨_, _, _, _, e, _⟩ := h; cases e
  | .bo t, _, _, _, _, h => by obtain ⟨_, _, h⟩ := h; exact h.tok
def tokM (f : (D → Prop) → Prop) (o : Option (Option D)) : M D := .bind (.opt o.join) fun x => match x with
    | .tok => fun Q _ => f Q
    | _ => .fail
theorem tokM_is {f : (D → Prop) → Prop} {o : Option (Option D)} {Q : D → Prop} {Ed : Exn → Prop} (h : tokM f o Q Ed) : o = some (some .tok) ∧ f Q := by
  obtain ⟨d, e, h⟩ := opt_some h
  cases d <;> first | exact (h : False).elim | exact ⟨join_some e, h⟩
/-- draw['..'] -/
theorem ve_tok {i : Nat} {x k : Str} {j : Nat} {f : (D → Prop) → Prop} (G : Gd X C T E Φ I) (hN : I.N[i]? = some x) (hvis : visB I.sc x = true) (hdb : dbgB x = true)
    (sem : ∀ (a c : Addr) (w n : Int) (cs : List Int) (P : Addr → Prop) (H : Hp) (Q : D → Prop), ¬ P c → H a = some (drawO w c n) → 0 ≤ w → cs.length ≤ 1000 → H c = some (.lst (cs.map V.int)) → f Q → ∃ v d, valV (drawK w c n) (.inr k) = some v ∧ RepS C H P v d ∧ Q d) :
    PE X (.Subscript (.Name x p) (.Constant (.str k) j p2) pos) (tV C T E Γ Γ .sh (fun ρ => tokM f (ρ[i]?))) := by
  have ho := pe_var (X := X) (pos := p) (i := i) (x := x) (by rw [G.hN]; exact hN) (G.vis hvis) (dbg1 hdb) (dbg2 hdb)
  refine (pe_ix (ix_dict G.units) ho (pe_str (x := k) (j := j) (pos := p2)) (fun _ _ => rfl)).imp fun σ H Q ⟨O, Fs, ρ, Qd, Ed, r, hm, xp, kk⟩ => ?_
  obtain ⟨e, hf⟩ := tokM_is hm
  obtain ⟨v, τ', e1, e2, q⟩ := r.slot i _ e
  obtain ⟨a, c, w, n, cs, rfl, n1, n2, h0, h1, h2, h3⟩ := q.tok
  obtain ⟨v, d, ev, rv, hq⟩ := sem a c w n cs _ H Qd n2 h0 h1 h2 h3 hf
  exact ⟨.ref a, e1, a, v, rfl, .inl ⟨drawK w c n, .inr k, .inl h0, rfl, ev.symm⟩, kk d v H Fs hq (TrE.refl H Fs) r rv⟩
theorem ve_tokW {i : Nat} {x : Str} {j : Nat} (G : Gd X C T E Φ I) (hN : I.N[i]? = some x) (hvis : visB I.sc x = true) (hdb : dbgB x = true) : PE X (.Subscript (.Name x p) (.Constant (.str "whole") j p2) pos) (tV C T E Γ Γ .sh (evE Φ (.tokW i))) :=
  (ve_tok (f := fun Q => ∀ w : Int, 0 ≤ w → Q (.int w)) G hN hvis hdb fun a c w n cs P H Q _ _ hw _ _ hf => ⟨.int w, .int w, rfl, .int w, hf w hw⟩).imp fun σ H Q ⟨O, Fs, ρ, Qd, Ed, r, hm, k⟩ => ⟨O, Fs, ρ, Qd, Ed, r, by rw [evE] at hm; exact hm, k⟩
theorem ve_tokN {i : Nat} {x : Str} {j : Nat} (G : Gd X C T E Φ I) (hN : I.N[i]? = some x) (hvis : visB I.sc x = true) (hdb : dbgB x = true) : PE X (.Subscript (.Name x p) (.Constant (.str "count") j p2) pos) (tV C T E Γ Γ .sh (evE Φ (.tokN i))) :=
  (ve_tok (f := fun Q => ∀ w : Int, Q (.int w)) G hN hvis hdb fun a c w n cs P H Q _ _ hw _ _ hf => ⟨.int n, .int n, rfl, .int n, hf n⟩).imp fun σ H Q ⟨O, Fs, ρ, Qd, Ed, r, hm, k⟩ => ⟨O, Fs, ρ, Qd, Ed, r, by rw [evE] at hm; exact hm, k⟩
theorem ve_tokC {i : Nat} {x : Str} {j : Nat} (G : Gd X C T E Φ I) (hN : I.N[i]? = some x) (hvis : visB I.sc x = true) (hdb : dbgB x = true) : PE X (.Subscript (.Name x p) (.Constant (.str "cells") j p2) pos) (tV C T E Γ Γ .sh (evE Φ (.tokC i))) :=
  (ve_tok (f := fun Q => ∀ ns : List Int, ns.length ≤ 1000 → Q (.lst (ns.map .int))) G hN hvis hdb fun a c w n cs P H Q nc _ hw hl hc hf => ⟨.ref c, .lst (cs.map .int), rfl, .lst nc (.inl hc) (by rw [List.length_map, sizeLine_eq]; omega) (repInts cs), hf cs hl⟩).imp fun σ H Q ⟨O, Fs, ρ, Qd, Ed, r, hm, k⟩ => ⟨O, Fs, ρ, Qd, Ed, r, by rw [evE] at hm; exact hm, k⟩
theorem tok_kp {H : Hp} {a c : Addr} {w n w' n' : Int} (h : H a = some (drawO w c n)) (hw : 0 ≤ w') : KpA H (upd H a (drawO w' c n')) := fun b u e => by
  by_cases hb : b = a
  · subst hb
    rw [h] at e; cases e
    rw [upd_same]
    exact .draw hw
  · rw [upd_ne hb, e]; exact .same u
theorem tok_tabs {H : Hp} {a c : Addr} {w n w' n' : Int} (h : H a = some (drawO w c n)) (tb : LamX.Tabs T H) : LamX.Tabs T (upd H a (drawO w' c n')) := by
  intro q hq
  obtain ⟨ps, a1, a2, a3⟩ := tb q hq
  have n1 : q.1 ≠ a := fun e => by rw [e, h] at a1; cases a1
  refine ⟨ps, by rw [upd_ne n1]; exact a1, a2, fun p' cv hcv => ?_⟩
  obtain ⟨c0, e1, e2⟩ := a3 p' cv hcv
  refine ⟨c0, e1, ?_⟩
  have n2 : c0 ≠ a := fun e => by
    rw [e, h] at e2
    cases e2
  rw [upd_ne n2]; exact e2
/-- draw['whole'] = draw['whole'] // e -/
theorem vs_tokDiv {i : Nat} {x : Str} {e : Expr} {j j2 : Nat} {p4 p5 p6 p8 : Pos} (G : Gd X C T E Φ I) (hN : I.N[i]? = some x) (hvis : visB I.sc x = true) (hdb : dbgB x = true) (he : PE X e (tV C T E Γ Γ1 τ1 m)) :
    PS X (.Assign [.Subscript (.Name x p) (.Constant (.str "whole") j p2) p3] (.BinOp (.Subscript (.Name x p4) (.Constant (.str "whole") j2 p5) p6) .FloorDiv e p8) pos) (tS C T E τr Γl Γ Γ1 (fun ρ => .bind (.opt (ρ[i]?.join)) fun x => match x with
    | .tok => .bind (m ρ) fun y => match y with
      | .int j => .need (CDivW 0 j) (.ret (.nx, ρ))
      | _ => .fail
    | _ => .fail)) := by
  have ho := fun q => pe_var (X := X) (pos := q) (i := i) (x := x) (by rw [G.hN]; exact hN) (G.vis hvis) (dbg1 hdb) (dbg2 hdb)
  have hv := pe_op op_fdivW (pe_ix (ix_dict G.units) (ho p4) (pe_str (x := "whole") (j := j2) (pos := p5)) (fun _ _ => rfl) (pos := p6)) he (pos := p8)
  refine (ps_dput G.units (ho p) (pe_str (x := "whole") (j := j) (pos := p2)) hv (swaps_no rfl)).imp fun D σ H ⟨O, Fs, ρ, Qd, Ed, r, hm, xx, k1, k2, k3, k4⟩ => ?_
  obtain ⟨d0, e0, hm1⟩ := opt_some hm
  cases d0 <;> first | exact (hm1 : False).elim | skip
  obtain ⟨v, τ', e1, e2, q⟩ := r.slot i _ (join_some e0)
  obtain ⟨a, c, w, n, cs, rfl, n1, n2, h0, h1, h2, h3⟩ := q.tok
  refine ⟨.ref a, e1, a, .int w, rfl, .inl ⟨drawK w c n, .inr "whole", .inl h0, rfl, rfl⟩, O, Fs, ρ, _, Ed, r, hm1, xx, fun d1 v1 H1 Fs1 hd1 t1 r1 q1 => ?_⟩
  cases d1 <;> first | exact (hd1 : False).elim | skip
  rename_i y
  obtain ⟨hc, hq⟩ := hd1
  have ey := q1.int
  subst ey
  obtain ⟨v', τ2, e1', e2', q'⟩ := r1.slot i _ (join_some e0)
  rw [e1] at e1'; cases e1'
  obtain ⟨a', c', w', n', cs', ea, m1', m2', h0', h1', h2', h3'⟩ := q'.tok
  cases ea
  have hw : 0 ≤ w / y := Int.ediv_nonneg h1 (Int.le_of_lt hc.1)
  refine ⟨w, y, rfl, rfl, hc, .ref a, e1, a, upd H1 a (drawO (w / y) c' n'), rfl, .inl ⟨drawK w' c' n', .inr "whole", h0', rfl, by show 3 < sizeLine; rw [sizeLine_eq]; omega, rfl⟩, ?_⟩
  have kp := tok_kp (n' := n') h0' hw
  have r2 := r1.grow kp (tok_tabs h0' r1.tabs)
  exact k1 ρ σ _ Fs1 hq (t1.toS.trans fun b u e nn => ⟨kp b u e, nn⟩) r2
/-- draw['count'] = draw['count'] + 1 -/
theorem vs_tokInc {i : Nat} {x : Str} {j j2 j3 : Nat} {p4 p5 p6 p7 p8 : Pos} (G : Gd X C T E Φ I) (hN : I.N[i]? = some x) (hvis : visB I.sc x = true) (hdb : dbgB x = true) :
    PS X (.Assign [.Subscript (.Name x p) (.Constant (.str "count") j p2) p3] (.BinOp (.Subscript (.Name x p4) (.Constant (.str "count") j2 p5) p6) .Add (.Constant (.int 1) j3 p7) p8) pos) (tS C T E τr Γl Γ Γ (fun ρ => .bind (.opt (ρ[i]?.join)) fun x => match x with
    | .tok => .ret (.nx, ρ)
    | _ => .fail)) := by
  have ho := fun q => pe_var (X := X) (pos := q) (i := i) (x := x) (by rw [G.hN]; exact hN) (G.vis hvis) (dbg1 hdb) (dbg2 hdb)
  have hv := pe_op op_add (pe_ix (ix_dict G.units) (ho p4) (pe_str (x := "count") (j := j2) (pos := p5)) (fun _ _ => rfl) (pos := p6)) (pe_int (i := 1) (j := j3) (pos := p7)) (pos := p8)
  refine (ps_dput G.units (ho p) (pe_str (x := "count") (j := j) (pos := p2)) hv (swaps_no rfl)).imp fun D σ H ⟨O, Fs, ρ, Qd, Ed, r, hm, xx, k1, k2, k3, k4⟩ => ?_
  obtain ⟨d0, e0, hm1⟩ := opt_some hm
  cases d0 <;> first | exact (hm1 : False).elim | skip
  obtain ⟨v, τ', e1, e2, q⟩ := r.slot i _ (join_some e0)
  obtain ⟨a, c, w, n, cs, rfl, n1, n2, h0, h1, h2, h3⟩ := q.tok
  refine ⟨.ref a, e1, a, .int n, rfl, .inl ⟨drawK w c n, .inr "count", .inl h0, rfl, rfl⟩, n, 1, rfl, rfl, .ref a, e1, a, upd H a (drawO w c (n + 1)), rfl, .inl ⟨drawK w c n, .inr "count", h0, rfl, by show 3 < sizeLine; rw [sizeLine_eq]; omega, rfl⟩, ?_⟩
  have kp := tok_kp (n' := n + 1) h0 h1
  have r2 := r.grow kp (tok_tabs h0 r.tabs)
  exact k1 ρ σ _ Fs hm1 (fun b u e nn => ⟨kp b u e, nn⟩) r2
/-! ### raise -/
theorem vs_raise {c msg : Str} {j : Nat} (G : Gd X C T E Φ I) (hc : c ∈ I.tab.exs) (hg : glB I.sc c = true) (hdb : dbgB c = true) : PS X (.Raise (some (.Call (.Name c p) [.Constant (.str msg) j p2] [] p3)) none pos) (tS C T E τr Γl Γ Γ' (fun _ => .throw ⟨c, none⟩)) := by
  obtain ⟨A, bmB, B, nI, iI, F, q, gC, kC, rs⟩ := G.exs c hc
  refine (ps_raise G.calm G.tk (pmk_own F q gC kC rs (G.gl hg) (dbg1 hdb))).imp fun D σ H ⟨O, Fs, ρ, Qd, Ed, r, hm, xx, k1, k2, k3, k4⟩ => ?_
  exact xx ⟨c, none⟩ (.ref A) none H hm (fun a o e _ => by rw [e]; exact .same o) r.tabs ⟨A, by rw [G.hC]; exact gC, rfl, rfl⟩
end
end Wb

end
section
/-! Wb: enumerate over a tuple. -/
namespace Wb
open PySem
open PySem.Sem (wp)
open AutoSeq1 (wpAny_loadPart')
theorem meets_enumT (l : Addr) (items : Array Value) (n : Nat) (dct : Option Addr) (sl : Array (Option Value)) :
    Meets (Builtin.«enumerate.__new__» ⟨[.type "enumerate", .ref l], []⟩) (fun _ R s => s.heap.get? l = some { cls := .type "tuple", dict := dct, data := .seq items n, slots := sl } ∧
      R (.ok (.ret (.ref (s.heap.push { cls := .type "tuple_iterator", data := .fields #[.ref l, .int 0 0] }).objs.size)))
        { s with heap := (s.heap.push { cls := .type "tuple_iterator", data := .fields #[.ref l, .int 0 0] }).push { cls := .type "enumerate", data := .fields #[.none, .bool false, .ref s.heap.objs.size, rawInt 0, .none, .none] } }) :=
  .of_wp fun prog w A R s h => by
    obtain ⟨hp, g, d, tk, os⟩ := s
    obtain ⟨hl, h⟩ := h
    have hsub := sub_enumerate
    have hL : Heap.IsTuple (Shared.heap ⟨hp, g, d, tk, os⟩) l items := ⟨_, hl, rfl, n, rfl⟩
    wp_walk using wpAny_loadPart' hl
    refine wpAny_stack_any fun st => wpAny_pure ?_
    split
    · rename_i c _ _ _ _ _
      cases (c == Value.type "enumerate") <;> (wp_walk using wpAny_loadPart' hl, wpAny_pyIter_tuple hL; exact ⟨_, rfl, h⟩)
    · wp_walk using wpAny_loadPart' hl, wpAny_pyIter_tuple hL
      exact ⟨_, rfl, h⟩
section
variable {prog : Program} {w : World} {A : Around} {E : Value → Shared → Prop} {s : Shared}
theorem call_enumT {l : Addr} {items : Array Value} {Q : Value → Shared → Prop} (hL : s.heap.IsTuple l items)
    (h : ∀ h', IsEnum h' (s.heap.objs.size + 1) s.heap.objs.size 0 .none → h'.IsTupleIter s.heap.objs.size l 0 → (∀ b o, s.heap.get? b = some o → h'.get? b = some o) → Q (.ref (s.heap.objs.size + 1)) { s with heap := h' }) :
    wpAny (model prog w) A (call (.type "enumerate") [.ref l]) Q E s := by
  obtain ⟨⟨c, dct, dt, sl⟩, hl, hc, n, hd⟩ := hL
  replace hc : c = .type "tuple" := hc
  replace hd : dt = .seq items n := hd
  subst hc hd
  refine callType_new F.called_enumerate (by decide) (F.typeCall_enumerate_1 _) (F.newCall_enumerate_1 _) (fun obj => F.args_object_init_2 obj _) F.entry_enumerate_new (meets_enumT l items n dct sl) ⟨hl, ?_⟩
  have hz : (s.heap.push { cls := .type "tuple_iterator", data := .fields #[.ref l, .int 0 0] }).objs.size = s.heap.objs.size + 1 := Heap.size_push ..
  show _ ∧ _
  rw [hz]
  have he : IsEnum ((s.heap.push { cls := .type "tuple_iterator", data := .fields #[.ref l, .int 0 0] }).push { cls := .type "enumerate", data := .fields #[.none, .bool false, .ref s.heap.objs.size, rawInt 0, .none, .none] }) (s.heap.objs.size + 1) s.heap.objs.size 0 .none := by
    have := Heap.get?_push_size (s.heap.push { cls := .type "tuple_iterator", data := .fields #[.ref l, .int 0 0] }) (o := { cls := .type "enumerate", data := .fields #[.none, .bool false, .ref s.heap.objs.size, rawInt 0, .none, .none] }) rfl
    rw [hz] at this
    exact this
  exact ⟨⟨_, he, rfl⟩, h _ he ⟨_, Heap.get?_push_of_some _ (Heap.get?_push_size _ rfl), rfl, rfl⟩ fun b o x => Heap.get?_push_of_some _ (Heap.get?_push_of_some _ x)⟩
/-- the step of enumerate over any iterator whose own step is told -/
theorem enum_step {e it : Addr} {i : Nat} {x old : Value} {Q : Value → Shared → Prop} {S : Heap → Prop} (hne : e ≠ it) (he : IsEnum s.heap e it i old)
    (hnext : ∀ (R : Value → Shared → Prop), (∀ h', S h' → Heap.SameBut it s.heap h' → R x { s with heap := h' }) → wpAny (model prog w) A.in1 (Builtin.SmallTypes.nextOf (.ref it)) R (fun a b => E a b) s)
    (keep : ∀ h h', S h → Heap.ExtBut e h h' → S h')
    (hQ : ∀ h', IsEnumOut h' e it ((i : Int) + 1) x s.heap.objs.size → S h' → h'.get? s.heap.objs.size = some { cls := .type "tuple", data := .seq #[.int i s.toks, x] } → (∀ b o, b ≠ e → b ≠ it → s.heap.get? b = some o → h'.get? b = some o) → Q (.ref s.heap.objs.size) { s with heap := h', toks := s.toks + 1 }) :
    wpAny (model prog w) A.in1 (Builtin.«enumerate.__next__» ⟨[.ref e], []⟩) (fun fin s' => ∃ v, fin = .done (.ret v) ∧ Q v s') E s := by
  obtain ⟨hp, g, d, tk, os⟩ := s
  have hel : e < hp.objs.size := Heap.lt_size he
  show wpAny _ _ (field (.ref e) 2 >>= _) _ _ _
  refine wpAny_bind (wpAny_field he rfl (x := .ref it) rfl (wpAny_bind (hnext _ fun h₁ S₁ hs₁ => ?_)))
  have he₁ : IsEnum h₁ e it i old := (hs₁.2 e hne).trans he
  show wpAny _ _ (field (.ref e) 3 >>= _) _ _ ⟨h₁, g, d, tk, os⟩
  refine wpAny_bind (wpAny_field he₁ rfl (x := rawInt i) rfl ?_)
  show wpAny _ _ (field (.ref e) 4 >>= _) _ _ ⟨h₁, g, d, tk, os⟩
  refine wpAny_bind (wpAny_field he₁ rfl (x := .none) rfl ?_)
  show wpAny _ _ (mkInt i >>= _) _ _ ⟨h₁, g, d, tk, os⟩
  refine wpAny_bind (wpAny_mkInt ?_)
  show wpAny _ _ (setField (.ref e) 3 (rawInt ((i : Int) + 1)) >>= _) _ _ ⟨h₁, g, d, tk + 1, os⟩
  refine wpAny_bind (wpAny_setField_rec he₁ (by simp) fun h₂ he₂ hs₂ => ?_)
  replace he₂ : IsEnum h₂ e it ((i : Int) + 1) old := he₂
  show wpAny _ _ (setField (.ref e) 4 .none >>= _) _ _ ⟨h₂, g, d, tk + 1, os⟩
  refine wpAny_bind (wpAny_setField_rec he₂ (by simp) fun h₃ he₃ hs₃ => ?_)
  replace he₃ : IsEnum h₃ e it ((i : Int) + 1) old := he₃
  show wpAny _ _ (newTuple [.int i tk, x] >>= _) _ _ ⟨h₃, g, d, tk + 1, os⟩
  refine wpAny_bind (wpAny_newTuple ?_)
  have hsz : h₃.objs.size = hp.objs.size := by rw [hs₃.1, hs₂.1, hs₁.1]
  have S₃ : S h₃ := keep _ _ (keep _ _ S₁ hs₂.extBut) hs₃.extBut
  have k₃ : ∀ b o, b ≠ e → b ≠ it → hp.get? b = some o → h₃.get? b = some o := fun b o b1 b2 hb => hs₃.extBut b o b1 (hs₂.extBut b o b1 (hs₁.extBut b o b2 hb))
  have S₄ : S (h₃.push { cls := .type "tuple", data := .seq #[.int i tk, x] }) := keep _ _ S₃ fun b o _ hb => Heap.get?_push_of_some _ hb
  have he₄ : IsEnum (h₃.push { cls := .type "tuple", data := .seq #[.int i tk, x] }) e it ((i : Int) + 1) old := Heap.get?_push_of_some _ he₃
  have ht₄ : (h₃.push { cls := .type "tuple", data := .seq #[.int i tk, x] }).get? hp.objs.size = some { cls := .type "tuple", data := .seq #[.int i tk, x] } := by rw [← hsz]; exact Heap.get?_push_size _ rfl
  have k₄ : ∀ b o, b ≠ e → b ≠ it → hp.get? b = some o → (h₃.push { cls := .type "tuple", data := .seq #[.int i tk, x] }).get? b = some o := fun b o b1 b2 hb => Heap.get?_push_of_some _ (k₃ b o b1 b2 hb)
  generalize h₃.push { cls := .type "tuple", data := .seq #[.int i tk, x] } = h₄ at S₄ he₄ ht₄ k₄ ⊢
  show wpAny _ _ (Builtin.SmallTypes.ownedTupleIsFree (.ref e) >>= _) _ _ ⟨h₄, g, d, tk + 1, os⟩
  rw [hsz]
  refine wpAny_bind ?_
  unfold Builtin.SmallTypes.ownedTupleIsFree
  refine wpAny_bind (wpAny_field he₄ rfl (x := .none) rfl (wpAny_pure ?_))
  simp only [if_true]
  refine wpAny_bind (wpAny_rule (wpAny_bind (wpAny_field he₄ rfl (x := old) rfl (wpAny_bind (wpAny_setField_rec he₄ (by simp) fun h₅ he₅ hs₅ => ?_)))))
  replace he₅ : IsEnum h₅ e it ((i : Int) + 1) x := he₅
  show wpAny _ _ (Builtin.SmallTypes.ownedTupleHandOut (.ref e) (.ref hp.objs.size) >>= _) _ _ ⟨h₅, g, d, tk + 1, os⟩
  refine wpAny_bind ?_
  unfold Builtin.SmallTypes.ownedTupleHandOut
  refine wpAny_bind (wpAny_setField_rec he₅ (by simp) fun h₆ he₆ hs₆ => ?_)
  replace he₆ : IsEnumOut h₆ e it ((i : Int) + 1) x hp.objs.size := he₆
  refine wpAny_setField_rec he₆ (by simp) fun h₇ he₇ hs₇ => ?_
  replace he₇ : IsEnumOut h₇ e it ((i : Int) + 1) x hp.objs.size := he₇
  refine wpAny_bind (wpAny_letGo (wpAny_pure ⟨_, rfl, hQ h₇ he₇ (keep _ _ (keep _ _ (keep _ _ S₄ hs₅.extBut) hs₆.extBut) hs₇.extBut) ?_ fun b o b1 b2 hb => ?_⟩))
  · exact hs₇.extBut _ _ (Nat.ne_of_gt hel) (hs₆.extBut _ _ (Nat.ne_of_gt hel) (hs₅.extBut _ _ (Nat.ne_of_gt hel) ht₄))
  · exact hs₇.extBut b o b1 (hs₆.extBut b o b1 (hs₅.extBut b o b1 (k₄ b o b1 b2 hb)))
theorem pyNext_enumT_item {e it l : Addr} {i : Nat} {items : Array Value} {x old : Value} {Q : Option Value → Shared → Prop}
    (he : IsEnum s.heap e it i old) (hit : s.heap.IsTupleIter it l i) (hl : s.heap.IsTuple l items) (hx : items[i]? = some x) (hne : e ≠ it)
    (hQ : ∀ h', IsEnumOut h' e it ((i : Int) + 1) x s.heap.objs.size → h'.IsTupleIter it l (i + 1) → h'.get? s.heap.objs.size = some { cls := .type "tuple", data := .seq #[.int i s.toks, x] } →
      (∀ b o, b ≠ e → b ≠ it → s.heap.get? b = some o → h'.get? b = some o) → Q (some (.ref s.heap.objs.size)) { s with heap := h', toks := s.toks + 1 }) :
    wpAny (model prog w) A (pyNext (.ref e)) Q E s := by
  have hT : s.TypeIs (.ref e) "enumerate" := ⟨_, he, rfl⟩
  unfold pyNext
  refine wpAny_bind (wpAny_attempt (wpAny_callSpecial?_slot (name := Str.ofString "__next__") hT F.slot_enumerate_next (wpAny_call_entry F.slot_enumerate_next hT F.entry_enumerate_next ?_ (F.args_enumerate_next_1 _))))
  exact enum_step (S := fun h => h.IsTupleIter it l (i + 1)) hne he (fun R hR => RZ.nextOf_tuple_item hit hl hx fun h' a b => hR h' a b) (fun h h' a b => a.extBut b (Ne.symm hne)) fun h' a b c k => wpAny_pure (hQ h' a b c k)
theorem pyNext_enumT_end {e it l : Addr} {i : Nat} {items : Array Value} {old : Value} {Q : Option Value → Shared → Prop} (hh : A.handled = none)
    (he : IsEnum s.heap e it i old) (hit : s.heap.IsTupleIter it l i) (hl : s.heap.IsTuple l items) (hx : items[i]? = none)
    (hQ : ∀ h', Heap.ExtBut it s.heap h' → Q none { s with heap := h' }) : wpAny (model prog w) A (pyNext (.ref e)) Q E s := by
  have hT : s.TypeIs (.ref e) "enumerate" := ⟨_, he, rfl⟩
  unfold pyNext
  refine wpAny_bind (wpAny_attempt (wpAny_callSpecial?_slot (name := Str.ofString "__next__") hT F.slot_enumerate_next (wpAny_call_entry F.slot_enumerate_next hT F.entry_enumerate_next ?_ (F.args_enumerate_next_1 _))))
  show wpAny _ _ (field (.ref e) 2 >>= _) _ _ _
  refine wpAny_bind (wpAny_field he rfl (x := .ref it) rfl (wpAny_bind (RZ.nextOf_tuple_end hh hit hl hx fun h' x he' hx' => ?_)))
  obtain ⟨o, ho, hc⟩ := hx'
  exact wpAny_bind (wpAny_isInstance (T := "StopIteration") (b := true) ⟨o, ho, hc⟩ isSubtype_stop (wpAny_pure (hQ _ he')))
end
open PySem.Spec PyProof.Rows L2
/-- the tuple at a as it stands at each turn, each item in a new pair -/
def IteT (K : PySem.W.Frag) (a : Addr) : L2.It :=
  ⟨fun i H => ∃ (xs : List V) (x : V), SqT K H a xs ∧ xs[i]? = some x, fun i H v H' => ∃ T x, v = .ref T ∧ H T = none ∧ H' = upd H T (.tup [.int (i : Nat), x]) ∧ ∀ xs, SqT K H a xs → xs[i]? = some x, fun i H => ∃ xs : List V, SqT K H a xs ∧ xs.length ≤ i⟩
theorem turn_enumT {P : Program} {w : World} {K : PySem.W.Frag} {elts : List Expr} {kk : Nat} {tpos : Pos} (a e it : Addr) :
    Turn P w K (.Tuple elts kk tpos) (IteT K a) [e, it] e (fun i h => (∃ old, IsEnum h e it ((i : Nat) : Int) old) ∧ h.IsTupleIter it a i ∧ e ≠ it) where
  mem := by simp
  obj := fun i h st b hb => by
    obtain ⟨⟨old, he⟩, ⟨o, ho, hc, hd⟩, _⟩ := st
    have e' : b = e ∨ b = it := by simpa using hb
    rcases e' with z | z
    · rw [z]; exact ⟨_, he, fun v q => nomatch q⟩
    · rw [z]; exact ⟨o, ho, fun v q => by rw [hd] at q; cases q⟩
  keep := fun i h h' st k => let ⟨⟨old, he⟩, hi, hne⟩ := st; ⟨⟨old, k e (by simp) _ he⟩, hi.at fun o q => k it (by simp) o q, hne⟩
  item := by
    intro X hP hw hK hc i pins s σ H E I hf st hg
    subst hP hw hK
    obtain ⟨⟨old, he⟩, hit, hne⟩ := st
    obtain ⟨xs, x, hq, hx⟩ := hg
    obtain ⟨its, rv, p, hz⟩ := I.tuple hq
    obtain ⟨u, hu, ru⟩ := rv.get hx
    have hel : e < s.heap.objs.size := Heap.lt_size he
    have hil : it < s.heap.objs.size := by obtain ⟨_, q, _⟩ := hit; exact Heap.lt_size q
    refine pyNext_enumT_item he hit (show s.heap.IsTuple a its.toArray from p) (x := u) (by simpa using hu) hne fun h' ho hit' hT hk => ?_
    refine ⟨_, rfl, wpAny_letOwnedTupleGo_enum (s := { s with heap := h', toks := s.toks + 1 }) ho fun h'' he' sb => ?_⟩
    have hT2 : h''.get? s.heap.objs.size = some { cls := .type "tuple", data := .seq #[.int i s.toks, u] } := (sb.2 _ (Nat.ne_of_gt hel)).trans hT
    have new : ObjOk X.prog X.w (upd H s.heap.objs.size (.tup [.int (i : Nat), x])) h'' s.heap.objs.size (.tup [.int (i : Nat), x]) :=
      ⟨by show 2 ≤ sizeLine; decide, [.int i s.toks, u], .cons ⟨_, rfl⟩ (.cons ru .nil), ⟨_, hT2, rfl, _, rfl⟩⟩
    have I1 : Inv X pins σ (upd H s.heap.objs.size (.tup [.int (i : Nat), x])) { s with heap := h'', toks := s.toks + 1 } :=
      I.turnedNew (ch := [e, it]) (fun b ob hb q => (sb.2 b (fun z => hb (by simp [z]))).trans (hk b ob (fun z => hb (by simp [z])) (fun z => hb (by simp [z])) q)) hf (Nat.le_refl _) new
    refine ⟨.ref s.heap.objs.size, _, I1, rfl, ⟨_, x, rfl, I.hok.fresh (Nat.le_refl _), rfl, fun ys hy => by rw [I.tuple_inj hy hq]; exact hx⟩, ⟨⟨u, ?_⟩, hit'.at fun o q => (sb.2 it (Ne.symm hne)).trans q, hne⟩, fun b hb => ?_⟩
    · have e1 : ((i + 1 : Nat) : Int) = (i : Int) + 1 := by omega
      rw [e1]; exact he'
    · have hb' : b < s.heap.objs.size := by
        have e' : b = e ∨ b = it := by simpa using hb
        rcases e' with z | z
        · rw [z]; exact hel
        · rw [z]; exact hil
      rw [upd_ne (Nat.ne_of_lt hb')]
      exact (hf b hb).1
  done := by
    intro X hP hw hK hc i pins s σ H E I hf st hg
    subst hP hw hK
    obtain ⟨⟨old, he⟩, hit, hne⟩ := st
    obtain ⟨xs, hq, hx⟩ := hg
    obtain ⟨its, rv, p, hz⟩ := I.tuple hq
    obtain ⟨f0, f1, f2, f3, f4, f5⟩ := hf it (by simp)
    have hl := rv.length
    exact pyNext_enumT_end (I.ok.hd hc) he hit (show s.heap.IsTuple a its.toArray from p) (by simp; omega) fun h' eb => ⟨rfl, I.turned (t' := s.toks) (fun b o hb q => eb b o hb q) f0 f1 f3 f4 f5⟩
  self := fun A i s Q E st h => let ⟨⟨_, he⟩, _⟩ := st; wpAny_pyIter_enum he h
/-- enumerate of a list or a tuple -/
def iEnumA (K : PySem.W.Frag) (ta : TA) : TI := fun σ H R => ta σ H fun vs H1 => ∃ a xs, vs = [.ref a] ∧ ((SqL K H1 a xs ∧ R (Ite K a) H1) ∨ (SqT K H1 a xs ∧ R (IteT K a) H1))
theorem pi_enumA {X : Cx} {e : Expr} {ta : TA} {p pos tpos : Pos} {elts : List Expr} {kk : Nat} (hg : Gl X "enumerate") (hm : X.mg "enumerate" = none) (ha : PA X [e] ta) (hs : starEach [e] X.env = [(false, eval e X.env)]) :
    PI X (.Tuple elts kk tpos) (.Call (.Name "enumerate" p) [e] [] pos) (iEnumA X.K ta) := by
  refine ⟨fun pins s σ H R I h => ?_⟩
  refine Call_ (ld_blt I hg hm boot_enumerate (PyProof.Rows.callWith_type1 (thn (ha.run pos pins s σ H _ I h) fun us s1 ⟨vs, H1, I1, r1, q1⟩ => ?_) hs rfl))
  obtain ⟨a, xs, ex, q1⟩ := q1
  subst ex
  cases r1 with
  | cons r rr =>
    cases rr
    cases r
    have fp : ∀ b ∈ [s1.heap.objs.size + 1, s1.heap.objs.size], FpOk X pins H1 b := fun b hb => by
      have e' : b = s1.heap.objs.size + 1 ∨ b = s1.heap.objs.size := by simpa using hb
      have hle : s1.heap.objs.size ≤ b := by
        rcases e' with z | z
        · rw [z]; exact Nat.le_add_right _ _
        · rw [z]; exact Nat.le_refl _
      exact I1.fpOk hle (I1.hok.fresh hle)
    rcases q1 with ⟨hq, q⟩ | ⟨hq, q⟩
    · obtain ⟨its, rv, p', hz⟩ := I1.list hq
      refine call_enumerate_list p'.isList fun h' he hit hsz hk => wpAny_pyIter_enum he ?_
      have I2 : Inv X pins σ H1 { s1 with heap := h' } := I1.kept (t' := s1.toks) hk
      exact ⟨s1.heap.objs.size + 1, _, _, _, H1, rfl, I2, turn_enum a (s1.heap.objs.size + 1) s1.heap.objs.size, ⟨⟨.none, he⟩, hit, Nat.succ_ne_self _⟩, fp, q⟩
    · obtain ⟨its, rv, p', hz⟩ := I1.tuple hq
      refine call_enumT (show s1.heap.IsTuple a its.toArray from p') fun h' he hit hk => wpAny_pyIter_enum he ?_
      have I2 : Inv X pins σ H1 { s1 with heap := h' } := I1.kept (t' := s1.toks) hk
      exact ⟨s1.heap.objs.size + 1, _, _, _, H1, rfl, I2, turn_enumT a (s1.heap.objs.size + 1) s1.heap.objs.size, ⟨⟨.none, he⟩, hit, Nat.succ_ne_self _⟩, fp, q⟩
theorem walk_enumT {K : PySem.W.Frag} {a : Addr} {xs : List V} : Walk (IteT K a) xs.length (fun H => SqT K H a xs) (YPair (fun i => some (.int (i : Nat))) (fun i => xs[i]?)) := by
  refine ⟨fun i _ hi q => ⟨xs, xs[i], q, by simp [hi]⟩, fun _ q => ⟨xs, q, Nat.le_refl _⟩, fun i H v H' _ q y => ?_⟩
  obtain ⟨T, x, h1, h2, h3, h4⟩ := y
  exact ⟨T, .int (i : Nat), x, h1, h2, h3, rfl, h4 xs q⟩
/-- a list or a tuple, walked -/
def iSeq (K : PySem.W.Frag) (tl : TE) : TI := fun σ H R => tl σ H fun x H1 => ∃ a xs, x = .ref a ∧ ((SqL K H1 a xs ∧ R (Itl K a) H1) ∨ (SqT K H1 a xs ∧ R (Itt K a) H1))
theorem pi_seq {X : Cx} {tg l : Expr} {tl : TE} (hl : PE X l tl) : PI X tg l (iSeq X.K tl) := by
  refine ⟨fun pins s σ H R I h => ?_⟩
  refine thn (hl.run pins s σ H _ I h) fun v s1 ⟨x, H1, I1, r1, a, xs, e, q1⟩ => ?_
  subst e
  cases r1
  have fp : ∀ b ∈ [s1.heap.objs.size], FpOk X pins H1 b := fun b hb => by
    have e : b = s1.heap.objs.size := by simpa using hb
    subst e
    exact I1.fpOk (Nat.le_refl _) (I1.hok.fresh (Nat.le_refl _))
  rcases q1 with ⟨hq, q⟩ | ⟨hq, q⟩
  · obtain ⟨its, rv, p, hz⟩ := I1.list hq
    exact wpAny_pyIter_list p.isList ⟨s1.heap.objs.size, _, _, _, H1, rfl, I1.kept (t' := s1.toks) fun b o e => Heap.get?_push_of_some _ e, turn_list a _, ⟨_, Heap.get?_push_size _ rfl, rfl, rfl⟩, fp, q⟩
  · obtain ⟨its, rv, p, hz⟩ := I1.tuple hq
    exact wpAny_pyIter_tuple (show s1.heap.IsTuple a its.toArray from p) ⟨s1.heap.objs.size, _, _, _, H1, rfl, I1.kept (t' := s1.toks) fun b o e => Heap.get?_push_of_some _ e, turn_tuple a _, ⟨_, Heap.get?_push_size _ rfl, rfl, rfl⟩, fp, q⟩
end Wb

end
section
/-! Wb: what is walked; for; comprehensions. -/
namespace Wb
open PySem PySem.Spec PyProof.Rows L2
/-- what an iterator gives, by trees; b: it may be walked while owned things change -/
def ItOk (C : Cn) (P : Addr → Prop) (b : Bool) (H : Hp) (ds : List D) (J : L2.It) : Prop := ds.length ≤ sizeLine ∧ ∃ (G : Hp → Prop) (Y : Nat → Hp → V → Hp → Prop), Walk J ds.length G Y ∧
  ∀ P2 H2, Sv H P H2 P2 → (b = false → KpA H H2) → (∀ a, P2 a → ∃ o, H2 a = some o ∧ ownable o) → G H2 ∧ ∀ i x H3, i < ds.length → Y i H2 x H3 → Same H2 H3 ∧ ∃ d, ds[i]? = some d ∧ RepS C H3 P2 x d
section
variable {C : Cn} {T : List (Addr × Str)} {E : XK} {X : Cx} {Φ : Fen} {I : Nfo} {Γl Γ Γ1 Γ2 Γ3 Γ' : List Ow} {τr τ τ1 τ2 τ3 : Ow} {m m1 m2 m3 : Env → M D} {pos p p2 p3 : Pos}
theorem ItOk.weak {P : Addr → Prop} {H : Hp} {ds : List D} {J : L2.It} (h : ItOk C P true H ds J) : ItOk C P false H ds J := by
  obtain ⟨z, G, Y, w, k⟩ := h
  exact ⟨z, G, Y, w, fun P2 H2 s _ n => k P2 H2 s (fun e => nomatch e) n⟩
theorem itok_list {P : Addr → Prop} {H : Hp} {a : Addr} {xs : List V} {ds : List D} {b : Bool} (hr : Rd H a (.lst xs)) (hn : b = true → ¬ P a) (q : RepSs C H P xs ds) (z : xs.length ≤ sizeLine) : ItOk C P b H ds (Itl C.K a) := by
  refine ⟨by rw [← q.length]; exact z, fun H => SqL C.K H a xs, YAt xs, by rw [← q.length]; exact walk_list, fun P2 H2 s k n => ⟨?_, fun i x H3 hi y => ?_⟩⟩
  · cases b with
    | true => exact .inl (s.rd (hn rfl) hr Kp.lst).1
    | false =>
      have kp := k rfl
      rcases hr with h | ⟨o, h⟩
      · exact .inl (.inl (kp a _ h).lst)
      · exact .inl (.inr ⟨o, (kp a _ h).frz⟩)
  · obtain ⟨rfl, hx⟩ := y
    obtain ⟨d, hd, r⟩ := q.getV hx
    exact ⟨Same.refl _, d, hd, RepS.mono s _ _ r⟩
theorem itok_tup {P : Addr → Prop} {H : Hp} {a : Addr} {xs : List V} {ds : List D} {b : Bool} (hr : H a = some (.tup xs)) (hn : ¬ P a) (q : RepSs C H P xs ds) (z : xs.length ≤ sizeLine) : ItOk C P b H ds (Itt C.K a) := by
  refine ⟨by rw [← q.length]; exact z, fun H => SqT C.K H a xs, YAt xs, by rw [← q.length]; exact walk_tup, fun P2 H2 s k n => ⟨SqT.of (s a _ hr hn).1.tup, fun i x H3 hi y => ?_⟩⟩
  obtain ⟨rfl, hx⟩ := y
  obtain ⟨d, hd, r⟩ := q.getV hx
  exact ⟨Same.refl _, d, hd, RepS.mono s _ _ r⟩
theorem rngD_len (lo : Int) (n : Nat) (c : Int) : (rngD lo n c).length = n := by simp [rngD]
theorem rngD_get {lo : Int} {n : Nat} {c : Int} {i : Nat} (h : i < n) : (rngD lo n c)[i]? = some (.int (lo + (i : Nat) * c)) := by simp [rngD, h]
theorem itok_rngC {P : Addr → Prop} {H : Hp} {lo c : Int} {n : Nat} {b : Bool} (z : n ≤ sizeLine) : ItOk C P b H (rngD lo n c) (Itc lo c n) := by
  refine ⟨by rw [rngD_len]; exact z, fun _ => True, _, by rw [rngD_len]; exact walk_rangeC, fun P2 H2 s k n' => ⟨trivial, fun i x H3 hi y => ?_⟩⟩
  obtain ⟨rfl, rfl⟩ := y
  rw [rngD_len] at hi
  exact ⟨Same.refl _, _, rngD_get hi, .int _⟩
theorem itok_rng {P : Addr → Prop} {H : Hp} {lo : Int} {n : Nat} {b : Bool} (z : n ≤ sizeLine) : ItOk C P b H (rngD lo n 1) (Itr lo n) := by
  refine ⟨by rw [rngD_len]; exact z, fun _ => True, _, by rw [rngD_len]; exact walk_range, fun P2 H2 s k n' => ⟨trivial, fun i x H3 hi y => ?_⟩⟩
  obtain ⟨rfl, rfl⟩ := y
  rw [rngD_len] at hi
  refine ⟨Same.refl _, _, rngD_get hi, ?_⟩
  rw [Int.mul_one]
  exact .int _
theorem enumD_len : ∀ (n : Nat) (xs : List D), (enumD n xs).length = xs.length
  | _, [] => rfl
  | n, x :: xs => by simp [enumD, enumD_len (n + 1) xs]
theorem enumD_get : ∀ (n : Nat) (xs : List D) (i : Nat) {d : D}, xs[i]? = some d → (enumD n xs)[i]? = some (.tup [.int ((n + i : Nat) : Int), d])
  | _, [], _, _, h => by simp at h
  | n, x :: xs, 0, d, h => by simp at h; subst h; simp [enumD]
  | n, x :: xs, i + 1, d, h => by
    rw [enumD, List.getElem?_cons_succ, enumD_get (n + 1) xs i (by simpa using h)]
    simp only [Option.some.injEq, D.tup.injEq, List.cons.injEq, D.int.injEq, and_true]
    omega
theorem zipD_len : ∀ (xs ys : List D), (zipD xs ys).length = min xs.length ys.length
  | [], _ => by simp [zipD]
  | _ :: _, [] => by simp [zipD]
  | x :: xs, y :: ys => by simp [zipD, zipD_len xs ys]
theorem zipD_get : ∀ (xs ys : List D) (i : Nat) {d e : D}, xs[i]? = some d → ys[i]? = some e → (zipD xs ys)[i]? = some (.tup [d, e])
  | [], _, _, _, _, h, _ => by simp at h
  | _ :: _, [], _, _, _, _, h => by simp at h
  | x :: xs, y :: ys, 0, _, _, h1, h2 => by simp at h1 h2; subst h1 h2; rfl
  | x :: xs, y :: ys, i + 1, _, _, h1, h2 => by
    rw [zipD, List.getElem?_cons_succ]
    exact zipD_get xs ys i (by simpa using h1) (by simpa using h2)
/-- a new pair of shared things -/
theorem pair_rep {P2 : Addr → Prop} {H2 : Hp} {T : Addr} {x y : V} {d e : D} (hT : H2 T = none) (n : ∀ a, P2 a → ∃ o, H2 a = some o ∧ ownable o) (rx : RepS C H2 P2 x d) (ry : RepS C H2 P2 y e) :
    Same H2 (upd H2 T (.tup [x, y])) ∧ RepS C (upd H2 T (.tup [x, y])) P2 (.ref T) (.tup [d, e]) := by
  have s := same_upd (o := .tup [x, y]) hT
  have sv : Sv H2 P2 (upd H2 T (.tup [x, y])) P2 := (kpaS s).sv fun _ _ _ z => z
  exact ⟨s, .tup (fun z => by obtain ⟨o, e, _⟩ := n T z; rw [hT] at e; cases e) upd_same (by show 2 ≤ sizeLine; rw [sizeLine_eq]; omega) (.cons (RepS.mono sv _ _ rx) (.cons (RepS.mono sv _ _ ry) .nil))⟩
theorem itok_pair {P : Addr → Prop} {H : Hp} {ds : List D} {J : L2.It} {G : Hp → Prop} {xs ys : Nat → Option V} {b : Bool} (z : ds.length ≤ sizeLine) (w : Walk J ds.length G (YPair xs ys)) (hG : ∀ P2 H2, Sv H P H2 P2 → (b = false → KpA H H2) → G H2)
    (q : ∀ i x y, i < ds.length → xs i = some x → ys i = some y → ∃ d e, RepS C H P x d ∧ RepS C H P y e ∧ ds[i]? = some (.tup [d, e])) : ItOk C P b H ds J := by
  refine ⟨z, G, _, w, fun P2 H2 s k n => ⟨hG P2 H2 s k, fun i x H3 hi y => ?_⟩⟩
  obtain ⟨T, x', y', rfl, hT, rfl, h1, h2⟩ := y
  obtain ⟨d, e, r1, r2, hd⟩ := q i x' y' hi h1 h2
  obtain ⟨s2, r⟩ := pair_rep hT n (RepS.mono s _ _ r1) (RepS.mono s _ _ r2)
  exact ⟨s2, _, hd, r⟩
/-! ### readings of what is walked -/
def tI (C : Cn) (T : List (Addr × Str)) (E : XK) (b : Bool) (Γ Γ' : List Ow) (m : Env → M (List D)) : TI := fun σ H R => ∃ (O : Addr → Prop) (Fs : Nat → List Addr) (ρ : Env) (Qd : List D → Prop) (Ed : Exn → Prop), Rl C T O Γ Fs σ H ρ ∧ m ρ Qd Ed ∧ Xp C T E H Fs Ed ∧
  ∀ ds H' Fs' J, Qd ds → TrE H Fs H' Fs' [] → Rl C T O Γ' Fs' σ H' ρ → ItOk C (Oall O Fs') b H' ds J → R J H'
theorem vi_weak {tg e : Expr} {mi : Env → M (List D)} (h : PI X tg e (tI C T E true Γ Γ1 mi)) : PI X tg e (tI C T E false Γ Γ1 mi) := h.imp fun σ H R ⟨O, Fs, ρ, Qd, Ed, r, hm, x, k⟩ =>
  ⟨O, Fs, ρ, Qd, Ed, r, hm, x, fun ds H' Fs' J hd t r' i => k ds H' Fs' J hd t r' i.weak⟩
theorem vi_seq {tg e : Expr} (hK : C.K = X.K) (he : PE X e (tV C T E Γ Γ1 .sh m)) : PI X tg e (tI C T E true Γ Γ1 (fun ρ => .bind (m ρ) seqD)) := (pi_seq he).imp fun σ H R ⟨O, Fs, ρ, Qd, Ed, r, hm, x, k⟩ => by
  refine ⟨O, Fs, ρ, _, Ed, r, hm, x, fun d v H1 Fs1 hd t1 r1 q => ?_⟩
  rw [← hK]
  cases d <;> first | exact (hd : False).elim | skip
  · cases q with
    | lst n ra z qa => exact ⟨_, _, rfl, .inl ⟨.inl ra, k _ H1 Fs1 _ hd t1 r1 (itok_list ra (fun _ => n) qa z)⟩⟩
  · cases q with
    | tup n ra z qa => exact ⟨_, _, rfl, .inr ⟨SqT.of ra, k _ H1 Fs1 _ hd t1 r1 (itok_tup ra n qa z)⟩⟩
theorem vi_seqB {tg e : Expr} (hK : C.K = X.K) (he : PE X e (tV C T E Γ Γ1 τ m)) (f : flatO τ = true) : PI X tg e (tI C T E false Γ Γ1 (fun ρ => .bind (m ρ) seqD)) := (pi_seq he).imp fun σ H R ⟨O, Fs, ρ, Qd, Ed, r, hm, x, k⟩ => by
  refine ⟨O, Fs, ρ, _, Ed, r, hm, x, fun d v H1 Fs1 hd t1 r1 q => ?_⟩
  rw [← hK]
  cases d <;> first | exact (hd : False).elim | skip
  · obtain ⟨a, vs, rfl, ra, z, qa⟩ := q.lst f
    exact ⟨_, _, rfl, .inl ⟨.inl ra, k _ H1 Fs1 _ hd t1 r1 (itok_list ra (fun h => nomatch h) qa z)⟩⟩
  · obtain ⟨a, vs, rfl, n, ra, z, qa⟩ := q.tup
    exact ⟨_, _, rfl, .inr ⟨SqT.of ra, k _ H1 Fs1 _ hd t1 r1 (itok_tup ra n qa z)⟩⟩
theorem vi_scr {tg e : Expr} (hK : C.K = X.K) (he : PE X e (tV C T E Γ Γ1 .sh m)) : PI X tg e (tI C T E true Γ Γ1 (fun ρ => .bind (m ρ) fun x => match x with
    | .scr ns => .ret (ns.map .int)
    | _ => .fail)) := (pi_seq he).imp fun σ H R ⟨O, Fs, ρ, Qd, Ed, r, hm, x, k⟩ => by
  refine ⟨O, Fs, ρ, _, Ed, r, hm, x, fun d v H1 Fs1 hd t1 r1 q => ?_⟩
  rw [← hK]
  cases d <;> first | exact (hd : False).elim | skip
  rename_i ns
  have key : ∃ a, v = .ref a ∧ ns.length ≤ 1000 ∧ SqL C.K H1 a (ns.map V.int) ∧ ∀ H2 P2, Sv H1 (Oall O Fs1) H2 P2 → SqL C.K H2 a (ns.map V.int) := by
    cases q with
    | scr l n ra => exact ⟨_, rfl, l, .inl ra, fun H2 P2 s => .inl (s.rd n ra Kp.lst).1⟩
    | scrK l e => exact ⟨_, rfl, l, e H1, fun H2 P2 s => e H2⟩
  obtain ⟨a, rfl, hl, hs, hk⟩ := key
  refine ⟨a, _, rfl, .inl ⟨hs, k _ H1 Fs1 _ hd t1 r1 ?_⟩⟩
  refine ⟨?_, fun H => SqL C.K H a (ns.map V.int), YAt (ns.map V.int), ?_, fun P2 H2 s _ n => ⟨hk H2 P2 s, fun i x H3 hi y => ?_⟩⟩
  · rw [List.length_map, sizeLine_eq]
    omega
  · rw [List.length_map]
    have w := @walk_list C.K a (ns.map V.int)
    rw [List.length_map] at w
    exact w
  · obtain ⟨rfl, hx⟩ := y
    rw [List.getElem?_map, Option.map_eq_some_iff] at hx
    obtain ⟨nn, e1, rfl⟩ := hx
    exact ⟨Same.refl _, .int nn, by rw [List.getElem?_map, e1]; rfl, .int nn⟩
theorem small62_lo {i : Int} (h : small62 i) : -(2 ^ 62) ≤ i ∧ i < 2 ^ 62 := h
theorem vi_rng1 {tg a : Expr} (hg : Gl X "range") (hm' : X.mg "range" = none) (ha : PE X a (tV C T E Γ Γ1 τ1 m1)) (ns : nstB a = true) : PI X tg (.Call (.Name "range" p) [a] [] pos) (tI C T E true Γ Γ1 (fun ρ => .bind (m1 ρ) fun x => match x with
    | .int j => .need (small62 j ∧ j.toNat ≤ sizeLine) (.ret (rngD 0 j.toNat 1))
    | _ => .fail)) := (pi_range1 hg hm' (pa_cons ha pa_nil (starEach_cons ns)) (starEach_cons ns)).imp fun σ H R ⟨O, Fs, ρ, Qd, Ed, r, hm, x, k⟩ => by
  refine ⟨O, Fs, ρ, _, Ed, r, hm, x, fun d v H1 Fs1 hd t1 r1 q => ?_⟩
  cases d <;> first | exact (hd : False).elim | skip
  have e := q.int
  subst e
  obtain ⟨⟨h1, h2⟩, hq⟩ := hd
  exact ⟨_, rfl, h1.1, h1.2, k _ H1 Fs1 _ hq t1 r1 (itok_rng h2)⟩
theorem vi_rng2 {tg a b : Expr} (hg : Gl X "range") (hm' : X.mg "range" = none) (ha : PE X a (tV C T E Γ Γ1 τ1 m1)) (hb : PE X b (tV C T E Γ1 Γ2 τ2 m2)) (na : nstB a = true) (nb : nstB b = true) : PI X tg (.Call (.Name "range" p) [a, b] [] pos) (tI C T E true Γ Γ2 (fun ρ => .bind (m1 ρ) fun x => .bind (m2 ρ) fun y => match x, y with
    | .int i, .int j => .need (small62 i ∧ small62 j ∧ (j - i).toNat ≤ sizeLine) (.ret (rngD i (j - i).toNat 1))
    | _, _ => .fail)) := (pi_range2 hg hm' (pa_cons ha (pa_cons hb pa_nil (starEach_cons nb)) (starEach_cons na)) (by rw [starEach_cons na, starEach_cons nb]; rfl) (starEach_cons nb)).imp fun σ H R ⟨O, Fs, ρ, Qd, Ed, r, hm, x, k⟩ => by
  refine ⟨O, Fs, ρ, _, Ed, r, hm, x, fun d v H1 Fs1 hd t1 r1 q => ?_⟩
  refine ⟨O, Fs1, ρ, _, Ed, r1, hd, x.tr t1.toS, fun d2 v2 H2 Fs2 hd2 t2 r2 q2 => ?_⟩
  cases d <;> cases d2 <;> first | exact (hd2 : False).elim | skip
  have e := q.int
  subst e
  have e := q2.int
  subst e
  obtain ⟨⟨h1, h2, h3⟩, hq⟩ := hd2
  exact ⟨_, _, rfl, ⟨h1.1, h1.2, h2.1, h2.2⟩, k _ H2 Fs2 _ hq (t1.trans t2) r2 (itok_rng h3)⟩
theorem vi_rng3 {tg a b c : Expr} {n : Int} (hg : Gl X "range") (hm' : X.mg "range" = none) (ha : PE X a (tV C T E Γ Γ1 τ1 m1)) (hb : PE X b (tV C T E Γ1 Γ2 τ2 m2)) (hc : PE X c (tV C T E Γ2 Γ3 τ3 (fun _ => .ret (.int n)))) (na : nstB a = true) (nb : nstB b = true) (nc : nstB c = true) :
    PI X tg (.Call (.Name "range" p) [a, b, c] [] pos) (tI C T E true Γ Γ3 (fun ρ => .bind (m1 ρ) fun x => .bind (m2 ρ) fun y => match x, y with
    | .int i, .int j => .need (RgC i j n (rngN i j n) ∧ rngN i j n ≤ sizeLine) (.ret (rngD i (rngN i j n) n))
    | _, _ => .fail)) := (pi_range3 hg hm' (pa_cons ha (pa_cons hb (pa_cons hc pa_nil (starEach_cons nc)) (starEach_cons nb)) (starEach_cons na)) (starEach_cons na) (star_plain (es := [b, c]) (by simp [nb, nc]))).imp fun σ H R ⟨O, Fs, ρ, Qd, Ed, r, hm, x, k⟩ => by
  refine ⟨O, Fs, ρ, _, Ed, r, hm, x, fun d v H1 Fs1 hd t1 r1 q => ?_⟩
  refine ⟨O, Fs1, ρ, _, Ed, r1, hd, x.tr t1.toS, fun d2 v2 H2 Fs2 hd2 t2 r2 q2 => ?_⟩
  refine ⟨O, Fs2, ρ, fun z => z = .int n, Ed, r2, rfl, (x.tr t1.toS).tr t2.toS, fun d3 v3 H3 Fs3 hd3 t3 r3 q3 => ?_⟩
  cases d <;> cases d2 <;> first | exact (hd2 : False).elim | skip
  have e := q.int
  subst e
  have e := q2.int
  subst e
  subst hd3
  have e := q3.int
  subst e
  obtain ⟨⟨h1, h2⟩, hq⟩ := hd2
  exact ⟨_, _, n, _, rfl, h1, k _ H3 Fs3 _ hq ((t1.trans t2).trans t3) r3 (itok_rngC h2)⟩
theorem vi_enum {tg e : Expr} {elts : List Expr} {kk : Nat} {tp : Pos} (hK : C.K = X.K) (hg : Gl X "enumerate") (hm' : X.mg "enumerate" = none) (he : PE X e (tV C T E Γ Γ1 .sh m)) (ns : nstB e = true) : PI X (.Tuple elts kk tp) (.Call (.Name "enumerate" p) [e] [] pos) (tI C T E true Γ Γ1 (fun ρ => .bind (m ρ) fun x => .bind (seqD x) fun xs => .ret (enumD 0 xs))) :=
  (pi_enumA hg hm' (pa_cons he pa_nil (starEach_cons ns)) (starEach_cons ns)).imp fun σ H R ⟨O, Fs, ρ, Qd, Ed, r, hm, x, k⟩ => by
  refine ⟨O, Fs, ρ, _, Ed, r, hm, x, fun d v H1 Fs1 hd t1 r1 q => ?_⟩
  rw [← hK]
  have pr : ∀ {xs : List V} {ds : List D}, RepSs C H1 (Oall O Fs1) xs ds → ∀ i x y, i < (enumD 0 ds).length → (fun i : Nat => some (V.int (i : Nat))) i = some x → xs[i]? = some y → ∃ d e, RepS C H1 (Oall O Fs1) x d ∧ RepS C H1 (Oall O Fs1) y e ∧ (enumD 0 ds)[i]? = some (.tup [d, e]) := fun {xs ds} qa i x y hi hx hy => by
    cases hx
    obtain ⟨e, he, re⟩ := qa.getV hy
    refine ⟨_, e, .int _, re, ?_⟩
    rw [enumD_get 0 ds i he, Nat.zero_add]
  cases d <;> first | exact (hd : False).elim | skip
  · cases q with
    | lst n ra z qa =>
      refine ⟨_, _, rfl, .inl ⟨.inl ra, k _ H1 Fs1 _ hd t1 r1 (itok_pair (by rw [enumD_len, ← qa.length]; exact z) (by rw [enumD_len, ← qa.length]; exact walk_enum) (fun P2 H2 s _ => Or.inl (s.rd n ra Kp.lst).1) (pr qa))⟩⟩
  · cases q with
    | tup n ra z qa =>
      refine ⟨_, _, rfl, .inr ⟨SqT.of ra, k _ H1 Fs1 _ hd t1 r1 (itok_pair (by rw [enumD_len, ← qa.length]; exact z) (by rw [enumD_len, ← qa.length]; exact walk_enumT) (fun P2 H2 s _ => SqT.of (s _ _ ra n).1.tup) (pr qa))⟩⟩
/-! ### for -/
theorem folded_no {iter : Expr} {env : PySem.Env} (h : nsetB iter = true) : ∀ x, foldedSetIterable iter env x = pure x := by
  intro x
  cases iter <;> first | (cases h; done) | rfl
theorem vs_for {t : Tg} {tg iter : Expr} {body : List Stmt} {mi : Env → M (List D)} {mb : Env → M (Fl × Env)} {is : List Nat} (G : Gd X C T E Φ I) (hi : PI X tg iter (tI C T E true Γ Γ1 mi)) (hg : PG X tg (tG C T is Γ1 (asgT t))) (hb : PSs X body (tS C T E τr Γ1 Γ1 Γ1 mb)) (hs : nsetB iter = true) :
    PS X (.For tg iter body [] pos) (tS C T E τr Γl Γ Γ1 (fun ρ => .bind (mi ρ) fun items => forL (fun d ρ' => .bind (asgT t d ρ') fun ρ1 => mb ρ1) items ρ)) :=
  (ps_for G.own G.calm hi hg hb (folded_no hs)).imp fun D σ H ⟨O, Fs, ρ, Qd, Ed, r, hm, xp, k1, k2, k3, k4⟩ => by
  refine ⟨O, Fs, ρ, _, Ed, r, hm, xp, fun ds H1 Fs1 J hd t1 r1 hJ => ?_⟩
  obtain ⟨z, Gw, Y, w, st⟩ := hJ
  have sv : ∀ {H2 Fs2}, TrS H1 Fs1 H2 Fs2 → Sv H1 (Oall O Fs1) H2 (Oall O Fs2) := fun {H2 Fs2} t2 a o e n => by
    obtain ⟨k, n2⟩ := t2 a o e fun z => n (.inr z)
    exact ⟨k, fun z => z.elim (fun z => n (.inl z)) n2⟩
  refine for_it w (fun i σ' H' => ∃ Fs' ρ', Rl C T O Γ1 Fs' σ' H' ρ' ∧ TrS H1 Fs1 H' Fs' ∧ forL (fun d ρ' => .bind (asgT t d ρ') fun ρ1 => mb ρ1) (ds.drop i) ρ' Qd Ed) ⟨Fs1, ρ, r1, TrS.refl _ _, hd⟩ ?_ ?_ ?_
  · rintro i σ' H' _ ⟨Fs', ρ', r', t', _⟩
    exact (st _ H' (sv t') (fun e => nomatch e) r'.ok).1
  · rintro i x σ' H' H'' hi ⟨Fs', ρ', r', t', hf⟩ y
    obtain ⟨s3, d, ed, rd⟩ := (st _ H' (sv t') (fun e => nomatch e) r'.ok).2 i x H'' hi y
    have hdr : ds.drop i = d :: ds.drop (i + 1) := by
      rw [List.drop_eq_getElem_cons hi]
      congr 1
      have := List.getElem?_eq_getElem hi
      rw [ed] at this
      exact (Option.some.inj this).symm
    rw [hdr] at hf
    have hf' : asgT t d ρ' (fun ρ1 => mb ρ1 (fun r => (match r with
      | (.nx, ρ') | (.ct, ρ') => forL (fun d ρ' => .bind (asgT t d ρ') fun ρ1 => mb ρ1) (ds.drop (i + 1)) ρ'
      | (.bk, ρ') => .ret (.nx, ρ')
      | (.rt d, ρ') => .ret (.rt d, ρ') : M (Fl × Env)) Qd Ed) Ed) Ed := hf
    have r3 := r'.grow (kpaS s3) (r'.tabs.ext s3)
    have tr3 : TrS H1 Fs1 H'' Fs' := t'.trans fun a o e n => ⟨kpaS s3 a o e, n⟩
    refine ⟨O, Fs', ρ', d, _, Ed, r3, rd, hf', fun ρ4 σ4 Fs4 hq4 n4 _ _ r4 => ?_⟩
    have tr4 : TrS H1 Fs1 H'' Fs4 := tr3.trans (TrS.fewer n4)
    refine ⟨O, Fs4, ρ4, _, Ed, r4, hq4, xp.tr (t1.toS.trans tr4), ?_, ?_, ?_, ?_⟩
    · exact fun ρ5 σ5 H5 Fs5 hq t5 r5 => ⟨Fs5, ρ5, r5, tr4.trans t5, hq⟩
    · exact fun ρ5 σ5 H5 Fs5 hq t5 r5 => k1 ρ5 σ5 H5 Fs5 hq ((t1.toS.trans tr4).trans t5) r5
    · exact fun ρ5 σ5 H5 Fs5 hq t5 r5 => ⟨Fs5, ρ5, r5, tr4.trans t5, hq⟩
    · exact fun ρ5 d v H5 F hq t5 tb q nd hF => k4 ρ5 d v H5 F hq ((t1.toS.trans tr4).trans t5) tb q nd hF
  · rintro σ' H' ⟨Fs', ρ', r', t', hf⟩
    rw [List.drop_length] at hf
    exact k1 ρ' σ' H' Fs' hf (t1.toS.trans t') r'
end
end Wb

end
section
/-! Wb: comprehensions. -/
namespace Wb
open PySem PySem.Spec PyProof.Rows L2
/-- no error is wanted -/
abbrev EF : XK := fun _ _ _ => False
def Nfo.blk (I : Nfo) (scope : Scope) : Nfo := { I with sc := relS scope I.sc, fn := fun x => scope.names.lookup x == some .cell, lam := false }
section
variable {C : Cn} {T : List (Addr × Str)} {E : XK} {X : Cx} {Φ : Fen} {I : Nfo} {Γl Γ Γ1 Γ2 Γ3 Γ' : List Ow} {τr τ τ1 τ2 τ3 : Ow} {m m1 m2 m3 : Env → M D} {pos p p2 p3 : Pos}
theorem Gd.blk (G : Gd X C T E Φ I) {scope : Scope} (hk : scope.kind = .function) (s : Shared) (H : Hp) (Cc : Addr) (cl : List (Str × Addr)) (fp : List Addr) : Gd (X.blk s H scope (compEnvC scope cl Cc X.env) fp) C T EF Φ (I.blk scope) where
  hK := G.hK
  hC := G.hC
  calm := G.calm
  nd := G.nd
  hN := G.hN
  sc := by
    show relS scope X.env.scope = relS scope I.sc
    rw [G.sc]
  fun_ := hk
  fn := rfl
  own := PassesOwn.never
  room := G.room.mono (by show 3 * I.lv + 0 ≤ I.rm; unfold Nfo.rm; omega)
  tk := LamX.takes0
  gi := G.gi
  abs := G.abs
  exs := fun x hx => by
    obtain ⟨A, bmB, B, nI, iI, F, q, gC, kC, rs⟩ := G.exs x hx
    exact ⟨A, bmB, B, nI, iI, F, q, gC, kC, rs⟩
  fns := fun i fi h hi => by
    obtain ⟨a, fd, F⟩ := G.fns i fi h hi
    exact ⟨a, fd, ⟨F.mg, F.keep, F.ok, F.ar, F.kws⟩⟩
  lam := fun h => nomatch (show false = true from h)
/-! ### wiping -/
theorem wipeE_len (ρ : Env) : ∀ vs : List Nat, (wipeE ρ vs).length = ρ.length
  | [] => rfl
  | v :: vs => by rw [wipeE, List.length_set, wipeE_len ρ vs]
theorem wipeE_some {ρ : Env} {i : Nat} {d : D} : ∀ {vs : List Nat}, (wipeE ρ vs)[i]? = some (some d) → ρ[i]? = some (some d) ∧ i ∉ vs
  | [], h => ⟨h, by simp⟩
  | v :: vs, h => by
    rw [wipeE] at h
    by_cases hi : v = i
    · subst hi
      by_cases hv : v < (wipeE ρ vs).length
      · rw [List.getElem?_set_self hv] at h; cases h
      · rw [List.getElem?_eq_none (by simpa using hv)] at h; cases h
    · rw [List.getElem?_set_ne hi] at h
      obtain ⟨h1, h2⟩ := wipeE_some h
      exact ⟨h1, by simp only [List.mem_cons, not_or]; exact ⟨fun e => hi e.symm, h2⟩⟩
theorem wipeE_out {ρ : Env} {i : Nat} : ∀ {vs : List Nat}, i ∉ vs → (wipeE ρ vs)[i]? = ρ[i]?
  | [], _ => rfl
  | v :: vs, h => by
    simp only [List.mem_cons, not_or] at h
    rw [wipeE, List.getElem?_set_ne (Ne.symm h.1), wipeE_out h.2]
theorem wipeE_in {ρ : Env} {i : Nat} : ∀ {vs : List Nat}, i ∈ vs → (wipeE ρ vs)[i]? = if i < ρ.length then some none else none
  | v :: vs, h => by
    rw [wipeE]
    by_cases e : v = i
    · subst e
      by_cases hl : v < ρ.length
      · rw [List.getElem?_set_self (by rw [wipeE_len]; exact hl), if_pos hl]
      · rw [if_neg hl, List.getElem?_eq_none (by rw [List.length_set, wipeE_len]; omega)]
    · rw [List.getElem?_set_ne e]
      exact wipeE_in ((List.mem_cons.mp h).resolve_left fun z => e z.symm)
theorem wipe_in {σ : L2.St} {i : Nat} : ∀ {vs : List Nat}, i ∈ vs → (wipe σ vs)[i]? = if i < σ.length then some none else none
  | v :: vs, h => by
    unfold wipe
    by_cases e : v = i
    · subst e
      by_cases hl : v < σ.length
      · rw [List.getElem?_set_self (by rw [wipe_length]; exact hl), if_pos hl]
      · rw [if_neg hl, List.getElem?_eq_none (by rw [List.length_set, wipe_length]; omega)]
    · rw [List.getElem?_set_ne e]
      exact wipe_in ((List.mem_cons.mp h).resolve_left fun z => e z.symm)
theorem wipe_eq {σ σ2 : L2.St} {vs : List Nat} (h : ∀ j, j ∉ vs → σ2[j]? = σ[j]?) (l : σ2.length = σ.length) : wipe σ2 vs = wipe σ vs := by
  apply List.ext_getElem?
  intro j
  by_cases e : j ∈ vs
  · rw [wipe_in e, wipe_in e, l]
  · rw [wipe_out e, wipe_out e, h j e]
theorem wipeE_eq {σ σ2 : Env} {vs : List Nat} (h : ∀ j, j ∉ vs → σ2[j]? = σ[j]?) (l : σ2.length = σ.length) : wipeE σ2 vs = wipeE σ vs := by
  apply List.ext_getElem?
  intro j
  by_cases e : j ∈ vs
  · rw [wipeE_in e, wipeE_in e, l]
  · rw [wipeE_out e, wipeE_out e, h j e]
theorem wipe_idem {σ : L2.St} {vs : List Nat} : wipe (wipe σ vs) vs = wipe σ vs := wipe_eq (fun j hj => wipe_out hj) (wipe_length _ _)
theorem wipeE_idem {σ : Env} {vs : List Nat} : wipeE (wipeE σ vs) vs = wipeE σ vs := wipeE_eq (fun j hj => wipeE_out hj) (wipeE_len _ _)
theorem Rl.wipe {O : Addr → Prop} {Fs : Nat → List Addr} {σ : L2.St} {H : Hp} {ρ : Env} (r : Rl C T O Γ Fs σ H ρ) (vs : List Nat) : Rl C T O Γ Fs (L2.wipe σ vs) H (wipeE ρ vs) :=
  ⟨by rw [wipeE_len, wipe_length]; exact r.len, by rw [wipeE_len]; exact r.gl, fun i d e => by
    obtain ⟨e1, n⟩ := wipeE_some e
    obtain ⟨v, τ, h1, h2, h3⟩ := r.slot i d e1
    exact ⟨v, τ, by rw [wipe_out n]; exact h1, h2, h3⟩, r.nd, r.dj, r.dj0, r.ok, r.tabs⟩
/-- a thing of others changes -/
theorem Rl.other {O : Addr → Prop} {Fs : Nat → List Addr} {σ : L2.St} {H : Hp} {ρ : Env} {l : Addr} {o u : HO} (r : Rl C T O Γ Fs σ H ρ) (nb : Γ.all noBo = true) (hl : O l) (hu : H l = some u) (hou : ownable u) (ho : ownable o) : Rl C T O Γ Fs σ (upd H l o) ρ :=
  ⟨r.len, r.gl, fun i d e => by
    obtain ⟨v, τ, e1, e2, q⟩ := r.slot i d e
    exact ⟨v, τ, e1, e2, q.monoS (sv_upd (.inl hl)) τ (all_get nb e2) fun a ha => upd_ne fun e => r.dj0 i a ha (by rw [e]; exact hl)⟩, r.nd, r.dj, r.dj0, fun a h => by
    by_cases e : a = l
    · subst e; exact ⟨o, upd_same, ho⟩
    · obtain ⟨u, h1, h2⟩ := r.ok a h
      exact ⟨u, by rw [upd_ne e]; exact h1, h2⟩, tabs_upd hu hou r.tabs⟩
theorem plus_oall {O : Addr → Prop} {F : List Addr} {Fs : Nat → List Addr} : Oall (plus O F) Fs = plus (Oall O Fs) F := funext fun a => propext ⟨fun h => h.elim (fun h => h.elim (fun h => .inl (.inl h)) .inr) (fun h => .inl (.inr h)), fun h => h.elim (fun h => h.elim (fun h => .inl (.inl h)) .inr) (fun h => .inl (.inr h))⟩
/-- new things of others -/
theorem Rl.fresh {O : Addr → Prop} {Fs : Nat → List Addr} {σ : L2.St} {H : Hp} {ρ : Env} {l : Addr} {o : HO} (r : Rl C T O Γ Fs σ H ρ) (hl : H l = none) (ho : ownable o) : Rl C T (plus O [l]) Γ Fs σ (upd H l o) ρ := by
  have s := same_upd (o := o) hl
  have r3 := r.grow (kpaS s) (r.tabs.ext s)
  have nO : ¬ Oall O Fs l := fun z => by
    obtain ⟨u, e, _⟩ := r.ok l z
    rw [hl] at e; cases e
  refine r3.more (fun a ha => ?_) (fun a ha z => ?_) fun i d e v τ e1 e2 z => ?_
  · have : a = l := by simpa using ha
    subst this
    exact ⟨o, upd_same, ho⟩
  · have : a = l := by simpa using ha
    subst this
    exact nO (.inr z)
  · obtain ⟨v', τ', g1, g2, g3⟩ := r.slot i d e
    rw [e1] at g1; cases g1
    rw [e2] at g2; cases g2
    refine g3.mono (kpaS s) fun a u ha z => ?_
    rw [plus_oall] at z
    rcases z with z | z
    · exact z
    · have : a = l := by simpa using z
      subst this
      rw [hl] at ha; cases ha
/-- the old values are back -/
theorem Rl.unwipe {O O' : Addr → Prop} {Fs Fs' : Nat → List Addr} {σ : L2.St} {H H' : Hp} {ρ : Env} {vs : List Nat} (r : Rl C T O Γ Fs σ H ρ) (r' : Rl C T O' Γ Fs' (L2.wipe σ vs) H' (wipeE ρ vs)) (hsh : ∀ j ∈ vs, Γ[j]? = some .sh) (s : Sv H (Oall O Fs) H' (Oall O' Fs')) :
    Rl C T O' Γ (fun j => if j ∈ vs then [] else Fs' j) σ H' ρ ∧ ∀ a, Ownd (fun j => if j ∈ vs then [] else Fs' j) a → Ownd Fs' a := by
  have sub : ∀ a, Ownd (fun j => if j ∈ vs then [] else Fs' j) a → Ownd Fs' a := fun a ⟨j, h⟩ => by
    replace h : a ∈ if j ∈ vs then [] else Fs' j := h
    by_cases e : j ∈ vs
    · rw [if_pos e] at h; exact absurd h (by simp)
    · rw [if_neg e] at h; exact ⟨j, h⟩
  have subO : ∀ a, Oall O' (fun j => if j ∈ vs then [] else Fs' j) a → Oall O' Fs' a := fun a h => h.imp id (sub a)
  refine ⟨⟨r.len, r.gl, fun j d hj => ?_, fun j => ?_, fun i j a h1 h2 => ?_, fun j a h => ?_, fun a h => r'.ok a (subO a h), r'.tabs⟩, sub⟩
  · by_cases e : j ∈ vs
    · obtain ⟨v, τ, e1, e2, q⟩ := r.slot j d hj
      rw [hsh j e] at e2; cases e2
      refine ⟨v, .sh, e1, hsh j e, ?_⟩
      rw [if_pos e]
      exact ⟨rfl, (RepS.mono s _ _ q.2).less subO⟩
    · obtain ⟨v, τ, e1, e2, q⟩ := r'.slot j d (by rw [wipeE_out e]; exact hj)
      rw [wipe_out e] at e1
      refine ⟨v, τ, e1, e2, ?_⟩
      rw [if_neg e]
      exact q.mono (KpA.refl H') fun a _ _ z => subO a z
  · show (if j ∈ vs then [] else Fs' j).Nodup
    split
    · exact List.nodup_nil
    · exact r'.nd j
  · replace h1 : a ∈ if i ∈ vs then [] else Fs' i := h1
    replace h2 : a ∈ if j ∈ vs then [] else Fs' j := h2
    by_cases e1 : i ∈ vs
    · rw [if_pos e1] at h1; exact absurd h1 (by simp)
    · by_cases e2 : j ∈ vs
      · rw [if_pos e2] at h2; exact absurd h2 (by simp)
      · rw [if_neg e1] at h1
        rw [if_neg e2] at h2
        exact r'.dj i j a h1 h2
  · replace h : a ∈ if j ∈ vs then [] else Fs' j := h
    by_cases e : j ∈ vs
    · rw [if_pos e] at h; exact absurd h (by simp)
    · rw [if_neg e] at h
      exact r'.dj0 j a h
def compF (t : Tg) (own : List Nat) (ρ : Env) (mf : Env → M Bool) (me : Env → M D) (d : D) : M (Option D) := .bind (asgT t d (wipeE ρ own)) fun ρ1 => .bind (mf ρ1) fun b => if b = true then .bind (me ρ1) fun y => .ret (some y) else .ret none
theorem lc_meet {J0 : Unit} {t : Tg} {tg iter elt : Expr} {ifs : List Expr} {scope : Scope} {ownp : List (Str × Nat)} {is : List Nat} {mi : Env → M (List D)} {mf : Env → M Bool} (his : ∀ j ∈ is, j ∈ ownp.map (·.2)) (htg : ∀ j ∈ tgIx t, j ∈ ownp.map (·.2)) (hsh : ∀ j ∈ ownp.map (·.2), Γ1[j]? = some .sh) (nb : Γ1.all noBo = true) :
    ∀ σ H Q, tO C T E Γ Γ1 (.li .sh) (fun ρ => .bind (mi ρ) fun items => .bind (.nox (compL (compF t (ownp.map (·.2)) ρ mf m) items)) fun ys => .ret (.lst ys)) σ H Q → tLc (tI C T E false Γ Γ1 mi) (tG C T is Γ1 (asgT t)) (tT C T EF Γ1 Γ1 mf) (tV C T EF Γ1 Γ1 .sh m) (ownp.map (·.2)) σ H Q := fun σ H Q ⟨O, Fs, ρ, Qd, Ed, r, hm, xp, k⟩ => by
  generalize hvs : ownp.map (·.2) = vs at his htg hsh hm k ⊢
  refine ⟨O, Fs, ρ, _, Ed, r, hm, xp, fun ds H1 Fs1 J hd t1 r1 hJ Dn hDn => ?_⟩
  obtain ⟨z, Gw, Y, w, st⟩ := hJ
  have hd' : compL (compF t vs ρ mf m) ds (fun ys => Qd (.lst ys)) (fun _ => False) := hd
  -- the list in the making is others'
  refine lc_it w (fun i H' => ∃ Fs' acc ys, Rl C T (plus O [Dn]) Γ1 Fs' (L2.wipe σ vs) H' (wipeE ρ vs) ∧ KpA H1 H' ∧ (∀ a, Ownd Fs' a → Ownd Fs1 a ∨ H1 a = none) ∧ H' Dn = some (.lst acc) ∧ acc.length ≤ i ∧ RepSs C H' (Oall (plus O [Dn]) Fs') acc ys ∧
    compL (compF t vs ρ mf m) (ds.drop i) (fun zs => Qd (.lst (ys ++ zs))) (fun _ => False)) ?_ ?_ ?_ ?_
  · refine ⟨Fs1, [], [], (r1.fresh (o := .lst []) hDn trivial).wipe vs, kpaS (same_upd hDn), fun a h => .inl h, upd_same, Nat.le_refl 0, .nil, ?_⟩
    exact hd'
  · rintro i H' _ ⟨Fs', acc, ys, r', kp, fr, hD, _⟩
    refine (st (Oall (plus O [Dn]) Fs') H' (kp.sv fun a o e z => ?_) (fun _ => kp) r'.ok).1
    rcases z with (z | z) | z
    · exact .inl z
    · have : a = Dn := by simpa using z
      subst this
      rw [hDn] at e; cases e
    · rcases fr a z with z | z
      · exact .inr z
      · rw [z] at e; cases e
  · rintro i x H' H'' hi ⟨Fs', acc, ys, r', kp, fr, hD, hl, qa, hf⟩ y
    have svP : Sv H1 (Oall O Fs1) H' (Oall (plus O [Dn]) Fs') := kp.sv fun a o e z => by
      rcases z with (z | z) | z
      · exact .inl z
      · have : a = Dn := by simpa using z
        subst this
        rw [hDn] at e; cases e
      · rcases fr a z with z | z
        · exact .inr z
        · rw [z] at e; cases e
    obtain ⟨s3, d, ed, rd⟩ := (st _ H' svP (fun _ => kp) r'.ok).2 i x H'' hi y
    have hdr : ds.drop i = d :: ds.drop (i + 1) := by
      rw [List.drop_eq_getElem_cons hi]
      congr 1
      have := List.getElem?_eq_getElem hi
      rw [ed] at this
      exact (Option.some.inj this).symm
    rw [hdr] at hf
    have hf' : asgT t d (wipeE ρ vs) (fun ρ1 => mf ρ1 (fun b => (if b = true then .bind (m ρ1) fun y => .ret (some y) else .ret none : M (Option D)) (fun o => compL (compF t vs ρ mf m) (ds.drop (i + 1)) (fun zs => Qd (.lst (ys ++ (o.toList ++ zs)))) (fun _ => False)) (fun _ => False)) (fun _ => False)) (fun _ => False) := hf
    have kp3 : KpA H1 H'' := kp.trans (kpaS s3)
    have hD3 : H'' Dn = some (.lst acc) := s3 _ _ hD
    have r3 := r'.grow (kpaS s3) (r'.tabs.ext s3)
    refine ⟨plus O [Dn], Fs', wipeE ρ vs, d, _, _, r3, rd, asgT_off t d _ _ _ hf', fun ρ4 σ4 Fs4 hq4 n4 o4 l4 r4 => ?_⟩
    obtain ⟨hq4, o4', l4'⟩ := hq4
    have ew : L2.wipe σ4 vs = L2.wipe σ vs := (wipe_eq (fun j hj => o4 j fun z => hj (his j z)) l4).trans wipe_idem
    have ewE : wipeE ρ4 vs = wipeE ρ vs := (wipeE_eq (fun j hj => o4' j fun z => hj (htg j z)) l4').trans wipeE_idem
    refine ⟨ew, plus O [Dn], Fs4, ρ4, _, _, r4, hq4, Xp.false, fun b H5 Fs5 hb t5 r5 => ?_⟩
    have fr4 : ∀ a, Ownd Fs4 a → Ownd Fs1 a ∨ H1 a = none := fun a h => fr a (n4 a h)
    have low : ∀ a, H'' a = none → H1 a = none := fun a e => by
      cases q : H1 a with
      | none => rfl
      | some o =>
        have z := kp3 a o q
        rw [e] at z; cases z
    have fr5 : ∀ a, Ownd Fs5 a → Ownd Fs1 a ∨ H1 a = none := fun a h => by
      rcases t5.fr a (.inl h) with z | z
      · exact fr4 a z
      · exact .inr (low a z)
    have kp5 : KpA H1 H5 := kp3.trans t5.kp
    have hD5 : H5 Dn = some (.lst acc) := (t5.kp Dn _ hD3).lst
    have qa5 : RepSs C H5 (Oall (plus O [Dn]) Fs5) acc ys := by
      refine RepSs.mono (((kpaS s3).trans t5.kp).sv fun a o e z => ?_) _ _ qa
      rcases z with z | z
      · exact .inl z
      · rcases t5.fr a (.inl z) with z | z
        · exact .inr (n4 a z)
        · rw [s3 a o e] at z; cases z
    cases b with
    | false =>
      have hb' : compL (compF t vs ρ mf m) (ds.drop (i + 1)) (fun zs => Qd (.lst (ys ++ ([] ++ zs)))) (fun _ => False) := hb
      have r5' := r5.wipe vs
      rw [ew, ewE] at r5'
      exact ⟨Fs5, acc, ys, r5', kp5, fr5, hD5, Nat.le_succ_of_le hl, qa5, hb'⟩
    | true =>
      have hb' : m ρ4 (fun y => compL (compF t vs ρ mf m) (ds.drop (i + 1)) (fun zs => Qd (.lst (ys ++ ([y] ++ zs)))) (fun _ => False)) (fun _ => False) := hb
      refine ⟨plus O [Dn], Fs5, ρ4, _, _, r5, hb', Xp.false, fun d6 v6 H6 Fs6 h6 t6 r6 q6 => ?_⟩
      have kp6 : KpA H1 H6 := kp5.trans t6.kp
      have hD6 : H6 Dn = some (.lst acc) := (t6.kp Dn _ hD5).lst
      refine ⟨acc, hD6, by omega, Fs6, acc ++ [v6], ys ++ [d6], ?_, ?_, fun a h => ?_, upd_same, ?_, ?_, ?_⟩
      · have r6' := r6.wipe vs
        rw [ew, ewE] at r6'
        exact r6'.other nb (.inr (by simp)) hD6 trivial trivial
      · intro a o e
        have : a ≠ Dn := fun z => by rw [z, hDn] at e; cases e
        rw [upd_ne this]
        exact kp6 a o e
      · rcases t6.fr a (.inl h) with z | z
        · exact fr5 a z
        · refine .inr ?_
          cases q : H1 a with
          | none => rfl
          | some o =>
            have zz := kp5 a o q
            rw [z] at zz; cases zz
      · rw [List.length_append, List.length_singleton]
        omega
      · have qa6 : RepSs C H6 (Oall (plus O [Dn]) Fs6) acc ys := RepSs.mono (t6.kp.sv (own_mv t6)) _ _ qa5
        have sv : Sv H6 (Oall (plus O [Dn]) Fs6) (upd H6 Dn (.lst (acc ++ [v6]))) (Oall (plus O [Dn]) Fs6) := sv_upd (.inl (.inr (by simp)))
        exact (RepSs.mono sv _ _ qa6).snoc (RepS.mono sv _ _ q6)
      · simpa [List.append_assoc] using h6
  · rintro H' ⟨Fs', acc, ys, r', kp, fr, hD, hl, qa, hf⟩
    rw [List.drop_length] at hf
    have hf' : Qd (.lst (ys ++ [])) := hf
    rw [List.append_nil] at hf'
    have svP : Sv H1 (Oall O Fs1) H' (Oall (plus O [Dn]) Fs') := kp.sv fun a o e z => by
      rcases z with (z | z) | z
      · exact .inl z
      · have : a = Dn := by simpa using z
        subst this
        rw [hDn] at e; cases e
      · rcases fr a z with z | z
        · exact .inr z
        · rw [z] at e; cases e
    obtain ⟨r2, sub⟩ := r1.unwipe r' hsh svP
    refine k (.lst ys) (.ref Dn) H' _ [Dn] hf' (t1.trans ⟨kp, fun a h => ?_⟩) r2 ?_ (by simp) fun a ha z => ?_
    · rcases h with h | h
      · exact fr a (sub a h)
      · have : a = Dn := by simpa using h
        subst this
        exact .inr hDn
    · exact li_repT hD (by omega) (RepSs.mono ((KpA.refl H').sv fun a o e z => z.imp id (sub a)) _ _ qa)
    · have : a = Dn := by simpa using ha
      subst this
      obtain ⟨o, e, _⟩ := r1.ok a (.inl z)
      rw [hDn] at e; cases e
theorem ve_comp {t : Tg} {tg iter elt : Expr} {ifs : List Expr} {scope : Scope} {ownp : List (Str × Nat)} {is : List Nat} {mi : Env → M (List D)} {mf : Env → M Bool} (G : Gd X C T E Φ I) (hi : PI X tg iter (tI C T E false Γ Γ1 mi)) (ok : blkC I.N I.sc scope ownp = true) (his : ∀ j ∈ is, j ∈ ownp.map (·.2)) (htg : ∀ j ∈ tgIx t, j ∈ ownp.map (·.2)) (hsh : ∀ j ∈ ownp.map (·.2), Γ1[j]? = some .sh) (nb : Γ1.all noBo = true) (hs : nsetB iter = true)
    (hblk : ∀ X' : Cx, Gd X' C T EF Φ (I.blk scope) → PG X' tg (tG C T is Γ1 (asgT t)) ∧ PTs X' ifs (tT C T EF Γ1 Γ1 mf) ∧ PE X' elt (tV C T EF Γ1 Γ1 .sh m)) :
    PE X (.ListComp elt [⟨tg, iter, ifs, 0⟩] scope pos) (tO C T E Γ Γ1 (.li .sh) (fun ρ => .bind (mi ρ) fun items => .bind (.nox (compL (compF t (ownp.map (·.2)) ρ mf m) items)) fun ys => .ret (.lst ys))) := by
  have bo : BlkOk X.N X.env.scope scope ownp := by rw [G.hN, G.sc]; exact blkOk_by ok
  exact (pe_lc G.calm G.nd hi bo (fun s H Cc cl fp => (hblk _ (G.blk bo.kind s H Cc cl fp)).1) (fun s H Cc cl fp => (hblk _ (G.blk bo.kind s H Cc cl fp)).2.1) (fun s H Cc cl fp => (hblk _ (G.blk bo.kind s H Cc cl fp)).2.2) (folded_no hs)).imp (lc_meet (J0 := ()) (tg := tg) (iter := iter) (elt := elt) (ifs := ifs) (scope := scope) his htg hsh nb)
/-- x = [..] on one line -/
theorem vs_setLc {i : Nat} {y : Str} {py spos : Pos} {t : Tg} {tg iter elt : Expr} {ifs : List Expr} {scope : Scope} {ownp : List (Str × Nat)} {is : List Nat} {mi : Env → M (List D)} {mf : Env → M Bool} (G : Gd X C T E Φ I) (hN : I.N[i]? = some y) (hy : I.sc.names.lookup y = some .local) (hl : (py.line == pos.line) = true) (hany : (scope.names.any fun (n, k) => n == y && (k == .local || k == .cell)) = false) (hil : i < Γ1.length)
    (hi : PI X tg iter (tI C T E false Γ Γ1 mi)) (ok : blkC I.N I.sc scope ownp = true) (his : ∀ j ∈ is, j ∈ ownp.map (·.2)) (htg : ∀ j ∈ tgIx t, j ∈ ownp.map (·.2)) (hsh : ∀ j ∈ ownp.map (·.2), Γ1[j]? = some .sh) (nb : Γ1.all noBo = true) (hs : nsetB iter = true)
    (hblk : ∀ X' : Cx, Gd X' C T EF Φ (I.blk scope) → PG X' tg (tG C T is Γ1 (asgT t)) ∧ PTs X' ifs (tT C T EF Γ1 Γ1 mf) ∧ PE X' elt (tV C T EF Γ1 Γ1 .sh m)) :
    PS X (.Assign [.Name y py] (.ListComp elt [⟨tg, iter, ifs, 0⟩] scope pos) spos) (tS C T E τr Γl Γ (Γ1.set i (.li .sh)) (fun ρ => .bind (.bind (mi ρ) fun items => .bind (.nox (compL (compF t (ownp.map (·.2)) ρ mf m) items)) fun ys => .ret (.lst ys)) fun x => .ret (.nx, setE ρ i x))) := by
  have bo : BlkOk X.N X.env.scope scope ownp := by rw [G.hN, G.sc]; exact blkOk_by ok
  refine (ps_setLc (i := i) G.calm G.nd (by rw [G.hN]; exact hN) (by rw [G.sc]; exact hy) (sw_true (by rw [G.sc]; exact G.fun_) (by rw [G.sc]; exact hy) hl hany) hi bo (fun s H Cc cl fp => (hblk _ (G.blk bo.kind s H Cc cl fp)).1) (fun s H Cc cl fp => (hblk _ (G.blk bo.kind s H Cc cl fp)).2.1) (fun s H Cc cl fp => (hblk _ (G.blk bo.kind s H Cc cl fp)).2.2) (folded_no hs)).imp fun D σ H ⟨O, Fs, ρ, Qd, Ed, r, hm, x, k1, k2, k3, k4⟩ => ?_
  refine lc_meet (J0 := ()) (tg := tg) (iter := iter) (elt := elt) (ifs := ifs) (scope := scope) his htg hsh nb σ H _ ⟨O, Fs, ρ, _, Ed, r, hm, x, fun d v H1 Fs1 F hd t1 r1 q nd n => ?_⟩
  obtain ⟨t, r2⟩ := set_end (i := i) hil t1 r1 q nd n
  exact k1 _ _ H1 _ hd t r2
/-! ### tests of a comprehension -/
theorem vf_nil {X : Cx} {Γ : List Ow} : PTs X [] (tT C T E Γ Γ (fun _ => .ret true)) := ⟨fun pins s σ H Q I ⟨O, Fs, ρ, Qd, Ed, r, hm, x, k⟩ => pts_nil.run pins s σ H Q I (k true H Fs hm (TrE.refl H Fs) r)⟩
theorem vf_one {X : Cx} {Γ Γ2 : List Ow} {c : Expr} {mt : Env → M Bool} (h : PT X c (tT C T E Γ Γ2 mt)) : PTs X [c] (tT C T E Γ Γ2 mt) := pts_one h
end
end Wb

end
section
/-! Wb: built-in functions, by name. -/
namespace Wb
open PySem PySem.Spec PyProof.Rows L2
def biN : Bi → Str
  | .len => "len" | .tuple => "tuple" | .list => "list" | .sorted => "sorted" | .sum => "sum" | .sumL => "sum" | .min => "min" | .max => "max" | .min2 => "min" | .max2 => "max" | .all => "all" | .any => "any" | .int => "int" | .abs => "abs" | .repr => "repr"
def biOne : Bi → Bool
  | .sumL | .min2 | .max2 => false
  | _ => true
def biTwo : Bi → Bool
  | .min2 | .max2 => true
  | _ => false
/-- does it ask that the items be shared -/
def biFlat : Bi → Bool
  | .len | .int | .abs | .repr => false
  | _ => true
def biRet : Bi → Ow
  | .list | .sorted => .li .sh
  | _ => .sh
section
variable {C : Cn} {T : List (Addr × Str)} {E : XK} {X : Cx} {Φ : Fen} {I : Nfo} {Γl Γ Γ1 Γ2 Γ3 Γ' : List Ow} {τr τ τ1 τ2 τ3 : Ow} {m m1 m2 m3 : Env → M D} {pos p p2 p3 : Pos}
theorem call_reprD : CallR X (.builtin "repr") (fun xs H Q => (∃ b, xs = [.bl b] ∧ Q (.str (if b then "True" else "False")) H) ∨ (xs = [.non] ∧ Q (.str "None") H)) := by
  intro pins s σ H xs us Q I r h
  rcases h with ⟨b, rfl, q⟩ | ⟨rfl, q⟩
  · obtain ⟨u, rfl, rx⟩ := vals1 r
    cases (show u = Value.bool b from rx)
    refine PySem.P.repr_of_bool ⟨.str _, H, I.tok _, ⟨_, rfl⟩, ?_⟩
    cases b <;> exact q
  · obtain ⟨u, rfl, rx⟩ := vals1 r
    cases (show u = Value.none from rx)
    exact PySem.P.repr_of_none ⟨.str _, H, I.tok _, ⟨_, rfl⟩, q⟩
theorem RepR.nonE {H : Hp} {O : Addr → Prop} {v : V} (h : RepR C H O τ v .non) : v = .non := by
  have := h.isNon
  simpa [isNonD] using this
theorem sem_repr : Sem1 C (fun xs H Q => (∃ b, xs = [.bl b] ∧ Q (.str (if b then "True" else "False")) H) ∨ (xs = [.non] ∧ Q (.str "None") H)) (o1 .repr) τ1 .sh := by
  intro O H x dx Qd Ed Q hO rx h s
  cases dx <;> first | exact (h : False).elim | skip
  · have e := rx.nonE
    subst e
    exact .inr ⟨rfl, s.val h (.str _)⟩
  · have e := rx.bl
    subst e
    exact .inl ⟨_, rfl, s.val h (.str _)⟩
theorem ve_blt1 {b : Bi} {a : Expr} (G : Gd X C T E Φ I) (h1 : biOne b = true) (hg : glB I.sc (biN b) = true) (hab : biN b ∈ I.tab.abs) (hf : (!biFlat b || flatO τ1) = true) (ha : PE X a (tV C T E Γ Γ1 τ1 m1)) (hs : nstB a = true) :
    PE X (.Call (.Name (biN b) p) [a] [] pos) (tO C T E Γ Γ1 (biRet b) (fun ρ => .bind (m1 ρ) (o1 b))) := by
  have hK := G.hK
  have hm := G.abs _ hab
  have hst := starEach_cons (env := X.env) (es := []) hs
  have hgl := G.gl hg
  have hc := G.calm
  have cr : ∀ {b : Value} {r : PySem.W.Frag → List V → Hp → VK → Prop}, CallR X b (r X.K) → CallR X b (r C.K) := fun {b r} h => by rw [hK]; exact h
  cases b <;> first | (cases h1; done) | skip
  · exact ve_b1 (cr (r := fun K xs H Q => ∃ p ys, xs = [.ref p] ∧ (SqL K H p ys ∨ SqT K H p ys) ∧ Q (.int ys.length) H) call_len_seq) hgl hm rfl ha (by decide) (by decide) hst rfl sem_len
  · exact ve_t1 (cr (r := rTupleD) call_tuple_of) hgl hm rfl ha (by decide) (by decide) hst rfl (sem_tuple hf)
  · exact ve_t1 (cr (r := rListD') call_list_of) hgl hm rfl ha (by decide) (by decide) hst rfl (sem_list hf)
  · exact ve_b1 (cr (r := rSortD) cr_sortD) hgl hm rfl ha (by decide) (by decide) hst rfl (sem_sorted hf)
  · exact ve_b1 (cr (r := rSumD) (cr_sumD hc)) hgl hm rfl ha (by decide) (by decide) hst rfl (sem_sum hf)
  · exact ve_b1 (cr (r := rMinD) (cr_minD hc)) hgl hm rfl ha (by decide) (by decide) hst rfl (sem_min hf)
  · exact ve_b1 (cr (r := rMaxD') (cr_maxD' hc)) hgl hm rfl ha (by decide) (by decide) hst rfl (sem_max hf)
  · exact ve_b1 (cr (r := rAllD) (cr_allD hc)) hgl hm rfl ha (by decide) (by decide) hst rfl (sem_all hf)
  · exact ve_b1 (cr (r := rAnyD) (cr_anyD hc)) hgl hm rfl ha (by decide) (by decide) hst rfl (sem_any hf)
  · exact ve_t1 call_int1 hgl hm rfl ha (by decide) (by decide) hst rfl sem_int
  · exact ve_b1 call_abs hgl hm rfl ha (by decide) (by decide) hst rfl sem_abs
  · exact ve_b1 call_reprD hgl hm rfl ha (by decide) (by decide) hst rfl sem_repr
theorem ve_blt2 {b : Bi} {a a' : Expr} (G : Gd X C T E Φ I) (h1 : biTwo b = true) (hg : glB I.sc (biN b) = true) (hab : biN b ∈ I.tab.abs) (ha : PE X a (tV C T E Γ Γ1 τ1 m1)) (hb : PE X a' (tV C T E Γ1 Γ2 τ2 m2)) (hs : nstB a = true) (hs2 : nstB a' = true) :
    PE X (.Call (.Name (biN b) p) [a, a'] [] pos) (tO C T E Γ Γ2 .sh (fun ρ => .bind (m1 ρ) fun x => .bind (m2 ρ) fun y => o2 b x y)) := by
  have hm := G.abs _ hab
  have hst := starEach_cons (env := X.env) (es := [a']) hs
  have hst2 := starEach_cons (env := X.env) (es := []) hs2
  have hgl := G.gl hg
  cases b <;> first | (cases h1; done) | skip
  · refine ve_b2 (call_min2 G.calm) hgl hm rfl ha hb (by decide) (by decide) hst hst2 (star_plain (es := [a']) (by simp [hs2])) fun O H x y dx dy Qd Ed Q hO rx ry h s => ?_
    cases dx <;> cases dy <;> first | exact (h : False).elim | skip
    have e1 := rx.int; have e2 := ry.int
    subst e1 e2
    exact ⟨_, _, rfl, s.val h (.int _)⟩
  · refine ve_b2 (call_max2 G.calm) hgl hm rfl ha hb (by decide) (by decide) hst hst2 (star_plain (es := [a']) (by simp [hs2])) fun O H x y dx dy Qd Ed Q hO rx ry h s => ?_
    cases dx <;> cases dy <;> first | exact (h : False).elim | skip
    have e1 := rx.int; have e2 := ry.int
    subst e1 e2
    exact ⟨_, _, rfl, s.val h (.int _)⟩
/-! ### dicts -/
theorem ve_dct0 {t : Bool} : PE X (.Dict [] [] pos) (tO C T E Γ Γ (if t = true then .dt else .dk) (fun _ => .ret (.dct t []))) := by
  have key : ∀ (σ : L2.St) (H : Hp) (Q : VK) (o : HO) (O : Addr → Prop) (Fs : Nat → List Addr) (ρ : Env), Rl C T O Γ Fs σ H ρ → ∀ p, H p = none → ownable o → TrE H Fs (upd H p o) Fs [p] ∧ Rl C T (plus O [p]) Γ Fs σ (upd H p o) ρ := fun σ H Q o O Fs ρ r p hp ho =>
    ⟨⟨kpaS (same_upd hp), fun a h => h.elim .inl fun h => .inr (by rw [List.mem_singleton.mp h]; exact hp)⟩, r.fresh hp ho⟩
  cases t with
  | true =>
    refine pe_dnewT.imp fun σ H Q ⟨O, Fs, ρ, Qd, Ed, r, hm, x, k⟩ p hp => ?_
    obtain ⟨t, r'⟩ := key σ H Q (.dT []) O Fs ρ r p hp trivial
    exact k _ _ _ Fs [p] hm t r' ⟨p, [], [], rfl, rfl, upd_same, Nat.zero_le _, rfl, .nil⟩ (by simp) fun a ha z => by
      have : a = p := by simpa using ha
      subst this
      obtain ⟨o, e, _⟩ := r.ok a (.inl z)
      rw [hp] at e; cases e
  | false =>
    have nd : notDraw ([] : List (Key × V)) := by simp [notDraw]
    refine pe_dnewK.imp fun σ H Q ⟨O, Fs, ρ, Qd, Ed, r, hm, x, k⟩ p hp => ?_
    obtain ⟨t, r'⟩ := key σ H Q (.dK []) O Fs ρ r p hp nd
    exact k _ _ _ Fs [p] hm t r' ⟨p, [], [], rfl, rfl, upd_same, Nat.zero_le _, nd, rfl, .nil⟩ (by simp) fun a ha z => by
      have : a = p := by simpa using ha
      subst this
      obtain ⟨o, e, _⟩ := r.ok a (.inl z)
      rw [hp] at e; cases e
/-- o.get(k, d): o may be seen as a dict ahead of its arguments -/
def getM (m m1 m2 : Env → M D) (ρ : Env) : M D := .bind (m ρ) fun x => .bind (match x with | .dct t kvs => .ret (t, kvs) | _ => .fail) fun (tk : Bool × List (D × D)) => .bind (m1 ρ) fun k => .bind (m2 ρ) fun d => .bind (.opt (kyT tk.1 k)) fun q => .ret ((lookD tk.2 q).getD d)
theorem ve_get {o e f : Expr} {apos cpos : Pos} (G : Gd X C T E Φ I) (ho : PE X o (tV C T E Γ Γ1 τ m)) (he : PE X e (tV C T E Γ1 Γ2 τ1 m1)) (hf : PE X f (tV C T E Γ2 Γ3 .sh m2)) (M2' : M2 X o "get" apos e f cpos) :
    PE X (.Call (.Attribute o "get" apos) [e, f] [] cpos) (tV C T E Γ Γ3 .sh (getM m m1 m2)) := by
  refine (pe_dget2 G.units ho he hf M2').imp fun σ H Q ⟨O, Fs, ρ, Qd, Ed, r, hm, x, k⟩ => ?_
  refine ⟨O, Fs, ρ, _, Ed, r, hm, x, fun d v H1 Fs1 hd t1 r1 q => ?_⟩
  cases d <;> first | exact (hd : False).elim | skip
  rename_i t ds
  have hd' : m1 ρ (fun k => m2 ρ (fun d => M.opt (kyT t k) (fun q => Qd ((lookD ds q).getD d)) Ed) Ed) Ed := hd
  have q0 := q
  obtain ⟨a, rfl, hD⟩ := q.dct
  refine ⟨a, rfl, ?_, O, Fs1, ρ, _, Ed, r1, hd', x.tr t1.toS, fun d1 v1 H2 Fs2 h2 t2 r2 q1 => ?_⟩
  · rcases hD with ⟨_, kvs, rr, _⟩ | ⟨_, kvs, rr, _⟩
    · exact .inl ⟨kvs, rr⟩
    · exact .inr ⟨kvs, rr⟩
  · refine ⟨O, Fs2, ρ, _, Ed, r2, h2, (x.tr t1.toS).tr t2.toS, fun d2 v2 H3 Fs3 h3 t3 r3 q2 => ?_⟩
    obtain ⟨qq, eq, hq⟩ := opt_some h3
    have q0' := (q0.mono t2.kp (own_mv t2)).mono t3.kp (own_mv t3)
    have q1' := q1.mono t3.kp (own_mv t3)
    obtain ⟨a', ea, g1, g2⟩ := dget q0' q1' eq
    cases ea
    cases hl : lookD ds qq with
    | none =>
      rw [hl] at hq
      exact ⟨none, g2 hl, k _ _ H3 Fs3 hq ((t1.trans t2).trans t3) r3 q2⟩
    | some d =>
      rw [hl] at hq
      obtain ⟨w, gw, rw'⟩ := g1 d hl
      exact ⟨some w, gw, k _ _ H3 Fs3 hq ((t1.trans t2).trans t3) r3 rw'⟩
theorem walk_zipT {K : PySem.W.Frag} {a b : Addr} {xs ys : List V} {n : Nat} (hn : n = min xs.length ys.length) : Walk (RZ.ItzT K a b) n (fun H => SqT K H a xs ∧ SqT K H b ys) (YPair (fun i => xs[i]?) (fun i => ys[i]?)) := by
  subst hn
  refine ⟨fun i H hi q => ?_, fun H q => ⟨xs, ys, q.1, q.2, by omega⟩, fun i H v H' hi q y => ?_⟩
  · have h1 : i < xs.length := by omega
    have h2 : i < ys.length := by omega
    exact ⟨xs, ys, xs[i], ys[i], q.1, q.2, by simp [h1], by simp [h2]⟩
  · obtain ⟨T, x, z, h1, h2, h3, h4, h5⟩ := y
    exact ⟨T, x, z, h1, h2, h3, h4 xs q.1, h5 ys q.2⟩
theorem ve_zip {tg e e2 : Expr} {elts : List Expr} {kk : Nat} {tp : Pos} (hK : C.K = X.K) (hg : Gl X "zip") (hm' : X.mg "zip" = none) (he : PE X e (tV C T E Γ Γ1 .sh m1)) (he2 : PE X e2 (tV C T E Γ1 Γ2 .sh m2)) (ns : nstB e = true) (ns2 : nstB e2 = true) :
    PI X (.Tuple elts kk tp) (.Call (.Name "zip" p) [e, e2] [] pos) (tI C T E true Γ Γ2 (fun ρ => .bind (m1 ρ) fun x => .bind (m2 ρ) fun y => match x, y with
    | .lst xs, .lst ys => .ret (zipD xs ys)
    | .tup xs, .tup ys => .ret (zipD xs ys)
    | _, _ => .fail)) :=
  (RZ.pi_zipA hg hm' (pa_cons he (pa_cons he2 pa_nil (starEach_cons ns2)) (starEach_cons ns)) (starEach_cons ns) (star_plain (es := [e2]) (by simp [ns2]))).imp fun σ H R ⟨O, Fs, ρ, Qd, Ed, r, hm, x, k⟩ => by
  refine ⟨O, Fs, ρ, _, Ed, r, hm, x, fun d v H1 Fs1 hd t1 r1 q => ?_⟩
  refine ⟨O, Fs1, ρ, _, Ed, r1, hd, x.tr t1.toS, fun d2 v2 H2 Fs2 hd2 t2 r2 q2 => ?_⟩
  have q' : RepS C H2 (Oall O Fs2) v d := RepS.mono (t2.kp.sv (own_mv t2)) _ _ q
  rw [← hK]
  have pr : ∀ {xs ys : List V} {ds es : List D}, RepSs C H2 (Oall O Fs2) xs ds → RepSs C H2 (Oall O Fs2) ys es → ∀ i x y, i < (zipD ds es).length → xs[i]? = some x → ys[i]? = some y → ∃ d e, RepS C H2 (Oall O Fs2) x d ∧ RepS C H2 (Oall O Fs2) y e ∧ (zipD ds es)[i]? = some (.tup [d, e]) := fun {xs ys ds es} qa qb i x y hi hx hy => by
    obtain ⟨d, hd, rd⟩ := qa.getV hx
    obtain ⟨e, he, re⟩ := qb.getV hy
    exact ⟨d, e, rd, re, zipD_get ds es i hd he⟩
  cases d <;> cases d2 <;> first | exact (hd2 : False).elim | skip
  · cases q' with
    | lst n ra z qa =>
      cases q2 with
      | lst n2 ra2 z2 qa2 =>
        refine ⟨_, _, _, _, rfl, .inl ⟨.inl ra, .inl ra2, k _ H2 Fs2 _ hd2 (t1.trans t2) r2 (itok_pair ?_ (walk_zip (by rw [zipD_len, qa.length, qa2.length])) (fun P2 H2 s _ => ⟨Or.inl (s.rd n ra Kp.lst).1, Or.inl (s.rd n2 ra2 Kp.lst).1⟩) (pr qa qa2))⟩⟩
        rw [zipD_len, ← qa.length]
        omega
  · cases q' with
    | tup n ra z qa =>
      cases q2 with
      | tup n2 ra2 z2 qa2 =>
        refine ⟨_, _, _, _, rfl, .inr ⟨SqT.of ra, SqT.of ra2, k _ H2 Fs2 _ hd2 (t1.trans t2) r2 (itok_pair ?_ (walk_zipT (by rw [zipD_len, qa.length, qa2.length])) (fun P2 H2 s _ => ⟨SqT.of (s _ _ ra n).1.tup, SqT.of (s _ _ ra2 n2).1.tup⟩) (pr qa qa2))⟩⟩
        rw [zipD_len, ← qa.length]
        omega
/-- {'whole': w, 'cells': c, 'count': 0} -/
theorem ve_tokNew {i j : Nat} {x y : Str} {pw pc pn pi pj pz : Pos} {jw jc jn jz : Nat} (G : Gd X C T E Φ I) (hNi : I.N[i]? = some x) (hvi : visB I.sc x = true) (hdi : dbgB x = true) (hNj : I.N[j]? = some y) (hvj : visB I.sc y = true) (hdj : dbgB y = true) (hij : i ≠ j) (ht : Γ[j]? = some (.li .sh)) :
    PE X (.Dict [some (.Constant (.str "whole") jw pw), some (.Constant (.str "cells") jc pc), some (.Constant (.str "count") jn pn)] [.Name x pi, .Name y pj, .Constant (.int 0) jz pz] pos) (tV C T E Γ (Γ.set j .sh) .sh (evE Φ (.tokNew i j))) := by
  have hi := pe_var (X := X) (pos := pi) (i := i) (x := x) (by rw [G.hN]; exact hNi) (G.vis hvi) (dbg1 hdi) (dbg2 hdi)
  have hj := pe_var (X := X) (pos := pj) (i := j) (x := y) (by rw [G.hN]; exact hNj) (G.vis hvj) (dbg1 hdj) (dbg2 hdj)
  refine (pe_disp (pps_cons pe_str hi (pps_cons pe_str hj (pps_cons pe_str pe_int pps_nil))) rfl rfl (by simp) (by simp)).imp fun σ H Q ⟨O, Fs, ρ, Qd, Ed, r, hm, xp, k⟩ p hp => ?_
  rw [evE] at hm
  obtain ⟨d1, e1, hm1⟩ := opt_some hm
  clear hm
  obtain ⟨d2, e2, hm⟩ := opt_some hm1
  clear hm1
  cases d1 <;> cases d2 <;> first | exact (hm : False).elim | skip
  rename_i w cs
  obtain ⟨⟨h0, hl⟩, hm⟩ := hm
  obtain ⟨ns, en, hq⟩ := opt_some hm
  obtain ⟨v1, τ1, g1, g2, q1⟩ := r.slot i _ (join_some e1)
  have ev1 := q1.int
  subst ev1
  obtain ⟨v2, g3, q2⟩ := var_own r (join_some e2) ht
  obtain ⟨c, vs, ds, rfl, ed, hc, hz, eF, qs⟩ := repT_li q2
  cases ed
  obtain ⟨ei, eds⟩ := qs.ints en
  have hpc : c ≠ p := fun e => by rw [e, hp] at hc; cases hc
  refine ⟨.int w, g1, .ref c, g3, upd_same, [(.inr "whole", .int w), (.inr "cells", .ref c), (.inr "count", .int 0)], rfl, by simp, ?_⟩
  have em : mergeK [] [(Sum.inr ("whole" : Str), V.int w), (.inr "cells", .ref c), (.inr "count", .int 0)] = drawK w c 0 := rfl
  rw [em]
  have eH : upd (upd H p (.dK [])) p (.dK (drawK w c 0)) = upd H p (drawO w c 0) := by
    funext a
    by_cases e : a = p
    · rw [e, upd_same, upd_same]; rfl
    · rw [upd_ne e, upd_ne e, upd_ne e]
  rw [eH]
  obtain ⟨v2', g3', r', q2'⟩ := r.give (join_some e2) ht rfl
  rw [g3] at g3'; cases g3'
  have s := same_upd (o := drawO w c 0) hp
  have r2 := r'.grow (kpaS s) (r'.tabs.ext s)
  have np : ¬ Oall O (updF Fs j []) p := fun z => by
    obtain ⟨o, e, _⟩ := r'.ok p z
    rw [hp] at e; cases e
  have nc : ¬ Oall O (updF Fs j []) c := fun z => by
    rcases z with z | ⟨l, z⟩
    · exact r.dj0 j c (by rw [eF]; simp) z
    · by_cases e : l = j
      · subst e; rw [updF_same] at z; exact absurd z (by simp)
      · rw [updF_ne e] at z
        exact e (r.dj l j c z (by rw [eF]; simp))
  have hlen : ns.length ≤ 1000 := by
    have : cs.length = ns.length := by rw [eds, List.length_map]
    omega
  refine k _ _ _ _ hq ⟨kpaS s, fun a z => .inl (z.elim updF_nil_own fun z => absurd z (by simp))⟩ r2 (.tok np nc upd_same h0 hlen ?_)
  rw [upd_ne hpc, hc, ei]
end
end Wb

end
section
/-! Wb: the checker of expressions, part by part. -/
namespace Wb
open PySem PySem.Spec PyProof.Rows L2
/-- what a look at an expression says: as a value (its own?, what it owns, the variables behind it), as a test -/
abbrev Rt : Type := Option (Bool × Ow × List Ow) × Option (List Ow)
abbrev Fn : Type := List Ow → Expr → Rt
abbrev AFn : Type := List Ow → List Expr → Option (List Ow)
def no : Rt := (none, none)
/-- as something to read -/
def lendR : Option (Bool × Ow × List Ow) → Option (Ow × List Ow)
  | some (true, .bo t, Γ) => some (.bo t, Γ)
  | some (true, τ, Γ) => if noBo τ = true then some (.sh, Γ) else none
  | some (false, τ, Γ) => some (τ, Γ)
  | none => none
/-- as something shared -/
def shR (r : Option (Bool × Ow × List Ow)) : Option (List Ow) := match lendR r with
  | some (.sh, Γ) => some Γ
  | _ => none
/-- as something to store at τ -/
def ownR (τ : Ow) : Option (Bool × Ow × List Ow) → Option (List Ow)
  | some (true, τ', Γ) => if decide (τ' = τ) = true then some Γ else if (decide (τ = .sh) && noBo τ') = true then some Γ else none
  | some (false, τ', Γ) => if (decide (τ = .sh) && decide (τ' = .sh)) = true then some Γ else none
  | none => none
/-- its truth is asked of its value -/
def plainT : Expr → Bool
  | .UnaryOp .Not _ _ => false
  | .BoolOp .. | .IfExp .. | .Compare .. => false
  | _ => true
theorem plainT_is {e : Expr} {env : PySem.Env} (h : plainT e = true) (whole : Sem Value) : isTrue e env whole = (do let v ← whole; standAt e.pos; holding [v] (truthy v)) := by
  cases e <;> first | (cases h; done) | rfl | skip
  rename_i op a p
  cases op <;> first | (cases h; done) | rfl
def tOf (x : Expr) (r : Option (Bool × Ow × List Ow)) : Rt := (r, if plainT x = true then (lendR r).map (·.2) else none)
section
variable {C : Cn} {T : List (Addr × Str)} {Φ : Fen}
def tX (C : Cn) (T : List (Addr × Str)) (E : XK) (own : Bool) (Γ Γ' : List Ow) (τ : Ow) (m : Env → M D) : TE := if own = true then tO C T E Γ Γ' τ m else tV C T E Γ Γ' τ m
/-- a checker's word holds -/
structure Ok1 (C : Cn) (T : List (Addr × Str)) (X : Cx) (E : XK) (Γ : List Ow) (x : Expr) (r : Rt) (m : Env → M D) : Prop where
  v : ∀ own τ Γ', r.1 = some (own, τ, Γ') → PE X x (tX C T E own Γ Γ' τ m)
  t : ∀ Γ', r.2 = some Γ' → PT X x (tT C T E Γ Γ' (fun ρ => .bind (m ρ) truthD))
def Sn (C : Cn) (T : List (Addr × Str)) (Φ : Fen) (f : Nfo → Fn) (m : Env → M D) : Prop := ∀ (I : Nfo) (X : Cx) (E : XK), Gd X C T E Φ I → ∀ Γ x, Ok1 C T X E Γ x (f I Γ x) m
def SnA (C : Cn) (T : List (Addr × Str)) (Φ : Fen) (f : Nfo → AFn) (m : Env → M (List D)) : Prop := ∀ (I : Nfo) (X : Cx) (E : XK), Gd X C T E Φ I → ∀ Γ es Γ', f I Γ es = some Γ' → PA X es (tA C T E Γ Γ' m)
section
variable {X : Cx} {E : XK} {Γ Γ' : List Ow} {x : Expr} {r : Rt} {m : Env → M D} {I : Nfo} {τ : Ow}
theorem ok_no : Ok1 C T X E Γ x no m := ⟨(fun _ _ _ h => nomatch h), (fun _ h => nomatch h)⟩
theorem Ok1.read (h : Ok1 C T X E Γ x r m) (e : lendR r.1 = some (τ, Γ')) : PE X x (tV C T E Γ Γ' τ m) := by
  obtain ⟨r1, r2⟩ := r
  cases r1 with
  | none => cases e
  | some q =>
    obtain ⟨own, τ0, Γ0⟩ := q
    have hv := h.v own τ0 Γ0 rfl
    cases own with
    | false =>
      cases e
      exact hv
    | true =>
      have hv : PE X x (tO C T E Γ Γ0 τ0 m) := hv
      cases τ0 with
      | bo t => cases e; exact tO_lend hv (.inr ⟨t, rfl⟩)
      | sh => cases e; exact tO_lend hv (.inl rfl)
      | dk => cases e; exact tO_lend hv (.inl rfl)
      | dt => cases e; exact tO_lend hv (.inl rfl)
      | li t =>
        simp only [lendR] at e
        split at e
        · rename_i hb
          cases e
          exact tO_lend hv (.inl hb)
        · cases e
theorem Ok1.sh (h : Ok1 C T X E Γ x r m) (e : shR r.1 = some Γ') : PE X x (tV C T E Γ Γ' .sh m) := by
  unfold shR at e
  split at e
  · rename_i Γ0 h0
    cases e
    exact h.read h0
  · cases e
theorem Ok1.own (h : Ok1 C T X E Γ x r m) (e : ownR τ r.1 = some Γ') : PE X x (tO C T E Γ Γ' τ m) := by
  obtain ⟨r1, r2⟩ := r
  cases r1 with
  | none => cases e
  | some q =>
    obtain ⟨own, τ0, Γ0⟩ := q
    have hv := h.v own τ0 Γ0 rfl
    cases own with
    | false =>
      simp only [ownR] at e
      split at e
      · rename_i hb
        cases e
        rw [Bool.and_eq_true, decide_eq_true_eq, decide_eq_true_eq] at hb
        obtain ⟨rfl, rfl⟩ := hb
        exact tV_own hv
      · cases e
    | true =>
      have hv : PE X x (tO C T E Γ Γ0 τ0 m) := hv
      simp only [ownR] at e
      split at e
      · rename_i hb
        cases e
        rw [decide_eq_true_eq] at hb
        subst hb
        exact hv
      · split at e
        · rename_i hb
          cases e
          rw [Bool.and_eq_true, decide_eq_true_eq] at hb
          obtain ⟨rfl, hb⟩ := hb
          have h1 := tO_lend hv (.inl hb)
          have : lend τ0 = .sh := by cases τ0 <;> first | rfl | (cases hb)
          rw [this] at h1
          exact tV_own h1
        · cases e
/-- a form whose truth is that of its value -/
theorem ok_of (G : Gd X C T E Φ I) {r1 : Option (Bool × Ow × List Ow)} (h : ∀ own τ Γ', r1 = some (own, τ, Γ') → PE X x (tX C T E own Γ Γ' τ m)) : Ok1 C T X E Γ x (tOf x r1) m := by
  refine ⟨h, fun Γ' e => ?_⟩
  have e' : (if plainT x = true then (lendR r1).map (·.2) else none) = some Γ' := e
  split at e'
  · rename_i hp
    rw [Option.map_eq_some_iff] at e'
    obtain ⟨⟨τ, Γ1⟩, e1, rfl⟩ := e'
    have o : Ok1 C T X E Γ x (r1, none) m := ⟨h, fun _ z => nomatch z⟩
    exact vt_of G.hK (o.read e1) (fun whole => plainT_is hp whole)
  · cases e'
theorem okV (h : PE X x (tV C T E Γ Γ' τ m)) : ∀ own τ0 Γ0, some (false, τ, Γ') = some (own, τ0, Γ0) → PE X x (tX C T E own Γ Γ0 τ0 m) := fun own τ0 Γ0 e => by cases e; exact h
theorem okO (h : PE X x (tO C T E Γ Γ' τ m)) : ∀ own τ0 Γ0, some (true, τ, Γ') = some (own, τ0, Γ0) → PE X x (tX C T E own Γ Γ0 τ0 m) := fun own τ0 Γ0 e => by cases e; exact h
theorem okN : ∀ own τ0 Γ0, (none : Option (Bool × Ow × List Ow)) = some (own, τ0, Γ0) → PE X x (tX C T E own Γ Γ0 τ0 m) := fun own τ0 Γ0 e => nomatch e
end
/-! ### leaves -/
def ckVar (i : Nat) (I : Nfo) : Fn := fun Γ x => tOf x (match x with
  | .Name y _ => if (decide (I.N[i]? = some y) && (visB I.sc y && dbgB y)) = true then (match Γ[i]? with
    | some τ => some (false, rdT τ, Γ)
    | none => none) else none
  | _ => none)
theorem sn_var (i : Nat) : Sn C T Φ (ckVar i) (fun ρ => .opt (ρ[i]?.join)) := by
  intro I X E G Γ x
  refine ok_of G ?_
  split
  · split
    · rename_i y p hb
      rw [Bool.and_eq_true, Bool.and_eq_true, decide_eq_true_eq] at hb
      obtain ⟨h1, h2, h3⟩ := hb
      split
      · rename_i τ ht
        exact okV (ve_var (by rw [G.hN]; exact h1) (G.vis h2) (dbg1 h3) (dbg2 h3) ht)
      · exact okN
    · exact okN
  · exact okN
def ckMov (i : Nat) (I : Nfo) : Fn := fun Γ x => tOf x (match x with
  | .Name y _ => if (decide (I.N[i]? = some y) && (visB I.sc y && dbgB y)) = true then (match Γ[i]? with
    | some τ => if noBo τ = true then some (false, .sh, Γ.set i .sh) else none
    | none => none) else none
  | _ => none)
theorem sn_mov (i : Nat) : Sn C T Φ (ckMov i) (fun ρ => .opt (ρ[i]?.join)) := by
  intro I X E G Γ x
  refine ok_of G ?_
  split
  · split
    · rename_i y p hb
      rw [Bool.and_eq_true, Bool.and_eq_true, decide_eq_true_eq] at hb
      obtain ⟨h1, h2, h3⟩ := hb
      split
      · rename_i τ ht
        split
        · rename_i hn
          exact okV (ve_give (by rw [G.hN]; exact h1) (G.vis h2) (dbg1 h3) (dbg2 h3) ht hn)
        · exact okN
      · exact okN
    · exact okN
  · exact okN
def ckInt (n : Int) (_ : Nfo) : Fn := fun Γ x => tOf x (match x with
  | .Constant (.int k) _ _ => if decide (k = n) = true then some (false, .sh, Γ) else none
  | _ => none)
theorem sn_int (n : Int) : Sn C T Φ (ckInt n) (fun _ => .ret (.int n)) := by
  intro I X E G Γ x
  refine ok_of G ?_
  split
  · split
    · rename_i hb
      rw [decide_eq_true_eq] at hb
      subst hb
      exact okV ve_int
    · exact okN
  · exact okN
def ckBl (b : Bool) (_ : Nfo) : Fn := fun Γ x => tOf x (match x with
  | .Constant (.bool k) _ _ => if decide (k = b) = true then some (false, .sh, Γ) else none
  | _ => none)
theorem sn_bl (b : Bool) : Sn C T Φ (ckBl b) (fun _ => .ret (.bl b)) := by
  intro I X E G Γ x
  refine ok_of G ?_
  split
  · split
    · rename_i hb
      rw [decide_eq_true_eq] at hb
      subst hb
      exact okV ve_bl
    · exact okN
  · exact okN
def ckNon (_ : Nfo) : Fn := fun Γ x => tOf x (match x with
  | .Constant .none _ _ => some (false, .sh, Γ)
  | _ => none)
theorem sn_non : Sn C T Φ ckNon (fun _ => .ret .non) := by
  intro I X E G Γ x
  refine ok_of G ?_
  split
  · exact okV ve_non
  · exact okN
def ckStr (y : Str) (_ : Nfo) : Fn := fun Γ x => tOf x (match x with
  | .Constant (.str k) _ _ => if decide (k = y) = true then some (false, .sh, Γ) else none
  | _ => none)
theorem sn_str (y : Str) : Sn C T Φ (ckStr y) (fun _ => .ret (.str y)) := by
  intro I X E G Γ x
  refine ok_of G ?_
  split
  · split
    · rename_i hb
      rw [decide_eq_true_eq] at hb
      subst hb
      exact okV ve_str
    · exact okN
  · exact okN
def ckGint (y : Str) (n : Int) (I : Nfo) : Fn := fun Γ x => tOf x (match x with
  | .Name z _ => if (decide (z = y) && (glB I.sc y && (dbgB y && decide (I.tab.gi.lookup y = some n)))) = true then some (false, .sh, Γ) else none
  | _ => none)
theorem sn_gint (y : Str) (n : Int) : Sn C T Φ (ckGint y n) (fun _ => .ret (.int n)) := by
  intro I X E G Γ x
  refine ok_of G ?_
  split
  · split
    · rename_i hb
      rw [Bool.and_eq_true, Bool.and_eq_true, Bool.and_eq_true, decide_eq_true_eq, decide_eq_true_eq] at hb
      obtain ⟨rfl, h2, h3, h4⟩ := hb
      obtain ⟨t, e⟩ := G.gi _ _ h4
      exact okV (ve_gint (G.gl h2) e (dbg1 h3))
    · exact okN
  · exact okN
/-! ### operators -/
def opM : Op → Operator → Bool
  | .add, .Add | .sub, .Sub | .mul, .Mult | .fdiv, .FloorDiv | .mod, .Mod | .pow, .Pow | .cat, .Add | .rep, .Mult => true
  | _, _ => false
def opFl : Op → Ow → Ow → Bool
  | .add, a, b | .cat, a, b => flatO a && flatO b
  | .mul, a, _ | .rep, a, _ => flatO a
  | _, _, _ => true
def opRet : Op → Ow
  | .cat | .rep => .li .sh
  | _ => .sh
def ckBin (o : Op) (fa fb : Nfo → Fn) (I : Nfo) : Fn := fun Γ x => tOf x (match x with
  | .BinOp a op b _ => if opM o op = true then (match lendR (fa I Γ a).1 with
    | some (τ1, Γ1) => (match lendR (fb I Γ1 b).1 with
      | some (τ2, Γ2) => if opFl o τ1 τ2 = true then some (true, opRet o, Γ2) else none
      | none => none)
    | none => none) else none
  | _ => none)
theorem sn_bin {o : Op} {fa fb : Nfo → Fn} {ma mb : Env → M D} (ha : Sn C T Φ fa ma) (hb : Sn C T Φ fb mb) : Sn C T Φ (ckBin o fa fb) (fun ρ => .bind (ma ρ) fun x => .bind (mb ρ) fun y => binD o x y) := by
  intro I X E G Γ x
  refine ok_of G ?_
  have hK := G.hK
  split
  · rename_i a op b p
    split
    · rename_i hop
      split
      · rename_i τ1 Γ1 h1
        split
        · rename_i τ2 Γ2 h2
          split
          · rename_i hf
            have pa := (ha I X E G Γ a).read h1
            have pb := (hb I X E G Γ1 b).read h2
            refine okO ?_
            cases o <;> cases op <;> first | (cases hop; done) | skip
            · obtain ⟨f1, f2⟩ := (Bool.and_eq_true _ _).mp hf
              exact ve2 op_addD pa pb (by rw [← hK]; exact sem_add f1 f2)
            · exact ve2 op_sub pa pb sem_sub
            · exact ve2 op_mulD pa pb (by rw [← hK]; exact sem_mul hf)
            · exact ve2 op_fdivW pa pb sem_fdiv
            · exact ve2 op_mod pa pb sem_mod
            · exact ve2 op_pow pa pb sem_pow
            · obtain ⟨f1, f2⟩ := (Bool.and_eq_true _ _).mp hf
              exact ve2 op_catR pa pb (sem_cat f1 f2)
            · exact ve2 op_repR pa pb (sem_rep hf)
          · exact okN
        · exact okN
      · exact okN
    · exact okN
  · exact okN
def ckNeg (fa : Nfo → Fn) (I : Nfo) : Fn := fun Γ x => tOf x (match x with
  | .UnaryOp .USub a _ => (match lendR (fa I Γ a).1 with
    | some (_, Γ1) => some (false, .sh, Γ1)
    | none => none)
  | _ => none)
theorem sn_neg {fa : Nfo → Fn} {ma : Env → M D} (ha : Sn C T Φ fa ma) : Sn C T Φ (ckNeg fa) (fun ρ => .bind (ma ρ) fun x => match x with
    | .int i => .ret (.int (-i))
    | _ => .fail) := by
  intro I X E G Γ x
  refine ok_of G ?_
  split
  · split
    · rename_i h1
      exact okV (ve_neg ((ha I X E G Γ _).read h1))
    · exact okN
  · exact okN
def ckNt (fa : Nfo → Fn) (I : Nfo) : Fn := fun Γ x => match x with
  | .UnaryOp .Not a _ => ((match lendR (fa I Γ a).1 with
    | some (_, Γ1) => some (false, .sh, Γ1)
    | none => none), (fa I Γ a).2)
  | _ => no
theorem sn_nt {fa : Nfo → Fn} {ma : Env → M D} (ha : Sn C T Φ fa ma) : Sn C T Φ (ckNt fa) (fun ρ => .bind (ma ρ) fun x => .bind (truthD x) fun b => .ret (.bl (!b))) := by
  intro I X E G Γ x
  unfold ckNt
  split
  · rename_i a p
    refine ⟨?_, fun Γ' e => vt_not ((ha I X E G Γ a).t Γ' e)⟩
    dsimp only
    split
    · rename_i h1
      exact okV (ve_not G.hK ((ha I X E G Γ _).read h1))
    · exact okN
  · exact ok_no
/-! ### comparisons -/
def cmM : Cm → CmpOp → Bool
  | .eq, .Eq | .ne, .NotEq | .lt, .Lt | .le, .LtE | .gt, .Gt | .ge, .GtE => true
  | _, _ => false
/-- the rule of a comparison by values -/
theorem cm_sem {c : Cm} {op : CmpOp} (h : cmM c op = true) {X : Cx} {E : XK} {I : Nfo} (G : Gd X C T E Φ I) (τ1 τ2 : Ow) : ∃ r, OpR X (compareOp op) r ∧ Sem2B C r (cmpD c) τ1 τ2 := by
  have hu : X.A.units + 64 < cLine := by have := G.room.un; omega
  have hK := G.hK
  cases c <;> cases op <;> first | (cases h; done) | skip
  · exact ⟨_, op_eqD hu, by rw [← hK]; exact semB_eq⟩
  · exact ⟨_, op_neD hu, by rw [← hK]; exact semB_ne⟩
  · exact ⟨_, op_lt, semB_lt⟩
  · exact ⟨_, op_le, semB_le⟩
  · exact ⟨_, op_gt, semB_gt⟩
  · exact ⟨_, op_ge, semB_ge⟩
def ckCmp (c : Cm) (fa fb : Nfo → Fn) (I : Nfo) : Fn := fun Γ x => match x with
  | .Compare a [op] [b] _ => if (cmM c op && nsetB b) = true then (match lendR (fa I Γ a).1 with
    | some (_, Γ1) => (match lendR (fb I Γ1 b).1 with
      | some (_, Γ2) => (some (false, .sh, Γ2), some Γ2)
      | none => no)
    | none => no) else no
  | _ => no
theorem sn_cmp {c : Cm} {fa fb : Nfo → Fn} {ma mb : Env → M D} (ha : Sn C T Φ fa ma) (hb : Sn C T Φ fb mb) : Sn C T Φ (ckCmp c fa fb) (fun ρ => .bind (ma ρ) fun x => .bind (mb ρ) fun y => .bind (cmpD c x y) fun r => .ret (.bl r)) := by
  intro I X E G Γ x
  unfold ckCmp
  split
  · rename_i a op b p
    split
    · rename_i hop
      rw [Bool.and_eq_true] at hop
      split
      · rename_i τ1 Γ1 h1
        split
        · rename_i τ2 Γ2 h2
          have pa := (ha I X E G Γ a).read h1
          have pb := (hb I X E G Γ1 b).read h2
          obtain ⟨r, ho, sem⟩ := cm_sem hop.1 G τ1 τ2
          exact ⟨okV (ve_cmp ho pa pb (behind_no hop.2) sem), fun Γ' e => by cases e; exact vt_cmp ho pa pb (behind_no hop.2) sem⟩
        · exact ok_no
      · exact ok_no
    · exact ok_no
  · exact ok_no
def ckIsN (c : Cm) (fa : Nfo → Fn) (I : Nfo) : Fn := fun Γ x => match x, c with
  | .Compare a [.Is] [.Constant .none _ _] _, .isN => (match lendR (fa I Γ a).1 with
    | some (_, Γ1) => (some (false, .sh, Γ1), some Γ1)
    | none => no)
  | .Compare a [.IsNot] [.Constant .none _ _] _, .notN => (match lendR (fa I Γ a).1 with
    | some (_, Γ1) => (some (false, .sh, Γ1), some Γ1)
    | none => no)
  | _, _ => no
theorem sn_isN {c : Cm} {fa : Nfo → Fn} {ma : Env → M D} (ha : Sn C T Φ fa ma) : Sn C T Φ (ckIsN c fa) (fun ρ => .bind (ma ρ) fun x => .bind (.ret D.non) fun y => .bind (cmpD c x y) fun r => .ret (.bl r)) := by
  intro I X E G Γ x
  unfold ckIsN
  split
  · split
    · rename_i h1
      have pa := (ha I X E G Γ _).read h1
      exact ⟨okV (ve_isN pa), fun Γ' e => by cases e; exact vt_isN pa⟩
    · exact ok_no
  · split
    · rename_i h1
      have pa := (ha I X E G Γ _).read h1
      exact ⟨okV (ve_notN pa), fun Γ' e => by cases e; exact vt_notN pa⟩
    · exact ok_no
  · exact ok_no
def ckChn (c c' : Cm) (fa fb fd : Nfo → Fn) (I : Nfo) : Fn := fun Γ x => match x with
  | .Compare a [op, op'] [b, d] _ => if (cmM c op && (cmM c' op' && nsetB d)) = true then (match lendR (fa I Γ a).1 with
    | some (_, Γ1) => (match lendR (fb I Γ1 b).1 with
      | some (_, Γ2) => (match lendR (fd I Γ2 d).1 with
        | some (_, Γ3) => if decide (Γ3 = Γ2) = true then (some (false, .sh, Γ2), some Γ2) else no
        | none => no)
      | none => no)
    | none => no) else no
  | _ => no
theorem sn_chn {c c' : Cm} {fa fb fd : Nfo → Fn} {ma mb md : Env → M D} (ha : Sn C T Φ fa ma) (hb : Sn C T Φ fb mb) (hd : Sn C T Φ fd md) :
    Sn C T Φ (ckChn c c' fa fb fd) (fun ρ => .bind (ma ρ) fun x => .bind (mb ρ) fun y => .bind (cmpD c x y) fun r => if r = true then .bind (md ρ) fun z => .bind (cmpD c' y z) fun r' => .ret (.bl r') else .ret (.bl false)) := by
  intro I X E G Γ x
  unfold ckChn
  split
  · rename_i a op op' b d p
    split
    · rename_i hop
      rw [Bool.and_eq_true, Bool.and_eq_true] at hop
      obtain ⟨o1, o2, hns⟩ := hop
      split
      · rename_i τ1 Γ1 h1
        split
        · rename_i τ2 Γ2 h2
          split
          · rename_i τ3 Γ3 h3
            split
            · rename_i he
              rw [decide_eq_true_eq] at he
              subst he
              have pa := (ha I X E G Γ a).read h1
              have pb := (hb I X E G Γ1 b).read h2
              have pd := (hd I X E G _ d).read h3
              obtain ⟨r, ho, sem⟩ := cm_sem o1 G τ1 τ2
              obtain ⟨r', ho', sem'⟩ := cm_sem o2 G τ2 τ3
              have hm : lastMarks [op, op'] [b, d] = false := behind_no hns
              exact ⟨okV (ve_chn ho ho' pa pb pd hm sem sem'), fun Γ' e => by cases e; exact vt_chn ho ho' pa pb pd hm sem sem'⟩
            · exact ok_no
          · exact ok_no
        · exact ok_no
      · exact ok_no
    · exact ok_no
  · exact ok_no
/-! ### and, or -/
/-- a list of operands: as values, as tests -/
abbrev BFn : Type := List Ow → List Expr → Option (List Ow) × Option (List Ow)
def SnB (op : BoolOp) (C : Cn) (T : List (Addr × Str)) (Φ : Fen) (f : Nfo → BFn) (m : Env → M D) : Prop := ∀ (I : Nfo) (X : Cx) (E : XK), Gd X C T E Φ I → ∀ Γ es, (∀ Γ' p, (f I Γ es).1 = some Γ' → PE X (.BoolOp op es p) (tV C T E Γ Γ' .sh m)) ∧ (∀ Γ' p, (f I Γ es).2 = some Γ' → PW X (.BoolOp op es p) (tT C T E Γ Γ' (fun ρ => .bind (m ρ) truthD)))
def ckB1 (fa : Nfo → Fn) (I : Nfo) : BFn := fun Γ es => match es with
  | [x] => (shR (fa I Γ x).1, (fa I Γ x).2)
  | _ => (none, none)
theorem sn_b1 {op : BoolOp} {fa : Nfo → Fn} {ma : Env → M D} (ha : Sn C T Φ fa ma) : SnB op C T Φ (ckB1 fa) ma := by
  intro I X E G Γ es
  unfold ckB1
  split
  · rename_i x
    have o := ha I X E G Γ x
    refine ⟨fun Γ' p e => ve_one (o.sh e), fun Γ' p e => ?_⟩
    cases op with
    | And => exact vw_and1 (o.t Γ' e)
    | Or => exact vw_or1 (o.t Γ' e)
  · exact ⟨(fun _ _ h => nomatch h), (fun _ _ h => nomatch h)⟩
def ckB2 (fa : Nfo → Fn) (fr : Nfo → BFn) (I : Nfo) : BFn := fun Γ es => match es with
  | x :: y :: zs => ((match shR (fa I Γ x).1 with
    | some Γ1 => if decide ((fr I Γ1 (y :: zs)).1 = some Γ1) = true then some Γ1 else none
    | none => none), (match (fa I Γ x).2 with
    | some Γ1 => if decide ((fr I Γ1 (y :: zs)).2 = some Γ1) = true then some Γ1 else none
    | none => none))
  | _ => (none, none)
theorem sn_and2 {fa : Nfo → Fn} {fr : Nfo → BFn} {ma mr : Env → M D} (ha : Sn C T Φ fa ma) (hr : SnB .And C T Φ fr mr) : SnB .And C T Φ (ckB2 fa fr) (fun ρ => .bind (ma ρ) fun x => .bind (truthD x) fun t => if t = true then mr ρ else .ret x) := by
  intro I X E G Γ es
  unfold ckB2
  split
  · rename_i x y zs
    have o := ha I X E G Γ x
    refine ⟨fun Γ' p e => ?_, fun Γ' p e => ?_⟩
    · dsimp only at e
      split at e
      · rename_i Γ1 h1
        split at e
        · rename_i h2
          rw [decide_eq_true_eq] at h2
          cases e
          exact ve_and G.hK (o.sh h1) ((hr I X E G _ _).1 _ p h2)
        · cases e
      · cases e
    · dsimp only at e
      split at e
      · rename_i Γ1 h1
        split at e
        · rename_i h2
          rw [decide_eq_true_eq] at h2
          cases e
          exact vw_and (o.t _ h1) ((hr I X E G _ _).2 _ p h2)
        · cases e
      · cases e
  · exact ⟨(fun _ _ h => nomatch h), (fun _ _ h => nomatch h)⟩
theorem sn_or2 {fa : Nfo → Fn} {fr : Nfo → BFn} {ma mr : Env → M D} (ha : Sn C T Φ fa ma) (hr : SnB .Or C T Φ fr mr) : SnB .Or C T Φ (ckB2 fa fr) (fun ρ => .bind (ma ρ) fun x => .bind (truthD x) fun t => if t = true then .ret x else mr ρ) := by
  intro I X E G Γ es
  unfold ckB2
  split
  · rename_i x y zs
    have o := ha I X E G Γ x
    refine ⟨fun Γ' p e => ?_, fun Γ' p e => ?_⟩
    · dsimp only at e
      split at e
      · rename_i Γ1 h1
        split at e
        · rename_i h2
          rw [decide_eq_true_eq] at h2
          cases e
          exact ve_or G.hK (o.sh h1) ((hr I X E G _ _).1 _ p h2)
        · cases e
      · cases e
    · dsimp only at e
      split at e
      · rename_i Γ1 h1
        split at e
        · rename_i h2
          rw [decide_eq_true_eq] at h2
          cases e
          exact vw_or (o.t _ h1) ((hr I X E G _ _).2 _ p h2)
        · cases e
      · cases e
  · exact ⟨(fun _ _ h => nomatch h), (fun _ _ h => nomatch h)⟩
def ckBool (op : BoolOp) (f : Nfo → BFn) (I : Nfo) : Fn := fun Γ x => match x with
  | .BoolOp o es _ => if decide (o = op) = true then ((f I Γ es).1.map fun Γ' => (false, .sh, Γ'), (f I Γ es).2) else no
  | _ => no
theorem sn_bool {op : BoolOp} {f : Nfo → BFn} {m : Env → M D} (h : SnB op C T Φ f m) : Sn C T Φ (ckBool op f) m := by
  intro I X E G Γ x
  unfold ckBool
  split
  · rename_i o es p
    split
    · rename_i ho
      rw [decide_eq_true_eq] at ho
      subst ho
      refine ⟨fun own τ Γ' e => ?_, fun Γ' e => ((h I X E G Γ es).2 Γ' p e).pt⟩
      rw [Option.map_eq_some_iff] at e
      obtain ⟨Γ1, e1, e2⟩ := e
      cases e2
      exact (h I X E G Γ es).1 _ p e1
    · exact ok_no
  · exact ok_no
def ckIte (ft fa fb : Nfo → Fn) (I : Nfo) : Fn := fun Γ x => tOf x (match x with
  | .IfExp t a b _ => (match (ft I Γ t).2 with
    | some Γ1 => (match lendR (fa I Γ1 a).1, lendR (fb I Γ1 b).1 with
      | some (τ1, Γ2), some (τ2, Γ3) => if (decide (Γ2 = Γ1) && (decide (Γ3 = Γ1) && decide (τ1 = τ2))) = true then some (false, τ1, Γ1) else none
      | _, _ => none)
    | none => none)
  | _ => none)
theorem sn_ite {ft fa fb : Nfo → Fn} {mt ma mb : Env → M D} (ht : Sn C T Φ ft mt) (ha : Sn C T Φ fa ma) (hb : Sn C T Φ fb mb) : Sn C T Φ (ckIte ft fa fb) (fun ρ => .bind (mt ρ) fun x => .bind (truthD x) fun c => if c = true then ma ρ else mb ρ) := by
  intro I X E G Γ x
  refine ok_of G ?_
  split
  · rename_i t a b p
    split
    · rename_i Γ1 h1
      split
      · rename_i τ1 Γ2 τ2 Γ3 h2 h3
        split
        · rename_i hb'
          rw [Bool.and_eq_true, Bool.and_eq_true, decide_eq_true_eq, decide_eq_true_eq, decide_eq_true_eq] at hb'
          obtain ⟨rfl, rfl, rfl⟩ := hb'
          exact okV (ve_ite ((ht I X E G Γ t).t _ h1) ((ha I X E G _ a).read h2) ((hb I X E G _ b).read h3))
        · exact okN
      · exact okN
    · exact okN
  · exact okN
end
end Wb

end
section
/-! Wb: the checker of expressions: displays, calls, subscripts, comprehensions. -/
namespace Wb
open PySem PySem.Spec PyProof.Rows L2
section
variable {C : Cn} {T : List (Addr × Str)} {Φ : Fen}
/-! ### argument lists -/
def ckANil (_ : Nfo) : AFn := fun Γ es => match es with
  | [] => some Γ
  | _ => none
theorem sn_anil : SnA C T Φ ckANil (fun _ => .ret []) := by
  intro I X E G Γ es Γ' h
  unfold ckANil at h
  split at h
  · cases h; exact va_nil
  · cases h
def ckACons (fa : Nfo → Fn) (fr : Nfo → AFn) (I : Nfo) : AFn := fun Γ es => match es with
  | e :: r => if nstB e = true then (match shR (fa I Γ e).1 with
    | some Γ1 => fr I Γ1 r
    | none => none) else none
  | _ => none
theorem sn_acons {fa : Nfo → Fn} {fr : Nfo → AFn} {ma : Env → M D} {mr : Env → M (List D)} (ha : Sn C T Φ fa ma) (hr : SnA C T Φ fr mr) : SnA C T Φ (ckACons fa fr) (fun ρ => .bind (ma ρ) fun x => .bind (mr ρ) fun xs => .ret (x :: xs)) := by
  intro I X E G Γ es Γ' h
  unfold ckACons at h
  split at h
  · rename_i e r
    split at h
    · rename_i hn
      split at h
      · rename_i Γ1 h1
        exact va_cons ((ha I X E G Γ e).sh h1) (hr I X E G Γ1 r Γ' h) (starEach_cons hn)
      · cases h
    · cases h
  · cases h
def ckAStar (fa : Nfo → Fn) (fr : Nfo → AFn) (I : Nfo) : AFn := fun Γ es => match es with
  | .Starred e _ :: r => (match lendR (fa I Γ e).1 with
    | some (τ, Γ1) => if flatO τ = true then fr I Γ1 r else none
    | none => none)
  | _ => none
theorem sn_astar {fa : Nfo → Fn} {fr : Nfo → AFn} {ma : Env → M D} {mr : Env → M (List D)} (ha : Sn C T Φ fa ma) (hr : SnA C T Φ fr mr) : SnA C T Φ (ckAStar fa fr) (fun ρ => .bind (ma ρ) fun x => .bind (seqD x) fun ys => .bind (mr ρ) fun xs => .ret (ys ++ xs)) := by
  intro I X E G Γ es Γ' h
  unfold ckAStar at h
  split at h
  · rename_i e p r
    split at h
    · rename_i τ Γ1 h1
      split at h
      · rename_i hf
        exact va_star G.hK ((ha I X E G Γ e).read h1) hf (hr I X E G Γ1 r Γ' h) rfl
      · cases h
    · cases h
  · cases h
/-- keywords' values -/
abbrev KFn : Type := List Ow → List Keyword → Option (List Ow)
def SnK (C : Cn) (T : List (Addr × Str)) (Φ : Fen) (f : Nfo → KFn) (m : Env → M (List D)) : Prop := ∀ (I : Nfo) (X : Cx) (E : XK), Gd X C T E Φ I → ∀ Γ es Γ', f I Γ es = some Γ' → PK X es (tA C T E Γ Γ' m)
def ckKNil (_ : Nfo) : KFn := fun Γ es => match es with
  | [] => some Γ
  | _ => none
theorem sn_knil : SnK C T Φ ckKNil (fun _ => .ret []) := by
  intro I X E G Γ es Γ' h
  unfold ckKNil at h
  split at h
  · cases h; exact vk_nil
  · cases h
def ckKCons (fa : Nfo → Fn) (fr : Nfo → KFn) (I : Nfo) : KFn := fun Γ es => match es with
  | ⟨_, e, _⟩ :: r => (match shR (fa I Γ e).1 with
    | some Γ1 => fr I Γ1 r
    | none => none)
  | _ => none
theorem sn_kcons {fa : Nfo → Fn} {fr : Nfo → KFn} {ma : Env → M D} {mr : Env → M (List D)} (ha : Sn C T Φ fa ma) (hr : SnK C T Φ fr mr) : SnK C T Φ (ckKCons fa fr) (fun ρ => .bind (ma ρ) fun x => .bind (mr ρ) fun xs => .ret (x :: xs)) := by
  intro I X E G Γ es Γ' h
  unfold ckKCons at h
  split at h
  · split at h
    · rename_i h1
      exact vk_cons ((ha I X E G Γ _).sh h1) (hr I X E G _ _ Γ' h)
    · cases h
  · cases h
/-! ### displays -/
def ckTup (f : Nfo → AFn) (I : Nfo) : Fn := fun Γ x => tOf x (match x with
  | .Tuple es _ _ => (f I Γ es).map fun Γ' => (true, .sh, Γ')
  | _ => none)
theorem sn_tup {f : Nfo → AFn} {m : Env → M (List D)} (h : SnA C T Φ f m) : Sn C T Φ (ckTup f) (fun ρ => .bind (m ρ) fun xs => .need (xs.length ≤ sizeLine) (.ret (.tup xs))) := by
  intro I X E G Γ x
  refine ok_of G ?_
  split
  · intro own τ Γ' e
    rw [Option.map_eq_some_iff] at e
    obtain ⟨Γ1, e1, e2⟩ := e
    cases e2
    exact ve_tup (h I X E G Γ _ _ e1)
  · exact okN
def ckLst (f : Nfo → AFn) (I : Nfo) : Fn := fun Γ x => tOf x (match x with
  | .List es _ => (f I Γ es).map fun Γ' => (true, .li .sh, Γ')
  | _ => none)
theorem sn_lst {f : Nfo → AFn} {m : Env → M (List D)} (h : SnA C T Φ f m) : Sn C T Φ (ckLst f) (fun ρ => .bind (m ρ) fun xs => .need (xs.length ≤ sizeLine) (.ret (.lst xs))) := by
  intro I X E G Γ x
  refine ok_of G ?_
  split
  · intro own τ Γ' e
    rw [Option.map_eq_some_iff] at e
    obtain ⟨Γ1, e1, e2⟩ := e
    cases e2
    exact ve_lst (h I X E G Γ _ _ e1)
  · exact okN
def ckDct0 (t : Bool) (_ : Nfo) : Fn := fun Γ x => tOf x (match x with
  | .Dict [] [] _ => some (true, (if t = true then .dt else .dk), Γ)
  | _ => none)
theorem sn_dct0 (t : Bool) : Sn C T Φ (ckDct0 t) (fun _ => .ret (.dct t [])) := by
  intro I X E G Γ x
  refine ok_of G ?_
  split
  · exact okO ve_dct0
  · exact okN
/-! ### calls -/
/-- the number of the written arguments -/
def aLen : Els → Nat
  | .nil => 0
  | .cons _ _ r => aLen r + 1
def ckCall (i : Nat) (f : Nfo → AFn) (I : Nfo) : Fn := fun Γ x => tOf x (match x with
  | .Call (.Name y _) (e :: es) [] _ => (match I.tab.fns[i]? with
    | some fi => if (decide (y = fi.name) && (decide (i < I.lv) && (glB I.sc fi.name && (dbgB fi.name && ((e :: es).all nstB && decide ((e :: es).length ∈ fi.ar)))))) = true then (f I Γ (e :: es)).map fun Γ' => (true, fi.ret, Γ') else none
    | none => none)
  | _ => none)
theorem sn_call {i : Nat} {f : Nfo → AFn} {m : Env → M (List D)} (h : SnA C T Φ f m) (hlen : ∀ (I : Nfo) Γ es Γ', f I Γ es = some Γ' → es.all nstB = true → ∀ ρ Q Ed, m ρ Q Ed → m ρ (fun xs => xs.length = es.length ∧ Q xs) Ed) : Sn C T Φ (ckCall i f) (fun ρ => .bind (m ρ) fun xs => Φ i xs) := by
  intro I X E G Γ x
  refine ok_of G ?_
  split
  · split
    · rename_i fi hfi
      split
      · rename_i hb
        simp only [Bool.and_eq_true, decide_eq_true_eq] at hb
        obtain ⟨rfl, h1, h2, h3, h4, h5⟩ := hb
        intro own τ Γ' e
        rw [Option.map_eq_some_iff] at e
        obtain ⟨Γ1, e1, e2⟩ := e
        cases e2
        exact ve_call G hfi h1 h2 h3 (by simp only [List.all_cons, Bool.and_eq_true]; exact by simpa using h4) h5 (h I X E G Γ _ _ e1) (hlen I Γ _ _ e1 (by simpa using h4))
      · exact okN
    · exact okN
  · exact okN
def ckCall0 (i : Nat) (I : Nfo) : Fn := fun Γ x => tOf x (match x with
  | .Call (.Name y _) [] [] _ => (match I.tab.fns[i]? with
    | some fi => if (decide (y = fi.name) && (decide (i < I.lv) && (glB I.sc fi.name && (dbgB fi.name && decide (0 ∈ fi.ar))))) = true then some (true, fi.ret, Γ) else none
    | none => none)
  | _ => none)
theorem sn_call0 {i : Nat} : Sn C T Φ (ckCall0 i) (fun ρ => .bind (.ret []) fun xs => Φ i xs) := by
  intro I X E G Γ x
  refine ok_of G ?_
  split
  · split
    · rename_i fi hfi
      split
      · rename_i hb
        simp only [Bool.and_eq_true, decide_eq_true_eq] at hb
        obtain ⟨rfl, h1, h2, h3, h4⟩ := hb
        exact okO (ve_call0 G hfi h1 h2 h3 h4)
      · exact okN
    · exact okN
  · exact okN
def kwNames : List Keyword → Option (List Str)
  | [] => some []
  | ⟨some n, _, _⟩ :: r => (kwNames r).map (n :: ·)
  | _ => none
theorem kwNames_ok : ∀ {kws : List Keyword} {ks : List Str}, kwNames kws = some ks → kwN kws ks = true
  | [], ks, h => by simp [kwNames] at h; subst h; rfl
  | ⟨none, _, _⟩ :: _, _, h => by simp [kwNames] at h
  | ⟨some n, _, _⟩ :: r, ks, h => by
    simp only [kwNames, Option.map_eq_some_iff] at h
    obtain ⟨l, e, rfl⟩ := h
    simp [kwN, kwNames_ok e]
def ckCallK (i : Nat) (pm : List Nat) (f : Nfo → AFn) (fk : Nfo → KFn) (I : Nfo) : Fn := fun Γ x => tOf x (match x with
  | .Call (.Name y _) es kws _ => (match I.tab.fns[i]?, kwNames kws with
    | some fi, some ks => if (decide (y = fi.name) && (decide (i < I.lv) && (glB I.sc fi.name && (dbgB fi.name && (es.all nstB && decide ((es.length, ks, pm) ∈ fi.kws)))))) = true then (match f I Γ es with
      | some Γ1 => (fk I Γ1 kws).map fun Γ' => (true, fi.ret, Γ')
      | none => none) else none
    | _, _ => none)
  | _ => none)
theorem sn_callK {i : Nat} {pm : List Nat} {f : Nfo → AFn} {fk : Nfo → KFn} {m m2 : Env → M (List D)} (h : SnA C T Φ f m) (h2 : SnK C T Φ fk m2) (hlen : ∀ (I : Nfo) Γ es Γ', f I Γ es = some Γ' → es.all nstB = true → ∀ ρ Q Ed, m ρ Q Ed → m ρ (fun xs => xs.length = es.length ∧ Q xs) Ed)
    (hlen2 : ∀ (I : Nfo) Γ es Γ', fk I Γ es = some Γ' → ∀ ρ Q Ed, m2 ρ Q Ed → m2 ρ (fun xs => xs.length = es.length ∧ Q xs) Ed) (hnil : ∀ (I : Nfo) Γ Γ', f I Γ [] = some Γ' → Γ' = Γ ∧ m = fun _ => .ret []) : Sn C T Φ (ckCallK i pm f fk) (fun ρ => .bind (m ρ) fun xs => .bind (m2 ρ) fun ys => Φ i (pmL pm (xs ++ ys))) := by
  intro I X E G Γ x
  refine ok_of G ?_
  split
  · rename_i y p0 es kws p1
    split
    · rename_i fi ks hfi hks
      split
      · rename_i hb
        simp only [Bool.and_eq_true, decide_eq_true_eq] at hb
        obtain ⟨rfl, g1, g2, g3, g4, g5⟩ := hb
        split
        · rename_i Γ1 h1
          intro own τ Γ' e
          rw [Option.map_eq_some_iff] at e
          obtain ⟨Γ2, e1, e2⟩ := e
          cases e2
          have hk := kwNames_ok hks
          have hkl : kws.length = ks.length := (kwN_all (X := X) (pos := p1) hk).1
          refine ve_callK G hfi g1 g2 g3 (by simpa using g4) g5 hk (h I X E G Γ es Γ1 h1) (h2 I X E G Γ1 kws _ e1) (fun en => ?_) (hlen I Γ es Γ1 h1 (by simpa using g4)) (by rw [← hkl]; exact hlen2 I Γ1 kws _ e1)
          subst en
          obtain ⟨a, b⟩ := hnil I Γ Γ1 h1
          exact ⟨a, b⟩
        · exact okN
      · exact okN
    · exact okN
  · exact okN
/-! ### built-ins -/
def ckBlt1 (b : Bi) (fa : Nfo → Fn) (I : Nfo) : Fn := fun Γ x => tOf x (match x with
  | .Call (.Name y _) [a] [] _ => (match lendR (fa I Γ a).1 with
    | some (τ, Γ1) => if (decide (y = biN b) && (biOne b && (glB I.sc (biN b) && (decide (biN b ∈ I.tab.abs) && ((!biFlat b || flatO τ) && nstB a))))) = true then some (true, biRet b, Γ1) else none
    | none => none)
  | _ => none)
theorem sn_blt1 {b : Bi} {fa : Nfo → Fn} {ma : Env → M D} (ha : Sn C T Φ fa ma) : Sn C T Φ (ckBlt1 b fa) (fun ρ => .bind (ma ρ) (o1 b)) := by
  intro I X E G Γ x
  refine ok_of G ?_
  split
  · split
    · rename_i τ Γ1 h1
      split
      · rename_i hb
        rw [Bool.and_eq_true, Bool.and_eq_true, Bool.and_eq_true, Bool.and_eq_true, Bool.and_eq_true, decide_eq_true_eq, decide_eq_true_eq] at hb
        obtain ⟨rfl, g1, g2, g3, g4, g5⟩ := hb
        exact okO (ve_blt1 G g1 g2 g3 g4 ((ha I X E G Γ _).read h1) g5)
      · exact okN
    · exact okN
  · exact okN
def ckBlt2 (b : Bi) (fa fb : Nfo → Fn) (I : Nfo) : Fn := fun Γ x => tOf x (match x with
  | .Call (.Name y _) [a, a'] [] _ => (match lendR (fa I Γ a).1 with
    | some (_, Γ1) => (match lendR (fb I Γ1 a').1 with
      | some (_, Γ2) => if (decide (y = biN b) && (biTwo b && (glB I.sc (biN b) && (decide (biN b ∈ I.tab.abs) && (nstB a && nstB a'))))) = true then some (true, .sh, Γ2) else none
      | none => none)
    | none => none)
  | _ => none)
theorem sn_blt2 {b : Bi} {fa fb : Nfo → Fn} {ma mb : Env → M D} (ha : Sn C T Φ fa ma) (hb : Sn C T Φ fb mb) : Sn C T Φ (ckBlt2 b fa fb) (fun ρ => .bind (ma ρ) fun x => .bind (mb ρ) fun y => o2 b x y) := by
  intro I X E G Γ x
  refine ok_of G ?_
  split
  · split
    · rename_i τ Γ1 h1
      split
      · rename_i τ2 Γ2 h2
        split
        · rename_i hb'
          rw [Bool.and_eq_true, Bool.and_eq_true, Bool.and_eq_true, Bool.and_eq_true, Bool.and_eq_true, decide_eq_true_eq, decide_eq_true_eq] at hb'
          obtain ⟨rfl, g1, g2, g3, g4, g5⟩ := hb'
          exact okO (ve_blt2 G g1 g2 g3 ((ha I X E G Γ _).read h1) ((hb I X E G Γ1 _).read h2) g4 g5)
        · exact okN
      · exact okN
    · exact okN
  · exact okN
def ckIsin (t : Ty) (fa : Nfo → Fn) (I : Nfo) : Fn := fun Γ x => tOf x (match x with
  | .Call (.Name y _) [a, .Name z _] [] _ => (match lendR (fa I Γ a).1 with
    | some (_, Γ1) => if (decide (y = "isinstance") && (decide (z = tyS t) && (glB I.sc "isinstance" && (decide (("isinstance" : Str) ∈ I.tab.abs) && (nstB a && (glB I.sc (tyS t) && decide (tyS t ∈ I.tab.abs))))))) = true then some (false, .sh, Γ1) else none
    | none => none)
  | _ => none)
theorem sn_isin {t : Ty} {fa : Nfo → Fn} {ma : Env → M D} (ha : Sn C T Φ fa ma) : Sn C T Φ (ckIsin t fa) (fun ρ => .bind (ma ρ) fun x => .bind (isinD t x) fun b => .ret (.bl b)) := by
  intro I X E G Γ x
  refine ok_of G ?_
  split
  · split
    · rename_i τ Γ1 h1
      split
      · rename_i hb
        simp only [Bool.and_eq_true, decide_eq_true_eq] at hb
        obtain ⟨rfl, rfl, g1, g2, g3, g4, g5⟩ := hb
        exact okV (ve_isin G.hK (G.gl g1) (G.abs _ g2) ((ha I X E G Γ _).read h1) g3 (G.gl g4) (G.abs _ g5))
      · exact okN
    · exact okN
  · exact okN
/-! ### subscripts -/
def rdB : Ow → Bool
  | .sh => true
  | .bo t => noBo t
  | _ => false
theorem rdB_is {τ : Ow} (h : rdB τ = true) : τ = .sh ∨ ∃ t, τ = .bo t ∧ noBo t = true := by
  cases τ with
  | sh => exact .inl rfl
  | bo t => exact .inr ⟨t, rfl, h⟩
  | _ => cases h
def ckSub (fa fb : Nfo → Fn) (I : Nfo) : Fn := fun Γ x => tOf x (match x with
  | .Subscript a i _ => (match lendR (fa I Γ a).1 with
    | some (τ1, Γ1) => (match lendR (fb I Γ1 i).1 with
      | some (_, Γ2) => if (rdB τ1 && pixB i) = true then some (false, elT τ1, Γ2) else none
      | none => none)
    | none => none)
  | _ => none)
theorem sn_sub {fa fb : Nfo → Fn} {ma mb : Env → M D} (ha : Sn C T Φ fa ma) (hb : Sn C T Φ fb mb) : Sn C T Φ (ckSub fa fb) (fun ρ => .bind (ma ρ) fun x => .bind (mb ρ) fun y => subD x y) := by
  intro I X E G Γ x
  refine ok_of G ?_
  split
  · split
    · rename_i τ1 Γ1 h1
      split
      · rename_i τ2 Γ2 h2
        split
        · rename_i hb'
          rw [Bool.and_eq_true] at hb'
          exact okV (ve_sub G.hK G.units ((ha I X E G Γ _).read h1) ((hb I X E G Γ1 _).read h2) (plain_ix hb'.2) (rdB_is hb'.1))
        · exact okN
      · exact okN
    · exact okN
  · exact okN
abbrev OFn : Type := List Ow → Option Expr → Option (List Ow)
def SnO (C : Cn) (T : List (Addr × Str)) (Φ : Fen) (f : Nfo → OFn) (m : Env → M (Option Int)) : Prop := ∀ (I : Nfo) (X : Cx) (E : XK), Gd X C T E Φ I → ∀ Γ e Γ', f I Γ e = some Γ' → PO X e (tPO C T E Γ Γ' m)
def ckONone (_ : Nfo) : OFn := fun Γ e => match e with
  | none => some Γ
  | _ => none
theorem sn_onone : SnO C T Φ ckONone (fun _ => .ret none) := by
  intro I X E G Γ e Γ' h
  unfold ckONone at h
  split at h
  · cases h; exact vpo_none
  · cases h
def ckOSome (fa : Nfo → Fn) (I : Nfo) : OFn := fun Γ e => match e with
  | some e => (lendR (fa I Γ e).1).map (·.2)
  | _ => none
theorem sn_osome {fa : Nfo → Fn} {ma : Env → M D} (ha : Sn C T Φ fa ma) : SnO C T Φ (ckOSome fa) (fun ρ => .bind (ma ρ) fun x => match x with
    | .int i => .ret (some i)
    | _ => .fail) := by
  intro I X E G Γ e Γ' h
  unfold ckOSome at h
  split at h
  · rw [Option.map_eq_some_iff] at h
    obtain ⟨⟨τ, Γ1⟩, e1, rfl⟩ := h
    exact vpo_some ((ha I X E G Γ _).read e1)
  · cases h
def ckSlc (fa : Nfo → Fn) (fl fh : Nfo → OFn) (I : Nfo) : Fn := fun Γ x => tOf x (match x with
  | .Subscript a (.Slice lo hi none _) _ => (match lendR (fa I Γ a).1 with
    | some (τ1, Γ1) => (match fl I Γ1 lo with
      | some Γ2 => (match fh I Γ2 hi with
        | some Γ3 => if flatO τ1 = true then some (true, .sh, Γ3) else none
        | none => none)
      | none => none)
    | none => none)
  | _ => none)
theorem sn_slc {fa : Nfo → Fn} {fl fh : Nfo → OFn} {ma : Env → M D} {ml mh : Env → M (Option Int)} (ha : Sn C T Φ fa ma) (hl : SnO C T Φ fl ml) (hh : SnO C T Φ fh mh) : Sn C T Φ (ckSlc fa fl fh) (fun ρ => .bind (ma ρ) fun x => .bind (ml ρ) fun l => .bind (mh ρ) fun h => match x with
    | .lst xs => .ret (.lst (cutD xs l h))
    | .tup xs => .ret (.tup (cutD xs l h))
    | _ => .fail) := by
  intro I X E G Γ x
  refine ok_of G ?_
  split
  · split
    · rename_i τ1 Γ1 h1
      split
      · rename_i Γ2 h2
        split
        · rename_i Γ3 h3
          split
          · rename_i hf
            exact okO (ve_slc G.hK ((ha I X E G Γ _).read h1) hf (hl I X E G Γ1 _ _ h2) (hh I X E G Γ2 _ _ h3))
          · exact okN
        · exact okN
      · exact okN
    · exact okN
  · exact okN
/-! ### get -/
def abB : Expr → Bool
  | .Name .. => true
  | _ => false
theorem abB_is {X : Cx} {o : Expr} {a : Str} (h : abB o = true) : attributeBase o a X.env (eval o X.env) = eval o X.env := by
  cases o <;> first | (cases h; done) | rfl
def ckGetd (fo fk fd : Nfo → Fn) (I : Nfo) : Fn := fun Γ x => tOf x (match x with
  | .Call (.Attribute o at_ apos) [k, d] [] cpos => (match lendR (fo I Γ o).1 with
    | some (_, Γ1) => (match lendR (fk I Γ1 k).1 with
      | some (_, Γ2) => (match shR (fd I Γ2 d).1 with
        | some Γ3 => if (decide (at_ = "get") && (abB o && ((apos.endLine == cpos.line) && (nstB k && nstB d)))) = true then some (false, .sh, Γ3) else none
        | none => none)
      | none => none)
    | none => none)
  | _ => none)
theorem sn_getd {fo fk fd : Nfo → Fn} {mo mk md : Env → M D} (ho : Sn C T Φ fo mo) (hk : Sn C T Φ fk mk) (hd : Sn C T Φ fd md) : Sn C T Φ (ckGetd fo fk fd) (getM mo mk md) := by
  intro I X E G Γ x
  refine ok_of G ?_
  split
  · split
    · rename_i τ1 Γ1 h1
      split
      · rename_i τ2 Γ2 h2
        split
        · rename_i Γ3 h3
          split
          · rename_i hb
            simp only [Bool.and_eq_true, decide_eq_true_eq] at hb
            obtain ⟨rfl, g1, g2, g3, g4⟩ := hb
            refine okV (ve_get G ((ho I X E G Γ _).read h1) ((hk I X E G Γ1 _).read h2) ((hd I X E G Γ2 _).sh h3) ⟨abB_is g1, ?_, by simpa using g2, ?_⟩)
            · rw [starEach_cons g3, starEach_cons g4]; rfl
            · rw [starEach_cons g3, starEach_cons g4]; rfl
          · exact okN
        · exact okN
      · exact okN
    · exact okN
  · exact okN
/-! ### the draws -/
def ckTokS (k : Str) (i : Nat) (I : Nfo) : Fn := fun Γ x => tOf x (match x with
  | .Subscript (.Name y _) (.Constant (.str z) _ _) _ => if (decide (z = k) && (decide (I.N[i]? = some y) && (visB I.sc y && dbgB y))) = true then some (false, .sh, Γ) else none
  | _ => none)
theorem sn_tokW {i : Nat} : Sn C T Φ (ckTokS "whole" i) (evE Φ (.tokW i)) := by
  intro I X E G Γ x
  refine ok_of G ?_
  split
  · split
    · rename_i hb
      rw [Bool.and_eq_true, Bool.and_eq_true, Bool.and_eq_true, decide_eq_true_eq, decide_eq_true_eq] at hb
      obtain ⟨rfl, h1, h2, h3⟩ := hb
      exact okV (ve_tokW G h1 h2 h3)
    · exact okN
  · exact okN
theorem sn_tokN {i : Nat} : Sn C T Φ (ckTokS "count" i) (evE Φ (.tokN i)) := by
  intro I X E G Γ x
  refine ok_of G ?_
  split
  · split
    · rename_i hb
      rw [Bool.and_eq_true, Bool.and_eq_true, Bool.and_eq_true, decide_eq_true_eq, decide_eq_true_eq] at hb
      obtain ⟨rfl, h1, h2, h3⟩ := hb
      exact okV (ve_tokN G h1 h2 h3)
    · exact okN
  · exact okN
theorem sn_tokC {i : Nat} : Sn C T Φ (ckTokS "cells" i) (evE Φ (.tokC i)) := by
  intro I X E G Γ x
  refine ok_of G ?_
  split
  · split
    · rename_i hb
      rw [Bool.and_eq_true, Bool.and_eq_true, Bool.and_eq_true, decide_eq_true_eq, decide_eq_true_eq] at hb
      obtain ⟨rfl, h1, h2, h3⟩ := hb
      exact okV (ve_tokC G h1 h2 h3)
    · exact okN
  · exact okN
def ckTokNew (i j : Nat) (I : Nfo) : Fn := fun Γ x => tOf x (match x with
  | .Dict [some (.Constant (.str k1) _ _), some (.Constant (.str k2) _ _), some (.Constant (.str k3) _ _)] [.Name y _, .Name z _, .Constant (.int n) _ _] _ =>
    if (decide (k1 = "whole") && (decide (k2 = "cells") && (decide (k3 = "count") && (decide (n = 0) && (decide (i ≠ j) && (decide (Γ[j]? = some (.li .sh)) && (decide (I.N[i]? = some y) && (visB I.sc y && (dbgB y && (decide (I.N[j]? = some z) && (visB I.sc z && dbgB z))))))))))) = true then some (false, .sh, Γ.set j .sh) else none
  | _ => none)
theorem sn_tokNew {i j : Nat} : Sn C T Φ (ckTokNew i j) (evE Φ (.tokNew i j)) := by
  intro I X E G Γ x
  refine ok_of G ?_
  split
  · split
    · rename_i hb
      simp only [Bool.and_eq_true, decide_eq_true_eq] at hb
      obtain ⟨rfl, rfl, rfl, rfl, h1, h2, h3, h4, h5, h6, h7, h8⟩ := hb
      exact okV (ve_tokNew G h3 h4 h5 h6 h7 h8 h1 h2)
    · exact okN
  · exact okN
end
end Wb

end
section
/-! Wb: {tuple: v}; for key in dict. -/
namespace Wb
open PySem PySem.Spec PyProof.Rows L2
/-- {k: v}, k a tuple -/
def tDisp1 (tk tv : TE) : TE := fun σ H Q => ∀ p, H p = none → tk σ (upd H p (.dT [])) fun x H1 => tv σ H1 fun y H2 => H2 p = some (.dT []) ∧ ∃ (ks : List Key) (b : Addr), x = .ref b ∧ H2 b = some (.tup (ks.map kV)) ∧ b ≠ p ∧ Q (.ref p) (upd H2 p (.dT [(ks, y)]))
theorem pe_disp1 {X : Cx} {pos : Pos} {k v : Expr} {tk tv : TE} (hu : X.A.units + 1 < cLine) (hk : PE X k tk) (hv : PE X v tv) : PE X (.Dict [some k] [v] pos) (tDisp1 tk tv) := by
  refine ⟨fun pins s σ H Q I q => ?_⟩
  have hn := I.hok.fresh (Nat.le_refl s.heap.objs.size)
  have I1 := I.laid (a := s.heap.objs.size) (o := .dT []) (h' := s.heap.push { cls := .type "dict", data := .dict #[] }) (t' := s.toks) (fun _ _ q => Heap.get?_push_of_some _ q) (Nat.le_refl _) (dt_empty s.heap I.big)
  have hu' : (tupleKind (mixKind X.prog X.w)).room X.A := Nat.lt_of_le_of_lt (Nat.le_succ _) hu
  rw [arm_eval_Dict, zip_pairTrees [some k] [v] X.env pos rfl rfl, dictDisplay_pairs _ (by simp [pairTrees]) (by simp [pairTrees])]
  refine wpAny_bind (wpAny_standAt (wpAny_bind (wpAny_subDictH (knd := tupleKind (mixKind X.prog X.w)) hu' (by simp [pairTrees]) ?_)))
  refine pairTrees_cons_walk (thn (hk.run pins _ σ _ _ I1 (q _ hn)) fun u s1 ⟨x, H1, J1, rx, q1⟩ => thn (hv.run pins s1 σ H1 _ J1 q1) fun w2 s2 ⟨y, H2, J2, ry, e, ks, b, ex, eb, nb, q2⟩ => pairTrees_nil_walk ?_)
  subst ex
  obtain rfl : u = Value.ref b := rx
  obtain ⟨z, hd, xs, rel, dd⟩ := dt_of J2.hok e
  cases rel
  refine ⟨[(ks, b, w2)], ⟨rfl, rfl, key_of J2.hok eb, trivial⟩, dd, fun h' tk' dd' hs => ?_⟩
  refine wpAny_pure ⟨.ref s.heap.objs.size, _, ?_, rfl, q2⟩
  obtain ⟨o, es, ep, h1, h2, h3, h4, h5, h6⟩ := dd'
  refine d_write (t' := tk') J2 (by rw [e]; exact True.intro) hs ⟨o, h1⟩ ⟨by show 1 ≤ sizeLine; rw [sizeLine_eq]; omega, hd, [(ks, b, w2)], .cons ⟨rfl, ?_, ry⟩ .nil, o, es, ep, h1, h2, h3, h4, h6⟩
  rw [upd_ne nb]
  exact eb
section
variable {C : Cn} {T : List (Addr × Str)} {E : XK} {X : Cx} {Φ : Fen} {I : Nfo} {Γl Γ Γ1 Γ2 Γ3 Γ' : List Ow} {τr τ τ1 τ2 τ3 : Ow} {m m1 m2 m3 : Env → M D} {pos p p2 p3 : Pos}
theorem ve_disp1 {k v : Expr} (G : Gd X C T E Φ I) (hk : PE X k (tV C T E Γ Γ1 .sh m1)) (hv : PE X v (tV C T E Γ1 Γ2 .sh m2)) (nb : Γ2.all noBo = true) :
    PE X (.Dict [some k] [v] pos) (tO C T E Γ Γ2 .dt (fun ρ => .bind (m1 ρ) fun x => .bind (m2 ρ) fun y => .bind (.opt (kyT true x)) fun q => .ret (.dct true [(dOfKy q, y)]))) := by
  refine (pe_disp1 G.units hk hv).imp fun σ H Q ⟨O, Fs, ρ, Qd, Ed, r, hm, x, kk⟩ q hq => ?_
  have r0 := r.fresh (o := .dT []) hq trivial
  have t0 : TrS H Fs (upd H q (.dT [])) Fs := fun a o e n => ⟨kpaS (same_upd hq) a o e, n⟩
  refine ⟨plus O [q], Fs, ρ, _, Ed, r0, hm, x.tr t0, fun d1 v1 H1 Fs1 h1 t1 r1 q1 => ?_⟩
  refine ⟨plus O [q], Fs1, ρ, _, Ed, r1, h1, x.tr (t0.trans t1.toS), fun d2 v2 H2 Fs2 h2 t2 r2 q2 => ?_⟩
  obtain ⟨ky, ek, hQ⟩ := opt_some h2
  have q1' : RepS C H2 (Oall (plus O [q]) Fs2) v1 d1 := RepS.mono (t2.kp.sv (own_mv t2)) _ _ q1
  have hd : H2 q = some (.dT []) := (t2.kp q _ (t1.kp q _ upd_same).dT).dT
  obtain ⟨ks, b, rfl, rfl, hb, hkl⟩ := kyT_t (τ' := .sh) q1' ek
  have nb' : b ≠ q := fun e => by rw [e, hd] at hb; cases hb
  refine ⟨hd, ks, b, rfl, hb, nb', ?_⟩
  have hP : Oall (plus O [q]) Fs2 q := .inl (.inr (by simp))
  have sv : Sv H2 (Oall (plus O [q]) Fs2) (upd H2 q (.dT [(ks, v2)])) (Oall (plus O [q]) Fs2) := sv_upd hP
  have r3 := r2.other (l := q) (o := .dT [(ks, v2)]) nb (.inr (by simp)) hd trivial trivial
  have kp : KpA H (upd H2 q (.dT [(ks, v2)])) := fun a o e => by
    have na : a ≠ q := fun z => by rw [z, hq] at e; cases e
    rw [upd_ne na]
    exact (t1.kp.trans t2.kp) a o (by rw [upd_ne na]; exact e)
  refine kk _ _ _ Fs2 [q] hQ ⟨kp, fun a h => ?_⟩ r3 ⟨q, [(ks, v2)], [(.tup (ks.map dOfK), d2)], rfl, rfl, upd_same, by show 1 ≤ sizeLine; rw [sizeLine_eq]; omega, rfl, .cons hkl (RepS.mono sv _ _ q2) .nil⟩ (by simp) fun a ha z => ?_
  · rcases h with h | h
    · have := (t1.trans t2).fr a (.inl h)
      rcases this with z | z
      · exact .inl z
      · by_cases e : a = q
        · rw [e, upd_same] at z; cases z
        · rw [upd_ne e] at z; exact .inr z
    · rw [List.mem_singleton.mp h]; exact .inr hq
  · rw [List.mem_singleton.mp ha] at z
    obtain ⟨o, e, _⟩ := r.ok q (.inl z)
    rw [hq] at e; cases e
/-! ### a dict locked, unlocked -/
/-- a dict, not the draws' -/
def isDc : HO → Prop
  | .dT _ => True
  | .dK kvs => notDraw kvs
  | _ => False
/-- H and H' part at a0 alone, where a dict is locked in one of them -/
structure Lk (H H' : Hp) (a0 : Addr) (od : Obj) (u : HO) : Prop where
  ne : ∀ b, b ≠ a0 → H' b = H b
  dc : isDc u
  at_ : (H a0 = some u ∧ H' a0 = some (.frz od u)) ∨ (H a0 = some (.frz od u) ∧ H' a0 = some u)
section
variable {H H' : Hp} {P : Addr → Prop} {a0 : Addr} {od : Obj} {u : HO}
theorem Lk.off (l : Lk H H' a0 od u) {a : Addr} {o : HO} (h : H a = some o) (n1 : o ≠ u) (n2 : ∀ o', o ≠ .frz o' u) : H' a = some o := by
  have : a ≠ a0 := fun e => by
    rw [e] at h
    rcases l.at_ with ⟨z, _⟩ | ⟨z, _⟩
    · rw [z] at h; cases h; exact n1 rfl
    · rw [z] at h; cases h; exact n2 _ rfl
  rw [l.ne a this]; exact h
theorem Lk.rd (l : Lk H H' a0 od u) {a : Addr} {w : HO} (hw : ∀ o x, w ≠ .frz o x) (h : Rd H a w) : Rd H' a w := by
  by_cases e : a = a0
  · subst e
    rcases l.at_ with ⟨z, z'⟩ | ⟨z, z'⟩
    · rcases h with h | ⟨o, h⟩
      · rw [z] at h; cases h; exact .inr ⟨od, z'⟩
      · rw [z] at h
        cases h
        exact l.dc.elim
    · rcases h with h | ⟨o, h⟩
      · rw [z] at h
        cases h
        exact absurd rfl (hw _ _)
      · rw [z] at h; cases h; exact .inl z'
  · rcases h with h | ⟨o, h⟩
    · exact .inl (by rw [l.ne a e]; exact h)
    · exact .inr ⟨o, by rw [l.ne a e]; exact h⟩
theorem Lk.tup (l : Lk H H' a0 od u) {a : Addr} {xs : List V} (h : H a = some (.tup xs)) : H' a = some (.tup xs) := l.off h (fun e => by have := l.dc; rw [← e] at this; exact this) (fun o e => nomatch e)
theorem Lk.lst (l : Lk H H' a0 od u) {a : Addr} {xs : List V} (h : H a = some (.lst xs)) : H' a = some (.lst xs) := l.off h (fun e => by have := l.dc; rw [← e] at this; exact this) (fun o e => nomatch e)
theorem Lk.draw (l : Lk H H' a0 od u) {a c : Addr} {w n : Int} (h : H a = some (drawO w c n)) : H' a = some (drawO w c n) := l.off h (fun e => by
  have := l.dc
  rw [← e] at this
  exact absurd rfl (show notDraw (drawK w c n) from this)) (fun o e => nomatch e)
mutual
theorem RepS.lk (l : Lk H H' a0 od u) : ∀ (d : D) (v : V), RepS C H P v d → RepS C H' P v d
  | .non, _, h => by cases h; exact .non
  | .bl b, _, h => by cases h; exact .bl b
  | .int i, _, h => by cases h; exact .int i
  | .str x, _, h => by cases h; exact .str x
  | .lst ds, _, h => by
    cases h with
    | lst n r z q => exact .lst n (l.rd (fun _ _ e => nomatch e) r) z (RepSs.lk l ds _ q)
  | .tup ds, _, h => by
    cases h with
    | tup n r z q => exact .tup n (l.tup r) z (RepSs.lk l ds _ q)
  | .dct t ds, _, h => by
    cases h with
    | dk n r z nd q => exact .dk n (l.rd (fun _ _ e => nomatch e) r) z nd (RepKs.lk l ds _ q)
    | dt n r z q => exact .dt n (l.rd (fun _ _ e => nomatch e) r) z (RepTs.lk l ds _ q)
  | .tok, _, h => by
    cases h with
    | tok n1 n2 h0 h1 h2 h3 => exact .tok n1 n2 (l.draw h0) h1 h2 (l.lst h3)
  | .fn x, _, h => by cases h with | fn e => exact .fn e
  | .exc c, _, h => by cases h
  | .scr ns, _, h => by
    cases h with
    | scr z n r => exact .scr z n (l.rd (fun _ _ e => nomatch e) r)
    | scrK z e => exact .scrK z e
theorem RepSs.lk (l : Lk H H' a0 od u) : ∀ (ds : List D) (vs : List V), RepSs C H P vs ds → RepSs C H' P vs ds
  | [], _, h => by cases h; exact .nil
  | d :: ds, _, h => by
    cases h with
    | cons r q => exact .cons (RepS.lk l d _ r) (RepSs.lk l ds _ q)
theorem RepKs.lk (l : Lk H H' a0 od u) : ∀ (ds : List (D × D)) (vs : List (Key × V)), RepKs C H P vs ds → RepKs C H' P vs ds
  | [], _, h => by cases h; exact .nil
  | (k, d) :: ds, _, h => by
    cases h with
    | cons r q => exact .cons (RepS.lk l d _ r) (RepKs.lk l ds _ q)
theorem RepTs.lk (l : Lk H H' a0 od u) : ∀ (ds : List (D × D)) (vs : List (List Key × V)), RepTs C H P vs ds → RepTs C H' P vs ds
  | [], _, h => by cases h; exact .nil
  | (k, d) :: ds, _, h => by
    cases h with
    | cons hk r q => exact .cons hk (RepS.lk l d _ r) (RepTs.lk l ds _ q)
end
theorem RepT.lk (l : Lk H H' a0 od u) : ∀ (t : Ow) {v : V} {d : D} {F : List Addr}, noBo t = true → a0 ∉ F → RepT C H P t v d F → RepT C H' P t v d F
  | .sh, _, _, _, _, _, h => ⟨h.1, RepS.lk l _ _ h.2⟩
  | .li t, _, _, F, b, k, h => by
    obtain ⟨a, vs, ds, Fs, e1, e2, e3, e4, e5, e6⟩ := h
    subst e5
    have na : a ≠ a0 := fun e => k (by rw [e]; exact List.mem_cons_self)
    exact ⟨a, vs, ds, Fs, e1, e2, (l.ne a na).trans e3, e4, rfl, e6.impM fun v d F hF r => RepT.lk l t b (fun z => k (List.mem_cons_of_mem _ (List.mem_flatten.mpr ⟨F, hF, z⟩))) r⟩
  | .dk, _, _, _, _, k, h => by
    obtain ⟨a, kvs, ds, e1, e2, e3, e4, e5, e6, e7⟩ := h
    subst e6
    have na : a ≠ a0 := fun e => k (by rw [e]; exact List.mem_cons_self)
    exact ⟨a, kvs, ds, e1, e2, (l.ne a na).trans e3, e4, e5, rfl, RepKs.lk l _ _ e7⟩
  | .dt, _, _, _, _, k, h => by
    obtain ⟨a, kvs, ds, e1, e2, e3, e4, e6, e7⟩ := h
    subst e6
    have na : a ≠ a0 := fun e => k (by rw [e]; exact List.mem_cons_self)
    exact ⟨a, kvs, ds, e1, e2, (l.ne a na).trans e3, e4, rfl, RepTs.lk l _ _ e7⟩
  | .bo t, _, _, _, b, _, _ => by cases b
theorem Rl.lk (l : Lk H H' a0 od u) {O : Addr → Prop} {Fs : Nat → List Addr} {σ : L2.St} {ρ : Env} (r : Rl C T O Γ Fs σ H ρ) (nb : Γ.all noBo = true) (n : ¬ Oall O Fs a0) : Rl C T O Γ Fs σ H' ρ :=
  ⟨r.len, r.gl, fun i d e => by
    obtain ⟨v, τ, e1, e2, q⟩ := r.slot i d e
    exact ⟨v, τ, e1, e2, q.lk l τ (all_get nb e2) fun z => n (.inr ⟨i, z⟩)⟩, r.nd, r.dj, r.dj0, fun a h => by
    obtain ⟨o, e, w⟩ := r.ok a h
    exact ⟨o, by rw [l.ne a fun z => n (by rw [← z]; exact h)]; exact e, w⟩, fun q hq => by
    obtain ⟨ps, a1, a2, a3⟩ := r.tabs q hq
    refine ⟨ps, l.off a1 (fun e => by have := l.dc; rw [← e] at this; exact this) (fun o e => nomatch e), a2, fun p' cv hcv => ?_⟩
    obtain ⟨c0, e1, e2⟩ := a3 p' cv hcv
    exact ⟨c0, e1, l.off e2 (fun e => by have := l.dc; rw [← e] at this; exact this) (fun o e => nomatch e)⟩⟩
end
/-! ### for key in d -/
theorem kv_rep {H : Hp} {P : Addr → Prop} : ∀ ks : List Key, RepSs C H P (ks.map kV) (ks.map dOfK)
  | [] => .nil
  | .inl i :: ks => .cons (.int i) (kv_rep ks)
  | .inr x :: ks => .cons (.str x) (kv_rep ks)
theorem repKs_keys {H : Hp} {P : Addr → Prop} : ∀ {kvs : List (Key × V)} {ds : List (D × D)}, RepKs C H P kvs ds → ds.map (·.1) = kvs.map fun kv => dOfK kv.1
  | _, _, .nil => rfl
  | _, _, .cons _ q => by rw [List.map_cons, List.map_cons, repKs_keys q]
theorem repTs_keys {H : Hp} {P : Addr → Prop} : ∀ {kvs : List (List Key × V)} {ds : List (D × D)}, RepTs C H P kvs ds → ds.map (·.1) = kvs.map fun kv => .tup (kv.1.map dOfK)
  | _, _, .nil => rfl
  | _, _, .cons _ _ q => by rw [List.map_cons, List.map_cons, repTs_keys q]
theorem repTs_klen {H : Hp} {P : Addr → Prop} : ∀ {kvs : List (List Key × V)} {ds : List (D × D)}, RepTs C H P kvs ds → ∀ kv ∈ kvs, kv.1.length ≤ sizeLine
  | _, _, .nil, _, h => by cases h
  | _, _, .cons hk _ q, kv, h => by
    rcases List.mem_cons.mp h with rfl | h
    · exact hk
    · exact repTs_klen q kv h
/-- a locked dict of a frame, walked by its keys -/
theorem itok_keysT {P : Addr → Prop} {H : Hp} {a : Addr} {o : Obj} {kvs : List (List Key × V)} {ds : List (D × D)} {b : Bool} (h : H a = some (.frz o (.dT kvs))) (n : ¬ P a) (z : kvs.length ≤ sizeLine) (q : RepTs C H P kvs ds) : ItOk C P b H (ds.map (·.1)) (Itkt a o kvs) := by
  refine ⟨by rw [List.length_map, ← q.length]; exact z, fun H => H a = some (.frz o (.dT kvs)), _, by rw [List.length_map, ← q.length]; exact walk_keysT, fun P2 H2 s k n' => ⟨(s a _ h n).1.frz, fun i x H3 hi y => ?_⟩⟩
  obtain ⟨rfl, ks, v, q', e1, rfl, e2⟩ := y
  refine ⟨Same.refl _, .tup (ks.map dOfK), ?_, .tup (fun zz => ?_) e2 ?_ (kv_rep ks)⟩
  · rw [repTs_keys q, List.getElem?_map, e1]; rfl
  · obtain ⟨u, eu, w⟩ := n' q' zz
    rw [e2] at eu; cases eu; exact w
  · rw [List.length_map]
    exact repTs_klen q _ (List.mem_of_getElem? e1)
theorem itok_keysK {P : Addr → Prop} {H : Hp} {a : Addr} {o : Obj} {kvs : List (Key × V)} {ds : List (D × D)} {b : Bool} (h : H a = some (.frz o (.dK kvs))) (n : ¬ P a) (z : kvs.length ≤ sizeLine) (q : RepKs C H P kvs ds) : ItOk C P b H (ds.map (·.1)) (Itk a o kvs) := by
  refine ⟨by rw [List.length_map, ← q.length]; exact z, fun H => H a = some (.frz o (.dK kvs)), _, by rw [List.length_map, ← q.length]; exact walk_keys, fun P2 H2 s k n' => ⟨(s a _ h n).1.frz, fun i x H3 hi y => ?_⟩⟩
  obtain ⟨rfl, ks, v, e1, rfl⟩ := y
  refine ⟨Same.refl _, dOfK ks, ?_, ?_⟩
  · rw [repKs_keys q, List.getElem?_map, e1]; rfl
  · cases ks
    · exact .int _
    · exact .str _
/-- the turns of a loop, told of ItOk -/
theorem loop_it {t : Tg} {mb : Env → M (Fl × Env)} {is : List Nat} {En : Ends} {O : Addr → Prop} {Fs1 : Nat → List Addr} {σ : L2.St} {H1 : Hp} {ρ : Env} {ds : List Wb.D} {J : L2.It} {Qd : Fl × Env → Prop} {Ed : Exn → Prop}
    (r1 : Rl C T O Γ1 Fs1 σ H1 ρ) (hJ : ItOk C (Oall O Fs1) true H1 ds J) (hd : forL (fun d ρ' => .bind (asgT t d ρ') fun ρ1 => mb ρ1) ds ρ Qd Ed) (xp : Xp C T E H1 Fs1 Ed)
    (k1 : ∀ ρ' σ' H' Fs', Qd (.nx, ρ') → TrS H1 Fs1 H' Fs' → Rl C T O Γ1 Fs' σ' H' ρ' → En.nx σ' H')
    (k4 : ∀ ρ' d v H' F, Qd (.rt d, ρ') → TrS H1 Fs1 H' (fun _ => F) → LamX.Tabs T H' → RepT C H' (plus O F) τr v d F → F.Nodup → (∀ a ∈ F, ¬ O a ∧ ∃ o, H' a = some o ∧ ownable o) → En.rt v H') :
    ∃ W : Nat → Nat → L2.St → Hp → Prop, (∃ m, W 0 m σ H1) ∧ ∀ i m σ H, W i m σ H → (J.stop i H ∧ En.nx σ H) ∨ (J.go i H ∧ ∃ N : L2.St → Hp → Prop, (∀ σ' H', N σ' H' → ∃ m', m' < m ∧ W (i + 1) m' σ' H') ∧ ∀ x H', J.yld i H x H' → tG C T is Γ1 (asgT t) x σ H' fun σ2 H2 => tS C T E τr Γ1 Γ1 Γ1 mb { En with nx := N, ct := N, bk := En.nx } σ2 H2) := by
  obtain ⟨z, Gw, Y, w, st⟩ := hJ
  have sv : ∀ {H2 Fs2}, TrS H1 Fs1 H2 Fs2 → Sv H1 (Oall O Fs1) H2 (Oall O Fs2) := fun {H2 Fs2} t2 a o e n => by
    obtain ⟨k, n2⟩ := t2 a o e fun z => n (.inr z)
    exact ⟨k, fun z => z.elim (fun z => n (.inl z)) n2⟩
  refine for_it w (fun i σ' H' => ∃ Fs' ρ', Rl C T O Γ1 Fs' σ' H' ρ' ∧ TrS H1 Fs1 H' Fs' ∧ forL (fun d ρ' => .bind (asgT t d ρ') fun ρ1 => mb ρ1) (ds.drop i) ρ' Qd Ed) ⟨Fs1, ρ, r1, TrS.refl _ _, hd⟩ ?_ ?_ ?_
  · rintro i σ' H' _ ⟨Fs', ρ', r', t', _⟩
    exact (st _ H' (sv t') (fun e => nomatch e) r'.ok).1
  · rintro i x σ' H' H'' hi ⟨Fs', ρ', r', t', hf⟩ y
    obtain ⟨s3, d, ed, rd⟩ := (st _ H' (sv t') (fun e => nomatch e) r'.ok).2 i x H'' hi y
    have hdr : ds.drop i = d :: ds.drop (i + 1) := by
      rw [List.drop_eq_getElem_cons hi]
      congr 1
      have := List.getElem?_eq_getElem hi
      rw [ed] at this
      exact (Option.some.inj this).symm
    rw [hdr] at hf
    have hf' : asgT t d ρ' (fun ρ1 => mb ρ1 (fun r => (match r with
      | (.nx, ρ') | (.ct, ρ') => forL (fun d ρ' => .bind (asgT t d ρ') fun ρ1 => mb ρ1) (ds.drop (i + 1)) ρ'
      | (.bk, ρ') => .ret (.nx, ρ')
      | (.rt d, ρ') => .ret (.rt d, ρ') : M (Fl × Env)) Qd Ed) Ed) Ed := hf
    have r3 := r'.grow (kpaS s3) (r'.tabs.ext s3)
    have tr3 : TrS H1 Fs1 H'' Fs' := t'.trans fun a o e n => ⟨kpaS s3 a o e, n⟩
    refine ⟨O, Fs', ρ', d, _, Ed, r3, rd, hf', fun ρ4 σ4 Fs4 hq4 n4 _ _ r4 => ?_⟩
    have tr4 : TrS H1 Fs1 H'' Fs4 := tr3.trans (TrS.fewer n4)
    refine ⟨O, Fs4, ρ4, _, Ed, r4, hq4, xp.tr tr4, ?_, ?_, ?_, ?_⟩
    · exact fun ρ5 σ5 H5 Fs5 hq t5 r5 => ⟨Fs5, ρ5, r5, tr4.trans t5, hq⟩
    · exact fun ρ5 σ5 H5 Fs5 hq t5 r5 => k1 ρ5 σ5 H5 Fs5 hq (tr4.trans t5) r5
    · exact fun ρ5 σ5 H5 Fs5 hq t5 r5 => ⟨Fs5, ρ5, r5, tr4.trans t5, hq⟩
    · exact fun ρ5 d v H5 F hq t5 tb q nd hF => k4 ρ5 d v H5 F hq (tr4.trans t5) tb q nd hF
  · rintro σ' H' ⟨Fs', ρ', r', t', hf⟩
    rw [List.drop_length] at hf
    exact k1 ρ' σ' H' Fs' hf t' r'
/-- the dict of a slot, locked, walked -/
theorem keys_core {H : Hp} {P : Addr → Prop} {v : V} {tk : Bool} {kvs : List (D × D)} {F : List Addr} (hτ : τ = .dt ∨ τ = .dk) (q : RepT C H P τ v (.dct tk kvs) F) :
    ∃ a u, v = .ref a ∧ F = [a] ∧ H a = some u ∧ Mut (some u) ∧ isDc u ∧ ∀ od (R : L2.It → Hp → Prop) (P' : Addr → Prop), (∀ a, P' a → P a) → ¬ P' a → (∀ J, ItOk C P' true (upd H a (.frz od u)) (kvs.map (·.1)) J → R J (upd H a (.frz od u))) →
      (∃ kvs, upd H a (.frz od u) a = some (.frz od (.dK kvs)) ∧ R (Itk a od kvs) (upd H a (.frz od u))) ∨ ∃ kvs, upd H a (.frz od u) a = some (.frz od (.dT kvs)) ∧ R (Itkt a od kvs) (upd H a (.frz od u)) := by
  rcases hτ with rfl | rfl
  · obtain ⟨a, xs, ds, e1, e2, e3, e4, e5, e6⟩ := q
    cases e2
    refine ⟨a, .dT xs, e1, e5, e3, trivial, trivial, fun od R P' sub n k => .inr ⟨xs, upd_same, k _ (itok_keysT upd_same n e4 ?_)⟩⟩
    have l : Lk H (upd H a (.frz od (.dT xs))) a od (.dT xs) := ⟨fun b nb => upd_ne nb, trivial, .inl ⟨e3, upd_same⟩⟩
    exact RepTs.lk l _ _ (RepTs.mono (fun a o e n => ⟨by rw [e]; exact .same o, fun z => n (sub a z)⟩) _ _ e6)
  · obtain ⟨a, xs, ds, e1, e2, e3, e4, e5, e6, e7⟩ := q
    cases e2
    refine ⟨a, .dK xs, e1, e6, e3, trivial, e5, fun od R P' sub n k => .inl ⟨xs, upd_same, k _ (itok_keysK upd_same n e4 ?_)⟩⟩
    have l : Lk H (upd H a (.frz od (.dK xs))) a od (.dK xs) := ⟨fun b nb => upd_ne nb, e5, .inl ⟨e3, upd_same⟩⟩
    exact RepKs.lk l _ _ (RepKs.mono (fun a o e n => ⟨by rw [e]; exact .same o, fun z => n (sub a z)⟩) _ _ e7)
/-- for key in x, the dict of x given up -/
theorem vs_forK {t : Tg} {i : Nat} {x : Str} {tg : Expr} {body : List Stmt} {mb : Env → M (Fl × Env)} {is : List Nat} (G : Gd X C T E Φ I) (hN : I.N[i]? = some x) (hvis : visB I.sc x = true) (hdb : dbgB x = true) (ht : Γ[i]? = some τ) (hτ : τ = .dt ∨ τ = .dk) (nb : (Γ.set i .sh).all noBo = true)
    (hg : PG X tg (tG C T is (Γ.set i .sh) (asgT t))) (hb : PSs X body (tS C T E τr (Γ.set i .sh) (Γ.set i .sh) (Γ.set i .sh) mb)) :
    PS X (.For tg (.Name x p) body [] pos) (tS C T E τr Γl Γ (Γ.set i .sh) (fun ρ => .bind (.opt (ρ[i]?.join)) fun x => match x with
    | .dct _ kvs => .bind (.nox (forL (fun d ρ' => .bind (asgT t d ρ') fun ρ1 => mb ρ1) (kvs.map (·.1)) ρ)) fun r => match r with
      | (.nx, ρ') => .ret (.nx, ρ')
      | _ => .fail
    | _ => .fail)) := by
  have ho := pe_var (X := X) (pos := p) (i := i) (x := x) (by rw [G.hN]; exact hN) (G.vis hvis) (dbg1 hdb) (dbg2 hdb)
  refine (ps_lock (ps_for G.own G.calm (pi_keys ho) hg hb (folded_no rfl))).imp fun D σ H ⟨O, Fs, ρ, Qd, Ed, r, hm, xp, k1, k2, k3, k4⟩ => ?_
  obtain ⟨d, e, hm1⟩ := opt_some hm
  cases d <;> first | exact (hm1 : False).elim | skip
  rename_i tk kvs
  have hm2 : forL (fun d ρ' => .bind (asgT t d ρ') fun ρ1 => mb ρ1) (kvs.map (·.1)) ρ (fun r => (match r with
      | (.nx, ρ') => .ret (.nx, ρ')
      | _ => .fail : M (Fl × Env)) Qd Ed) (fun _ => False) := hm1
  obtain ⟨v, τ', e1, e2, q⟩ := r.slot i _ (join_some e)
  rw [ht] at e2; cases e2
  obtain ⟨a, u, rfl, eF, hu, hmu, hdc, hk⟩ := keys_core hτ q
  have hb1 : noBo τ = true := by rcases hτ with rfl | rfl <;> rfl
  have hai : a ∈ Fs i := by rw [eF]; exact List.mem_singleton.mpr rfl
  have hnO : ¬ O a := fun z => r.dj0 i a hai z
  have hn1 : ¬ Ownd (updF Fs i []) a := fun ⟨j, z⟩ => by
    by_cases hj : j = i
    · subst hj; rw [updF_same] at z; exact absurd z (by simp)
    · rw [updF_ne hj] at z
      exact hj (r.dj j i a z hai)
  have hn : ¬ Oall O (updF Fs i []) a := fun z => z.elim hnO hn1
  have hk2 : ∀ od R, (∀ J, ItOk C (Oall O (updF Fs i [])) true (upd H a (.frz od u)) (kvs.map (·.1)) J → R J (upd H a (.frz od u))) → iKeys (tVar i) σ (upd H a (.frz od u)) R := fun od R k => ⟨_, e1, a, od, rfl, hk od R _ (fun b z => z.imp id updF_nil_own) hn k⟩
  refine ⟨a, u, hu, hmu, fun od => hk2 od _ fun J hJ => ?_⟩
  have l : Lk H (upd H a (.frz od u)) a od u := ⟨fun b nb => upd_ne nb, hdc, .inl ⟨hu, upd_same⟩⟩
  have r1 := (r.giveW ht hb1).lk l nb hn
  refine loop_it r1 hJ hm2 Xp.false (fun ρ' σ' H' Fs' hq t r' => ?_) (fun ρ' d v H' F hq _ _ _ _ _ => (hq : False).elim)
  obtain ⟨kp, n'⟩ := t a _ upd_same hn1
  have hH' : H' a = some (.frz od u) := kp.frz
  have l' : Lk H' (upd H' a u) a od u := ⟨fun b nb => upd_ne nb, hdc, .inr ⟨hH', upd_same⟩⟩
  refine ⟨hH', k1 ρ' σ' (upd H' a u) Fs' hq (fun b o eb nb' => ?_) (r'.lk l' nb fun z => z.elim hnO n')⟩
  have hba : b ≠ a := fun z => nb' (by rw [z]; exact ⟨i, hai⟩)
  obtain ⟨kp2, n2⟩ := t b o (by rw [upd_ne hba]; exact eb) fun z => nb' (updF_nil_own z)
  exact ⟨by rw [upd_ne hba]; exact kp2, n2⟩
/-- x = y, y not used again -/
theorem vs_mv {i j : Nat} {x y : Str} (G : Gd X C T E Φ I) (hN : I.N[i]? = some x) (hM : I.N[j]? = some y) (hst : stB I x = true) (hvis : visB I.sc y = true) (hdb : dbgB y = true) (ht : Γ[j]? = some τ) (hi : i < Γ.length) (hs : swapsWith (.Name y p2) (some (.Name x p)) pos.line X.env = pure false) :
    PS X (.Assign [.Name x p] (.Name y p2) pos) (tS C T E τr Γl Γ (Γ.set i τ) (fun ρ => .bind (.opt (ρ[j]?.join)) fun d => .ret (.nx, setE (ρ.set j none) i d))) := by
  have ho := pe_var (X := X) (pos := p2) (i := j) (x := y) (by rw [G.hN]; exact hM) (G.vis hvis) (dbg1 hdb) (dbg2 hdb)
  refine (ps_set (i := i) G.nd (by rw [G.hN]; exact hN) (G.st hst).1 ho hs (G.st hst).2).imp fun D σ H ⟨O, Fs, ρ, Qd, Ed, r, hm, xp, k1, k2, k3, k4⟩ => ?_
  obtain ⟨d, e, hq⟩ := opt_some hm
  obtain ⟨v, e1, r', q⟩ := r.move (join_some e) ht
  refine ⟨v, e1, k1 _ _ H _ hq ?_ (r'.store ?_ (r.nd j) (fun a ha => r.dj0 j a ha) q)⟩
  · refine TrS.fewer fun a z => ?_
    rcases ownd_updF z with z | z
    · exact updF_nil_own z
    · exact ⟨j, z⟩
  · rw [List.length_set, ← r.gl]; exact hi
end
end Wb

end
section
/-! Wb: the checker: {tuple: value}. -/
namespace Wb
open PySem PySem.Spec PyProof.Rows L2
section
variable {C : Cn} {T : List (Addr × Str)} {Φ : Fen}
def ckDct1 (fk fv : Nfo → Fn) (I : Nfo) : Fn := fun Γ x => tOf x (match x with
  | .Dict [some k] [v] _ => (match shR (fk I Γ k).1 with
    | some Γ1 => (match shR (fv I Γ1 v).1 with
      | some Γ2 => if Γ2.all noBo = true then some (true, .dt, Γ2) else none
      | none => none)
    | none => none)
  | _ => none)
theorem sn_dct1 {fk fv : Nfo → Fn} {m1 m2 : Env → M D} (hk : Sn C T Φ fk m1) (hv : Sn C T Φ fv m2) : Sn C T Φ (ckDct1 fk fv) (fun ρ => .bind (m1 ρ) fun x => .bind (m2 ρ) fun y => .bind (.opt (kyT true x)) fun q => .ret (.dct true [(dOfKy q, y)])) := by
  intro I X E G Γ x
  refine ok_of G ?_
  split
  · rename_i k v p
    split
    · rename_i Γ1 h1
      split
      · rename_i Γ2 h2
        split
        · rename_i nb
          exact okO (ve_disp1 G ((hk I X E G Γ k).sh h1) ((hv I X E G Γ1 v).sh h2) nb)
        · exact okN
      · exact okN
    · exact okN
  · exact okN
end
end Wb

end
section
/-! Wb: isinstance(_law_caught(lambda: e), C). -/
namespace Wb
open PySem PySem.Spec PyProof.Rows L2
def Nfo.lamN (I : Nfo) (scope : Scope) : Nfo := { I with sc := scope, fn := fun _ => false, lam := false }
section
variable {C : Cn} {T : List (Addr × Str)} {E E' : XK} {X : Cx} {Φ : Fen} {I : Nfo} {Γ Γ1 Γ2 : List Ow} {m : Env → M D} {pos p p2 p3 p4 lpos : Pos} {scope : Scope}
theorem Gd.lamc (G : Gd X C T E Φ I) (L : LamX.LamS X.env.scope scope) (A : Around) (outer : List PySem.Env) (s : Shared) (H : Hp) (f c' : Addr) (hr : Room (3 * I.lv) (A.deeper (LamX.lamEnv X scope s.heap.objs.size f c'))) :
    Gd (LamX.lamCx X A outer s H E' scope f c') C T E' Φ (I.lamN scope) where
  hK := G.hK
  hC := G.hC
  calm := rfl
  nd := G.nd
  hN := G.hN
  sc := rfl
  fun_ := L.kind
  fn := rfl
  own := passes_of rfl
  room := hr
  tk := takes_of rfl rfl rfl rfl
  gi := G.gi
  abs := G.abs
  exs := fun x hx => by
    obtain ⟨A, bmB, B, nI, iI, F, q, gC, kC, rs⟩ := G.exs x hx
    exact ⟨A, bmB, B, nI, iI, F, q, gC, kC, rs⟩
  fns := fun i fi h hi => by
    obtain ⟨a, fd, F⟩ := G.fns i fi h hi
    exact ⟨a, fd, ⟨F.mg, F.keep, F.ok, F.ar, F.kws⟩⟩
  lam := fun h => nomatch (show false = true from h)
def allS (Γ : List Ow) : Bool := Γ.all fun τ => decide (τ = .sh)
theorem Rl.none {O : Addr → Prop} {Fs : Nat → List Addr} {σ : L2.St} {H : Hp} {ρ : Env} (r : Rl C T O Γ Fs σ H ρ) (h : allS Γ = true) : Rl C T O Γ (fun _ => []) σ H ρ := by
  have no : ∀ a, ¬ Ownd (fun _ => []) a := fun a ⟨_, z⟩ => absurd z (by simp)
  refine ⟨r.len, r.gl, fun i d e => ?_, fun _ => List.nodup_nil, fun _ _ _ z => absurd z (by simp), fun _ _ z => absurd z (by simp), fun a z => r.ok a (z.imp id fun z => absurd z (no a)), r.tabs⟩
  obtain ⟨v, τ, e1, e2, q⟩ := r.slot i d e
  have hs : τ = .sh := of_decide_eq_true (List.all_eq_true.mp h τ (List.mem_of_getElem? e2))
  subst hs
  exact ⟨v, .sh, e1, e2, rfl, RepS.mono (fun a o e n => ⟨by rw [e]; exact .same o, fun z => n (z.imp id fun z => absurd z (no a))⟩) _ _ q.2⟩
theorem pe_own {c : Str} {A : Addr} (hg : Gl X c) (hm : X.mg c = some (.ref A)) (hd : (c == ("__debug__" : Str)) = false) : PE X (.Name c p) (tC (.ref A)) :=
  ⟨fun pins s σ H Q I h => ld_glob I hg hm ⟨.ref A, H, I, rfl, h⟩ hd⟩
theorem ve_caught {c : Str} {cs : List Str} {params : Arguments} {e : Expr} (G : Gd X C T E Φ I) (hl : I.lam = true) (hc : c ∈ I.tab.leaf) (hcs : ∀ x ∈ cs, x ∈ I.tab.leaf) (h1 : glB I.sc "isinstance" = true) (h2 : ("isinstance" : Str) ∈ I.tab.abs) (h3 : glB I.sc "_law_caught" = true) (h4 : glB I.sc c = true) (h5 : dbgB c = true)
    (hL : LamX.lamSB I.sc scope = true) (hdef : defaultsOf params X.env = ([], [])) (hbind : ∀ (q : Str) (cl : List (Str × Addr)) (pm cv ctv : Value), bindArgs (PySem.W.kla_fn "<lambda>" q params e scope cl pm cv ctv) ⟨[], []⟩ = pure []) (hsh : allS Γ = true)
    (hbody : ∀ (X' : Cx) (E' : XK), Gd X' C T E' Φ (I.lamN scope) → PE X' e (tV C T E' Γ Γ .sh m)) :
    PE X (.Call (.Name "isinstance" p) [.Call (.Name "_law_caught" p2) [.Lambda params e scope lpos] [] p3, .Name c p4] [] pos) (tV C T E Γ Γ .sh (fun ρ => fun Q _ => m ρ (fun _ => Q (.bl false)) (fun x => x.cls ∈ cs ∧ Q (.bl (decide (x.cls = c)))))) := by
  obtain ⟨CS, F, hF⟩ := G.lam hl
  obtain ⟨Dc, mc, _, _, kN, _⟩ := hF c hc
  have L : LamX.LamS X.env.scope scope := by rw [G.sc]; exact LamX.lamS_by hL
  have hr : Room (3 * I.lv + 2) X.A := by have := G.room; unfold Nfo.rm at this; rw [hl] at this; exact this
  have ph := pe_handed (p := p2) (lpos := lpos) (pos := p3) (params := params) (body := e) (t := fun E' => tV C T E' Γ Γ .sh m) F (G.gl h3) rfl hr L hdef hbind fun A outer s H E' f c' hr' => hbody _ E' (G.lamc L A outer s H f c' hr')
  refine (pe_callB call_isV (G.gl h1) (G.abs _ h2) rfl (pa_cons ph (pa_cons (pe_own (p := p4) (G.gl h4) mc (dbg1 h5)) pa_nil (starEach_cons rfl)) (starEach_cons rfl)) (by decide) (by decide) (starEach_cons rfl) rfl).imp fun σ H Q ⟨O, Fs, ρ, Qd, Ed, r0, hm, x, k⟩ => ?_
  refine ⟨r0.tabs, fun H1 kp1 tb1 => ?_⟩
  have r1 := (r0.none hsh).grow kp1 tb1
  have no : ∀ a, ¬ Ownd (fun _ => []) a := fun a ⟨_, z⟩ => absurd z (by simp)
  refine ⟨O, fun _ => [], ρ, _, _, r1, hm, fun ex cls dx H' hEd kp tb exr => ?_, fun d v H' Fs' hd t r' q => ?_⟩
  · obtain ⟨D, m1, rfl, rfl⟩ := exr
    obtain ⟨hin, hq⟩ := hEd
    obtain ⟨D', m2, xm, xc, _, kA⟩ := hF ex.cls (hcs _ hin)
    have e1 : D = D' := by rw [G.hC, m2] at m1; cases m1; rfl
    subst e1
    obtain ⟨A, m3, kk⟩ := kA c hc
    have e3 : Dc = A := by rw [mc] at m3; cases m3; rfl
    subst e3
    refine ⟨xm, rfl, fun a na => ⟨.ref a, Dc, _, rfl, .inr ⟨a, D, rfl, upd_same, xc, kk⟩, ?_⟩⟩
    have kp2 : KpA H1 (upd H' a (ExV (.ref D) a)) := fun b o e => by
      have z := kp b o e (no b)
      by_cases hb : b = a
      · rw [hb, na] at z; cases z
      · rw [upd_ne hb]; exact z
    have tb2 : LamX.Tabs T (upd H' a (ExV (.ref D) a)) := tb.ext fun b o e => by rw [upd_ne (ne_of_none e na)]; exact e
    exact k _ _ _ (fun _ => []) hq ⟨kp1.trans kp2, fun b z => absurd z (by rintro (z | z); exact no b z; exact absurd z (by simp))⟩ (r1.grow kp2 tb2) (RepS.bl _)
  · refine ⟨.non, rfl, .non, Dc, false, rfl, .inl ⟨rfl, kN⟩, ?_⟩
    exact k _ _ H' (fun _ => []) hd ⟨kp1.trans t.kp, fun b z => absurd z (by rintro (z | z); exact no b z; exact absurd z (by simp))⟩ (r'.none hsh) (RepS.bl _)
end
end Wb

end
section
/-! Wb: the checker: isinstance(_law_caught(lambda: e), C). -/
namespace Wb
open PySem PySem.Spec PyProof.Rows L2
section
variable {C : Cn} {T : List (Addr × Str)} {Φ : Fen}
def capB (c : Str) (cs : List Str) (I : Nfo) (Γ : List Ow) (scope : Scope) : Bool :=
  I.lam && (decide (c ∈ I.tab.leaf) && (cs.all (fun x => decide (x ∈ I.tab.leaf)) && (glB I.sc "isinstance" && (decide (("isinstance" : Str) ∈ I.tab.abs) && (glB I.sc "_law_caught" && (glB I.sc c && (dbgB c && (LamX.lamSB I.sc scope && allS Γ))))))))
def ckCaught (c : Str) (cs : List Str) (f : Nfo → Fn) (I : Nfo) : Fn := fun Γ x => tOf x (match x with
  | .Call (.Name y1 _) [.Call (.Name y2 _) [.Lambda ⟨[], [], none, [], [], none, []⟩ body scope _] [] _, .Name y3 _] [] _ =>
    if (decide (y1 = "isinstance") && (decide (y2 = "_law_caught") && (decide (y3 = c) && capB c cs I Γ scope))) = true then (match shR (f (I.lamN scope) Γ body).1 with
      | some Γ2 => if Γ2 = Γ then some (false, .sh, Γ) else none
      | none => none) else none
  | _ => none)
theorem sn_caught {c : Str} {cs : List Str} {f : Nfo → Fn} {m : Env → M D} (h : Sn C T Φ f m) : Sn C T Φ (ckCaught c cs f) (fun ρ => fun Q _ => m ρ (fun _ => Q (.bl false)) (fun x => x.cls ∈ cs ∧ Q (.bl (decide (x.cls = c))))) := by
  intro I X E G Γ x
  refine ok_of G ?_
  split
  · rename_i y1 p1 y2 p2 body scope lp p3 y3 p4 p5
    split
    · rename_i hb
      rw [Bool.and_eq_true, Bool.and_eq_true, Bool.and_eq_true, decide_eq_true_eq, decide_eq_true_eq, decide_eq_true_eq] at hb
      obtain ⟨rfl, rfl, rfl, hb⟩ := hb
      unfold capB at hb
      simp only [Bool.and_eq_true, decide_eq_true_eq, List.all_eq_true] at hb
      obtain ⟨b1, b3, b4, b5, b6, b7, b8, b9, b10, b11⟩ := hb
      split
      · rename_i Γ2 e
        split
        · rename_i hΓ
          subst hΓ
          exact okV (ve_caught G b1 b3 b4 b5 b6 b7 b8 b9 b10 rfl (fun _ _ _ _ _ => rfl) b11 fun X' E' G' => (h _ X' E' G' _ body).sh e)
        · exact okN
      · exact okN
    · exact okN
  · exact okN
end
end Wb

end
section
/-! Wb: comprehensions of two clauses. -/
namespace Wb
open PySem PySem.Spec PyProof.Rows L2
section
variable {C : Cn} {T : List (Addr × Str)} {E : XK} {X : Cx} {Φ : Fen} {I : Nfo} {Γl Γ Γ1 Γ2 Γ3 Γ' : List Ow} {τr τ τ1 τ2 τ3 : Ow} {m m1 m2 m3 : Env → M D} {pos p p2 p3 : Pos}
/-- one turn of the outer clause: n items are made so far -/
def compG (t : Tg) (own own1 : List Nat) (ρ : Env) (mf : Env → M Bool) (mi1 : Env → M (List D)) (t1 : Tg) (mf1 : Env → M Bool) (me : Env → M D) (n : Nat) (d : D) : M (List D) :=
  .bind (asgT t d (wipeE ρ own)) fun ρ1 => .bind (mf ρ1) fun b => if b = true then .bind (mi1 ρ1) fun items1 => .need (n + items1.length ≤ sizeLine) (compL (compF t1 own1 ρ1 mf1 me) items1) else .ret []
theorem lc2_meet {t t1 : Tg} {ownp : List (Str × Nat)} {vs1 is is1 : List Nat} {mi mi1 : Env → M (List D)} {mf mf1 : Env → M Bool} (his : ∀ j ∈ is, j ∈ ownp.map (·.2)) (htg : ∀ j ∈ tgIx t, j ∈ ownp.map (·.2)) (his1 : ∀ j ∈ is1, j ∈ vs1) (htg1 : ∀ j ∈ tgIx t1, j ∈ vs1) (hv : ∀ j ∈ vs1, j ∈ ownp.map (·.2)) (hsh : ∀ j ∈ ownp.map (·.2), Γ1[j]? = some .sh) (nb : Γ1.all noBo = true) :
    ∀ σ H Q, tO C T E Γ Γ1 (.li .sh) (fun ρ => .bind (mi ρ) fun items => .bind (.nox (compL2 (compG t (ownp.map (·.2)) vs1 ρ mf mi1 t1 mf1 m) 0 items)) fun ys => .ret (.lst ys)) σ H Q →
      tLc2 (tI C T E false Γ Γ1 mi) (tG C T is Γ1 (asgT t)) (tT C T EF Γ1 Γ1 mf) (tI C T EF true Γ1 Γ1 mi1) (tG C T is1 Γ1 (asgT t1)) (tT C T EF Γ1 Γ1 mf1) (tV C T EF Γ1 Γ1 .sh m) (ownp.map (·.2)) vs1 σ H Q := fun σ H Q ⟨O, Fs, ρ, Qd, Ed, r, hm, xp, k⟩ => by
  generalize hvs : ownp.map (·.2) = vs at his htg hsh hm k hv ⊢
  refine ⟨O, Fs, ρ, _, Ed, r, hm, xp, fun ds H1 Fs1 J hd t1_ r1 hJ Dn hDn => ?_⟩
  obtain ⟨z, Gw, Y, w, st⟩ := hJ
  have hd' : compL2 (compG t vs vs1 ρ mf mi1 t1 mf1 m) 0 ds (fun ys => Qd (.lst ys)) (fun _ => False) := hd
  -- what is kept, whatever is made
  have svOf : ∀ {H' : Hp} {Fs' : Nat → List Addr}, KpA H1 H' → (∀ a, Ownd Fs' a → Ownd Fs1 a ∨ H1 a = none) → Sv H1 (Oall O Fs1) H' (Oall (plus O [Dn]) Fs') := fun kp fr => kp.sv fun a o e z => by
    rcases z with (z | z) | z
    · exact .inl z
    · have : a = Dn := by simpa using z
      subst this
      rw [hDn] at e; cases e
    · rcases fr a z with z | z
      · exact .inr z
      · rw [z] at e; cases e
  have low : ∀ {H' : Hp}, KpA H1 H' → ∀ a, H' a = none → H1 a = none := fun kp a e => by
    cases q : H1 a with
    | none => rfl
    | some o =>
      have z := kp a o q
      rw [e] at z; cases z
  refine ⟨fun i mm H' => mm = ds.length - i ∧ i ≤ ds.length ∧ ∃ Fs' acc ys, Rl C T (plus O [Dn]) Γ1 Fs' (L2.wipe σ vs) H' (wipeE ρ vs) ∧ KpA H1 H' ∧ (∀ a, Ownd Fs' a → Ownd Fs1 a ∨ H1 a = none) ∧ H' Dn = some (.lst acc) ∧ acc.length ≤ sizeLine ∧ RepSs C H' (Oall (plus O [Dn]) Fs') acc ys ∧
    compL2 (compG t vs vs1 ρ mf mi1 t1 mf1 m) ys.length (ds.drop i) (fun zs => Qd (.lst (ys ++ zs))) (fun _ => False), ⟨ds.length, by simp, Nat.zero_le _, Fs1, [], [], (r1.fresh (o := .lst []) hDn trivial).wipe vs, kpaS (same_upd hDn), fun a h => .inl h, upd_same, Nat.zero_le _, .nil, hd'⟩, ?_⟩
  rintro i _ H' ⟨rfl, hi, Fs', acc, ys, r', kp, fr, hD, hl, qa, hf⟩
  have hG := st (Oall (plus O [Dn]) Fs') H' (svOf kp fr) (fun _ => kp) r'.ok
  by_cases hlt : i < ds.length
  · refine .inr ⟨w.goes i H' hlt hG.1, fun H2 => i + 1 ≤ ds.length ∧ ∃ Fs' acc ys, Rl C T (plus O [Dn]) Γ1 Fs' (L2.wipe σ vs) H2 (wipeE ρ vs) ∧ KpA H1 H2 ∧ (∀ a, Ownd Fs' a → Ownd Fs1 a ∨ H1 a = none) ∧ H2 Dn = some (.lst acc) ∧ acc.length ≤ sizeLine ∧ RepSs C H2 (Oall (plus O [Dn]) Fs') acc ys ∧
      compL2 (compG t vs vs1 ρ mf mi1 t1 mf1 m) ys.length (ds.drop (i + 1)) (fun zs => Qd (.lst (ys ++ zs))) (fun _ => False), fun H2 h2 => ⟨ds.length - (i + 1), by omega, rfl, h2⟩, fun x H'' y => ?_⟩
    obtain ⟨s3, d, ed, rd⟩ := hG.2 i x H'' hlt (w.yields i H' x H'' hlt hG.1 y)
    have hdr : ds.drop i = d :: ds.drop (i + 1) := by
      rw [List.drop_eq_getElem_cons hlt]
      congr 1
      have := List.getElem?_eq_getElem hlt
      rw [ed] at this
      exact (Option.some.inj this).symm
    rw [hdr] at hf
    have hf' : asgT t d (wipeE ρ vs) (fun ρ1 => mf ρ1 (fun b => (if b = true then .bind (mi1 ρ1) fun items1 => .need (ys.length + items1.length ≤ sizeLine) (compL (compF t1 vs1 ρ1 mf1 m) items1) else .ret [] : M (List D)) (fun o => compL2 (compG t vs vs1 ρ mf mi1 t1 mf1 m) (ys.length + o.length) (ds.drop (i + 1)) (fun zs => Qd (.lst (ys ++ (o ++ zs)))) (fun _ => False)) (fun _ => False)) (fun _ => False)) (fun _ => False) := hf
    have kp3 : KpA H1 H'' := kp.trans (kpaS s3)
    have hD3 : H'' Dn = some (.lst acc) := s3 _ _ hD
    have r3 := r'.grow (kpaS s3) (r'.tabs.ext s3)
    refine ⟨plus O [Dn], Fs', wipeE ρ vs, d, _, _, r3, rd, asgT_off t d _ _ _ hf', fun ρ4 σ4 Fs4 hq4 n4 o4 l4 r4 => ?_⟩
    obtain ⟨hq4, o4', l4'⟩ := hq4
    have ew : L2.wipe σ4 vs = L2.wipe σ vs := (wipe_eq (fun j hj => o4 j fun z => hj (his j z)) l4).trans wipe_idem
    have ewE : wipeE ρ4 vs = wipeE ρ vs := (wipeE_eq (fun j hj => o4' j fun z => hj (htg j z)) l4').trans wipeE_idem
    refine ⟨ew, plus O [Dn], Fs4, ρ4, _, _, r4, hq4, Xp.false, fun b H5 Fs5 hb t5 r5 => ?_⟩
    have fr4 : ∀ a, Ownd Fs4 a → Ownd Fs1 a ∨ H1 a = none := fun a h => fr a (n4 a h)
    have fr5 : ∀ a, Ownd Fs5 a → Ownd Fs1 a ∨ H1 a = none := fun a h => by
      rcases t5.fr a (.inl h) with z | z
      · exact fr4 a z
      · exact .inr (low kp3 a z)
    have kp5 : KpA H1 H5 := kp3.trans t5.kp
    have hD5 : H5 Dn = some (.lst acc) := (t5.kp Dn _ hD3).lst
    have qa5 : RepSs C H5 (Oall (plus O [Dn]) Fs5) acc ys := by
      refine RepSs.mono (((kpaS s3).trans t5.kp).sv fun a o e z => ?_) _ _ qa
      rcases z with z | z
      · exact .inl z
      · rcases t5.fr a (.inl z) with z | z
        · exact .inr (n4 a z)
        · rw [s3 a o e] at z; cases z
    cases b with
    | false =>
      have hb' : compL2 (compG t vs vs1 ρ mf mi1 t1 mf1 m) (ys.length + 0) (ds.drop (i + 1)) (fun zs => Qd (.lst (ys ++ ([] ++ zs)))) (fun _ => False) := hb
      have r5' := r5.wipe vs
      rw [ew, ewE] at r5'
      exact ⟨by omega, Fs5, acc, ys, r5', kp5, fr5, hD5, hl, qa5, hb'⟩
    | true =>
      have hb' : mi1 ρ4 (fun items1 => (ys.length + items1.length ≤ sizeLine) ∧ compL (compF t1 vs1 ρ4 mf1 m) items1 (fun o => compL2 (compG t vs vs1 ρ mf mi1 t1 mf1 m) (ys.length + o.length) (ds.drop (i + 1)) (fun zs => Qd (.lst (ys ++ (o ++ zs)))) (fun _ => False)) (fun _ => False)) (fun _ => False) := hb
      refine ⟨plus O [Dn], Fs5, ρ4, _, _, r5, hb', Xp.false, fun ds1 H6 Fs6 J1 hd6 t6 r6 hJ1 => ?_⟩
      obtain ⟨z1, Gw1, Y1, w1, st1⟩ := hJ1
      obtain ⟨hsz, hd6⟩ := hd6
      have kp6 : KpA H1 H6 := kp5.trans t6.kp
      have fr6 : ∀ a, Ownd Fs6 a → Ownd Fs1 a ∨ H1 a = none := fun a h => by
        rcases t6.fr a (.inl h) with z | z
        · exact fr5 a z
        · exact .inr (low kp5 a z)
      have hD6 : H6 Dn = some (.lst acc) := (t6.kp Dn _ hD5).lst
      have qa6 : RepSs C H6 (Oall (plus O [Dn]) Fs6) acc ys := RepSs.mono (t6.kp.sv (own_mv t6)) _ _ qa5
      have lacc : acc.length = ys.length := qa6.length
      -- the inner clause: what is owned is Fs6's or new since H6
      have kpD1 : ∀ {H' : Hp}, (∀ a o, H6 a = some o → a ≠ Dn → Kp o (H' a)) → KpA H1 H' := fun kd a o e => by
        have na : a ≠ Dn := fun z => by rw [z, hDn] at e; cases e
        have q6 := kp6 a o e
        cases e6 : H6 a with
        | none => rw [e6] at q6; cases q6
        | some o6 =>
          rw [e6] at q6
          exact q6.trans fun u hu => by cases hu; exact kd a _ e6 na
      have svI : ∀ {H' : Hp} {Fs' : Nat → List Addr}, (∀ a o, H6 a = some o → a ≠ Dn → Kp o (H' a)) → (∀ a, Ownd Fs' a → Ownd Fs6 a ∨ H6 a = none) → Sv H6 (Oall (plus O [Dn]) Fs6) H' (Oall (plus O [Dn]) Fs') := fun kd fr a o e n => by
        have na : a ≠ Dn := fun z => n (.inl (.inr (by rw [z]; simp)))
        refine ⟨kd a o e na, fun z => ?_⟩
        rcases z with z | z
        · exact n (.inl z)
        · rcases fr a z with z | z
          · exact n (.inr z)
          · rw [z] at e; cases e
      refine ⟨fun j kk H' => kk = ds1.length - j ∧ j ≤ ds1.length ∧ ∃ Fs' acc ps, Rl C T (plus O [Dn]) Γ1 Fs' (L2.wipe σ4 vs1) H' (wipeE ρ4 vs1) ∧ (∀ a o, H6 a = some o → a ≠ Dn → Kp o (H' a)) ∧ (∀ a, Ownd Fs' a → Ownd Fs6 a ∨ H6 a = none) ∧ H' Dn = some (.lst acc) ∧ acc.length ≤ ys.length + j ∧ RepSs C H' (Oall (plus O [Dn]) Fs') acc (ys ++ ps) ∧
        compL (compF t1 vs1 ρ4 mf1 m) (ds1.drop j) (fun os => compL2 (compG t vs vs1 ρ mf mi1 t1 mf1 m) (ys.length + (ps ++ os).length) (ds.drop (i + 1)) (fun zs => Qd (.lst (ys ++ ((ps ++ os) ++ zs)))) (fun _ => False)) (fun _ => False),
        ⟨ds1.length, by simp, Nat.zero_le _, Fs6, acc, [], r6.wipe vs1, fun a o e _ => by rw [e]; exact .same o, fun a h => .inl h, hD6, by omega, by simpa using qa6, by simpa using hd6⟩, ?_⟩
      rintro j _ H' ⟨rfl, hj, Fs', acc', ps, r', kd', fr', hD', hl', qa', hf'⟩
      have hG1 := st1 (Oall (plus O [Dn]) Fs') H' (svI kd' fr') (fun z => nomatch z) r'.ok
      by_cases hjt : j < ds1.length
      · refine .inr ⟨w1.goes j H' hjt hG1.1, fun H2 => j + 1 ≤ ds1.length ∧ ∃ Fs' acc ps, Rl C T (plus O [Dn]) Γ1 Fs' (L2.wipe σ4 vs1) H2 (wipeE ρ4 vs1) ∧ (∀ a o, H6 a = some o → a ≠ Dn → Kp o (H2 a)) ∧ (∀ a, Ownd Fs' a → Ownd Fs6 a ∨ H6 a = none) ∧ H2 Dn = some (.lst acc) ∧ acc.length ≤ ys.length + (j + 1) ∧ RepSs C H2 (Oall (plus O [Dn]) Fs') acc (ys ++ ps) ∧
          compL (compF t1 vs1 ρ4 mf1 m) (ds1.drop (j + 1)) (fun os => compL2 (compG t vs vs1 ρ mf mi1 t1 mf1 m) (ys.length + (ps ++ os).length) (ds.drop (i + 1)) (fun zs => Qd (.lst (ys ++ ((ps ++ os) ++ zs)))) (fun _ => False)) (fun _ => False), fun H2 h2 => ⟨ds1.length - (j + 1), by omega, rfl, h2⟩, fun x1 H7 y1 => ?_⟩
        obtain ⟨s7, d1, ed1, rd1⟩ := hG1.2 j x1 H7 hjt (w1.yields j H' x1 H7 hjt hG1.1 y1)
        have hdr1 : ds1.drop j = d1 :: ds1.drop (j + 1) := by
          rw [List.drop_eq_getElem_cons hjt]
          congr 1
          have := List.getElem?_eq_getElem hjt
          rw [ed1] at this
          exact (Option.some.inj this).symm
        rw [hdr1] at hf'
        have hf2 : asgT t1 d1 (wipeE ρ4 vs1) (fun ρ1 => mf1 ρ1 (fun b => (if b = true then .bind (m ρ1) fun y => .ret (some y) else .ret none : M (Option D)) (fun o => compL (compF t1 vs1 ρ4 mf1 m) (ds1.drop (j + 1)) (fun os => compL2 (compG t vs vs1 ρ mf mi1 t1 mf1 m) (ys.length + (ps ++ (o.toList ++ os)).length) (ds.drop (i + 1)) (fun zs => Qd (.lst (ys ++ ((ps ++ (o.toList ++ os)) ++ zs)))) (fun _ => False)) (fun _ => False)) (fun _ => False)) (fun _ => False)) (fun _ => False) := hf'
        have kpOf : ∀ {Ha Hb : Hp}, (∀ a o, H6 a = some o → a ≠ Dn → Kp o (Ha a)) → KpA Ha Hb → ∀ a o, H6 a = some o → a ≠ Dn → Kp o (Hb a) := fun kd kab a o e na => by
          have q6 := kd a o e na
          rename_i Ha Hb
          cases e6 : Ha a with
          | none => rw [e6] at q6; cases q6
          | some o6 =>
            rw [e6] at q6
            exact q6.trans fun u hu => by cases hu; exact kab a _ e6
        have low6 : ∀ {Ha : Hp}, (∀ a o, H6 a = some o → a ≠ Dn → Kp o (Ha a)) → Ha Dn ≠ none → ∀ a, Ha a = none → H6 a = none := fun kd nD a e => by
          cases q : H6 a with
          | none => rfl
          | some o =>
            by_cases na : a = Dn
            · rw [na] at e; exact absurd e nD
            · have z := kd a o q na
              rw [e] at z; cases z
        have kd7 := kpOf kd' (kpaS s7)
        have hD7 : H7 Dn = some (.lst acc') := s7 _ _ hD'
        have r7' := r'.grow (kpaS s7) (r'.tabs.ext s7)
        refine ⟨plus O [Dn], Fs', wipeE ρ4 vs1, d1, _, _, r7', rd1, asgT_off t1 d1 _ _ _ hf2, fun ρ7 σ7 Fs7 hq7 n7 o7 l7 r7 => ?_⟩
        obtain ⟨hq7, o7', l7'⟩ := hq7
        have ew1 : L2.wipe σ7 vs1 = L2.wipe σ4 vs1 := (wipe_eq (fun q hq => o7 q fun z => hq (his1 q z)) l7).trans wipe_idem
        have ewE1 : wipeE ρ7 vs1 = wipeE ρ4 vs1 := (wipeE_eq (fun q hq => o7' q fun z => hq (htg1 q z)) l7').trans wipeE_idem
        refine ⟨ew1, plus O [Dn], Fs7, ρ7, _, _, r7, hq7, Xp.false, fun b H8 Fs8 hb8 t8 r8 => ?_⟩
        have fr7 : ∀ a, Ownd Fs7 a → Ownd Fs6 a ∨ H6 a = none := fun a h => fr' a (n7 a h)
        have fr8 : ∀ a, Ownd Fs8 a → Ownd Fs6 a ∨ H6 a = none := fun a h => by
          rcases t8.fr a (.inl h) with z | z
          · exact fr7 a z
          · exact .inr (low6 kd7 (by rw [hD7]; simp) a z)
        have kd8 := kpOf kd7 t8.kp
        have hD8 : H8 Dn = some (.lst acc') := (t8.kp Dn _ hD7).lst
        have qa8 : RepSs C H8 (Oall (plus O [Dn]) Fs8) acc' (ys ++ ps) := by
          refine RepSs.mono (((kpaS s7).trans t8.kp).sv fun a o e z => ?_) _ _ qa'
          rcases z with z | z
          · exact .inl z
          · rcases t8.fr a (.inl z) with z | z
            · exact .inr (n7 a z)
            · rw [s7 a o e] at z; cases z
        cases b with
        | false =>
          have hb' : compL (compF t1 vs1 ρ4 mf1 m) (ds1.drop (j + 1)) (fun os => compL2 (compG t vs vs1 ρ mf mi1 t1 mf1 m) (ys.length + (ps ++ ([] ++ os)).length) (ds.drop (i + 1)) (fun zs => Qd (.lst (ys ++ ((ps ++ ([] ++ os)) ++ zs)))) (fun _ => False)) (fun _ => False) := hb8
          have r8' := r8.wipe vs1
          rw [ew1, ewE1] at r8'
          exact ⟨hjt, Fs8, acc', ps, r8', kd8, fr8, hD8, by omega, qa8, hb'⟩
        | true =>
          have hb' : m ρ7 (fun y => compL (compF t1 vs1 ρ4 mf1 m) (ds1.drop (j + 1)) (fun os => compL2 (compG t vs vs1 ρ mf mi1 t1 mf1 m) (ys.length + (ps ++ ([y] ++ os)).length) (ds.drop (i + 1)) (fun zs => Qd (.lst (ys ++ ((ps ++ ([y] ++ os)) ++ zs)))) (fun _ => False)) (fun _ => False)) (fun _ => False) := hb8
          refine ⟨plus O [Dn], Fs8, ρ7, _, _, r8, hb', Xp.false, fun d9 v9 H9 Fs9 h9 t9 r9 q9 => ?_⟩
          have kd9 := kpOf kd8 t9.kp
          have hD9 : H9 Dn = some (.lst acc') := (t9.kp Dn _ hD8).lst
          refine ⟨acc', hD9, by omega, hjt, Fs9, acc' ++ [v9], ps ++ [d9], ?_, ?_, fun a h => ?_, upd_same, ?_, ?_, ?_⟩
          · have r9' := r9.wipe vs1
            rw [ew1, ewE1] at r9'
            exact r9'.other nb (.inr (by simp)) hD9 trivial trivial
          · intro a o e na
            rw [upd_ne na]
            exact kd9 a o e na
          · rcases t9.fr a (.inl h) with z | z
            · exact fr8 a z
            · exact .inr (low6 kd8 (by rw [hD8]; simp) a z)
          · rw [List.length_append, List.length_singleton]
            omega
          · have qa9 : RepSs C H9 (Oall (plus O [Dn]) Fs9) acc' (ys ++ ps) := RepSs.mono (t9.kp.sv (own_mv t9)) _ _ qa8
            have sv : Sv H9 (Oall (plus O [Dn]) Fs9) (upd H9 Dn (.lst (acc' ++ [v9]))) (Oall (plus O [Dn]) Fs9) := sv_upd (.inl (.inr (by simp)))
            rw [← List.append_assoc]
            exact (RepSs.mono sv _ _ qa9).snoc (RepS.mono sv _ _ q9)
          · simpa [List.append_assoc] using h9
      · have e : j = ds1.length := by omega
        subst e
        refine .inl ⟨w1.stops H' hG1.1, ?_⟩
        rw [List.drop_length] at hf'
        have hf2 : compL2 (compG t vs vs1 ρ mf mi1 t1 mf1 m) (ys.length + (ps ++ []).length) (ds.drop (i + 1)) (fun zs => Qd (.lst (ys ++ ((ps ++ []) ++ zs)))) (fun _ => False) := hf'
        have r2 := r'.wipe vs
        have ew2 : L2.wipe (L2.wipe σ4 vs1) vs = L2.wipe σ vs := (wipe_eq (fun q hq => wipe_out fun z => hq (hv q z)) (wipe_length _ _)).trans ew
        have ewE2 : wipeE (wipeE ρ4 vs1) vs = wipeE ρ vs := (wipeE_eq (fun q hq => wipeE_out fun z => hq (hv q z)) (wipeE_len _ _)).trans ewE
        rw [ew2, ewE2] at r2
        refine ⟨hlt, Fs', acc', ys ++ ps, r2, kpD1 kd', fun a h => ?_, hD', by omega, qa', ?_⟩
        · rcases fr' a h with z | z
          · exact fr6 a z
          · exact .inr (low kp6 a z)
        · rw [List.append_nil] at hf2
          rw [List.length_append]
          simpa [List.append_assoc] using hf2
  · have e : i = ds.length := by omega
    subst e
    refine .inl ⟨w.stops H' hG.1, ?_⟩
    rw [List.drop_length] at hf
    have hf' : Qd (.lst (ys ++ [])) := hf
    rw [List.append_nil] at hf'
    obtain ⟨r2, sub⟩ := r1.unwipe r' hsh (svOf kp fr)
    refine k (.lst ys) (.ref Dn) H' _ [Dn] hf' (t1_.trans ⟨kp, fun a h => ?_⟩) r2 ?_ (by simp) fun a ha z => ?_
    · rcases h with h | h
      · exact fr a (sub a h)
      · have : a = Dn := by simpa using h
        subst this
        exact .inr hDn
    · exact li_repT hD hl (RepSs.mono ((KpA.refl H').sv fun a o e z => z.imp id (sub a)) _ _ qa)
    · have : a = Dn := by simpa using ha
      subst this
      obtain ⟨o, e, _⟩ := r1.ok a (.inl z)
      rw [hDn] at e; cases e
theorem ve_comp2 {t t1 : Tg} {tg iter elt tg1 iter1 : Expr} {ifs ifs1 : List Expr} {scope : Scope} {ownp : List (Str × Nat)} {vs1 is is1 : List Nat} {mi mi1 : Env → M (List D)} {mf mf1 : Env → M Bool} (G : Gd X C T E Φ I) (hi : PI X tg iter (tI C T E false Γ Γ1 mi)) (ok : blkC I.N I.sc scope ownp = true)
    (his : ∀ j ∈ is, j ∈ ownp.map (·.2)) (htg : ∀ j ∈ tgIx t, j ∈ ownp.map (·.2)) (his1 : ∀ j ∈ is1, j ∈ vs1) (htg1 : ∀ j ∈ tgIx t1, j ∈ vs1) (hv : ∀ j ∈ vs1, j ∈ ownp.map (·.2)) (hsh : ∀ j ∈ ownp.map (·.2), Γ1[j]? = some .sh) (nb : Γ1.all noBo = true) (hs : nsetB iter = true) (hs1 : nsetB iter1 = true)
    (hblk : ∀ X' : Cx, Gd X' C T EF Φ (I.blk scope) → PG X' tg (tG C T is Γ1 (asgT t)) ∧ PTs X' ifs (tT C T EF Γ1 Γ1 mf) ∧ PI X' tg1 iter1 (tI C T EF true Γ1 Γ1 mi1) ∧ PG X' tg1 (tG C T is1 Γ1 (asgT t1)) ∧ PTs X' ifs1 (tT C T EF Γ1 Γ1 mf1) ∧ PE X' elt (tV C T EF Γ1 Γ1 .sh m)) :
    PE X (.ListComp elt [⟨tg, iter, ifs, 0⟩, ⟨tg1, iter1, ifs1, 0⟩] scope pos) (tO C T E Γ Γ1 (.li .sh) (fun ρ => .bind (mi ρ) fun items => .bind (.nox (compL2 (compG t (ownp.map (·.2)) vs1 ρ mf mi1 t1 mf1 m) 0 items)) fun ys => .ret (.lst ys))) := by
  have bo : BlkOk X.N X.env.scope scope ownp := by rw [G.hN, G.sc]; exact blkOk_by ok
  exact (pe_lc2 G.calm G.nd hi bo hv (fun s H Cc cl fp => (hblk _ (G.blk bo.kind s H Cc cl fp)).1) (fun s H Cc cl fp => (hblk _ (G.blk bo.kind s H Cc cl fp)).2.1) (fun s H Cc cl fp => (hblk _ (G.blk bo.kind s H Cc cl fp)).2.2.1) (fun s H Cc cl fp => (hblk _ (G.blk bo.kind s H Cc cl fp)).2.2.2.1)
    (fun s H Cc cl fp => (hblk _ (G.blk bo.kind s H Cc cl fp)).2.2.2.2.1) (fun s H Cc cl fp => (hblk _ (G.blk bo.kind s H Cc cl fp)).2.2.2.2.2) (folded_no hs) (fun env => folded_no hs1)).imp (lc2_meet his htg his1 htg1 hv hsh nb)
/-- x = [.. for .. for ..] on one line -/
theorem vs_setLc2 {i : Nat} {y : Str} {py spos : Pos} {t t1 : Tg} {tg iter elt tg1 iter1 : Expr} {ifs ifs1 : List Expr} {scope : Scope} {ownp : List (Str × Nat)} {vs1 is is1 : List Nat} {mi mi1 : Env → M (List D)} {mf mf1 : Env → M Bool} (G : Gd X C T E Φ I) (hN : I.N[i]? = some y) (hy : I.sc.names.lookup y = some .local) (hl : (py.line == pos.line) = true) (hany : (scope.names.any fun (n, k) => n == y && (k == .local || k == .cell)) = false) (hil : i < Γ1.length)
    (hi : PI X tg iter (tI C T E false Γ Γ1 mi)) (ok : blkC I.N I.sc scope ownp = true)
    (his : ∀ j ∈ is, j ∈ ownp.map (·.2)) (htg : ∀ j ∈ tgIx t, j ∈ ownp.map (·.2)) (his1 : ∀ j ∈ is1, j ∈ vs1) (htg1 : ∀ j ∈ tgIx t1, j ∈ vs1) (hv : ∀ j ∈ vs1, j ∈ ownp.map (·.2)) (hsh : ∀ j ∈ ownp.map (·.2), Γ1[j]? = some .sh) (nb : Γ1.all noBo = true) (hs : nsetB iter = true) (hs1 : nsetB iter1 = true)
    (hblk : ∀ X' : Cx, Gd X' C T EF Φ (I.blk scope) → PG X' tg (tG C T is Γ1 (asgT t)) ∧ PTs X' ifs (tT C T EF Γ1 Γ1 mf) ∧ PI X' tg1 iter1 (tI C T EF true Γ1 Γ1 mi1) ∧ PG X' tg1 (tG C T is1 Γ1 (asgT t1)) ∧ PTs X' ifs1 (tT C T EF Γ1 Γ1 mf1) ∧ PE X' elt (tV C T EF Γ1 Γ1 .sh m)) :
    PS X (.Assign [.Name y py] (.ListComp elt [⟨tg, iter, ifs, 0⟩, ⟨tg1, iter1, ifs1, 0⟩] scope pos) spos) (tS C T E τr Γl Γ (Γ1.set i (.li .sh)) (fun ρ => .bind (.bind (mi ρ) fun items => .bind (.nox (compL2 (compG t (ownp.map (·.2)) vs1 ρ mf mi1 t1 mf1 m) 0 items)) fun ys => .ret (.lst ys)) fun x => .ret (.nx, setE ρ i x))) := by
  have bo : BlkOk X.N X.env.scope scope ownp := by rw [G.hN, G.sc]; exact blkOk_by ok
  refine (ps_setLc2 (i := i) G.calm G.nd (by rw [G.hN]; exact hN) (by rw [G.sc]; exact hy) (sw_true (by rw [G.sc]; exact G.fun_) (by rw [G.sc]; exact hy) hl hany) hi bo hv (fun s H Cc cl fp => (hblk _ (G.blk bo.kind s H Cc cl fp)).1) (fun s H Cc cl fp => (hblk _ (G.blk bo.kind s H Cc cl fp)).2.1) (fun s H Cc cl fp => (hblk _ (G.blk bo.kind s H Cc cl fp)).2.2.1) (fun s H Cc cl fp => (hblk _ (G.blk bo.kind s H Cc cl fp)).2.2.2.1)
    (fun s H Cc cl fp => (hblk _ (G.blk bo.kind s H Cc cl fp)).2.2.2.2.1) (fun s H Cc cl fp => (hblk _ (G.blk bo.kind s H Cc cl fp)).2.2.2.2.2) (folded_no hs) (fun env => folded_no hs1)).imp fun D σ H ⟨O, Fs, ρ, Qd, Ed, r, hm, x, k1, k2, k3, k4⟩ => ?_
  refine lc2_meet his htg his1 htg1 hv hsh nb σ H _ ⟨O, Fs, ρ, _, Ed, r, hm, x, fun d v H1 Fs1 F hd t1 r1 q nd n => ?_⟩
  obtain ⟨t, r2⟩ := set_end (i := i) hil t1 r1 q nd n
  exact k1 _ _ H1 _ hd t r2
end
end Wb

end
section
/-! Wb: xs[::-1] of lists and tuples. -/
namespace Wb
open PySem PySem.Spec PyProof.Rows L2
section
variable {prog : Program} {w : World} {A : Around} {E : Value → Shared → Prop} {s : Shared}
theorem rev_adjust (n : Nat) : Builtin.Slice.sliceAdjust none none (-1) (n : Int) = ((n : Int) - 1, -1) := by
  unfold Builtin.Slice.sliceAdjust
  simp
theorem rev_places (n : Nat) : Builtin.Slice.slicePlaces ((n : Int) - 1) (-1) (-1) = n := by
  unfold Builtin.Slice.slicePlaces
  by_cases h : n = 0
  · subst h; decide
  · simp
    try omega
theorem fm_congr {α β : Type} {f g : α → Option β} : ∀ {l : List α}, (∀ x ∈ l, f x = g x) → l.filterMap f = l.filterMap g
  | [], _ => rfl
  | a :: l, h => by
    rw [List.filterMap_cons, List.filterMap_cons, h a List.mem_cons_self, fm_congr (l := l) fun x hx => h x (List.mem_cons_of_mem _ hx)]
theorem rev_pick (xs : Array Value) : ((List.range xs.size).filterMap fun (k : Nat) => xs[((xs.size : Int) - 1 + (k : Int) * (-1)).toNat]?).toArray = xs.toList.reverse.toArray := by
  congr 1
  have e : (List.range xs.size).filterMap (fun (k : Nat) => xs[((xs.size : Int) - 1 + (k : Int) * (-1)).toNat]?) = ((List.range xs.size).map fun k => xs.size - 1 - k).filterMap (xs[·]?) := by
    rw [List.filterMap_map]
    refine fm_congr fun k hk => ?_
    rw [List.mem_range] at hk
    show xs[((xs.size : Int) - 1 + (k : Int) * (-1)).toNat]? = xs[xs.size - 1 - k]?
    rw [show ((xs.size : Int) - 1 + (k : Int) * (-1)).toNat = xs.size - 1 - k by omega]
  rw [e, PySem.W.krv_range, ← PySem.W.krv_all xs, List.filterMap_reverse]
theorem applied_rev {sl : Addr} {vl vu vs : Value} {n : Nat} {Q : Int × Int × Nat → Shared → Prop} (hs : s.heap.IsSliceOf sl vl vu vs) (pl : IsPart vl none) (pu : IsPart vu none) (ps : IsPart vs (some (-1)))
    (h : Q ((n : Int) - 1, -1, n) s) : wpAny (model prog w) A (Builtin.Slice.sliceApplied (.ref sl) (pure (n : Int))) Q E s := by
  obtain ⟨os, hos, hcs, hds⟩ := id hs
  unfold Builtin.Slice.sliceApplied Builtin.Slice.sliceFields
  refine wpAny_bind (wpAny_bind (wpAny_field hos hds (x := vl) rfl (wpAny_bind (wpAny_field hos hds (x := vu) rfl (wpAny_bind (wpAny_field hos hds (x := vs) rfl (wpAny_pure ?_)))))))
  refine wpAny_bind (HT.slicePart_ ps ?_)
  show wpAny _ _ (if ((-1 : Int) == 0) = true then _ else _) _ _ s
  rw [if_neg (by decide)]
  refine wpAny_bind (HT.slicePart_ pl (wpAny_bind (HT.slicePart_ pu (wpAny_bind (wpAny_pure ?_)))))
  show wpAny _ _ (match Builtin.Slice.sliceAdjust none none (-1) (n : Int) with | (lo, hi) => pure (lo, (-1 : Int), Builtin.Slice.slicePlaces lo hi (-1))) _ _ s
  rw [rev_adjust n]
  show wpAny _ _ (pure ((n : Int) - 1, (-1 : Int), Builtin.Slice.slicePlaces ((n : Int) - 1) (-1) (-1))) _ _ s
  rw [rev_places]
  exact wpAny_pure h
theorem getItem_tup_rev {t sl : Addr} {items : Array Value} {vl vu vs : Value} {Q : Value → Shared → Prop} (ht : IsTup s.heap t items) (hs : s.heap.IsSliceOf sl vl vu vs) (pl : IsPart vl none) (pu : IsPart vu none) (ps : IsPart vs (some (-1)))
    (h : Q (.ref s.heap.objs.size) { s with heap := s.heap.push { cls := .type "tuple", data := .seq items.toList.reverse.toArray } })
    (hsz : items.size ≤ sizeLine) : wpAny (model prog w) A (getItem (.ref t) (.ref sl)) Q E s := by
  have htake : sizeOk (.seq items.toList.reverse.toArray) := by
    show items.toList.reverse.toArray.size ≤ sizeLine
    simpa using hsz
  obtain ⟨os, hos, hcs, hds⟩ := id hs
  have hTs : s.TypeIs (.ref sl) "slice" := ⟨os, hos, hcs⟩
  unfold getItem
  try with_reducible refine wpAny_holding ?_
  first | refine wpAny_bind (wpAny_pure ?_) | skip
  refine wpAny_bind (wpAny_sequenceKey ht.typeIs (by decide) ?_)
  refine wpAny_bind (wpAny_callSpecial?_slot (name := Str.ofString "__getitem__") ht.typeIs PyProof.Rows.slot_tuple_getitem
    (wpAny_call_entry PyProof.Rows.slot_tuple_getitem ht.typeIs entry_tuple_getitem ?_ (args_tuple_getitem _ _)))
  show wpAny _ _ (Builtin.Tuple.tupleItemsOf (.ref t) >>= _) _ _ s
  refine wpAny_bind (tupleItemsOf_ ht ?_)
  refine wpAny_bind (wpAny_typeOf hTs ?_)
  rw [if_pos (by decide)]
  refine wpAny_bind (applied_rev hs pl pu ps ?_)
  have hno : ¬ ((((items.size : Int) - 1) == 0 && (-1 : Int) == 1 && items.size == items.size) = true) := by
    intro q
    rw [Bool.and_eq_true, Bool.and_eq_true] at q
    exact absurd q.1.2 (by decide)
  show wpAny _ _ (if (((items.size : Int) - 1) == 0 && (-1 : Int) == 1 && items.size == items.size) = true then _ else _) _ _ s
  rw [if_neg hno, rev_pick]
  first
    | exact wpAny_bind (m := Builtin.Tuple.tupleExact _) (wpAny_newObj_type (wpAny_pure ⟨_, rfl, wpAny_pure h⟩) htake)
    | exact wpAny_bind (m := Builtin.Tuple.tupleExact _) (wpAny_newObj_type (wpAny_bind (wpAny_pure (wpAny_pure ⟨_, rfl, wpAny_pure h⟩))) htake)
    | exact wpAny_bind (wpAny_bind (m := Builtin.Tuple.tupleExact _) (wpAny_newObj_type (wpAny_pure (wpAny_pure ⟨_, rfl, wpAny_pure h⟩)) htake))
    | exact wpAny_bind (wpAny_bind (m := Builtin.Tuple.tupleExact _) (wpAny_newObj_type (wpAny_pure ⟨_, rfl, wpAny_pure h⟩) htake))
end
def tRevD (K : PySem.W.Frag) (te : TE) : TE := fun σ H Q => te σ H fun x H1 => ∃ a xs, x = .ref a ∧ ((SqL K H1 a xs ∧ ∀ p, H1 p = none → Q (.ref p) (upd H1 p (.lst xs.reverse))) ∨ (SqT K H1 a xs ∧ ∀ p, H1 p = none → Q (.ref p) (upd H1 p (.tup xs.reverse))))
theorem pe_revD {X : Cx} {e : Expr} {te : TE} {k : Nat} {p1 p2 p3 pos : Pos} (he : PE X e te) : PE X (.Subscript e (.Slice none none (some (.UnaryOp .USub (.Constant (.int 1) k p1) p2)) p3) pos) (tRevD X.K te) := by
  refine ⟨fun pins s σ H Q I h => ?_⟩
  refine Subscript_ (thn (he.run pins s σ H _ I h) fun v s1 ⟨x, H1, I1, r1, q1⟩ => ?_)
  obtain ⟨a, xs, ex, q⟩ := q1
  subst ex
  cases r1
  have hst : PO X (some (.UnaryOp .USub (.Constant (.int 1) k p1) p2)) (tPart (tUn (rU fun i => .int (-i)) (tC (.int 1)))) := po_some (pe_un un_neg pe_int)
  refine wpAny_Slice (thn (po_none.run pins s1 σ H1 (fun o H2 => o = none ∧ H2 = H1) I1 ⟨rfl, rfl⟩) fun vl s2 ⟨l, H2, I2, pl, el, e2⟩ => ?_)
  subst el e2
  refine thn (po_none.run pins s2 σ H2 (fun o H3 => o = none ∧ H3 = H2) I2 ⟨rfl, rfl⟩) fun vu s3 ⟨u, H3, I3, pu, eu, e3⟩ => ?_
  subst eu e3
  refine thn (hst.run pins s3 σ H3 (fun o H4 => o = some (-1) ∧ H4 = H3) I3 ⟨1, rfl, -1, rfl, rfl, rfl⟩) fun vs s4 ⟨o, H4, I4, ps, eo, e4⟩ => ?_
  subst eo e4
  have I5 : Inv X pins σ H4 { s4 with heap := s4.heap.push { cls := .type "slice", data := .fields #[vl, vu, vs] } } := I4.kept (t' := s4.toks) fun b ob q => Heap.get?_push_of_some _ q
  show wpAny (model X.prog X.w) X.A (subscriptTail e (.Slice none none (some (.UnaryOp .USub (.Constant (.int 1) k p1) p2)) p3) (.ref a) (.ref s4.heap.objs.size)) (EP X pins σ Q) X.xe { s4 with heap := s4.heap.push { cls := .type "slice", data := .fields #[vl, vu, vs] } }
  rcases q with ⟨hx, q⟩ | ⟨hx, q⟩
  · obtain ⟨its, r, ht, hz⟩ := I5.list hx
    have hlen := r.length
    refine tail_any (ops := [.ref a, .ref s4.heap.objs.size]) ht.isList.typeIs (PySem.slot_list_getitem.lookup) ?_ (by with_unfolding_all rfl)
    refine wpAny_getItem_list_slice ht.isList (Heap.IsSliceOf.new _ vl vu vs) pl pu ps (by decide) ?_ (by rw [List.size_toArray]; omega)
    rw [PySem.W.krv_pick]
    refine ⟨.ref _, _, I5.laid (t' := s4.toks) (o := .lst xs.reverse) (fun b ob q => Heap.get?_push_of_some _ q) (Nat.le_refl _) ?_, rfl, q _ (I5.hok.fresh (Nat.le_refl _))⟩
    exact ⟨by rw [List.length_reverse]; exact hz, _, 0, r.reverse, Heap.get?_push_size _ rfl⟩
  · obtain ⟨its, r, ht, hz⟩ := I5.tuple hx
    have hlen := r.length
    refine tail_any (ops := [.ref a, .ref s4.heap.objs.size]) ht.typeIs (PyProof.Rows.slot_tuple_getitem.lookup) ?_ (by with_unfolding_all rfl)
    refine getItem_tup_rev ht (Heap.IsSliceOf.new _ vl vu vs) pl pu ps ?_ (by rw [List.size_toArray]; omega)
    refine ⟨.ref _, _, I5.laid (t' := s4.toks) (o := .tup xs.reverse) (fun b ob q => Heap.get?_push_of_some _ q) (Nat.le_refl _) ?_, rfl, q _ (I5.hok.fresh (Nat.le_refl _))⟩
    exact ⟨by rw [List.length_reverse]; exact hz, _, r.reverse, IsTup.new _ _⟩
section
variable {C : Cn} {T : List (Addr × Str)} {E : XK} {X : Cx} {Φ : Fen} {I : Nfo} {Γ Γ1 : List Ow} {τ1 : Ow} {m1 : Env → M D}
theorem ve_rev {a : Expr} {k : Nat} {p1 p2 p3 pos : Pos} (hK : C.K = X.K) (ha : PE X a (tV C T E Γ Γ1 τ1 m1)) (f : flatO τ1 = true) :
    PE X (.Subscript a (.Slice none none (some (.UnaryOp .USub (.Constant (.int 1) k p1) p2)) p3) pos) (tO C T E Γ Γ1 .sh (fun ρ => .bind (m1 ρ) fun x => match x with
      | .lst xs => .ret (.lst xs.reverse)
      | .tup xs => .ret (.tup xs.reverse)
      | _ => .fail)) := by
  refine (pe_revD ha).imp fun σ H Q ⟨O, Fs, ρ, Qd, Ed, r0, hm, x, k⟩ => ?_
  refine ⟨O, Fs, ρ, _, Ed, r0, hm, x, fun d1 v1 H1 Fs1 h1 t1 r1 q1 => ?_⟩
  have S := sim_end r1 t1 k
  cases d1 <;> first | exact (h1 : False).elim | skip
  · obtain ⟨a', vs, rfl, ra, za, qa⟩ := q1.lst f
    exact ⟨a', vs, rfl, .inl ⟨.inl ra, S.lstS (Oall_ne r1) h1 (by rw [List.length_reverse]; exact za) qa.rev⟩⟩
  · obtain ⟨a', vs, rfl, na, ra, za, qa⟩ := q1.tup
    exact ⟨a', vs, rfl, .inr ⟨SqT.of ra, S.tup (Oall_ne r1) h1 (by rw [List.length_reverse]; exact za) qa.rev⟩⟩
def ckRev (fa : Nfo → Fn) (I : Nfo) : Fn := fun Γ x => tOf x (match x with
  | .Subscript a (.Slice none none (some (.UnaryOp .USub (.Constant (.int n) _ _) _)) _) _ => if decide (n = 1) = true then (match lendR (fa I Γ a).1 with
    | some (τ1, Γ1) => if flatO τ1 = true then some (true, .sh, Γ1) else none
    | none => none) else none
  | _ => none)
theorem sn_rev {fa : Nfo → Fn} {ma : Env → M D} (ha : Sn C T Φ fa ma) : Sn C T Φ (ckRev fa) (fun ρ => .bind (ma ρ) fun x => match x with
    | .lst xs => .ret (.lst xs.reverse)
    | .tup xs => .ret (.tup xs.reverse)
    | _ => .fail) := by
  intro I X E G Γ x
  refine ok_of G ?_
  split
  · split
    · rename_i hn
      rw [decide_eq_true_eq] at hn
      subst hn
      split
      · rename_i τ1 Γ1 h1
        split
        · rename_i hf
          exact okO (ve_rev G.hK ((ha I X E G Γ _).read h1) hf)
        · exact okN
      · exact okN
    · exact okN
  · exact okN
end
end Wb

end
section
/-! Wb: x in xs, x not in xs: plain values. -/
namespace Wb
open PySem PySem.Spec PyProof.Rows L2
def dV : D → V
  | .bl b => .bl b
  | .int i => .int i
  | .str x => .str x
  | _ => .non
section
variable {C : Cn} {T : List (Addr × Str)} {E : XK} {X : Cx} {Φ : Fen} {I : Nfo} {Γ Γ1 Γ2 : List Ow} {τ1 τ2 : Ow} {m1 m2 : Env → M D} {H : Hp} {O : Addr → Prop}
theorem RepS.flat {v : V} {d : D} (h : RepS C H O v d) (f : flatD d = true) : v = dV d ∧ flatV v = true := by
  cases d <;> first | (cases f; done) | (cases h; exact ⟨rfl, rfl⟩)
theorem RepSs.flatV : ∀ {vs : List V} {ds : List D}, RepSs C H O vs ds → ds.all flatD = true → vs = ds.map dV ∧ vs.all flatV = true
  | _, _, .nil, _ => ⟨rfl, rfl⟩
  | _, _, .cons (d := d) (ds := ds) r q, f => by
    rw [List.all_cons, Bool.and_eq_true] at f
    obtain ⟨e1, e2⟩ := r.flat f.1
    obtain ⟨e3, e4⟩ := RepSs.flatV q f.2
    exact ⟨by rw [e1, e3]; rfl, by rw [List.all_cons, e2, e4]; rfl⟩
theorem eqV_d {d e : D} (hd : flatD d = true) (he : flatD e = true) : eqV (dV e) (dV d) = eqv e d := by
  cases d <;> cases e <;> first | (cases hd; done) | (cases he; done) | rfl
theorem inV_d {d : D} {ds : List D} (hd : flatD d = true) (he : ds.all flatD = true) : inV (dV d) (ds.map dV) = anyEq d ds := by
  unfold inV anyEq
  rw [List.any_map]
  rw [List.all_eq_true] at he
  induction ds with
  | nil => rfl
  | cons a r ih =>
    rw [List.any_cons, List.any_cons, ih fun x hx => he x (List.mem_cons_of_mem _ hx)]
    show (eqV (dV a) (dV d) || _) = _
    rw [eqV_d hd (he a List.mem_cons_self)]
def isIn : Cm → Bool
  | .inn | .nin => true
  | _ => false
theorem semB_in (f : flatO τ2 = true) : Sem2B C (rIn C.K false) (cmpD .inn) .sh τ2 := by
  intro O H x y dx dy Qd Ed Q rx ry h s
  have rx' : RepS C H O x dx := rx
  cases dy with
  | lst ds =>
    obtain ⟨⟨h1, h2⟩, h3⟩ := (show (flatD dx = true ∧ ds.all flatD = true) ∧ Qd (anyEq dx ds) from h)
    obtain ⟨a', vs, rfl, ra, za, qa⟩ := ry.lst f
    obtain ⟨e1, e2⟩ := rx'.flat h1
    obtain ⟨e3, e4⟩ := RepSs.flatV qa h2
    refine ⟨a', vs, rfl, .inl (.inl ra), e2, e4, ?_⟩
    rw [e1, e3, inV_d h1 h2]
    exact s _ h3
  | tup ds =>
    obtain ⟨⟨h1, h2⟩, h3⟩ := (show (flatD dx = true ∧ ds.all flatD = true) ∧ Qd (anyEq dx ds) from h)
    obtain ⟨a', vs, rfl, na, ra, za, qa⟩ := ry.tup
    obtain ⟨e1, e2⟩ := rx'.flat h1
    obtain ⟨e3, e4⟩ := RepSs.flatV qa h2
    refine ⟨a', vs, rfl, .inr (SqT.of ra), e2, e4, ?_⟩
    rw [e1, e3, inV_d h1 h2]
    exact s _ h3
  | dct t kvs => exact (h : False).elim
  | _ => cases dx <;> exact (h : False).elim
theorem semB_nin (f : flatO τ2 = true) : Sem2B C (rIn C.K true) (cmpD .nin) .sh τ2 := by
  intro O H x y dx dy Qd Ed Q rx ry h s
  have rx' : RepS C H O x dx := rx
  cases dy with
  | lst ds =>
    obtain ⟨⟨h1, h2⟩, h3⟩ := (show (flatD dx = true ∧ ds.all flatD = true) ∧ Qd (!anyEq dx ds) from h)
    obtain ⟨a', vs, rfl, ra, za, qa⟩ := ry.lst f
    obtain ⟨e1, e2⟩ := rx'.flat h1
    obtain ⟨e3, e4⟩ := RepSs.flatV qa h2
    refine ⟨a', vs, rfl, .inl (.inl ra), e2, e4, ?_⟩
    rw [e1, e3, inV_d h1 h2]
    exact s _ h3
  | tup ds =>
    obtain ⟨⟨h1, h2⟩, h3⟩ := (show (flatD dx = true ∧ ds.all flatD = true) ∧ Qd (!anyEq dx ds) from h)
    obtain ⟨a', vs, rfl, na, ra, za, qa⟩ := ry.tup
    obtain ⟨e1, e2⟩ := rx'.flat h1
    obtain ⟨e3, e4⟩ := RepSs.flatV qa h2
    refine ⟨a', vs, rfl, .inr (SqT.of ra), e2, e4, ?_⟩
    rw [e1, e3, inV_d h1 h2]
    exact s _ h3
  | dct t kvs => exact (h : False).elim
  | _ => cases dx <;> exact (h : False).elim
def ckIn (c : Cm) (fa fb : Nfo → Fn) (I : Nfo) : Fn := fun Γ x => match x, c with
  | .Compare a [.In] [b] _, .inn => if nsetB b = true then (match shR (fa I Γ a).1 with
    | some Γ1 => (match lendR (fb I Γ1 b).1 with
      | some (τ2, Γ2) => if flatO τ2 = true then (some (false, .sh, Γ2), some Γ2) else no
      | none => no)
    | none => no) else no
  | .Compare a [.NotIn] [b] _, .nin => if nsetB b = true then (match shR (fa I Γ a).1 with
    | some Γ1 => (match lendR (fb I Γ1 b).1 with
      | some (τ2, Γ2) => if flatO τ2 = true then (some (false, .sh, Γ2), some Γ2) else no
      | none => no)
    | none => no) else no
  | _, _ => no
theorem sn_in {c : Cm} {fa fb : Nfo → Fn} {ma mb : Env → M D} (ha : Sn C T Φ fa ma) (hb : Sn C T Φ fb mb) : Sn C T Φ (ckIn c fa fb) (fun ρ => .bind (ma ρ) fun x => .bind (mb ρ) fun y => .bind (cmpD c x y) fun r => .ret (.bl r)) := by
  intro I X E G Γ x
  have hK := G.hK
  unfold ckIn
  split
  · split
    · rename_i hn
      split
      · rename_i Γ1 h1
        split
        · rename_i τ2 Γ2 h2
          split
          · rename_i hf
            have pa := (ha I X E G Γ _).sh h1
            have pb := (hb I X E G Γ1 _).read h2
            exact ⟨okV (ve_cmp op_in_seq pa pb (behind_no hn) (by rw [← hK]; exact semB_in hf)), fun Γ' e => by cases e; exact vt_cmp op_in_seq pa pb (behind_no hn) (by rw [← hK]; exact semB_in hf)⟩
          · exact ok_no
        · exact ok_no
      · exact ok_no
    · exact ok_no
  · split
    · rename_i hn
      split
      · rename_i Γ1 h1
        split
        · rename_i τ2 Γ2 h2
          split
          · rename_i hf
            have pa := (ha I X E G Γ _).sh h1
            have pb := (hb I X E G Γ1 _).read h2
            exact ⟨okV (ve_cmp op_notIn_seq pa pb (behind_no hn) (by rw [← hK]; exact semB_nin hf)), fun Γ' e => by cases e; exact vt_cmp op_notIn_seq pa pb (behind_no hn) (by rw [← hK]; exact semB_nin hf)⟩
          · exact ok_no
        · exact ok_no
      · exact ok_no
    · exact ok_no
  · exact ok_no
end
end Wb

end
section
/-! Wb: the checker of expressions: what is walked, comprehensions; all of it. -/
namespace Wb
open PySem PySem.Spec PyProof.Rows L2
/-! ### targets -/
mutual
def ckG : Tg → Nfo → List Ow → Expr → Bool
  | .nm i, I, Γ, .Name x _ => decide (I.N[i]? = some x) && (stB I x && decide (Γ[i]? = some .sh))
  | .tp ts, I, Γ, .Tuple es _ _ => ckGs ts I Γ es && es.all nstB
  | _, _, _, _ => false
def ckGs : Tgs → Nfo → List Ow → List Expr → Bool
  | .nil, _, _, [] => true
  | .cons t r, I, Γ, e :: es => ckG t I Γ e && (ckGs r I Γ es && nstB e)
  | _, _, _, _ => false
end
theorem ckGs_len : ∀ {ts : Tgs} {I : Nfo} {Γ : List Ow} {es : List Expr}, ckGs ts I Γ es = true → es.length = tgsLen ts
  | .nil, _, _, [], _ => rfl
  | .nil, _, _, _ :: _, h => by simp [ckGs] at h
  | .cons _ _, _, _, [], h => by simp [ckGs] at h
  | .cons t r, I, Γ, e :: es, h => by
    simp only [ckGs, Bool.and_eq_true] at h
    simp [tgsLen, ckGs_len h.2.1]
section
variable {C : Cn} {T : List (Addr × Str)} {Φ : Fen}
mutual
theorem ckG_ok : ∀ (t : Tg) {I : Nfo} {X : Cx} {E : XK} {Γ : List Ow} {x : Expr}, Gd X C T E Φ I → ckG t I Γ x = true → PG X x (tG C T (tgIx t) Γ (asgT t))
  | .nm i, I, X, E, Γ, x, G, h => by
    cases x <;> simp only [ckG, Bool.false_eq_true] at h
    rw [Bool.and_eq_true, Bool.and_eq_true, decide_eq_true_eq, decide_eq_true_eq] at h
    have := vg_nm (Γ := Γ) (p := by assumption) G h.1 h.2.1 h.2.2
    rw [tgIx]
    exact this
  | .tp ts, I, X, E, Γ, x, G, h => by
    cases x <;> simp only [ckG, Bool.false_eq_true] at h
    rw [Bool.and_eq_true] at h
    rw [tgIx]
    exact vg_tp G (ckGs_ok ts G h.1) h.2 fun ds ρ Q Ed hh => by rw [asgTs_length ts ds ρ Q Ed hh, ckGs_len h.1]
theorem ckGs_ok : ∀ (ts : Tgs) {I : Nfo} {X : Cx} {E : XK} {Γ : List Ow} {es : List Expr}, Gd X C T E Φ I → ckGs ts I Γ es = true → PGs X es (tGs C T (tgsIx ts) Γ (asgTs ts))
  | .nil, I, X, E, Γ, es, G, h => by
    cases es with
    | nil => rw [tgsIx]; exact vgs_nil
    | cons e es => simp [ckGs] at h
  | .cons t r, I, X, E, Γ, es, G, h => by
    cases es with
    | nil => simp [ckGs] at h
    | cons e es =>
      simp only [ckGs, Bool.and_eq_true] at h
      rw [tgsIx]
      exact vgs_cons (ckG_ok t G h.1) (ckGs_ok r G h.2.1) h.2.2
end
/-! ### what is walked -/
abbrev IFn : Type := List Ow → Expr → Expr → Option (Bool × List Ow)
def SnI (C : Cn) (T : List (Addr × Str)) (Φ : Fen) (f : Nfo → IFn) (m : Env → M (List D)) : Prop := ∀ (I : Nfo) (X : Cx) (E : XK), Gd X C T E Φ I → ∀ Γ tg x b Γ', f I Γ tg x = some (b, Γ') → PI X tg x (tI C T E b Γ Γ' m)
def ckSeq (fa : Nfo → Fn) (I : Nfo) : IFn := fun Γ _ x => match lendR (fa I Γ x).1 with
  | some (.sh, Γ1) => some (true, Γ1)
  | some (τ, Γ1) => if flatO τ = true then some (false, Γ1) else none
  | none => none
theorem sn_seq {fa : Nfo → Fn} {ma : Env → M D} (ha : Sn C T Φ fa ma) : SnI C T Φ (ckSeq fa) (fun ρ => .bind (ma ρ) seqD) := by
  intro I X E G Γ tg x b Γ' h
  unfold ckSeq at h
  split at h
  · rename_i h1
    cases h
    exact vi_seq G.hK ((ha I X E G Γ x).read h1)
  · rename_i h1
    split at h
    · rename_i hf
      cases h
      exact vi_seqB G.hK ((ha I X E G Γ x).read h1) hf
    · cases h
  · cases h
def ckScr (fa : Nfo → Fn) (I : Nfo) : IFn := fun Γ _ x => (shR (fa I Γ x).1).map fun Γ1 => (true, Γ1)
theorem sn_scr {fa : Nfo → Fn} {ma : Env → M D} (ha : Sn C T Φ fa ma) : SnI C T Φ (ckScr fa) (fun ρ => .bind (ma ρ) fun x => match x with
    | .scr ns => .ret (ns.map .int)
    | _ => .fail) := by
  intro I X E G Γ tg x b Γ' h
  unfold ckScr at h
  rw [Option.map_eq_some_iff] at h
  obtain ⟨Γ1, e1, e2⟩ := h
  cases e2
  exact vi_scr G.hK ((ha I X E G Γ x).sh e1)
def rgB (I : Nfo) (y : Str) (n : Str) : Bool := decide (y = n) && (glB I.sc n && decide (n ∈ I.tab.abs))
def ckRng1 (fa : Nfo → Fn) (I : Nfo) : IFn := fun Γ _ x => match x with
  | .Call (.Name y _) [a] [] _ => (match lendR (fa I Γ a).1 with
    | some (_, Γ1) => if (rgB I y "range" && nstB a) = true then some (true, Γ1) else none
    | none => none)
  | _ => none
theorem rgB_is {I : Nfo} {y n : Str} (h : rgB I y n = true) : y = n ∧ glB I.sc n = true ∧ n ∈ I.tab.abs := by
  unfold rgB at h
  rw [Bool.and_eq_true, Bool.and_eq_true, decide_eq_true_eq, decide_eq_true_eq] at h
  exact h
theorem sn_rng1 {fa : Nfo → Fn} {ma : Env → M D} (ha : Sn C T Φ fa ma) : SnI C T Φ (ckRng1 fa) (fun ρ => .bind (ma ρ) fun x => match x with
    | .int j => .need (small62 j ∧ j.toNat ≤ sizeLine) (.ret (rngD 0 j.toNat 1))
    | _ => .fail) := by
  intro I X E G Γ tg x b Γ' h
  unfold ckRng1 at h
  split at h
  · split at h
    · rename_i h1
      split at h
      · rename_i hb
        rw [Bool.and_eq_true] at hb
        obtain ⟨rfl, g1, g2⟩ := rgB_is hb.1
        cases h
        exact vi_rng1 (G.gl g1) (G.abs _ g2) ((ha I X E G Γ _).read h1) hb.2
      · cases h
    · cases h
  · cases h
def ckRng2 (fa fb : Nfo → Fn) (I : Nfo) : IFn := fun Γ _ x => match x with
  | .Call (.Name y _) [a, b] [] _ => (match lendR (fa I Γ a).1 with
    | some (_, Γ1) => (match lendR (fb I Γ1 b).1 with
      | some (_, Γ2) => if (rgB I y "range" && (nstB a && nstB b)) = true then some (true, Γ2) else none
      | none => none)
    | none => none)
  | _ => none
theorem sn_rng2 {fa fb : Nfo → Fn} {ma mb : Env → M D} (ha : Sn C T Φ fa ma) (hb : Sn C T Φ fb mb) : SnI C T Φ (ckRng2 fa fb) (fun ρ => .bind (ma ρ) fun x => .bind (mb ρ) fun y => match x, y with
    | .int i, .int j => .need (small62 i ∧ small62 j ∧ (j - i).toNat ≤ sizeLine) (.ret (rngD i (j - i).toNat 1))
    | _, _ => .fail) := by
  intro I X E G Γ tg x b Γ' h
  unfold ckRng2 at h
  split at h
  · split at h
    · rename_i h1
      split at h
      · rename_i h2
        split at h
        · rename_i hc
          rw [Bool.and_eq_true, Bool.and_eq_true] at hc
          obtain ⟨rfl, g1, g2⟩ := rgB_is hc.1
          cases h
          exact vi_rng2 (G.gl g1) (G.abs _ g2) ((ha I X E G Γ _).read h1) ((hb I X E G _ _).read h2) hc.2.1 hc.2.2
        · cases h
      · cases h
    · cases h
  · cases h
/-- a written int -/
def intE : Expr → Option Int
  | .Constant (.int n) _ _ => some n
  | .UnaryOp .USub (.Constant (.int n) _ _) _ => some (-n)
  | _ => none
theorem intE_is {X : Cx} {E : XK} {Γ : List Ow} {e : Expr} {n : Int} (h : intE e = some n) : PE X e (tV C T E Γ Γ .sh (fun _ => .ret (.int n))) := by
  unfold intE at h
  split at h
  · cases h; exact ve_int
  · cases h; exact ve_neg (ve_int (Γ := Γ))
  · cases h
def ckRng3 (fa fb : Nfo → Fn) (c : Int) (I : Nfo) : IFn := fun Γ _ x => match x with
  | .Call (.Name y _) [a, b, d] [] _ => (match lendR (fa I Γ a).1 with
    | some (_, Γ1) => (match lendR (fb I Γ1 b).1 with
      | some (_, Γ2) => if (rgB I y "range" && (nstB a && (nstB b && (nstB d && decide (intE d = some c))))) = true then some (true, Γ2) else none
      | none => none)
    | none => none)
  | _ => none
theorem sn_rng3 {fa fb : Nfo → Fn} {ma mb : Env → M D} {c : Int} (ha : Sn C T Φ fa ma) (hb : Sn C T Φ fb mb) : SnI C T Φ (ckRng3 fa fb c) (fun ρ => .bind (ma ρ) fun x => .bind (mb ρ) fun y => match x, y with
    | .int i, .int j => .need (RgC i j c (rngN i j c) ∧ rngN i j c ≤ sizeLine) (.ret (rngD i (rngN i j c) c))
    | _, _ => .fail) := by
  intro I X E G Γ tg x b Γ' h
  unfold ckRng3 at h
  split at h
  · split at h
    · rename_i h1
      split at h
      · rename_i h2
        split at h
        · rename_i hc
          rw [Bool.and_eq_true, Bool.and_eq_true, Bool.and_eq_true, Bool.and_eq_true, decide_eq_true_eq] at hc
          obtain ⟨hr, n1, n2, n3, hi⟩ := hc
          obtain ⟨rfl, g1, g2⟩ := rgB_is hr
          cases h
          exact vi_rng3 (G.gl g1) (G.abs _ g2) ((ha I X E G Γ _).read h1) ((hb I X E G _ _).read h2) (intE_is hi) n1 n2 n3
        · cases h
      · cases h
    · cases h
  · cases h
def isTp : Expr → Bool
  | .Tuple .. => true
  | _ => false
def ckEnum (fa : Nfo → Fn) (I : Nfo) : IFn := fun Γ tg x => match tg, x with
  | .Tuple _ _ _, .Call (.Name y _) [a] [] _ => (match shR (fa I Γ a).1 with
    | some Γ1 => if (rgB I y "enumerate" && nstB a) = true then some (true, Γ1) else none
    | none => none)
  | _, _ => none
theorem sn_enum {fa : Nfo → Fn} {ma : Env → M D} (ha : Sn C T Φ fa ma) : SnI C T Φ (ckEnum fa) (fun ρ => .bind (ma ρ) fun x => .bind (seqD x) fun xs => .ret (enumD 0 xs)) := by
  intro I X E G Γ tg x b Γ' h
  unfold ckEnum at h
  split at h
  · split at h
    · rename_i h1
      split at h
      · rename_i hb
        rw [Bool.and_eq_true] at hb
        obtain ⟨rfl, g1, g2⟩ := rgB_is hb.1
        cases h
        exact vi_enum (tg := .Tuple [] 0 default) G.hK (G.gl g1) (G.abs _ g2) ((ha I X E G Γ _).sh h1) hb.2
      · cases h
    · cases h
  · cases h
def ckZip (fa fb : Nfo → Fn) (I : Nfo) : IFn := fun Γ tg x => match tg, x with
  | .Tuple _ _ _, .Call (.Name y _) [a, b] [] _ => (match shR (fa I Γ a).1 with
    | some Γ1 => (match shR (fb I Γ1 b).1 with
      | some Γ2 => if (rgB I y "zip" && (nstB a && nstB b)) = true then some (true, Γ2) else none
      | none => none)
    | none => none)
  | _, _ => none
theorem sn_zip {fa fb : Nfo → Fn} {ma mb : Env → M D} (ha : Sn C T Φ fa ma) (hb : Sn C T Φ fb mb) : SnI C T Φ (ckZip fa fb) (fun ρ => .bind (ma ρ) fun x => .bind (mb ρ) fun y => match x, y with
    | .lst xs, .lst ys => .ret (zipD xs ys)
    | .tup xs, .tup ys => .ret (zipD xs ys)
    | _, _ => .fail) := by
  intro I X E G Γ tg x b Γ' h
  unfold ckZip at h
  split at h
  · split at h
    · rename_i h1
      split at h
      · rename_i h2
        split at h
        · rename_i hc
          rw [Bool.and_eq_true, Bool.and_eq_true] at hc
          obtain ⟨rfl, g1, g2⟩ := rgB_is hc.1
          cases h
          exact ve_zip (tg := .Tuple [] 0 default) G.hK (G.gl g1) (G.abs _ g2) ((ha I X E G Γ _).sh h1) ((hb I X E G _ _).sh h2) hc.2.1 hc.2.2
        · cases h
      · cases h
    · cases h
  · cases h
/-! ### comprehensions -/
def SnF (C : Cn) (T : List (Addr × Str)) (Φ : Fen) (f : Nfo → AFn) (m : Env → M Bool) : Prop := ∀ (I : Nfo) (X : Cx) (E : XK), Gd X C T E Φ I → ∀ Γ es Γ', f I Γ es = some Γ' → PTs X es (tT C T E Γ Γ' m)
theorem sn_fnil : SnF C T Φ ckANil (fun _ => .ret true) := by
  intro I X E G Γ es Γ' h
  unfold ckANil at h
  split at h
  · cases h; exact vf_nil
  · cases h
def ckF1 (fa : Nfo → Fn) (I : Nfo) : AFn := fun Γ es => match es with
  | [x] => (fa I Γ x).2
  | _ => none
theorem sn_f1 {fa : Nfo → Fn} {ma : Env → M D} (ha : Sn C T Φ fa ma) : SnF C T Φ (ckF1 fa) (fun ρ => .bind (ma ρ) truthD) := by
  intro I X E G Γ es Γ' h
  unfold ckF1 at h
  split at h
  · exact vf_one ((ha I X E G Γ _).t Γ' h)
  · cases h
def ownP (I : Nfo) (own : List Nat) : List (Str × Nat) := own.map fun i => ((I.N[i]?).getD "", i)
theorem ownP_snd (I : Nfo) (own : List Nat) : (ownP I own).map (·.2) = own := by
  unfold ownP
  rw [List.map_map]
  exact List.map_id own
/-- the conditions of a comprehension -/
def compC (own : List Nat) (t : Tg) (ff : Nfo → AFn) (fe : Nfo → Fn) (I : Nfo) (Γ1 : List Ow) (elt tg iter : Expr) (ifs : List Expr) (scope : Scope) : Bool :=
  blkC I.N I.sc scope (ownP I own) && ((tgIx t).all (fun j => decide (j ∈ own)) && (own.all (fun j => decide (Γ1[j]? = some .sh)) && (Γ1.all noBo && (nsetB iter && (ckG t (I.blk scope) Γ1 tg && (decide (ff (I.blk scope) Γ1 ifs = some Γ1) && decide (shR (fe (I.blk scope) Γ1 elt).1 = some Γ1)))))))
theorem compC_is {own : List Nat} {t : Tg} {ff : Nfo → AFn} {fe : Nfo → Fn} {I : Nfo} {Γ1 : List Ow} {elt tg iter : Expr} {ifs : List Expr} {scope : Scope} {mf : Env → M Bool} {me : Env → M D} (hf : SnF C T Φ ff mf) (he : Sn C T Φ fe me) (h : compC own t ff fe I Γ1 elt tg iter ifs scope = true) :
    blkC I.N I.sc scope (ownP I own) = true ∧ (∀ j ∈ tgIx t, j ∈ (ownP I own).map (·.2)) ∧ (∀ j ∈ (ownP I own).map (·.2), Γ1[j]? = some .sh) ∧ Γ1.all noBo = true ∧ nsetB iter = true ∧
      ∀ X' : Cx, Gd X' C T EF Φ (I.blk scope) → PG X' tg (tG C T (tgIx t) Γ1 (asgT t)) ∧ PTs X' ifs (tT C T EF Γ1 Γ1 mf) ∧ PE X' elt (tV C T EF Γ1 Γ1 .sh me) := by
  unfold compC at h
  simp only [Bool.and_eq_true, List.all_eq_true, decide_eq_true_eq] at h
  obtain ⟨h1, h2, h3, h4, h5, h6, h7, h8⟩ := h
  rw [ownP_snd]
  exact ⟨h1, h2, h3, List.all_eq_true.mpr h4, h5, fun X' G => ⟨ckG_ok t G h6, hf _ X' EF G Γ1 ifs Γ1 h7, (he _ X' EF G Γ1 elt).sh h8⟩⟩
def ckComp (own : List Nat) (t : Tg) (fi : Nfo → IFn) (ff : Nfo → AFn) (fe : Nfo → Fn) (I : Nfo) : Fn := fun Γ x => tOf x (match x with
  | .ListComp elt [⟨tg, iter, ifs, 0⟩] scope _ => (match fi I Γ tg iter with
    | some (_, Γ1) => if compC own t ff fe I Γ1 elt tg iter ifs scope = true then some (true, .li .sh, Γ1) else none
    | none => none)
  | _ => none)
theorem SnI.weak {f : Nfo → IFn} {m : Env → M (List D)} (h : SnI C T Φ f m) {I : Nfo} {X : Cx} {E : XK} (G : Gd X C T E Φ I) {Γ : List Ow} {tg x : Expr} {b : Bool} {Γ' : List Ow} (e : f I Γ tg x = some (b, Γ')) : PI X tg x (tI C T E false Γ Γ' m) := by
  have := h I X E G Γ tg x b Γ' e
  cases b with
  | true => exact vi_weak this
  | false => exact this
theorem sn_comp {own : List Nat} {t : Tg} {fi : Nfo → IFn} {ff : Nfo → AFn} {fe : Nfo → Fn} {mi : Env → M (List D)} {mf : Env → M Bool} {me : Env → M D} (hi : SnI C T Φ fi mi) (hf : SnF C T Φ ff mf) (he : Sn C T Φ fe me) :
    Sn C T Φ (ckComp own t fi ff fe) (fun ρ => .bind (mi ρ) fun items => .bind (.nox (compL (compF t own ρ mf me) items)) fun ys => .ret (.lst ys)) := by
  intro I X E G Γ x
  refine ok_of G ?_
  split
  · split
    · rename_i hfi
      split
      · rename_i hc
        obtain ⟨h1, h2, h3, h4, h5, h6⟩ := compC_is hf he hc
        have := ve_comp (t := t) (is := tgIx t) (ownp := ownP I own) (pos := by assumption) G (hi.weak G hfi) h1 h2 h2 h3 h4 h5 h6
        rw [ownP_snd] at this
        exact okO this
      · exact okN
    · exact okN
  · exact okN
/-- the conditions of a comprehension of two clauses -/
def compC2 (own own1 : List Nat) (t : Tg) (ff : Nfo → AFn) (t1 : Tg) (fi1 : Nfo → IFn) (ff1 : Nfo → AFn) (fe : Nfo → Fn) (I : Nfo) (Γ1 : List Ow) (elt tg iter : Expr) (ifs : List Expr) (tg1 iter1 : Expr) (ifs1 : List Expr) (scope : Scope) : Bool :=
  blkC I.N I.sc scope (ownP I own) && ((tgIx t).all (fun j => decide (j ∈ own)) && ((tgIx t1).all (fun j => decide (j ∈ own1)) && (own1.all (fun j => decide (j ∈ own)) && (own.all (fun j => decide (Γ1[j]? = some .sh)) && (Γ1.all noBo && (nsetB iter && (nsetB iter1 && (ckG t (I.blk scope) Γ1 tg && (decide (ff (I.blk scope) Γ1 ifs = some Γ1) &&
    (decide (fi1 (I.blk scope) Γ1 tg1 iter1 = some (true, Γ1)) && (ckG t1 (I.blk scope) Γ1 tg1 && (decide (ff1 (I.blk scope) Γ1 ifs1 = some Γ1) && decide (shR (fe (I.blk scope) Γ1 elt).1 = some Γ1)))))))))))))
theorem compC2_is {own own1 : List Nat} {t t1 : Tg} {ff ff1 : Nfo → AFn} {fi1 : Nfo → IFn} {fe : Nfo → Fn} {I : Nfo} {Γ1 : List Ow} {elt tg iter tg1 iter1 : Expr} {ifs ifs1 : List Expr} {scope : Scope} {mf mf1 : Env → M Bool} {mi1 : Env → M (List D)} {me : Env → M D} (hf : SnF C T Φ ff mf) (hi1 : SnI C T Φ fi1 mi1) (hf1 : SnF C T Φ ff1 mf1) (he : Sn C T Φ fe me)
    (h : compC2 own own1 t ff t1 fi1 ff1 fe I Γ1 elt tg iter ifs tg1 iter1 ifs1 scope = true) :
    blkC I.N I.sc scope (ownP I own) = true ∧ (∀ j ∈ tgIx t, j ∈ (ownP I own).map (·.2)) ∧ (∀ j ∈ tgIx t1, j ∈ own1) ∧ (∀ j ∈ own1, j ∈ (ownP I own).map (·.2)) ∧ (∀ j ∈ (ownP I own).map (·.2), Γ1[j]? = some .sh) ∧ Γ1.all noBo = true ∧ nsetB iter = true ∧ nsetB iter1 = true ∧
      ∀ X' : Cx, Gd X' C T EF Φ (I.blk scope) → PG X' tg (tG C T (tgIx t) Γ1 (asgT t)) ∧ PTs X' ifs (tT C T EF Γ1 Γ1 mf) ∧ PI X' tg1 iter1 (tI C T EF true Γ1 Γ1 mi1) ∧ PG X' tg1 (tG C T (tgIx t1) Γ1 (asgT t1)) ∧ PTs X' ifs1 (tT C T EF Γ1 Γ1 mf1) ∧ PE X' elt (tV C T EF Γ1 Γ1 .sh me) := by
  unfold compC2 at h
  simp only [Bool.and_eq_true, List.all_eq_true, decide_eq_true_eq] at h
  obtain ⟨h1, h2, h2', h2'', h3, h4, h5, h5', h6, h7, h7', h8, h9, h10⟩ := h
  rw [ownP_snd]
  exact ⟨h1, h2, h2', h2'', h3, List.all_eq_true.mpr h4, h5, h5', fun X' G => ⟨ckG_ok t G h6, hf _ X' EF G Γ1 ifs Γ1 h7, hi1 _ X' EF G Γ1 tg1 iter1 true Γ1 h7', ckG_ok t1 G h8, hf1 _ X' EF G Γ1 ifs1 Γ1 h9, (he _ X' EF G Γ1 elt).sh h10⟩⟩
def ckComp2 (own own1 : List Nat) (t : Tg) (fi : Nfo → IFn) (ff : Nfo → AFn) (t1 : Tg) (fi1 : Nfo → IFn) (ff1 : Nfo → AFn) (fe : Nfo → Fn) (I : Nfo) : Fn := fun Γ x => tOf x (match x with
  | .ListComp elt [⟨tg, iter, ifs, 0⟩, ⟨tg1, iter1, ifs1, 0⟩] scope _ => (match fi I Γ tg iter with
    | some (_, Γ1) => if compC2 own own1 t ff t1 fi1 ff1 fe I Γ1 elt tg iter ifs tg1 iter1 ifs1 scope = true then some (true, .li .sh, Γ1) else none
    | none => none)
  | _ => none)
theorem sn_comp2 {own own1 : List Nat} {t t1 : Tg} {fi fi1 : Nfo → IFn} {ff ff1 : Nfo → AFn} {fe : Nfo → Fn} {mi mi1 : Env → M (List D)} {mf mf1 : Env → M Bool} {me : Env → M D} (hi : SnI C T Φ fi mi) (hf : SnF C T Φ ff mf) (hi1 : SnI C T Φ fi1 mi1) (hf1 : SnF C T Φ ff1 mf1) (he : Sn C T Φ fe me) :
    Sn C T Φ (ckComp2 own own1 t fi ff t1 fi1 ff1 fe) (fun ρ => .bind (mi ρ) fun items => .bind (.nox (compL2 (compG t own own1 ρ mf mi1 t1 mf1 me) 0 items)) fun ys => .ret (.lst ys)) := by
  intro I X E G Γ x
  refine ok_of G ?_
  split
  · split
    · rename_i hfi
      split
      · rename_i hc
        obtain ⟨h1, h2, h2', h3, h4, h5, h6, h7, h8⟩ := compC2_is hf hi1 hf1 he hc
        have := ve_comp2 (t := t) (t1 := t1) (is := tgIx t) (is1 := tgIx t1) (ownp := ownP I own) (pos := by assumption) G (hi.weak G hfi) h1 h2 h2 h2' h2' h3 h4 h5 h6 h7 h8
        rw [ownP_snd] at this
        exact okO this
      · exact okN
    · exact okN
  · exact okN
/-! ### all -/
def isNonE : Ex → Bool
  | .non => true
  | _ => false
theorem isNonE_is {b : Ex} (h : isNonE b = true) : b = .non := by
  cases b <;> first | rfl | (cases h)
def isC : Cm → Bool
  | .isN | .notN => true
  | _ => false
def ckCmpA (c : Cm) (n : Bool) (fa fb : Nfo → Fn) : Nfo → Fn := if (isC c && n) = true then ckIsN c fa else if isIn c = true then ckIn c fa fb else ckCmp c fa fb
def noF (_ : Nfo) : Fn := fun _ _ => no
theorem sn_no {m : Env → M D} : Sn C T Φ noF m := fun I X E G Γ x => ok_no
mutual
def ckP : Ex → Nfo → Fn
  | .var i => ckVar i
  | .mov i => ckMov i
  | .int n => ckInt n
  | .bl b => ckBl b
  | .non => ckNon
  | .str y => ckStr y
  | .gint y n => ckGint y n
  | .fnv _ => noF
  | .bin o a b => ckBin o (ckP a) (ckP b)
  | .neg a => ckNeg (ckP a)
  | .nt a => ckNt (ckP a)
  | .cmp c a b => ckCmpA c (isNonE b) (ckP a) (ckP b)
  | .chn c c' a b d => ckChn c c' (ckP a) (ckP b) (ckP d)
  | .and es => ckBool .And (ckB es)
  | .or es => ckBool .Or (ckB es)
  | .ite t a b => ckIte (ckP t) (ckP a) (ckP b)
  | .tup es => ckTup (ckA es)
  | .lst es => ckLst (ckA es)
  | .dct0 t => ckDct0 t
  | .dct (.cons false k .nil) (.cons false v .nil) => ckDct1 (ckP k) (ckP v)
  | .dct _ _ => noF
  | .call f .nil => ckCall0 f
  | .call f (.cons s e r) => ckCall f (ckA (.cons s e r))
  | .callK f pm es ks => ckCallK f pm (ckA es) (ckK ks)
  | .tokW i => ckTokS "whole" i
  | .tokN i => ckTokS "count" i
  | .tokC i => ckTokS "cells" i
  | .tokNew i j => ckTokNew i j
  | .blt b (.cons false a .nil) => ckBlt1 b (ckP a)
  | .blt b (.cons false a (.cons false a' .nil)) => ckBlt2 b (ckP a) (ckP a')
  | .blt _ _ => noF
  | .getd o k d => ckGetd (ckP o) (ckP k) (ckP d)
  | .isin e t => ckIsin t (ckP e)
  | .sub a i => ckSub (ckP a) (ckP i)
  | .slc a lo hi => ckSlc (ckP a) (ckOe lo) (ckOe hi)
  | .rev a => ckRev (ckP a)
  | .comp own e tg it fs => ckComp own tg (ckIt it) (ckF fs) (ckP e)
  | .comp2 own own1 e tg it fs tg1 it1 fs1 => ckComp2 own own1 tg (ckIt it) (ckF fs) tg1 (ckIt it1) (ckF fs1) (ckP e)
  | .dcomp .. => noF
  | .itl .. => noF
  | .caught c cs e => ckCaught c cs (ckP e)
def ckA : Els → Nfo → AFn
  | .nil => ckANil
  | .cons false e r => ckACons (ckP e) (ckA r)
  | .cons true e r => ckAStar (ckP e) (ckA r)
def ckK : Els → Nfo → KFn
  | .nil => ckKNil
  | .cons false e r => ckKCons (ckP e) (ckK r)
  | .cons true _ _ => fun _ _ _ => none
def ckB : Els → Nfo → BFn
  | .nil => fun _ _ _ => (none, none)
  | .cons _ e .nil => ckB1 (ckP e)
  | .cons _ e (.cons s e2 r) => ckB2 (ckP e) (ckB (.cons s e2 r))
def ckOe : Oe → Nfo → OFn
  | .none => ckONone
  | .some e => ckOSome (ckP e)
def ckF : Els → Nfo → AFn
  | .nil => ckANil
  | .cons _ e .nil => ckF1 (ckP e)
  | .cons _ _ (.cons _ _ _) => fun _ _ _ => none
def ckIt : It → Nfo → IFn
  | .seq e => ckSeq (ckP e)
  | .scr e => ckScr (ckP e)
  | .rng1 a => ckRng1 (ckP a)
  | .rng2 a b => ckRng2 (ckP a) (ckP b)
  | .rng3 a b c => ckRng3 (ckP a) (ckP b) c
  | .enum e => ckEnum (ckP e)
  | .zip a b => ckZip (ckP a) (ckP b)
  | .keys _ | .items _ | .vals _ | .zip3 _ _ _ => fun _ _ _ _ => none
end
end
end Wb

end
section
/-! Wb: the checker of expressions is right. -/
namespace Wb
open PySem PySem.Spec PyProof.Rows L2
section
variable {C : Cn} {T : List (Addr × Str)} {Φ : Fen}
theorem Sn.to {f f' : Nfo → Fn} {m m' : Env → M D} (h : Sn C T Φ f m) (e1 : f' = f) (e2 : m' = m) : Sn C T Φ f' m' := by rw [e1, e2]; exact h
theorem SnA.to {f f' : Nfo → AFn} {m m' : Env → M (List D)} (h : SnA C T Φ f m) (e1 : f' = f) (e2 : m' = m) : SnA C T Φ f' m' := by rw [e1, e2]; exact h
theorem SnK.to {f f' : Nfo → KFn} {m m' : Env → M (List D)} (h : SnK C T Φ f m) (e1 : f' = f) (e2 : m' = m) : SnK C T Φ f' m' := by rw [e1, e2]; exact h
theorem SnO.to {f f' : Nfo → OFn} {m m' : Env → M (Option Int)} (h : SnO C T Φ f m) (e1 : f' = f) (e2 : m' = m) : SnO C T Φ f' m' := by rw [e1, e2]; exact h
theorem SnI.to {f f' : Nfo → IFn} {m m' : Env → M (List D)} (h : SnI C T Φ f m) (e1 : f' = f) (e2 : m' = m) : SnI C T Φ f' m' := by rw [e1, e2]; exact h
theorem SnF.to {f f' : Nfo → AFn} {m m' : Env → M Bool} (h : SnF C T Φ f m) (e1 : f' = f) (e2 : m' = m) : SnF C T Φ f' m' := by rw [e1, e2]; exact h
theorem SnB.to {op : BoolOp} {f f' : Nfo → BFn} {m m' : Env → M D} (h : SnB op C T Φ f m) (e1 : f' = f) (e2 : m' = m) : SnB op C T Φ f' m' := by rw [e1, e2]; exact h
/-! lengths -/
def nostar : Els → Bool
  | .nil => true
  | .cons s _ r => !s && nostar r
theorem evEs_len (ρ : Env) (Ed : Exn → Prop) : ∀ (es : Els), nostar es = true → ∀ Q : List D → Prop, evEs Φ es ρ (fun ys => ys.length = aLen es ∧ Q ys) Ed = evEs Φ es ρ Q Ed
  | .nil, _, Q => by
    rw [evEs]
    exact propext ⟨fun h => h.2, fun h => ⟨rfl, h⟩⟩
  | .cons true _ _, h, _ => by simp [nostar] at h
  | .cons false e r, h, Q => by
    rw [evEs]
    show evE Φ e ρ (fun x => evEs Φ r ρ (fun xs => (x :: xs).length = aLen r + 1 ∧ Q (x :: xs)) Ed) Ed = evE Φ e ρ (fun x => evEs Φ r ρ (fun xs => Q (x :: xs)) Ed) Ed
    congr 1
    funext x
    rw [← evEs_len ρ Ed r (by simpa [nostar] using h) (fun xs => Q (x :: xs))]
    congr 1
    funext xs
    exact propext (by rw [List.length_cons]; simp)
theorem ckA_len : ∀ (es : Els) {I : Nfo} {Γ Γ' : List Ow} {xs : List Expr}, ckA es I Γ xs = some Γ' → xs.all nstB = true → nostar es = true ∧ xs.length = aLen es
  | .nil, I, Γ, Γ', xs, h, _ => by
    rw [ckA] at h
    unfold ckANil at h
    split at h
    · exact ⟨rfl, rfl⟩
    · cases h
  | .cons true e r, I, Γ, Γ', xs, h, hs => by
    rw [ckA] at h
    unfold ckAStar at h
    split at h
    · rw [List.all_cons, Bool.and_eq_true] at hs
      cases hs.1
    · cases h
  | .cons false e r, I, Γ, Γ', xs, h, hs => by
    rw [ckA] at h
    unfold ckACons at h
    split at h
    · split at h
      · split at h
        · rw [List.all_cons, Bool.and_eq_true] at hs
          obtain ⟨a, b⟩ := ckA_len r h hs.2
          exact ⟨by simp [nostar, a], by simp [aLen, b]⟩
        · cases h
      · cases h
    · cases h
theorem ckK_len : ∀ (es : Els) {I : Nfo} {Γ Γ' : List Ow} {xs : List Keyword}, ckK es I Γ xs = some Γ' → nostar es = true ∧ xs.length = aLen es
  | .nil, I, Γ, Γ', xs, h => by
    rw [ckK] at h
    unfold ckKNil at h
    split at h
    · exact ⟨rfl, rfl⟩
    · cases h
  | .cons true e r, I, Γ, Γ', xs, h => by
    rw [ckK] at h
    cases h
  | .cons false e r, I, Γ, Γ', xs, h => by
    rw [ckK] at h
    unfold ckKCons at h
    split at h
    · split at h
      · obtain ⟨a, b⟩ := ckK_len r h
        exact ⟨by simp [nostar, a], by simp [aLen, b]⟩
      · cases h
    · cases h
theorem len_call (es : Els) : ∀ (I : Nfo) Γ xs Γ', ckA es I Γ xs = some Γ' → xs.all nstB = true → ∀ ρ Q Ed, evEs Φ es ρ Q Ed → evEs Φ es ρ (fun ys => ys.length = xs.length ∧ Q ys) Ed := fun I Γ xs Γ' h hs ρ Q Ed hq => by
  obtain ⟨a, b⟩ := ckA_len es h hs
  rw [b, evEs_len ρ Ed es a Q]
  exact hq
theorem len_callK (es : Els) : ∀ (I : Nfo) Γ xs Γ', ckK es I Γ xs = some Γ' → ∀ ρ Q Ed, evEs Φ es ρ Q Ed → evEs Φ es ρ (fun ys => ys.length = xs.length ∧ Q ys) Ed := fun I Γ xs Γ' h ρ Q Ed hq => by
  obtain ⟨a, b⟩ := ckK_len es h
  rw [b, evEs_len ρ Ed es a Q]
  exact hq
theorem nil_call (es : Els) : ∀ (I : Nfo) Γ Γ', ckA es I Γ [] = some Γ' → Γ' = Γ ∧ evEs Φ es = fun _ => .ret [] := fun I Γ Γ' h => by
  cases es with
  | nil =>
    rw [ckA] at h
    cases h
    exact ⟨rfl, by funext ρ; rw [evEs]⟩
  | cons s e r =>
    cases s with
    | true => rw [ckA] at h; cases h
    | false => rw [ckA] at h; cases h
mutual
theorem ckP_ok : ∀ e : Ex, Sn C T Φ (ckP e) (evE Φ e)
  | .var i => (sn_var i).to (by rw [ckP]) (by funext ρ; rw [evE])
  | .mov i => (sn_mov i).to (by rw [ckP]) (by funext ρ; rw [evE])
  | .int n => (sn_int n).to (by rw [ckP]) (by funext ρ; rw [evE])
  | .bl b => (sn_bl b).to (by rw [ckP]) (by funext ρ; rw [evE])
  | .non => sn_non.to (by rw [ckP]) (by funext ρ; rw [evE])
  | .str y => (sn_str y).to (by rw [ckP]) (by funext ρ; rw [evE])
  | .gint y n => (sn_gint y n).to (by rw [ckP]) (by funext ρ; rw [evE])
  | .fnv _ => sn_no.to (by rw [ckP]) rfl
  | .bin o a b => (sn_bin (o := o) (ckP_ok a) (ckP_ok b)).to (by rw [ckP]) (by funext ρ; rw [evE])
  | .neg a => (sn_neg (ckP_ok a)).to (by rw [ckP]) (by funext ρ; rw [evE] <;> rfl)
  | .nt a => (sn_nt (ckP_ok a)).to (by rw [ckP]) (by funext ρ; rw [evE])
  | .cmp c a b => by
    have h : Sn C T Φ (ckCmp c (ckP a) (ckP b)) (evE Φ (.cmp c a b)) := (sn_cmp (c := c) (ckP_ok a) (ckP_ok b)).to rfl (by funext ρ; rw [evE])
    refine Sn.to (f := ckCmpA c (isNonE b) (ckP a) (ckP b)) ?_ (by rw [ckP]) rfl
    unfold ckCmpA
    split
    · rename_i hb
      rw [Bool.and_eq_true] at hb
      have e := isNonE_is hb.2
      subst e
      exact (sn_isN (c := c) (ckP_ok a)).to rfl (by funext ρ; rw [evE, evE])
    · split
      · exact (sn_in (c := c) (ckP_ok a) (ckP_ok b)).to rfl (by funext ρ; rw [evE])
      · exact h
  | .chn c c' a b d => (sn_chn (c := c) (c' := c') (ckP_ok a) (ckP_ok b) (ckP_ok d)).to (by rw [ckP]) (by funext ρ; rw [evE])
  | .and es => (sn_bool (ckBA_ok es)).to (by rw [ckP]) (by funext ρ; rw [evE])
  | .or es => (sn_bool (ckBO_ok es)).to (by rw [ckP]) (by funext ρ; rw [evE])
  | .ite t a b => (sn_ite (ckP_ok t) (ckP_ok a) (ckP_ok b)).to (by rw [ckP]) (by funext ρ; rw [evE])
  | .tup es => (sn_tup (ckA_ok es)).to (by rw [ckP]) (by funext ρ; rw [evE])
  | .lst es => (sn_lst (ckA_ok es)).to (by rw [ckP]) (by funext ρ; rw [evE])
  | .dct0 t => (sn_dct0 t).to (by rw [ckP]) (by funext ρ; rw [evE])
  | .dct (.cons false k .nil) (.cons false v .nil) => (sn_dct1 (ckP_ok k) (ckP_ok v)).to (by rw [ckP]) (by funext ρ; rw [evE])
  | .dct .nil _ | .dct (.cons true _ _) _ | .dct (.cons false _ (.cons _ _ _)) _ | .dct (.cons false _ .nil) .nil | .dct (.cons false _ .nil) (.cons true _ _) | .dct (.cons false _ .nil) (.cons false _ (.cons _ _ _)) => sn_no.to (by rw [ckP] <;> simp) rfl
  | .call f .nil => (sn_call0 (i := f)).to (by rw [ckP]) (by funext ρ; rw [evE, evEs])
  | .call f (.cons s e r) => (sn_call (i := f) (ckA_ok (.cons s e r)) (len_call _)).to (by rw [ckP]) (by funext ρ; rw [evE])
  | .callK f pm es ks => (sn_callK (i := f) (pm := pm) (ckA_ok es) (ckK_ok ks) (len_call es) (len_callK ks) (nil_call es)).to (by rw [ckP]) (by funext ρ; rw [evE])
  | .tokW i => sn_tokW.to (by rw [ckP]) rfl
  | .tokN i => sn_tokN.to (by rw [ckP]) rfl
  | .tokC i => sn_tokC.to (by rw [ckP]) rfl
  | .tokNew i j => sn_tokNew.to (by rw [ckP]) rfl
  | .blt b .nil => sn_no.to (by rw [ckP] <;> simp) rfl
  | .blt b (.cons true a r) => sn_no.to (by rw [ckP] <;> simp) rfl
  | .blt b (.cons false a .nil) => (sn_blt1 (b := b) (ckP_ok a)).to (by rw [ckP]) (by funext ρ; rw [evE, evEs, evEs]; rfl)
  | .blt b (.cons false a (.cons true a' r)) => sn_no.to (by rw [ckP] <;> simp) rfl
  | .blt b (.cons false a (.cons false a' .nil)) => (sn_blt2 (b := b) (ckP_ok a) (ckP_ok a')).to (by rw [ckP]) (by funext ρ; rw [evE, evEs, evEs, evEs]; rfl)
  | .blt b (.cons false a (.cons false a' (.cons _ _ _))) => sn_no.to (by rw [ckP] <;> simp) rfl
  | .getd o k d => (sn_getd (ckP_ok o) (ckP_ok k) (ckP_ok d)).to (by rw [ckP]) (by funext ρ; rw [evE]; rfl)
  | .isin e t => (sn_isin (t := t) (ckP_ok e)).to (by rw [ckP]) (by funext ρ; rw [evE])
  | .sub a i => (sn_sub (ckP_ok a) (ckP_ok i)).to (by rw [ckP]) (by funext ρ; rw [evE])
  | .slc a lo hi => (sn_slc (ckP_ok a) (ckOe_ok lo) (ckOe_ok hi)).to (by rw [ckP]) (by funext ρ; rw [evE] <;> rfl)
  | .rev a => (sn_rev (ckP_ok a)).to (by rw [ckP]) (by funext ρ; rw [evE] <;> rfl)
  | .comp own e tg it fs => (sn_comp (own := own) (t := tg) (ckIt_ok it) (ckF_ok fs) (ckP_ok e)).to (by rw [ckP]) (by funext ρ; rw [evE]; rfl)
  | .comp2 own own1 e tg it fs tg1 it1 fs1 => (sn_comp2 (own := own) (own1 := own1) (t := tg) (t1 := tg1) (ckIt_ok it) (ckF_ok fs) (ckIt_ok it1) (ckF_ok fs1) (ckP_ok e)).to (by rw [ckP]) (by funext ρ; rw [evE]; rfl)
  | .dcomp .. => sn_no.to (by rw [ckP]) rfl
  | .itl .. => sn_no.to (by rw [ckP]) rfl
  | .caught c cs e => (sn_caught (c := c) (cs := cs) (ckP_ok e)).to (by rw [ckP]) (by funext ρ; rw [evE])
theorem ckA_ok : ∀ es : Els, SnA C T Φ (ckA es) (evEs Φ es)
  | .nil => sn_anil.to (by rw [ckA]) (by funext ρ; rw [evEs])
  | .cons false e r => (sn_acons (ckP_ok e) (ckA_ok r)).to (by rw [ckA]) (by funext ρ; rw [evEs])
  | .cons true e r => (sn_astar (ckP_ok e) (ckA_ok r)).to (by rw [ckA]) (by funext ρ; rw [evEs])
theorem ckK_ok : ∀ es : Els, SnK C T Φ (ckK es) (evEs Φ es)
  | .nil => sn_knil.to (by rw [ckK]) (by funext ρ; rw [evEs])
  | .cons false e r => (sn_kcons (ckP_ok e) (ckK_ok r)).to (by rw [ckK]) (by funext ρ; rw [evEs])
  | .cons true e r => fun I X E G Γ es Γ' h => by rw [ckK] at h; cases h
theorem ckBA_ok : ∀ es : Els, SnB .And C T Φ (ckB es) (evAnd Φ es)
  | .nil => fun I X E G Γ es => by rw [ckB]; exact ⟨(fun _ _ h => nomatch h), (fun _ _ h => nomatch h)⟩
  | .cons _ e .nil => (sn_b1 (ckP_ok e)).to (by rw [ckB]) (by funext ρ; rw [evAnd])
  | .cons _ e (.cons s e2 r) => (sn_and2 (ckP_ok e) (ckBA_ok (.cons s e2 r))).to (by rw [ckB]) (by funext ρ; rw [evAnd]; simp)
theorem ckBO_ok : ∀ es : Els, SnB .Or C T Φ (ckB es) (evOr Φ es)
  | .nil => fun I X E G Γ es => by rw [ckB]; exact ⟨(fun _ _ h => nomatch h), (fun _ _ h => nomatch h)⟩
  | .cons _ e .nil => (sn_b1 (ckP_ok e)).to (by rw [ckB]) (by funext ρ; rw [evOr])
  | .cons _ e (.cons s e2 r) => (sn_or2 (ckP_ok e) (ckBO_ok (.cons s e2 r))).to (by rw [ckB]) (by funext ρ; rw [evOr]; simp)
theorem ckOe_ok : ∀ e : Oe, SnO C T Φ (ckOe e) (evO Φ e)
  | .none => sn_onone.to (by rw [ckOe]) (by funext ρ; rw [evO])
  | .some e => (sn_osome (ckP_ok e)).to (by rw [ckOe]) (by funext ρ; rw [evO] <;> rfl)
theorem ckF_ok : ∀ es : Els, SnF C T Φ (ckF es) (evF Φ es)
  | .nil => sn_fnil.to (by rw [ckF]) (by funext ρ; rw [evF])
  | .cons _ e .nil => (sn_f1 (ckP_ok e)).to (by rw [ckF]) (by funext ρ; rw [evF])
  | .cons _ _ (.cons _ _ _) => fun I X E G Γ es Γ' h => by rw [ckF] at h; cases h
theorem ckIt_ok : ∀ it : It, SnI C T Φ (ckIt it) (evI Φ it)
  | .seq e => (sn_seq (ckP_ok e)).to (by rw [ckIt]) (by funext ρ; rw [evI])
  | .scr e => (sn_scr (ckP_ok e)).to (by rw [ckIt]) (by funext ρ; rw [evI] <;> rfl)
  | .rng1 a => (sn_rng1 (ckP_ok a)).to (by rw [ckIt]) (by funext ρ; rw [evI] <;> rfl)
  | .rng2 a b => (sn_rng2 (ckP_ok a) (ckP_ok b)).to (by rw [ckIt]) (by funext ρ; rw [evI] <;> rfl)
  | .rng3 a b c => (sn_rng3 (c := c) (ckP_ok a) (ckP_ok b)).to (by rw [ckIt]) (by funext ρ; rw [evI] <;> rfl)
  | .enum e => (sn_enum (ckP_ok e)).to (by rw [ckIt]) (by funext ρ; rw [evI])
  | .zip a b => (sn_zip (ckP_ok a) (ckP_ok b)).to (by rw [ckIt]) (by funext ρ; rw [evI] <;> rfl)
  | .keys _ => fun I X E G Γ tg x b Γ' h => by rw [ckIt] at h; cases h
  | .items _ => fun I X E G Γ tg x b Γ' h => by rw [ckIt] at h; cases h
  | .vals _ => fun I X E G Γ tg x b Γ' h => by rw [ckIt] at h; cases h
  | .zip3 _ _ _ => fun I X E G Γ tg x b Γ' h => by rw [ckIt] at h; cases h
end
end
end Wb

end
section
/-! Wb: the checker of statements. -/
namespace Wb
open PySem PySem.Spec PyProof.Rows L2
section
variable {C : Cn} {T : List (Addr × Str)} {Φ : Fen}
/-! ### stores of tuples -/
/-- the names are stored from the right, the tuple is not kept -/
def swY (I : Nfo) (ts : List Expr) (vs : List Expr) : Bool := (ts.length == 2 || ts.length == 3) && (ts.length == vs.length && (vs.all nstB && (!(vs.all (foldedForSure 8)) && !(vs.all (constantsAlone 8)))))
theorem sw_yes2 {X : Cx} {E : XK} {I : Nfo} (G : Gd X C T E Φ I) {x y : Str} {px py pt pt2 : Pos} {k0 k2 : Nat} {a b : Expr} (hx : I.sc.names.lookup x = some .local) (hy : I.sc.names.lookup y = some .local) (hl : (py.line == px.line) = true) (hxy : x ≠ y) (h : swY I [.Name x px, .Name y py] [a, b] = true) :
    swappedStores [.Tuple [.Name x px, .Name y py] k0 pt] (.Tuple [a, b] k2 pt2) X.env = pure (some [x, y]) := by
  have kx : X.env.kindOf x = some .local := by show X.env.scope.names.lookup x = _; rw [G.sc]; exact hx
  have ky : X.env.kindOf y = some .local := by show X.env.scope.names.lookup y = _; rw [G.sc]; exact hy
  have kb : X.env.blockKind = .function := by unfold Env.blockKind; rw [G.sc, G.fun_]; rfl
  unfold swY at h
  simp only [Bool.and_eq_true, Bool.not_eq_true'] at h
  obtain ⟨_, _, h3, h4, h5⟩ := h
  simp only [List.all_cons, List.all_nil, Bool.and_true, Bool.and_eq_true] at h3
  obtain ⟨n1, n2⟩ := h3
  have hne : (x == y) = false := by simpa using hxy
  have hne2 : (y == x) = false := by simpa using fun e => hxy e.symm
  unfold swappedStores
  simp only [kb, kx, ky, hl, h4, h5, List.filterMap_cons, List.filterMap_nil, List.head?_cons, Option.map_some, Option.getD_some, List.length_cons, List.length_nil, Expr.pos, beq_self_eq_true, Bool.and_self, Bool.true_and, Bool.and_true, if_true]
  simp [List.eraseDups_cons, hne, hne2, pure, bind]
  exact ⟨by cases a <;> first | (cases n1; done) | rfl, by cases b <;> first | (cases n2; done) | rfl⟩
theorem sw_yes3 {X : Cx} {E : XK} {I : Nfo} (G : Gd X C T E Φ I) {x y z : Str} {px py pz pt pt2 : Pos} {k0 k2 : Nat} {a b c : Expr} (hx : I.sc.names.lookup x = some .local) (hy : I.sc.names.lookup y = some .local) (hz : I.sc.names.lookup z = some .local) (hl : (py.line == px.line) = true) (hl2 : (pz.line == px.line) = true) (hxy : x ≠ y) (hxz : x ≠ z) (hyz : y ≠ z) (h : swY I [.Name x px, .Name y py, .Name z pz] [a, b, c] = true) :
    swappedStores [.Tuple [.Name x px, .Name y py, .Name z pz] k0 pt] (.Tuple [a, b, c] k2 pt2) X.env = pure (some [x, y, z]) := by
  have kx : X.env.kindOf x = some .local := by show X.env.scope.names.lookup x = _; rw [G.sc]; exact hx
  have ky : X.env.kindOf y = some .local := by show X.env.scope.names.lookup y = _; rw [G.sc]; exact hy
  have kz : X.env.kindOf z = some .local := by show X.env.scope.names.lookup z = _; rw [G.sc]; exact hz
  have kb : X.env.blockKind = .function := by unfold Env.blockKind; rw [G.sc, G.fun_]; rfl
  unfold swY at h
  simp only [Bool.and_eq_true, Bool.not_eq_true'] at h
  obtain ⟨_, _, h3, h4, h5⟩ := h
  simp only [List.all_cons, List.all_nil, Bool.and_true, Bool.and_eq_true] at h3
  obtain ⟨n1, n2, n3⟩ := h3
  have e1 : (x == y) = false := by simpa using hxy
  have e2 : (y == x) = false := by simpa using fun e => hxy e.symm
  have e3 : (x == z) = false := by simpa using hxz
  have e4 : (z == x) = false := by simpa using fun e => hxz e.symm
  have e5 : (y == z) = false := by simpa using hyz
  have e6 : (z == y) = false := by simpa using fun e => hyz e.symm
  unfold swappedStores
  simp only [kb, kx, ky, kz, hl, hl2, h4, h5, List.filterMap_cons, List.filterMap_nil, List.head?_cons, Option.map_some, Option.getD_some, List.length_cons, List.length_nil, Expr.pos, beq_self_eq_true, Bool.and_self, Bool.true_and, Bool.and_true, if_true]
  simp [List.eraseDups_cons, e1, e2, e3, e4, e5, e6, pure, bind]
  exact ⟨by cases a <;> first | (cases n1; done) | rfl, by cases b <;> first | (cases n2; done) | rfl, by cases c <;> first | (cases n3; done) | rfl⟩
/-- stored one after another -/
def swN : Expr → Expr → Bool
  | .Tuple _ _ _, .Tuple vs _ _ => vs.all nstB && vs.all (foldedForSure 8)
  | .List _ _, .Tuple vs _ _ => vs.all nstB && vs.all (foldedForSure 8)
  | _, _ => true
theorem sw_no {tg e : Expr} {env : PySem.Env} (h : swN tg e = true) : swappedStores [tg] e env = pure none := by
  have key : ∀ (ts vs : List Expr) (k k2 : Nat) (p p2 : Pos), (vs.all nstB && vs.all (foldedForSure 8)) = true → swappedStores [.Tuple ts k p] (.Tuple vs k2 p2) env = pure none ∧ swappedStores [.List ts p] (.Tuple vs k2 p2) env = pure none := fun ts vs k k2 p p2 h => by
    rw [Bool.and_eq_true] at h
    have ns : (vs.any fun | .Starred .. => true | _ => false) = false := by
      rw [Bool.eq_false_iff]
      intro z
      obtain ⟨e, he, hz⟩ := List.any_eq_true.mp z
      have := List.all_eq_true.mp h.1 e he
      cases e <;> first | (cases this; done) | (cases hz; done)
    unfold swappedStores
    constructor
    · simp only [ns, h.2]
      simp only [pure, bind, ite_true, Bool.false_eq_true, ite_false]
      repeat' split
      all_goals first | rfl | simp_all
    · simp only [ns, h.2]
      simp only [pure, bind, ite_true, Bool.false_eq_true, ite_false]
      repeat' split
      all_goals first | rfl | simp_all
  cases tg <;> cases e <;> first
    | rfl
    | exact (key _ _ _ _ _ _ h).1
    | exact (key _ _ 0 _ _ _ h).2
/-- a target that is no plain local name -/
def notLoc (I : Nfo) : Expr → Bool
  | .Name x _ => !(I.sc.names.lookup x == some .local)
  | _ => true
def swN2 (I : Nfo) : Expr → Expr → Bool
  | .Tuple ts _ _, .Tuple _ _ _ => ts.any (notLoc I)
  | _, _ => false
theorem fm_lt {α β : Type} {f : α → Option β} : ∀ {l : List α}, (∃ x ∈ l, f x = none) → (l.filterMap f).length < l.length
  | [], ⟨x, h, _⟩ => absurd h (by simp)
  | a :: l, ⟨x, h, e⟩ => by
    have hle := List.length_filterMap_le f l
    rcases List.mem_cons.mp h with rfl | h
    · rw [List.filterMap_cons_none e, List.length_cons]; omega
    · have ih := fm_lt (f := f) ⟨x, h, e⟩
      cases e1 : f a with
      | none => rw [List.filterMap_cons_none e1, List.length_cons]; omega
      | some b => rw [List.filterMap_cons_some e1, List.length_cons, List.length_cons]; omega
theorem sw_no2 {X : Cx} {E : XK} {I : Nfo} (G : Gd X C T E Φ I) {tg e : Expr} (h : swN2 I tg e = true) : swappedStores [tg] e X.env = pure none := by
  cases tg <;> cases e <;> first | (cases h; done) | skip
  rename_i ts k p vs k2 p2
  obtain ⟨x, hx, hn⟩ := List.any_eq_true.mp h
  have hk : X.env.kindOf = fun x => I.sc.names.lookup x := by funext x; show X.env.scope.names.lookup x = _; rw [G.sc]
  have key : ∀ line : Nat, ((ts.filterMap fun
    | .Name id pos => if X.env.kindOf id == some .local && pos.line == line then some id else none
    | _ => none).length != ts.length) = true := fun line => by
    rw [bne_iff_ne]
    refine Nat.ne_of_lt (fm_lt ⟨x, hx, ?_⟩)
    cases x <;> first | rfl | skip
    rename_i id pos
    have : (I.sc.names.lookup id == some .local) = false := by simpa [notLoc] using hn
    show (if (X.env.kindOf id == some .local && pos.line == line) = true then some id else none) = none
    rw [hk]
    show (if (I.sc.names.lookup id == some .local && pos.line == line) = true then some id else none) = none
    rw [this]
    rfl
  unfold swappedStores
  simp only [pure, bind]
  repeat' split
  all_goals first
    | rfl
    | (rename_i a b c d e
       exact absurd ((Bool.or_eq_true _ _).mpr (.inl (key _))) c)
    | (rename_i a b c d
       exact absurd ((Bool.or_eq_true _ _).mpr (.inl (key _))) c)
/-- a comprehension stored: by the way of its own, or not -/
def cpB : Expr → Bool
  | .ListComp .. => true
  | _ => false
def swT (I : Nfo) (x : Str) (px : Pos) : Expr → Bool
  | .ListComp _ _ scope cpos => (I.sc.names.lookup x == some .local) && ((px.line == cpos.line) && !(scope.names.any fun (n, k) => n == x && (k == .local || k == .cell)))
  | _ => false
theorem sw_f {X : Cx} {E : XK} {I : Nfo} (G : Gd X C T E Φ I) {x : Str} {px : Pos} {e : Expr} {l : Nat} (h : (ncpB e || (cpB e && !swT I x px e)) = true) : swapsWith e (some (.Name x px)) l X.env = pure false := by
  rw [Bool.or_eq_true] at h
  rcases h with h | h
  · exact swaps_no h
  · rw [Bool.and_eq_true] at h
    obtain ⟨h1, h2⟩ := h
    cases e <;> first | (cases h1; done) | skip
    rename_i elt gs scope cpos
    have h3 : ((I.sc.names.lookup x == some .local) && ((px.line == cpos.line) && !(scope.names.any fun (n, k) => n == x && (k == .local || k == .cell)))) = false := by
      have : (!((I.sc.names.lookup x == some .local) && ((px.line == cpos.line) && !(scope.names.any fun (n, k) => n == x && (k == .local || k == .cell))))) = true := h2
      simpa only [Bool.not_eq_true'] using this
    have kb : X.env.blockKind = .function := by unfold Env.blockKind; rw [G.sc, G.fun_]; rfl
    have kx : X.env.kindOf x = I.sc.names.lookup x := by show X.env.scope.names.lookup x = _; rw [G.sc]
    unfold swapsWith
    simp only [kb, kx, Expr.pos]
    have e2 : ((ScopeKind.function == ScopeKind.function) && (I.sc.names.lookup x == some .local) && (px.line == cpos.line) && !(scope.names.any fun (n, k) => n == x && (k == .local || k == .cell))) = false := by
      rw [show (ScopeKind.function == ScopeKind.function) = true from rfl, Bool.true_and, Bool.and_assoc]
      exact h3
    first
      | rw [e2]
      | (rw [e2]; rfl)
end
end Wb

end
section
/-! Wb: the checker of statements, part by part. -/
namespace Wb
open PySem PySem.Spec PyProof.Rows L2
/-- the types behind; none: never -/
abbrev SFn : Type := List Ow → Ow → List Ow → Stmt → Option (Option (List Ow))
abbrev SsFn : Type := List Ow → Ow → List Ow → List Stmt → Option (Option (List Ow))
section
variable {C : Cn} {T : List (Addr × Str)} {Φ : Fen}
def SnS (C : Cn) (T : List (Addr × Str)) (Φ : Fen) (f : Nfo → SFn) (m : Env → M (Fl × Env)) : Prop := ∀ (I : Nfo) (X : Cx) (E : XK), Gd X C T E Φ I → ∀ Γl τr Γ st o, f I Γl τr Γ st = some o → ∀ Γ', (o = none ∨ o = some Γ') → PS X st (tS C T E τr Γl Γ Γ' m)
def SnSs (C : Cn) (T : List (Addr × Str)) (Φ : Fen) (f : Nfo → SsFn) (m : Env → M (Fl × Env)) : Prop := ∀ (I : Nfo) (X : Cx) (E : XK), Gd X C T E Φ I → ∀ Γl τr Γ st o, f I Γl τr Γ st = some o → ∀ Γ', (o = none ∨ o = some Γ') → PSs X st (tS C T E τr Γl Γ Γ' m)
/-! ### blocks -/
def csNil (_ : Nfo) : SsFn := fun _ _ Γ st => match st with
  | [] => some (some Γ)
  | _ => none
theorem ss_nil : SnSs C T Φ csNil (fun ρ => .ret (.nx, ρ)) := by
  intro I X E G Γl τr Γ st o h Γ' ho
  unfold csNil at h
  split at h
  · cases h
    rcases ho with ho | ho
    · cases ho
    · cases ho; exact vs_nil
  · cases h
def csCons (fs : Nfo → SFn) (fr : Nfo → SsFn) (last : Bool) (I : Nfo) : SsFn := fun Γl τr Γ st => match st with
  | s :: r => (match fs I Γl τr Γ s with
    | some (some Γ1) => fr I Γl τr Γ1 r
    | some none => if (last && r.isEmpty) = true then some none else none
    | none => none)
  | _ => none
theorem ss_cons {fs : Nfo → SFn} {fr : Nfo → SsFn} {last : Bool} {ms mr : Env → M (Fl × Env)} (hs : SnS C T Φ fs ms) (hr : SnSs C T Φ fr mr) (hl : last = true → mr = fun ρ => .ret (.nx, ρ)) : SnSs C T Φ (csCons fs fr last) (fun ρ => .bind (ms ρ) fun q => match q with
    | (.nx, ρ') => mr ρ'
    | (f, ρ') => .ret (f, ρ')) := by
  intro I X E G Γl τr Γ st o h Γ' ho
  unfold csCons at h
  split at h
  · rename_i s r
    split at h
    · rename_i Γ1 h1
      exact vs_cons (hs I X E G Γl τr Γ s _ h1 Γ1 (.inr rfl)) (hr I X E G Γl τr Γ1 r o h Γ' ho)
    · rename_i h1
      split at h
      · rename_i hb
        rw [Bool.and_eq_true] at hb
        have e := List.isEmpty_iff.mp hb.2
        subst e
        have em := hl hb.1
        subst em
        exact vs_cons (hs I X E G Γl τr Γ s _ h1 Γ' (.inl rfl)) vs_nil
      · cases h
    · cases h
  · cases h
/-- code never come to -/
def csNever (_ : Nfo) : SsFn := fun _ _ _ _ => some none
theorem ss_never : SnSs C T Φ csNever (fun _ => .fail) := by
  intro I X E G Γl τr Γ st o h Γ' ho
  exact pss_never.imp fun D σ H ⟨O, Fs, ρ, Qd, Ed, r, hm, x, k⟩ => hm
/-! ### stores -/
def csSet (i : Nat) (τ : Ow) (fe : Nfo → Fn) (I : Nfo) : SFn := fun _ _ Γ st => match st with
  | .Assign [.Name x px] e _ => if (decide (I.N[i]? = some x) && (stB I x && (ncpB e || (cpB e && !swT I x px e)))) = true then (match ownR τ (fe I Γ e).1 with
    | some Γ1 => if decide (i < Γ1.length) = true then some (some (Γ1.set i τ)) else none
    | none => none) else none
  | _ => none
theorem ss_set {i : Nat} {τ : Ow} {fe : Nfo → Fn} {me : Env → M D} (he : Sn C T Φ fe me) : SnS C T Φ (csSet i τ fe) (fun ρ => .bind (me ρ) fun x => .ret (.nx, setE ρ i x)) := by
  intro I X E G Γl τr Γ st o h Γ' ho
  unfold csSet at h
  split at h
  · rename_i x px e p
    split at h
    · rename_i hb
      rw [Bool.and_eq_true, Bool.and_eq_true, decide_eq_true_eq] at hb
      split at h
      · rename_i Γ1 h1
        split at h
        · rename_i hi
          rw [decide_eq_true_eq] at hi
          cases h
          rcases ho with ho | ho
          · cases ho
          · cases ho
            exact vs_set G hb.1 hb.2.1 ((he I X E G Γ e).own h1) (sw_f G hb.2.2) hi
        · cases h
      · cases h
    · cases h
  · cases h
def csSetLc (i : Nat) (own : List Nat) (t : Tg) (fi : Nfo → IFn) (ff : Nfo → AFn) (fe : Nfo → Fn) (I : Nfo) : SFn := fun _ _ Γ st => match st with
  | .Assign [.Name x px] (.ListComp elt [⟨tg, iter, ifs, 0⟩] scope cpos) _ => if (decide (I.N[i]? = some x) && (decide (I.sc.names.lookup x = some .local) && ((px.line == cpos.line) && !(scope.names.any fun (n, k) => n == x && (k == .local || k == .cell))))) = true then (match fi I Γ tg iter with
    | some (_, Γ1) => if (decide (i < Γ1.length) && compC own t ff fe I Γ1 elt tg iter ifs scope) = true then some (some (Γ1.set i (.li .sh))) else none
    | none => none) else none
  | _ => none
theorem ss_setLc {i : Nat} {own : List Nat} {t : Tg} {fi : Nfo → IFn} {ff : Nfo → AFn} {fe : Nfo → Fn} {mi : Env → M (List D)} {mf : Env → M Bool} {me : Env → M D} (hi : SnI C T Φ fi mi) (hf : SnF C T Φ ff mf) (he : Sn C T Φ fe me) :
    SnS C T Φ (csSetLc i own t fi ff fe) (fun ρ => .bind (.bind (mi ρ) fun items => .bind (.nox (compL (compF t own ρ mf me) items)) fun ys => .ret (.lst ys)) fun x => .ret (.nx, setE ρ i x)) := by
  intro I X E G Γl τr Γ st o h Γ' ho
  unfold csSetLc at h
  split at h
  · rename_i x px elt tg iter ifs scope cpos p
    split at h
    · rename_i hb
      simp only [Bool.and_eq_true, decide_eq_true_eq, Bool.not_eq_true'] at hb
      obtain ⟨g1, g2, g3, g4⟩ := hb
      split at h
      · rename_i b Γ1 h1
        split at h
        · rename_i hc
          rw [Bool.and_eq_true, decide_eq_true_eq] at hc
          obtain ⟨hil, hc⟩ := hc
          obtain ⟨k1, k2, k3, k4, k5, k6⟩ := compC_is hf he hc
          cases h
          rcases ho with ho | ho
          · cases ho
          · cases ho
            have := vs_setLc (t := t) (is := tgIx t) (ownp := ownP I own) (pos := cpos) (py := px) (spos := p) (Γl := Γl) (τr := τr) G g1 g2 g3 g4 hil (hi.weak G h1) k1 k2 k2 k3 k4 k5 k6
            rw [ownP_snd] at this
            exact this
        · cases h
      · cases h
    · cases h
  · cases h
def csSetLc2 (i : Nat) (own own1 : List Nat) (t : Tg) (fi : Nfo → IFn) (ff : Nfo → AFn) (t1 : Tg) (fi1 : Nfo → IFn) (ff1 : Nfo → AFn) (fe : Nfo → Fn) (I : Nfo) : SFn := fun _ _ Γ st => match st with
  | .Assign [.Name x px] (.ListComp elt [⟨tg, iter, ifs, 0⟩, ⟨tg1, iter1, ifs1, 0⟩] scope cpos) _ => if (decide (I.N[i]? = some x) && (decide (I.sc.names.lookup x = some .local) && ((px.line == cpos.line) && !(scope.names.any fun (n, k) => n == x && (k == .local || k == .cell))))) = true then (match fi I Γ tg iter with
    | some (_, Γ1) => if (decide (i < Γ1.length) && compC2 own own1 t ff t1 fi1 ff1 fe I Γ1 elt tg iter ifs tg1 iter1 ifs1 scope) = true then some (some (Γ1.set i (.li .sh))) else none
    | none => none) else none
  | _ => none
theorem ss_setLc2 {i : Nat} {own own1 : List Nat} {t t1 : Tg} {fi fi1 : Nfo → IFn} {ff ff1 : Nfo → AFn} {fe : Nfo → Fn} {mi mi1 : Env → M (List D)} {mf mf1 : Env → M Bool} {me : Env → M D} (hi : SnI C T Φ fi mi) (hf : SnF C T Φ ff mf) (hi1 : SnI C T Φ fi1 mi1) (hf1 : SnF C T Φ ff1 mf1) (he : Sn C T Φ fe me) :
    SnS C T Φ (csSetLc2 i own own1 t fi ff t1 fi1 ff1 fe) (fun ρ => .bind (.bind (mi ρ) fun items => .bind (.nox (compL2 (compG t own own1 ρ mf mi1 t1 mf1 me) 0 items)) fun ys => .ret (.lst ys)) fun x => .ret (.nx, setE ρ i x)) := by
  intro I X E G Γl τr Γ st o h Γ' ho
  unfold csSetLc2 at h
  split at h
  · rename_i x px elt tg iter ifs tg1 iter1 ifs1 scope cpos p
    split at h
    · rename_i hb
      simp only [Bool.and_eq_true, decide_eq_true_eq, Bool.not_eq_true'] at hb
      obtain ⟨g1, g2, g3, g4⟩ := hb
      split at h
      · rename_i b Γ1 h1
        split at h
        · rename_i hc
          rw [Bool.and_eq_true, decide_eq_true_eq] at hc
          obtain ⟨hil, hc⟩ := hc
          obtain ⟨k1, k2, k2', k3, k4, k5, k6, k7, k8⟩ := compC2_is hf hi1 hf1 he hc
          cases h
          rcases ho with ho | ho
          · cases ho
          · cases ho
            have := vs_setLc2 (t := t) (t1 := t1) (is := tgIx t) (is1 := tgIx t1) (ownp := ownP I own) (pos := cpos) (py := px) (spos := p) (Γl := Γl) (τr := τr) G g1 g2 g3 g4 hil (hi.weak G h1) k1 k2 k2 k2' k2' k3 k4 k5 k6 k7 k8
            rw [ownP_snd] at this
            exact this
        · cases h
      · cases h
    · cases h
  · cases h
def csAsg (t : Tg) (fe : Nfo → Fn) (I : Nfo) : SFn := fun _ _ Γ st => match st with
  | .Assign [tg] e _ => if (ncpB e && (nstB tg && (swN tg e || swN2 I tg e))) = true then (match shR (fe I Γ e).1 with
    | some Γ1 => if ckG t I Γ1 tg = true then some (some Γ1) else none
    | none => none) else none
  | _ => none
theorem ss_asg {t : Tg} {fe : Nfo → Fn} {me : Env → M D} (he : Sn C T Φ fe me) : SnS C T Φ (csAsg t fe) (fun ρ => .bind (me ρ) fun x => .bind (asgT t x ρ) fun ρ' => .ret (.nx, ρ')) := by
  intro I X E G Γl τr Γ st o h Γ' ho
  unfold csAsg at h
  split at h
  · split at h
    · rename_i hb
      rw [Bool.and_eq_true, Bool.and_eq_true] at hb
      split at h
      · rename_i Γ1 h1
        split at h
        · rename_i hg
          cases h
          rcases ho with ho | ho
          · cases ho
          · cases ho
            exact vs_asg ((he I X E G Γ _).sh h1) (ckG_ok t G hg) hb.1 hb.2.1 (((Bool.or_eq_true _ _).mp hb.2.2).elim sw_no (sw_no2 G))
        · cases h
      · cases h
    · cases h
  · cases h
def csPar2 (i j : Nat) (τ1 τ2 : Ow) (fa fb : Nfo → Fn) (I : Nfo) : SFn := fun _ _ Γ st => match st with
  | .Assign [.Tuple [.Name x px, .Name y py] _ _] (.Tuple [a, b] _ _) _ =>
    if (decide (I.N[i]? = some x) && (decide (I.N[j]? = some y) && (decide (i ≠ j) && (decide (x ≠ y) && (decide (I.sc.names.lookup x = some .local) && (decide (I.sc.names.lookup y = some .local) && ((py.line == px.line) && (swY I [.Name x px, .Name y py] [a, b] && (nstB a && nstB b))))))))) = true then
      (match ownR τ1 (fa I Γ a).1 with
      | some Γ1 => (match ownR τ2 (fb I Γ1 b).1 with
        | some Γ2 => if (decide (i < Γ2.length) && decide (j < Γ2.length)) = true then some (some ((Γ2.set j τ2).set i τ1)) else none
        | none => none)
      | none => none) else none
  | _ => none
theorem ss_par2 {i j : Nat} {τ1 τ2 : Ow} {fa fb : Nfo → Fn} {ma mb : Env → M D} (ha : Sn C T Φ fa ma) (hb : Sn C T Φ fb mb) : SnS C T Φ (csPar2 i j τ1 τ2 fa fb) (fun ρ => .bind (ma ρ) fun x => .bind (mb ρ) fun y => .ret (.nx, setE (setE ρ i x) j y)) := by
  intro I X E G Γl τr Γ st o h Γ' ho
  unfold csPar2 at h
  split at h
  · split at h
    · rename_i hc
      simp only [Bool.and_eq_true, decide_eq_true_eq] at hc
      obtain ⟨g1, g2, g3, g4, g5, g6, g7, g8, g9, g10⟩ := hc
      split at h
      · rename_i Γ1 h1
        split at h
        · rename_i Γ2 h2
          split at h
          · rename_i hl
            rw [Bool.and_eq_true, decide_eq_true_eq, decide_eq_true_eq] at hl
            cases h
            rcases ho with ho | ho
            · cases ho
            · cases ho
              exact vs_par2 G g1 g2 g3 g5 g6 ((ha I X E G Γ _).own h1) ((hb I X E G Γ1 _).own h2) g9 g10 hl.1 hl.2 (sw_yes2 G g5 g6 g7 g4 g8)
          · cases h
        · cases h
      · cases h
    · cases h
  · cases h
def csPar3 (i j l : Nat) (τ1 τ2 τ3 : Ow) (fa fb fd : Nfo → Fn) (I : Nfo) : SFn := fun _ _ Γ st => match st with
  | .Assign [.Tuple [.Name x px, .Name y py, .Name z pz] _ _] (.Tuple [a, b, d] _ _) _ =>
    if (decide (I.N[i]? = some x) && (decide (I.N[j]? = some y) && (decide (I.N[l]? = some z) && (decide (i ≠ j) && (decide (i ≠ l) && (decide (j ≠ l) && (decide (x ≠ y) && (decide (x ≠ z) && (decide (y ≠ z) && (decide (I.sc.names.lookup x = some .local) && (decide (I.sc.names.lookup y = some .local) && (decide (I.sc.names.lookup z = some .local) && ((py.line == px.line) && ((pz.line == px.line) && (swY I [.Name x px, .Name y py, .Name z pz] [a, b, d] && (nstB a && (nstB b && nstB d))))))))))))))))) = true then
      (match ownR τ1 (fa I Γ a).1 with
      | some Γ1 => (match ownR τ2 (fb I Γ1 b).1 with
        | some Γ2 => (match ownR τ3 (fd I Γ2 d).1 with
          | some Γ3 => if (decide (i < Γ3.length) && (decide (j < Γ3.length) && decide (l < Γ3.length))) = true then some (some (((Γ3.set l τ3).set j τ2).set i τ1)) else none
          | none => none)
        | none => none)
      | none => none) else none
  | _ => none
theorem ss_par3 {i j l : Nat} {τ1 τ2 τ3 : Ow} {fa fb fd : Nfo → Fn} {ma mb md : Env → M D} (ha : Sn C T Φ fa ma) (hb : Sn C T Φ fb mb) (hd : Sn C T Φ fd md) : SnS C T Φ (csPar3 i j l τ1 τ2 τ3 fa fb fd) (fun ρ => .bind (ma ρ) fun x => .bind (mb ρ) fun y => .bind (md ρ) fun z => .ret (.nx, setE (setE (setE ρ i x) j y) l z)) := by
  intro I X E G Γl τr Γ st o h Γ' ho
  unfold csPar3 at h
  split at h
  · split at h
    · rename_i hc
      simp only [Bool.and_eq_true, decide_eq_true_eq] at hc
      obtain ⟨g1, g2, g3, g4, g5, g6, g7, g8, g9, g10, g11, g12, g13, g14, g15, g16, g17, g18⟩ := hc
      split at h
      · rename_i Γ1 h1
        split at h
        · rename_i Γ2 h2
          split at h
          · rename_i Γ3 h3
            split at h
            · rename_i hl
              rw [Bool.and_eq_true, Bool.and_eq_true, decide_eq_true_eq, decide_eq_true_eq, decide_eq_true_eq] at hl
              cases h
              rcases ho with ho | ho
              · cases ho
              · cases ho
                exact vs_par3 G g1 g2 g3 g4 g5 g6 g10 g11 g12 ((ha I X E G Γ _).own h1) ((hb I X E G Γ1 _).own h2) ((hd I X E G Γ2 _).own h3) g16 g17 g18 hl.1 hl.2.1 hl.2.2 (sw_yes3 G g10 g11 g12 g13 g14 g7 g8 g9 g15)
            · cases h
          · cases h
        · cases h
      · cases h
    · cases h
  · cases h
/-! ### changes -/
def vB (I : Nfo) (i : Nat) (x : Str) : Bool := decide (I.N[i]? = some x) && (visB I.sc x && dbgB x)
theorem vB_is {I : Nfo} {i : Nat} {x : Str} (h : vB I i x = true) : I.N[i]? = some x ∧ visB I.sc x = true ∧ dbgB x = true := by
  unfold vB at h
  rw [Bool.and_eq_true, Bool.and_eq_true, decide_eq_true_eq] at h
  exact h
def csApp (i : Nat) (fe : Nfo → Fn) (I : Nfo) : SFn := fun _ _ Γ st => match st with
  | .Expr (.Call (.Attribute (.Name x _) at_ apos) [e] [] cpos) _ => if (decide (at_ = "append") && (vB I i x && (decide (Γ[i]? = some (.li .sh)) && (nstB e && (apos.endLine == cpos.line))))) = true then (match shR (fe I Γ e).1 with
    | some Γ1 => if (decide (Γ1[i]? = some (.li .sh)) && Γ1.all noBo) = true then some (some Γ1) else none
    | none => none) else none
  | _ => none
theorem ss_app {i : Nat} {fe : Nfo → Fn} {me : Env → M D} (he : Sn C T Φ fe me) : SnS C T Φ (csApp i fe) (fun ρ => .bind (keysP Φ (.v i) ρ) fun r => .bind (.opt ((getE ρ r.1 r.2).bind asLst)) fun _ => .bind (me ρ) fun y => .bind (.opt (updE ρ r.1 r.2 (appD y))) fun ρ' => .ret (.nx, ρ')) := by
  intro I X E G Γl τr Γ st o h Γ' ho
  unfold csApp at h
  split at h
  · split at h
    · rename_i hc
      simp only [Bool.and_eq_true, decide_eq_true_eq] at hc
      obtain ⟨rfl, g1, g2, g3, g4⟩ := hc
      obtain ⟨v1, v2, v3⟩ := vB_is g1
      split at h
      · rename_i Γ1 h1
        split at h
        · rename_i hl
          rw [Bool.and_eq_true, decide_eq_true_eq] at hl
          cases h
          rcases ho with ho | ho
          · cases ho
          · cases ho
            exact vs_app G v1 v2 v3 g2 hl.1 hl.2 ((he I X E G Γ _).sh h1) g3 g4
        · cases h
      · cases h
    · cases h
  · cases h
def csPop (i j : Nat) (I : Nfo) : SFn := fun _ _ Γ st => match st with
  | .Assign [.Name y _] (.Call (.Attribute (.Name x _) at_ apos) [] [] cpos) _ => if (decide (at_ = "pop") && (vB I j x && (decide (I.N[i]? = some y) && (stB I y && (decide (Γ[j]? = some (.li .sh)) && (Γ.all noBo && (decide (i < Γ.length) && (apos.endLine == cpos.line)))))))) = true then some (some (Γ.set i .sh)) else none
  | _ => none
theorem ss_pop {i j : Nat} : SnS C T Φ (csPop i j) (fun ρ => .bind (keysP Φ (.v j) ρ) fun r => .bind (.opt ((getE ρ r.1 r.2).bind lastD)) fun y => .bind (.opt (updE ρ r.1 r.2 popD)) fun ρ' => .ret (.nx, setE ρ' i y)) := by
  intro I X E G Γl τr Γ st o h Γ' ho
  unfold csPop at h
  split at h
  · split at h
    · rename_i hc
      simp only [Bool.and_eq_true, decide_eq_true_eq] at hc
      obtain ⟨rfl, g1, g2, g3, g4, g5, g6, g7⟩ := hc
      obtain ⟨v1, v2, v3⟩ := vB_is g1
      cases h
      rcases ho with ho | ho
      · cases ho
      · cases ho
        exact vs_pop G v1 v2 v3 g2 g3 g4 g5 g6 (by simpa using g7)
    · cases h
  · cases h
def csPut (i : Nat) (fk fe : Nfo → Fn) (I : Nfo) : SFn := fun _ _ Γ st => match st with
  | .Assign [.Subscript (.Name x _) k _] e _ => if (vB I i x && (ncpB e && pixB k)) = true then (match shR (fe I Γ e).1 with
    | some Γ1 => (match lendR (fk I Γ1 k).1 with
      | some (_, Γ2) => (match Γ2[i]? with
        | some (.li .sh) => if (decide (Γ1[i]? = some (.li .sh)) && Γ2.all noBo) = true then some (some Γ2) else none
        | some .dk => if (decide (Γ1[i]? = some .dk) && Γ2.all noBo) = true then some (some Γ2) else none
        | some .dt => if (decide (Γ1[i]? = some .dt) && Γ2.all noBo) = true then some (some Γ2) else none
        | _ => none)
      | none => none)
    | none => none) else none
  | _ => none
theorem ss_put {i : Nat} {fk fe : Nfo → Fn} {mk me : Env → M D} (hk : Sn C T Φ fk mk) (he : Sn C T Φ fe me) : SnS C T Φ (csPut i fk fe) (fun ρ => .bind (me ρ) fun y => .bind (keysP Φ (.v i) ρ) fun r => .bind (.opt (getE ρ r.1 r.2)) fun _ => .bind (mk ρ) fun z => .bind (.opt (updE ρ r.1 r.2 (setD z y))) fun ρ' => .ret (.nx, ρ')) := by
  intro I X E G Γl τr Γ st o h Γ' ho
  unfold csPut at h
  split at h
  · split at h
    · rename_i hc
      rw [Bool.and_eq_true, Bool.and_eq_true] at hc
      obtain ⟨g1, g2, g3⟩ := hc
      obtain ⟨v1, v2, v3⟩ := vB_is g1
      split at h
      · rename_i Γ1 h1
        split at h
        · rename_i τ2 Γ2 h2
          have pe := (he I X E G Γ _).sh h1
          have pk := (hk I X E G Γ1 _).read h2
          split at h
          · rename_i ht
            split at h
            · rename_i hl
              rw [Bool.and_eq_true, decide_eq_true_eq] at hl
              cases h
              rcases ho with ho | ho
              · cases ho
              · cases ho
                exact vs_putL G v1 v2 v3 hl.1 ht hl.2 pe pk g2 g3
            · cases h
          · rename_i ht
            split at h
            · rename_i hl
              rw [Bool.and_eq_true, decide_eq_true_eq] at hl
              cases h
              rcases ho with ho | ho
              · cases ho
              · cases ho
                exact vs_putD (t := false) G v1 v2 v3 rfl hl.1 ht hl.2 pe pk g2 g3
            · cases h
          · rename_i ht
            split at h
            · rename_i hl
              rw [Bool.and_eq_true, decide_eq_true_eq] at hl
              cases h
              rcases ho with ho | ho
              · cases ho
              · cases ho
                exact vs_putD (t := true) G v1 v2 v3 rfl hl.1 ht hl.2 pe pk g2 g3
            · cases h
          · cases h
        · cases h
      · cases h
    · cases h
  · cases h
def csAug (i : Nat) (o : Op) (fe : Nfo → Fn) (I : Nfo) : SFn := fun _ _ Γ st => match st, o with
  | .AugAssign (.Name x _) .Add e _, .add => if (decide (I.N[i]? = some x) && (stB I x && decide (Γ[i]? = some .sh))) = true then (match lendR (fe I Γ e).1 with
    | some (_, Γ1) => if decide (i < Γ1.length) = true then some (some (Γ1.set i .sh)) else none
    | none => none) else none
  | .AugAssign (.Name x _) .Sub e _, .sub => if (decide (I.N[i]? = some x) && (stB I x && decide (Γ[i]? = some .sh))) = true then (match lendR (fe I Γ e).1 with
    | some (_, Γ1) => if decide (i < Γ1.length) = true then some (some (Γ1.set i .sh)) else none
    | none => none) else none
  | _, _ => none
theorem ss_aug {i : Nat} {o : Op} {fe : Nfo → Fn} {me : Env → M D} (he : Sn C T Φ fe me) : SnS C T Φ (csAug i o fe) (fun ρ => .bind (.opt (ρ[i]?.join)) fun x => .bind (me ρ) fun y => .bind (augD o x y) fun z => .ret (.nx, setE ρ i z)) := by
  intro I X E G Γl τr Γ st oo h Γ' ho
  unfold csAug at h
  split at h
  · split at h
    · rename_i hc
      rw [Bool.and_eq_true, Bool.and_eq_true, decide_eq_true_eq, decide_eq_true_eq] at hc
      split at h
      · rename_i h1
        split at h
        · rename_i hl
          rw [decide_eq_true_eq] at hl
          cases h
          rcases ho with ho | ho
          · cases ho
          · cases ho
            refine vs_aug (o := augD .add) G hc.1 hc.2.1 hc.2.2 ((he I X E G Γ _).read h1) ip_add hl fun O H x y dx dy Qd Ed Q hO rx ry hh s => ?_
            cases dx <;> cases dy <;> first | exact (hh : False).elim | skip
            have e1 := RepR.int rx; have e2 := ry.int
            subst e1 e2
            exact ⟨_, _, rfl, rfl, s.val hh (.int _)⟩
        · cases h
      · cases h
    · cases h
  · split at h
    · rename_i hc
      rw [Bool.and_eq_true, Bool.and_eq_true, decide_eq_true_eq, decide_eq_true_eq] at hc
      split at h
      · rename_i h1
        split at h
        · rename_i hl
          rw [decide_eq_true_eq] at hl
          cases h
          rcases ho with ho | ho
          · cases ho
          · cases ho
            refine vs_aug (o := augD .sub) G hc.1 hc.2.1 hc.2.2 ((he I X E G Γ _).read h1) ip_sub hl fun O H x y dx dy Qd Ed Q hO rx ry hh s => ?_
            cases dx <;> cases dy <;> first | exact (hh : False).elim | skip
            have e1 := RepR.int rx; have e2 := ry.int
            subst e1 e2
            exact ⟨_, _, rfl, rfl, s.val hh (.int _)⟩
        · cases h
      · cases h
    · cases h
  · cases h
end
end Wb

end
section
/-! Wb: the checker of statements: flow; all of it. -/
namespace Wb
open PySem PySem.Spec PyProof.Rows L2
section
variable {C : Cn} {T : List (Addr × Str)} {Φ : Fen}
def csPas (_ : Nfo) : SFn := fun _ _ Γ st => match st with
  | .Pass _ => some (some Γ)
  | _ => none
theorem ss_pas : SnS C T Φ csPas (fun ρ => .ret (.nx, ρ)) := by
  intro I X E G Γl τr Γ st o h Γ' ho
  unfold csPas at h
  split at h
  · cases h
    rcases ho with ho | ho
    · cases ho
    · cases ho; exact vs_pass
  · cases h
def csBrk (_ : Nfo) : SFn := fun Γl _ Γ st => match st with
  | .Break _ => if wkG Γ Γl = true then some none else none
  | _ => none
theorem ss_brk : SnS C T Φ csBrk (fun ρ => .ret (.bk, ρ)) := by
  intro I X E G Γl τr Γ st o h Γ' ho
  unfold csBrk at h
  split at h
  · split at h
    · rename_i hw
      exact vs_brk fun O Fs σ H ρ r => r.weak hw
    · cases h
  · cases h
def csCnt (_ : Nfo) : SFn := fun Γl _ Γ st => match st with
  | .Continue _ => if wkG Γ Γl = true then some none else none
  | _ => none
theorem ss_cnt : SnS C T Φ csCnt (fun ρ => .ret (.ct, ρ)) := by
  intro I X E G Γl τr Γ st o h Γ' ho
  unfold csCnt at h
  split at h
  · split at h
    · rename_i hw
      exact vs_cnt fun O Fs σ H ρ r => r.weak hw
    · cases h
  · cases h
def csRet (fe : Nfo → Fn) (I : Nfo) : SFn := fun _ τr Γ st => match st with
  | .Return (some e) _ => (match ownR τr (fe I Γ e).1 with
    | some _ => some none
    | none => none)
  | _ => none
theorem ss_ret {fe : Nfo → Fn} {me : Env → M D} (he : Sn C T Φ fe me) : SnS C T Φ (csRet fe) (fun ρ => .bind (me ρ) fun x => .ret (.rt x, ρ)) := by
  intro I X E G Γl τr Γ st o h Γ' ho
  unfold csRet at h
  split at h
  · split at h
    · rename_i h1
      exact vs_ret ((he I X E G Γ _).own h1)
    · cases h
  · cases h
def csRetN (_ : Nfo) : SFn := fun _ τr _ st => match st, τr with
  | .Return none _, .sh => some none
  | _, _ => none
theorem ss_retN : SnS C T Φ csRetN (fun ρ => .ret (.rt .non, ρ)) := by
  intro I X E G Γl τr Γ st o h Γ' ho
  unfold csRetN at h
  split at h
  · exact vs_retN
  · cases h
def csRaise (c : Str) (I : Nfo) : SFn := fun _ _ _ st => match st with
  | .Raise (some (.Call (.Name y _) [.Constant (.str _) _ _] [] _)) none _ => if (decide (y = c) && (decide (c ∈ I.tab.exs) && (glB I.sc c && dbgB c))) = true then some none else none
  | _ => none
theorem ss_raise {c : Str} : SnS C T Φ (csRaise c) (fun _ => .throw ⟨c, none⟩) := by
  intro I X E G Γl τr Γ st o h Γ' ho
  unfold csRaise at h
  split at h
  · split at h
    · rename_i hb
      simp only [Bool.and_eq_true, decide_eq_true_eq] at hb
      obtain ⟨rfl, g1, g2, g3⟩ := hb
      exact vs_raise G g1 g2 g3
    · cases h
  · cases h
def csExp (fe : Nfo → Fn) (I : Nfo) : SFn := fun _ _ Γ st => match st with
  | .Expr e _ => if ncpB e = true then (match lendR (fe I Γ e).1 with
    | some (_, Γ1) => some (some Γ1)
    | none => none) else none
  | _ => none
theorem ss_exp {fe : Nfo → Fn} {me : Env → M D} (he : Sn C T Φ fe me) : SnS C T Φ (csExp fe) (fun ρ => .bind (me ρ) fun _ => .ret (.nx, ρ)) := by
  intro I X E G Γl τr Γ st o h Γ' ho
  unfold csExp at h
  split at h
  · split at h
    · rename_i hb
      split at h
      · rename_i h1
        cases h
        rcases ho with ho | ho
        · cases ho
        · cases ho; exact vs_exp ((he I X E G Γ _).read h1) hb
      · cases h
    · cases h
  · cases h
/-! ### the draws -/
def csTokDiv (i : Nat) (fe : Nfo → Fn) (I : Nfo) : SFn := fun _ _ Γ st => match st with
  | .Assign [.Subscript (.Name x _) (.Constant (.str k) _ _) _] (.BinOp (.Subscript (.Name y _) (.Constant (.str k2) _ _) _) .FloorDiv e _) _ => if (decide (k = "whole") && (decide (k2 = "whole") && (decide (x = y) && vB I i y))) = true then (match lendR (fe I Γ e).1 with
    | some (_, Γ1) => some (some Γ1)
    | none => none) else none
  | _ => none
theorem ss_tokDiv {i : Nat} {fe : Nfo → Fn} {me : Env → M D} (he : Sn C T Φ fe me) : SnS C T Φ (csTokDiv i fe) (fun ρ => .bind (.opt (ρ[i]?.join)) fun x => match x with
    | .tok => .bind (me ρ) fun y => match y with
      | .int j => .need (CDivW 0 j) (.ret (.nx, ρ))
      | _ => .fail
    | _ => .fail) := by
  intro I X E G Γl τr Γ st o h Γ' ho
  unfold csTokDiv at h
  split at h
  · split at h
    · rename_i hb
      simp only [Bool.and_eq_true, decide_eq_true_eq] at hb
      obtain ⟨rfl, rfl, rfl, g⟩ := hb
      obtain ⟨v1, v2, v3⟩ := vB_is g
      split at h
      · rename_i h1
        cases h
        rcases ho with ho | ho
        · cases ho
        · cases ho; exact vs_tokDiv G v1 v2 v3 ((he I X E G Γ _).read h1)
      · cases h
    · cases h
  · cases h
def csTokInc (i : Nat) (I : Nfo) : SFn := fun _ _ Γ st => match st with
  | .Assign [.Subscript (.Name x _) (.Constant (.str k) _ _) _] (.BinOp (.Subscript (.Name y _) (.Constant (.str k2) _ _) _) .Add (.Constant (.int n) _ _) _) _ => if (decide (k = "count") && (decide (k2 = "count") && (decide (x = y) && (decide (n = 1) && vB I i y)))) = true then some (some Γ) else none
  | _ => none
theorem ss_tokInc {i : Nat} : SnS C T Φ (csTokInc i) (fun ρ => .bind (.opt (ρ[i]?.join)) fun x => match x with
    | .tok => .ret (.nx, ρ)
    | _ => .fail) := by
  intro I X E G Γl τr Γ st o h Γ' ho
  unfold csTokInc at h
  split at h
  · split at h
    · rename_i hb
      simp only [Bool.and_eq_true, decide_eq_true_eq] at hb
      obtain ⟨rfl, rfl, rfl, rfl, g⟩ := hb
      obtain ⟨v1, v2, v3⟩ := vB_is g
      cases h
      rcases ho with ho | ho
      · cases ho
      · cases ho; exact vs_tokInc G v1 v2 v3
    · cases h
  · cases h
/-! ### if, while, for -/
/-- what both ends may be taken for -/
def meetO (a b : Ow) : Ow := if decide (a = b) = true then a else .sh
def meetG : List Ow → List Ow → List Ow
  | a :: r, b :: s => meetO a b :: meetG r s
  | _, _ => []
def joinR (oa ob : Option (List Ow)) : Option (Option (List Ow)) := match oa, ob with
  | none, none => some none
  | some Γa, none => some (some Γa)
  | none, some Γb => some (some Γb)
  | some Γa, some Γb => if (wkG Γa (meetG Γa Γb) && wkG Γb (meetG Γa Γb)) = true then some (some (meetG Γa Γb)) else none
theorem wkG_refl : ∀ Γ : List Ow, wkG Γ Γ = true
  | [] => rfl
  | τ :: r => by
    unfold wkG
    rw [wkG_refl r]
    unfold wkO
    simp
theorem joinR_ok {oa ob o : Option (List Ow)} (h : joinR oa ob = some o) {Γ' : List Ow} (ho : o = none ∨ o = some Γ') : (oa = none ∨ ∃ Γa, oa = some Γa ∧ wkG Γa Γ' = true) ∧ (ob = none ∨ ∃ Γb, ob = some Γb ∧ wkG Γb Γ' = true) := by
  cases oa with
  | none =>
    cases ob with
    | none => exact ⟨.inl rfl, .inl rfl⟩
    | some Γb =>
      cases h
      rcases ho with ho | ho
      · cases ho
      · cases ho; exact ⟨.inl rfl, .inr ⟨_, rfl, wkG_refl _⟩⟩
  | some Γa =>
    cases ob with
    | none =>
      cases h
      rcases ho with ho | ho
      · cases ho
      · cases ho; exact ⟨.inr ⟨_, rfl, wkG_refl _⟩, .inl rfl⟩
    | some Γb =>
      simp only [joinR] at h
      split at h
      · rename_i hb
        rw [Bool.and_eq_true] at hb
        cases h
        rcases ho with ho | ho
        · cases ho
        · cases ho; exact ⟨.inr ⟨_, rfl, hb.1⟩, .inr ⟨_, rfl, hb.2⟩⟩
      · cases h
theorem SnSs.at {f : Nfo → SsFn} {m : Env → M (Fl × Env)} (h : SnSs C T Φ f m) {I : Nfo} {X : Cx} {E : XK} (G : Gd X C T E Φ I) {Γl : List Ow} {τr : Ow} {Γ : List Ow} {st : List Stmt} {oa : Option (List Ow)} (e : f I Γl τr Γ st = some oa) {Γ' : List Ow} (hw : oa = none ∨ ∃ Γa, oa = some Γa ∧ wkG Γa Γ' = true) : PSs X st (tS C T E τr Γl Γ Γ' m) := by
  rcases hw with hw | ⟨Γa, hw, w⟩
  · exact h I X E G Γl τr Γ st oa e Γ' (.inl hw)
  · exact vs_weak (h I X E G Γl τr Γ st oa e Γa (.inr hw)) w
def csIf (ft : Nfo → Fn) (fa fb : Nfo → SsFn) (I : Nfo) : SFn := fun Γl τr Γ st => match st with
  | .If c a b _ => (match (ft I Γ c).2 with
    | some Γ1 => (match fa I Γl τr Γ1 a, fb I Γl τr Γ1 b with
      | some oa, some ob => joinR oa ob
      | _, _ => none)
    | none => none)
  | _ => none
theorem ss_if {ft : Nfo → Fn} {fa fb : Nfo → SsFn} {mt : Env → M D} {ma mb : Env → M (Fl × Env)} (ht : Sn C T Φ ft mt) (ha : SnSs C T Φ fa ma) (hb : SnSs C T Φ fb mb) : SnS C T Φ (csIf ft fa fb) (fun ρ => .bind (mt ρ) fun x => .bind (truthD x) fun c => if c = true then ma ρ else mb ρ) := by
  intro I X E G Γl τr Γ st o h Γ' ho
  unfold csIf at h
  split at h
  · split at h
    · rename_i Γ1 h1
      split at h
      · rename_i oa ob h2 h3
        obtain ⟨w1, w2⟩ := joinR_ok h ho
        exact vs_if ((ht I X E G Γ _).t Γ1 h1) (ha.at G h2 w1) (hb.at G h3 w2)
      · cases h
    · cases h
  · cases h
def csWhl (ft : Nfo → Fn) (fb : Nfo → SsFn) (I : Nfo) : SFn := fun _ τr Γ st => match st with
  | .While c b [] _ => if decide ((ft I Γ c).2 = some Γ) = true then (match fb I Γ τr Γ b with
    | some (some Γb) => if wkG Γb Γ = true then some (some Γ) else none
    | some none => some (some Γ)
    | none => none) else none
  | _ => none
theorem ss_whl {ft : Nfo → Fn} {fb : Nfo → SsFn} {mt : Env → M D} {mb : Env → M (Fl × Env)} (ht : Sn C T Φ ft mt) (hb : SnSs C T Φ fb mb) : SnS C T Φ (csWhl ft fb) (fun ρ => fun Q E => ∃ n, whlN (fun ρ => .bind (mt ρ) truthD) mb n ρ Q E) := by
  intro I X E G Γl τr Γ st o h Γ' ho
  unfold csWhl at h
  split at h
  · split at h
    · rename_i hc
      rw [decide_eq_true_eq] at hc
      have pt := (ht I X E G Γ _).t Γ hc
      split at h
      · rename_i Γb h2
        split at h
        · rename_i w
          cases h
          rcases ho with ho | ho
          · cases ho
          · cases ho; exact vs_whl G pt (hb.at G h2 (.inr ⟨_, rfl, w⟩))
        · cases h
      · rename_i h2
        cases h
        rcases ho with ho | ho
        · cases ho
        · cases ho; exact vs_whl G pt (hb.at G h2 (.inl rfl))
      · cases h
    · cases h
  · cases h
def csFor (t : Tg) (fi : Nfo → IFn) (fb : Nfo → SsFn) (I : Nfo) : SFn := fun _ τr Γ st => match st with
  | .For tg iter b [] _ => (match fi I Γ tg iter with
    | some (true, Γ1) => if (ckG t I Γ1 tg && nsetB iter) = true then (match fb I Γ1 τr Γ1 b with
      | some (some Γb) => if wkG Γb Γ1 = true then some (some Γ1) else none
      | some none => some (some Γ1)
      | none => none) else none
    | _ => none)
  | _ => none
theorem ss_for {t : Tg} {fi : Nfo → IFn} {fb : Nfo → SsFn} {mi : Env → M (List D)} {mb : Env → M (Fl × Env)} (hi : SnI C T Φ fi mi) (hb : SnSs C T Φ fb mb) : SnS C T Φ (csFor t fi fb) (fun ρ => .bind (mi ρ) fun items => forL (fun d ρ' => .bind (asgT t d ρ') fun ρ1 => mb ρ1) items ρ) := by
  intro I X E G Γl τr Γ st o h Γ' ho
  unfold csFor at h
  split at h
  · split at h
    · rename_i Γ1 h1
      split at h
      · rename_i hc
        rw [Bool.and_eq_true] at hc
        have pi := hi I X E G Γ _ _ true Γ1 h1
        have pg := ckG_ok (Φ := Φ) (C := C) (T := T) t G hc.1
        split at h
        · rename_i Γb h2
          split at h
          · rename_i w
            cases h
            rcases ho with ho | ho
            · cases ho
            · cases ho; exact vs_for G pi pg (hb.at G h2 (.inr ⟨_, rfl, w⟩)) hc.2
          · cases h
        · rename_i h2
          cases h
          rcases ho with ho | ho
          · cases ho
          · cases ho; exact vs_for G pi pg (hb.at G h2 (.inl rfl)) hc.2
        · cases h
      · cases h
    · cases h
  · cases h
/-! ### dicts walked, moves -/
def csForK (t : Tg) (i : Nat) (fb : Nfo → SsFn) (I : Nfo) : SFn := fun _ τr Γ st => match st with
  | .For tg (.Name x _) b [] _ => (match Γ[i]? with
    | some τ => if (vB I i x && ((decide (τ = .dt) || decide (τ = .dk)) && ((Γ.set i .sh).all noBo && ckG t I (Γ.set i .sh) tg))) = true then (match fb I (Γ.set i .sh) τr (Γ.set i .sh) b with
      | some (some Γb) => if wkG Γb (Γ.set i .sh) = true then some (some (Γ.set i .sh)) else none
      | some none => some (some (Γ.set i .sh))
      | none => none) else none
    | none => none)
  | _ => none
theorem ss_forK {t : Tg} {i : Nat} {fb : Nfo → SsFn} {mb : Env → M (Fl × Env)} (hb : SnSs C T Φ fb mb) : SnS C T Φ (csForK t i fb) (fun ρ => .bind (.opt (ρ[i]?.join)) fun x => match x with
    | .dct _ kvs => .bind (.nox (forL (fun d ρ' => .bind (asgT t d ρ') fun ρ1 => mb ρ1) (kvs.map (·.1)) ρ)) fun r => match r with
      | (.nx, ρ') => .ret (.nx, ρ')
      | _ => .fail
    | _ => .fail) := by
  intro I X E G Γl τr Γ st o h Γ' ho
  unfold csForK at h
  split at h
  · split at h
    · rename_i τ ht
      split at h
      · rename_i hc
        rw [Bool.and_eq_true, Bool.and_eq_true, Bool.and_eq_true, Bool.or_eq_true, decide_eq_true_eq, decide_eq_true_eq] at hc
        obtain ⟨v, hτ, nb, hg⟩ := hc
        obtain ⟨v1, v2, v3⟩ := vB_is v
        have pg := ckG_ok (Φ := Φ) (C := C) (T := T) t G hg
        split at h
        · rename_i Γb h2
          split at h
          · rename_i w
            cases h
            rcases ho with ho | ho
            · cases ho
            · cases ho; exact vs_forK G v1 v2 v3 ht hτ nb pg (hb.at G h2 (.inr ⟨_, rfl, w⟩))
          · cases h
        · rename_i h2
          cases h
          rcases ho with ho | ho
          · cases ho
          · cases ho; exact vs_forK G v1 v2 v3 ht hτ nb pg (hb.at G h2 (.inl rfl))
        · cases h
      · cases h
    · cases h
  · cases h
def csMv (i j : Nat) (I : Nfo) : SFn := fun _ _ Γ st => match st with
  | .Assign [.Name x _] (.Name y _) _ => (match Γ[j]? with
    | some τ => if (decide (I.N[i]? = some x) && (stB I x && (vB I j y && decide (i < Γ.length)))) = true then some (some (Γ.set i τ)) else none
    | none => none)
  | _ => none
theorem ss_mv {i j : Nat} : SnS C T Φ (csMv i j) (fun ρ => .bind (.opt (ρ[j]?.join)) fun d => .ret (.nx, setE (ρ.set j none) i d)) := by
  intro I X E G Γl τr Γ st o h Γ' ho
  unfold csMv at h
  split at h
  · split at h
    · rename_i τ ht
      split at h
      · rename_i hc
        rw [Bool.and_eq_true, Bool.and_eq_true, Bool.and_eq_true, decide_eq_true_eq, decide_eq_true_eq] at hc
        obtain ⟨a1, a2, a3, a4⟩ := hc
        obtain ⟨v1, v2, v3⟩ := vB_is a3
        cases h
        rcases ho with ho | ho
        · cases ho
        · cases ho; exact vs_mv G a1 v1 a2 v2 v3 ht a4 (swaps_no rfl)
      · cases h
    · cases h
  · cases h
/-! ### all -/
def csNo (_ : Nfo) : SFn := fun _ _ _ _ => none
theorem ss_no {m : Env → M (Fl × Env)} : SnS C T Φ csNo m := fun I X E G Γl τr Γ st o h => nomatch h
/-- by the comprehension's own way where it goes, else as any other -/
def csSetA (i : Nat) (τ : Ow) (f1 f2 : Nfo → SFn) (I : Nfo) : SFn := fun Γl τr Γ st => match f1 I Γl τr Γ st with
  | some (some Γ') => if decide (Γ'[i]? = some τ) = true then some (some Γ') else if (decide (τ = .sh) && wkG Γ' (Γ'.set i .sh)) = true then some (some (Γ'.set i .sh)) else none
  | _ => f2 I Γl τr Γ st
def isNil : Sms → Bool
  | .nil => true
  | _ => false
mutual
def ckS : Sm → Nfo → SFn
  | .set i τ (.comp own e tg it fs) => csSetA i τ (csSetLc i own tg (ckIt it) (ckF fs) (ckP e)) (csSet i τ (ckP (.comp own e tg it fs)))
  | .set i τ (.comp2 own own1 e tg it fs tg1 it1 fs1) => csSetA i τ (csSetLc2 i own own1 tg (ckIt it) (ckF fs) tg1 (ckIt it1) (ckF fs1) (ckP e)) (csSet i τ (ckP (.comp2 own own1 e tg it fs tg1 it1 fs1)))
  | .set i τ e => csSet i τ (ckP e)
  | .asg tg e => csAsg tg (ckP e)
  | .par2 i j ti tj a b => csPar2 i j ti tj (ckP a) (ckP b)
  | .par3 i j k ti tj tk a b c => csPar3 i j k ti tj tk (ckP a) (ckP b) (ckP c)
  | .parP .. => csNo
  | .app (.v i) e => csApp i (ckP e)
  | .app (.s _ _) _ => csNo
  | .put (.v i) k e => csPut i (ckP k) (ckP e)
  | .put (.s _ _) _ _ => csNo
  | .pop i (.v j) => csPop i j
  | .pop _ (.s _ _) => csNo
  | .swap .. => csNo
  | .aug i o e => csAug i o (ckP e)
  | .augP .. => csNo
  | .ife t a b => csIf (ckP t) (ckSs a) (ckSs b)
  | .for_ tg it b => csFor tg (ckIt it) (ckSs b)
  | .whl t b => csWhl (ckP t) (ckSs b)
  | .ret e => csRet (ckP e)
  | .retN => csRetN
  | .brk => csBrk
  | .cnt => csCnt
  | .pas => csPas
  | .raise c .none => csRaise c
  | .raise _ (.some _) => csNo
  | .exp e => csExp (ckP e)
  | .tokDiv i e => csTokDiv i (ckP e)
  | .tokInc i => csTokInc i
  | .mv i j => csMv i j
  | .forK tg i b => csForK tg i (ckSs b)
  | .never => csNo
def ckSs : Sms → Nfo → SsFn
  | .nil => csNil
  | .cons .never .nil => csNever
  | .cons s r => csCons (ckS s) (ckSs r) (isNil r)
end
theorem SnS.to {f f' : Nfo → SFn} {m m' : Env → M (Fl × Env)} (h : SnS C T Φ f m) (e1 : f' = f) (e2 : m' = m) : SnS C T Φ f' m' := by rw [e1, e2]; exact h
theorem SnSs.to {f f' : Nfo → SsFn} {m m' : Env → M (Fl × Env)} (h : SnSs C T Φ f m) (e1 : f' = f) (e2 : m' = m) : SnSs C T Φ f' m' := by rw [e1, e2]; exact h
theorem vs_weakS {X : Cx} {E : XK} {st : Stmt} {Γl Γ Γ1 Γ' : List Ow} {τr : Ow} {ms : Env → M (Fl × Env)} (h : PS X st (tS C T E τr Γl Γ Γ1 ms)) (w : wkG Γ1 Γ' = true) : PS X st (tS C T E τr Γl Γ Γ' ms) := h.imp fun D σ H ⟨O, Fs, ρ, Qd, Ed, r, hm, x, k1, k2, k3, k4⟩ =>
  ⟨O, Fs, ρ, Qd, Ed, r, hm, x, fun ρ' σ' H' Fs' hq t r' => by
    obtain ⟨Fs2, r2, t2⟩ := Rl.weak w r'
    exact k1 ρ' σ' H' Fs2 hq (t.trans t2) r2, k2, k3, k4⟩
theorem ss_setA {i : Nat} {τ : Ow} {f1 f2 : Nfo → SFn} {m : Env → M (Fl × Env)} (h1 : SnS C T Φ f1 m) (h2 : SnS C T Φ f2 m) : SnS C T Φ (csSetA i τ f1 f2) m := by
  intro I X E G Γl τr Γ st o h Γ' ho
  unfold csSetA at h
  split at h
  · rename_i Γ2 e
    split at h
    · cases h
      exact h1 I X E G Γl τr Γ st _ e Γ' ho
    · split at h
      · rename_i hw
        rw [Bool.and_eq_true] at hw
        cases h
        rcases ho with ho | ho
        · cases ho
        · cases ho
          exact vs_weakS (h1 I X E G Γl τr Γ st _ e Γ2 (.inr rfl)) hw.2
      · cases h
  · exact h2 I X E G Γl τr Γ st o h Γ' ho
mutual
theorem ckS_ok : ∀ s : Sm, SnS C T Φ (ckS s) (evS Φ s)
  | .set i τ e => by
    have h : SnS C T Φ (csSet i τ (ckP e)) (evS Φ (.set i τ e)) := (ss_set (ckP_ok e)).to rfl (by funext ρ; rw [evS])
    cases e <;> first
      | exact h.to rfl rfl
      | skip
    · rename_i own e tg it fs
      refine SnS.to (ss_setA (i := i) (τ := τ) (m := evS Φ (.set i τ (.comp own e tg it fs))) ?_ h) (by rw [ckS]) rfl
      exact (ss_setLc (i := i) (own := own) (t := tg) (ckIt_ok it) (ckF_ok fs) (ckP_ok e)).to rfl (by funext ρ; rw [evS, evE]; rfl)
    · rename_i own own1 e tg it fs tg1 it1 fs1
      refine SnS.to (ss_setA (i := i) (τ := τ) (m := evS Φ (.set i τ (.comp2 own own1 e tg it fs tg1 it1 fs1))) ?_ h) (by rw [ckS]) rfl
      exact (ss_setLc2 (i := i) (own := own) (own1 := own1) (t := tg) (t1 := tg1) (ckIt_ok it) (ckF_ok fs) (ckIt_ok it1) (ckF_ok fs1) (ckP_ok e)).to rfl (by funext ρ; rw [evS, evE]; rfl)
  | .asg tg e => (ss_asg (ckP_ok e)).to (by rw [ckS]) (by funext ρ; rw [evS])
  | .par2 i j ti tj a b => (ss_par2 (ckP_ok a) (ckP_ok b)).to (by rw [ckS]) (by funext ρ; rw [evS])
  | .par3 i j k ti tj tk a b c => (ss_par3 (ckP_ok a) (ckP_ok b) (ckP_ok c)).to (by rw [ckS]) (by funext ρ; rw [evS])
  | .parP .. => ss_no.to (by rw [ckS]) rfl
  | .app (.v i) e => (ss_app (ckP_ok e)).to (by rw [ckS]) (by funext ρ; rw [evS])
  | .app (.s _ _) _ => ss_no.to (by rw [ckS]) rfl
  | .put (.v i) k e => (ss_put (ckP_ok k) (ckP_ok e)).to (by rw [ckS]) (by funext ρ; rw [evS])
  | .put (.s _ _) _ _ => ss_no.to (by rw [ckS]) rfl
  | .pop i (.v j) => ss_pop.to (by rw [ckS]) (by funext ρ; rw [evS])
  | .pop _ (.s _ _) => ss_no.to (by rw [ckS]) rfl
  | .swap .. => ss_no.to (by rw [ckS]) rfl
  | .aug i o e => (ss_aug (ckP_ok e)).to (by rw [ckS]) (by funext ρ; rw [evS])
  | .augP .. => ss_no.to (by rw [ckS]) rfl
  | .ife t a b => (ss_if (ckP_ok t) (ckSs_ok a) (ckSs_ok b)).to (by rw [ckS]) (by funext ρ; rw [evS])
  | .for_ tg it b => (ss_for (ckIt_ok it) (ckSs_ok b)).to (by rw [ckS]) (by funext ρ; rw [evS])
  | .whl t b => (ss_whl (ckP_ok t) (ckSs_ok b)).to (by rw [ckS]) (by funext ρ; rw [evS])
  | .ret e => (ss_ret (ckP_ok e)).to (by rw [ckS]) (by funext ρ; rw [evS])
  | .retN => ss_retN.to (by rw [ckS]) (by funext ρ; rw [evS])
  | .brk => ss_brk.to (by rw [ckS]) (by funext ρ; rw [evS])
  | .cnt => ss_cnt.to (by rw [ckS]) (by funext ρ; rw [evS])
  | .pas => ss_pas.to (by rw [ckS]) (by funext ρ; rw [evS])
  | .raise c .none => ss_raise.to (by rw [ckS]) (by funext ρ; rw [evS])
  | .raise _ (.some _) => ss_no.to (by rw [ckS]) rfl
  | .exp e => (ss_exp (ckP_ok e)).to (by rw [ckS]) (by funext ρ; rw [evS])
  | .tokDiv i e => (ss_tokDiv (ckP_ok e)).to (by rw [ckS]) (by funext ρ; rw [evS] <;> rfl)
  | .tokInc i => ss_tokInc.to (by rw [ckS]) (by funext ρ; rw [evS] <;> rfl)
  | .mv i j => ss_mv.to (by rw [ckS]) (by funext ρ; rw [evS])
  | .forK tg i b => (ss_forK (ckSs_ok b)).to (by rw [ckS]) (by funext ρ; rw [evS] <;> rfl)
  | .never => ss_no.to (by rw [ckS]) rfl
theorem ckSs_ok : ∀ b : Sms, SnSs C T Φ (ckSs b) (evB Φ b)
  | .nil => ss_nil.to (by rw [ckSs]) (by funext ρ; rw [evB])
  | .cons .never .nil => ss_never.to (by rw [ckSs]) (by funext ρ; rw [evB, evS]; rfl)
  | .cons s r => by
    have hl : isNil r = true → evB Φ r = fun ρ => .ret (.nx, ρ) := fun h => by
      cases r with
      | nil => funext ρ; rw [evB]
      | cons _ _ => cases h
    have h : SnSs C T Φ (csCons (ckS s) (ckSs r) (isNil r)) (evB Φ (.cons s r)) := (ss_cons (ckS_ok s) (ckSs_ok r) hl).to rfl (by funext ρ; rw [evB] <;> rfl)
    have hn : SnSs C T Φ csNever (evB Φ (.cons .never .nil)) := ss_never.to rfl (by funext ρ; rw [evB, evS]; rfl)
    cases r with
    | nil =>
      cases s <;> first
        | exact hn.to (by rw [ckSs]) rfl
        | exact h.to rfl rfl
    | cons s' r' => exact h.to (by cases s <;> rfl) rfl
end
end
end Wb

end
section
/-! Wb: a def that passes the checker keeps its promise. -/
namespace Wb
open PySem PySem.Spec PyProof.Rows L2
section
variable {C : Cn} {T : List (Addr × Str)} {Φ : Fen} {P : Program} {w : World} {K : PySem.W.Frag} {mg : Str → Option Value} {base : Heap}
/-- the table of code objects of a def that makes lambdas -/
structure LamD (K : PySem.W.Frag) (mg : Str → Option Value) (base : Heap) (T : List (Addr × Str)) (cdv : Value) (qual : Str) : Prop where
  ex : ∃ c P : Addr, cdv = .ref c ∧ LamX.TabB base mg c P ∧ (P, (qual ++ ".<locals>.") ++ "<lambda>") ∈ T ∧ ∀ p ∈ T, p.1 = P → p.2 = (qual ++ ".<locals>.") ++ "<lambda>"
/-- the body of the def that tries what it gets -/
def CauBody (bg : List Stmt) : Prop := ∃ (j : Nat) (p1 p2 p3 p4 p5 p6 p7 p8 p9 p10 p11 p12 p13 p14 : Pos),
  bg = [.Assign [.Name "caught" p1] (.Constant .none j p2) p3, .Try [.Expr (.Call (.Name "work" p4) [] [] p5) p6] [.ExceptHandler (some (.Name "WordError" p7)) (some "error") [.Assign [.Name "caught" p8] (.Name "error" p9) p10] p11] [] [] p12, .Return (some (.Name "caught" p13)) p14]
structure CauD (K : PySem.W.Frag) (mg : Str → Option Value) (leaf : List Str) : Prop where
  ex : ∃ CS : Addr, (∃ (g : Addr) (pg : Arguments) (bg : List Stmt) (sg : Scope) (dV kV doc pm cdv ct oc : Value) (an od : Option Addr) (osl : Array (Option Value)),
      mg "_law_caught" = some (.ref g) ∧ PySem.W.keepIn K (.ref g) = true ∧ K.lookup g = some ⟨oc, od, .func (PySem.W.fnOf "_law_caught" "_law_caught" pg bg sg dV kV doc pm an cdv ct), osl⟩ ∧ PySem.W.codeIn K cdv "_law_caught" = true ∧
      L2.Binds K (PySem.W.fnOf "_law_caught" "_law_caught" pg bg sg dV kV doc pm an cdv ct) ["work"] [] ∧ FnScope ["work", "caught", "error"] ["work"] sg ∧ CauBody bg ∧ sg.names.lookup ("WordError" : Str) = some .globalImplicit ∧ mg "WordError" = some (.ref CS) ∧
      sg.names.lookup ("caught" : Str) = some .local ∧ sg.names.lookup ("error" : Str) = some .local ∧ Vis sg "work") ∧
    ∀ x ∈ leaf, ∃ D, mg x = some (.ref D) ∧ PySem.W.exmOne K (.ref D) (.ref CS) = some true ∧ ExcC K D ∧ PySem.W.kitOne K (.type "NoneType") (.ref D) = some false ∧ ∀ z ∈ leaf, ∃ A, mg z = some (.ref A) ∧ PySem.W.kitOne K (.ref D) (.ref A) = some (decide (x = z))
/-- what is known of the text around a def of level lv -/
structure Ad (C : Cn) (T : List (Addr × Str)) (Φ : Fen) (P : Program) (w : World) (K : PySem.W.Frag) (mg : Str → Option Value) (base : Heap) (tab : Tab) (lv : Nat) : Prop where
  hK : C.K = K
  hC : C.mg = mg
  gi : ∀ x n, tab.gi.lookup x = some n → ∃ t, mg x = some (.int n t)
  abs : ∀ x ∈ tab.abs, mg x = none
  exs : ∀ x ∈ tab.exs, ∃ (A : Addr) (bmB : List Value) (B newId initId : String), ExcBaseFacts B newId initId bmB ∧ PySem.W.excIn K A bmB newId = true ∧ mg x = some (.ref A) ∧ PySem.W.keepIn K (.ref A) = true ∧ PySem.W.subIn K (.ref A) (.type "BaseException") = some true ∧ PySem.W.typeIn K (.ref A) = some (.type "type")
  fns : ∀ i fi, tab.fns[i]? = some fi → i < lv → ∃ (a : Addr) (fd : FuncData), mg fi.name = some (.ref a) ∧ PySem.W.keepIn K (.ref a) = true ∧ (∃ (oc : Value) (od : Option Addr) (osl : Array (Option Value)), K.lookup a = some ⟨oc, od, .func fd, osl⟩) ∧ FnOk P w K mg base (L2.CX P w) (3 * i + 3) a fd fi.ps (spOf C T fi.ret (Φ i) fi.ps.length) ∧
    (∀ k ∈ fi.ar, ∃ (dvs : List V) (ds : List Value) (dd : List D), k + dvs.length = fi.ps.length ∧ Binds K fd fi.ps ds ∧ Vals dvs ds ∧ (∀ H O, RepSs C H O dvs dd) ∧ ∀ xs Q E, xs.length = k → Φ i xs Q E → Φ i (xs ++ dd) Q E) ∧
    ∀ q ∈ fi.kws, q.2.2.length = fi.ps.length ∧ (∀ j ∈ q.2.2, j < q.1 + q.2.1.length) ∧ KBn K fd fi.ps q.1 q.2.1 (fun us ws => pmL q.2.2 (us ++ ws)) (fun us ws => pmL q.2.2 (us ++ ws))
theorem Ad.gd {tab : Tab} {lv : Nat} {lam : Bool} (A0 : Ad C T Φ P w K mg base tab lv) {X : Cx} {E : XK} {N : List Str} {sc : Scope} {fn : Str → Bool} {qual : Str} (h1 : X.prog = P) (h2 : X.w = w) (h3 : X.K = K) (h4 : X.mg = mg) (h5 : X.base = base) (calm : X.calm = true) (nd : N.Nodup) (hN : X.N = N) (hs : X.env.scope = sc) (hk : sc.kind = .function) (hf : X.fn = fn)
    (own : PassesOwn (model X.prog X.w) X.A X.env X.xe) (room : Room (3 * lv + cond lam 2 0) X.A) (tk : Takes X (fun cls d _ H => E cls d H)) (hq : X.env.qual = qual ++ ".<locals>.") (hl : lam = true → LamD K mg base T X.env.code qual ∧ CauD K mg tab.leaf) : Gd X C T E Φ ⟨N, sc, fn, tab, lv, lam⟩ := by
  subst h1 h2 h3 h4 h5
  exact ⟨A0.hK, A0.hC, calm, by rw [hN]; exact nd, hN, hs, hk, hf, own, room, tk, A0.gi, A0.abs, fun x hx => by
    obtain ⟨A, bmB, B, nI, iI, F, q, g, k, s1, s2⟩ := A0.exs x hx
    exact ⟨A, bmB, B, nI, iI, F, q, g, k, raises_own s1 s2⟩, fun i fi h hi => by
    obtain ⟨a, fd, m, k, _, ok, ar, kw⟩ := A0.fns i fi h hi
    exact ⟨a, fd, ⟨m, k, ok, ar, kw⟩⟩, fun h => by
    obtain ⟨LD, CD⟩ := hl h
    obtain ⟨c, Pt, ec, tb, hm, hu⟩ := LD.ex
    obtain ⟨CS, ⟨g, pg, bg, sg, dV, kV, doc, pm, cdv, ct, oc, an, od, osl, m1, k1, lk, cg, bi, Sg, ⟨j, p1, p2, p3, p4, p5, p6, p7, p8, p9, p10, p11, p12, p13, p14, eb⟩, ge, me, l1, l2, vi⟩, lf⟩ := CD.ex
    subst eb
    have eq : lamQ X = (qual ++ ".<locals>.") ++ "<lambda>" := by show X.env.qual ++ _ = _; rw [hq]
    exact ⟨CS, ⟨g, c, Pt, "work", ["work", "caught", "error"], pg, _, sg, dV, kV, doc, pm, cdv, ct, oc, an, od, osl, m1, k1, lk, cg, bi, Sg, rfl, vi, by decide, caught_gives (by decide) ge me (by decide) l1 l2 (by decide) (by decide), tb, ec, by rw [eq]; exact hm, fun p hp e => by rw [eq]; exact hu p hp e⟩, lf⟩⟩
def allSh : List Ow → Nat → Bool
  | _, 0 => true
  | .sh :: r, n + 1 => allSh r n
  | _, _ => false
theorem allSh_is : ∀ {Γ : List Ow} {n j : Nat}, allSh Γ n = true → j < n → Γ[j]? = some .sh
  | [], 0, j, _, h => by omega
  | [], n + 1, j, h, _ => by simp [allSh] at h
  | τ :: r, 0, j, _, h => by omega
  | τ :: r, n + 1, j, h, hj => by
    cases τ <;> first | (simp [allSh] at h; done) | skip
    cases j with
    | zero => rfl
    | succ j => simpa using allSh_is (Γ := r) (n := n) (j := j) (by simpa [allSh] using h) (by omega)
theorem start_rl {H : Hp} {O : Addr → Prop} {N : List Str} {vs : List V} {ds : List D} {Γ : List Ow} (tb : LamX.Tabs T H) (ok : ∀ a, O a → ∃ o, H a = some o ∧ ownable o) (q : RepSs C H O vs ds) (hl : Γ.length = N.length) (hle : vs.length ≤ N.length) (hs : allSh Γ vs.length = true) :
    Rl C T O Γ (fun _ => []) (L2.start N vs) H (ds.map some ++ List.replicate (N.length - ds.length) none) := by
  have no : ∀ a, ¬ Ownd (fun _ => []) a := fun a ⟨_, z⟩ => absurd z (by simp)
  have e : Oall O (fun _ => []) = O := funext fun a => propext ⟨fun h => h.elim id fun z => absurd z (no a), .inl⟩
  refine ⟨?_, ?_, fun i d hi => ?_, fun _ => List.nodup_nil, fun i j a h => absurd h (by simp), fun i a h => absurd h (by simp), fun a h => ok a (by rw [e] at h; exact h), tb⟩
  · unfold L2.start
    simp [q.length]
  · simp [hl, ← q.length]
    omega
  · have hi' : i < ds.length := by
      by_cases h : i < ds.length
      · exact h
      · rw [List.getElem?_append_right (by simpa using h), List.getElem?_replicate] at hi
        split at hi <;> cases hi
    rw [List.getElem?_append_left (by simpa using hi'), List.getElem?_map, Option.map_eq_some_iff] at hi
    obtain ⟨d', h1, h2⟩ := hi
    cases h2
    obtain ⟨v, hv, rv⟩ := q.get h1
    refine ⟨v, .sh, ?_, allSh_is hs (by rw [q.length]; exact hi'), rfl, by rw [e]; exact rv⟩
    unfold L2.start
    rw [List.getElem?_append_left (by rw [List.length_map, q.length]; exact hi'), List.getElem?_map, hv]
    rfl
theorem fn_sound {tab : Tab} {i : Nat} {lam : Bool} {fi : FnI} {N : List Str} {Γ0 : List Ow} {b : Sms} {oR : Option (List Ow)} {f : Addr} {name qual : Str} {params : Arguments} {body : List Stmt} {scope : Scope} {dV kV doc pm cdv ct oc : Value} {an od : Option Addr} {osl : Array (Option Value)}
    (A0 : Ad C T Φ P w K mg base tab i) (lk : K.lookup f = some ⟨oc, od, .func (PySem.W.fnOf name qual params body scope dV kV doc pm an cdv ct), osl⟩) (hcd : PySem.W.codeIn K cdv qual = true) (S : FnScope N fi.ps scope)
    (hl : Γ0.length = N.length) (hs : allSh Γ0 fi.ps.length = true) (hlam : lam = true → LamD K mg base T cdv qual ∧ CauD K mg tab.leaf) (ck : ckSs b ⟨N, scope, fun _ => true, tab, i, lam⟩ Γ0 fi.ret Γ0 body = some oR) (spec : ∀ ds Q E, ds.length = fi.ps.length → Φ i ds Q E → evD Φ N.length (decide (fi.ret = .sh)) b ds Q E) :
    FnOk P w K mg base (L2.CX P w) (3 * i + 3) f (PySem.W.fnOf name qual params body scope dV kV doc pm an cdv ct) fi.ps (spOf C T fi.ret (Φ i) fi.ps.length) := by
  refine fn_of lk hcd S (fun vs H Q E h => h.1) fun A outer s H vs Q E hr hsp => ?_
  have tk : Takes (cxOf (L2.CX P w) P w K mg base N qual scope f cdv A outer s H E) (fun cls d _ H => E cls d H) := takes_of rfl rfl rfl rfl
  have own : PassesOwn (model P w) (cxOf (L2.CX P w) P w K mg base N qual scope f cdv A outer s H E).A (cxOf (L2.CX P w) P w K mg base N qual scope f cdv A outer s H E).env (cxOf (L2.CX P w) P w K mg base N qual scope f cdv A outer s H E).xe := passes_of rfl
  have G : Gd (cxOf (L2.CX P w) P w K mg base N qual scope f cdv A outer s H E) C T E Φ ⟨N, scope, fun _ => true, tab, i, lam⟩ := A0.gd rfl rfl rfl rfl rfl rfl S.nd rfl rfl S.kind rfl own (hr.mono (by cases lam <;> simp)) tk rfl hlam
  obtain ⟨hlen, O, ds, Qd, Ed, ok, tb, q, hφ, hx, k⟩ := hsp
  have hle : vs.length ≤ N.length := by
    rw [hlen]
    have := congrArg List.length S.pre
    rw [List.length_take] at this
    omega
  have hds : ds.length = fi.ps.length := by rw [← q.length]; exact hlen
  have hm := spec ds Qd Ed hds hφ
  have r0 := start_rl (N := N) tb ok q hl hle (by rw [hlen]; exact hs)
  have no : ∀ a, ¬ Ownd (fun _ => []) a := fun a ⟨_, z⟩ => absurd z (by simp)
  refine ⟨tS C T E fi.ret Γ0 Γ0 (oR.getD []) (evB Φ b), ckSs_ok b _ _ E G Γ0 fi.ret Γ0 body oR ck (oR.getD []) (by cases oR with
    | none => exact .inl rfl
    | some Γ' => exact .inr rfl), O, fun _ => [], _, _, Ed, r0, hm, fun ex cls dx H' he hk tb' r => hx ex cls dx H' he (fun a o e => hk a o e (no a)) tb' r, ?_, ?_, ?_, ?_⟩
  · intro ρ' σ' H' Fs' hq t r'
    have hq' : (if decide (fi.ret = .sh) = true then M.ret .non else M.fail : M D) Qd Ed := hq
    split at hq'
    · rename_i hret
      rw [decide_eq_true_eq] at hret
      refine k .non .non H' [] hq' (fun a o e => (t a o e (no a)).1) r'.tabs ?_ List.nodup_nil (fun a h => absurd h (by simp))
      rw [hret]
      exact ⟨rfl, .non⟩
    · exact (hq' : False).elim
  · intro ρ' σ' H' Fs' hq t r'
    exact (hq : False).elim
  · intro ρ' σ' H' Fs' hq t r'
    exact (hq : False).elim
  · intro ρ' d v H' F hq t tb' q' nd hF
    refine k d v H' F hq (fun a o e => (t a o e (no a)).1) tb' q' nd fun a ha => ⟨?_, (hF a ha).2⟩
    cases e : H a with
    | none => rfl
    | some o => exact absurd ⟨0, ha⟩ (t a o e (no a)).2
end
end Wb

end
section
/-! Wb: all defs of a law's text keep their promises; the law's end. -/
namespace Wb
open PySem PySem.Spec PyProof.Rows L2
/-- a def: what is known of it by name, its names, how its variables own, its text, its place in the top; whether it makes lambdas; its defaults -/
structure DefI where
  fi : FnI
  N : List Str
  g : List Ow
  b : Sms
  k : Nat
  lam : Bool := false
  dd : List He.Dv := []
structure LawI where
  dl : List DefI
  gi : List (Str × Int) := []
  abs : List Str := []
  exs : List Str := []
  leaf : List Str := []
  cau : Option Nat := none
def LawI.tab (L : LawI) : Tab := { gi := L.gi, fns := L.dl.map (·.fi), abs := L.abs, exs := L.exs, leaf := L.leaf }
def stAt (top : List Stmt) (k : Nat) : Stmt := top.getD k (.Pass ⟨0, 0, 0, 0⟩)
def DefI.at_ (d : DefI) : He.Defn := (d.fi.name, none)
def DefI.rc (top : List Stmt) (d : DefI) : He.DefD := ⟨d.at_, d.fi.name, d.fi.name, defArgs (stAt top d.k), defBody (stAt top d.k), defScope (stAt top d.k), d.dd, []⟩
def cauRec (top : List Stmt) (k : Nat) : He.DefD := ⟨("_law_caught", none), "_law_caught", "_law_caught", defArgs (stAt top k), defBody (stAt top k), defScope (stAt top k), [], []⟩
def LawI.fa (L : LawI) : List He.Fa := L.dl.map (fun d => .glo d.fi.name) ++ (L.exs.map .glo ++ (L.exs.map .exc ++ (L.abs.map .free ++ (L.gi.map (fun q => .int q.1 q.2) ++ (if L.cau.isSome = true then .glo "_law_caught" :: .glo "WordError" :: (L.leaf.map .glo ++ L.leaf.map fun x => .exm x "WordError" true) else [])))))
def LawI.fn (L : LawI) (top : List Stmt) : List He.DefD := L.dl.map (fun d => d.rc top) ++ (match L.cau with
  | some k => [cauRec top k]
  | none => [])
def LawI.ld (L : LawI) : List DefI := L.dl.filter (·.lam)
def LawI.tf (L : LawI) : List He.Defn := L.ld.map (·.at_)
def oB (a : Option Bool) (b : Bool) : Bool := decide (a = some b)
/-- ExcC, as a Bool -/
def excCB (K : PySem.W.Frag) (D : Addr) : Bool := He.eqO (PySem.W.findIn K (.ref D) "__getattribute__") (some (some (.builtin "BaseException.__getattribute__"))) && (He.eqO (PySem.W.findIn K (.ref D) "__getattr__") (some none) && (oB (PySem.W.subIn K (.ref D) (.type "BaseException")) true && (PySem.W.hasDictIn K D && (He.eqO (PySem.W.findIn K (.ref D) "__class__") (some (some (.builtin "object.__class__"))) &&
  (He.eqO (PySem.W.specialIn K (.builtin "object.__class__") "__get__") (some (some (.builtin "getset_descriptor.__get__"))) && (oB (PySem.W.takesIn K (.builtin "object.__class__")) true && oB (PySem.W.mroIn K D (.type "object")) true))))))
theorem excCB_ok {K : PySem.W.Frag} {D : Addr} (h : excCB K D = true) : ExcC K D := by
  unfold excCB oB at h
  simp only [Bool.and_eq_true, decide_eq_true_eq] at h
  obtain ⟨h1, h2, h3, h4, h5, h6, h7, h8⟩ := h
  exact ⟨He.eqO_ok h1, He.eqO_ok h2, h3, h4, He.eqO_ok h5, He.eqO_ok h6, h7, h8⟩
def LawI.ex (L : LawI) (K : PySem.W.Frag) : Bool := decide ((L.ld.map fun d => (He.cT K d.at_).2).Nodup) && (if L.cau.isSome = true then PySem.W.keepIn K (.ref (He.ga K "_law_caught")) && L.leaf.all fun x => excCB K (He.ga K x) && (oB (PySem.W.kitOne K (.type "NoneType") (.ref (He.ga K x))) false && L.leaf.all fun z => oB (PySem.W.kitOne K (.ref (He.ga K x)) (.ref (He.ga K z))) (decide (x = z))) else true)
/-- FnScope, as a Bool -/
def scB (N P : List Str) (sc : Scope) : Bool := decide (sc.kind = .function) && (!sc.isCoroutine && (!sc.isGenerator && (decide N.Nodup && (decide (N.take P.length = P) && (P.all (fun x => decide (sc.names.lookup x = some .local) || decide (sc.names.lookup x = some .cell)) && sc.names.all fun y => !decide (y.2 = .free))))))
theorem scB_ok {N P : List Str} {sc : Scope} (h : scB N P sc = true) : FnScope N P sc := by
  unfold scB at h
  simp only [Bool.and_eq_true, decide_eq_true_eq, Bool.not_eq_true', List.all_eq_true, Bool.or_eq_true, decide_eq_false_iff_not] at h
  obtain ⟨h1, h2, h3, h4, h5, h6, h7⟩ := h
  exact ⟨h1, h2, h3, h4, h5, h6, h7⟩
/-- a default as a tree -/
def dvD : He.Dv → D
  | .non => .non
  | .bl b => .bl b
  | .int i => .int i
  | .str x => .str x
  | _ => .tok
def dvB : He.Dv → Bool
  | .non | .bl _ | .int _ | .str _ => true
  | _ => false
theorem dv_rep {C : Cn} {H : Hp} {O : Addr → Prop} {K : PySem.W.Frag} : ∀ {l : List He.Dv}, l.all dvB = true → RepSs C H O (l.map (He.Dv.v K)) (l.map dvD)
  | [], _ => .nil
  | d :: l, h => by
    rw [List.all_cons, Bool.and_eq_true] at h
    refine .cons ?_ (dv_rep h.2)
    cases d <;> first | (cases h.1; done) | skip
    · exact .non
    · exact .bl _
    · exact .int _
    · exact .str _
def DefI.chk (d : DefI) (L : LawI) (top : List Stmt) (i : Nat) : Bool :=
  scB d.N d.fi.ps (defScope (stAt top d.k)) && (decide (d.g.length = d.N.length) && (allSh d.g d.fi.ps.length && (d.dd.all dvB && ((!d.lam || L.cau.isSome) && (d.fi.ar.all (fun k => decide (k ≤ d.fi.ps.length) && decide (d.fi.ps.length ≤ k + d.dd.length)) &&
    (d.fi.kws.all (fun q => decide (q.2.2.length = d.fi.ps.length) && q.2.2.all fun j => decide (j < q.1 + q.2.1.length)) && (ckSs d.b ⟨d.N, defScope (stAt top d.k), fun _ => true, L.tab, i, d.lam⟩ d.g d.fi.ret d.g (defBody (stAt top d.k))).isSome))))))
/-- how calls of a def bind -/
structure BF (K : PySem.W.Frag) (d : DefI) (fd : FuncData) : Prop where
  ar : ∀ k ∈ d.fi.ar, ∃ ds, Vals ((d.dd.map (He.Dv.v K)).drop (k + d.dd.length - d.fi.ps.length)) ds ∧ Binds K fd d.fi.ps ds
  kws : ∀ q ∈ d.fi.kws, ∀ (s : Shared) (us ws : List Value), K.In s.heap → us.length = q.1 → ws.length = q.2.1.length → BindsTo s fd ⟨us, q.2.1.zip ws⟩ (d.fi.ps.zip (pmL q.2.2 (us ++ ws)))
def BFs (top : List Stmt) (d : DefI) : Prop := ∀ (K : PySem.W.Frag) (f : Addr) (fd : FuncData), FunD K d.fi.name d.fi.name (defArgs (stAt top d.k)) (defBody (stAt top d.k)) (defScope (stAt top d.k)) (d.dd.map (He.Dv.v K)) [] f fd → BF K d fd
theorem vals_get : ∀ {vs : List V} {us : List Value} {i : Nat}, Vals vs us → (vs[i]? = none ∧ us[i]? = none) ∨ ∃ v u, vs[i]? = some v ∧ us[i]? = some u ∧ RelV v u
  | _, _, _, .nil => .inl ⟨by simp, by simp⟩
  | _, _, 0, .cons r _ => .inr ⟨_, _, rfl, rfl, r⟩
  | _, _, i + 1, .cons _ q => by simpa using vals_get (i := i) q
theorem vals_pm {vs : List V} {us : List Value} (r : Vals vs us) : ∀ pm : List Nat, Vals (pmL pm vs) (pmL pm us)
  | [] => .nil
  | j :: q => by
    have ih := vals_pm r q
    unfold pmL at ih ⊢
    rcases vals_get (i := j) r with ⟨e1, e2⟩ | ⟨v, u, e1, e2, rr⟩
    · rw [List.filterMap_cons_none (by exact e1), List.filterMap_cons_none (by exact e2)]
      exact ih
    · rw [List.filterMap_cons_some (by exact e1), List.filterMap_cons_some (by exact e2)]
      exact .cons rr ih
theorem vals_app : ∀ {vs : List V} {us : List Value} {zs : List V} {ws : List Value}, Vals vs us → Vals zs ws → Vals (vs ++ zs) (us ++ ws)
  | _, _, _, _, .nil, q => q
  | _, _, _, _, .cons r p, q => .cons r (vals_app p q)
section
variable {L : LawI} {top : List Stmt} {P : Program} {w : World} {K : PySem.W.Frag} {mg : Str → Option Value} {base h : Heap} {Φ : Fen}
def lamT (K : PySem.W.Frag) (L : LawI) : List (Addr × Str) := L.ld.map fun d => ((He.cT K d.at_).2, (d.fi.name ++ ".<locals>.") ++ "<lambda>")
theorem fa_mem {x : He.Fa} (h : x ∈ L.dl.map (fun d => He.Fa.glo d.fi.name) ∨ x ∈ L.exs.map He.Fa.glo ∨ x ∈ L.exs.map He.Fa.exc ∨ x ∈ L.abs.map He.Fa.free ∨ x ∈ L.gi.map (fun q => He.Fa.int q.1 q.2) ∨ (L.cau.isSome = true ∧ x ∈ (.glo "_law_caught" :: .glo "WordError" :: (L.leaf.map He.Fa.glo ++ L.leaf.map fun x => He.Fa.exm x "WordError" true)))) : x ∈ L.fa := by
  unfold LawI.fa
  rcases h with h | h | h | h | h | ⟨h, k⟩
  · exact List.mem_append_left _ h
  · exact List.mem_append_right _ (List.mem_append_left _ h)
  · exact List.mem_append_right _ (List.mem_append_right _ (List.mem_append_left _ h))
  · exact List.mem_append_right _ (List.mem_append_right _ (List.mem_append_right _ (List.mem_append_left _ h)))
  · exact List.mem_append_right _ (List.mem_append_right _ (List.mem_append_right _ (List.mem_append_right _ (List.mem_append_left _ h))))
  · refine List.mem_append_right _ (List.mem_append_right _ (List.mem_append_right _ (List.mem_append_right _ (List.mem_append_right _ ?_))))
    rw [if_pos h]
    exact k
theorem lookup_mem2 {α : Type} : ∀ {l : List (Str × α)} {x : Str} {n : α}, l.lookup x = some n → (x, n) ∈ l := fun {l x n} h => PySem.mem_of_lookup h
/-- the text of the def that tries what it gets -/
def CauS (top : List Stmt) (k : Nat) : Prop := CauBody (defBody (stAt top k)) ∧ scB ["work", "caught", "error"] ["work"] (defScope (stAt top k)) = true ∧ (defScope (stAt top k)).names.lookup ("WordError" : Str) = some .globalImplicit ∧ (defScope (stAt top k)).names.lookup ("caught" : Str) = some .local ∧ (defScope (stAt top k)).names.lookup ("error" : Str) = some .local ∧ (defScope (stAt top k)).names.lookup ("work" : Str) = some .local ∧
  ∀ (K : PySem.W.Frag) (f : Addr) (fd : FuncData), FunD K "_law_caught" "_law_caught" (defArgs (stAt top k)) (defBody (stAt top k)) (defScope (stAt top k)) [] [] f fd → Binds K fd ["work"] []
theorem cau_ok {w' : World} {hh : Heap} (X : K.In h) (G : h.Ns mainGlobals mg) (c : He.SaysX L.fa (L.fn top) [] L.tf L.ex w' hh K) {k : Nat} (hk : L.cau = some k) (S : CauS top k) : CauD K mg L.leaf := by
  obtain ⟨cb, sb, l1, l2, l3, l4, bi⟩ := S
  have hs : L.cau.isSome = true := by rw [hk]; rfl
  have gl : ∀ {x : Str}, (He.Fa.glo x) ∈ L.fa → mg x = some (.ref (He.ga K x)) := fun hx => He.glo_ok X G (c.t.d.facts hx)
  have mc : ∀ {f : He.Fa}, f ∈ (.glo "_law_caught" :: .glo "WordError" :: (L.leaf.map He.Fa.glo ++ L.leaf.map fun x => He.Fa.exm x "WordError" true)) → f ∈ L.fa := fun hf => fa_mem (.inr (.inr (.inr (.inr (.inr ⟨hs, hf⟩)))))
  have ex := c.more
  unfold LawI.ex at ex
  rw [if_pos hs] at ex
  simp only [Bool.and_eq_true, List.all_eq_true] at ex
  obtain ⟨_, kp, lf⟩ := ex
  obtain ⟨fd, F⟩ := c.t.d.defs (d := cauRec top k) (List.mem_append_right _ (by rw [hk]; exact List.mem_singleton.mpr rfl))
  have F : FunD K "_law_caught" "_law_caught" (defArgs (stAt top k)) (defBody (stAt top k)) (defScope (stAt top k)) [] [] (He.ga K "_law_caught") fd := F
  have B := bi K _ fd F
  obtain ⟨oc, od, dV, kV, doc, pm, an, cdv, ct, osl, rfl, lk, hcd, _, _⟩ := F.ex
  refine ⟨He.ga K "WordError", ⟨_, _, _, _, _, _, _, _, _, _, _, _, _, _, gl (mc (List.mem_cons_self ..)), F.kp, lk, hcd, B, scB_ok sb, cb, l1, gl (mc (List.mem_cons_of_mem _ (List.mem_cons_self ..))), l2, l3, .inl l4⟩, fun x hx => ?_⟩
  obtain ⟨e1, e2, e3⟩ := lf x hx
  refine ⟨He.ga K x, gl (mc (List.mem_cons_of_mem _ (List.mem_cons_of_mem _ (List.mem_append_left _ (List.mem_map.mpr ⟨x, hx, rfl⟩))))), He.exm_ok (c.t.d.facts (mc (List.mem_cons_of_mem _ (List.mem_cons_of_mem _ (List.mem_append_right _ (List.mem_map.mpr ⟨x, hx, rfl⟩)))))), excCB_ok e1, of_decide_eq_true e2, fun z hz => ⟨He.ga K z, gl (mc (List.mem_cons_of_mem _ (List.mem_cons_of_mem _ (List.mem_append_left _ (List.mem_map.mpr ⟨z, hz, rfl⟩))))), of_decide_eq_true (e3 z hz)⟩⟩
theorem lamD_ok {w' : World} {hh : Heap} (c : He.SaysX L.fa (L.fn top) [] L.tf L.ex w' hh K) {d : DefI} (hd : d ∈ L.dl) (hl : d.lam = true) (TB : ∀ p ∈ L.tf.map (He.cT K), LamX.TabB base mg p.1 p.2) {oc : Value} {od : Option Addr} {osl : Array (Option Value)} {fd : FuncData} (lk : K.lookup (He.fAd K d.at_) = some ⟨oc, od, .func fd, osl⟩) (hc : PySem.W.codeIn K fd.code d.fi.name = true) : LamD K mg base (lamT K L) fd.code d.fi.name := by
  have hm : d ∈ L.ld := List.mem_filter.mpr ⟨hd, hl⟩
  obtain ⟨c0, e0⟩ := He.codeIn_ref hc
  have e1 : (He.cT K d.at_).1 = c0 := He.codeOf_eq lk e0
  have hT : He.cT K d.at_ ∈ L.tf.map (He.cT K) := List.mem_map.mpr ⟨d.at_, List.mem_map.mpr ⟨d, hm, rfl⟩, rfl⟩
  have tb := TB _ hT
  rw [e1] at tb
  have nd : (L.ld.map fun d => (He.cT K d.at_).2).Nodup := by
    have ex := c.more
    unfold LawI.ex at ex
    rw [Bool.and_eq_true, decide_eq_true_eq] at ex
    exact ex.1
  refine ⟨c0, (He.cT K d.at_).2, e0, tb, List.mem_map.mpr ⟨d, hm, rfl⟩, fun p hp e => ?_⟩
  obtain ⟨d', hm', rfl⟩ := List.mem_map.mp hp
  have : d' = d := by
    have key : ∀ (l : List DefI), (l.map fun d => (He.cT K d.at_).2).Nodup → d ∈ l → d' ∈ l → d' = d := fun l => by
      induction l with
      | nil => intro _ h; cases h
      | cons a l ih =>
        intro nd h1 h2
        rw [List.map_cons, List.nodup_cons] at nd
        rcases List.mem_cons.mp h1 with q1 | q1 <;> rcases List.mem_cons.mp h2 with q2 | q2
        · rw [q1, q2]
        · subst q1
          exact absurd (show (He.cT K d.at_).2 ∈ l.map (fun d => (He.cT K d.at_).2) from List.mem_map.mpr ⟨d', q2, e⟩) nd.1
        · subst q2
          exact absurd (show (He.cT K d'.at_).2 ∈ l.map (fun d => (He.cT K d.at_).2) from List.mem_map.mpr ⟨d, q1, e.symm⟩) nd.1
        · exact ih nd.2 q1 q2
    exact key _ nd hm hm'
  rw [this]
theorem ad_ok {w' : World} {hh : Heap} (X : K.In h) (G : h.Ns mainGlobals mg) (c : He.SaysX L.fa (L.fn top) [] L.tf L.ex w' hh K) (hcau : ∀ k, L.cau = some k → CauS top k) (TB : ∀ p ∈ L.tf.map (He.cT K), LamX.TabB base mg p.1 p.2)
    (chk : ∀ (i : Nat) (d : DefI), L.dl[i]? = some d → d.chk L top i = true) (bf : ∀ (i : Nat) (d : DefI), L.dl[i]? = some d → BFs top d)
    (spec : ∀ (i : Nat) (d : DefI), L.dl[i]? = some d → ∀ ds Q E, ds.length = d.fi.ps.length → Φ i ds Q E → evD Φ d.N.length (decide (d.fi.ret = .sh)) d.b ds Q E)
    (dfl : ∀ (i : Nat) (d : DefI), L.dl[i]? = some d → ∀ k ∈ d.fi.ar, ∀ xs Q E, xs.length = k → Φ i xs Q E → Φ i (xs ++ (d.dd.map dvD).drop (k + d.dd.length - d.fi.ps.length)) Q E) :
    ∀ lv, lv ≤ L.dl.length → Ad ⟨K, mg⟩ (lamT K L) Φ P w K mg base L.tab lv := by
  intro lv
  induction lv with
  | zero =>
    intro _
    refine ⟨rfl, rfl, fun x n hx => ?_, fun x hx => He.free_ok X G (c.t.d.facts (fa_mem (.inr (.inr (.inr (.inl (List.mem_map.mpr ⟨x, hx, rfl⟩))))))), fun x hx => ?_, fun i fi _ hi => absurd hi (Nat.not_lt_zero _)⟩
    · exact He.int_ok X G (c.t.d.facts (fa_mem (.inr (.inr (.inr (.inr (.inl (List.mem_map.mpr ⟨(x, n), lookup_mem2 hx, rfl⟩))))))))
    · obtain ⟨e1, e2, e3, e4⟩ := He.exc_ok (c.t.d.facts (fa_mem (.inr (.inr (.inl (List.mem_map.mpr ⟨x, hx, rfl⟩))))))
      exact ⟨He.ga K x, He.veBase, _, _, _, PySem.F.excBase_ValueError, e1, He.glo_ok X G (c.t.d.facts (fa_mem (.inr (.inl (List.mem_map.mpr ⟨x, hx, rfl⟩))))), e2, e3, e4⟩
  | succ lv ih =>
    intro hle
    have A0 := ih (by omega)
    refine ⟨A0.hK, A0.hC, A0.gi, A0.abs, A0.exs, fun i fi hf hi => ?_⟩
    by_cases hlt : i < lv
    · exact A0.fns i fi hf hlt
    have hi : i = lv := by omega
    subst hi
    have hd : ∃ d, L.dl[i]? = some d ∧ fi = d.fi := by
      have hf' : (L.dl.map (·.fi))[i]? = some fi := hf
      rw [List.getElem?_map, Option.map_eq_some_iff] at hf'
      obtain ⟨d, h1, h2⟩ := hf'
      exact ⟨d, h1, h2.symm⟩
    obtain ⟨d, hd, rfl⟩ := hd
    have hmem := List.mem_of_getElem? hd
    obtain ⟨fd, F⟩ := c.t.d.defs (d := d.rc top) (List.mem_append_left _ (List.mem_map.mpr ⟨d, hmem, rfl⟩))
    have F : FunD K d.fi.name d.fi.name (defArgs (stAt top d.k)) (defBody (stAt top d.k)) (defScope (stAt top d.k)) (d.dd.map (He.Dv.v K)) [] (He.fAd K d.at_) fd := F
    have hb := bf i d hd K _ fd F
    have hc := chk i d hd
    unfold DefI.chk at hc
    simp only [Bool.and_eq_true, decide_eq_true_eq, Bool.or_eq_true, Bool.not_eq_true', List.all_eq_true] at hc
    obtain ⟨c1, c2, c3, c4, c5, c6, c7, c8⟩ := hc
    obtain ⟨oR, hck⟩ := Option.isSome_iff_exists.mp c8
    have hmg : mg d.fi.name = some (.ref (He.fAd K d.at_)) := He.glo_ok X G (c.t.d.facts (fa_mem (.inl (List.mem_map.mpr ⟨d, hmem, rfl⟩))))
    refine ⟨He.fAd K d.at_, fd, hmg, F.kp, (by obtain ⟨oc, od, _, _, _, _, _, _, _, osl, _, lk, _⟩ := F.ex; exact ⟨oc, od, osl, lk⟩), ?_, fun k hk => ?_, fun q hq => ?_⟩
    · obtain ⟨oc, od, dV, kV, doc, pm, an, cdv, ct, osl, rfl, lk, hcd, _, _⟩ := F.ex
      refine fn_sound (lam := d.lam) A0 lk hcd (scB_ok c1) c2 c3 (fun hl => ?_) hck (spec i d hd)
      refine ⟨lamD_ok c hmem hl TB lk hcd, ?_⟩
      rcases c5 with c5 | c5
      · rw [hl] at c5; cases c5
      · obtain ⟨k, hk⟩ := Option.isSome_iff_exists.mp c5
        exact cau_ok X G c hk (hcau k hk)
    · obtain ⟨ds, v, b⟩ := hb.ar k hk
      obtain ⟨k1, k2⟩ := c6 k hk
      refine ⟨_, ds, (d.dd.map dvD).drop (k + d.dd.length - d.fi.ps.length), ?_, b, v, fun H O => (dv_rep (l := d.dd) (List.all_eq_true.mpr c4)).drop _, dfl i d hd k hk⟩
      rw [List.length_drop, List.length_map]
      omega
    · obtain ⟨q1, q2⟩ := c7 q hq
      exact ⟨q1, q2, hb.kws q hq, fun r z => vals_pm (vals_app r z) _⟩
/-- the law's promise, at the head's heap -/
theorem law_at {l : PySem.W.OpenLaw} {w : World} {fa : Addr} {n : Nat} {d : DefI} (X : K.In h) (G : h.Ns mainGlobals mg) (c : He.SaysX L.fa (L.fn l.prog.main.body) [] L.tf L.ex w h K) (hcau : ∀ k, L.cau = some k → CauS l.prog.main.body k)
    (chk : ∀ (i : Nat) (d : DefI), L.dl[i]? = some d → d.chk L l.prog.main.body i = true) (bf : ∀ (i : Nat) (d : DefI), L.dl[i]? = some d → BFs l.prog.main.body d)
    (spec : ∀ (i : Nat) (d : DefI), L.dl[i]? = some d → ∀ ds Q E, ds.length = d.fi.ps.length → Φ i ds Q E → evD Φ d.N.length (decide (d.fi.ret = .sh)) d.b ds Q E)
    (dfl : ∀ (i : Nat) (d : DefI), L.dl[i]? = some d → ∀ k ∈ d.fi.ar, ∀ xs Q E, xs.length = k → Φ i xs Q E → Φ i (xs ++ (d.dd.map dvD).drop (k + d.dd.length - d.fi.ps.length)) Q E)
    (hn : 0 < L.dl.length) (hd : L.dl[L.dl.length - 1]? = some d) (hname : mg d.fi.name = some (.ref fa)) {x : Str} (hps : d.fi.ps = [x]) (hret : d.fi.ret = .sh) (har : 1 ∈ d.fi.ar) (hdd : d.dd = []) (hn63 : n ≤ 1000)
    (main : ∀ ns : List Int, ns.length ≤ n → (∀ z ∈ ns, Builtin.Int.intBits z ≤ 1048576) → Φ (L.dl.length - 1) [.scr ns] (fun d => d = .bl true) fun _ => False)
    (hbind : ∀ f fd, FunD K d.fi.name d.fi.name (defArgs (stAt l.prog.main.body d.k)) (defBody (stAt l.prog.main.body d.k)) (defScope (stAt l.prog.main.body d.k)) [] [] f fd → ∀ (s : Shared) (u : Value), BindsTo s fd ⟨[u], []⟩ [(x, u)]) :
    LamX.LawAtS l w K (L2.CX l.prog w) (3 * L.dl.length) n x mg fa h := by
  have hmem := List.mem_of_getElem? hd
  obtain ⟨fd, F⟩ := c.t.d.defs (d := d.rc l.prog.main.body) (List.mem_append_left _ (List.mem_map.mpr ⟨d, hmem, rfl⟩))
  have F : FunD K d.fi.name d.fi.name (defArgs (stAt l.prog.main.body d.k)) (defBody (stAt l.prog.main.body d.k)) (defScope (stAt l.prog.main.body d.k)) (d.dd.map (He.Dv.v K)) [] (He.fAd K d.at_) fd := F
  have e : fa = He.fAd K d.at_ := by
    have e2 := hname.symm.trans (He.glo_ok X G (c.t.d.facts (fa_mem (.inl (List.mem_map.mpr ⟨d, hmem, rfl⟩)))))
    cases e2
    rfl
  subst e
  refine ⟨fd, L.tf.map (He.cT K), spOf ⟨K, mg⟩ (lamT K L) .sh (Φ (L.dl.length - 1)) 1, fun p hp => ?_, fun p hp => ?_, fun p hp => ?_, ?_, fun H a ns hl hbits hH hS => ?_, fun base KX hns TB => ?_⟩
  · obtain ⟨q, hq, rfl⟩ := List.mem_map.mp hp
    exact c.empty q hq
  · obtain ⟨q, hq, rfl⟩ := List.mem_map.mp hp
    exact c.out q hq
  · obtain ⟨q, hq, rfl⟩ := List.mem_map.mp hp
    exact PySem.W.codeHd_of_K X (c.hd q hq)
  · rw [hdd] at F
    exact hbind _ _ F
  · refine ⟨rfl, fun _ => False, [.scr ns], _, _, fun a z => z.elim, fun p hp => ?_, .cons ?_ .nil, main ns hl hbits, fun ex cls dx H' z => z.elim, fun dv v H' F hq _ _ r _ _ => ?_⟩
    · obtain ⟨d', hd', rfl⟩ := List.mem_map.mp hp
      exact LamX.TabS.nil (hH _ (List.mem_map.mpr ⟨d'.at_, List.mem_map.mpr ⟨d', hd', rfl⟩, rfl⟩))
    · rcases hS with hS | hS
      · exact .scr (Nat.le_trans hl hn63) (fun z => z) hS
      · exact .scrK (Nat.le_trans hl hn63) fun H' => .inr hS
    · subst hq
      cases r.2
      rfl
  · have A := ad_ok (P := l.prog) (w := w) (base := base) X G c hcau TB chk bf spec dfl L.dl.length (Nat.le_refl _)
    obtain ⟨a, fd', m, k, ⟨oc', od', osl', lk'⟩, ok, _, _⟩ := A.fns (L.dl.length - 1) d.fi (by show (L.dl.map (·.fi))[_]? = _; rw [List.getElem?_map, hd]; rfl) (by omega)
    have e1 : a = He.fAd K d.at_ := by rw [hname] at m; cases m; rfl
    subst e1
    have e2 : 3 * (L.dl.length - 1) + 3 = 3 * L.dl.length := by omega
    rw [e2, hps, hret] at ok
    have e3 : fd' = fd := by
      obtain ⟨oc, od, _, _, _, _, _, _, _, osl, _, lk, _⟩ := F.ex
      have z := lk'.symm.trans lk
      cases z
      rfl
    subst e3
    exact ok
end
end Wb

end
section
/-! Wb: the meaning of a list of defs; a law's walk from its text. -/
namespace Wb
open PySem PySem.Spec PyProof.Rows L2
/-- arguments that lack filled up by the defaults -/
def DefI.fill (d : DefI) (xs : List D) : List D := xs ++ (d.dd.map dvD).drop (xs.length + d.dd.length - d.fi.ps.length)
/-- the first n defs of a list -/
def phi (dl : List DefI) : Nat → Fen
  | 0, _, _ => .fail
  | n + 1, i, xs => if i = n then (match dl[n]? with
    | some d => evD (phi dl n) d.N.length (decide (d.fi.ret = .sh)) d.b (d.fill xs)
    | none => .fail) else phi dl n i xs
theorem phi_out {dl : List DefI} : ∀ {n i : Nat} {xs : List D}, n ≤ i → phi dl n i xs = .fail
  | 0, _, _, _ => rfl
  | n + 1, i, xs, h => by
    unfold phi
    rw [if_neg (by omega)]
    exact phi_out (by omega)
theorem phi_in {dl : List DefI} {i : Nat} {xs : List D} : ∀ {n m : Nat}, i < n → n ≤ m → phi dl m i xs = phi dl n i xs
  | n, 0, h, k => by omega
  | n, m + 1, h, k => by
    by_cases e : n = m + 1
    · rw [e]
    · show (if i = m then _ else phi dl m i xs) = _
      rw [if_neg (by omega)]
      exact phi_in h (by omega)
theorem phi_le {dl : List DefI} {n m : Nat} (h : n ≤ m) (i : Nat) (xs : List D) : Le (phi dl n i xs) (phi dl m i xs) := by
  by_cases k : i < n
  · rw [phi_in k h]
    suffices ∀ n i xs, Le (phi dl n i xs) (phi dl n i xs) from this n i xs
    intro n
    induction n with
    | zero => intro i xs; exact Le.fail
    | succ n ih =>
      intro i xs
      unfold phi
      split
      · split
        · exact le_D ih _ _ _ _
        · exact Le.fail
      · exact ih i xs
  · rw [phi_out (by omega)]
    exact Le.fail
/-- a def is what its text says, over the defs ahead of it -/
theorem phi_at {dl : List DefI} {n i : Nat} {xs : List D} {d : DefI} (h : i < n) (hd : dl[i]? = some d) : phi dl n i xs = evD (phi dl i) d.N.length (decide (d.fi.ret = .sh)) d.b (d.fill xs) := by
  rw [phi_in (n := i + 1) (by omega) (by omega)]
  unfold phi
  rw [if_pos rfl, hd]
theorem phi_spec {dl : List DefI} {i : Nat} {d : DefI} (hd : dl[i]? = some d) (ds : List D) (Q : D → Prop) (E : Exn → Prop) (hl : ds.length = d.fi.ps.length) (h : phi dl dl.length i ds Q E) : evD (phi dl dl.length) d.N.length (decide (d.fi.ret = .sh)) d.b ds Q E := by
  have hi : i < dl.length := (List.getElem?_eq_some_iff.mp hd).1
  rw [phi_at hi hd] at h
  have e : d.fill ds = ds := by
    unfold DefI.fill
    rw [hl, show d.fi.ps.length + d.dd.length - d.fi.ps.length = (d.dd.map dvD).length by simp, List.drop_length, List.append_nil]
  rw [e] at h
  exact le_D (phi_le (Nat.le_of_lt hi)) _ _ _ _ _ _ _ _ (fun _ z => z) (fun _ z => z) h
theorem phi_dfl {dl : List DefI} {i : Nat} {d : DefI} (hd : dl[i]? = some d) {k : Nat} (xs : List D) (Q : D → Prop) (E : Exn → Prop) (hl : xs.length = k) (k1 : k ≤ d.fi.ps.length) (k2 : d.fi.ps.length ≤ k + d.dd.length) (h : phi dl dl.length i xs Q E) : phi dl dl.length i (xs ++ (d.dd.map dvD).drop (k + d.dd.length - d.fi.ps.length)) Q E := by
  have hi : i < dl.length := (List.getElem?_eq_some_iff.mp hd).1
  rw [phi_at hi hd] at h ⊢
  have e : d.fill (xs ++ (d.dd.map dvD).drop (k + d.dd.length - d.fi.ps.length)) = d.fill xs := by
    have l1 : (xs ++ (d.dd.map dvD).drop (k + d.dd.length - d.fi.ps.length)).length = d.fi.ps.length := by
      rw [List.length_append, List.length_drop, List.length_map, hl]
      omega
    unfold DefI.fill
    rw [l1, hl, show d.fi.ps.length + d.dd.length - d.fi.ps.length = (d.dd.map dvD).length by simp, List.drop_length, List.append_nil]
  rw [e]
  exact h
/-- what a list of defs must pass -/
def chkAll (L : LawI) (top : List Stmt) : List DefI → Nat → Bool
  | [], _ => true
  | d :: r, i => d.chk L top i && chkAll L top r (i + 1)
theorem chkAll_ok {L : LawI} {top : List Stmt} : ∀ {l : List DefI} {j i : Nat} {d : DefI}, chkAll L top l j = true → l[i]? = some d → d.chk L top (j + i) = true
  | [], _, _, _, _, h => by simp at h
  | a :: r, j, 0, d, h, e => by
    simp at e
    subst e
    rw [chkAll, Bool.and_eq_true] at h
    exact h.1
  | a :: r, j, i + 1, d, h, e => by
    rw [chkAll, Bool.and_eq_true] at h
    have := chkAll_ok (i := i) h.2 (by simpa using e)
    rw [show j + 1 + i = j + (i + 1) by omega] at this
    exact this
def bfAll (top : List Stmt) : List DefI → Prop
  | [] => True
  | d :: r => BFs top d ∧ bfAll top r
theorem bfAll_ok {top : List Stmt} : ∀ {l : List DefI} {i : Nat} {d : DefI}, bfAll top l → l[i]? = some d → BFs top d
  | [], _, _, _, h => by simp at h
  | a :: r, 0, d, h, e => by
    simp at e
    subst e
    exact h.1
  | a :: r, i + 1, d, h, e => bfAll_ok (i := i) h.2 (by simpa using e)
theorem law_walk {l : PySem.W.OpenLaw} {q : Program} {loose : List Str} {d : DefRec} {L : LawI} {top : List Stmt} {dl : DefI} {N : Nat} {x : Str} {XP : (Str → Option Value) → Heap → Prop} (ht : l.prog.main.body = top) (hn : l.most = some 63) (hdf : d.params.defaults = [])
    (hcau : ∀ k, L.cau = some k → CauS top k) (chk : chkAll L top L.dl 0 = true) (bf : bfAll top L.dl) (hd : L.dl[L.dl.length - 1]? = some dl) (hname : d.name = dl.fi.name) (hps : dl.fi.ps = [x]) (hret : dl.fi.ret = .sh) (har : 1 ∈ dl.fi.ar) (hdd : dl.dd = []) (hroom : Room (3 * L.dl.length) callerA)
    (hbind : ∀ K f fd, FunD K dl.fi.name dl.fi.name (defArgs (stAt top dl.k)) (defBody (stAt top dl.k)) (defScope (stAt top dl.k)) [] [] f fd → ∀ (s : Shared) (u : Value), BindsTo s fd ⟨[u], []⟩ [(x, u)])
    (main : ∀ ns : List Int, ns.length ≤ 63 → (∀ z ∈ ns, Builtin.Int.intBits z ≤ 1048576) → phi L.dl L.dl.length (L.dl.length - 1) [.scr ns] (fun d => d = .bl true) fun _ => False) :
    PySem.W.WalkO q loose XP (He.hookX N L.fa (L.fn top) [] L.tf L.ex).says l.row.toRowW d [] (fun f vs => PySem.call f vs) := by
  subst ht
  have hpos : 0 < L.dl.length := by
    have := (List.getElem?_eq_some_iff.mp hd).1
    omega
  refine LamX.walk_ofTsE (n := 63) (CX := fun w => L2.CX l.prog w) (x := x) (k := 3 * L.dl.length) hn (by decide) hdf hroom (fun w mg fa h Y G hmg => ?_) fun w H s e s' z => ?_
  · obtain ⟨K, KX, c⟩ := Y
    rw [hname] at hmg
    refine ⟨K, KX, law_at (d := dl) (Φ := phi L.dl L.dl.length) KX G c hcau (fun i d h => ?_) (fun i d h => bfAll_ok bf h) (fun i d h ds Q E hl hq => phi_spec h ds Q E hl hq) (fun i d h k hk xs Q E hl hq => ?_) hpos hd hmg hps hret har hdd (by decide) main (fun f fd F => hbind K f fd F)⟩
    · have := chkAll_ok chk h
      rwa [Nat.zero_add] at this
    · have hc := chkAll_ok chk h
      unfold DefI.chk at hc
      simp only [Bool.and_eq_true, decide_eq_true_eq, Bool.or_eq_true, Bool.not_eq_true', List.all_eq_true] at hc
      obtain ⟨c1, c2, c3, c4, c5, c6, c7, c8⟩ := hc
      exact phi_dfl h xs Q E hl (c6 k hk).1 (c6 k hk).2 hq
  · obtain ⟨_, _, _, _, _, _, _, _, _, _, _, _, z⟩ := z
    exact z
end Wb

end
local macro_rules | `(tactic| walk_at "w") => `(tactic| (simp only [Wb.opt_k, Wb.kOpt_some, Wb.kOpt_none, Wb.w_var, Wb.w_mov, Wb.w_int, Wb.w_gint, Wb.w_bl, Wb.w_non, Wb.w_str, Wb.w_bin, Wb.w_kBin, Wb.w_kBin2, Wb.w_neg, Wb.w_kNeg, Wb.w_nt, Wb.w_kNt, Wb.w_kNtB, Wb.w_kBl, Wb.w_cmp, Wb.w_kCmp, Wb.w_kCmp2, Wb.w_chn, Wb.w_kChn, Wb.w_kChn2, Wb.w_kChnT, Wb.w_kChnF, Wb.w_and, Wb.w_and1, Wb.w_and2, Wb.w_kAnd, Wb.w_kAndT, Wb.w_kAndF, Wb.w_or, Wb.w_or1, Wb.w_or2, Wb.w_kOr, Wb.w_kOrT, Wb.w_kOrF, Wb.w_ite, Wb.w_kIte, Wb.w_kIteT, Wb.w_kIteF, Wb.w_tup, Wb.w_kTup, Wb.w_lst, Wb.w_kLst, Wb.w_dct0, Wb.w_dct, Wb.w_kDct, Wb.w_kDct2, Wb.w_call, Wb.w_kCall, Wb.w_callK, Wb.w_kCallK, Wb.w_kCallK2, Wb.w_tokW, Wb.w_kTokW, Wb.w_tokN, Wb.w_kTokN, Wb.w_tokC, Wb.w_kTokC, Wb.w_blt, Wb.w_kBlt, Wb.w_getd, Wb.w_kGetd, Wb.w_kGetd2, Wb.w_kGetd3, Wb.w_isin, Wb.w_kIsin, Wb.w_sub, Wb.w_kSub, Wb.w_kSub2, Wb.w_slc, Wb.w_kSlc, Wb.w_kSlc2, Wb.w_kSlcL, Wb.w_kSlcT, Wb.w_rev, Wb.w_kRevL, Wb.w_kRevT, Wb.w_comp, Wb.w_kComp, Wb.w_comp2, Wb.w_kComp2, Wb.w_itl, Wb.w_kItl, Wb.w_cau, Wb.w_kCau, Wb.w_esN, Wb.w_esC, Wb.w_kEs, Wb.w_kEs2, Wb.w_esS, Wb.w_kEssL, Wb.w_kEssT, Wb.w_kEss2, Wb.w_oN, Wb.w_oS, Wb.w_kO, Wb.w_fN, Wb.w_fC, Wb.w_kF, Wb.w_seq, Wb.w_kSeqL, Wb.w_kSeqT, Wb.w_scr, Wb.w_kScr, Wb.w_rng1, Wb.w_kRng1, Wb.w_rng2, Wb.w_kRng2, Wb.w_kRng2b, Wb.w_rng3, Wb.w_kRng3, Wb.w_kRng3b, Wb.w_enum, Wb.w_kEnumL, Wb.w_kEnumT, Wb.w_zip, Wb.w_kZip, Wb.w_kZipL, Wb.w_kZipT, Wb.w_bN, Wb.w_bC, Wb.w_kBnx, Wb.w_kBrt, Wb.w_kBbk, Wb.w_kBct, Wb.w_set, Wb.w_kSet, Wb.w_asg, Wb.w_kAsg, Wb.w_par2, Wb.w_kPar2, Wb.w_kPar2b, Wb.w_par3, Wb.w_kPar3, Wb.w_kPar3b, Wb.w_kPar3c, Wb.w_app, Wb.w_kApp, Wb.w_kApp2, Wb.w_put, Wb.w_kPut, Wb.w_kPut2, Wb.w_kPut3, Wb.w_pop, Wb.w_kPop, Wb.w_parP, Wb.w_kParP, Wb.w_kParP2, Wb.w_swap, Wb.w_kSwap, Wb.w_kSwap2, Wb.w_kSwap3, Wb.w_aug, Wb.w_kAug, Wb.w_augP, Wb.w_kAugP, Wb.w_kAugP2, Wb.w_kAugP3, Wb.w_keysV, Wb.w_if, Wb.w_kIf, Wb.w_kIfT, Wb.w_kIfF, Wb.w_for, Wb.w_kFor, Wb.w_whl, Wb.w_ret, Wb.w_kRet, Wb.w_retN, Wb.w_brk, Wb.w_cnt, Wb.w_pas, Wb.w_rai0, Wb.w_rai1, Wb.w_kRaise, Wb.w_exp, Wb.w_kExp, Wb.w_mv, Wb.w_tokInc, Wb.w_tokDiv, Wb.w_kTokDiv, Wb.w_tokNew, Wb.w_D, Wb.w_kDrt, Wb.w_kDnx, Wb.v_truB, Wb.v_truI, Wb.v_truL, Wb.v_truT, Wb.v_add, Wb.v_sub, Wb.v_mul, Wb.v_fdiv, Wb.v_mod, Wb.v_pow, Wb.v_addL, Wb.v_addT, Wb.v_cat, Wb.v_rep, Wb.v_mulL, Wb.v_mulT, Wb.v_augA, Wb.v_augS, Wb.v_lt, Wb.v_le, Wb.v_gt, Wb.v_ge, Wb.v_isN, Wb.v_notN, Wb.v_lenL, Wb.v_lenT, Wb.v_lenS, Wb.v_tupL, Wb.v_tupT, Wb.v_lstL, Wb.v_lstT, Wb.v_intI, Wb.v_absI, Wb.v_repB, Wb.v_repN, Wb.v_min2, Wb.v_max2, Wb.v_srtL, Wb.v_srtT, Wb.v_sumL, Wb.v_sumT, Wb.v_allL, Wb.v_anyL, Wb.v_subL, Wb.v_subT, Wb.v_subD, Wb.v_asgN, Wb.v_asgTL, Wb.v_asgTT, Wb.v_asgsN, Wb.v_asgsC, Wb.v_eqI, Wb.v_neI, Wb.v_eqB, Wb.w_forK, Wb.w_kForK, Wb.v_inL, Wb.v_inT, Wb.v_niL, Wb.v_niT, Wb.v_app, Wb.v_kOite, Wb.v_kOite0, Wb.v_setL, Wb.v_popL, Wb.v_lastL, Wb.v_asL, Wb.v_isnN, Wb.v_isnI, Wb.v_isnB, Wb.v_isnS, Wb.v_isnL, Wb.v_isnT, Wb.v_iII, Wb.v_iIB, Wb.v_iIN, Wb.v_iIS, Wb.v_iIL, Wb.v_iIT, Wb.v_iBI, Wb.v_iBB, Wb.v_iBN, Wb.v_iBS, Wb.v_iBL, Wb.v_iBT, Wb.v_iSI, Wb.v_iSB, Wb.v_iSN, Wb.v_iSS, Wb.v_iSL, Wb.v_iST, Wb.v_iLI, Wb.v_iLB, Wb.v_iLN, Wb.v_iLS, Wb.v_iLL, Wb.v_iLT, Wb.v_iTI, Wb.v_iTB, Wb.v_iTN, Wb.v_iTS, Wb.v_iTL, Wb.v_iTT, Wb.v_iDI, Wb.v_iDB, Wb.v_iDN, Wb.v_iDS, Wb.v_iDL, Wb.v_iDT, Wb.v_p1, Wb.v_p2, Wb.v_p3, Wb.v_p4, Wb.v_p5, Wb.w_tNx, Wb.w_tCt, Wb.w_tBk, Wb.w_tRt, Wb.w_whT, Wb.w_whF, Wb.w_cmpG, Wb.w_kGT, Wb.w_kGF, Wb.w_cmpF, Wb.w_kCompT, Wb.w_kCompF, Wb.w_kCompE, Wb.setE, Wb.updE, Wb.updD, Wb.getE, Wb.getK, Option.map_some, List.map_cons, List.map_nil, List.length_cons, List.length_nil, List.set_cons_zero, List.set_cons_succ, List.getElem?_cons_zero, List.getElem?_cons_succ, Option.join_some, List.replicate, List.cons_append, List.nil_append, Nat.zero_add, Nat.reduceAdd, Nat.reduceSub, Nat.reducePow, Nat.reduceLeDiff, Nat.reduceLT, Nat.reduceMul, PySem.sizeLine, Wb.small62, Int.reduceAdd, Int.reduceSub, Int.reduceMul, Int.reducePow, Int.reduceToNat, Int.reduceNeg, Int.reduceLT, Int.reduceLE, Int.reduceEq, Int.reduceDiv, Int.reduceMod, decide_true, decide_false, decide_eq_true_eq, Bool.not_true, Bool.not_false, true_and, and_true, Bool.false_eq_true, Option.bind_some, Wb.wipeE, Int.cast_ofNat_Int]))
section
/-! Wb: the defs that the laws share: draws. -/
open PySem PySem.Spec PyProof.Rows L2 Wb
namespace Wb
abbrev bitsI := Builtin.Int.intBits
theorem mulL {a b : Int} (h1 : -(2 ^ 64) < a) (h2 : a < 2 ^ 64) : IntMulOk a b := CMul.ok (.inl ⟨h1, h2⟩)
theorem mulR {a b : Int} (h1 : -(2 ^ 64) < b) (h2 : b < 2 ^ 64) : IntMulOk a b := CMul.ok (.inr ⟨h1, h2⟩)
theorem log2_lt {n k : Nat} (h : n < 2 ^ k) (hk : 0 < k) : n.log2 < k := by
  by_cases h0 : n = 0
  · subst h0; simpa using hk
  · exact (Nat.log2_lt h0).mpr h
theorem divS {a b : Int} (h1 : 0 < b) (h2 : b < 2 ^ 64) : CDivW a b := ⟨h1, Nat.lt_of_lt_of_le (log2_lt (k := 64) (by omega) (by decide)) (by decide)⟩
/-- a def by its text -/
theorem phi_run {dl : List DefI} {n i : Nat} {d : DefI} (h : i < n) (hd : dl[i]? = some d) {xs : List D} {Q : D → Prop} {E : Exn → Prop} (k : evD (phi dl i) d.N.length (decide (d.fi.ret = .sh)) d.b (d.fill xs) Q E) : phi dl n i xs Q E := by
  rw [phi_at h hd]; exact k
theorem phi_mono (dl : List DefI) (n : Nat) : Mono (phi dl n) := fun i xs => phi_le (Nat.le_refl n) i xs
/-! ### the draws -/
def begunB : Sms := .cons (.par2 2 3 (.sh) (.li .sh) (.int 0) (.lst (.nil))) (.cons (.for_ (.nm 1) (.scr (.var 0)) (.cons (.ife (.isin (.var 1) .int) (.cons (.ife (.cmp .ge (.var 1) (.bin .pow (.int 10) (.int 18))) (.cons (.set 2 (.sh) (.bin .add (.bin .mul (.var 2) (.bin .add (.bin .sub (.var 1) (.bin .pow (.int 10) (.int 18))) (.int 1))) (.bin .sub (.var 1) (.bin .pow (.int 10) (.int 18))))) (.nil)) (.nil)) (.cons (.app (.v 3) (.var 1)) (.nil))) (.nil)) (.nil))) (.cons (.ret (.tokNew 2 3)) (.nil)))
theorem isin_int {n : Int} {B : Bool → Prop} {E : Exn → Prop} : isinD .int (.int n) B E = B true := rfl
theorem intsD_map (ns : List Int) : intsD (ns.map .int) = some ns := by
  induction ns with
  | nil => rfl
  | cons n r ih => simp [intsD, ih]
theorem upd_app {ρ : Env} {i : Nat} {xs : List D} {y : D} (h : ρ[i]? = some (some (.lst xs))) (hl : xs.length < sizeLine) : updE ρ i [] (appD y) = some (setE ρ i (.lst (xs ++ [y]))) := by
  unfold updE
  rw [h]
  show (if xs.length < sizeLine then some (D.lst (xs ++ [y])) else none).map (setE ρ i) = _
  rw [if_pos hl]
  rfl
theorem begun_bits {w c : Int} {k M : Nat} (hw : bitsI w ≤ k * (M + 2)) (hc : bitsI c ≤ M) (hM : 1 ≤ M) (hk : k * (M + 2) + (M + 1) ≤ 134217728) : IntMulOk w (c + 1) ∧ bitsI (w * (c + 1) + c) ≤ (k + 1) * (M + 2) := by
  have b2 : bitsI (c + 1) ≤ M + 1 := Nat.le_trans (PySem.intBits_add_le hc (show bitsI 1 ≤ 1 by decide)) (by omega)
  have b3 : bitsI (w * (c + 1)) ≤ k * (M + 2) + (M + 1) := PySem.intBits_mul_le hw b2
  have b4 : bitsI (w * (c + 1) + c) ≤ max (k * (M + 2) + (M + 1)) M + 1 := PySem.intBits_add_le b3 hc
  refine ⟨IntMulOk.of_le hw b2 hk, Nat.le_trans b4 ?_⟩
  rw [Nat.succ_mul]
  generalize k * (M + 2) = z
  omega
theorem begun_ok {Φ : Fen} (hΦ : Mono Φ) {ns : List Int} (hl : ns.length ≤ 63) (hb : ∀ z ∈ ns, bitsI z ≤ 1048576) {Q : D → Prop} {E : Exn → Prop} (h : Q .tok) : evD Φ 4 true begunB [.scr ns] Q E := by
  unfold begunB
  walk_at "w"
  refine for_map hΦ (fun p r ρ => ∃ (w : Int) (c : Option D), ρ = [some (.scr ns), c, some (.int w), some (.lst (p.map .int))] ∧ 0 ≤ w ∧ bitsI w ≤ p.length * 1048578) ⟨0, none, rfl, by decide, by decide⟩ (fun p x r ρ e ⟨w, c, hρ, h0, h1⟩ => ?_) (fun ρ ⟨w, c, hρ, h0, h1⟩ => ?_)
  · subst hρ
    have hx : bitsI x ≤ 1048576 := hb x (by rw [e]; simp)
    have hp : p.length ≤ 62 := by
      have := congrArg List.length e
      simp at this
      omega
    walk_at "w"
    have fin : ∀ w' : Int, 0 ≤ w' → bitsI w' ≤ (p.length + 1) * 1048578 → ∃ (w : Int) (c : Option D), ([some (.scr ns), some (.int x), some (.int w'), some (.lst (p.map .int ++ [.int x]))] : Env) = [some (.scr ns), c, some (.int w), some (.lst ((p ++ [x]).map .int))] ∧ 0 ≤ w ∧ bitsI w ≤ (p ++ [x]).length * 1048578 := fun w' a b => ⟨w', some (.int x), by simp, a, by simpa using b⟩
    have apb : (p.map D.int).length < 16777216 := by simp; omega
    cases hc : decide ((1000000000000000000 : Int) ≤ x)
    · walk_at "w"
      refine ⟨apb, ?_⟩
      exact fin w h0 (Nat.le_trans h1 (Nat.mul_le_mul_right _ (Nat.le_succ _)))
    · have hc := of_decide_eq_true hc
      have b1 : bitsI (x - 1000000000000000000) ≤ 1048576 := PySem.intBits_le_of_natAbs (by omega) hx
      obtain ⟨m1, m2⟩ := begun_bits (M := 1048576) h1 b1 (by decide) (Nat.le_trans (Nat.add_le_add_right (Nat.mul_le_mul_right 1048578 hp) _) (by decide))
      walk_at "w"
      refine ⟨m1, ?_⟩
      refine ⟨apb, ?_⟩
      refine fin _ ?_ m2
      have := Int.mul_nonneg h0 (show 0 ≤ x - 1000000000000000000 + 1 by omega)
      omega
  · subst hρ
    walk_at "w"
    refine ⟨⟨h0, by simp; omega⟩, ?_⟩
    rw [intsD_map]
    exact h
def mixedB : Sms := .cons (.tokInc 0) (.cons (.set 1 (.sh) (.bin .add (.int 1469598103934665603) (.bin .mul (.int 97) (.tokN 0)))) (.cons (.for_ (.nm 2) (.seq (.bin .add (.tokC 0) (.lst (.cons false (.tokN 0) (.nil))))) (.cons (.set 1 (.sh) (.bin .mod (.blt .int (.cons false (.bin .mul (.bin .add (.var 1) (.var 2)) (.int 1099511628211)) .nil)) (.bin .sub (.bin .pow (.int 2) (.int 61)) (.int 1)))) (.cons (.set 1 (.sh) (.bin .add (.var 1) (.bin .fdiv (.var 1) (.bin .pow (.int 2) (.int 17))))) (.nil)))) (.cons (.ret (.var 1)) (.nil))))
theorem mixed_ok {Φ : Fen} (hΦ : Mono Φ) {Q : D → Prop} {E : Exn → Prop} (h : ∀ r : Int, 0 ≤ r → Q (.int r)) : evD Φ 3 true mixedB [.tok] Q E := by
  unfold mixedB
  walk_at "w"
  intro w
  refine ⟨mulL (by decide) (by decide), fun ns hn w2 => ⟨by simp; omega, ?_⟩⟩
  rw [show ns.map D.int ++ [D.int w2] = (ns ++ [w2]).map D.int by simp]
  refine for_map hΦ (fun p r ρ => ∃ (f : Int) (c : Option D), ρ = [some .tok, some (.int f), c] ∧ (p ≠ [] → 0 ≤ f)) ⟨_, _, rfl, fun z => absurd rfl z⟩ (fun p x r ρ e ⟨f, c, hρ, h0⟩ => ?_) (fun ρ ⟨f, c, hρ, h0⟩ => ?_)
  · subst hρ
    walk_at "w"
    refine ⟨mulR (by decide) (by decide), divS (by decide) (by decide), _, _, rfl, fun _ => ?_⟩
    have := Int.emod_nonneg ((f + x) * 1099511628211) (show (2305843009213693951 : Int) ≠ 0 by decide)
    omega
  · subst hρ
    walk_at "w"
    exact h f (h0 (by simp))
def takeB (mix : Nat) : Sms := .cons (.ife (.cmp .lt (.var 1) (.int 2)) (.cons (.ret (.int 0)) (.nil)) (.nil)) (.cons (.ife (.cmp .gt (.tokW 0) (.int 0)) (.cons (.set 2 (.sh) (.bin .mod (.blt .int (.cons false (.tokW 0) .nil)) (.var 1))) (.cons (.tokDiv 0 (.var 1)) (.cons (.ret (.var 2)) (.nil)))) (.nil)) (.cons (.set 2 (.sh) (.call mix (.cons false (.var 0) (.nil)))) (.cons (.whl (.and (.cons false (.cmp .gt (.var 1) (.bin .pow (.int 2) (.int 50))) (.cons false (.cmp .lt (.var 2) (.bin .mul (.var 1) (.var 1))) (.nil)))) (.cons (.set 2 (.sh) (.bin .add (.bin .mul (.var 2) (.bin .pow (.int 2) (.int 61))) (.call mix (.cons false (.var 0) (.nil))))) (.nil))) (.cons (.ret (.bin .mod (.blt .int (.cons false (.bin .fdiv (.var 2) (.int 1024)) .nil)) (.var 1))) (.nil)))))
theorem take_ok {Φ : Fen} (hΦ : Mono Φ) {mix : Nat} (hm : ∀ Q E, (∀ r : Int, 0 ≤ r → Q (.int r)) → Φ mix [.tok] Q E) {a : Int} {Q : D → Prop} {E : Exn → Prop} (ha : a ≤ 2 ^ 50) (h : ∀ r : Int, 0 ≤ r → (r < a ∨ r = 0) → Q (.int r)) : evD Φ 3 true (takeB mix) [.tok, .int a] Q E := by
  unfold takeB
  walk_at "w"
  cases h1 : decide (a < 2)
  · have h1 := of_decide_eq_false h1
    walk_at "w"
    intro w hw
    cases h2 : decide (0 < w)
    · walk_at "w"
      refine hm _ _ fun r hr => ?_
      walk_at "w"
      refine whl_ind hΦ (m := 0) (fun m ρ => ρ = [some .tok, some (.int a), some (.int r)]) rfl fun m ρ hρ => ?_
      subst hρ
      walk_at "w"
      rw [show decide ((1125899906842624 : Int) < a) = false from decide_eq_false (by omega)]
      walk_at "w"
      refine ⟨divS (by decide) (by decide), by omega, ?_⟩
      have := Int.emod_nonneg (r / 1024) (show a ≠ 0 by omega)
      have := Int.emod_lt_of_pos (r / 1024) (show 0 < a by omega)
      exact h _ (by omega) (by omega)
    · walk_at "w"
      intro w2 hw2
      refine ⟨by omega, divS (by omega) (by omega), ?_⟩
      have := Int.emod_nonneg w2 (show a ≠ 0 by omega)
      have := Int.emod_lt_of_pos w2 (show 0 < a by omega)
      exact h _ (by omega) (by omega)
  · walk_at "w"
    exact h 0 (by omega) (.inr rfl)
def pickB (take : Nat) : Sms := .cons (.ret (.sub (.var 1) (.call take (.cons false (.var 0) (.cons false (.blt .len (.cons false (.var 1) .nil)) (.nil)))))) (.nil)
/-- draws a number -/
def Takes_ (Φ : Fen) (i : Nat) : Prop := ∀ (a : Int) (Q : D → Prop) (E : Exn → Prop), a ≤ 2 ^ 50 → (∀ r : Int, 0 ≤ r → (r < a ∨ r = 0) → Q (.int r)) → Φ i [.tok, .int a] Q E
def Picks (Φ : Fen) (i : Nat) : Prop := ∀ (xs : List D) (Q : D → Prop) (E : Exn → Prop), xs ≠ [] → xs.length ≤ 2 ^ 50 → (∀ x ∈ xs, Q x) → Φ i [.tok, .lst xs] Q E ∧ Φ i [.tok, .tup xs] Q E
theorem ix_nat {xs : List D} {r : Int} (h0 : 0 ≤ r) (h1 : r < xs.length) : ∃ x, ixD xs r = some x ∧ x ∈ xs := by
  have hl : r.toNat < xs.length := by omega
  refine ⟨xs[r.toNat], ?_, List.getElem_mem hl⟩
  unfold ixD
  have := atI_nat (xs := xs) (j := r.toNat) (v := xs[r.toNat]) (by simp [hl])
  rwa [show ((r.toNat : Nat) : Int) = r by omega] at this
theorem pick_ok {Φ : Fen} {take : Nat} (ht : Takes_ Φ take) {xs : List D} {Q : D → Prop} {E : Exn → Prop} (hx : xs ≠ []) (hl : xs.length ≤ 2 ^ 50) (h : ∀ x ∈ xs, Q x) : evD Φ 2 true (pickB take) [.tok, .lst xs] Q E ∧ evD Φ 2 true (pickB take) [.tok, .tup xs] Q E := by
  have hp : 0 < xs.length := by cases xs; exact absurd rfl hx; simp
  unfold pickB
  constructor
  all_goals
    walk_at "w"
    refine ht _ _ _ (by omega) fun r h0 h1 => ?_
    obtain ⟨x, e, hm⟩ := ix_nat (xs := xs) h0 (by omega)
    walk_at "w"
    rw [e]
    exact h x hm
end Wb

end
section
/-! Wb: the defs that the laws share: kinds, says. -/
open PySem PySem.Spec PyProof.Rows L2 Wb
namespace Wb
/-! ### data -/
/-- no dict, texts that a program may hold, no deeper than n -/
def dOk (n : Nat) (d : D) : Prop := noD d = true ∧ (toPy d).depth ≤ n
theorem dOk.mono {n m : Nat} {d : D} (h : dOk n d) (k : n ≤ m) : dOk m d := ⟨h.1, Nat.le_trans h.2 k⟩
theorem okEq_of {d : D} (h : dOk 64 d) : okEq d = true := by
  unfold okEq
  rw [h.1, decide_eq_true h.2]
  rfl
theorem dOk_non {n : Nat} : dOk n .non := ⟨rfl, Nat.zero_le _⟩
theorem dOk_bl {n : Nat} {b : Bool} : dOk n (.bl b) := ⟨rfl, Nat.zero_le _⟩
theorem dOk_int {n : Nat} {i : Int} : dOk n (.int i) := ⟨rfl, Nat.zero_le _⟩
theorem dOk_str {n : Nat} {x : Str} (h : strOkB x = true) : dOk n (.str x) := ⟨h, Nat.zero_le _⟩
theorem dOk_all {n : Nat} : ∀ {xs : List D}, (noDs xs = true ∧ PyData.depthAll (toPys xs) ≤ n) ↔ ∀ x ∈ xs, dOk n x
  | [] => ⟨fun _ x hx => absurd hx (by simp), fun _ => ⟨rfl, Nat.zero_le _⟩⟩
  | x :: xs => by
    have ih := dOk_all (n := n) (xs := xs)
    rw [List.forall_mem_cons, ← ih]
    unfold dOk
    show ((noD x && noDs xs) = true ∧ max (toPy x).depth (PyData.depthAll (toPys xs)) ≤ n) ↔ _
    rw [Bool.and_eq_true, Nat.max_le]
    exact ⟨fun h => ⟨⟨h.1.1, h.2.1⟩, h.1.2, h.2.2⟩, fun h => ⟨⟨h.1.1, h.2.1⟩, h.1.2, h.2.2⟩⟩
theorem dOk_lst {n : Nat} {xs : List D} : dOk (n + 1) (.lst xs) ↔ ∀ x ∈ xs, dOk n x := by
  rw [← dOk_all]
  unfold dOk
  show (noDs xs = true ∧ PyData.depthAll (toPys xs) + 1 ≤ n + 1) ↔ _
  rw [Nat.add_le_add_iff_right]
theorem dOk_tup {n : Nat} {xs : List D} : dOk (n + 1) (.tup xs) ↔ ∀ x ∈ xs, dOk n x := by
  rw [← dOk_all]
  unfold dOk
  show (noDs xs = true ∧ PyData.depthAll (toPys xs) + 1 ≤ n + 1) ↔ _
  rw [Nat.add_le_add_iff_right]
theorem dOk_ints {n : Nat} {ns : List Int} : ∀ x ∈ ns.map D.int, dOk n x := fun x hx => by
  obtain ⟨i, _, rfl⟩ := List.mem_map.mp hx
  exact dOk_int
mutual
theorem toPy_plain : ∀ d : D, (toPy d).plain = true
  | .non | .bl _ | .int _ | .str _ | .dct _ _ | .tok | .fn _ | .exc _ | .scr _ => rfl
  | .lst xs | .tup xs => by rw [toPy, PyData.plain]; exact toPys_plain xs
theorem toPys_plain : ∀ ds : List D, PyData.plainAll (toPys ds) = true
  | [] => rfl
  | d :: ds => by rw [toPys, PyData.plainAll, toPy_plain d, toPys_plain ds]; rfl
end
theorem eqv_refl (d : D) : eqv d d = true := PySem.SeqAt.eqv_refl_plain _ (toPy_plain d)
theorem eqv_int {a b : Int} : eqv (.int a) (.int b) = decide (a = b) := rfl
theorem eqvAll_ints : ∀ {ns ms : List Int}, PyData.eqvAll (toPys (ns.map .int)) (toPys (ms.map .int)) = decide (ns = ms)
  | [], [] => rfl
  | [], _ :: _ => rfl
  | _ :: _, [] => rfl
  | n :: ns, m :: ms => by
    show ((n == m) && PyData.eqvAll (toPys (ns.map .int)) (toPys (ms.map .int))) = _
    rw [eqvAll_ints]
    by_cases h : n = m
    · subst h; by_cases k : ns = ms <;> simp [k]
    · simp [h]
theorem eqv_ints {ns ms : List Int} : eqv (.lst (ns.map .int)) (.lst (ms.map .int)) = decide (ns = ms) := eqvAll_ints
theorem eqv_intT {ns ms : List Int} : eqv (.tup (ns.map .int)) (.tup (ms.map .int)) = decide (ns = ms) := eqvAll_ints
/-! ### the kinds -/
def kd1 : D → D
  | .non => .str "None"
  | .bl b => .str (if b then "True" else "False")
  | .int _ => .str "number"
  | .str _ => .str "string"
  | .lst _ => .str "list"
  | _ => .str "tuple"
def kids : D → List D
  | .lst xs | .tup xs => xs
  | _ => []
def kStk : Nat → List D → List D
  | n + 1, d :: s => kd1 d :: kStk n ((kids d).reverse ++ s)
  | _, _ => []
mutual
def sz : D → Nat
  | .lst xs | .tup xs => szs xs + 1
  | _ => 1
def szs : List D → Nat
  | [] => 0
  | d :: ds => sz d + szs ds
end
theorem sz_kids (d : D) : sz d = szs (kids d) + 1 := by cases d <;> simp [sz, kids, szs]
theorem szs_app : ∀ xs ys : List D, szs (xs ++ ys) = szs xs + szs ys
  | [], ys => by simp [szs]
  | x :: xs, ys => by simp [szs, szs_app xs ys]; omega
theorem szs_rev : ∀ xs : List D, szs xs.reverse = szs xs
  | [] => rfl
  | x :: xs => by simp [szs, szs_app, szs_rev xs]; omega
theorem szs_len : ∀ xs : List D, xs.length ≤ szs xs
  | [] => Nat.le_refl _
  | x :: xs => by
    have := szs_len xs
    have := sz_kids x
    simp [szs]
    omega
/-- the kinds of all in a value -/
def kd (d : D) : List D := kStk (sz d) [d]
theorem kd1_str (d : D) : ∃ x, kd1 d = .str x ∧ strOkB x = true := by
  cases d with
  | bl b => cases b <;> exact ⟨_, rfl, by decide +kernel⟩
  | _ => exact ⟨_, rfl, by decide +kernel⟩
theorem kStk_ok {n : Nat} : ∀ (m : Nat) (s : List D), ∀ x ∈ kStk m s, dOk n x
  | 0, _, x, h => by unfold kStk at h; simp at h
  | m + 1, [], x, h => by unfold kStk at h; simp at h
  | m + 1, d :: s, x, h => by
    unfold kStk at h
    rcases List.mem_cons.mp h with e | h
    · obtain ⟨y, e2, hy⟩ := kd1_str d
      rw [e, e2]
      exact dOk_str hy
    · exact kStk_ok m _ x h
theorem dOk_kids {n : Nat} {d : D} (h : dOk (n + 1) d) : ∀ x ∈ kids d, dOk n x := by
  cases d with
  | lst xs => exact dOk_lst.mp h
  | tup xs => exact dOk_tup.mp h
  | _ => exact fun x hx => absurd hx (by simp [kids])
def kindsB : Sms := .cons (.par2 2 3 (.li .sh) (.li .sh) (.lst (.nil)) (.lst (.cons false (.var 0) (.nil)))) (.cons (.whl (.cmp .ne (.var 3) (.lst (.nil))) (.cons (.pop 4 (.v 3)) (.cons (.ife (.or (.cons false (.isin (.var 4) .bool) (.cons false (.cmp .isN (.var 4) (.non)) (.nil)))) (.cons (.app (.v 2) (.blt .repr (.cons false (.var 4) .nil))) (.nil)) (.cons (.ife (.isin (.var 4) .int) (.cons (.app (.v 2) (.str "number")) (.nil)) (.cons (.ife (.isin (.var 4) .str) (.cons (.app (.v 2) (.str "string")) (.nil)) (.cons (.ife (.or (.cons false (.isin (.var 4) .list) (.cons false (.isin (.var 4) .tuple) (.nil)))) (.cons (.app (.v 2) (.ite (.isin (.var 4) .list) (.str "list") (.str "tuple"))) (.cons (.set 3 (.li .sh) (.bin .cat (.var 3) (.blt .list (.cons false (.var 4) .nil)))) (.nil))) (.cons (.ife (.isin (.var 4) .dict) (.cons .never .nil) (.cons (.app (.v 2) (.str "other")) (.nil))) (.nil))) (.nil))) (.nil))) (.nil))) (.nil)))) (.cons (.ret (.mov 2)) (.nil)))
theorem ne_nil {xs : List D} {B : Bool → Prop} {E : Exn → Prop} : cmpD .ne (.lst xs) (.lst []) B E = ((okEq (.lst xs) = true ∧ okEq (.lst []) = true) ∧ B (!xs.isEmpty)) := by
  rw [v_ne]
  congr 2
  cases xs <;> rfl
theorem eq_nil {xs : List D} {B : Bool → Prop} {E : Exn → Prop} : cmpD .eq (.lst xs) (.lst []) B E = ((okEq (.lst xs) = true ∧ okEq (.lst []) = true) ∧ B xs.isEmpty) := by
  rw [v_eq]
  congr 2
  cases xs <;> rfl
theorem kinds_ok {Φ : Fen} (hΦ : Mono Φ) {x : D} (hx : dOk 63 x) (hs : sz x ≤ 1048576) {Q : D → Prop} {E : Exn → Prop} (h : Q (.lst (kd x))) : evD Φ 6 true kindsB [x] Q E := by
  unfold kindsB
  walk_at "w"
  refine whl_ind hΦ (m := sz x) (fun m ρ => ∃ (f l : List D) (c o c5 : Option D), ρ = [some x, c, some (.lst f), some (.lst l), o, c5] ∧ m = szs l ∧ f.length + szs l = sz x ∧ (∀ d ∈ l, dOk 63 d) ∧ f ++ kStk (szs l) l.reverse = kd x) ⟨[], [x], _, _, _, rfl, by simp [szs], by simp [szs], fun d hd => by simp at hd; subst hd; exact hx, by simp [szs, kd]⟩ fun m ρ ⟨f, l, c, o, c5, hρ, hm, hsz, hok, hk⟩ => ?_
  subst hρ hm
  walk_at "w"
  rw [ne_nil]
  refine ⟨⟨okEq_of (dOk_lst.mpr hok), by decide⟩, ?_⟩
  rcases List.eq_nil_or_concat l with rfl | ⟨l', d, rfl⟩
  · walk_at "w"
    simp only [List.isEmpty_nil]
    walk_at "w"
    simp only [szs, List.reverse_nil, kStk, List.append_nil] at hk
    rw [hk]
    exact h
  · have ht : (l' ++ [d]).isEmpty = false := by cases l' <;> rfl
    rw [List.concat_eq_append] at *
    walk_at "w"
    rw [ht]
    have hd : dOk 63 d := hok d (by simp)
    have hl' : ∀ z ∈ l', dOk 63 z := fun z hz => hok z (by simp [hz])
    have hszd : szs (l' ++ [d]) = szs l' + sz d := by rw [szs_app]; simp [szs]
    have hkd := sz_kids d
    have hb := szs_len (kids d)
    have hb2 := szs_len l'
    have hfl : f.length < 16777216 := by omega
    have step : ∀ (y : D) (l2 : List D), kd1 d = y → l2 = l' ++ kids d → (∀ z ∈ l2, dOk 63 z) → ∃ m', m' < szs (l' ++ [d]) ∧ ∃ (f2 l3 : List D) (c2 o2 c52 : Option D), ([some x, c, some (.lst (f ++ [y])), some (.lst l2), some d, c5] : Env) = [some x, c2, some (.lst f2), some (.lst l3), o2, c52] ∧ m' = szs l3 ∧ f2.length + szs l3 = sz x ∧ (∀ z ∈ l3, dOk 63 z) ∧ f2 ++ kStk (szs l3) l3.reverse = kd x := fun y l2 e1 e2 h2 => by
      have e3 : szs l2 = szs l' + szs (kids d) := by rw [e2, szs_app]
      refine ⟨szs l2, by omega, f ++ [y], l2, c, some d, c5, rfl, rfl, by simp; omega, h2, ?_⟩
      rw [← hk, show szs (l' ++ [d]) = szs l2 + 1 by omega, List.reverse_append, List.reverse_singleton, List.singleton_append, kStk, e1, e2, List.reverse_append]
      simp
    have fin : ∀ (y : D), kd1 d = y → kids d = [] → f.length < 16777216 ∧ _ := fun y e1 e2 => ⟨hfl, step y l' e1 (by rw [e2, List.append_nil]) hl'⟩
    have hkk : ∀ z ∈ kids d, dOk 63 z := fun z hz => (dOk_kids (n := 62) hd z hz).mono (by decide)
    have fin2 : ∀ (y : D), kd1 d = y → f.length < 16777216 ∧ l'.length + (kids d).length ≤ 16777216 ∧ _ := fun y e1 => ⟨hfl, by omega, step y (l' ++ kids d) e1 rfl (fun z hz => (List.mem_append.mp hz).elim (hl' z) (hkk z))⟩
    cases d with
    | non => walk_at "w"; exact fin _ rfl rfl
    | bl b => walk_at "w"; exact fin _ rfl rfl
    | int n => walk_at "w"; exact fin _ rfl rfl
    | str y => walk_at "w"; exact fin _ rfl rfl
    | lst xs => walk_at "w"; exact fin2 _ rfl
    | tup xs => walk_at "w"; exact fin2 _ rfl
    | dct t kvs => exact absurd hd.1 (by simp [noD])
    | tok => exact absurd hd.1 (by simp [noD])
    | fn y => exact absurd hd.1 (by simp [noD])
    | exc y => exact absurd hd.1 (by simp [noD])
    | scr y => exact absurd hd.1 (by simp [noD])
def saysB (kinds : Nat) : Sms := .cons (.ret (.and (.cons false (.cmp .eq (.call kinds (.cons false (.var 0) (.nil))) (.call kinds (.cons false (.var 1) (.nil)))) (.cons false (.cmp .eq (.var 0) (.var 1)) (.nil))))) (.nil)
/-- a value that says itself -/
def Sayable (x : D) : Prop := dOk 63 x ∧ sz x ≤ 1048576
theorem szs_ints : ∀ ns : List Int, szs (ns.map .int) = ns.length
  | [] => rfl
  | n :: r => by
    rw [List.map_cons, szs, szs_ints r, List.length_cons]
    show 1 + r.length = _
    omega
theorem say_int (i : Int) : Sayable (.int i) := ⟨dOk_int, by show 1 ≤ _; omega⟩
theorem say_ints {ns : List Int} (h : ns.length ≤ 1000000) : Sayable (.lst (ns.map .int)) := ⟨dOk_lst.mpr dOk_ints, by show szs _ + 1 ≤ _; rw [szs_ints]; omega⟩
theorem say_intT {ns : List Int} (h : ns.length ≤ 1000000) : Sayable (.tup (ns.map .int)) := ⟨dOk_tup.mpr dOk_ints, by show szs _ + 1 ≤ _; rw [szs_ints]; omega⟩
def Says (Φ : Fen) (i : Nat) : Prop := ∀ (x : D) (Q : D → Prop) (E : Exn → Prop), Sayable x → Q (.bl true) → Φ i [x, x] Q E
theorem says_ok {Φ : Fen} {kinds : Nat} (hk : ∀ (x : D) (Q : D → Prop) (E : Exn → Prop), Sayable x → Q (.lst (kd x)) → Φ kinds [x] Q E) {x : D} (hx : Sayable x) {Q : D → Prop} {E : Exn → Prop} (h : Q (.bl true)) : evD Φ 2 true (saysB kinds) [x, x] Q E := by
  unfold saysB
  walk_at "w"
  refine hk x _ _ hx ?_
  walk_at "w"
  refine hk x _ _ hx ?_
  walk_at "w"
  rw [v_eq, eqv_refl]
  refine ⟨⟨okEq_of (dOk_lst.mpr (kStk_ok _ _)), okEq_of (dOk_lst.mpr (kStk_ok _ _))⟩, ?_⟩
  walk_at "w"
  rw [v_eq, eqv_refl]
  exact ⟨⟨okEq_of (hx.1.mono (by decide)), okEq_of (hx.1.mono (by decide))⟩, h⟩
end Wb

end
section
/-! Wb: numbers: factorials, lots. -/
open PySem PySem.Spec PyProof.Rows L2 Wb
namespace Wb
/-- isinstance(x, int) and not a bool -/
def isI : D → Bool
  | .int _ => true
  | _ => false
def wholeB : Sms := .cons (.ret (.and (.cons false (.isin (.var 0) .int) (.cons false (.nt (.isin (.var 0) .bool)) (.nil))))) (.nil)
theorem whole_ok {Φ : Fen} {x : D} (hx : (dty x).isSome = true) {Q : D → Prop} {E : Exn → Prop} (h : Q (.bl (isI x))) : evD Φ 1 true wholeB [x] Q E := by
  unfold wholeB
  walk_at "w"
  cases x <;> first | (cases hx; done) | (walk_at "w"; exact h) | skip
  · exact h
def fac : Nat → Int
  | 0 => 1
  | n + 1 => fac n * (n + 1)
def factB : Sms := .cons (.set 1 (.sh) (.int 1)) (.cons (.for_ (.nm 2) (.rng2 (.int 2) (.bin .add (.var 0) (.int 1))) (.cons (.set 1 (.sh) (.bin .mul (.var 1) (.var 2))) (.nil))) (.cons (.ret (.var 1)) (.nil)))
theorem fact_ok {Φ : Fen} (hΦ : Mono Φ) {n : Int} (h0 : 0 ≤ n) (h1 : n ≤ 1048576) {Q : D → Prop} {E : Exn → Prop} (h : Q (.int (fac n.toNat))) : evD Φ 3 true factB [.int n] Q E := by
  unfold factB
  walk_at "w"
  refine ⟨by omega, ?_⟩
  refine for_rng hΦ (fun k ρ => ∃ c, ρ = [some (.int n), some (.int (fac (k + 1))), c]) ⟨_, rfl⟩ (fun k ρ hk ⟨c, hρ⟩ => ?_) (fun ρ ⟨c, hρ⟩ => ?_)
  · subst hρ
    walk_at "w"
    rw [show fac (k + 1 + 1) = fac (k + 1) * (2 + (k : Int) * 1) by show fac (k + 1) * (((k + 1 : Nat) : Int) + 1) = _; congr 1; omega]
    exact ⟨mulR (by omega) (by omega), _, rfl⟩
  · subst hρ
    walk_at "w"
    have e : fac ((n + 1 - 2).toNat + 1) = fac n.toNat := by
      by_cases hn : n = 0
      · subst hn; rfl
      · rw [show (n + 1 - 2).toNat + 1 = n.toNat by omega]
    rw [e]
    exact h
/-- lots of k things of n, as the loops reckon them -/
def cho (n : Int) : Nat → Int
  | 0 => 1
  | k + 1 => cho n k * (n - k) / (k + 1)
/-- lots of few things of many -/
def chooseI (n k : Int) : Int := if 0 ≤ k ∧ k ≤ n then cho n k.toNat else 0
def chooseB : Sms := .cons (.set 2 (.sh) (.ite (.chn .le .le (.int 0) (.var 1) (.var 0)) (.int 1) (.int 0))) (.cons (.for_ (.nm 3) (.rng1 (.ite (.cmp .eq (.var 2) (.int 1)) (.var 1) (.int 0))) (.cons (.set 2 (.sh) (.bin .fdiv (.bin .mul (.var 2) (.bin .sub (.var 0) (.var 3))) (.bin .add (.var 3) (.int 1)))) (.nil))) (.cons (.ret (.var 2)) (.nil)))
theorem choose_ok {Φ : Fen} (hΦ : Mono Φ) {n k : Int} (h1 : n ≤ 1048576) {Q : D → Prop} {E : Exn → Prop} (h : Q (.int (chooseI n k))) : evD Φ 4 true chooseB [.int n, .int k] Q E := by
  unfold chooseB
  unfold chooseI at h
  walk_at "w"
  cases c1 : decide (0 ≤ k)
  · have c1 := of_decide_eq_false c1
    rw [if_neg (by omega)] at h
    walk_at "w"
    exact h
  · have c1 := of_decide_eq_true c1
    walk_at "w"
    cases c2 : decide (k ≤ n)
    · have c2 := of_decide_eq_false c2
      rw [if_neg (by omega)] at h
      walk_at "w"
      exact h
    · have c2 := of_decide_eq_true c2
      rw [if_pos ⟨c1, c2⟩] at h
      walk_at "w"
      refine ⟨by omega, ?_⟩
      refine for_rng hΦ (fun j ρ => ∃ c, ρ = [some (.int n), some (.int k), some (.int (cho n j)), c]) ⟨_, rfl⟩ (fun j ρ hj ⟨c, hρ⟩ => ?_) (fun ρ ⟨c, hρ⟩ => ?_)
      · subst hρ
        walk_at "w"
        rw [show cho n (j + 1) = cho n j * (n - (0 + (j : Int) * 1)) / (0 + (j : Int) * 1 + 1) by show cho n j * (n - j) / (j + 1) = _; congr 2 <;> omega]
        exact ⟨mulR (by omega) (by omega), divS (by omega) (by omega), _, rfl⟩
      · subst hρ
        walk_at "w"
        exact h
end Wb

end
section
/-! Wb: dicts from tuples of ints to ints; what all words weigh together, by products of sums. -/
open PySem PySem.Spec PyProof.Rows L2 Wb
namespace Wb
theorem cut_pre {xs : List D} {p : Nat} : cutD xs none (some (p : Int)) = xs.take p := by
  unfold cutD
  rw [HT.sIx_none, HT.sIx_nat, List.drop_zero, Nat.sub_zero]
  rw [List.take_eq_take_iff]
  omega
theorem cut_suf {xs : List D} {p : Nat} : cutD xs (some ((p : Int) + 1)) none = xs.drop (p + 1) := by
  unfold cutD
  rw [show ((p : Int) + 1) = ((p + 1 : Nat) : Int) by omega, HT.sIx_none, HT.sIx_nat]
  rw [List.take_of_length_le (by simp)]
  by_cases h : p + 1 ≤ xs.length
  · rw [Nat.min_eq_left h]
  · rw [Nat.min_eq_right (by omega), List.drop_length, List.drop_eq_nil_of_le (by omega)]
theorem enum_map {α : Type} {g : α → D} : ∀ (xs : List α) (n : Nat), enumD n (xs.map g) = (xs.zipIdx n).map fun q => .tup [.int q.2, g q.1]
  | [], _ => rfl
  | x :: xs, n => by simp [enumD, enum_map xs (n + 1), List.zipIdx_cons]
theorem zipIdx_mem {α : Type} {xs : List α} {x : α} {i : Nat} (h : (x, i) ∈ xs.zipIdx) : xs[i]? = some x := by
  have := List.mem_zipIdx h
  simp at this
  exact (List.getElem?_eq_some_iff.mpr ⟨this.1, this.2.symm⟩)
theorem ix_some {xs : List D} {i : Nat} {x : D} (h : xs[i]? = some x) : ixD xs (i : Int) = some x := atI_nat h
/-! ### dicts -/
abbrev Asc := List (List Int × Int)
def encK (k : List Int) : D := .tup (k.map .int)
def encA (A : Asc) : List (D × D) := A.map fun p => (encK p.1, .int p.2)
def lookA : Asc → List Int → Option Int
  | [], _ => none
  | (k, v) :: r, q => if k = q then some v else lookA r q
def putA (A : Asc) (k : List Int) (v : Int) : Asc := if (A.any fun p => decide (p.1 = k)) = true then A.map (fun p => if p.1 = k then (p.1, v) else p) else A ++ [(k, v)]
theorem ksOf_ints : ∀ k : List Int, ksOf (k.map .int) = some (k.map .inl)
  | [] => rfl
  | n :: r => by simp [ksOf, kOf, ksOf_ints r]
theorem kyOf_enc {k : List Int} : kyOf (encK k) = some (.t (k.map .inl)) := by
  show (ksOf (k.map .int)).map Ky.t = _
  rw [ksOf_ints]; rfl
theorem kyT_enc {k : List Int} : kyT true (encK k) = some (.t (k.map .inl)) := kyOf_enc
theorem inl_inj {k q : List Int} : (some (Ky.t (k.map .inl)) = some (Ky.t (q.map (Sum.inl : Int → Key)))) ↔ k = q := by
  constructor
  · intro h
    simp only [Option.some.injEq, Ky.t.injEq] at h
    exact (List.map_inj_right (fun a b e => by cases e; rfl)).mp h
  · intro h; rw [h]
theorem lookD_enc : ∀ {A : Asc} {q : List Int}, lookD (encA A) (.t (q.map .inl)) = (lookA A q).map .int
  | [], _ => rfl
  | (k, v) :: r, q => by
    show (if kyOf (encK k) = some (.t (q.map .inl)) then some (D.int v) else lookD (encA r) (.t (q.map .inl))) = _
    rw [kyOf_enc, lookD_enc]
    show _ = (if k = q then some v else lookA r q).map D.int
    by_cases h : k = q
    · rw [if_pos (inl_inj.mpr h), if_pos h]; rfl
    · rw [if_neg (fun z => h (inl_inj.mp z)), if_neg h]
theorem dOf_inl (k : List Int) : dOfKy (.t (k.map .inl)) = encK k := by
  show D.tup ((k.map .inl).map dOfK) = _
  rw [List.map_map]; rfl
theorem putD_enc {A : Asc} {k : List Int} {v : Int} : putD (encA A) (.t (k.map .inl)) (.int v) = encA (putA A k v) := by
  have e1 : ((encA A).any fun kv => decide (kyOf kv.1 = some (.t (k.map .inl)))) = (A.any fun p => decide (p.1 = k)) := by
    unfold encA
    rw [List.any_map]
    congr 1
    funext p
    show decide (kyOf (encK p.1) = _) = _
    rw [kyOf_enc]
    exact decide_eq_decide.mpr inl_inj
  unfold putD putA
  rw [e1, dOf_inl]
  by_cases h : (A.any fun p => decide (p.1 = k)) = true
  · rw [if_pos h, if_pos h]
    unfold encA
    rw [List.map_map, List.map_map]
    refine List.map_congr_left fun p _ => ?_
    show (if kyOf (encK p.1) = _ then (encK p.1, D.int v) else (encK p.1, D.int p.2)) = _
    rw [kyOf_enc]
    by_cases g : p.1 = k
    · rw [if_pos (inl_inj.mpr g)]; simp [g]
    · rw [if_neg (fun z => g (inl_inj.mp z))]; simp [g]
  · rw [if_neg h, if_neg h]
    unfold encA
    simp
theorem set_enc {A : Asc} {k : List Int} {v : Int} (h : A.length < 16777216) : setD (encK k) (.int v) (.dct true (encA A)) = some (.dct true (encA (putA A k v))) := by
  show (kyT true (encK k)).bind (fun q => if (encA A).length < sizeLine ∧ q ≠ .k (.inr "whole") then some (D.dct true (putD (encA A) q (.int v))) else none) = _
  rw [kyT_enc]
  show (if (encA A).length < sizeLine ∧ Ky.t (k.map .inl) ≠ .k (.inr "whole") then some (D.dct true (putD (encA A) (.t (k.map .inl)) (.int v))) else none) = _
  rw [if_pos ⟨by unfold encA; rw [List.length_map]; exact h, fun z => nomatch z⟩, putD_enc]
/-! ### the box of keys -/
def inBox : List Int → List Int → Prop
  | [], [] => True
  | k :: ks, c :: cs => 0 ≤ k ∧ k ≤ c ∧ inBox ks cs
  | _, _ => False
def boxL : List Int → List (List Int)
  | [] => [[]]
  | c :: cs => (List.range (c + 1).toNat).flatMap fun i => (boxL cs).map fun k => ((i : Nat) : Int) :: k
theorem box_mem : ∀ {cs k : List Int}, inBox k cs → k ∈ boxL cs
  | [], [], _ => List.mem_singleton.mpr rfl
  | [], _ :: _, h => h.elim
  | _ :: _, [], h => h.elim
  | c :: cs, k :: ks, ⟨h1, h2, h3⟩ => by
    unfold boxL
    refine List.mem_flatMap.mpr ⟨k.toNat, List.mem_range.mpr (by omega), List.mem_map.mpr ⟨ks, box_mem h3, ?_⟩⟩
    rw [show ((k.toNat : Nat) : Int) = k by omega]
theorem box_len : ∀ {cs k : List Int}, inBox k cs → k.length = cs.length
  | [], [], _ => rfl
  | [], _ :: _, h => h.elim
  | _ :: _, [], h => h.elim
  | c :: cs, k :: ks, ⟨h1, h2, h3⟩ => by simp [box_len h3]
theorem nodup_le {α : Type} [DecidableEq α] : ∀ {l m : List α}, l.Nodup → (∀ x ∈ l, x ∈ m) → l.length ≤ m.length
  | [], _, _, _ => Nat.zero_le _
  | x :: l, m, nd, h => by
    rw [List.nodup_cons] at nd
    have hx : x ∈ m := h x List.mem_cons_self
    have := nodup_le (l := l) (m := m.erase x) nd.2 fun y hy => by
      have : y ≠ x := fun e => nd.1 (e ▸ hy)
      exact (List.mem_erase_of_ne this).mpr (h y (List.mem_cons_of_mem _ hy))
    rw [List.length_erase_of_mem hx] at this
    have := List.length_pos_of_mem hx
    simp only [List.length_cons]
    omega
/-- keys of the box, each once -/
structure Boxed (cs : List Int) (A : Asc) : Prop where
  nd : (A.map (·.1)).Nodup
  box : ∀ p ∈ A, inBox p.1 cs
theorem Boxed.len {cs : List Int} {A : Asc} (h : Boxed cs A) : A.length ≤ (boxL cs).length := by
  have := nodup_le (m := boxL cs) h.nd fun k hk => by
    obtain ⟨p, hp, rfl⟩ := List.mem_map.mp hk
    exact box_mem (h.box p hp)
  simpa using this
theorem putA_keys {A : Asc} {k : List Int} {v : Int} : (putA A k v).map (·.1) = if k ∈ A.map (·.1) then A.map (·.1) else A.map (·.1) ++ [k] := by
  have e : ((A.any fun p => decide (p.1 = k)) = true) ↔ k ∈ A.map (·.1) := by
    rw [List.any_eq_true, List.mem_map]
    exact ⟨fun ⟨p, hp, e⟩ => ⟨p, hp, of_decide_eq_true e⟩, fun ⟨p, hp, e⟩ => ⟨p, hp, decide_eq_true e⟩⟩
  unfold putA
  by_cases h : k ∈ A.map (·.1)
  · rw [if_pos h, if_pos (e.mpr h), List.map_map]
    refine List.map_congr_left fun p _ => ?_
    show (if p.1 = k then (p.1, v) else p).1 = p.1
    split <;> rfl
  · rw [if_neg h, if_neg (fun z => h (e.mp z))]
    simp
theorem Boxed.put {cs : List Int} {A : Asc} {k : List Int} {v : Int} (h : Boxed cs A) (hk : inBox k cs) : Boxed cs (putA A k v) := by
  have ek := putA_keys (A := A) (k := k) (v := v)
  have nd : ((putA A k v).map (·.1)).Nodup := by
    rw [ek]
    by_cases g : k ∈ A.map (·.1)
    · rw [if_pos g]; exact h.nd
    · rw [if_neg g, List.nodup_append]
      refine ⟨h.nd, by simp, fun a ha b hb => ?_⟩
      simp at hb
      subst hb
      exact fun e => g (e ▸ ha)
  refine ⟨nd, fun p hp => ?_⟩
  have : p.1 ∈ (putA A k v).map (·.1) := List.mem_map.mpr ⟨p, hp, rfl⟩
  rw [ek] at this
  split at this
  · obtain ⟨q, hq, e⟩ := List.mem_map.mp this
    rw [← e]; exact h.box q hq
  · rcases List.mem_append.mp this with t | t
    · obtain ⟨q, hq, e⟩ := List.mem_map.mp t
      rw [← e]; exact h.box q hq
    · simp at t
      rw [t]; exact hk
theorem lookA_of {A : Asc} {k : List Int} {v : Int} (nd : (A.map (·.1)).Nodup) (h : (k, v) ∈ A) : lookA A k = some v := by
  induction A with
  | nil => cases h
  | cons p r ih =>
    obtain ⟨k', v'⟩ := p
    rw [List.map_cons, List.nodup_cons] at nd
    unfold lookA
    rcases List.mem_cons.mp h with e | h
    · cases e; rw [if_pos rfl]
    · have : k' ≠ k := fun e => nd.1 (e ▸ List.mem_map.mpr ⟨(k, v), h, rfl⟩)
      rw [if_neg this]
      exact ih nd.2 h
/-! ### the sums -/
def bump (k : List Int) (p : Nat) : List Int := k.take p ++ [k.getD p 0 + 1] ++ k.drop (p + 1)
theorem bump_box : ∀ {cs k : List Int} {p : Nat}, inBox k cs → k.getD p 0 < cs.getD p 0 → inBox (bump k p) cs
  | [], [], p, _, h => by simp at h
  | [], _ :: _, _, h, _ => h.elim
  | _ :: _, [], _, h, _ => h.elim
  | c :: cs, k :: ks, 0, ⟨h1, h2, h3⟩, h => by
    simp at h
    show 0 ≤ k + 1 ∧ k + 1 ≤ c ∧ inBox ks cs
    exact ⟨by omega, by omega, h3⟩
  | c :: cs, k :: ks, p + 1, ⟨h1, h2, h3⟩, h => by
    show 0 ≤ k ∧ k ≤ c ∧ inBox (bump ks p) cs
    exact ⟨h1, h2, bump_box h3 (by simpa using h)⟩
def in1 (cs key : List Int) (v : Int) (late : Asc) (q : Int × Nat) : Asc := if key.getD q.2 0 < cs.getD q.2 0 then putA late (bump key q.2) ((lookA late (bump key q.2)).getD 0 + v * q.1) else late
def in2 (row cs : List Int) (late : Asc) (p : List Int × Int) : Asc := row.zipIdx.foldl (in1 cs p.1 p.2) late
def stepA (row cs : List Int) (A : Asc) : Asc := A.foldl (in2 row cs) []
def iterA {α : Type} (f : α → α) : Nat → α → α
  | 0, a => a
  | n + 1, a => f (iterA f n a)
def back1 (table : List (List Int)) (cs : List Int) (A : Asc) (q : Int × Nat) : Asc := iterA (stepA (table.getD q.2 []) cs) q.1.toNat A
def start0 (n : Nat) : Asc := [(List.replicate n 0, 1)]
/-- what all words of counts weigh together -/
def backA (table : List (List Int)) (cs : List Int) : Int := (lookA (cs.zipIdx.foldl (back1 table cs) (start0 table.length)) cs).getD 0
theorem in1_box {cs key : List Int} {v : Int} {late : Asc} {q : Int × Nat} (h : Boxed cs late) (hk : inBox key cs) : Boxed cs (in1 cs key v late q) := by
  unfold in1
  split
  · rename_i g; exact h.put (bump_box hk g)
  · exact h
theorem fold_box {α : Type} {cs : List Int} {f : Asc → α → Asc} : ∀ {l : List α} {A : Asc}, (∀ A x, x ∈ l → Boxed cs A → Boxed cs (f A x)) → Boxed cs A → Boxed cs (l.foldl f A)
  | [], _, _, h => h
  | x :: l, A, hf, h => fold_box (l := l) (fun A y hy => hf A y (List.mem_cons_of_mem _ hy)) (hf A x List.mem_cons_self h)
theorem in2_box {row cs : List Int} {late : Asc} {p : List Int × Int} (h : Boxed cs late) (hk : inBox p.1 cs) : Boxed cs (in2 row cs late p) := fold_box (fun A x _ h => in1_box h hk) h
theorem nil_box {cs : List Int} : Boxed cs [] := ⟨by simp, fun p hp => absurd hp (by simp)⟩
theorem step_box {row cs : List Int} {A : Asc} (h : Boxed cs A) : Boxed cs (stepA row cs A) := fold_box (fun B p hp hB => in2_box hB (h.box p hp)) nil_box
theorem iter_box {row cs : List Int} {A : Asc} (h : Boxed cs A) : ∀ n, Boxed cs (iterA (stepA row cs) n A)
  | 0 => h
  | n + 1 => step_box (iter_box h n)
theorem back_box {table : List (List Int)} {cs : List Int} {A : Asc} {l : List (Int × Nat)} (h : Boxed cs A) : Boxed cs (l.foldl (back1 table cs) A) := fold_box (fun B q _ hB => iter_box hB _) h
theorem start_box : ∀ {cs : List Int}, (∀ c ∈ cs, 0 ≤ c) → Boxed cs (start0 cs.length) := fun {cs} h => by
  refine ⟨by simp [start0], fun p hp => ?_⟩
  simp [start0] at hp
  subst hp
  show inBox (List.replicate cs.length 0) cs
  induction cs with
  | nil => trivial
  | cons c cs ih => exact ⟨by omega, h c List.mem_cons_self, ih fun x hx => h x (List.mem_cons_of_mem _ hx)⟩
def backB : Sms := .cons (.set 2 (.dt) (.dct (.cons false (.bin .mul (.tup (.cons false (.int 0) (.nil))) (.blt .len (.cons false (.var 0) .nil))) (.nil)) (.cons false (.int 1) (.nil)))) (.cons (.for_ (.tp (.cons (.nm 3) (.cons (.nm 4) (.nil)))) (.enum (.var 1)) (.cons (.for_ (.nm 5) (.rng1 (.var 4)) (.cons (.set 6 (.dt) (.dct0 true)) (.cons (.forK (.nm 7) 2 (.cons (.for_ (.tp (.cons (.nm 8) (.cons (.nm 9) (.nil)))) (.enum (.sub (.var 0) (.var 3))) (.cons (.ife (.cmp .lt (.sub (.var 7) (.var 8)) (.sub (.var 1) (.var 8))) (.cons (.set 10 (.sh) (.bin .add (.bin .add (.slc (.var 7) (.none) (.some (.var 8))) (.tup (.cons false (.bin .add (.sub (.var 7) (.var 8)) (.int 1)) (.nil)))) (.slc (.var 7) (.some (.bin .add (.var 8) (.int 1))) (.none)))) (.cons (.put (.v 6) (.var 10) (.bin .add (.getd (.var 6) (.var 10) (.int 0)) (.bin .mul (.sub (.var 2) (.var 7)) (.var 9)))) (.nil))) (.nil)) (.nil))) (.nil))) (.cons (.mv 2 6) (.nil))))) (.nil))) (.cons (.ret (.getd (.var 2) (.blt .tuple (.cons false (.var 1) .nil)) (.int 0))) (.nil)))
def encT (table : List (List Int)) : D := .tup (table.map encK)
theorem key_ix {k : List Int} {p : Nat} (h : p < k.length) : ixD (k.map D.int) (p : Int) = some (.int (k.getD p 0)) := by
  refine ix_some ?_
  rw [List.getElem?_map, List.getElem?_eq_getElem h, Option.map_some, List.getD_eq_getElem?_getD, List.getElem?_eq_getElem h, Option.getD_some]
theorem back_ok {Φ : Fen} (hΦ : Mono Φ) {table : List (List Int)} {cs : List Int} (hl : table.length = cs.length) (hr : ∀ r ∈ table, r.length = cs.length ∧ ∀ x ∈ r, -(2 ^ 64) < x ∧ x < 2 ^ 64) (hc : ∀ c ∈ cs, 0 ≤ c ∧ c ≤ 1048576) (hb : (boxL cs).length < 16777216) (h2 : cs.length ≤ 1000) {Q : D → Prop} {E : Exn → Prop} (h : Q (.int (backA table cs))) : evD Φ 11 true backB [encT table, encK cs] Q E := by
  unfold backB encT
  rw [show encK cs = .tup (cs.map .int) from rfl]
  walk_at "w"
  refine ⟨⟨by omega, by simp; omega⟩, ?_⟩
  have e0 : (List.replicate (((table.map encK).length : Int)).toNat [D.int 0]).flatten = (List.replicate table.length (0 : Int)).map D.int := by
    rw [Int.toNat_natCast, List.length_map, List.map_replicate]
    induction table.length with
    | zero => rfl
    | succ n ih => rw [List.replicate_succ, List.flatten_cons, ih]; rfl
  rw [e0]
  rw [show D.tup ((List.replicate table.length (0 : Int)).map D.int) = encK (List.replicate table.length 0) from rfl, kyT_enc]
  walk_at "w"
  rw [dOf_inl, enum_map]
  have hst : Boxed cs (start0 table.length) := by rw [hl]; exact start_box fun c hc' => (hc c hc').1
  refine for_map hΦ (fun p r ρ => ∃ c3 c4 c5 c6 c7 c8 c9 c10, ρ = [some (.tup (table.map encK)), some (.tup (cs.map .int)), some (.dct true (encA (p.foldl (back1 table cs) (start0 table.length)))), c3, c4, c5, c6, c7, c8, c9, c10]) ⟨_, _, _, _, _, _, _, _, rfl⟩ (fun p x r ρ e ⟨c3, c4, c5, c6, c7, c8, c9, c10, hρ⟩ => ?_) (fun ρ ⟨c3, c4, c5, c6, c7, c8, c9, c10, hρ⟩ => ?_)
  · subst hρ
    have hp : Boxed cs (p.foldl (back1 table cs) (start0 table.length)) := back_box hst
    have hx : cs[x.2]? = some x.1 := zipIdx_mem (by rw [e]; simp)
    have hx1 := hc x.1 (List.mem_of_getElem? hx)
    have hx2 : x.2 < cs.length := (List.getElem?_eq_some_iff.mp hx).1
    generalize hA : p.foldl (back1 table cs) (start0 table.length) = A at hp
    have hrow : table[x.2]? = some (table.getD x.2 []) := by rw [List.getD_eq_getElem?_getD, List.getElem?_eq_getElem (by omega), Option.getD_some]
    have hrm := hr _ (List.mem_of_getElem? hrow)
    walk_at "w"
    refine ⟨by omega, ?_⟩
    have hrow2 : ixD (table.map encK) (x.2 : Int) = some (encK (table.getD x.2 [])) := ix_some (by rw [List.getElem?_map, hrow]; rfl)
    generalize hrw : table.getD x.2 [] = row at hrow2 hrm hrow
    refine for_rng hΦ (fun k ρ => ∃ c5 c6 c7 c8 c9 c10, ρ = [some (.tup (table.map encK)), some (.tup (cs.map .int)), some (.dct true (encA (iterA (stepA row cs) k A))), some (.int x.2), some (.int x.1), c5, c6, c7, c8, c9, c10]) ⟨_, _, _, _, _, _, rfl⟩ (fun k ρ hk ⟨c5, c6, c7, c8, c9, c10, hρ⟩ => ?_) (fun ρ ⟨c5, c6, c7, c8, c9, c10, hρ⟩ => ?_)
    · subst hρ
      have hB : Boxed cs (iterA (stepA row cs) k A) := iter_box hp k
      rw [show iterA (stepA row cs) (k + 1) A = stepA row cs (iterA (stepA row cs) k A) from rfl]
      generalize iterA (stepA row cs) k A = B at hB
      walk_at "w"
      rw [show (encA B).map (·.1) = B.map (fun p => encK p.1) by unfold encA; rw [List.map_map]; rfl]
      refine for_map hΦ (fun p r ρ => ∃ c7 c8 c9 c10, ρ = [some (.tup (table.map encK)), some (.tup (cs.map .int)), some (.dct true (encA B)), some (.int x.2), some (.int x.1), some (.int (0 + (k : Int) * 1)), some (.dct true (encA (p.foldl (in2 row cs) []))), c7, c8, c9, c10]) ⟨_, _, _, _, rfl⟩ (fun p y r ρ e ⟨c7, c8, c9, c10, hρ⟩ => ?_) (fun ρ ⟨c7, c8, c9, c10, hρ⟩ => ?_)
      · subst hρ
        have hy : y ∈ B := by rw [e]; simp
        have hyb := hB.box y hy
        have hyl := box_len hyb
        have hlook : lookA B y.1 = some y.2 := lookA_of hB.nd hy
        have hL : Boxed cs (p.foldl (in2 row cs) []) := fold_box (fun C z hz hC => in2_box hC (hB.box z (by rw [e]; simp [hz]))) nil_box
        rw [List.foldl_append, show ∀ (L : Asc), List.foldl (in2 row cs) L [y] = row.zipIdx.foldl (in1 cs y.1 y.2) L from fun _ => rfl]
        generalize p.foldl (in2 row cs) [] = L at hL
        rw [show encK y.1 = .tup (y.1.map .int) from rfl]
        walk_at "w"
        rw [hrow2]
        rw [show encK row = .tup (row.map .int) from rfl]
        walk_at "w"
        rw [enum_map]
        refine for_map hΦ (fun p r ρ => ∃ c8 c9 c10, ρ = [some (.tup (table.map encK)), some (.tup (cs.map .int)), some (.dct true (encA B)), some (.int x.2), some (.int x.1), some (.int (0 + (k : Int) * 1)), some (.dct true (encA (p.foldl (in1 cs y.1 y.2) L))), some (.tup (y.1.map .int)), c8, c9, c10]) ⟨_, _, _, rfl⟩ (fun p z r ρ e ⟨c8, c9, c10, hρ⟩ => ?_) (fun ρ ⟨c8, c9, c10, hρ⟩ => ?_)
        · subst hρ
          have hz : row[z.2]? = some z.1 := zipIdx_mem (by rw [e]; simp)
          have hz2 : z.2 < cs.length := by have := (List.getElem?_eq_some_iff.mp hz).1; omega
          have hz1 := hrm.2 z.1 (List.mem_of_getElem? hz)
          have hM : Boxed cs (p.foldl (in1 cs y.1 y.2) L) := fold_box (fun C z hz hC => in1_box hC hyb) hL
          rw [List.foldl_append, show ∀ (L : Asc), List.foldl (in1 cs y.1 y.2) L [z] = in1 cs y.1 y.2 L z from fun _ => rfl]
          generalize p.foldl (in1 cs y.1 y.2) L = M at hM
          unfold in1
          walk_at "w"
          rw [key_ix (k := y.1) (p := z.2) (by omega)]
          walk_at "w"
          rw [key_ix (k := cs) (p := z.2) hz2]
          walk_at "w"
          cases hlt : decide (y.1.getD z.2 0 < cs.getD z.2 0)
          · have hlt := of_decide_eq_false hlt
            rw [if_neg hlt]
            walk_at "w"
            exact ⟨_, _, _, rfl⟩
          · have hlt := of_decide_eq_true hlt
            rw [if_pos hlt]
            walk_at "w"
            rw [key_ix (k := y.1) (p := z.2) (by omega), cut_pre]
            walk_at "w"
            rw [cut_suf]
            refine ⟨by simp; omega, by simp; omega, ?_⟩
            have eb : D.tup ((y.1.map D.int).take z.2 ++ [D.int (y.1.getD z.2 0 + 1)] ++ (y.1.map D.int).drop (z.2 + 1)) = encK (bump y.1 z.2) := by
              unfold encK bump
              simp [List.map_take, List.map_drop]
            have eb2 : D.tup ((y.1.map D.int).take z.2 ++ D.int (y.1.getD z.2 0 + 1) :: (y.1.map D.int).drop (z.2 + 1)) = encK (bump y.1 z.2) := by
              rw [← eb]; simp
            try rw [eb]
            try rw [eb2]
            rw [kyT_enc, show D.tup (y.1.map D.int) = encK y.1 from rfl, kyT_enc]
            walk_at "w"
            rw [lookD_enc, lookD_enc, hlook]
            walk_at "w"
            rw [show ((lookA M (bump y.1 z.2)).map D.int).getD (.int 0) = .int ((lookA M (bump y.1 z.2)).getD 0) by cases lookA M (bump y.1 z.2) <;> rfl]
            walk_at "w"
            refine ⟨mulR hz1.1 hz1.2, ?_⟩
            rw [set_enc (Nat.lt_of_le_of_lt hM.len hb)]
            exact ⟨_, _, _, rfl⟩
        · subst hρ
          exact ⟨_, _, _, _, rfl⟩
      · subst hρ
        walk_at "w"
        exact ⟨_, _, _, _, _, _, rfl⟩
    · subst hρ
      rw [List.foldl_append, hA, show List.foldl (back1 table cs) A [x] = iterA (stepA row cs) x.1.toNat A by show iterA (stepA (table.getD x.2 []) cs) _ _ = _; rw [hrw]]
      exact ⟨_, _, _, _, _, _, _, _, rfl⟩
  · subst hρ
    walk_at "w"
    rw [show D.tup (cs.map D.int) = encK cs from rfl, kyT_enc]
    walk_at "w"
    rw [lookD_enc]
    unfold backA at h
    cases e : lookA (cs.zipIdx.foldl (back1 table cs) (start0 table.length)) cs with
    | none => rw [e] at h; exact h
    | some v => rw [e] at h; exact h
end Wb

end
section
/-! Wb: tables: what is one, how one is drawn. -/
open PySem PySem.Spec PyProof.Rows L2 Wb
namespace Wb
theorem bls_map {α : Type} (f : α → Bool) : ∀ xs : List α, blsD (xs.map fun x => .bl (f x)) = some (xs.map f)
  | [] => rfl
  | x :: r => by simp [blsD, bls_map f r]
theorem comp_mapD {Φ : Fen} (hΦ : Mono Φ) {own : List Nat} {e : Ex} {tg : Tg} {fs : Els} {ρ : Env} {E : Exn → Prop} (g : D → D) {xs : List D} {Q : List D → Prop} (hx : ∀ x ∈ xs, cmpF Φ own e tg fs ρ x (fun o => o = some (g x)) E) (h : Q (xs.map g)) : compL (cmpF Φ own e tg fs ρ) xs Q E := by
  have := comp_map hΦ (g0 := fun x => x) g hx h
  rwa [List.map_id'] at this
theorem comp2_mapD {Φ : Fen} (hΦ : Mono Φ) {own own1 : List Nat} {e : Ex} {tg : Tg} {fs : Els} {tg1 : Tg} {it1 : It} {fs1 : Els} {ρ : Env} {E : Exn → Prop} (g : D → List D) (L : Nat) {xs : List D} {n : Nat} {Q : List D → Prop} (hn : n + (xs.flatMap g).length ≤ L) (hx : ∀ x ∈ xs, ∀ k, k + (g x).length ≤ L → cmpG Φ own own1 e tg fs tg1 it1 fs1 ρ k x (fun o => o = g x) E) (h : Q (xs.flatMap g)) : compL2 (cmpG Φ own own1 e tg fs tg1 it1 fs1 ρ) n xs Q E := by
  have := comp2_map hΦ (g0 := fun x => x) g L hn hx h
  rwa [List.map_id'] at this
def itemsT : D → List D
  | .tup xs => xs
  | _ => []
def rowB (n : Nat) : D → Bool
  | .tup xs => decide (xs.length = n)
  | _ => false
/-- a whole number from lo to hi -/
def numB (lo hi : Int) : D → Bool
  | .int i => decide (lo ≤ i) && decide (i ≤ hi)
  | _ => false
def tabB (letters : Int) (d : D) : Bool := match d with
  | .tup rows => decide (1 ≤ rows.length) && decide ((rows.length : Int) ≤ letters) && rows.all (rowB rows.length) && (rows.flatMap itemsT).all (numB (-999) 999)
  | _ => false
def tabTy (d : D) : Prop := (dty d).isSome = true ∧ ∀ r ∈ itemsT d, (dty r).isSome = true ∧ ∀ x ∈ itemsT r, (dty x).isSome = true
/-- whole-number tests -/
def Wholes (Φ : Fen) (i : Nat) : Prop := ∀ (x : D) (Q : D → Prop) (E : Exn → Prop), (dty x).isSome = true → Q (.bl (isI x)) → Φ i [x] Q E
def tabofB (whole : Nat) (letters : Int) : Sms := .cons (.ife (.or (.cons false (.nt (.isin (.var 0) .tuple)) (.cons false (.nt (.chn .le .le (.int 1) (.blt .len (.cons false (.var 0) .nil)) (.gint "LETTERS" letters))) (.nil)))) (.cons (.ret (.bl false)) (.nil)) (.nil)) (.cons (.ife (.nt (.blt .all (.cons false (.comp [1] (.and (.cons false (.isin (.var 1) .tuple) (.cons false (.cmp .eq (.blt .len (.cons false (.var 1) .nil)) (.blt .len (.cons false (.var 0) .nil))) (.nil)))) (.nm 1) (.seq (.var 0)) (.nil)) .nil))) (.cons (.ret (.bl false)) (.nil)) (.nil)) (.cons (.ret (.blt .all (.cons false (.comp2 [1, 2] [2] (.and (.cons false (.call whole (.cons false (.var 2) (.nil))) (.cons false (.chn .le .le (.neg (.gint "MOST_NUMBER" 999)) (.var 2) (.gint "MOST_NUMBER" 999)) (.nil)))) (.nm 1) (.seq (.var 0)) (.nil) (.nm 2) (.seq (.var 1)) (.nil)) .nil))) (.nil)))
def isT : D → Bool
  | .tup _ => true
  | _ => false
theorem isin_tup {x : D} (h : (dty x).isSome = true) {B : Bool → Prop} {E : Exn → Prop} : isinD .tuple x B E = B (isT x) := by
  cases x <;> first | rfl | cases h
theorem flat_map_map {α β γ : Type} (f : β → γ) (g : α → List β) : ∀ xs : List α, xs.flatMap (fun x => (g x).map f) = (xs.flatMap g).map f
  | [] => rfl
  | x :: r => by simp [flat_map_map f g r]
theorem flat_len {α β : Type} {g : α → List β} {k : Nat} : ∀ {xs : List α}, (∀ x ∈ xs, (g x).length ≤ k) → (xs.flatMap g).length ≤ xs.length * k
  | [], _ => by simp
  | x :: r, h => by
    have := flat_len (xs := r) fun y hy => h y (List.mem_cons_of_mem _ hy)
    have := h x List.mem_cons_self
    rw [List.flatMap_cons, List.length_append, List.length_cons, Nat.succ_mul]
    omega
theorem tabof_ok {Φ : Fen} (hΦ : Mono Φ) {whole : Nat} (hw : Wholes Φ whole) {letters : Int} (hl : letters ≤ 1000) {x : D} (hx : tabTy x) {Q : D → Prop} {E : Exn → Prop} (h : Q (.bl (tabB letters x))) : evD Φ 3 true (tabofB whole letters) [x] Q E := by
  unfold tabofB
  walk_at "w"
  rw [isin_tup hx.1]
  cases x with
  | tup rows =>
    rw [show isT (.tup rows) = true from rfl]
    walk_at "w"
    replace h : Q (.bl (decide (1 ≤ rows.length) && decide ((rows.length : Int) ≤ letters) && rows.all (rowB rows.length) && (rows.flatMap itemsT).all (numB (-999) 999))) := h
    by_cases h1 : 1 ≤ rows.length
    · rw [decide_eq_true h1] at h
      rw [decide_eq_true (show (1 : Int) ≤ rows.length by omega)]
      walk_at "w"
      by_cases h2 : (rows.length : Int) ≤ letters
      · rw [decide_eq_true h2] at h ⊢
        walk_at "w"
        refine comp_mapD hΦ (fun r => .bl (rowB rows.length r)) (fun r hr => ?_) ?_
        · rw [w_cmpF]
          walk_at "w"
          rw [isin_tup (hx.2 r hr).1]
          cases r with
          | tup xs =>
            rw [show isT (.tup xs) = true from rfl]
            walk_at "w"
            simp [rowB]
            omega
          | _ => simp only [isT]; walk_at "w"; rfl
        · rw [bls_map]
          walk_at "w"
          have e1 : (rows.map (rowB rows.length)).all id = rows.all (rowB rows.length) := by rw [List.all_map]; rfl
          rw [e1]
          cases h3 : rows.all (rowB rows.length)
          · rw [h3] at h
            walk_at "w"
            exact h
          · rw [h3] at h
            walk_at "w"
            have hr : ∀ r ∈ rows, ∃ xs, r = .tup xs ∧ xs.length = rows.length := fun r hr => by
              have := List.all_eq_true.mp h3 r hr
              cases r <;> first | (cases this; done) | exact ⟨_, rfl, of_decide_eq_true this⟩
            have hlen : (rows.flatMap itemsT).length ≤ rows.length * rows.length := flat_len fun r hr' => by
              obtain ⟨xs, rfl, e⟩ := hr r hr'
              exact Nat.le_of_eq e
            have hsq : rows.length * rows.length ≤ 1000 * 1000 := Nat.mul_le_mul (by omega) (by omega)
            refine comp2_mapD hΦ (fun r => (itemsT r).map fun x => .bl (numB (-999) 999 x)) 16777216 ?_ (fun r hr' k hk => ?_) ?_
            · rw [flat_map_map, List.length_map]; omega
            · rw [w_cmpG]
              obtain ⟨xs, rfl, e⟩ := hr r hr'
              walk_at "w"
              refine ⟨by simpa [itemsT] using hk, ?_⟩
              refine comp_mapD hΦ (fun x => .bl (numB (-999) 999 x)) (fun y hy => ?_) (by simp [itemsT])
              rw [w_cmpF]
              walk_at "w"
              refine hw _ _ _ ((hx.2 _ hr').2 y hy) ?_
              cases y with
              | int i =>
                simp only [isI]
                walk_at "w"
                by_cases a : -999 ≤ i
                · rw [decide_eq_true a]
                  walk_at "w"
                  simp [numB, a]
                · rw [decide_eq_false a]
                  walk_at "w"
                  simp [numB, a]
              | _ => simp only [isI]; walk_at "w"; rfl
            · rw [flat_map_map]
              rw [bls_map]
              walk_at "w"
              rw [List.all_map, Function.id_comp]
              exact h
      · rw [decide_eq_false h2] at h ⊢
        walk_at "w"
        exact h
    · rw [decide_eq_false h1] at h
      rw [decide_eq_false (show ¬ (1 : Int) ≤ rows.length by omega)]
      walk_at "w"
      exact h
  | _ => simp only [isT]; walk_at "w"; exact h
/-- table tests -/
def TabTests (Φ : Fen) (i : Nat) (letters : Int) : Prop := ∀ (x : D) (Q : D → Prop) (E : Exn → Prop), tabTy x → Q (.bl (tabB letters x)) → Φ i [x] Q E
def needTB (tabof : Nat) : Sms := .cons (.ife (.call tabof (.cons false (.var 0) (.nil))) (.cons (.retN) (.nil)) (.nil)) (.cons (.ife (.cmp .eq (.var 1) (.str "one")) (.cons (.raise "BadOne" .none) (.nil)) (.nil)) (.cons (.ife (.cmp .eq (.var 1) (.str "other")) (.cons (.raise "BadOther" .none) (.nil)) (.nil)) (.cons (.raise "BadTable" .none) (.nil))))
theorem str_eq {x y : Str} (hx : strOkB x = true) (hy : strOkB y = true) {B : Bool → Prop} {E : Exn → Prop} : cmpD .eq (.str x) (.str y) B E = B (decide (x = y)) := by
  rw [v_eq, okEq_of (dOk_str hx), okEq_of (dOk_str hy)]
  simp only [true_and]
  rw [show eqv (.str x) (.str y) = decide (x = y) from rfl]
/-- which error a table that is none makes -/
def badT (w : Str) : Str := if w = "one" then "BadOne" else if w = "other" then "BadOther" else "BadTable"
theorem needT_ok {Φ : Fen} {tabof : Nat} {letters : Int} (ht : TabTests Φ tabof letters) {x : D} (hx : tabTy x) {w : Str} (hw : strOkB w = true) {Q : D → Prop} {E : Exn → Prop} (h : if tabB letters x = true then Q .non else E ⟨badT w, none⟩) : evD Φ 2 true (needTB tabof) [x, .str w] Q E := by
  unfold needTB
  walk_at "w"
  refine ht _ _ _ hx ?_
  cases e : tabB letters x
  · rw [e] at h
    simp only [Bool.false_eq_true, if_false] at h
    unfold badT at h
    walk_at "w"
    rw [str_eq hw (by decide +kernel)]
    by_cases h1 : w = "one"
    · rw [if_pos h1] at h
      rw [decide_eq_true h1]
      walk_at "w"
      exact h
    · rw [if_neg h1] at h
      rw [decide_eq_false h1]
      walk_at "w"
      rw [str_eq hw (by decide +kernel)]
      by_cases h2 : w = "other"
      · rw [if_pos h2] at h
        rw [decide_eq_true h2]
        walk_at "w"
        exact h
      · rw [if_neg h2] at h
        rw [decide_eq_false h2]
        walk_at "w"
        exact h
  · rw [e] at h
    simp only [if_true] at h
    walk_at "w"
    exact h
/-- a table of whole numbers -/
def IsTab (n : Nat) (T : List (List Int)) : Prop := T.length = n ∧ ∀ r ∈ T, r.length = n ∧ ∀ x ∈ r, -999 ≤ x ∧ x ≤ 999
theorem dty_enc {T : List (List Int)} : tabTy (encT T) := by
  refine ⟨rfl, fun r hr => ?_⟩
  obtain ⟨t, _, rfl⟩ := List.mem_map.mp (show r ∈ T.map encK from hr)
  refine ⟨rfl, fun x hx => ?_⟩
  obtain ⟨i, _, rfl⟩ := List.mem_map.mp (show x ∈ t.map D.int from hx)
  rfl
theorem tabB_enc {n : Nat} {T : List (List Int)} (h : IsTab n T) {letters : Int} (h1 : 1 ≤ n) (h2 : (n : Int) ≤ letters) : tabB letters (encT T) = true := by
  show (decide (1 ≤ (T.map encK).length) && decide (((T.map encK).length : Int) ≤ letters) && (T.map encK).all (rowB (T.map encK).length) && ((T.map encK).flatMap itemsT).all (numB (-999) 999)) = true
  rw [List.length_map, h.1, decide_eq_true h1, decide_eq_true h2]
  have e3 : (T.map encK).all (rowB n) = true := by
    rw [List.all_eq_true]
    intro r hr
    obtain ⟨t, ht, rfl⟩ := List.mem_map.mp hr
    have := (h.2 t ht).1
    show decide ((t.map D.int).length = n) = true
    rw [List.length_map]
    exact decide_eq_true this
  have e4 : ((T.map encK).flatMap itemsT).all (numB (-999) 999) = true := by
    rw [List.all_eq_true]
    intro x hx
    obtain ⟨r, hr, hx⟩ := List.mem_flatMap.mp hx
    obtain ⟨t, ht, rfl⟩ := List.mem_map.mp hr
    obtain ⟨i, hi, rfl⟩ := List.mem_map.mp (show x ∈ t.map D.int from hx)
    have := (h.2 t ht).2 i hi
    show (decide (-999 ≤ i) && decide (i ≤ 999)) = true
    rw [decide_eq_true this.1, decide_eq_true this.2]
    rfl
  rw [e3, e4]
  rfl
/-! ### counts -/
def cntB (n : Int) (most : Int) : D → Bool
  | .tup xs => decide ((xs.length : Int) = n) && xs.all (numB 0 most)
  | _ => false
def cntTy (d : D) : Prop := (dty d).isSome = true ∧ ∀ x ∈ itemsT d, (dty x).isSome = true
def needCB (whole : Nat) : Sms := .cons (.ife (.or (.cons false (.nt (.isin (.var 0) .tuple)) (.cons false (.cmp .ne (.blt .len (.cons false (.var 0) .nil)) (.var 1)) (.nil)))) (.cons (.raise "BadCounts" .none) (.nil)) (.nil)) (.cons (.ife (.nt (.blt .all (.cons false (.comp [3] (.and (.cons false (.call whole (.cons false (.var 3) (.nil))) (.cons false (.chn .le .le (.int 0) (.var 3) (.var 2)) (.nil)))) (.nm 3) (.seq (.var 0)) (.nil)) .nil))) (.cons (.raise "BadCounts" .none) (.nil)) (.nil)) (.nil))
theorem needC_ok {Φ : Fen} (hΦ : Mono Φ) {whole : Nat} (hw : Wholes Φ whole) {n most : Int} {x : D} (hx : cntTy x) {Q : D → Prop} {E : Exn → Prop} (h : if cntB n most x = true then Q .non else E ⟨"BadCounts", none⟩) : evD Φ 4 true (needCB whole) [x, .int n, .int most] Q E := by
  unfold needCB
  walk_at "w"
  rw [isin_tup hx.1]
  cases x with
  | tup xs =>
    rw [show isT (.tup xs) = true from rfl]
    walk_at "w"
    replace h : if (decide ((xs.length : Int) = n) && xs.all (numB 0 most)) = true then Q .non else E ⟨"BadCounts", none⟩ := h
    by_cases h1 : (xs.length : Int) = n
    · rw [decide_eq_true h1] at h ⊢
      walk_at "w"
      refine comp_mapD hΦ (fun x => .bl (numB 0 most x)) (fun y hy => ?_) ?_
      · rw [w_cmpF]
        walk_at "w"
        refine hw _ _ _ (hx.2 y hy) ?_
        cases y with
        | int i =>
          simp only [isI]
          walk_at "w"
          by_cases a : 0 ≤ i
          · rw [decide_eq_true a]
            walk_at "w"
            simp [numB, a]
          · rw [decide_eq_false a]
            walk_at "w"
            simp [numB, a]
        | _ => simp only [isI]; walk_at "w"; rfl
      · rw [bls_map]
        walk_at "w"
        rw [List.all_map, Function.id_comp]
        cases e : xs.all fun x => numB 0 most x
        · rw [show xs.all (numB 0 most) = false from e] at h
          walk_at "w"
          simpa using h
        · rw [show xs.all (numB 0 most) = true from e] at h
          walk_at "w"
          simpa using h
    · rw [decide_eq_false h1] at h ⊢
      walk_at "w"
      simpa using h
  | _ => simp only [isT]; walk_at "w"; exact h
theorem cnt_enc {cs : List Int} {n most : Int} (h1 : (cs.length : Int) = n) (h2 : ∀ c ∈ cs, 0 ≤ c ∧ c ≤ most) : cntB n most (encK cs) = true := by
  show (decide (((cs.map D.int).length : Int) = n) && (cs.map D.int).all (numB 0 most)) = true
  rw [List.length_map, decide_eq_true h1, Bool.true_and, List.all_eq_true]
  intro x hx
  obtain ⟨i, hi, rfl⟩ := List.mem_map.mp hx
  have := h2 i hi
  show (decide (0 ≤ i) && decide (i ≤ most)) = true
  rw [decide_eq_true this.1, decide_eq_true this.2]
  rfl
theorem cnt_ty {cs : List Int} : cntTy (encK cs) := ⟨rfl, fun x hx => by
  obtain ⟨i, _, rfl⟩ := List.mem_map.mp (show x ∈ cs.map D.int from hx)
  rfl⟩
end Wb

end
section
/-! Wb: drawn tables, drawn counts. -/
open PySem PySem.Spec PyProof.Rows L2 Wb
namespace Wb
def encL (r : List Int) : D := .lst (r.map .int)
theorem un_map {α : Type} {g : α → D} {p : α → Prop} : ∀ {ys : List D}, (∀ y ∈ ys, ∃ a, y = g a ∧ p a) → ∃ as : List α, ys = as.map g ∧ ∀ a ∈ as, p a
  | [], _ => ⟨[], rfl, fun _ h => absurd h (by simp)⟩
  | y :: r, h => by
    obtain ⟨a, e, hp⟩ := h y List.mem_cons_self
    obtain ⟨as, e2, h2⟩ := un_map (ys := r) fun z hz => h z (List.mem_cons_of_mem _ hz)
    exact ⟨a :: as, by rw [e, e2]; rfl, fun b hb => (List.mem_cons.mp hb).elim (fun e => e ▸ hp) (h2 b)⟩
theorem ix0 {x : D} {xs : List D} : ixD (x :: xs) 0 = some x := ix_some (xs := x :: xs) (i := 0) rfl
theorem len_rng {lo c : Int} {n : Nat} : (rngD lo n c).length = n := by simp [rngD]
/-- a list of n drawn numbers from lo to hi -/
def InB (n : Nat) (lo hi : Int) (r : List Int) : Prop := r.length = n ∧ ∀ x ∈ r, lo ≤ x ∧ x ≤ hi
theorem un_ints {n : Nat} {lo hi : Int} {ys : List D} (hl : ys.length = n) (h : ∀ y ∈ ys, ∃ i : Int, y = .int i ∧ (lo ≤ i ∧ i ≤ hi)) : ∃ r : List Int, ys = r.map .int ∧ InB n lo hi r := by
  obtain ⟨r, e, hr⟩ := un_map (g := D.int) h
  exact ⟨r, e, by rw [e, List.length_map] at hl; exact hl, hr⟩
theorem un_rows {n : Nat} {ys : List D} (hl : ys.length = n) (h : ∀ y ∈ ys, ∃ r : List Int, y = encL r ∧ InB n (-999) 999 r) : ∃ T : List (List Int), ys = T.map encL ∧ IsTab n T := by
  obtain ⟨r, e, hr⟩ := un_map (g := encL) h
  exact ⟨r, e, by rw [e, List.length_map] at hl; exact hl, hr⟩
def tableB (take pick : Nat) : Sms := .cons (.asg (.tp (.cons (.nm 3) (.cons (.nm 4) (.nil)))) (.tup (.cons false (.call take (.cons false (.var 0) (.cons false (.int 7) (.nil)))) (.cons false (.call pick (.cons false (.var 0) (.cons false (.lst (.cons false (.int 1) (.cons false (.int 2) (.cons false (.int 5) (.cons false (.int 999) (.nil)))))) (.nil)))) (.nil))))) (.cons (.set 2 (.sh) (.comp [5] (.comp [6] (.bin .sub (.call take (.cons false (.var 0) (.cons false (.bin .add (.bin .mul (.int 2) (.var 4)) (.int 1)) (.nil)))) (.var 4)) (.nm 6) (.rng1 (.var 1)) (.nil)) (.nm 5) (.rng1 (.var 1)) (.nil))) (.cons (.ife (.cmp .eq (.var 3) (.int 0)) (.cons (.set 2 (.sh) (.comp [5] (.comp [7] (.ite (.cmp .eq (.call take (.cons false (.var 0) (.cons false (.int 2) (.nil)))) (.int 0)) (.var 7) (.int 0)) (.nm 7) (.seq (.var 5)) (.nil)) (.nm 5) (.seq (.var 2)) (.nil))) (.nil)) (.cons (.ife (.cmp .eq (.var 3) (.int 1)) (.cons (.set 2 (.sh) (.comp [5] (.sub (.var 2) (.int 0)) (.nm 5) (.seq (.var 2)) (.nil))) (.nil)) (.cons (.ife (.cmp .eq (.var 3) (.int 2)) (.cons (.set 2 (.sh) (.comp [5] (.comp [7] (.sub (.sub (.var 2) (.int 0)) (.int 0)) (.nm 7) (.seq (.var 5)) (.nil)) (.nm 5) (.seq (.var 2)) (.nil))) (.nil)) (.cons (.ife (.cmp .eq (.var 3) (.int 3)) (.cons (.set 2 (.sh) (.comp [5] (.comp [7] (.bin .add (.int 1) (.call take (.cons false (.var 0) (.cons false (.int 3) (.nil))))) (.nm 7) (.seq (.var 5)) (.nil)) (.nm 5) (.seq (.var 2)) (.nil))) (.nil)) (.cons (.ife (.cmp .eq (.var 3) (.int 4)) (.cons (.set 2 (.sh) (.comp [8, 5] (.comp [6, 7] (.ite (.cmp .le (.var 6) (.var 8)) (.var 7) (.int 0)) (.tp (.cons (.nm 6) (.cons (.nm 7) (.nil)))) (.enum (.var 5)) (.nil)) (.tp (.cons (.nm 8) (.cons (.nm 5) (.nil)))) (.enum (.var 2)) (.nil))) (.nil)) (.nil)) (.nil))) (.nil))) (.nil))) (.nil))) (.cons (.ret (.blt .tuple (.cons false (.comp [5] (.blt .tuple (.cons false (.var 5) .nil)) (.nm 5) (.seq (.var 2)) (.nil)) .nil))) (.nil))))
theorem table_ok {Φ : Fen} (hΦ : Mono Φ) {take pick : Nat} (ht : Takes_ Φ take) (hp : Picks Φ pick) {n : Nat} (h0 : n ≤ 1000) {Q : D → Prop} {E : Exn → Prop} (h : ∀ T, IsTab n T → Q (encT T)) : evD Φ 9 true (tableB take pick) [.tok, .int n] Q E := by
  unfold tableB
  walk_at "w"
  refine ht _ _ _ (by decide) fun way w1 w2 => ?_
  walk_at "w"
  refine (hp _ _ _ (by simp) (by simp) fun top hx => ?_).1
  have : ∃ t : Int, top = .int t ∧ 0 ≤ t ∧ t ≤ 999 := by
    simp only [List.mem_cons, List.not_mem_nil, or_false] at hx
    rcases hx with rfl | rfl | rfl | rfl
    · exact ⟨1, rfl, by decide, by decide⟩
    · exact ⟨2, rfl, by decide, by decide⟩
    · exact ⟨5, rfl, by decide, by decide⟩
    · exact ⟨999, rfl, by decide, by decide⟩
  obtain ⟨t, rfl, t1, t2⟩ := this
  clear hx
  walk_at "w"
  refine ⟨by omega, ?_⟩
  refine comp_draw hΦ (fun y => ∃ r : List Int, y = encL r ∧ InB n (-999) 999 r) (fun x hx => ?_) (fun ys hl hys => ?_)
  · obtain ⟨j, hj, rfl⟩ := List.mem_map.mp hx
    rw [w_cmpF]
    walk_at "w"
    refine ⟨by omega, ?_⟩
    refine comp_draw hΦ (fun y => ∃ i : Int, y = .int i ∧ (-999 ≤ i ∧ i ≤ 999)) (fun x hx => ?_) (fun ys hl hys => ?_)
    · obtain ⟨k, hk, rfl⟩ := List.mem_map.mp hx
      rw [w_cmpF]
      walk_at "w"
      refine ⟨mulL (by decide) (by decide), ?_⟩
      refine ht _ _ _ (by omega) fun v v1 v2 => ?_
      walk_at "w"
      exact ⟨_, rfl, _, rfl, by omega, by omega⟩
    · rw [len_rng] at hl
      obtain ⟨r, e, hr⟩ := un_ints (n := n) (by omega) hys
      subst e
      try walk_at "w"
      exact ⟨_, rfl, r, rfl, hr⟩
  rw [len_rng] at hl
  obtain ⟨T, e, IT⟩ := un_rows (n := n) (by omega) hys
  subst e
  clear hl hys
  try walk_at "w"
  have row0 : ∀ r ∈ T, ∃ r0, ixD (T.map encL) 0 = some (encL r0) ∧ InB n (-999) 999 r0 := fun r hr => by
    cases T with
    | nil => exact absurd hr (by simp)
    | cons a l => exact ⟨a, ix0, IT.2 a List.mem_cons_self⟩
  by_cases c0 : way = 0
  · rw [decide_eq_true c0]
    walk_at "w"
    refine comp_draw hΦ (fun y => ∃ r : List Int, y = encL r ∧ InB n (-999) 999 r) (fun x hx => ?_) (fun ys hl hys => ?_)
    · obtain ⟨r, hr, rfl⟩ := List.mem_map.mp hx
      rw [w_cmpF]
      unfold encL
      walk_at "w"
      refine comp_draw hΦ (fun y => ∃ i : Int, y = .int i ∧ (-999 ≤ i ∧ i ≤ 999)) (fun x hx => ?_) (fun ys hl hys => ?_)
      · obtain ⟨k, hk, rfl⟩ := List.mem_map.mp hx
        have kb := (IT.2 r hr).2 k hk
        rw [w_cmpF]
        walk_at "w"
        refine ht _ _ _ (by decide) fun v v1 v2 => ?_
        walk_at "w"
        cases hv : decide (v = 0)
        · walk_at "w"
          exact ⟨_, rfl, _, rfl, by omega, by omega⟩
        · walk_at "w"
          exact ⟨_, rfl, _, rfl, by omega, by omega⟩
      · obtain ⟨r, e, hr⟩ := un_ints (n := n) (by rw [hl, List.length_map]; exact (IT.2 r hr).1) hys
        subst e
        try walk_at "w"
        exact ⟨_, rfl, r, rfl, hr⟩
    · obtain ⟨T, e, IT⟩ := un_rows (n := n) (by rw [hl, List.length_map]; exact IT.1) hys
      subst e
      try walk_at "w"
      refine comp_map hΦ (g0 := encL) encK (fun r hr => ?_) ?_
      · rw [w_cmpF]
        try unfold encL
        walk_at "w"
        rfl
      · try walk_at "w"
        exact h T IT
  · rw [decide_eq_false c0]
    walk_at "w"
    by_cases c1 : way = 1
    · rw [decide_eq_true c1]
      walk_at "w"
      refine comp_draw hΦ (fun y => ∃ r : List Int, y = encL r ∧ InB n (-999) 999 r) (fun x hx => ?_) (fun ys hl hys => ?_)
      · obtain ⟨r, hr, rfl⟩ := List.mem_map.mp hx
        rw [w_cmpF]
        walk_at "w"
        obtain ⟨r0, e0, h0⟩ := row0 r hr
        rw [e0]
        walk_at "w"
        exact ⟨_, rfl, r0, rfl, h0⟩
      · obtain ⟨T, e, IT⟩ := un_rows (n := n) (by rw [hl, List.length_map]; exact IT.1) hys
        subst e
        try walk_at "w"
        refine comp_map hΦ (g0 := encL) encK (fun r hr => ?_) ?_
        · rw [w_cmpF]
          try unfold encL
          walk_at "w"
          rfl
        · try walk_at "w"
          exact h T IT
    · rw [decide_eq_false c1]
      walk_at "w"
      by_cases c2 : way = 2
      · rw [decide_eq_true c2]
        walk_at "w"
        refine comp_draw hΦ (fun y => ∃ r : List Int, y = encL r ∧ InB n (-999) 999 r) (fun x hx => ?_) (fun ys hl hys => ?_)
        · obtain ⟨r, hr, rfl⟩ := List.mem_map.mp hx
          rw [w_cmpF]
          obtain ⟨r0, e0, h0⟩ := row0 r hr
          unfold encL at e0 ⊢
          walk_at "w"
          refine comp_draw hΦ (fun y => ∃ i : Int, y = .int i ∧ (-999 ≤ i ∧ i ≤ 999)) (fun x hx => ?_) (fun ys hl hys => ?_)
          · obtain ⟨k, hk, rfl⟩ := List.mem_map.mp hx
            rw [w_cmpF]
            walk_at "w"
            rw [show (fun r : List Int => D.lst (r.map D.int)) = encL from rfl] at *
            rw [e0]
            have hrl := (IT.2 r hr).1
            have hk1 := List.length_pos_of_mem hk
            cases r0 with
            | nil => exact absurd h0.1 (by simp; omega)
            | cons a l =>
              walk_at "w"
              rw [ix0]
              try walk_at "w"
              exact ⟨_, rfl, a, rfl, h0.2 a List.mem_cons_self⟩
          · obtain ⟨r, e, hr⟩ := un_ints (n := n) (by rw [hl, List.length_map]; exact (IT.2 r hr).1) hys
            subst e
            try walk_at "w"
            exact ⟨_, rfl, r, rfl, hr⟩
        · obtain ⟨T, e, IT⟩ := un_rows (n := n) (by rw [hl, List.length_map]; exact IT.1) hys
          subst e
          try walk_at "w"
          refine comp_map hΦ (g0 := encL) encK (fun r hr => ?_) ?_
          · rw [w_cmpF]
            try unfold encL
            walk_at "w"
            rfl
          · try walk_at "w"
            exact h T IT
      · rw [decide_eq_false c2]
        walk_at "w"
        by_cases c3 : way = 3
        · rw [decide_eq_true c3]
          walk_at "w"
          refine comp_draw hΦ (fun y => ∃ r : List Int, y = encL r ∧ InB n (-999) 999 r) (fun x hx => ?_) (fun ys hl hys => ?_)
          · obtain ⟨r, hr, rfl⟩ := List.mem_map.mp hx
            rw [w_cmpF]
            unfold encL
            walk_at "w"
            refine comp_draw hΦ (fun y => ∃ i : Int, y = .int i ∧ (-999 ≤ i ∧ i ≤ 999)) (fun x hx => ?_) (fun ys hl hys => ?_)
            · obtain ⟨k, hk, rfl⟩ := List.mem_map.mp hx
              rw [w_cmpF]
              walk_at "w"
              refine ht _ _ _ (by decide) fun v v1 v2 => ?_
              walk_at "w"
              exact ⟨_, rfl, _, rfl, by omega, by omega⟩
            · obtain ⟨r, e, hr⟩ := un_ints (n := n) (by rw [hl, List.length_map]; exact (IT.2 r hr).1) hys
              subst e
              try walk_at "w"
              exact ⟨_, rfl, r, rfl, hr⟩
          · obtain ⟨T, e, IT⟩ := un_rows (n := n) (by rw [hl, List.length_map]; exact IT.1) hys
            subst e
            try walk_at "w"
            refine comp_map hΦ (g0 := encL) encK (fun r hr => ?_) ?_
            · rw [w_cmpF]
              try unfold encL
              walk_at "w"
              rfl
            · try walk_at "w"
              exact h T IT
        · rw [decide_eq_false c3]
          walk_at "w"
          by_cases c4 : way = 4
          · rw [decide_eq_true c4]
            walk_at "w"
            rw [enum_map]
            refine comp_draw hΦ (fun y => ∃ r : List Int, y = encL r ∧ InB n (-999) 999 r) (fun x hx => ?_) (fun ys hl hys => ?_)
            · obtain ⟨⟨r, j⟩, hr, rfl⟩ := List.mem_map.mp hx
              have hr : r ∈ T := List.mem_of_getElem? (zipIdx_mem hr)
              rw [w_cmpF]
              simp only [encL]
              walk_at "w"
              rw [enum_map]
              refine comp_draw hΦ (fun y => ∃ i : Int, y = .int i ∧ (-999 ≤ i ∧ i ≤ 999)) (fun x hx => ?_) (fun ys hl hys => ?_)
              · obtain ⟨⟨k, m⟩, hk, rfl⟩ := List.mem_map.mp hx
                have hk : k ∈ r := List.mem_of_getElem? (zipIdx_mem hk)
                have kb := (IT.2 r hr).2 k hk
                rw [w_cmpF]
                walk_at "w"
                cases hv : decide ((m : Int) ≤ (j : Int))
                · walk_at "w"
                  exact ⟨_, rfl, _, rfl, by omega, by omega⟩
                · walk_at "w"
                  exact ⟨_, rfl, _, rfl, by omega, by omega⟩
              · obtain ⟨r, e, hr⟩ := un_ints (n := n) (by rw [hl, List.length_map, List.length_zipIdx]; exact (IT.2 r hr).1) hys
                subst e
                try walk_at "w"
                exact ⟨_, rfl, r, rfl, hr⟩
            · obtain ⟨T, e, IT⟩ := un_rows (n := n) (by rw [hl, List.length_map, List.length_zipIdx]; exact IT.1) hys
              subst e
              try walk_at "w"
              refine comp_map hΦ (g0 := encL) encK (fun r hr => ?_) ?_
              · rw [w_cmpF]
                try unfold encL
                walk_at "w"
                rfl
              · try walk_at "w"
                exact h T IT
          · rw [decide_eq_false c4]
            walk_at "w"
            refine comp_map hΦ (g0 := encL) encK (fun r hr => ?_) ?_
            · rw [w_cmpF]
              try unfold encL
              walk_at "w"
              rfl
            · try walk_at "w"
              exact h T IT

/-! ### counts -/
def greatB (take pick : Nat) : Sms := .cons (.set 3 (.sh) (.comp [4] (.call pick (.cons false (.var 0) (.cons false (.lst (.cons false (.int 0) (.cons false (.int 1) (.cons false (.call take (.cons false (.var 0) (.cons false (.bin .add (.var 2) (.int 1)) (.nil)))) (.cons false (.call take (.cons false (.var 0) (.cons false (.bin .add (.var 2) (.int 1)) (.nil)))) (.cons false (.var 2) (.nil))))))) (.nil)))) (.nm 4) (.rng1 (.var 1)) (.nil))) (.cons (.ife (.cmp .eq (.call take (.cons false (.var 0) (.cons false (.int 4) (.nil)))) (.int 0)) (.cons (.set 3 (.sh) (.bin .mul (.lst (.cons false (.sub (.var 3) (.int 0)) (.nil))) (.var 1))) (.nil)) (.nil)) (.cons (.ret (.blt .tuple (.cons false (.var 3) .nil))) (.nil)))
theorem rep1 {x : D} : ∀ k : Nat, (List.replicate k [x]).flatten = List.replicate k x
  | 0 => rfl
  | k + 1 => by rw [List.replicate_succ, List.flatten_cons, rep1 k]; rfl
theorem rep_map {i : Int} {k : Nat} : List.replicate k (D.int i) = (List.replicate k i).map D.int := by rw [List.map_replicate]
theorem great_ok {Φ : Fen} (hΦ : Mono Φ) {take pick : Nat} (ht : Takes_ Φ take) (hp : Picks Φ pick) {n : Nat} (h0 : 1 ≤ n) (h1 : n ≤ 1000) {top : Int} (t1 : 1 ≤ top) (t2 : top ≤ 1000000) {Q : D → Prop} {E : Exn → Prop} (h : ∀ cs, InB n 0 top cs → Q (encK cs)) : evD Φ 5 true (greatB take pick) [.tok, .int n, .int top] Q E := by
  unfold greatB
  walk_at "w"
  refine ⟨by omega, ?_⟩
  refine comp_draw hΦ (fun y => ∃ i : Int, y = .int i ∧ (0 ≤ i ∧ i ≤ top)) (fun x hx => ?_) (fun ys hl hys => ?_)
  · obtain ⟨j, hj, rfl⟩ := List.mem_map.mp hx
    rw [w_cmpF]
    walk_at "w"
    refine ht _ _ _ (by omega) fun v v1 v2 => ?_
    walk_at "w"
    refine ht _ _ _ (by omega) fun u u1 u2 => ?_
    walk_at "w"
    refine (hp _ _ _ (by simp) (by simp) fun x hx => ?_).1
    walk_at "w"
    simp only [List.mem_cons, List.not_mem_nil, or_false] at hx
    rcases hx with rfl | rfl | rfl | rfl | rfl
    · exact ⟨_, rfl, _, rfl, by omega, by omega⟩
    · exact ⟨_, rfl, _, rfl, by omega, by omega⟩
    · exact ⟨_, rfl, _, rfl, by omega, by omega⟩
    · exact ⟨_, rfl, _, rfl, by omega, by omega⟩
    · exact ⟨_, rfl, _, rfl, by omega, by omega⟩
  · rw [len_rng] at hl
    obtain ⟨cs, e, hc⟩ := un_ints (n := n) (by omega) hys
    subst e
    try walk_at "w"
    refine ht _ _ _ (by decide) fun v v1 v2 => ?_
    walk_at "w"
    cases hv : decide (v = 0)
    · walk_at "w"
      exact h cs hc
    · walk_at "w"
      cases cs with
      | nil => exact absurd hc.1 (by simp; omega)
      | cons a l =>
        rw [List.map_cons, ix0]
        walk_at "w"
        refine ⟨⟨by omega, by omega, by omega⟩, ?_⟩
        rw [rep1, rep_map, Int.toNat_natCast]
        refine h _ ⟨by simp, fun x hx => ?_⟩
        rw [List.eq_of_mem_replicate hx]
        exact hc.2 a List.mem_cons_self
def noGreatB (pick : Nat) : Sms := .cons (.set 3 (.sh) (.bin .mul (.tup (.cons false (.int 1) (.nil))) (.bin .sub (.var 1) (.int 1)))) (.cons (.ret (.call pick (.cons false (.var 0) (.cons false (.lst (.cons false (.non) (.cons false (.int 3) (.cons false (.bin .mul (.tup (.cons false (.int 1) (.nil))) (.bin .add (.var 1) (.int 1))) (.cons false (.var 3) (.cons false (.bin .mul (.lst (.cons false (.int 1) (.nil))) (.var 1)) (.cons false (.bin .add (.var 3) (.tup (.cons false (.bl true) (.nil)))) (.cons false (.bin .add (.var 3) (.tup (.cons false (.bin .sub (.int 0) (.int 1)) (.nil)))) (.cons false (.bin .add (.var 3) (.tup (.cons false (.bin .add (.var 2) (.int 1)) (.nil)))) (.cons false (.bin .add (.var 3) (.tup (.cons false (.str "1") (.nil)))) (.cons false (.bin .add (.var 3) (.tup (.cons false (.non) (.nil)))) (.nil)))))))))))) (.nil))))) (.nil))
/-- no counts of n letters -/
def NoCnt (n most : Int) (x : D) : Prop := cntTy x ∧ cntB n most x = false
theorem all_last {f : D → Bool} {xs : List D} {y : D} (h : f y = false) : (xs ++ [y]).all f = false := by
  rw [List.all_append, List.all_cons, h, Bool.false_and, Bool.and_false]
theorem noCnt_last {k : Nat} {y : D} {n most : Int} (hy : (dty y).isSome = true) (h : numB 0 most y = false) : NoCnt n most (.tup (List.replicate k (.int 1) ++ [y])) := by
  refine ⟨⟨rfl, fun x hx => ?_⟩, ?_⟩
  · rcases List.mem_append.mp (show x ∈ List.replicate k (D.int 1) ++ [y] from hx) with e | e
    · rw [List.eq_of_mem_replicate e]; rfl
    · rw [List.mem_singleton.mp e]; exact hy
  · show (decide _ && (List.replicate k (D.int 1) ++ [y]).all (numB 0 most)) = false
    rw [all_last h, Bool.and_false]
theorem noCnt_len {k : Nat} {n most : Int} (h : (k : Int) ≠ n) : NoCnt n most (.tup (List.replicate k (.int 1))) := by
  refine ⟨⟨rfl, fun x hx => ?_⟩, ?_⟩
  · rw [List.eq_of_mem_replicate (show x ∈ List.replicate k (D.int 1) from hx)]; rfl
  · show (decide (((List.replicate k (D.int 1)).length : Int) = n) && _) = false
    rw [List.length_replicate, decide_eq_false h, Bool.false_and]
theorem noGreat_ok {Φ : Fen} (hΦ : Mono Φ) {pick : Nat} (hp : Picks Φ pick) {n : Nat} (h0 : 1 ≤ n) (h1 : n ≤ 900) {top : Int} {Q : D → Prop} {E : Exn → Prop} (h : ∀ x, NoCnt n top x → Q x) : evD Φ 4 true (noGreatB pick) [.tok, .int n, .int top] Q E := by
  unfold noGreatB
  walk_at "w"
  refine ⟨⟨by omega, by omega⟩, ⟨by omega, by omega⟩, ⟨by omega, by omega, by omega⟩, ?_⟩
  rw [rep1, rep1, rep1]
  simp only [List.length_replicate]
  refine ⟨by omega, by omega, by omega, by omega, by omega, ?_⟩
  refine (hp _ _ _ (by simp) (by simp) fun x hx => ?_).1
  try walk_at "w"
  refine h x ?_
  simp only [List.mem_cons, List.not_mem_nil, or_false] at hx
  rcases hx with rfl | rfl | rfl | rfl | rfl | rfl | rfl | rfl | rfl | rfl
  · exact ⟨⟨rfl, fun _ h => absurd h (by simp [itemsT])⟩, rfl⟩
  · exact ⟨⟨rfl, fun _ h => absurd h (by simp [itemsT])⟩, rfl⟩
  · exact noCnt_len (by omega)
  · exact noCnt_len (by omega)
  · exact ⟨⟨rfl, fun _ h => absurd h (by simp [itemsT])⟩, rfl⟩
  · exact noCnt_last rfl rfl
  · exact noCnt_last rfl (by simp [numB])
  · exact noCnt_last rfl (by simp [numB]; omega)
  · exact noCnt_last rfl rfl
  · exact noCnt_last rfl rfl
def noTabB (pick : Nat) : Sms := .cons (.ret (.call pick (.cons false (.var 0) (.cons false (.lst (.cons false (.non) (.cons false (.int 5) (.cons false (.tup (.nil)) (.cons false (.tup (.cons false (.int 1) (.nil))) (.cons false (.tup (.cons false (.tup (.cons false (.int 1) (.cons false (.int 2) (.nil)))) (.nil))) (.cons false (.tup (.cons false (.tup (.cons false (.int 1) (.cons false (.int 2) (.nil)))) (.cons false (.tup (.cons false (.int 3) (.nil))) (.nil)))) (.cons false (.lst (.cons false (.tup (.cons false (.int 1) (.nil))) (.nil))) (.cons false (.tup (.cons false (.lst (.cons false (.int 1) (.nil))) (.nil))) (.cons false (.tup (.cons false (.tup (.cons false (.bl true) (.nil))) (.nil))) (.cons false (.tup (.cons false (.tup (.cons false (.int 1000) (.nil))) (.nil))) (.cons false (.tup (.cons false (.tup (.cons false (.bin .sub (.int 0) (.int 1000)) (.nil))) (.nil))) (.cons false (.tup (.cons false (.tup (.cons false (.str "1") (.nil))) (.nil))) (.cons false (.bin .mul (.tup (.cons false (.bin .mul (.tup (.cons false (.int 1) (.nil))) (.int 5)) (.nil))) (.int 5)) (.cons false (.dct0 false) (.cons false (.str "table") (.cons false (.tup (.cons false (.tup (.cons false (.int 1) (.cons false (.non) (.nil)))) (.cons false (.tup (.cons false (.int 1) (.cons false (.int 1) (.nil)))) (.nil)))) (.nil)))))))))))))))))) (.nil))))) (.nil)
/-- no table -/
def NoTab (letters : Int) (x : D) : Prop := tabTy x ∧ tabB letters x = false
theorem noTab_ok {Φ : Fen} (hΦ : Mono Φ) {pick : Nat} (hp : Picks Φ pick) {Q : D → Prop} {E : Exn → Prop} (h : ∀ x, NoTab 4 x → Q x) : evD Φ 1 true (noTabB pick) [.tok] Q E := by
  unfold noTabB
  walk_at "w"
  refine (hp _ _ _ (by simp) (by simp) fun x hx => ?_).1
  try walk_at "w"
  refine h x ?_
  simp only [List.mem_cons, List.not_mem_nil, or_false] at hx
  rcases hx with rfl | rfl | rfl | rfl | rfl | rfl | rfl | rfl | rfl | rfl | rfl | rfl | rfl | rfl | rfl | rfl <;> exact ⟨by unfold tabTy; decide, by decide +kernel⟩
end Wb

end
section
/-! Wb: lots, powers of sums of two, what two letters weigh. -/
open PySem PySem.Spec PyProof.Rows L2 Wb
namespace Wb
/-! ### lots -/
def bin : Nat → Nat → Nat
  | _, 0 => 1
  | 0, _ + 1 => 0
  | m + 1, k + 1 => bin m k + bin m (k + 1)
theorem bin_zero (m : Nat) : bin m 0 = 1 := by cases m <;> rfl
theorem bin_big : ∀ {m k : Nat}, m < k → bin m k = 0
  | 0, k + 1, _ => rfl
  | m + 1, k + 1, h => by
    show bin m k + bin m (k + 1) = 0
    rw [bin_big (by omega), bin_big (by omega)]
theorem bin_mul : ∀ m k : Nat, ((k : Int) + 1) * (bin m (k + 1) : Int) = ((m : Int) - k) * (bin m k : Int)
  | 0, 0 => rfl
  | 0, k + 1 => by rw [show bin 0 (k + 1 + 1) = 0 from rfl, show bin 0 (k + 1) = 0 from rfl]; simp
  | m + 1, 0 => by
    have := bin_mul m 0
    rw [show bin (m + 1) (0 + 1) = bin m 0 + bin m 1 from rfl, bin_zero, bin_zero] at *
    push_cast at *
    grind
  | m + 1, k + 1 => by
    have h1 := bin_mul m (k + 1)
    have h2 := bin_mul m k
    rw [show bin (m + 1) (k + 1 + 1) = bin m (k + 1) + bin m (k + 1 + 1) from rfl, show bin (m + 1) (k + 1) = bin m k + bin m (k + 1) from rfl]
    push_cast at *
    grind
theorem cho_bin (m : Nat) : ∀ k : Nat, cho m k = bin m k
  | 0 => by rw [bin_zero]; rfl
  | k + 1 => by
    show cho m k * ((m : Int) - k) / ((k : Int) + 1) = _
    rw [cho_bin m k, Int.mul_comm, ← bin_mul, Int.mul_ediv_cancel_left _ (by omega)]
theorem bin_le : ∀ m k : Nat, bin m k ≤ 2 ^ m
  | m, 0 => by rw [bin_zero]; exact Nat.one_le_two_pow
  | 0, k + 1 => Nat.zero_le _
  | m + 1, k + 1 => by
    have := bin_le m k
    have := bin_le m (k + 1)
    show bin m k + bin m (k + 1) ≤ _
    rw [Nat.pow_succ]
    omega
theorem bin_symm : ∀ s k j : Nat, k + j = s → bin s k = bin s j
  | s, 0, j, e => by
    obtain rfl : j = s := by omega
    clear e
    rw [bin_zero]
    induction j with
    | zero => rfl
    | succ j ih => show _ = bin j j + bin j (j + 1); rw [bin_big (k := j + 1) (by omega), ← ih]
  | s, k + 1, 0, e => by
    obtain rfl : k + 1 = s := by omega
    clear e
    rw [bin_zero]
    induction k with
    | zero => rfl
    | succ k ih => show bin (k + 1) (k + 1) + bin (k + 1) (k + 1 + 1) = _; rw [bin_big (k := k + 1 + 1) (by omega), ih]
  | 0, k + 1, j + 1, e => by omega
  | s + 1, k + 1, j + 1, e => by
    show bin s k + bin s (k + 1) = bin s j + bin s (j + 1)
    rw [bin_symm s k (j + 1) (by omega), bin_symm s (k + 1) j (by omega)]
    omega
/-! ### sums -/
def sumN (f : Nat → Int) : Nat → Int
  | 0 => 0
  | n + 1 => sumN f n + f n
theorem sumN_congr {f g : Nat → Int} : ∀ {n : Nat}, (∀ i, i < n → f i = g i) → sumN f n = sumN g n
  | 0, _ => rfl
  | n + 1, h => by rw [sumN, sumN, sumN_congr fun i hi => h i (by omega), h n (by omega)]
theorem sumN_ext {f : Nat → Int} {n : Nat} : ∀ {m : Nat}, n ≤ m → (∀ i, n ≤ i → i < m → f i = 0) → sumN f m = sumN f n
  | 0, h, _ => by rw [show n = 0 by omega]
  | m + 1, h, hz => by
    by_cases e : n = m + 1
    · rw [e]
    · rw [sumN, hz m (by omega) (by omega), sumN_ext (m := m) (by omega) fun i h1 h2 => hz i h1 (by omega), Int.add_zero]
theorem sumN_add {f g : Nat → Int} : ∀ {n : Nat}, sumN (fun i => f i + g i) n = sumN f n + sumN g n
  | 0 => rfl
  | n + 1 => by rw [sumN, sumN, sumN, sumN_add]; omega
theorem sumN_mul {f : Nat → Int} {c : Int} : ∀ {n : Nat}, sumN (fun i => f i * c) n = sumN f n * c
  | 0 => by simp [sumN]
  | n + 1 => by rw [sumN, sumN, sumN_mul, Int.add_mul]
/-! ### coefficients -/
def ml (a b : Int) (f : Nat → Int) : Nat → Int := fun k => f k * a + (if k = 0 then 0 else f (k - 1) * b)
def one1 : Nat → Int := fun k => if k = 0 then 1 else 0
def pwF (a b : Int) : Nat → (Nat → Int) → Nat → Int
  | 0, f => f
  | m + 1, f => ml a b (pwF a b m f)
def cv (f g : Nat → Int) : Nat → Int := fun k => sumN (fun i => f i * g (k - i)) (k + 1)
theorem pw_one (a b : Int) : ∀ m k : Nat, pwF a b m one1 k = bin m k * a ^ (m - k) * b ^ k
  | 0, 0 => by show (1 : Int) = ((1 : Nat) : Int) * a ^ 0 * b ^ 0; simp
  | 0, k + 1 => by show (0 : Int) = _; rw [show bin 0 (k + 1) = 0 from rfl]; simp
  | m + 1, 0 => by
    show pwF a b m one1 0 * a + 0 = _
    rw [pw_one a b m 0, bin_zero, bin_zero, Nat.sub_zero, Nat.sub_zero, Int.pow_succ]
    simp
  | m + 1, k + 1 => by
    show pwF a b m one1 (k + 1) * a + (if k + 1 = 0 then 0 else pwF a b m one1 k * b) = _
    rw [if_neg (by omega), pw_one a b m (k + 1), pw_one a b m k, show bin (m + 1) (k + 1) = bin m k + bin m (k + 1) from rfl, show m + 1 - (k + 1) = m - k by omega, Int.pow_succ b k]
    by_cases h : k + 1 ≤ m
    · rw [show m - k = m - (k + 1) + 1 by omega, Int.pow_succ]
      push_cast
      grind
    · rw [bin_big (m := m) (k := k + 1) (by omega)]
      push_cast
      grind
theorem cv_ml (f g : Nat → Int) (c d : Int) : cv f (ml c d g) = ml c d (cv f g) := by
  funext k
  have e1 : cv f (ml c d g) k = sumN (fun i => f i * g (k - i) * c) (k + 1) + sumN (fun i => if k - i = 0 then 0 else f i * g (k - i - 1) * d) (k + 1) := by
    rw [← sumN_add]
    refine sumN_congr fun i hi => ?_
    show f i * (g (k - i) * c + (if k - i = 0 then 0 else g (k - i - 1) * d)) = _
    by_cases h : k - i = 0
    · rw [if_pos h, if_pos h]; grind
    · rw [if_neg h, if_neg h]; grind
  rw [e1, sumN_mul]
  show _ = cv f g k * c + (if k = 0 then 0 else cv f g (k - 1) * d)
  congr 1
  rw [sumN, if_pos (by omega), Int.add_zero]
  cases k with
  | zero => rfl
  | succ k =>
    rw [if_neg (by omega)]
    show _ = sumN (fun i => f i * g (k + 1 - 1 - i)) (k + 1) * d
    rw [← sumN_mul]
    refine sumN_congr fun i hi => ?_
    rw [if_neg (by omega), show k + 1 - i - 1 = k + 1 - 1 - i by omega]
theorem cv_one (f : Nat → Int) : cv f one1 = f := by
  funext k
  show sumN (fun i => f i * one1 (k - i)) (k + 1) = _
  rw [sumN, sumN_ext (n := 0) (by omega) fun i _ hi => ?_]
  · show 0 + f k * one1 (k - k) = _
    rw [Nat.sub_self]
    show 0 + f k * 1 = _
    omega
  · rw [show one1 (k - i) = 0 from if_neg (by omega), Int.mul_zero]
theorem cv_pw (f : Nat → Int) (c d : Int) : ∀ n, cv f (pwF c d n one1) = pwF c d n f
  | 0 => cv_one f
  | n + 1 => by
    show cv f (ml c d (pwF c d n one1)) = ml c d (pwF c d n f)
    rw [cv_ml, cv_pw f c d n]
/-- what all words of m and n of two letters weigh -/
def twoI (a b c d : Int) (m n : Nat) : Int := pwF c d n (pwF a b m one1) n
theorem two_cv (a b c d : Int) (m n : Nat) : twoI a b c d m n = cv (pwF a b m one1) (pwF c d n one1) n := by
  rw [cv_pw]; rfl
def twS (a b c d : Int) (m n : Nat) (k : Nat) : Int := (bin m k : Int) * bin n k * a ^ (m - k) * d ^ (n - k) * (b * c) ^ k
theorem two_sum (a b c d : Int) (m n : Nat) : twoI a b c d m n = sumN (twS a b c d m n) (min m n + 1) := by
  rw [two_cv]
  show sumN _ (n + 1) = _
  rw [show sumN (fun i => pwF a b m one1 i * pwF c d n one1 (n - i)) (n + 1) = sumN (twS a b c d m n) (n + 1) from sumN_congr fun i hi => ?_]
  · refine sumN_ext (by omega) fun i h1 h2 => ?_
    unfold twS
    rw [bin_big (m := m) (k := i) (by omega)]
    simp
  · rw [pw_one, pw_one, bin_symm n (n - i) i (by omega), show n - (n - i) = i by omega]
    unfold twS
    rw [Int.mul_pow]
    grind
theorem twS_turn (a b c d : Int) (m n k : Nat) : twS a c b d m n k = twS a b c d m n k := by
  unfold twS; rw [Int.mul_comm c b]
theorem twS_other (a b c d : Int) (m n k : Nat) : twS d c b a n m k = twS a b c d m n k := by
  unfold twS; rw [Int.mul_comm c b]; grind
theorem two_turn (a b c d : Int) (m n : Nat) : twoI a c b d m n = twoI a b c d m n := by
  rw [two_sum, two_sum]; exact sumN_congr fun i _ => twS_turn a b c d m n i
theorem two_other (a b c d : Int) (m n : Nat) : twoI d c b a n m = twoI a b c d m n := by
  rw [two_sum, two_sum, Nat.min_comm]; exact sumN_congr fun i _ => twS_other a b c d m n i
/-! ### bounds -/
theorem bits_nat {x : Int} {k : Nat} (h : x.natAbs < 2 ^ k) : Builtin.Int.intBits x ≤ k := PySem.intBits_le_iff.mpr h
theorem natAbs_pow (a : Int) : ∀ k : Nat, (a ^ k).natAbs = a.natAbs ^ k
  | 0 => by rw [Int.pow_zero, Nat.pow_zero]; rfl
  | k + 1 => by rw [Int.pow_succ, Int.natAbs_mul, natAbs_pow a k, Nat.pow_succ]
theorem pw_bits {a : Int} {k K : Nat} (h : a.natAbs < 2 ^ K) : Builtin.Int.intBits (a ^ k) ≤ K * k + 1 := by
  refine bits_nat ?_
  rw [natAbs_pow]
  have : a.natAbs ^ k ≤ (2 ^ K) ^ k := Nat.pow_le_pow_left (Nat.le_of_lt h) k
  rw [← Nat.pow_mul] at this
  have h2 : 2 ^ (K * k) < 2 ^ (K * k + 1) := Nat.pow_lt_pow_right (by omega) (by omega)
  omega
theorem bin_bits {m k : Nat} : Builtin.Int.intBits (bin m k : Int) ≤ m + 1 := by
  refine bits_nat ?_
  have := bin_le m k
  have h2 : 2 ^ m < 2 ^ (m + 1) := Nat.pow_lt_pow_right (by omega) (by omega)
  rw [Int.natAbs_natCast]
  omega
theorem pwF_abs {a b : Int} (ha : a.natAbs ≤ 999) (hb : b.natAbs ≤ 999) : ∀ m k : Nat, (pwF a b m one1 k).natAbs ≤ 2000 ^ m
  | 0, k => by
    show (if k = 0 then (1 : Int) else 0).natAbs ≤ 1
    split <;> decide
  | m + 1, k => by
    show (pwF a b m one1 k * a + (if k = 0 then 0 else pwF a b m one1 (k - 1) * b)).natAbs ≤ _
    have h1 := pwF_abs ha hb m k
    have h2 := pwF_abs ha hb m (k - 1)
    refine Nat.le_trans (Int.natAbs_add_le _ _) ?_
    have e1 : (pwF a b m one1 k * a).natAbs ≤ 2000 ^ m * 999 := by rw [Int.natAbs_mul]; exact Nat.mul_le_mul h1 ha
    have e2 : (if k = 0 then (0 : Int) else pwF a b m one1 (k - 1) * b).natAbs ≤ 2000 ^ m * 999 := by
      split
      · exact Nat.zero_le _
      · rw [Int.natAbs_mul]; exact Nat.mul_le_mul h2 hb
    rw [Nat.pow_succ]
    omega
theorem pwF_bits {a b : Int} (ha : a.natAbs ≤ 999) (hb : b.natAbs ≤ 999) (m k : Nat) : Builtin.Int.intBits (pwF a b m one1 k) ≤ 11 * m + 1 := by
  refine bits_nat ?_
  have h := pwF_abs ha hb m k
  have h1 : 2000 ^ m ≤ (2 ^ 11) ^ m := Nat.pow_le_pow_left (by decide) m
  rw [← Nat.pow_mul] at h1
  have h2 : 2 ^ (11 * m) < 2 ^ (11 * m + 1) := Nat.pow_lt_pow_right (by omega) (by omega)
  omega
theorem pwF_deg (a b : Int) : ∀ {m k : Nat}, m < k → pwF a b m one1 k = 0 := fun {m k} h => by
  rw [pw_one, bin_big h]; simp
/-! ### what all words weigh, by steps -/
def vA (A : Asc) (k : List Int) : Int := (lookA A k).getD 0
theorem look_put {k q : List Int} {v : Int} : ∀ {A : Asc}, lookA (putA A k v) q = if k = q then some v else lookA A q := fun {A} => by
  unfold putA
  have e1 : ∀ B : Asc, lookA (B.map fun p => if p.1 = k then (p.1, v) else p) q = if k = q ∧ (B.any fun p => decide (p.1 = k)) = true then some v else lookA B q := fun B => by
    induction B with
    | nil => simp [lookA]
    | cons p B ih =>
      obtain ⟨pk, pv⟩ := p
      rw [List.map_cons]
      by_cases h1 : pk = k
      · subst h1
        simp only [if_true, lookA, List.any_cons, decide_true, Bool.true_or, and_true]
        by_cases h2 : pk = q
        · rw [if_pos h2, if_pos h2]
        · rw [if_neg h2, if_neg h2, if_neg h2, ih, if_neg fun z => h2 z.1]
      · simp only [h1, if_false, lookA, List.any_cons, decide_false, Bool.false_or]
        by_cases h2 : pk = q
        · rw [if_pos h2, if_pos h2, if_neg fun z => h1 (h2.trans z.1.symm)]
        · rw [if_neg h2, if_neg h2, ih]
  have e2 : ∀ B : Asc, lookA (B ++ [(k, v)]) q = (lookA B q).or (if k = q then some v else none) := fun B => by
    induction B with
    | nil => simp [lookA]
    | cons p B ih =>
      obtain ⟨pk, pv⟩ := p
      rw [List.cons_append]
      simp only [lookA]
      by_cases h2 : pk = q
      · rw [if_pos h2, if_pos h2]; rfl
      · rw [if_neg h2, if_neg h2, ih]
  by_cases h : (A.any fun p => decide (p.1 = k)) = true
  · rw [if_pos h, e1]
    by_cases h2 : k = q
    · rw [if_pos ⟨h2, h⟩, if_pos h2]
    · rw [if_neg fun z => h2 z.1, if_neg h2]
  · rw [if_neg h, e2]
    by_cases h2 : k = q
    · subst h2
      have : lookA A k = none := by
        clear e1 e2
        induction A with
        | nil => rfl
        | cons p A ih =>
          obtain ⟨pk, pv⟩ := p
          simp only [List.any_cons, Bool.or_eq_true, not_or] at h
          simp only [lookA]
          rw [if_neg fun e => h.1 (decide_eq_true e), ih h.2]
      rw [this]; rfl
    · rw [if_neg h2, if_neg h2]; cases lookA A q <;> rfl
theorem vA_put {A : Asc} {k q : List Int} {v : Int} : vA (putA A k v) q = if k = q then v else vA A q := by
  unfold vA
  rw [look_put]
  split <;> rfl
/-- what a step adds at q -/
def add1 (cs key : List Int) (v : Int) (q : List Int) (x : Int × Nat) : Int := if key.getD x.2 0 < cs.getD x.2 0 ∧ bump key x.2 = q then v * x.1 else 0
theorem vA_in1 {cs key : List Int} {v : Int} {late : Asc} {x : Int × Nat} {q : List Int} : vA (in1 cs key v late x) q = vA late q + add1 cs key v q x := by
  unfold in1 add1
  by_cases h1 : key.getD x.2 0 < cs.getD x.2 0
  · rw [if_pos h1, vA_put]
    by_cases h2 : bump key x.2 = q
    · rw [if_pos h2, if_pos ⟨h1, h2⟩]; subst h2; rfl
    · rw [if_neg h2, if_neg fun z => h2 z.2]; omega
  · rw [if_neg h1, if_neg fun z => h1 z.1]; omega
def sumL {α : Type} (f : α → Int) : List α → Int
  | [] => 0
  | a :: r => f a + sumL f r
theorem sumL_congr {α : Type} {f g : α → Int} : ∀ {l : List α}, (∀ x ∈ l, f x = g x) → sumL f l = sumL g l
  | [], _ => rfl
  | a :: r, h => by rw [sumL, sumL, h a List.mem_cons_self, sumL_congr fun x hx => h x (List.mem_cons_of_mem _ hx)]
theorem sumL_add {α : Type} {f g : α → Int} : ∀ {l : List α}, sumL (fun x => f x + g x) l = sumL f l + sumL g l
  | [] => rfl
  | a :: r => by rw [sumL, sumL, sumL, sumL_add]; omega
theorem sumL_mul {α : Type} {f : α → Int} {c : Int} : ∀ {l : List α}, sumL (fun x => f x * c) l = sumL f l * c
  | [] => by simp [sumL]
  | a :: r => by rw [sumL, sumL, sumL_mul, Int.add_mul]
theorem sumL_zero {α : Type} {f : α → Int} : ∀ {l : List α}, (∀ x ∈ l, f x = 0) → sumL f l = 0
  | [], _ => rfl
  | a :: r, h => by rw [sumL, h a List.mem_cons_self, sumL_zero fun x hx => h x (List.mem_cons_of_mem _ hx)]; rfl
theorem sumL_swap {α β : Type} {f : α → β → Int} : ∀ {l : List α} {m : List β}, sumL (fun a => sumL (fun b => f a b) m) l = sumL (fun b => sumL (fun a => f a b) l) m
  | [], m => by
    exact (sumL_zero fun x _ => rfl).symm
  | a :: r, m => by
    rw [sumL, sumL_swap (l := r)]
    show _ = sumL (fun b => f a b + sumL (fun a => f a b) r) m
    rw [sumL_add]
theorem fold_add {α : Type} {F : Asc → α → Asc} {q : List Int} {g : α → Int} (h : ∀ A x, vA (F A x) q = vA A q + g x) : ∀ {l : List α} {A : Asc}, vA (l.foldl F A) q = vA A q + sumL g l
  | [], A => by simp [sumL]
  | x :: r, A => by rw [List.foldl_cons, fold_add h, h, sumL]; omega
theorem vA_in2 {row cs : List Int} {late : Asc} {p : List Int × Int} {q : List Int} : vA (in2 row cs late p) q = vA late q + sumL (add1 cs p.1 p.2 q) row.zipIdx := fold_add (F := in1 cs p.1 p.2) (g := add1 cs p.1 p.2 q) fun A x => vA_in1
theorem vA_step0 {row cs : List Int} {A : Asc} {q : List Int} : vA (stepA row cs A) q = sumL (fun p => sumL (add1 cs p.1 p.2 q) row.zipIdx) A := by
  unfold stepA
  rw [fold_add (g := fun p => sumL (add1 cs p.1 p.2 q) row.zipIdx) fun B x => vA_in2]
  show (0 : Int) + _ = _
  omega
theorem sum_key {q : List Int} {c : Int} : ∀ {A : Asc}, (A.map (·.1)).Nodup → sumL (fun p => if p.1 = q then p.2 * c else 0) A = vA A q * c
  | [], _ => by simp [sumL, vA, lookA]
  | (k, v) :: r, nd => by
    rw [List.map_cons, List.nodup_cons] at nd
    have ih := sum_key (q := q) (c := c) nd.2
    rw [sumL]
    unfold vA
    simp only [lookA]
    by_cases h : k = q
    · rw [if_pos h, if_pos h]
      rw [sumL_zero fun p hp => if_neg fun e => nd.1 (List.mem_map.mpr ⟨p, hp, e.trans h.symm⟩)]
      show v * c + 0 = v * c
      omega
    · rw [if_neg h, if_neg h, ih]
      show 0 + vA r q * c = vA r q * c
      omega
theorem bump_set {k : List Int} {p : Nat} (h : p < k.length) : bump k p = k.set p (k.getD p 0 + 1) := by
  unfold bump
  rw [List.set_eq_take_append_cons_drop, if_pos h]
  simp
theorem vA_step {row cs : List Int} {A : Asc} (hA : Boxed cs A) (hr : row.length = cs.length) {q : List Int} (hq : inBox q cs) : vA (stepA row cs A) q = sumL (fun x => if 0 < q.getD x.2 0 then vA A (q.set x.2 (q.getD x.2 0 - 1)) * x.1 else 0) row.zipIdx := by
  rw [vA_step0, sumL_swap]
  refine sumL_congr fun x hx => ?_
  obtain ⟨x, p⟩ := x
  have hp : p < cs.length := by
    have := (List.getElem?_eq_some_iff.mp (zipIdx_mem hx)).1
    omega
  have hql := box_len hq
  have hbox : ∀ {cs k : List Int} {p : Nat}, inBox k cs → 0 ≤ k.getD p 0 ∧ k.getD p 0 ≤ cs.getD p 0 := fun {cs} => by
    induction cs with
    | nil => intro k p h; cases k with
      | nil => simp
      | cons a b => exact h.elim
    | cons c cs ih => intro k p h; cases k with
      | nil => exact h.elim
      | cons a b => cases p with
        | zero => exact ⟨h.1, h.2.1⟩
        | succ p => simpa using ih (p := p) h.2.2
  have hqb := hbox (p := p) hq
  by_cases h0 : 0 < q.getD p 0
  · simp only [h0, if_true]
    rw [← sum_key hA.nd]
    refine sumL_congr fun a ha => ?_
    have hab := hA.box a ha
    have hal := box_len hab
    unfold add1
    have e : (a.1.getD p 0 < cs.getD p 0 ∧ bump a.1 p = q) ↔ a.1 = q.set p (q.getD p 0 - 1) := by
      rw [bump_set (by omega)]
      constructor
      · rintro ⟨h1, h2⟩
        subst h2
        rw [List.set_set]
        have : (a.1.set p (a.1.getD p 0 + 1)).getD p 0 = a.1.getD p 0 + 1 := by
          rw [List.getD_eq_getElem?_getD, List.getElem?_set_self (by omega)]; rfl
        rw [this, show a.1.getD p 0 + 1 - 1 = a.1.getD p 0 by omega]
        rw [List.getD_eq_getElem?_getD, List.getElem?_eq_getElem (by omega), Option.getD_some, List.set_getElem_self]
      · intro h
        rw [h, List.set_set]
        have : (q.set p (q.getD p 0 - 1)).getD p 0 = q.getD p 0 - 1 := by
          rw [List.getD_eq_getElem?_getD, List.getElem?_set_self (by omega)]; rfl
        rw [this]
        refine ⟨by omega, ?_⟩
        rw [show q.getD p 0 - 1 + 1 = q.getD p 0 by omega, List.getD_eq_getElem?_getD, List.getElem?_eq_getElem (by omega), Option.getD_some, List.set_getElem_self]
    by_cases h : a.1 = q.set p (q.getD p 0 - 1)
    · rw [if_pos (e.mpr h), if_pos h]
    · rw [if_neg fun z => h (e.mp z), if_neg h]
  · simp only [h0, if_false]
    refine sumL_zero fun a ha => ?_
    have hab := hA.box a ha
    have hal := box_len hab
    unfold add1
    rw [if_neg]
    rintro ⟨h1, h2⟩
    rw [bump_set (by omega)] at h2
    have := hbox (p := p) hab
    have h3 : (a.1.set p (a.1.getD p 0 + 1)).getD p 0 = a.1.getD p 0 + 1 := by
      rw [List.getD_eq_getElem?_getD, List.getElem?_set_self (by omega)]; rfl
    rw [← h2] at h0
    have h4 : ¬ (0 < (a.1.set p (a.1.getD p 0 + 1)).getD p 0) := h0
    rw [h3] at h4
    omega
/-- the state after s steps of two letters -/
structure Two (m n s : Nat) (f : Nat → Int) (A : Asc) : Prop where
  box : Boxed [(m : Int), n] A
  deg : ∀ k, s < k → f k = 0
  val : ∀ x y : Nat, x ≤ m → y ≤ n → vA A [(x : Int), y] = if x + y = s then f y else 0
theorem Two.step {m n s : Nat} {f : Nat → Int} {A : Asc} (h : Two m n s f A) (a b : Int) : Two m n (s + 1) (ml a b f) (stepA [a, b] [(m : Int), n] A) := by
  refine ⟨step_box h.box, fun k hk => ?_, fun x y hx hy => ?_⟩
  · show f k * a + (if k = 0 then 0 else f (k - 1) * b) = 0
    rw [if_neg (by omega), h.deg k (by omega), h.deg (k - 1) (by omega)]
    omega
  · rw [vA_step (q := [(x : Int), y]) (row := [a, b]) h.box rfl ⟨by omega, by omega, by omega, by omega, trivial⟩]
    show (if 0 < (x : Int) then vA A [(x : Int) - 1, y] * a else 0) + ((if 0 < (y : Int) then vA A [(x : Int), (y : Int) - 1] * b else 0) + 0) = if x + y = s + 1 then f y * a + (if y = 0 then 0 else f (y - 1) * b) else 0
    have e1 : (if 0 < (x : Int) then vA A [(x : Int) - 1, y] * a else 0) = if x + y = s + 1 then f y * a else 0 := by
      cases x with
      | zero =>
        rw [if_neg (by omega)]
        by_cases e : 0 + y = s + 1
        · rw [if_pos e, h.deg y (by omega), Int.zero_mul]
        · rw [if_neg e]
      | succ x =>
        rw [if_pos (by omega), show (((x + 1 : Nat) : Int) - 1) = (x : Int) by omega, h.val x y (by omega) hy]
        by_cases e : x + y = s
        · rw [if_pos e, if_pos (by omega)]
        · rw [if_neg e, if_neg (by omega), Int.zero_mul]
    have e2 : (if 0 < (y : Int) then vA A [(x : Int), (y : Int) - 1] * b else 0) = if x + y = s + 1 then (if y = 0 then 0 else f (y - 1) * b) else 0 := by
      cases y with
      | zero =>
        rw [if_neg (by omega), if_pos rfl]
        split <;> rfl
      | succ y =>
        rw [if_pos (by omega), if_neg (show ¬ (y + 1 = 0) by omega), show (((y + 1 : Nat) : Int) - 1) = (y : Int) by omega, h.val x y hx (by omega), show y + 1 - 1 = y by omega]
        by_cases e : x + y = s
        · rw [if_pos e, if_pos (by omega)]
        · rw [if_neg e, if_neg (by omega), Int.zero_mul]
    rw [e1, e2]
    split <;> omega
theorem Two.iter {m n s : Nat} {f : Nat → Int} {A : Asc} (h : Two m n s f A) (a b : Int) : ∀ t, Two m n (s + t) (pwF a b t f) (iterA (stepA [a, b] [(m : Int), n]) t A)
  | 0 => h
  | t + 1 => (Two.iter h a b t).step a b
theorem back_two (a b c d : Int) (m n : Nat) : backA [[a, b], [c, d]] [(m : Int), n] = twoI a b c d m n := by
  have h0 : Two m n 0 one1 (start0 2) := by
    refine ⟨start_box (cs := [(m : Int), n]) (by simp), fun k hk => if_neg (by omega), fun x y hx hy => ?_⟩
    show ((if [(0 : Int), 0] = [(x : Int), y] then some (1 : Int) else none).getD 0) = _
    by_cases e : x + y = 0
    · rw [if_pos e, show x = 0 by omega, show y = 0 by omega]; rfl
    · rw [if_neg e, if_neg (by simp; omega)]
      rfl
  have h1 := (h0.iter a b m).iter c d n
  have h2 := h1.val m n (Nat.le_refl _) (Nat.le_refl _)
  rw [if_pos (by omega)] at h2
  show vA (iterA (stepA [c, d] [(m : Int), n]) (n : Int).toNat (iterA (stepA [a, b] [(m : Int), n]) (m : Int).toNat (start0 2))) [(m : Int), n] = _
  rw [Int.toNat_natCast, Int.toNat_natCast]
  exact h2
/-! ### lists of coefficients -/
def co (p : List Int) (k : Nat) : Int := p.getD k 0
theorem co_big {p : List Int} {k : Nat} (h : p.length ≤ k) : co p k = 0 := by
  unfold co; rw [List.getD_eq_getElem?_getD, List.getElem?_eq_none_iff.mpr h]; rfl
def coL (f : Nat → Int) (n : Nat) : List Int := (List.range n).map f
theorem coL_len {f : Nat → Int} {n : Nat} : (coL f n).length = n := by simp [coL]
theorem coL_get {f : Nat → Int} {n k : Nat} (h : k < n) : (coL f n)[k]? = some (f k) := by
  unfold coL
  rw [List.getElem?_map, List.getElem?_range h]; rfl
theorem co_coL {f : Nat → Int} {n k : Nat} (h : k < n) : co (coL f n) k = f k := by
  unfold co; rw [List.getD_eq_getElem?_getD, coL_get h]; rfl
theorem eq_coL {p : List Int} {f : Nat → Int} {n : Nat} (hl : p.length = n) (h : ∀ k, k < n → co p k = f k) : p = coL f n := by
  apply List.ext_getElem?
  intro k
  by_cases hk : k < n
  · rw [coL_get hk, ← h k hk]
    unfold co
    rw [List.getD_eq_getElem?_getD, List.getElem?_eq_getElem (by omega)]; rfl
  · rw [List.getElem?_eq_none_iff.mpr (by omega), List.getElem?_eq_none_iff.mpr (by rw [coL_len]; omega)]
/-- the product, as the loops reckon it: what is there after i rows and j places -/
def pr1 (x : Int) (g : Nat → Int) (i j : Nat) (k : Nat) : Int := if i ≤ k ∧ k - i < j then x * g (k - i) else 0
def prN (f g : Nat → Int) (i : Nat) (k : Nat) : Int := sumN (fun t => if t ≤ k then f t * g (k - t) else 0) i
theorem prN_cv {f g : Nat → Int} {i : Nat} (h : ∀ k, i ≤ k → f k = 0) (k : Nat) : prN f g i k = cv f g k := by
  unfold prN cv
  by_cases hi : i ≤ k + 1
  · rw [show sumN (fun t => f t * g (k - t)) (k + 1) = sumN (fun t => f t * g (k - t)) i from sumN_ext hi fun t h1 _ => by rw [h t h1, Int.zero_mul]]
    exact sumN_congr fun t ht => if_pos (by omega)
  · rw [show sumN (fun t => if t ≤ k then f t * g (k - t) else 0) i = sumN (fun t => if t ≤ k then f t * g (k - t) else 0) (k + 1) from sumN_ext (by omega) fun t h1 _ => if_neg (by omega)]
    exact sumN_congr fun t ht => if_pos (by omega)
end Wb

end
section
namespace K21
open PySem PySem.Spec PyProof.Rows L2 Wb
abbrev prog : PySem.Program := PySem.Challenge.pw_wordsback_k21_whole_two_letters
abbrev top : List Stmt := prog.main.body
abbrev leaf : List Str := ["BadCounts", "BadOne", "BadOther", "BadTable"]
def b0 : Sms := .cons (.ret (.and (.cons false (.isin (.var 0) .int) (.cons false (.nt (.isin (.var 0) .bool)) (.nil))))) (.nil)
def d0 : DefI := { fi := { name := "is_whole", ps := ["thing"], ar := [1], kws := [] }, N := ["thing"], g := [.sh], b := b0, k := 8, lam := false, dd := [] }
theorem bf0 : BFs top d0 := fun K f fd F => ⟨fun k hk => by
    obtain rfl : k = 1 := by simpa [d0] using hk
    exact ⟨[], .nil, FunD.bindsN F fun _ _ _ _ _ _ us hl => match us, hl with | [_], _ => rfl⟩, fun q hq => absurd hq (by simp [d0])⟩
def b1 : Sms := .cons (.ife (.or (.cons false (.nt (.isin (.var 0) .tuple)) (.cons false (.nt (.chn .le .le (.int 1) (.blt .len (.cons false (.var 0) .nil)) (.gint "LETTERS" 4))) (.nil)))) (.cons (.ret (.bl false)) (.nil)) (.nil)) (.cons (.ife (.nt (.blt .all (.cons false (.comp [1] (.and (.cons false (.isin (.var 1) .tuple) (.cons false (.cmp .eq (.blt .len (.cons false (.var 1) .nil)) (.blt .len (.cons false (.var 0) .nil))) (.nil)))) (.nm 1) (.seq (.var 0)) (.nil)) .nil))) (.cons (.ret (.bl false)) (.nil)) (.nil)) (.cons (.ret (.blt .all (.cons false (.comp2 [1, 2] [2] (.and (.cons false (.call 0 (.cons false (.var 2) (.nil))) (.cons false (.chn .le .le (.neg (.gint "MOST_NUMBER" 999)) (.var 2) (.gint "MOST_NUMBER" 999)) (.nil)))) (.nm 1) (.seq (.var 0)) (.nil) (.nm 2) (.seq (.var 1)) (.nil)) .nil))) (.nil)))
def d1 : DefI := { fi := { name := "is_table_of", ps := ["thing"], ar := [1], kws := [] }, N := ["thing", "row", "number"], g := [.sh, .sh, .sh], b := b1, k := 11, lam := false, dd := [] }
theorem bf1 : BFs top d1 := fun K f fd F => ⟨fun k hk => by
    obtain rfl : k = 1 := by simpa [d1] using hk
    exact ⟨[], .nil, FunD.bindsN F fun _ _ _ _ _ _ us hl => match us, hl with | [_], _ => rfl⟩, fun q hq => absurd hq (by simp [d1])⟩
def b2 : Sms := .cons (.ife (.call 1 (.cons false (.var 0) (.nil))) (.cons (.retN) (.nil)) (.nil)) (.cons (.ife (.cmp .eq (.var 1) (.str "one")) (.cons (.raise "BadOne" .none) (.nil)) (.nil)) (.cons (.ife (.cmp .eq (.var 1) (.str "other")) (.cons (.raise "BadOther" .none) (.nil)) (.nil)) (.cons (.raise "BadTable" .none) (.nil))))
def d2 : DefI := { fi := { name := "need_table", ps := ["table", "which"], ar := [1, 2], kws := [] }, N := ["table", "which"], g := [.sh, .sh], b := b2, k := 12, lam := false, dd := [.str "table"] }
theorem bf2 : BFs top d2 := fun K f fd F => ⟨fun k hk => by
    simp only [d2, List.mem_cons, List.not_mem_nil, or_false] at hk
    rcases hk with rfl | rfl
    · exact FunD.binds1 F 1 0 (by simp [d2]) rfl fun T kV doc pm an cdv ct us its h1 h2 => match us, its, h1, h2 with | [_], [_], _, _ => ⟨_, rfl, rfl⟩
    · exact FunD.binds1 F 2 1 (by simp [d2]) rfl fun T kV doc pm an cdv ct us its h1 h2 => match us, its, h1, h2 with | [_, _], [_], _, _ => ⟨_, rfl, rfl⟩
    , fun q hq => absurd hq (by simp [d2])⟩
def b3 : Sms := .cons (.ife (.or (.cons false (.cmp .lt (.var 1) (.int 0)) (.cons false (.cmp .gt (.var 1) (.var 0)) (.nil)))) (.cons (.ret (.int 0)) (.nil)) (.nil)) (.cons (.set 2 (.sh) (.int 1)) (.cons (.for_ (.nm 3) (.rng1 (.var 1)) (.cons (.set 2 (.sh) (.bin .fdiv (.bin .mul (.var 2) (.bin .sub (.var 0) (.var 3))) (.bin .add (.var 3) (.int 1)))) (.nil))) (.cons (.ret (.var 2)) (.nil))))
def d3 : DefI := { fi := { name := "lots_many", ps := ["many", "few"], ar := [2], kws := [] }, N := ["many", "few", "found", "at"], g := [.sh, .sh, .sh, .sh], b := b3, k := 15, lam := false, dd := [] }
theorem bf3 : BFs top d3 := fun K f fd F => ⟨fun k hk => by
    obtain rfl : k = 2 := by simpa [d3] using hk
    exact ⟨[], .nil, FunD.bindsN F fun _ _ _ _ _ _ us hl => match us, hl with | [_, _], _ => rfl⟩, fun q hq => absurd hq (by simp [d3])⟩
def b4 : Sms := .cons (.set 2 (.sh) (.int 1)) (.cons (.for_ (.nm 3) (.rng1 (.var 1)) (.cons (.set 2 (.sh) (.bin .mul (.var 2) (.var 0))) (.nil))) (.cons (.ret (.var 2)) (.nil)))
def d4 : DefI := { fi := { name := "often", ps := ["number", "times"], ar := [2], kws := [] }, N := ["number", "times", "found", "lap"], g := [.sh, .sh, .sh, .sh], b := b4, k := 16, lam := false, dd := [] }
theorem bf4 : BFs top d4 := fun K f fd F => ⟨fun k hk => by
    obtain rfl : k = 2 := by simpa [d4] using hk
    exact ⟨[], .nil, FunD.bindsN F fun _ _ _ _ _ _ us hl => match us, hl with | [_, _], _ => rfl⟩, fun q hq => absurd hq (by simp [d4])⟩
def b5 : Sms := .cons (.ife (.or (.cons false (.nt (.isin (.var 0) .tuple)) (.cons false (.cmp .ne (.blt .len (.cons false (.var 0) .nil)) (.var 1)) (.nil)))) (.cons (.raise "BadCounts" .none) (.nil)) (.nil)) (.cons (.ife (.nt (.blt .all (.cons false (.comp [3] (.and (.cons false (.call 0 (.cons false (.var 3) (.nil))) (.cons false (.chn .le .le (.int 0) (.var 3) (.var 2)) (.nil)))) (.nm 3) (.seq (.var 0)) (.nil)) .nil))) (.cons (.raise "BadCounts" .none) (.nil)) (.nil)) (.nil))
def d5 : DefI := { fi := { name := "need_long_counts", ps := ["counts", "letters", "most"], ar := [3], kws := [] }, N := ["counts", "letters", "most", "many"], g := [.sh, .sh, .sh, .sh], b := b5, k := 17, lam := false, dd := [] }
theorem bf5 : BFs top d5 := fun K f fd F => ⟨fun k hk => by
    obtain rfl : k = 3 := by simpa [d5] using hk
    exact ⟨[], .nil, FunD.bindsN F fun _ _ _ _ _ _ us hl => match us, hl with | [_, _, _], _ => rfl⟩, fun q hq => absurd hq (by simp [d5])⟩
def b6 : Sms := .cons (.exp (.call 2 (.cons false (.var 0) (.nil)))) (.cons (.ife (.cmp .ne (.blt .len (.cons false (.var 0) .nil)) (.int 2)) (.cons (.raise "BadTable" .none) (.nil)) (.nil)) (.cons (.exp (.call 5 (.cons false (.var 1) (.cons false (.int 2) (.cons false (.gint "MOST_COUNT" 60) (.nil)))))) (.cons (.asg (.tp (.cons (.nm 4) (.cons (.nm 5) (.nil)))) (.sub (.var 0) (.int 0))) (.cons (.asg (.tp (.cons (.nm 6) (.cons (.nm 7) (.nil)))) (.sub (.var 0) (.int 1))) (.cons (.asg (.tp (.cons (.nm 8) (.cons (.nm 9) (.nil)))) (.var 1)) (.cons (.set 2 (.sh) (.int 0)) (.cons (.for_ (.nm 3) (.rng1 (.bin .add (.blt .min2 (.cons false (.var 8) (.cons false (.var 9) (.nil)))) (.int 1))) (.cons (.set 10 (.sh) (.bin .mul (.call 3 (.cons false (.var 8) (.cons false (.var 3) (.nil)))) (.call 3 (.cons false (.var 9) (.cons false (.var 3) (.nil)))))) (.cons (.aug 2 .add (.bin .mul (.bin .mul (.bin .mul (.var 10) (.call 4 (.cons false (.var 4) (.cons false (.bin .sub (.var 8) (.var 3)) (.nil))))) (.call 4 (.cons false (.var 7) (.cons false (.bin .sub (.var 9) (.var 3)) (.nil))))) (.call 4 (.cons false (.bin .mul (.var 5) (.var 6)) (.cons false (.var 3) (.nil)))))) (.nil)))) (.cons (.ret (.var 2)) (.nil)))))))))
def d6 : DefI := { fi := { name := "two_back", ps := ["table", "counts"], ar := [2], kws := [(0, ["counts", "table"], [1, 0])] }, N := ["table", "counts", "found", "k", "here", "up", "down", "last", "one", "other", "lots"], g := [.sh, .sh, .sh, .sh, .sh, .sh, .sh, .sh, .sh, .sh, .sh], b := b6, k := 18, lam := false, dd := [] }
theorem bf6 : BFs top d6 := fun K f fd F => ⟨fun k hk => by
    obtain rfl : k = 2 := by simpa [d6] using hk
    exact ⟨[], .nil, FunD.bindsN F fun _ _ _ _ _ _ us hl => match us, hl with | [_, _], _ => rfl⟩, fun q hq s us ws X h1 h2 => by
    simp only [d6, List.mem_cons, List.not_mem_nil, or_false] at hq
    obtain ⟨oc, od, dV, kV, doc, pm, an, cdv, ct, osl, rfl, lk, hcd, hD, hK⟩ := F.ex
    obtain ⟨_, rfl⟩ | ⟨e, _⟩ := hD
    rotate_left
    · exact absurd rfl e
    subst hq
    · exact match us, ws, h1, h2 with | [], [_, _], _, _ => .of_eq rfl
⟩
def b7 : Sms := .cons (.par2 2 3 (.sh) (.li .sh) (.int 0) (.lst (.nil))) (.cons (.for_ (.nm 1) (.scr (.var 0)) (.cons (.ife (.isin (.var 1) .int) (.cons (.ife (.cmp .ge (.var 1) (.bin .pow (.int 10) (.int 18))) (.cons (.set 2 (.sh) (.bin .add (.bin .mul (.var 2) (.bin .add (.bin .sub (.var 1) (.bin .pow (.int 10) (.int 18))) (.int 1))) (.bin .sub (.var 1) (.bin .pow (.int 10) (.int 18))))) (.nil)) (.nil)) (.cons (.app (.v 3) (.var 1)) (.nil))) (.nil)) (.nil))) (.cons (.ret (.tokNew 2 3)) (.nil)))
def d7 : DefI := { fi := { name := "_law_begun", ps := ["script"], ar := [1], kws := [] }, N := ["script", "cell", "whole", "cells"], g := [.sh, .sh, .sh, .li .sh], b := b7, k := 20, lam := false, dd := [] }
theorem bf7 : BFs top d7 := fun K f fd F => ⟨fun k hk => by
    obtain rfl : k = 1 := by simpa [d7] using hk
    exact ⟨[], .nil, FunD.bindsN F fun _ _ _ _ _ _ us hl => match us, hl with | [_], _ => rfl⟩, fun q hq => absurd hq (by simp [d7])⟩
def b8 : Sms := .cons (.tokInc 0) (.cons (.set 1 (.sh) (.bin .add (.int 1469598103934665603) (.bin .mul (.int 97) (.tokN 0)))) (.cons (.for_ (.nm 2) (.seq (.bin .add (.tokC 0) (.lst (.cons false (.tokN 0) (.nil))))) (.cons (.set 1 (.sh) (.bin .mod (.blt .int (.cons false (.bin .mul (.bin .add (.var 1) (.var 2)) (.int 1099511628211)) .nil)) (.bin .sub (.bin .pow (.int 2) (.int 61)) (.int 1)))) (.cons (.set 1 (.sh) (.bin .add (.var 1) (.bin .fdiv (.var 1) (.bin .pow (.int 2) (.int 17))))) (.nil)))) (.cons (.ret (.var 1)) (.nil))))
def d8 : DefI := { fi := { name := "_law_mixed", ps := ["draw"], ar := [1], kws := [] }, N := ["draw", "found", "cell"], g := [.sh, .sh, .sh], b := b8, k := 21, lam := false, dd := [] }
theorem bf8 : BFs top d8 := fun K f fd F => ⟨fun k hk => by
    obtain rfl : k = 1 := by simpa [d8] using hk
    exact ⟨[], .nil, FunD.bindsN F fun _ _ _ _ _ _ us hl => match us, hl with | [_], _ => rfl⟩, fun q hq => absurd hq (by simp [d8])⟩
def b9 : Sms := .cons (.ife (.cmp .lt (.var 1) (.int 2)) (.cons (.ret (.int 0)) (.nil)) (.nil)) (.cons (.ife (.cmp .gt (.tokW 0) (.int 0)) (.cons (.set 2 (.sh) (.bin .mod (.blt .int (.cons false (.tokW 0) .nil)) (.var 1))) (.cons (.tokDiv 0 (.var 1)) (.cons (.ret (.var 2)) (.nil)))) (.nil)) (.cons (.set 2 (.sh) (.call 8 (.cons false (.var 0) (.nil)))) (.cons (.whl (.and (.cons false (.cmp .gt (.var 1) (.bin .pow (.int 2) (.int 50))) (.cons false (.cmp .lt (.var 2) (.bin .mul (.var 1) (.var 1))) (.nil)))) (.cons (.set 2 (.sh) (.bin .add (.bin .mul (.var 2) (.bin .pow (.int 2) (.int 61))) (.call 8 (.cons false (.var 0) (.nil))))) (.nil))) (.cons (.ret (.bin .mod (.blt .int (.cons false (.bin .fdiv (.var 2) (.int 1024)) .nil)) (.var 1))) (.nil)))))
def d9 : DefI := { fi := { name := "_law_take", ps := ["draw", "amount"], ar := [2], kws := [] }, N := ["draw", "amount", "found"], g := [.sh, .sh, .sh], b := b9, k := 22, lam := false, dd := [] }
theorem bf9 : BFs top d9 := fun K f fd F => ⟨fun k hk => by
    obtain rfl : k = 2 := by simpa [d9] using hk
    exact ⟨[], .nil, FunD.bindsN F fun _ _ _ _ _ _ us hl => match us, hl with | [_, _], _ => rfl⟩, fun q hq => absurd hq (by simp [d9])⟩
def b10 : Sms := .cons (.ret (.sub (.var 1) (.call 9 (.cons false (.var 0) (.cons false (.blt .len (.cons false (.var 1) .nil)) (.nil)))))) (.nil)
def d10 : DefI := { fi := { name := "_law_pick", ps := ["draw", "items"], ar := [2], kws := [] }, N := ["draw", "items"], g := [.sh, .sh], b := b10, k := 23, lam := false, dd := [] }
theorem bf10 : BFs top d10 := fun K f fd F => ⟨fun k hk => by
    obtain rfl : k = 2 := by simpa [d10] using hk
    exact ⟨[], .nil, FunD.bindsN F fun _ _ _ _ _ _ us hl => match us, hl with | [_, _], _ => rfl⟩, fun q hq => absurd hq (by simp [d10])⟩
def b11 : Sms := .cons (.par2 2 3 (.li .sh) (.li .sh) (.lst (.nil)) (.lst (.cons false (.var 0) (.nil)))) (.cons (.whl (.cmp .ne (.var 3) (.lst (.nil))) (.cons (.pop 4 (.v 3)) (.cons (.ife (.or (.cons false (.isin (.var 4) .bool) (.cons false (.cmp .isN (.var 4) (.non)) (.nil)))) (.cons (.app (.v 2) (.blt .repr (.cons false (.var 4) .nil))) (.nil)) (.cons (.ife (.isin (.var 4) .int) (.cons (.app (.v 2) (.str "number")) (.nil)) (.cons (.ife (.isin (.var 4) .str) (.cons (.app (.v 2) (.str "string")) (.nil)) (.cons (.ife (.or (.cons false (.isin (.var 4) .list) (.cons false (.isin (.var 4) .tuple) (.nil)))) (.cons (.app (.v 2) (.ite (.isin (.var 4) .list) (.str "list") (.str "tuple"))) (.cons (.set 3 (.li .sh) (.bin .cat (.var 3) (.blt .list (.cons false (.var 4) .nil)))) (.nil))) (.cons (.ife (.isin (.var 4) .dict) (.cons .never .nil) (.cons (.app (.v 2) (.str "other")) (.nil))) (.nil))) (.nil))) (.nil))) (.nil))) (.nil)))) (.cons (.ret (.mov 2)) (.nil)))
def d11 : DefI := { fi := { name := "_law_kinds", ps := ["thing"], ar := [1], kws := [] }, N := ["thing", "late", "found", "line", "one", "key"], g := [.sh, .sh, .li .sh, .li .sh, .sh, .sh], b := b11, k := 25, lam := false, dd := [] }
theorem bf11 : BFs top d11 := fun K f fd F => ⟨fun k hk => by
    obtain rfl : k = 1 := by simpa [d11] using hk
    exact ⟨[], .nil, FunD.bindsN F fun _ _ _ _ _ _ us hl => match us, hl with | [_], _ => rfl⟩, fun q hq => absurd hq (by simp [d11])⟩
def b12 : Sms := .cons (.ret (.and (.cons false (.cmp .eq (.call 11 (.cons false (.var 0) (.nil))) (.call 11 (.cons false (.var 1) (.nil)))) (.cons false (.cmp .eq (.var 0) (.var 1)) (.nil))))) (.nil)
def d12 : DefI := { fi := { name := "_law_says", ps := ["told", "due"], ar := [2], kws := [] }, N := ["told", "due"], g := [.sh, .sh], b := b12, k := 26, lam := false, dd := [] }
theorem bf12 : BFs top d12 := fun K f fd F => ⟨fun k hk => by
    obtain rfl : k = 2 := by simpa [d12] using hk
    exact ⟨[], .nil, FunD.bindsN F fun _ _ _ _ _ _ us hl => match us, hl with | [_, _], _ => rfl⟩, fun q hq => absurd hq (by simp [d12])⟩
def b13 : Sms := .cons (.asg (.tp (.cons (.nm 3) (.cons (.nm 4) (.nil)))) (.tup (.cons false (.call 9 (.cons false (.var 0) (.cons false (.int 7) (.nil)))) (.cons false (.call 10 (.cons false (.var 0) (.cons false (.lst (.cons false (.int 1) (.cons false (.int 2) (.cons false (.int 5) (.cons false (.int 999) (.nil)))))) (.nil)))) (.nil))))) (.cons (.set 2 (.sh) (.comp [5] (.comp [6] (.bin .sub (.call 9 (.cons false (.var 0) (.cons false (.bin .add (.bin .mul (.int 2) (.var 4)) (.int 1)) (.nil)))) (.var 4)) (.nm 6) (.rng1 (.var 1)) (.nil)) (.nm 5) (.rng1 (.var 1)) (.nil))) (.cons (.ife (.cmp .eq (.var 3) (.int 0)) (.cons (.set 2 (.sh) (.comp [5] (.comp [7] (.ite (.cmp .eq (.call 9 (.cons false (.var 0) (.cons false (.int 2) (.nil)))) (.int 0)) (.var 7) (.int 0)) (.nm 7) (.seq (.var 5)) (.nil)) (.nm 5) (.seq (.var 2)) (.nil))) (.nil)) (.cons (.ife (.cmp .eq (.var 3) (.int 1)) (.cons (.set 2 (.sh) (.comp [5] (.sub (.var 2) (.int 0)) (.nm 5) (.seq (.var 2)) (.nil))) (.nil)) (.cons (.ife (.cmp .eq (.var 3) (.int 2)) (.cons (.set 2 (.sh) (.comp [5] (.comp [7] (.sub (.sub (.var 2) (.int 0)) (.int 0)) (.nm 7) (.seq (.var 5)) (.nil)) (.nm 5) (.seq (.var 2)) (.nil))) (.nil)) (.cons (.ife (.cmp .eq (.var 3) (.int 3)) (.cons (.set 2 (.sh) (.comp [5] (.comp [7] (.bin .add (.int 1) (.call 9 (.cons false (.var 0) (.cons false (.int 3) (.nil))))) (.nm 7) (.seq (.var 5)) (.nil)) (.nm 5) (.seq (.var 2)) (.nil))) (.nil)) (.cons (.ife (.cmp .eq (.var 3) (.int 4)) (.cons (.set 2 (.sh) (.comp [8, 5] (.comp [6, 7] (.ite (.cmp .le (.var 6) (.var 8)) (.var 7) (.int 0)) (.tp (.cons (.nm 6) (.cons (.nm 7) (.nil)))) (.enum (.var 5)) (.nil)) (.tp (.cons (.nm 8) (.cons (.nm 5) (.nil)))) (.enum (.var 2)) (.nil))) (.nil)) (.nil)) (.nil))) (.nil))) (.nil))) (.nil))) (.cons (.ret (.blt .tuple (.cons false (.comp [5] (.blt .tuple (.cons false (.var 5) .nil)) (.nm 5) (.seq (.var 2)) (.nil)) .nil))) (.nil))))
def d13 : DefI := { fi := { name := "_law_table", ps := ["draw", "many"], ar := [2], kws := [] }, N := ["draw", "many", "rows", "way", "top", "line", "place", "number", "at"], g := [.sh, .sh, .sh, .sh, .sh, .sh, .sh, .sh, .sh], b := b13, k := 27, lam := false, dd := [] }
theorem bf13 : BFs top d13 := fun K f fd F => ⟨fun k hk => by
    obtain rfl : k = 2 := by simpa [d13] using hk
    exact ⟨[], .nil, FunD.bindsN F fun _ _ _ _ _ _ us hl => match us, hl with | [_, _], _ => rfl⟩, fun q hq => absurd hq (by simp [d13])⟩
def b14 : Sms := .cons (.set 2 (.dt) (.dct (.cons false (.bin .mul (.tup (.cons false (.int 0) (.nil))) (.blt .len (.cons false (.var 0) .nil))) (.nil)) (.cons false (.int 1) (.nil)))) (.cons (.for_ (.tp (.cons (.nm 3) (.cons (.nm 4) (.nil)))) (.enum (.var 1)) (.cons (.for_ (.nm 5) (.rng1 (.var 4)) (.cons (.set 6 (.dt) (.dct0 true)) (.cons (.forK (.nm 7) 2 (.cons (.for_ (.tp (.cons (.nm 8) (.cons (.nm 9) (.nil)))) (.enum (.sub (.var 0) (.var 3))) (.cons (.ife (.cmp .lt (.sub (.var 7) (.var 8)) (.sub (.var 1) (.var 8))) (.cons (.set 10 (.sh) (.bin .add (.bin .add (.slc (.var 7) (.none) (.some (.var 8))) (.tup (.cons false (.bin .add (.sub (.var 7) (.var 8)) (.int 1)) (.nil)))) (.slc (.var 7) (.some (.bin .add (.var 8) (.int 1))) (.none)))) (.cons (.put (.v 6) (.var 10) (.bin .add (.getd (.var 6) (.var 10) (.int 0)) (.bin .mul (.sub (.var 2) (.var 7)) (.var 9)))) (.nil))) (.nil)) (.nil))) (.nil))) (.cons (.mv 2 6) (.nil))))) (.nil))) (.cons (.ret (.getd (.var 2) (.blt .tuple (.cons false (.var 1) .nil)) (.int 0))) (.nil)))
def d14 : DefI := { fi := { name := "_law_back", ps := ["table", "counts"], ar := [2], kws := [] }, N := ["table", "counts", "sums", "letter", "many", "step", "late", "key", "place", "number", "more"], g := [.sh, .sh, .dt, .sh, .sh, .sh, .dt, .sh, .sh, .sh, .sh], b := b14, k := 28, lam := false, dd := [] }
theorem bf14 : BFs top d14 := fun K f fd F => ⟨fun k hk => by
    obtain rfl : k = 2 := by simpa [d14] using hk
    exact ⟨[], .nil, FunD.bindsN F fun _ _ _ _ _ _ us hl => match us, hl with | [_, _], _ => rfl⟩, fun q hq => absurd hq (by simp [d14])⟩
def b15 : Sms := .cons (.ret (.call 10 (.cons false (.var 0) (.cons false (.lst (.cons false (.non) (.cons false (.int 5) (.cons false (.tup (.nil)) (.cons false (.tup (.cons false (.int 1) (.nil))) (.cons false (.tup (.cons false (.tup (.cons false (.int 1) (.cons false (.int 2) (.nil)))) (.nil))) (.cons false (.tup (.cons false (.tup (.cons false (.int 1) (.cons false (.int 2) (.nil)))) (.cons false (.tup (.cons false (.int 3) (.nil))) (.nil)))) (.cons false (.lst (.cons false (.tup (.cons false (.int 1) (.nil))) (.nil))) (.cons false (.tup (.cons false (.lst (.cons false (.int 1) (.nil))) (.nil))) (.cons false (.tup (.cons false (.tup (.cons false (.bl true) (.nil))) (.nil))) (.cons false (.tup (.cons false (.tup (.cons false (.int 1000) (.nil))) (.nil))) (.cons false (.tup (.cons false (.tup (.cons false (.bin .sub (.int 0) (.int 1000)) (.nil))) (.nil))) (.cons false (.tup (.cons false (.tup (.cons false (.str "1") (.nil))) (.nil))) (.cons false (.bin .mul (.tup (.cons false (.bin .mul (.tup (.cons false (.int 1) (.nil))) (.int 5)) (.nil))) (.int 5)) (.cons false (.dct0 false) (.cons false (.str "table") (.cons false (.tup (.cons false (.tup (.cons false (.int 1) (.cons false (.non) (.nil)))) (.cons false (.tup (.cons false (.int 1) (.cons false (.int 1) (.nil)))) (.nil)))) (.nil)))))))))))))))))) (.nil))))) (.nil)
def d15 : DefI := { fi := { name := "_law_no_table", ps := ["draw"], ar := [1], kws := [] }, N := ["draw"], g := [.sh], b := b15, k := 29, lam := false, dd := [] }
theorem bf15 : BFs top d15 := fun K f fd F => ⟨fun k hk => by
    obtain rfl : k = 1 := by simpa [d15] using hk
    exact ⟨[], .nil, FunD.bindsN F fun _ _ _ _ _ _ us hl => match us, hl with | [_], _ => rfl⟩, fun q hq => absurd hq (by simp [d15])⟩
def b16 : Sms := .cons (.set 2 (.li .sh) (.bin .rep (.lst (.cons false (.int 0) (.nil))) (.bin .sub (.bin .add (.blt .len (.cons false (.var 0) .nil)) (.blt .len (.cons false (.var 1) .nil))) (.int 1)))) (.cons (.for_ (.tp (.cons (.nm 3) (.cons (.nm 4) (.nil)))) (.enum (.var 0)) (.cons (.for_ (.tp (.cons (.nm 5) (.cons (.nm 6) (.nil)))) (.enum (.var 1)) (.cons (.put (.v 2) (.bin .add (.var 3) (.var 5)) (.bin .add (.sub (.var 2) (.bin .add (.var 3) (.var 5))) (.bin .mul (.var 4) (.var 6)))) (.nil))) (.nil))) (.cons (.ret (.mov 2)) (.nil)))
def d16 : DefI := { fi := { name := "_law_poly", ps := ["one", "other"], ar := [2], kws := [] }, N := ["one", "other", "found", "at", "first", "late", "second"], g := [.sh, .sh, .li .sh, .sh, .sh, .sh, .sh], b := b16, k := 30, lam := false, dd := [] }
theorem bf16 : BFs top d16 := fun K f fd F => ⟨fun k hk => by
    obtain rfl : k = 2 := by simpa [d16] using hk
    exact ⟨[], .nil, FunD.bindsN F fun _ _ _ _ _ _ us hl => match us, hl with | [_, _], _ => rfl⟩, fun q hq => absurd hq (by simp [d16])⟩
def b17 : Sms := .cons (.set 3 (.sh) (.comp [4] (.call 10 (.cons false (.var 0) (.cons false (.lst (.cons false (.int 0) (.cons false (.int 1) (.cons false (.call 9 (.cons false (.var 0) (.cons false (.bin .add (.var 2) (.int 1)) (.nil)))) (.cons false (.call 9 (.cons false (.var 0) (.cons false (.bin .add (.var 2) (.int 1)) (.nil)))) (.cons false (.var 2) (.nil))))))) (.nil)))) (.nm 4) (.rng1 (.var 1)) (.nil))) (.cons (.ife (.cmp .eq (.call 9 (.cons false (.var 0) (.cons false (.int 4) (.nil)))) (.int 0)) (.cons (.set 3 (.sh) (.bin .mul (.lst (.cons false (.sub (.var 3) (.int 0)) (.nil))) (.var 1))) (.nil)) (.nil)) (.cons (.ret (.blt .tuple (.cons false (.var 3) .nil))) (.nil)))
def d17 : DefI := { fi := { name := "_law_great_counts", ps := ["draw", "many", "top"], ar := [3], kws := [] }, N := ["draw", "many", "top", "found", "letter"], g := [.sh, .sh, .sh, .sh, .sh], b := b17, k := 31, lam := false, dd := [] }
theorem bf17 : BFs top d17 := fun K f fd F => ⟨fun k hk => by
    obtain rfl : k = 3 := by simpa [d17] using hk
    exact ⟨[], .nil, FunD.bindsN F fun _ _ _ _ _ _ us hl => match us, hl with | [_, _, _], _ => rfl⟩, fun q hq => absurd hq (by simp [d17])⟩
def b18 : Sms := .cons (.set 3 (.sh) (.bin .mul (.tup (.cons false (.int 1) (.nil))) (.bin .sub (.var 1) (.int 1)))) (.cons (.ret (.call 10 (.cons false (.var 0) (.cons false (.lst (.cons false (.non) (.cons false (.int 3) (.cons false (.bin .mul (.tup (.cons false (.int 1) (.nil))) (.bin .add (.var 1) (.int 1))) (.cons false (.var 3) (.cons false (.bin .mul (.lst (.cons false (.int 1) (.nil))) (.var 1)) (.cons false (.bin .add (.var 3) (.tup (.cons false (.bl true) (.nil)))) (.cons false (.bin .add (.var 3) (.tup (.cons false (.bin .sub (.int 0) (.int 1)) (.nil)))) (.cons false (.bin .add (.var 3) (.tup (.cons false (.bin .add (.var 2) (.int 1)) (.nil)))) (.cons false (.bin .add (.var 3) (.tup (.cons false (.str "1") (.nil)))) (.cons false (.bin .add (.var 3) (.tup (.cons false (.non) (.nil)))) (.nil)))))))))))) (.nil))))) (.nil))
def d18 : DefI := { fi := { name := "_law_no_great", ps := ["draw", "many", "top"], ar := [3], kws := [] }, N := ["draw", "many", "top", "right"], g := [.sh, .sh, .sh, .sh], b := b18, k := 32, lam := false, dd := [] }
theorem bf18 : BFs top d18 := fun K f fd F => ⟨fun k hk => by
    obtain rfl : k = 3 := by simpa [d18] using hk
    exact ⟨[], .nil, FunD.bindsN F fun _ _ _ _ _ _ us hl => match us, hl with | [_, _, _], _ => rfl⟩, fun q hq => absurd hq (by simp [d18])⟩
def b19 : Sms := .cons (.par2 3 4 (.sh) (.sh) (.lst (.cons false (.int 1) (.nil))) (.lst (.cons false (.int 1) (.nil)))) (.cons (.for_ (.nm 2) (.rng1 (.sub (.var 1) (.int 0))) (.cons (.set 3 (.sh) (.call 16 (.cons false (.var 3) (.cons false (.blt .list (.cons false (.sub (.var 0) (.int 0)) .nil)) (.nil))))) (.nil))) (.cons (.for_ (.nm 2) (.rng1 (.sub (.var 1) (.int 1))) (.cons (.set 4 (.sh) (.call 16 (.cons false (.var 4) (.cons false (.blt .list (.cons false (.sub (.var 0) (.int 1)) .nil)) (.nil))))) (.nil))) (.cons (.ret (.sub (.call 16 (.cons false (.var 3) (.cons false (.var 4) (.nil)))) (.sub (.var 1) (.int 1)))) (.nil))))
def d19 : DefI := { fi := { name := "_law_two", ps := ["table", "counts"], ar := [2], kws := [] }, N := ["table", "counts", "lap", "one", "other"], g := [.sh, .sh, .sh, .sh, .sh], b := b19, k := 33, lam := false, dd := [] }
theorem bf19 : BFs top d19 := fun K f fd F => ⟨fun k hk => by
    obtain rfl : k = 2 := by simpa [d19] using hk
    exact ⟨[], .nil, FunD.bindsN F fun _ _ _ _ _ _ us hl => match us, hl with | [_, _], _ => rfl⟩, fun q hq => absurd hq (by simp [d19])⟩
def b20 : Sms := .cons (.set 1 (.sh) (.call 7 (.cons false (.var 0) (.nil)))) (.cons (.for_ (.nm 2) (.rng1 (.bin .add (.int 4) (.blt .min2 (.cons false (.blt .len (.cons false (.var 0) .nil)) (.cons false (.int 8) (.nil)))))) (.cons (.set 4 (.sh) (.call 13 (.cons false (.var 1) (.cons false (.int 2) (.nil))))) (.cons (.set 5 (.sh) (.call 10 (.cons false (.var 1) (.cons false (.lst (.cons false (.call 17 (.cons false (.var 1) (.cons false (.int 2) (.cons false (.int 60) (.nil))))) (.cons false (.call 17 (.cons false (.var 1) (.cons false (.int 2) (.cons false (.int 12) (.nil))))) (.cons false (.tup (.cons false (.call 9 (.cons false (.var 1) (.cons false (.int 5) (.nil)))) (.cons false (.call 9 (.cons false (.var 1) (.cons false (.int 5) (.nil)))) (.nil)))) (.nil))))) (.nil))))) (.cons (.set 6 (.sh) (.call 19 (.cons false (.var 4) (.cons false (.var 5) (.nil))))) (.cons (.ife (.or (.cons false (.nt (.call 12 (.cons false (.lst (.cons false (.call 6 (.cons false (.var 4) (.cons false (.var 5) (.nil)))) (.cons false (.callK 6 [1, 0] (.nil) (.cons false (.var 5) (.cons false (.var 4) (.nil)))) (.nil)))) (.cons false (.lst (.cons false (.var 6) (.cons false (.var 6) (.nil)))) (.nil))))) (.cons false (.and (.cons false (.cmp .lt (.blt .sum (.cons false (.var 5) .nil)) (.int 9)) (.cons false (.cmp .ne (.var 6) (.call 14 (.cons false (.var 4) (.cons false (.var 5) (.nil))))) (.nil)))) (.nil)))) (.cons (.ret (.bl false)) (.nil)) (.nil)) (.cons (.set 7 (.sh) (.tup (.cons false (.tup (.cons false (.sub (.sub (.var 4) (.int 0)) (.int 0)) (.cons false (.sub (.sub (.var 4) (.int 1)) (.int 0)) (.nil)))) (.cons false (.tup (.cons false (.sub (.sub (.var 4) (.int 0)) (.int 1)) (.cons false (.sub (.sub (.var 4) (.int 1)) (.int 1)) (.nil)))) (.nil))))) (.cons (.set 8 (.sh) (.tup (.cons false (.tup (.cons false (.sub (.sub (.var 4) (.int 1)) (.int 1)) (.cons false (.sub (.sub (.var 4) (.int 1)) (.int 0)) (.nil)))) (.cons false (.tup (.cons false (.sub (.sub (.var 4) (.int 0)) (.int 1)) (.cons false (.sub (.sub (.var 4) (.int 0)) (.int 0)) (.nil)))) (.nil))))) (.cons (.ife (.nt (.call 12 (.cons false (.lst (.cons false (.call 6 (.cons false (.var 7) (.cons false (.var 5) (.nil)))) (.cons false (.call 6 (.cons false (.var 8) (.cons false (.rev (.var 5)) (.nil)))) (.nil)))) (.cons false (.lst (.cons false (.var 6) (.cons false (.var 6) (.nil)))) (.nil))))) (.cons (.ret (.bl false)) (.nil)) (.nil)) (.cons (.set 9 (.sh) (.call 10 (.cons false (.var 1) (.cons false (.lst (.cons false (.call 15 (.cons false (.var 1) (.nil))) (.cons false (.tup (.cons false (.tup (.cons false (.int 5) (.nil))) (.nil))) (.cons false (.call 13 (.cons false (.var 1) (.cons false (.int 3) (.nil)))) (.nil))))) (.nil))))) (.cons (.ife (.nt (.caught "BadTable" leaf (.call 6 (.cons false (.var 9) (.cons false (.non) (.nil)))))) (.cons (.ret (.bl false)) (.nil)) (.nil)) (.cons (.ife (.nt (.caught "BadCounts" leaf (.call 6 (.cons false (.var 4) (.cons false (.call 18 (.cons false (.var 1) (.cons false (.int 2) (.cons false (.int 60) (.nil))))) (.nil)))))) (.cons (.ret (.bl false)) (.nil)) (.nil)) (.nil)))))))))))) (.cons (.set 3 (.sh) (.lst (.cons false (.call 6 (.cons false (.tup (.cons false (.tup (.cons false (.int 1) (.cons false (.int 2) (.nil)))) (.cons false (.tup (.cons false (.int 3) (.cons false (.int 4) (.nil)))) (.nil)))) (.cons false (.tup (.cons false (.int 1) (.cons false (.int 1) (.nil)))) (.nil)))) (.cons false (.call 6 (.cons false (.tup (.cons false (.tup (.cons false (.int 1) (.cons false (.int 2) (.nil)))) (.cons false (.tup (.cons false (.int 3) (.cons false (.int 4) (.nil)))) (.nil)))) (.cons false (.tup (.cons false (.int 0) (.cons false (.int 0) (.nil)))) (.nil)))) (.cons false (.call 6 (.cons false (.tup (.cons false (.tup (.cons false (.int 0) (.cons false (.int 1) (.nil)))) (.cons false (.tup (.cons false (.int 1) (.cons false (.int 0) (.nil)))) (.nil)))) (.cons false (.tup (.cons false (.int 5) (.cons false (.int 5) (.nil)))) (.nil)))) (.cons false (.call 6 (.cons false (.tup (.cons false (.tup (.cons false (.int 0) (.cons false (.int 1) (.nil)))) (.cons false (.tup (.cons false (.int 1) (.cons false (.int 0) (.nil)))) (.nil)))) (.cons false (.tup (.cons false (.int 5) (.cons false (.int 4) (.nil)))) (.nil)))) (.cons false (.call 6 (.cons false (.tup (.cons false (.tup (.cons false (.int 1) (.cons false (.int 1) (.nil)))) (.cons false (.tup (.cons false (.int 1) (.cons false (.int 1) (.nil)))) (.nil)))) (.cons false (.tup (.cons false (.int 2) (.cons false (.int 2) (.nil)))) (.nil)))) (.nil)))))))) (.cons (.ret (.call 12 (.cons false (.var 3) (.cons false (.lst (.cons false (.int 10) (.cons false (.int 1) (.cons false (.int 1) (.cons false (.int 0) (.cons false (.int 6) (.nil))))))) (.nil))))) (.nil))))
def d20 : DefI := { fi := { name := "law", ps := ["script"], ar := [1], kws := [] }, N := ["script", "draw", "turn", "told", "table", "counts", "due", "turned", "other", "no"], g := [.sh, .sh, .sh, .sh, .sh, .sh, .sh, .sh, .sh, .sh], b := b20, k := 34, lam := true, dd := [] }
theorem bf20 : BFs top d20 := fun K f fd F => ⟨fun k hk => by
    obtain rfl : k = 1 := by simpa [d20] using hk
    exact ⟨[], .nil, FunD.bindsN F fun _ _ _ _ _ _ us hl => match us, hl with | [_], _ => rfl⟩, fun q hq => absurd hq (by simp [d20])⟩
def law_ : LawI := { dl := [d0, d1, d2, d3, d4, d5, d6, d7, d8, d9, d10, d11, d12, d13, d14, d15, d16, d17, d18, d19, d20], gi := [("LETTERS", 4), ("MOST_NUMBER", 999), ("MOST_COUNT", 60)], abs := ["all", "bool", "dict", "enumerate", "int", "isinstance", "len", "list", "min", "range", "repr", "str", "sum", "tuple"], exs := ["BadCounts", "BadOne", "BadOther", "BadTable"], leaf := leaf, cau := some 24 }
theorem bfs : bfAll top law_.dl := ⟨bf0, bf1, bf2, bf3, bf4, bf5, bf6, bf7, bf8, bf9, bf10, bf11, bf12, bf13, bf14, bf15, bf16, bf17, bf18, bf19, bf20, trivial⟩
theorem chk : chkAll law_ top law_.dl 0 = true := by decide +kernel
theorem cau : ∀ k, law_.cau = some k → CauS top k := fun k hk => by
  obtain rfl : k = 24 := by have : some 24 = some k := hk; cases this; rfl
  exact ⟨⟨_, _, _, _, _, _, _, _, _, _, _, _, _, _, _, rfl⟩, by decide +kernel, by decide +kernel, by decide +kernel, by decide +kernel, by decide +kernel, fun K f fd F => FunD.bindsN F fun _ _ _ _ _ _ us hl => match us, hl with | [_], _ => rfl⟩
abbrev R : PySem.W.OpenRow := PySem.W.OpenLaw.row PySem.Challenge.rw_wordsback_k21_whole_two_letters
abbrev hk : PySem.W.Hook := He.hookX 5 law_.fa (law_.fn top) [] law_.tf law_.ex
def ob (s : PySem.W.SharedT) : He.AlX := He.obsX 5 law_.fa (law_.fn top) [] law_.tf law_.ex (HandSHeadRun.getT s)
theorem ob_eq (s : PySem.W.SharedT) : ob s = hk.obs s.abs := He.obsX_eq (HandSHeadRun.getT_eq s)
def loose0 : List Str := ["__name__", "WordError", "BadCounts", "BadOne", "BadOther", "BadTable", "LETTERS", "is_whole", "MOST_NUMBER", "is_table_of", "need_table", "MOST_COUNT", "lots_many", "often", "need_long_counts", "two_back", "_law_begun", "_law_mixed", "_law_take", "_law_pick", "_law_caught", "_law_kinds", "_law_says", "_law_table", "_law_back", "_law_no_table", "_law_poly", "_law_great_counts", "_law_no_great", "_law_two"]
def loose : List Str := loose0
abbrev qv : Program := PySem.W.view R.prog [34]
theorem run (w : World) : HandSHeadRun.RunEq R qv hk ob 20000 loose w := by
  intro os
  kernel_rfl

end K21
end
section
open PySem PySem.Spec PyProof.Rows L2 Wb
namespace K21
open Wb
abbrev F : Nat → Fen := phi law_.dl
theorem mono (n : Nat) : Mono (F n) := phi_mono _ n
theorem s0 {n : Nat} (h : 0 < n) : Wholes (F n) 0 := fun x Q E hx k => by
  refine phi_run h (d := d0) rfl ?_; exact whole_ok hx k
theorem s1 {n : Nat} (h : 1 < n) : TabTests (F n) 1 4 := fun x Q E hx k => by
  refine phi_run h (d := d1) rfl ?_; exact tabof_ok (mono 1) (s0 (by decide)) (by decide) hx k
theorem s2 {n : Nat} (h : 2 < n) {x : D} (hx : tabTy x) {Q : D → Prop} {E : Exn → Prop} (k : if tabB 4 x = true then Q .non else E ⟨"BadTable", none⟩) : F n 2 [x] Q E := by
  refine phi_run h (d := d2) rfl ?_
  exact needT_ok (w := "table") (s1 (by decide)) hx (by decide +kernel) k
theorem s3 {n : Nat} (h : 3 < n) {m k : Nat} (hk : k ≤ m) (hm : m ≤ 60) {Q : D → Prop} {E : Exn → Prop} (q : Q (.int (bin m k))) : F n 3 [.int m, .int k] Q E := by
  refine phi_run h (d := d3) rfl ?_
  show evD (F 3) 4 true b3 [.int m, .int k] Q E
  unfold b3
  walk_at "w"
  rw [decide_eq_false (show ¬ (k : Int) < 0 by omega)]
  walk_at "w"
  rw [decide_eq_false (show ¬ (m : Int) < (k : Int) by omega)]
  walk_at "w"
  refine ⟨by omega, ?_⟩
  refine for_rng (mono 3) (fun j ρ => ∃ c, ρ = [some (.int m), some (.int k), some (.int (cho m j)), c]) ⟨_, rfl⟩ (fun j ρ hj ⟨c, hρ⟩ => ?_) (fun ρ ⟨c, hρ⟩ => ?_)
  · subst hρ
    walk_at "w"
    rw [show cho m (j + 1) = cho m j * ((m : Int) - (0 + (j : Int) * 1)) / (0 + (j : Int) * 1 + 1) by show cho m j * ((m : Int) - j) / (j + 1) = _; congr 2 <;> omega]
    exact ⟨mulR (by omega) (by omega), divS (by omega) (by omega), _, rfl⟩
  · subst hρ
    walk_at "w"
    rw [Int.toNat_natCast, cho_bin]
    exact q
theorem s4 {n : Nat} (h : 4 < n) {a : Int} (ha : -1000000 ≤ a ∧ a ≤ 1000000) {t : Int} (h0 : 0 ≤ t) (h1 : t ≤ 60) {Q : D → Prop} {E : Exn → Prop} (q : Q (.int (a ^ t.toNat))) : F n 4 [.int a, .int t] Q E := by
  refine phi_run h (d := d4) rfl ?_
  show evD (F 4) 4 true b4 [.int a, .int t] Q E
  unfold b4
  walk_at "w"
  refine ⟨by omega, ?_⟩
  refine for_rng (mono 4) (fun j ρ => ∃ c, ρ = [some (.int a), some (.int t), some (.int (a ^ j)), c]) ⟨_, by rw [Int.pow_zero]⟩ (fun j ρ hj ⟨c, hρ⟩ => ?_) (fun ρ ⟨c, hρ⟩ => ?_)
  · subst hρ
    walk_at "w"
    rw [Int.pow_succ]
    exact ⟨mulR (by omega) (by omega), _, rfl⟩
  · subst hρ
    walk_at "w"
    exact q
theorem s5 {n : Nat} (h : 5 < n) {x : D} (hx : cntTy x) {Q : D → Prop} {E : Exn → Prop} (k : if cntB 2 60 x = true then Q .non else E ⟨"BadCounts", none⟩) : F n 5 [x, .int 2, .int 60] Q E := by
  refine phi_run h (d := d5) rfl ?_; exact needC_ok (mono 5) (s0 (by decide)) hx k
theorem t_bits {a : Int} (h : -999 ≤ a ∧ a ≤ 999) : a.natAbs < 2 ^ 10 := by omega
theorem s6 {n : Nat} (h : 6 < n) {a b c d : Int} (hT : IsTab 2 [[a, b], [c, d]]) {m k : Nat} (hm : m ≤ 60) (hk : k ≤ 60) {Q : D → Prop} {E : Exn → Prop} (q : Q (.int (twoI a b c d m k))) : F n 6 [encT [[a, b], [c, d]], encK [(m : Int), k]] Q E := by
  refine phi_run h (d := d6) rfl ?_
  show evD (F 6) 11 true b6 [encT [[a, b], [c, d]], encK [(m : Int), k]] Q E
  have ha := (hT.2 [a, b] (by simp)).2 a (by simp)
  have hb := (hT.2 [a, b] (by simp)).2 b (by simp)
  have hc := (hT.2 [c, d] (by simp)).2 c (by simp)
  have hd := (hT.2 [c, d] (by simp)).2 d (by simp)
  unfold b6
  walk_at "w"
  refine s2 (by decide) dty_enc ?_
  rw [if_pos (tabB_enc hT (by decide) (by decide))]
  unfold encT encK
  walk_at "w"
  refine s5 (x := .tup [.int m, .int k]) (by decide) (cnt_ty (cs := [(m : Int), k])) ?_
  rw [if_pos (show cntB 2 60 (.tup [.int m, .int k]) = true from cnt_enc (cs := [(m : Int), k]) rfl (by simp; omega))]
  walk_at "w"
  rw [ix0]
  walk_at "w"
  rw [show ixD [D.tup [.int a, .int b], D.tup [.int c, .int d]] 1 = some (.tup [.int c, .int d]) from ix_some (i := 1) rfl]
  walk_at "w"
  have hbc : -1000000 ≤ b * c ∧ b * c ≤ 1000000 := by
    have h1 : (b * c).natAbs ≤ 999 * 999 := by rw [Int.natAbs_mul]; exact Nat.mul_le_mul (by omega) (by omega)
    omega
  refine ⟨by split <;> omega, ?_⟩
  refine for_rng (mono 6) (fun j ρ => ∃ c3 c10, ρ = [some (encT [[a, b], [c, d]]), some (encK [(m : Int), k]), some (.int (sumN (twS a b c d m k) j)), c3, some (.int a), some (.int b), some (.int c), some (.int d), some (.int m), some (.int k), c10]) ⟨_, _, rfl⟩ (fun j ρ hj ⟨c3, c10, hρ⟩ => ?_) (fun ρ ⟨c3, c10, hρ⟩ => ?_)
  · subst hρ
    have hj2 : j ≤ min m k := by split at hj <;> omega
    have ej : (0 + (j : Int) * 1) = (j : Int) := by omega
    rw [ej]
    walk_at "w"
    refine s3 (by decide) (by omega) hm ?_
    walk_at "w"
    refine s3 (by decide) (by omega) hk ?_
    walk_at "w"
    have l1 : bitsI (bin m j) ≤ 61 := Nat.le_trans bin_bits (by omega)
    have l2 : bitsI (bin k j) ≤ 61 := Nat.le_trans bin_bits (by omega)
    have l3 : bitsI ((bin m j : Int) * bin k j) ≤ 122 := PySem.intBits_mul_le l1 l2
    refine ⟨IntMulOk.of_le l1 l2 (by decide), ?_⟩
    refine s4 (by decide) (by omega) (by omega) (by omega) ?_
    walk_at "w"
    have p1 : bitsI (a ^ ((m : Int) - j).toNat) ≤ 601 := Nat.le_trans (pw_bits (t_bits ha)) (by omega)
    have p2 : bitsI (d ^ ((k : Int) - j).toNat) ≤ 601 := Nat.le_trans (pw_bits (t_bits hd)) (by omega)
    have p3 : bitsI ((b * c) ^ ((j : Int)).toNat) ≤ 1201 := Nat.le_trans (pw_bits (K := 20) (by omega)) (by omega)
    have l4 := PySem.intBits_mul_le l3 p1
    refine ⟨IntMulOk.of_le l3 p1 (by decide), ?_⟩
    refine s4 (by decide) (by omega) (by omega) (by omega) ?_
    walk_at "w"
    have l5 := PySem.intBits_mul_le l4 p2
    refine ⟨IntMulOk.of_le l4 p2 (by decide), mulL (by omega) (by omega), ?_⟩
    refine s4 (by decide) hbc (by omega) (by omega) ?_
    walk_at "w"
    rw [show sumN (twS a b c d m k) (j + 1) = sumN (twS a b c d m k) j + (bin m j : Int) * bin k j * a ^ ((m : Int) - j).toNat * d ^ ((k : Int) - j).toNat * (b * c) ^ ((j : Int)).toNat by
      show _ + twS a b c d m k j = _
      unfold twS
      rw [show ((m : Int) - j).toNat = m - j by omega, show ((k : Int) - j).toNat = k - j by omega, Int.toNat_natCast]]
    exact ⟨IntMulOk.of_le l5 p3 (by decide), _, _, rfl⟩
  · subst hρ
    walk_at "w"
    rw [show ((if (k : Int) < m then (k : Int) else m) + 1).toNat = min m k + 1 by split <;> omega, ← two_sum]
    exact q
/-- no table of two letters -/
def NoTwo (x : D) : Prop := NoTab 4 x ∨ ∃ T n, x = encT T ∧ IsTab n T ∧ 1 ≤ n ∧ n ≤ 4 ∧ n ≠ 2
theorem s6t {n : Nat} (h : 6 < n) {x y : D} (hx : NoTwo x) {Q : D → Prop} {E : Exn → Prop} (q : E ⟨"BadTable", none⟩) : F n 6 [x, y] Q E := by
  refine phi_run h (d := d6) rfl ?_
  show evD (F 6) 11 true b6 [x, y] Q E
  unfold b6
  walk_at "w"
  rcases hx with ⟨ht, hb⟩ | ⟨T, k, rfl, hT, h1, h2, h3⟩
  · refine s2 (by decide) ht ?_
    rw [if_neg (by rw [hb]; exact Bool.false_ne_true)]
    exact q
  · refine s2 (by decide) dty_enc ?_
    rw [if_pos (tabB_enc hT h1 (by omega))]
    unfold encT
    walk_at "w"
    rw [List.length_map, hT.1, decide_eq_false (show ¬ ((k : Int) = 2) by omega)]
    walk_at "w"
    exact q
theorem s6c {n : Nat} (h : 6 < n) {T : List (List Int)} (hT : IsTab 2 T) {y : D} (hy : NoCnt 2 60 y) {Q : D → Prop} {E : Exn → Prop} (q : E ⟨"BadCounts", none⟩) : F n 6 [encT T, y] Q E := by
  refine phi_run h (d := d6) rfl ?_
  show evD (F 6) 11 true b6 [encT T, y] Q E
  unfold b6
  walk_at "w"
  refine s2 (by decide) dty_enc ?_
  rw [if_pos (tabB_enc hT (by decide) (by decide))]
  unfold encT
  walk_at "w"
  rw [List.length_map, hT.1]
  walk_at "w"
  refine s5 (by decide) hy.1 ?_
  rw [if_neg (by rw [hy.2]; exact Bool.false_ne_true)]
  exact q
theorem s7 {n : Nat} (h : 7 < n) {ns : List Int} (hl : ns.length ≤ 63) (hb : ∀ z ∈ ns, bitsI z ≤ 1048576) {Q : D → Prop} {E : Exn → Prop} (k : Q .tok) : F n 7 [.scr ns] Q E := by
  refine phi_run h (d := d7) rfl ?_; exact begun_ok (mono 7) hl hb k
theorem s8 {n : Nat} (h : 8 < n) (Q : D → Prop) (E : Exn → Prop) (k : ∀ r : Int, 0 ≤ r → Q (.int r)) : F n 8 [.tok] Q E := by
  refine phi_run h (d := d8) rfl ?_; exact mixed_ok (mono 8) k
theorem s9 {n : Nat} (h : 9 < n) : Takes_ (F n) 9 := fun a Q E ha k => by
  refine phi_run h (d := d9) rfl ?_; exact take_ok (mono 9) (s8 (by decide)) ha k
theorem s10 {n : Nat} (h : 10 < n) : Picks (F n) 10 := fun xs Q E hx hl k => by
  have := pick_ok (Φ := F 10) (s9 (by decide)) hx hl (Q := Q) (E := E) k
  exact ⟨phi_run h (d := d10) rfl this.1, phi_run h (d := d10) rfl this.2⟩
theorem s11 {n : Nat} (h : 11 < n) (x : D) (Q : D → Prop) (E : Exn → Prop) (hx : Sayable x) (k : Q (.lst (kd x))) : F n 11 [x] Q E := by
  refine phi_run h (d := d11) rfl ?_; exact kinds_ok (mono 11) hx.1 hx.2 k
theorem s12 {n : Nat} (h : 12 < n) : Says (F n) 12 := fun x Q E hx k => by
  refine phi_run h (d := d12) rfl ?_; exact says_ok (s11 (by decide)) hx k
theorem s13 {n : Nat} (h : 13 < n) {k : Nat} (h0 : k ≤ 1000) {Q : D → Prop} {E : Exn → Prop} (q : ∀ T, IsTab k T → Q (encT T)) : F n 13 [.tok, .int k] Q E := by
  refine phi_run h (d := d13) rfl ?_; exact table_ok (mono 13) (s9 (by decide)) (s10 (by decide)) h0 q
theorem s14 {n : Nat} (h : 14 < n) {table : List (List Int)} {cs : List Int} (hl : table.length = cs.length) (hr : ∀ r ∈ table, r.length = cs.length ∧ ∀ x ∈ r, -(2 ^ 64) < x ∧ x < 2 ^ 64) (hc : ∀ c ∈ cs, 0 ≤ c ∧ c ≤ 1048576) (hb : (boxL cs).length < 16777216) (h2 : cs.length ≤ 1000) {Q : D → Prop} {E : Exn → Prop} (k : Q (.int (backA table cs))) : F n 14 [encT table, encK cs] Q E := by
  refine phi_run h (d := d14) rfl ?_; exact back_ok (mono 14) hl hr hc hb h2 k
theorem s15 {n : Nat} (h : 15 < n) {Q : D → Prop} {E : Exn → Prop} (k : ∀ x, NoTab 4 x → Q x) : F n 15 [.tok] Q E := by
  refine phi_run h (d := d15) rfl ?_; exact noTab_ok (mono 15) (s10 (by decide)) k
theorem zip_at {l p r : List (Int × Nat)} {xs : List Int} {y : Int × Nat} (e : xs.zipIdx = p ++ y :: r) : y.2 = p.length ∧ xs[p.length]? = some y.1 := by
  have h1 : xs.zipIdx[p.length]? = some y := by rw [e]; simp
  rw [List.getElem?_zipIdx] at h1
  cases hx : xs[p.length]? with
  | none => rw [hx] at h1; simp at h1
  | some z => rw [hx] at h1; simp at h1; subst h1; exact ⟨rfl, rfl⟩
theorem co_get {xs : List Int} {i : Nat} {x : Int} (h : xs[i]? = some x) : co xs i = x := by
  unfold co; rw [List.getD_eq_getElem?_getD, h]; rfl
theorem ixL {xs : List Int} {i : Nat} (h : i < xs.length) : ixD (xs.map D.int) (i : Int) = some (.int (co xs i)) := key_ix h
theorem ixN_nat {n i : Nat} (h : i < n) : ixN n (i : Int) = some i := by
  unfold ixN
  simp
  omega
def polL (one other : List Int) : List Int := coL (cv (co one) (co other)) (one.length + other.length - 1)
theorem s16 {n : Nat} (h : 16 < n) {one other : List Int} (h1 : one ≠ []) (h2 : other ≠ []) (hl : one.length + other.length ≤ 1000) (hm : ∀ x ∈ one, ∀ y ∈ other, IntMulOk x y) {Q : D → Prop} {E : Exn → Prop} (q : Q (encL (polL one other))) : F n 16 [encL one, encL other] Q E := by
  refine phi_run h (d := d16) rfl ?_
  show evD (F 16) 7 true b16 [encL one, encL other] Q E
  have l1 : 0 < one.length := List.length_pos_iff.mpr h1
  have l2 : 0 < other.length := List.length_pos_iff.mpr h2
  unfold b16 encL
  walk_at "w"
  simp only [List.length_map]
  refine ⟨⟨by omega, by omega, by omega⟩, ?_⟩
  rw [rep1, rep_map, enum_map]
  generalize hN : ((one.length : Int) + other.length - 1).toNat = N
  have hN2 : N = one.length + other.length - 1 := by omega
  refine for_map (mono 16) (fun p r ρ => ∃ (L : List Int) (c3 c4 c5 c6 : Option D), ρ = [some (.lst (one.map .int)), some (.lst (other.map .int)), some (.lst (L.map .int)), c3, c4, c5, c6] ∧ L.length = N ∧ ∀ k, k < N → co L k = prN (co one) (co other) p.length k) ⟨_, _, _, _, _, rfl, by simp, fun k hk => by unfold co; simp [List.getD_eq_getElem?_getD, hk, prN, sumN]⟩ (fun p x r ρ e ⟨L, c3, c4, c5, c6, hρ, hL, hc⟩ => ?_) (fun ρ ⟨L, c3, c4, c5, c6, hρ, hL, hc⟩ => ?_)
  · subst hρ
    obtain ⟨x, i⟩ := x
    obtain ⟨e1, e2⟩ := zip_at (l := []) e
    simp only at e1 e2
    subst e1
    have hi : p.length < one.length := (List.getElem?_eq_some_iff.mp e2).1
    walk_at "w"
    rw [enum_map]
    refine for_map (mono 16) (fun p2 r2 ρ => ∃ (L2 : List Int) (c5 c6 : Option D), ρ = [some (.lst (one.map .int)), some (.lst (other.map .int)), some (.lst (L2.map .int)), some (.int p.length), some (.int x), c5, c6] ∧ L2.length = N ∧ ∀ k, k < N → co L2 k = co L k + pr1 x (co other) p.length p2.length k) ⟨_, _, _, rfl, hL, fun k hk => by unfold pr1; rw [if_neg (by simp)]; omega⟩ (fun p2 y r2 ρ e ⟨L2, c5, c6, hρ, hL2, hc2⟩ => ?_) (fun ρ ⟨L2, c5, c6, hρ, hL2, hc2⟩ => ?_)
    · subst hρ
      obtain ⟨y, j⟩ := y
      obtain ⟨f1, f2⟩ := zip_at (l := []) e
      simp only at f1 f2
      subst f1
      have hj : p2.length < other.length := (List.getElem?_eq_some_iff.mp f2).1
      walk_at "w"
      rw [show (p.length : Int) + (p2.length : Int) = ((p.length + p2.length : Nat) : Int) by omega, ixL (by omega)]
      walk_at "w"
      refine ⟨hm x (List.mem_of_getElem? e2) y (List.mem_of_getElem? f2), ?_⟩
      rw [show ((p.length : Int) + (p2.length : Int)) = ((p.length + p2.length : Nat) : Int) by omega, ixN_nat (by rw [List.length_map]; omega)]
      walk_at "w"
      rw [← List.map_set]
      refine ⟨_, _, _, rfl, by rw [List.length_set]; exact hL2, fun k hk => ?_⟩
      simp only [List.length_append, List.length_singleton]
      have hs : ∀ v, co (L2.set (p.length + p2.length) v) k = if p.length + p2.length = k then v else co L2 k := fun v => by
        unfold co
        rw [List.getD_eq_getElem?_getD, List.getD_eq_getElem?_getD, List.getElem?_set]
        by_cases a : p.length + p2.length = k
        · rw [if_pos a, if_pos a, if_pos (by omega)]; rfl
        · rw [if_neg a, if_neg a]
      rw [hs]
      by_cases a : p.length + p2.length = k
      · subst a
        rw [if_pos rfl, hc2 _ hk]
        unfold pr1
        rw [if_neg (by omega), if_pos (by omega), show p.length + p2.length - p.length = p2.length by omega, co_get f2]
        omega
      · rw [if_neg a, hc2 k hk]
        unfold pr1
        by_cases b : p.length ≤ k ∧ k - p.length < p2.length
        · rw [if_pos b, if_pos ⟨b.1, by omega⟩]
        · rw [if_neg b, if_neg (by omega)]
    · subst hρ
      walk_at "w"
      refine ⟨L2, _, _, _, _, rfl, hL2, fun k hk => ?_⟩
      rw [hc2 k hk, hc k hk]
      simp only [List.length_append, List.length_singleton, List.length_zipIdx]
      show _ = prN (co one) (co other) p.length k + (if p.length ≤ k then co one p.length * co other (k - p.length) else 0)
      rw [co_get e2]
      unfold pr1
      by_cases a : p.length ≤ k
      · rw [if_pos a]
        by_cases b : k - p.length < other.length
        · rw [if_pos ⟨a, b⟩]
        · rw [if_neg fun z => b z.2, co_big (p := other) (by omega), Int.mul_zero]
      · rw [if_neg a, if_neg fun z => a z.1]
  · subst hρ
    walk_at "w"
    have : L = polL one other := by
      refine eq_coL (by omega) fun k hk => ?_
      rw [hc k (by omega), List.length_zipIdx, prN_cv fun k hk => co_big hk]
    rw [this] 
    exact q
theorem s17 {n : Nat} (h : 17 < n) {k : Nat} (h0 : 1 ≤ k) (h1 : k ≤ 1000) {top : Int} (t1 : 1 ≤ top) (t2 : top ≤ 1000000) {Q : D → Prop} {E : Exn → Prop} (q : ∀ cs, InB k 0 top cs → Q (encK cs)) : F n 17 [.tok, .int k, .int top] Q E := by
  refine phi_run h (d := d17) rfl ?_; exact great_ok (mono 17) (s9 (by decide)) (s10 (by decide)) h0 h1 t1 t2 q
theorem s18 {n : Nat} (h : 18 < n) {k : Nat} (h0 : 1 ≤ k) (h1 : k ≤ 900) {top : Int} {Q : D → Prop} {E : Exn → Prop} (q : ∀ x, NoCnt k top x → Q x) : F n 18 [.tok, .int k, .int top] Q E := by
  refine phi_run h (d := d18) rfl ?_; exact noGreat_ok (mono 18) (s10 (by decide)) h0 h1 q
theorem co_pw (a b : Int) (j : Nat) : co (coL (pwF a b j one1) (j + 1)) = pwF a b j one1 := by
  funext k
  by_cases h : k < j + 1
  · exact co_coL h
  · rw [co_big (by rw [coL_len]; omega), pwF_deg a b (by omega)]
theorem co_two (a b : Int) : co [a, b] = ml a b one1 := by
  funext k
  match k with
  | 0 => show a = 1 * a + 0; omega
  | 1 => show b = 0 * a + 1 * b; omega
  | k + 2 => show (0 : Int) = 0 * a + 0 * b; omega
theorem coL_congr {f g : Nat → Int} {n : Nat} (h : ∀ k, k < n → f k = g k) : coL f n = coL g n := by
  unfold coL
  exact List.map_congr_left fun k hk => h k (List.mem_range.mp hk)
theorem pol_step (a b : Int) (j : Nat) : polL (coL (pwF a b j one1) (j + 1)) [a, b] = coL (pwF a b (j + 1) one1) (j + 1 + 1) := by
  unfold polL
  rw [coL_len, co_pw, co_two, cv_ml, cv_one]
  rfl
theorem coL_ne {f : Nat → Int} {n : Nat} : coL f (n + 1) ≠ [] := fun e => by
  have := congrArg List.length e
  rw [coL_len] at this
  simp at this
theorem coL_mem {f : Nat → Int} {n : Nat} {x : Int} (h : x ∈ coL f n) : ∃ k, x = f k := by
  obtain ⟨k, _, e⟩ := List.mem_map.mp h
  exact ⟨k, e.symm⟩
theorem s19 {n : Nat} (h : 19 < n) {a b c d : Int} (hT : IsTab 2 [[a, b], [c, d]]) {m k : Nat} (hm : m ≤ 60) (hk : k ≤ 60) {Q : D → Prop} {E : Exn → Prop} (q : Q (.int (twoI a b c d m k))) : F n 19 [encT [[a, b], [c, d]], encK [(m : Int), k]] Q E := by
  refine phi_run h (d := d19) rfl ?_
  show evD (F 19) 5 true b19 [.tup [.tup [.int a, .int b], .tup [.int c, .int d]], .tup [.int m, .int k]] Q E
  have ha := (hT.2 [a, b] (by simp)).2 a (by simp)
  have hb := (hT.2 [a, b] (by simp)).2 b (by simp)
  have hc := (hT.2 [c, d] (by simp)).2 c (by simp)
  have hd := (hT.2 [c, d] (by simp)).2 d (by simp)
  have x0 : ixD [D.tup [.int a, .int b], D.tup [.int c, .int d]] 1 = some (.tup [.int c, .int d]) := ix_some (i := 1) rfl
  have x1 : ixD [D.int m, D.int k] 1 = some (.int k) := ix_some (i := 1) rfl
  unfold b19
  walk_at "w"
  rw [ix0]
  walk_at "w"
  refine ⟨by omega, ?_⟩
  refine for_rng (mono 19) (fun j ρ => ∃ c2, ρ = [some (.tup [.tup [.int a, .int b], .tup [.int c, .int d]]), some (.tup [.int m, .int k]), c2, some (encL (coL (pwF a b j one1) (j + 1))), some (encL [1])]) ⟨_, rfl⟩ (fun j ρ hj ⟨c2, hρ⟩ => ?_) (fun ρ ⟨c2, hρ⟩ => ?_)
  · subst hρ
    walk_at "w"
    rw [ix0]
    walk_at "w"
    show F 19 16 [encL (coL (pwF a b j one1) (j + 1)), encL [a, b]] _ _
    refine s16 (by decide) coL_ne (by simp) (by rw [coL_len]; simp; omega) (fun x hx y hy => ?_) ?_
    · simp only [List.mem_cons, List.not_mem_nil, or_false] at hy
      rcases hy with rfl | rfl <;> exact mulR (by omega) (by omega)
    · rw [pol_step]
      walk_at "w"
      exact ⟨_, rfl⟩
  · subst hρ
    walk_at "w"
    rw [x1]
    walk_at "w"
    refine ⟨by omega, ?_⟩
    rw [Int.toNat_natCast]
    refine for_rng (mono 19) (fun j ρ => ∃ c2, ρ = [some (.tup [.tup [.int a, .int b], .tup [.int c, .int d]]), some (.tup [.int m, .int k]), c2, some (encL (coL (pwF a b m one1) (m + 1))), some (encL (coL (pwF c d j one1) (j + 1)))]) ⟨_, rfl⟩ (fun j ρ hj ⟨c2, hρ⟩ => ?_) (fun ρ ⟨c2, hρ⟩ => ?_)
    · subst hρ
      walk_at "w"
      rw [x0]
      walk_at "w"
      show F 19 16 [encL (coL (pwF c d j one1) (j + 1)), encL [c, d]] _ _
      refine s16 (by decide) coL_ne (by simp) (by rw [coL_len]; simp; omega) (fun x hx y hy => ?_) ?_
      · simp only [List.mem_cons, List.not_mem_nil, or_false] at hy
        rcases hy with rfl | rfl <;> exact mulR (by omega) (by omega)
      · rw [pol_step]
        walk_at "w"
        exact ⟨_, rfl⟩
    · subst hρ
      walk_at "w"
      refine s16 (by decide) coL_ne coL_ne (by rw [coL_len, coL_len]; omega) (fun x hx y hy => ?_) ?_
      · obtain ⟨i, rfl⟩ := coL_mem hx
        obtain ⟨j, rfl⟩ := coL_mem hy
        exact IntMulOk.of_le (pwF_bits (by omega) (by omega) m i) (pwF_bits (by omega) (by omega) k j) (Nat.le_trans (Nat.add_le_add (show 11 * m + 1 ≤ 661 by omega) (show 11 * k + 1 ≤ 661 by omega)) (by decide))
      · unfold encL
        walk_at "w"
        rw [x1]
        walk_at "w"
        have hlen : (polL (coL (pwF a b m one1) (m + 1)) (coL (pwF c d k one1) (k + 1))).length = m + k + 1 := by
          unfold polL
          rw [coL_len, coL_len, coL_len]; omega
        rw [ixL (by omega)]
        walk_at "w"
        have : co (polL (coL (pwF a b m one1) (m + 1)) (coL (pwF c d k one1) (k + 1))) k = twoI a b c d m k := by
          unfold polL
          rw [co_coL (by rw [coL_len, coL_len]; omega), co_pw, co_pw, two_cv]
        rw [this]
        exact q
theorem ix1 {x y : D} {xs : List D} : ixD (x :: y :: xs) 1 = some y := ix_some (xs := x :: y :: xs) (i := 1) rfl
theorem box2 {m k : Nat} (hm : m ≤ 60) (hk : k ≤ 60) : (boxL [(m : Int), k]).length < 16777216 := by
  have h1 : (boxL [(k : Int)]).length ≤ (List.range ((k : Int) + 1).toNat).length * 1 := flat_len fun x _ => by simp [boxL]
  have h2 : (boxL [(m : Int), k]).length ≤ (List.range ((m : Int) + 1).toNat).length * (boxL [(k : Int)]).length := flat_len fun x _ => by rw [List.length_map]; exact Nat.le_refl _
  rw [List.length_range] at h1 h2
  have h3 : ((m : Int) + 1).toNat * (boxL [(k : Int)]).length ≤ 61 * 61 := Nat.mul_le_mul (by omega) (by omega)
  omega
theorem tab2 {T : List (List Int)} (h : IsTab 2 T) : ∃ a b c d, T = [[a, b], [c, d]] := by
  obtain ⟨h1, h2⟩ := h
  match T, h1 with
  | [x, y], _ =>
    have hx := (h2 x (by simp)).1
    have hy := (h2 y (by simp)).1
    match x, y, hx, hy with
    | [a, b], [c, d], _, _ => exact ⟨a, b, c, d, rfl⟩
theorem isTab2 {a b c d : Int} (ha : -999 ≤ a ∧ a ≤ 999) (hb : -999 ≤ b ∧ b ≤ 999) (hc : -999 ≤ c ∧ c ≤ 999) (hd : -999 ≤ d ∧ d ≤ 999) : IsTab 2 [[a, b], [c, d]] := by
  refine ⟨rfl, fun r hr => ?_⟩
  simp only [List.mem_cons, List.not_mem_nil, or_false] at hr
  rcases hr with rfl | rfl
  · refine ⟨rfl, fun x hx => ?_⟩
    simp only [List.mem_cons, List.not_mem_nil, or_false] at hx
    rcases hx with rfl | rfl <;> assumption
  · refine ⟨rfl, fun x hx => ?_⟩
    simp only [List.mem_cons, List.not_mem_nil, or_false] at hx
    rcases hx with rfl | rfl <;> assumption
theorem cnt2 {top : Int} (ht : top ≤ 60) {cs : List Int} (h : InB 2 0 top cs) : ∃ m k : Nat, cs = [(m : Int), k] ∧ m ≤ 60 ∧ k ≤ 60 := by
  obtain ⟨h1, h2⟩ := h
  match cs, h1 with
  | [x, y], _ =>
    have hx := h2 x (by simp)
    have hy := h2 y (by simp)
    exact ⟨x.toNat, y.toNat, by rw [show ((x.toNat : Nat) : Int) = x by omega, show ((y.toNat : Nat) : Int) = y by omega], by omega, by omega⟩
theorem told_eq : twoI 1 2 3 4 1 1 = 10 ∧ twoI 1 2 3 4 0 0 = 1 ∧ twoI 0 1 1 0 5 5 = 1 ∧ twoI 0 1 1 0 5 4 = 0 ∧ twoI 1 1 1 1 2 2 = 6 := by decide +kernel
theorem main : ∀ ns : List Int, ns.length ≤ 63 → (∀ z ∈ ns, Builtin.Int.intBits z ≤ 1048576) → phi law_.dl law_.dl.length (law_.dl.length - 1) [.scr ns] (fun d => d = .bl true) fun _ => False := by
  intro ns hl hb
  show F 21 20 [.scr ns] _ _
  refine phi_run (by decide) (d := d20) rfl ?_
  show evD (F 20) 10 true b20 [.scr ns] _ _
  unfold b20
  walk_at "w"
  refine s7 (by decide) hl hb ?_
  walk_at "w"
  refine ⟨by split <;> omega, ?_⟩
  refine for_rng (mono 20) (fun j ρ => ∃ c2 c4 c5 c6 c7 c8 c9, ρ = [some (.scr ns), some .tok, c2, none, c4, c5, c6, c7, c8, c9]) ⟨_, _, _, _, _, _, _, rfl⟩ (fun j ρ hj ⟨c2, c4, c5, c6, c7, c8, c9, hρ⟩ => ?_) (fun ρ ⟨c2, c4, c5, c6, c7, c8, c9, hρ⟩ => ?_)
  · subst hρ
    walk_at "w"
    refine s13 (k := 2) (by decide) (by decide) fun T hT => ?_
    obtain ⟨a, b, c, d, rfl⟩ := tab2 hT
    have ha := (hT.2 [a, b] (by simp)).2 a (by simp)
    have hb := (hT.2 [a, b] (by simp)).2 b (by simp)
    have hc := (hT.2 [c, d] (by simp)).2 c (by simp)
    have hd := (hT.2 [c, d] (by simp)).2 d (by simp)
    walk_at "w"
    refine s17 (k := 2) (by decide) (by decide) (by decide) (by decide) (by decide) fun cs1 hc1 => ?_
    walk_at "w"
    refine s17 (k := 2) (by decide) (by decide) (by decide) (by decide) (by decide) fun cs2 hc2 => ?_
    walk_at "w"
    refine s9 (by decide) _ _ _ (by decide) fun r1 p1 q1 => ?_
    walk_at "w"
    refine s9 (by decide) _ _ _ (by decide) fun r2 p2 q2 => ?_
    walk_at "w"
    refine (s10 (by decide) _ _ _ (by simp) (by simp) fun x hx => ?_).1
    have : ∃ m k : Nat, x = .tup [.int m, .int k] ∧ m ≤ 60 ∧ k ≤ 60 := by
      simp only [List.mem_cons, List.not_mem_nil, or_false] at hx
      rcases hx with rfl | rfl | rfl
      · obtain ⟨m, k, rfl, h⟩ := cnt2 (by decide) hc1
        exact ⟨m, k, rfl, h⟩
      · obtain ⟨m, k, rfl, h⟩ := cnt2 (by decide) hc2
        exact ⟨m, k, rfl, h⟩
      · exact ⟨r1.toNat, r2.toNat, by rw [show ((r1.toNat : Nat) : Int) = r1 by omega, show ((r2.toNat : Nat) : Int) = r2 by omega], by omega, by omega⟩
    obtain ⟨m, k, rfl, hm, hk⟩ := this
    clear hx
    walk_at "w"
    refine s19 (by decide) hT hm hk ?_
    generalize hw : twoI a b c d m k = w
    walk_at "w"
    refine s6 (by decide) hT hm hk ?_
    rw [hw]
    walk_at "w"
    refine s6 (by decide) hT hm hk ?_
    rw [hw]
    walk_at "w"
    refine s12 (by decide) _ _ _ (say_ints (ns := [w, w]) (by simp)) ?_
    walk_at "w"
    rw [show intsD [D.int m, D.int k] = some [(m : Int), k] from rfl]
    walk_at "w"
    cases hs : decide (([(m : Int), k] : List Int).sum < 9)
    rotate_left
    walk_at "w"
    refine s14 (table := [[a, b], [c, d]]) (cs := [(m : Int), k]) (by decide) rfl (fun r hr => ⟨(hT.2 r hr).1, fun x hx => ?_⟩) (by simp; omega) (box2 hm hk) (by simp) ?_
    · have := (hT.2 r hr).2 x hx
      omega
    rw [back_two, hw]
    walk_at "w"
    all_goals
      try walk_at "w"
      rw [show encT [[a, b], [c, d]] = .tup [.tup [.int a, .int b], .tup [.int c, .int d]] from rfl]
      repeat (first | rw [ix0] | rw [ix1] | walk_at "w")
      have q1 := two_turn a b c d m k
      have q2 := two_other a b c d m k
      rw [hw] at q1 q2
      refine s6 (a := a) (b := c) (c := b) (d := d) (by decide) (isTab2 ha hc hb hd) hm hk ?_
      rw [q1]
      walk_at "w"
      refine s6 (a := d) (b := c) (c := b) (d := a) (m := k) (k := m) (by decide) (isTab2 hd hc hb ha) hk hm ?_
      rw [q2]
      walk_at "w"
      refine s12 (by decide) _ _ _ (say_ints (ns := [w, w]) (by simp)) ?_
      walk_at "w"
      refine s15 (by decide) fun x0 hx0 => ?_
      walk_at "w"
      refine s13 (k := 3) (by decide) (by decide) fun T3 hT3 => ?_
      walk_at "w"
      refine (s10 (by decide) _ _ _ (by simp) (by simp) fun x hx => ?_).1
      have hno : NoTwo x := by
        simp only [List.mem_cons, List.not_mem_nil, or_false] at hx
        rcases hx with rfl | rfl | rfl
        · exact .inl hx0
        · exact .inr ⟨[[5]], 1, rfl, ⟨rfl, by decide⟩, by decide, by decide, by decide⟩
        · exact .inr ⟨T3, 3, rfl, hT3, by decide, by decide, by decide⟩
      walk_at "w"
      refine s6t (by decide) hno ?_
      walk_at "w"
      refine ⟨by decide, ?_⟩
      try walk_at "w"
      refine s18 (k := 2) (by decide) (by decide) (by decide) fun y hy => ?_
      walk_at "w"
      refine s6c (T := [[a, b], [c, d]]) (by decide) hT hy ?_
      walk_at "w"
      refine ⟨by decide, ?_⟩
      exact ⟨_, _, _, _, _, _, _, rfl⟩
  · subst hρ
    walk_at "w"
    obtain ⟨t1, t2, t3, t4, t5⟩ := told_eq
    refine s6 (a := 1) (b := 2) (c := 3) (d := 4) (m := 1) (k := 1) (by decide) (isTab2 (by decide) (by decide) (by decide) (by decide)) (by decide) (by decide) ?_
    rw [t1]
    walk_at "w"
    refine s6 (a := 1) (b := 2) (c := 3) (d := 4) (m := 0) (k := 0) (by decide) (isTab2 (by decide) (by decide) (by decide) (by decide)) (by decide) (by decide) ?_
    rw [t2]
    walk_at "w"
    refine s6 (a := 0) (b := 1) (c := 1) (d := 0) (m := 5) (k := 5) (by decide) (isTab2 (by decide) (by decide) (by decide) (by decide)) (by decide) (by decide) ?_
    rw [t3]
    walk_at "w"
    refine s6 (a := 0) (b := 1) (c := 1) (d := 0) (m := 5) (k := 4) (by decide) (isTab2 (by decide) (by decide) (by decide) (by decide)) (by decide) (by decide) ?_
    rw [t4]
    walk_at "w"
    refine s6 (a := 1) (b := 1) (c := 1) (d := 1) (m := 2) (k := 2) (by decide) (isTab2 (by decide) (by decide) (by decide) (by decide)) (by decide) (by decide) ?_
    rw [t5]
    walk_at "w"
    refine s12 (by decide) _ _ _ (say_ints (ns := [10, 1, 1, 0, 6]) (by decide)) ?_
    rfl
end K21

end
section
open PySem PySem.W PySem.Calls PyProof.Rows
theorem PySem.Challenge.cw_wordsback_k21_whole_two_letters_holds : PySem.Challenge.rw_wordsback_k21_whole_two_letters.Holds := by
  w_on; o_law
  refine HandSHeadRun.head_any (r := K21.R) (q := K21.qv) (H := K21.hk) (ob := K21.ob) (M := 20000) (loose := K21.loose) (d := HandSHeadRun.topDef K21.R.prog 34) (kwd := []) K21.ob_eq
    (by kernel_rfl) (fun s => by kernel_rfl) K21.run (by kernel_rfl) (by kernel_rfl) (by kernel_rfl) (by rfl) (by first | assumption | decide +kernel) (by decide +kernel) ⟨rfl, rfl, rfl, rfl, rfl, by decide +kernel⟩ ?hw ?hc
  case hw => w_witness2
  case hc =>
    exact Wb.law_walk (L := K21.law_) (top := K21.top) (dl := K21.d20) (x := "script") rfl rfl (by kernel_rfl) K21.cau K21.chk K21.bfs rfl (by kernel_rfl) rfl rfl (by decide) rfl ⟨rfl, by decide, by decide⟩
      (fun K f fd F s u => L2.FunD.bindsA (ps := ["script"]) F (fun _ _ _ _ _ _ us hl => match us, hl with | [_], _ => rfl) s [u] rfl) K21.main

end
