import PyProof.Rows.All
import Wide.FinOn
import OpenK.AllK
import Wide.All
import HandS.ForMost
import PyProof.SliceList
import HandS.TupAny
import HandS.Zip
import HandS.Rev
import HandS.Wide
import HandS.Deep
import HandS.SortInts
import HandS.SortRule
import HandS.IsInst
import HandS.Style
import HandS.WordsExc
import KE.GoesMore
import HandS.More
import PySem.Challenge.RW_shoprow_k50_sets_and_their_worth
set_option linter.all false
set_option maxRecDepth 100000
/-! PFa: values as trees, the small language and what it computes (plain Lean, no machine in sight). -/
namespace PF
open PySem

/-- a value as a tree; cell n: a list (dict, object) of the frame's own that may still change -/
inductive PV where
  | non | bl (b : Bool) | int (i : Int) | str (s : Str)
  | tup (xs : List PV) | lst (xs : List PV) | dic (ks vs : List PV)
  | ins (c : Nat) (vs : List PV)
  | cell (n : Nat)
  | scr (ns : List Int)

/-- a result: a value, a refusal of a class with its fields, or nothing said -/
inductive Rs (α : Type) where
  | ok (a : α) | err (c : Nat) (vs : List PV) | bad

def Rs.bind {α β : Type} (r : Rs α) (f : α → Rs β) : Rs β := match r with
  | .ok a => f a
  | .err c vs => .err c vs
  | .bad => .bad
@[simp] theorem Rs.bind_ok {α β : Type} (a : α) (f : α → Rs β) : (Rs.ok a).bind f = f a := rfl
@[simp] theorem Rs.bind_err {α β : Type} (c : Nat) (vs : List PV) (f : α → Rs β) : (Rs.err c vs : Rs α).bind f = .err c vs := rfl
@[simp] theorem Rs.bind_bad {α β : Type} (f : α → Rs β) : (Rs.bad : Rs α).bind f = .bad := rfl
theorem Rs.bind_eq_ok {α β : Type} {r : Rs α} {f : α → Rs β} {b : β} : r.bind f = .ok b ↔ ∃ a, r = .ok a ∧ f a = .ok b := by
  cases r <;> simp

/-- the frame: the slots, the cells, the cells that are walked just now -/
structure Env where
  sl : List (Option PV)
  ce : List (Option PV)
  lk : List Nat

abbrev Sem := List PV → Rs PV

inductive BOp where | add | sub | mul | mod | fdiv | pow
  deriving DecidableEq
inductive COp where | eq | ne | lt | le | gt | ge | isin | notin | isN | isnotN
  deriving DecidableEq
/-- built-in functions of values -/
inductive BI where | len | tuple | list | sorted | sum | min | max | all | any | int | str | abs | sortset | lenset
  deriving DecidableEq
inductive TyN where | int | bool | str | tuple | list | dict
  deriving DecidableEq
/-- a target of names -/
inductive Tg where
  | nm (i : Nat) | tp (is : List Nat)

mutual
inductive Ex where
  | var (i : Nat)
  | cst (v : PV)
  | tup (es : List Ex)
  | lst (es : List Ex)
  | bin (op : BOp) (a b : Ex)
  | neg (a : Ex)
  | nt (a : Ex)
  | cmp (op : COp) (a b : Ex)
  | cmp2 (op op2 : COp) (a b c : Ex)
  | and (es : List Ex)
  | or (es : List Ex)
  | ite (c a b : Ex)
  | ix (a i : Ex)
  | sl (a : Ex) (lo hi : Option Ex)
  | sl3 (a : Ex) (lo hi : Option Ex) (st : Ex)
  | call (x : Str) (f : Sem) (es : List Ex)
  | bi (b : BI) (es : List Ex)
  | isi (a : Ex) (t : TyN)
  | comp (elt : Ex) (tg : Tg) (it : It) (cond : Option Ex)
inductive It where
  | seq (e : Ex)
  | rng (e : Ex)
  | rng2 (a b : Ex)
  | rng3 (a b c : Ex)
  | rlen (e : Ex)
  | enum (e : Ex)
  | zip (a b : Ex)
  | rev (e : Ex)
end

/-! ### operations of values -/
def sizeMax : Nat := 16777216
mutual
def pure? : PV → Bool
  | .cell _ => false
  | .tup xs | .lst xs | .ins _ xs => pures? xs
  | .dic ks vs => pures? ks && pures? vs
  | _ => true
def pures? : List PV → Bool
  | [] => true
  | x :: xs => pure? x && pures? xs
end
mutual
/-- no list, no dict within -/
def flat? : PV → Bool
  | .cell _ | .lst _ | .dic _ _ | .ins _ _ | .scr _ => false
  | .tup xs => flats? xs
  | _ => true
def flats? : List PV → Bool
  | [] => true
  | x :: xs => flat? x && flats? xs
end
mutual
def mapC (g : Nat → Option PV) : PV → Option PV
  | .cell n => g n
  | .tup xs => (mapCs g xs).map .tup
  | .lst xs => (mapCs g xs).map .lst
  | .ins c xs => (mapCs g xs).map (.ins c)
  | .dic ks vs => (mapCs g ks).bind fun ks' => (mapCs g vs).map (.dic ks')
  | v => some v
def mapCs (g : Nat → Option PV) : List PV → Option (List PV)
  | [] => some []
  | x :: xs => (mapC g x).bind fun y => (mapCs g xs).map (y :: ·)
end
def content (ce : List (Option PV)) (n : Nat) : Option PV := (ce[n]?).join
/-- a value with its cells read: a tree -/
def frzN (ce : List (Option PV)) : Nat → PV → Option PV
  | 0 => mapC fun _ => none
  | k + 1 => mapC fun n => (content ce n).bind (frzN ce k)
def Rs.of {α : Type} : Option α → Rs α
  | some a => .ok a
  | none => .bad
@[simp] theorem Rs.of_some {α : Type} (a : α) : Rs.of (some a) = .ok a := rfl
@[simp] theorem Rs.of_none {α : Type} : (Rs.of (none : Option α)) = .bad := rfl
def frz (ρ : Env) (v : PV) : Rs PV := if pure? v then .ok v else Rs.of (frzN ρ.ce 3 v)
def frzs (ρ : Env) (vs : List PV) : Rs (List PV) := if pures? vs then .ok vs else Rs.of (mapCs (fun n => (content ρ.ce n).bind (frzN ρ.ce 2)) vs)

/-- the items of a list, a tuple -/
def seqOf (ρ : Env) : PV → Rs (List PV)
  | .tup xs => .ok xs
  | .lst xs => .ok xs
  | .scr ns => .ok (ns.map .int)
  | .cell n => match content ρ.ce n with
    | some (.lst xs) => .ok xs
    | _ => .bad
  | _ => .bad
/-- of lists alone -/
def lstOf (ρ : Env) : PV → Rs (List PV)
  | .lst xs => .ok xs
  | .scr ns => .ok (ns.map .int)
  | .cell n => match content ρ.ce n with
    | some (.lst xs) => .ok xs
    | _ => .bad
  | _ => .bad

/-- of lists of the text's own -/
def trkOf (ρ : Env) : PV → Rs (List PV)
  | .lst xs => .ok xs
  | .cell n => match content ρ.ce n with
    | some (.lst xs) => .ok xs
    | _ => .bad
  | _ => .bad

def intsOf : List PV → Option (List Int)
  | [] => some []
  | .int i :: xs => (intsOf xs).map (i :: ·)
  | _ => none
def blsOf : List PV → Option (List Bool)
  | [] => some []
  | .bl i :: xs => (blsOf xs).map (i :: ·)
  | _ => none
def pairsOf : List PV → Option (List (Int × Int))
  | [] => some []
  | .tup [.int i, .int j] :: xs => (pairsOf xs).map ((i, j) :: ·)
  | _ => none

/-! ordering: insertion sorts -/
def insI (x : Int) : (xs : List Int) → List Int
  | [] => [x]
  | y :: ys => if x ≤ y then x :: y :: ys else y :: insI x ys
def sortI (xs : List Int) : List Int := xs.foldr insI []
def leP (a b : Int × Int) : Bool := a.1 < b.1 || (a.1 == b.1 && a.2 ≤ b.2)
def insP (x : Int × Int) : List (Int × Int) → List (Int × Int)
  | [] => [x]
  | y :: ys => if leP x y then x :: y :: ys else y :: insP x ys
def sortP (xs : List (Int × Int)) : List (Int × Int) := xs.foldr insP []
def uniq : List Int → List Int
  | [] => []
  | x :: xs => match uniq xs with
    | [] => [x]
    | y :: ys => if x = y then y :: ys else x :: y :: ys
def sortU (xs : List Int) : List Int := uniq (sortI xs)
def maxI : Int → List Int → Int
  | m, [] => m
  | m, x :: xs => maxI (if m < x then x else m) xs
def minI : Int → List Int → Int
  | m, [] => m
  | m, x :: xs => minI (if x < m then x else m) xs

def pairV (p : Int × Int) : PV := .tup [.int p.1, .int p.2]

/-! equality by value -/
mutual
def toD : PV → Option PyData
  | .non => some .none
  | .bl b => some (.bool b)
  | .int i => some (.int i)
  | .str s => some (.str s)
  | .tup xs => (toDs xs).map .tuple
  | .lst xs => (toDs xs).map .list
  | _ => none
def toDs : List PV → Option (List PyData)
  | [] => some []
  | x :: xs => (toD x).bind fun d => (toDs xs).map (d :: ·)
end
/-- == of two trees -/
def eqO (a b : PV) : Rs Bool := Rs.of ((toD a).bind fun d => (toD b).bind fun e => if SeqAt.shaped d && SeqAt.shaped e then some (PyData.eqv d e) else none)

/-- tests of numbers that nothing may reckon out by itself -/
def InW (n : Nat) (k : Int) : Prop := -(2 ^ n) ≤ k ∧ k < 2 ^ n
def DivOk (j : Int) : Prop := 0 < j ∧ j < 2 ^ 8000
def MulP (i j : Int) : Prop := i.natAbs < 2 ^ 64 ∨ j.natAbs < 2 ^ 64 ∨ (i.natAbs < 2 ^ 20000 ∧ j.natAbs < 2 ^ 20000)
noncomputable instance inWD {n : Nat} {k : Int} : Decidable (InW n k) := Classical.propDecidable _
noncomputable instance divD {j : Int} : Decidable (DivOk j) := Classical.propDecidable _
noncomputable instance mulD {i j : Int} : Decidable (MulP i j) := Classical.propDecidable _
noncomputable section
def mulOk (i j : Int) : Bool := decide (MulP i j)

def binO (ρ : Env) : BOp → PV → PV → Rs PV
  | .add, .int i, .int j => .ok (.int (i + j))
  | .add, .str x, .str y => if x.length + y.length ≤ sizeMax then .ok (.str (x ++ y)) else .bad
  | .add, .tup xs, .tup ys => if xs.length + ys.length ≤ sizeMax then .ok (.tup (xs ++ ys)) else .bad
  | .add, a, b => (trkOf ρ a).bind fun xs => (trkOf ρ b).bind fun ys => if xs.length + ys.length ≤ sizeMax then .ok (.lst (xs ++ ys)) else .bad
  | .sub, .int i, .int j => .ok (.int (i - j))
  | .mul, .int i, .int j => if mulOk i j then .ok (.int (i * j)) else .bad
  | .mul, a, .int k => (trkOf ρ a).bind fun xs => if decide (InW 63 k) && decide (xs.length * k.toNat ≤ sizeMax) then .ok (.lst (List.replicate k.toNat xs).flatten) else .bad
  | .mod, .int i, .int j => if 0 < j then .ok (.int (i % j)) else .bad
  | .fdiv, .int i, .int j => if DivOk j then .ok (.int (i / j)) else .bad
  | .pow, .int i, .int j => if 0 ≤ j ∧ j ≤ 1000 ∧ i.natAbs < 2 ^ 64 then .ok (.int (i ^ j.toNat)) else .bad
  | _, _, _ => .bad

def scal? : PV → Bool
  | .non | .bl _ | .int _ | .str _ => true
  | _ => false

def inO (xs : List PV) (v : PV) : Rs Bool := Rs.of ((toD v).bind fun d => (toDs xs).bind fun ds => if SeqAt.shaped d && SeqAt.shaped (.list ds) then some (ds.any fun z => PyData.eqv z d) else none)

def memO (a b : PV) : Rs Bool := match b with
  | .lst xs => inO xs a
  | .tup xs => inO xs a
  | .str z => match a with
    | .str x => match x.cps.toList with
      | [c] => .ok (decide (c ∈ z.cps.toList))
      | _ => .bad
    | _ => .bad
  | _ => .bad
def cmpO (ρ : Env) : COp → PV → PV → Rs Bool
  | .isN, a, .non => .ok (match a with | .non => true | _ => false)
  | .isnotN, a, .non => .ok (match a with | .non => false | _ => true)
  | .lt, .int i, .int j => .ok (decide (i < j))
  | .le, .int i, .int j => .ok (decide (i ≤ j))
  | .gt, .int i, .int j => .ok (decide (j < i))
  | .ge, .int i, .int j => .ok (decide (j ≤ i))
  | .eq, a, b => (frz ρ a).bind fun a => (frz ρ b).bind fun b => eqO a b
  | .ne, a, b => (frz ρ a).bind fun a => (frz ρ b).bind fun b => (eqO a b).bind fun c => .ok (!c)
  | .isin, a, b => (frz ρ a).bind fun a => (frz ρ b).bind fun b => memO a b
  | .notin, a, b => (frz ρ a).bind fun a => (frz ρ b).bind fun b => (memO a b).bind fun c => .ok (!c)
  | _, _, _ => .bad

/-- the place of an index of any sign -/
abbrev ixOf (n : Nat) (i : Int) : Option Nat := L2.ixN n i
def ixO (ρ : Env) (a : PV) (i : PV) : Rs PV := match a, i with
  | .str s, .int i => if s.length ≤ sizeMax then Rs.of ((ixOf s.cps.toList.length i).bind fun k => (s.cps.toList[k]?).map fun c => PV.str ⟨#[c]⟩) else .bad
  | a, .int i => (seqOf ρ a).bind fun xs => Rs.of ((ixOf xs.length i).bind fun k => xs[k]?)
  | _, _ => .bad

abbrev cutIx (n d : Nat) (o : Option Int) : Nat := HT.sIx n d o
def cut {α : Type} (xs : List α) (lo hi : Option Int) : List α := (xs.drop (cutIx xs.length 0 lo)).take (cutIx xs.length xs.length hi - cutIx xs.length 0 lo)
def slO (ρ : Env) (a : PV) (lo hi : Option Int) : Rs PV := match a with
  | .tup xs => .ok (.tup (cut xs lo hi))
  | a => (lstOf ρ a).bind fun xs => .ok (.lst (cut xs lo hi))
/-- the items of a slice with a step -/
def pickL {α : Type} (xs : List α) (lo hi : Option Int) (st : Int) : List α := (sliceRange (sliceBounds lo hi (some st) xs.length).1 (sliceBounds lo hi (some st) xs.length).2.1 (sliceBounds lo hi (some st) xs.length).2.2).filterMap (xs[·]?)
def sl3O (ρ : Env) (a : PV) (lo hi : Option Int) (st : Int) : Rs PV := match a with
  | .tup xs => if lo = none ∧ hi = none ∧ st = -1 then .ok (.tup xs.reverse) else .bad
  | a => (lstOf ρ a).bind fun xs => if st = 0 then .bad else .ok (.lst (pickL xs lo hi st))

def isiO (a : PV) : TyN → Rs Bool
  | .int => match a with | .int _ => .ok true | .bl _ => .ok true | .ins _ _ => .bad | .scr _ => .bad | _ => .ok false
  | .bool => match a with | .bl _ => .ok true | .ins _ _ => .bad | .scr _ => .bad | _ => .ok false
  | .str => match a with | .str _ => .ok true | .ins _ _ => .bad | .scr _ => .bad | _ => .ok false
  | .tuple => match a with | .tup _ => .ok true | .ins _ _ => .bad | .scr _ => .bad | _ => .ok false
  | .list => match a with | .lst _ => .ok true | .ins _ _ => .bad | .scr _ => .bad | _ => .ok false
  | .dict => match a with | .dic _ _ => .ok true | .ins _ _ => .bad | .scr _ => .bad | _ => .ok false

def biO (ρ : Env) : BI → List PV → Rs PV
  | .len, [.str s] => if s.length ≤ sizeMax then .ok (.int s.length) else .bad
  | .len, [a] => (seqOf ρ a).bind fun xs => .ok (.int xs.length)
  | .tuple, [a] => (seqOf ρ a).bind fun xs => .ok (.tup xs)
  | .list, [a] => (seqOf ρ a).bind fun xs => .ok (.lst xs)
  | .sum, [a] => (lstOf ρ a).bind fun xs => Rs.of ((intsOf xs).map fun ns => PV.int ns.sum)
  | .min, [.int i, .int j] => .ok (.int (if j < i then j else i))
  | .max, [.int i, .int j] => .ok (.int (if j > i then j else i))
  | .min, [a] => (lstOf ρ a).bind fun xs => Rs.of ((intsOf xs).bind fun ns => match ns with | [] => none | n :: r => some (PV.int (minI n r)))
  | .max, [a] => (lstOf ρ a).bind fun xs => Rs.of ((intsOf xs).bind fun ns => match ns with | [] => none | n :: r => some (PV.int (maxI n r)))
  | .all, [a] => (lstOf ρ a).bind fun xs => Rs.of ((blsOf xs).map fun bs => PV.bl (bs.all id))
  | .any, [a] => (lstOf ρ a).bind fun xs => Rs.of ((blsOf xs).map fun bs => PV.bl (bs.any id))
  | .int, [.int i] => .ok (.int i)
  | .int, [.bl b] => .ok (.int (if b then 1 else 0))
  | .abs, [.int i] => .ok (.int (if i < 0 then -i else i))
  | .sorted, [a] => (lstOf ρ a).bind fun xs => Rs.of (match intsOf xs with
      | some ns => some (PV.lst ((sortI ns).map .int))
      | none => (pairsOf xs).map fun ps => PV.lst ((sortP ps).map pairV))
  | .sortset, [a] => (lstOf ρ a).bind fun xs => Rs.of ((intsOf xs).map fun ns => PV.lst ((sortU ns).map .int))
  | .lenset, [a] => (lstOf ρ a).bind fun xs => Rs.of ((intsOf xs).map fun ns => PV.int (sortU ns).length)
  | _, _ => .bad

def setTg (tg : Tg) (v : PV) (ρ : Env) : Rs Env := match tg with
  | .nm i => .ok { ρ with sl := ρ.sl.set i (some v) }
  | .tp is => match v with
    | .tup xs => if xs.length = is.length then .ok { ρ with sl := (is.zip xs).foldl (fun s p => s.set p.1 (some p.2)) ρ.sl } else .bad
    | _ => .bad

/-- a comprehension's turns -/
def compO (f : PV → Rs (Option PV)) : List PV → Rs (List PV)
  | [] => .ok []
  | x :: xs => (f x).bind fun y => (compO f xs).bind fun ys => .ok (y.toList ++ ys)

def boolOf : PV → Rs Bool
  | .bl b => .ok b
  | _ => .bad

def rngL (lo hi : Int) : List PV := (List.range (hi - lo).toNat).map fun (k : Nat) => PV.int (lo + (k : Int))
def enumL (k : Nat) : List PV → List PV
  | [] => []
  | x :: xs => .tup [.int k, x] :: enumL (k + 1) xs
def zipL : List PV → List PV → List PV
  | x :: xs, y :: ys => .tup [x, y] :: zipL xs ys
  | _, _ => []
def zipO (ρ : Env) (x y : PV) : Rs (List PV) := match x, y with
  | .tup xs, .tup ys => .ok (zipL xs ys)
  | x, y => (lstOf ρ x).bind fun xs => (lstOf ρ y).bind fun ys => .ok (zipL xs ys)
def negO : PV → Rs PV
  | .int i => .ok (.int (-i))
  | _ => .bad
def intOf : PV → Rs Int
  | .int i => .ok i
  | _ => .bad
def partO : PV → Rs (Option Int)
  | .int i => .ok (some i)
  | _ => .bad
def rngOk (i : Int) : Bool := decide (InW 62 i)
def rngO : PV → Rs (List PV)
  | .int j => if rngOk j && decide (j.toNat ≤ sizeMax) then .ok (rngL 0 j) else .bad
  | _ => .bad
def rng2O : PV → PV → Rs (List PV)
  | .int i, .int j => if rngOk i && rngOk j && decide ((j - i).toNat ≤ sizeMax) then .ok (rngL i j) else .bad
  | _, _ => .bad
def walkO (ρ : Env) : PV → Rs (List PV)
  | .str s => if s.length ≤ sizeMax then .ok (s.cps.toList.map fun c => PV.str ⟨#[c]⟩) else .bad
  | x => seqOf ρ x
/-- the cell that is walked -/
def srcOf : PV → Option Nat
  | .cell n => some n
  | _ => none

mutual
def evE : Ex → Env → Rs PV
  | .var i, ρ => Rs.of (ρ.sl[i]?).join
  | .cst v, _ => .ok v
  | .tup es, ρ => (evEs es ρ).bind fun vs => .ok (.tup vs)
  | .lst es, ρ => (evEs es ρ).bind fun vs => .ok (.lst vs)
  | .bin op a b, ρ => (evE a ρ).bind fun x => (evE b ρ).bind fun y => binO ρ op x y
  | .neg a, ρ => (evE a ρ).bind negO
  | .nt a, ρ => (evE a ρ).bind fun x => (boolOf x).bind fun b => .ok (.bl (!b))
  | .cmp op a b, ρ => (evE a ρ).bind fun x => (evE b ρ).bind fun y => (cmpO ρ op x y).bind fun c => .ok (.bl c)
  | .cmp2 op op2 a b c, ρ => (evE a ρ).bind fun x => (evE b ρ).bind fun y => (cmpO ρ op x y).bind fun k =>
      if k then (evE c ρ).bind fun z => (cmpO ρ op2 y z).bind fun c => .ok (.bl c) else .ok (.bl false)
  | .and es, ρ => evAnd es ρ
  | .or es, ρ => evOr es ρ
  | .ite c a b, ρ => (evE c ρ).bind fun x => (boolOf x).bind fun k => if k then evE a ρ else evE b ρ
  | .ix a i, ρ => (evE a ρ).bind fun x => (evE i ρ).bind fun y => ixO ρ x y
  | .sl a lo hi, ρ => (evE a ρ).bind fun x => (evO lo ρ).bind fun l => (evO hi ρ).bind fun h => slO ρ x l h
  | .sl3 a lo hi st, ρ => (evE a ρ).bind fun x => (evO lo ρ).bind fun l => (evO hi ρ).bind fun h => (evE st ρ).bind fun s => (intOf s).bind fun s => sl3O ρ x l h s
  | .call _ f es, ρ => (evEs es ρ).bind fun vs => (frzs ρ vs).bind fun ws => (f ws).bind fun r => if pures? vs || flat? r then .ok r else .bad
  | .bi b es, ρ => (evEs es ρ).bind fun vs => biO ρ b vs
  | .isi a t, ρ => (evE a ρ).bind fun x => (frz ρ x).bind fun x => (isiO x t).bind fun c => .ok (.bl c)
  | .comp elt tg it cond, ρ => (evIt it ρ).bind fun xs => (compO (fun x => (setTg tg x ρ).bind fun ρ' => (evC cond ρ').bind fun k => if k then (evE elt ρ').bind fun y => .ok (some y) else .ok none) xs).bind fun ys => .ok (.lst ys)
def evEs : List Ex → Env → Rs (List PV)
  | [], _ => .ok []
  | e :: es, ρ => (evE e ρ).bind fun v => (evEs es ρ).bind fun vs => .ok (v :: vs)
def evAnd : List Ex → Env → Rs PV
  | [], _ => .bad
  | [e], ρ => evE e ρ
  | e :: es, ρ => (evE e ρ).bind fun x => (boolOf x).bind fun k => if k then evAnd es ρ else .ok (.bl false)
def evOr : List Ex → Env → Rs PV
  | [], _ => .bad
  | [e], ρ => evE e ρ
  | e :: es, ρ => (evE e ρ).bind fun x => (boolOf x).bind fun k => if k then .ok (.bl true) else evOr es ρ
/-- an end of a slice -/
def evO : Option Ex → Env → Rs (Option Int)
  | none, _ => .ok none
  | some e, ρ => (evE e ρ).bind partO
/-- a comprehension's test -/
def evC : Option Ex → Env → Rs Bool
  | none, _ => .ok true
  | some e, ρ => (evE e ρ).bind boolOf
/-- what is walked -/
def evIt : It → Env → Rs (List PV)
  | .seq e, ρ => (evE e ρ).bind (walkO ρ)
  | .rng e, ρ => (evE e ρ).bind rngO
  | .rng2 a b, ρ => (evE a ρ).bind fun x => (evE b ρ).bind fun y => rng2O x y
  | .rlen e, ρ => (evE e ρ).bind fun x => (seqOf ρ x).bind fun xs => .ok (rngL 0 xs.length)
  | .rng3 _ _ _, _ => .bad
  | .enum e, ρ => (evE e ρ).bind fun x => (seqOf ρ x).bind fun xs => .ok (enumL 0 xs)
  | .zip a b, ρ => (evE a ρ).bind fun x => (evE b ρ).bind fun y => zipO ρ x y
  | .rev e, ρ => (evE e ρ).bind fun x => (seqOf ρ x).bind fun xs => .ok xs.reverse
end
end
end PF

set_option Elab.async false
set_option linter.all false
set_option maxRecDepth 100000
/-! PFb: how the trees lie in the heap. -/
namespace PF
open PySem L2

mutual
def Rep (K : PySem.W.Frag) (M : Hp) (cs : List Addr) : PV → V → Prop
  | .non, w => w = .non
  | .bl b, w => w = .bl b
  | .int i, w => w = .int i
  | .str s, w => w = .str s
  | .tup xs, w => ∃ a vs, w = .ref a ∧ M a = some (.tup vs) ∧ Reps K M cs xs vs
  | .lst xs, w => ∃ a vs, w = .ref a ∧ M a = some (.lst vs) ∧ Reps K M cs xs vs
  | .dic _ _, _ => False
  | .ins _ _, _ => False
  | .cell n, w => ∃ a, w = .ref a ∧ cs[n]? = some a
  | .scr ns, w => ∃ a, w = .ref a ∧ SqL K M a (ns.map V.int) ∧ ns.length ≤ sizeLine
def Reps (K : PySem.W.Frag) (M : Hp) (cs : List Addr) : List PV → List V → Prop
  | [], ws => ws = []
  | x :: xs, ws => ∃ w r, ws = w :: r ∧ Rep K M cs x w ∧ Reps K M cs xs r
end

def Le (M M' : Hp) : Prop := ∀ a o, M a = some o → M' a = some o
theorem Le.refl (M : Hp) : Le M M := fun _ _ h => h
theorem Le.trans {A B C : Hp} (a : Le A B) (b : Le B C) : Le A C := fun x o h => b x o (a x o h)
theorem Le.rd {M M' : Hp} (l : Le M M') {a : Addr} {u : HO} (h : Rd M a u) : Rd M' a u := by
  rcases h with h | ⟨o, h⟩
  · exact .inl (l _ _ h)
  · exact .inr ⟨o, l _ _ h⟩
theorem Le.sqL {K : PySem.W.Frag} {M M' : Hp} (l : Le M M') {a : Addr} {xs : List V} (h : SqL K M a xs) : SqL K M' a xs := h.imp l.rd id
theorem Le.sqT {K : PySem.W.Frag} {M M' : Hp} (l : Le M M') {a : Addr} {xs : List V} (h : SqT K M a xs) : SqT K M' a xs := h.imp l.rd id

section
variable {K : PySem.W.Frag} {M M' : Hp} {cs : List Addr}
mutual
theorem Rep.mono (l : Le M M') : ∀ {x : PV} {w : V}, Rep K M cs x w → Rep K M' cs x w
  | .non, _, h => h
  | .bl _, _, h => h
  | .int _, _, h => h
  | .str _, _, h => h
  | .tup _, _, ⟨a, vs, e, s, r⟩ => ⟨a, vs, e, l _ _ s, Reps.mono l r⟩
  | .lst _, _, ⟨a, vs, e, s, r⟩ => ⟨a, vs, e, l _ _ s, Reps.mono l r⟩
  | .dic _ _, _, h => h
  | .ins _ _, _, h => h
  | .cell _, _, h => h
  | .scr _, _, ⟨a, e, s, z⟩ => ⟨a, e, l.sqL s, z⟩
theorem Reps.mono (l : Le M M') : ∀ {xs : List PV} {ws : List V}, Reps K M cs xs ws → Reps K M' cs xs ws
  | [], _, h => h
  | _ :: _, _, ⟨w, r, e, h1, h2⟩ => ⟨w, r, e, Rep.mono l h1, Reps.mono l h2⟩
end
mutual
theorem Rep.more {es : List Addr} : ∀ {x : PV} {w : V}, Rep K M cs x w → Rep K M (cs ++ es) x w
  | .non, _, h => h
  | .bl _, _, h => h
  | .int _, _, h => h
  | .str _, _, h => h
  | .tup _, _, ⟨a, vs, e, s, r⟩ => ⟨a, vs, e, s, Reps.more r⟩
  | .lst _, _, ⟨a, vs, e, s, r⟩ => ⟨a, vs, e, s, Reps.more r⟩
  | .dic _ _, _, h => h
  | .ins _ _, _, h => h
  | .cell n, _, ⟨a, e, h⟩ => ⟨a, e, by
      have hn := (List.getElem?_eq_some_iff.mp h).1
      rw [List.getElem?_append_left hn]; exact h⟩
  | .scr _, _, h => h
theorem Reps.more {es : List Addr} : ∀ {xs : List PV} {ws : List V}, Reps K M cs xs ws → Reps K M (cs ++ es) xs ws
  | [], _, h => h
  | _ :: _, _, ⟨w, r, e, h1, h2⟩ => ⟨w, r, e, Rep.more h1, Reps.more h2⟩
end
mutual
theorem Rep.pure {ds : List Addr} : ∀ {x : PV} {w : V}, pure? x = true → Rep K M cs x w → Rep K M ds x w
  | .non, _, _, h => h
  | .bl _, _, _, h => h
  | .int _, _, _, h => h
  | .str _, _, _, h => h
  | .tup _, _, p, ⟨a, vs, e, s, r⟩ => ⟨a, vs, e, s, Reps.pure (by simpa [pure?] using p) r⟩
  | .lst _, _, p, ⟨a, vs, e, s, r⟩ => ⟨a, vs, e, s, Reps.pure (by simpa [pure?] using p) r⟩
  | .dic _ _, _, _, h => h
  | .ins _ _, _, _, h => h
  | .cell _, _, p, _ => by simp [pure?] at p
  | .scr _, _, _, h => h
theorem Reps.pure {ds : List Addr} : ∀ {xs : List PV} {ws : List V}, pures? xs = true → Reps K M cs xs ws → Reps K M ds xs ws
  | [], _, _, h => h
  | _ :: _, _, p, ⟨w, r, e, h1, h2⟩ => by
    simp only [pures?, Bool.and_eq_true] at p
    exact ⟨w, r, e, Rep.pure p.1 h1, Reps.pure p.2 h2⟩
end
theorem Rep.nil {x : PV} {w : V} (h : Rep K M [] x w) : Rep K M cs x w := by simpa using h.more (es := cs)
theorem Reps.nil {x : List PV} {w : List V} (h : Reps K M [] x w) : Reps K M cs x w := by simpa using h.more (es := cs)
mutual
theorem Rep.flat {M2 : Hp} {ds : List Addr} (ht : ∀ a vs, M a = some (.tup vs) → M2 a = some (.tup vs)) : ∀ {x : PV} {w : V}, flat? x = true → Rep K M cs x w → Rep K M2 ds x w
  | .non, _, _, h => h
  | .bl _, _, _, h => h
  | .int _, _, _, h => h
  | .str _, _, _, h => h
  | .tup _, _, p, ⟨a, vs, e, s, r⟩ => ⟨a, vs, e, ht _ _ s, Reps.flat ht (by simpa [flat?] using p) r⟩
  | .lst _, _, p, _ => by simp [flat?] at p
  | .dic _ _, _, _, h => h
  | .ins _ _, _, _, h => h
  | .cell _, _, p, _ => by simp [flat?] at p
  | .scr _, _, p, _ => by simp [flat?] at p
theorem Reps.flat {M2 : Hp} {ds : List Addr} (ht : ∀ a vs, M a = some (.tup vs) → M2 a = some (.tup vs)) : ∀ {xs : List PV} {ws : List V}, flats? xs = true → Reps K M cs xs ws → Reps K M2 ds xs ws
  | [], _, _, h => h
  | _ :: _, _, p, ⟨w, r, e, h1, h2⟩ => by
    simp only [flats?, Bool.and_eq_true] at p
    exact ⟨w, r, e, Rep.flat ht p.1 h1, Reps.flat ht p.2 h2⟩
end
theorem Reps.length : ∀ {xs : List PV} {ws : List V}, Reps K M cs xs ws → ws.length = xs.length
  | [], _, h => by cases h; rfl
  | _ :: _, _, ⟨w, r, e, _, h2⟩ => by subst e; simp [Reps.length h2]
theorem Reps.get : ∀ {xs : List PV} {ws : List V} {i : Nat} {x : PV}, Reps K M cs xs ws → xs[i]? = some x → ∃ w, ws[i]? = some w ∧ Rep K M cs x w
  | [], _, _, _, _, e => by simp at e
  | _ :: _, _, 0, _, ⟨w, r, e, h1, _⟩, q => by simp at q; subst q e; exact ⟨w, rfl, h1⟩
  | _ :: _, _, i + 1, _, ⟨w, r, e, _, h2⟩, q => by
    subst e
    obtain ⟨w', a, b⟩ := Reps.get (i := i) h2 (by simpa using q)
    exact ⟨w', by simpa using a, b⟩
theorem Reps.append : ∀ {xs ys : List PV} {ws zs : List V}, Reps K M cs xs ws → Reps K M cs ys zs → Reps K M cs (xs ++ ys) (ws ++ zs)
  | [], _, _, _, h, q => by cases h; exact q
  | _ :: _, _, _, _, ⟨w, r, e, h1, h2⟩, q => by subst e; exact ⟨w, r ++ _, rfl, h1, Reps.append h2 q⟩
theorem Reps.one {x : PV} {w : V} (h : Rep K M cs x w) : Reps K M cs [x] [w] := ⟨w, [], rfl, h, rfl⟩
theorem Reps.take : ∀ {xs : List PV} {ws : List V} (n : Nat), Reps K M cs xs ws → Reps K M cs (xs.take n) (ws.take n)
  | _, _, 0, _ => by simp [Reps]
  | [], _, _ + 1, h => by cases h; simp [Reps]
  | _ :: _, _, n + 1, ⟨w, r, e, h1, h2⟩ => by subst e; exact ⟨w, r.take n, rfl, h1, Reps.take n h2⟩
theorem Reps.drop : ∀ {xs : List PV} {ws : List V} (n : Nat), Reps K M cs xs ws → Reps K M cs (xs.drop n) (ws.drop n)
  | _, _, 0, h => by simpa using h
  | [], _, _ + 1, h => by cases h; simp [Reps]
  | _ :: _, _, n + 1, ⟨w, r, e, h1, h2⟩ => by subst e; simpa using Reps.drop n h2
theorem Reps.reverse : ∀ {xs : List PV} {ws : List V}, Reps K M cs xs ws → Reps K M cs xs.reverse ws.reverse
  | [], _, h => by cases h; simp [Reps]
  | _ :: _, _, ⟨w, r, e, h1, h2⟩ => by subst e; simp only [List.reverse_cons]; exact Reps.append (Reps.reverse h2) (Reps.one h1)
theorem Reps.set : ∀ {xs : List PV} {ws : List V} (i : Nat) {x : PV} {w : V}, Reps K M cs xs ws → Rep K M cs x w → Reps K M cs (xs.set i x) (ws.set i w)
  | [], _, _, _, _, h, _ => by cases h; simp [Reps]
  | _ :: _, _, 0, _, _, ⟨w, r, e, _, h2⟩, q => by subst e; exact ⟨_, r, rfl, q, h2⟩
  | _ :: _, _, i + 1, _, _, ⟨w, r, e, h1, h2⟩, q => by subst e; exact ⟨w, r.set i _, rfl, h1, Reps.set i h2 q⟩
theorem Reps.eraseIdx : ∀ {xs : List PV} {ws : List V} (i : Nat), Reps K M cs xs ws → Reps K M cs (xs.eraseIdx i) (ws.eraseIdx i)
  | [], _, _, h => by cases h; simp [Reps]
  | _ :: _, _, 0, ⟨w, r, e, _, h2⟩ => by subst e; simpa using h2
  | _ :: _, _, i + 1, ⟨w, r, e, h1, h2⟩ => by subst e; exact ⟨w, r.eraseIdx i, rfl, h1, Reps.eraseIdx i h2⟩
theorem Reps.replicate {xs : List PV} {ws : List V} (h : Reps K M cs xs ws) : ∀ n : Nat, Reps K M cs (List.replicate n xs).flatten (List.replicate n ws).flatten
  | 0 => by simp [Reps]
  | n + 1 => by simp only [List.replicate_succ, List.flatten_cons]; exact Reps.append h (Reps.replicate h n)
theorem Reps.ints : ∀ {xs : List PV} {ws : List V} {ns : List Int}, intsOf xs = some ns → Reps K M cs xs ws → ws = ns.map V.int
  | [], _, _, e, h => by cases h; simp [intsOf] at e; subst e; rfl
  | .int i :: xs, _, _, e, ⟨w, r, q, h1, h2⟩ => by
    simp only [intsOf, Option.map_eq_some_iff] at e
    obtain ⟨ms, e1, rfl⟩ := e
    subst q
    have h1' : w = V.int i := h1
    rw [h1', Reps.ints e1 h2]; rfl
  | .non :: _, _, _, e, _ => by simp [intsOf] at e
  | .bl _ :: _, _, _, e, _ => by simp [intsOf] at e
  | .str _ :: _, _, _, e, _ => by simp [intsOf] at e
  | .tup _ :: _, _, _, e, _ => by simp [intsOf] at e
  | .lst _ :: _, _, _, e, _ => by simp [intsOf] at e
  | .dic _ _ :: _, _, _, e, _ => by simp [intsOf] at e
  | .ins _ _ :: _, _, _, e, _ => by simp [intsOf] at e
  | .cell _ :: _, _, _, e, _ => by simp [intsOf] at e
  | .scr _ :: _, _, _, e, _ => by simp [intsOf] at e
theorem Reps.of_ints : ∀ (ns : List Int), Reps K M cs (ns.map PV.int) (ns.map V.int)
  | [] => rfl
  | n :: ns => ⟨.int n, _, rfl, rfl, Reps.of_ints ns⟩
theorem Reps.bls : ∀ {xs : List PV} {ws : List V} {ns : List Bool}, blsOf xs = some ns → Reps K M cs xs ws → ws = ns.map V.bl
  | [], _, _, e, h => by cases h; simp [blsOf] at e; subst e; rfl
  | .bl i :: xs, _, _, e, ⟨w, r, q, h1, h2⟩ => by
    simp only [blsOf, Option.map_eq_some_iff] at e
    obtain ⟨ms, e1, rfl⟩ := e
    subst q
    have h1' : w = V.bl i := h1
    rw [h1', Reps.bls e1 h2]; rfl
  | .non :: _, _, _, e, _ => by simp [blsOf] at e
  | .int _ :: _, _, _, e, _ => by simp [blsOf] at e
  | .str _ :: _, _, _, e, _ => by simp [blsOf] at e
  | .tup _ :: _, _, _, e, _ => by simp [blsOf] at e
  | .lst _ :: _, _, _, e, _ => by simp [blsOf] at e
  | .dic _ _ :: _, _, _, e, _ => by simp [blsOf] at e
  | .ins _ _ :: _, _, _, e, _ => by simp [blsOf] at e
  | .cell _ :: _, _, _, e, _ => by simp [blsOf] at e
  | .scr _ :: _, _, _, e, _ => by simp [blsOf] at e
end

/-- lists and tuples are no longer than the machine lets them be -/
def HOsz : HO → Prop
  | .lst vs => vs.length ≤ sizeLine
  | .tup vs => vs.length ≤ sizeLine
  | _ => True
def SzOk (H : Hp) : Prop := ∀ a o, H a = some o → HOsz o
theorem SzOk.upd {H : Hp} {p : Addr} {o : HO} (h : SzOk H) (ho : HOsz o) : SzOk (L2.upd H p o) := fun a u e => by
  by_cases q : a = p
  · subst q
    rw [upd_same] at e
    cases e; exact ho
  · rw [upd_ne q] at e; exact h a u e
/-- the heap has grown -/
structure Ext (H M H' M' : Hp) : Prop where
  h : Le H H'
  m : Le M M'
  le : Le M' H'
  ol : ∀ a o, H a = some o → M' a = M a
  tu : ∀ a xs, H' a = some (.tup xs) → H a = none → M' a = some (.tup xs)
  sz : SzOk H → SzOk H'
theorem Ext.refl {H M : Hp} (l : Le M H) : Ext H M H M := ⟨.refl _, .refl _, l, fun _ _ _ => rfl, fun a xs e n => (by rw [n] at e; cases e), id⟩
theorem Ext.trans {A M B N C P : Hp} (a : Ext A M B N) (b : Ext B N C P) : Ext A M C P :=
  ⟨a.h.trans b.h, a.m.trans b.m, b.le, fun x o e => (b.ol x o (a.h x o e)).trans (a.ol x o e), fun x xs e n => by
    cases q : B x with
    | none => exact b.tu x xs e q
    | some o =>
      have e2 := b.h x o q
      rw [e] at e2; cases e2
      exact b.m _ _ (a.tu x xs q n), fun z => b.sz (a.sz z)⟩
theorem Le.updN {M H : Hp} {p : Addr} {o : HO} (h : M p = none) : Le M (upd M p o) := fun a u e => by
  rw [upd_ne (ne_of_none e h)]; exact e
theorem Le.none {M H : Hp} {p : Addr} (l : Le M H) (h : H p = Option.none) : M p = Option.none := by
  cases e : M p with
  | none => rfl
  | some o => rw [l p o e] at h; cases h
theorem Le.updB {M H : Hp} {p : Addr} {o : HO} (l : Le M H) : Le (upd M p o) (upd H p o) := fun a u e => by
  by_cases q : a = p
  · subst q; rw [upd_same] at e ⊢; exact e
  · rw [upd_ne q] at e ⊢; exact l a u e
theorem Ext.laid {H M : Hp} {p : Addr} {o : HO} (l : Le M H) (hp : H p = none) (hz : HOsz o) : Ext H M (upd H p o) (upd M p o) :=
  ⟨.updN (H := H) hp, .updN (H := H) (l.none hp), l.updB, fun a u e => upd_ne (ne_of_none e hp), fun a xs e n => (by
    by_cases q : a = p
    · subst q; rw [upd_same] at e ⊢; exact e
    · rw [upd_ne q, n] at e; cases e), fun z => SzOk.upd z hz⟩

/-- a cell's object -/
def CRep (K : PySem.W.Frag) (M : Hp) (cs : List Addr) (H : Hp) (a : Addr) : PV → Prop
  | .lst xs => ∃ vs, H a = some (.lst vs) ∧ Reps K M cs xs vs
  | _ => False

/-- the frame's state: σ, H the machine's; ρ ours; M the part of H that stays; cs where the cells stand. H0, M0: at the entry -/
structure R (K : PySem.W.Frag) (H0 M0 : Hp) (σ : St) (H : Hp) (ρ : Env) (M : Hp) (cs : List Addr) : Prop where
  le : Le M H
  out : Le H0 H
  old : ∀ a o, H0 a = some o → M a = M0 a
  tu : ∀ a xs, H a = some (.tup xs) → M a = some (.tup xs)
  sz : SzOk H
  len : σ.length = ρ.sl.length
  sl : ∀ (i : Nat) v, ρ.sl[i]? = some (some v) → ∃ w, σ[i]? = some (some w) ∧ Rep K M cs v w
  ce : ∀ (n : Nat) c, ρ.ce[n]? = some (some c) → ∃ a, cs[n]? = some a ∧ M a = none ∧ H0 a = none ∧ CRep K M cs H a c
  nd : ∀ (n m : Nat) a c c', cs[n]? = some a → cs[m]? = some a → ρ.ce[n]? = some (some c) → ρ.ce[m]? = some (some c') → n = m
  ln : cs.length = ρ.ce.length

section
variable {K : PySem.W.Frag} {H0 M0 : Hp} {σ : St} {H H' : Hp} {ρ : Env} {M M' : Hp} {cs : List Addr}
theorem CRep.mono {a : Addr} {c : PV} (lm : Le M M') (lh : Le H H') (h : CRep K M cs H a c) : CRep K M' cs H' a c := by
  cases c <;> try exact h
  obtain ⟨vs, e, r⟩ := h
  exact ⟨vs, lh _ _ e, r.mono lm⟩
theorem R.ext (r : R K H0 M0 σ H ρ M cs) (e : Ext H M H' M') : R K H0 M0 σ H' ρ M' cs where
  le := e.le
  out := r.out.trans e.h
  old := fun a o q => (e.ol a o (r.out a o q)).trans (r.old a o q)
  tu := fun a xs q => by
    cases z : H a with
    | none => exact e.tu a xs q z
    | some o =>
      have e2 := e.h a o z
      rw [q] at e2; cases e2
      exact e.m _ _ (r.tu a xs z)
  sz := e.sz r.sz
  len := r.len
  sl := fun i v q => let ⟨w, a, b⟩ := r.sl i v q; ⟨w, a, b.mono e.m⟩
  ce := fun n c q => by
    obtain ⟨a, h1, h2, h3, h4⟩ := r.ce n c q
    refine ⟨a, h1, ?_, h3, h4.mono e.m e.h⟩
    cases c <;> try exact h4.elim
    obtain ⟨vs, e1, _⟩ := h4
    rw [e.ol a _ e1]; exact h2
  nd := r.nd
  ln := r.ln

/-- what is wanted of a value -/
def Wnt (K : PySem.W.Frag) (M : Hp) (cs : List Addr) (H : Hp) (v : PV) (Q : VK) : Prop := ∀ w H' M', Ext H M H' M' → Rep K M' cs v w → Q w H'
theorem Wnt.now {v : PV} {Q : VK} {w : V} (h : Wnt K M cs H v Q) (l : Le M H) (r : Rep K M cs v w) : Q w H := h w H M (.refl l) r
theorem Wnt.on {v : PV} {Q : VK} (h : Wnt K M cs H v Q) (e : Ext H M H' M') : Wnt K M' cs H' v Q := fun w H2 M2 e2 r => h w H2 M2 (e.trans e2) r
theorem Wnt.tup {xs : List PV} {vs : List V} {Q : VK} (h : Wnt K M cs H (.tup xs) Q) (l : Le M H) (r : Reps K M cs xs vs) (hz : vs.length ≤ sizeLine) {p : Addr} (hp : H p = none) : Q (.ref p) (upd H p (.tup vs)) :=
  h _ _ _ (Ext.laid l hp hz) ⟨p, vs, rfl, upd_same, r.mono (.updN (H := H) (l.none hp))⟩
theorem Wnt.lst {xs : List PV} {vs : List V} {Q : VK} (h : Wnt K M cs H (.lst xs) Q) (l : Le M H) (r : Reps K M cs xs vs) (hz : vs.length ≤ sizeLine) {p : Addr} (hp : H p = none) : Q (.ref p) (upd H p (.lst vs)) :=
  h _ _ _ (Ext.laid l hp hz) ⟨p, vs, rfl, upd_same, r.mono (.updN (H := H) (l.none hp))⟩

/-- an expression's reading: f is what it computes -/
def tE (K : PySem.W.Frag) (H0 M0 : Hp) (f : Env → Rs PV) : TE := fun σ H Q => ∃ ρ M cs, R K H0 M0 σ H ρ M cs ∧ ∃ v, f ρ = .ok v ∧ Wnt K M cs H v Q
def tEs (K : PySem.W.Frag) (H0 M0 : Hp) (f : Env → Rs (List PV)) : TA := fun σ H Q => ∃ ρ M cs, R K H0 M0 σ H ρ M cs ∧ ∃ vs, f ρ = .ok vs ∧ ∀ ws H' M', Ext H M H' M' → Reps K M' cs vs ws → Q ws H'
def tT (K : PySem.W.Frag) (H0 M0 : Hp) (f : Env → Rs Bool) : TT := fun σ H Q => ∃ ρ M cs, R K H0 M0 σ H ρ M cs ∧ ∃ b, f ρ = .ok b ∧ ∀ H' M', Ext H M H' M' → Q b H'
end
theorem PE.mono {X : Cx} {e : Expr} {t t' : TE} (h : PE X e t) (m : ∀ σ H Q, t' σ H Q → t σ H Q) : PE X e t' := ⟨fun pins s σ H Q I q => h.run pins s σ H Q I (m σ H Q q)⟩
theorem PT.mono {X : Cx} {e : Expr} {t t' : TT} (h : PT X e t) (m : ∀ σ H Q, t' σ H Q → t σ H Q) : PT X e t' := ⟨fun pins s σ H Q I q => h.run pins s σ H Q I (m σ H Q q)⟩
theorem PA.mono {X : Cx} {es : List Expr} {t t' : TA} (h : PA X es t) (m : ∀ σ H Q, t' σ H Q → t σ H Q) : PA X es t' := ⟨fun pos pins s σ H Q I q => h.run pos pins s σ H Q I (m σ H Q q)⟩
theorem PS.mono {X : Cx} {e : Stmt} {t t' : TS} (h : PS X e t) (m : ∀ D σ H, t' D σ H → t D σ H) : PS X e t' := ⟨fun pins s σ H D I q => h.run pins s σ H D I (m D σ H q)⟩
theorem PSs.mono {X : Cx} {e : List Stmt} {t t' : TS} (h : PSs X e t) (m : ∀ D σ H, t' D σ H → t D σ H) : PSs X e t' := ⟨fun pins s σ H D I q => h.run pins s σ H D I (m D σ H q)⟩
theorem PI.mono {X : Cx} {tg it : Expr} {t t' : TI} (h : PI X tg it t) (m : ∀ σ H Q, t' σ H Q → t σ H Q) : PI X tg it t' := ⟨fun pins s σ H Q I q => h.run pins s σ H Q I (m σ H Q q)⟩
theorem PI.or {X : Cx} {tg it : Expr} {t t' : TI} (h : PI X tg it t) (h' : PI X tg it t') : PI X tg it (fun σ H Q => t σ H Q ∨ t' σ H Q) := ⟨fun pins s σ H Q I q => q.elim (h.run pins s σ H Q I) (h'.run pins s σ H Q I)⟩
theorem PE.or {X : Cx} {e : Expr} {t t' : TE} (h : PE X e t) (h' : PE X e t') : PE X e (fun σ H Q => t σ H Q ∨ t' σ H Q) := ⟨fun pins s σ H Q I q => q.elim (h.run pins s σ H Q I) (h'.run pins s σ H Q I)⟩
end PF

set_option Elab.async false
set_option linter.all false
set_option maxRecDepth 100000
/-! PFc: the rules of expressions. -/
namespace PF
open PySem L2

section
variable {X : Cx} {H0 M0 : Hp} {fa fb fc : Env → Rs PV} {a b c : Expr} {pos : Pos}
abbrev E? (X : Cx) (H0 M0 : Hp) (x : Expr) (f : Env → Rs PV) : Prop := PE X x (tE X.K H0 M0 f)
abbrev T? (X : Cx) (H0 M0 : Hp) (x : Expr) (f : Env → Rs Bool) : Prop := PT X x (tT X.K H0 M0 f)
abbrev Es? (X : Cx) (H0 M0 : Hp) (x : List Expr) (f : Env → Rs (List PV)) : Prop := PA X x (tEs X.K H0 M0 f)

theorem f_var {i : Nat} {x : Str} (hN : X.N[i]? = some x) (hv : Vis X.env.scope x) (hd : (x == ("__debug__" : Str)) = false) (hcd : (x == ("__classdict__" : Str)) = false) :
    E? X H0 M0 (.Name x pos) (fun ρ => Rs.of (ρ.sl[i]?).join) := by
  refine PE.mono (pe_var hN hv hd hcd) fun σ H Q ⟨ρ, M, cs, r, v, e, w⟩ => ?_
  cases q : ρ.sl[i]? with
  | none => simp [q] at e
  | some o =>
    cases o with
    | none => simp [q] at e
    | some u =>
      simp [q] at e
      subst e
      obtain ⟨z, h1, h2⟩ := r.sl i _ q
      exact ⟨z, h1, w.now r.le h2⟩

theorem f_int {i : Int} {j} : E? X H0 M0 (.Constant (.int i) j pos) (fun _ => .ok (.int i)) :=
  PE.mono pe_int fun σ H Q ⟨ρ, M, cs, r, v, e, w⟩ => by cases e; exact w.now r.le rfl
theorem f_bl {i : Bool} {j} : E? X H0 M0 (.Constant (.bool i) j pos) (fun _ => .ok (.bl i)) :=
  PE.mono pe_bl fun σ H Q ⟨ρ, M, cs, r, v, e, w⟩ => by cases e; exact w.now r.le rfl
theorem f_non {j} : E? X H0 M0 (.Constant .none j pos) (fun _ => .ok .non) :=
  PE.mono pe_non fun σ H Q ⟨ρ, M, cs, r, v, e, w⟩ => by cases e; exact w.now r.le rfl
theorem f_str {i : Str} {j} : E? X H0 M0 (.Constant (.str i) j pos) (fun _ => .ok (.str i)) :=
  PE.mono pe_str fun σ H Q ⟨ρ, M, cs, r, v, e, w⟩ => by cases e; exact w.now r.le rfl

/-- two operands: their readings one behind the other -/
theorem two {f : Env → Rs PV} {g : Env → PV → PV → Rs PV} {σ : L2.St} {H : Hp} {Q : VK} {r : R2} (hf : ∀ ρ, f ρ = (fa ρ).bind fun x => (fb ρ).bind fun y => g ρ x y)
    (hr : ∀ ρ M cs H x y v w1 w2 Q, R X.K H0 M0 σ H ρ M cs → g ρ x y = .ok v → Rep X.K M cs x w1 → Rep X.K M cs y w2 → Wnt X.K M cs H v Q → r w1 w2 H Q)
    (h : tE X.K H0 M0 f σ H Q) : tOp r (tE X.K H0 M0 fa) (tE X.K H0 M0 fb) σ H Q := by
  obtain ⟨ρ, M, cs, R1, v, e, w⟩ := h
  rw [hf] at e
  obtain ⟨x, e1, e⟩ := Rs.bind_eq_ok.mp e
  obtain ⟨y, e2, e⟩ := Rs.bind_eq_ok.mp e
  refine ⟨ρ, M, cs, R1, x, e1, fun w1 H1 M1 x1 r1 => ?_⟩
  refine ⟨ρ, M1, cs, R1.ext x1, y, e2, fun w2 H2 M2 x2 r2 => ?_⟩
  exact hr ρ M2 cs H2 x y v w1 w2 Q ((R1.ext x1).ext x2) e (r1.mono x2.m) r2 (w.on (x1.trans x2))

theorem cell_rep {σ : L2.St} {H : Hp} {ρ : Env} {M : Hp} {cs : List Addr} {n : Nat} {a : Addr} {c : PV} (r : R X.K H0 M0 σ H ρ M cs) (e : content ρ.ce n = some c) (hn : cs[n]? = some a) :
    M a = none ∧ H0 a = none ∧ CRep X.K M cs H a c := by
  unfold content at e
  cases q : ρ.ce[n]? with
  | none => (rw [q] at e; cases e)
  | some o =>
    rw [q] at e
    have e' : o = some c := e
    subst e'
    obtain ⟨a', h1, h2, h3, h4⟩ := r.ce n _ q
    rw [hn] at h1; cases h1
    exact ⟨h2, h3, h4⟩
theorem trkOf_rep {σ : L2.St} {H : Hp} {ρ : Env} {M : Hp} {cs : List Addr} {x : PV} {w : V} {xs : List PV} (r : R X.K H0 M0 σ H ρ M cs) (e : trkOf ρ x = .ok xs) (h : Rep X.K M cs x w) :
    ∃ a vs, w = .ref a ∧ H a = some (.lst vs) ∧ Reps X.K M cs xs vs := by
  cases x with
  | lst ys => cases e; obtain ⟨a, vs, e, s, q⟩ := h; exact ⟨a, vs, e, r.le _ _ s, q⟩
  | cell n =>
    obtain ⟨a, ea, hn⟩ := h
    simp only [trkOf] at e
    split at e
    · rename_i zs hz
      cases e
      obtain ⟨_, _, vs, h4, h5⟩ := cell_rep r hz hn
      exact ⟨a, vs, ea, h4, h5⟩
    · cases e
  | _ => cases e
theorem lstOf_rep {σ : L2.St} {H : Hp} {ρ : Env} {M : Hp} {cs : List Addr} {x : PV} {w : V} {xs : List PV} (r : R X.K H0 M0 σ H ρ M cs) (e : lstOf ρ x = .ok xs) (h : Rep X.K M cs x w) :
    ∃ a vs, w = .ref a ∧ SqL X.K H a vs ∧ Reps X.K M cs xs vs := by
  cases x with
  | scr ns => cases e; obtain ⟨a, e, s, _⟩ := h; exact ⟨a, _, e, r.le.sqL s, Reps.of_ints ns⟩
  | lst ys => obtain ⟨a, vs, h1, h2, h3⟩ := trkOf_rep r (x := .lst ys) e h; exact ⟨a, vs, h1, .of h2, h3⟩
  | cell n => obtain ⟨a, vs, h1, h2, h3⟩ := trkOf_rep r (x := .cell n) e h; exact ⟨a, vs, h1, .of h2, h3⟩
  | _ => cases e
theorem seqOf_rep {σ : L2.St} {H : Hp} {ρ : Env} {M : Hp} {cs : List Addr} {x : PV} {w : V} {xs : List PV} (r : R X.K H0 M0 σ H ρ M cs) (e : seqOf ρ x = .ok xs) (h : Rep X.K M cs x w) :
    ∃ a vs, w = .ref a ∧ (SqL X.K H a vs ∨ SqT X.K H a vs) ∧ Reps X.K M cs xs vs := by
  cases x with
  | tup ys => cases e; obtain ⟨a, vs, e, s, q⟩ := h; exact ⟨a, vs, e, .inr (.of (r.le _ _ s)), q⟩
  | lst ys => obtain ⟨a, vs, h1, h2, h3⟩ := lstOf_rep r (x := .lst ys) e h; exact ⟨a, vs, h1, .inl h2, h3⟩
  | scr ys => obtain ⟨a, vs, h1, h2, h3⟩ := lstOf_rep r (x := .scr ys) e h; exact ⟨a, vs, h1, .inl h2, h3⟩
  | cell n => obtain ⟨a, vs, h1, h2, h3⟩ := lstOf_rep r (x := .cell n) e h; exact ⟨a, vs, h1, .inl h2, h3⟩
  | _ => cases e

theorem sqL_sz {σ : L2.St} {H : Hp} {ρ : Env} {M : Hp} {cs : List Addr} {x : PV} {w : V} {xs : List PV} (r : R X.K H0 M0 σ H ρ M cs) (e : trkOf ρ x = .ok xs) (h : Rep X.K M cs x w) : xs.length ≤ sizeLine := by
  obtain ⟨a, vs, _, h2, h3⟩ := trkOf_rep r e h
  rw [← h3.length]
  exact r.sz a _ h2
theorem tup_sz {σ : L2.St} {H : Hp} {ρ : Env} {M : Hp} {cs : List Addr} {w : V} {xs : List PV} (r : R X.K H0 M0 σ H ρ M cs) (h : Rep X.K M cs (.tup xs) w) : xs.length ≤ sizeLine := by
  obtain ⟨a, vs, _, h2, h3⟩ := h
  rw [← h3.length]
  exact r.sz a _ (r.le _ _ h2)

/-! ### operators -/
theorem f_op {op : Operator} {bop : BOp} {r : R2} (ho : OpR X (binaryOp op) r)
    (hr : ∀ σ ρ M cs H x y v w1 w2 Q, R X.K H0 M0 σ H ρ M cs → binO ρ bop x y = .ok v → Rep X.K M cs x w1 → Rep X.K M cs y w2 → Wnt X.K M cs H v Q → r w1 w2 H Q)
    (ha : E? X H0 M0 a fa) (hb : E? X H0 M0 b fb) : E? X H0 M0 (.BinOp a op b pos) (fun ρ => (fa ρ).bind fun x => (fb ρ).bind fun y => binO ρ bop x y) :=
  PE.mono (pe_op ho ha hb) fun σ H Q h => two (g := fun ρ x y => binO ρ bop x y) (fun _ => rfl) (hr σ) h

theorem f_add (ha : E? X H0 M0 a fa) (hb : E? X H0 M0 b fb) : E? X H0 M0 (.BinOp a .Add b pos) (fun ρ => (fa ρ).bind fun x => (fb ρ).bind fun y => binO ρ .add x y) := by
  refine f_op (OpR.or op_add (OpR.or op_add_str (OpR.or op_catA op_cat))) (fun σ ρ M cs H x y v w1 w2 Q r e r1 r2 w => ?_) ha hb
  have lists : ∀ (_ : binO ρ .add x y = (trkOf ρ x).bind fun xs => (trkOf ρ y).bind fun ys => if xs.length + ys.length ≤ sizeMax then .ok (.lst (xs ++ ys)) else .bad), rCat w1 w2 H Q := fun q => by
    rw [q] at e
    obtain ⟨xs, e1, e⟩ := Rs.bind_eq_ok.mp e
    obtain ⟨ys, e2, e⟩ := Rs.bind_eq_ok.mp e
    split at e
    · rename_i hz
      cases e
      obtain ⟨p, vs, rfl, h1, q1⟩ := trkOf_rep r e1 r1
      obtain ⟨p2, vs2, rfl, h2, q2⟩ := trkOf_rep r e2 r2
      exact ⟨p, p2, vs, vs2, rfl, rfl, h1, h2, by rw [q1.length, q2.length]; exact hz, fun t ht => w.lst r.le (q1.append q2) (by rw [(q1.append q2).length, List.length_append]; exact hz) ht⟩
    · cases e
  cases x with
  | int i =>
    cases y with
    | int j =>
      cases e
      exact .inl ⟨i, j, r1, r2, w.now r.le rfl⟩
    | _ => exact .inr (.inr (.inr (lists rfl)))
  | str i =>
    cases y with
    | str j =>
      simp only [binO] at e
      split at e
      · rename_i hz
        cases e
        exact .inr (.inl ⟨i, j, r1, r2, hz, w.now r.le rfl⟩)
      · cases e
    | _ => exact .inr (.inr (.inr (lists rfl)))
  | tup xs =>
    cases y with
    | tup ys =>
      simp only [binO] at e
      split at e
      · rename_i hz
        cases e
        obtain ⟨p, vs, rfl, h1, q1⟩ := r1
        obtain ⟨p2, vs2, rfl, h2, q2⟩ := r2
        refine .inr (.inr (.inl ⟨p, p2, vs, vs2, rfl, rfl, .of (r.le _ _ h1), .of (r.le _ _ h2), by rw [q1.length, q2.length]; exact hz, fun z => ?_, fun _ z => ?_, fun _ _ t ht => w.tup r.le (q1.append q2) (by rw [(q1.append q2).length, List.length_append]; exact hz) ht⟩))
        · subst z
          refine w.now r.le ⟨p2, vs2, rfl, h2, ?_⟩
          simpa using q1.append q2
        · subst z
          refine w.now r.le ⟨p, vs, rfl, h1, ?_⟩
          simpa using q1.append q2
      · cases e
    | _ => exact .inr (.inr (.inr (lists rfl)))
  | _ => exact .inr (.inr (.inr (lists rfl)))

theorem f_sub (ha : E? X H0 M0 a fa) (hb : E? X H0 M0 b fb) : E? X H0 M0 (.BinOp a .Sub b pos) (fun ρ => (fa ρ).bind fun x => (fb ρ).bind fun y => binO ρ .sub x y) := by
  refine f_op op_sub (fun σ ρ M cs H x y v w1 w2 Q r e r1 r2 w => ?_) ha hb
  cases x <;> try cases e
  rename_i i
  cases y <;> try cases e
  exact ⟨_, _, r1, r2, w.now r.le rfl⟩
theorem f_mod (ha : E? X H0 M0 a fa) (hb : E? X H0 M0 b fb) : E? X H0 M0 (.BinOp a .Mod b pos) (fun ρ => (fa ρ).bind fun x => (fb ρ).bind fun y => binO ρ .mod x y) := by
  refine f_op op_mod (fun σ ρ M cs H x y v w1 w2 Q r e r1 r2 w => ?_) ha hb
  cases x <;> try cases e
  rename_i i
  cases y <;> try cases e
  simp only [binO] at e
  split at e
  · cases e
    exact ⟨_, _, r1, r2, by assumption, w.now r.le rfl⟩
  · cases e
theorem f_fdiv (ha : E? X H0 M0 a fa) (hb : E? X H0 M0 b fb) : E? X H0 M0 (.BinOp a .FloorDiv b pos) (fun ρ => (fa ρ).bind fun x => (fb ρ).bind fun y => binO ρ .fdiv x y) := by
  refine f_op op_fdivW (fun σ ρ M cs H x y v w1 w2 Q r e r1 r2 w => ?_) ha hb
  cases x <;> try cases e
  rename_i i
  cases y <;> try cases e
  rename_i j
  simp only [binO] at e
  split at e
  · rename_i hz
    obtain ⟨hz1, hz2⟩ : 0 < j ∧ j < 2 ^ 8000 := hz
    cases e
    refine ⟨_, _, r1, r2, ⟨hz1, ?_⟩, w.now r.le rfl⟩
    have h0 : j.natAbs ≠ 0 := by omega
    have h1 : j.natAbs < 2 ^ 8000 := by
      have := hz2
      have e2 : (j.natAbs : Int) = j := by omega
      have : (j.natAbs : Int) < ((2 ^ 8000 : Nat) : Int) := by rw [e2]; exact_mod_cast this
      exact_mod_cast this
    exact Nat.lt_of_lt_of_le ((Nat.log2_lt h0).mpr h1) (by decide)
  · cases e
theorem f_pow (ha : E? X H0 M0 a fa) (hb : E? X H0 M0 b fb) : E? X H0 M0 (.BinOp a .Pow b pos) (fun ρ => (fa ρ).bind fun x => (fb ρ).bind fun y => binO ρ .pow x y) := by
  refine f_op op_pow (fun σ ρ M cs H x y v w1 w2 Q r e r1 r2 w => ?_) ha hb
  cases x <;> try cases e
  rename_i i
  cases y <;> try cases e
  rename_i j
  simp only [binO] at e
  split at e
  · rename_i hz
    cases e
    exact ⟨_, _, r1, r2, ⟨hz.1, by have := hz.2.1; omega, hz.2.2⟩, w.now r.le rfl⟩
  · cases e
theorem rep_length {α : Type} (xs : List α) : ∀ n : Nat, (List.replicate n xs).flatten.length = xs.length * n
  | 0 => by simp
  | n + 1 => by simp only [List.replicate_succ, List.flatten_cons, List.length_append, rep_length xs n]; rw [Nat.mul_succ, Nat.add_comm]
theorem mulOk_of {i j : Int} (h : mulOk i j = true) : CMul i j ∨ CMulW i j := by
  have h : i.natAbs < 2 ^ 64 ∨ j.natAbs < 2 ^ 64 ∨ (i.natAbs < 2 ^ 20000 ∧ j.natAbs < 2 ^ 20000) := of_decide_eq_true (p := MulP i j) h
  rcases h with h | h | ⟨h, h'⟩
  · exact .inl (.inl (by omega))
  · exact .inl (.inr (by omega))
  · refine .inr ?_
    have k : ∀ n : Nat, n < 2 ^ 20000 → n.log2 < 20000 := fun n hn => by
      by_cases z : n = 0
      · subst z; decide
      · exact (Nat.log2_lt z).mpr hn
    have a := k _ h
    have b := k _ h'
    show i.natAbs.log2 + j.natAbs.log2 < 1000000
    omega
theorem f_mul (ha : E? X H0 M0 a fa) (hb : E? X H0 M0 b fb) : E? X H0 M0 (.BinOp a .Mult b pos) (fun ρ => (fa ρ).bind fun x => (fb ρ).bind fun y => binO ρ .mul x y) := by
  refine f_op (OpR.or op_mul (OpR.or op_mulW op_rep)) (fun σ ρ M cs H x y v w1 w2 Q r e r1 r2 w => ?_) ha hb
  have lists : ∀ {k : Int} (_ : y = .int k) (_ : binO ρ .mul x y = (trkOf ρ x).bind fun xs => if decide (InW 63 k) && decide (xs.length * k.toNat ≤ sizeMax) then .ok (.lst (List.replicate k.toNat xs).flatten) else .bad), rRep w1 w2 H Q := fun {k} ey q => by
    subst ey
    rw [q] at e
    obtain ⟨xs, e1, e⟩ := Rs.bind_eq_ok.mp e
    split at e
    · rename_i hz
      cases e
      simp only [Bool.and_eq_true, decide_eq_true_eq] at hz
      obtain ⟨p, vs, rfl, h1, q1⟩ := trkOf_rep r e1 r1
      exact ⟨p, k, vs, rfl, r2, h1, hz.1.1, hz.1.2, by rw [q1.length]; exact hz.2, fun t ht => w.lst r.le (q1.replicate _) (by rw [(q1.replicate _).length, rep_length]; exact hz.2) ht⟩
    · cases e
  cases y with
  | int j =>
    cases x with
    | int i =>
      simp only [binO] at e
      split at e
      · rename_i hz
        cases e
        rcases mulOk_of hz with hz | hz
        · exact .inl ⟨i, j, r1, r2, hz, w.now r.le rfl⟩
        · exact .inr (.inl ⟨i, j, r1, r2, hz, w.now r.le rfl⟩)
      · cases e
    | _ => exact .inr (.inr (lists rfl rfl))
  | _ => cases x <;> cases e

theorem f_neg (ha : E? X H0 M0 a fa) : E? X H0 M0 (.UnaryOp .USub a pos) (fun ρ => (fa ρ).bind negO) := by
  refine PE.mono (pe_un un_neg ha) fun σ H Q ⟨ρ, M, cs, R1, v, e, w⟩ => ?_
  obtain ⟨x, e1, e⟩ := Rs.bind_eq_ok.mp e
  refine ⟨ρ, M, cs, R1, x, e1, fun w1 H1 M1 x1 r1 => ?_⟩
  cases x <;> try cases e
  exact ⟨_, r1, (w.on x1).now x1.le rfl⟩

/-! ### trees read whole -/
section
variable {K : PySem.W.Frag} {M N : Hp} {cs : List Addr} {g : Nat → Option PV}
mutual
theorem mapC_rep (l : Le M N) (hg : ∀ n t a, g n = some t → cs[n]? = some a → Rep K N [] t (.ref a)) : ∀ {v t : PV} {w : V}, mapC g v = some t → Rep K M cs v w → Rep K N [] t w
  | .non, _, _, e, h => by simp [mapC] at e; subst e; exact h
  | .bl _, _, _, e, h => by simp [mapC] at e; subst e; exact h
  | .int _, _, _, e, h => by simp [mapC] at e; subst e; exact h
  | .str _, _, _, e, h => by simp [mapC] at e; subst e; exact h
  | .scr _, _, _, e, h => by simp [mapC] at e; subst e; obtain ⟨a, e, s, z⟩ := h; exact ⟨a, e, l.sqL s, z⟩
  | .tup xs, _, _, e, ⟨a, vs, q, s, r⟩ => by
    simp only [mapC, Option.map_eq_some_iff] at e
    obtain ⟨ys, e, rfl⟩ := e
    exact ⟨a, vs, q, l _ _ s, mapCs_rep l hg e r⟩
  | .lst xs, _, _, e, ⟨a, vs, q, s, r⟩ => by
    simp only [mapC, Option.map_eq_some_iff] at e
    obtain ⟨ys, e, rfl⟩ := e
    exact ⟨a, vs, q, l _ _ s, mapCs_rep l hg e r⟩
  | .dic _ _, _, _, _, h => h.elim
  | .ins _ _, _, _, _, h => h.elim
  | .cell n, _, _, e, ⟨a, q, h⟩ => by
    subst q
    exact hg n _ a (by simpa [mapC] using e) h
theorem mapCs_rep (l : Le M N) (hg : ∀ n t a, g n = some t → cs[n]? = some a → Rep K N [] t (.ref a)) : ∀ {vs ts : List PV} {ws : List V}, mapCs g vs = some ts → Reps K M cs vs ws → Reps K N [] ts ws
  | [], _, _, e, h => by simp [mapCs] at e; subst e; exact h
  | _ :: _, _, _, e, ⟨w, r, q, h1, h2⟩ => by
    simp only [mapCs, Option.bind_eq_some_iff, Option.map_eq_some_iff] at e
    obtain ⟨y, e1, ys, e2, rfl⟩ := e
    exact ⟨w, r, q, mapC_rep l hg e1 h1, mapCs_rep l hg e2 h2⟩
end
end
def gOf (ce : List (Option PV)) : Nat → Nat → Option PV
  | 0 => fun _ => none
  | k + 1 => fun n => (content ce n).bind (frzN ce k)
theorem frzN_eq (ce : List (Option PV)) (k : Nat) (v : PV) : frzN ce k v = mapC (gOf ce k) v := by cases k <;> rfl
section
variable {σ : L2.St} {H : Hp} {ρ : Env} {M N : Hp} {cs : List Addr}
theorem cell_tree (r : R X.K H0 M0 σ H ρ M cs) (l : Le M N) (hN : ∀ n c a, content ρ.ce n = some c → cs[n]? = some a → N a = H a) :
    ∀ (k : Nat) (n : Nat) (t : PV) (a : Addr), gOf ρ.ce k n = some t → cs[n]? = some a → Rep X.K N [] t (.ref a)
  | 0, _, _, _, e, _ => by cases e
  | k + 1, n, t, a, e, h => by
    simp only [gOf, Option.bind_eq_some_iff] at e
    obtain ⟨c, e1, e2⟩ := e
    obtain ⟨_, _, h3⟩ := cell_rep r e1 h
    rw [frzN_eq] at e2
    cases c with
    | lst xs =>
      obtain ⟨vs, h4, h5⟩ := h3
      simp only [mapC, Option.map_eq_some_iff] at e2
      obtain ⟨ys, e3, rfl⟩ := e2
      exact ⟨a, vs, rfl, (hN n _ a e1 h).trans h4, mapCs_rep l (fun n t a e h => cell_tree r l hN k n t a e h) e3 h5⟩
    | _ => exact h3.elim
theorem frz_repN {v t : PV} {w : V} (r : R X.K H0 M0 σ H ρ M cs) (l : Le M N) (hN : ∀ n c a, content ρ.ce n = some c → cs[n]? = some a → N a = H a) (e : frz ρ v = .ok t) (h : Rep X.K M cs v w) : Rep X.K N [] t w := by
  unfold frz at e
  split at e
  · rename_i p
    cases e
    exact (h.pure p).mono l
  · cases q : frzN ρ.ce 3 v with
    | none => (rw [q] at e; cases e)
    | some u =>
      rw [q] at e; cases e
      exact mapC_rep l (fun n t a e1 h1 => cell_tree r l hN 3 n t a e1 h1) (by rw [frzN_eq] at q; exact q) h
theorem frzs_repN {v t : List PV} {w : List V} (r : R X.K H0 M0 σ H ρ M cs) (l : Le M N) (hN : ∀ n c a, content ρ.ce n = some c → cs[n]? = some a → N a = H a) (e : frzs ρ v = .ok t) (h : Reps X.K M cs v w) : Reps X.K N [] t w := by
  unfold frzs at e
  split at e
  · rename_i p
    cases e
    exact (h.pure p).mono l
  · cases q : mapCs (fun n => (content ρ.ce n).bind (frzN ρ.ce 2)) v with
    | none => (rw [q] at e; cases e)
    | some u =>
      rw [q] at e; cases e
      exact mapCs_rep l (fun n t a e1 h1 => cell_tree r l hN 3 n t a e1 h1) q h
theorem frz_rep {v t : PV} {w : V} (r : R X.K H0 M0 σ H ρ M cs) (e : frz ρ v = .ok t) (h : Rep X.K M cs v w) : Rep X.K H [] t w := frz_repN r r.le (fun _ _ _ _ _ => rfl) e h
theorem frzs_rep {v t : List PV} {w : List V} (r : R X.K H0 M0 σ H ρ M cs) (e : frzs ρ v = .ok t) (h : Reps X.K M cs v w) : Reps X.K H [] t w := frzs_repN r r.le (fun _ _ _ _ _ => rfl) e h
end

section
variable {K : PySem.W.Frag} {H : Hp} {cs : List Addr}
mutual
theorem dp_of : ∀ {v : PV} {w : V} {d : PyData}, toD v = some d → Rep K H cs v w → Dp K H w d
  | .non, _, _, e, h => by simp [toD] at e; subst e; cases h; exact .non
  | .bl _, _, _, e, h => by simp [toD] at e; subst e; cases h; exact .bl _
  | .int _, _, _, e, h => by simp [toD] at e; subst e; cases h; exact .int _
  | .str _, _, _, e, h => by simp [toD] at e; subst e; cases h; exact .str _
  | .tup xs, _, _, e, ⟨a, vs, q, s, r⟩ => by
    simp only [toD, Option.map_eq_some_iff] at e
    obtain ⟨ds, e, rfl⟩ := e
    subst q
    exact .tup (.of s) (dps_of e r)
  | .lst xs, _, _, e, ⟨a, vs, q, s, r⟩ => by
    simp only [toD, Option.map_eq_some_iff] at e
    obtain ⟨ds, e, rfl⟩ := e
    subst q
    exact .lst (.of s) (dps_of e r)
  | .dic _ _, _, _, _, h => h.elim
  | .ins _ _, _, _, _, h => h.elim
  | .cell n, _, _, e, _ => by simp [toD] at e
  | .scr n, _, _, e, _ => by simp [toD] at e
theorem dps_of : ∀ {v : List PV} {w : List V} {d : List PyData}, toDs v = some d → Reps K H cs v w → DpAll K H w d
  | [], _, _, e, h => by simp [toDs] at e; subst e; cases h; exact .nil
  | _ :: _, _, _, e, ⟨w, r, q, h1, h2⟩ => by
    simp only [toDs, Option.bind_eq_some_iff, Option.map_eq_some_iff] at e
    obtain ⟨y, e1, ys, e2, rfl⟩ := e
    subst q
    exact .cons (dp_of e1 h1) (dps_of e2 h2)
end
end

/-! ### comparisons -/
def rInDT (K : PySem.W.Frag) (neg : Bool) : R2 := fun x y H Q => ∃ d ds, Dp K H x d ∧ Dp K H y (.tuple ds) ∧ SeqAt.shaped d = true ∧ SeqAt.shaped (.list ds) = true ∧ Q (.bl (if neg then !(ds.any fun z => PyData.eqv z d) else ds.any fun z => PyData.eqv z d)) H
theorem room_in {A : Around} {d : PyData} {ds : List PyData} (h : SeqAt.shaped d = true) (hu : A.units + 65 < cLine) : A.units + 1 + min (PyData.depthAll ds) d.depth < cLine := by
  have h1 := SeqAt.depth_of_shaped h
  have h2 := Nat.min_le_right (PyData.depthAll ds) d.depth
  omega
theorem op_inDT (hu : X.A.units + 65 < cLine) : OpR X (compareOp .In) (rInDT X.K false) := by
  (intro pins s σ H x y v u Q I rx ry h)
  (obtain ⟨d, ds, hd, he, sd, se, q⟩ := h)
  (obtain ⟨as, r1⟩ := Dp.reads I d x v hd rx)
  obtain ⟨bs, r2⟩ := Dp.reads I (.tuple ds) y u he ry
  exact SeqAt.in_tuple_reads r2 r1 (SeqAt.canLay_of_shaped se) (SeqAt.canLay_of_shaped sd) (room_in sd hu) ⟨.bl _, H, I, rfl, q⟩
theorem op_notInDT (hu : X.A.units + 65 < cLine) : OpR X (compareOp .NotIn) (rInDT X.K true) := by
  (intro pins s σ H x y v u Q I rx ry h)
  (obtain ⟨d, ds, hd, he, sd, se, q⟩ := h)
  (obtain ⟨as, r1⟩ := Dp.reads I d x v hd rx)
  obtain ⟨bs, r2⟩ := Dp.reads I (.tuple ds) y u he ry
  exact SeqAt.notIn_tuple_reads r2 r1 (SeqAt.canLay_of_shaped se) (SeqAt.canLay_of_shaped sd) (room_in sd hu) ⟨.bl _, H, I, rfl, q⟩

/-- the machine's operator -/
def cop : COp → CmpOp
  | .eq => .Eq | .ne => .NotEq | .lt => .Lt | .le => .LtE | .gt => .Gt | .ge => .GtE | .isin => .In | .notin => .NotIn | .isN => .Is | .isnotN => .IsNot
/-- what a comparison asks of its values -/
def rC (K : PySem.W.Frag) (op : COp) : R2 := fun w1 w2 H Q => ∃ c : Bool, Q (.bl c) H ∧ ∀ Q' : VK, Q' (.bl c) H → (match op with
  | .eq => rEqD K w1 w2 H Q'
  | .ne => rNeD K w1 w2 H Q'
  | .lt => rI0 (fun i j => .bl (decide (i < j))) w1 w2 H Q'
  | .le => rI0 (fun i j => .bl (decide (i ≤ j))) w1 w2 H Q'
  | .gt => rI0 (fun i j => .bl (decide (j < i))) w1 w2 H Q'
  | .ge => rI0 (fun i j => .bl (decide (j ≤ i))) w1 w2 H Q'
  | .isin => rInD K w1 w2 H Q' ∨ rInDT K false w1 w2 H Q' ∨ (∃ (c : Nat) (z : Str), w1 = .str ⟨#[c]⟩ ∧ w2 = .str z ∧ Q' (.bl (decide (c ∈ z.cps.toList))) H)
  | .notin => rNotInD K w1 w2 H Q' ∨ rInDT K true w1 w2 H Q' ∨ (∃ (c : Nat) (z : Str), w1 = .str ⟨#[c]⟩ ∧ w2 = .str z ∧ Q' (.bl (!decide (c ∈ z.cps.toList))) H)
  | .isN => w2 = .non ∧ Q' (.bl (decide (w1 = .non))) H
  | .isnotN => w2 = .non ∧ Q' (.bl (!decide (w1 = .non))) H)
theorem op_C (hu : X.A.units + 65 < cLine) (op : COp) : OpR X (compareOp (cop op)) (rC X.K op) := by
  intro pins s σ H x y v u Q I rx ry ⟨c, q, h⟩
  have h := h Q q
  cases op with
  | eq => exact op_eqD (by omega) pins s σ H x y v u Q I rx ry h
  | ne => exact op_neD (by omega) pins s σ H x y v u Q I rx ry h
  | lt => exact op_lt pins s σ H x y v u Q I rx ry h
  | le => exact op_le pins s σ H x y v u Q I rx ry h
  | gt => exact op_gt pins s σ H x y v u Q I rx ry h
  | ge => exact op_ge pins s σ H x y v u Q I rx ry h
  | isin => exact OpR.or (op_inD hu) (OpR.or (op_inDT hu) op_in_sign) pins s σ H x y v u Q I rx ry h
  | notin => exact OpR.or (op_notInD hu) (OpR.or (op_notInDT hu) op_notIn_sign) pins s σ H x y v u Q I rx ry h
  | isN => exact op_isN pins s σ H x y v u Q I rx ry h
  | isnotN => exact op_notN pins s σ H x y v u Q I rx ry h

theorem dp2 {σ : L2.St} {H : Hp} {ρ : Env} {M : Hp} {cs : List Addr} {x t : PV} {w : V} {d : PyData} (r : R X.K H0 M0 σ H ρ M cs) (e : frz ρ x = .ok t) (e2 : toD t = some d) (h : Rep X.K M cs x w) : Dp X.K H w d :=
  dp_of e2 (frz_rep r e h)
theorem eqO_ok {a b : PV} {c : Bool} (e : eqO a b = .ok c) : ∃ d e, toD a = some d ∧ toD b = some e ∧ SeqAt.shaped d = true ∧ SeqAt.shaped e = true ∧ c = PyData.eqv d e := by
  unfold eqO at e
  cases h1 : toD a with
  | none => rw [h1] at e; cases e
  | some d =>
    cases h2 : toD b with
    | none => rw [h1, h2] at e; cases e
    | some f =>
      rw [h1, h2] at e
      simp only [Option.bind_some] at e
      split at e
      · rename_i z
        cases e
        simp only [Bool.and_eq_true] at z
        exact ⟨d, f, rfl, rfl, z.1, z.2, rfl⟩
      · cases e
theorem inO_ok {xs : List PV} {a : PV} {c : Bool} (e : inO xs a = .ok c) : ∃ d ds, toD a = some d ∧ toDs xs = some ds ∧ SeqAt.shaped d = true ∧ SeqAt.shaped (.list ds) = true ∧ c = ds.any fun z => PyData.eqv z d := by
  unfold inO at e
  cases h1 : toD a with
  | none => rw [h1] at e; cases e
  | some d =>
    cases h2 : toDs xs with
    | none => rw [h1, h2] at e; cases e
    | some f =>
      rw [h1, h2] at e
      simp only [Option.bind_some] at e
      split at e
      · rename_i z
        cases e
        simp only [Bool.and_eq_true] at z
        exact ⟨d, f, rfl, rfl, z.1, z.2, rfl⟩
      · cases e
theorem memO_ok {H : Hp} {K : PySem.W.Frag} {a b : PV} {c : Bool} {w1 w2 : V} (e : memO a b = .ok c) (h1 : Rep K H [] a w1) (h2 : Rep K H [] b w2) :
    (∃ d ds, Dp K H w1 d ∧ Dp K H w2 (.list ds) ∧ SeqAt.shaped d = true ∧ SeqAt.shaped (.list ds) = true ∧ c = ds.any fun z => PyData.eqv z d) ∨
    (∃ d ds, Dp K H w1 d ∧ Dp K H w2 (.tuple ds) ∧ SeqAt.shaped d = true ∧ SeqAt.shaped (.list ds) = true ∧ c = ds.any fun z => PyData.eqv z d) ∨
    (∃ (k : Nat) (z : Str), w1 = .str ⟨#[k]⟩ ∧ w2 = .str z ∧ c = decide (k ∈ z.cps.toList)) := by
  cases b with
  | lst xs =>
    obtain ⟨d, ds, e1, e2, s1, s2, q⟩ := inO_ok e
    exact .inl ⟨d, ds, dp_of e1 h1, dp_of (show toD (.lst _) = some (.list ds) by simp [toD, e2]) h2, s1, s2, q⟩
  | tup xs =>
    obtain ⟨d, ds, e1, e2, s1, s2, q⟩ := inO_ok e
    exact .inr (.inl ⟨d, ds, dp_of e1 h1, dp_of (show toD (.tup _) = some (.tuple ds) by simp [toD, e2]) h2, s1, s2, q⟩)
  | str z =>
    cases a with
    | str x =>
      simp only [memO] at e
      split at e
      · rename_i k hk
        cases e
        have hx : x = ⟨#[k]⟩ := by
          obtain ⟨⟨l⟩⟩ := x
          have hk' : l = [k] := hk
          rw [hk']
        subst hx
        exact .inr (.inr ⟨k, z, h1, h2, rfl⟩)
      · cases e
    | _ => cases e
  | _ => cases e
theorem rep_non_iff {M : Hp} {K : PySem.W.Frag} {cs : List Addr} {x : PV} {w : V} (h : Rep K M cs x w) : decide (w = .non) = (match x with | .non => true | _ => false) := by
  cases x with
  | non => cases h; rfl
  | bl _ => cases h; rfl
  | int _ => cases h; rfl
  | str _ => cases h; rfl
  | tup _ => obtain ⟨a, _, rfl, _⟩ := h; rfl
  | lst _ => obtain ⟨a, _, rfl, _⟩ := h; rfl
  | dic _ _ => exact h.elim
  | ins _ _ => exact h.elim
  | cell _ => obtain ⟨a, rfl, _⟩ := h; rfl
  | scr _ => obtain ⟨a, rfl, _⟩ := h; rfl
theorem cmpO_rep {σ : L2.St} {H : Hp} {ρ : Env} {M : Hp} {cs : List Addr} {op : COp} {x y : PV} {c : Bool} {w1 w2 : V} {Q : VK} (r : R X.K H0 M0 σ H ρ M cs) (e : cmpO ρ op x y = .ok c) (h1 : Rep X.K M cs x w1) (h2 : Rep X.K M cs y w2)
    (q : Q (.bl c) H) : rC X.K op w1 w2 H Q := by
  refine ⟨c, q, fun Q' q' => ?_⟩
  cases op with
  | eq =>
    obtain ⟨a, e1, e⟩ := Rs.bind_eq_ok.mp e
    obtain ⟨b, e2, e⟩ := Rs.bind_eq_ok.mp e
    obtain ⟨d, f, t1, t2, s1, s2, rfl⟩ := eqO_ok e
    exact ⟨d, f, dp2 r e1 t1 h1, dp2 r e2 t2 h2, s1, s2, q'⟩
  | ne =>
    obtain ⟨a, e1, e⟩ := Rs.bind_eq_ok.mp e
    obtain ⟨b, e2, e⟩ := Rs.bind_eq_ok.mp e
    obtain ⟨k, e3, e⟩ := Rs.bind_eq_ok.mp e
    obtain ⟨d, f, t1, t2, s1, s2, rfl⟩ := eqO_ok e3
    cases e
    exact ⟨d, f, dp2 r e1 t1 h1, dp2 r e2 t2 h2, s1, s2, q'⟩
  | lt => cases x <;> try cases e
          cases y <;> try cases e
          exact ⟨_, _, h1, h2, q'⟩
  | le => cases x <;> try cases e
          cases y <;> try cases e
          exact ⟨_, _, h1, h2, q'⟩
  | gt => cases x <;> try cases e
          cases y <;> try cases e
          exact ⟨_, _, h1, h2, q'⟩
  | ge => cases x <;> try cases e
          cases y <;> try cases e
          exact ⟨_, _, h1, h2, q'⟩
  | isin =>
    obtain ⟨a, e1, e⟩ := Rs.bind_eq_ok.mp e
    obtain ⟨b, e2, e⟩ := Rs.bind_eq_ok.mp e
    rcases memO_ok e (frz_rep r e1 h1) (frz_rep r e2 h2) with ⟨d, ds, a1, a2, a3, a4, rfl⟩ | ⟨d, ds, a1, a2, a3, a4, rfl⟩ | ⟨k, z, a1, a2, rfl⟩
    · exact .inl ⟨d, ds, a1, a2, a3, a4, q'⟩
    · exact .inr (.inl ⟨d, ds, a1, a2, a3, a4, q'⟩)
    · exact .inr (.inr ⟨k, z, a1, a2, q'⟩)
  | notin =>
    obtain ⟨a, e1, e⟩ := Rs.bind_eq_ok.mp e
    obtain ⟨b, e2, e⟩ := Rs.bind_eq_ok.mp e
    obtain ⟨k, e3, e⟩ := Rs.bind_eq_ok.mp e
    cases e
    rcases memO_ok e3 (frz_rep r e1 h1) (frz_rep r e2 h2) with ⟨d, ds, a1, a2, a3, a4, rfl⟩ | ⟨d, ds, a1, a2, a3, a4, rfl⟩ | ⟨k, z, a1, a2, rfl⟩
    · exact .inl ⟨d, ds, a1, a2, a3, a4, q'⟩
    · exact .inr (.inl ⟨d, ds, a1, a2, a3, a4, q'⟩)
    · exact .inr (.inr ⟨k, z, a1, a2, q'⟩)
  | isN =>
    have k := rep_non_iff h1
    cases y with
    | non => cases h2; cases x <;> (cases e; exact ⟨rfl, by rw [k]; exact q'⟩)
    | _ => cases x <;> cases e
  | isnotN =>
    have k := rep_non_iff h1
    cases y with
    | non => cases h2; cases x <;> (cases e; exact ⟨rfl, by rw [k]; exact q'⟩)
    | _ => cases x <;> cases e

theorem f_cmp (hu : X.A.units + 65 < cLine) {op : COp} (hm : behindInMarks (cop op) b = false) (ha : E? X H0 M0 a fa) (hb : E? X H0 M0 b fb) :
    E? X H0 M0 (.Compare a [cop op] [b] pos) (fun ρ => (fa ρ).bind fun x => (fb ρ).bind fun y => (cmpO ρ op x y).bind fun c => .ok (.bl c)) :=
  PE.mono (pe_cmpR (op_C hu op) ha hb hm) fun σ H Q h => two (g := fun ρ x y => (cmpO ρ op x y).bind fun c => .ok (.bl c)) (fun _ => rfl) (fun ρ M cs H x y v w1 w2 Q r e r1 r2 w => by
    obtain ⟨c, e1, e⟩ := Rs.bind_eq_ok.mp e
    cases e
    exact cmpO_rep r e1 r1 r2 (w.now r.le rfl)) h
theorem g_cmp (hu : X.A.units + 65 < cLine) {op : COp} (hm : behindInMarks (cop op) b = false) (ha : E? X H0 M0 a fa) (hb : E? X H0 M0 b fb) :
    T? X H0 M0 (.Compare a [cop op] [b] pos) (fun ρ => (fa ρ).bind fun x => (fb ρ).bind fun y => cmpO ρ op x y) := by
  refine PT.mono (pt_cmpR (op_C hu op) ha hb hm) fun σ H Q ⟨ρ, M, cs, R1, v, e, w⟩ => ?_
  obtain ⟨x, e1, e⟩ := Rs.bind_eq_ok.mp e
  obtain ⟨y, e2, e⟩ := Rs.bind_eq_ok.mp e
  refine ⟨ρ, M, cs, R1, x, e1, fun w1 H1 M1 x1 r1 => ?_⟩
  refine ⟨ρ, M1, cs, R1.ext x1, y, e2, fun w2 H2 M2 x2 r2 => ?_⟩
  exact cmpO_rep ((R1.ext x1).ext x2) e (r1.mono x2.m) r2 ⟨v, rfl, w _ _ (x1.trans x2)⟩
theorem f_cmp2 (hu : X.A.units + 65 < cLine) {op op2 : COp} (hm : lastMarks [cop op, cop op2] [b, c] = false) (ha : E? X H0 M0 a fa) (hb : E? X H0 M0 b fb) (hc : E? X H0 M0 c fc) :
    E? X H0 M0 (.Compare a [cop op, cop op2] [b, c] pos) (fun ρ => (fa ρ).bind fun x => (fb ρ).bind fun y => (cmpO ρ op x y).bind fun k => if k then (fc ρ).bind fun z => (cmpO ρ op2 y z).bind fun c => .ok (.bl c) else .ok (.bl false)) := by
  refine PE.mono (pe_chain (op_C hu op) (op_C hu op2) ha hb hc hm) fun σ H Q ⟨ρ, M, cs, R1, v, e, w⟩ => ?_
  obtain ⟨x, e1, e⟩ := Rs.bind_eq_ok.mp e
  obtain ⟨y, e2, e⟩ := Rs.bind_eq_ok.mp e
  obtain ⟨k, e3, e⟩ := Rs.bind_eq_ok.mp e
  refine ⟨ρ, M, cs, R1, x, e1, fun w1 H1 M1 x1 r1 => ?_⟩
  refine ⟨ρ, M1, cs, R1.ext x1, y, e2, fun w2 H2 M2 x2 r2 => ?_⟩
  have R2 := (R1.ext x1).ext x2
  refine cmpO_rep R2 e3 (r1.mono x2.m) r2 ⟨k, rfl, ?_⟩
  cases k with
  | false => cases e; exact (w.on (x1.trans x2)).now R2.le rfl
  | true =>
    simp only [if_true] at e ⊢
    obtain ⟨z, e4, e⟩ := Rs.bind_eq_ok.mp e
    obtain ⟨d, e5, e⟩ := Rs.bind_eq_ok.mp e
    cases e
    refine ⟨ρ, M2, cs, R2, z, e4, fun w3 H3 M3 x3 r3 => ?_⟩
    exact cmpO_rep (R2.ext x3) e5 (r2.mono x3.m) r3 ((w.on ((x1.trans x2).trans x3)).now (R2.ext x3).le rfl)
theorem g_cmp2 (hu : X.A.units + 65 < cLine) {op op2 : COp} (hm : lastMarks [cop op, cop op2] [b, c] = false) (ha : E? X H0 M0 a fa) (hb : E? X H0 M0 b fb) (hc : E? X H0 M0 c fc) :
    T? X H0 M0 (.Compare a [cop op, cop op2] [b, c] pos) (fun ρ => (fa ρ).bind fun x => (fb ρ).bind fun y => (cmpO ρ op x y).bind fun k => if k then (fc ρ).bind fun z => cmpO ρ op2 y z else .ok false) := by
  refine PT.mono (pt_chain (op_C hu op) (op_C hu op2) ha hb hc hm) fun σ H Q ⟨ρ, M, cs, R1, v, e, w⟩ => ?_
  obtain ⟨x, e1, e⟩ := Rs.bind_eq_ok.mp e
  obtain ⟨y, e2, e⟩ := Rs.bind_eq_ok.mp e
  obtain ⟨k, e3, e⟩ := Rs.bind_eq_ok.mp e
  refine ⟨ρ, M, cs, R1, x, e1, fun w1 H1 M1 x1 r1 => ?_⟩
  refine ⟨ρ, M1, cs, R1.ext x1, y, e2, fun w2 H2 M2 x2 r2 => ?_⟩
  have R2 := (R1.ext x1).ext x2
  refine cmpO_rep R2 e3 (r1.mono x2.m) r2 ⟨k, rfl, ?_⟩
  cases k with
  | false => cases e; exact ⟨_, rfl, w _ _ (x1.trans x2)⟩
  | true =>
    simp only [if_true] at e ⊢
    obtain ⟨z, e4, e⟩ := Rs.bind_eq_ok.mp e
    refine ⟨ρ, M2, cs, R2, z, e4, fun w3 H3 M3 x3 r3 => ?_⟩
    exact cmpO_rep (R2.ext x3) e (r2.mono x3.m) r3 ⟨v, rfl, w _ _ ((x1.trans x2).trans x3)⟩

/-! ### truth, and, or, not -/
theorem boolOf_ok {v : PV} {b : Bool} (e : boolOf v = .ok b) : v = .bl b := by cases v <;> cases e; rfl
theorem g_val (ha : E? X H0 M0 a fa) (he : ∀ whole, isTrue a X.env whole = (do let v ← whole; standAt a.pos; holding [v] (truthy v))) : T? X H0 M0 a (fun ρ => (fa ρ).bind boolOf) := by
  refine PT.mono (pt_val ha he) fun σ H Q ⟨ρ, M, cs, R1, v, e, w⟩ => ?_
  obtain ⟨x, e1, e⟩ := Rs.bind_eq_ok.mp e
  cases boolOf_ok e
  exact ⟨ρ, M, cs, R1, _, e1, fun w1 H1 M1 x1 r1 => ⟨v, r1, w _ _ x1⟩⟩
theorem f_not (ha : E? X H0 M0 a fa) : E? X H0 M0 (.UnaryOp .Not a pos) (fun ρ => (fa ρ).bind fun x => (boolOf x).bind fun b => .ok (.bl (!b))) := by
  refine PE.mono (pe_not ha) fun σ H Q ⟨ρ, M, cs, R1, v, e, w⟩ => ?_
  obtain ⟨x, e1, e⟩ := Rs.bind_eq_ok.mp e
  obtain ⟨b, e2, e⟩ := Rs.bind_eq_ok.mp e
  cases boolOf_ok e2
  cases e
  exact ⟨ρ, M, cs, R1, _, e1, fun w1 H1 M1 x1 r1 => ⟨b, r1, (w.on x1).now x1.le rfl⟩⟩
variable {ga gb : Env → Rs Bool} {rest : List Expr}
theorem g_not (ha : T? X H0 M0 a ga) : T? X H0 M0 (.UnaryOp .Not a pos) (fun ρ => (ga ρ).bind fun b => .ok (!b)) := by
  refine PT.mono (pt_not ha) fun σ H Q ⟨ρ, M, cs, R1, v, e, w⟩ => ?_
  obtain ⟨b, e2, e⟩ := Rs.bind_eq_ok.mp e
  cases e
  exact ⟨ρ, M, cs, R1, b, e2, fun H1 M1 x1 => w _ _ x1⟩
theorem f_and (ha : E? X H0 M0 a fa) (hb : E? X H0 M0 (.BoolOp .And (b :: rest) pos) fb) : E? X H0 M0 (.BoolOp .And (a :: b :: rest) pos) (fun ρ => (fa ρ).bind fun x => (boolOf x).bind fun k => if k then fb ρ else .ok (.bl false)) := by
  refine PE.mono (pe_and ha hb) fun σ H Q ⟨ρ, M, cs, R1, v, e, w⟩ => ?_
  obtain ⟨x, e1, e⟩ := Rs.bind_eq_ok.mp e
  obtain ⟨k, e2, e⟩ := Rs.bind_eq_ok.mp e
  cases boolOf_ok e2
  refine ⟨ρ, M, cs, R1, _, e1, fun w1 H1 M1 x1 r1 => ⟨k, r1, ?_⟩⟩
  cases k with
  | false => cases e; exact (w.on x1).now x1.le rfl
  | true => exact ⟨ρ, M1, cs, R1.ext x1, v, e, w.on x1⟩
theorem f_or (ha : E? X H0 M0 a fa) (hb : E? X H0 M0 (.BoolOp .Or (b :: rest) pos) fb) : E? X H0 M0 (.BoolOp .Or (a :: b :: rest) pos) (fun ρ => (fa ρ).bind fun x => (boolOf x).bind fun k => if k then .ok (.bl true) else fb ρ) := by
  refine PE.mono (pe_or ha hb) fun σ H Q ⟨ρ, M, cs, R1, v, e, w⟩ => ?_
  obtain ⟨x, e1, e⟩ := Rs.bind_eq_ok.mp e
  obtain ⟨k, e2, e⟩ := Rs.bind_eq_ok.mp e
  cases boolOf_ok e2
  refine ⟨ρ, M, cs, R1, _, e1, fun w1 H1 M1 x1 r1 => ⟨k, r1, ?_⟩⟩
  cases k with
  | true => cases e; exact (w.on x1).now x1.le rfl
  | false => exact ⟨ρ, M1, cs, R1.ext x1, v, e, w.on x1⟩
theorem PW.mono {e : Expr} {t t' : TT} (h : PW X e t) (m : ∀ σ H Q, t' σ H Q → t σ H Q) : PW X e t' := ⟨fun wh pins s σ H Q I q => h.run wh pins s σ H Q I (m σ H Q q)⟩
abbrev W? (X : Cx) (H0 M0 : Hp) (x : Expr) (f : Env → Rs Bool) : Prop := PW X x (tT X.K H0 M0 f)
theorem g_and1 (ha : T? X H0 M0 a ga) : W? X H0 M0 (.BoolOp .And [a] pos) ga := pw_and1 ha
theorem g_or1 (ha : T? X H0 M0 a ga) : W? X H0 M0 (.BoolOp .Or [a] pos) ga := pw_or1 ha
theorem g_and (ha : T? X H0 M0 a ga) (hb : W? X H0 M0 (.BoolOp .And (b :: rest) pos) gb) : W? X H0 M0 (.BoolOp .And (a :: b :: rest) pos) (fun ρ => (ga ρ).bind fun k => if k then gb ρ else .ok false) := by
  refine PW.mono (pw_and ha hb) fun σ H Q ⟨ρ, M, cs, R1, v, e, w⟩ => ?_
  obtain ⟨k, e1, e⟩ := Rs.bind_eq_ok.mp e
  refine ⟨ρ, M, cs, R1, k, e1, fun H1 M1 x1 => ?_⟩
  cases k with
  | false => cases e; exact w _ _ x1
  | true => exact ⟨ρ, M1, cs, R1.ext x1, v, e, fun H2 M2 x2 => w _ _ (x1.trans x2)⟩
theorem g_or (ha : T? X H0 M0 a ga) (hb : W? X H0 M0 (.BoolOp .Or (b :: rest) pos) gb) : W? X H0 M0 (.BoolOp .Or (a :: b :: rest) pos) (fun ρ => (ga ρ).bind fun k => if k then .ok true else gb ρ) := by
  refine PW.mono (pw_or ha hb) fun σ H Q ⟨ρ, M, cs, R1, v, e, w⟩ => ?_
  obtain ⟨k, e1, e⟩ := Rs.bind_eq_ok.mp e
  refine ⟨ρ, M, cs, R1, k, e1, fun H1 M1 x1 => ?_⟩
  cases k with
  | true => cases e; exact w _ _ x1
  | false => exact ⟨ρ, M1, cs, R1.ext x1, v, e, fun H2 M2 x2 => w _ _ (x1.trans x2)⟩
theorem f_ite (hc : T? X H0 M0 c ga) (ha : E? X H0 M0 a fa) (hb : E? X H0 M0 b fb) : E? X H0 M0 (.IfExp c a b pos) (fun ρ => (ga ρ).bind fun k => if k then fa ρ else fb ρ) := by
  refine PE.mono (pe_ifExp hc ha hb) fun σ H Q ⟨ρ, M, cs, R1, v, e, w⟩ => ?_
  obtain ⟨k, e1, e⟩ := Rs.bind_eq_ok.mp e
  refine ⟨ρ, M, cs, R1, k, e1, fun H1 M1 x1 => ?_⟩
  cases k with
  | true => exact ⟨ρ, M1, cs, R1.ext x1, v, e, w.on x1⟩
  | false => exact ⟨ρ, M1, cs, R1.ext x1, v, e, w.on x1⟩
end
end PF

set_option Elab.async false
set_option linter.all false
set_option maxRecDepth 100000
/-! PFd: subscripts, displays, calls. -/
namespace PF
open PySem L2

/-! ### sorting, greatest, least: they are one -/
theorem perm_sorted_eq : ∀ {xs ys : List Int}, xs.Perm ys → xs.Pairwise (· ≤ ·) → ys.Pairwise (· ≤ ·) → xs = ys
  | [], ys, p, _, _ => (List.Perm.nil_eq p)
  | x :: xs, [], p, _, _ => absurd p.length_eq (by simp)
  | x :: xs, y :: ys, p, hx, hy => by
    have hxy : x = y := by
      have h1 : x ∈ y :: ys := p.subset List.mem_cons_self
      have h2 : y ∈ x :: xs := p.symm.subset List.mem_cons_self
      have a : y ≤ x := by
        rcases List.mem_cons.mp h1 with h | h
        · omega
        · exact (List.pairwise_cons.mp hy).1 x h
      have b : x ≤ y := by
        rcases List.mem_cons.mp h2 with h | h
        · omega
        · exact (List.pairwise_cons.mp hx).1 y h
      omega
    subst hxy
    rw [perm_sorted_eq (List.Perm.cons_inv p) (List.pairwise_cons.mp hx).2 (List.pairwise_cons.mp hy).2]
theorem insI_perm (x : Int) : ∀ xs : List Int, (insI x xs).Perm (x :: xs)
  | [] => .refl _
  | y :: ys => by
    unfold insI
    split
    · exact .refl _
    · exact ((insI_perm x ys).cons y).trans (.swap x y ys)
theorem sortI_perm : ∀ xs : List Int, (sortI xs).Perm xs
  | [] => .refl _
  | x :: xs => (insI_perm x _).trans ((sortI_perm xs).cons x)
theorem insI_sorted (x : Int) : ∀ {xs : List Int}, xs.Pairwise (· ≤ ·) → (insI x xs).Pairwise (· ≤ ·)
  | [], _ => by simp [insI]
  | y :: ys, h => by
    unfold insI
    have hp := List.pairwise_cons.mp h
    split
    · rename_i hle
      refine List.pairwise_cons.mpr ⟨fun z hz => ?_, h⟩
      rcases List.mem_cons.mp hz with h1 | h1
      · omega
      · have := hp.1 z h1; omega
    · rename_i hle
      refine List.pairwise_cons.mpr ⟨fun z hz => ?_, insI_sorted x hp.2⟩
      rcases List.mem_cons.mp ((insI_perm x ys).subset hz) with h1 | h1
      · omega
      · exact hp.1 z h1
theorem sortI_sorted : ∀ xs : List Int, (sortI xs).Pairwise (· ≤ ·)
  | [] => .nil
  | x :: xs => insI_sorted x (sortI_sorted xs)
theorem sortI_eq {xs ys : List Int} (p : ys.Perm xs) (h : ys.Pairwise (· ≤ ·)) : ys = sortI xs := perm_sorted_eq (p.trans (sortI_perm xs).symm) h (sortI_sorted xs)

theorem maxI_ge : ∀ (m : Int) (xs : List Int), m ≤ maxI m xs ∧ ∀ x ∈ xs, x ≤ maxI m xs
  | m, [] => by simp [maxI]
  | m, x :: xs => by
    unfold maxI
    have h := maxI_ge (if m < x then x else m) xs
    split at h
    · rename_i c; simp only [c, if_true]; refine ⟨by omega, fun y hy => ?_⟩
      (rcases List.mem_cons.mp hy with e | e)
      · subst e; exact h.1
      · exact h.2 y e
    · rename_i c; simp only [c, if_false]; refine ⟨h.1, fun y hy => ?_⟩
      (rcases List.mem_cons.mp hy with e | e)
      · subst e; omega
      · exact h.2 y e
theorem maxI_mem : ∀ (m : Int) (xs : List Int), maxI m xs ∈ m :: xs
  | m, [] => by simp [maxI]
  | m, x :: xs => by
    unfold maxI
    have h := maxI_mem (if m < x then x else m) xs
    (rcases List.mem_cons.mp h with e | e)
    · rw [e]; split <;> simp
    · exact List.mem_cons_of_mem _ (List.mem_cons_of_mem _ e)
theorem minI_le : ∀ (m : Int) (xs : List Int), minI m xs ≤ m ∧ ∀ x ∈ xs, minI m xs ≤ x
  | m, [] => by simp [minI]
  | m, x :: xs => by
    unfold minI
    have h := minI_le (if x < m then x else m) xs
    split at h
    · rename_i c; simp only [c, if_true]; refine ⟨by omega, fun y hy => ?_⟩
      (rcases List.mem_cons.mp hy with e | e)
      · subst e; exact h.1
      · exact h.2 y e
    · rename_i c; simp only [c, if_false]; refine ⟨h.1, fun y hy => ?_⟩
      (rcases List.mem_cons.mp hy with e | e)
      · subst e; omega
      · exact h.2 y e
theorem minI_mem : ∀ (m : Int) (xs : List Int), minI m xs ∈ m :: xs
  | m, [] => by simp [minI]
  | m, x :: xs => by
    unfold minI
    have h := minI_mem (if x < m then x else m) xs
    (rcases List.mem_cons.mp h with e | e)
    · rw [e]; split <;> simp
    · exact List.mem_cons_of_mem _ (List.mem_cons_of_mem _ e)
theorem maxI_eq {n m : Int} {r : List Int} (h1 : m ∈ n :: r) (h2 : ∀ y ∈ n :: r, y ≤ m) : m = maxI n r := by
  have a := h2 _ (maxI_mem n r)
  have b := maxI_ge n r
  (rcases List.mem_cons.mp h1 with e | e)
  · subst e; have := b.1; omega
  · have := b.2 m e; omega
theorem minI_eq {n m : Int} {r : List Int} (h1 : m ∈ n :: r) (h2 : ∀ y ∈ n :: r, m ≤ y) : m = minI n r := by
  have a := h2 _ (minI_mem n r)
  have b := minI_le n r
  (rcases List.mem_cons.mp h1 with e | e)
  · subst e; have := b.1; omega
  · have := b.2 m e; omega

section
variable {X : Cx} {H0 M0 : Hp} {fa fb fc : Env → Rs PV} {a b c : Expr} {pos : Pos}

/-! ### xs[i], xs[i:j] -/
theorem f_ix (hs : PlainIx b) (ha : E? X H0 M0 a fa) (hb : E? X H0 M0 b fb) : E? X H0 M0 (.Subscript a b pos) (fun ρ => (fa ρ).bind fun x => (fb ρ).bind fun y => ixO ρ x y) := by
  refine PE.mono (pe_ix ix_seq ha hb hs) fun σ H Q h => two (g := fun ρ x y => ixO ρ x y) (fun _ => rfl) (fun ρ M cs H x y v w1 w2 Q r e r1 r2 w => ?_) h
  have seqs : ∀ {i : Int}, y = .int i → ixO ρ x y = ((seqOf ρ x).bind fun xs => Rs.of ((ixOf xs.length i).bind fun k => xs[k]?)) → rIx X.K w1 w2 H Q := fun {i} ey q => by
    subst ey
    rw [q] at e
    obtain ⟨xs, e1, e⟩ := Rs.bind_eq_ok.mp e
    cases z : (ixOf xs.length i).bind fun k => xs[k]? with
    | none => rw [z] at e; cases e
    | some u =>
      rw [z] at e; cases e
      simp only [Option.bind_eq_some_iff] at z
      obtain ⟨k, z1, z2⟩ := z
      obtain ⟨p, vs, rfl, hq, q1⟩ := seqOf_rep r e1 r1
      obtain ⟨u', g1, g2⟩ := q1.get z2
      have ga : atI vs i = some u' := by
        unfold atI
        rw [q1.length]
        show (ixOf xs.length i).bind _ = _
        rw [z1]; exact g1
      rcases hq with hq | hq
      · exact .inl ⟨p, vs, i, u', rfl, r2, hq, ga, w.now r.le g2⟩
      · exact .inr (.inl ⟨p, vs, i, u', rfl, r2, hq, ga, w.now r.le g2⟩)
  cases y with
  | int i =>
    cases x with
    | str s =>
      simp only [ixO] at e
      split at e
      · rename_i hz
        cases z : (ixOf s.cps.toList.length i).bind fun k => (s.cps.toList[k]?).map fun c => PV.str ⟨#[c]⟩ with
        | none => rw [z] at e; cases e
        | some u =>
          rw [z] at e; cases e
          simp only [Option.bind_eq_some_iff, Option.map_eq_some_iff] at z
          obtain ⟨k, z1, c, z2, rfl⟩ := z
          refine .inr (.inr ⟨s, i, c, r1, r2, hz, ?_, w.now r.le rfl⟩)
          unfold atI
          show (ixOf s.cps.toList.length i).bind _ = _
          rw [z1]; exact z2
      · cases e
    | _ => exact seqs rfl rfl
  | _ => cases x <;> cases e

/-- an end of a slice -/
def tO (K : PySem.W.Frag) (H0 M0 : Hp) (f : Env → Rs (Option Int)) : TO := fun σ H Q => ∃ ρ M cs, R K H0 M0 σ H ρ M cs ∧ ∃ o, f ρ = .ok o ∧ ∀ H' M', Ext H M H' M' → Q o H'
theorem PO.mono {e : Option Expr} {t t' : TO} (h : PO X e t) (m : ∀ σ H Q, t' σ H Q → t σ H Q) : PO X e t' := ⟨fun pins s σ H Q I q => h.run pins s σ H Q I (m σ H Q q)⟩
abbrev O? (X : Cx) (H0 M0 : Hp) (x : Option Expr) (f : Env → Rs (Option Int)) : Prop := PO X x (tO X.K H0 M0 f)
theorem o_none : O? X H0 M0 none (fun _ => .ok none) := PO.mono po_none fun σ H Q ⟨ρ, M, cs, r, v, e, w⟩ => by cases e; exact w _ _ (.refl r.le)
theorem o_some (ha : E? X H0 M0 a fa) : O? X H0 M0 (some a) (fun ρ => (fa ρ).bind partO) :=
  PO.mono (po_some ha) fun σ H Q ⟨ρ, M, cs, r, v, e, w⟩ => by
    obtain ⟨x, e1, e⟩ := Rs.bind_eq_ok.mp e
    refine ⟨ρ, M, cs, r, x, e1, fun w1 H1 M1 x1 r1 => ?_⟩
    cases x <;> try cases e
    exact ⟨_, r1, w _ _ x1⟩
theorem cut_rep {K : PySem.W.Frag} {M : Hp} {cs : List Addr} {xs : List PV} {vs : List V} (q : Reps K M cs xs vs) (lo hi : Option Int) : Reps K M cs (cut xs lo hi) (cutV vs lo hi) := by
  unfold cut cutV
  rw [q.length]
  exact (q.drop _).take _
theorem cut_sz {α : Type} {xs : List α} {lo hi : Option Int} (h : xs.length ≤ sizeLine) : (cut xs lo hi).length ≤ sizeLine := by
  unfold cut
  (rw [List.length_take, List.length_drop])
  omega
theorem sqL_len {σ : L2.St} {H : Hp} {ρ : Env} {M : Hp} {cs : List Addr} {x : PV} {w : V} {xs : List PV} (r : R X.K H0 M0 σ H ρ M cs) (e : lstOf ρ x = .ok xs) (h : Rep X.K M cs x w) : xs.length ≤ sizeLine := by
  cases x with
  | scr ns => cases e; obtain ⟨_, _, _, z⟩ := h; rw [List.length_map]; exact z
  | lst ys => exact sqL_sz r (x := .lst ys) e h
  | cell n => exact sqL_sz r (x := .cell n) e h
  | _ => cases e
theorem seq_len {σ : L2.St} {H : Hp} {ρ : Env} {M : Hp} {cs : List Addr} {x : PV} {w : V} {xs : List PV} (r : R X.K H0 M0 σ H ρ M cs) (e : seqOf ρ x = .ok xs) (h : Rep X.K M cs x w) : xs.length ≤ sizeLine := by
  cases x with
  | tup ys => cases e; exact tup_sz r h
  | scr ns => exact sqL_len r (x := .scr ns) e h
  | lst ys => exact sqL_len r (x := .lst ys) e h
  | cell n => exact sqL_len r (x := .cell n) e h
  | _ => cases e
theorem cut_full {xs : List PV} {lo hi : Option Int} (h : HT.sIx xs.length 0 lo = 0 ∧ HT.sIx xs.length xs.length hi = xs.length) : cut xs lo hi = xs := by
  show (xs.drop (HT.sIx xs.length 0 lo)).take (HT.sIx xs.length xs.length hi - HT.sIx xs.length 0 lo) = xs
  rw [h.1, h.2]
  simp
theorem f_sl {lo hi : Option Expr} {fl fh : Env → Rs (Option Int)} {p2 : Pos} (ha : E? X H0 M0 a fa) (hl : O? X H0 M0 lo fl) (hh : O? X H0 M0 hi fh) :
    E? X H0 M0 (.Subscript a (.Slice lo hi none p2) pos) (fun ρ => (fa ρ).bind fun x => (fl ρ).bind fun l => (fh ρ).bind fun h => slO ρ x l h) := by
  refine PE.mono (pe_slice (SlR.or sl_list sl_tupA) ha hl hh) fun σ H Q ⟨ρ, M, cs, R1, v, e, w⟩ => ?_
  obtain ⟨x, e1, e⟩ := Rs.bind_eq_ok.mp e
  obtain ⟨l, e2, e⟩ := Rs.bind_eq_ok.mp e
  obtain ⟨h, e3, e⟩ := Rs.bind_eq_ok.mp e
  refine ⟨ρ, M, cs, R1, x, e1, fun w1 H1 M1 x1 r1 => ?_⟩
  refine ⟨ρ, M1, cs, R1.ext x1, l, e2, fun H2 M2 x2 => ?_⟩
  refine ⟨ρ, M2, cs, (R1.ext x1).ext x2, h, e3, fun H3 M3 x3 => ?_⟩
  have R3 := ((R1.ext x1).ext x2).ext x3
  have r3 := (r1.mono x2.m).mono x3.m
  have w3 := w.on ((x1.trans x2).trans x3)
  have lists : slO ρ x l h = ((lstOf ρ x).bind fun xs => .ok (.lst (cut xs l h))) → rSlL X.K w1 l h H3 Q := fun q => by
    rw [q] at e
    obtain ⟨xs, e4, e⟩ := Rs.bind_eq_ok.mp e
    cases e
    obtain ⟨p, vs, rfl, h1, q1⟩ := lstOf_rep R3 e4 r3
    exact ⟨p, vs, rfl, h1, fun t ht => w3.lst R3.le (cut_rep q1 l h) (by rw [(cut_rep q1 l h).length]; exact cut_sz (sqL_len R3 e4 r3)) ht⟩
  cases x with
  | tup xs =>
    cases e
    have hsz := tup_sz R3 r3
    obtain ⟨p, vs, rfl, h1, q1⟩ := r3
    refine .inr ⟨p, vs, rfl, .of (R3.le _ _ h1), fun z => ?_, fun z t ht => w3.tup R3.le (cut_rep q1 l h) (by rw [(cut_rep q1 l h).length]; exact cut_sz hsz) ht⟩
    rw [q1.length] at z
    refine w3.now R3.le ?_
    rw [cut_full z]
    exact ⟨p, vs, rfl, h1, q1⟩
  | _ => exact .inl (lists rfl)

/-! ### displays, arguments -/
theorem es_nil : Es? X H0 M0 [] (fun _ => .ok []) := PA.mono pa_nil fun σ H Q ⟨ρ, M, cs, r, v, e, w⟩ => by cases e; exact w _ _ _ (.refl r.le) rfl
theorem es_cons {es : List Expr} {fs : Env → Rs (List PV)} (hs : starEach (a :: es) X.env = (false, eval a X.env) :: starEach es X.env) (ha : E? X H0 M0 a fa) (hr : Es? X H0 M0 es fs) :
    Es? X H0 M0 (a :: es) (fun ρ => (fa ρ).bind fun v => (fs ρ).bind fun vs => .ok (v :: vs)) :=
  PA.mono (pa_cons ha hr hs) fun σ H Q ⟨ρ, M, cs, R1, v, e, w⟩ => by
    obtain ⟨x, e1, e⟩ := Rs.bind_eq_ok.mp e
    obtain ⟨xs, e2, e⟩ := Rs.bind_eq_ok.mp e
    cases e
    refine ⟨ρ, M, cs, R1, x, e1, fun w1 H1 M1 x1 r1 => ?_⟩
    refine ⟨ρ, M1, cs, R1.ext x1, xs, e2, fun ws H2 M2 x2 r2 => ?_⟩
    exact w _ _ _ (x1.trans x2) ⟨w1, ws, rfl, r1.mono x2.m, r2⟩
theorem f_tup {es : List Expr} {fs : Env → Rs (List PV)} {x1} (hz : ∀ ρ vs, fs ρ = .ok vs → vs.length ≤ sizeLine) (h : Es? X H0 M0 es fs) : E? X H0 M0 (.Tuple es x1 pos) (fun ρ => (fs ρ).bind fun vs => .ok (.tup vs)) :=
  PE.mono (pe_tup h) fun σ H Q ⟨ρ, M, cs, R1, v, e, w⟩ => by
    obtain ⟨xs, e1, e⟩ := Rs.bind_eq_ok.mp e
    cases e
    refine ⟨ρ, M, cs, R1, xs, e1, fun ws H1 M1 x1 r1 => ⟨by rw [r1.length]; exact hz ρ xs e1, fun p hp => (w.on x1).tup x1.le r1 (by rw [r1.length]; exact hz ρ xs e1) hp⟩⟩
theorem f_lst {es : List Expr} {fs : Env → Rs (List PV)} (hz : ∀ ρ vs, fs ρ = .ok vs → vs.length ≤ sizeLine) (h : Es? X H0 M0 es fs) : E? X H0 M0 (.List es pos) (fun ρ => (fs ρ).bind fun vs => .ok (.lst vs)) :=
  PE.mono (pe_lst h) fun σ H Q ⟨ρ, M, cs, R1, v, e, w⟩ => by
    obtain ⟨xs, e1, e⟩ := Rs.bind_eq_ok.mp e
    cases e
    refine ⟨ρ, M, cs, R1, xs, e1, fun ws H1 M1 x1 r1 => ⟨by rw [r1.length]; exact hz ρ xs e1, fun p hp => (w.on x1).lst x1.le r1 (by rw [r1.length]; exact hz ρ xs e1) hp⟩⟩

/-! ### calls of the text's own defs -/
/-- a def computes f: of n trees a tree -/
def SpOf (K : PySem.W.Frag) (n : Nat) (f : Sem) : Sp := fun vs H Q E => vs.length = n ∧ SzOk H ∧ ∃ M pvs r, Le M H ∧ (∀ a xs, H a = some (.tup xs) → M a = some (.tup xs)) ∧ Reps K M [] pvs vs ∧ f pvs = .ok r ∧
  ∀ w H' M', Ext H M H' M' → Rep K M' [] r w → Q w H'
theorem call_ok {n : Nat} {f : Sem} {fs : Env → Rs (List PV)} {t : TA} {E : XK} {σ : L2.St} {H : Hp} {Q : VK} (hn : ∀ ρ vs, fs ρ = .ok vs → vs.length = n)
    (h : tE X.K H0 M0 (fun ρ => (fs ρ).bind fun vs => (frzs ρ vs).bind fun ws => (f ws).bind fun r => if pures? vs || flat? r then .ok r else .bad) σ H Q) : tCall (SpOf X.K n f) [] E (tEs X.K H0 M0 fs) σ H Q := by
  obtain ⟨ρ, M, cs, R1, v, e, w⟩ := h
  obtain ⟨vs, e1, e⟩ := Rs.bind_eq_ok.mp e
  obtain ⟨zs, e2, e⟩ := Rs.bind_eq_ok.mp e
  obtain ⟨r, e3, e⟩ := Rs.bind_eq_ok.mp e
  refine ⟨ρ, M, cs, R1, vs, e1, fun ws H1 M1 x1 r1 => ?_⟩
  have R2 := R1.ext x1
  show SpOf X.K n f (ws ++ []) H1 Q E
  rw [List.append_nil]
  refine ⟨by rw [r1.length]; exact hn ρ vs e1, R2.sz, ?_⟩
  by_cases p : pures? vs = true
  · have ez : zs = vs := by unfold frzs at e2; rw [if_pos p] at e2; cases e2; rfl
    subst ez
    rw [p] at e
    simp only [Bool.true_or, if_true] at e
    cases e
    exact ⟨M1, zs, _, R2.le, R2.tu, r1.pure p, e3, fun u H' M' x2 q => (w.on x1) u H' M' x2 q.nil⟩
  · have p' : pures? vs = false := by cases q : pures? vs; rfl; exact absurd q p
    rw [p', Bool.false_or] at e
    split at e
    · rename_i fl
      cases e
      refine ⟨H1, zs, _, .refl _, fun _ _ h => h, frzs_rep R2 e2 r1, e3, fun u H' M' x2 q => ?_⟩
      -- the new objects alone come beside
      refine (w.on x1) u H' (fun a => match H1 a with | none => H' a | some _ => M1 a) ⟨x2.h, fun a o ea => ?_, fun a o ea => ?_, fun a o ea => ?_, fun a xs ea n => ?_, x2.sz⟩ (q.flat (fun a vs ha => ?_) fl)
      · show (match H1 a with | none => H' a | some _ => M1 a) = some o
        rw [R2.le a o ea]; exact ea
      · have ea : (match H1 a with | none => H' a | some _ => M1 a) = some o := ea
        split at ea
        · exact ea
        · exact x2.h a o (R2.le a o ea)
      · show (match H1 a with | none => H' a | some _ => M1 a) = M1 a
        rw [ea]
      · show (match H1 a with | none => H' a | some _ => M1 a) = some (.tup xs)
        rw [n]; exact ea
      · show (match H1 a with | none => H' a | some _ => M1 a) = some (.tup vs)
        have hh := x2.le a _ ha
        cases z : H1 a with
        | none => exact hh
        | some o =>
          have z2 := x2.h a o z
          rw [hh] at z2; cases z2
          exact R2.tu a vs z
    · cases e
theorem f_call {k n : Nat} {f : Addr} {fd : FuncData} {ps : List Str} {g : Sem} {x : Str} {es : List Expr} {fs : Env → Rs (List PV)} {p : Pos} {CX : CXT} {E : XK}
    (F : FnOk X.prog X.w X.K X.mg X.base CX k f fd ps (SpOf X.K n g)) (hr : Room k X.A) (hg : Gl X x) (hm : X.mg x = some (.ref f)) (hk : PySem.W.keepIn X.K (.ref f) = true) (hb : Binds X.K fd ps []) (hx : Passes CX X E)
    (hdb : (x == ("__debug__" : Str)) = false) (he : starEach (a :: es) X.env = (false, eval a X.env) :: starEach es X.env) (hpl : (backTo pos (starEach es X.env)).any (·.1) = false)
    (hn : ∀ ρ vs, fs ρ = .ok vs → vs.length = n) (ha : Es? X H0 M0 (a :: es) fs) :
    E? X H0 M0 (.Call (.Name x p) (a :: es) [] pos) (fun ρ => (fs ρ).bind fun vs => (frzs ρ vs).bind fun ws => (g ws).bind fun r => if pures? vs || flat? r then .ok r else .bad) :=
  PE.mono (pe_call F hr hg hm hk hb .nil hx ha hdb he hpl) fun σ H Q h => call_ok (t := fun _ _ _ => True) hn h

/-! ### built-ins by their names -/
theorem f_callB {id : String} {bi : BI} {x : Str} {es : List Expr} {fs : Env → Rs (List PV)} {p : Pos} {r : List V → Hp → VK → Prop} (hc : CallR X (.builtin id) r)
    (hr : ∀ σ ρ M cs H vs v ws Q, R X.K H0 M0 σ H ρ M cs → biO ρ bi vs = .ok v → Reps X.K M cs vs ws → Wnt X.K M cs H v Q → r ws H Q)
    (hg : Gl X x) (hm : X.mg x = none) (hv : bootBuiltins x = some (.builtin id)) (hn : x ≠ "__name__") (hdb : (x == ("__debug__" : Str)) = false)
    (he : starEach (a :: es) X.env = (false, eval a X.env) :: starEach es X.env) (hpl : (backTo pos (starEach es X.env)).any (·.1) = false) (ha : Es? X H0 M0 (a :: es) fs) :
    E? X H0 M0 (.Call (.Name x p) (a :: es) [] pos) (fun ρ => (fs ρ).bind fun vs => biO ρ bi vs) :=
  PE.mono (pe_callB hc hg hm hv ha hn hdb he hpl) fun σ H Q ⟨ρ, M, cs, R1, v, e, w⟩ => by
    obtain ⟨vs, e1, e⟩ := Rs.bind_eq_ok.mp e
    exact ⟨ρ, M, cs, R1, vs, e1, fun ws H1 M1 x1 r1 => hr σ ρ M1 cs H1 vs v ws Q (R1.ext x1) e r1 (w.on x1)⟩
theorem f_callTy {T : String} {bi : BI} {x : Str} {es : List Expr} {fs : Env → Rs (List PV)} {p : Pos} {r : List V → Hp → VK → Prop} (hc : CallR X (.type T) r)
    (hr : ∀ σ ρ M cs H vs v ws Q, R X.K H0 M0 σ H ρ M cs → biO ρ bi vs = .ok v → Reps X.K M cs vs ws → Wnt X.K M cs H v Q → r ws H Q)
    (hg : Gl X x) (hm : X.mg x = none) (hv : bootBuiltins x = some (.type T)) (hn : x ≠ "__name__") (hdb : (x == ("__debug__" : Str)) = false)
    (he : starEach (a :: es) X.env = (false, eval a X.env) :: starEach es X.env) (hpl : (backTo pos (starEach es X.env)).any (·.1) = false) (ha : Es? X H0 M0 (a :: es) fs) :
    E? X H0 M0 (.Call (.Name x p) (a :: es) [] pos) (fun ρ => (fs ρ).bind fun vs => biO ρ bi vs) :=
  PE.mono (pe_callTy hc hg hm hv ha hn hdb he hpl) fun σ H Q ⟨ρ, M, cs, R1, v, e, w⟩ => by
    obtain ⟨vs, e1, e⟩ := Rs.bind_eq_ok.mp e
    exact ⟨ρ, M, cs, R1, vs, e1, fun ws H1 M1 x1 r1 => hr σ ρ M1 cs H1 vs v ws Q (R1.ext x1) e r1 (w.on x1)⟩
theorem Reps.one_inv {K : PySem.W.Frag} {M : Hp} {cs : List Addr} {x : PV} {ws : List V} (h : Reps K M cs [x] ws) : ∃ w, ws = [w] ∧ Rep K M cs x w := by
  obtain ⟨w, r, rfl, h1, rfl⟩ := h
  exact ⟨w, rfl, h1⟩
theorem Reps.two_inv {K : PySem.W.Frag} {M : Hp} {cs : List Addr} {x y : PV} {ws : List V} (h : Reps K M cs [x, y] ws) : ∃ w u, ws = [w, u] ∧ Rep K M cs x w ∧ Rep K M cs y u := by
  obtain ⟨w, r, rfl, h1, u, r2, rfl, h2, rfl⟩ := h
  exact ⟨w, u, rfl, h1, h2⟩
end
end PF

set_option Elab.async false
set_option linter.all false
set_option maxRecDepth 100000
/-! PFs: slices with a step. -/
namespace PF
open PySem L2 PyProof.Rows

theorem filterMap_same {α β : Type} {f g : α → Option β} : ∀ {l : List α}, (∀ x ∈ l, f x = g x) → l.filterMap f = l.filterMap g
  | [], _ => rfl
  | x :: l, h => by rw [List.filterMap_cons, List.filterMap_cons, h x List.mem_cons_self, filterMap_same fun y hy => h y (List.mem_cons_of_mem _ hy)]
section
variable {pr : Program} {w : World} {A : Around} {E : Value → Shared → Prop} {s : Shared}
theorem applied_back {sl : Addr} {n : Nat} {t : Tok} {Q : Int × Int × Nat → Shared → Prop} (hsl : s.heap.IsSliceOf sl .none .none (.int (-1) t)) (h : Q ((n : Int) - 1, -1, n) s) :
    wpAny (model pr w) A (Builtin.Slice.sliceApplied (.ref sl) (pure (n : Int))) Q E s := by
  obtain ⟨so, hso, hsc, hsd⟩ := id hsl
  (unfold Builtin.Slice.sliceApplied Builtin.Slice.sliceFields)
  refine wpAny_bind (wpAny_bind (wpAny_field hso hsd (x := .none) rfl (wpAny_bind (wpAny_field hso hsd (x := .none) rfl (wpAny_bind (wpAny_field hso hsd (x := .int (-1) t) rfl (wpAny_pure ?_)))))))
  refine wpAny_bind (HT.slicePart_ (.int (-1) t) ?_)
  show wpAny _ _ (if ((-1 : Int) == 0) = true then _ else _) _ _ s
  rw [if_neg (by decide)]
  refine wpAny_bind (HT.slicePart_ .none (wpAny_bind (HT.slicePart_ .none (wpAny_bind (wpAny_pure ?_)))))
  have e : Builtin.Slice.sliceAdjust none none (-1) (n : Int) = ((n : Int) - 1, -1) := by
    (unfold Builtin.Slice.sliceAdjust)
    simp
  have e2 : Builtin.Slice.slicePlaces ((n : Int) - 1) (-1) (-1) = n := by
    (unfold Builtin.Slice.slicePlaces)
    simp
    try omega
  show wpAny _ _ (match Builtin.Slice.sliceAdjust none none (-1) (n : Int) with | (lo, hi) => pure (lo, (-1 : Int), Builtin.Slice.slicePlaces lo hi (-1))) _ _ s
  rw [e]
  show wpAny _ _ (pure ((n : Int) - 1, (-1 : Int), Builtin.Slice.slicePlaces ((n : Int) - 1) (-1) (-1))) _ _ s
  rw [e2]
  exact wpAny_pure h
theorem all_there {α : Type} : ∀ xs : List α, (List.range xs.length).filterMap (xs[·]?) = xs
  | [] => rfl
  | x :: xs => by
    rw [List.length_cons, List.range_succ_eq_map, List.filterMap_cons, List.filterMap_map]
    have := all_there xs
    simp only [List.getElem?_cons_zero, Function.comp_def, List.getElem?_cons_succ, this]
theorem pick_back (xs : Array Value) : ((List.range xs.size).filterMap fun (m : Nat) => xs[(((xs.size : Int) - 1) + (m : Int) * -1).toNat]?).toArray = xs.toList.reverse.toArray := by
  congr 1
  have e : (List.range xs.size).filterMap (fun (m : Nat) => xs[(((xs.size : Int) - 1) + (m : Int) * -1).toNat]?) = (List.range xs.size).filterMap fun m => xs.toList.reverse[m]? := by
    refine filterMap_same fun m hm => ?_
    have hm' : m < xs.size := List.mem_range.mp hm
    have e1 : (((xs.size : Int) - 1) + (m : Int) * -1).toNat = xs.size - 1 - m := by omega
    rw [e1, List.getElem?_reverse (by simpa using hm'), Array.length_toList, Array.getElem?_toList]
  rw [e]
  have hl : xs.toList.reverse.length = xs.size := by simp
  rw [← hl]
  exact all_there xs.toList.reverse
theorem getItem_tuple_back {t sl : Addr} {items : Array Value} {k : Tok} {Q : Value → Shared → Prop} (htu : IsTup s.heap t items) (hsl : s.heap.IsSliceOf sl .none .none (.int (-1) k))
    (h : Q (.ref s.heap.objs.size) { s with heap := s.heap.push { cls := .type "tuple", data := .seq items.toList.reverse.toArray } }) (hsz : items.size ≤ sizeLine) : wpAny (model pr w) A (getItem (.ref t) (.ref sl)) Q E s := by
  have hnew : sizeOk (.seq items.toList.reverse.toArray) := by
    show items.toList.reverse.toArray.size ≤ sizeLine
    simpa using hsz
  obtain ⟨so, hso, hsc, hsd⟩ := id hsl
  have hty : s.TypeIs (.ref sl) "slice" := ⟨so, hso, hsc⟩
  unfold getItem
  (try with_reducible refine wpAny_holding ?_)
  (first | refine wpAny_bind (wpAny_pure ?_) | skip)
  refine wpAny_bind (wpAny_sequenceKey htu.typeIs (by decide) ?_)
  refine wpAny_bind (wpAny_callSpecial?_slot (name := Str.ofString "__getitem__") htu.typeIs slot_tuple_getitem (wpAny_call_entry slot_tuple_getitem htu.typeIs entry_tuple_getitem ?_ (args_tuple_getitem _ _)))
  (show wpAny _ _ (Builtin.Tuple.tupleItemsOf (.ref t) >>= _) _ _ s)
  refine wpAny_bind (tupleItemsOf_ htu ?_)
  refine wpAny_bind (wpAny_typeOf hty ?_)
  rw [if_pos (by decide)]
  refine wpAny_bind (applied_back hsl ?_)
  show wpAny _ _ (if (((items.size : Int) - 1) == 0 && (-1 : Int) == 1 && items.size == items.size) = true then _ else _) _ _ s
  rw [if_neg (by simp), pick_back]
  first
    | exact wpAny_bind (m := Builtin.Tuple.tupleExact _) (wpAny_newObj_type (wpAny_pure ⟨_, rfl, wpAny_pure h⟩) hnew)
    | exact wpAny_bind (m := Builtin.Tuple.tupleExact _) (wpAny_newObj_type (wpAny_bind (wpAny_pure (wpAny_pure ⟨_, rfl, wpAny_pure h⟩))) hnew)
    | exact wpAny_bind (wpAny_bind (m := Builtin.Tuple.tupleExact _) (wpAny_newObj_type (wpAny_pure (wpAny_pure ⟨_, rfl, wpAny_pure h⟩)) hnew))
    | exact wpAny_bind (wpAny_bind (m := Builtin.Tuple.tupleExact _) (wpAny_newObj_type (wpAny_pure ⟨_, rfl, wpAny_pure h⟩) hnew))
end
def SlS (X : Cx) (r : V → Option Int → Option Int → Option Int → Hp → VK → Prop) : Prop :=
  ∀ (pp : List (Addr × Obj)) (s : Shared) (σ : L2.St) (H : Hp) (x : V) (v vl vu vs : Value) (lo hi st : Option Int) (sl : Addr) (Q : VK), Inv X pp σ H s → RelV x v → s.heap.IsSliceOf sl vl vu vs → IsPart vl lo → IsPart vu hi → IsPart vs st → r x lo hi st H Q →
    ∃ T id, typeLookup (.type T) "__getitem__" = pure (some (.builtin id)) ∧ s.TypeIs v T ∧ wpAny (model X.prog X.w) X.A (getItem v (.ref sl)) (EP X pp σ Q) X.xe s
def tSlS (r : V → Option Int → Option Int → Option Int → Hp → VK → Prop) (te : TE) (tl th ts : TO) : TE := fun σ H Q => te σ H fun x H1 => tl σ H1 fun l H2 => th σ H2 fun u H3 => ts σ H3 fun c H4 => r x l u c H4 Q
section
variable {X : Cx} {e k : Expr} {lo hi : Option Expr} {te : TE} {tl th ts : TO} {p2 pos : Pos}
theorem pe_sliceS {r : V → Option Int → Option Int → Option Int → Hp → VK → Prop} (hr : SlS X r) (he : PE X e te) (hl : PO X lo tl) (hu : PO X hi th) (hc : PO X (some k) ts) : PE X (.Subscript e (.Slice lo hi (some k) p2) pos) (tSlS r te tl th ts) := by
  refine ⟨fun pp s σ H Q I h => ?_⟩
  refine Subscript_ (thn (he.run pp s σ H _ I h) fun v s1 ⟨x, H1, I1, r1, q1⟩ => ?_)
  refine wpAny_Slice (thn (hl.run pp s1 σ H1 _ I1 q1) fun vl s2 ⟨l, H2, I2, pl, q2⟩ => thn (hu.run pp s2 σ H2 _ I2 q2) fun vu s3 ⟨u, H3, I3, pu, q3⟩ => thn (hc.run pp s3 σ H3 _ I3 q3) fun vc s4 ⟨c, H4, I4, pc, q4⟩ => ?_)
  have I5 : Inv X pp σ H4 { s4 with heap := s4.heap.push { cls := .type "slice", data := .fields #[vl, vu, vc] } } := I4.kept (t' := s4.toks) fun b ob q => Heap.get?_push_of_some _ q
  obtain ⟨T, id, hT, htu, hg⟩ := hr pp { s4 with heap := s4.heap.push { cls := .type "slice", data := .fields #[vl, vu, vc] } } σ H4 x v vl vu vc l u c s4.heap.objs.size Q I5 r1 (Heap.IsSliceOf.new ..) pl pu pc q4
  show wpAny (model X.prog X.w) X.A (subscriptTail e (.Slice lo hi (some k) p2) v (.ref s4.heap.objs.size)) (EP X pp σ Q) X.xe { s4 with heap := s4.heap.push { cls := .type "slice", data := .fields #[vl, vu, vc] } }
  exact tail_any (ops := [v, .ref s4.heap.objs.size]) htu hT hg (by with_unfolding_all rfl)
theorem vals_pick : ∀ {is : List Nat} {vs : List V} {us : List Value}, Vals vs us → Vals (is.filterMap (vs[·]?)) (is.filterMap (us[·]?))
  | [], _, _, _ => .nil
  | i :: is, vs, us, h => by
    simp only [List.filterMap_cons]
    cases e : vs[i]? with
    | none =>
      have : us[i]? = none := by
        have := h.length
        rw [List.getElem?_eq_none_iff] at e ⊢
        omega
      rw [this]
      exact vals_pick h
    | some v =>
      obtain ⟨u, hu, r⟩ := h.get e
      rw [hu]
      exact .cons r (vals_pick h)
theorem reps_pick {K : PySem.W.Frag} {M : Hp} {cs : List Addr} : ∀ {is : List Nat} {xs : List PV} {vs : List V}, Reps K M cs xs vs → Reps K M cs (is.filterMap (xs[·]?)) (is.filterMap (vs[·]?))
  | [], _, _, _ => rfl
  | i :: is, xs, vs, h => by
    simp only [List.filterMap_cons]
    cases e : xs[i]? with
    | none =>
      have : vs[i]? = none := by
        have := h.length
        rw [List.getElem?_eq_none_iff] at e ⊢
        omega
      rw [this]
      exact reps_pick h
    | some v =>
      obtain ⟨w, hw, r⟩ := h.get e
      rw [hw]
      exact ⟨w, _, rfl, r, reps_pick h⟩
theorem pick_len {α : Type} (xs : List α) (lo hi : Option Int) (st : Int) : (pickL xs lo hi st).length ≤ xs.length := by
  have h := slicePick_size_le ((xs.map fun _ => Value.none).toArray) lo hi (some st)
  have e : ∀ {α β : Type} (is : List Nat) (xs : List α) (ys : List β), xs.length = ys.length → (is.filterMap (xs[·]?)).length = (is.filterMap (ys[·]?)).length := by
    intro α β is xs ys hl
    induction is with
    | nil => rfl
    | cons i is ih =>
      simp only [List.filterMap_cons]
      by_cases q : i < xs.length
      · rw [List.getElem?_eq_getElem q, List.getElem?_eq_getElem (by omega : i < ys.length)]
        simp [ih]
      · rw [List.getElem?_eq_none (by omega), List.getElem?_eq_none (by omega)]
        exact ih
  unfold slicePick at h
  unfold pickL
  simp only [List.size_toArray, List.length_map] at h
  have e2 := e (sliceRange (sliceBounds lo hi (some st) xs.length).1 (sliceBounds lo hi (some st) xs.length).2.1 (sliceBounds lo hi (some st) xs.length).2.2) xs (xs.map fun _ => Value.none) (by simp)
  rw [e2]
  have e3 : ∀ is : List Nat, is.filterMap (fun x => ((xs.map fun _ => Value.none).toArray)[x]?) = is.filterMap fun x => (xs.map fun _ => Value.none)[x]? := fun is => filterMap_same fun i _ => by simp
  rw [e3] at h
  exact h
/-- a list from a step slice; a tuple from behind -/
def rSlS (K : PySem.W.Frag) : V → Option Int → Option Int → Option Int → Hp → VK → Prop := fun x lo hi st H Q => ∃ c, st = some c ∧ c ≠ 0 ∧ ∃ a xs, x = .ref a ∧ SqL K H a xs ∧ ∀ p, H p = none → Q (.ref p) (upd H p (.lst (pickL xs lo hi c)))
theorem sls_list : SlS X (rSlS X.K) := by
  intro pins s σ H x v vl vu vs lo hi st sl Q I rx hs pl pu ps h
  obtain ⟨c, rfl, hc, a, xs, rfl, hx, q⟩ := h
  cases rx
  (obtain ⟨its, r, ht, hz⟩ := I.list hx)
  have hlen := r.length
  refine ⟨"list", _, list_getitem_lookup, ht.isList.typeIs, ?_⟩
  refine wpAny_getItem_list_slice ht.isList hs pl pu ps (by intro z; cases z; exact hc rfl) ?_ (by rw [List.size_toArray]; omega)
  have e : slicePick its.toArray lo hi (some c) = ((sliceRange (sliceBounds lo hi (some c) xs.length).1 (sliceBounds lo hi (some c) xs.length).2.1 (sliceBounds lo hi (some c) xs.length).2.2).filterMap (its[·]?)).toArray := by
    unfold slicePick
    rw [List.size_toArray, ← hlen]
    congr 1
    exact filterMap_same fun i _ => by simp
  rw [e]
  exact ⟨.ref s.heap.objs.size, _, I.lnew (t' := s.toks) (vals_pick r) (Nat.le_trans (pick_len xs lo hi c) hz), rfl, q _ I.fresh⟩
def rSlB (K : PySem.W.Frag) : V → Option Int → Option Int → Option Int → Hp → VK → Prop := fun x lo hi st H Q => lo = none ∧ hi = none ∧ st = some (-1) ∧ ∃ a xs, x = .ref a ∧ SqT K H a xs ∧ ∀ p, H p = none → Q (.ref p) (upd H p (.tup xs.reverse))
theorem sls_tup : SlS X (rSlB X.K) := by
  intro pins s σ H x v vl vu vs lo hi st sl Q I rx hs pl pu ps h
  obtain ⟨rfl, rfl, rfl, a, xs, rfl, hx, q⟩ := h
  cases rx
  cases pl
  cases pu
  cases ps
  (obtain ⟨its, r, ht, hz⟩ := I.tuple hx)
  have hlen := r.length
  refine ⟨"tuple", _, slot_tuple_getitem.lookup, ht.typeIs, ?_⟩
  refine getItem_tuple_back ht hs ?_ (by rw [List.size_toArray]; omega)
  exact ⟨.ref s.heap.objs.size, _, I.laid (t' := s.toks) (o := .tup xs.reverse) (fun b ob q => Heap.get?_push_of_some _ q) (Nat.le_refl _) ⟨by rw [List.length_reverse]; exact hz, _, r.reverse, IsTup.new _ _⟩, rfl, q _ I.fresh⟩
theorem SlS.or {r r' : V → Option Int → Option Int → Option Int → Hp → VK → Prop} (h : SlS X r) (h' : SlS X r') : SlS X (fun x lo hi st H Q => r x lo hi st H Q ∨ r' x lo hi st H Q) := by
  intro pins s σ H x v vl vu vs lo hi st sl Q I rx hs pl pu ps q
  exact q.elim (h pins s σ H x v vl vu vs lo hi st sl Q I rx hs pl pu ps) (h' pins s σ H x v vl vu vs lo hi st sl Q I rx hs pl pu ps)
end
section
variable {X : Cx} {H0 M0 : Hp} {a c : Expr} {pos p2 : Pos} {fa fc : Env → Rs PV} {lo hi : Option Expr} {fl fh : Env → Rs (Option Int)}
theorem intOf_ok {v : PV} {i : Int} (e : intOf v = .ok i) : v = .int i := by cases v <;> cases e; rfl
theorem f_sl3 (ha : E? X H0 M0 a fa) (hl : O? X H0 M0 lo fl) (hh : O? X H0 M0 hi fh) (hc : E? X H0 M0 c fc) :
    E? X H0 M0 (.Subscript a (.Slice lo hi (some c) p2) pos) (fun ρ => (fa ρ).bind fun x => (fl ρ).bind fun l => (fh ρ).bind fun h => (fc ρ).bind fun s => (intOf s).bind fun s => sl3O ρ x l h s) := by
  refine PE.mono (pe_sliceS (SlS.or sls_list sls_tup) ha hl hh (o_some hc)) fun σ H Q ⟨ρ, M, cs, R1, v, e, w⟩ => ?_
  obtain ⟨x, e1, e⟩ := Rs.bind_eq_ok.mp e
  obtain ⟨l, e2, e⟩ := Rs.bind_eq_ok.mp e
  obtain ⟨h, e3, e⟩ := Rs.bind_eq_ok.mp e
  obtain ⟨y, e4, e⟩ := Rs.bind_eq_ok.mp e
  obtain ⟨st, e5, e⟩ := Rs.bind_eq_ok.mp e
  cases intOf_ok e5
  have e : sl3O ρ x l h st = .ok v := e
  refine ⟨ρ, M, cs, R1, x, e1, fun w1 H1 M1 x1 r1 => ?_⟩
  refine ⟨ρ, M1, cs, R1.ext x1, l, e2, fun H2 M2 x2 => ?_⟩
  refine ⟨ρ, M2, cs, (R1.ext x1).ext x2, h, e3, fun H3 M3 x3 => ?_⟩
  refine ⟨ρ, M3, cs, ((R1.ext x1).ext x2).ext x3, some st, by simp only [e4, Rs.bind_ok, partO], fun H4 M4 x4 => ?_⟩
  have R4 := (((R1.ext x1).ext x2).ext x3).ext x4
  have r4 := ((r1.mono x2.m).mono x3.m).mono x4.m
  have w4 := w.on (((x1.trans x2).trans x3).trans x4)
  have lists : sl3O ρ x l h st = ((lstOf ρ x).bind fun xs => if st = 0 then .bad else .ok (.lst (pickL xs l h st))) → rSlS X.K w1 l h (some st) H4 Q := fun q => by
    rw [q] at e
    obtain ⟨xs, e6, e⟩ := Rs.bind_eq_ok.mp e
    have hc : st ≠ 0 := by
      intro z
      rw [if_pos z] at e; cases e
    rw [if_neg hc] at e
    cases e
    obtain ⟨p, vs, rfl, h1, q1⟩ := lstOf_rep R4 e6 r4
    refine ⟨st, rfl, hc, p, vs, rfl, h1, fun t ht => w4.lst R4.le (?_ : Reps X.K M4 cs (pickL xs l h st) _) ?_ ht⟩
    · unfold pickL
      rw [q1.length]
      exact reps_pick q1
    · exact Nat.le_trans (pick_len _ _ _ _) (by rw [q1.length]; exact sqL_len R4 e6 r4)
  cases x with
  | tup xs =>
    have e : (if l = none ∧ h = none ∧ st = -1 then Rs.ok (PV.tup xs.reverse) else .bad) = .ok v := e
    have hc : l = none ∧ h = none ∧ st = -1 := by
      by_cases z : l = none ∧ h = none ∧ st = -1
      · exact z
      · rw [if_neg z] at e; cases e
    rw [if_pos hc] at e
    cases e
    have hsz := tup_sz R4 r4
    obtain ⟨p, vs, rfl, h1, q1⟩ := r4
    exact .inr ⟨hc.1, hc.2.1, by rw [hc.2.2], p, vs, rfl, .of (R4.le _ _ h1), fun t ht => w4.tup R4.le q1.reverse (by rw [q1.reverse.length, List.length_reverse]; exact hsz) ht⟩
  | _ => exact .inl (lists rfl)
end
end PF

set_option Elab.async false
set_option linter.all false
set_option maxRecDepth 100000
/-! PFe: the built-in functions. -/
namespace PF
open PySem L2

/-! ### pairs sorted -/
theorem leP_iff {a b : Int × Int} : leP a b = true ↔ a.1 < b.1 ∨ (a.1 = b.1 ∧ a.2 ≤ b.2) := by simp [leP]
theorem leP_total (a b : Int × Int) : leP a b = true ∨ leP b a = true := by rw [leP_iff, leP_iff]; omega
theorem leP_anti {a b : Int × Int} (h1 : leP a b = true) (h2 : leP b a = true) : a = b := by
  rw [leP_iff] at h1 h2
  obtain ⟨a1, a2⟩ := a
  obtain ⟨b1, b2⟩ := b
  simp only [Prod.mk.injEq] at *
  omega
theorem leP_trans {a b c : Int × Int} (h1 : leP a b = true) (h2 : leP b c = true) : leP a c = true := by
  rw [leP_iff] at *; omega
theorem permP_eq : ∀ {xs ys : List (Int × Int)}, xs.Perm ys → xs.Pairwise (fun a b => leP a b = true) → ys.Pairwise (fun a b => leP a b = true) → xs = ys
  | [], ys, p, _, _ => (List.Perm.nil_eq p)
  | x :: xs, [], p, _, _ => absurd p.length_eq (by simp)
  | x :: xs, y :: ys, p, hx, hy => by
    have hxy : x = y := by
      have h1 : x ∈ y :: ys := p.subset List.mem_cons_self
      have h2 : y ∈ x :: xs := p.symm.subset List.mem_cons_self
      have a : leP y x = true := by
        rcases List.mem_cons.mp h1 with h | h
        · subst h; rw [leP_iff]; omega
        · exact (List.pairwise_cons.mp hy).1 x h
      have b : leP x y = true := by
        rcases List.mem_cons.mp h2 with h | h
        · subst h; rw [leP_iff]; omega
        · exact (List.pairwise_cons.mp hx).1 y h
      exact leP_anti b a
    subst hxy
    rw [permP_eq (List.Perm.cons_inv p) (List.pairwise_cons.mp hx).2 (List.pairwise_cons.mp hy).2]
theorem insP_perm (x : Int × Int) : ∀ xs : List (Int × Int), (insP x xs).Perm (x :: xs)
  | [] => .refl _
  | y :: ys => by
    unfold insP
    split
    · exact .refl _
    · exact ((insP_perm x ys).cons y).trans (.swap x y ys)
theorem sortP_perm : ∀ xs : List (Int × Int), (sortP xs).Perm xs
  | [] => .refl _
  | x :: xs => (insP_perm x _).trans ((sortP_perm xs).cons x)
theorem insP_sorted (x : Int × Int) : ∀ {xs : List (Int × Int)}, xs.Pairwise (fun a b => leP a b = true) → (insP x xs).Pairwise (fun a b => leP a b = true)
  | [], _ => by simp [insP]
  | y :: ys, h => by
    unfold insP
    have hp := List.pairwise_cons.mp h
    split
    · rename_i hle
      refine List.pairwise_cons.mpr ⟨fun z hz => ?_, h⟩
      rcases List.mem_cons.mp hz with h1 | h1
      · subst h1; exact hle
      · exact leP_trans hle (hp.1 z h1)
    · rename_i hle
      have hle2 : leP y x = true := (leP_total x y).resolve_left hle
      refine List.pairwise_cons.mpr ⟨fun z hz => ?_, insP_sorted x hp.2⟩
      rcases List.mem_cons.mp ((insP_perm x ys).subset hz) with h1 | h1
      · subst h1; exact hle2
      · exact hp.1 z h1
theorem sortP_sorted : ∀ xs : List (Int × Int), (sortP xs).Pairwise (fun a b => leP a b = true)
  | [] => .nil
  | x :: xs => insP_sorted x (sortP_sorted xs)
theorem sortP_eq {xs ys : List (Int × Int)} (p : ys.Perm xs) (h : ys.Pairwise (fun a b => leP a b = true)) : ys = sortP xs := permP_eq (p.trans (sortP_perm xs).symm) h (sortP_sorted xs)

section
variable {X : Cx} {H0 M0 : Hp} {fa fb fc : Env → Rs PV} {a b c : Expr} {pos : Pos}
/-- what is asked of a built-in's values and what it gives -/
abbrev BiR (X : Cx) (H0 M0 : Hp) (b : BI) (r : List V → Hp → VK → Prop) : Prop := ∀ (σ : L2.St) ρ M cs H vs v ws Q, R X.K H0 M0 σ H ρ M cs → biO ρ b vs = .ok v → Reps X.K M cs vs ws → Wnt X.K M cs H v Q → r ws H Q

theorem rs_of {α : Type} {o : Option α} {v : α} (e : Rs.of o = .ok v) : o = some v := by
  cases o with
  | none => cases e
  | some u => cases e; rfl
theorem bi_len : BiR X H0 M0 .len (fun xs H Q => (∃ p ys, xs = [.ref p] ∧ (SqL X.K H p ys ∨ SqT X.K H p ys) ∧ Q (.int ys.length) H) ∨ (∃ z, xs = [.str z] ∧ z.length ≤ sizeLine ∧ Q (.int z.length) H)) := by
  intro σ ρ M cs H vs v ws Q r e q w
  match vs with
  | [] => cases e
  | x :: y :: l => cases x <;> cases e
  | [x] =>
    obtain ⟨u, rfl, h⟩ := Reps.one_inv q
    have seqs : biO ρ .len [x] = ((seqOf ρ x).bind fun xs => .ok (.int xs.length)) → (∃ p ys, [u] = [.ref p] ∧ (SqL X.K H p ys ∨ SqT X.K H p ys) ∧ Q (.int ys.length) H) := fun z => by
      rw [z] at e
      obtain ⟨xs, e1, e⟩ := Rs.bind_eq_ok.mp e
      cases e
      obtain ⟨p, us, rfl, h1, q1⟩ := seqOf_rep r e1 h
      exact ⟨p, us, rfl, h1, by rw [q1.length]; exact w.now r.le rfl⟩
    cases x with
    | str s =>
      simp only [biO] at e
      split at e
      · rename_i hz
        cases e
        cases h
        exact .inr ⟨s, rfl, hz, w.now r.le rfl⟩
      · cases e
    | _ => exact .inl (seqs rfl)
theorem bi_tuple : BiR X H0 M0 .tuple (fun xs H Q => ∃ p ys, xs = [.ref p] ∧ ((SqL X.K H p ys ∧ ∀ l, H l = none → Q (.ref l) (upd H l (.tup ys))) ∨ (SqT X.K H p ys ∧ Q (.ref p) H))) := by
  intro σ ρ M cs H vs v ws Q r e q w
  match vs with
  | [] => cases e
  | x :: y :: l => cases e
  | [x] =>
    obtain ⟨u, rfl, h⟩ := Reps.one_inv q
    obtain ⟨xs, e1, e⟩ := Rs.bind_eq_ok.mp e
    cases e
    cases x with
    | tup ys =>
      cases e1
      obtain ⟨p, us, rfl, h1, q1⟩ := h
      exact ⟨p, us, rfl, .inr ⟨.of (r.le _ _ h1), w.now r.le ⟨p, us, rfl, h1, q1⟩⟩⟩
    | _ =>
      have e1' := e1
      obtain ⟨p, us, rfl, h1, q1⟩ := lstOf_rep r (xs := xs) (by first | exact e1 | cases e1) h
      exact ⟨p, us, rfl, .inl ⟨h1, fun t ht => w.tup r.le q1 (by rw [q1.length]; exact seq_len r e1' h) ht⟩⟩
theorem bi_list : BiR X H0 M0 .list (fun xs H Q => ∃ p ys, xs = [.ref p] ∧ (SqL X.K H p ys ∨ SqT X.K H p ys) ∧ ∀ l, H l = none → Q (.ref l) (upd H l (.lst ys))) := by
  intro σ ρ M cs H vs v ws Q r e q w
  match vs with
  | [] => cases e
  | x :: y :: l => cases e
  | [x] =>
    obtain ⟨u, rfl, h⟩ := Reps.one_inv q
    obtain ⟨xs, e1, e⟩ := Rs.bind_eq_ok.mp e
    cases e
    obtain ⟨p, us, rfl, h1, q1⟩ := seqOf_rep r e1 h
    exact ⟨p, us, rfl, h1, fun t ht => w.lst r.le q1 (by rw [q1.length]; exact seq_len r e1 h) ht⟩
theorem bi_sum : BiR X H0 M0 .sum (rSum X.K) := by
  intro σ ρ M cs H vs v ws Q r e q w
  match vs with
  | [] => cases e
  | x :: y :: l => cases e
  | [x] =>
    obtain ⟨u, rfl, h⟩ := Reps.one_inv q
    obtain ⟨xs, e1, e⟩ := Rs.bind_eq_ok.mp e
    have e2 := rs_of e
    simp only [Option.map_eq_some_iff] at e2
    obtain ⟨ns, e3, rfl⟩ := e2
    obtain ⟨p, us, rfl, h1, q1⟩ := lstOf_rep r e1 h
    have q2 := q1.ints e3
    subst q2
    exact ⟨p, ns, rfl, h1, w.now r.le rfl⟩
theorem bi_all : BiR X H0 M0 .all (rAll X.K) := by
  intro σ ρ M cs H vs v ws Q r e q w
  match vs with
  | [] => cases e
  | x :: y :: l => cases e
  | [x] =>
    obtain ⟨u, rfl, h⟩ := Reps.one_inv q
    obtain ⟨xs, e1, e⟩ := Rs.bind_eq_ok.mp e
    have e2 := rs_of e
    simp only [Option.map_eq_some_iff] at e2
    obtain ⟨ns, e3, rfl⟩ := e2
    obtain ⟨p, us, rfl, h1, q1⟩ := lstOf_rep r e1 h
    have q2 := q1.bls e3
    subst q2
    exact ⟨p, ns, rfl, h1, w.now r.le rfl⟩
theorem bi_any : BiR X H0 M0 .any (rAny X.K) := by
  intro σ ρ M cs H vs v ws Q r e q w
  match vs with
  | [] => cases e
  | x :: y :: l => cases e
  | [x] =>
    obtain ⟨u, rfl, h⟩ := Reps.one_inv q
    obtain ⟨xs, e1, e⟩ := Rs.bind_eq_ok.mp e
    have e2 := rs_of e
    simp only [Option.map_eq_some_iff] at e2
    obtain ⟨ns, e3, rfl⟩ := e2
    obtain ⟨p, us, rfl, h1, q1⟩ := lstOf_rep r e1 h
    have q2 := q1.bls e3
    subst q2
    exact ⟨p, ns, rfl, h1, w.now r.le rfl⟩
theorem bi_max : BiR X H0 M0 .max (fun xs H Q => (∃ i j, xs = [.int i, .int j] ∧ Q (.int (if j > i then j else i)) H) ∨ rMax X.K xs H Q) := by
  intro σ ρ M cs H vs v ws Q r e q w
  match vs with
  | [] => cases e
  | x :: y :: z :: l => cases x <;> try cases e
                        cases y <;> cases e
  | [x, y] =>
    obtain ⟨u, t, rfl, h1, h2⟩ := Reps.two_inv q
    cases x <;> try cases e
    cases y <;> try cases e
    cases h1; cases h2
    exact .inl ⟨_, _, rfl, w.now r.le rfl⟩
  | [x] =>
    obtain ⟨u, rfl, h⟩ := Reps.one_inv q
    have e : ((lstOf ρ x).bind fun xs => Rs.of ((intsOf xs).bind fun ns => match ns with | [] => none | n :: r => some (PV.int (maxI n r)))) = .ok v := by cases x <;> exact e
    obtain ⟨xs, e1, e⟩ := Rs.bind_eq_ok.mp e
    have e2 := rs_of e
    simp only [Option.bind_eq_some_iff] at e2
    obtain ⟨ns, e3, e4⟩ := e2
    obtain ⟨p, us, rfl, h1, q1⟩ := lstOf_rep r e1 h
    have q2 := q1.ints e3
    subst q2
    cases ns with
    | nil => cases e4
    | cons n ns =>
      cases e4
      refine .inr ⟨p, n :: ns, rfl, h1, by simp, fun m hm hle => ?_⟩
      rw [maxI_eq hm hle]
      exact w.now r.le rfl
theorem bi_min : BiR X H0 M0 .min (fun xs H Q => (∃ i j, xs = [.int i, .int j] ∧ Q (.int (if j < i then j else i)) H) ∨ rMin X.K xs H Q) := by
  intro σ ρ M cs H vs v ws Q r e q w
  match vs with
  | [] => cases e
  | x :: y :: z :: l => cases x <;> try cases e
                        cases y <;> cases e
  | [x, y] =>
    obtain ⟨u, t, rfl, h1, h2⟩ := Reps.two_inv q
    cases x <;> try cases e
    cases y <;> try cases e
    cases h1; cases h2
    exact .inl ⟨_, _, rfl, w.now r.le rfl⟩
  | [x] =>
    obtain ⟨u, rfl, h⟩ := Reps.one_inv q
    have e : ((lstOf ρ x).bind fun xs => Rs.of ((intsOf xs).bind fun ns => match ns with | [] => none | n :: r => some (PV.int (minI n r)))) = .ok v := by cases x <;> exact e
    obtain ⟨xs, e1, e⟩ := Rs.bind_eq_ok.mp e
    have e2 := rs_of e
    simp only [Option.bind_eq_some_iff] at e2
    obtain ⟨ns, e3, e4⟩ := e2
    obtain ⟨p, us, rfl, h1, q1⟩ := lstOf_rep r e1 h
    have q2 := q1.ints e3
    subst q2
    cases ns with
    | nil => cases e4
    | cons n ns =>
      cases e4
      refine .inr ⟨p, n :: ns, rfl, h1, by simp, fun m hm hle => ?_⟩
      rw [minI_eq hm hle]
      exact w.now r.le rfl
theorem bi_int : BiR X H0 M0 .int (fun xs H Q => (∃ i, xs = [.int i] ∧ Q (.int i) H) ∨ ∃ k, xs = [.bl k] ∧ Q (.int (if k then 1 else 0)) H) := by
  intro σ ρ M cs H vs v ws Q r e q w
  match vs with
  | [] => cases e
  | x :: y :: l => cases x <;> cases e
  | [x] =>
    obtain ⟨u, rfl, h⟩ := Reps.one_inv q
    cases x <;> try cases e
    · cases h; exact .inr ⟨_, rfl, w.now r.le rfl⟩
    · cases h; exact .inl ⟨_, rfl, w.now r.le rfl⟩
theorem bi_abs : BiR X H0 M0 .abs (fun xs H Q => ∃ i, xs = [.int i] ∧ Q (.int (if i < 0 then -i else i)) H) := by
  intro σ ρ M cs H vs v ws Q r e q w
  match vs with
  | [] => cases e
  | x :: y :: l => cases x <;> cases e
  | [x] =>
    obtain ⟨u, rfl, h⟩ := Reps.one_inv q
    cases x <;> try cases e
    cases h; exact ⟨_, rfl, w.now r.le rfl⟩

theorem Reps.pairs {K : PySem.W.Frag} {M : Hp} {cs : List Addr} : ∀ {xs : List PV} {ws : List V} {ps : List (Int × Int)}, pairsOf xs = some ps → Reps K M cs xs ws →
    ∃ k : V → Int × Int, (∀ w ∈ ws, ∃ t, w = V.ref t ∧ M t = some (.tup [.int (k w).1, .int (k w).2])) ∧ ws.map k = ps
  | [], _, _, e, h => by cases h; simp [pairsOf] at e; subst e; exact ⟨fun _ => (0, 0), by simp, rfl⟩
  | x :: xs, ws, ps, e, ⟨w, r, q, h1, h2⟩ => by
    subst q
    match x, e with
    | .tup [.int i, .int j], e =>
      simp only [pairsOf, Option.map_eq_some_iff] at e
      obtain ⟨qs, e1, rfl⟩ := e
      obtain ⟨k, k1, k2⟩ := Reps.pairs e1 h2
      obtain ⟨t, vs, rfl, s, w1, r1, rfl, g1, w2, r2, rfl, g2, rfl⟩ := h1
      cases g1; cases g2
      refine ⟨fun u => if u = .ref t then (i, j) else k u, fun u hu => ?_, ?_⟩
      · (rcases List.mem_cons.mp hu with rfl | hu)
        · exact ⟨t, rfl, by simpa using s⟩
        · by_cases z : u = .ref t
          · subst z; exact ⟨t, rfl, by simpa using s⟩
          · obtain ⟨t', a1, a2⟩ := k1 u hu
            exact ⟨t', a1, by simpa [z] using a2⟩
      · simp only [List.map_cons, if_pos rfl]
        refine congrArg ((i, j) :: ·) ?_
        rw [← k2]
        refine List.map_congr_left fun u hu => ?_
        by_cases z : u = .ref t
        · subst z
          rw [if_pos rfl]
          obtain ⟨t', e1, e2⟩ := k1 _ hu
          cases e1
          rw [s] at e2
          injection e2 with e2
          injection e2 with e2
          injection e2 with a1 a2
          injection a2 with a2 _
          injection a1 with a1
          injection a2 with a2
          exact Prod.ext a1 a2
        · rw [if_neg z]
theorem srtd_pw {k : V → Int × Int} {ys : List V} (h : SrtO.Srtd (ltP k) ys) : (ys.map k).Pairwise (fun a b => leP a b = true) := by
  refine List.pairwise_map.mpr (List.Pairwise.imp ?_ h)
  intro a b hab
  rw [leP_iff]
  have h1 : SrtO.lexB (k b) (k a) = false := hab
  have h2 : ¬ SrtO.lexB (k b) (k a) = true := by rw [h1]; exact Bool.false_ne_true
  rw [SrtO.lexB_iff] at h2
  omega
theorem Reps.of_pairs {K : PySem.W.Frag} {M : Hp} {cs : List Addr} {k : V → Int × Int} : ∀ {ws : List V}, (∀ w ∈ ws, ∃ t, w = V.ref t ∧ M t = some (.tup [.int (k w).1, .int (k w).2])) → Reps K M cs ((ws.map k).map pairV) ws
  | [], _ => rfl
  | w :: ws, h => by
    obtain ⟨t, e1, e2⟩ := h w List.mem_cons_self
    refine ⟨w, ws, rfl, ⟨t, _, e1, e2, .int (k w).1, _, rfl, rfl, .int (k w).2, _, rfl, rfl, rfl⟩, Reps.of_pairs fun u hu => h u (List.mem_cons_of_mem _ hu)⟩
theorem bi_sorted : BiR X H0 M0 .sorted (fun xs H Q => rSortedI X.K xs H Q ∨ rSortedPO X.K xs H Q) := by
  intro σ ρ M cs H vs v ws Q r e q w
  match vs with
  | [] => cases e
  | x :: y :: l => cases x <;> cases e
  | [x] =>
    obtain ⟨u, rfl, h⟩ := Reps.one_inv q
    obtain ⟨xs, e1, e⟩ := Rs.bind_eq_ok.mp e
    have e2 := rs_of e
    obtain ⟨p, us, rfl, h1, q1⟩ := lstOf_rep r e1 h
    cases z : intsOf xs with
    | some ns =>
      rw [z] at e2
      cases e2
      have q2 := q1.ints z
      subst q2
      have hsz : (ns.map V.int).length ≤ sizeLine := by rw [q1.length]; exact sqL_len r e1 h
      refine .inl ⟨p, ns, rfl, h1, fun ns' t hp hs ht => ?_⟩
      rw [sortI_eq hp hs]
      exact w.lst r.le (Reps.of_ints _) (by
        rw [List.length_map, (sortI_perm ns).length_eq, ← List.length_map (f := V.int)]
        exact hsz) ht
    | none =>
      rw [z] at e2
      simp only [Option.map_eq_some_iff] at e2
      obtain ⟨ps, e3, rfl⟩ := e2
      obtain ⟨k, k1, k2⟩ := Reps.pairs e3 q1
      refine .inr ⟨p, us, k, rfl, h1, fun y hy => ?_, fun ys t hs hst ht => ?_⟩
      · obtain ⟨t, a1, a2⟩ := k1 y hy
        exact ⟨t, a1, r.le _ _ a2⟩
      · have eq : ys.map k = sortP ps := sortP_eq (by rw [← k2]; exact hst.perm.map k) (srtd_pw hs)
        refine w.lst r.le ?_ (by rw [hst.perm.length_eq, q1.length]; exact sqL_len r e1 h) ht
        rw [← eq]
        exact Reps.of_pairs fun y hy => k1 y (hst.perm.subset hy)
end
end PF

set_option Elab.async false
set_option linter.all false
set_option maxRecDepth 100000
set_option maxHeartbeats 8000000
/-! PFf: enumerate over a tuple. -/
namespace PFT
open PySem
/-- the two objects -/
abbrev tIt (t : Addr) : Obj := { cls := .type "tuple_iterator", data := .fields #[.ref t, .int 0 0] }
abbrev eOb (a : Addr) : Obj := { cls := .type "enumerate", data := .fields #[.none, .bool false, .ref a, rawInt 0, .none, .none] }
theorem enumNewT (t : Addr) (items : Array Value) (n : Nat) (dic : Option Addr) (slo : Array (Option Value)) : Meets (Builtin.«enumerate.__new__» ⟨[.type "enumerate", .ref t], []⟩) (fun _ R s => s.heap.get? t = some { cls := .type "tuple", dict := dic, data := .seq items n, slots := slo } ∧
      R (.ok (.ret (.ref (s.heap.push (tIt t)).objs.size))) { s with heap := (s.heap.push (tIt t)).push (eOb s.heap.objs.size) }) := by
  refine Meets.of_wp fun pr w A R s h => ?_
  obtain ⟨h0, g, d, tk0, os0⟩ := s
  obtain ⟨hla, h⟩ := h
  have hsub := sub_enumerate
  have hL : Heap.IsTuple (Shared.heap ⟨h0, g, d, tk0, os0⟩) t items := ⟨_, hla, rfl, n, rfl⟩
  wp_walk using AutoSeq1.wpAny_loadPart' hla
  (refine wpAny_stack_any fun st => wpAny_pure ?_)
  split
  · rename_i c _ _ _ _ _
    cases (c == Value.type "enumerate") <;> (wp_walk using AutoSeq1.wpAny_loadPart' hla, wpAny_pyIter_tuple hL; exact ⟨_, rfl, h⟩)
  · wp_walk using AutoSeq1.wpAny_loadPart' hla, wpAny_pyIter_tuple hL
    exact ⟨_, rfl, h⟩
section
variable {pr : Program} {w : World} {A : Around} {E : Value → Shared → Prop} {s : Shared}
theorem call_enumT {t : Addr} {items : Array Value} {Q : Value → Shared → Prop} (hL : s.heap.IsTuple t items)
    (h : ∀ h', IsEnum h' (s.heap.objs.size + 1) s.heap.objs.size 0 .none → h'.IsTupleIter s.heap.objs.size t 0 → (∀ b o, s.heap.get? b = some o → h'.get? b = some o) → Q (.ref (s.heap.objs.size + 1)) { s with heap := h' }) :
    wpAny (model pr w) A (call (.type "enumerate") [.ref t]) Q E s := by
  obtain ⟨⟨c, dic, dt, slo⟩, hla, hcl, n, hda⟩ := hL
  cases (show c = .type "tuple" from hcl)
  cases (show dt = .seq items n from hda)
  refine callType_new F.called_enumerate (by decide) (F.typeCall_enumerate_1 _) (F.newCall_enumerate_1 _)
    (fun obj => F.args_object_init_2 obj _) F.entry_enumerate_new (enumNewT t items n dic slo) ⟨hla, ?_⟩
  have wz : (s.heap.push (tIt t)).objs.size = s.heap.objs.size + 1 := Heap.size_push ..
  show _ ∧ _
  rw [wz]
  have hen : IsEnum ((s.heap.push (tIt t)).push (eOb s.heap.objs.size)) (s.heap.objs.size + 1) s.heap.objs.size 0 .none := by
    have q := Heap.get?_push_size (s.heap.push (tIt t)) (o := eOb s.heap.objs.size) rfl
    rw [wz] at q
    exact q
  refine ⟨⟨_, hen, rfl⟩, h _ hen ⟨_, Heap.get?_push_of_some _ (Heap.get?_push_size _ rfl), rfl, rfl⟩ fun b o x => ?_⟩
  exact Heap.get?_push_of_some _ (Heap.get?_push_of_some _ x)
theorem next_enumT_end {e it t : Addr} {i : Nat} {items : Array Value} {was : Value} {Q : Option Value → Shared → Prop} (hh : A.handled = none) (hen : IsEnum s.heap e it i was) (hsi : s.heap.IsTupleIter it t i)
    (ht : s.heap.IsTuple t items) (hat : items[i]? = none) (hQ : ∀ h', Heap.ExtBut it s.heap h' → Q none { s with heap := h' }) : wpAny (model pr w) A (pyNext (.ref e)) Q E s := by
  have hty : s.TypeIs (.ref e) "enumerate" := ⟨_, hen, rfl⟩
  unfold pyNext
  refine wpAny_bind (wpAny_attempt (wpAny_callSpecial?_slot (name := Str.ofString "__next__") hty F.slot_enumerate_next (wpAny_call_entry F.slot_enumerate_next hty
    F.entry_enumerate_next ?_ (F.args_enumerate_next_1 _))))
  (show wpAny _ _ (field (.ref e) 2 >>= _) _ _ _)
  refine wpAny_bind (wpAny_field hen rfl (x := .ref it) rfl ?_)
  refine wpAny_bind (wpAny_nextOf_tuple_end hh hsi ht hat fun h' x he' hx' => ?_)
  obtain ⟨o, hob, hcl⟩ := hx'
  refine wpAny_bind (wpAny_isInstance (T := "StopIteration") (b := true) ⟨o, hob, hcl⟩ isSubtype_stop (wpAny_pure (hQ _ he')))
end
end PFT
namespace PF
open PySem L2 PFT
/-- the tuple at a, each item in a pair of its own with ws0 number -/
def Itet (K : PySem.W.Frag) (a : Addr) : L2.It := ⟨fun i H => ∃ (xs : List V) (x : V), SqT K H a xs ∧ xs[i]? = some x,
  fun i H v H' => ∃ T x, v = .ref T ∧ H T = none ∧ H' = upd H T (.tup [.int (i : Nat), x]) ∧ ∀ xs, SqT K H a xs → xs[i]? = some x, fun i H => ∃ xs : List V, SqT K H a xs ∧ xs.length ≤ i⟩
theorem turn_enumT {P : Program} {w : World} {K : PySem.W.Frag} {elts : List Expr} {kk : Nat} {tpos : Pos} (a e it : Addr) :
    Turn P w K (.Tuple elts kk tpos) (Itet K a) [e, it] e (fun i h => (∃ was, IsEnum h e it ((i : Nat) : Int) was) ∧ h.IsTupleIter it a i ∧ e ≠ it ∧ a ≠ it ∧ e ≠ a) where
  mem := by simp
  obj := fun i h st b hb => by
    obtain ⟨⟨was, hen⟩, ⟨o, hob, hcl, hda⟩, _⟩ := st
    rcases (show b = e ∨ b = it by simpa using hb) with rfl | rfl
    · exact ⟨_, hen, fun v q => nomatch q⟩
    · exact ⟨o, hob, fun v q => by rw [hda] at q; cases q⟩
  keep := fun i h h' st k => by
    obtain ⟨⟨was, hen⟩, hi, hne⟩ := st
    exact ⟨⟨was, k e (by simp) _ hen⟩, hi.at fun o q => k it (by simp) o q, hne⟩
  item := by
    intro X hP hw hK hcl i pp s σ H E I hf st hg
    subst hP hw hK
    obtain ⟨⟨was, hen⟩, hsi, hne, hai, hea⟩ := st
    obtain ⟨xs, x, hseq, hat⟩ := hg
    obtain ⟨ws0, wv, p, wz⟩ := I.tuple hseq
    obtain ⟨u, hu, wr⟩ := wv.get hat
    have he1 : e < s.heap.objs.size := Heap.lt_size hen
    have hi1 : it < s.heap.objs.size := by obtain ⟨_, q, _⟩ := hsi; exact Heap.lt_size q
    have D := Draws.tuple (prog := X.prog) (w := X.w) (A := X.A.in1) (I.ok.hd hcl) it a hai ws0.toArray
    have hlt : i < ws0.toArray.size := by
      have := (List.getElem?_eq_some_iff.mp hu).1
      simpa using this
    refine wpAny_pyNext_enum_itemD D hen ⟨hsi, p⟩ hlt hne (by simp [hne, hea]) fun z h' tk0 hPz hob hst' hty hsz hk => ?_
    have hzu : z = u := by
      have q : ws0.toArray[i]? = some z := hPz
      have q2 : ws0[i]? = some z := by simpa using q
      rw [hu] at q2; exact (Option.some.inj q2).symm
    subst hzu
    refine ⟨_, rfl, wpAny_letOwnedTupleGo_enum (s := { s with heap := h', toks := tk0 + 1 }) hob fun h'' he' sb => ?_⟩
    have hT2 : h''.get? s.heap.objs.size = some { cls := .type "tuple", data := .seq #[.int i tk0, z] } := (sb.2 _ (Nat.ne_of_gt he1)).trans hty
    have newO : ObjOk X.prog X.w (upd H s.heap.objs.size (.tup [.int (i : Nat), x])) h'' s.heap.objs.size (.tup [.int (i : Nat), x]) :=
      ⟨by show 2 ≤ sizeLine; decide, [.int i tk0, z], .cons ⟨_, rfl⟩ (.cons wr .nil), ⟨_, hT2, rfl, _, rfl⟩⟩
    have I1 := I.turnedNew (t' := tk0 + 1) (ch := [e, it]) (fun b ob hb q => (sb.2 b (fun z => hb (by simp [z]))).trans (hk b ob (fun z => hb (by simp [z])) (fun z => hb (by simp [z])) q)) hf (Nat.le_refl _) newO
    refine ⟨.ref s.heap.objs.size, _, I1, rfl, ⟨_, x, rfl, I.hok.fresh (Nat.le_refl _), rfl, fun ys hy => by rw [I.tuple_inj hy hseq]; exact hat⟩, ⟨⟨z, ?_⟩, hst'.1.at fun o q => (sb.2 it (Ne.symm hne)).trans q, hne, hai, hea⟩, fun b hb => ?_⟩
    · rw [show ((i + 1 : Nat) : Int) = (i : Int) + 1 by omega]; exact he'
    · have hb1 : b < s.heap.objs.size := by
        rcases (show b = e ∨ b = it by simpa using hb) with rfl | rfl
        · exact he1
        · exact hi1
      rw [upd_ne (Nat.ne_of_lt hb1)]
      exact (hf b hb).1
  done := by
    intro X hP hw hK hcl i pp s σ H E I hf st hg
    subst hP hw hK
    obtain ⟨⟨was, hen⟩, hsi, hne, hai, hea⟩ := st
    obtain ⟨xs, hseq, hat⟩ := hg
    obtain ⟨ws0, wv, p, wz⟩ := I.tuple hseq
    obtain ⟨g0, g1, g2, g3, g4, g5⟩ := hf it (by simp)
    have hla := wv.length
    refine next_enumT_end (I.ok.hd hcl) hen hsi p (by simp; omega) fun h' eb => ⟨rfl, I.turned (t' := s.toks) (fun b o hb q => eb b o hb q) g0 g1 g3 g4 g5⟩
  self := fun Ar i s Q E st h => by
    obtain ⟨⟨_, hen⟩, _⟩ := st
    exact wpAny_pyIter_enum hen h
def iEnumT (K : PySem.W.Frag) (ta : TA) : TI := fun σ H R => ta σ H fun vs H1 => ∃ a xs, vs = [.ref a] ∧ SqT K H1 a xs ∧ R (Itet K a) H1
theorem pi_enumT {X : Cx} {e : Expr} {ta : TA} {p pos tpos : Pos} {elts : List Expr} {kk : Nat} (hg : Gl X "enumerate") (hm : X.mg "enumerate" = none) (ha : PA X [e] ta)
    (hs : starEach [e] X.env = [(false, eval e X.env)]) : PI X (.Tuple elts kk tpos) (.Call (.Name "enumerate" p) [e] [] pos) (iEnumT X.K ta) := by
  refine ⟨fun pp s σ H R I h => ?_⟩
  refine PyProof.Rows.Call_ (ld_blt I hg hm PyProof.Rows.boot_enumerate (PyProof.Rows.callWith_type1 (thn (ha.run pos pp s σ H _ I h) fun us s1 ⟨vs, H1, I1, r1, q1⟩ => ?_) hs rfl))
  obtain ⟨a, xs, ex, hseq, q⟩ := q1
  subst ex
  cases r1 with
  | cons r rr =>
    cases rr
    cases r
    obtain ⟨ws0, wv, p', wz⟩ := I1.tuple hseq
    have hal : a < s1.heap.objs.size := by obtain ⟨o, hob, _⟩ := p'; exact Heap.lt_size hob
    refine call_enumT p' fun h' hen hsi hk => wpAny_pyIter_enum hen ?_
    have J2 : Inv X pp σ H1 { s1 with heap := h' } := I1.kept (t' := s1.toks) hk
    refine ⟨s1.heap.objs.size + 1, [s1.heap.objs.size + 1, s1.heap.objs.size], _, _, H1, rfl, J2, turn_enumT a _ s1.heap.objs.size, ⟨⟨.none, hen⟩, hsi, Nat.succ_ne_self _, Nat.ne_of_lt hal, Nat.ne_of_gt (Nat.lt_succ_of_lt hal)⟩, fun b hb => ?_, q⟩
    have lo1 : s1.heap.objs.size ≤ b := by
      rcases (show b = s1.heap.objs.size + 1 ∨ b = s1.heap.objs.size by simpa using hb) with rfl | rfl <;> omega
    exact I1.fpOk lo1 (I1.hok.fresh lo1)
end PF

set_option Elab.async false
set_option linter.all false
set_option maxRecDepth 100000
/-! PFg: what is walked. -/
namespace PF
open PySem L2 RZ RT

abbrev SrcOk (K : PySem.W.Frag) (M H : Hp) (cs : List Addr) (src : List (Addr × List PV)) : Prop := ∀ p ∈ src, ∃ vs, H p.1 = some (.lst vs) ∧ Reps K M cs p.2 vs
/-- the walk J gives xs, wherever M1 still stands and the cells that are walked hold what they held -/
structure Wk (K : PySem.W.Frag) (J : L2.It) (M1 : Hp) (cs : List Addr) (src : List (Addr × List PV)) (xs : List PV) : Prop where
  go : ∀ (i : Nat) M H v, Le M1 M → Le M H → SrcOk K M H cs src → xs[i]? = some v → J.go i H ∧ ∀ x H', J.yld i H x H' → ∃ M', Ext H M H' M' ∧ Rep K M' cs v x
  stop : ∀ (i : Nat) M H, Le M1 M → Le M H → SrcOk K M H cs src → xs.length ≤ i → J.stop i H
  sz : xs.length ≤ sizeLine
/-- the list at a is xs, so long -/
def LDat (K : PySem.W.Frag) (M1 : Hp) (cs : List Addr) (src : List (Addr × List PV)) (a : Addr) (xs : List PV) : Prop := ∀ M H, Le M1 M → Le M H → SrcOk K M H cs src → ∃ vs, SqL K H a vs ∧ Reps K M cs xs vs
def TDat (K : PySem.W.Frag) (M1 : Hp) (cs : List Addr) (a : Addr) (xs : List PV) : Prop := ∀ M H, Le M1 M → Le M H → ∃ vs, SqT K H a vs ∧ Reps K M cs xs vs
theorem LDat.mono {K : PySem.W.Frag} {M1 M2 : Hp} {cs : List Addr} {src src' : List (Addr × List PV)} {a : Addr} {xs : List PV} (h : LDat K M1 cs src a xs) (l : Le M1 M2) (hs : ∀ p ∈ src, p ∈ src') : LDat K M2 cs src' a xs :=
  fun M H l1 l2 s => h M H (l.trans l1) l2 fun p hp => s p (hs p hp)
theorem TDat.mono {K : PySem.W.Frag} {M1 M2 : Hp} {cs : List Addr} {a : Addr} {xs : List PV} (h : TDat K M1 cs a xs) (l : Le M1 M2) : TDat K M2 cs a xs := fun M H l1 l2 => h M H (l.trans l1) l2

/-- the cells at src are those that ns names -/
def Src (ρ : Env) (cs : List Addr) (ns : List Nat) (src : List (Addr × List PV)) : Prop := ∀ p ∈ src, ∃ n ∈ ns, cs[n]? = some p.1 ∧ content ρ.ce n = some (.lst p.2)
def tI (K : PySem.W.Frag) (H0 M0 : Hp) (f : Env → Rs (List PV)) (fs : Env → List Nat) : TI := fun σ H Rk => ∃ ρ M cs, R K H0 M0 σ H ρ M cs ∧ ∃ xs, f ρ = .ok xs ∧
  ∀ J H' M' src, Ext H M H' M' → Src ρ cs (fs ρ) src → Wk K J M' cs src xs → Rk J H'
abbrev I? (X : Cx) (H0 M0 : Hp) (tg x : Expr) (f : Env → Rs (List PV)) (fs : Env → List Nat) : Prop := PI X tg x (tI X.K H0 M0 f fs)
/-- the cell that a value is -/
def cellsOf (r : Rs PV) : List Nat := match r with
  | .ok (.cell n) => [n]
  | _ => []

section
variable {K : PySem.W.Frag} {M1 : Hp} {cs : List Addr} {src : List (Addr × List PV)} {a a2 : Addr} {xs ys : List PV}
theorem wk_list (h : LDat K M1 cs src a xs) (hz : xs.length ≤ sizeLine) : Wk K (Itl K a) M1 cs src xs where
  go := fun i M H v l1 l2 s e => by
    obtain ⟨vs, q, r⟩ := h M H l1 l2 s
    obtain ⟨w, g1, g2⟩ := r.get e
    refine ⟨⟨vs, w, q, g1⟩, fun x H' ⟨e1, e2⟩ => ⟨M, ?_, ?_⟩⟩
    · rw [e1]; exact .refl l2
    · have := e2 vs q; rw [g1] at this; cases this; exact g2
  stop := fun i M H l1 l2 s e => by
    obtain ⟨vs, q, r⟩ := h M H l1 l2 s
    exact ⟨vs, q, by rw [r.length]; exact e⟩
  sz := hz
theorem wk_tup (h : TDat K M1 cs a xs) (hz : xs.length ≤ sizeLine) : Wk K (Itt K a) M1 cs src xs where
  go := fun i M H v l1 l2 s e => by
    obtain ⟨vs, q, r⟩ := h M H l1 l2
    obtain ⟨w, g1, g2⟩ := r.get e
    refine ⟨⟨vs, w, q, g1⟩, fun x H' ⟨e1, e2⟩ => ⟨M, ?_, ?_⟩⟩
    · rw [e1]; exact .refl l2
    · have := e2 vs q; rw [g1] at this; cases this; exact g2
  stop := fun i M H l1 l2 s e => by
    obtain ⟨vs, q, r⟩ := h M H l1 l2
    exact ⟨vs, q, by rw [r.length]; exact e⟩
  sz := hz
theorem rngL_get {lo hi : Int} {i : Nat} {v : PV} (e : (rngL lo hi)[i]? = some v) : v = .int (lo + i) ∧ i < (hi - lo).toNat := by
  unfold rngL at e
  rw [List.getElem?_map] at e
  cases q : (List.range (hi - lo).toNat)[i]? with
  | none => (rw [q] at e; cases e)
  | some k =>
    rw [q] at e
    obtain ⟨h1, h2⟩ := List.getElem?_eq_some_iff.mp q
    rw [List.length_range] at h1
    rw [List.getElem_range] at h2
    subst h2
    cases e
    exact ⟨rfl, h1⟩
theorem wk_rng {lo hi : Int} (hz : (hi - lo).toNat ≤ sizeLine) : Wk K (Itr lo (hi - lo).toNat) M1 cs src (rngL lo hi) where
  go := fun i M H v l1 l2 s e => by
    obtain ⟨rfl, h⟩ := rngL_get e
    refine ⟨h, fun x H' ⟨e1, e2⟩ => ⟨M, ?_, e2⟩⟩
    rw [e1]; exact .refl l2
  stop := fun i M H l1 l2 s e => by
    rw [rngL, List.length_map, List.length_range] at e
    exact e
  sz := by rw [rngL, List.length_map, List.length_range]; exact hz
theorem wk_str {x : Str} (hz : x.length ≤ sizeLine) : Wk K (Its x) M1 cs src (x.cps.toList.map fun c => PV.str ⟨#[c]⟩) where
  go := fun i M H v l1 l2 s e => by
    rw [List.getElem?_map] at e
    cases q : x.cps.toList[i]? with
    | none => (rw [q] at e; cases e)
    | some k =>
      rw [q] at e
      cases e
      have q' : x.cps[i]? = some k := by simpa using q
      refine ⟨(Array.getElem?_eq_some_iff.mp q').1, fun z H' ⟨e1, c, e2, e3⟩ => ⟨M, ?_, ?_⟩⟩
      · rw [e1]; exact .refl l2
      · rw [q'] at e2; cases e2; exact e3
  stop := fun i M H l1 l2 s e => by
    rw [List.length_map, Array.length_toList] at e
    exact e
  sz := by rw [List.length_map, Array.length_toList]; exact hz
theorem enumL_get : ∀ {xs : List PV} {k i : Nat} {v : PV}, (enumL k xs)[i]? = some v → ∃ x, xs[i]? = some x ∧ v = .tup [.int ((k + i : Nat) : Int), x]
  | [], _, _, _, e => by simp [enumL] at e
  | x :: xs, k, 0, v, e => by simp [enumL] at e; subst e; exact ⟨x, rfl, by simp⟩
  | x :: xs, k, i + 1, v, e => by
    obtain ⟨y, h1, h2⟩ := enumL_get (xs := xs) (k := k + 1) (i := i) (v := v) (by simpa [enumL] using e)
    exact ⟨y, by simpa using h1, by rw [h2]; simp; omega⟩
theorem enumL_length : ∀ (xs : List PV) (k : Nat), (enumL k xs).length = xs.length
  | [], _ => rfl
  | _ :: xs, k => by simp [enumL, enumL_length xs]
theorem pair_new {M H : Hp} {T : Addr} {u v : PV} {w z : V} (l : Le M H) (hT : H T = none) (h1 : Rep K M cs u w) (h2 : Rep K M cs v z) :
    ∃ M', Ext H M (upd H T (.tup [w, z])) M' ∧ Rep K M' cs (.tup [u, v]) (.ref T) :=
  ⟨upd M T (.tup [w, z]), .laid l hT (by show 2 ≤ sizeLine; decide), T, [w, z], rfl, upd_same, w, [z], rfl, h1.mono (.updN (H := H) (l.none hT)), z, [], rfl, h2.mono (.updN (H := H) (l.none hT)), rfl⟩
theorem wk_enum (h : LDat K M1 cs src a xs) (hz : xs.length ≤ sizeLine) : Wk K (Ite K a) M1 cs src (enumL 0 xs) where
  go := fun i M H v l1 l2 s e => by
    obtain ⟨vs, q, r⟩ := h M H l1 l2 s
    obtain ⟨y, e1, rfl⟩ := enumL_get e
    obtain ⟨w, g1, g2⟩ := r.get e1
    refine ⟨⟨vs, w, q, g1⟩, fun x H' ⟨T, z, a1, a2, a3, a4⟩ => ?_⟩
    have := a4 vs q
    rw [g1] at this; cases this
    subst a1 a3
    simpa using pair_new (u := .int (i : Int)) l2 a2 rfl g2
  stop := fun i M H l1 l2 s e => by
    obtain ⟨vs, q, r⟩ := h M H l1 l2 s
    exact ⟨vs, q, by rw [r.length]; rw [enumL_length] at e; exact e⟩
  sz := by rw [enumL_length]; exact hz
theorem wk_enumT (h : TDat K M1 cs a xs) (hz : xs.length ≤ sizeLine) : Wk K (Itet K a) M1 cs src (enumL 0 xs) where
  go := fun i M H v l1 l2 s e => by
    obtain ⟨vs, q, r⟩ := h M H l1 l2
    obtain ⟨y, e1, rfl⟩ := enumL_get e
    obtain ⟨w, g1, g2⟩ := r.get e1
    refine ⟨⟨vs, w, q, g1⟩, fun x H' ⟨T, z, a1, a2, a3, a4⟩ => ?_⟩
    have := a4 vs q
    rw [g1] at this; cases this
    subst a1 a3
    simpa using pair_new (u := .int (i : Int)) l2 a2 rfl g2
  stop := fun i M H l1 l2 s e => by
    obtain ⟨vs, q, r⟩ := h M H l1 l2
    exact ⟨vs, q, by rw [r.length]; rw [enumL_length] at e; exact e⟩
  sz := by rw [enumL_length]; exact hz
theorem zipL_get : ∀ {xs ys : List PV} {i : Nat} {v : PV}, (zipL xs ys)[i]? = some v → ∃ x y, xs[i]? = some x ∧ ys[i]? = some y ∧ v = .tup [x, y]
  | [], _, _, _, e => by simp [zipL] at e
  | _ :: _, [], _, _, e => by simp [zipL] at e
  | x :: xs, y :: ys, 0, v, e => by simp [zipL] at e; subst e; exact ⟨x, y, rfl, rfl, rfl⟩
  | x :: xs, y :: ys, i + 1, v, e => by
    obtain ⟨p, q, h1, h2, h3⟩ := zipL_get (xs := xs) (ys := ys) (i := i) (v := v) (by simpa [zipL] using e)
    exact ⟨p, q, by simpa using h1, by simpa using h2, h3⟩
theorem zipL_length : ∀ (xs ys : List PV), (zipL xs ys).length = min xs.length ys.length
  | [], _ => by simp [zipL]
  | _ :: _, [] => by simp [zipL]
  | _ :: xs, _ :: ys => by simp only [zipL, List.length_cons, zipL_length xs ys]; omega
theorem wk_zip (h : LDat K M1 cs src a xs) (h2 : LDat K M1 cs src a2 ys) (hz : xs.length ≤ sizeLine) : Wk K (Itz K a a2) M1 cs src (zipL xs ys) where
  go := fun i M H v l1 l2 s e => by
    obtain ⟨vs, q, r⟩ := h M H l1 l2 s
    obtain ⟨us, q2, r2⟩ := h2 M H l1 l2 s
    obtain ⟨y, z, e1, e2, rfl⟩ := zipL_get e
    obtain ⟨w, g1, g2⟩ := r.get e1
    obtain ⟨w2, g3, g4⟩ := r2.get e2
    refine ⟨⟨vs, us, w, w2, q, q2, g1, g3⟩, fun x H' ⟨T, p1, p2, a1, a2, a3, a4, a5⟩ => ?_⟩
    have t1 := a4 vs q
    have t2 := a5 us q2
    rw [g1] at t1; cases t1
    rw [g3] at t2; cases t2
    subst a1 a3
    exact pair_new l2 a2 g2 g4
  stop := fun i M H l1 l2 s e => by
    obtain ⟨vs, q, r⟩ := h M H l1 l2 s
    obtain ⟨us, q2, r2⟩ := h2 M H l1 l2 s
    refine ⟨vs, us, q, q2, ?_⟩
    rw [r.length, r2.length]
    rw [zipL_length] at e
    omega
  sz := by rw [zipL_length]; omega
theorem wk_zipT (h : TDat K M1 cs a xs) (h2 : TDat K M1 cs a2 ys) (hz : xs.length ≤ sizeLine) : Wk K (ItzT K a a2) M1 cs src (zipL xs ys) where
  go := fun i M H v l1 l2 s e => by
    obtain ⟨vs, q, r⟩ := h M H l1 l2
    obtain ⟨us, q2, r2⟩ := h2 M H l1 l2
    obtain ⟨y, z, e1, e2, rfl⟩ := zipL_get e
    obtain ⟨w, g1, g2⟩ := r.get e1
    obtain ⟨w2, g3, g4⟩ := r2.get e2
    refine ⟨⟨vs, us, w, w2, q, q2, g1, g3⟩, fun x H' ⟨T, p1, p2, a1, a2, a3, a4, a5⟩ => ?_⟩
    have t1 := a4 vs q
    have t2 := a5 us q2
    rw [g1] at t1; cases t1
    rw [g3] at t2; cases t2
    subst a1 a3
    exact pair_new l2 a2 g2 g4
  stop := fun i M H l1 l2 s e => by
    obtain ⟨vs, q, r⟩ := h M H l1 l2
    obtain ⟨us, q2, r2⟩ := h2 M H l1 l2
    refine ⟨vs, us, q, q2, ?_⟩
    rw [r.length, r2.length]
    rw [zipL_length] at e
    omega
  sz := by rw [zipL_length]; omega
theorem rev_get {α : Type} {xs : List α} {i : Nat} {v : α} (e : xs.reverse[i]? = some v) : i < xs.length ∧ xs[xs.length - 1 - i]? = some v := by
  have h := (List.getElem?_eq_some_iff.mp e).1
  rw [List.length_reverse] at h
  rw [List.getElem?_reverse h] at e
  exact ⟨h, e⟩
theorem wk_rev (h : LDat K M1 cs src a xs) (hz : xs.length ≤ sizeLine) : Wk K (Itv K a xs.length) M1 cs src xs.reverse where
  go := fun i M H v l1 l2 s e => by
    obtain ⟨vs, q, r⟩ := h M H l1 l2 s
    obtain ⟨hi, e1⟩ := rev_get e
    obtain ⟨w, g1, g2⟩ := r.get e1
    refine ⟨⟨hi, vs, w, q, g1⟩, fun x H' ⟨a1, a2⟩ => ⟨M, ?_, ?_⟩⟩
    · rw [a1]; exact .refl l2
    · have := a2 vs q; rw [g1] at this; cases this; exact g2
  stop := fun i M H l1 l2 s e => by
    rw [List.length_reverse] at e
    exact e
  sz := by rw [List.length_reverse]; exact hz
theorem wk_revT (h : TDat K M1 cs a xs) (hz : xs.length ≤ sizeLine) : Wk K (ItvT K a xs.length) M1 cs src xs.reverse where
  go := fun i M H v l1 l2 s e => by
    obtain ⟨vs, q, r⟩ := h M H l1 l2
    obtain ⟨hi, e1⟩ := rev_get e
    obtain ⟨w, g1, g2⟩ := r.get e1
    refine ⟨⟨hi, vs, w, q, g1⟩, fun x H' ⟨a1, a2⟩ => ⟨M, ?_, ?_⟩⟩
    · rw [a1]; exact .refl l2
    · have := a2 vs q; rw [g1] at this; cases this; exact g2
  stop := fun i M H l1 l2 s e => by
    rw [List.length_reverse] at e
    exact e
  sz := by rw [List.length_reverse]; exact hz
end

section
variable {X : Cx} {H0 M0 : Hp} {fa fb fc : Env → Rs PV} {a b c tg : Expr} {pos p : Pos} {σ : L2.St} {H : Hp} {ρ : Env} {M : Hp} {cs : List Addr}
/-- a list that is walked -/
theorem ldat {x : PV} {w : V} {xs : List PV} (r : R X.K H0 M0 σ H ρ M cs) (e : lstOf ρ x = .ok xs) (h : Rep X.K M cs x w) :
    ∃ a src, w = .ref a ∧ Src ρ cs (cellsOf (.ok x)) src ∧ (∃ vs, SqL X.K H a vs ∧ vs.length = xs.length) ∧ LDat X.K M cs src a xs := by
  obtain ⟨a, vs, e1, e2, e3⟩ := lstOf_rep r e h
  cases x with
  | lst ys =>
    cases e
    obtain ⟨a', us, f1, f2, f3⟩ := h
    rw [f1] at e1; cases e1
    exact ⟨a, [], f1, fun p hp => absurd hp (by simp), ⟨vs, e2, e3.length⟩, fun M2 H2 l1 l2 _ => ⟨us, .of (l2 _ _ (l1 _ _ f2)), f3.mono l1⟩⟩
  | scr ns =>
    cases e
    obtain ⟨a', f1, f2⟩ := h
    rw [f1] at e1; cases e1
    exact ⟨a, [], f1, fun p hp => absurd hp (by simp), ⟨vs, e2, e3.length⟩, fun M2 H2 l1 l2 _ => ⟨_, (l1.trans l2).sqL f2.1, Reps.of_ints ns⟩⟩
  | cell n =>
    obtain ⟨a', f1, f2⟩ := h
    rw [f1] at e1; cases e1
    simp only [lstOf] at e
    split at e
    · rename_i zs hz
      cases e
      refine ⟨a, [(a, xs)], f1, fun p hp => ?_, ⟨vs, e2, e3.length⟩, fun M2 H2 l1 l2 s => ?_⟩
      · have : p = (a, xs) := by simpa using hp
        subst this
        exact ⟨n, by simp [cellsOf], f2, hz⟩
      · obtain ⟨us, g1, g2⟩ := s (a, xs) (by simp)
        exact ⟨us, .of g1, g2⟩
    · cases e
  | _ => cases e
theorem tdat {w : V} {xs : List PV} (r : R X.K H0 M0 σ H ρ M cs) (h : Rep X.K M cs (.tup xs) w) : ∃ a vs, w = .ref a ∧ SqT X.K H a vs ∧ vs.length = xs.length ∧ TDat X.K M cs a xs := by
  obtain ⟨a, vs, e1, e2, e3⟩ := h
  exact ⟨a, vs, e1, .of (r.le _ _ e2), e3.length, fun M2 H2 l1 l2 => ⟨vs, .of (l2 _ _ (l1 _ _ e2)), e3.mono l1⟩⟩
theorem seq_cases {ρ : Env} {x : PV} {xs : List PV} (e : seqOf ρ x = .ok xs) : x = .tup xs ∨ lstOf ρ x = .ok xs := by
  cases x <;> first | (cases e; exact .inl rfl) | exact .inr e | cases e

theorem i_seq (ha : E? X H0 M0 a fa) : I? X H0 M0 tg a (fun ρ => (fa ρ).bind (walkO ρ)) (fun ρ => cellsOf (fa ρ)) := by
  refine PI.mono (PI.or (pi_list ha) (PI.or (pi_tup ha) (pi_str ha))) fun σ H Rk ⟨ρ, M, cs, r, xs, e, w⟩ => ?_
  obtain ⟨x, e1, e⟩ := Rs.bind_eq_ok.mp e
  have main : seqOf ρ x = .ok xs → (iList X.K (tE X.K H0 M0 fa) σ H Rk ∨ iTup X.K (tE X.K H0 M0 fa) σ H Rk) := fun q => by
    rcases seq_cases q with rfl | q
    · refine .inr ⟨ρ, M, cs, r, _, e1, fun w1 H1 M1 x1 r1 => ?_⟩
      have hz := tup_sz (r.ext x1) r1
      obtain ⟨a, vs, rfl, h1, _, h2⟩ := tdat (r.ext x1) r1
      exact ⟨a, rfl, ⟨vs, h1⟩, w _ _ M1 [] x1 (fun p hp => absurd hp (by simp)) (wk_tup h2 hz)⟩
    · refine .inl ⟨ρ, M, cs, r, _, e1, fun w1 H1 M1 x1 r1 => ?_⟩
      have hz := sqL_len (r.ext x1) q r1
      obtain ⟨a, src, rfl, h0, ⟨vs, h1, _⟩, h2⟩ := ldat (r.ext x1) q r1
      exact ⟨a, rfl, ⟨vs, h1⟩, w _ _ M1 src x1 (by show Src ρ cs (cellsOf (fa ρ)) src; rw [e1]; exact h0) (wk_list h2 hz)⟩
  cases x with
  | str s =>
    simp only [walkO] at e
    split at e
    · rename_i hz
      cases e
      refine .inr (.inr ⟨ρ, M, cs, r, _, e1, fun w1 H1 M1 x1 r1 => ?_⟩)
      exact ⟨s, r1, w _ _ M1 [] x1 (fun p hp => absurd hp (by simp)) (wk_str hz)⟩
    · cases e
  | _ => exact (main e).imp id .inl
theorem rngOk_ok {i : Int} (h : rngOk i = true) : -(2 ^ 62) ≤ i ∧ i < 2 ^ 62 := of_decide_eq_true (p := InW 62 i) h
theorem i_rng (hg : Gl X "range") (hm : X.mg "range" = none) (hs : starEach [a] X.env = [(false, eval a X.env)]) (ha : E? X H0 M0 a fa) (hes : starEach [a] X.env = (false, eval a X.env) :: starEach [] X.env) :
    I? X H0 M0 tg (.Call (.Name "range" p) [a] [] pos) (fun ρ => (fa ρ).bind rngO) (fun _ => []) := by
  refine PI.mono (pi_range1 hg hm (pa_cons ha pa_nil hes) hs) fun σ H Rk ⟨ρ, M, cs, r, xs, e, w⟩ => ?_
  obtain ⟨x, e1, e⟩ := Rs.bind_eq_ok.mp e
  refine ⟨ρ, M, cs, r, x, e1, fun w1 H1 M1 x1 r1 => ?_⟩
  cases x <;> try cases e
  rename_i j
  simp only [rngO] at e
  split at e
  · rename_i hj
    rw [Bool.and_eq_true] at hj
    have hz : j.toNat ≤ sizeLine := of_decide_eq_true hj.2
    have hj := hj.1
    cases e
    cases r1
    refine ⟨j, rfl, (rngOk_ok hj).1, (rngOk_ok hj).2, w _ _ M1 [] x1 (fun p hp => absurd hp (by simp)) ?_⟩
    have := wk_rng (K := X.K) (M1 := M1) (cs := cs) (src := []) (lo := 0) (hi := j) (by simpa using hz)
    simpa using this
  · cases e
theorem i_rng2 (hg : Gl X "range") (hm : X.mg "range" = none) (hs : starEach [a, b] X.env = [(false, eval a X.env), (false, eval b X.env)]) (hs2 : starEach [b] X.env = [(false, eval b X.env)]) (ha : E? X H0 M0 a fa) (hb : E? X H0 M0 b fb)
    (hes : starEach [a, b] X.env = (false, eval a X.env) :: starEach [b] X.env) (hes2 : starEach [b] X.env = (false, eval b X.env) :: starEach [] X.env) :
    I? X H0 M0 tg (.Call (.Name "range" p) [a, b] [] pos) (fun ρ => (fa ρ).bind fun x => (fb ρ).bind fun y => rng2O x y) (fun _ => []) := by
  refine PI.mono (pi_range2 hg hm (pa_cons ha (pa_cons hb pa_nil hes2) hes) hs hs2) fun σ H Rk ⟨ρ, M, cs, r, xs, e, w⟩ => ?_
  obtain ⟨x, e1, e⟩ := Rs.bind_eq_ok.mp e
  obtain ⟨y, e2, e⟩ := Rs.bind_eq_ok.mp e
  refine ⟨ρ, M, cs, r, x, e1, fun w1 H1 M1 x1 r1 => ?_⟩
  refine ⟨ρ, M1, cs, r.ext x1, y, e2, fun w2 H2 M2 x2 r2 => ?_⟩
  cases x <;> try cases e
  cases y <;> try cases e
  simp only [rng2O] at e
  split at e
  · rename_i i _ j hj
    cases e
    cases r1; cases r2
    rw [Bool.and_eq_true] at hj
    have hz : (j - i).toNat ≤ sizeLine := of_decide_eq_true hj.2
    have hj := hj.1
    rw [Bool.and_eq_true] at hj
    exact ⟨i, j, rfl, ⟨(rngOk_ok hj.1).1, (rngOk_ok hj.1).2, (rngOk_ok hj.2).1, (rngOk_ok hj.2).2⟩, w _ _ M2 [] (x1.trans x2) (fun p hp => absurd hp (by simp)) (wk_rng hz)⟩
  · cases e
theorem i_enum {elts : List Expr} {kk : Nat} {tpos : Pos} (hg : Gl X "enumerate") (hm : X.mg "enumerate" = none) (hs : starEach [a] X.env = [(false, eval a X.env)]) (ha : E? X H0 M0 a fa) (hes : starEach [a] X.env = (false, eval a X.env) :: starEach [] X.env) :
    I? X H0 M0 (.Tuple elts kk tpos) (.Call (.Name "enumerate" p) [a] [] pos) (fun ρ => (fa ρ).bind fun x => (seqOf ρ x).bind fun xs => .ok (enumL 0 xs)) (fun ρ => cellsOf (fa ρ)) := by
  refine PI.mono (PI.or (pi_enum hg hm (pa_cons ha pa_nil hes) hs) (pi_enumT hg hm (pa_cons ha pa_nil hes) hs)) fun σ H Rk ⟨ρ, M, cs, r, xs, e, w⟩ => ?_
  obtain ⟨x, e1, e⟩ := Rs.bind_eq_ok.mp e
  obtain ⟨ys, e2, e⟩ := Rs.bind_eq_ok.mp e
  cases e
  rcases seq_cases e2 with rfl | q
  · refine .inr ⟨ρ, M, cs, r, _, e1, fun w1 H1 M1 x1 r1 => ?_⟩
    have hz := tup_sz (r.ext x1) r1
    obtain ⟨a, vs, rfl, h1, _, h2⟩ := tdat (r.ext x1) r1
    exact ⟨a, vs, rfl, h1, w _ _ M1 [] x1 (fun p hp => absurd hp (by simp)) (wk_enumT h2 hz)⟩
  · refine .inl ⟨ρ, M, cs, r, _, e1, fun w1 H1 M1 x1 r1 => ?_⟩
    have hz := sqL_len (r.ext x1) q r1
    obtain ⟨a, src, rfl, h0, ⟨vs, h1, _⟩, h2⟩ := ldat (r.ext x1) q r1
    exact ⟨a, vs, rfl, h1, w _ _ M1 src x1 (by show Src ρ cs (cellsOf (fa ρ)) src; rw [e1]; exact h0) (wk_enum h2 hz)⟩
theorem i_rev (hg : Gl X "reversed") (hm : X.mg "reversed" = none) (hs : starEach [a] X.env = [(false, eval a X.env)]) (ha : E? X H0 M0 a fa) :
    I? X H0 M0 tg (.Call (.Name "reversed" p) [a] [] pos) (fun ρ => (fa ρ).bind fun x => (seqOf ρ x).bind fun xs => .ok xs.reverse) (fun ρ => cellsOf (fa ρ)) := by
  refine PI.mono (pi_revA hg hm ha hs) fun σ H Rk ⟨ρ, M, cs, r, xs, e, w⟩ => ?_
  obtain ⟨x, e1, e⟩ := Rs.bind_eq_ok.mp e
  obtain ⟨ys, e2, e⟩ := Rs.bind_eq_ok.mp e
  cases e
  refine ⟨ρ, M, cs, r, _, e1, fun w1 H1 M1 x1 r1 => ?_⟩
  rcases seq_cases e2 with rfl | q
  · have hz := tup_sz (r.ext x1) r1
    obtain ⟨a, vs, rfl, h1, hl, h2⟩ := tdat (r.ext x1) r1
    exact ⟨a, vs, rfl, .inr ⟨h1, by rw [hl]; exact w _ _ M1 [] x1 (fun p hp => absurd hp (by simp)) (wk_revT h2 hz)⟩⟩
  · have hz := sqL_len (r.ext x1) q r1
    obtain ⟨a, src, rfl, h0, ⟨vs, h1, hl⟩, h2⟩ := ldat (r.ext x1) q r1
    exact ⟨a, vs, rfl, .inl ⟨h1, by rw [hl]; exact w _ _ M1 src x1 (by show Src ρ cs (cellsOf (fa ρ)) src; rw [e1]; exact h0) (wk_rev h2 hz)⟩⟩
theorem i_zip {elts : List Expr} {kk : Nat} {tpos : Pos} (hg : Gl X "zip") (hm : X.mg "zip" = none) (hs : starEach [a, b] X.env = [(false, eval a X.env), (false, eval b X.env)]) (hs2 : starEach [b] X.env = [(false, eval b X.env)]) (ha : E? X H0 M0 a fa) (hb : E? X H0 M0 b fb)
    (hes : starEach [a, b] X.env = (false, eval a X.env) :: starEach [b] X.env) (hes2 : starEach [b] X.env = (false, eval b X.env) :: starEach [] X.env) :
    I? X H0 M0 (.Tuple elts kk tpos) (.Call (.Name "zip" p) [a, b] [] pos) (fun ρ => (fa ρ).bind fun x => (fb ρ).bind fun y => (zipO ρ x y)) (fun ρ => cellsOf (fa ρ) ++ cellsOf (fb ρ)) := by
  refine PI.mono (pi_zipA hg hm (pa_cons ha (pa_cons hb pa_nil hes2) hes) hes (by rw [hes2]; rfl)) fun σ H Rk ⟨ρ, M, cs, r, xs, e, w⟩ => ?_
  obtain ⟨x, e1, e⟩ := Rs.bind_eq_ok.mp e
  obtain ⟨y, e2, e⟩ := Rs.bind_eq_ok.mp e
  refine ⟨ρ, M, cs, r, x, e1, fun w1 H1 M1 x1 r1 => ?_⟩
  refine ⟨ρ, M1, cs, r.ext x1, y, e2, fun w2 H2 M2 x2 r2 => ?_⟩
  have R2 := (r.ext x1).ext x2
  have r1' := r1.mono x2.m
  unfold zipO at e
  split at e
  · cases e
    have hz := tup_sz R2 r1'
    obtain ⟨a, vs, rfl, h1, hl, h2⟩ := tdat R2 r1'
    obtain ⟨b, us, rfl, h3, hl2, h4⟩ := tdat R2 r2
    exact ⟨a, b, vs, us, rfl, .inr ⟨h1, h3, w _ _ M2 [] (x1.trans x2) (fun p hp => absurd hp (by simp)) (wk_zipT h2 h4 hz)⟩⟩
  · obtain ⟨us1, e3, e⟩ := Rs.bind_eq_ok.mp e
    obtain ⟨us2, e4, e⟩ := Rs.bind_eq_ok.mp e
    cases e
    have hz := sqL_len R2 e3 r1'
    obtain ⟨a, s1, rfl, q1, ⟨vs, h1, _⟩, h2⟩ := ldat R2 e3 r1'
    obtain ⟨b, s2, rfl, q2, ⟨us, h3, _⟩, h4⟩ := ldat R2 e4 r2
    refine ⟨a, b, vs, us, rfl, .inl ⟨h1, h3, w _ _ M2 (s1 ++ s2) (x1.trans x2) (fun p hp => ?_) (wk_zip (h2.mono (.refl _) fun p hp => List.mem_append_left _ hp) (h4.mono (.refl _) fun p hp => List.mem_append_right _ hp) hz)⟩⟩
    show ∃ n ∈ cellsOf (fa ρ) ++ cellsOf (fb ρ), _
    rw [e1, e2]
    (rcases List.mem_append.mp hp with hp | hp)
    · obtain ⟨n, a1, a2⟩ := q1 p hp; exact ⟨n, List.mem_append_left _ a1, a2⟩
    · obtain ⟨n, a1, a2⟩ := q2 p hp; exact ⟨n, List.mem_append_right _ a1, a2⟩
theorem i_rlen {p2 pos2 : Pos} (hg : Gl X "range") (hm : X.mg "range" = none) (hg2 : Gl X "len") (hm2 : X.mg "len" = none) (hes : starEach [a] X.env = (false, eval a X.env) :: starEach [] X.env) (ha : E? X H0 M0 a fa) :
    I? X H0 M0 tg (.Call (.Name "range" p) [.Call (.Name "len" p2) [a] [] pos2] [] pos) (fun ρ => (fa ρ).bind fun x => (seqOf ρ x).bind fun xs => .ok (rngL 0 xs.length)) (fun _ => []) := by
  have hl := pe_callB (pos := pos2) (p := p2) call_len_seq hg2 hm2 (by decide +kernel) (pa_cons ha pa_nil hes) (by decide +kernel) (by decide +kernel) hes rfl
  refine PI.mono (pi_range1 hg hm (pa_cons hl pa_nil rfl) rfl) fun σ H Rk ⟨ρ, M, cs, r, xs, e, w⟩ => ?_
  obtain ⟨x, e1, e⟩ := Rs.bind_eq_ok.mp e
  obtain ⟨ys, e2, e⟩ := Rs.bind_eq_ok.mp e
  cases e
  refine ⟨ρ, M, cs, r, x, e1, fun w1 H1 M1 x1 r1 => ?_⟩
  have hz := seq_len (r.ext x1) e2 r1
  obtain ⟨q, vs, rfl, h1, h2⟩ := seqOf_rep (r.ext x1) e2 r1
  have hs : (sizeLine : Int) < 2 ^ 62 := by decide
  refine ⟨q, vs, rfl, h1, (vs.length : Int), rfl, by omega, by rw [h2.length]; omega, ?_⟩
  rw [h2.length]
  have k := wk_rng (K := X.K) (M1 := M1) (cs := cs) (src := []) (lo := 0) (hi := (ys.length : Int)) (by simpa using hz)
  exact w _ _ M1 [] x1 (fun p hp => absurd hp (by simp)) (by simpa using k)
end
end PF

set_option Elab.async false
set_option linter.all false
set_option maxRecDepth 100000
/-! PFh: targets, comprehensions. -/
namespace PF
open PySem L2

def tgIdx : Tg → List Nat
  | .nm i => [i]
  | .tp is => is
def gsOf : List Nat → TGs
  | [] => gNil
  | i :: is => gCons (gName i) (gsOf is)
/-- a target's reading -/
def TgR (K : PySem.W.Frag) : Tg → TG
  | .nm i => gName i
  | .tp is => gTup K is.length (gsOf is)
def putAll {α : Type} : List (Option α) → List (Nat × α) → List (Option α)
  | s, [] => s
  | s, (i, v) :: r => putAll (s.set i (some v)) r
theorem putAll_eq {α : Type} : ∀ (ps : List (Nat × α)) (s : List (Option α)), ps.foldl (fun s p => s.set p.1 (some p.2)) s = putAll s ps
  | [], _ => rfl
  | (i, v) :: r, s => putAll_eq r _
theorem putAll_length {α : Type} : ∀ (ps : List (Nat × α)) (s : List (Option α)), (putAll s ps).length = s.length
  | [], _ => rfl
  | (i, v) :: r, s => by rw [putAll, putAll_length r, List.length_set]

/-- the slots but those at `is` -/
def RelSl (K : PySem.W.Frag) (M : Hp) (cs : List Addr) (σ : L2.St) (s : List (Option PV)) (is : List Nat) : Prop :=
  ∀ (i : Nat) v, i ∉ is → s[i]? = some (some v) → ∃ w, σ[i]? = some (some w) ∧ Rep K M cs v w
section
variable {K : PySem.W.Frag} {M : Hp} {cs : List Addr}
theorem RelSl.set {σ : L2.St} {s : List (Option PV)} {i : Nat} {is : List Nat} {x : PV} {w : V} (h : RelSl K M cs σ s (i :: is)) (hl : σ.length = s.length) (r : Rep K M cs x w) : RelSl K M cs (σ.set i (some w)) (s.set i (some x)) is := fun j v hj e => by
  by_cases q : i = j
  · subst q
    by_cases hlt : i < s.length
    · rw [List.getElem?_set_self hlt] at e
      cases e
      exact ⟨w, List.getElem?_set_self (by omega), r⟩
    · rw [List.getElem?_eq_none (by rw [List.length_set]; omega)] at e; cases e
  · rw [List.getElem?_set_ne q] at e ⊢
    exact h j v (by simp [Ne.symm q, hj]) e
theorem put_rel : ∀ (is : List Nat) (xs : List PV) (ws : List V) (σ : L2.St) (s : List (Option PV)), xs.length = is.length → Reps K M cs xs ws → σ.length = s.length → RelSl K M cs σ s is →
    RelSl K M cs (putAll σ (is.zip ws)) (putAll s (is.zip xs)) []
  | [], xs, ws, σ, s, hl, r, hs, h => by
    cases xs with
    | nil => cases r; exact h
    | cons _ _ => simp at hl
  | i :: is, xs, ws, σ, s, hl, r, hs, h => by
    cases xs with
    | nil => simp at hl
    | cons x xs =>
      obtain ⟨w, ws, rfl, r1, r2⟩ := r
      exact put_rel is xs ws _ _ (by simpa using hl) r2 (by simp [hs]) (h.set hs r1)
theorem gsOf_run : ∀ (is : List Nat) (ws : List V) (σ : L2.St) (H : Hp) (Q : L2.St → Hp → Prop), ws.length = is.length → Q (putAll σ (is.zip ws)) H → gsOf is ws σ H Q
  | [], ws, σ, H, Q, hl, q => by
    cases ws with
    | nil => exact ⟨rfl, q⟩
    | cons _ _ => simp at hl
  | i :: is, ws, σ, H, Q, hl, q => by
    cases ws with
    | nil => simp at hl
    | cons w ws => exact ⟨w, ws, rfl, gsOf_run is ws _ H Q (by simpa using hl) q⟩
end
theorem wipe_get (σ : L2.St) (j : Nat) : ∀ vs : List Nat, (wipe σ vs)[j]? = if j ∈ vs then (if j < σ.length then some none else none) else σ[j]?
  | [] => by simp [wipe]
  | v :: vs => by
    unfold wipe
    by_cases q : v = j
    · subst q
      rw [if_pos (by simp)]
      by_cases hl : v < σ.length
      · rw [List.getElem?_set_self (by rw [wipe_length]; exact hl), if_pos hl]
      · rw [List.getElem?_eq_none (by rw [List.length_set, wipe_length]; omega), if_neg hl]
    · rw [List.getElem?_set_ne q, wipe_get σ j vs]
      simp [Ne.symm q]
theorem wipe_put : ∀ (is : List Nat) (ws : List V) (σ : L2.St) (vs : List Nat), (∀ i ∈ is, i ∈ vs) → wipe (putAll σ (is.zip ws)) vs = wipe σ vs
  | [], ws, σ, vs, _ => by simp [putAll]
  | i :: is, [], σ, vs, _ => by simp [putAll]
  | i :: is, w :: ws, σ, vs, h => by
    rw [List.zip_cons_cons, putAll, wipe_put is ws _ vs fun j hj => h j (List.mem_cons_of_mem _ hj)]
    (refine List.ext_getElem? fun j => ?_)
    rw [wipe_get, wipe_get, List.length_set]
    split
    · rfl
    · rename_i hj
      rw [List.getElem?_set_ne (fun e : i = j => hj (by rw [← e]; exact h i List.mem_cons_self))]
theorem wipe_wipe (σ : L2.St) (vs : List Nat) : wipe (wipe σ vs) vs = wipe σ vs := by
  (refine List.ext_getElem? fun j => ?_)
  rw [wipe_get, wipe_get, wipe_length]
  split <;> rfl

section
variable {X : Cx} {H0 M0 : Hp} {fit : Env → Rs (List PV)} {fs : Env → List Nat} {fc : Env → Rs Bool} {fe : Env → Rs PV}
/-- a state whose slots at `is` are still to be laid, and then the target -/
theorem tg_run {K : PySem.W.Frag} {σ : L2.St} {H : Hp} {ρ ρ' : Env} {M : Hp} {cs : List Addr} {tg : Tg} {v : PV} {w : V} {Q : L2.St → Hp → Prop} (l : Le M H) (hl : σ.length = ρ.sl.length) (h : RelSl K M cs σ ρ.sl (tgIdx tg)) (r : Rep K M cs v w)
    (e : setTg tg v ρ = .ok ρ') (q : ∀ ws, ρ'.ce = ρ.ce → ρ'.sl.length = ρ.sl.length → RelSl K M cs (putAll σ ((tgIdx tg).zip ws)) ρ'.sl [] → Q (putAll σ ((tgIdx tg).zip ws)) H) : TgR K tg w σ H Q := by
  cases tg with
  | nm i =>
    cases e
    exact q [w] rfl (by simp) (put_rel [i] [v] [w] σ ρ.sl rfl (Reps.one r) hl h)
  | tp is =>
    cases v with
    | tup xs =>
      simp only [setTg] at e
      split at e
      · rename_i hz
        cases e
        obtain ⟨a, ws, rfl, h1, h2⟩ := r
        refine ⟨a, ws, rfl, .of (l _ _ h1), by rw [h2.length]; exact hz, gsOf_run is ws σ H Q (by rw [h2.length]; exact hz) (q ws rfl ?_ ?_)⟩
        · simp only [putAll_eq, putAll_length]
        · simp only [putAll_eq]
          exact put_rel is xs ws σ ρ.sl hz h2 hl h
      · cases e
    | _ => cases e

theorem R.slots {K : PySem.W.Frag} {σ σ' : L2.St} {H : Hp} {ρ ρ' : Env} {M : Hp} {cs : List Addr} (r : R K H0 M0 σ H ρ M cs) (hc : ρ'.ce = ρ.ce) (hl : σ'.length = ρ'.sl.length) (h : RelSl K M cs σ' ρ'.sl []) : R K H0 M0 σ' H ρ' M cs where
  le := r.le
  out := r.out
  old := r.old
  tu := r.tu
  sz := r.sz
  len := hl
  sl := fun i v e => h i v (by simp) e
  ce := fun n c e => r.ce n c (by rw [← hc]; exact e)
  nd := fun n m a c c' h1 h2 h3 h4 => r.nd n m a c c' h1 h2 (by rw [← hc]; exact h3) (by rw [← hc]; exact h4)
  ln := by rw [hc]; exact r.ln
/-- one object of the heap changes, that nothing hangs on -/
theorem R.aside {K : PySem.W.Frag} {σ : L2.St} {H : Hp} {ρ : Env} {M : Hp} {cs : List Addr} {D : Addr} {o : HO} (r : R K H0 M0 σ H ρ M cs) (hM : M D = none) (h0 : H0 D = none) (ho : HOsz o) (hnt : ∀ xs, o ≠ .tup xs)
    (hcs : ∀ (n : Nat) c, ρ.ce[n]? = some (some c) → cs[n]? ≠ some D) : R K H0 M0 σ (upd H D o) ρ M cs where
  le := fun a u e => by rw [upd_ne (ne_of_none e hM)]; exact r.le a u e
  out := fun a u e => by rw [upd_ne (ne_of_none e h0)]; exact r.out a u e
  old := r.old
  tu := fun a xs e => by
    by_cases q : a = D
    · subst q; rw [upd_same] at e; cases e; exact absurd rfl (hnt xs)
    · rw [upd_ne q] at e; exact r.tu a xs e
  sz := r.sz.upd ho
  len := r.len
  sl := r.sl
  ce := fun n c e => by
    obtain ⟨a, h1, h2, h3, h4⟩ := r.ce n c e
    have hne : a ≠ D := fun q => hcs n c e (q ▸ h1)
    refine ⟨a, h1, h2, h3, ?_⟩
    cases c <;> try exact h4.elim
    obtain ⟨vs, e1, e2⟩ := h4
    exact ⟨vs, by rw [upd_ne hne]; exact e1, e2⟩
  nd := r.nd
  ln := r.ln

theorem compO_snoc {f : PV → Rs (Option PV)} : ∀ {xs : List PV} {x : PV} {ys : List PV}, compO f (xs ++ [x]) = .ok ys ↔ ∃ zs o, compO f xs = .ok zs ∧ f x = .ok o ∧ ys = zs ++ o.toList
  | [], x, ys => by
    simp only [List.nil_append, compO, Rs.bind_eq_ok]
    constructor
    · rintro ⟨y, h1, zs, h2, h3⟩
      cases h2
      cases h3
      exact ⟨[], y, rfl, h1, by cases y <;> rfl⟩
    · rintro ⟨zs, o, h1, h2, rfl⟩
      cases h1
      exact ⟨o, h2, [], rfl, by cases o <;> rfl⟩
  | z :: xs, x, ys => by
    simp only [List.cons_append, compO, Rs.bind_eq_ok]
    constructor
    · rintro ⟨y, h1, zs, h2, h3⟩
      obtain ⟨us, o, h4, h5, rfl⟩ := compO_snoc.mp h2
      cases h3
      exact ⟨y.toList ++ us, o, ⟨y, h1, us, h4, rfl⟩, h5, by simp⟩
    · rintro ⟨zs, o, ⟨y, h1, us, h2, h3⟩, h5, rfl⟩
      cases h3
      exact ⟨y, h1, us ++ o.toList, compO_snoc.mpr ⟨us, o, h2, h5, rfl⟩, by simp⟩
theorem compO_take {f : PV → Rs (Option PV)} : ∀ {xs ys : List PV}, compO f xs = .ok ys → ∀ i : Nat, ∃ zs, compO f (xs.take i) = .ok zs
  | [], ys, h, i => ⟨[], by simp [compO]⟩
  | x :: xs, ys, h, 0 => ⟨[], by simp [compO]⟩
  | x :: xs, ys, h, i + 1 => by
    simp only [compO, Rs.bind_eq_ok] at h
    obtain ⟨y, h1, us, h2, h3⟩ := h
    obtain ⟨zs, h4⟩ := compO_take h2 i
    exact ⟨y.toList ++ zs, by simp only [List.take_succ_cons, compO, h1, h4, Rs.bind_ok]⟩
/-- what a turn of a comprehension gives -/
def turnC (tg : Tg) (fc : Env → Rs Bool) (fe : Env → Rs PV) (ρ : Env) (x : PV) : Rs (Option PV) := (setTg tg x ρ).bind fun ρ' => (fc ρ').bind fun k => if k then (fe ρ').bind fun y => .ok (some y) else .ok none

theorem lc_ok {σ : L2.St} {H : Hp} {Q : VK} {ρ : Env} {M : Hp} {cs : List Addr} {tg : Tg} {xs ys : List PV} (r : R X.K H0 M0 σ H ρ M cs) (e1 : fit ρ = .ok xs) (e2 : compO (turnC tg fc fe ρ) xs = .ok ys) 
    (w : ∀ D H' M' vs, Ext H M H' M' → M' D = none → H D = none → H' D = some (.lst vs) → Reps X.K M' cs ys vs → Q (.ref D) H') :
    tLc (tI X.K H0 M0 fit fs) (TgR X.K tg) (tT X.K H0 M0 fc) (tE X.K H0 M0 fe) (tgIdx tg) σ H Q := by
  refine ⟨ρ, M, cs, r, xs, e1, fun J H1 M1 src x1 hsrc hwk D hD => ?_⟩
  have hz := hwk.sz
  have R1 := r.ext x1
  have hM1 : M1 D = none := R1.le.none hD
  have h00 : H0 D = none := R1.out.none hD
  have hH : H D = none := x1.h.none hD
  have hcs : ∀ (n : Nat) c, ρ.ce[n]? = some (some c) → cs[n]? ≠ some D := fun n c e q => by
    obtain ⟨a, g1, _, _, g4⟩ := R1.ce n c e
    rw [q] at g1; cases g1
    cases c <;> try exact g4
    obtain ⟨vs, g5, _⟩ := g4
    rw [hD] at g5; cases g5
  -- the state between two turns
  refine ⟨fun i m Hi => m = xs.length - i ∧ i ≤ xs.length ∧ ∃ Mi zs vs, Ext H1 M1 Hi Mi ∧ Mi D = none ∧ Hi D = some (.lst vs) ∧ compO (turnC tg fc fe ρ) (xs.take i) = .ok zs ∧ Reps X.K Mi cs zs vs ∧ vs.length ≤ i, ⟨xs.length, by simp, Nat.zero_le _, M1, [], [], ?_, hM1, upd_same, by simp [compO], rfl, Nat.le_refl _⟩, ?_⟩
  · exact ⟨fun a o e => by rw [upd_ne (ne_of_none e hD)]; exact e, .refl _, fun a o e => by rw [upd_ne (ne_of_none e hM1)]; exact R1.le a o e, fun _ _ _ => rfl, fun a zs e n => (by
      by_cases q : a = D
      · subst q; rw [upd_same] at e; cases e
      · rw [upd_ne q, n] at e; cases e), fun s => SzOk.upd s (Nat.zero_le _)⟩
  rintro i m Hi ⟨rfl, hi, Mi, zs, vs, xi, hMi, hHi, hc, hr, hvl⟩
  have Ri := R1.ext xi
  have hs : SrcOk X.K Mi Hi cs src := fun p hp => by
    obtain ⟨n, _, h1, h2⟩ := hsrc p hp
    obtain ⟨_, _, us, h3, h4⟩ := cell_rep Ri h2 h1
    exact ⟨us, h3, h4⟩
  by_cases hlt : i < xs.length
  · refine .inr ?_
    have hx : xs[i]? = some xs[i] := by simp [hlt]
    obtain ⟨g1, g2⟩ := hwk.go i Mi Hi _ xi.m Ri.le hs hx
    obtain ⟨us, hus⟩ := compO_take e2 (i + 1)
    have htk : xs.take (i + 1) = xs.take i ++ [xs[i]] := by rw [List.take_add_one]; simp [hlt]
    have hus' := hus
    rw [htk] at hus'
    obtain ⟨zs', o, h1, h2, h3⟩ := compO_snoc.mp hus'
    rw [hc] at h1; cases h1
    refine ⟨g1, fun H' => ∃ Mi zs vs, Ext H1 M1 H' Mi ∧ Mi D = none ∧ H' D = some (.lst vs) ∧ compO (turnC tg fc fe ρ) (xs.take (i + 1)) = .ok zs ∧ Reps X.K Mi cs zs vs ∧ vs.length ≤ i + 1, fun H' h => ⟨xs.length - (i + 1), by omega, rfl, hlt, h⟩, fun x H2 hy => ?_⟩
    obtain ⟨M2, x2, r2⟩ := g2 x H2 hy
    obtain ⟨ρ', h4, h5⟩ := Rs.bind_eq_ok.mp h2
    obtain ⟨k, h6, h7⟩ := Rs.bind_eq_ok.mp h5
    have R2 := Ri.ext x2
    have hl : (wipe σ (tgIdx tg)).length = ρ.sl.length := by rw [wipe_length]; exact r.len
    have hrel : RelSl X.K M2 cs (wipe σ (tgIdx tg)) ρ.sl (tgIdx tg) := fun j v hj e => by
      obtain ⟨w, a1, a2⟩ := R2.sl j v e
      exact ⟨w, by rw [wipe_get, if_neg hj]; exact a1, a2⟩
    refine tg_run R2.le hl hrel r2 h4 fun ws hce hlen hrel' => ⟨by rw [wipe_put _ _ _ _ fun _ h => h, wipe_wipe], ?_⟩
    have R3 : R X.K H0 M0 (putAll (wipe σ (tgIdx tg)) ((tgIdx tg).zip ws)) H2 ρ' M2 cs := R2.slots hce (by rw [putAll_length, hl, hlen]) hrel'
    refine ⟨ρ', M2, cs, R3, k, h6, fun H3 M3 x3 => ?_⟩
    have hD3 : H3 D = some (.lst vs) := x3.h _ _ (x2.h _ _ hHi)
    have hM3 : M3 D = none := (x3.ol D _ (x2.h _ _ hHi)).trans ((x2.ol D _ hHi).trans hMi)
    cases k with
    | false =>
      cases h7
      refine iteF ?_
      exact ⟨M3, us, vs, (xi.trans x2).trans x3, hM3, hD3, hus, by rw [h3]; simpa using hr.mono (x2.m.trans x3.m), by omega⟩
    | true =>
      obtain ⟨y, h8, h9⟩ := Rs.bind_eq_ok.mp h7
      cases h9
      refine iteT ?_
      refine ⟨ρ', M3, cs, R3.ext x3, y, h8, fun w4 H4 M4 x4 r4 => ?_⟩
      have hD4 : H4 D = some (.lst vs) := x4.h _ _ hD3
      have hM4 : M4 D = none := (x4.ol D _ hD3).trans hM3
      refine ⟨vs, hD4, Nat.lt_of_le_of_lt hvl (Nat.lt_of_lt_of_le hlt hz), M4, us, vs ++ [w4], ?_, hM4, upd_same, hus, ?_, by rw [List.length_append]; simp; omega⟩
      · have x5 := ((xi.trans x2).trans x3).trans x4
        refine ⟨fun a o e => ?_, x5.m, fun a o e => by rw [upd_ne (ne_of_none e hM4)]; exact x5.le a o e, x5.ol, fun a zs e n => ?_, fun s => SzOk.upd (x5.sz s) ?_⟩
        · rw [upd_ne (ne_of_none e hD)]; exact x5.h a o e
        · by_cases q : a = D
          · subst q; rw [upd_same] at e; cases e
          · rw [upd_ne q] at e; exact x5.tu a zs e n
        · show (vs ++ [w4]).length ≤ sizeLine
          (rw [List.length_append, List.length_singleton])
          omega
      · rw [h3]
        exact (hr.mono ((x2.m.trans x3.m).trans x4.m)).append (Reps.one r4)
  · have hie : i = xs.length := by omega
    subst hie
    rw [List.take_length, e2] at hc
    cases hc
    exact .inl ⟨hwk.stop _ Mi Hi xi.m Ri.le hs (Nat.le_refl _), w D Hi Mi vs (x1.trans xi) hMi hH hHi hr⟩
end
end PF

set_option Elab.async false
set_option linter.all false
set_option maxRecDepth 100000
/-! PFi: expressions of the text against ours. -/
namespace PF
open PySem L2

def bop : BOp → Operator
  | .add => .Add | .sub => .Sub | .mul => .Mult | .mod => .Mod | .fdiv => .FloorDiv | .pow => .Pow
def biName : BI → Str
  | .len => "len" | .tuple => "tuple" | .list => "list" | .sorted => "sorted" | .sum => "sum" | .min => "min" | .max => "max" | .all => "all" | .any => "any" | .int => "int" | .str => "str" | .abs => "abs" | .sortset => "sortset" | .lenset => "lenset"
def biOk : BI → Bool
  | .str | .sortset | .lenset => false
  | _ => true
def tyName : TyN → String
  | .int => "int" | .bool => "bool" | .str => "str" | .tuple => "tuple" | .list => "list" | .dict => "dict"
/-- the built-in names that the text may use -/
def bltNames : List Str := ["len", "tuple", "list", "sorted", "sum", "min", "max", "all", "any", "int", "str", "abs", "range", "enumerate", "zip", "reversed", "isinstance", "bool", "set", "dict"]

def nameOk (N : List Str) (sc : Scope) (i : Nat) (x : Str) : Bool := decide (N[i]? = some x) && (match sc.names.lookup x with | some .local => true | some .cell => true | some .free => true | _ => false) && !(x == ("__debug__" : Str)) && !(x == ("__classdict__" : Str))
def glOk (sc : Scope) (x : Str) : Bool := (match sc.names.lookup x with | some .globalImplicit => true | _ => false) && !(x == ("__debug__" : Str))
def bltOk (sc : Scope) (x y : Str) : Bool := decide (y = x) && glOk sc x && decide (x ∈ bltNames)
def cstOk : PV → Const → Bool
  | .non, .none => true
  | .bl b, .bool c => b == c
  | .int i, .int j => decide (i = j)
  | .str s, .str t => decide (s = t)
  | _, _ => false
def opIs (a b : Operator) : Bool := decide (a = b)
def cmpIs (a b : CmpOp) : Bool := decide (a = b)
def tgOk (N : List Str) (sc : Scope) : Tg → Expr → Bool
  | .nm i, .Name x _ => decide (N[i]? = some x) && (match sc.names.lookup x with | some .local => true | some .cell => true | _ => false)
  | .tp is, .Tuple es _ _ => go is es
  | _, _ => false
where go : List Nat → List Expr → Bool
  | [], [] => true
  | i :: is, .Name x _ :: es => decide (N[i]? = some x) && (match sc.names.lookup x with | some .local => true | some .cell => true | _ => false) && go is es
  | _, _ => false
def isTp : Expr → Bool
  | .Tuple _ _ _ => true
  | _ => false
/-- the names of a target with their places -/
def tgOwn (N : List Str) (tg : Tg) : List (Str × Nat) := (tgIdx tg).map fun i => ((N[i]?).getD "", i)

/-- a call of a name with one argument, with two -/
def callOf1 : Expr → Option (Str × Expr)
  | .Call (.Name f _) [x] [] _ => some (f, x)
  | _ => none
def callOf2 : Expr → Option (Str × Expr × Expr)
  | .Call (.Name f _) [x, y] [] _ => some (f, x, y)
  | _ => none
theorem any1 {α : Type} {o : Option α} {g : α → Bool} (h : o.any g = true) : ∃ a, o = some a ∧ g a = true := by
  cases o with
  | none => cases h
  | some a => exact ⟨a, rfl, h⟩
theorem callOf1_ok {e x : Expr} {f : Str} (h : callOf1 e = some (f, x)) : ∃ p q, e = .Call (.Name f p) [x] [] q := by
  unfold callOf1 at h
  split at h
  · cases h; exact ⟨_, _, rfl⟩
  · cases h
theorem callOf2_ok {e x y : Expr} {f : Str} (h : callOf2 e = some (f, x, y)) : ∃ p q, e = .Call (.Name f p) [x, y] [] q := by
  unfold callOf2 at h
  split at h
  · cases h; exact ⟨_, _, rfl⟩
  · cases h

mutual
def chkE (N : List Str) : Scope → Ex → Expr → Bool
  | sc, .var i, .Name x _ => nameOk N sc i x
  | _, .cst v, .Constant c _ _ => cstOk v c
  | sc, .tup es, .Tuple xs _ _ => chkEs N sc es xs && decide (xs.length ≤ 1000)
  | sc, .lst es, .List xs _ => chkEs N sc es xs && decide (xs.length ≤ 1000)
  | sc, .bin op a b, .BinOp x o y _ => opIs o (bop op) && chkE N sc a x && chkE N sc b y
  | sc, .neg a, .UnaryOp .USub x _ => chkE N sc a x
  | sc, .nt a, .UnaryOp .Not x _ => chkE N sc a x
  | sc, .cmp op a b, .Compare x [o] [y] _ => cmpIs o (cop op) && chkE N sc a x && chkE N sc b y
  | sc, .cmp2 op op2 a b c, .Compare x [o, o2] [y, z] _ => cmpIs o (cop op) && cmpIs o2 (cop op2) && chkE N sc a x && chkE N sc b y && chkE N sc c z
  | sc, .and es, .BoolOp .And xs _ => chkEs N sc es xs
  | sc, .or es, .BoolOp .Or xs _ => chkEs N sc es xs
  | sc, .ite c a b, .IfExp z x y _ => chkE N sc c z && chkE N sc a x && chkE N sc b y
  | sc, .ix a i, .Subscript x y _ => chkE N sc a x && chkE N sc i y
  | sc, .sl a lo hi, .Subscript x (.Slice l h none _) _ => chkE N sc a x && chkO N sc lo l && chkO N sc hi h
  | sc, .sl3 a lo hi st, .Subscript x (.Slice l h (some s) _) _ => chkE N sc a x && chkO N sc lo l && chkO N sc hi h && chkE N sc st s
  | sc, .call f _ es, .Call (.Name x _) xs [] _ => decide (f = x) && glOk sc x && chkEs N sc es xs && !xs.isEmpty
  | sc, .bi b es, .Call (.Name x _) xs [] _ => biOk b && bltOk sc (biName b) x && chkEs N sc es xs && !xs.isEmpty
  | sc, .isi a t, .Call (.Name x _) [y, .Name z _] [] _ => bltOk sc "isinstance" x && chkE N sc a y && bltOk sc (Str.ofString (tyName t)) z
  | sc, .comp elt tg it cond, .ListComp x [⟨tx, ix, ifs, as⟩] scope _ => decide (as = 0) && chkI N sc it ix (isTp tx) && blkC N sc scope (tgOwn N tg) && tgOk N scope tg tx && chkC N (relS scope sc) cond ifs && chkE N (relS scope sc) elt x
  | _, _, _ => false
def chkEs (N : List Str) : Scope → List Ex → List Expr → Bool
  | _, [], [] => true
  | sc, e :: es, x :: xs => chkE N sc e x && chkEs N sc es xs
  | _, _, _ => false
def chkO (N : List Str) : Scope → Option Ex → Option Expr → Bool
  | _, none, none => true
  | sc, some e, some x => chkE N sc e x
  | _, _, _ => false
def chkC (N : List Str) : Scope → Option Ex → List Expr → Bool
  | _, none, [] => true
  | sc, some e, [x] => chkE N sc e x
  | _, _, _ => false
def chkI (N : List Str) : Scope → It → Expr → Bool → Bool
  | sc, .seq e, x, _ => chkE N sc e x
  | sc, .rng e, x, _ => (callOf1 x).any fun p => bltOk sc "range" p.1 && chkE N sc e p.2
  | sc, .rlen e, x, _ => (callOf1 x).any fun p => bltOk sc "range" p.1 && (callOf1 p.2).any fun r => bltOk sc "len" r.1 && chkE N sc e r.2
  | sc, .rng2 a b, x, _ => (callOf2 x).any fun p => bltOk sc "range" p.1 && chkE N sc a p.2.1 && chkE N sc b p.2.2
  | sc, .enum e, x, k => k && (callOf1 x).any fun p => bltOk sc "enumerate" p.1 && chkE N sc e p.2
  | sc, .zip a b, x, k => k && (callOf2 x).any fun p => bltOk sc "zip" p.1 && chkE N sc a p.2.1 && chkE N sc b p.2.2
  | sc, .rev e, x, _ => (callOf1 x).any fun p => bltOk sc "reversed" p.1 && chkE N sc e p.2
  | _, .rng3 _ _ _, _, _ => false
end
mutual
/-- every call of a def of the text is known to P -/
def callsE (P : Str → Nat → Sem → Prop) : Ex → Prop
  | .tup es | .lst es | .and es | .or es | .bi _ es => callsEs P es
  | .bin _ a b | .cmp _ a b | .ix a b => callsE P a ∧ callsE P b
  | .neg a | .nt a | .isi a _ => callsE P a
  | .cmp2 _ _ a b c | .ite a b c => callsE P a ∧ callsE P b ∧ callsE P c
  | .sl a lo hi => callsE P a ∧ callsO P lo ∧ callsO P hi
  | .sl3 a lo hi st => callsE P a ∧ callsO P lo ∧ callsO P hi ∧ callsE P st
  | .call x f es => P x es.length f ∧ callsEs P es
  | .comp elt _ it c => callsE P elt ∧ callsI P it ∧ callsO P c
  | _ => True
def callsEs (P : Str → Nat → Sem → Prop) : List Ex → Prop
  | [] => True
  | e :: es => callsE P e ∧ callsEs P es
def callsO (P : Str → Nat → Sem → Prop) : Option Ex → Prop
  | none => True
  | some e => callsE P e
def callsI (P : Str → Nat → Sem → Prop) : It → Prop
  | .seq e | .rng e | .enum e | .rev e | .rlen e => callsE P e
  | .rng2 a b | .zip a b => callsE P a ∧ callsE P b
  | .rng3 a b c => callsE P a ∧ callsE P b ∧ callsE P c
end
/-- the cells that are walked -/
noncomputable def srcI : It → Env → List Nat
  | .seq e, ρ => cellsOf (evE e ρ)
  | .enum e, ρ => cellsOf (evE e ρ)
  | .rev e, ρ => cellsOf (evE e ρ)
  | .zip a b, ρ => cellsOf (evE a ρ) ++ cellsOf (evE b ρ)
  | _, _ => []

/-! ### heads -/
def headOk : Expr → Bool
  | .BoolOp .. | .BinOp .. | .UnaryOp .. | .IfExp .. | .ListComp .. | .Compare .. | .Call .. | .Constant .. | .Subscript .. | .Name .. | .List .. | .Tuple .. | .Attribute .. => true
  | _ => false
theorem chk_head {N : List Str} {sc : Scope} {e : Ex} {x : Expr} (h : chkE N sc e x = true) : headOk x = true := by
  cases x <;> first | rfl | (cases e <;> simp [chkE] at h)
theorem head_star {x : Expr} (h : headOk x = true) (xs : List Expr) (env : PySem.Env) : starEach (x :: xs) env = (false, eval x env) :: starEach xs env := by cases x <;> first | rfl | simp [headOk] at h
theorem head_ix {x : Expr} (h : headOk x = true) : PlainIx x := by
  intro o i
  cases x <;> first | rfl | simp [headOk] at h
theorem head_in {x : Expr} (h : headOk x = true) (op : CmpOp) : behindInMarks op x = false := by cases x <;> first | rfl | simp [headOk] at h
theorem head_last {x y : Expr} {o o2 : CmpOp} (h : headOk y = true) : lastMarks [o, o2] [x, y] = false := head_in h o2
theorem chks_star {N : List Str} {sc : Scope} {env : PySem.Env} {pos : Pos} : ∀ {es : List Ex} {xs : List Expr}, chkEs N sc es xs = true → (backTo pos (starEach xs env)).any (·.1) = false
  | [], [], _ => rfl
  | e :: es, x :: xs, h => by
    simp only [chkEs, Bool.and_eq_true] at h
    rw [head_star (chk_head h.1)]
    have := chks_star (env := env) (pos := pos) h.2
    simp only [backTo, List.map_cons, List.any_cons, Bool.false_or] at this ⊢
    exact this
  | [], _ :: _, h => by simp [chkEs] at h
  | _ :: _, [], h => by simp [chkEs] at h
theorem chkEs_length {N : List Str} {sc : Scope} : ∀ {es : List Ex} {xs : List Expr}, chkEs N sc es xs = true → xs.length = es.length
  | [], [], _ => rfl
  | e :: es, x :: xs, h => by
    simp only [chkEs, Bool.and_eq_true] at h
    simp [chkEs_length h.2]
  | [], _ :: _, h => by simp [chkEs] at h
  | _ :: _, [], h => by simp [chkEs] at h
theorem evEs_length : ∀ {es : List Ex} {ρ : Env} {vs : List PV}, evEs es ρ = .ok vs → vs.length = es.length
  | [], _, _, h => by simp [evEs] at h; subst h; rfl
  | e :: es, ρ, vs, h => by
    simp only [evEs, Rs.bind_eq_ok] at h
    obtain ⟨v, _, us, h2, h3⟩ := h
    cases h3
    simp [evEs_length h2]
end PF

set_option Elab.async false
set_option linter.all false
set_option maxRecDepth 100000
/-! PFj: an expression that is checked computes what we say. -/
namespace PF
open PySem L2

def CallOk (X : Cx) (x : Str) (n : Nat) (f : Sem) : Prop := ∃ (k : Nat) (fa : Addr) (fd : FuncData) (ps : List Str), FnOk X.prog X.w X.K X.mg X.base (L2.CX X.prog X.w) k fa fd ps (SpOf X.K n f) ∧ Room k X.A ∧
  X.mg x = some (.ref fa) ∧ PySem.W.keepIn X.K (.ref fa) = true ∧ Binds X.K fd ps []
structure Ctx (X : Cx) (N : List Str) (sc : Scope) (P : Str → Nat → Sem → Prop) : Prop where
  hN : X.N = N
  nd : N.Nodup
  hsc : X.env.scope = sc
  calm : X.calm = true
  hu : X.A.units + 65 < cLine
  bl : ∀ x ∈ bltNames, X.mg x = none
  ca : ∀ x n f, P x n f → CallOk X x n f
theorem Ctx.blk {X : Cx} {N : List Str} {sc : Scope} {P : Str → Nat → Sem → Prop} (c : Ctx X N sc P) (s : Shared) (H : Hp) (scope : Scope) (cl : List (Str × Addr)) (C : Addr) (fp : List Addr) :
    Ctx (X.blk s H scope (compEnvC scope cl C X.env) fp) N (relS scope sc) P :=
  ⟨c.hN, c.nd, by rw [← c.hsc]; rfl, c.calm, c.hu, c.bl, fun x n f h => c.ca x n f h⟩
theorem kind_gl {X : Cx} {sc : Scope} (hsc : X.env.scope = sc) {x : Str} (h : glOk sc x = true) : Gl X x ∧ (x == ("__debug__" : Str)) = false := by
  unfold glOk at h
  rw [Bool.and_eq_true] at h
  refine ⟨?_, by simpa using h.2⟩
  have h1 := h.1
  split at h1
  · rename_i q
    show X.env.scope.names.lookup x = _
    rw [hsc]; exact q
  · cases h1
theorem blt_of {X : Cx} {N : List Str} {sc : Scope} {P : Str → Nat → Sem → Prop} (c : Ctx X N sc P) {x y : Str} (h : bltOk sc x y = true) : y = x ∧ Gl X x ∧ X.mg x = none ∧ (x == ("__debug__" : Str)) = false := by
  simp only [bltOk, Bool.and_eq_true, decide_eq_true_eq] at h
  obtain ⟨⟨h1, h2⟩, h3⟩ := h
  obtain ⟨a, b⟩ := kind_gl c.hsc h2
  exact ⟨h1, a, c.bl x h3, b⟩
theorem CallR.or {X : Cx} {f : Value} {r r' : List V → Hp → VK → Prop} (h : CallR X f r) (h' : CallR X f r') : CallR X f (fun xs H Q => r xs H Q ∨ r' xs H Q) :=
  fun pins s σ H xs us Q I rv q => q.elim (h pins s σ H xs us Q I rv) (h' pins s σ H xs us Q I rv)
theorem E?.congr {X : Cx} {H0 M0 : Hp} {x : Expr} {f g : Env → Rs PV} (h : E? X H0 M0 x f) (e : ∀ ρ, g ρ = f ρ) : E? X H0 M0 x g := by
  have : g = f := funext e
  rw [this]; exact h
theorem I?.congr {X : Cx} {H0 M0 : Hp} {tg x : Expr} {f g : Env → Rs (List PV)} {fs : Env → List Nat} (h : I? X H0 M0 tg x f fs) (e : ∀ ρ, g ρ = f ρ) : I? X H0 M0 tg x g fs := by
  have : g = f := funext e
  rw [this]; exact h
theorem T?.congr {X : Cx} {H0 M0 : Hp} {x : Expr} {f g : Env → Rs Bool} (h : T? X H0 M0 x f) (e : ∀ ρ, g ρ = f ρ) : T? X H0 M0 x g := by
  have : g = f := funext e
  rw [this]; exact h
theorem W?.congr {X : Cx} {H0 M0 : Hp} {x : Expr} {f g : Env → Rs Bool} (h : W? X H0 M0 x f) (e : ∀ ρ, g ρ = f ρ) : W? X H0 M0 x g := by
  have : g = f := funext e
  rw [this]; exact h

section
variable {X : Cx} {H0 M0 : Hp} {N : List Str} {sc : Scope} {P : Str → Nat → Sem → Prop} {a : Expr} {pos p : Pos}
theorem f_bi (c : Ctx X N sc P) (b : BI) (hb : biOk b = true) {x : Str} {es : List Expr} {fs : Env → Rs (List PV)} (hx : bltOk sc (biName b) x = true)
    (he : starEach (a :: es) X.env = (false, eval a X.env) :: starEach es X.env) (hpl : (backTo pos (starEach es X.env)).any (·.1) = false) (ha : Es? X H0 M0 (a :: es) fs) :
    E? X H0 M0 (.Call (.Name x p) (a :: es) [] pos) (fun ρ => (fs ρ).bind fun vs => biO ρ b vs) := by
  obtain ⟨rfl, hg, hm, hdb⟩ := blt_of c hx
  cases b with
  | len => exact f_callB (CallR.or call_len_seq call_len_str) bi_len hg hm (by decide +kernel) (by decide +kernel) hdb he hpl ha
  | tuple => exact f_callTy call_tuple_of bi_tuple hg hm (by decide +kernel) (by decide +kernel) hdb he hpl ha
  | list => exact f_callTy call_list_of bi_list hg hm (by decide +kernel) (by decide +kernel) hdb he hpl ha
  | sorted => exact f_callB (CallR.or cr_sortedI cr_sortedPO) bi_sorted hg hm (by decide +kernel) (by decide +kernel) hdb he hpl ha
  | sum => exact f_callB (cr_sum c.calm) bi_sum hg hm (by decide +kernel) (by decide +kernel) hdb he hpl ha
  | min => exact f_callB (CallR.or (call_min2 c.calm) (cr_min c.calm)) bi_min hg hm (by decide +kernel) (by decide +kernel) hdb he hpl ha
  | max => exact f_callB (CallR.or (call_max2 c.calm) (cr_max c.calm)) bi_max hg hm (by decide +kernel) (by decide +kernel) hdb he hpl ha
  | all => exact f_callB (cr_all c.calm) bi_all hg hm (by decide +kernel) (by decide +kernel) hdb he hpl ha
  | any => exact f_callB (cr_any c.calm) bi_any hg hm (by decide +kernel) (by decide +kernel) hdb he hpl ha
  | int => exact f_callTy call_int1 bi_int hg hm (by decide +kernel) (by decide +kernel) hdb he hpl ha
  | abs => exact f_callB call_abs bi_abs hg hm (by decide +kernel) (by decide +kernel) hdb he hpl ha
  | str => cases hb
  | sortset => cases hb
  | lenset => cases hb

theorem isiO_ok {K : PySem.W.Frag} {H : Hp} {v : PV} {w : V} {t : TyN} {k : Bool} (e : isiO v t = .ok k) (h : Rep K H [] v w) : ∃ n, TyX K H w (.type n) ∧ kitB n (tyName t) = some k := by
  cases v with
  | non => cases h; refine ⟨"NoneType", .base .non, ?_⟩; cases t <;> (cases e; decide +kernel)
  | bl b => cases h; refine ⟨"bool", .base (.bl b), ?_⟩; cases t <;> (cases e; decide +kernel)
  | int b => cases h; refine ⟨"int", .base (.int b), ?_⟩; cases t <;> (cases e; decide +kernel)
  | str b => cases h; refine ⟨"str", .base (.str b), ?_⟩; cases t <;> (cases e; decide +kernel)
  | tup xs => obtain ⟨a, vs, rfl, s, _⟩ := h; refine ⟨"tuple", .base (.tup s), ?_⟩; cases t <;> (cases e; decide +kernel)
  | lst xs => obtain ⟨a, vs, rfl, s, _⟩ := h; refine ⟨"list", .base (.lst s), ?_⟩; cases t <;> (cases e; decide +kernel)
  | dic _ _ => exact h.elim
  | ins _ _ => exact h.elim
  | cell _ => obtain ⟨a, _, s⟩ := h; simp at s
  | scr _ => cases t <;> cases e
theorem ty_boot (t : TyN) : bootBuiltins (Str.ofString (tyName t)) = some (.type (tyName t)) := by cases t <;> decide +kernel
theorem f_isi (c : Ctx X N sc P) {t : TyN} {x z : Str} {pz : Pos} {fa : Env → Rs PV} (hx : bltOk sc "isinstance" x = true) (hz : bltOk sc (Str.ofString (tyName t)) z = true) (hh : headOk a = true) (ha : E? X H0 M0 a fa) :
    E? X H0 M0 (.Call (.Name x p) [a, .Name z pz] [] pos) (fun ρ => (fa ρ).bind fun x => (frz ρ x).bind fun x => (isiO x t).bind fun c => .ok (.bl c)) := by
  obtain ⟨rfl, hg, hm, hdb⟩ := blt_of c hx
  obtain ⟨rfl, hg2, hm2, hdb2⟩ := blt_of c hz
  have hn : Str.ofString (tyName t) ≠ "__name__" := by cases t <;> decide +kernel
  have ety := pe_bltn (X := X) (v := .ty (tyName t)) (pos := pz) hg2 hm2 (ty_boot t) rfl hn hdb2
  refine PE.mono (pe_callB call_isi hg hm (by decide +kernel) (pa_cons ha (pa_cons ety pa_nil rfl) (head_star hh _ _)) (by decide +kernel) hdb (head_star hh _ _) rfl) fun σ H Q ⟨ρ, M, cs, R1, v, e, w⟩ => ?_
  obtain ⟨y, e1, e⟩ := Rs.bind_eq_ok.mp e
  obtain ⟨u, e2, e⟩ := Rs.bind_eq_ok.mp e
  obtain ⟨k, e3, e⟩ := Rs.bind_eq_ok.mp e
  cases e
  refine ⟨ρ, M, cs, R1, y, e1, fun w1 H1 M1 x1 r1 => ?_⟩
  obtain ⟨n, h1, h2⟩ := isiO_ok e3 (frz_rep (R1.ext x1) e2 r1)
  exact ⟨w1, .ty (tyName t), _, _, k, rfl, .ty _, h1, kit_ty h2, (w.on x1).now x1.le rfl⟩

/-! ### targets -/
/-- the names of sc0 that may be stored here -/
def Stores (X : Cx) (sc0 : Scope) : Prop := ∀ x, sc0.names.lookup x = some .local ∨ sc0.names.lookup x = some .cell → Loc X.env.scope x ∧ (X.fn x = true ∨ X.env.scope.names.lookup x = some .local)
def locOk (sc : Scope) (x : Str) : Bool := match sc.names.lookup x with | some .local => true | some .cell => true | _ => false
theorem locOk_of {sc : Scope} {x : Str} (h : locOk sc x = true) : sc.names.lookup x = some .local ∨ sc.names.lookup x = some .cell := by
  unfold locOk at h
  split at h
  · rename_i q; exact .inl q
  · rename_i q; exact .inr q
  · cases h
section
variable {sc0 : Scope}
theorem pg_nm {i : Nat} {x : Str} (c : Ctx X N sc P) (s : Stores X sc0) (h1 : N[i]? = some x) (h2 : locOk sc0 x = true) : PG X (.Name x pos) (gName i) := by
  obtain ⟨a, b⟩ := s x (locOk_of h2)
  exact pg_name (by rw [c.hN]; exact c.nd) (by rw [c.hN]; exact h1) a b
theorem pgs_of (c : Ctx X N sc P) (s : Stores X sc0) : ∀ (is : List Nat) (es : List Expr), tgOk.go N sc0 is es = true → PGs X es (gsOf is) ∧ (assignEach es X.env).length = is.length ∧ (assignEach es X.env).findIdx? (·.1) = none
  | [], [], _ => ⟨pgs_nil, rfl, rfl⟩
  | [], _ :: _, h => by simp [tgOk.go] at h
  | _ :: _, [], h => by simp [tgOk.go] at h
  | i :: is, e :: es, h => by
    cases e <;> try (simp [tgOk.go] at h; done)
    rename_i x q
    simp only [tgOk.go, Bool.and_eq_true, decide_eq_true_eq] at h
    obtain ⟨h1, h2, h3⟩ := pgs_of c s is es h.2
    refine ⟨pgs_cons (pg_nm c s h.1.1 h.1.2) h1 rfl, by simp [assignEach, h2], ?_⟩
    simp only [assignEach, List.findIdx?_cons, h3]
    rfl
theorem pg_of (c : Ctx X N sc P) (s : Stores X sc0) {tg : Tg} {e : Expr} (h : tgOk N sc0 tg e = true) : PG X e (TgR X.K tg) := by
  cases tg with
  | nm i =>
    cases e <;> try (simp [tgOk] at h; done)
    simp only [tgOk, Bool.and_eq_true, decide_eq_true_eq] at h
    exact pg_nm c s h.1 h.2
  | tp is =>
    cases e <;> try (simp [tgOk] at h; done)
    rename_i es k q
    obtain ⟨h1, h2, h3⟩ := pgs_of c s is es h
    exact pg_tup c.calm h1 h2 h3
end
theorem stores_blk (s : Shared) (H : Hp) (scope : Scope) (cl : List (Str × Addr)) (C : Addr) (fp : List Addr) : Stores (X.blk s H scope (compEnvC scope cl C X.env) fp) scope := fun x h => by
  rcases h with h | h
  · have q : (relS scope X.env.scope).names.lookup x = some .local := lookup_relS_keep (by decide) h
    exact ⟨.inl q, .inr q⟩
  · have q : (relS scope X.env.scope).names.lookup x = some .cell := lookup_relS_keep (by decide) h
    refine ⟨.inr q, .inl ?_⟩
    show (scope.names.lookup x == some .cell) = true
    rw [h]; rfl
end
end PF

set_option Elab.async false
set_option linter.all false
set_option maxRecDepth 100000
set_option maxHeartbeats 8000000
/-! PFk: the theorem of expressions. -/
namespace PF
open PySem L2

theorem and_ok {a b : Bool} (h : (a && b) = true) : a = true ∧ b = true := by simpa using h
theorem opIs_ok {a b : Operator} (h : opIs a b = true) : a = b := of_decide_eq_true h
theorem cmpIs_ok {a b : CmpOp} (h : cmpIs a b = true) : a = b := of_decide_eq_true h
theorem head_plain {x : Expr} {env : PySem.Env} (h : headOk x = true) (h2 : ∀ op xs p, x ≠ .BoolOp op xs p) (h3 : ∀ y p, x ≠ .UnaryOp .Not y p) (h4 : ∀ a o b p, x ≠ .Compare a o b p) (h5 : ∀ a b c p, x ≠ .IfExp a b c p) :
    ∀ whole, isTrue x env whole = (do let v ← whole; standAt x.pos; holding [v] (truthy v)) := by
  intro whole
  cases x with
  | UnaryOp op y p => cases op <;> first | rfl | exact absurd rfl (h3 y p)
  | BoolOp op xs p => exact absurd rfl (h2 op xs p)
  | Compare a o b p => exact absurd rfl (h4 a o b p)
  | IfExp a b c p => exact absurd rfl (h5 a b c p)
  | _ => first | rfl | simp [headOk] at h
theorem tgOwn_idx (N : List Str) (tg : Tg) : (tgOwn N tg).map (·.2) = tgIdx tg := by
  rw [tgOwn, List.map_map]
  exact List.map_id _

section
variable {H0 M0 : Hp} {N : List Str} {P : Str → Nat → Sem → Prop}
theorem es_len {es : List Ex} {xs : List Expr} {sc : Scope} (h : chkEs N sc es xs = true) (hl : xs.length ≤ 1000) (ρ : Env) (vs : List PV) (e : evEs es ρ = .ok vs) : vs.length ≤ sizeLine := by
  have h1 := chkEs_length h
  have h2 := evEs_length e
  have h3 : (1000 : Nat) ≤ sizeLine := by decide
  omega
theorem f_comp {X : Cx} {sc : Scope} {elt tx ix : Expr} {ifs : List Expr} {scope : Scope} {q : Pos} {tg : Tg} {fit : Env → Rs (List PV)} {fs : Env → List Nat} {fc : Env → Rs Bool} {fe : Env → Rs PV} (c : Ctx X N sc P)
    (hi : I? X H0 M0 tx ix fit fs) (hb : blkC N sc scope (tgOwn N tg) = true) (ht : tgOk N scope tg tx = true) (hs : headOk ix = true)
    (hc : ∀ (X' : Cx), Ctx X' N (relS scope sc) P → X'.K = X.K → PTs X' ifs (tT X.K H0 M0 fc)) (he : ∀ (X' : Cx), Ctx X' N (relS scope sc) P → X'.K = X.K → PE X' elt (tE X.K H0 M0 fe)) :
    E? X H0 M0 (.ListComp elt [⟨tx, ix, ifs, 0⟩] scope q) (fun ρ => (fit ρ).bind fun xs => (compO (turnC tg fc fe ρ) xs).bind fun ys => .ok (.lst ys)) := by
  have ok : BlkOk X.N X.env.scope scope (tgOwn N tg) := by rw [c.hN, c.hsc]; exact blkOk_by hb
  have L := pe_lc (pos := q) c.calm (by rw [c.hN]; exact c.nd) hi ok (g := TgR X.K tg)
    (fun s H C cl fp => pg_of (c.blk s H scope cl C fp) (stores_blk s H scope cl C fp) ht)
    (fun s H C cl fp => hc _ (c.blk s H scope cl C fp) rfl) (fun s H C cl fp => he _ (c.blk s H scope cl C fp) rfl) (by intro x; cases ix <;> first | rfl | simp [headOk] at hs)
  rw [tgOwn_idx] at L
  refine PE.mono L fun σ H Q ⟨ρ, M, cs, r, v, e, w⟩ => ?_
  obtain ⟨xs, e1, e⟩ := Rs.bind_eq_ok.mp e
  obtain ⟨ys, e2, e⟩ := Rs.bind_eq_ok.mp e
  cases e
  refine lc_ok r e1 e2 fun D H' M' vs x1 hM hH hD hr => ?_
  -- the new list comes beside
  refine w (.ref D) H' (upd M' D (.lst vs)) ⟨x1.h, x1.m.trans (.updN (H := H') hM), fun a o ea => ?_, fun a o ea => ?_, fun a zs ea n => ?_, x1.sz⟩ ⟨D, vs, rfl, upd_same, hr.mono (.updN (H := H') hM)⟩
  · by_cases z : a = D
    · subst z; rw [upd_same] at ea; cases ea; exact hD
    · rw [upd_ne z] at ea; exact x1.le a o ea
  · rw [upd_ne (ne_of_none ea hH)]; exact x1.ol a o ea
  · have z : a ≠ D := fun z => by subst z; rw [hD] at ea; cases ea
    rw [upd_ne z]; exact x1.tu a zs ea n
theorem nobool {X : Cx} {x : Expr} {f : Env → Rs PV} (h : ∀ ρ v, f ρ = .ok v → boolOf v = .bad) : T? X H0 M0 x (fun ρ => (f ρ).bind boolOf) :=
  ⟨fun pins s σ H Q I ⟨ρ, M, cs, r, b, e, w⟩ => by
    obtain ⟨v, e1, e2⟩ := Rs.bind_eq_ok.mp e
    rw [h ρ v e1] at e2
    cases e2⟩
theorem chkI_head {sc : Scope} {it : It} {x : Expr} {b : Bool} (h : chkI N sc it x b = true) : headOk x = true := by
  cases it <;> simp only [chkI] at h
  · exact chk_head h
  all_goals first
    | (cases h; done)
    | (obtain ⟨⟨f, y⟩, h1, h2⟩ := any1 h; obtain ⟨p, q, rfl⟩ := callOf1_ok h1; rfl)
    | (obtain ⟨⟨f, y, z⟩, h1, h2⟩ := any1 h; obtain ⟨p, q, rfl⟩ := callOf2_ok h1; rfl)
    | (obtain ⟨h0, h⟩ := and_ok h; obtain ⟨⟨f, y⟩, h1, h2⟩ := any1 h; obtain ⟨p, q, rfl⟩ := callOf1_ok h1; rfl)
    | (obtain ⟨h0, h⟩ := and_ok h; obtain ⟨⟨f, y, z⟩, h1, h2⟩ := any1 h; obtain ⟨p, q, rfl⟩ := callOf2_ok h1; rfl)
theorem pt_ifExp {X : Cx} {a b c : Expr} {pos : Pos} {tC tA tB : TT} (hc : PT X c tC) (ha : PT X a tA) (hb : PT X b tB) : PT X (.IfExp c a b pos) (fun σ H Q => tC σ H fun k H1 => if k = true then tA σ H1 Q else tB σ H1 Q) := by
  (refine ⟨fun pins s σ H Q I h => ?_⟩)
  refine PyProof.Rows.isTrue_IfExp (thn (hc.run pins s σ H _ I h) fun d s1 ⟨H1, I1, q1⟩ => ?_)
  cases d with
  | true => (exact ha.run pins s1 σ H1 Q I1 q1)
  | false => (exact hb.run pins s1 σ H1 Q I1 q1)
theorem g_ite {X : Cx} {a b c : Expr} {pos : Pos} {ga gb gc : Env → Rs Bool} (hc : T? X H0 M0 c gc) (ha : T? X H0 M0 a ga) (hb : T? X H0 M0 b gb) : T? X H0 M0 (.IfExp c a b pos) (fun ρ => (gc ρ).bind fun k => if k then ga ρ else gb ρ) := by
  refine PT.mono (pt_ifExp hc ha hb) fun σ H Q ⟨ρ, M, cs, R1, v, e, w⟩ => ?_
  obtain ⟨k, e1, e⟩ := Rs.bind_eq_ok.mp e
  refine ⟨ρ, M, cs, R1, k, e1, fun H1 M1 x1 => ?_⟩
  cases k with
  | true => exact ⟨ρ, M1, cs, R1.ext x1, v, e, fun H2 M2 x2 => w H2 M2 (x1.trans x2)⟩
  | false => exact ⟨ρ, M1, cs, R1.ext x1, v, e, fun H2 M2 x2 => w H2 M2 (x1.trans x2)⟩
def plainEx : Ex → Bool
  | .nt _ | .cmp _ _ _ | .cmp2 _ _ _ _ _ | .and _ | .or _ | .ite _ _ _ => false
  | _ => true
theorem plainT {e : Ex} {X : Cx} {sc : Scope} {x : Expr} (q : E? X H0 M0 x (evE e)) (hh : chkE N sc e x = true) (hp : plainEx e = true) : E? X H0 M0 x (evE e) ∧ T? X H0 M0 x (fun ρ => (evE e ρ).bind boolOf) := by
  refine ⟨q, g_val q (head_plain (chk_head hh) ?_ ?_ ?_ ?_)⟩ <;> (intros; intro z; subst z; cases e <;> first | (simp [plainEx] at hp; done) | simp [chkE] at hh)
mutual
theorem sndE : ∀ (e : Ex) (X : Cx) (sc : Scope) (x : Expr), Ctx X N sc P → chkE N sc e x = true → callsE P e → E? X H0 M0 x (evE e) ∧ T? X H0 M0 x (fun ρ => (evE e ρ).bind boolOf)
  | .var i, X, sc, x, c, h, k => by
    have hh := h
    cases x <;> try (simp [chkE] at h; done)
    rename_i y q
    simp only [chkE, nameOk, Bool.and_eq_true, decide_eq_true_eq] at h
    (obtain ⟨⟨⟨h1, h2⟩, h3⟩, h4⟩ := h)
    refine plainT ((f_var (i := i) (by rw [c.hN]; exact h1) ?_ (by simpa using h3) (by simpa using h4)).congr fun ρ => by simp only [evE]) hh rfl
    show X.env.scope.names.lookup y = _ ∨ X.env.scope.names.lookup y = _ ∨ X.env.scope.names.lookup y = _
    rw [c.hsc]
    split at h2
    · rename_i z; exact .inl z
    · rename_i z; exact .inr (.inl z)
    · rename_i z; exact .inr (.inr z)
    · cases h2
  | .cst v, X, sc, x, c, h, k => by
    have hh := h
    cases x <;> try (simp [chkE] at h; done)
    rename_i y q z
    simp only [chkE] at h
    cases v <;> cases y <;> try (simp [cstOk] at h; done)
    · exact plainT (f_non.congr fun ρ => by simp only [evE]) hh rfl
    · simp only [cstOk, beq_iff_eq] at h; subst h; exact plainT (f_bl.congr fun ρ => by simp only [evE]) hh rfl
    · simp only [cstOk, decide_eq_true_eq] at h; subst h; exact plainT (f_int.congr fun ρ => by simp only [evE]) hh rfl
    · simp only [cstOk, decide_eq_true_eq] at h; subst h; exact plainT (f_str.congr fun ρ => by simp only [evE]) hh rfl
  | .tup es, X, sc, x, c, h, k => by
    have hh := h
    cases x <;> try (simp [chkE] at h; done)
    simp only [chkE, Bool.and_eq_true, decide_eq_true_eq] at h
    simp only [callsE] at k
    exact plainT ((f_tup (es_len h.1 h.2) (sndEs es X sc _ c h.1 k)).congr fun ρ => by simp only [evE]) hh rfl
  | .lst es, X, sc, x, c, h, k => by
    have hh := h
    cases x <;> try (simp [chkE] at h; done)
    simp only [chkE, Bool.and_eq_true, decide_eq_true_eq] at h
    simp only [callsE] at k
    exact plainT ((f_lst (es_len h.1 h.2) (sndEs es X sc _ c h.1 k)).congr fun ρ => by simp only [evE]) hh rfl
  | .bin op a b, X, sc, x, c, h, k => by
    have hh := h
    cases x <;> try (simp [chkE] at h; done)
    simp only [chkE, Bool.and_eq_true] at h
    simp only [callsE] at k
    have ha := (sndE a X sc _ c h.1.2 k.1).1
    have hb := (sndE b X sc _ c h.2 k.2).1
    have ho := opIs_ok h.1.1
    subst ho
    cases op with
    | add => exact plainT ((f_add ha hb).congr fun ρ => by simp only [evE]) hh rfl
    | sub => exact plainT ((f_sub ha hb).congr fun ρ => by simp only [evE]) hh rfl
    | mul => exact plainT ((f_mul ha hb).congr fun ρ => by simp only [evE]) hh rfl
    | mod => exact plainT ((f_mod ha hb).congr fun ρ => by simp only [evE]) hh rfl
    | fdiv => exact plainT ((f_fdiv ha hb).congr fun ρ => by simp only [evE]) hh rfl
    | pow => exact plainT ((f_pow ha hb).congr fun ρ => by simp only [evE]) hh rfl
  | .neg a, X, sc, x, c, h, k => by
    have hh := h
    cases x <;> try (simp [chkE] at h; done)
    rename_i op y q
    cases op <;> try (simp [chkE] at h; done)
    simp only [chkE] at h
    simp only [callsE] at k
    exact plainT ((f_neg (sndE a X sc _ c h k).1).congr fun ρ => by simp only [evE]) hh rfl
  | .nt a, X, sc, x, c, h, k => by
    cases x <;> try (simp [chkE] at h; done)
    rename_i op y q
    cases op <;> try (simp [chkE] at h; done)
    simp only [chkE] at h
    simp only [callsE] at k
    have ih := sndE a X sc y c h k
    refine ⟨(f_not ih.1).congr fun ρ => by simp only [evE], (g_not ih.2).congr fun ρ => ?_⟩
    simp only [evE]
    cases evE a ρ with
    | ok v => cases v <;> rfl
    | err _ _ => rfl
    | bad => rfl
  | .cmp op a b, X, sc, x, c, h, k => by
    cases x <;> try (simp [chkE] at h; done)
    rename_i l os rs q
    cases os <;> try (simp [chkE] at h; done)
    rename_i o os
    cases os <;> try (simp [chkE] at h; done)
    cases rs <;> try (simp [chkE] at h; done)
    rename_i r rs
    cases rs <;> try (simp [chkE] at h; done)
    simp only [chkE, Bool.and_eq_true] at h
    simp only [callsE] at k
    have ho := cmpIs_ok h.1.1
    subst ho
    have ha := (sndE a X sc _ c h.1.2 k.1).1
    have hb := (sndE b X sc _ c h.2 k.2).1
    refine ⟨(f_cmp c.hu (head_in (chk_head h.2) _) ha hb).congr fun ρ => by simp only [evE], (g_cmp c.hu (head_in (chk_head h.2) _) ha hb).congr fun ρ => ?_⟩
    simp only [evE]
    cases evE a ρ with
    | ok v =>
      cases evE b ρ with
      | ok u => simp only [Rs.bind_ok]; cases cmpO ρ op v u <;> rfl
      | err _ _ => rfl
      | bad => rfl
    | err _ _ => rfl
    | bad => rfl
  | .cmp2 op op2 a b d, X, sc, x, c, h, k => by
    cases x <;> try (simp [chkE] at h; done)
    rename_i l os rs q
    cases os <;> try (simp [chkE] at h; done)
    rename_i o os
    cases os <;> try (simp [chkE] at h; done)
    rename_i o2 os
    cases os <;> try (simp [chkE] at h; done)
    cases rs <;> try (simp [chkE] at h; done)
    rename_i r rs
    cases rs <;> try (simp [chkE] at h; done)
    rename_i r2 rs
    cases rs <;> try (simp [chkE] at h; done)
    simp only [chkE, Bool.and_eq_true] at h
    simp only [callsE] at k
    have ho := cmpIs_ok h.1.1.1.1
    have ho2 := cmpIs_ok h.1.1.1.2
    subst ho ho2
    have ha := (sndE a X sc _ c h.1.1.2 k.1).1
    have hb := (sndE b X sc _ c h.1.2 k.2.1).1
    have hd := (sndE d X sc _ c h.2 k.2.2).1
    refine ⟨(f_cmp2 c.hu (head_last (chk_head h.2)) ha hb hd).congr fun ρ => by simp only [evE], (g_cmp2 c.hu (head_last (chk_head h.2)) ha hb hd).congr fun ρ => ?_⟩
    simp only [evE]
    cases evE a ρ with
    | ok v =>
      cases evE b ρ with
      | ok u =>
        simp only [Rs.bind_ok]
        cases cmpO ρ op v u with
        | ok t =>
          cases t with
          | false => rfl
          | true =>
            simp only [Rs.bind_ok, if_true]
            cases evE d ρ with
            | ok z => simp only [Rs.bind_ok]; cases cmpO ρ op2 u z <;> rfl
            | err _ _ => rfl
            | bad => rfl
        | err _ _ => rfl
        | bad => rfl
      | err _ _ => rfl
      | bad => rfl
    | err _ _ => rfl
    | bad => rfl
  | .and es, X, sc, x, c, h, k => by
    cases x <;> try (simp [chkE] at h; done)
    rename_i op xs q
    cases op <;> try (simp [chkE] at h; done)
    simp only [chkE] at h
    simp only [callsE] at k
    have ih := sndAnd es X sc xs q c h k
    exact ⟨ih.1.congr fun ρ => by simp only [evE], T?.congr (PW.pt ih.2) fun ρ => by simp only [evE]⟩
  | .or es, X, sc, x, c, h, k => by
    cases x <;> try (simp [chkE] at h; done)
    rename_i op xs q
    cases op <;> try (simp [chkE] at h; done)
    simp only [chkE] at h
    simp only [callsE] at k
    have ih := sndOr es X sc xs q c h k
    exact ⟨ih.1.congr fun ρ => by simp only [evE], T?.congr (PW.pt ih.2) fun ρ => by simp only [evE]⟩
  | .ite t a b, X, sc, x, c, h, k => by
    cases x <;> try (simp [chkE] at h; done)
    simp only [chkE, Bool.and_eq_true] at h
    simp only [callsE] at k
    have it := (sndE t X sc _ c h.1.1 k.1).2
    have ia := sndE a X sc _ c h.1.2 k.2.1
    have ib := sndE b X sc _ c h.2 k.2.2
    refine ⟨(f_ite it ia.1 ib.1).congr fun ρ => ?_, (g_ite it ia.2 ib.2).congr fun ρ => ?_⟩
    · simp only [evE]
      cases evE t ρ with
      | ok v => cases v <;> rfl
      | err _ _ => rfl
      | bad => rfl
    · simp only [evE]
      cases evE t ρ with
      | ok v => cases v <;> first | rfl | (rename_i u; cases u <;> rfl)
      | err _ _ => rfl
      | bad => rfl
  | .ix a i, X, sc, x, c, h, k => by
    have hh := h
    cases x <;> try (simp [chkE] at h; done)
    simp only [chkE, Bool.and_eq_true] at h
    simp only [callsE] at k
    exact plainT ((f_ix (head_ix (chk_head h.2)) (sndE a X sc _ c h.1 k.1).1 (sndE i X sc _ c h.2 k.2).1).congr fun ρ => by simp only [evE]) hh rfl
  | .sl a lo hi, X, sc, x, c, h, k => by
    have hh := h
    cases x <;> try (simp [chkE] at h; done)
    rename_i y s q
    cases s <;> try (simp [chkE] at h; done)
    rename_i l u st q2
    cases st <;> try (simp [chkE] at h; done)
    simp only [chkE, Bool.and_eq_true] at h
    simp only [callsE] at k
    exact plainT ((f_sl (sndE a X sc _ c h.1.1 k.1).1 (sndO lo X sc _ c h.1.2 k.2.1) (sndO hi X sc _ c h.2 k.2.2)).congr fun ρ => by simp only [evE]) hh rfl
  | .sl3 a lo hi st, X, sc, x, c, h, k => by
    have hh := h
    cases x <;> try (simp [chkE] at h; done)
    rename_i y s q
    cases s <;> try (simp [chkE] at h; done)
    rename_i l u w q2
    cases w <;> try (simp [chkE] at h; done)
    rename_i w
    simp only [chkE, Bool.and_eq_true] at h
    simp only [callsE] at k
    exact plainT ((f_sl3 (sndE a X sc _ c h.1.1.1 k.1).1 (sndO lo X sc _ c h.1.1.2 k.2.1) (sndO hi X sc _ c h.1.2 k.2.2.1) (sndE st X sc _ c h.2 k.2.2.2).1).congr fun ρ => by simp only [evE]) hh rfl
  | .call f g es, X, sc, x, c, h, k => by
    have hh := h
    cases x <;> try (simp [chkE] at h; done)
    rename_i fn xs kws q
    cases fn <;> try (simp [chkE] at h; done)
    rename_i y q2
    match kws, xs, h, hh with
    | _ :: _, _, h, _ => simp [chkE] at h
    | [], [], h, _ => simp [chkE] at h
    | [], x :: xs, h, hh =>
      simp only [chkE, Bool.and_eq_true, decide_eq_true_eq] at h
      simp only [callsE] at k
      obtain ⟨⟨⟨h1, h2⟩, h3⟩, _⟩ := h
      subst h1
      obtain ⟨kk, fa, fd, ps, F, hr, hm, hk, hb⟩ := c.ca _ _ _ k.1
      obtain ⟨hg, hdb⟩ := kind_gl c.hsc h2
      cases es with
      | nil => simp [chkEs] at h3
      | cons e es =>
        have h4 := h3
        simp only [chkEs, Bool.and_eq_true] at h4
        exact plainT ((f_call F hr hg hm hk hb passL hdb (head_star (chk_head h4.1) _ _) (chks_star h4.2) (fun ρ vs z => evEs_length z) (sndEs (e :: es) X sc _ c h3 k.2)).congr fun ρ => by simp only [evE]) hh rfl
  | .bi b es, X, sc, x, c, h, k => by
    have hh := h
    cases x <;> try (simp [chkE] at h; done)
    rename_i fn xs kws q
    cases fn <;> try (simp [chkE] at h; done)
    rename_i y q2
    match kws, xs, h, hh with
    | _ :: _, _, h, _ => simp [chkE] at h
    | [], [], h, _ => simp [chkE] at h
    | [], x :: xs, h, hh =>
      simp only [chkE, Bool.and_eq_true] at h
      simp only [callsE] at k
      obtain ⟨⟨⟨h1, h2⟩, h3⟩, _⟩ := h
      cases es with
      | nil => simp [chkEs] at h3
      | cons e es =>
        have h4 := h3
        simp only [chkEs, Bool.and_eq_true] at h4
        exact plainT ((f_bi c b h1 h2 (head_star (chk_head h4.1) _ _) (chks_star h4.2) (sndEs (e :: es) X sc _ c h3 k)).congr fun ρ => by simp only [evE]) hh rfl
  | .isi a t, X, sc, x, c, h, k => by
    have hh := h
    cases x <;> try (simp [chkE] at h; done)
    rename_i fn xs kws q
    cases fn <;> try (simp [chkE] at h; done)
    rename_i y q2
    cases kws <;> try (simp [chkE] at h; done)
    cases xs <;> try (simp [chkE] at h; done)
    rename_i u xs
    cases xs <;> try (simp [chkE] at h; done)
    rename_i v xs
    cases xs <;> try (cases v <;> simp [chkE] at h; done)
    cases v <;> try (simp [chkE] at h; done)
    · rename_i z q3
      simp only [chkE, Bool.and_eq_true] at h
      simp only [callsE] at k
      exact plainT ((f_isi c h.1.1 h.2 (chk_head h.1.2) (sndE a X sc _ c h.1.2 k).1).congr fun ρ => by simp only [evE]) hh rfl
  | .comp elt tg it cond, X, sc, x, c, h, k => by
    have hh := h
    cases x <;> try (simp [chkE] at h; done)
    rename_i y gens scope q
    cases gens <;> try (simp [chkE] at h; done)
    rename_i g gens
    cases gens <;> try (simp [chkE] at h; done)
    obtain ⟨tx, ix, ifs, as⟩ := g
    simp only [chkE, Bool.and_eq_true, decide_eq_true_eq] at h
    simp only [callsE] at k
    obtain ⟨⟨⟨⟨⟨h0, h1⟩, h2⟩, h3⟩, h4⟩, h5⟩ := h
    subst h0
    refine plainT ((f_comp c (sndI it X sc tx ix (isTp tx) c h1 k.2.1 rfl) h2 h3 (chkI_head h1) (fc := evC cond) (fe := evE elt) (fun X' c' hK => ?_) (fun X' c' hK => ?_)).congr fun ρ => by simp only [evE]; rfl) hh rfl
    · rw [← hK]; exact sndC cond X' _ ifs c' h4 k.2.2
    · rw [← hK]; exact (sndE elt X' _ _ c' h5 k.1).1
termination_by e => sizeOf e
theorem sndEs : ∀ (es : List Ex) (X : Cx) (sc : Scope) (xs : List Expr), Ctx X N sc P → chkEs N sc es xs = true → callsEs P es → Es? X H0 M0 xs (evEs es)
  | [], X, sc, xs, c, h, k => by
    cases xs with
    | nil =>
      have q := es_nil (X := X) (H0 := H0) (M0 := M0)
      have e : (fun _ => Rs.ok []) = evEs [] := funext fun ρ => by simp only [evEs]
      rw [← e]; exact q
    | cons _ _ => simp [chkEs] at h
  | e :: es, X, sc, xs, c, h, k => by
    cases xs with
    | nil => simp [chkEs] at h
    | cons x xs =>
      simp only [chkEs, Bool.and_eq_true] at h
      simp only [callsEs] at k
      have q := es_cons (head_star (chk_head h.1) xs X.env) (sndE e X sc x c h.1 k.1).1 (sndEs es X sc xs c h.2 k.2)
      have e : (fun ρ => (evE e ρ).bind fun v => (evEs es ρ).bind fun vs => .ok (v :: vs)) = evEs (e :: es) := funext fun ρ => by simp only [evEs]
      rw [← e]; exact q
termination_by e => sizeOf e
theorem sndO : ∀ (o : Option Ex) (X : Cx) (sc : Scope) (x : Option Expr), Ctx X N sc P → chkO N sc o x = true → callsO P o → O? X H0 M0 x (evO o)
  | none, X, sc, x, c, h, k => by
    cases x with
    | none =>
      have e : (fun _ => Rs.ok none) = evO none := funext fun ρ => by simp only [evO]
      rw [← e]; exact o_none
    | some _ => simp [chkO] at h
  | some e, X, sc, x, c, h, k => by
    cases x with
    | none => simp [chkO] at h
    | some x =>
      simp only [chkO] at h
      simp only [callsO] at k
      have q := o_some (sndE e X sc x c h k).1
      have e : (fun ρ => (evE e ρ).bind partO) = evO (some e) := funext fun ρ => by simp only [evO]
      rw [← e]; exact q
termination_by e => sizeOf e
theorem sndC : ∀ (o : Option Ex) (X : Cx) (sc : Scope) (ifs : List Expr), Ctx X N sc P → chkC N sc o ifs = true → callsO P o → PTs X ifs (tT X.K H0 M0 (evC o))
  | none, X, sc, ifs, c, h, k => by
    cases ifs with
    | nil =>
      refine ⟨fun pins s σ H Q I ⟨ρ, M, cs, r, b, e, w⟩ => pts_nil.run pins s σ H Q I ?_⟩
      simp only [evC] at e
      cases e
      exact w _ _ (.refl r.le)
    | cons _ _ => simp [chkC] at h
  | some e, X, sc, ifs, c, h, k => by
    match ifs, h with
    | [], h => simp [chkC] at h
    | _ :: _ :: _, h => simp [chkC] at h
    | [x], h =>
      simp only [chkC] at h
      simp only [callsO] at k
      have q := (sndE e X sc x c h k).2
      have e : (fun ρ => (evE e ρ).bind boolOf) = evC (some e) := funext fun ρ => by simp only [evC]
      rw [← e]; exact pts_one q
termination_by e => sizeOf e
theorem sndI : ∀ (it : It) (X : Cx) (sc : Scope) (tg x : Expr) (b : Bool), Ctx X N sc P → chkI N sc it x b = true → callsI P it → b = isTp tg → I? X H0 M0 tg x (evIt it) (srcI it)
  | .seq e, X, sc, tg, x, b, c, h, k, hb => by
    simp only [chkI] at h
    simp only [callsI] at k
    exact I?.congr (i_seq (tg := tg) (sndE e X sc x c h k).1) fun ρ => by simp only [evIt]
  | .rng e, X, sc, tg, x, b, c, h, k, hb => by
    simp only [chkI] at h
    obtain ⟨⟨f, y⟩, h1, h2⟩ := any1 h
    obtain ⟨p, q, rfl⟩ := callOf1_ok h1
    obtain ⟨h3, h4⟩ := and_ok h2
    simp only [callsI] at k
    obtain ⟨rfl, hg, hm, _⟩ := blt_of c h3
    exact I?.congr (i_rng (tg := tg) hg hm (head_star (chk_head h4) _ _) (sndE e X sc y c h4 k).1 (head_star (chk_head h4) _ _)) fun ρ => by simp only [evIt]
  | .rlen e, X, sc, tg, x, b, c, h, k, hb => by
    simp only [chkI] at h
    obtain ⟨⟨f, y⟩, h1, h2⟩ := any1 h
    obtain ⟨p, q, rfl⟩ := callOf1_ok h1
    obtain ⟨h3, h4⟩ := and_ok h2
    obtain ⟨⟨g, z⟩, h5, h6⟩ := any1 h4
    obtain ⟨p, q, rfl⟩ := callOf1_ok h5
    obtain ⟨h7, h8⟩ := and_ok h6
    simp only [callsI] at k
    obtain ⟨rfl, hg, hm, _⟩ := blt_of c h3
    obtain ⟨rfl, hg2, hm2, _⟩ := blt_of c h7
    exact I?.congr (i_rlen (tg := tg) hg hm hg2 hm2 (head_star (chk_head h8) _ _) (sndE e X sc z c h8 k).1) fun ρ => by simp only [evIt]
  | .rng2 a d, X, sc, tg, x, b, c, h, k, hb => by
    simp only [chkI] at h
    obtain ⟨⟨f, y, z⟩, h1, h2⟩ := any1 h
    obtain ⟨p, q, rfl⟩ := callOf2_ok h1
    obtain ⟨h3, h4⟩ := and_ok h2
    obtain ⟨h5, h6⟩ := and_ok h3
    simp only [callsI] at k
    obtain ⟨rfl, hg, hm, _⟩ := blt_of c h5
    have s1 := head_star (chk_head h4) [] X.env
    have s2 := head_star (chk_head h6) [z] X.env
    exact I?.congr (i_rng2 (tg := tg) hg hm (by rw [s2, s1]; rfl) s1 (sndE a X sc y c h6 k.1).1 (sndE d X sc z c h4 k.2).1 s2 s1) fun ρ => by simp only [evIt]
  | .rng3 _ _ _, X, sc, tg, x, b, c, h, k, hb => by simp only [chkI] at h; cases h
  | .enum e, X, sc, tg, x, b, c, h, k, hb => by
    simp only [chkI] at h
    obtain ⟨h0, h⟩ := and_ok h
    obtain ⟨⟨f, y⟩, h1, h2⟩ := any1 h
    obtain ⟨p, q, rfl⟩ := callOf1_ok h1
    obtain ⟨h3, h4⟩ := and_ok h2
    subst h0
    simp only [callsI] at k
    obtain ⟨rfl, hg, hm, _⟩ := blt_of c h3
    cases tg <;> try (simp [isTp] at hb; done)
    exact I?.congr (i_enum hg hm (head_star (chk_head h4) _ _) (sndE e X sc y c h4 k).1 (head_star (chk_head h4) _ _)) fun ρ => by simp only [evIt]
  | .zip a d, X, sc, tg, x, b, c, h, k, hb => by
    simp only [chkI] at h
    obtain ⟨h0, h⟩ := and_ok h
    obtain ⟨⟨f, y, z⟩, h1, h2⟩ := any1 h
    obtain ⟨p, q, rfl⟩ := callOf2_ok h1
    obtain ⟨h3, h4⟩ := and_ok h2
    obtain ⟨h5, h6⟩ := and_ok h3
    subst h0
    simp only [callsI] at k
    obtain ⟨rfl, hg, hm, _⟩ := blt_of c h5
    have s1 := head_star (chk_head h4) [] X.env
    have s2 := head_star (chk_head h6) [z] X.env
    cases tg <;> try (simp [isTp] at hb; done)
    exact I?.congr (i_zip hg hm (by rw [s2, s1]; rfl) s1 (sndE a X sc y c h6 k.1).1 (sndE d X sc z c h4 k.2).1 s2 s1) fun ρ => by simp only [evIt]
  | .rev e, X, sc, tg, x, b, c, h, k, hb => by
    simp only [chkI] at h
    obtain ⟨⟨f, y⟩, h1, h2⟩ := any1 h
    obtain ⟨p, q, rfl⟩ := callOf1_ok h1
    obtain ⟨h3, h4⟩ := and_ok h2
    simp only [callsI] at k
    obtain ⟨rfl, hg, hm, _⟩ := blt_of c h3
    exact I?.congr (i_rev (tg := tg) hg hm (head_star (chk_head h4) _ _) (sndE e X sc y c h4 k).1) fun ρ => by simp only [evIt]
termination_by e => sizeOf e
theorem sndAnd : ∀ (es : List Ex) (X : Cx) (sc : Scope) (xs : List Expr) (q : Pos), Ctx X N sc P → chkEs N sc es xs = true → callsEs P es →
    E? X H0 M0 (.BoolOp .And xs q) (evAnd es) ∧ W? X H0 M0 (.BoolOp .And xs q) (fun ρ => (evAnd es ρ).bind boolOf)
  | [], X, sc, xs, q, c, h, k => ⟨⟨fun pins s σ H Q I ⟨ρ, M, cs, r, v, e, w⟩ => by simp [evAnd] at e⟩, ⟨fun wh pins s σ H Q I ⟨ρ, M, cs, r, v, e, w⟩ => by simp [evAnd] at e⟩⟩
  | [e], X, sc, xs, q, c, h, k => by
    match xs, h with
    | [], h => simp [chkEs] at h
    | _ :: _ :: _, h => simp [chkEs] at h
    | [x], h =>
      simp only [chkEs, Bool.and_eq_true] at h
      simp only [callsEs] at k
      have ih := sndE e X sc x c h.1 k.1
      exact ⟨E?.congr (pe_one ih.1) fun ρ => by simp only [evAnd], W?.congr (g_and1 ih.2) fun ρ => by simp only [evAnd]⟩
  | e :: e2 :: es, X, sc, xs, q, c, h, k => by
    match xs, h with
    | [], h => simp [chkEs] at h
    | [_], h => simp [chkEs] at h
    | x :: x2 :: xs, h =>
      have h' := h
      simp only [chkEs] at h'
      (simp only [Bool.and_eq_true] at h')
      have k' := k
      simp only [callsEs] at k'
      have h2 : chkEs N sc (e2 :: es) (x2 :: xs) = true := by simp only [chkEs, Bool.and_eq_true]; exact h'.2
      have k2 : callsEs P (e2 :: es) := by simp only [callsEs]; exact k'.2
      have ih := sndE e X sc x c h'.1 k'.1
      have ih2 := sndAnd (e2 :: es) X sc (x2 :: xs) q c h2 k2
      refine ⟨(f_and ih.1 ih2.1).congr fun ρ => by simp only [evAnd], W?.congr (g_and ih.2 ih2.2) fun ρ => ?_⟩
      simp only [evAnd]
      cases evE e ρ with
      | ok v => cases v <;> first | rfl | (rename_i t; cases t <;> rfl)
      | err _ _ => rfl
      | bad => rfl
termination_by e => sizeOf e
theorem sndOr : ∀ (es : List Ex) (X : Cx) (sc : Scope) (xs : List Expr) (q : Pos), Ctx X N sc P → chkEs N sc es xs = true → callsEs P es →
    E? X H0 M0 (.BoolOp .Or xs q) (evOr es) ∧ W? X H0 M0 (.BoolOp .Or xs q) (fun ρ => (evOr es ρ).bind boolOf)
  | [], X, sc, xs, q, c, h, k => ⟨⟨fun pins s σ H Q I ⟨ρ, M, cs, r, v, e, w⟩ => by simp [evOr] at e⟩, ⟨fun wh pins s σ H Q I ⟨ρ, M, cs, r, v, e, w⟩ => by simp [evOr] at e⟩⟩
  | [e], X, sc, xs, q, c, h, k => by
    match xs, h with
    | [], h => simp [chkEs] at h
    | _ :: _ :: _, h => simp [chkEs] at h
    | [x], h =>
      simp only [chkEs, Bool.and_eq_true] at h
      simp only [callsEs] at k
      have ih := sndE e X sc x c h.1 k.1
      exact ⟨E?.congr (pe_one ih.1) fun ρ => by simp only [evOr], W?.congr (g_or1 ih.2) fun ρ => by simp only [evOr]⟩
  | e :: e2 :: es, X, sc, xs, q, c, h, k => by
    match xs, h with
    | [], h => simp [chkEs] at h
    | [_], h => simp [chkEs] at h
    | x :: x2 :: xs, h =>
      have h' := h
      simp only [chkEs] at h'
      (simp only [Bool.and_eq_true] at h')
      have k' := k
      simp only [callsEs] at k'
      have h2 : chkEs N sc (e2 :: es) (x2 :: xs) = true := by simp only [chkEs, Bool.and_eq_true]; exact h'.2
      have k2 : callsEs P (e2 :: es) := by simp only [callsEs]; exact k'.2
      have ih := sndE e X sc x c h'.1 k'.1
      have ih2 := sndOr (e2 :: es) X sc (x2 :: xs) q c h2 k2
      refine ⟨(f_or ih.1 ih2.1).congr fun ρ => by simp only [evOr], W?.congr (g_or ih.2 ih2.2) fun ρ => ?_⟩
      simp only [evOr]
      cases evE e ρ with
      | ok v => cases v <;> first | rfl | (rename_i t; cases t <;> rfl)
      | err _ _ => rfl
      | bad => rfl
termination_by e => sizeOf e
end
end
end PF

set_option Elab.async false
set_option linter.all false
set_option maxRecDepth 100000
set_option maxHeartbeats 8000000
/-! PFl: new lists, what statements compute (plain Lean), the frame's changes. -/
namespace PF
open PySem L2

/-! ### what statements compute -/
inductive Out where
  | nx (ρ : Env) | bk (ρ : Env) | ct (ρ : Env) | rt (v : PV)

inductive Md where
  | append | extend | insert0 | reverse
  deriving DecidableEq

inductive Stm where
  | asg (tg : Tg) (e : Ex)
  | own (i : Nat) (e : Ex)
  | own2 (i : Nat) (e : Ex)
  | appO (o e : Ex)
  | never
  | app (o e : Ex)
  | ext (o e : Ex)
  | ins (o k e : Ex)
  | pop (tg : Option Tg) (o : Ex) (k : Option Ex)
  | appPop (y o : Ex) (k : Ex)
  | setIt (o k e : Ex)
  | ret (e : Ex)
  | ite (c : Ex) (a b : List Stm)
  | for (tg : Tg) (it : It) (body : List Stm) (dead : List Nat)
  | wh (c : Ex) (body : List Stm) (dead : List Nat)
  | brk | cont | pass
  | kill (is : List Nat)

mutual
/-- each cell within is below m -/
def noGe (m : Nat) : PV → Bool
  | .cell n => decide (n < m)
  | .tup xs | .lst xs | .ins _ xs => noGes m xs
  | .dic ks vs => noGes m ks && noGes m vs
  | _ => true
def noGes (m : Nat) : List PV → Bool
  | [] => true
  | x :: xs => noGe m x && noGes m xs
end
def geO (m : Nat) : Option PV → Bool
  | some v => noGe m v
  | none => true

def refOf (ρ : Env) (v : PV) : Rs (Nat × List PV) := match v with
  | .cell n => if ρ.lk.contains n then .bad else match content ρ.ce n with
    | some (.lst xs) => .ok (n, xs)
    | _ => .bad
  | _ => .bad
def lstsOf : List PV → Option (List (List PV))
  | [] => some []
  | .lst xs :: ys => (lstsOf ys).map (xs :: ·)
  | _ => none
/-- what x.extend takes -/
def extOf (ρ : Env) (v : PV) : Rs (List PV) := match v with
  | .tup xs => .ok xs
  | v => trkOf ρ v
def putC (n : Nat) (xs : List PV) (ρ : Env) : Env := { ρ with ce := ρ.ce.set n (some (.lst xs)) }
noncomputable def popIx (n : Nat) : Option PV → Rs Nat
  | none => if n = 0 then .bad else .ok (n - 1)
  | some (.int k) => if InW 63 k then Rs.of (ixOf n k) else .bad
  | _ => .bad
noncomputable def evOE : Option Ex → Env → Rs (Option PV)
  | none, _ => .ok none
  | some e, ρ => (evE e ρ).bind fun v => .ok (some v)
def setO (tg : Option Tg) (v : PV) (ρ : Env) : Rs Env := match tg with
  | none => .ok ρ
  | some tg => setTg tg v ρ
def killS {α : Type} (is : List Nat) (s : List (Option α)) : List (Option α) := is.foldl (fun s i => s.set i none) s

/-- behind a turn: names are dropped, and the turn's own cells if nothing leads to them any more -/
def endT (m : Nat) (dead : List Nat) (ρ : Env) : Env :=
  if (killS dead ρ.sl).all (geO m) && (ρ.ce.take m).all (geO m) then { ρ with sl := killS dead ρ.sl, ce := ρ.ce.take m } else { ρ with sl := killS dead ρ.sl }
/-- the turns of a for: body gives what it ends with -/
def forO (m : Nat) (dead : List Nat) (body : Env → Rs Out) (tg : Tg) : List PV → Env → Rs Out
  | [], ρ => .ok (.nx ρ)
  | x :: xs, ρ => (setTg tg x ρ).bind fun ρ' => (body ρ').bind fun o => match o with
    | .nx ρ'' => forO m dead body tg xs (endT m dead ρ'')
    | .ct ρ'' => forO m dead body tg xs (endT m dead ρ'')
    | .bk ρ'' => .ok (.nx (endT m dead ρ''))
    | .rt v => .ok (.rt v)
def relk (lk : List Nat) : Out → Out
  | .nx ρ => .nx { ρ with lk := lk }
  | .bk ρ => .bk { ρ with lk := lk }
  | .ct ρ => .ct { ρ with lk := lk }
  | .rt v => .rt v
def whN (m : Nat) (dead : List Nat) (c : Env → Rs Bool) (body : Env → Rs Out) : Nat → Env → Rs Out
  | 0, _ => .bad
  | n + 1, ρ => (c ρ).bind fun k => if k then (body ρ).bind fun o => match o with
      | .nx ρ'' => whN m dead c body n (endT m dead ρ'')
      | .ct ρ'' => whN m dead c body n (endT m dead ρ'')
      | .bk ρ'' => .ok (.nx (endT m dead ρ''))
      | .rt v => .ok (.rt v)
    else .ok (.nx ρ)
open Classical in
noncomputable def whO (m : Nat) (dead : List Nat) (c : Env → Rs Bool) (body : Env → Rs Out) (ρ : Env) : Rs Out := if h : ∃ n o, whN m dead c body n ρ = .ok o then .ok h.choose_spec.choose else .bad

mutual
noncomputable def evS : Stm → Env → Rs Out
  | .asg tg e, ρ => (evE e ρ).bind fun v => (setTg tg v ρ).bind fun ρ' => .ok (.nx ρ')
  | .own i e, ρ => (evE e ρ).bind fun v => match v with
    | .lst xs => .ok (.nx { ρ with sl := ρ.sl.set i (some (.cell ρ.ce.length)), ce := ρ.ce ++ [some (.lst xs)] })
    | _ => .bad
  | .own2 i e, ρ => (evE e ρ).bind fun v => match v with
    | .lst ys => (Rs.of (lstsOf ys)).bind fun zss => .ok (.nx { ρ with sl := ρ.sl.set i (some (.cell (ρ.ce.length + zss.length))), ce := ρ.ce ++ zss.map (fun zs => some (.lst zs)) ++ [some (.lst ((List.range zss.length).map fun k => .cell (ρ.ce.length + k)))] })
    | _ => .bad
  | .appO o e, ρ => (evE o ρ).bind fun r => (evE e ρ).bind fun v => (refOf ρ r).bind fun p => match v with
    | .lst xs => if p.2.length < sizeMax then .ok (.nx (putC p.1 (p.2 ++ [.cell ρ.ce.length]) { ρ with ce := ρ.ce ++ [some (.lst xs)] })) else .bad
    | _ => .bad
  | .never, _ => .bad
  | .app o e, ρ => (evE o ρ).bind fun r => (evE e ρ).bind fun v => (refOf ρ r).bind fun p => if p.2.length < sizeMax then .ok (.nx (putC p.1 (p.2 ++ [v]) ρ)) else .bad
  | .ext o e, ρ => (evE o ρ).bind fun r => (evE e ρ).bind fun v => (refOf ρ r).bind fun p => (extOf ρ v).bind fun ys => if p.2.length + ys.length ≤ sizeMax then .ok (.nx (putC p.1 (p.2 ++ ys) ρ)) else .bad
  | .ins o k e, ρ => (evE o ρ).bind fun r => (evE k ρ).bind fun i => (evE e ρ).bind fun v => (refOf ρ r).bind fun p => match i with
    | .int i => if p.2.length < sizeMax ∧ 0 ≤ i ∧ InW 63 i then .ok (.nx (putC p.1 (p.2.take i.toNat ++ [v] ++ p.2.drop i.toNat) ρ)) else .bad
    | _ => .bad
  | .pop tg o k, ρ => (evE o ρ).bind fun r => (evOE k ρ).bind fun i => (refOf ρ r).bind fun p => (popIx p.2.length i).bind fun j => (Rs.of p.2[j]?).bind fun v => (setO tg v (putC p.1 (p.2.eraseIdx j) ρ)).bind fun ρ' => .ok (.nx ρ')
  | .appPop y o k, ρ => (evE y ρ).bind fun q => (evE o ρ).bind fun r => (evE k ρ).bind fun i => (refOf ρ r).bind fun p => (popIx p.2.length (some i)).bind fun j => (Rs.of p.2[j]?).bind fun v =>
      (refOf (putC p.1 (p.2.eraseIdx j) ρ) q).bind fun z => if z.2.length < sizeMax then .ok (.nx (putC z.1 (z.2 ++ [v]) (putC p.1 (p.2.eraseIdx j) ρ))) else .bad
  | .setIt o k e, ρ => (evE e ρ).bind fun v => (evE o ρ).bind fun r => (evE k ρ).bind fun i => (refOf ρ r).bind fun p => match i with
    | .int i => (Rs.of (ixOf p.2.length i)).bind fun j => .ok (.nx (putC p.1 (p.2.set j v) ρ))
    | _ => .bad
  | .ret e, ρ => (evE e ρ).bind fun v => (frz ρ v).bind fun v => .ok (.rt v)
  | .ite c a b, ρ => (evE c ρ).bind fun x => (boolOf x).bind fun k => if k then evSs a ρ else evSs b ρ
  | .for tg it body dead, ρ => (evIt it ρ).bind fun xs => (forO ρ.ce.length dead (fun ρ' => evSs body ρ') tg xs { ρ with lk := srcI it ρ ++ ρ.lk }).bind fun o => .ok (relk ρ.lk o)
  | .wh c body dead, ρ => whO ρ.ce.length dead (fun ρ' => (evE c ρ').bind boolOf) (fun ρ' => evSs body ρ') ρ
  | .brk, ρ => .ok (.bk ρ)
  | .cont, ρ => .ok (.ct ρ)
  | .pass, ρ => .ok (.nx ρ)
  | .kill is, ρ => .ok (.nx { ρ with sl := killS is ρ.sl })
noncomputable def evSs : List Stm → Env → Rs Out
  | [], ρ => .ok (.nx ρ)
  | s :: ss, ρ => (evS s ρ).bind fun o => match o with
    | .nx ρ' => evSs ss ρ'
    | o => .ok o
end
/-- a def of np parameters, ns slots in all -/
noncomputable def semOf (np ns : Nat) (body : List Stm) : Sem := fun vs => if vs.length = np then
    (evSs body ⟨vs.map some ++ List.replicate (ns - np) none, [], []⟩).bind fun o => match o with
    | .rt v => .ok v
    | .nx _ => .ok .non
    | _ => .bad
  else .bad

theorem whN_mono {m : Nat} {dead : List Nat} {c : Env → Rs Bool} {body : Env → Rs Out} : ∀ {n k : Nat} {ρ : Env} {o : Out}, whN m dead c body n ρ = .ok o → n ≤ k → whN m dead c body k ρ = .ok o
  | 0, _, _, _, h, _ => by cases h
  | n + 1, 0, _, _, _, h => by omega
  | n + 1, j + 1, ρ, o, h, hm => by
    simp only [whN, Rs.bind_eq_ok] at h ⊢
    obtain ⟨k, h1, h2⟩ := h
    refine ⟨k, h1, ?_⟩
    cases k with
    | false => exact h2
    | true =>
      simp only [if_true, Rs.bind_eq_ok] at h2 ⊢
      obtain ⟨q, h3, h4⟩ := h2
      refine ⟨q, h3, ?_⟩
      cases q with
      | nx ρ' => exact whN_mono h4 (by omega)
      | ct ρ' => exact whN_mono h4 (by omega)
      | bk ρ' => exact h4
      | rt v => exact h4
theorem whO_of {m : Nat} {dead : List Nat} {c : Env → Rs Bool} {body : Env → Rs Out} {n : Nat} {ρ : Env} {o : Out} (h : whN m dead c body n ρ = .ok o) : whO m dead c body ρ = .ok o := by
  have hx : ∃ n o, whN m dead c body n ρ = .ok o := ⟨n, o, h⟩
  unfold whO
  rw [dif_pos hx]
  have h2 := hx.choose_spec.choose_spec
  have h3 := whN_mono h2 (Nat.le_max_left _ n)
  have h4 := whN_mono h (Nat.le_max_right hx.choose n)
  rw [h3] at h4
  exact h4
theorem whO_ok {m : Nat} {dead : List Nat} {c : Env → Rs Bool} {body : Env → Rs Out} {ρ : Env} {o : Out} (h : whO m dead c body ρ = .ok o) : ∃ n, whN m dead c body n ρ = .ok o := by
  unfold whO at h
  split at h
  · rename_i hx
    cases h
    exact ⟨_, hx.choose_spec.choose_spec⟩
  · cases h

/-! ### new lists -/
section
variable {K : PySem.W.Frag} {M M' H H' : Hp} {cs : List Addr}
def WntF (K : PySem.W.Frag) (M : Hp) (cs : List Addr) (H : Hp) (xs : List PV) (Q : VK) : Prop := ∀ D H' M' vs, Ext H M H' M' → M' D = none → H D = none → H' D = some (.lst vs) → Reps K M' cs xs vs → Q (.ref D) H'
theorem Ext.none {D : Addr} (e : Ext H M H' M') (h : H' D = none) : H D = none := by
  cases q : H D with
  | none => rfl
  | some o => rw [e.h D o q] at h; cases h
theorem WntF.on {xs : List PV} {Q : VK} (h : WntF K M cs H xs Q) (e : Ext H M H' M') : WntF K M' cs H' xs Q := fun D H2 M2 vs x a b c d => h D H2 M2 vs (e.trans x) a (e.none b) c d
theorem WntF.lst {xs : List PV} {vs : List V} {Q : VK} (h : WntF K M cs H xs Q) (l : Le M H) (r : Reps K M cs xs vs) (hz : vs.length ≤ sizeLine) {p : Addr} (hp : H p = Option.none) : Q (.ref p) (upd H p (.lst vs)) :=
  h p _ M vs ⟨.updN (H := H) hp, .refl _, fun a o e => by rw [upd_ne (ne_of_none e (l.none hp))]; exact l a o e, fun _ _ _ => rfl, fun a xs e n => (by
    by_cases q : a = p
    · subst q; rw [upd_same] at e; cases e
    · rw [upd_ne q, n] at e; cases e), fun s => SzOk.upd s hz⟩ (l.none hp) hp upd_same r
/-- an expression that gives a new list -/
def tF (K : PySem.W.Frag) (H0 M0 : Hp) (f : Env → Rs PV) : TE := fun σ H Q => ∃ ρ M cs, R K H0 M0 σ H ρ M cs ∧ ∃ xs, f ρ = .ok (.lst xs) ∧ WntF K M cs H xs Q
end
section
variable {X : Cx} {H0 M0 : Hp} {a b : Expr} {pos : Pos} {fa fb : Env → Rs PV}
theorem n_lst {es : List Expr} {fs : Env → Rs (List PV)} (hz : ∀ ρ vs, fs ρ = .ok vs → vs.length ≤ sizeLine) (h : Es? X H0 M0 es fs) : PE X (.List es pos) (tF X.K H0 M0 (fun ρ => (fs ρ).bind fun vs => .ok (.lst vs))) :=
  PE.mono (pe_lst h) fun σ H Q ⟨ρ, M, cs, R1, v, e, w⟩ => by
    obtain ⟨xs, e1, e⟩ := Rs.bind_eq_ok.mp e
    cases e
    refine ⟨ρ, M, cs, R1, v, e1, fun ws H1 M1 x1 r1 => ⟨by rw [r1.length]; exact hz ρ v e1, fun p hp => (w.on x1).lst x1.le r1 (by rw [r1.length]; exact hz ρ v e1) hp⟩⟩
theorem n_callTy {T : String} {bi : BI} {x : Str} {es : List Expr} {fs : Env → Rs (List PV)} {p : Pos} {r : List V → Hp → VK → Prop} (hc : CallR X (.type T) r)
    (hr : ∀ σ ρ M cs H vs xs ws Q, R X.K H0 M0 σ H ρ M cs → biO ρ bi vs = .ok (.lst xs) → Reps X.K M cs vs ws → WntF X.K M cs H xs Q → r ws H Q)
    (hg : Gl X x) (hm : X.mg x = none) (hv : bootBuiltins x = some (.type T)) (hn : x ≠ "__name__") (hdb : (x == ("__debug__" : Str)) = false)
    (he : starEach (a :: es) X.env = (false, eval a X.env) :: starEach es X.env) (hpl : (backTo pos (starEach es X.env)).any (·.1) = false) (ha : Es? X H0 M0 (a :: es) fs) :
    PE X (.Call (.Name x p) (a :: es) [] pos) (tF X.K H0 M0 (fun ρ => (fs ρ).bind fun vs => biO ρ bi vs)) :=
  PE.mono (pe_callTy hc hg hm hv ha hn hdb he hpl) fun σ H Q ⟨ρ, M, cs, R1, v, e, w⟩ => by
    obtain ⟨vs, e1, e⟩ := Rs.bind_eq_ok.mp e
    exact ⟨ρ, M, cs, R1, vs, e1, fun ws H1 M1 x1 r1 => hr σ ρ M1 cs H1 vs v ws Q (R1.ext x1) e r1 (w.on x1)⟩
theorem n_callB {id : String} {bi : BI} {x : Str} {es : List Expr} {fs : Env → Rs (List PV)} {p : Pos} {r : List V → Hp → VK → Prop} (hc : CallR X (.builtin id) r)
    (hr : ∀ σ ρ M cs H vs xs ws Q, R X.K H0 M0 σ H ρ M cs → biO ρ bi vs = .ok (.lst xs) → Reps X.K M cs vs ws → WntF X.K M cs H xs Q → r ws H Q)
    (hg : Gl X x) (hm : X.mg x = none) (hv : bootBuiltins x = some (.builtin id)) (hn : x ≠ "__name__") (hdb : (x == ("__debug__" : Str)) = false)
    (he : starEach (a :: es) X.env = (false, eval a X.env) :: starEach es X.env) (hpl : (backTo pos (starEach es X.env)).any (·.1) = false) (ha : Es? X H0 M0 (a :: es) fs) :
    PE X (.Call (.Name x p) (a :: es) [] pos) (tF X.K H0 M0 (fun ρ => (fs ρ).bind fun vs => biO ρ bi vs)) :=
  PE.mono (pe_callB hc hg hm hv ha hn hdb he hpl) fun σ H Q ⟨ρ, M, cs, R1, v, e, w⟩ => by
    obtain ⟨vs, e1, e⟩ := Rs.bind_eq_ok.mp e
    exact ⟨ρ, M, cs, R1, vs, e1, fun ws H1 M1 x1 r1 => hr σ ρ M1 cs H1 vs v ws Q (R1.ext x1) e r1 (w.on x1)⟩
theorem nbi_list : ∀ σ ρ M cs H vs xs ws Q, R X.K H0 M0 σ H ρ M cs → biO ρ .list vs = .ok (.lst xs) → Reps X.K M cs vs ws → WntF X.K M cs H xs Q →
    (∃ p ys, ws = [.ref p] ∧ (SqL X.K H p ys ∨ SqT X.K H p ys) ∧ ∀ l, H l = none → Q (.ref l) (upd H l (.lst ys))) := by
  intro σ ρ M cs H vs v ws Q r e q w
  match vs with
  | [] => cases e
  | x :: y :: l => cases e
  | [x] =>
    obtain ⟨u, rfl, h⟩ := Reps.one_inv q
    obtain ⟨xs, e1, e⟩ := Rs.bind_eq_ok.mp e
    cases e
    obtain ⟨p, us, rfl, h1, q1⟩ := seqOf_rep r e1 h
    exact ⟨p, us, rfl, h1, fun t ht => w.lst r.le q1 (by rw [q1.length]; exact seq_len r e1 h) ht⟩
theorem nbi_sorted : ∀ σ ρ M cs H vs xs ws Q, R X.K H0 M0 σ H ρ M cs → biO ρ .sorted vs = .ok (.lst xs) → Reps X.K M cs vs ws → WntF X.K M cs H xs Q → (rSortedI X.K ws H Q ∨ rSortedPO X.K ws H Q) := by
  intro σ ρ M cs H vs v ws Q r e q w
  match vs with
  | [] => cases e
  | x :: y :: l => cases x <;> cases e
  | [x] =>
    obtain ⟨u, rfl, h⟩ := Reps.one_inv q
    obtain ⟨xs, e1, e⟩ := Rs.bind_eq_ok.mp e
    have e2 := rs_of e
    obtain ⟨p, us, rfl, h1, q1⟩ := lstOf_rep r e1 h
    cases z : intsOf xs with
    | some ns =>
      rw [z] at e2
      cases e2
      have q2 := q1.ints z
      subst q2
      have hsz : (ns.map V.int).length ≤ sizeLine := by rw [q1.length]; exact sqL_len r e1 h
      refine .inl ⟨p, ns, rfl, h1, fun ns' t hp hs ht => ?_⟩
      rw [sortI_eq hp hs]
      exact w.lst r.le (Reps.of_ints _) (by
        rw [List.length_map, (sortI_perm ns).length_eq, ← List.length_map (f := V.int)]
        exact hsz) ht
    | none =>
      rw [z] at e2
      simp only [Option.map_eq_some_iff] at e2
      obtain ⟨ps, e3, e4⟩ := e2
      cases e4
      obtain ⟨k, k1, k2⟩ := Reps.pairs e3 q1
      refine .inr ⟨p, us, k, rfl, h1, fun y hy => ?_, fun ys t hs hst ht => ?_⟩
      · obtain ⟨t, a1, a2⟩ := k1 y hy
        exact ⟨t, a1, r.le _ _ a2⟩
      · have eq : ys.map k = sortP ps := sortP_eq (by rw [← k2]; exact hst.perm.map k) (srtd_pw hs)
        refine w.lst r.le ?_ (by rw [hst.perm.length_eq, q1.length]; exact sqL_len r e1 h) ht
        rw [← eq]
        exact Reps.of_pairs fun y hy => k1 y (hst.perm.subset hy)
theorem two' {f : Env → Rs PV} {g : Env → PV → PV → Rs PV} {σ : L2.St} {H : Hp} {Q : VK} {r : R2} (hf : ∀ ρ, f ρ = (fa ρ).bind fun x => (fb ρ).bind fun y => g ρ x y)
    (hr : ∀ ρ M cs H x y xs w1 w2 Q, R X.K H0 M0 σ H ρ M cs → g ρ x y = .ok (.lst xs) → Rep X.K M cs x w1 → Rep X.K M cs y w2 → WntF X.K M cs H xs Q → r w1 w2 H Q) (h : tF X.K H0 M0 f σ H Q) :
    tOp r (tE X.K H0 M0 fa) (tE X.K H0 M0 fb) σ H Q := by
  obtain ⟨ρ, M, cs, R1, v, e, w⟩ := h
  rw [hf] at e
  obtain ⟨x, e1, e⟩ := Rs.bind_eq_ok.mp e
  obtain ⟨y, e2, e⟩ := Rs.bind_eq_ok.mp e
  refine ⟨ρ, M, cs, R1, x, e1, fun w1 H1 M1 x1 r1 => ?_⟩
  refine ⟨ρ, M1, cs, R1.ext x1, y, e2, fun w2 H2 M2 x2 r2 => ?_⟩
  exact hr ρ M2 cs H2 x y v w1 w2 Q ((R1.ext x1).ext x2) e (r1.mono x2.m) r2 (w.on (x1.trans x2))
theorem n_add (ha : E? X H0 M0 a fa) (hb : E? X H0 M0 b fb) : PE X (.BinOp a .Add b pos) (tF X.K H0 M0 (fun ρ => (fa ρ).bind fun x => (fb ρ).bind fun y => binO ρ .add x y)) := by
  refine PE.mono (pe_op op_cat ha hb) fun σ H Q h => two' (g := fun ρ x y => binO ρ .add x y) (fun _ => rfl) (fun ρ M cs H x y zs w1 w2 Q r e r1 r2 w => ?_) h
  have lists : ∀ (_ : binO ρ .add x y = (trkOf ρ x).bind fun xs => (trkOf ρ y).bind fun ys => if xs.length + ys.length ≤ sizeMax then .ok (.lst (xs ++ ys)) else .bad), rCat w1 w2 H Q := fun q => by
    rw [q] at e
    obtain ⟨xs, e1, e⟩ := Rs.bind_eq_ok.mp e
    obtain ⟨ys, e2, e⟩ := Rs.bind_eq_ok.mp e
    split at e
    · rename_i hz
      cases e
      obtain ⟨p, vs, rfl, h1, q1⟩ := trkOf_rep r e1 r1
      obtain ⟨p2, vs2, rfl, h2, q2⟩ := trkOf_rep r e2 r2
      exact ⟨p, p2, vs, vs2, rfl, rfl, h1, h2, by rw [q1.length, q2.length]; exact hz, fun t ht => w.lst r.le (q1.append q2) (by rw [(q1.append q2).length, List.length_append]; exact hz) ht⟩
    · cases e
  cases x with
  | int i =>
    cases y with
    | int j => cases e
    | _ => exact lists rfl
  | str i =>
    cases y with
    | str j =>
      simp only [binO] at e
      split at e <;> cases e
    | _ => exact lists rfl
  | tup xs =>
    cases y with
    | tup ys =>
      simp only [binO] at e
      split at e <;> cases e
    | _ => exact lists rfl
  | _ => exact lists rfl
theorem n_mul (ha : E? X H0 M0 a fa) (hb : E? X H0 M0 b fb) : PE X (.BinOp a .Mult b pos) (tF X.K H0 M0 (fun ρ => (fa ρ).bind fun x => (fb ρ).bind fun y => binO ρ .mul x y)) := by
  refine PE.mono (pe_op op_rep ha hb) fun σ H Q h => two' (g := fun ρ x y => binO ρ .mul x y) (fun _ => rfl) (fun ρ M cs H x y zs w1 w2 Q r e r1 r2 w => ?_) h
  have lists : ∀ {k : Int} (_ : y = .int k) (_ : binO ρ .mul x y = (trkOf ρ x).bind fun xs => if decide (InW 63 k) && decide (xs.length * k.toNat ≤ sizeMax) then .ok (.lst (List.replicate k.toNat xs).flatten) else .bad), rRep w1 w2 H Q := fun {k} ey q => by
    subst ey
    rw [q] at e
    obtain ⟨xs, e1, e⟩ := Rs.bind_eq_ok.mp e
    split at e
    · rename_i hz
      cases e
      simp only [Bool.and_eq_true, decide_eq_true_eq] at hz
      obtain ⟨p, vs, rfl, h1, q1⟩ := trkOf_rep r e1 r1
      exact ⟨p, k, vs, rfl, r2, h1, hz.1.1, hz.1.2, by rw [q1.length]; exact hz.2, fun t ht => w.lst r.le (q1.replicate _) (by rw [(q1.replicate _).length, rep_length]; exact hz.2) ht⟩
    · cases e
  cases y with
  | int j =>
    cases x with
    | int i =>
      simp only [binO] at e
      split at e <;> cases e
    | _ => exact lists rfl rfl
  | _ => cases x <;> cases e
theorem n_sl {lo hi : Option Expr} {fl fh : Env → Rs (Option Int)} {p2 : Pos} (ha : E? X H0 M0 a fa) (hl : O? X H0 M0 lo fl) (hh : O? X H0 M0 hi fh) :
    PE X (.Subscript a (.Slice lo hi none p2) pos) (tF X.K H0 M0 (fun ρ => (fa ρ).bind fun x => (fl ρ).bind fun l => (fh ρ).bind fun h => slO ρ x l h)) := by
  refine PE.mono (pe_slice sl_list ha hl hh) fun σ H Q ⟨ρ, M, cs, R1, v, e, w⟩ => ?_
  obtain ⟨x, e1, e⟩ := Rs.bind_eq_ok.mp e
  obtain ⟨l, e2, e⟩ := Rs.bind_eq_ok.mp e
  obtain ⟨h, e3, e⟩ := Rs.bind_eq_ok.mp e
  refine ⟨ρ, M, cs, R1, x, e1, fun w1 H1 M1 x1 r1 => ?_⟩
  refine ⟨ρ, M1, cs, R1.ext x1, l, e2, fun H2 M2 x2 => ?_⟩
  refine ⟨ρ, M2, cs, (R1.ext x1).ext x2, h, e3, fun H3 M3 x3 => ?_⟩
  have R3 := ((R1.ext x1).ext x2).ext x3
  have r3 := (r1.mono x2.m).mono x3.m
  have w3 := w.on ((x1.trans x2).trans x3)
  have lists : slO ρ x l h = ((lstOf ρ x).bind fun xs => .ok (.lst (cut xs l h))) → rSlL X.K w1 l h H3 Q := fun q => by
    rw [q] at e
    obtain ⟨xs, e4, e⟩ := Rs.bind_eq_ok.mp e
    cases e
    obtain ⟨p, vs, rfl, h1, q1⟩ := lstOf_rep R3 e4 r3
    exact ⟨p, vs, rfl, h1, fun t ht => w3.lst R3.le (cut_rep q1 l h) (by rw [(cut_rep q1 l h).length]; exact cut_sz (sqL_len R3 e4 r3)) ht⟩
  cases x with
  | tup xs => cases e
  | _ => exact lists rfl
theorem n_comp {N : List Str} {P : Str → Nat → Sem → Prop} {sc : Scope} {elt tx ix : Expr} {ifs : List Expr} {scope : Scope} {q : Pos} {tg : Tg} {fit : Env → Rs (List PV)} {fs : Env → List Nat} {fc : Env → Rs Bool} {fe : Env → Rs PV} (c : Ctx X N sc P)
    (hi : I? X H0 M0 tx ix fit fs) (hb : blkC N sc scope (tgOwn N tg) = true) (ht : tgOk N scope tg tx = true) (hs : headOk ix = true)
    (hc : ∀ (X' : Cx), Ctx X' N (relS scope sc) P → X'.K = X.K → PTs X' ifs (tT X.K H0 M0 fc)) (he : ∀ (X' : Cx), Ctx X' N (relS scope sc) P → X'.K = X.K → PE X' elt (tE X.K H0 M0 fe)) :
    PE X (.ListComp elt [⟨tx, ix, ifs, 0⟩] scope q) (tF X.K H0 M0 (fun ρ => (fit ρ).bind fun xs => (compO (turnC tg fc fe ρ) xs).bind fun ys => .ok (.lst ys))) ∧
    ∀ {i : Nat} {y : Str} {py spos : Pos}, N[i]? = some y → X.env.scope.names.lookup y = some .local → swapsWith (.ListComp elt [⟨tx, ix, ifs, 0⟩] scope q) (some (.Name y py)) spos.line X.env = pure true →
      PS X (.Assign [.Name y py] (.ListComp elt [⟨tx, ix, ifs, 0⟩] scope q) spos) (tAsg (tF X.K H0 M0 (fun ρ => (fit ρ).bind fun xs => (compO (turnC tg fc fe ρ) xs).bind fun ys => .ok (.lst ys))) (gName i)) := by
  have ok : BlkOk X.N X.env.scope scope (tgOwn N tg) := by rw [c.hN, c.hsc]; exact blkOk_by hb
  have go : ∀ σ H Q, tF X.K H0 M0 (fun ρ => (fit ρ).bind fun xs => (compO (turnC tg fc fe ρ) xs).bind fun ys => .ok (.lst ys)) σ H Q → tLc (tI X.K H0 M0 fit fs) (TgR X.K tg) (tT X.K H0 M0 fc) (tE X.K H0 M0 fe) (tgIdx tg) σ H Q := fun σ H Q ⟨ρ, M, cs, r, v, e, w⟩ => by
    obtain ⟨xs, e1, e⟩ := Rs.bind_eq_ok.mp e
    obtain ⟨ys, e2, e⟩ := Rs.bind_eq_ok.mp e
    cases e
    exact lc_ok r e1 e2 w
  refine ⟨?_, fun hy hl hsw => ?_⟩
  · have L := pe_lc (pos := q) c.calm (by rw [c.hN]; exact c.nd) hi ok (g := TgR X.K tg)
      (fun s H C cl fp => pg_of (c.blk s H scope cl C fp) (stores_blk s H scope cl C fp) ht)
      (fun s H C cl fp => hc _ (c.blk s H scope cl C fp) rfl) (fun s H C cl fp => he _ (c.blk s H scope cl C fp) rfl) (by intro x; cases ix <;> first | rfl | simp [headOk] at hs)
    rw [tgOwn_idx] at L
    exact PE.mono L go
  · have L := ps_setLc c.calm (by rw [c.hN]; exact c.nd) (by rw [c.hN]; exact hy) hl hsw hi ok (g := TgR X.K tg)
      (fun s H C cl fp => pg_of (c.blk s H scope cl C fp) (stores_blk s H scope cl C fp) ht)
      (fun s H C cl fp => hc _ (c.blk s H scope cl C fp) rfl) (fun s H C cl fp => he _ (c.blk s H scope cl C fp) rfl) (by intro x; cases ix <;> first | rfl | simp [headOk] at hs)
    rw [tgOwn_idx] at L
    exact PS.mono L fun D σ H h => go _ _ _ h
end
end PF

set_option Elab.async false
set_option linter.all false
set_option maxRecDepth 100000
set_option maxHeartbeats 8000000
/-! PFm: the frame's changes, the flow of statements. -/
namespace PF
open PySem L2

section
variable {K : PySem.W.Frag} {M : Hp} {cs : List Addr}
mutual
theorem Rep.bound : ∀ {x : PV} {w : V}, Rep K M cs x w → noGe cs.length x = true
  | .non, _, _ => rfl
  | .bl _, _, _ => rfl
  | .int _, _, _ => rfl
  | .str _, _, _ => rfl
  | .tup _, _, ⟨_, _, _, _, r⟩ => by simpa only [noGe] using Reps.bound r
  | .lst _, _, ⟨_, _, _, _, r⟩ => by simpa only [noGe] using Reps.bound r
  | .dic _ _, _, h => h.elim
  | .ins _ _, _, h => h.elim
  | .cell n, _, ⟨_, _, h⟩ => by simpa only [noGe, decide_eq_true_eq] using (List.getElem?_eq_some_iff.mp h).1
  | .scr _, _, _ => rfl
theorem Reps.bound : ∀ {x : List PV} {w : List V}, Reps K M cs x w → noGes cs.length x = true
  | [], _, _ => rfl
  | _ :: _, _, ⟨_, _, _, h1, h2⟩ => by simp only [noGes, Bool.and_eq_true]; exact ⟨Rep.bound h1, Reps.bound h2⟩
end
mutual
theorem Rep.less {m : Nat} : ∀ {x : PV} {w : V}, noGe m x = true → Rep K M cs x w → Rep K M (cs.take m) x w
  | .non, _, _, h => h
  | .bl _, _, _, h => h
  | .int _, _, _, h => h
  | .str _, _, _, h => h
  | .tup _, _, p, ⟨a, vs, e, s, r⟩ => ⟨a, vs, e, s, Reps.less (by simpa only [noGe] using p) r⟩
  | .lst _, _, p, ⟨a, vs, e, s, r⟩ => ⟨a, vs, e, s, Reps.less (by simpa only [noGe] using p) r⟩
  | .dic _ _, _, _, h => h.elim
  | .ins _ _, _, _, h => h.elim
  | .cell n, _, p, ⟨a, e, h⟩ => ⟨a, e, by
    simp only [noGe, decide_eq_true_eq] at p
    rw [List.getElem?_take, if_pos p]; exact h⟩
  | .scr _, _, _, h => h
theorem Reps.less {m : Nat} : ∀ {x : List PV} {w : List V}, noGes m x = true → Reps K M cs x w → Reps K M (cs.take m) x w
  | [], _, _, h => h
  | _ :: _, _, p, ⟨w, r, e, h1, h2⟩ => by
    simp only [noGes, Bool.and_eq_true] at p
    exact ⟨w, r, e, Rep.less p.1 h1, Reps.less p.2 h2⟩
end
theorem CRep.more {H : Hp} {a : Addr} {c : PV} {es : List Addr} (h : CRep K M cs H a c) : CRep K M (cs ++ es) H a c := by
  cases c <;> try exact h
  obtain ⟨vs, e, r⟩ := h
  exact ⟨vs, e, r.more⟩
end
theorem content_eq {ce : List (Option PV)} {n : Nat} {c : PV} : content ce n = some c ↔ ce[n]? = some (some c) := by
  unfold content
  cases q : ce[n]? with
  | none => simp
  | some o => simp

/-- what stays from one state of a frame to a later one -/
structure Keep (ρ : Env) (M : Hp) (cs : List Addr) (ρ' : Env) (M' : Hp) (cs' : List Addr) : Prop where
  m : Le M M'
  cs : ∃ es, cs' = cs ++ es
  lk : ρ'.lk = ρ.lk
  ce : ∀ n ∈ ρ.lk, ∀ c, content ρ.ce n = some c → content ρ'.ce n = some c
theorem Keep.refl {ρ : Env} {M : Hp} {cs : List Addr} : Keep ρ M cs ρ M cs := ⟨.refl _, ⟨[], by simp⟩, rfl, fun _ _ _ h => h⟩
theorem Keep.trans {ρ ρ' ρ'' : Env} {M M' M'' : Hp} {cs cs' cs'' : List Addr} (a : Keep ρ M cs ρ' M' cs') (b : Keep ρ' M' cs' ρ'' M'' cs'') : Keep ρ M cs ρ'' M'' cs'' := by
  obtain ⟨es, h1⟩ := a.cs
  obtain ⟨fs, h2⟩ := b.cs
  exact ⟨a.m.trans b.m, ⟨es ++ fs, by rw [h2, h1, List.append_assoc]⟩, b.lk.trans a.lk, fun n hn c hc => b.ce n (by rw [a.lk]; exact hn) c (a.ce n hn c hc)⟩
theorem Keep.same {ρ ρ' : Env} {M M' : Hp} {cs : List Addr} (l : Le M M') (h1 : ρ'.ce = ρ.ce) (h2 : ρ'.lk = ρ.lk) : Keep ρ M cs ρ' M' cs := ⟨l, ⟨[], by simp⟩, h2, fun n _ c hc => by rw [h1]; exact hc⟩

section
variable {K : PySem.W.Frag} {H0 M0 : Hp} {σ : L2.St} {H H' : Hp} {ρ : Env} {M M' : Hp} {cs : List Addr}
theorem R.lk (r : R K H0 M0 σ H ρ M cs) (lk : List Nat) : R K H0 M0 σ H { ρ with lk := lk } M cs := ⟨r.le, r.out, r.old, r.tu, r.sz, r.len, r.sl, r.ce, r.nd, r.ln⟩
theorem R.push {D : Addr} {vs : List V} {xs : List PV} {i : Nat} (r : R K H0 M0 σ H ρ M cs) (hM : M D = none) (h0 : H0 D = none) (hD : H D = some (.lst vs)) (hr : Reps K M cs xs vs) (hne : ∀ (n : Nat) c, ρ.ce[n]? = some (some c) → cs[n]? ≠ some D) :
    R K H0 M0 (σ.set i (some (.ref D))) H { ρ with sl := ρ.sl.set i (some (.cell ρ.ce.length)), ce := ρ.ce ++ [some (.lst xs)] } M (cs ++ [D]) where
  le := r.le
  out := r.out
  old := r.old
  tu := r.tu
  sz := r.sz
  len := by simp [r.len]
  sl := fun j v e => by
    have e : (ρ.sl.set i (some (.cell ρ.ce.length)))[j]? = some (some v) := e
    by_cases q : i = j
    · subst q
      by_cases hl : i < ρ.sl.length
      · rw [List.getElem?_set_self hl] at e
        cases e
        refine ⟨.ref D, List.getElem?_set_self (by rw [r.len]; exact hl), D, rfl, ?_⟩
        rw [← r.ln]
        simp
      · rw [List.getElem?_eq_none (by rw [List.length_set]; omega)] at e; cases e
    · rw [List.getElem?_set_ne q] at e ⊢
      obtain ⟨w, h1, h2⟩ := r.sl j v e
      exact ⟨w, h1, h2.more⟩
  ce := fun n c e => by
    have e : (ρ.ce ++ [some (.lst xs)])[n]? = some (some c) := e
    by_cases q : n < ρ.ce.length
    · rw [List.getElem?_append_left q] at e
      obtain ⟨a, h1, h2, h3, h4⟩ := r.ce n c e
      exact ⟨a, by rw [List.getElem?_append_left (by rw [r.ln]; exact q)]; exact h1, h2, h3, h4.more⟩
    · rw [List.getElem?_append_right (by omega)] at e
      have hz : n - ρ.ce.length = 0 := by
        have := (List.getElem?_eq_some_iff.mp e).1
        simp at this
        omega
      rw [hz] at e
      simp at e
      subst e
      have hn : n = cs.length := by rw [r.ln]; omega
      subst hn
      exact ⟨D, by simp, hM, h0, vs, hD, hr.more⟩
  nd := fun n m a c c' h1 h2 h3 h4 => by
    have h3 : (ρ.ce ++ [some (.lst xs)])[n]? = some (some c) := h3
    have h4 : (ρ.ce ++ [some (.lst xs)])[m]? = some (some c') := h4
    have hn := (List.getElem?_eq_some_iff.mp h3).1
    have hm := (List.getElem?_eq_some_iff.mp h4).1
    simp at hn hm
    by_cases qn : n < ρ.ce.length
    · rw [List.getElem?_append_left qn] at h3
      rw [List.getElem?_append_left (by rw [r.ln]; exact qn)] at h1
      by_cases qm : m < ρ.ce.length
      · rw [List.getElem?_append_left qm] at h4
        rw [List.getElem?_append_left (by rw [r.ln]; exact qm)] at h2
        exact r.nd n m a c c' h1 h2 h3 h4
      · have : m = cs.length := by rw [r.ln]; omega
        subst this
        simp at h2
        subst h2
        exact absurd h1 (hne n c h3)
    · have en : n = cs.length := by rw [r.ln]; omega
      by_cases qm : m < ρ.ce.length
      · rw [List.getElem?_append_left qm] at h4
        rw [List.getElem?_append_left (by rw [r.ln]; exact qm)] at h2
        subst en
        simp at h1
        subst h1
        exact absurd h2 (hne m c' h4)
      · omega
  ln := by simp [r.ln]
theorem R.put {n : Nat} {a : Addr} {xs ys : List PV} {vs : List V} (r : R K H0 M0 σ H ρ M cs) (ec : content ρ.ce n = some (.lst xs)) (ha : cs[n]? = some a) (hr : Reps K M cs ys vs) (hz : vs.length ≤ sizeLine) :
    R K H0 M0 σ (upd H a (.lst vs)) (putC n ys ρ) M cs := by
  have ec' := content_eq.mp ec
  obtain ⟨a', h1, h2, h3, h4⟩ := r.ce n _ ec'
  rw [ha] at h1; cases h1
  have hn := (List.getElem?_eq_some_iff.mp ec').1
  have old : ∀ (m : Nat) c, (putC n ys ρ).ce[m]? = some (some c) → (m = n ∧ c = .lst ys) ∨ (m ≠ n ∧ ρ.ce[m]? = some (some c)) := fun m c e => by
    have e : (ρ.ce.set n (some (.lst ys)))[m]? = some (some c) := e
    by_cases q : n = m
    · subst q
      rw [List.getElem?_set_self hn] at e
      cases e
      exact .inl ⟨rfl, rfl⟩
    · rw [List.getElem?_set_ne q] at e
      exact .inr ⟨fun z => q z.symm, e⟩
  exact {
    le := fun b u e => by rw [upd_ne (ne_of_none e h2)]; exact r.le b u e
    out := fun b u e => by rw [upd_ne (ne_of_none e h3)]; exact r.out b u e
    old := r.old
    tu := fun b us e => by
      by_cases q : b = a
      · subst q; rw [upd_same] at e; cases e
      · rw [upd_ne q] at e; exact r.tu b us e
    sz := r.sz.upd hz
    len := r.len
    sl := r.sl
    ce := fun m c e => by
      rcases old m c e with ⟨rfl, rfl⟩ | ⟨hm, e⟩
      · exact ⟨a, ha, h2, h3, vs, upd_same, hr⟩
      · obtain ⟨b, g1, g2, g3, g4⟩ := r.ce m c e
        have hb : b ≠ a := fun q => by
          subst q
          exact hm (r.nd m n b c _ g1 ha e ec')
        refine ⟨b, g1, g2, g3, ?_⟩
        cases c <;> try exact g4.elim
        obtain ⟨us, g5, g6⟩ := g4
        exact ⟨us, by rw [upd_ne hb]; exact g5, g6⟩
    nd := fun m k b c c' g1 g2 g3 g4 => by
      have k3 : ∃ c, ρ.ce[m]? = some (some c) := by
        rcases old m c g3 with ⟨rfl, _⟩ | ⟨_, e⟩
        · exact ⟨_, ec'⟩
        · exact ⟨c, e⟩
      have k4 : ∃ c, ρ.ce[k]? = some (some c) := by
        rcases old k c' g4 with ⟨rfl, _⟩ | ⟨_, e⟩
        · exact ⟨_, ec'⟩
        · exact ⟨c', e⟩
      obtain ⟨d, k3⟩ := k3
      obtain ⟨d', k4⟩ := k4
      exact r.nd m k b d d' g1 g2 k3 k4
    ln := by show cs.length = (ρ.ce.set n _).length; rw [List.length_set]; exact r.ln }
theorem Keep.put {n : Nat} {ys : List PV} (h : n ∉ ρ.lk) : Keep ρ M cs (putC n ys ρ) M cs := ⟨.refl _, ⟨[], by simp⟩, rfl, fun m hm c hc => by
  have q : n ≠ m := fun q => h (q ▸ hm)
  rw [content_eq] at hc ⊢
  show (ρ.ce.set n _)[m]? = _
  rw [List.getElem?_set_ne q]; exact hc⟩
theorem killS_length {α : Type} : ∀ (is : List Nat) (s : List (Option α)), (killS is s).length = s.length
  | [], s => rfl
  | i :: is, s => by
    show (killS is (s.set i none)).length = _
    rw [killS_length is, List.length_set]
theorem killS_get {α : Type} : ∀ (is : List Nat) (s : List (Option α)) (j : Nat) (v : α), (killS is s)[j]? = some (some v) → s[j]? = some (some v)
  | [], s, j, v, h => h
  | i :: is, s, j, v, h => by
    have h := killS_get is (s.set i none) j v h
    by_cases q : i = j
    · subst q
      by_cases hl : i < s.length
      · rw [List.getElem?_set_self hl] at h; cases h
      · rw [List.getElem?_eq_none (by rw [List.length_set]; omega)] at h; cases h
    · rw [List.getElem?_set_ne q] at h; exact h
theorem R.kill (r : R K H0 M0 σ H ρ M cs) (is : List Nat) : R K H0 M0 σ H { ρ with sl := killS is ρ.sl } M cs := ⟨r.le, r.out, r.old, r.tu, r.sz, by rw [r.len]; exact (killS_length is _).symm, fun i v e => r.sl i v (killS_get is _ i v e), r.ce, r.nd, r.ln⟩
theorem all_get {α : Type} {f : Option α → Bool} {s : List (Option α)} {j : Nat} {v : Option α} (h : s.all f = true) (e : s[j]? = some v) : f v = true := List.all_eq_true.mp h v (List.mem_of_getElem? e)
theorem R.trim {m : Nat} (r : R K H0 M0 σ H ρ M cs) (h1 : ρ.sl.all (geO m) = true) (h2 : (ρ.ce.take m).all (geO m) = true) : R K H0 M0 σ H { ρ with ce := ρ.ce.take m } M (cs.take m) := by
  have old : ∀ (n : Nat) c, (ρ.ce.take m)[n]? = some (some c) → n < m ∧ ρ.ce[n]? = some (some c) := fun n c e => by
    rw [List.getElem?_take] at e
    split at e
    · rename_i q; exact ⟨q, e⟩
    · cases e
  have ocs : ∀ (n : Nat) a, (cs.take m)[n]? = some a → cs[n]? = some a := fun n c e => by
    rw [List.getElem?_take] at e
    split at e
    · exact e
    · cases e
  exact {
    le := r.le
    out := r.out
    old := r.old
    tu := r.tu
    sz := r.sz
    len := r.len
    sl := fun i v e => by
      obtain ⟨w, g1, g2⟩ := r.sl i v e
      exact ⟨w, g1, g2.less (all_get h1 e)⟩
    ce := fun n c e => by
      obtain ⟨hn, e'⟩ := old n c e
      obtain ⟨a, g1, g2, g3, g4⟩ := r.ce n c e'
      refine ⟨a, by rw [List.getElem?_take, if_pos hn]; exact g1, g2, g3, ?_⟩
      have hc := all_get h2 e
      cases c <;> try exact g4.elim
      obtain ⟨us, g5, g6⟩ := g4
      exact ⟨us, g5, g6.less (by simpa only [geO, noGe] using hc)⟩
    nd := fun n k a c c' g1 g2 g3 g4 => r.nd n k a c c' (ocs _ _ g1) (ocs _ _ g2) (old _ _ g3).2 (old _ _ g4).2
    ln := by
      show (cs.take m).length = (ρ.ce.take m).length
      rw [List.length_take, List.length_take, r.ln] }
theorem R.endT {m : Nat} {dead : List Nat} (r : R K H0 M0 σ H ρ M cs) {ρ0 : Env} {M1 : Hp} {cs0 : List Addr} (k : Keep ρ0 M1 cs0 ρ M cs) (hm : cs0.length = m) (hc : ρ0.ce.length = m) :
    ∃ cs', R K H0 M0 σ H (endT m dead ρ) M cs' ∧ Keep ρ0 M1 cs0 (endT m dead ρ) M cs' := by
  unfold PF.endT
  split
  · rename_i h
    rw [Bool.and_eq_true] at h
    refine ⟨cs.take m, (r.kill dead).trim h.1 h.2, k.m, ⟨[], ?_⟩, k.lk, fun n hn c e => ?_⟩
    · obtain ⟨es, rfl⟩ := k.cs
      rw [← hm]
      simp
    · have e2 := k.ce n hn c e
      rw [content_eq] at e e2 ⊢
      have := (List.getElem?_eq_some_iff.mp e).1
      show (ρ.ce.take m)[n]? = _
      rw [List.getElem?_take, if_pos (by omega)]
      exact e2
  · exact ⟨cs, r.kill dead, k.m, k.cs, k.lk, k.ce⟩
end

/-! ### readings of statements -/
def OutQ (K : PySem.W.Frag) (H0 M0 : Hp) (D : Ends) (ρ : Env) (M : Hp) (cs : List Addr) : Out → Prop
  | .nx ρ' => ∀ σ' H' M' cs', R K H0 M0 σ' H' ρ' M' cs' → Keep ρ M cs ρ' M' cs' → D.nx σ' H'
  | .bk ρ' => ∀ σ' H' M' cs', R K H0 M0 σ' H' ρ' M' cs' → Keep ρ M cs ρ' M' cs' → D.bk σ' H'
  | .ct ρ' => ∀ σ' H' M' cs', R K H0 M0 σ' H' ρ' M' cs' → Keep ρ M cs ρ' M' cs' → D.ct σ' H'
  | .rt v => ∀ w H' M', Ext H0 M0 H' M' → Rep K M' [] v w → D.rt w H'
def tS (K : PySem.W.Frag) (H0 M0 : Hp) (f : Env → Rs Out) : TS := fun D σ H => ∃ ρ M cs, R K H0 M0 σ H ρ M cs ∧ ∃ o, f ρ = .ok o ∧ OutQ K H0 M0 D ρ M cs o
theorem OutQ.on {K : PySem.W.Frag} {H0 M0 : Hp} {D : Ends} {ρ ρ' : Env} {M M' : Hp} {cs cs' : List Addr} {o : Out} (k : Keep ρ M cs ρ' M' cs') (h : OutQ K H0 M0 D ρ M cs o) : OutQ K H0 M0 D ρ' M' cs' o := by
  cases o with
  | nx ρ2 => exact fun σ2 H2 M2 cs2 r k2 => h σ2 H2 M2 cs2 r (k.trans k2)
  | bk ρ2 => exact fun σ2 H2 M2 cs2 r k2 => h σ2 H2 M2 cs2 r (k.trans k2)
  | ct ρ2 => exact fun σ2 H2 M2 cs2 r k2 => h σ2 H2 M2 cs2 r (k.trans k2)
  | rt v => exact h

section
variable {X : Cx} {H0 M0 : Hp} {N : List Str} {sc : Scope} {P : Str → Nat → Sem → Prop} {pos : Pos} {f g : Env → Rs Out} {fe fa fb : Env → Rs PV}
theorem s_nil : PSs X [] (tS X.K H0 M0 (fun ρ => .ok (.nx ρ))) := PSs.mono pss_nil fun D σ H ⟨ρ, M, cs, r, o, e, q⟩ => by
  cases e
  exact q σ H M cs r .refl
theorem s_seq {st : Stmt} {rest : List Stmt} (h1 : PS X st (tS X.K H0 M0 f)) (h2 : PSs X rest (tS X.K H0 M0 g)) :
    PSs X (st :: rest) (tS X.K H0 M0 (fun ρ => (f ρ).bind fun o => match o with | .nx ρ' => g ρ' | o => .ok o)) := PSs.mono (pss_cons h1 h2) fun D σ H ⟨ρ, M, cs, r, o, e, q⟩ => by
  obtain ⟨o1, e1, e⟩ := Rs.bind_eq_ok.mp e
  refine ⟨ρ, M, cs, r, o1, e1, ?_⟩
  cases o1 with
  | nx ρ1 => exact fun σ' H' M' cs' r' k => ⟨ρ1, M', cs', r', o, e, q.on k⟩
  | bk ρ1 => cases e; exact q
  | ct ρ1 => cases e; exact q
  | rt v => cases e; exact q
theorem s_pass : PS X (.Pass pos) (tS X.K H0 M0 (fun ρ => .ok (.nx ρ))) := PS.mono ps_pass fun D σ H ⟨ρ, M, cs, r, o, e, q⟩ => by
  cases e; exact q σ H M cs r .refl
theorem s_break : PS X (.Break pos) (tS X.K H0 M0 (fun ρ => .ok (.bk ρ))) := PS.mono ps_break fun D σ H ⟨ρ, M, cs, r, o, e, q⟩ => by
  cases e; exact q σ H M cs r .refl
theorem s_cont : PS X (.Continue pos) (tS X.K H0 M0 (fun ρ => .ok (.ct ρ))) := PS.mono ps_continue fun D σ H ⟨ρ, M, cs, r, o, e, q⟩ => by
  cases e; exact q σ H M cs r .refl
theorem s_if {c : Expr} {a b : List Stmt} {fc : Env → Rs Bool} (hc : T? X H0 M0 c fc) (ha : PSs X a (tS X.K H0 M0 f)) (hb : PSs X b (tS X.K H0 M0 g)) :
    PS X (.If c a b pos) (tS X.K H0 M0 (fun ρ => (fc ρ).bind fun k => if k then f ρ else g ρ)) := PS.mono (ps_if hc ha hb) fun D σ H ⟨ρ, M, cs, r, o, e, q⟩ => by
  obtain ⟨k, e1, e⟩ := Rs.bind_eq_ok.mp e
  refine ⟨ρ, M, cs, r, k, e1, fun H1 M1 x1 => ?_⟩
  have kp : Keep ρ M cs ρ M1 cs := .same x1.m rfl rfl
  cases k with
  | true => exact ⟨ρ, M1, cs, r.ext x1, o, e, q.on kp⟩
  | false => exact ⟨ρ, M1, cs, r.ext x1, o, e, q.on kp⟩
theorem s_ret {e : Expr} (l0 : Le M0 H0) (he : E? X H0 M0 e fe) : PS X (.Return (some e) pos) (tS X.K H0 M0 (fun ρ => (fe ρ).bind fun v => (frz ρ v).bind fun v => .ok (.rt v))) := PS.mono (ps_ret he) fun D σ H ⟨ρ, M, cs, r, o, e, q⟩ => by
  obtain ⟨v, e1, e⟩ := Rs.bind_eq_ok.mp e
  obtain ⟨t, e2, e⟩ := Rs.bind_eq_ok.mp e
  cases e
  refine ⟨ρ, M, cs, r, v, e1, fun w1 H1 M1 x1 r1 => ?_⟩
  have R1 := r.ext x1
  refine q w1 H1 (fun a => match H0 a with | none => H1 a | some _ => M0 a) ⟨R1.out, fun a o ea => ?_, fun a o ea => ?_, fun a o ea => ?_, fun a xs ea n => ?_, fun _ => R1.sz⟩ (frz_repN R1 (fun a o ea => ?_) (fun n c a hc ha => ?_) e2 r1)
  · show (match H0 a with | none => H1 a | some _ => M0 a) = some o
    rw [l0 a o ea]; exact ea
  · have ea : (match H0 a with | none => H1 a | some _ => M0 a) = some o := ea
    split at ea
    · exact ea
    · exact R1.out a o (l0 a o ea)
  · show (match H0 a with | none => H1 a | some _ => M0 a) = M0 a
    rw [ea]
  · show (match H0 a with | none => H1 a | some _ => M0 a) = some (.tup xs)
    rw [n]; exact ea
  · show (match H0 a with | none => H1 a | some _ => M0 a) = some o
    split
    · exact R1.le a o ea
    · rename_i u hu
      rw [← R1.old a u hu]; exact ea
  · show (match H0 a with | none => H1 a | some _ => M0 a) = H1 a
    obtain ⟨_, h0, _⟩ := cell_rep R1 hc ha
    rw [h0]
theorem setTg_lk {tg : Tg} {v : PV} {ρ ρ' : Env} (e : setTg tg v ρ = .ok ρ') : ρ'.lk = ρ.lk := by
  cases tg with
  | nm i => cases e; rfl
  | tp is =>
    cases v <;> simp only [setTg] at e <;> try cases e
    split at e
    · cases e; rfl
    · cases e
theorem RelSl.of {K : PySem.W.Frag} {σ : L2.St} {H : Hp} {ρ : Env} {M : Hp} {cs : List Addr} (r : R K H0 M0 σ H ρ M cs) (is : List Nat) : RelSl K M cs σ ρ.sl is := fun j v _ e => r.sl j v e
theorem put_nil {is : List Nat} {σ : L2.St} {ws : List V} : (putAll σ (is.zip ws)).length = σ.length := putAll_length _ _
/-- a target set behind a state -/
theorem tg_next {K : PySem.W.Frag} {σ : L2.St} {H : Hp} {ρ ρ' : Env} {M : Hp} {cs : List Addr} {tg : Tg} {v : PV} {w : V} {Q : L2.St → Hp → Prop} (r : R K H0 M0 σ H ρ M cs) (h : Rep K M cs v w) (e : setTg tg v ρ = .ok ρ')
    (q : ∀ σ', R K H0 M0 σ' H ρ' M cs → Keep ρ M cs ρ' M cs → Q σ' H) : TgR K tg w σ H Q :=
  tg_run r.le r.len (.of r _) h e fun ws hce hlen hrel => q _ (r.slots hce (by rw [put_nil, r.len, hlen]) hrel) (.same (.refl _) hce (setTg_lk e))
theorem s_asg {st : Stmt} {tg : Tg} (h : PS X st (tAsg (tE X.K H0 M0 fe) (TgR X.K tg))) : PS X st (tS X.K H0 M0 (fun ρ => (fe ρ).bind fun v => (setTg tg v ρ).bind fun ρ' => .ok (.nx ρ'))) := PS.mono h fun D σ H ⟨ρ, M, cs, r, o, e, q⟩ => by
  obtain ⟨v, e1, e⟩ := Rs.bind_eq_ok.mp e
  obtain ⟨ρ', e2, e⟩ := Rs.bind_eq_ok.mp e
  cases e
  refine ⟨ρ, M, cs, r, v, e1, fun w1 H1 M1 x1 r1 => ?_⟩
  exact tg_next (r.ext x1) r1 e2 fun σ' R' k => q σ' H1 M1 cs R' ((Keep.same x1.m rfl rfl).trans k)
theorem s_own {st : Stmt} {i : Nat} (h : PS X st (tAsg (tF X.K H0 M0 fe) (gName i))) :
    PS X st (tS X.K H0 M0 (fun ρ => (fe ρ).bind fun v => match v with | .lst xs => .ok (.nx { ρ with sl := ρ.sl.set i (some (.cell ρ.ce.length)), ce := ρ.ce ++ [some (.lst xs)] }) | _ => .bad)) := PS.mono h fun D σ H ⟨ρ, M, cs, r, o, e, q⟩ => by
  obtain ⟨v, e1, e⟩ := Rs.bind_eq_ok.mp e
  cases v <;> try cases e
  rename_i xs
  refine ⟨ρ, M, cs, r, xs, e1, fun L H1 M1 vs x1 hM hH hL hr => ?_⟩
  have R1 := r.ext x1
  refine q _ H1 M1 (cs ++ [L]) (R1.push hM (r.out.none hH) hL hr fun n c e' q' => ?_) ⟨x1.m, ⟨[L], rfl⟩, rfl, fun n hn c hc => ?_⟩
  · obtain ⟨a, g1, g2, g3, g4⟩ := r.ce n c e'
    rw [q'] at g1
    cases g1
    cases c <;> try exact g4
    obtain ⟨us, g5, _⟩ := g4
    rw [hH] at g5; cases g5
  · rw [content_eq] at hc ⊢
    show (ρ.ce ++ _)[n]? = _
    rw [List.getElem?_append_left (List.getElem?_eq_some_iff.mp hc).1]
    exact hc
theorem s_kill {sts : List Stmt} {is : List Nat} (h : PSs X sts (tS X.K H0 M0 f)) : PSs X sts (tS X.K H0 M0 (fun ρ => f { ρ with sl := killS is ρ.sl })) := PSs.mono h fun D σ H ⟨ρ, M, cs, r, o, e, q⟩ => ⟨_, M, cs, r.kill is, o, e, OutQ.on (ρ := ρ) (M := M) (cs := cs) (.same (.refl _) rfl rfl) q⟩

theorem srcOk_of {σ : L2.St} {H : Hp} {ρ ρ0 : Env} {M M1 : Hp} {cs cs0 : List Addr} {src : List (Addr × List PV)} {ns : List Nat} (r : R X.K H0 M0 σ H ρ M cs) (k : Keep ρ0 M1 cs0 ρ M cs) (hl : ∀ n ∈ ns, n ∈ ρ0.lk) (hs : Src ρ0 cs0 ns src)
    (hb : ∀ p ∈ src, noGes cs0.length p.2 = true) : SrcOk X.K M H cs0 src := fun p hp => by
  obtain ⟨n, hn, h1, h2⟩ := hs p hp
  obtain ⟨es, rfl⟩ := k.cs
  have h3 := k.ce n (hl n hn) _ h2
  obtain ⟨_, _, vs, g1, g2⟩ := cell_rep r h3 (a := p.1) (by rw [List.getElem?_append_left (List.getElem?_eq_some_iff.mp h1).1]; exact h1)
  refine ⟨vs, g1, ?_⟩
  have := g2.less (hb p hp)
  simpa using this
theorem s_for {tx ix : Expr} {body : List Stmt} {tg : Tg} {fit : Env → Rs (List PV)} {fs : Env → List Nat} {dead : List Nat} (hp : PassesOwn (model X.prog X.w) X.A X.env X.xe) (hc : X.calm = true) (hi : I? X H0 M0 tx ix fit fs) (hg : PG X tx (TgR X.K tg)) (hb : PSs X body (tS X.K H0 M0 f)) (hs : headOk ix = true) :
    PS X (.For tx ix body [] pos) (tS X.K H0 M0 (fun ρ => (fit ρ).bind fun xs => (forO ρ.ce.length dead f tg xs { ρ with lk := fs ρ ++ ρ.lk }).bind fun o => .ok (relk ρ.lk o))) := by
  refine PS.mono (ps_for hp hc hi hg hb (by intro x; cases ix <;> first | rfl | simp [headOk] at hs)) fun D σ H ⟨ρ, M, cs, r, o, e, q⟩ => ?_
  obtain ⟨xs, e1, e⟩ := Rs.bind_eq_ok.mp e
  obtain ⟨o', e2, e⟩ := Rs.bind_eq_ok.mp e
  cases e
  refine ⟨ρ, M, cs, r, xs, e1, fun J H1 M1 src x1 hsrc hwk => ?_⟩
  have R1 := (r.ext x1).lk (fs ρ ++ ρ.lk)
  have hsrc0 : Src { ρ with lk := fs ρ ++ ρ.lk } cs (fs ρ) src := hsrc
  have hbnd : ∀ p ∈ src, noGes cs.length p.2 = true := fun p hp => by
    obtain ⟨n, hn, h1, h2⟩ := hsrc p hp
    obtain ⟨_, _, vs, _, g2⟩ := cell_rep (r.ext x1) h2 h1
    exact g2.bound
  have k0 : ∀ {ρi Mi csi}, Keep { ρ with lk := fs ρ ++ ρ.lk } M1 cs ρi Mi csi → Keep ρ M cs { ρi with lk := ρ.lk } Mi csi := fun k => ⟨x1.m.trans k.m, k.cs, rfl, fun n hn c hc => k.ce n (List.mem_append_right _ hn) c hc⟩
  refine ⟨fun i m σ' H' => m = xs.length - i ∧ i ≤ xs.length ∧ ∃ ρi Mi csi, R X.K H0 M0 σ' H' ρi Mi csi ∧ Keep { ρ with lk := fs ρ ++ ρ.lk } M1 cs ρi Mi csi ∧ forO ρ.ce.length dead f tg (xs.drop i) ρi = .ok o', ⟨xs.length, by simp, Nat.zero_le _, _, M1, cs, R1, .refl, by simpa using e2⟩, ?_⟩
  rintro i m σi Hi ⟨rfl, hi', ρi, Mi, csi, Ri, ki, ei⟩
  have hso := srcOk_of Ri ki (fun n hn => List.mem_append_left _ hn) hsrc0 hbnd
  by_cases hlt : i < xs.length
  · refine .inr ?_
    have hx : xs[i]? = some xs[i] := by simp [hlt]
    obtain ⟨g1, g2⟩ := hwk.go i Mi Hi _ ki.m Ri.le hso hx
    rw [List.drop_eq_getElem_cons hlt] at ei
    simp only [forO, Rs.bind_eq_ok] at ei
    obtain ⟨ρ', h1, o1, h2, h3⟩ := ei
    refine ⟨g1, fun σ' H' => ∃ ρi Mi csi, R X.K H0 M0 σ' H' ρi Mi csi ∧ Keep { ρ with lk := fs ρ ++ ρ.lk } M1 cs ρi Mi csi ∧ forO ρ.ce.length dead f tg (xs.drop (i + 1)) ρi = .ok o', fun σ' H' h => ⟨xs.length - (i + 1), by omega, rfl, hlt, h⟩, fun x H2 hy => ?_⟩
    obtain ⟨M2, x2, r2⟩ := g2 x H2 hy
    obtain ⟨es, hes⟩ := ki.cs
    have R2 := Ri.ext x2
    refine tg_next R2 (by rw [hes]; exact r2.more) h1 fun σ3 R3 k3 => ⟨ρ', M2, csi, R3, o1, h2, ?_⟩
    have k3' := (ki.trans (.same x2.m rfl rfl)).trans k3
    cases o1 with
    | nx ρ'' =>
      intro σ4 H4 M4 cs4 R4 k4
      obtain ⟨cs5, R5, k5⟩ := R4.endT (dead := dead) (m := ρ.ce.length) (k3'.trans k4) r.ln rfl
      exact ⟨_, M4, cs5, R5, k5, h3⟩
    | ct ρ'' =>
      intro σ4 H4 M4 cs4 R4 k4
      obtain ⟨cs5, R5, k5⟩ := R4.endT (dead := dead) (m := ρ.ce.length) (k3'.trans k4) r.ln rfl
      exact ⟨_, M4, cs5, R5, k5, h3⟩
    | bk ρ'' =>
      intro σ4 H4 M4 cs4 R4 k4
      obtain ⟨cs5, R5, k5⟩ := R4.endT (dead := dead) (m := ρ.ce.length) (k3'.trans k4) r.ln rfl
      cases h3
      exact q σ4 H4 M4 cs5 (R5.lk _) (k0 k5)
    | rt v =>
      cases h3
      exact q
  · have hie : i = xs.length := by omega
    subst hie
    rw [List.drop_length] at ei
    cases ei
    exact .inl ⟨hwk.stop _ Mi Hi ki.m Ri.le hso (Nat.le_refl _), q σi Hi Mi csi (Ri.lk _) (k0 ki)⟩
theorem s_wh {c : Expr} {body : List Stmt} {fc : Env → Rs Bool} {dead : List Nat} (hp : PassesOwn (model X.prog X.w) X.A X.env X.xe) (hc : T? X H0 M0 c fc) (hb : PSs X body (tS X.K H0 M0 f)) :
    PS X (.While c body [] pos) (tS X.K H0 M0 (fun ρ => whO ρ.ce.length dead fc f ρ)) := by
  refine PS.mono (ps_while hp hc hb) fun D σ H ⟨ρ, M, cs, r, o, e, q⟩ => ?_
  obtain ⟨n, e⟩ := whO_ok e
  refine ⟨fun m σ' H' => ∃ ρi Mi csi, R X.K H0 M0 σ' H' ρi Mi csi ∧ Keep ρ M cs ρi Mi csi ∧ whN ρ.ce.length dead fc f m ρi = .ok o, ⟨n, ρ, M, cs, r, .refl, e⟩, ?_⟩
  rintro m σi Hi ⟨ρi, Mi, csi, Ri, ki, ei⟩
  cases m with
  | zero => cases ei
  | succ m =>
    simp only [whN, Rs.bind_eq_ok] at ei
    obtain ⟨k, h1, h2⟩ := ei
    refine ⟨ρi, Mi, csi, Ri, k, h1, fun H2 M2 x2 => ?_⟩
    have R2 := Ri.ext x2
    have k2 : Keep ρ M cs ρi M2 csi := ki.trans (.same x2.m rfl rfl)
    cases k with
    | false =>
      refine iteF ?_
      cases h2
      exact q σi H2 M2 csi R2 k2
    | true =>
      refine iteT ?_
      simp only [if_true, Rs.bind_eq_ok] at h2
      obtain ⟨o1, h3, h4⟩ := h2
      refine ⟨fun σ' H' => ∃ ρi Mi csi, R X.K H0 M0 σ' H' ρi Mi csi ∧ Keep ρ M cs ρi Mi csi ∧ whN ρ.ce.length dead fc f m ρi = .ok o, fun σ' H' h => ⟨m, by omega, h⟩, ρi, M2, csi, R2, o1, h3, ?_⟩
      cases o1 with
      | nx ρ'' =>
        intro σ4 H4 M4 cs4 R4 k4
        obtain ⟨cs5, R5, k5⟩ := R4.endT (dead := dead) (m := ρ.ce.length) (k2.trans k4) r.ln rfl
        exact ⟨_, M4, cs5, R5, k5, h4⟩
      | ct ρ'' =>
        intro σ4 H4 M4 cs4 R4 k4
        obtain ⟨cs5, R5, k5⟩ := R4.endT (dead := dead) (m := ρ.ce.length) (k2.trans k4) r.ln rfl
        exact ⟨_, M4, cs5, R5, k5, h4⟩
      | bk ρ'' =>
        intro σ4 H4 M4 cs4 R4 k4
        obtain ⟨cs5, R5, k5⟩ := R4.endT (dead := dead) (m := ρ.ce.length) (k2.trans k4) r.ln rfl
        cases h4
        exact q σ4 H4 M4 cs5 R5 k5
      | rt v =>
        cases h4
        exact q
end
end PF

set_option Elab.async false
set_option linter.all false
set_option maxRecDepth 100000
set_option maxHeartbeats 8000000
/-! PFn: methods of lists that change them. -/
namespace PF
open PySem L2 PyProof.Rows

theorem refOf_ok {ρ : Env} {v : PV} {p : Nat × List PV} (e : refOf ρ v = .ok p) : v = .cell p.1 ∧ p.1 ∉ ρ.lk ∧ content ρ.ce p.1 = some (.lst p.2) := by
  cases v <;> simp only [refOf] at e <;> try cases e
  rename_i n
  split at e
  · cases e
  · rename_i hn
    split at e
    · rename_i xs hx
      cases e
      exact ⟨rfl, by simpa using hn, hx⟩
    · cases e
def baseOk : Expr → Bool
  | .Name .. | .Subscript .. | .Attribute .. => true
  | _ => false
theorem base_ok {o : Expr} {m : Str} {env : PySem.Env} (h : baseOk o = true) : attributeBase o m env (eval o env) = eval o env := by cases o <;> first | rfl | simp [baseOk] at h
theorem few1 {e : Expr} {env : PySem.Env} {p : Pos} (h : headOk e = true) : ((backTo p (starEach [e] env)).all (fun x => !x.1) && (backToKw p (keywordEach [] env)).all (fun x => x.1.isSome)
      && decide ([e].length + ([] : List Keyword).length + (if ([] : List Keyword).isEmpty then 0 else 1) < 30)) = true := by rw [head_star h]; rfl
theorem few2 {e e2 : Expr} {env : PySem.Env} {p : Pos} (h : headOk e = true) (h2 : headOk e2 = true) : ((backTo p (starEach [e, e2] env)).all (fun x => !x.1) && (backToKw p (keywordEach [] env)).all (fun x => x.1.isSome)
      && decide ([e, e2].length + ([] : List Keyword).length + (if ([] : List Keyword).isEmpty then 0 else 1) < 30)) = true := by rw [head_star h, head_star h2]; rfl
section
variable {X : Cx}
theorem ext_tup (l : Addr) (items : Array Value) (n : Nat) (b : Addr) (items2 : Array Value) (n2 : Nat) (od : Option Addr) (sl : Array (Option Value)) (hs0 : ¬(!items.isEmpty && Builtin.List.listTooLong (items.size + items2.size)) = true) (hs1 : items.size ≤ sizeLine) (hs2 : items.size + items2.size ≤ sizeLine + 1) :
    Meets (Builtin.«list.extend» ⟨[.ref l, .ref b], []⟩) (fun _ R s => s.heap.get? l = some { cls := .type "list", dict := none, data := .seq items n, slots := #[] } ∧ s.heap.get? b = some { cls := .type "tuple", dict := od, data := .seq items2 n2, slots := sl } ∧ R (.ok (.ret Value.none)) { s with heap := s.heap.update l (Obj.mapSeq fun x => x ++ items2), toks := s.toks }) :=
  .of_wp fun pr w A R s h => by
    obtain ⟨h0, g, d, tk, os0⟩ := s
    obtain ⟨hl, hb, h⟩ := h
    have fTT := AutoSeq1.sub_tuple_tuple
    have fLL := AutoSeq1.sub_list_list
    have fTL := AutoSeq1.sub_tuple_list
    have fLT := AutoSeq1.sub_list_tuple
    have hsum : (items ++ items2).size ≤ sizeLine + 1 := by rw [Array.size_append]; exact hs2
    wp_walk using (wpAny_updateSeq hl rfl (hz := hs1) (_hz' := hsum)), AutoSeq1.wpAny_loadPart' hl, AutoSeq1.wpAny_loadPart' hb; exact ⟨_, rfl, h⟩
/-- xs.extend(a tuple) -/
def rExtT (K : PySem.W.Frag) : V → List V → Hp → VK → Prop := fun x vs H Q => ∃ l b xs zs, x = .ref l ∧ vs = [.ref b] ∧ H l = some (.lst xs) ∧ SqT K H b zs ∧ xs.length + zs.length ≤ sizeLine ∧ Q .non (upd H l (.lst (xs ++ zs)))
theorem mt_extT : MtM X "list.extend" (rExtT X.K) := by
  intro pp s σ H x vs v us Q I rs0 rvs h
  obtain ⟨l, b, xs, zs, rfl, rfl, hL0, hT0, hle0, q⟩ := h
  cases rs0
  obtain ⟨u, rfl, ru⟩ := rvs.one
  cases ru
  obtain ⟨z, va, n, ra, hl, eo⟩ := I.lstM hL0
  obtain ⟨vb, r2, ht, z2⟩ := I.tuple hT0
  have hl2 := r2.length
  have hfit : va.toArray.size + vb.toArray.size ≤ sizeLine := by rw [List.size_toArray, List.size_toArray]; omega
  have hnot : ¬ (!va.toArray.isEmpty && Builtin.List.listTooLong (va.toArray.size + vb.toArray.size)) = true := by
    rw [notLongL hfit, Bool.and_false]
    exact Bool.false_ne_true
  obtain ⟨⟨oc, od, dd, sl⟩, e2, hc, n2, hd⟩ := ht
  cases hc
  cases hd
  refine call_meets F.slot_list_extend ⟨_, eo, rfl⟩ F.entry_list_extend (F.args_list_extend_2 _ _)
    (ext_tup l va.toArray n b vb.toArray n2 od sl hnot (by rw [List.size_toArray]; omega) (by omega)) ⟨eo, e2, ?_⟩
  refine ⟨.non, _, I.lset (its' := va ++ vb) hL0 eo (by simp) (ra.append r2) ?_, rfl, q⟩
  rw [List.length_append]
  omega
theorem MtM.or {id : String} {ra r' : V → List V → Hp → VK → Prop} (h : MtM X id ra) (h' : MtM X id r') : MtM X id (fun x vs H Q => ra x vs H Q ∨ r' x vs H Q) :=
  fun pins s σ H x vs v us Q I rx rv q => q.elim (h pins s σ H x vs v us Q I rx rv) (h' pins s σ H x vs v us Q I rx rv)
end
section
variable {X : Cx} {H0 M0 : Hp} {pos ap cp : Pos} {o e k : Expr} {fo fe fk : Env → Rs PV}
theorem ref_at {σ : L2.St} {H H' : Hp} {ρ : Env} {M : Hp} {cs : List Addr} {v : PV} {w : V} {p : Nat × List PV} (r : R X.K H0 M0 σ H ρ M cs) (e : refOf ρ v = .ok p) (h : Rep X.K M cs v w) :
    ∃ a vs, w = .ref a ∧ cs[p.1]? = some a ∧ H a = some (.lst vs) ∧ Reps X.K M cs p.2 vs ∧ p.1 ∉ ρ.lk ∧ content ρ.ce p.1 = some (.lst p.2) := by
  obtain ⟨rfl, h1, h2⟩ := refOf_ok e
  obtain ⟨a, rfl, ha⟩ := h
  obtain ⟨_, _, vs, g1, g2⟩ := cell_rep r h2 ha
  exact ⟨a, vs, rfl, ha, g1, g2, h1, h2⟩
theorem s_app (hb : baseOk o = true) (hh : headOk e = true) (hl : (ap.endLine == cp.line) = true) (ho : E? X H0 M0 o fo) (he : E? X H0 M0 e fe) :
    PS X (.Expr (.Call (.Attribute o "append" ap) [e] [] cp) pos) (tS X.K H0 M0 (fun ρ => (fo ρ).bind fun r => (fe ρ).bind fun v => (refOf ρ r).bind fun p => if p.2.length < sizeMax then .ok (.nx (putC p.1 (p.2 ++ [v]) ρ)) else .bad)) := by
  refine PS.mono (ps_expr (pe_bm PySem.F.plainAttrs_list PySem.F.slot_list_append PySem.F.type_list_append mt_append ho (pa_cons he pa_nil (head_star hh _ _)) (base_ok hb) (few1 hh) hl (head_star hh _ _) rfl)) fun D σ H ⟨ρ, M, cs, r, z, e, q⟩ => ?_
  obtain ⟨v1, e1, e⟩ := Rs.bind_eq_ok.mp e
  obtain ⟨v2, e2, e⟩ := Rs.bind_eq_ok.mp e
  obtain ⟨p, e3, e⟩ := Rs.bind_eq_ok.mp e
  have hz : p.2.length < sizeMax := by
    by_cases hz : p.2.length < sizeMax
    · exact hz
    · rw [if_neg hz] at e; cases e
  rw [if_pos hz] at e
  cases e
  refine ⟨ρ, M, cs, r, v1, e1, fun w1 H1 M1 x1 r1 => ?_⟩
  have R1 := r.ext x1
  obtain ⟨a, vs, rfl, ha, hL, hv, _, _⟩ := ref_at (H' := H1) R1 e3 r1
  refine ⟨.inl ⟨rfl, vs, SqL.of hL⟩, ρ, M1, cs, R1, v2, e2, fun w2 H2 M2 x2 r2 => ?_⟩
  have R2 := R1.ext x2
  obtain ⟨a', vs', he, ha', hL', hv', hn, hc⟩ := ref_at (H' := H2) R2 e3 (r1.mono x2.m)
  cases he
  have hlen := hv'.length
  refine ⟨a, vs', w2, rfl, rfl, hL', by rw [hlen]; exact hz, ?_⟩
  exact q σ _ M2 cs (R2.put hc ha (hv'.append (.one r2)) (by rw [List.length_append, List.length_singleton, hlen]; exact hz)) ((Keep.same (x1.m.trans x2.m) rfl rfl).trans (.put hn))
theorem extOf_at {σ : L2.St} {H : Hp} {ρ : Env} {M : Hp} {cs : List Addr} {v : PV} {w : V} {xs : List PV} (r : R X.K H0 M0 σ H ρ M cs) (e : extOf ρ v = .ok xs) (h : Rep X.K M cs v w) :
    ∃ b zs, w = .ref b ∧ Reps X.K M cs xs zs ∧ (H b = some (.lst zs) ∨ SqT X.K H b zs) := by
  have lists : extOf ρ v = trkOf ρ v → ∃ b zs, w = .ref b ∧ Reps X.K M cs xs zs ∧ (H b = some (.lst zs) ∨ SqT X.K H b zs) := fun z => by
    rw [z] at e
    obtain ⟨p, vs, rfl, h1, q1⟩ := trkOf_rep r e h
    exact ⟨p, vs, rfl, q1, .inl h1⟩
  cases v with
  | tup ys =>
    cases e
    obtain ⟨a, vs, rfl, h1, h2⟩ := h
    exact ⟨a, vs, rfl, h2, .inr (.of (r.le _ _ h1))⟩
  | _ => exact lists rfl
theorem s_ext (hb : baseOk o = true) (hh : headOk e = true) (hl : (ap.endLine == cp.line) = true) (ho : E? X H0 M0 o fo) (he : E? X H0 M0 e fe) :
    PS X (.Expr (.Call (.Attribute o "extend" ap) [e] [] cp) pos) (tS X.K H0 M0 (fun ρ => (fo ρ).bind fun r => (fe ρ).bind fun v => (refOf ρ r).bind fun p => (extOf ρ v).bind fun ys => if p.2.length + ys.length ≤ sizeMax then .ok (.nx (putC p.1 (p.2 ++ ys) ρ)) else .bad)) := by
  refine PS.mono (ps_expr (pe_bm PySem.F.plainAttrs_list PySem.F.slot_list_extend PySem.F.type_list_extend (MtM.or mt_extend mt_extT) ho (pa_cons he pa_nil (head_star hh _ _)) (base_ok hb) (few1 hh) hl (head_star hh _ _) rfl)) fun D σ H ⟨ρ, M, cs, r, z, e, q⟩ => ?_
  obtain ⟨v1, e1, e⟩ := Rs.bind_eq_ok.mp e
  obtain ⟨v2, e2, e⟩ := Rs.bind_eq_ok.mp e
  obtain ⟨p, e3, e⟩ := Rs.bind_eq_ok.mp e
  obtain ⟨ys, e4, e⟩ := Rs.bind_eq_ok.mp e
  have hz : p.2.length + ys.length ≤ sizeMax := by
    by_cases hz : p.2.length + ys.length ≤ sizeMax
    · exact hz
    · rw [if_neg hz] at e; cases e
  rw [if_pos hz] at e
  cases e
  refine ⟨ρ, M, cs, r, v1, e1, fun w1 H1 M1 x1 r1 => ?_⟩
  have R1 := r.ext x1
  obtain ⟨a, vs, rfl, ha, hL, hv, _, _⟩ := ref_at (H' := H1) R1 e3 r1
  refine ⟨.inl ⟨rfl, vs, SqL.of hL⟩, ρ, M1, cs, R1, v2, e2, fun w2 H2 M2 x2 r2 => ?_⟩
  have R2 := R1.ext x2
  obtain ⟨a', vs', he, ha', hL', hv', hn, hc⟩ := ref_at (H' := H2) R2 e3 (r1.mono x2.m)
  cases he
  have hlen := hv'.length
  obtain ⟨b, zs, rfl, hzs, hor⟩ := extOf_at R2 e4 r2
  have hlen2 := hzs.length
  have fin : D.nx σ (upd H2 a (.lst (vs' ++ zs))) := q σ _ M2 cs (R2.put hc ha (hv'.append hzs) (by rw [List.length_append, hlen, hlen2]; exact hz)) ((Keep.same (x1.m.trans x2.m) rfl rfl).trans (.put hn))
  rcases hor with h | h
  · exact .inl ⟨a, b, vs', zs, rfl, rfl, hL', h, by rw [hlen, hlen2]; exact hz, fin⟩
  · exact .inr ⟨a, b, vs', zs, rfl, rfl, hL', h, by rw [hlen, hlen2]; exact hz, fin⟩
theorem s_ins (hb : baseOk o = true) (hh : headOk k = true) (hh2 : headOk e = true) (hl : (ap.endLine == cp.line) = true) (ho : E? X H0 M0 o fo) (hk : E? X H0 M0 k fk) (he : E? X H0 M0 e fe) :
    PS X (.Expr (.Call (.Attribute o "insert" ap) [k, e] [] cp) pos) (tS X.K H0 M0 (fun ρ => (fo ρ).bind fun r => (fk ρ).bind fun i => (fe ρ).bind fun v => (refOf ρ r).bind fun p => match i with
    | .int i => if p.2.length < sizeMax ∧ 0 ≤ i ∧ InW 63 i then .ok (.nx (putC p.1 (p.2.take i.toNat ++ [v] ++ p.2.drop i.toNat) ρ)) else .bad
    | _ => .bad)) := by
  refine PS.mono (ps_expr (pe_bm PySem.F.plainAttrs_list PySem.F.slot_list_insert PySem.F.type_list_insert mt_insert ho (pa_cons hk (pa_cons he pa_nil (head_star hh2 _ _)) (head_star hh _ _)) (base_ok hb) (few2 hh hh2) hl (head_star hh _ _) (by rw [head_star hh2]; rfl))) fun D σ H ⟨ρ, M, cs, r, z, e, q⟩ => ?_
  obtain ⟨v1, e1, e⟩ := Rs.bind_eq_ok.mp e
  obtain ⟨v3, e5, e⟩ := Rs.bind_eq_ok.mp e
  obtain ⟨v2, e2, e⟩ := Rs.bind_eq_ok.mp e
  obtain ⟨p, e3, e⟩ := Rs.bind_eq_ok.mp e
  obtain ⟨i, rfl⟩ : ∃ i, v3 = .int i := by cases v3 <;> first | exact ⟨_, rfl⟩ | cases e
  have e : (if p.2.length < sizeMax ∧ 0 ≤ i ∧ InW 63 i then Rs.ok (Out.nx (putC p.1 (p.2.take i.toNat ++ [v2] ++ p.2.drop i.toNat) ρ)) else .bad) = .ok z := e
  have hz : p.2.length < sizeMax ∧ 0 ≤ i ∧ InW 63 i := by
    by_cases hz : p.2.length < sizeMax ∧ 0 ≤ i ∧ InW 63 i
    · exact hz
    · rw [if_neg hz] at e; cases e
  rw [if_pos hz] at e
  cases e
  refine ⟨ρ, M, cs, r, v1, e1, fun w1 H1 M1 x1 r1 => ?_⟩
  have R1 := r.ext x1
  obtain ⟨a, vs, rfl, ha, hL, hv, _, _⟩ := ref_at (H' := H1) R1 e3 r1
  refine ⟨.inl ⟨rfl, vs, SqL.of hL⟩, ρ, M1, cs, R1, .int i, e5, fun w3 H2 M2 x2 r3 => ?_⟩
  have R2 := R1.ext x2
  cases (show w3 = V.int i from r3)
  refine ⟨ρ, M2, cs, R2, v2, e2, fun w2 H3 M3 x3 r2 => ?_⟩
  have R3 := R2.ext x3
  obtain ⟨a', vs', he, ha', hL', hv', hn, hc⟩ := ref_at (H' := H3) R3 e3 ((r1.mono x2.m).mono x3.m)
  cases he
  have hlen := hv'.length
  refine ⟨a, vs', i, w2, rfl, rfl, hL', by rw [hlen]; exact hz.1, hz.2.1, hz.2.2.2, ?_⟩
  refine q σ _ M3 cs (R3.put hc ha (((hv'.take _).append (.one r2)).append (hv'.drop _)) ?_) ((Keep.same ((x1.m.trans x2.m).trans x3.m) rfl rfl).trans (.put hn))
  have := hz.1
  have h2 : (sizeMax : Nat) = sizeLine := rfl
  rw [List.length_append, List.length_append, List.length_take, List.length_drop, List.length_singleton, hlen]
  omega
/-- o[k] = e -/
theorem sw_sub {e : Expr} {p : Pos} {l : Nat} {env : PySem.Env} : swapsWithSole [.Subscript o k p] e l env = pure false := by cases e <;> rfl
theorem s_setIt {p : Pos} (hh : headOk k = true) (ho : E? X H0 M0 o fo) (hk : E? X H0 M0 k fk) (he : E? X H0 M0 e fe) :
    PS X (.Assign [.Subscript o k p] e pos) (tS X.K H0 M0 (fun ρ => (fe ρ).bind fun v => (fo ρ).bind fun r => (fk ρ).bind fun i => (refOf ρ r).bind fun p => match i with
    | .int i => (Rs.of (ixOf p.2.length i)).bind fun j => .ok (.nx (putC p.1 (p.2.set j v) ρ))
    | _ => .bad)) := by
  refine PS.mono (ps_asg he (pg_sub ho hk set_list (by intro v; cases k <;> first | rfl | simp [headOk] at hh)) sw_sub) fun D σ H ⟨ρ, M, cs, r, z, e, q⟩ => ?_
  obtain ⟨v2, e2, e⟩ := Rs.bind_eq_ok.mp e
  obtain ⟨v1, e1, e⟩ := Rs.bind_eq_ok.mp e
  obtain ⟨v3, e5, e⟩ := Rs.bind_eq_ok.mp e
  obtain ⟨p, e3, e⟩ := Rs.bind_eq_ok.mp e
  obtain ⟨i, rfl⟩ : ∃ i, v3 = .int i := by cases v3 <;> first | exact ⟨_, rfl⟩ | cases e
  have e : ((Rs.of (ixOf p.2.length i)).bind fun j => Rs.ok (Out.nx (putC p.1 (p.2.set j v2) ρ))) = .ok z := e
  obtain ⟨j, e4, e⟩ := Rs.bind_eq_ok.mp e
  cases e
  refine ⟨ρ, M, cs, r, v2, e2, fun w2 H1 M1 x1 r2 => ?_⟩
  have R1 := r.ext x1
  refine ⟨ρ, M1, cs, R1, v1, e1, fun w1 H2 M2 x2 r1 => ?_⟩
  have R2 := R1.ext x2
  refine ⟨ρ, M2, cs, R2, .int i, e5, fun w3 H3 M3 x3 r3 => ?_⟩
  have R3 := R2.ext x3
  cases (show w3 = V.int i from r3)
  obtain ⟨a', vs', rfl, ha', hL', hv', hn, hc⟩ := ref_at (H' := H3) R3 e3 (r1.mono x3.m)
  have hlen := hv'.length
  refine ⟨a', vs', i, j, rfl, rfl, hL', by rw [hlen]; exact rs_of e4, ?_⟩
  exact q σ _ M3 cs (R3.put hc ha' (hv'.set _ ((r2.mono x2.m).mono x3.m)) (by rw [List.length_set]; exact R3.sz _ _ hL')) ((Keep.same ((x1.m.trans x2.m).trans x3.m) rfl rfl).trans (.put hn))

/-- the two ways of pop, by their reading -/
def tPop (K : PySem.W.Frag) (H0 M0 : Hp) (fo : Env → Rs PV) (fk : Env → Rs (Option PV)) : TE := fun σ H Q => ∃ ρ M cs, R K H0 M0 σ H ρ M cs ∧ ∃ r i p j v, fo ρ = .ok r ∧ fk ρ = .ok i ∧ refOf ρ r = .ok p ∧ popIx p.2.length i = .ok j ∧ p.2[j]? = some v ∧
  ∀ w H' M', R K H0 M0 σ H' (putC p.1 (p.2.eraseIdx j) ρ) M' cs → Le M M' → p.1 ∉ ρ.lk → Rep K M' cs v w → Q w H'
theorem popIx_none {n j : Nat} (e : popIx n none = .ok j) : n ≠ 0 ∧ j = n - 1 := by
  have e : (if n = 0 then Rs.bad else Rs.ok (n - 1)) = Rs.ok j := e
  by_cases h : n = 0
  · rw [if_pos h] at e; cases e
  · rw [if_neg h] at e; cases e; exact ⟨h, rfl⟩
theorem popIx_some {n j : Nat} {v : PV} (e : popIx n (some v) = .ok j) : ∃ i, v = .int i ∧ -(2 ^ 63) ≤ i ∧ i < 2 ^ 63 ∧ ixOf n i = some j := by
  cases v <;> simp only [popIx] at e <;> try cases e
  rename_i i
  split at e
  · rename_i h
    exact ⟨i, rfl, h.1, h.2, rs_of e⟩
  · cases e
theorem pop0 (hb : baseOk o = true) (hl : (ap.endLine == cp.line) = true) (ho : E? X H0 M0 o fo) : PE X (.Call (.Attribute o "pop" ap) [] [] cp) (tPop X.K H0 M0 fo (fun _ => .ok none)) := by
  refine PE.mono (pe_bm0 PySem.F.plainAttrs_list PySem.F.slot_list_pop PySem.F.type_list_pop mt_pop ho (base_ok hb) hl) fun σ H Q ⟨ρ, M, cs, r, v1, i, p, j, v, e1, e2, e3, e4, e5, q⟩ => ?_
  cases e2
  obtain ⟨h0, rfl⟩ := popIx_none e4
  refine ⟨ρ, M, cs, r, v1, e1, fun w1 H1 M1 x1 r1 => ?_⟩
  have R1 := r.ext x1
  obtain ⟨a, vs, rfl, ha, hL, hv, hn, hc⟩ := ref_at (H' := H1) R1 e3 r1
  have hlen := hv.length
  obtain ⟨w, g1, g2⟩ := hv.get e5
  refine ⟨.inl ⟨rfl, vs, SqL.of hL⟩, a, vs, w, rfl, rfl, hL, by rw [hlen]; exact g1, ?_⟩
  have hd : vs.dropLast = vs.eraseIdx (p.2.length - 1) := by
    rw [← hlen, List.eraseIdx_length_sub_one]
  rw [hd]
  refine q w _ M1 (R1.put hc ha (hv.eraseIdx _) ?_) x1.m hn g2
  exact Nat.le_trans (List.length_eraseIdx_le _ _) (R1.sz _ _ hL)
theorem pop1 (hb : baseOk o = true) (hh : headOk k = true) (hl : (ap.endLine == cp.line) = true) (ho : E? X H0 M0 o fo) (hk : E? X H0 M0 k fk) : PE X (.Call (.Attribute o "pop" ap) [k] [] cp) (tPop X.K H0 M0 fo (fun ρ => (fk ρ).bind fun v => .ok (some v))) := by
  refine PE.mono (pe_bm PySem.F.plainAttrs_list PySem.F.slot_list_pop PySem.F.type_list_pop mt_popAt ho (pa_cons hk pa_nil (head_star hh _ _)) (base_ok hb) (few1 hh) hl (head_star hh _ _) rfl) fun σ H Q ⟨ρ, M, cs, r, v1, i, p, j, v, e1, e2, e3, e4, e5, q⟩ => ?_
  obtain ⟨u, e6, e7⟩ := Rs.bind_eq_ok.mp e2
  cases e7
  obtain ⟨i, rfl, h1, h2, h3⟩ := popIx_some e4
  refine ⟨ρ, M, cs, r, v1, e1, fun w1 H1 M1 x1 r1 => ?_⟩
  have R1 := r.ext x1
  obtain ⟨a, vs, rfl, ha, hL, hv, hn, hc⟩ := ref_at (H' := H1) R1 e3 r1
  refine ⟨.inl ⟨rfl, vs, SqL.of hL⟩, ρ, M1, cs, R1, .int i, e6, fun w2 H2 M2 x2 r2 => ?_⟩
  cases (show w2 = V.int i from r2)
  have R2 := R1.ext x2
  obtain ⟨a', vs', he, _, hL', hv', _, _⟩ := ref_at (H' := H2) R2 e3 (r1.mono x2.m)
  cases he
  have hlen := hv'.length
  obtain ⟨w, g1, g2⟩ := hv'.get e5
  refine ⟨a, vs', i, j, w, rfl, rfl, hL', h1, h2, by rw [hlen]; exact (ixN_seq h3).1, g1, ?_⟩
  refine q w _ M2 (R2.put hc ha (hv'.eraseIdx _) ?_) (x1.m.trans x2.m) hn g2
  exact Nat.le_trans (List.length_eraseIdx_le _ _) (R2.sz _ _ hL')
theorem s_pop {st : Stmt} {tg : Option Tg} {fk : Env → Rs (Option PV)} (h : PS X st (match tg with | none => tDrop (tPop X.K H0 M0 fo fk) | some tg => tAsg (tPop X.K H0 M0 fo fk) (TgR X.K tg))) :
    PS X st (tS X.K H0 M0 (fun ρ => (fo ρ).bind fun r => (fk ρ).bind fun i => (refOf ρ r).bind fun p => (popIx p.2.length i).bind fun j => (Rs.of p.2[j]?).bind fun v => (setO tg v (putC p.1 (p.2.eraseIdx j) ρ)).bind fun ρ' => .ok (.nx ρ'))) := by
  refine PS.mono h fun D σ H ⟨ρ, M, cs, r, z, e, q⟩ => ?_
  obtain ⟨v1, e1, e⟩ := Rs.bind_eq_ok.mp e
  obtain ⟨i, e2, e⟩ := Rs.bind_eq_ok.mp e
  obtain ⟨p, e3, e⟩ := Rs.bind_eq_ok.mp e
  obtain ⟨j, e4, e⟩ := Rs.bind_eq_ok.mp e
  obtain ⟨v, e5, e⟩ := Rs.bind_eq_ok.mp e
  obtain ⟨ρ', e6, e⟩ := Rs.bind_eq_ok.mp e
  cases e
  cases tg with
  | none =>
    cases e6
    exact ⟨ρ, M, cs, r, v1, i, p, j, v, e1, e2, e3, e4, rs_of e5, fun w H' M' R' l hn _ => q σ H' M' cs R' ((Keep.same l rfl rfl).trans (.put hn))⟩
  | some tg =>
    exact ⟨ρ, M, cs, r, v1, i, p, j, v, e1, e2, e3, e4, rs_of e5, fun w H' M' R' l hn rv => tg_next R' rv e6 fun σ' R'' kk => q σ' H' M' cs R'' (((Keep.same l rfl rfl).trans (.put hn)).trans kk)⟩
theorem s_appPop {y : Expr} {fy : Env → Rs PV} {ap2 cp2 : Pos} (hb : baseOk y = true) (hl : (ap.endLine == cp.line) = true) (hy : E? X H0 M0 y fy) (h : PE X (.Call (.Attribute o "pop" ap2) [k] [] cp2) (tPop X.K H0 M0 fo (fun ρ => (fk ρ).bind fun v => .ok (some v)))) :
    PS X (.Expr (.Call (.Attribute y "append" ap) [.Call (.Attribute o "pop" ap2) [k] [] cp2] [] cp) pos) (tS X.K H0 M0 (fun ρ => (fy ρ).bind fun q => (fo ρ).bind fun r => (fk ρ).bind fun i => (refOf ρ r).bind fun p => (popIx p.2.length (some i)).bind fun j => (Rs.of p.2[j]?).bind fun v =>
      (refOf (putC p.1 (p.2.eraseIdx j) ρ) q).bind fun z => if z.2.length < sizeMax then .ok (.nx (putC z.1 (z.2 ++ [v]) (putC p.1 (p.2.eraseIdx j) ρ))) else .bad)) := by
  refine PS.mono (ps_expr (pe_bm PySem.F.plainAttrs_list PySem.F.slot_list_append PySem.F.type_list_append mt_append hy (pa_cons h pa_nil rfl) (base_ok hb) rfl hl rfl rfl)) fun D σ H ⟨ρ, M, cs, r, z, e, q⟩ => ?_
  obtain ⟨vy, e0, e⟩ := Rs.bind_eq_ok.mp e
  obtain ⟨v1, e1, e⟩ := Rs.bind_eq_ok.mp e
  obtain ⟨i, e2, e⟩ := Rs.bind_eq_ok.mp e
  obtain ⟨p, e3, e⟩ := Rs.bind_eq_ok.mp e
  obtain ⟨j, e4, e⟩ := Rs.bind_eq_ok.mp e
  obtain ⟨v, e5, e⟩ := Rs.bind_eq_ok.mp e
  obtain ⟨t, e6, e⟩ := Rs.bind_eq_ok.mp e
  have hz : t.2.length < sizeMax := by
    by_cases hz : t.2.length < sizeMax
    · exact hz
    · rw [if_neg hz] at e; cases e
  rw [if_pos hz] at e
  cases e
  refine ⟨ρ, M, cs, r, vy, e0, fun wy H1 M1 x1 ry => ?_⟩
  have R1 := r.ext x1
  -- the list that grows, ahead
  have hy0 : vy = .cell t.1 := (refOf_ok e6).1
  obtain ⟨a, rfl, ha⟩ : ∃ a, wy = .ref a ∧ cs[t.1]? = some a := by
    have ry := ry
    rw [hy0] at ry
    exact ry
  have hpre : ∃ xs vs, H1 a = some (.lst vs) ∧ Reps X.K M1 cs xs vs := by
    have g := (refOf_ok e6).2.2
    by_cases q : t.1 = p.1
    · obtain ⟨_, _, vs, g1, g2⟩ := cell_rep R1 (refOf_ok e3).2.2 (a := a) (by rw [← q]; exact ha)
      exact ⟨_, vs, g1, g2⟩
    · have g2 : content ρ.ce t.1 = some (.lst t.2) := by
        rw [content_eq] at g ⊢
        have g : (ρ.ce.set p.1 _)[t.1]? = _ := g
        rw [List.getElem?_set_ne (fun z => q z.symm)] at g
        exact g
      obtain ⟨_, _, vs, g1, g3⟩ := cell_rep R1 g2 ha
      exact ⟨_, vs, g1, g3⟩
  obtain ⟨xs0, vs0, g1, g2⟩ := hpre
  refine ⟨.inl ⟨rfl, vs0, SqL.of g1⟩, ρ, M1, cs, R1, v1, some i, p, j, v, e1, by simp only [e2, Rs.bind_ok], e3, e4, rs_of e5, fun w H' M' R' l hn rv => ?_⟩
  obtain ⟨a', vs', he, ha', hL', hv', hn', hc'⟩ := ref_at (H' := H') R' e6 (ry.mono l)
  cases he
  have hlen := hv'.length
  refine ⟨a, vs', w, rfl, rfl, hL', by rw [hlen]; exact hz, ?_⟩
  exact q σ _ M' cs (R'.put hc' ha (hv'.append (.one rv)) (by rw [List.length_append, List.length_singleton, hlen]; exact hz)) (((Keep.same (x1.m.trans l) rfl rfl).trans (.put hn)).trans (.put hn'))
end
end PF

set_option Elab.async false
set_option linter.all false
set_option maxRecDepth 100000
set_option maxHeartbeats 8000000
/-! PFt: lists of new lists. -/
namespace PF
open PySem L2

/-- new lists at these places -/
def AllNew (K : PySem.W.Frag) (M : Hp) (cs : List Addr) (H H' : Hp) : List Addr → List (List PV) → Prop
  | [], [] => True
  | a :: as, zs :: zss => (M a = none ∧ H a = none ∧ ∃ us, H' a = some (.lst us) ∧ Reps K M cs zs us) ∧ AllNew K M cs H H' as zss
  | _, _ => False
section
variable {K : PySem.W.Frag} {M M' H H' H2 : Hp} {cs : List Addr}
theorem AllNew.on : ∀ {as : List Addr} {zss : List (List PV)}, AllNew K M cs H H' as zss → Le M M' → (∀ a o, H' a = some o → M' a = M a) → (∀ a ∈ as, ∀ o, H' a = some o → H2 a = some o) → AllNew K M' cs H H2 as zss
  | [], [], _, _, _, _ => trivial
  | a :: as, zs :: zss, ⟨⟨h1, h2, us, h3, h4⟩, h⟩, l, ho, hh => ⟨⟨by rw [ho a _ h3]; exact h1, h2, us, hh a List.mem_cons_self _ h3, h4.mono l⟩, AllNew.on h l ho fun b hb => hh b (List.mem_cons_of_mem _ hb)⟩
theorem AllNew.old : ∀ {as : List Addr} {zss : List (List PV)}, AllNew K M cs H H' as zss → (∀ a, H a = none → H2 a = none) → AllNew K M cs H2 H' as zss
  | [], [], _, _ => trivial
  | a :: as, zs :: zss, ⟨⟨h1, h2, h3⟩, h⟩, hh => ⟨⟨h1, hh a h2, h3⟩, AllNew.old h hh⟩
theorem AllNew.snoc {L : Addr} {zs : List PV} {us : List V} : ∀ {as : List Addr} {zss : List (List PV)}, AllNew K M cs H H' as zss → M L = none → H L = none → H' L = some (.lst us) → Reps K M cs zs us → AllNew K M cs H H' (as ++ [L]) (zss ++ [zs])
  | [], [], _, h1, h2, h3, h4 => ⟨⟨h1, h2, us, h3, h4⟩, trivial⟩
  | a :: as, z :: zss, ⟨h, t⟩, h1, h2, h3, h4 => ⟨h, AllNew.snoc t h1 h2 h3 h4⟩
theorem AllNew.there : ∀ {as : List Addr} {zss : List (List PV)} {a : Addr}, AllNew K M cs H H' as zss → a ∈ as → (∃ o, H' a = some o) ∧ H a = none
  | [], [], _, _, h => by simp at h
  | b :: as, z :: zss, a, ⟨⟨_, h2, us, h3, _⟩, t⟩, h => by
    (rcases List.mem_cons.mp h with rfl | h)
    · exact ⟨⟨_, h3⟩, h2⟩
    · exact AllNew.there t h
theorem AllNew.len : ∀ {as : List Addr} {zss : List (List PV)}, AllNew K M cs H H' as zss → as.length = zss.length
  | [], [], _ => rfl
  | _ :: _, _ :: _, ⟨_, t⟩ => by simp [AllNew.len t]
end
theorem lstsOf_snoc : ∀ {ys : List PV} {zss : List (List PV)} {zs : List PV}, lstsOf ys = some zss → lstsOf (ys ++ [.lst zs]) = some (zss ++ [zs])
  | [], zss, zs, h => by cases h; rfl
  | y :: ys, zss, zs, h => by
    cases y <;> simp only [lstsOf] at h <;> try (cases h; done)
    rename_i xs
    (simp only [Option.map_eq_some_iff] at h)
    obtain ⟨r, h1, rfl⟩ := h
    simp only [List.cons_append, lstsOf, lstsOf_snoc h1, Option.map_some]
theorem lstsOf_cut : ∀ {ys : List PV} {y : PV} {zss : List (List PV)}, lstsOf (ys ++ [y]) = some zss → ∃ rss zs, y = .lst zs ∧ lstsOf ys = some rss ∧ zss = rss ++ [zs]
  | [], y, zss, h => by
    cases y <;> simp only [List.nil_append, lstsOf] at h <;> try (cases h; done)
    cases h
    exact ⟨[], _, rfl, rfl, rfl⟩
  | x :: ys, y, zss, h => by
    cases x <;> simp only [List.cons_append, lstsOf] at h <;> try (cases h; done)
    (simp only [Option.map_eq_some_iff] at h)
    obtain ⟨r, h1, rfl⟩ := h
    obtain ⟨rss, zs, h2, h3, rfl⟩ := lstsOf_cut h1
    exact ⟨_ :: rss, zs, h2, by simp only [lstsOf, h3, Option.map_some], rfl⟩
theorem lstsOf_take : ∀ {ys : List PV} {zss : List (List PV)}, lstsOf ys = some zss → ∀ {us vs : List PV}, ys = us ++ vs → ∃ rss, lstsOf us = some rss
  | _, _, _, [], _, _ => ⟨[], rfl⟩
  | y :: ys, zss, h, u :: us, vs, e => by
    rw [List.cons_append] at e
    injection e with e1 e2
    subst e1 e2
    cases y <;> simp only [lstsOf] at h <;> try (cases h; done)
    (simp only [Option.map_eq_some_iff] at h)
    obtain ⟨r, h1, rfl⟩ := h
    obtain ⟨rss, h2⟩ := lstsOf_take h1 rfl
    exact ⟨_, by simp only [lstsOf, h2, Option.map_some]; rfl⟩
def tF2 (K : PySem.W.Frag) (H0 M0 : Hp) (f : Env → Rs PV) : TE := fun σ H Q => ∃ ρ M cs, R K H0 M0 σ H ρ M cs ∧ ∃ ys zss, f ρ = .ok (.lst ys) ∧ lstsOf ys = some zss ∧
  ∀ D H' M' as, Ext H M H' M' → M' D = none → H D = none → H' D = some (.lst (as.map V.ref)) → AllNew K M' cs H H' as zss → as.Nodup → D ∉ as → Q (.ref D) H'
theorem compO_pre {f : PV → Rs (Option PV)} : ∀ {xs ys : List PV} {i : Nat} {zs : List PV}, compO f xs = .ok ys → compO f (xs.take i) = .ok zs → ∃ us, ys = zs ++ us
  | [], ys, i, zs, h, h2 => by
    simp only [List.take_nil, compO] at h h2
    cases h; cases h2
    exact ⟨[], rfl⟩
  | x :: xs, ys, 0, zs, h, h2 => by
    simp only [List.take_zero, compO] at h2
    cases h2
    exact ⟨ys, rfl⟩
  | x :: xs, ys, i + 1, zs, h, h2 => by
    simp only [List.take_succ_cons, compO, Rs.bind_eq_ok] at h h2
    obtain ⟨y, h1, us, h3, h4⟩ := h
    obtain ⟨y', g1, us', g3, g4⟩ := h2
    rw [h1] at g1; cases g1
    cases h4; cases g4
    obtain ⟨vs, rfl⟩ := compO_pre h3 g3
    exact ⟨vs, by simp⟩

section
variable {X : Cx} {H0 M0 : Hp} {fit : Env → Rs (List PV)} {fs : Env → List Nat} {fc : Env → Rs Bool} {fe : Env → Rs PV}
theorem lc_ok2 {σ : L2.St} {H : Hp} {Q : VK} {ρ : Env} {M : Hp} {cs : List Addr} {tg : Tg} {xs ys : List PV} {zss : List (List PV)} (r : R X.K H0 M0 σ H ρ M cs) (e1 : fit ρ = .ok xs) (e2 : compO (turnC tg fc fe ρ) xs = .ok ys) (e3 : lstsOf ys = some zss)
    (w : ∀ D H' M' as, Ext H M H' M' → M' D = none → H D = none → H' D = some (.lst (as.map V.ref)) → AllNew X.K M' cs H H' as zss → as.Nodup → D ∉ as → Q (.ref D) H') :
    tLc (tI X.K H0 M0 fit fs) (TgR X.K tg) (tT X.K H0 M0 fc) (tF X.K H0 M0 fe) (tgIdx tg) σ H Q := by
  refine ⟨ρ, M, cs, r, xs, e1, fun J H1 M1 src x1 hsrc hwk D hD => ?_⟩
  have hz := hwk.sz
  have R1 := r.ext x1
  have hM1 : M1 D = none := R1.le.none hD
  have hH : H D = none := x1.h.none hD
  refine ⟨fun i m Hi => m = xs.length - i ∧ i ≤ xs.length ∧ ∃ Mi zs rss as, Ext H1 M1 Hi Mi ∧ Mi D = none ∧ Hi D = some (.lst (as.map V.ref)) ∧ compO (turnC tg fc fe ρ) (xs.take i) = .ok zs ∧ lstsOf zs = some rss ∧ AllNew X.K Mi cs H1 Hi as rss ∧ as.Nodup ∧ D ∉ as ∧ as.length ≤ i,
    ⟨xs.length, by simp, Nat.zero_le _, M1, [], [], [], ?_, hM1, upd_same, by simp [compO], rfl, trivial, List.nodup_nil, by simp, Nat.le_refl _⟩, ?_⟩
  · exact ⟨fun a o e => by rw [upd_ne (ne_of_none e hD)]; exact e, .refl _, fun a o e => by rw [upd_ne (ne_of_none e hM1)]; exact R1.le a o e, fun _ _ _ => rfl, fun a zs e n => (by
      by_cases q : a = D
      · subst q; rw [upd_same] at e; cases e
      · rw [upd_ne q, n] at e; cases e), fun s => SzOk.upd s (Nat.zero_le _)⟩
  rintro i m Hi ⟨rfl, hi, Mi, zs, rss, as, xi, hMi, hHi, hc, hls, hr, hnd, hDa, hvl⟩
  have Ri := R1.ext xi
  have hs : SrcOk X.K Mi Hi cs src := fun p hp => by
    obtain ⟨n, _, h1, h2⟩ := hsrc p hp
    obtain ⟨_, _, us, h3, h4⟩ := cell_rep Ri h2 h1
    exact ⟨us, h3, h4⟩
  by_cases hlt : i < xs.length
  · refine .inr ?_
    have hx : xs[i]? = some xs[i] := by simp [hlt]
    obtain ⟨g1, g2⟩ := hwk.go i Mi Hi _ xi.m Ri.le hs hx
    obtain ⟨us, hus⟩ := compO_take e2 (i + 1)
    obtain ⟨ws, hws⟩ := compO_pre e2 hus
    obtain ⟨tss, htss⟩ := lstsOf_take e3 hws
    have htk : xs.take (i + 1) = xs.take i ++ [xs[i]] := by rw [List.take_add_one]; simp [hlt]
    have hus' := hus
    rw [htk] at hus'
    obtain ⟨zs', o, h1, h2, h3⟩ := compO_snoc.mp hus'
    rw [hc] at h1; cases h1
    refine ⟨g1, fun H' => ∃ Mi zs rss as, Ext H1 M1 H' Mi ∧ Mi D = none ∧ H' D = some (.lst (as.map V.ref)) ∧ compO (turnC tg fc fe ρ) (xs.take (i + 1)) = .ok zs ∧ lstsOf zs = some rss ∧ AllNew X.K Mi cs H1 H' as rss ∧ as.Nodup ∧ D ∉ as ∧ as.length ≤ i + 1,
      fun H' h => ⟨xs.length - (i + 1), by omega, rfl, hlt, h⟩, fun x H2 hy => ?_⟩
    obtain ⟨M2, x2, r2⟩ := g2 x H2 hy
    obtain ⟨ρ', h4, h5⟩ := Rs.bind_eq_ok.mp h2
    obtain ⟨k, h6, h7⟩ := Rs.bind_eq_ok.mp h5
    have R2 := Ri.ext x2
    have hl : (wipe σ (tgIdx tg)).length = ρ.sl.length := by rw [wipe_length]; exact r.len
    have hrel : RelSl X.K M2 cs (wipe σ (tgIdx tg)) ρ.sl (tgIdx tg) := fun j v hj e => by
      obtain ⟨w, a1, a2⟩ := R2.sl j v e
      exact ⟨w, by rw [wipe_get, if_neg hj]; exact a1, a2⟩
    refine tg_run R2.le hl hrel r2 h4 fun ws hce hlen hrel' => ⟨by rw [wipe_put _ _ _ _ fun _ h => h, wipe_wipe], ?_⟩
    have R3 : R X.K H0 M0 (putAll (wipe σ (tgIdx tg)) ((tgIdx tg).zip ws)) H2 ρ' M2 cs := R2.slots hce (by rw [putAll_length, hl, hlen]) hrel'
    refine ⟨ρ', M2, cs, R3, k, h6, fun H3 M3 x3 => ?_⟩
    have x23 := x2.trans x3
    have hD3 : H3 D = some (.lst (as.map V.ref)) := x23.h _ _ hHi
    have hM3 : M3 D = none := (x23.ol D _ hHi).trans hMi
    have hr3 : AllNew X.K M3 cs H1 H3 as rss := hr.on x23.m x23.ol fun a _ o e => x23.h a o e
    cases k with
    | false =>
      cases h7
      refine iteF ?_
      have h3 : us = zs := by simpa using h3
      subst h3
      exact ⟨M3, us, rss, as, xi.trans x23, hM3, hD3, hus, hls, hr3, hnd, hDa, by omega⟩
    | true =>
      obtain ⟨y, h8, h9⟩ := Rs.bind_eq_ok.mp h7
      cases h9
      refine iteT ?_
      have h3 : us = zs ++ [y] := h3
      subst h3
      obtain ⟨qss, qs, rfl, hq1, hq2⟩ := lstsOf_cut htss
      rw [hls] at hq1; cases hq1
      refine ⟨ρ', M3, cs, R3.ext x3, qs, h8, fun L H4 M4 us x4 hML hHL hL hrL => ?_⟩
      have hD4 : H4 D = some (.lst (as.map V.ref)) := x4.h _ _ hD3
      have hM4 : M4 D = none := (x4.ol D _ hD3).trans hM3
      have hLD : L ≠ D := fun q => by rw [q, hD3] at hHL; cases hHL
      have hLa : L ∉ as := fun q => by
        obtain ⟨⟨o, h⟩, _⟩ := hr3.there q
        rw [h] at hHL; cases hHL
      refine ⟨as.map V.ref, hD4, by rw [List.length_map]; exact Nat.lt_of_le_of_lt hvl (Nat.lt_of_lt_of_le hlt hz), M4, zs ++ [.lst qs], rss ++ [qs], as ++ [L], ?_, hM4, by rw [upd_same, List.map_append]; rfl, hus, lstsOf_snoc hls, ?_, ?_, ?_, by rw [List.length_append]; simp; omega⟩
      · have x5 := (xi.trans x23).trans x4
        refine ⟨fun a o e => ?_, x5.m, fun a o e => by rw [upd_ne (ne_of_none e hM4)]; exact x5.le a o e, x5.ol, fun a zs e n => ?_, fun s => SzOk.upd (x5.sz s) ?_⟩
        · rw [upd_ne (ne_of_none e hD)]; exact x5.h a o e
        · by_cases q : a = D
          · subst q; rw [upd_same] at e; cases e
          · rw [upd_ne q] at e; exact x5.tu a zs e n
        · show (as.map V.ref ++ [V.ref L]).length ≤ sizeLine
          rw [List.length_append, List.length_singleton, List.length_map]
          omega
      · have hr4 : AllNew X.K M4 cs H1 (upd H4 D (.lst (as.map V.ref ++ [V.ref L]))) as rss := hr3.on x4.m x4.ol fun a ha o e => by
          rw [upd_ne (fun q : a = D => hDa (by rw [← q]; exact ha))]; exact x4.h a o e
        refine hr4.snoc hML ?_ (by rw [upd_ne hLD]; exact hL) hrL
        exact (xi.trans x23).none hHL
      · rw [List.nodup_append]
        exact ⟨hnd, by simp, fun a ha b hb => by
          have : b = L := by simpa using hb
          subst this
          exact fun q => hLa (q ▸ ha)⟩
      · simp only [List.mem_append, List.mem_singleton, not_or]
        exact ⟨hDa, fun q => hLD q.symm⟩
  · have hie : i = xs.length := by omega
    subst hie
    rw [List.take_length, e2] at hc
    cases hc
    rw [e3] at hls
    cases hls
    exact .inl ⟨hwk.stop _ Mi Hi xi.m Ri.le hs (Nat.le_refl _), w D Hi Mi as (x1.trans xi) hMi hH hHi (hr.old fun a h => x1.none h) hnd hDa⟩

theorem R.push0 {K : PySem.W.Frag} {σ : L2.St} {H : Hp} {ρ : Env} {M : Hp} {cs : List Addr} {D : Addr} {vs : List V} {xs : List PV} (r : R K H0 M0 σ H ρ M cs) (hM : M D = none) (h0 : H0 D = none) (hD : H D = some (.lst vs)) (hr : Reps K M cs xs vs) (hne : ∀ (n : Nat) c, ρ.ce[n]? = some (some c) → cs[n]? ≠ some D) :
    R K H0 M0 σ H { ρ with ce := ρ.ce ++ [some (.lst xs)] } M (cs ++ [D]) := by
  have q := r.push (i := ρ.sl.length) hM h0 hD hr hne
  rw [List.set_eq_of_length_le (by rw [r.len]; exact Nat.le_refl _), List.set_eq_of_length_le (Nat.le_refl _)] at q
  exact q
theorem R.pushes {K : PySem.W.Frag} {σ : L2.St} {H HB : Hp} {M : Hp} {cs0 : List Addr} : ∀ (as : List Addr) (zss : List (List PV)) (ρ : Env) (cs : List Addr), R K H0 M0 σ H ρ M cs → (∃ es, cs = cs0 ++ es) → AllNew K M cs0 HB H as zss → Le H0 HB → as.Nodup →
    (∀ a ∈ as, ∀ (n : Nat) c, ρ.ce[n]? = some (some c) → cs[n]? ≠ some a) → R K H0 M0 σ H { ρ with ce := ρ.ce ++ zss.map (fun zs => some (.lst zs)) } M (cs ++ as)
  | [], [], ρ, cs, r, _, _, _, _, _ => by simpa using r
  | a :: as, zs :: zss, ρ, cs, r, ⟨es, he⟩, ⟨⟨h1, h2, us, h3, h4⟩, t⟩, lb, hnd, hne => by
    have r1 := r.push0 h1 (lb.none h2) h3 (by rw [he]; exact h4.more) (hne a List.mem_cons_self)
    have hnd := List.nodup_cons.mp hnd
    have r2 := R.pushes as zss _ (cs ++ [a]) r1 ⟨es ++ [a], by rw [he, List.append_assoc]⟩ t lb hnd.2 fun b hb n c e q => by
      have e : (ρ.ce ++ [some (.lst zs)])[n]? = some (some c) := e
      by_cases hn : n < ρ.ce.length
      · rw [List.getElem?_append_left hn] at e
        rw [List.getElem?_append_left (by rw [r.ln]; exact hn)] at q
        exact hne b (List.mem_cons_of_mem _ hb) n c e q
      · have hl := (List.getElem?_eq_some_iff.mp e).1
        simp at hl
        have : n = cs.length := by rw [r.ln]; omega
        subst this
        simp at q
        exact hnd.1 (q ▸ hb)
    simpa [List.append_assoc] using r2
theorem reps_cells {K : PySem.W.Frag} {M : Hp} {cs : List Addr} : ∀ (as : List Addr) (b : Nat), (∀ (k : Nat) a, as[k]? = some a → cs[b + k]? = some a) → Reps K M cs ((List.range as.length).map fun k => PV.cell (b + k)) (as.map V.ref)
  | [], _, _ => rfl
  | a :: as, b, h => by
    (rw [List.length_cons, List.range_succ_eq_map, List.map_cons, List.map_map])
    refine ⟨.ref a, as.map V.ref, rfl, ⟨a, rfl, h 0 a rfl⟩, ?_⟩
    have q := reps_cells (K := K) (M := M) (cs := cs) as (b + 1) fun k a' e => by
      have := h (k + 1) a' (by simpa using e)
      rw [show b + 1 + k = b + (k + 1) by omega]; exact this
    have e : ((fun k => PV.cell (b + k)) ∘ Nat.succ) = fun k => PV.cell (b + 1 + k) := funext fun k => by
      show PV.cell (b + (k + 1)) = _
      rw [show b + (k + 1) = b + 1 + k by omega]
    rw [e]; exact q
theorem s_own2 {st : Stmt} {i : Nat} (h : PS X st (tAsg (tF2 X.K H0 M0 fe) (gName i))) :
    PS X st (tS X.K H0 M0 (fun ρ => (fe ρ).bind fun v => match v with
      | .lst ys => (Rs.of (lstsOf ys)).bind fun zss => .ok (.nx { ρ with sl := ρ.sl.set i (some (.cell (ρ.ce.length + zss.length))), ce := ρ.ce ++ zss.map (fun zs => some (.lst zs)) ++ [some (.lst ((List.range zss.length).map fun k => .cell (ρ.ce.length + k)))] })
      | _ => .bad)) := PS.mono h fun D σ H ⟨ρ, M, cs, r, o, e, q⟩ => by
  obtain ⟨v, e1, e⟩ := Rs.bind_eq_ok.mp e
  cases v <;> try cases e
  rename_i ys
  obtain ⟨zss, e2, e⟩ := Rs.bind_eq_ok.mp e
  cases e
  refine ⟨ρ, M, cs, r, ys, zss, e1, rs_of e2, fun L H1 M1 as x1 hM hH hL ha hnd hLa => ?_⟩
  have R1 := r.ext x1
  have hlen := ha.len
  have dis : ∀ a, H a = none → ∀ (n : Nat) c, ρ.ce[n]? = some (some c) → cs[n]? ≠ some a := fun a hn n c e' q' => by
    obtain ⟨b, g1, g2, g3, g4⟩ := r.ce n c e'
    rw [q'] at g1
    cases g1
    cases c <;> try exact g4
    obtain ⟨us, g5, _⟩ := g4
    rw [hn] at g5; cases g5
  have R2 := R.pushes as zss ρ cs R1 ⟨[], by simp⟩ ha r.out hnd fun a hm => dis a (ha.there hm).2
  have R3 := R2.push (i := i) (D := L) (xs := (List.range zss.length).map fun k => PV.cell (ρ.ce.length + k)) hM (r.out.none hH) hL (by
    rw [← hlen]
    refine reps_cells as ρ.ce.length fun k a e => ?_
    rw [← r.ln, List.getElem?_append_right (by omega)]
    simpa using e) fun n c e' q' => by
      have e' : (ρ.ce ++ zss.map (fun zs => some (.lst zs)))[n]? = some (some c) := e'
      by_cases hn : n < ρ.ce.length
      · rw [List.getElem?_append_left hn] at e'
        rw [List.getElem?_append_left (by rw [r.ln]; exact hn)] at q'
        exact dis L hH n c e' q'
      · rw [List.getElem?_append_right (by rw [r.ln]; omega)] at q'
        exact hLa (List.mem_of_getElem? q')
  have hcl : (ρ.ce ++ zss.map (fun zs => some (PV.lst zs))).length = ρ.ce.length + zss.length := by simp
  have R3' : R X.K H0 M0 (σ.set i (some (.ref L))) H1 { ρ with sl := ρ.sl.set i (some (.cell (ρ.ce.length + zss.length))), ce := ρ.ce ++ zss.map (fun zs => some (.lst zs)) ++ [some (.lst ((List.range zss.length).map fun k => .cell (ρ.ce.length + k)))] } M1 (cs ++ as ++ [L]) := by
    rw [← hcl]; exact R3
  refine q _ H1 M1 _ R3' ⟨x1.m, ⟨as ++ [L], by rw [List.append_assoc]⟩, rfl, fun n hn c hc => ?_⟩
  rw [content_eq] at hc ⊢
  show (ρ.ce ++ _ ++ _)[n]? = _
  have := (List.getElem?_eq_some_iff.mp hc).1
  rw [List.append_assoc, List.getElem?_append_left this]
  exact hc
theorem s_appO {o e : Expr} {ap cp pos : Pos} {fo : Env → Rs PV} (hb : baseOk o = true) (hh : headOk e = true) (hl : (ap.endLine == cp.line) = true) (ho : E? X H0 M0 o fo) (he : PE X e (tF X.K H0 M0 fe)) :
    PS X (.Expr (.Call (.Attribute o "append" ap) [e] [] cp) pos) (tS X.K H0 M0 (fun ρ => (fo ρ).bind fun r => (fe ρ).bind fun v => (refOf ρ r).bind fun p => match v with
      | .lst xs => if p.2.length < sizeMax then .ok (.nx (putC p.1 (p.2 ++ [.cell ρ.ce.length]) { ρ with ce := ρ.ce ++ [some (.lst xs)] })) else .bad
      | _ => .bad)) := by
  refine PS.mono (ps_expr (pe_bm PySem.F.plainAttrs_list PySem.F.slot_list_append PySem.F.type_list_append mt_append ho (pa_cons he pa_nil (head_star hh _ _)) (base_ok hb) (few1 hh) hl (head_star hh _ _) rfl)) fun D σ H ⟨ρ, M, cs, r, z, e, q⟩ => ?_
  obtain ⟨v1, e1, e⟩ := Rs.bind_eq_ok.mp e
  obtain ⟨v2, e2, e⟩ := Rs.bind_eq_ok.mp e
  obtain ⟨p, e3, e⟩ := Rs.bind_eq_ok.mp e
  obtain ⟨xs, rfl⟩ : ∃ xs, v2 = .lst xs := by cases v2 <;> first | exact ⟨_, rfl⟩ | cases e
  have e : (if p.2.length < sizeMax then Rs.ok (Out.nx (putC p.1 (p.2 ++ [.cell ρ.ce.length]) { ρ with ce := ρ.ce ++ [some (.lst xs)] })) else .bad) = .ok z := e
  have hz : p.2.length < sizeMax := by
    by_cases hz : p.2.length < sizeMax
    · exact hz
    · rw [if_neg hz] at e; cases e
  rw [if_pos hz] at e
  cases e
  refine ⟨ρ, M, cs, r, v1, e1, fun w1 H1 M1 x1 r1 => ?_⟩
  have R1 := r.ext x1
  obtain ⟨a, vs, rfl, ha, hL, hv, _, _⟩ := ref_at (H' := H1) R1 e3 r1
  refine ⟨.inl ⟨rfl, vs, SqL.of hL⟩, ρ, M1, cs, R1, xs, e2, fun L H2 M2 us x2 hML hHL hLL hrL => ?_⟩
  have R2 := R1.ext x2
  obtain ⟨a', vs', he, ha', hL', hv', hn, hc⟩ := ref_at (H' := H2) R2 e3 (r1.mono x2.m)
  cases he
  have hlen := hv'.length
  refine ⟨a, vs', .ref L, rfl, rfl, hL', by rw [hlen]; exact hz, ?_⟩
  have R3 := R2.push0 (D := L) (xs := xs) hML (R1.out.none hHL) hLL hrL fun n c e' q' => by
    obtain ⟨b, g1, g2, g3, g4⟩ := R1.ce n c e'
    rw [q'] at g1
    cases g1
    cases c <;> try exact g4
    obtain ⟨us, g5, _⟩ := g4
    rw [hHL] at g5; cases g5
  have hc' : content (ρ.ce ++ [some (PV.lst xs)]) p.1 = some (.lst p.2) := by
    rw [content_eq] at hc ⊢
    rw [List.getElem?_append_left (List.getElem?_eq_some_iff.mp hc).1]; exact hc
  have ha2 : (cs ++ [L])[p.1]? = some a := by rw [List.getElem?_append_left (List.getElem?_eq_some_iff.mp ha).1]; exact ha
  refine q σ _ M2 (cs ++ [L]) (R3.put hc' ha2 (hv'.more.append (.one ⟨L, rfl, by rw [← r.ln]; simp⟩)) (by rw [List.length_append, List.length_singleton, hlen]; exact hz)) ?_
  refine Keep.trans (ρ' := { ρ with ce := ρ.ce ++ [some (.lst xs)] }) (M' := M2) (cs' := cs ++ [L]) ⟨x1.m.trans x2.m, ⟨[L], rfl⟩, rfl, fun n hn c hc => ?_⟩ (.put hn)
  rw [content_eq] at hc ⊢
  show (ρ.ce ++ _)[n]? = _
  rw [List.getElem?_append_left (List.getElem?_eq_some_iff.mp hc).1]
  exact hc
theorem s_never {st : Stmt} : PS X st (tS X.K H0 M0 (fun _ => .bad)) := PS.mono ps_never fun D σ H ⟨ρ, M, cs, r, o, e, q⟩ => by cases e
end
end PF

set_option Elab.async false
set_option linter.all false
set_option maxRecDepth 100000
set_option maxHeartbeats 8000000
/-! PFo: the theorem of statements. -/
namespace PF
open PySem L2

def asAsg : Stmt → Option (Expr × Expr)
  | .Assign [t] e _ => some (t, e)
  | _ => none
def asCall : Expr → Option (Expr × Str × List Expr)
  | .Call (.Attribute o m ap) xs [] cp => if ap.endLine == cp.line then some (o, m, xs) else none
  | _ => none
def asMeth : Stmt → Option (Expr × Str × List Expr)
  | .Expr e _ => asCall e
  | _ => none
def asSub : Expr → Option (Expr × Expr)
  | .Subscript o k _ => some (o, k)
  | _ => none
def asRet : Stmt → Option Expr
  | .Return (some e) _ => some e
  | _ => none
def asIf : Stmt → Option (Expr × List Stmt × List Stmt)
  | .If c a b _ => some (c, a, b)
  | _ => none
def asFor : Stmt → Option (Expr × Expr × List Stmt)
  | .For t i b [] _ => some (t, i, b)
  | _ => none
def asWh : Stmt → Option (Expr × List Stmt)
  | .While c b [] _ => some (c, b)
  | _ => none
def isBrk : Stmt → Bool | .Break _ => true | _ => false
def isCont : Stmt → Bool | .Continue _ => true | _ => false
def isPass : Stmt → Bool | .Pass _ => true | _ => false
theorem asAsg_ok {s : Stmt} {t e : Expr} (h : asAsg s = some (t, e)) : ∃ p, s = .Assign [t] e p := by
  unfold asAsg at h
  split at h
  · cases h; exact ⟨_, rfl⟩
  · cases h
theorem asCall_ok {s o : Expr} {m : Str} {xs : List Expr} (h : asCall s = some (o, m, xs)) : ∃ ap cp, s = .Call (.Attribute o m ap) xs [] cp ∧ (ap.endLine == cp.line) = true := by
  unfold asCall at h
  split at h
  · split at h
    · rename_i q
      cases h; exact ⟨_, _, rfl, q⟩
    · cases h
  · cases h
theorem asMeth_ok {s : Stmt} {o : Expr} {m : Str} {xs : List Expr} (h : asMeth s = some (o, m, xs)) : ∃ ap cp p, s = .Expr (.Call (.Attribute o m ap) xs [] cp) p ∧ (ap.endLine == cp.line) = true := by
  unfold asMeth at h
  split at h
  · obtain ⟨ap, cp, rfl, q⟩ := asCall_ok h
    exact ⟨_, _, _, rfl, q⟩
  · cases h
theorem asSub_ok {s o k : Expr} (h : asSub s = some (o, k)) : ∃ p, s = .Subscript o k p := by
  unfold asSub at h
  split at h
  · cases h; exact ⟨_, rfl⟩
  · cases h
theorem asRet_ok {s : Stmt} {e : Expr} (h : asRet s = some e) : ∃ p, s = .Return (some e) p := by
  unfold asRet at h
  split at h
  · cases h; exact ⟨_, rfl⟩
  · cases h
theorem asIf_ok {s : Stmt} {c : Expr} {a b : List Stmt} (h : asIf s = some (c, a, b)) : ∃ p, s = .If c a b p := by
  unfold asIf at h
  split at h
  · cases h; exact ⟨_, rfl⟩
  · cases h
theorem asFor_ok {s : Stmt} {c i : Expr} {a : List Stmt} (h : asFor s = some (c, i, a)) : ∃ p, s = .For c i a [] p := by
  unfold asFor at h
  split at h
  · cases h; exact ⟨_, rfl⟩
  · cases h
theorem asWh_ok {s : Stmt} {c : Expr} {a : List Stmt} (h : asWh s = some (c, a)) : ∃ p, s = .While c a [] p := by
  unfold asWh at h
  split at h
  · cases h; exact ⟨_, rfl⟩
  · cases h

def swOk (sc : Scope) (y : Str) (py : Pos) : Expr → Bool
  | .ListComp _ _ scope q => decide (sc.names.lookup y = some .local) && (py.line == q.line) && !(scope.names.any fun (n, k) => n == y && (k == .local || k == .cell))
  | _ => true
def stOk (sc : Scope) : Expr → Expr → Bool
  | .Name y py, x => swOk sc y py x
  | .Tuple _ _ _, .Tuple _ _ _ => false
  | .Tuple _ _ _, _ => true
  | _, _ => false
/-- it gives a new list -/
def freshE : Ex → Bool
  | .lst _ | .comp _ _ _ _ | .bi .list _ | .bi .sorted _ | .bin .add _ _ | .bin .mul _ _ | .sl _ _ _ => true
  | _ => false
/-- .. of new lists -/
def fresh2 : Ex → Bool
  | .comp elt _ _ _ => freshE elt
  | _ => false
def isKill : Stm → Bool
  | .kill _ => true
  | _ => false
mutual
def chkS (N : List Str) (sc : Scope) : Stm → Stmt → Bool
  | .asg tg e, s => (asAsg s).any fun p => chkE N sc e p.2 && tgOk N sc tg p.1 && stOk sc p.1 p.2
  | .own i e, s => (asAsg s).any fun p => chkE N sc e p.2 && tgOk N sc (.nm i) p.1 && stOk sc p.1 p.2 && freshE e
  | .own2 i e, s => (asAsg s).any fun p => chkE N sc e p.2 && tgOk N sc (.nm i) p.1 && stOk sc p.1 p.2 && fresh2 e
  | .appO o e, s => (asMeth s).any fun p => decide (p.2.1 = ("append" : Str)) && baseOk p.1 && chkE N sc o p.1 && chkEs N sc [e] p.2.2 && freshE e
  | .never, _ => true
  | .app o e, s => (asMeth s).any fun p => decide (p.2.1 = ("append" : Str)) && baseOk p.1 && chkE N sc o p.1 && chkEs N sc [e] p.2.2
  | .ext o e, s => (asMeth s).any fun p => decide (p.2.1 = ("extend" : Str)) && baseOk p.1 && chkE N sc o p.1 && chkEs N sc [e] p.2.2
  | .ins o k e, s => (asMeth s).any fun p => decide (p.2.1 = ("insert" : Str)) && baseOk p.1 && chkE N sc o p.1 && chkEs N sc [k, e] p.2.2
  | .pop tg o k, s => match tg with
    | none => (asMeth s).any fun p => decide (p.2.1 = ("pop" : Str)) && baseOk p.1 && chkE N sc o p.1 && chkEs N sc k.toList p.2.2
    | some tg => (asAsg s).any fun q => tgOk N sc tg q.1 && (asCall q.2).any fun p => decide (p.2.1 = ("pop" : Str)) && baseOk p.1 && chkE N sc o p.1 && chkEs N sc k.toList p.2.2
  | .appPop y o k, s => (asMeth s).any fun q => decide (q.2.1 = ("append" : Str)) && baseOk q.1 && chkE N sc y q.1 && match q.2.2 with
    | [x] => (asCall x).any fun p => decide (p.2.1 = ("pop" : Str)) && baseOk p.1 && chkE N sc o p.1 && chkEs N sc [k] p.2.2
    | _ => false
  | .setIt o k e, s => (asAsg s).any fun p => chkE N sc e p.2 && (asSub p.1).any fun q => chkE N sc o q.1 && chkE N sc k q.2
  | .ret e, s => (asRet s).any fun p => chkE N sc e p
  | .ite c a b, s => (asIf s).any fun p => chkE N sc c p.1 && chkSs N sc a p.2.1 && chkSs N sc b p.2.2
  | .for tg it body _, s => (asFor s).any fun p => tgOk N sc tg p.1 && chkI N sc it p.2.1 (isTp p.1) && chkSs N sc body p.2.2
  | .wh c body _, s => (asWh s).any fun p => chkE N sc c p.1 && chkSs N sc body p.2
  | .brk, s => isBrk s
  | .cont, s => isCont s
  | .pass, s => isPass s
  | .kill _, _ => false
def chkSs (N : List Str) (sc : Scope) : List Stm → List Stmt → Bool
  | [], ss => ss.isEmpty
  | s :: r, ss => if isKill s then chkSs N sc r ss else match ss with
    | st :: ss => chkS N sc s st && chkSs N sc r ss
    | [] => false
end
mutual
def callsS (P : Str → Nat → Sem → Prop) : Stm → Prop
  | .asg _ e | .own _ e | .own2 _ e | .ret e => callsE P e
  | .app o e | .appO o e | .ext o e => callsE P o ∧ callsE P e
  | .ins o k e | .setIt o k e | .appPop o k e => callsE P o ∧ callsE P k ∧ callsE P e
  | .pop _ o k => callsE P o ∧ callsO P k
  | .ite c a b => callsE P c ∧ callsSs P a ∧ callsSs P b
  | .for _ it body _ => callsI P it ∧ callsSs P body
  | .wh c body _ => callsE P c ∧ callsSs P body
  | _ => True
def callsSs (P : Str → Nat → Sem → Prop) : List Stm → Prop
  | [] => True
  | s :: r => callsS P s ∧ callsSs P r
end

structure SCtx (X : Cx) (N : List Str) (sc : Scope) (P : Str → Nat → Sem → Prop) : Prop extends Ctx X N sc P where
  hp : PassesOwn (model X.prog X.w) X.A X.env X.xe
  st : Stores X sc
  fk : sc.kind = .function

section
variable {X : Cx} {H0 M0 : Hp} {N : List Str} {sc : Scope} {P : Str → Nat → Sem → Prop}
theorem wnt_new {K : PySem.W.Frag} {M H : Hp} {cs : List Addr} {xs : List PV} {Q : VK} (w : Wnt K M cs H (.lst xs) Q) : WntF K M cs H xs Q := fun D H' M' vs x1 hM hH hD hr => by
  refine w (.ref D) H' (upd M' D (.lst vs)) ⟨x1.h, x1.m.trans (.updN (H := H') hM), fun a o ea => ?_, fun a o ea => ?_, fun a zs ea n => ?_, x1.sz⟩ ⟨D, vs, rfl, upd_same, hr.mono (.updN (H := H') hM)⟩
  · by_cases z : a = D
    · subst z; rw [upd_same] at ea; cases ea; exact hD
    · rw [upd_ne z] at ea; exact x1.le a o ea
  · rw [upd_ne (ne_of_none ea hH)]; exact x1.ol a o ea
  · have z : a ≠ D := fun z => by subst z; rw [hD] at ea; cases ea
    rw [upd_ne z]; exact x1.tu a zs ea n
theorem comp_lst {elt : Ex} {tg : Tg} {it : It} {cond : Option Ex} {ρ : Env} {v : PV} (e : evE (.comp elt tg it cond) ρ = .ok v) : ∃ xs, v = .lst xs := by
  simp only [evE] at e
  obtain ⟨xs, _, e⟩ := Rs.bind_eq_ok.mp e
  obtain ⟨ys, _, e⟩ := Rs.bind_eq_ok.mp e
  cases e
  exact ⟨ys, rfl⟩
theorem congrF {x : Expr} {f g : Env → Rs PV} (h : PE X x (tF X.K H0 M0 f)) (e : ∀ ρ, g ρ = f ρ) : PE X x (tF X.K H0 M0 g) := by
  have : g = f := funext e
  rw [this]; exact h
theorem congrAF {s : Stmt} {i : Nat} {f g : Env → Rs PV} (h : PS X s (tAsg (tF X.K H0 M0 f) (gName i))) (e : ∀ ρ, g ρ = f ρ) : PS X s (tAsg (tF X.K H0 M0 g) (gName i)) := by
  have : g = f := funext e
  rw [this]; exact h
theorem congrS {s : Stmt} {f g : Env → Rs Out} (h : PS X s (tS X.K H0 M0 f)) (e : ∀ ρ, g ρ = f ρ) : PS X s (tS X.K H0 M0 g) := by
  have : g = f := funext e
  rw [this]; exact h
theorem congrSs {s : List Stmt} {f g : Env → Rs Out} (h : PSs X s (tS X.K H0 M0 f)) (e : ∀ ρ, g ρ = f ρ) : PSs X s (tS X.K H0 M0 g) := by
  have : g = f := funext e
  rw [this]; exact h
/-- a comprehension, to a name or not -/
theorem sndComp {elt : Ex} {tg : Tg} {it : It} {cond : Option Ex} {x : Expr} (c : Ctx X N sc P) (h : chkE N sc (.comp elt tg it cond) x = true) (k : callsE P (.comp elt tg it cond)) :
    PE X x (tF X.K H0 M0 (evE (.comp elt tg it cond))) ∧
    ∀ {i : Nat} {y : Str} {py spos : Pos}, N[i]? = some y → X.env.scope.names.lookup y = some .local → swapsWith x (some (.Name y py)) spos.line X.env = pure true →
      PS X (.Assign [.Name y py] x spos) (tAsg (tF X.K H0 M0 (evE (.comp elt tg it cond))) (gName i)) := by
  cases x <;> try (simp [chkE] at h; done)
  rename_i y gens scope q
  cases gens <;> try (simp [chkE] at h; done)
  rename_i g gens
  cases gens <;> try (simp [chkE] at h; done)
  obtain ⟨tx, ix, ifs, as⟩ := g
  simp only [chkE, Bool.and_eq_true, decide_eq_true_eq] at h
  simp only [callsE] at k
  obtain ⟨⟨⟨⟨⟨h0, h1⟩, h2⟩, h3⟩, h4⟩, h5⟩ := h
  subst h0
  have L := n_comp (H0 := H0) (M0 := M0) (q := q) c (sndI it X sc tx ix (isTp tx) c h1 k.2.1 rfl) h2 h3 (chkI_head h1) (fc := evC cond) (fe := evE elt)
    (fun X' c' hK => by rw [← hK]; exact sndC cond X' _ ifs c' h4 k.2.2) (fun X' c' hK => by rw [← hK]; exact (sndE elt X' _ _ c' h5 k.1).1)
  refine ⟨congrF L.1 fun ρ => by simp only [evE]; rfl, fun hy hl hs => congrAF (L.2 hy hl hs) fun ρ => by simp only [evE]; rfl⟩
theorem sw_no {x : Expr} {t : Option Expr} {l : Nat} {env : PySem.Env} (h : headOk x = true) (hn : ∀ a b c d, x ≠ .ListComp a b c d) : swapsWith x t l env = pure false := by
  cases x <;> first | rfl | (simp [headOk] at h; done) | exact absurd rfl (hn _ _ _ _)
theorem sndF {e : Ex} {x : Expr} (c : Ctx X N sc P) (h : chkE N sc e x = true) (k : callsE P e) (hf : freshE e = true) : PE X x (tF X.K H0 M0 (evE e)) := by
  cases e <;> try (simp [freshE] at hf; done)
  case comp => exact (sndComp c h k).1
  case lst es =>
    cases x <;> try (simp [chkE] at h; done)
    simp only [chkE, Bool.and_eq_true, decide_eq_true_eq] at h
    simp only [callsE] at k
    exact congrF (n_lst (es_len h.1 h.2) (sndEs es X sc _ c h.1 k)) fun ρ => by simp only [evE]
  case bin op a b =>
    cases x <;> try (simp [chkE] at h; done)
    simp only [chkE, Bool.and_eq_true] at h
    simp only [callsE] at k
    have ha := (sndE (H0 := H0) (M0 := M0) a X sc _ c h.1.2 k.1).1
    have hb := (sndE (H0 := H0) (M0 := M0) b X sc _ c h.2 k.2).1
    have ho := opIs_ok h.1.1
    subst ho
    cases op <;> try (simp [freshE] at hf; done)
    · exact congrF (n_add ha hb) fun ρ => by simp only [evE]
    · exact congrF (n_mul ha hb) fun ρ => by simp only [evE]
  case sl a lo hi =>
    cases x <;> try (simp [chkE] at h; done)
    rename_i y s q
    cases s <;> try (simp [chkE] at h; done)
    rename_i l u st q2
    cases st <;> try (simp [chkE] at h; done)
    simp only [chkE, Bool.and_eq_true] at h
    simp only [callsE] at k
    exact congrF (n_sl (sndE a X sc _ c h.1.1 k.1).1 (sndO lo X sc _ c h.1.2 k.2.1) (sndO hi X sc _ c h.2 k.2.2)) fun ρ => by simp only [evE]
  case bi b es =>
    cases x <;> try (simp [chkE] at h; done)
    rename_i fn xs kws q
    cases fn <;> try (simp [chkE] at h; done)
    rename_i y q2
    match kws, xs, h with
    | _ :: _, _, h => simp [chkE] at h
    | [], [], h => simp [chkE] at h
    | [], x :: xs, h =>
      simp only [chkE, Bool.and_eq_true] at h
      simp only [callsE] at k
      obtain ⟨⟨⟨h1, h2⟩, h3⟩, _⟩ := h
      cases es with
      | nil => simp [chkEs] at h3
      | cons e es =>
        have h4 := h3
        simp only [chkEs, Bool.and_eq_true] at h4
        obtain ⟨rfl, hg, hm, hdb⟩ := blt_of c h2
        cases b <;> try (simp [freshE] at hf; done)
        · exact congrF (n_callTy call_list_of nbi_list hg hm (by decide +kernel) (by decide +kernel) hdb (head_star (chk_head h4.1) _ _) (chks_star h4.2) (sndEs (e :: es) X sc _ c h3 k)) fun ρ => by simp only [evE]
        · exact congrF (n_callB (CallR.or cr_sortedI cr_sortedPO) nbi_sorted hg hm (by decide +kernel) (by decide +kernel) hdb (head_star (chk_head h4.1) _ _) (chks_star h4.2) (sndEs (e :: es) X sc _ c h3 k)) fun ρ => by simp only [evE]
theorem comp_of {e : Ex} {a : Expr} {b : List Comprehension} {s : Scope} {d : Pos} (h : chkE N sc e (.ListComp a b s d) = true) : ∃ elt tg it cond, e = .comp elt tg it cond := by
  cases e <;> first | exact ⟨_, _, _, _, rfl⟩ | simp [chkE] at h
theorem sw_yes {a : Expr} {b : List Comprehension} {s : Scope} {d py : Pos} {y : Str} {l : Nat} (c : SCtx X N sc P) (h : swOk sc y py (.ListComp a b s d) = true) : X.env.scope.names.lookup y = some .local ∧ swapsWith (.ListComp a b s d) (some (.Name y py)) l X.env = pure true := by
  simp only [swOk, Bool.and_eq_true, decide_eq_true_eq, Bool.not_eq_true'] at h
  have hl : X.env.scope.names.lookup y = some .local := by rw [c.hsc]; exact h.1.1
  exact ⟨hl, sw_true (by rw [c.hsc]; exact c.fk) hl h.1.2 h.2⟩
theorem stores_nm {i : Nat} {y : Str} {py : Pos} (c : SCtx X N sc P) (h : tgOk N sc (.nm i) (.Name y py) = true) : N[i]? = some y ∧ Loc X.env.scope y ∧ (X.fn y = true ∨ X.env.scope.names.lookup y = some .local) := by
  simp only [tgOk, Bool.and_eq_true, decide_eq_true_eq] at h
  obtain ⟨a, b⟩ := c.st y (locOk_of h.2)
  exact ⟨h.1, a, b⟩
theorem sndOwn {e : Ex} {i : Nat} {t x : Expr} {p : Pos} (c : SCtx X N sc P) (h : chkE N sc e x = true) (k : callsE P e) (hf : freshE e = true) (ht : tgOk N sc (.nm i) t = true) (hs : stOk sc t x = true) :
    PS X (.Assign [t] x p) (tAsg (tF X.K H0 M0 (evE e)) (gName i)) := by
  cases t <;> try (simp [tgOk] at ht; done)
  rename_i y py
  obtain ⟨h1, h2, h3⟩ := stores_nm c ht
  by_cases q : ∃ a b s d, x = .ListComp a b s d
  · obtain ⟨a, b, s, d, rfl⟩ := q
    obtain ⟨elt, tg, it, cond, rfl⟩ := comp_of h
    obtain ⟨q1, q2⟩ := sw_yes c hs
    exact (sndComp c.toCtx h k).2 h1 q1 q2
  · exact ps_set (by rw [c.hN]; exact c.nd) (by rw [c.hN]; exact h1) h2 (sndF c.toCtx h k hf) (sw_no (chk_head h) fun a b s d z => q ⟨a, b, s, d, z⟩) h3
theorem sndAsg {e : Ex} {tg : Tg} {t x : Expr} {p : Pos} (c : SCtx X N sc P) (h : chkE N sc e x = true) (k : callsE P e) (ht : tgOk N sc tg t = true) (hs : stOk sc t x = true) :
    PS X (.Assign [t] x p) (tAsg (tE X.K H0 M0 (evE e)) (TgR X.K tg)) := by
  cases tg with
  | nm i =>
    cases t <;> try (simp [tgOk] at ht; done)
    rename_i y py
    obtain ⟨h1, h2, h3⟩ := stores_nm c ht
    by_cases q : ∃ a b s d, x = .ListComp a b s d
    · obtain ⟨a, b, s, d, rfl⟩ := q
      obtain ⟨elt, tg, it, cond, rfl⟩ := comp_of h
      obtain ⟨q1, q2⟩ := sw_yes c hs
      refine PS.mono ((sndComp (H0 := H0) (M0 := M0) c.toCtx h k).2 h1 q1 q2) fun D σ H ⟨ρ, M, cs, r, v, e, w⟩ => ?_
      obtain ⟨xs, rfl⟩ := comp_lst e
      exact ⟨ρ, M, cs, r, xs, e, wnt_new w⟩
    · exact ps_set (by rw [c.hN]; exact c.nd) (by rw [c.hN]; exact h1) h2 (sndE e X sc x c.toCtx h k).1 (sw_no (chk_head h) fun a b s d z => q ⟨a, b, s, d, z⟩) h3
  | tp is =>
    have hg := pg_of c.toCtx c.st ht
    cases t <;> try (simp [tgOk] at ht; done)
    exact ps_asg (sndE e X sc x c.toCtx h k).1 hg (by cases x <;> rfl) (by cases x <;> first | rfl | simp [stOk] at hs)
/-- a comprehension of new lists, to a name -/
theorem sndOwn2 {e : Ex} {i : Nat} {t x : Expr} {p : Pos} (c : SCtx X N sc P) (h : chkE N sc e x = true) (k : callsE P e) (hf : fresh2 e = true) (ht : tgOk N sc (.nm i) t = true) (hs : stOk sc t x = true) :
    PS X (.Assign [t] x p) (tAsg (tF2 X.K H0 M0 (evE e)) (gName i)) := by
  cases e <;> try (simp [fresh2] at hf; done)
  rename_i elt tg it cond
  have hf : freshE elt = true := hf
  cases t <;> try (simp [tgOk] at ht; done)
  rename_i y py
  obtain ⟨g1, g2, g3⟩ := stores_nm c ht
  cases x <;> try (simp [chkE] at h; done)
  rename_i ex gens scope q
  cases gens <;> try (simp [chkE] at h; done)
  rename_i g gens
  cases gens <;> try (simp [chkE] at h; done)
  obtain ⟨tx, ix, ifs, as⟩ := g
  obtain ⟨q1, q2⟩ := sw_yes (l := p.line) c hs
  simp only [chkE, Bool.and_eq_true, decide_eq_true_eq] at h
  simp only [callsE] at k
  obtain ⟨⟨⟨⟨⟨h0, h1⟩, h2⟩, h3⟩, h4⟩, h5⟩ := h
  subst h0
  have ok : BlkOk X.N X.env.scope scope (tgOwn N tg) := by rw [c.hN, c.hsc]; exact blkOk_by h2
  have hh := chkI_head h1
  have L := ps_setLc (te := tF X.K H0 M0 (evE elt)) (tt := tT X.K H0 M0 (evC cond)) c.calm (by rw [c.hN]; exact c.nd) (by rw [c.hN]; exact g1) q1 q2 (sndI (H0 := H0) (M0 := M0) it X sc tx ix (isTp tx) c.toCtx h1 k.2.1 rfl) ok (g := TgR X.K tg)
    (fun s H C cl fp => pg_of (c.toCtx.blk s H scope cl C fp) (stores_blk s H scope cl C fp) h3)
    (fun s H C cl fp => sndC cond _ _ ifs (c.toCtx.blk s H scope cl C fp) h4 k.2.2) (fun s H C cl fp => sndF (c.toCtx.blk s H scope cl C fp) h5 k.1 hf) (by intro x; cases ix <;> first | rfl | simp [headOk] at hh)
  rw [tgOwn_idx] at L
  refine PS.mono L fun D σ H ⟨ρ, M, cs, r, ys, zss, e, e3, w⟩ => ?_
  simp only [evE] at e
  obtain ⟨xs, e1, e⟩ := Rs.bind_eq_ok.mp e
  obtain ⟨ys', e2, e⟩ := Rs.bind_eq_ok.mp e
  cases e
  exact lc_ok2 r e1 e2 e3 w
end
end PF

set_option Elab.async false
set_option linter.all false
set_option maxRecDepth 100000
set_option maxHeartbeats 8000000
/-! PFp: the theorem of statements, of defs. -/
namespace PF
open PySem L2

theorem chkEs1 {N : List Str} {sc : Scope} {e : Ex} {xs : List Expr} (h : chkEs N sc [e] xs = true) : ∃ x, xs = [x] ∧ chkE N sc e x = true := by
  match xs, h with
  | [], h => simp [chkEs] at h
  | [x], h => simp only [chkEs, Bool.and_true] at h; exact ⟨x, rfl, h⟩
  | _ :: _ :: _, h => simp [chkEs] at h
theorem chkEs2 {N : List Str} {sc : Scope} {e e2 : Ex} {xs : List Expr} (h : chkEs N sc [e, e2] xs = true) : ∃ x y, xs = [x, y] ∧ chkE N sc e x = true ∧ chkE N sc e2 y = true := by
  match xs, h with
  | [], h => simp [chkEs] at h
  | [_], h => simp [chkEs] at h
  | [x, y], h => simp only [chkEs, Bool.and_true, Bool.and_eq_true] at h; exact ⟨x, y, rfl, h⟩
  | _ :: _ :: _ :: _, h => simp [chkEs] at h
section
variable {X : Cx} {H0 M0 : Hp} {N : List Str} {sc : Scope} {P : Str → Nat → Sem → Prop}
theorem pops {o : Ex} {k : Option Ex} {x : Expr} {b : Expr} {m : Str} {xs : List Expr} (c : SCtx X N sc P) (hx : asCall x = some (b, m, xs)) (hm : m = ("pop" : Str)) (hb : baseOk b = true) (ho : chkE N sc o b = true) (hk : chkEs N sc k.toList xs = true) (k1 : callsE P o) (k2 : callsO P k) :
    PE X x (tPop X.K H0 M0 (evE o) (evOE k)) := by
  obtain ⟨ap, cp, rfl, hl⟩ := asCall_ok hx
  subst hm
  cases k with
  | none =>
    cases xs with
    | cons _ _ => simp [chkEs] at hk
    | nil =>
      have q := pop0 hb hl (sndE (H0 := H0) (M0 := M0) o X sc b c.toCtx ho k1).1
      have e : (fun _ => Rs.ok none) = evOE none := funext fun ρ => by simp only [evOE]
      rw [← e]; exact q
  | some k =>
    obtain ⟨y, rfl, hy⟩ := chkEs1 hk
    have q := pop1 hb (chk_head hy) hl (sndE (H0 := H0) (M0 := M0) o X sc b c.toCtx ho k1).1 (sndE k X sc y c.toCtx hy k2).1
    have e : (fun ρ => (evE k ρ).bind fun v => .ok (some v)) = evOE (some k) := funext fun ρ => by simp only [evOE]
    rw [← e]; exact q
mutual
theorem sndS : ∀ (s : Stm) (st : Stmt), SCtx X N sc P → Le M0 H0 → chkS N sc s st = true → callsS P s → PS X st (tS X.K H0 M0 (evS s))
  | .asg tg e, st, c, l0, h, k => by
    simp only [chkS] at h
    obtain ⟨⟨t, x⟩, h1, h2⟩ := any1 h
    obtain ⟨p, rfl⟩ := asAsg_ok h1
    obtain ⟨h3, h4⟩ := and_ok h2
    obtain ⟨h5, h6⟩ := and_ok h3
    simp only [callsS] at k
    exact congrS (s_asg (sndAsg c h5 k h6 h4)) fun ρ => by simp only [evS]
  | .own i e, st, c, l0, h, k => by
    simp only [chkS] at h
    obtain ⟨⟨t, x⟩, h1, h2⟩ := any1 h
    obtain ⟨p, rfl⟩ := asAsg_ok h1
    obtain ⟨h2, h0⟩ := and_ok h2
    obtain ⟨h3, h4⟩ := and_ok h2
    obtain ⟨h5, h6⟩ := and_ok h3
    simp only [callsS] at k
    exact congrS (s_own (sndOwn c h5 k h0 h6 h4)) fun ρ => by simp only [evS]; try rfl
  | .own2 i e, st, c, l0, h, k => by
    simp only [chkS] at h
    obtain ⟨⟨t, x⟩, h1, h2⟩ := any1 h
    obtain ⟨p, rfl⟩ := asAsg_ok h1
    obtain ⟨h2, h0⟩ := and_ok h2
    obtain ⟨h3, h4⟩ := and_ok h2
    obtain ⟨h5, h6⟩ := and_ok h3
    simp only [callsS] at k
    exact congrS (s_own2 (sndOwn2 c h5 k h0 h6 h4)) fun ρ => by simp only [evS]; try rfl
  | .appO o e, st, c, l0, h, k => by
    simp only [chkS] at h
    obtain ⟨⟨b, m, xs⟩, h1, h2⟩ := any1 h
    obtain ⟨ap, cp, p, rfl, hl⟩ := asMeth_ok h1
    obtain ⟨h2, h0⟩ := and_ok h2
    obtain ⟨h3, h4⟩ := and_ok h2
    obtain ⟨h5, h6⟩ := and_ok h3
    obtain ⟨h7, h8⟩ := and_ok h5
    cases of_decide_eq_true h7
    obtain ⟨x, hx, hy⟩ := chkEs1 h4
    cases hx
    simp only [callsS] at k
    exact congrS (s_appO h8 (chk_head hy) hl (sndE o X sc b c.toCtx h6 k.1).1 (sndF c.toCtx hy k.2 h0)) fun ρ => by simp only [evS]; try rfl
  | .never, st, c, l0, h, k => congrS s_never fun ρ => by simp only [evS]
  | .app o e, st, c, l0, h, k => by
    simp only [chkS] at h
    obtain ⟨⟨b, m, xs⟩, h1, h2⟩ := any1 h
    obtain ⟨ap, cp, p, rfl, hl⟩ := asMeth_ok h1
    obtain ⟨h3, h4⟩ := and_ok h2
    obtain ⟨h5, h6⟩ := and_ok h3
    obtain ⟨h7, h8⟩ := and_ok h5
    cases of_decide_eq_true h7
    obtain ⟨x, hx, hy⟩ := chkEs1 h4
    cases hx
    simp only [callsS] at k
    exact congrS (s_app h8 (chk_head hy) hl (sndE o X sc b c.toCtx h6 k.1).1 (sndE e X sc x c.toCtx hy k.2).1) fun ρ => by simp only [evS]
  | .ext o e, st, c, l0, h, k => by
    simp only [chkS] at h
    obtain ⟨⟨b, m, xs⟩, h1, h2⟩ := any1 h
    obtain ⟨ap, cp, p, rfl, hl⟩ := asMeth_ok h1
    obtain ⟨h3, h4⟩ := and_ok h2
    obtain ⟨h5, h6⟩ := and_ok h3
    obtain ⟨h7, h8⟩ := and_ok h5
    cases of_decide_eq_true h7
    obtain ⟨x, hx, hy⟩ := chkEs1 h4
    cases hx
    simp only [callsS] at k
    exact congrS (s_ext h8 (chk_head hy) hl (sndE o X sc b c.toCtx h6 k.1).1 (sndE e X sc x c.toCtx hy k.2).1) fun ρ => by simp only [evS]
  | .ins o i e, st, c, l0, h, k => by
    simp only [chkS] at h
    obtain ⟨⟨b, m, xs⟩, h1, h2⟩ := any1 h
    obtain ⟨ap, cp, p, rfl, hl⟩ := asMeth_ok h1
    obtain ⟨h3, h4⟩ := and_ok h2
    obtain ⟨h5, h6⟩ := and_ok h3
    obtain ⟨h7, h8⟩ := and_ok h5
    cases of_decide_eq_true h7
    obtain ⟨x, y, hx, hy, hz⟩ := chkEs2 h4
    cases hx
    simp only [callsS] at k
    exact congrS (s_ins h8 (chk_head hy) (chk_head hz) hl (sndE o X sc b c.toCtx h6 k.1).1 (sndE i X sc x c.toCtx hy k.2.1).1 (sndE e X sc y c.toCtx hz k.2.2).1) fun ρ => by simp only [evS]; try rfl
  | .pop none o i, st, c, l0, h, k => by
    simp only [chkS] at h
    obtain ⟨⟨b, m, xs⟩, h1, h2⟩ := any1 h
    obtain ⟨h3, h4⟩ := and_ok h2
    obtain ⟨h5, h6⟩ := and_ok h3
    obtain ⟨h7, h8⟩ := and_ok h5
    obtain ⟨ap, cp, p, rfl, hl⟩ := asMeth_ok h1
    simp only [callsS] at k
    have h1 : asCall (.Call (.Attribute b m ap) xs [] cp) = some (b, m, xs) := h1
    have q := pops (H0 := H0) (M0 := M0) c h1 (of_decide_eq_true h7) h8 h6 h4 k.1 k.2
    exact congrS (s_pop (tg := none) (ps_expr q)) fun ρ => by simp only [evS]
  | .pop (some tg) o i, st, c, l0, h, k => by
    simp only [chkS] at h
    obtain ⟨⟨t, x⟩, h1, h2⟩ := any1 h
    obtain ⟨p, rfl⟩ := asAsg_ok h1
    obtain ⟨ht, h⟩ := and_ok h2
    obtain ⟨⟨b, m, xs⟩, h1, h2⟩ := any1 h
    obtain ⟨h3, h4⟩ := and_ok h2
    obtain ⟨h5, h6⟩ := and_ok h3
    obtain ⟨h7, h8⟩ := and_ok h5
    simp only [callsS] at k
    have q := pops (H0 := H0) (M0 := M0) c h1 (of_decide_eq_true h7) h8 h6 h4 k.1 k.2
    obtain ⟨ap, cp, rfl, hl⟩ := asCall_ok h1
    have hg := pg_of c.toCtx c.st ht
    refine congrS (s_pop (tg := some tg) (fo := evE o) (fk := evOE i) (st := .Assign [t] _ p) ?_) fun ρ => by simp only [evS]
    cases tg with
    | nm j =>
      cases t <;> try (simp [tgOk] at ht; done)
      exact ps_asg q hg rfl rfl
    | tp is =>
      cases t <;> try (simp [tgOk] at ht; done)
      exact ps_asg q hg rfl rfl
  | .appPop y o i, st, c, l0, h, k => by
    simp only [chkS] at h
    obtain ⟨⟨b, m, xs⟩, h1, h2⟩ := any1 h
    obtain ⟨ap, cp, p, rfl, hl⟩ := asMeth_ok h1
    obtain ⟨h3, h4⟩ := and_ok h2
    obtain ⟨h5, h6⟩ := and_ok h3
    obtain ⟨h7, h8⟩ := and_ok h5
    cases of_decide_eq_true h7
    match xs, h4 with
    | [], h4 => cases h4
    | _ :: _ :: _, h4 => cases h4
    | [x], h4 =>
      obtain ⟨⟨b2, m2, ys⟩, g1, g2⟩ := any1 h4
      obtain ⟨g3, g4⟩ := and_ok g2
      obtain ⟨g5, g6⟩ := and_ok g3
      obtain ⟨g7, g8⟩ := and_ok g5
      simp only [callsS] at k
      have q := pops (H0 := H0) (M0 := M0) (k := some i) c g1 (of_decide_eq_true g7) g8 g6 g4 k.2.1 (by simp only [callsO]; exact k.2.2)
      obtain ⟨ap2, cp2, rfl, hl2⟩ := asCall_ok g1
      obtain ⟨x2, hx, hy⟩ := chkEs1 g4
      cases hx
      cases of_decide_eq_true g7
      have e : evOE (some i) = (fun ρ => (evE i ρ).bind fun v => .ok (some v)) := funext fun ρ => by simp only [evOE]
      rw [e] at q
      exact congrS (s_appPop h8 hl (sndE y X sc b c.toCtx h6 k.1).1 q) fun ρ => by simp only [evS]
  | .setIt o i e, st, c, l0, h, k => by
    simp only [chkS] at h
    obtain ⟨⟨t, x⟩, h1, h2⟩ := any1 h
    obtain ⟨p, rfl⟩ := asAsg_ok h1
    obtain ⟨h3, h4⟩ := and_ok h2
    obtain ⟨⟨b, y⟩, h5, h6⟩ := any1 h4
    obtain ⟨p2, rfl⟩ := asSub_ok h5
    obtain ⟨h7, h8⟩ := and_ok h6
    simp only [callsS] at k
    exact congrS (s_setIt (chk_head h8) (sndE o X sc b c.toCtx h7 k.1).1 (sndE i X sc y c.toCtx h8 k.2.1).1 (sndE e X sc x c.toCtx h3 k.2.2).1) fun ρ => by simp only [evS]; try rfl
  | .ret e, st, c, l0, h, k => by
    simp only [chkS] at h
    obtain ⟨x, h1, h2⟩ := any1 h
    obtain ⟨p, rfl⟩ := asRet_ok h1
    simp only [callsS] at k
    exact congrS (s_ret l0 (sndE e X sc x c.toCtx h2 k).1) fun ρ => by simp only [evS]
  | .ite t a b, st, c, l0, h, k => by
    simp only [chkS] at h
    obtain ⟨⟨x, xa, xb⟩, h1, h2⟩ := any1 h
    obtain ⟨p, rfl⟩ := asIf_ok h1
    obtain ⟨h3, h4⟩ := and_ok h2
    obtain ⟨h5, h6⟩ := and_ok h3
    simp only [callsS] at k
    refine congrS (s_if (sndE t X sc x c.toCtx h5 k.1).2 (sndSs a xa c l0 h6 k.2.1) (sndSs b xb c l0 h4 k.2.2)) fun ρ => ?_
    simp only [evS]
    cases evE t ρ with
    | ok v => cases v <;> rfl
    | err _ _ => rfl
    | bad => rfl
  | .for tg it body dead, st, c, l0, h, k => by
    simp only [chkS] at h
    obtain ⟨⟨tx, ix, xb⟩, h1, h2⟩ := any1 h
    obtain ⟨p, rfl⟩ := asFor_ok h1
    obtain ⟨h3, h4⟩ := and_ok h2
    obtain ⟨h5, h6⟩ := and_ok h3
    simp only [callsS] at k
    exact congrS (s_for (dead := dead) c.hp c.calm (sndI it X sc tx ix (isTp tx) c.toCtx h6 k.1 rfl) (pg_of c.toCtx c.st h5) (sndSs body xb c l0 h4 k.2) (chkI_head h6)) fun ρ => by simp only [evS]
  | .wh t body dead, st, c, l0, h, k => by
    simp only [chkS] at h
    obtain ⟨⟨x, xb⟩, h1, h2⟩ := any1 h
    obtain ⟨p, rfl⟩ := asWh_ok h1
    obtain ⟨h3, h4⟩ := and_ok h2
    simp only [callsS] at k
    exact congrS (s_wh (dead := dead) c.hp (sndE t X sc x c.toCtx h3 k.1).2 (sndSs body xb c l0 h4 k.2)) fun ρ => by simp only [evS]
  | .brk, st, c, l0, h, k => by
    simp only [chkS] at h
    cases st <;> try (cases h; done)
    exact congrS s_break fun ρ => by simp only [evS]
  | .cont, st, c, l0, h, k => by
    simp only [chkS] at h
    cases st <;> try (cases h; done)
    exact congrS s_cont fun ρ => by simp only [evS]
  | .pass, st, c, l0, h, k => by
    simp only [chkS] at h
    cases st <;> try (cases h; done)
    exact congrS s_pass fun ρ => by simp only [evS]
  | .kill _, st, c, l0, h, k => by
    simp only [chkS] at h
    cases h
termination_by s => sizeOf s
theorem sndSs : ∀ (s : List Stm) (st : List Stmt), SCtx X N sc P → Le M0 H0 → chkSs N sc s st = true → callsSs P s → PSs X st (tS X.K H0 M0 (evSs s))
  | [], st, c, l0, h, k => by
    simp only [chkSs, List.isEmpty_iff] at h
    subst h
    exact congrSs s_nil fun ρ => by simp only [evSs]
  | s :: r, st, c, l0, h, k => by
    simp only [chkSs] at h
    simp only [callsSs] at k
    by_cases q : isKill s = true
    · rw [if_pos q] at h
      have ih := sndSs r st c l0 h k.2
      cases s <;> try (cases q; done)
      rename_i is
      exact congrSs (s_kill (is := is) ih) fun ρ => by simp only [evSs, evS, Rs.bind_ok]
    · rw [if_neg q] at h
      cases st with
      | nil => cases h
      | cons x st =>
        obtain ⟨h1, h2⟩ := and_ok h
        exact congrSs (s_seq (sndS s x c l0 h1 k.1) (sndSs r st c l0 h2 k.2)) fun ρ => by simp only [evSs]; try rfl
termination_by s => sizeOf s
end
end
end PF

set_option Elab.async false
set_option linter.all false
set_option maxRecDepth 100000
set_option maxHeartbeats 8000000
/-! PFq: the theorem of defs, of the law. -/
namespace PF
open PySem L2

section
variable {P : Program} {w : World} {K : PySem.W.Frag}
variable {mg : Str → Option Value} {base : Heap}
/-- the def x of n parameters, so deep, computes f -/
def Known (P : Program) (w : World) (K : PySem.W.Frag) (mg : Str → Option Value) (base : Heap) (k : Nat) (x : Str) (n : Nat) (f : Sem) : Prop :=
  ∃ (fa : Addr) (fd : FuncData) (ps : List Str), FnOk P w K mg base (L2.CX P w) k fa fd ps (SpOf K n f) ∧ mg x = some (.ref fa) ∧ PySem.W.keepIn K (.ref fa) = true ∧ Binds K fd ps []
def KnownTo (P : Program) (w : World) (K : PySem.W.Frag) (mg : Str → Option Value) (base : Heap) (k : Nat) (x : Str) (n : Nat) (f : Sem) : Prop := ∃ j, j ≤ k ∧ Known P w K mg base j x n f
theorem Known.to {j k n : Nat} {x : Str} {f : Sem} (h : Known P w K mg base j x n f) (l : j ≤ k) : KnownTo P w K mg base k x n f := ⟨j, l, h⟩

theorem R.start {H M : Hp} {N : List Str} {vs : List V} {pvs : List PV} (l : Le M H) (tu : ∀ a xs, H a = some (.tup xs) → M a = some (.tup xs)) (sz : SzOk H) (hr : Reps K M [] pvs vs) (hl : vs.length ≤ N.length) :
    R K H M (start N vs) H ⟨pvs.map some ++ List.replicate (N.length - pvs.length) none, [], []⟩ M [] where
  le := l
  out := .refl _
  old := fun _ _ _ => rfl
  tu := tu
  sz := sz
  len := by
    have := hr.length
    simp [L2.start]
    omega
  sl := fun i v e => by
    have e : (pvs.map some ++ List.replicate (N.length - pvs.length) none)[i]? = some (some v) := e
    have hlen := hr.length
    by_cases q : i < pvs.length
    · rw [List.getElem?_append_left (by simpa using q), List.getElem?_map] at e
      cases z : pvs[i]? with
      | none => rw [z] at e; cases e
      | some u =>
        rw [z] at e
        cases e
        obtain ⟨w, h1, h2⟩ := hr.get z
        refine ⟨w, ?_, h2⟩
        unfold L2.start
        rw [List.getElem?_append_left (by simpa [hlen] using q), List.getElem?_map, h1]
        rfl
    · rw [List.getElem?_append_right (by simpa using q)] at e
      have := List.mem_of_getElem? e
      rw [List.mem_replicate] at this
      cases this.2
  ce := fun n c e => by simp at e
  nd := fun n m a c c' h => by simp at h
  ln := rfl

/-- are the names of a def as they must be? -/
def scopeOk (N ps : List Str) (sc : Scope) : Bool :=
  decide (sc.kind = .function) && (!sc.isCoroutine && (!sc.isGenerator && (decide N.Nodup && (decide (N.take ps.length = ps) && (ps.all (fun x => locOk sc x) && sc.names.all (fun y => !decide (y.2 = .free)))))))
theorem scopeOk_of {N ps : List Str} {sc : Scope} (h : scopeOk N ps sc = true) : FnScope N ps sc := by
  simp only [scopeOk, Bool.and_eq_true, Bool.not_eq_true', decide_eq_true_eq, List.all_eq_true, decide_eq_false_iff_not] at h
  exact ⟨h.1, h.2.1, h.2.2.1, h.2.2.2.1, h.2.2.2.2.1, fun x hx => locOk_of (h.2.2.2.2.2.1 x hx), h.2.2.2.2.2.2⟩
theorem def_fn {x : Str} {st : Stmt} {f : Addr} {fd : FuncData} {N ps : List Str} {k np : Nat} {body : List Stm} (F : Fun K x x st f fd) (hbl : ∀ x ∈ bltNames, mg x = none)
    (S : scopeOk N ps (defScope st) = true) (hps : ps.length = np) (hN : np ≤ N.length)
    (hchk : chkSs N (defScope st) body (defBody st) = true) (hcalls : callsSs (KnownTo P w K mg base k) body) : FnOk P w K mg base (L2.CX P w) (k + 1) f fd ps (SpOf K np (semOf np N.length body)) := by
  have S := scopeOk_of S
  refine F.okX S (fun vs H Q E h => by rw [hps]; exact h.1) fun cdv A outer s H vs Q E hr h => ?_
  obtain ⟨hl, hz, M, pvs, r, l, tu, hrep, hf, q⟩ := h
  refine ⟨tS K H M (evSs body), PSs.nox ?_, ?_⟩
  · refine sndSs (X := (cxOf (L2.CX P w) P w K mg base N x (defScope st) f cdv A outer s H E).nox) (P := KnownTo P w K mg base k) body (defBody st) ⟨⟨rfl, S.nd, rfl, rfl, ?_, hbl, fun y n g ⟨j, hj, fa, fd2, ps2, g1, g2, g3, g4⟩ => ?_⟩, PassesOwn.never, fun y hy => ?_, S.kind⟩ l hchk hcalls
    · have := hr.un
      show (A.deeper _).units + 65 < cLine
      omega
    · exact ⟨j, fa, fd2, ps2, g1, hr.mono hj, g2, g3, g4⟩
    · exact ⟨hy, .inl rfl⟩
  · have hpl := hrep.length
    have hn : pvs.length = np := by rw [← hpl]; exact hl
    unfold semOf at hf
    rw [if_pos hn] at hf
    obtain ⟨o, e1, e2⟩ := Rs.bind_eq_ok.mp hf
    refine ⟨⟨pvs.map some ++ List.replicate (N.length - np) none, [], []⟩, M, [], ?_, o, e1, ?_⟩
    · have := R.start (N := N) l tu hz hrep (by rw [hl]; exact hN)
      rw [hn] at this
      exact this
    · cases o with
      | rt v => cases e2; exact q
      | nx ρ' =>
        cases e2
        exact fun σ' H' M' cs' R' kk => q .non H' M' ⟨R'.out, kk.m, R'.le, R'.old, fun a xs e _ => R'.tu a xs e, fun _ => R'.sz⟩ rfl
      | bk ρ' => cases e2
      | ct ρ' => cases e2

/-- a def of the text, as it lies in the heap -/
def DefIn (K : PySem.W.Frag) (x : Str) (st : Stmt) (ps : List Str) : Prop := ∃ (f : Addr) (fd : FuncData), PySem.W.nsIn K mainGlobals x = some (some (.ref f)) ∧ Fun K x x st f fd ∧ ∀ us : List Value, us.length = ps.length → bindArgs fd ⟨us, []⟩ = pure (ps.zip us)
theorem defIn {x : Str} {st : Stmt} {ps : List Str} {f : Addr} {oc : Value} {od an : Option Addr} {osl : Array (Option Value)} {kV doc pm cdv ct : Value}
    (hb : ∀ (kV doc pm : Value) (an : Option Addr) (cdv ct : Value) (us : List Value), us.length = ps.length → bindArgs (PySem.W.fnOf x x (defArgs st) (defBody st) (defScope st) .none kV doc pm an cdv ct) ⟨us, []⟩ = pure (ps.zip us))
    (a : PySem.W.nsIn K mainGlobals x = some (some (.ref f))) (l : K.lookup f = some ⟨oc, od, .func (PySem.W.fnOf x x (defArgs st) (defBody st) (defScope st) .none kV doc pm an cdv ct), osl⟩)
    (c : PySem.W.codeIn K cdv x = true) (k : PySem.W.keepIn K (.ref f) = true) : DefIn K x st ps :=
  ⟨f, _, a, fun_mk l c k, hb kV doc pm an cdv ct⟩
theorem known_of {h : Heap} {x : Str} {st : Stmt} {N ps : List Str} {k np : Nat} {body : List Stm} (D : DefIn K x st ps) (X : K.In h) (G : h.Ns mainGlobals mg) (hbl : ∀ x ∈ bltNames, mg x = none)
    (S : scopeOk N ps (defScope st) = true) (hps : ps.length = np) (hN : np ≤ N.length) (hchk : chkSs N (defScope st) body (defBody st) = true) (hcalls : callsSs (KnownTo P w K mg base k) body) : Known P w K mg base (k + 1) x np (semOf np N.length body) := by
  obtain ⟨f, fd, a, F, hb⟩ := D
  exact ⟨f, fd, ps, def_fn F hbl S hps hN hchk hcalls, PySem.W.mg_of X G a, F.kp, .all hb⟩
/-- the law's own def, asked with a script -/
theorem law_ask {H : Hp} {a : Addr} {ns : List Int} {f : Sem} (hO : Only H) (hS : SqL K H a (ns.map V.int)) (hl : ns.length ≤ sizeLine) (hf : f [.scr ns] = .ok (.bl true)) : SpOf K 1 f [.ref a] H (fun v _ => v = .bl true) fun _ _ _ => False := by
  refine ⟨rfl, fun b o e => ?_, H, [.scr ns], .bl true, .refl _, fun _ _ e => e, ⟨_, [], rfl, ⟨a, rfl, hS, hl⟩, rfl⟩, hf, fun w H' M' _ h => h⟩
  rcases hO b with h | ⟨o', xs, h⟩
  · rw [h] at e; cases e
  · rw [h] at e; cases e; trivial
theorem CX_none {CX : L2.CXT} {H : Hp} {s s' : Shared} {e : Value} (h : L2.CX P w [] H s (fun _ _ _ => False) e s') : False := by
  (obtain ⟨_, _, _, _, _, _, _, _, _, _, _, _, z⟩ := h)
  exact z
/-- what is wanted of the law's def -/
theorem law_fn {h : Heap} {l : PySem.W.OpenLaw} {st : Stmt} {N : List Str} {x : Str} {k : Nat} {body : List Stm} {fa : Addr} (D : DefIn K "law" st [x]) (X : K.In h) (G : h.Ns mainGlobals mg) (hfa : mg "law" = some (.ref fa))
    (hbl : ∀ (mg : Str → Option Value) (base : Heap), base.Ns mainGlobals mg → K.In base → ∀ x ∈ bltNames, mg x = none) (S : scopeOk N [x] (defScope st) = true) (hN : 1 ≤ N.length)
    (hchk : chkSs N (defScope st) body (defBody st) = true) (hcalls : ∀ base : Heap, K.In base → base.Ns mainGlobals mg → callsSs (KnownTo l.prog w K mg base k) body) :
    ∃ fd : FuncData, (∀ (s : Shared) (u : Value), BindsTo s fd ⟨[u], []⟩ [(x, u)]) ∧ ∀ base : Heap, K.In base → base.Ns mainGlobals mg → FnOk l.prog w K mg base (L2.CX l.prog w) (k + 1) fa fd [x] (SpOf K 1 (semOf 1 N.length body)) := by
  obtain ⟨f, fd, a, F, hb⟩ := D
  have e := hfa.symm.trans (PySem.W.mg_of X G a)
  cases e
  refine ⟨fd, fun s u => .of_eq (hb [u] rfl), fun base h1 h2 => def_fn F (hbl mg base h2 h1) S rfl hN hchk (hcalls base h1 h2)⟩
theorem law_walk {l : PySem.W.OpenLaw} {q : Program} {loose : List Str} {XP : (Str → Option Value) → Heap → Prop} {YP : World → Heap → Prop} {d : DefRec} {K : Params → PySem.W.Frag} {k : Nat} {x : Str} {f : Sem}
    (hn : l.most = some 63) (hdf : d.params.defaults = []) (hr : Room k callerA) (hY : ∀ (w : World) (h : Heap), YP w h → (K w.params).In h)
    (F : ∀ (w : World) (m : Str → Option Value) (fa : Addr) (h : Heap), (K w.params).In h → h.Ns mainGlobals m → m d.name = some (.ref fa) →
      ∃ fd : FuncData, (∀ (s : Shared) (u : Value), BindsTo s fd ⟨[u], []⟩ [(x, u)]) ∧ ∀ base : Heap, (K w.params).In base → base.Ns mainGlobals m → FnOk l.prog w (K w.params) m base (L2.CX l.prog w) k fa fd [x] (SpOf (K w.params) 1 f))
    (hf : ∀ ns : List Int, ns.length ≤ 63 → f [.scr ns] = .ok (.bl true)) : PySem.W.WalkO q loose XP YP l.row.toRowW d [] (fun f vs => PySem.call f vs) :=
  L2.walk_of (n := 63) (k := k) (x := x) (CX := fun w => L2.CX l.prog w) (sp := fun w => SpOf (K w.params) 1 f) hn (by decide) hdf hr hY F
    (fun w H a ns hl hO hS => law_ask hO hS (Nat.le_trans hl (by decide)) (hf ns hl)) fun w H s e s' z => CX_none (CX := fun _ _ _ _ _ _ => True) z
end
end PF

set_option Elab.async false
set_option linter.all false
set_option maxRecDepth 100000
set_option maxHeartbeats 8000000
/-! PFu: plain rules for what a text computes. -/
namespace PF
open PySem

/-! ### equations -/
section
variable (ρ : Env)
@[simp] theorem ev_var (i : Nat) : evE (.var i) ρ = Rs.of (ρ.sl[i]?).join := by simp only [evE]
@[simp] theorem ev_cst (v : PV) : evE (.cst v) ρ = .ok v := by simp only [evE]
@[simp] theorem ev_tup (es : List Ex) : evE (.tup es) ρ = (evEs es ρ).bind fun vs => .ok (.tup vs) := by simp only [evE]
@[simp] theorem ev_lst (es : List Ex) : evE (.lst es) ρ = (evEs es ρ).bind fun vs => .ok (.lst vs) := by simp only [evE]
@[simp] theorem ev_bin (op : BOp) (a b : Ex) : evE (.bin op a b) ρ = (evE a ρ).bind fun x => (evE b ρ).bind fun y => binO ρ op x y := by simp only [evE]
@[simp] theorem ev_neg (a : Ex) : evE (.neg a) ρ = (evE a ρ).bind negO := by simp only [evE]
@[simp] theorem ev_nt (a : Ex) : evE (.nt a) ρ = (evE a ρ).bind fun x => (boolOf x).bind fun b => .ok (.bl (!b)) := by simp only [evE]
@[simp] theorem ev_cmp (op : COp) (a b : Ex) : evE (.cmp op a b) ρ = (evE a ρ).bind fun x => (evE b ρ).bind fun y => (cmpO ρ op x y).bind fun c => .ok (.bl c) := by simp only [evE]
@[simp] theorem ev_cmp2 (op op2 : COp) (a b c : Ex) : evE (.cmp2 op op2 a b c) ρ = (evE a ρ).bind fun x => (evE b ρ).bind fun y => (cmpO ρ op x y).bind fun k =>
      if k then (evE c ρ).bind fun z => (cmpO ρ op2 y z).bind fun c => .ok (.bl c) else .ok (.bl false) := by simp only [evE]
@[simp] theorem ev_and (es : List Ex) : evE (.and es) ρ = evAnd es ρ := by simp only [evE]
@[simp] theorem ev_or (es : List Ex) : evE (.or es) ρ = evOr es ρ := by simp only [evE]
@[simp] theorem ev_ite (c a b : Ex) : evE (.ite c a b) ρ = (evE c ρ).bind fun x => (boolOf x).bind fun k => if k then evE a ρ else evE b ρ := by simp only [evE]
@[simp] theorem ev_ix (a i : Ex) : evE (.ix a i) ρ = (evE a ρ).bind fun x => (evE i ρ).bind fun y => ixO ρ x y := by simp only [evE]
@[simp] theorem ev_sl (a : Ex) (lo hi : Option Ex) : evE (.sl a lo hi) ρ = (evE a ρ).bind fun x => (evO lo ρ).bind fun l => (evO hi ρ).bind fun h => slO ρ x l h := by simp only [evE]
@[simp] theorem ev_sl3 (a : Ex) (lo hi : Option Ex) (st : Ex) : evE (.sl3 a lo hi st) ρ = (evE a ρ).bind fun x => (evO lo ρ).bind fun l => (evO hi ρ).bind fun h => (evE st ρ).bind fun s => (intOf s).bind fun s => sl3O ρ x l h s := by simp only [evE]
@[simp] theorem ev_call (x : Str) (f : Sem) (es : List Ex) : evE (.call x f es) ρ = (evEs es ρ).bind fun vs => (frzs ρ vs).bind fun ws => (f ws).bind fun r => if pures? vs || flat? r then .ok r else .bad := by simp only [evE]
@[simp] theorem ev_bi (b : BI) (es : List Ex) : evE (.bi b es) ρ = (evEs es ρ).bind fun vs => biO ρ b vs := by simp only [evE]
@[simp] theorem ev_isi (a : Ex) (t : TyN) : evE (.isi a t) ρ = (evE a ρ).bind fun x => (frz ρ x).bind fun x => (isiO x t).bind fun c => .ok (.bl c) := by simp only [evE]
@[simp] theorem evEs_nil : evEs [] ρ = .ok [] := by simp only [evEs]
@[simp] theorem evEs_cons (e : Ex) (es : List Ex) : evEs (e :: es) ρ = (evE e ρ).bind fun v => (evEs es ρ).bind fun vs => .ok (v :: vs) := by simp only [evEs]
@[simp] theorem evAnd_one (e : Ex) : evAnd [e] ρ = evE e ρ := by simp only [evAnd]
@[simp] theorem evAnd_cons (e e2 : Ex) (es : List Ex) : evAnd (e :: e2 :: es) ρ = (evE e ρ).bind fun x => (boolOf x).bind fun k => if k then evAnd (e2 :: es) ρ else .ok (.bl false) := by simp only [evAnd]
@[simp] theorem evOr_one (e : Ex) : evOr [e] ρ = evE e ρ := by simp only [evOr]
@[simp] theorem evOr_cons (e e2 : Ex) (es : List Ex) : evOr (e :: e2 :: es) ρ = (evE e ρ).bind fun x => (boolOf x).bind fun k => if k then .ok (.bl true) else evOr (e2 :: es) ρ := by simp only [evOr]
@[simp] theorem evO_none : evO none ρ = .ok none := by simp only [evO]
@[simp] theorem evO_some (e : Ex) : evO (some e) ρ = (evE e ρ).bind partO := by simp only [evO]
@[simp] theorem evC_none : evC none ρ = .ok true := by simp only [evC]
@[simp] theorem evC_some (e : Ex) : evC (some e) ρ = (evE e ρ).bind boolOf := by simp only [evC]
@[simp] theorem evI_seq (e : Ex) : evIt (.seq e) ρ = (evE e ρ).bind (walkO ρ) := by simp only [evIt]
@[simp] theorem evI_rng (e : Ex) : evIt (.rng e) ρ = (evE e ρ).bind rngO := by simp only [evIt]
@[simp] theorem evI_rng2 (a b : Ex) : evIt (.rng2 a b) ρ = (evE a ρ).bind fun x => (evE b ρ).bind fun y => rng2O x y := by simp only [evIt]
@[simp] theorem evI_rlen (e : Ex) : evIt (.rlen e) ρ = (evE e ρ).bind fun x => (seqOf ρ x).bind fun xs => .ok (rngL 0 xs.length) := by simp only [evIt]
@[simp] theorem evI_enum (e : Ex) : evIt (.enum e) ρ = (evE e ρ).bind fun x => (seqOf ρ x).bind fun xs => .ok (enumL 0 xs) := by simp only [evIt]
@[simp] theorem evI_zip (a b : Ex) : evIt (.zip a b) ρ = (evE a ρ).bind fun x => (evE b ρ).bind fun y => zipO ρ x y := by simp only [evIt]
@[simp] theorem evI_rev (e : Ex) : evIt (.rev e) ρ = (evE e ρ).bind fun x => (seqOf ρ x).bind fun xs => .ok xs.reverse := by simp only [evIt]
@[simp] theorem es_asg (tg : Tg) (e : Ex) : evS (.asg tg e) ρ = (evE e ρ).bind fun v => (setTg tg v ρ).bind fun ρ' => .ok (.nx ρ') := by simp only [evS]
@[simp] theorem es_own (i : Nat) (e : Ex) : evS (.own i e) ρ = (evE e ρ).bind fun v => match v with
    | .lst xs => .ok (.nx { ρ with sl := ρ.sl.set i (some (.cell ρ.ce.length)), ce := ρ.ce ++ [some (.lst xs)] })
    | _ => .bad := by simp only [evS]; try rfl
@[simp] theorem es_own2 (i : Nat) (e : Ex) : evS (.own2 i e) ρ = (evE e ρ).bind fun v => match v with
    | .lst ys => (Rs.of (lstsOf ys)).bind fun zss => .ok (.nx { ρ with sl := ρ.sl.set i (some (.cell (ρ.ce.length + zss.length))), ce := ρ.ce ++ zss.map (fun zs => some (.lst zs)) ++ [some (.lst ((List.range zss.length).map fun k => .cell (ρ.ce.length + k)))] })
    | _ => .bad := by simp only [evS]; try rfl
@[simp] theorem es_app (o e : Ex) : evS (.app o e) ρ = (evE o ρ).bind fun r => (evE e ρ).bind fun v => (refOf ρ r).bind fun p => if p.2.length < sizeMax then .ok (.nx (putC p.1 (p.2 ++ [v]) ρ)) else .bad := by simp only [evS]
@[simp] theorem es_ext (o e : Ex) : evS (.ext o e) ρ = (evE o ρ).bind fun r => (evE e ρ).bind fun v => (refOf ρ r).bind fun p => (extOf ρ v).bind fun ys => if p.2.length + ys.length ≤ sizeMax then .ok (.nx (putC p.1 (p.2 ++ ys) ρ)) else .bad := by simp only [evS]
@[simp] theorem es_pop (tg : Option Tg) (o : Ex) (k : Option Ex) : evS (.pop tg o k) ρ = (evE o ρ).bind fun r => (evOE k ρ).bind fun i => (refOf ρ r).bind fun p => (popIx p.2.length i).bind fun j => (Rs.of p.2[j]?).bind fun v => (setO tg v (putC p.1 (p.2.eraseIdx j) ρ)).bind fun ρ' => .ok (.nx ρ') := by simp only [evS]
@[simp] theorem es_appPop (y o k : Ex) : evS (.appPop y o k) ρ = (evE y ρ).bind fun q => (evE o ρ).bind fun r => (evE k ρ).bind fun i => (refOf ρ r).bind fun p => (popIx p.2.length (some i)).bind fun j => (Rs.of p.2[j]?).bind fun v =>
      (refOf (putC p.1 (p.2.eraseIdx j) ρ) q).bind fun z => if z.2.length < sizeMax then .ok (.nx (putC z.1 (z.2 ++ [v]) (putC p.1 (p.2.eraseIdx j) ρ))) else .bad := by simp only [evS]
@[simp] theorem es_setIt (o k e : Ex) : evS (.setIt o k e) ρ = (evE e ρ).bind fun v => (evE o ρ).bind fun r => (evE k ρ).bind fun i => (refOf ρ r).bind fun p => match i with
    | .int i => (Rs.of (ixOf p.2.length i)).bind fun j => .ok (.nx (putC p.1 (p.2.set j v) ρ))
    | _ => .bad := by simp only [evS]; try rfl
@[simp] theorem es_ret (e : Ex) : evS (.ret e) ρ = (evE e ρ).bind fun v => (frz ρ v).bind fun v => .ok (.rt v) := by simp only [evS]
@[simp] theorem es_ite (c : Ex) (a b : List Stm) : evS (.ite c a b) ρ = (evE c ρ).bind fun x => (boolOf x).bind fun k => if k then evSs a ρ else evSs b ρ := by simp only [evS]
@[simp] theorem es_brk : evS .brk ρ = .ok (.bk ρ) := by simp only [evS]
@[simp] theorem es_cont : evS .cont ρ = .ok (.ct ρ) := by simp only [evS]
@[simp] theorem es_pass : evS .pass ρ = .ok (.nx ρ) := by simp only [evS]
@[simp] theorem ess_nil : evSs [] ρ = .ok (.nx ρ) := by simp only [evSs]
/-- what comes behind a statement -/
def goOn (o : Out) (f : Env → Rs Out) : Rs Out := match o with
  | .nx ρ => f ρ
  | o => .ok o
@[simp] theorem goOn_nx (f : Env → Rs Out) : goOn (.nx ρ) f = f ρ := rfl
@[simp] theorem goOn_bk (f : Env → Rs Out) : goOn (.bk ρ) f = .ok (.bk ρ) := rfl
@[simp] theorem goOn_ct (f : Env → Rs Out) : goOn (.ct ρ) f = .ok (.ct ρ) := rfl
@[simp] theorem goOn_rt (v : PV) (f : Env → Rs Out) : goOn (.rt v) f = .ok (.rt v) := rfl
@[simp] theorem ess_cons (s : Stm) (ss : List Stm) : evSs (s :: ss) ρ = (evS s ρ).bind fun o => goOn o (evSs ss) := by
  simp only [evSs]
  rfl

/-! ### values -/
@[simp] theorem boolOf_bl (b : Bool) : boolOf (.bl b) = .ok b := rfl
@[simp] theorem add_int (i j : Int) : binO ρ .add (.int i) (.int j) = .ok (.int (i + j)) := rfl
@[simp] theorem sub_int (i j : Int) : binO ρ .sub (.int i) (.int j) = .ok (.int (i - j)) := rfl
theorem mul_if (i j : Int) : binO ρ .mul (.int i) (.int j) = if mulOk i j then .ok (.int (i * j)) else .bad := rfl
@[simp] theorem mul_l (i j : Int) (h : i.natAbs < 18446744073709551616) : binO ρ .mul (.int i) (.int j) = .ok (.int (i * j)) := by
  rw [mul_if, if_pos]
  exact decide_eq_true (p := MulP i j) (.inl h)
@[simp] theorem mul_r (i j : Int) (h : j.natAbs < 18446744073709551616) : binO ρ .mul (.int i) (.int j) = .ok (.int (i * j)) := by
  rw [mul_if, if_pos]
  exact decide_eq_true (p := MulP i j) (.inr (.inl h))
@[simp] theorem mod_int (i j : Int) (h : 0 < j) : binO ρ .mod (.int i) (.int j) = .ok (.int (i % j)) := by
  show (if 0 < j then _ else _) = _
  rw [if_pos h]
theorem fdiv_if (i j : Int) : binO ρ .fdiv (.int i) (.int j) = if DivOk j then .ok (.int (i / j)) else .bad := rfl
/-- a bound that every divisor keeps -/
def bigI : Int := 2 ^ 250
theorem bigI_le : bigI ≤ 2 ^ 8000 := by decide +kernel
@[simp] theorem lt_bigI (j : Int) (h : j ≤ 1000000000000000000000000000000000000000000000000000000000000000000000) : j < bigI := Int.lt_of_le_of_lt h (by decide +kernel)
@[simp] theorem fdiv_int (i j : Int) (h : 0 < j) (h2 : j < bigI) : binO ρ .fdiv (.int i) (.int j) = .ok (.int (i / j)) := by
  rw [fdiv_if, if_pos]
  exact ⟨h, Int.lt_of_lt_of_le h2 bigI_le⟩
@[simp] theorem pow_int (i j : Int) (h0 : 0 ≤ j) (h : j ≤ 1000) (h2 : i.natAbs < 18446744073709551616) : binO ρ .pow (.int i) (.int j) = .ok (.int (i ^ j.toNat)) := by
  show (if 0 ≤ j ∧ j ≤ 1000 ∧ i.natAbs < 2 ^ 64 then Rs.ok (PV.int (i ^ j.toNat)) else .bad) = _
  rw [if_pos ⟨h0, h, h2⟩]
@[simp] theorem lt_int (i j : Int) : cmpO ρ .lt (.int i) (.int j) = .ok (decide (i < j)) := rfl
@[simp] theorem le_int (i j : Int) : cmpO ρ .le (.int i) (.int j) = .ok (decide (i ≤ j)) := rfl
@[simp] theorem gt_int (i j : Int) : cmpO ρ .gt (.int i) (.int j) = .ok (decide (j < i)) := rfl
@[simp] theorem ge_int (i j : Int) : cmpO ρ .ge (.int i) (.int j) = .ok (decide (j ≤ i)) := rfl
@[simp] theorem setTg_nm (i : Nat) (v : PV) : setTg (.nm i) v ρ = .ok { ρ with sl := ρ.sl.set i (some v) } := rfl
@[simp] theorem setTg_two (i j : Nat) (v u : PV) : setTg (.tp [i, j]) (.tup [v, u]) ρ = .ok { ρ with sl := (ρ.sl.set i (some v)).set j (some u) } := rfl
@[simp] theorem setTg_three (i j k : Nat) (v u w : PV) : setTg (.tp [i, j, k]) (.tup [v, u, w]) ρ = .ok { ρ with sl := ((ρ.sl.set i (some v)).set j (some u)).set k (some w) } := rfl
@[simp] theorem seq_tup (xs : List PV) : seqOf ρ (.tup xs) = .ok xs := rfl
@[simp] theorem seq_lst (xs : List PV) : seqOf ρ (.lst xs) = .ok xs := rfl
@[simp] theorem seq_scr (ns : List Int) : seqOf ρ (.scr ns) = .ok (ns.map .int) := rfl
@[simp] theorem lst_lst (xs : List PV) : lstOf ρ (.lst xs) = .ok xs := rfl
@[simp] theorem lst_scr (ns : List Int) : lstOf ρ (.scr ns) = .ok (ns.map .int) := rfl
@[simp] theorem trk_lst (xs : List PV) : trkOf ρ (.lst xs) = .ok xs := rfl
@[simp] theorem walk_tup (xs : List PV) : walkO ρ (.tup xs) = .ok xs := rfl
@[simp] theorem walk_lst (xs : List PV) : walkO ρ (.lst xs) = .ok xs := rfl
@[simp] theorem walk_scr (ns : List Int) : walkO ρ (.scr ns) = .ok (ns.map .int) := rfl
@[simp] theorem walk_cell (n : Nat) : walkO ρ (.cell n) = seqOf ρ (.cell n) := rfl
theorem seq_cell {n : Nat} {xs : List PV} (h : content ρ.ce n = some (.lst xs)) : seqOf ρ (.cell n) = .ok xs := by
  show (match content ρ.ce n with | some (.lst xs) => Rs.ok xs | _ => .bad) = _
  rw [h]
theorem lst_cell {n : Nat} {xs : List PV} (h : content ρ.ce n = some (.lst xs)) : lstOf ρ (.cell n) = .ok xs := by
  show (match content ρ.ce n with | some (.lst xs) => Rs.ok xs | _ => .bad) = _
  rw [h]
theorem trk_cell {n : Nat} {xs : List PV} (h : content ρ.ce n = some (.lst xs)) : trkOf ρ (.cell n) = .ok xs := by
  show (match content ρ.ce n with | some (.lst xs) => Rs.ok xs | _ => .bad) = _
  rw [h]
theorem ref_cell {n : Nat} {xs : List PV} (h : content ρ.ce n = some (.lst xs)) (hl : n ∉ ρ.lk) : refOf ρ (.cell n) = .ok (n, xs) := by
  show (if ρ.lk.contains n then Rs.bad else match content ρ.ce n with | some (.lst xs) => Rs.ok (n, xs) | _ => .bad) = _
  rw [if_neg (by simpa using hl), h]
@[simp] theorem content_0 (c : Option PV) (ce : List (Option PV)) : content (c :: ce) 0 = c := by simp [content]
@[simp] theorem content_1 (c d : Option PV) (ce : List (Option PV)) : content (c :: d :: ce) 1 = d := by simp [content]
@[simp] theorem content_2 (c d e : Option PV) (ce : List (Option PV)) : content (c :: d :: e :: ce) 2 = e := by simp [content]
@[simp] theorem content_3 (c d e f : Option PV) (ce : List (Option PV)) : content (c :: d :: e :: f :: ce) 3 = f := by simp [content]
end
@[simp] theorem rs_join {α : Type} (a : α) : (some (some a)).join = some a := rfl

/-! ### without cells -/
theorem pures_map {α : Type} (g : α → PV) : ∀ l : List α, (∀ a ∈ l, pure? (g a) = true) → pures? (l.map g) = true
  | [], _ => rfl
  | a :: l, h => by
    simp only [List.map_cons, pures?, Bool.and_eq_true]
    exact ⟨h a List.mem_cons_self, pures_map g l fun b hb => h b (List.mem_cons_of_mem _ hb)⟩
theorem flats_map {α : Type} (g : α → PV) : ∀ l : List α, (∀ a ∈ l, flat? (g a) = true) → flats? (l.map g) = true
  | [], _ => rfl
  | a :: l, h => by
    simp only [List.map_cons, flats?, Bool.and_eq_true]
    exact ⟨h a List.mem_cons_self, flats_map g l fun b hb => h b (List.mem_cons_of_mem _ hb)⟩
mutual
theorem noGe_pure (m : Nat) : ∀ v : PV, pure? v = true → noGe m v = true
  | .non, _ => rfl
  | .bl _, _ => rfl
  | .int _, _ => rfl
  | .str _, _ => rfl
  | .tup xs, h => by simp only [noGe]; exact noGes_pure m xs (by simpa only [pure?] using h)
  | .lst xs, h => by simp only [noGe]; exact noGes_pure m xs (by simpa only [pure?] using h)
  | .dic ks vs, h => by
    simp only [pure?, Bool.and_eq_true] at h
    simp only [noGe, Bool.and_eq_true]
    exact ⟨noGes_pure m ks h.1, noGes_pure m vs h.2⟩
  | .ins _ xs, h => by simp only [noGe]; exact noGes_pure m xs (by simpa only [pure?] using h)
  | .cell _, h => by simp [pure?] at h
  | .scr _, _ => rfl
theorem noGes_pure (m : Nat) : ∀ v : List PV, pures? v = true → noGes m v = true
  | [], _ => rfl
  | x :: xs, h => by
    simp only [pures?, Bool.and_eq_true] at h
    simp only [noGes, Bool.and_eq_true]
    exact ⟨noGe_pure m x h.1, noGes_pure m xs h.2⟩
end
mutual
theorem mapC_pure (g : Nat → Option PV) : ∀ v : PV, pure? v = true → mapC g v = some v
  | .non, _ => rfl
  | .bl _, _ => rfl
  | .int _, _ => rfl
  | .str _, _ => rfl
  | .tup xs, h => by simp only [mapC, mapCs_pure g xs (by simpa only [pure?] using h), Option.map_some]
  | .lst xs, h => by simp only [mapC, mapCs_pure g xs (by simpa only [pure?] using h), Option.map_some]
  | .dic ks vs, h => by
    simp only [pure?, Bool.and_eq_true] at h
    simp only [mapC, mapCs_pure g ks h.1, mapCs_pure g vs h.2, Option.bind_some, Option.map_some]
  | .ins _ xs, h => by simp only [mapC, mapCs_pure g xs (by simpa only [pure?] using h), Option.map_some]
  | .cell _, h => by simp [pure?] at h
  | .scr _, _ => rfl
theorem mapCs_pure (g : Nat → Option PV) : ∀ v : List PV, pures? v = true → mapCs g v = some v
  | [], _ => rfl
  | x :: xs, h => by
    simp only [pures?, Bool.and_eq_true] at h
    simp only [mapCs, mapC_pure g x h.1, mapCs_pure g xs h.2, Option.bind_some, Option.map_some]
end
theorem frz_pure (ρ : Env) {v : PV} (h : pure? v = true) : frz ρ v = .ok v := by
  unfold frz
  rw [if_pos h]
theorem frzs_pure (ρ : Env) {v : List PV} (h : pures? v = true) : frzs ρ v = .ok v := by
  unfold frzs
  rw [if_pos h]
theorem frz_cell (ρ : Env) {n : Nat} {xs : List PV} (h : content ρ.ce n = some (.lst xs)) (hp : pures? xs = true) : frz ρ (.cell n) = .ok (.lst xs) := by
  unfold frz
  rw [if_neg (by simp [pure?])]
  show Rs.of ((content ρ.ce n).bind (frzN ρ.ce 2)) = _
  rw [h]
  show Rs.of (mapC _ (.lst xs)) = _
  rw [mapC_pure _ _ (by simpa only [pure?] using hp)]
  rfl

/-! ### equality -/
mutual
def dOk : Nat → PV → Bool
  | _, .non => true
  | _, .bl _ => true
  | _, .int _ => true
  | _, .str x => PyData.strOk x
  | 0, .tup _ => false
  | n + 1, .tup xs => dOks n xs
  | 0, .lst _ => false
  | n + 1, .lst xs => dOks n xs
  | _, _ => false
def dOks : Nat → List PV → Bool
  | _, [] => true
  | n, x :: xs => dOk n x && dOks n xs
end
mutual
def eqPV : PV → PV → Bool
  | .non, .non => true
  | .bl a, .bl b => a == b
  | .bl a, .int j => (if a then 1 else 0) == j
  | .int i, .bl b => i == (if b then 1 else 0)
  | .int i, .int j => i == j
  | .str x, .str y => x == y
  | .lst xs, .lst ys => eqPVs xs ys
  | .tup xs, .tup ys => eqPVs xs ys
  | _, _ => false
def eqPVs : List PV → List PV → Bool
  | [], [] => true
  | x :: xs, y :: ys => eqPV x y && eqPVs xs ys
  | _, _ => false
end
mutual
theorem toD_ok : ∀ (n : Nat) (v : PV), dOk n v = true → ∃ d, toD v = some d ∧ d.canLay0 = true ∧ d.depth ≤ n
  | n, .non, _ => ⟨.none, rfl, by simp [PyData.canLay0], by simp [PyData.depth]⟩
  | n, .bl b, _ => ⟨.bool b, rfl, by simp [PyData.canLay0], by simp [PyData.depth]⟩
  | n, .int b, _ => ⟨.int b, rfl, by simp [PyData.canLay0], by simp [PyData.depth]⟩
  | n, .str b, h => ⟨.str b, rfl, by simpa [PyData.canLay0, dOk] using h, by simp [PyData.depth]⟩
  | 0, .tup _, h => by simp [dOk] at h
  | n + 1, .tup xs, h => by
    obtain ⟨ds, h1, h2, h3⟩ := toDs_ok n xs (by simpa only [dOk] using h)
    exact ⟨.tuple ds, by simp only [toD, h1, Option.map_some], by simpa only [PyData.canLay0] using h2, by simp only [PyData.depth]; omega⟩
  | 0, .lst _, h => by simp [dOk] at h
  | n + 1, .lst xs, h => by
    obtain ⟨ds, h1, h2, h3⟩ := toDs_ok n xs (by simpa only [dOk] using h)
    exact ⟨.list ds, by simp only [toD, h1, Option.map_some], by simpa only [PyData.canLay0] using h2, by simp only [PyData.depth]; omega⟩
  | n, .dic _ _, h => by simp [dOk] at h
  | n, .ins _ _, h => by simp [dOk] at h
  | n, .cell _, h => by simp [dOk] at h
  | n, .scr _, h => by simp [dOk] at h
theorem toDs_ok : ∀ (n : Nat) (v : List PV), dOks n v = true → ∃ d, toDs v = some d ∧ PyData.canLayAll0 d = true ∧ PyData.depthAll d ≤ n
  | n, [], _ => ⟨[], rfl, by simp [PyData.canLayAll0], by simp [PyData.depthAll]⟩
  | n, x :: xs, h => by
    simp only [dOks, Bool.and_eq_true] at h
    obtain ⟨d, h1, h2, h3⟩ := toD_ok n x h.1
    obtain ⟨ds, h4, h5, h6⟩ := toDs_ok n xs h.2
    exact ⟨d :: ds, by simp only [toDs, h1, h4, Option.bind_some, Option.map_some], by simp only [PyData.canLayAll0, h2, h5, Bool.and_self], by simp only [PyData.depthAll]; omega⟩
end
mutual
theorem eqv_eq : ∀ (u v : PV) (d e : PyData), toD u = some d → toD v = some e → PyData.eqv d e = eqPV u v
  | u, v, d, e, h1, h2 => by
    cases u <;> cases v <;> simp only [toD, Option.map_eq_some_iff, Option.some.injEq, reduceCtorEq] at h1 h2 <;>
    first
      | (subst h1; subst h2; simp only [PyData.eqv, eqPV]; done)
      | (subst h1; subst h2; rfl)
      | (obtain ⟨ds, h3, rfl⟩ := h1; obtain ⟨es, h4, rfl⟩ := h2; simp only [PyData.eqv, eqPV]; done)
      | (obtain ⟨ds, h3, rfl⟩ := h1; obtain ⟨es, h4, rfl⟩ := h2; simp only [PyData.eqv, eqPV]; exact eqvs_eq _ _ _ _ h3 h4)
      | (obtain ⟨ds, h3, rfl⟩ := h1; subst h2; simp only [PyData.eqv, eqPV]; done)
      | (subst h1; obtain ⟨ds, h3, rfl⟩ := h2; simp only [PyData.eqv, eqPV]; done)
termination_by u => sizeOf u
theorem eqvs_eq : ∀ (u v : List PV) (d e : List PyData), toDs u = some d → toDs v = some e → PyData.eqvAll d e = eqPVs u v
  | [], [], d, e, h1, h2 => by cases h1; cases h2; simp only [PyData.eqvAll, eqPVs]
  | [], y :: ys, d, e, h1, h2 => by
    cases h1
    simp only [toDs, Option.bind_eq_some_iff, Option.map_eq_some_iff] at h2
    obtain ⟨a, _, b, _, rfl⟩ := h2
    simp only [PyData.eqvAll, eqPVs]
  | x :: xs, [], d, e, h1, h2 => by
    cases h2
    simp only [toDs, Option.bind_eq_some_iff, Option.map_eq_some_iff] at h1
    obtain ⟨a, _, b, _, rfl⟩ := h1
    simp only [PyData.eqvAll, eqPVs]
  | x :: xs, y :: ys, d, e, h1, h2 => by
    simp only [toDs, Option.bind_eq_some_iff, Option.map_eq_some_iff] at h1 h2
    obtain ⟨a, h3, b, h4, rfl⟩ := h1
    obtain ⟨a', h5, b', h6, rfl⟩ := h2
    simp only [PyData.eqvAll, eqPVs]
    rw [eqv_eq x y a a' h3 h5, eqvs_eq xs ys b b' h4 h6]
termination_by u => sizeOf u
end
theorem eqO_of {u v : PV} (h1 : dOk 64 u = true) (h2 : dOk 64 v = true) : eqO u v = .ok (eqPV u v) := by
  obtain ⟨d, a1, a2, a3⟩ := toD_ok 64 u h1
  obtain ⟨e, b1, b2, b3⟩ := toD_ok 64 v h2
  unfold eqO
  have s1 : SeqAt.shaped d = true := by simp only [SeqAt.shaped, a2, Bool.true_and, decide_eq_true_eq]; exact a3
  have s2 : SeqAt.shaped e = true := by simp only [SeqAt.shaped, b2, Bool.true_and, decide_eq_true_eq]; exact b3
  simp only [a1, b1, Option.bind_some, s1, s2, Bool.and_self, if_true, Rs.of_some]
  rw [eqv_eq u v d e a1 b1]
@[simp] theorem eqO_int (i j : Int) : eqO (.int i) (.int j) = .ok (decide (i = j)) := by
  rw [eqO_of (by simp only [dOk]) (by simp only [dOk])]
  simp only [eqPV]
  rfl
@[simp] theorem eq_int (ρ : Env) (i j : Int) : cmpO ρ .eq (.int i) (.int j) = .ok (decide (i = j)) := by
  show ((frz ρ (.int i)).bind fun a => (frz ρ (.int j)).bind fun b => eqO a b) = _
  rw [frz_pure ρ (v := .int i) rfl, frz_pure ρ (v := .int j) rfl, Rs.bind_ok, Rs.bind_ok, eqO_int]
@[simp] theorem ne_int (ρ : Env) (i j : Int) : cmpO ρ .ne (.int i) (.int j) = .ok (!decide (i = j)) := by
  show ((frz ρ (.int i)).bind fun a => (frz ρ (.int j)).bind fun b => (eqO a b).bind fun c => Rs.ok (!c)) = _
  rw [frz_pure ρ (v := .int i) rfl, frz_pure ρ (v := .int j) rfl, Rs.bind_ok, Rs.bind_ok, eqO_int, Rs.bind_ok]
end PF

set_option Elab.async false
set_option linter.all false
set_option maxRecDepth 100000
set_option maxHeartbeats 8000000
/-! PFv: plain rules for loops. -/
namespace PF
open PySem

section
variable {α : Type} {tg : Tg} {it : It} {body : List Stm} {dead : List Nat} {ρ : Env}
/-- what a loop ends with, back in the frame around -/
theorem forO_run {m : Nat} {dead : List Nat} {bd : Env → Rs Out} {g : α → PV} (I : Nat → Env → Prop) (B : Env → Prop) (PR : PV → Prop) : ∀ (l : List α) (k : Nat) (ρ : Env), I k ρ →
    (∀ i a ρ1, l[i]? = some a → I (k + i) ρ1 → ∃ ρ2 o, setTg tg (g a) ρ1 = .ok ρ2 ∧ bd ρ2 = .ok o ∧ (match o with | .nx ρ3 => I (k + i + 1) (endT m dead ρ3) | .ct ρ3 => I (k + i + 1) (endT m dead ρ3) | .bk ρ3 => B (endT m dead ρ3) | .rt v => PR v)) →
    ∃ o, forO m dead bd tg (l.map g) ρ = .ok o ∧ (match o with | .nx ρ' => I (k + l.length) ρ' ∨ B ρ' | .rt v => PR v | _ => False)
  | [], k, ρ, h0, _ => ⟨.nx ρ, rfl, .inl h0⟩
  | a :: l, k, ρ, h0, step => by
    obtain ⟨ρ2, o, h1, h2, h3⟩ := step 0 a ρ rfl h0
    simp only [List.map_cons, forO, h1, h2, Rs.bind_ok]
    have nxt : ∀ i a' ρ1, l[i]? = some a' → I (k + 1 + i) ρ1 → ∃ ρ2 o, setTg tg (g a') ρ1 = .ok ρ2 ∧ bd ρ2 = .ok o ∧ (match o with | .nx ρ3 => I (k + 1 + i + 1) (endT m dead ρ3) | .ct ρ3 => I (k + 1 + i + 1) (endT m dead ρ3) | .bk ρ3 => B (endT m dead ρ3) | .rt v => PR v) := fun i a' ρ1 e h => by
      have := step (i + 1) a' ρ1 (by simpa using e) (by rw [show k + (i + 1) = k + 1 + i by omega]; exact h)
      rw [show k + (i + 1) + 1 = k + 1 + i + 1 by omega] at this
      exact this
    have hl : k + (a :: l).length = k + 1 + l.length := by rw [List.length_cons]; omega
    cases o with
    | nx ρ3 =>
      obtain ⟨o', h4, h5⟩ := forO_run I B PR l (k + 1) _ h3 nxt
      exact ⟨o', h4, by rw [hl]; exact h5⟩
    | ct ρ3 =>
      obtain ⟨o', h4, h5⟩ := forO_run I B PR l (k + 1) _ h3 nxt
      exact ⟨o', h4, by rw [hl]; exact h5⟩
    | bk ρ3 => exact ⟨_, rfl, .inr h3⟩
    | rt v => exact ⟨_, rfl, h3⟩
theorem ev_for : evS (.for tg it body dead) ρ = (evIt it ρ).bind fun xs => (forO ρ.ce.length dead (fun ρ' => evSs body ρ') tg xs { ρ with lk := srcI it ρ ++ ρ.lk }).bind fun o => .ok (relk ρ.lk o) := by simp only [evS]
/-- a loop that may return, break -/
theorem for_gen (l : List α) (g : α → PV) (I : Nat → Env → Prop) (B : Env → Prop) (PR : PV → Prop) (hit : evIt it ρ = .ok (l.map g)) (h0 : I 0 { ρ with lk := srcI it ρ ++ ρ.lk })
    (step : ∀ i a ρ1, l[i]? = some a → I i ρ1 → ∃ ρ2 o, setTg tg (g a) ρ1 = .ok ρ2 ∧ evSs body ρ2 = .ok o ∧
      (match o with | .nx ρ3 => I (i + 1) (endT ρ.ce.length dead ρ3) | .ct ρ3 => I (i + 1) (endT ρ.ce.length dead ρ3) | .bk ρ3 => B (endT ρ.ce.length dead ρ3) | .rt v => PR v)) :
    (∃ ρ', (I l.length ρ' ∨ B ρ') ∧ evS (.for tg it body dead) ρ = .ok (.nx { ρ' with lk := ρ.lk })) ∨ ∃ v, PR v ∧ evS (.for tg it body dead) ρ = .ok (.rt v) := by
  obtain ⟨o, h1, h2⟩ := forO_run (m := ρ.ce.length) (dead := dead) (tg := tg) (bd := fun ρ' => evSs body ρ') (g := g) I B PR l 0 _ h0 fun i a ρ1 e h => by
    simp only [Nat.zero_add] at h ⊢
    exact step i a ρ1 e h
  rw [ev_for, hit, Rs.bind_ok, h1, Rs.bind_ok]
  cases o with
  | nx ρ' => exact .inl ⟨ρ', by simpa using h2, rfl⟩
  | rt v => exact .inr ⟨v, h2, rfl⟩
  | bk _ => exact h2.elim
  | ct _ => exact h2.elim
/-- a loop that goes to its end -/
theorem for_all (l : List α) (g : α → PV) (I : Nat → Env → Prop) (hit : evIt it ρ = .ok (l.map g)) (h0 : I 0 { ρ with lk := srcI it ρ ++ ρ.lk })
    (step : ∀ i a ρ1, l[i]? = some a → I i ρ1 → ∃ ρ2 ρ3, setTg tg (g a) ρ1 = .ok ρ2 ∧ evSs body ρ2 = .ok (.nx ρ3) ∧ I (i + 1) (endT ρ.ce.length dead ρ3)) :
    ∃ ρ', I l.length ρ' ∧ evS (.for tg it body dead) ρ = .ok (.nx { ρ' with lk := ρ.lk }) := by
  rcases for_gen l g I (fun _ => False) (fun _ => False) hit h0 fun i a ρ1 e h => by
    obtain ⟨ρ2, ρ3, h1, h2, h3⟩ := step i a ρ1 e h
    exact ⟨ρ2, .nx ρ3, h1, h2, h3⟩ with ⟨ρ', h | h, e⟩ | ⟨v, h, _⟩
  · exact ⟨ρ', h, e⟩
  · exact h.elim
  · exact h.elim
/-- .. that may return -/
theorem for_ret (l : List α) (g : α → PV) (I : Nat → Env → Prop) (PR : PV → Prop) (hit : evIt it ρ = .ok (l.map g)) (h0 : I 0 { ρ with lk := srcI it ρ ++ ρ.lk })
    (step : ∀ i a ρ1, l[i]? = some a → I i ρ1 → ∃ ρ2, setTg tg (g a) ρ1 = .ok ρ2 ∧ ((∃ ρ3, evSs body ρ2 = .ok (.nx ρ3) ∧ I (i + 1) (endT ρ.ce.length dead ρ3)) ∨ ∃ v, PR v ∧ evSs body ρ2 = .ok (.rt v))) :
    (∃ ρ', I l.length ρ' ∧ evS (.for tg it body dead) ρ = .ok (.nx { ρ' with lk := ρ.lk })) ∨ ∃ v, PR v ∧ evS (.for tg it body dead) ρ = .ok (.rt v) := by
  rcases for_gen l g I (fun _ => False) PR hit h0 fun i a ρ1 e h => by
    obtain ⟨ρ2, h1, ⟨ρ3, h2, h3⟩ | ⟨v, h2, h3⟩⟩ := step i a ρ1 e h
    · exact ⟨ρ2, .nx ρ3, h1, h2, h3⟩
    · exact ⟨ρ2, .rt v, h1, h3, h2⟩ with ⟨ρ', h | h, e⟩ | h
  · exact .inl ⟨ρ', h, e⟩
  · exact h.elim
  · exact .inr h
/-- a loop, exactly -/
theorem for_fold {S : Type} (l : List α) (g : α → PV) (E : S → Env) (f : S → α → S) (s : S) (hit : evIt it ρ = .ok (l.map g)) (h0 : { ρ with lk := srcI it ρ ++ ρ.lk } = E s)
    (step : ∀ s, ∀ a ∈ l, ∃ ρ2 ρ3, setTg tg (g a) (E s) = .ok ρ2 ∧ evSs body ρ2 = .ok (.nx ρ3) ∧ endT ρ.ce.length dead ρ3 = E (f s a)) :
    evS (.for tg it body dead) ρ = .ok (.nx { E (l.foldl f s) with lk := ρ.lk }) := by
  obtain ⟨ρ', h, e⟩ := for_all (tg := tg) (body := body) (dead := dead) l g (fun i ρ1 => ρ1 = E ((l.take i).foldl f s)) hit (by simpa using h0) fun i a ρ1 e h => by
    subst h
    obtain ⟨ρ2, ρ3, h1, h2, h3⟩ := step ((l.take i).foldl f s) a (List.mem_of_getElem? e)
    refine ⟨ρ2, ρ3, h1, h2, ?_⟩
    rw [h3, List.take_add_one, e]
    simp
  rw [List.take_length] at h
  rw [e, h]

theorem ev_wh {c : Ex} : evS (.wh c body dead) ρ = whO ρ.ce.length dead (fun ρ' => (evE c ρ').bind boolOf) (fun ρ' => evSs body ρ') ρ := by simp only [evS]
theorem whN_run {c : Ex} {m : Nat} (I : Nat → Env → Prop) (Z : Env → Prop) (step : ∀ kk ρ1, I kk ρ1 → (evE c ρ1 = .ok (.bl false) ∧ Z ρ1) ∨ (evE c ρ1 = .ok (.bl true) ∧ ∃ ρ3, (evSs body ρ1 = .ok (.nx ρ3) ∧ ∃ n', n' < kk ∧ I n' (endT m dead ρ3)) ∨ (evSs body ρ1 = .ok (.bk ρ3) ∧ Z (endT m dead ρ3)))) :
    ∀ kk ρ, I kk ρ → ∃ ρ', Z ρ' ∧ whN m dead (fun ρ' => (evE c ρ').bind boolOf) (fun ρ' => evSs body ρ') (kk + 1) ρ = .ok (.nx ρ') := by
  intro kk
  induction kk using Nat.strongRecOn with
  | _ kk ih =>
    intro ρ h
    rcases step kk ρ h with ⟨h1, h2⟩ | ⟨h1, ρ3, ⟨h2, n', h3, h4⟩ | ⟨h2, h3⟩⟩
    · exact ⟨ρ, h2, by simp only [whN, h1, Rs.bind_ok, boolOf]; rfl⟩
    · obtain ⟨ρ', h5, h6⟩ := ih n' h3 _ h4
      refine ⟨ρ', h5, ?_⟩
      have h7 := whN_mono h6 (show n' + 1 ≤ kk by omega)
      simp only [whN, h1, h2, Rs.bind_ok, boolOf, if_true]
      exact h7
    · exact ⟨_, h3, by simp only [whN, h1, h2, Rs.bind_ok, boolOf, if_true]⟩
/-- a while that ends -/
theorem wh_all {c : Ex} (I : Nat → Env → Prop) (Z : Env → Prop) (n : Nat) (h0 : I n ρ)
    (step : ∀ n ρ1, I n ρ1 → (evE c ρ1 = .ok (.bl false) ∧ Z ρ1) ∨ (evE c ρ1 = .ok (.bl true) ∧ ∃ ρ3, (evSs body ρ1 = .ok (.nx ρ3) ∧ ∃ n', n' < n ∧ I n' (endT ρ.ce.length dead ρ3)) ∨ (evSs body ρ1 = .ok (.bk ρ3) ∧ Z (endT ρ.ce.length dead ρ3)))) :
    ∃ ρ', Z ρ' ∧ evS (.wh c body dead) ρ = .ok (.nx ρ') := by
  obtain ⟨ρ', h1, h2⟩ := whN_run (m := ρ.ce.length) I Z step n ρ h0
  exact ⟨ρ', h1, by rw [ev_wh]; exact whO_of h2⟩

/-! ### comprehensions -/
theorem compO_map {f : PV → Rs (Option PV)} {g : α → PV} {h : α → Option PV} : ∀ {l : List α}, (∀ a ∈ l, f (g a) = .ok (h a)) → compO f (l.map g) = .ok (l.filterMap h)
  | [], _ => rfl
  | a :: l, e => by
    simp only [List.map_cons, compO, e a List.mem_cons_self, compO_map (l := l) fun b hb => e b (List.mem_cons_of_mem _ hb), Rs.bind_ok, List.filterMap_cons]
    cases h a <;> rfl
theorem comp_map {elt : Ex} (l : List α) (g h : α → PV) (hit : evIt it ρ = .ok (l.map g)) (step : ∀ a ∈ l, ∃ ρ', setTg tg (g a) ρ = .ok ρ' ∧ evE elt ρ' = .ok (h a)) : evE (.comp elt tg it none) ρ = .ok (.lst (l.map h)) := by
  simp only [evE, hit, Rs.bind_ok]
  rw [compO_map (h := fun a => some (h a)) fun a ha => by
    obtain ⟨ρ', h1, h2⟩ := step a ha
    simp only [h1, Rs.bind_ok, evC, if_true, h2]]
  simp [List.filterMap_eq_map']
theorem fm_filter {β : Type} (p : α → Bool) (h : α → β) : ∀ l : List α, l.filterMap (fun a => if p a then some (h a) else none) = (l.filter p).map h
  | [] => rfl
  | a :: l => by
    rw [List.filterMap_cons, List.filter_cons, fm_filter p h l]
    cases p a <;> rfl
theorem comp_filter {elt c : Ex} (l : List α) (g h : α → PV) (p : α → Bool) (hit : evIt it ρ = .ok (l.map g)) (step : ∀ a ∈ l, ∃ ρ', setTg tg (g a) ρ = .ok ρ' ∧ evE c ρ' = .ok (.bl (p a)) ∧ (p a = true → evE elt ρ' = .ok (h a))) :
    evE (.comp elt tg it (some c)) ρ = .ok (.lst ((l.filter p).map h)) := by
  simp only [evE, hit, Rs.bind_ok]
  rw [compO_map (h := fun a => if p a then some (h a) else none) fun a ha => by
    obtain ⟨ρ', h1, h2, h3⟩ := step a ha
    simp only [h1, Rs.bind_ok, evC, h2, boolOf]
    cases e : p a with
    | true => simp only [if_true, h3 e, Rs.bind_ok]
    | false => rfl]
  rw [fm_filter]
  rfl
end
@[simp] theorem mod_small (x m : Int) (h : 0 < m) (h2 : m < 18446744073709551616) : (x % m).natAbs < 18446744073709551616 := by
  have := Int.emod_nonneg x (show m ≠ 0 by omega)
  have := Int.emod_lt_of_pos x h
  omega
theorem rng_nat (n : Nat) (h : n ≤ 16777216) : rngO (.int n) = .ok ((List.range n).map fun (k : Nat) => PV.int (k : Int)) := by
  have h1 : rngOk (n : Int) = true := decide_eq_true (p := InW 62 _) ⟨by omega, by omega⟩
  have h2 : decide ((n : Int).toNat ≤ sizeMax) = true := decide_eq_true (by rw [Int.toNat_natCast]; exact h)
  show (if rngOk (n : Int) && decide ((n : Int).toNat ≤ sizeMax) then Rs.ok (rngL 0 n) else .bad) = _
  rw [h1, h2]
  simp [rngL]
theorem rng2_nat (m n : Nat) (h : n ≤ 16777216) (h2 : m ≤ 16777216) : rng2O (.int m) (.int n) = .ok ((List.range (n - m)).map fun (k : Nat) => PV.int ((m + k : Nat) : Int)) := by
  have h1 : rngOk (n : Int) = true := decide_eq_true (p := InW 62 _) ⟨by omega, by omega⟩
  have h3 : rngOk (m : Int) = true := decide_eq_true (p := InW 62 _) ⟨by omega, by omega⟩
  have h4 : decide (((n : Int) - (m : Int)).toNat ≤ sizeMax) = true := decide_eq_true (by
    have : sizeMax = 16777216 := rfl
    omega)
  show (if rngOk (m : Int) && rngOk (n : Int) && decide (((n : Int) - (m : Int)).toNat ≤ sizeMax) then Rs.ok (rngL m n) else .bad) = _
  rw [h1, h3, h4]
  simp only [Bool.and_self, if_true, rngL]
  have e : ((n : Int) - (m : Int)).toNat = n - m := by omega
  rw [e]
  simp
theorem range_lt {n i k : Nat} (h : (List.range n)[i]? = some k) : k < n ∧ k = i := by
  obtain ⟨h1, h2⟩ := List.getElem?_eq_some_iff.mp h
  simp at h1 h2
  omega
theorem ess_append (ρ : Env) : ∀ xs ys : List Stm, evSs (xs ++ ys) ρ = (evSs xs ρ).bind fun o => goOn o (evSs ys)
  | [], ys => by simp
  | x :: xs, ys => by
    simp only [List.cons_append, ess_cons]
    cases evS x ρ with
    | ok o =>
      cases o with
      | nx ρ' => simp only [Rs.bind_ok, goOn_nx]; exact ess_append ρ' xs ys
      | _ => rfl
    | err _ _ => rfl
    | bad => rfl
/-- cut at n -/
theorem ess_cut {ρ ρ' : Env} {b : List Stm} (n : Nat) (h : evSs (b.take n) ρ = .ok (.nx ρ')) : evSs b ρ = evSs (b.drop n) ρ' := by
  conv => lhs; rw [← List.take_append_drop n b]
  rw [ess_append, h, Rs.bind_ok, goOn_nx]
theorem pickL_map {α β : Type} (f : α → β) (xs : List α) (lo hi : Option Int) (st : Int) : pickL (xs.map f) lo hi st = (pickL xs lo hi st).map f := by
  unfold pickL
  rw [List.length_map, List.map_filterMap]
  congr 1
  funext i
  rw [List.getElem?_map]
theorem sl3_scr (ρ : Env) (ns : List Int) (lo hi : Option Int) (st : Int) (h : st ≠ 0) : sl3O ρ (.scr ns) lo hi st = .ok (.lst ((pickL ns lo hi st).map .int)) := by
  show ((lstOf ρ (.scr ns)).bind fun xs => if st = 0 then Rs.bad else Rs.ok (PV.lst (pickL xs lo hi st))) = _
  rw [lst_scr, Rs.bind_ok, if_neg h, pickL_map]
theorem rngL_nat (n : Nat) : rngL 0 (n : Int) = (List.range n).map fun (k : Nat) => PV.int (k : Int) := by simp [rngL]
theorem dOks_map {α : Type} (n : Nat) (g : α → PV) : ∀ l : List α, (∀ a ∈ l, dOk n (g a) = true) → dOks n (l.map g) = true
  | [], _ => by simp [dOks]
  | a :: l, h => by
    simp only [List.map_cons, dOks, Bool.and_eq_true]
    exact ⟨h a List.mem_cons_self, dOks_map n g l fun b hb => h b (List.mem_cons_of_mem _ hb)⟩
theorem intsOf_map : ∀ ns : List Int, intsOf (ns.map .int) = some ns
  | [] => rfl
  | n :: ns => by simp only [List.map_cons, intsOf, intsOf_map ns, Option.map_some]
theorem ixO_tup (ρ : Env) {α : Type} (g : α → PV) (l : List α) (d : α) (k : Int) (h0 : 0 ≤ k) (h : k < l.length) : ixO ρ (.tup (l.map g)) (.int k) = .ok (g (l[k.toNat]?.getD d)) := by
  have e : k.toNat < l.length := by omega
  show ((seqOf ρ (.tup (l.map g))).bind fun xs => Rs.of ((ixOf xs.length k).bind fun k => xs[k]?)) = _
  rw [seq_tup, Rs.bind_ok, List.length_map]
  have e2 : ixOf l.length k = some k.toNat := by
    show (if 0 ≤ k then (if k < l.length then some k.toNat else none) else _) = _
    rw [if_pos h0, if_pos h]
  rw [e2]
  simp [e]
theorem eqO_lnil {xs : List PV} (h : dOks 63 xs = true) : eqO (.lst xs) (.lst []) = .ok xs.isEmpty := by
  rw [eqO_of (show dOk (63 + 1) (.lst xs) = true by simp only [dOk]; exact h) (show dOk (63 + 1) (.lst []) = true by simp only [dOk, dOks])]
  cases xs with
  | nil => simp only [eqPV, eqPVs, List.isEmpty_nil]
  | cons _ _ => simp only [eqPV, eqPVs, List.isEmpty_cons]
theorem dOks_ints (n : Nat) (l : List Int) : dOks n (l.map .int) = true := dOks_map n _ l fun _ _ => by simp only [dOk]
theorem pures_ints (l : List Int) : pures? (l.map .int) = true := pures_map _ l fun _ _ => by simp only [pure?]
end PF

set_option Elab.async false
set_option linter.all false
set_option maxRecDepth 100000
set_option maxHeartbeats 8000000
namespace K50
open PySem PF
/-- _law_cell_at of k50: 0 _law_script, 1 _law_k -/
noncomputable def b_cell_at_607b : List Stm := [.ite (.cmp .lt (.var 1) (.bi .len [(.var 0)]))
    [.ret (.ix (.var 0) (.var 1))]
    [],
  .ret (.cst (.int 0))]
noncomputable def s_cell_at_607b : Sem := semOf 2 2 b_cell_at_607b

/-- _law_mixed of k50: 0 _law_cell, 1 _law_k, 2 _law_number -/
noncomputable def b_mixed_8081 : List Stm := [.asg (.nm 2) (.bin .mod (.bin .mul (.bin .add (.bin .add (.bin .mod (.var 0) (.cst (.int 2147483629))) (.bin .mul (.bin .mul (.cst (.int 7919)) (.var 1)) (.var 1))) (.var 1)) (.cst (.int 48271))) (.cst (.int 2147483647))),
  .asg (.nm 2) (.bin .mod (.bin .add (.bin .add (.bin .mul (.var 2) (.var 2)) (.bin .mul (.cst (.int 69621)) (.var 2))) (.var 1)) (.cst (.int 2147483647))),
  .ret (.bin .mod (.bin .add (.bin .mul (.var 2) (.cst (.int 39373))) (.bin .mul (.cst (.int 11)) (.var 1))) (.cst (.int 2147483587)))]
noncomputable def s_mixed_8081 : Sem := semOf 2 3 b_mixed_8081

/-- _law_any of k50: 0 _law_script, 1 _law_many, 2 _law_great, 3 _law_items_here, 4 _law_k, 5 _law_cell, 6 _law_wide -/
noncomputable def b_any_bcb6_0 : List Stm := [.asg (.nm 5) (.call "_law_cell_at" s_cell_at_607b [(.var 0), (.bin .add (.cst (.int 2)) (.var 4))]),
  .ite (.cmp .ge (.bin .add (.cst (.int 2)) (.var 4)) (.bi .len [(.var 0)]))
    [.asg (.nm 5) (.bin .mul (.call "_law_mixed" s_mixed_8081 [(.call "_law_cell_at" s_cell_at_607b [(.var 0), (.cst (.int 0))]), (.var 4)]) (.call "_law_mixed" s_mixed_8081 [(.call "_law_cell_at" s_cell_at_607b [(.var 0), (.cst (.int 1))]), (.var 4)]))]
    [],
  .asg (.nm 6) (.ix (.lst [(.cst (.int 6)), (.cst (.int 40)), (.var 2)]) (.bin .mod (.var 5) (.cst (.int 3)))),
  .asg (.nm 5) (.bin .fdiv (.var 5) (.cst (.int 3))),
  .app (.var 3) (.tup [(.bin .mod (.var 5) (.var 6)), (.bin .add (.cst (.int 1)) (.bin .mod (.bin .fdiv (.var 5) (.var 6)) (.bin .sub (.var 6) (.cst (.int 1))))), (.bin .mod (.bin .fdiv (.bin .fdiv (.var 5) (.var 6)) (.bin .sub (.var 6) (.cst (.int 1)))) (.var 6))])]
noncomputable def l_any_bcb6_0 : Stm := .for (.nm 4) (.rng (.var 1)) b_any_bcb6_0 [4, 5, 6]
noncomputable def b_any_bcb6 : List Stm := [.own 3 (.lst []),
  l_any_bcb6_0,
  .ret (.bi .tuple [(.var 3)])]
noncomputable def s_any_bcb6 : Sem := semOf 3 7 b_any_bcb6

/-- _law_items of k50: 0 _law_script, 1 _law_most, 2 _law_great, 3 _law_first, 4 _law_many, 5 _law_factor, 6 _law_items_here, 7 _law_k, 8 _law_number, 9 _law_cell, 10 _law_head, 11 _law_length -/
noncomputable def b_items_74ff_0 : List Stm := [.asg (.nm 8) (.bin .add (.bin .mul (.var 8) (.cst (.int 7))) (.bin .mod (.var 9) (.bin .pow (.cst (.int 10)) (.cst (.int 58)))))]
noncomputable def l_items_74ff_0 : Stm := .for (.nm 9) (.seq (.sl3 (.var 0) (some (.bin .add (.cst (.int 2)) (.var 7))) (some (.bin .add (.bin .add (.cst (.int 2)) (.var 7)) (.bin .mul (.cst (.int 6)) (.var 4)))) (.var 4))) b_items_74ff_0 [9]
noncomputable def b_items_74ff_1 : List Stm := [.asg (.nm 8) (.cst (.int 0)),
  l_items_74ff_0,
  .asg (.nm 10) (.bin .add (.bin .mul (.bin .mod (.var 8) (.cst (.int 13))) (.var 5)) (.bin .mod (.bin .fdiv (.var 8) (.cst (.int 4000))) (.var 5))),
  .asg (.nm 11) (.bin .add (.bin .mul (.bin .add (.cst (.int 1)) (.bin .mod (.bin .fdiv (.var 8) (.cst (.int 13))) (.cst (.int 4)))) (.var 5)) (.bin .mod (.bin .fdiv (.var 8) (.cst (.int 8000))) (.var 5))),
  .app (.var 6) (.tup [(.var 10), (.var 11), (.bin .add (.bin .mul (.bin .mod (.bin .fdiv (.var 8) (.cst (.int 52))) (.cst (.int 9))) (.var 5)) (.bin .mod (.bin .fdiv (.var 8) (.cst (.int 9000))) (.var 5)))])]
noncomputable def l_items_74ff_1 : Stm := .for (.nm 7) (.rng (.var 4)) b_items_74ff_1 [7, 8, 9, 10, 11]
noncomputable def b_items_74ff : List Stm := [.asg (.nm 3) (.call "_law_cell_at" s_cell_at_607b [(.var 0), (.cst (.int 0))]),
  .asg (.nm 4) (.bin .add (.cst (.int 1)) (.bin .mod (.var 3) (.var 1))),
  .ite (.cmp .eq (.bin .mod (.bin .fdiv (.var 3) (.var 1)) (.cst (.int 2))) (.cst (.int 1)))
    [.ret (.call "_law_any" s_any_bcb6 [(.var 0), (.var 4), (.var 2)])]
    [],
  .asg (.nm 5) (.cst (.int 1)),
  .ite (.cmp .eq (.bin .mod (.bin .fdiv (.bin .fdiv (.var 3) (.var 1)) (.cst (.int 2))) (.cst (.int 4))) (.cst (.int 1)))
    [.asg (.nm 5) (.bin .add (.cst (.int 1)) (.bin .mod (.call "_law_cell_at" s_cell_at_607b [(.var 0), (.cst (.int 1))]) (.bin .pow (.cst (.int 10)) (.cst (.int 50)))))]
    [],
  .own 6 (.lst []),
  l_items_74ff_1,
  .ret (.bi .tuple [(.var 6)])]
noncomputable def s_items_74ff : Sem := semOf 3 12 b_items_74ff

/-- _law_set of k50: 0 _law_items_here, 1 _law_number, 2 _law_some, 3 _law_k -/
noncomputable def b_set_ddca_0 : List Stm := [.ite (.cmp .eq (.bin .mod (.var 1) (.cst (.int 2))) (.cst (.int 1)))
    [.app (.var 2) (.var 3)]
    [],
  .asg (.nm 1) (.bin .fdiv (.var 1) (.cst (.int 2)))]
noncomputable def l_set_ddca_0 : Stm := .for (.nm 3) (.rlen (.var 0)) b_set_ddca_0 [3]
noncomputable def b_set_ddca : List Stm := [.own 2 (.lst []),
  l_set_ddca_0,
  .ite (.cmp .eq (.var 2) (.lst []))
    [.own 2 (.lst [(.bin .mod (.var 1) (.bi .len [(.var 0)]))])]
    [],
  .ret (.bi .tuple [(.var 2)])]
noncomputable def s_set_ddca : Sem := semOf 2 4 b_set_ddca

/-- worth of k50: 0 items, 1 some, 2 least, 3 last, 4 k -/
noncomputable def c_worth_40ff_0 : Ex := .comp (.ix (.ix (.var 0) (.var 4)) (.cst (.int 0))) (.nm 4) (.seq (.var 1)) none
noncomputable def c_worth_40ff_1 : Ex := .comp (.ix (.ix (.var 0) (.var 4)) (.cst (.int 2))) (.nm 4) (.seq (.var 1)) none
noncomputable def c_worth_40ff_2 : Ex := .comp (.ix (.ix (.var 0) (.var 4)) (.cst (.int 1))) (.nm 4) (.seq (.var 1)) none
noncomputable def b_worth_40ff : List Stm := [.asg (.nm 2) (.bi .min [c_worth_40ff_0]),
  .asg (.nm 3) (.bi .min [c_worth_40ff_1]),
  .ret (.bin .add (.bin .add (.var 2) (.bi .sum [c_worth_40ff_2])) (.var 3))]
noncomputable def s_worth_40ff : Sem := semOf 2 5 b_worth_40ff

/-- _law_whole of k50: 0 _law_found -/
noncomputable def b_whole_ddf7 : List Stm := [.ret (.and [(.isi (.var 0) .int), (.nt (.isi (.var 0) .bool))])]
noncomputable def s_whole_ddf7 : Sem := semOf 1 1 b_whole_ddf7

/-- _law_worth of k50: 0 _law_items_here, 1 _law_some, 2 _law_least, 3 _law_last, 4 _law_lengths, 5 _law_k -/
noncomputable def b_worth_61bf_0 : List Stm := [.asg (.nm 2) (.bi .min [(.var 2), (.ix (.ix (.var 0) (.var 5)) (.cst (.int 0)))]),
  .asg (.nm 3) (.bi .min [(.var 3), (.ix (.ix (.var 0) (.var 5)) (.cst (.int 2)))]),
  .asg (.nm 4) (.bin .add (.var 4) (.ix (.ix (.var 0) (.var 5)) (.cst (.int 1))))]
noncomputable def l_worth_61bf_0 : Stm := .for (.nm 5) (.seq (.var 1)) b_worth_61bf_0 [5]
noncomputable def b_worth_61bf : List Stm := [.asg (.nm 2) (.ix (.ix (.var 0) (.ix (.var 1) (.cst (.int 0)))) (.cst (.int 0))),
  .asg (.nm 3) (.ix (.ix (.var 0) (.ix (.var 1) (.cst (.int 0)))) (.cst (.int 2))),
  .asg (.nm 4) (.cst (.int 0)),
  l_worth_61bf_0,
  .ret (.bin .add (.bin .add (.var 2) (.var 4)) (.var 3))]
noncomputable def s_worth_61bf : Sem := semOf 2 6 b_worth_61bf

/-- law of k50: 0 _law_script, 1 _law_items_here, 2 _law_cells, 3 _law_number, 4 _law_some, 5 _law_found, 6 _law_k -/
noncomputable def c_law_ec88_0 : Ex := .comp (.bin .mod (.bin .mul (.call "_law_cell_at" s_cell_at_607b [(.var 0), (.var 6)]) (.cst (.int 16807))) (.cst (.int 2147483587))) (.nm 6) (.rng2 (.cst (.int 2)) (.cst (.int 10))) none
noncomputable def b_law_ec88_0 : List Stm := [.asg (.nm 4) (.call "_law_set" s_set_ddca [(.var 1), (.var 3)]),
  .asg (.nm 5) (.call "worth" s_worth_40ff [(.var 1), (.var 4)]),
  .ite (.or [(.nt (.call "_law_whole" s_whole_ddf7 [(.var 5)])), (.cmp .ne (.var 5) (.call "_law_worth" s_worth_61bf [(.var 1), (.var 4)]))])
    [.ret (.cst (.bl false))]
    []]
noncomputable def l_law_ec88_0 : Stm := .for (.nm 3) (.seq (.bin .add (.var 2) (.sl (.var 2) none (some (.cst (.int 1)))))) b_law_ec88_0 [3, 4, 5]
noncomputable def b_law_ec88 : List Stm := [.asg (.nm 1) (.call "_law_items" s_items_74ff [(.var 0), (.cst (.int 12)), (.bin .pow (.cst (.int 10)) (.cst (.int 60)))]),
  .asg (.nm 2) c_law_ec88_0,
  l_law_ec88_0,
  .ret (.cst (.bl true))]
noncomputable def s_law_ec88 : Sem := semOf 1 7 b_law_ec88

end K50

set_option Elab.async false
set_option linter.all false
set_option maxRecDepth 100000
set_option maxHeartbeats 8000000
namespace K50
open PySem PF
def cellAt (ns : List Int) (k : Int) : Int := if k < ns.length then ns[k.toNat]?.getD 0 else 0
theorem sp_cell_at (ns : List Int) (k : Int) (h : 0 ≤ k) : s_cell_at_607b [.scr ns, .int k] = .ok (.int (cellAt ns k)) := by
  simp only [s_cell_at_607b, semOf, b_cell_at_607b]
  by_cases q : k < ns.length
  · simp [biO, q, ixO, ixOf, L2.ixN, h, frz, pure?, cellAt]
  · simp [biO, q, frz, pure?, cellAt]
theorem sp_mixed (c k : Int) (h : k.natAbs < 18446744073709551616) : ∃ i : Int, 0 ≤ i ∧ i < 2147483587 ∧ s_mixed_8081 [.int c, .int k] = .ok (.int i) := by
  refine ⟨_, ?_, ?_, by simp [s_mixed_8081, semOf, b_mixed_8081, h, frz, pure?]; rfl⟩
  · omega
  · omega
theorem sp_whole (i : Int) : s_whole_ddf7 [.int i] = .ok (.bl true) := by
  simp [s_whole_ddf7, semOf, b_whole_ddf7, frz, pure?, isiO]
def trip (t : Int × Int × Int) : PV := .tup [.int t.1, .int t.2.1, .int t.2.2]
theorem body_any (ns : List Int) (many k : Nat) (great : Int) (its : List (Int × Int × Int)) (hk : k ≤ 100) (hl : its.length ≤ 100) (h1 : 2 ≤ great) (h2 : great < bigI) : ∃ t x y,
    evSs b_any_bcb6_0 ⟨[some (.scr ns), some (.int many), some (.int great), some (.cell 0), some (.int k), none, none], [some (.lst (its.map trip))], []⟩ =
      .ok (.nx ⟨[some (.scr ns), some (.int many), some (.int great), some (.cell 0), some (.int k), some (.int x), some (.int y)], [some (.lst ((its ++ [t]).map trip))], []⟩) := by
  have c1 := sp_cell_at ns (2 + (k : Int)) (by omega)
  have c2 := sp_cell_at ns 0 (by omega)
  have c3 := sp_cell_at ns 1 (by omega)
  obtain ⟨i, i1, i2, i3⟩ := sp_mixed (cellAt ns 0) k (by omega)
  obtain ⟨j, j1, j2, j3⟩ := sp_mixed (cellAt ns 1) k (by omega)
  generalize cellAt ns (2 + (k : Int)) = c at c1
  generalize cellAt ns 0 = c0 at c2 i3
  generalize cellAt ns 1 = c0' at c3 j3
  have pre : ∃ c : Int, evSs (b_any_bcb6_0.take 2) ⟨[some (.scr ns), some (.int many), some (.int great), some (.cell 0), some (.int k), none, none], [some (.lst (its.map trip))], []⟩ =
      .ok (.nx ⟨[some (.scr ns), some (.int many), some (.int great), some (.cell 0), some (.int k), some (.int c), none], [some (.lst (its.map trip))], []⟩) := by
    by_cases q : (ns.length : Int) ≤ 2 + (k : Int)
    · refine ⟨i * j, ?_⟩
      simp [b_any_bcb6_0, c1, c2, c3, i3, j3, q, biO, frzs, pures?, pure?, mul_l, show i.natAbs < 18446744073709551616 by omega]
    · refine ⟨c, ?_⟩
      simp [b_any_bcb6_0, c1, c2, c3, i3, j3, q, biO, frzs, pures?, pure?]
  obtain ⟨c, hc⟩ := pre
  rw [ess_cut 2 hc]
  obtain ⟨w, w1, w2, hw⟩ : ∃ w : Int, 2 ≤ w ∧ w < bigI ∧ ixO ⟨[some (.scr ns), some (.int many), some (.int great), some (.cell 0), some (.int k), some (.int c), none], [some (.lst (its.map trip))], []⟩ (.lst [.int 6, .int 40, .int great]) (.int (c % 3)) = .ok (.int w) := by
    have : c % 3 = 0 ∨ c % 3 = 1 ∨ c % 3 = 2 := by omega
    rcases this with q | q | q <;> rw [q]
    · exact ⟨6, by decide, by simp, by simp [ixO, ixOf, L2.ixN]⟩
    · exact ⟨40, by decide, by simp, by simp [ixO, ixOf, L2.ixN]⟩
    · exact ⟨great, h1, h2, by simp [ixO, ixOf, L2.ixN]⟩
  have e1 : 0 < w := by omega
  have e2 : 0 < w - 1 := by omega
  have e3 : w - 1 < bigI := by omega
  have e4 : its.length < sizeMax := by
    have : sizeMax = 16777216 := rfl
    omega
  refine ⟨(c / 3 % w, 1 + c / 3 / w % (w - 1), c / 3 / w / (w - 1) % w), c / 3, w, ?_⟩
  simp only [b_any_bcb6_0, List.drop_succ_cons, List.drop_zero]
  simp [hw, e1, e2, e3, w2, refOf, putC, e4, trip, show 1 < w by omega]
theorem sp_any (ns : List Int) (many : Nat) (great : Int) (hm : many ≤ 100) (h1 : 2 ≤ great) (h2 : great < bigI) : ∃ its : List (Int × Int × Int), its.length = many ∧ s_any_bcb6 [.scr ns, .int many, .int great] = .ok (.tup (its.map trip)) := by
  obtain ⟨ρ', ⟨its, rfl, hl⟩, e⟩ := for_all (tg := .nm 4) (it := .rng (.var 1)) (body := b_any_bcb6_0) (dead := [4, 5, 6])
    (ρ := ⟨[some (.scr ns), some (.int many), some (.int great), some (.cell 0), none, none, none], [some (.lst [])], []⟩) (List.range many) (fun (k : Nat) => PV.int (k : Int))
    (fun i ρ => ∃ its : List (Int × Int × Int), ρ = ⟨[some (.scr ns), some (.int many), some (.int great), some (.cell 0), none, none, none], [some (.lst (its.map trip))], []⟩ ∧ its.length = i)
    (by simp [rng_nat many (by omega)]) ⟨[], by simp [srcI], rfl⟩ (by
      rintro i k _ hk ⟨its, rfl, hl⟩
      obtain ⟨hk, rfl⟩ := range_lt hk
      obtain ⟨t, x, y, h⟩ := body_any ns many k great its (by omega) (by omega) h1 h2
      refine ⟨_, _, rfl, h, its ++ [t], ?_, by simp [hl]⟩
      simp [endT, killS, geO, noGe, noGes_pure, pures_map, trip, pure?, pures?])
  refine ⟨its, by simpa using hl, ?_⟩
  simp [s_any_bcb6, semOf, b_any_bcb6, l_any_bcb6_0, e, biO, seqOf, frz, pure?, pures_map, trip, pures?]
abbrev ei (ns : List Int) (great first many factor : Int) (k n c h l : Option PV) (its : List (Int × Int × Int)) (lk : List Nat) : PF.Env :=
  ⟨[some (.scr ns), some (.int 12), some (.int great), some (.int first), some (.int many), some (.int factor), some (.cell 0), k, n, c, h, l], [some (.lst (its.map trip))], lk⟩
theorem inner (ns : List Int) (great first many factor k n : Int) (its : List (Int × Int × Int)) (hm : many ≠ 0) : ∃ n : Int, evS l_items_74ff_0 (ei ns great first many factor (some (.int k)) (some (.int 0)) none none none its []) = .ok (.nx (ei ns great first many factor (some (.int k)) (some (.int n)) none none none its [])) := by
  obtain ⟨ρ', ⟨n, rfl⟩, e⟩ := for_all (tg := .nm 9) (it := .seq (.sl3 (.var 0) (some (.bin .add (.cst (.int 2)) (.var 7))) (some (.bin .add (.bin .add (.cst (.int 2)) (.var 7)) (.bin .mul (.cst (.int 6)) (.var 4)))) (.var 4))) (body := b_items_74ff_0) (dead := [9])
    (ρ := ei ns great first many factor (some (.int k)) (some (.int 0)) none none none its []) (pickL ns (some (2 + k)) (some (2 + k + 6 * many)) many) PV.int
    (fun i ρ => ∃ n : Int, ρ = ei ns great first many factor (some (.int k)) (some (.int n)) none none none its [])
    (by simp [intOf, partO, sl3_scr _ _ _ _ _ hm]) ⟨0, by simp [srcI, cellsOf, intOf, partO, sl3_scr _ _ _ _ _ hm]⟩ (by
      rintro i c _ hk ⟨n, rfl⟩
      refine ⟨_, _, rfl, by simp [b_items_74ff_0]; rfl, ?_⟩
      refine ⟨n * 7 + c % 10 ^ 58, ?_⟩
      simp [endT, killS, geO, noGe, noGes_pure, pures_map, trip, pure?, pures?])
  exact ⟨n, e⟩
theorem body_items (ns : List Int) (great first factor : Int) (many k : Nat) (its : List (Int × Int × Int)) (hm : many ≠ 0) (hl : its.length ≤ 100) (h1 : 0 < factor) (h2 : factor < bigI) : ∃ t n h l,
    evSs b_items_74ff_1 (ei ns great first many factor (some (.int k)) none none none none its []) = .ok (.nx (ei ns great first many factor (some (.int k)) (some (.int n)) none (some (.int h)) (some (.int l)) (its ++ [t]) [])) := by
  obtain ⟨n, hn⟩ := inner ns great first many factor k 0 its (by omega)
  have e4 : its.length < sizeMax := by
    have : sizeMax = 16777216 := rfl
    omega
  have e5 : (1 + n / 13 % 4).natAbs < 18446744073709551616 := by omega
  refine ⟨(n % 13 * factor + n / 4000 % factor, (1 + n / 13 % 4) * factor + n / 8000 % factor, n / 52 % 9 * factor + n / 9000 % factor), n, n % 13 * factor + n / 4000 % factor, (1 + n / 13 % 4) * factor + n / 8000 % factor, ?_⟩
  simp [b_items_74ff_1, hn, h1, h2, e4, e5, refOf, putC, trip]
theorem sp_items (ns : List Int) (great : Int) (h1 : 2 ≤ great) (h2 : great < bigI) : ∃ its : List (Int × Int × Int), its ≠ [] ∧ its.length ≤ 12 ∧ s_items_74ff [.scr ns, .int 12, .int great] = .ok (.tup (its.map trip)) := by
  have c0 := sp_cell_at ns 0 (by omega)
  have c1 := sp_cell_at ns 1 (by omega)
  generalize cellAt ns 0 = c at c0
  generalize cellAt ns 1 = d at c1
  obtain ⟨many, hm, e⟩ : ∃ many : Nat, many ≤ 12 ∧ 1 ≤ many ∧ (many : Int) = 1 + c % 12 := ⟨(1 + c % 12).toNat, by omega, by omega, by omega⟩
  obtain ⟨e0, e⟩ := e
  by_cases q : c / 12 % 2 = 1
  · obtain ⟨its, hl, h⟩ := sp_any ns many great (by omega) h1 h2
    refine ⟨its, by rintro rfl; simp at hl; omega, by omega, ?_⟩
    rw [e] at h
    simp [s_items_74ff, semOf, b_items_74ff, c0, c1, frzs, pures?, pure?, frz, q, h, pures_map, trip]
  · obtain ⟨f, f1, f2, hf⟩ : ∃ f : Int, 0 < f ∧ f < bigI ∧ evSs (b_items_74ff.take 5) ⟨[some (.scr ns), some (.int 12), some (.int great), none, none, none, none, none, none, none, none, none], [], []⟩ =
        .ok (.nx ⟨[some (.scr ns), some (.int 12), some (.int great), some (.int c), some (.int many), some (.int f), none, none, none, none, none, none], [], []⟩) := by
      by_cases q2 : c / 12 / 2 % 4 = 1
      · refine ⟨1 + d % 10 ^ 50, ?_, ?_, ?_⟩
        · omega
        · exact lt_bigI _ (by omega)
        · simp [b_items_74ff, c0, c1, frzs, pures?, pure?, frz, q, q2, e]
      · exact ⟨1, by decide, by simp, by simp [b_items_74ff, c0, c1, frzs, pures?, pure?, frz, q, q2, e]⟩
    obtain ⟨ρ', ⟨its, rfl, hl⟩, e2⟩ := for_all (tg := .nm 7) (it := .rng (.var 4)) (body := b_items_74ff_1) (dead := [7, 8, 9, 10, 11])
      (ρ := ei ns great c many f none none none none none [] []) (List.range many) (fun (k : Nat) => PV.int (k : Int))
      (fun i ρ => ∃ its : List (Int × Int × Int), ρ = ei ns great c many f none none none none none its [] ∧ its.length = i)
      (by simp [rng_nat many (by omega)]) ⟨[], by simp [srcI], rfl⟩ (by
        rintro i k _ hk ⟨its, rfl, hl⟩
        obtain ⟨hk, rfl⟩ := range_lt hk
        obtain ⟨t, n, h, l, hb⟩ := body_items ns great c f many k its (by omega) (by omega) f1 f2
        refine ⟨_, _, rfl, hb, its ++ [t], ?_, by simp [hl]⟩
        simp [endT, killS, geO, noGe, noGes_pure, pures_map, trip, pure?, pures?])
    have hl : its.length = many := by simpa using hl
    refine ⟨its, by rintro rfl; simp at hl; omega, by omega, ?_⟩
    have e3 : evSs b_items_74ff ⟨[some (.scr ns), some (.int 12), some (.int great), none, none, none, none, none, none, none, none, none], [], []⟩ = .ok (.rt (.tup (its.map trip))) := by
      rw [ess_cut 5 hf]
      simp only [b_items_74ff, List.drop_succ_cons, List.drop_zero]
      simp only [l_items_74ff_1]
      simp only [ei, List.map_nil] at e2
      simp [e2, biO, seqOf, frz, pure?, pures_map, trip, pures?]
    simp only [s_items_74ff, semOf]
    simp [e3]
theorem sp_set (its : List (Int × Int × Int)) (number : Int) (h0 : its ≠ []) (hz : its.length ≤ 12) : ∃ k0 ks, (∀ k ∈ k0 :: ks, (0 : Int) ≤ k ∧ k < its.length) ∧ s_set_ddca [.tup (its.map trip), .int number] = .ok (.tup ((k0 :: ks).map .int)) := by
  obtain ⟨ρ', ⟨n, ks, rfl, hk, _⟩, e⟩ := for_all (tg := .nm 3) (it := .rlen (.var 0)) (body := b_set_ddca_0) (dead := [3])
    (ρ := ⟨[some (.tup (its.map trip)), some (.int number), some (.cell 0), none], [some (.lst [])], []⟩) (List.range its.length) (fun (k : Nat) => PV.int (k : Int))
    (fun i ρ => ∃ (n : Int) (ks : List Int), ρ = ⟨[some (.tup (its.map trip)), some (.int n), some (.cell 0), none], [some (.lst (ks.map .int))], []⟩ ∧ (∀ k ∈ ks, (0 : Int) ≤ k ∧ k < its.length) ∧ ks.length ≤ i)
    (by simp [rngL_nat]) ⟨number, [], by simp [srcI], by simp, by simp⟩ (by
      rintro i k _ hk ⟨n, ks, rfl, h1, h2⟩
      obtain ⟨hk, rfl⟩ := range_lt hk
      have e4 : ks.length < sizeMax := by
        have : sizeMax = 16777216 := rfl
        omega
      by_cases q : n % 2 = 1
      · refine ⟨_, _, rfl, by simp [b_set_ddca_0, q, refOf, putC, e4]; rfl, n / 2, ks ++ [(k : Int)], ?_, ?_, by simp; omega⟩
        · simp [endT, killS, geO, noGe, noGes_pure, noGes, pures_map, trip, pure?, pures?]
        · intro x hx
          (rcases List.mem_append.mp hx with hx | hx)
          · exact h1 x hx
          · have : x = k := by simpa using hx
            omega
      · refine ⟨_, _, rfl, by simp [b_set_ddca_0, q, refOf, putC, e4]; rfl, n / 2, ks, ?_, h1, by omega⟩
        simp [endT, killS, geO, noGe, noGes_pure, noGes, pures_map, trip, pure?, pures?])
  have hp : 0 < (its.length : Int) := by
    cases its with
    | nil => exact absurd rfl h0
    | cons _ _ => simp only [List.length_cons]; omega
  cases ks with
  | nil =>
    refine ⟨n % its.length, [], fun k hk => ?_, ?_⟩
    · have : k = n % its.length := by simpa using hk
      subst this
      (exact ⟨Int.emod_nonneg _ (by omega), Int.emod_lt_of_pos _ hp⟩)
    · simp only [List.map_nil] at e
      have q2 : eqO (.lst []) (.lst []) = .ok true := eqO_lnil (xs := []) (by simp only [dOks])
      have m1 : ∀ ρ, binO ρ .mod (.int n) (.int its.length) = .ok (.int (n % its.length)) := fun ρ => mod_int ρ _ _ hp
      simp [s_set_ddca, semOf, b_set_ddca, l_set_ddca_0, e, biO, seqOf, frz, pure?, pures_map, trip, pures?, cmpO, frzN, mapC, mapCs, q2, m1]
  | cons k0 ks =>
    refine ⟨k0, ks, hk, ?_⟩
    have q1 : frz ⟨[some (.tup (its.map trip)), some (.int n), some (.cell 0), none], [some (.lst ((k0 :: ks).map .int))], []⟩ (.cell 0) = .ok (.lst ((k0 :: ks).map .int)) := frz_cell _ rfl (pures_ints _)
    have q2 : eqO (.lst ((k0 :: ks).map .int)) (.lst []) = .ok false := eqO_lnil (dOks_ints 63 (k0 :: ks))
    have q3 : ∀ ρ, frz ρ (.lst []) = .ok (.lst []) := fun ρ => frz_pure ρ rfl
    have q4 : ∀ ρ, frz ρ (.tup ((k0 :: ks).map .int)) = .ok (.tup ((k0 :: ks).map .int)) := fun ρ => frz_pure ρ (by simp only [pure?]; exact pures_ints _)
    simp only [List.map_cons] at e q1 q2 q4
    simp [s_set_ddca, semOf, b_set_ddca, l_set_ddca_0, e, biO, seqOf, q1, q2, q3, q4, cmpO]
def it (its : List (Int × Int × Int)) (k : Int) : Int × Int × Int := its[k.toNat]?.getD (0, 0, 0)
def worthV (its : List (Int × Int × Int)) (k0 : Int) (ks : List Int) : Int :=
  minI (it its k0).1 (ks.map fun k => (it its k).1) + ((it its k0).2.1 + (ks.map fun k => (it its k).2.1).sum) + minI (it its k0).2.2 (ks.map fun k => (it its k).2.2)
theorem ix_it (ρ : PF.Env) (its : List (Int × Int × Int)) (k : Int) (h : (0 : Int) ≤ k ∧ k < its.length) : ixO ρ (.tup (its.map trip)) (.int k) = .ok (trip (it its k)) := ixO_tup ρ trip its (0, 0, 0) k h.1 h.2
theorem trip0 (ρ : PF.Env) (t : Int × Int × Int) : ixO ρ (trip t) (.int 0) = .ok (.int t.1) := by simp [trip, ixO, ixOf, L2.ixN]
theorem trip1 (ρ : PF.Env) (t : Int × Int × Int) : ixO ρ (trip t) (.int 1) = .ok (.int t.2.1) := by simp [trip, ixO, ixOf, L2.ixN]
theorem trip2 (ρ : PF.Env) (t : Int × Int × Int) : ixO ρ (trip t) (.int 2) = .ok (.int t.2.2) := by simp [trip, ixO, ixOf, L2.ixN]
theorem bi_minI (ρ : PF.Env) {α : Type} (f : α → Int) (k0 : α) (ks : List α) : biO ρ .min [.lst ((k0 :: ks).map fun k => .int (f k))] = .ok (.int (minI (f k0) (ks.map f))) := by
  have : (k0 :: ks).map (fun k => PV.int (f k)) = ((k0 :: ks).map f).map PV.int := by simp
  rw [this]
  show ((lstOf ρ (.lst (((k0 :: ks).map f).map PV.int))).bind fun xs => Rs.of ((intsOf xs).bind fun ns => match ns with | [] => none | n :: r => some (PV.int (minI n r)))) = _
  rw [lst_lst, Rs.bind_ok, intsOf_map]
  rfl
theorem bi_sumI (ρ : PF.Env) {α : Type} (f : α → Int) (ks : List α) : biO ρ .sum [.lst (ks.map fun k => .int (f k))] = .ok (.int (ks.map f).sum) := by
  have : ks.map (fun k => PV.int (f k)) = (ks.map f).map PV.int := by simp
  rw [this]
  show ((lstOf ρ (.lst ((ks.map f).map PV.int))).bind fun xs => Rs.of ((intsOf xs).map fun ns => PV.int ns.sum)) = _
  rw [lst_lst, Rs.bind_ok, intsOf_map]
  rfl
theorem sp_worth (its : List (Int × Int × Int)) (k0 : Int) (ks : List Int) (hk : ∀ k ∈ k0 :: ks, (0 : Int) ≤ k ∧ k < its.length) : s_worth_40ff [.tup (its.map trip), .tup ((k0 :: ks).map .int)] = .ok (.int (worthV its k0 ks)) := by
  have c0 : ∀ a b, evE c_worth_40ff_0 ⟨[some (.tup (its.map trip)), some (.tup ((k0 :: ks).map .int)), a, b, none], [], []⟩ = .ok (.lst ((k0 :: ks).map fun k => .int (it its k).1)) := fun a b =>
    comp_map (k0 :: ks) PV.int (fun k => .int (it its k).1) (by simp) fun k h => ⟨_, rfl, by simp [ix_it _ _ _ (hk k h), trip0]⟩
  have c1 : ∀ a b, evE c_worth_40ff_1 ⟨[some (.tup (its.map trip)), some (.tup ((k0 :: ks).map .int)), a, b, none], [], []⟩ = .ok (.lst ((k0 :: ks).map fun k => .int (it its k).2.2)) := fun a b =>
    comp_map (k0 :: ks) PV.int (fun k => .int (it its k).2.2) (by simp) fun k h => ⟨_, rfl, by simp [ix_it _ _ _ (hk k h), trip2]⟩
  have c2 : ∀ a b, evE c_worth_40ff_2 ⟨[some (.tup (its.map trip)), some (.tup ((k0 :: ks).map .int)), a, b, none], [], []⟩ = .ok (.lst ((k0 :: ks).map fun k => .int (it its k).2.1)) := fun a b =>
    comp_map (k0 :: ks) PV.int (fun k => .int (it its k).2.1) (by simp) fun k h => ⟨_, rfl, by simp [ix_it _ _ _ (hk k h), trip1]⟩
  have r0 := fun ρ => bi_minI ρ (fun k => (it its k).1) k0 ks
  have r1 := fun ρ => bi_minI ρ (fun k => (it its k).2.2) k0 ks
  have r2 := fun ρ => bi_sumI ρ (fun k => (it its k).2.1) (k0 :: ks)
  simp only [List.map_cons] at c0 c1 c2 r0 r1 r2
  simp [s_worth_40ff, semOf, b_worth_40ff, c0, c1, c2, r0, r1, r2, frz, pure?, worthV]
theorem bi_min2 (ρ : PF.Env) (i j : Int) : biO ρ .min [.int i, .int j] = .ok (.int (if j < i then j else i)) := rfl
theorem sp_worth2 (its : List (Int × Int × Int)) (k0 : Int) (ks : List Int) (hk : ∀ k ∈ k0 :: ks, (0 : Int) ≤ k ∧ k < its.length) : s_worth_61bf [.tup (its.map trip), .tup ((k0 :: ks).map .int)] = .ok (.int (worthV its k0 ks)) := by
  have i0 : ∀ ρ, ixO ρ (.tup ((k0 :: ks).map .int)) (.int 0) = .ok (.int k0) := fun ρ => by simp [ixO, ixOf, L2.ixN]
  have L := for_fold (tg := .nm 5) (it := .seq (.var 1)) (body := b_worth_61bf_0) (dead := [5])
    (ρ := ⟨[some (.tup (its.map trip)), some (.tup ((k0 :: ks).map .int)), some (.int (it its k0).1), some (.int (it its k0).2.2), some (.int 0), none], [], []⟩) (k0 :: ks) PV.int
    (fun (s : Int × Int × Int) => ⟨[some (.tup (its.map trip)), some (.tup ((k0 :: ks).map .int)), some (.int s.1), some (.int s.2.2), some (.int s.2.1), none], [], []⟩)
    (fun s k => (if (it its k).1 < s.1 then (it its k).1 else s.1, s.2.1 + (it its k).2.1, if (it its k).2.2 < s.2.2 then (it its k).2.2 else s.2.2)) ((it its k0).1, 0, (it its k0).2.2)
    (by simp) (by simp [srcI, cellsOf]) fun s k h => ⟨_, _, rfl, by simp [b_worth_61bf_0, ix_it _ _ _ (hk k h), trip0, trip1, trip2, bi_min2]; rfl, by
      simp [endT, killS, geO, noGe, noGes_pure, noGes, pures_map, trip, pure?, pures?]⟩
  have fin : ∀ (ks : List Int) (a b c : Int), ks.foldl (fun (s : Int × Int × Int) k => (if (it its k).1 < s.1 then (it its k).1 else s.1, s.2.1 + (it its k).2.1, if (it its k).2.2 < s.2.2 then (it its k).2.2 else s.2.2)) (a, b, c) =
      (minI a (ks.map fun k => (it its k).1), b + (ks.map fun k => (it its k).2.1).sum, minI c (ks.map fun k => (it its k).2.2)) := by
    intro ks
    induction ks with
    | nil => intro a b c; simp [minI]
    | cons k ks ih => intro a b c; simp [ih, minI, Int.add_assoc]
  rw [fin] at L
  simp only [List.map_cons, minI, Int.lt_irrefl, if_false, List.sum_cons, Int.zero_add] at L i0
  have i1 := fun ρ => ix_it ρ its k0 (hk k0 List.mem_cons_self)
  simp [s_worth_61bf, semOf, b_worth_61bf, l_worth_61bf_0, i0, i1, trip0, trip2, L, frz, pure?, worthV]
def cellsL (ns : List Int) : List Int := (List.range 8).map fun k : Nat => cellAt ns (2 + (k : Int)) * 16807 % 2147483587
theorem main (ns : List Int) (hn : ns.length ≤ 63) : s_law_ec88 [.scr ns] = .ok (.bl true) := by
  obtain ⟨its, h0, hz, hi⟩ := sp_items ns 1000000000000000000000000000000000000000000000000000000000000 (by decide) (lt_bigI _ (by decide))
  have c0 : ∀ a b c d e, evE c_law_ec88_0 ⟨[some (.scr ns), a, b, c, d, e, none], [], []⟩ = .ok (.lst ((cellsL ns).map .int)) := fun a b c d e => by
    have := comp_map (tg := .nm 6) (it := .rng2 (.cst (.int 2)) (.cst (.int 10))) (ρ := ⟨[some (.scr ns), a, b, c, d, e, none], [], []⟩) (elt := .bin .mod (.bin .mul (.call "_law_cell_at" s_cell_at_607b [(.var 0), (.var 6)]) (.cst (.int 16807))) (.cst (.int 2147483587)))
      (List.range 8) (fun k : Nat => .int ((2 + k : Nat) : Int)) (fun k : Nat => .int (cellAt ns (2 + (k : Int)) * 16807 % 2147483587)) (by
        have := rng2_nat 2 10 (by decide) (by decide)
        simp only [evI_rng2, ev_cst, Rs.bind_ok]
        exact this) fun k h => ⟨_, rfl, by
          have q := sp_cell_at ns (2 + (k : Int)) (by omega)
          simp [q, frzs, pures?, pure?]⟩
    rw [cellsL, List.map_map]
    exact this
  have hl : (cellsL ns).length = 8 := by simp [cellsL]
  have add2 : ∀ (ρ : PF.Env) (xs ys : List PV), xs.length + ys.length ≤ sizeMax → binO ρ .add (.lst xs) (.lst ys) = .ok (.lst (xs ++ ys)) := fun ρ xs ys h => by
    show (if xs.length + ys.length ≤ sizeMax then Rs.ok (PV.lst (xs ++ ys)) else .bad) = _
    rw [if_pos h]
  have z : ((cellsL ns).map PV.int).length + (((cellsL ns).map PV.int).take 1).length ≤ sizeMax := by
    have : sizeMax = 16777216 := rfl
    simp [hl]
    omega
  have z2 : cut ((cellsL ns).map PV.int) none (some 1) = ((cellsL ns).map PV.int).take 1 := by simp [cut, cutIx, HT.sIx, hl]
  obtain ⟨ρ', rfl, e⟩ := for_all (tg := .nm 3) (it := .seq (.bin .add (.var 2) (.sl (.var 2) none (some (.cst (.int 1)))))) (body := b_law_ec88_0) (dead := [3, 4, 5])
    (ρ := ⟨[some (.scr ns), some (.tup (its.map trip)), some (.lst ((cellsL ns).map .int)), none, none, none, none], [], []⟩) (cellsL ns ++ (cellsL ns).take 1) PV.int
    (fun i ρ => ρ = ⟨[some (.scr ns), some (.tup (its.map trip)), some (.lst ((cellsL ns).map .int)), none, none, none, none], [], []⟩)
    (by simp [slO, partO, z2, add2 _ _ _ z]) (by simp [srcI, cellsOf, slO, partO, z2, add2 _ _ _ z]) (by
      rintro i n _ hk rfl
      obtain ⟨k0, ks, h1, h2⟩ := sp_set its n h0 hz
      have w1 := sp_worth its k0 ks h1
      have w2 := sp_worth2 its k0 ks h1
      have w3 := sp_whole (worthV its k0 ks)
      have pk : pures? (List.map PV.int (k0 :: ks)) = true := pures_ints _
      refine ⟨_, _, rfl, by simp [b_law_ec88_0, h2, w1, w2, w3, pk, frzs, pures?, pure?, pures_map, trip, -List.map_cons]; rfl, ?_⟩
      simp [endT, killS, geO, noGe, noGes_pure, noGes, pures_map, trip, pure?, pures?])
  simp [s_law_ec88, semOf, b_law_ec88, c0, hi, l_law_ec88_0, e, frzs, frz, pures?, pure?]
end K50

set_option Elab.async false
set_option linter.all false
set_option maxRecDepth 100000
set_option maxHeartbeats 8000000
namespace K50
open PySem PF L2
def top (i : Nat) : Stmt := PySem.Challenge.pw_shoprow_k50_sets_and_their_worth.main.body.getD i (.Pass ⟨0, 0, 0, 0⟩)
theorem o_cell_at_607b : scopeOk ["_law_script", "_law_k"] ["_law_script", "_law_k"] (defScope (top 3)) = true := by decide +kernel
theorem h_cell_at_607b : chkSs ["_law_script", "_law_k"] (defScope (top 3)) b_cell_at_607b (defBody (top 3)) = true := by decide +kernel
theorem o_mixed_8081 : scopeOk ["_law_cell", "_law_k", "_law_number"] ["_law_cell", "_law_k"] (defScope (top 5)) = true := by decide +kernel
theorem h_mixed_8081 : chkSs ["_law_cell", "_law_k", "_law_number"] (defScope (top 5)) b_mixed_8081 (defBody (top 5)) = true := by decide +kernel
theorem o_any_bcb6 : scopeOk ["_law_script", "_law_many", "_law_great", "_law_items_here", "_law_k", "_law_cell", "_law_wide"] ["_law_script", "_law_many", "_law_great"] (defScope (top 6)) = true := by decide +kernel
theorem h_any_bcb6 : chkSs ["_law_script", "_law_many", "_law_great", "_law_items_here", "_law_k", "_law_cell", "_law_wide"] (defScope (top 6)) b_any_bcb6 (defBody (top 6)) = true := by decide +kernel
theorem o_items_74ff : scopeOk ["_law_script", "_law_most", "_law_great", "_law_first", "_law_many", "_law_factor", "_law_items_here", "_law_k", "_law_number", "_law_cell", "_law_head", "_law_length"] ["_law_script", "_law_most", "_law_great"] (defScope (top 7)) = true := by decide +kernel
theorem h_items_74ff : chkSs ["_law_script", "_law_most", "_law_great", "_law_first", "_law_many", "_law_factor", "_law_items_here", "_law_k", "_law_number", "_law_cell", "_law_head", "_law_length"] (defScope (top 7)) b_items_74ff (defBody (top 7)) = true := by decide +kernel
theorem o_set_ddca : scopeOk ["_law_items_here", "_law_number", "_law_some", "_law_k"] ["_law_items_here", "_law_number"] (defScope (top 8)) = true := by decide +kernel
theorem h_set_ddca : chkSs ["_law_items_here", "_law_number", "_law_some", "_law_k"] (defScope (top 8)) b_set_ddca (defBody (top 8)) = true := by decide +kernel
theorem o_worth_40ff : scopeOk ["items", "some", "least", "last", "k"] ["items", "some"] (defScope (top 1)) = true := by decide +kernel
theorem h_worth_40ff : chkSs ["items", "some", "least", "last", "k"] (defScope (top 1)) b_worth_40ff (defBody (top 1)) = true := by decide +kernel
theorem o_whole_ddf7 : scopeOk ["_law_found"] ["_law_found"] (defScope (top 4)) = true := by decide +kernel
theorem h_whole_ddf7 : chkSs ["_law_found"] (defScope (top 4)) b_whole_ddf7 (defBody (top 4)) = true := by decide +kernel
theorem o_worth_61bf : scopeOk ["_law_items_here", "_law_some", "_law_least", "_law_last", "_law_lengths", "_law_k"] ["_law_items_here", "_law_some"] (defScope (top 9)) = true := by decide +kernel
theorem h_worth_61bf : chkSs ["_law_items_here", "_law_some", "_law_least", "_law_last", "_law_lengths", "_law_k"] (defScope (top 9)) b_worth_61bf (defBody (top 9)) = true := by decide +kernel
theorem o_law_ec88 : scopeOk ["_law_script", "_law_items_here", "_law_cells", "_law_number", "_law_some", "_law_found", "_law_k"] ["_law_script"] (defScope (top 10)) = true := by decide +kernel
theorem h_law_ec88 : chkSs ["_law_script", "_law_items_here", "_law_cells", "_law_number", "_law_some", "_law_found", "_law_k"] (defScope (top 10)) b_law_ec88 (defBody (top 10)) = true := by decide +kernel
structure Facts (K : PySem.W.Frag) : Prop where
  d_cell_at_607b : DefIn K "_law_cell_at" (top 3) ["_law_script", "_law_k"]
  d_mixed_8081 : DefIn K "_law_mixed" (top 5) ["_law_cell", "_law_k"]
  d_any_bcb6 : DefIn K "_law_any" (top 6) ["_law_script", "_law_many", "_law_great"]
  d_items_74ff : DefIn K "_law_items" (top 7) ["_law_script", "_law_most", "_law_great"]
  d_set_ddca : DefIn K "_law_set" (top 8) ["_law_items_here", "_law_number"]
  d_worth_40ff : DefIn K "worth" (top 1) ["items", "some"]
  d_whole_ddf7 : DefIn K "_law_whole" (top 4) ["_law_found"]
  d_worth_61bf : DefIn K "_law_worth" (top 9) ["_law_items_here", "_law_some"]
  d_law_ec88 : DefIn K "law" (top 10) ["_law_script"]
  nn : ∀ x ∈ bltNames, PySem.W.nsIn K mainGlobals x = some none
section
variable {P : Program} {w : World} {K : PySem.W.Frag} {mg : Str → Option Value} {base h : Heap}
theorem blt (T : Facts K) (X : K.In h) (G : h.Ns mainGlobals mg) : ∀ x ∈ bltNames, mg x = none := fun x hx => PySem.W.mg_none_of X G (T.nn x hx)
theorem k_cell_at_607b (T : Facts K) (X : K.In h) (G : h.Ns mainGlobals mg) : Known P w K mg base 1 "_law_cell_at" 2 s_cell_at_607b :=
  known_of (N := ["_law_script", "_law_k"]) (ps := ["_law_script", "_law_k"]) T.d_cell_at_607b X G (blt T X G) o_cell_at_607b rfl (by decide) h_cell_at_607b (by
    simp only [b_cell_at_607b, callsSs, callsS, callsE, callsEs, callsO, callsI, and_true, true_and])
theorem k_mixed_8081 (T : Facts K) (X : K.In h) (G : h.Ns mainGlobals mg) : Known P w K mg base 1 "_law_mixed" 2 s_mixed_8081 :=
  known_of (N := ["_law_cell", "_law_k", "_law_number"]) (ps := ["_law_cell", "_law_k"]) T.d_mixed_8081 X G (blt T X G) o_mixed_8081 rfl (by decide) h_mixed_8081 (by
    simp only [b_mixed_8081, callsSs, callsS, callsE, callsEs, callsO, callsI, and_true, true_and])
theorem k_any_bcb6 (T : Facts K) (X : K.In h) (G : h.Ns mainGlobals mg) : Known P w K mg base 2 "_law_any" 3 s_any_bcb6 :=
  known_of (N := ["_law_script", "_law_many", "_law_great", "_law_items_here", "_law_k", "_law_cell", "_law_wide"]) (ps := ["_law_script", "_law_many", "_law_great"]) T.d_any_bcb6 X G (blt T X G) o_any_bcb6 rfl (by decide) h_any_bcb6 (by
    simp only [b_any_bcb6, b_any_bcb6_0, l_any_bcb6_0, callsSs, callsS, callsE, callsEs, callsO, callsI, and_true, true_and]
    and_intros <;> first | exact (k_cell_at_607b T X G).to (by decide) | exact (k_mixed_8081 T X G).to (by decide))
theorem k_items_74ff (T : Facts K) (X : K.In h) (G : h.Ns mainGlobals mg) : Known P w K mg base 3 "_law_items" 3 s_items_74ff :=
  known_of (N := ["_law_script", "_law_most", "_law_great", "_law_first", "_law_many", "_law_factor", "_law_items_here", "_law_k", "_law_number", "_law_cell", "_law_head", "_law_length"]) (ps := ["_law_script", "_law_most", "_law_great"]) T.d_items_74ff X G (blt T X G) o_items_74ff rfl (by decide) h_items_74ff (by
    simp only [b_items_74ff, b_items_74ff_0, l_items_74ff_0, b_items_74ff_1, l_items_74ff_1, callsSs, callsS, callsE, callsEs, callsO, callsI, and_true, true_and]
    and_intros <;> first | exact (k_cell_at_607b T X G).to (by decide) | exact (k_any_bcb6 T X G).to (by decide))
theorem k_set_ddca (T : Facts K) (X : K.In h) (G : h.Ns mainGlobals mg) : Known P w K mg base 1 "_law_set" 2 s_set_ddca :=
  known_of (N := ["_law_items_here", "_law_number", "_law_some", "_law_k"]) (ps := ["_law_items_here", "_law_number"]) T.d_set_ddca X G (blt T X G) o_set_ddca rfl (by decide) h_set_ddca (by
    simp only [b_set_ddca, b_set_ddca_0, l_set_ddca_0, callsSs, callsS, callsE, callsEs, callsO, callsI, and_true, true_and])
theorem k_worth_40ff (T : Facts K) (X : K.In h) (G : h.Ns mainGlobals mg) : Known P w K mg base 1 "worth" 2 s_worth_40ff :=
  known_of (N := ["items", "some", "least", "last", "k"]) (ps := ["items", "some"]) T.d_worth_40ff X G (blt T X G) o_worth_40ff rfl (by decide) h_worth_40ff (by
    simp only [b_worth_40ff, c_worth_40ff_0, c_worth_40ff_1, c_worth_40ff_2, callsSs, callsS, callsE, callsEs, callsO, callsI, and_true, true_and])
theorem k_whole_ddf7 (T : Facts K) (X : K.In h) (G : h.Ns mainGlobals mg) : Known P w K mg base 1 "_law_whole" 1 s_whole_ddf7 :=
  known_of (N := ["_law_found"]) (ps := ["_law_found"]) T.d_whole_ddf7 X G (blt T X G) o_whole_ddf7 rfl (by decide) h_whole_ddf7 (by
    simp only [b_whole_ddf7, callsSs, callsS, callsE, callsEs, callsO, callsI, and_true, true_and])
theorem k_worth_61bf (T : Facts K) (X : K.In h) (G : h.Ns mainGlobals mg) : Known P w K mg base 1 "_law_worth" 2 s_worth_61bf :=
  known_of (N := ["_law_items_here", "_law_some", "_law_least", "_law_last", "_law_lengths", "_law_k"]) (ps := ["_law_items_here", "_law_some"]) T.d_worth_61bf X G (blt T X G) o_worth_61bf rfl (by decide) h_worth_61bf (by
    simp only [b_worth_61bf, b_worth_61bf_0, l_worth_61bf_0, callsSs, callsS, callsE, callsEs, callsO, callsI, and_true, true_and])
theorem fn_law {l : PySem.W.OpenLaw} {fa : Addr} (T : Facts K) (X : K.In h) (G : h.Ns mainGlobals mg) (hfa : mg "law" = some (.ref fa)) :
    ∃ fd : FuncData, (∀ (s : Shared) (u : Value), BindsTo s fd ⟨[u], []⟩ [("_law_script", u)]) ∧ ∀ base : Heap, K.In base → base.Ns mainGlobals mg → FnOk l.prog w K mg base (L2.CX l.prog w) 4 fa fd ["_law_script"] (SpOf K 1 s_law_ec88) :=
  law_fn (N := ["_law_script", "_law_items_here", "_law_cells", "_law_number", "_law_some", "_law_found", "_law_k"]) T.d_law_ec88 X G hfa (fun mg base g x => blt T x g) o_law_ec88 (by decide) h_law_ec88 fun base X G => by
    simp only [b_law_ec88, c_law_ec88_0, b_law_ec88_0, l_law_ec88_0, callsSs, callsS, callsE, callsEs, callsO, callsI, and_true, true_and]
    and_intros <;> first | exact (k_items_74ff T X G).to (by decide) | exact (k_set_ddca T X G).to (by decide) | exact (k_worth_40ff T X G).to (by decide) | exact (k_cell_at_607b T X G).to (by decide) | exact (k_whole_ddf7 T X G).to (by decide) | exact (k_worth_61bf T X G).to (by decide)
theorem all {l : PySem.W.OpenLaw} {fa : Addr} (X : K.In h) (G : h.Ns mainGlobals mg) (hfa : mg "law" = some (.ref fa))
    {f0 : Addr} {od0 an0 : Option Addr} {sl0 : Array (Option Value)} {oc0 kV0 dc0 pm0 cd0 ct0 : Value}
    (a0 : PySem.W.nsIn K mainGlobals "_law_cell_at" = some (some (.ref f0))) (l0 : K.lookup f0 = some ⟨oc0, od0, .func (PySem.W.fnOf "_law_cell_at" "_law_cell_at" (defArgs (top 3)) (defBody (top 3)) (defScope (top 3)) .none kV0 dc0 pm0 an0 cd0 ct0), sl0⟩)
    (c0 : PySem.W.codeIn K cd0 "_law_cell_at" = true) (k0 : PySem.W.keepIn K (.ref f0) = true)
    {f1 : Addr} {od1 an1 : Option Addr} {sl1 : Array (Option Value)} {oc1 kV1 dc1 pm1 cd1 ct1 : Value}
    (a1 : PySem.W.nsIn K mainGlobals "_law_mixed" = some (some (.ref f1))) (l1 : K.lookup f1 = some ⟨oc1, od1, .func (PySem.W.fnOf "_law_mixed" "_law_mixed" (defArgs (top 5)) (defBody (top 5)) (defScope (top 5)) .none kV1 dc1 pm1 an1 cd1 ct1), sl1⟩)
    (c1 : PySem.W.codeIn K cd1 "_law_mixed" = true) (k1 : PySem.W.keepIn K (.ref f1) = true)
    {f2 : Addr} {od2 an2 : Option Addr} {sl2 : Array (Option Value)} {oc2 kV2 dc2 pm2 cd2 ct2 : Value}
    (a2 : PySem.W.nsIn K mainGlobals "_law_any" = some (some (.ref f2))) (l2 : K.lookup f2 = some ⟨oc2, od2, .func (PySem.W.fnOf "_law_any" "_law_any" (defArgs (top 6)) (defBody (top 6)) (defScope (top 6)) .none kV2 dc2 pm2 an2 cd2 ct2), sl2⟩)
    (c2 : PySem.W.codeIn K cd2 "_law_any" = true) (k2 : PySem.W.keepIn K (.ref f2) = true)
    {f3 : Addr} {od3 an3 : Option Addr} {sl3 : Array (Option Value)} {oc3 kV3 dc3 pm3 cd3 ct3 : Value}
    (a3 : PySem.W.nsIn K mainGlobals "_law_items" = some (some (.ref f3))) (l3 : K.lookup f3 = some ⟨oc3, od3, .func (PySem.W.fnOf "_law_items" "_law_items" (defArgs (top 7)) (defBody (top 7)) (defScope (top 7)) .none kV3 dc3 pm3 an3 cd3 ct3), sl3⟩)
    (c3 : PySem.W.codeIn K cd3 "_law_items" = true) (k3 : PySem.W.keepIn K (.ref f3) = true)
    {f4 : Addr} {od4 an4 : Option Addr} {sl4 : Array (Option Value)} {oc4 kV4 dc4 pm4 cd4 ct4 : Value}
    (a4 : PySem.W.nsIn K mainGlobals "_law_set" = some (some (.ref f4))) (l4 : K.lookup f4 = some ⟨oc4, od4, .func (PySem.W.fnOf "_law_set" "_law_set" (defArgs (top 8)) (defBody (top 8)) (defScope (top 8)) .none kV4 dc4 pm4 an4 cd4 ct4), sl4⟩)
    (c4 : PySem.W.codeIn K cd4 "_law_set" = true) (k4 : PySem.W.keepIn K (.ref f4) = true)
    {f5 : Addr} {od5 an5 : Option Addr} {sl5 : Array (Option Value)} {oc5 kV5 dc5 pm5 cd5 ct5 : Value}
    (a5 : PySem.W.nsIn K mainGlobals "worth" = some (some (.ref f5))) (l5 : K.lookup f5 = some ⟨oc5, od5, .func (PySem.W.fnOf "worth" "worth" (defArgs (top 1)) (defBody (top 1)) (defScope (top 1)) .none kV5 dc5 pm5 an5 cd5 ct5), sl5⟩)
    (c5 : PySem.W.codeIn K cd5 "worth" = true) (k5 : PySem.W.keepIn K (.ref f5) = true)
    {f6 : Addr} {od6 an6 : Option Addr} {sl6 : Array (Option Value)} {oc6 kV6 dc6 pm6 cd6 ct6 : Value}
    (a6 : PySem.W.nsIn K mainGlobals "_law_whole" = some (some (.ref f6))) (l6 : K.lookup f6 = some ⟨oc6, od6, .func (PySem.W.fnOf "_law_whole" "_law_whole" (defArgs (top 4)) (defBody (top 4)) (defScope (top 4)) .none kV6 dc6 pm6 an6 cd6 ct6), sl6⟩)
    (c6 : PySem.W.codeIn K cd6 "_law_whole" = true) (k6 : PySem.W.keepIn K (.ref f6) = true)
    {f7 : Addr} {od7 an7 : Option Addr} {sl7 : Array (Option Value)} {oc7 kV7 dc7 pm7 cd7 ct7 : Value}
    (a7 : PySem.W.nsIn K mainGlobals "_law_worth" = some (some (.ref f7))) (l7 : K.lookup f7 = some ⟨oc7, od7, .func (PySem.W.fnOf "_law_worth" "_law_worth" (defArgs (top 9)) (defBody (top 9)) (defScope (top 9)) .none kV7 dc7 pm7 an7 cd7 ct7), sl7⟩)
    (c7 : PySem.W.codeIn K cd7 "_law_worth" = true) (k7 : PySem.W.keepIn K (.ref f7) = true)
    {f8 : Addr} {od8 an8 : Option Addr} {sl8 : Array (Option Value)} {oc8 kV8 dc8 pm8 cd8 ct8 : Value}
    (a8 : PySem.W.nsIn K mainGlobals "law" = some (some (.ref f8))) (l8 : K.lookup f8 = some ⟨oc8, od8, .func (PySem.W.fnOf "law" "law" (defArgs (top 10)) (defBody (top 10)) (defScope (top 10)) .none kV8 dc8 pm8 an8 cd8 ct8), sl8⟩)
    (c8 : PySem.W.codeIn K cd8 "law" = true) (k8 : PySem.W.keepIn K (.ref f8) = true)
    (z0 : PySem.W.nsIn K mainGlobals "len" = some none)
    (z1 : PySem.W.nsIn K mainGlobals "tuple" = some none)
    (z2 : PySem.W.nsIn K mainGlobals "list" = some none)
    (z3 : PySem.W.nsIn K mainGlobals "sorted" = some none)
    (z4 : PySem.W.nsIn K mainGlobals "sum" = some none)
    (z5 : PySem.W.nsIn K mainGlobals "min" = some none)
    (z6 : PySem.W.nsIn K mainGlobals "max" = some none)
    (z7 : PySem.W.nsIn K mainGlobals "all" = some none)
    (z8 : PySem.W.nsIn K mainGlobals "any" = some none)
    (z9 : PySem.W.nsIn K mainGlobals "int" = some none)
    (z10 : PySem.W.nsIn K mainGlobals "str" = some none)
    (z11 : PySem.W.nsIn K mainGlobals "abs" = some none)
    (z12 : PySem.W.nsIn K mainGlobals "range" = some none)
    (z13 : PySem.W.nsIn K mainGlobals "enumerate" = some none)
    (z14 : PySem.W.nsIn K mainGlobals "zip" = some none)
    (z15 : PySem.W.nsIn K mainGlobals "reversed" = some none)
    (z16 : PySem.W.nsIn K mainGlobals "isinstance" = some none)
    (z17 : PySem.W.nsIn K mainGlobals "bool" = some none)
    (z18 : PySem.W.nsIn K mainGlobals "set" = some none)
    (z19 : PySem.W.nsIn K mainGlobals "dict" = some none)
    : ∃ fd : FuncData, (∀ (s : Shared) (u : Value), BindsTo s fd ⟨[u], []⟩ [("_law_script", u)]) ∧ ∀ base : Heap, K.In base → base.Ns mainGlobals mg → FnOk l.prog w K mg base (L2.CX l.prog w) 4 fa fd ["_law_script"] (SpOf K 1 s_law_ec88) :=
  fn_law ⟨defIn (fun _ _ _ _ _ _ us hl => match us, hl with | [_, _], _ => rfl) a0 l0 c0 k0, defIn (fun _ _ _ _ _ _ us hl => match us, hl with | [_, _], _ => rfl) a1 l1 c1 k1, defIn (fun _ _ _ _ _ _ us hl => match us, hl with | [_, _, _], _ => rfl) a2 l2 c2 k2, defIn (fun _ _ _ _ _ _ us hl => match us, hl with | [_, _, _], _ => rfl) a3 l3 c3 k3, defIn (fun _ _ _ _ _ _ us hl => match us, hl with | [_, _], _ => rfl) a4 l4 c4 k4, defIn (fun _ _ _ _ _ _ us hl => match us, hl with | [_, _], _ => rfl) a5 l5 c5 k5, defIn (fun _ _ _ _ _ _ us hl => match us, hl with | [_], _ => rfl) a6 l6 c6 k6, defIn (fun _ _ _ _ _ _ us hl => match us, hl with | [_, _], _ => rfl) a7 l7 c7 k7, defIn (fun _ _ _ _ _ _ us hl => match us, hl with | [_], _ => rfl) a8 l8 c8 k8, fun x hx => by
    simp only [bltNames, List.mem_cons, List.not_mem_nil, or_false] at hx
    rcases hx with rfl | rfl | rfl | rfl | rfl | rfl | rfl | rfl | rfl | rfl | rfl | rfl | rfl | rfl | rfl | rfl | rfl | rfl | rfl | rfl <;> assumption⟩ X G hfa
end
end K50

open PySem PySem.W PyProof.Rows in
set_option maxRecDepth 100000 in
set_option maxHeartbeats 0 in
theorem PySem.Challenge.cw_shoprow_k50_sets_and_their_worth_holds : PySem.Challenge.rw_shoprow_k50_sets_and_their_worth.Holds := by
  w_on; o_law; k_head; (case hw => w_witness2)
  k_fill
  refine PF.law_walk (l := PySem.Challenge.rw_shoprow_k50_sets_and_their_worth) (k := 4) (x := "_law_script") (f := K50.s_law_ec88) rfl rfl ⟨rfl, by decide, by decide⟩ (fun w h Y => PySem.W.kIn_of Y) ?F K50.main
  case F =>
    intro w mg fa h KX G hmg
    refine' K50.all KX G hmg ?a0 ?l0 ?c0 ?k0 ?a1 ?l1 ?c1 ?k1 ?a2 ?l2 ?c2 ?k2 ?a3 ?l3 ?c3 ?k3 ?a4 ?l4 ?c4 ?k4 ?a5 ?l5 ?c5 ?k5 ?a6 ?l6 ?c6 ?k6 ?a7 ?l7 ?c7 ?k7 ?a8 ?l8 ?c8 ?k8 ?z0 ?z1 ?z2 ?z3 ?z4 ?z5 ?z6 ?z7 ?z8 ?z9 ?z10 ?z11 ?z12 ?z13 ?z14 ?z15 ?z16 ?z17 ?z18 ?z19
    (case a0 => k_is)
    (case l0 => k_is)
    (case c0 => k_is)
    (case k0 => k_is)
    (case a1 => k_is)
    (case l1 => k_is)
    (case c1 => k_is)
    (case k1 => k_is)
    (case a2 => k_is)
    (case l2 => k_is)
    (case c2 => k_is)
    (case k2 => k_is)
    (case a3 => k_is)
    (case l3 => k_is)
    (case c3 => k_is)
    (case k3 => k_is)
    (case a4 => k_is)
    (case l4 => k_is)
    (case c4 => k_is)
    (case k4 => k_is)
    (case a5 => k_is)
    (case l5 => k_is)
    (case c5 => k_is)
    (case k5 => k_is)
    (case a6 => k_is)
    (case l6 => k_is)
    (case c6 => k_is)
    (case k6 => k_is)
    (case a7 => k_is)
    (case l7 => k_is)
    (case c7 => k_is)
    (case k7 => k_is)
    (case a8 => k_is)
    (case l8 => k_is)
    (case c8 => k_is)
    (case k8 => k_is)
    (case z0 => k_is)
    (case z1 => k_is)
    (case z2 => k_is)
    (case z3 => k_is)
    (case z4 => k_is)
    (case z5 => k_is)
    (case z6 => k_is)
    (case z7 => k_is)
    (case z8 => k_is)
    (case z9 => k_is)
    (case z10 => k_is)
    (case z11 => k_is)
    (case z12 => k_is)
    (case z13 => k_is)
    (case z14 => k_is)
    (case z15 => k_is)
    (case z16 => k_is)
    (case z17 => k_is)
    (case z18 => k_is)
    (case z19 => k_is)
