import PyProof.Rows.All
import Wide.All
import OpenK.AllK
import Wide.FinOn
import HandS.ForMost
import HandS.ForExc
import HandS.Deep
import HandS.IsInst
import HandS.TupAny
import HandS.TupMul
import HandS.SetFor
import HandS.Conv
import HandS.Flow
import HandS.Wide
import HandS.CallLocal
import HandS.Zip
import KE.KDictCopyH
import KE.SortData
import KE.KDictKeyed
import KE.KDictWalk
import HandS.Walk
import HandS.Style
import HandS.HeadHook1
import HandS.Defaults
import HandS.HeadHook2
import HandS.HeadEnd
import HandS.Head2
import HandS.TupLe
import HandS.ExcIs
import HandS.Strs
import KE.DataFind
import PySem.Challenge.RW_sumsheets_k14_whole_of
set_option Elab.async false
set_option linter.all false
set_option maxRecDepth 100000
set_option maxHeartbeats 4000000
/-! Ss, part A: plain data D, the small language IR, its evaluator. No program in sight. -/
namespace Ss
open PySem L2

/-- data: what a program's values are worth -/
inductive D where
  | non | bl (b : Bool) | int (i : Int) | str (x : Str) | lst (xs : List D) | tup (xs : List D) | dic (ks vs : List D) | fn (f : Str) | exn (c : Str) | town | scr (ns : List Int) | obj (i : Nat) | dk (ks : List (Sum Int Str)) (vs : List D)

/-- a thing that may be changed -/
inductive Ob where
  | gone | lst (xs : List D) | dk (ks : List (Sum Int Str)) (vs : List D) | ins (c : Str) (fs : List (Str × D))
/-- how many draws there were; the things that may be changed -/
structure S where
  n : Nat
  os : List Ob
/-- an end: a value and the state; an own error; or nothing is known -/
inductive Res (α : Type) where
  | ok (a : α) (n : S) | exc (c : Str) (n : S) | bad
abbrev M (α : Type) := S → Res α
def ret {α : Type} (a : α) : M α := fun n => .ok a n
def bnd {α β : Type} (m : M α) (k : α → M β) : M β := fun n => match m n with
  | .ok a n' => k a n'
  | .exc c n' => .exc c n'
  | .bad => .bad
def bad {α : Type} : M α := fun _ => .bad
def lft {α : Type} : Option α → M α
  | some a => ret a
  | none => bad
def raz {α : Type} (c : Str) : M α := fun n => .exc c n
/-- where no error may leave -/
def sup {α : Type} (m : M α) : M α := fun n => match m n with
  | .exc _ _ => .bad
  | r => r

theorem bnd_ok {α β : Type} {m : M α} {k : α → M β} {n n' : S} {a : α} (h : m n = .ok a n') : bnd m k n = k a n' := by simp only [bnd, h]
theorem bnd_exc {α β : Type} {m : M α} {k : α → M β} {n n' : S} {c : Str} (h : m n = .exc c n') : bnd m k n = .exc c n' := by simp only [bnd, h]
theorem bnd_bad {α β : Type} {m : M α} {k : α → M β} {n : S} (h : m n = .bad) : bnd m k n = .bad := by simp only [bnd, h]
@[simp] theorem ret_bnd {α β : Type} (a : α) (k : α → M β) : bnd (ret a) k = k a := Eq.trans rfl rfl
@[simp] theorem bad_bnd {α β : Type} (k : α → M β) : bnd (bad : M α) k = bad := Eq.trans rfl rfl
@[simp] theorem raz_bnd {α β : Type} (c : Str) (k : α → M β) : bnd (raz c : M α) k = raz c := Eq.trans rfl rfl
@[simp] theorem lft_some {α : Type} (a : α) : lft (some a) = ret a := Eq.trans rfl rfl
@[simp] theorem lft_none {α : Type} : lft (none : Option α) = bad := Eq.trans rfl rfl
@[simp] theorem sup_ret {α : Type} (a : α) : sup (ret a) = ret a := Eq.trans rfl rfl
theorem bnd_assoc {α β γ : Type} (m : M α) (k : α → M β) (l : β → M γ) : bnd (bnd m k) l = bnd m fun a => bnd (k a) l := by
  funext n; simp only [bnd]; cases m n <;> rfl
@[simp] theorem bnd_ret {α : Type} (m : M α) : bnd m ret = m := by
  funext n; simp only [bnd]; cases m n <;> rfl

/-! ### equality of data, as Python has it -/
mutual
def D.eqv : D → D → Bool
  | .non, .non => true
  | .bl a, .bl b => a == b
  | .bl a, .int j => (if a then 1 else 0) == j
  | .int i, .bl b => i == (if b then 1 else 0)
  | .int i, .int j => i == j
  | .str x, .str y => x == y
  | .lst xs, .lst ys => D.eqvs xs ys
  | .tup xs, .tup ys => D.eqvs xs ys
  | _, _ => false
def D.eqvs : List D → List D → Bool
  | [], [] => true
  | x :: xs, y :: ys => D.eqv x y && D.eqvs xs ys
  | _, _ => false
end
mutual
def D.toP : D → PyData
  | .non => .none
  | .bl b => .bool b
  | .int i => .int i
  | .str x => .str x
  | .lst xs => .list (D.toPs xs)
  | .tup xs => .tuple (D.toPs xs)
  | _ => .none
def D.toPs : List D → List PyData
  | [] => []
  | x :: xs => D.toP x :: D.toPs xs
end
mutual
/-- made of None, truths, numbers, texts, lists, tuples alone -/
def D.pl : D → Bool
  | .non => true
  | .bl _ => true
  | .int _ => true
  | .str x => PyData.strOk x
  | .lst xs => D.pls xs
  | .tup xs => D.pls xs
  | _ => false
def D.pls : List D → Bool
  | [] => true
  | x :: xs => D.pl x && D.pls xs
end
mutual
def D.dep : D → Nat
  | .lst xs => D.deps xs + 1
  | .tup xs => D.deps xs + 1
  | _ => 0
def D.deps : List D → Nat
  | [] => 0
  | x :: xs => max (D.dep x) (D.deps xs)
end
/-- may be compared -/
def D.okE (d : D) : Bool := d.pl && decide (d.dep ≤ 60)

/-! ### truth, items, places, cuts -/
def tru : D → Option Bool
  | .non => some false
  | .bl b => some b
  | .int i => some (i != 0)
  | .str x => if x.length ≤ sizeLine then some ((x.length : Int) != 0) else none
  | .lst xs => some (!xs.isEmpty)
  | .tup xs => some (!xs.isEmpty)
  | .scr ns => some (!ns.isEmpty)
  | _ => none
def sgn (c : Nat) : D := .str ⟨#[c]⟩
def items : D → Option (List D)
  | .lst xs => some xs
  | .tup xs => some xs
  | .str x => if x.length ≤ sizeLine then some (x.cps.toList.map sgn) else none
  | _ => none
def cutL {α : Type} (xs : List α) (lo hi : Option Int) : List α := (xs.drop (HT.sIx xs.length 0 lo)).take (HT.sIx xs.length xs.length hi - HT.sIx xs.length 0 lo)
def part : D → Option (Option Int)
  | .int i => some (some i)
  | _ => none
def cutD (d : D) (lo hi : Option Int) : Option D := match d with
  | .lst xs => some (.lst (cutL xs lo hi))
  | .tup xs => some (.tup (cutL xs lo hi))
  | .str x => if x.length ≤ sizeLine then some (.str (cutS x lo hi)) else none
  | _ => none
def idxD : D → D → Option D
  | .lst xs, .int i => atI xs i
  | .tup xs, .int i => atI xs i
  | .str x, .int i => if x.length ≤ sizeLine then (atI x.cps.toList i).map sgn else none
  | .scr ns, .int i => (atI ns i).map D.int
  | _, _ => none
def lenD : D → Option Int
  | .lst xs => some xs.length
  | .tup xs => some xs.length
  | .str x => if x.length ≤ sizeLine then some x.length else none
  | .scr ns => some ns.length
  | _ => none

/-! ### operators -/
inductive Op where
  | add | sub | mul | fdiv | mod | pow
  deriving DecidableEq
def w64 (i : Int) : Bool := decide (-(2 ^ 64) < i) && decide (i < 2 ^ 64)
def Op.f : Op → D → D → Option D
  | .add, .int i, .int j => some (.int (i + j))
  | .add, .str x, .str y => if x.length + y.length ≤ sizeLine then some (.str (x ++ y)) else none
  | .add, .lst xs, .lst ys => if xs.length + ys.length ≤ sizeLine then some (.lst (xs ++ ys)) else none
  | .add, .tup xs, .tup ys => if xs.length + ys.length ≤ sizeLine then some (.tup (xs ++ ys)) else none
  | .sub, .int i, .int j => some (.int (i - j))
  | .mul, .int i, .int j => if w64 i || w64 j then some (.int (i * j)) else none
  | .mul, .lst xs, .int k => if 0 ≤ k ∧ k < 2 ^ 62 ∧ xs.length * k.toNat ≤ sizeLine then some (.lst (List.replicate k.toNat xs).flatten) else none
  | .fdiv, .int i, .int j => if 0 < j ∧ j < 2 ^ 200 then some (.int (i / j)) else if j < 0 ∧ -j < 2 ^ 200 then some (.int (i.fdiv j)) else none
  | .mod, .int i, .int j => if 0 < j then some (.int (i % j)) else none
  | .pow, .int i, .int j => if 0 ≤ j ∧ j ≤ 1000000 ∧ i.natAbs < 2 ^ 64 then some (.int (i ^ j.toNat)) else none
  | _, _, _ => none
inductive Cm where
  | eq | ne | lt | le | gt | ge | inn | nin
  deriving DecidableEq
def sgnOf (x : Str) : Option Nat := match x.cps.toList with
  | [c] => some c
  | _ => none
def inD : D → D → Option Bool
  | d, .lst ys => if d.okE && (D.lst ys).okE then some (ys.any fun z => D.eqv z d) else none
  | d, .tup ys => if d.okE && (D.tup ys).okE then some (ys.any fun z => D.eqv z d) else none
  | .str x, .str y => (sgnOf x).map fun c => decide (c ∈ y.cps.toList)
  | _, _ => none
def Cm.f : Cm → D → D → Option Bool
  | .eq, d, e => if d.okE && e.okE then some (D.eqv d e) else none
  | .ne, d, e => if d.okE && e.okE then some (!D.eqv d e) else none
  | .lt, .int i, .int j => some (decide (i < j))
  | .le, .int i, .int j => some (decide (i ≤ j))
  | .gt, .int i, .int j => some (decide (j < i))
  | .ge, .int i, .int j => some (decide (j ≤ i))
  | .inn, d, e => inD d e
  | .nin, d, e => (inD d e).map fun b => !b
  | _, _, _ => none

/-! ### built-ins by name -/
inductive Ty where
  | int | bool | str | tuple | list
  deriving DecidableEq
def Ty.f : Ty → D → Option Bool
  | t, .non => some false
  | t, .bl _ => some (decide (t = .int ∨ t = .bool))
  | t, .int _ => some (decide (t = .int))
  | t, .str _ => some (decide (t = .str))
  | t, .lst _ => some (decide (t = .list))
  | t, .tup _ => some (decide (t = .tuple))
  | _, _ => none
inductive Bi where
  | len | all | max2 | int | list | tuple | abs | min2 | sum | max1 | min1 | any | srt
  deriving DecidableEq
def nums : List D → Option (List Int)
  | [] => some []
  | .int i :: r => (nums r).map fun is => i :: is
  | _ :: _ => none
def maxL : List Int → Option Int
  | [] => none
  | x :: xs => some (xs.foldl max x)
def minL : List Int → Option Int
  | [] => none
  | x :: xs => some (xs.foldl min x)
/-- may be sorted -/
def srtB (ds : List D) : Bool := D.pls ds && decide (D.deps ds ≤ 60) && (ds.all fun d => ds.all fun e => PySem.W.alike d.toP e.toP) &&
  ((ds.all fun d => match d with
    | .tup (_ :: _) => true
    | _ => false) || ds.all fun d => match d with
    | .int _ => true
    | .str _ => true
    | .lst _ => true
    | _ => false)
def srtL (ds : List D) : List D := ds.mergeSort (PySem.W.dataLe false D.toP)
def bools : List D → Option (List Bool)
  | [] => some []
  | .bl b :: r => (bools r).map fun bs => b :: bs
  | _ :: _ => none
def Bi.f : Bi → List D → Option D
  | .len, [d] => (lenD d).map D.int
  | .all, [.lst ds] => (bools ds).map fun bs => .bl (bs.all id)
  | .max2, [.int i, .int j] => some (.int (if j > i then j else i))
  | .int, [.int i] => some (.int i)
  | .int, [.bl b] => some (.int (if b then 1 else 0))
  | .list, [.lst xs] => some (.lst xs)
  | .list, [.tup xs] => some (.lst xs)
  | .tuple, [.lst xs] => some (.tup xs)
  | .tuple, [.tup xs] => some (.tup xs)
  | .abs, [.int i] => some (.int (if i < 0 then -i else i))
  | .min2, [.int i, .int j] => some (.int (if j < i then j else i))
  | .sum, [.lst ds] => (nums ds).map fun ns => .int ns.sum
  | .max1, [.lst ds] => ((nums ds).bind maxL).map D.int
  | .min1, [.lst ds] => ((nums ds).bind minL).map D.int
  | .any, [.lst ds] => (bools ds).map fun bs => .bl (bs.any id)
  | .srt, [.lst ds] => if srtB ds then some (.lst (srtL ds)) else none
  | _, _ => none
/-! ### keys of dicts: tuples, nested -/
mutual
def keyOf : D → Option NestedKey
  | .non => some .none
  | .bl b => some (.num (if b then 1 else 0))
  | .int i => some (.num i)
  | .str x => some (.text x)
  | .tup ds => (keysOf ds).map NestedKey.tup
  | _ => none
def keysOf : List D → Option (List NestedKey)
  | [] => some []
  | d :: ds => (keyOf d).bind fun k => (keysOf ds).map fun r => k :: r
end
def topKey : D → Option NestedKey
  | .tup ds => (keyOf (.tup ds)).bind fun k => if k.depth ≤ 8 then some k else none
  | _ => none
def topKeys : List D → Option (List NestedKey)
  | [] => some []
  | d :: ds => (topKey d).bind fun k => (topKeys ds).map fun r => k :: r
/-- ks, vs with v put at k -/
def dput : List D → List D → NestedKey → D → D → Option (List D × List D)
  | [], [], _, d, v => some ([d], [v])
  | e :: ks, w :: vs, k, d, v => (topKey e).bind fun k' => if k' = k then some (e :: ks, v :: vs) else (dput ks vs k d v).map fun p => (e :: p.1, w :: p.2)
  | _, _, _, _, _ => none
def dget : List D → List D → NestedKey → Option D
  | e :: ks, w :: vs, k => (topKey e).bind fun k' => if k' = k then some w else dget ks vs k
  | _, _, _ => none
def negD : D → Option D
  | .int i => some (.int (-i))
  | _ => none
def revT : D → Option D
  | .tup xs => some (.tup xs.reverse)
  | _ => none
def revD : D → Option D
  | .lst xs => some (.lst xs.reverse)
  | _ => none
/-- a display of texts with their values, one taken -/
def selD : List Str → List D → D → Option D
  | k :: ks, v :: vs, .str x => if k = x then some v else selD ks vs (.str x)
  | _, _, _ => none
def txts : List D → Option (List Str)
  | [] => some []
  | .str x :: r => (txts r).map fun xs => x :: xs
  | _ :: _ => none
/-- a thing by which a set tells its members apart -/
def leaf : D → Option Leaf
  | .non => some .none
  | .bl b => some (.num (if b then 1 else 0))
  | .int i => some (.num i)
  | .str x => some (.text x)
  | _ => none
def leaves : List D → Option (List Leaf)
  | [] => some []
  | d :: r => (leaf d).bind fun x => (leaves r).map fun xs => x :: xs
/-- how many unlike ones among the first i -/
def dcn (xs : List Leaf) : Nat → Nat
  | 0 => 0
  | i + 1 => if (xs.take i).any (fun z => decide (z = xs.getD i .none)) then dcn xs i else dcn xs i + 1
/-- the first place of an equal one -/
def fndD (x y : D) : Option D := match x with
  | .lst ds => if (y.okE && (D.lst ds).okE) = true then (ds.findIdx? fun z => D.eqv z y).map fun j => .int (j : Nat) else none
  | _ => none
def joinS (z : Str) (ds : List D) : Option D := (txts ds).bind fun xs => if (xs.map (·.length)).sum + xs.length * z.length ≤ 16777216 then some (.str (Txt.join z xs)) else none
def rngL (lo hi : Int) : List D := (List.range (hi - lo).toNat).map fun (k : Nat) => D.int (lo + (k : Int))
def rngD : List D → Option (List D)
  | [.int j] => if -(2 ^ 62) ≤ j ∧ j ≤ 16777216 then some (rngL 0 j) else none
  | [.int i, .int j] => if -(2 ^ 62) ≤ i ∧ i ≤ 16777216 ∧ -(2 ^ 62) ≤ j ∧ j ≤ 16777216 ∧ j - i ≤ 16777216 then some (rngL i j) else none
  | _ => none

/-! ### the language -/
/-- a def by its name, with what it comes to -/
structure Fn where
  name : Str
  ar : Nat
  sem : List D → M D
/-- where a value goes: one name's slot, several -/
inductive Tg where
  | one (i : Nat) | many (is : List Nat)
/-- a further form of an expression: how it is taken apart, what it comes to -/
structure Px where
  fl : Bool
  pre : D → Bool
  dec : Scope → Expr → Option (List Expr)
  sem : List D → M D
/-- .. of what is walked -/
structure Ix where
  dec : Scope → Expr → Option (List Expr)
  sem : List D → M (List D)
/-- .. of a statement -/
structure Sx where
  dec : Scope → Stmt → Option (List Expr)
  sem : List D → M Unit
inductive IR where
  | var (i : Nat) | own (i : Nat) | lit (d : D) | glob (x : Str) (d : D)
  | tup (es : List IR) | lst (es : List IR)
  | op (o : Op) (a b : IR) | cmp (o : Cm) (a b : IR) | chain (a b c : IR) | isn (neg : Bool) (a : IR)
  | bop (an : Bool) (es : List IR) | nt (a : IR) | ite (c a b : IR)
  | idx (a b : IR) | slc (a : IR) (lo hi : Option IR)
  | call (g : Fn) (es : List IR) | callv (i : Nat) (gs : List Fn) (es : List IR)
  | bi (b : Bi) (es : List IR) | isi (t : Ty) (a : IR) | lens (a : IR) | join (z a : IR) | ixm (a b : IR)
  | rng (es : List IR) | lrng (es : List IR) | tlen (i : Nat) | dkl (i : Nat)
  | neg (a : IR) | rev (a : IR) | revt (a : IR) | dsel (ks : List Str) (es : List IR) (a : IR) | dgi (i : Nat) (a : IR)
  | comp (elt : IR) (tg : Tg) (it : IR) (ifs : List IR) (vs : List Nat)
  | px (x : Px) (es : List IR) | pxn (x : Px) (es : List IR) | itx (x : Ix) (es : List IR)
/-! ### what it comes to -/
/-- a slot: nothing known; data; a list, a dict that is this frame's own -/
inductive Sl where
  | emp | dat (d : D) | own (xs : List D) | odc (ks vs : List D)
def Sl.mut : Sl → Bool
  | .own _ => true
  | .odc _ _ => true
  | _ => false
abbrev Env := List Sl
def put (ρ : Env) (i : Nat) (s : Sl) : Env := ρ.set i s
def wip (ρ : Env) : List Nat → Env
  | [] => ρ
  | v :: vs => (wip ρ vs).set v .emp
def puts (ρ : Env) : List Nat → List D → Option Env
  | [], [] => some ρ
  | i :: is, d :: ds => puts (ρ.set i (.dat d)) is ds
  | _, _ => none
def Tg.put : Tg → D → Env → Option Env
  | .one i, d, ρ => some (ρ.set i (.dat d))
  | .many is, .tup ds, ρ => puts ρ is ds
  | _, _, _ => none
def getD (ρ : Env) (i : Nat) : Option D := match ρ[i]? with
  | some (.dat d) => some d
  | _ => none
def getO (ρ : Env) (i : Nat) : Option (List D) := match ρ[i]? with
  | some (.own xs) => some xs
  | _ => none
def getK (ρ : Env) (i : Nat) : Option (List D × List D) := match ρ[i]? with
  | some (.odc ks vs) => some (ks, vs)
  | _ => none
/-- a list comprehension's turns -/
def lcs (f : D → M (Option D)) : List D → M (List D)
  | [] => ret []
  | d :: ds => bnd (sup (f d)) fun o => bnd (lcs f ds) fun r => ret (match o with
    | some x => x :: r
    | none => r)
/-- only of a list -/
def lstM (x : D) (k : M D) : M D := match x with
  | .lst _ => k
  | _ => bad
def truM (m : M D) : M Bool := bnd m fun d => lft (tru d)
mutual
def ev : IR → Env → M D
  | .var i, ρ => lft (getD ρ i)
  | .own i, ρ => lft ((getO ρ i).map D.lst)
  | .lit d, _ => ret d
  | .glob _ d, _ => ret d
  | .tup es, ρ => bnd (evs es ρ) fun ds => if ds.length ≤ sizeLine then ret (.tup ds) else bad
  | .lst es, ρ => bnd (evs es ρ) fun ds => if ds.length ≤ sizeLine then ret (.lst ds) else bad
  | .op o a b, ρ => bnd (ev a ρ) fun x => bnd (ev b ρ) fun y => lft (o.f x y)
  | .cmp o a b, ρ => bnd (ev a ρ) fun x => bnd (ev b ρ) fun y => lft ((o.f x y).map D.bl)
  | .chain a b c, ρ => bnd (ev a ρ) fun x => bnd (ev b ρ) fun y => bnd (lft (Cm.f .le x y)) fun k => if k then bnd (ev c ρ) fun z => lft ((Cm.f .le y z).map D.bl) else ret (.bl false)
  | .isn neg a, ρ => bnd (ev a ρ) fun x => ret (.bl (match x with
    | .non => !neg
    | _ => neg))
  | .bop an es, ρ => evb an es ρ
  | .nt a, ρ => bnd (ev a ρ) fun x => lft ((tru x).map fun b => D.bl (!b))
  | .ite c a b, ρ => bnd (ev c ρ) fun x => bnd (lft (tru x)) fun k => if k then ev a ρ else ev b ρ
  | .idx a b, ρ => bnd (ev a ρ) fun x => bnd (ev b ρ) fun y => lft (idxD x y)
  | .slc a lo hi, ρ => bnd (ev a ρ) fun x => bnd (evo lo ρ) fun l => bnd (evo hi ρ) fun h => lft (cutD x l h)
  | .call g es, ρ => bnd (evs es ρ) fun ds => if ds.length = g.ar then g.sem ds else bad
  | .callv i gs es, ρ => match getD ρ i with
    | some (.fn x) => (match gs.find? fun g => g.name == x with
      | some g => bnd (evs es ρ) fun ds => if ds.length = g.ar then g.sem ds else bad
      | none => bad)
    | _ => bad
  | .bi b es, ρ => bnd (evs es ρ) fun ds => lft (b.f ds)
  | .isi t a, ρ => bnd (ev a ρ) fun x => lft ((t.f x).map D.bl)
  | .lens a, ρ => bnd (ev a ρ) fun x => match x with
    | .lst ds => lft ((leaves ds).bind fun xs => if xs.length ≤ 4000 then some (D.int (dcn xs xs.length)) else none)
    | .tup ds => lft ((leaves ds).bind fun xs => if xs.length ≤ 4000 then some (D.int (dcn xs xs.length)) else none)
    | _ => bad
  | .join z a, ρ => bnd (ev z ρ) fun s => match s with
    | .str z => bnd (ev a ρ) fun x => (match x with
      | .lst ds => lft (joinS z ds)
      | _ => bad)
    | _ => bad
  | .ixm a b, ρ => bnd (ev a ρ) fun x => lstM x (bnd (ev b ρ) fun y => lft (fndD x y))
  | .rng _, _ => bad
  | .lrng es, ρ => bnd (evs es ρ) fun ds => lft ((rngD ds).map D.lst)
  | .tlen i, ρ => bnd (lft (getD ρ i)) fun x => match x with
    | .town => fun n => .ok (.int n.n) n
    | _ => bad
  | .dkl i, ρ => lft ((getK ρ i).map fun p => D.lst p.1)
  | .neg a, ρ => bnd (ev a ρ) fun x => lft (negD x)
  | .rev a, ρ => bnd (ev a ρ) fun x => lft (revD x)
  | .revt a, ρ => bnd (ev a ρ) fun x => lft (revT x)
  | .dsel ks es a, ρ => bnd (evs es ρ) fun ds => bnd (ev a ρ) fun x => lft (selD ks ds x)
  | .dgi i a, ρ => bnd (lft (getK ρ i)) fun p => bnd (ev a ρ) fun d => lft ((topKey d).bind fun q => dget p.1 p.2 q)
  | .comp elt tg it ifs vs, ρ => bnd (match it with
      | .rng es => bnd (evs es ρ) fun ds => lft (rngD ds)
      | .itx x es => bnd (evs es ρ) x.sem
      | it => bnd (ev it ρ) fun x => lft (items x)) fun ds =>
    bnd (lcs (fun d => bnd (lft (tg.put d (wip ρ vs))) fun ρ2 => bnd (evb true ifs ρ2) fun c => bnd (lft (tru c)) fun k => if k then bnd (ev elt ρ2) fun x => ret (some x) else ret none) ds) fun xs => ret (.lst xs)
  | .px x es, ρ => bnd (evp x.pre es ρ) x.sem
  | .pxn x es, ρ => bnd (evp x.pre es ρ) x.sem
  | .itx _ _, _ => bad
def evs : List IR → Env → M (List D)
  | [], _ => ret []
  | e :: es, ρ => bnd (ev e ρ) fun d => bnd (evs es ρ) fun ds => ret (d :: ds)
def evp (pre : D → Bool) : List IR → Env → M (List D)
  | [], _ => ret []
  | e :: es, ρ => bnd (ev e ρ) fun d => if pre d then bnd (evs es ρ) fun ds => ret (d :: ds) else bad
def evo : Option IR → Env → M (Option Int)
  | none, _ => ret none
  | some e, ρ => bnd (ev e ρ) fun x => lft (part x)
def evb (an : Bool) : List IR → Env → M D
  | [], _ => ret (.bl an)
  | [e], ρ => ev e ρ
  | e :: es, ρ => bnd (ev e ρ) fun x => bnd (lft (tru x)) fun k => if k == an then evb an es ρ else ret x
end
def evi (it : IR) (ρ : Env) : M (List D) := match it with
  | .rng es => bnd (evs es ρ) fun ds => lft (rngD ds)
  | .itx x es => bnd (evs es ρ) x.sem
  | it => bnd (ev it ρ) fun x => lft (items x)

end Ss
/-! Ss, part B: how data lie in the abstract heap; slots; what evaluation may change. -/
namespace Ss
open PySem L2

/-- the program's fixed part -/
structure Gd where
  P : Program
  w : World
  K : PySem.W.Frag
  mg : Str → Option Value
  base : Heap
/-- the lists that nobody changes any more -/
structure FS where
  on : Addr → Prop
  ob : List Addr
instance : CoeFun FS fun _ => Addr → Prop := ⟨FS.on⟩
/-- one more -/
def FS.add (F : FS) (p : Addr) : FS := ⟨fun a => F a ∨ a = p, F.ob⟩
def FS.no : FS := ⟨fun _ => False, []⟩
/-- one more thing that may be changed -/
def FS.reg (F : FS) (p : Addr) : FS := ⟨F.on, F.ob ++ [p]⟩
theorem FS.add_old {F : FS} {p a : Addr} (h : F a) : F.add p a := .inl h
theorem FS.add_new {F : FS} {p : Addr} : F.add p p := .inr rfl
/-- a caught error -/
def XO (cls : Value) (a : Addr) : HO := .ext fun h => ∃ (oe : Obj) (vs : Array Value), h.get? a = some oe ∧ Zc cls none oe ∧ oe.data = .fields vs

/-- a dict's own object: its entries -/
def DX (P : Program) (w : World) (a : Addr) (xs : List (NestedKey × Addr × Value)) : HO := .ext fun h => ∃ o es ep, h.get? a = some o ∧ o.ExactDict ∧ o.data = .dict es ep ∧ es.toList = xs.map (entryOfKey (nestedKind P w))
structure DxOk (xs : List (NestedKey × Addr × Value)) (a : Addr) : Prop where
  sys : (a == sysModules) = false
  len : xs.length ≤ sizeLine
  nd : (xs.map (·.1)).Nodup
mutual
def Rp (g : Gd) (H : Hp) (F : FS) (T : Option Addr) : D → V → Prop
  | .non, v => v = .non
  | .bl b, v => v = .bl b
  | .int i, v => v = .int i
  | .str x, v => v = .str x
  | .lst ds, v => ∃ a vs, v = .ref a ∧ H a = some (.lst vs) ∧ F a ∧ vs.length ≤ sizeLine ∧ Rps g H F T ds vs
  | .tup ds, v => ∃ a vs, v = .ref a ∧ SqT g.K H a vs ∧ vs.length ≤ sizeLine ∧ Rps g H F T ds vs
  | .dic ks vs, v => ∃ a xs, v = .ref a ∧ H a = some (DX g.P g.w a xs) ∧ F a ∧ DxOk xs a ∧ topKeys ks = some (xs.map (·.1)) ∧ Rps g H F T ks (xs.map fun x => V.ref x.2.1) ∧ ∃ ws, Vals ws (xs.map (·.2.2)) ∧ Rps g H F T vs ws
  | .fn f, v => ∃ a, v = .ref a ∧ g.mg f = some (.ref a)
  | .exn c, v => ∃ a C, v = .ref a ∧ g.mg c = some (.ref C) ∧ H a = some (XO (.ref C) a) ∧ F a
  | .obj i, v => ∃ a, v = .ref a ∧ F.ob[i]? = some a
  | .dk ks vs, v => ∃ a kvs, v = .ref a ∧ H a = some (.dK kvs) ∧ F a ∧ kvs.map (·.1) = ks ∧ Rps g H F T vs (kvs.map (·.2))
  | .town, v => ∃ a, v = .ref a ∧ T = some a
  | .scr ns, v => ∃ a, v = .ref a ∧ ((∃ o, H a = some (.frz o (.lst (ns.map V.int)))) ∨ ∀ H', SqL g.K H' a (ns.map V.int))
def Rps (g : Gd) (H : Hp) (F : FS) (T : Option Addr) : List D → List V → Prop
  | [], vs => vs = []
  | d :: ds, vs => ∃ v r, vs = v :: r ∧ Rp g H F T d v ∧ Rps g H F T ds r
end

section
variable {g : Gd} {H H' : Hp} {F F' : FS} {T T' : Option Addr}

theorem Rps.len : ∀ {ds : List D} {vs : List V}, Rps g H F T ds vs → vs.length = ds.length
  | [], vs, h => by simp only [Rps] at h; rw [h]; rfl
  | d :: ds, vs, h => by
    simp only [Rps] at h
    obtain ⟨v, r, rfl, _, h⟩ := h
    simp only [List.length_cons, h.len]
theorem Rps.get : ∀ {ds : List D} {vs : List V} {i : Nat} {d : D}, Rps g H F T ds vs → ds[i]? = some d → ∃ v, vs[i]? = some v ∧ Rp g H F T d v
  | [], _, _, _, _, e => by simp at e
  | d :: ds, vs, i, x, h, e => by
    simp only [Rps] at h
    obtain ⟨v, r, rfl, h1, h2⟩ := h
    cases i with
    | zero => simp at e; subst e; exact ⟨v, rfl, h1⟩
    | succ i => simp at e; simpa using h2.get e
theorem Rps.get' : ∀ {ds : List D} {vs : List V} {i : Nat} {v : V}, Rps g H F T ds vs → vs[i]? = some v → ∃ d, ds[i]? = some d ∧ Rp g H F T d v
  | [], vs, _, _, h, e => by simp only [Rps] at h; subst h; simp at e
  | d :: ds, vs, i, x, h, e => by
    simp only [Rps] at h
    obtain ⟨v, r, rfl, h1, h2⟩ := h
    cases i with
    | zero => simp at e; subst e; exact ⟨d, rfl, h1⟩
    | succ i => simp at e; simpa using h2.get' e
theorem Rps.nil : Rps g H F T [] [] := by simp only [Rps]
theorem Rps.cons {d : D} {v : V} {ds : List D} {vs : List V} (h1 : Rp g H F T d v) (h2 : Rps g H F T ds vs) : Rps g H F T (d :: ds) (v :: vs) := by
  simp only [Rps]; exact ⟨v, vs, rfl, h1, h2⟩
theorem Rps.one {d : D} {v : V} (h1 : Rp g H F T d v) : Rps g H F T [d] [v] := .cons h1 .nil
theorem Rps.app : ∀ {ds es : List D} {vs us : List V}, Rps g H F T ds vs → Rps g H F T es us → Rps g H F T (ds ++ es) (vs ++ us)
  | [], _, vs, _, h, k => by simp only [Rps] at h; subst h; exact k
  | d :: ds, es, vs, us, h, k => by
    simp only [Rps] at h
    obtain ⟨v, r, rfl, h1, h2⟩ := h
    exact .cons h1 (h2.app k)
theorem Rps.drop : ∀ {ds : List D} {vs : List V} (n : Nat), Rps g H F T ds vs → Rps g H F T (ds.drop n) (vs.drop n)
  | ds, vs, 0, h => h
  | [], vs, n + 1, h => by simp only [Rps] at h; subst h; exact .nil
  | d :: ds, vs, n + 1, h => by
    simp only [Rps] at h
    obtain ⟨v, r, rfl, h1, h2⟩ := h
    exact h2.drop n
theorem Rps.take : ∀ {ds : List D} {vs : List V} (n : Nat), Rps g H F T ds vs → Rps g H F T (ds.take n) (vs.take n)
  | ds, vs, 0, h => by simp only [List.take_zero]; exact .nil
  | [], vs, n + 1, h => by simp only [Rps] at h; subst h; exact .nil
  | d :: ds, vs, n + 1, h => by
    simp only [Rps] at h
    obtain ⟨v, r, rfl, h1, h2⟩ := h
    exact .cons h1 (h2.take n)
theorem Rps.cut {ds : List D} {vs : List V} (h : Rps g H F T ds vs) (lo hi : Option Int) : Rps g H F T (cutL ds lo hi) (cutV vs lo hi) := by
  unfold cutL cutV
  rw [h.len]
  exact (h.drop _).take _
theorem Rps.rep {ds : List D} {vs : List V} (h : Rps g H F T ds vs) : ∀ k : Nat, Rps g H F T (List.replicate k ds).flatten (List.replicate k vs).flatten
  | 0 => .nil
  | k + 1 => by
    simp only [List.replicate_succ, List.flatten_cons]
    exact h.app (h.rep k)
theorem Rps.eraseIdx : ∀ {ds : List D} {vs : List V} (j : Nat), Rps g H F T ds vs → Rps g H F T (ds.eraseIdx j) (vs.eraseIdx j)
  | [], vs, _, h => by simp only [Rps] at h; subst h; exact .nil
  | d :: ds, vs, j, h => by
    simp only [Rps] at h
    obtain ⟨v, r, rfl, h1, h2⟩ := h
    cases j with
    | zero => exact h2
    | succ j => exact .cons h1 (h2.eraseIdx j)

/-! ### what stays -/
/-- what frozen data lean on stays -/
structure Kp (H : Hp) (F : FS) (H' : Hp) (F' : FS) : Prop where
  frz : ∀ a o, F a → H a = some o → H' a = some o
  tup : ∀ a xs, H a = some (.tup xs) → H' a = some (.tup xs)
  ftp : ∀ a o u, H a = some (.frz o u) → H' a = some (.frz o u)
  sub : ∀ a, F a → F' a
  obs : ∀ (i : Nat) (a : Addr), F.ob[i]? = some a → F'.ob[i]? = some a
theorem Kp.refl : Kp H F H F := ⟨fun _ _ _ h => h, fun _ _ h => h, fun _ _ _ h => h, fun _ h => h, fun _ _ h => h⟩
theorem Kp.trans {H2 : Hp} {F2 : FS} (x : Kp H F H' F') (y : Kp H' F' H2 F2) : Kp H F H2 F2 :=
  ⟨fun a o f h => y.frz a o (x.sub a f) (x.frz a o f h), fun a xs h => y.tup a xs (x.tup a xs h), fun a o xs h => y.ftp a o xs (x.ftp a o xs h), fun a f => y.sub a (x.sub a f), fun i a h => y.obs i a (x.obs i a h)⟩
theorem Kp.sqT (k : Kp H F H' F') {a : Addr} {vs : List V} (h : SqT g.K H a vs) : SqT g.K H' a vs := by
  rcases h with (h | ⟨o, h⟩) | h
  · exact .inl (.inl (k.tup _ _ h))
  · exact .inl (.inr ⟨o, k.ftp _ _ _ h⟩)
  · exact .inr h
theorem Kp.sqL (k : Kp H F H' F') {a : Addr} {vs : List V} (f : F a) (h : SqL g.K H a vs) : SqL g.K H' a vs := by
  rcases h with (h | ⟨o, h⟩) | h
  · exact .inl (.inl (k.frz _ _ f h))
  · exact .inl (.inr ⟨o, k.frz _ _ f h⟩)
  · exact .inr h
mutual
theorem Rp.kp (k : Kp H F H' F') (t : ∀ a, T = some a → T' = some a) : ∀ (d : D) (v : V), Rp g H F T d v → Rp g H' F' T' d v
  | .non, _, h => by simpa only [Rp] using h
  | .bl _, _, h => by simpa only [Rp] using h
  | .int _, _, h => by simpa only [Rp] using h
  | .str _, _, h => by simpa only [Rp] using h
  | .lst ds, _, h => by
    simp only [Rp] at h ⊢
    obtain ⟨a, vs, e, hs, f, l, r⟩ := h
    exact ⟨a, vs, e, k.frz _ _ f hs, k.sub a f, l, Rps.kp k t ds vs r⟩
  | .tup ds, _, h => by
    simp only [Rp] at h ⊢
    obtain ⟨a, vs, e, hs, l, r⟩ := h
    exact ⟨a, vs, e, k.sqT hs, l, Rps.kp k t ds vs r⟩
  | .dic ks vs, _, h => by
    simp only [Rp] at h ⊢
    obtain ⟨a, xs, e, hs, f, ok, hk, h1, ws, h2, h3⟩ := h
    exact ⟨a, xs, e, k.frz _ _ f hs, k.sub a f, ok, hk, Rps.kp k t ks _ h1, ws, h2, Rps.kp k t vs ws h3⟩
  | .fn _, _, h => by simpa only [Rp] using h
  | .exn c, _, h => by
    simp only [Rp] at h ⊢
    obtain ⟨a, C, e, m, hs, f⟩ := h
    exact ⟨a, C, e, m, k.frz _ _ f hs, k.sub a f⟩
  | .obj i, _, h => by
    simp only [Rp] at h ⊢
    obtain ⟨a, e, h⟩ := h
    exact ⟨a, e, k.obs i a h⟩
  | .dk ks vs, _, h => by
    simp only [Rp] at h ⊢
    obtain ⟨a, kvs, e, hs, f, hk, r⟩ := h
    exact ⟨a, kvs, e, k.frz _ _ f hs, k.sub a f, hk, Rps.kp k t vs _ r⟩
  | .town, _, h => by
    simp only [Rp] at h ⊢
    obtain ⟨a, e, h⟩ := h
    exact ⟨a, e, t a h⟩
  | .scr ns, _, h => by
    simp only [Rp] at h ⊢
    obtain ⟨a, e, h⟩ := h
    refine ⟨a, e, ?_⟩
    rcases h with ⟨o, h⟩ | h
    · exact .inl ⟨o, k.ftp a o _ h⟩
    · exact .inr h
theorem Rps.kp (k : Kp H F H' F') (t : ∀ a, T = some a → T' = some a) : ∀ (ds : List D) (vs : List V), Rps g H F T ds vs → Rps g H' F' T' ds vs
  | [], _, h => by simpa only [Rps] using h
  | d :: ds, _, h => by
    simp only [Rps] at h ⊢
    obtain ⟨v, r, e, h1, h2⟩ := h
    exact ⟨v, r, e, Rp.kp k t d v h1, Rps.kp k t ds r h2⟩
end

/-- a thing that may be changed, as it lies there -/
def ObR (g : Gd) (H : Hp) (F : FS) (T : Option Addr) (a : Addr) : Ob → Prop
  | .gone => True
  | .lst xs => ∃ vs, H a = some (.lst vs) ∧ vs.length ≤ sizeLine ∧ Rps g H F T xs vs
  | .dk ks vs => ∃ kvs, H a = some (.dK kvs) ∧ kvs.map (·.1) = ks ∧ Rps g H F T vs (kvs.map (·.2))
  | .ins c fs => ∃ C dx us, g.mg c = some (.ref C) ∧ H a = some (.ins C dx us) ∧ us.map (·.1) = fs.map (·.1) ∧ Rps g H F T (fs.map (·.2)) (us.map (·.2))
def Ob.live : Ob → Bool
  | .gone => false
  | _ => true
/-- the town: the list of the draws; the things that may be changed -/
structure Tw (g : Gd) (T : Option Addr) (H : Hp) (F : FS) (s : S) : Prop where
  tn : ∀ a, T = some a → H a = some (.lst (List.replicate s.n (.int 0)))
  ln : s.os.length = F.ob.length
  ob : ∀ (i : Nat) (o : Ob) (a : Addr), s.os[i]? = some o → F.ob[i]? = some a → (∃ u, H a = some u) ∧ T ≠ some a ∧ (o.live = false → F a) ∧ (o.live = true → ¬ F a ∧ ObR g H F T a o)
  nd : F.ob.Nodup
theorem ObR.not {a : Addr} {o : Ob} (l : o.live = true) (h : ObR g H F T a o) : (∀ xs, H a ≠ some (.tup xs)) ∧ (∀ q u, H a ≠ some (.frz q u)) := by
  cases o with
  | gone => cases l
  | lst xs => obtain ⟨vs, e, _⟩ := h; exact ⟨(fun xs z => by rw [e] at z; cases z), (fun q u z => by rw [e] at z; cases z)⟩
  | dk ks vs => obtain ⟨kvs, e, _⟩ := h; exact ⟨(fun xs z => by rw [e] at z; cases z), (fun q u z => by rw [e] at z; cases z)⟩
  | ins c fs => obtain ⟨C, dx, us, _, e, _⟩ := h; exact ⟨(fun xs z => by rw [e] at z; cases z), (fun q u z => by rw [e] at z; cases z)⟩
theorem ObR.kp {a : Addr} {o : Ob} (k : Kp H F H' F') (e : H' a = H a) (h : ObR g H F T a o) : ObR g H' F' T a o := by
  cases o with
  | gone => trivial
  | lst xs => obtain ⟨vs, h1, h2, h3⟩ := h; exact ⟨vs, e.trans h1, h2, Rps.kp k (fun _ z => z) _ _ h3⟩
  | dk ks vs => obtain ⟨kvs, h1, h2, h3⟩ := h; exact ⟨kvs, e.trans h1, h2, Rps.kp k (fun _ z => z) _ _ h3⟩
  | ins c fs => obtain ⟨C, dx, us, h1, h2, h3, h4⟩ := h; exact ⟨C, dx, us, h1, e.trans h2, h3, Rps.kp k (fun _ z => z) _ _ h4⟩
theorem Tw.at {s : S} (t : Tw g T H F s) {a : Addr} (h : a ∈ F.ob) : ∃ (i : Nat) (o : Ob), s.os[i]? = some o ∧ F.ob[i]? = some a := by
  obtain ⟨i, hi, e⟩ := List.mem_iff_getElem.mp h
  have hs : i < s.os.length := by rw [t.ln]; exact hi
  exact ⟨i, s.os[i], List.getElem?_eq_getElem hs, by rw [List.getElem?_eq_getElem hi, e]⟩
theorem Tw.isS {s : S} (t : Tw g T H F s) {a : Addr} (h : a ∈ F.ob) : (∃ u, H a = some u) ∧ T ≠ some a := by
  obtain ⟨i, o, h1, h2⟩ := t.at h
  exact ⟨(t.ob i o a h1 h2).1, (t.ob i o a h1 h2).2.1⟩
/-- what is no list, dict, instance, is frozen if it is among them -/
theorem Tw.fz {s : S} (t : Tw g T H F s) {a : Addr} {u : HO} (e : H a = some u) (h : (∃ xs, u = .tup xs) ∨ ∃ q w, u = .frz q w) (m : a ∈ F.ob) : F a := by
  obtain ⟨i, o, h1, h2⟩ := t.at m
  obtain ⟨_, _, q1, q2⟩ := t.ob i o a h1 h2
  cases l : o.live with
  | false => exact q1 l
  | true =>
    obtain ⟨n1, n2⟩ := (q2 l).2.not l
    rcases h with ⟨xs, rfl⟩ | ⟨q, w, rfl⟩
    · exact absurd e (n1 xs)
    · exact absurd e (n2 q w)
/-- evaluation: all that was tracked stands, but the town and what may be changed; new lists may be frozen -/
structure Ev (T : Option Addr) (H : Hp) (F : FS) (H' : Hp) (F' : FS) : Prop where
  same : ∀ a o, H a = some o → T ≠ some a → (a ∈ F.ob → F a) → H' a = some o
  sub : ∀ a, F a → F' a
  new : ∀ a, F' a → F a ∨ H a = none ∨ a ∈ F.ob
  dom : (∀ a, F a → ∃ o, H a = some o) → ∀ a, F' a → ∃ o, H' a = some o
  obs : ∃ l, F'.ob = F.ob ++ l ∧ ∀ a ∈ l, H a = none
theorem Ev.refl : Ev T H F H F := ⟨fun _ _ h _ _ => h, fun _ h => h, fun _ h => .inl h, fun h => h, [], by simp, fun _ z => nomatch z⟩
theorem Ev.pre (e : Ev T H F H' F') {i : Nat} {a : Addr} (h : F.ob[i]? = some a) : F'.ob[i]? = some a := by
  obtain ⟨l, q, _⟩ := e.obs
  have hi : i < F.ob.length := by
    rcases Nat.lt_or_ge i F.ob.length with z | z
    · exact z
    · rw [List.getElem?_eq_none z] at h; cases h
  rw [q, List.getElem?_append_left hi]; exact h
theorem Ev.nob (e : Ev T H F H' F') {a : Addr} {o : HO} (h : H a = some o) (n : a ∉ F.ob) : a ∉ F'.ob := fun m => by
  obtain ⟨l, q, hl⟩ := e.obs
  rw [q] at m
  rcases List.mem_append.mp m with z | z
  · exact n z
  · rw [hl a z] at h; cases h
theorem Ev.obF (e : Ev T H F H' F') {a : Addr} {o : HO} (h : H a = some o) (n : a ∈ F.ob → F a) : a ∈ F'.ob → F' a := fun m => by
  by_cases q : a ∈ F.ob
  · exact e.sub a (n q)
  · exact absurd m (e.nob h q)
theorem Ev.kp {n : S} (e : Ev T H F H' F') (tw : Tw g T H F n) (nf : ∀ a, T = some a → ¬ F a) : Kp H F H' F' :=
  ⟨fun a o f h => e.same a o h (fun z => nf a z f) fun _ => f, fun a xs h => e.same a _ h (fun z => (by rw [tw.tn a z] at h; cases h)) (tw.fz h (.inl ⟨_, rfl⟩)), fun a o xs h => e.same a _ h (fun z => (by rw [tw.tn a z] at h; cases h)) (tw.fz h (.inr ⟨_, _, rfl⟩)), e.sub, fun _ _ h => e.pre h⟩
theorem Ev.tnf {n : S} (e : Ev T H F H' F') (tw : Tw g T H F n) (nf : ∀ a, T = some a → ¬ F a) : ∀ a, T = some a → ¬ F' a := fun a z f => by
  rcases e.new a f with q | q | q
  · exact nf a z q
  · rw [tw.tn a z] at q; cases q
  · exact (tw.isS q).2 z
theorem Ev.trans {H2 : Hp} {F2 : FS} {n : S} (x : Ev T H F H' F') (tw : Tw g T H' F' n) (y : Ev T H' F' H2 F2) : Ev T H F H2 F2 where
  same := fun a o h t m => y.same a o (x.same a o h t m) t (x.obF h m)
  sub := fun a f => y.sub a (x.sub a f)
  new := fun a f => by
    have old : H' a = none → H a = none ∨ a ∈ F.ob := fun q => by
      cases e : H a with
      | none => exact .inl rfl
      | some o =>
        by_cases t : T = some a
        · rw [tw.tn a t] at q; cases q
        · by_cases m : a ∈ F.ob
          · exact .inr m
          · rw [x.same a o e t fun z => absurd z m] at q; cases q
    rcases y.new a f with q | q | q
    · exact x.new a q
    · exact .inr (old q)
    · obtain ⟨l, e, hl⟩ := x.obs
      rw [e] at q
      rcases List.mem_append.mp q with z | z
      · exact .inr (.inr z)
      · exact .inr (.inl (hl a z))
  dom := fun d => y.dom (x.dom d)
  obs := by
    obtain ⟨l, e, hl⟩ := x.obs
    obtain ⟨k, e', hk⟩ := y.obs
    refine ⟨l ++ k, by rw [e', e, List.append_assoc], fun a ha => ?_⟩
    rcases List.mem_append.mp ha with z | z
    · exact hl a z
    · have q := hk a z
      cases c : H a with
      | none => rfl
      | some o =>
        by_cases t : T = some a
        · rw [tw.tn a t] at q; cases q
        · by_cases m : a ∈ F.ob
          · obtain ⟨u, hu⟩ := (tw.isS (a := a) (by rw [e]; exact List.mem_append_left _ m)).1
            rw [hu] at q; cases q
          · rw [x.same a o c t fun z => absurd z m] at q; cases q
theorem dom_upd {p : Addr} {o : HO} (d : ∀ a, F a → ∃ o, H a = some o) : ∀ a, F a → ∃ u, upd H p o a = some u := fun a f => by
  by_cases h : a = p
  · subst h; exact ⟨_, upd_same⟩
  · rw [upd_ne h]; exact d a f
/-- a new object -/
theorem Ev.alloc {p : Addr} {o : HO} (h : H p = none) : Ev T H F (upd H p o) F :=
  ⟨fun a u e _ _ => by rw [upd_ne (ne_of_none e h)]; exact e, fun _ f => f, fun _ f => .inl f, dom_upd, [], by simp, fun _ z => nomatch z⟩
/-- .. frozen at once -/
theorem Ev.allocF {p : Addr} {o : HO} (h : H p = none) : Ev T H F (upd H p o) (F.add p) :=
  ⟨fun a u e _ _ => by rw [upd_ne (ne_of_none e h)]; exact e, fun _ f => .inl f, fun a f => by
    rcases f with f | f
    · exact .inl f
    · exact .inr (.inl (by rw [f]; exact h)), fun d a f => by
    rcases f with f | f
    · exact dom_upd d a f
    · rw [f]; exact ⟨_, upd_same⟩, [], by simp [FS.add], fun _ z => nomatch z⟩
theorem Kp.alloc {p : Addr} {o : HO} (h : H p = none) (s : ∀ a, F a → F' a) (b : F'.ob = F.ob := by first | rfl | assumption) : Kp H F (upd H p o) F' :=
  ⟨fun a u _ e => by rw [upd_ne (ne_of_none e h)]; exact e, fun a _ e => by rw [upd_ne (ne_of_none e h)]; exact e, fun a _ _ e => by rw [upd_ne (ne_of_none e h)]; exact e, s, fun i a z => by rw [b]; exact z⟩
/-- an object is written, or laid, that is none of these -/
theorem Tw.set {p : Addr} {o : HO} {n : S} (t : Tw g T H F n) (np : T ≠ some p) (no : p ∉ F.ob) (k : Kp H F (upd H p o) F) : Tw g T (upd H p o) F n where
  tn := fun a e => by rw [upd_ne (fun z => np (by rw [← z]; exact e))]; exact t.tn a e
  ln := t.ln
  ob := fun i q a h1 h2 => by
    have ne : a ≠ p := fun z => no (by rw [← z]; exact List.mem_of_getElem? h2)
    obtain ⟨⟨u, e⟩, h3, h4, h5⟩ := t.ob i q a h1 h2
    exact ⟨⟨u, by rw [upd_ne ne]; exact e⟩, h3, h4, fun l => ⟨(h5 l).1, (h5 l).2.kp k (upd_ne ne)⟩⟩
  nd := t.nd
theorem Tw.notIn {p : Addr} {n : S} (t : Tw g T H F n) (h : H p = none) : p ∉ F.ob := fun m => by
  obtain ⟨u, e⟩ := (t.isS m).1
  rw [h] at e; cases e
theorem Tw.alloc {p : Addr} {o : HO} {n : S} (t : Tw g T H F n) (h : H p = none) : Tw g T (upd H p o) F n :=
  t.set (fun z => by rw [t.tn p z] at h; cases h) (t.notIn h) (Kp.alloc h (fun _ f => f) rfl)
/-- one more is frozen -/
theorem Tw.freeze {p : Addr} {n : S} (t : Tw g T H F n) (no : p ∉ F.ob) : Tw g T H (F.add p) n where
  tn := t.tn
  ln := t.ln
  ob := fun i q a h1 h2 => by
    have ne : a ≠ p := fun z => no (by rw [← z]; exact List.mem_of_getElem? h2)
    obtain ⟨h3, h4, h5, h6⟩ := t.ob i q a h1 h2
    refine ⟨h3, h4, fun l => .inl (h5 l), fun l => ⟨fun f => ?_, (h6 l).2.kp ⟨fun _ _ _ h => h, fun _ _ h => h, fun _ _ _ h => h, fun _ f => .inl f, fun _ _ h => h⟩ rfl⟩⟩
    rcases f with f | f
    · exact (h6 l).1 f
    · exact ne f
  nd := t.nd
theorem Tw.allocF {p : Addr} {o : HO} {n : S} (t : Tw g T H F n) (h : H p = none) : Tw g T (upd H p o) (F.add p) n := (t.alloc h).freeze (t.notIn h)
theorem Kp.write {p : Addr} {o : HO} {xs : List V} (h : H p = some (.lst xs)) (f : ¬ F p) : Kp H F (upd H p o) F :=
  ⟨fun a u q e => by
    have ne : a ≠ p := fun z => f (by rw [← z]; exact q)
    rw [upd_ne ne]; exact e, fun a _ e => by rw [upd_ne (ne_of e h (by intro z; cases z))]; exact e, fun a _ _ e => by rw [upd_ne (ne_of e h (by intro z; cases z))]; exact e, fun _ q => q, fun _ _ q => q⟩
theorem Kp.writeX {p : Addr} {o : HO} (h : ∀ xs, H p ≠ some (.tup xs)) (h' : ∀ o u, H p ≠ some (.frz o u)) (f : ¬ F p) : Kp H F (upd H p o) F :=
  ⟨fun a u q e => by
    have ne : a ≠ p := fun z => f (by rw [← z]; exact q)
    rw [upd_ne ne]; exact e, fun a xs e => by rw [upd_ne (fun z => h xs (by rw [← z]; exact e))]; exact e, fun a o u e => by rw [upd_ne (fun z => h' o u (by rw [← z]; exact e))]; exact e, fun _ q => q, fun _ _ q => q⟩
theorem Kp.freeze (s : ∀ a, F a → F' a) (b : F'.ob = F.ob := by first | rfl | assumption) : Kp H F H F' := ⟨fun _ _ _ h => h, fun _ _ h => h, fun _ _ _ h => h, s, fun i a z => by rw [b]; exact z⟩
end

/-! ### a def's entry, its slots -/
structure Bs where
  T : Option Addr
  H : Hp
  F : FS
def SlOk (g : Gd) (B : Bs) (H : Hp) (F : FS) (T : Option Addr) : Sl → Option (Option V) → Prop
  | .emp, _ => True
  | .dat d, o => ∃ v, o = some (some v) ∧ Rp g H F T d v
  | .own xs, o => ∃ a vs, o = some (some (.ref a)) ∧ H a = some (.lst vs) ∧ ¬ F a ∧ T ≠ some a ∧ a ∉ F.ob ∧ B.H a = none ∧ vs.length ≤ sizeLine ∧ Rps g H F T xs vs
  | .odc ks vs, o => ∃ a xs, o = some (some (.ref a)) ∧ H a = some (DX g.P g.w a xs) ∧ ¬ F a ∧ T ≠ some a ∧ a ∉ F.ob ∧ B.H a = none ∧ DxOk xs a ∧ topKeys ks = some (xs.map (·.1)) ∧ Rps g H F T ks (xs.map fun x => V.ref x.2.1) ∧ ∃ ws, Vals ws (xs.map (·.2.2)) ∧ Rps g H F T vs ws
/-- the slots that are things of this frame's own, by their addresses -/
def OwnAt (ρ : Env) (σ : L2.St) (i : Nat) (a : Addr) : Prop := (∃ s, ρ[i]? = some s ∧ s.mut = true) ∧ σ[i]? = some (some (.ref a))
structure Rel (g : Gd) (B : Bs) (ρ : Env) (σ : L2.St) (H : Hp) (F : FS) (T : Option Addr) (n : S) : Prop where
  ev : Ev B.T B.H B.F H F
  tw : Tw g T H F n
  nf : ∀ a, T = some a → ¬ F a
  dm : ∀ a, F a → ∃ o, H a = some o
  tt : B.T = T ∨ (B.T = none ∧ ∀ a, T = some a → B.H a = none)
  len : σ.length = ρ.length
  sl : ∀ (i : Nat) (s : Sl), ρ[i]? = some s → SlOk g B H F T s σ[i]?
  dj : ∀ i j a, OwnAt ρ σ i a → OwnAt ρ σ j a → i = j
section
variable {g : Gd} {B : Bs} {ρ ρ' : Env} {σ : L2.St} {H H' : Hp} {F F' : FS} {T : Option Addr} {n n' : S}
theorem Rel.bnT (r : Rel g B ρ σ H F T n) {a : Addr} {o : HO} (h : B.H a = some o) (t : B.T ≠ some a) : T ≠ some a := fun z => by
  rcases r.tt with e | ⟨e, k⟩
  · exact t (e.trans z)
  · rw [k a z] at h; cases h
theorem Rel.hNone (r : Rel g B ρ σ H F T n) {a : Addr} (q : H a = none) : B.H a = none ∨ a ∈ B.F.ob := by
  cases h : B.H a with
  | none => exact .inl rfl
  | some o =>
    by_cases t : B.T = some a
    · have tt : T = some a := by
        rcases r.tt with e | ⟨e, _⟩
        · exact e.symm.trans t
        · rw [e] at t; cases t
      rw [r.tw.tn a tt] at q; cases q
    · by_cases m : a ∈ B.F.ob
      · exact .inr m
      · rw [r.ev.same a o h t fun z => absurd z m] at q; cases q
theorem Rel.evS (r : Rel g B ρ σ H F T n) (e : Ev T H F H' F') : Ev B.T B.H B.F H' F' where
  same := fun a o h t m => e.same a o (r.ev.same a o h t m) (r.bnT h t) (r.ev.obF h m)
  sub := fun a f => e.sub a (r.ev.sub a f)
  new := fun a f => by
    rcases e.new a f with q | q | q
    · exact r.ev.new a q
    · exact .inr (r.hNone q)
    · obtain ⟨l, h, hl⟩ := r.ev.obs
      rw [h] at q
      rcases List.mem_append.mp q with z | z
      · exact .inr (.inr z)
      · exact .inr (.inl (hl a z))
  dom := fun d => e.dom (r.ev.dom d)
  obs := by
    obtain ⟨l, h, hl⟩ := r.ev.obs
    obtain ⟨k, h', hk⟩ := e.obs
    refine ⟨l ++ k, by rw [h', h, List.append_assoc], fun a ha => ?_⟩
    rcases List.mem_append.mp ha with z | z
    · exact hl a z
    · have q := hk a z
      rcases r.hNone q with w | w
      · exact w
      · obtain ⟨u, hu⟩ := (r.tw.isS (a := a) (by rw [h]; exact List.mem_append_left _ w)).1
        rw [hu] at q; cases q
/-- behind an evaluation -/
theorem Rel.step (r : Rel g B ρ σ H F T n) (e : Ev T H F H' F') (tw : Tw g T H' F' n') : Rel g B ρ σ H' F' T n' where
  ev := r.evS e
  tw := tw
  nf := e.tnf r.tw r.nf
  dm := e.dom r.dm
  tt := r.tt
  len := r.len
  sl := fun i s h => by
    have q := r.sl i s h
    cases s with
    | emp => trivial
    | dat d =>
      obtain ⟨v, e1, e2⟩ := q
      exact ⟨v, e1, Rp.kp (e.kp r.tw r.nf) (fun _ z => z) d v e2⟩
    | own xs =>
      obtain ⟨a, vs, e1, e2, e3, e4, eo, e5, e6, e7⟩ := q
      refine ⟨a, vs, e1, e.same a _ e2 e4 fun z => absurd z eo, fun f => ?_, e4, e.nob e2 eo, e5, e6, Rps.kp (e.kp r.tw r.nf) (fun _ z => z) xs vs e7⟩
      rcases e.new a f with z | z | z
      · exact e3 z
      · rw [e2] at z; cases z
      · exact eo z
    | odc ks us =>
      obtain ⟨a, xs, e1, e2, e3, e4, eo, e5, e6, e7, e8, ws, e9, e10⟩ := q
      refine ⟨a, xs, e1, e.same a _ e2 e4 fun z => absurd z eo, fun f => ?_, e4, e.nob e2 eo, e5, e6, e7, Rps.kp (e.kp r.tw r.nf) (fun _ z => z) ks _ e8, ws, e9, Rps.kp (e.kp r.tw r.nf) (fun _ z => z) us ws e10⟩
      rcases e.new a f with z | z | z
      · exact e3 z
      · rw [e2] at z; cases z
      · exact eo z
  dj := r.dj
theorem Rel.rp (r : Rel g B ρ σ H F T n) (e : Ev T H F H' F') {d : D} {v : V} (h : Rp g H F T d v) : Rp g H' F' T d v := Rp.kp (e.kp r.tw r.nf) (fun _ z => z) d v h
theorem Rel.rps (r : Rel g B ρ σ H F T n) (e : Ev T H F H' F') {ds : List D} {vs : List V} (h : Rps g H F T ds vs) : Rps g H' F' T ds vs := Rps.kp (e.kp r.tw r.nf) (fun _ z => z) ds vs h
theorem Rel.dat (r : Rel g B ρ σ H F T n) {i : Nat} {d : D} (h : getD ρ i = some d) : ∃ v, σ[i]? = some (some v) ∧ Rp g H F T d v := by
  unfold getD at h
  split at h
  · rename_i x e
    cases h
    exact r.sl i _ e
  · cases h
theorem Rel.owd (r : Rel g B ρ σ H F T n) {i : Nat} {xs : List D} (h : getO ρ i = some xs) : ρ[i]? = some (.own xs) ∧ ∃ a vs, σ[i]? = some (some (.ref a)) ∧ H a = some (.lst vs) ∧ ¬ F a ∧ T ≠ some a ∧ a ∉ F.ob ∧ B.H a = none ∧ vs.length ≤ sizeLine ∧ Rps g H F T xs vs := by
  unfold getO at h
  split at h
  · rename_i x e
    cases h
    exact ⟨e, r.sl i _ e⟩
  · cases h
/-- a slot is given data -/
theorem Rel.put (r : Rel g B ρ σ H F T n) (i : Nat) {d : D} {v : V} (h : Rp g H F T d v) : Rel g B (ρ.set i (.dat d)) (σ.set i (some v)) H F T n where
  ev := r.ev
  tw := r.tw
  nf := r.nf
  dm := r.dm
  tt := r.tt
  len := by rw [List.length_set, List.length_set]; exact r.len
  sl := fun j s e => by
    by_cases hj : i = j
    · subst hj
      by_cases hl : i < ρ.length
      · rw [List.getElem?_set_self hl] at e
        cases e
        exact ⟨v, List.getElem?_set_self (by rw [r.len]; exact hl), h⟩
      · rw [List.getElem?_eq_none (by rw [List.length_set]; omega)] at e; cases e
    · rw [List.getElem?_set_ne hj] at e
      have q := r.sl j s e
      rw [List.getElem?_set_ne hj]
      exact q
  dj := fun j k a h1 h2 => by
    have hn : ∀ m, OwnAt (ρ.set i (.dat d)) (σ.set i (some v)) m a → OwnAt ρ σ m a := fun m hm => by
      obtain ⟨⟨xs, e1, e3⟩, e2⟩ := hm
      have hm : i ≠ m := fun z => by
        subst z
        by_cases hl : i < ρ.length
        · rw [List.getElem?_set_self hl] at e1; cases e1; cases e3
        · rw [List.getElem?_eq_none (by rw [List.length_set]; omega)] at e1; cases e1
      rw [List.getElem?_set_ne hm] at e1 e2
      exact ⟨⟨xs, e1, e3⟩, e2⟩
    exact r.dj j k a (hn j h1) (hn k h2)
/-- slots forgotten -/
theorem Rel.forget (r : Rel g B ρ σ H F T n) (i : Nat) (o : Option V) : Rel g B (ρ.set i .emp) (σ.set i o) H F T n where
  ev := r.ev
  tw := r.tw
  nf := r.nf
  dm := r.dm
  tt := r.tt
  len := by rw [List.length_set, List.length_set]; exact r.len
  sl := fun j s e => by
    by_cases hj : i = j
    · subst hj
      by_cases hl : i < ρ.length
      · rw [List.getElem?_set_self hl] at e
        cases e
        trivial
      · rw [List.getElem?_eq_none (by rw [List.length_set]; omega)] at e; cases e
    · rw [List.getElem?_set_ne hj] at e
      have q := r.sl j s e
      rw [List.getElem?_set_ne hj]
      exact q
  dj := fun j k a h1 h2 => by
    have hn : ∀ m, OwnAt (ρ.set i .emp) (σ.set i o) m a → OwnAt ρ σ m a := fun m hm => by
      obtain ⟨⟨xs, e1, e3⟩, e2⟩ := hm
      have hm : i ≠ m := fun z => by
        subst z
        by_cases hl : i < ρ.length
        · rw [List.getElem?_set_self hl] at e1; cases e1; cases e3
        · rw [List.getElem?_eq_none (by rw [List.length_set]; omega)] at e1; cases e1
      rw [List.getElem?_set_ne hm] at e1 e2
      exact ⟨⟨xs, e1, e3⟩, e2⟩
    exact r.dj j k a (hn j h1) (hn k h2)
theorem Rel.wipe (r : Rel g B ρ σ H F T n) : ∀ vs : List Nat, Rel g B (wip ρ vs) (L2.wipe σ vs) H F T n
  | [] => r
  | v :: vs => (r.wipe vs).forget v none
theorem wip_len (ρ : Env) : ∀ vs : List Nat, (wip ρ vs).length = ρ.length
  | [] => rfl
  | v :: vs => by unfold wip; rw [List.length_set, wip_len ρ vs]
/-- a new own thing in a slot -/
theorem Rel.putS (r : Rel g B ρ σ H F T n) (i : Nat) {s0 : Sl} {a : Addr} (h1 : SlOk g B H F T s0 (some (some (.ref a))))
    (h7 : ∀ j, OwnAt ρ σ j a → j = i) : Rel g B (ρ.set i s0) (σ.set i (some (.ref a))) H F T n where
  ev := r.ev
  tw := r.tw
  nf := r.nf
  dm := r.dm
  tt := r.tt
  len := by rw [List.length_set, List.length_set]; exact r.len
  sl := fun j s e => by
    by_cases hj : i = j
    · subst hj
      by_cases hl : i < ρ.length
      · rw [List.getElem?_set_self hl] at e
        cases e
        rw [List.getElem?_set_self (by rw [r.len]; exact hl)]
        exact h1
      · rw [List.getElem?_eq_none (by rw [List.length_set]; omega)] at e; cases e
    · rw [List.getElem?_set_ne hj] at e
      have q := r.sl j s e
      rw [List.getElem?_set_ne hj]
      exact q
  dj := fun j k b g1 g2 => by
    have hn : ∀ m, m ≠ i → OwnAt (ρ.set i s0) (σ.set i (some (.ref a))) m b → OwnAt ρ σ m b := fun m hm ⟨⟨ys, e1, e3⟩, e2⟩ => by
      rw [List.getElem?_set_ne (Ne.symm hm)] at e1 e2
      exact ⟨⟨ys, e1, e3⟩, e2⟩
    have hi : OwnAt (ρ.set i s0) (σ.set i (some (.ref a))) i b → b = a := fun ⟨_, e2⟩ => by
      by_cases hl : i < σ.length
      · rw [List.getElem?_set_self hl] at e2; cases e2; rfl
      · rw [List.getElem?_eq_none (by rw [List.length_set]; omega)] at e2; cases e2
    by_cases hj : j = i
    · by_cases hk : k = i
      · rw [hj, hk]
      · rw [hj] at g1
        have := hi g1
        subst this
        exact absurd (h7 k (hn k hk g2)) hk
    · by_cases hk : k = i
      · rw [hk] at g2
        have := hi g2
        subst this
        exact absurd (h7 j (hn j hj g1)) hj
      · exact r.dj j k b (hn j hj g1) (hn k hk g2)
/-- a new own list in a slot -/
theorem Rel.putO (r : Rel g B ρ σ H F T n) (i : Nat) {xs : List D} {a : Addr} {vs : List V} (h1 : H a = some (.lst vs)) (h2 : ¬ F a) (h3 : T ≠ some a) (ho : a ∉ F.ob) (h4 : B.H a = none) (h5 : vs.length ≤ sizeLine) (h6 : Rps g H F T xs vs)
    (h7 : ∀ j, OwnAt ρ σ j a → j = i) : Rel g B (ρ.set i (.own xs)) (σ.set i (some (.ref a))) H F T n := r.putS i ⟨a, vs, rfl, h1, h2, h3, ho, h4, h5, h6⟩ h7
/-- an object that no slot leans on is written -/
theorem Rel.writeX (r : Rel g B ρ σ H F T n) {p : Addr} {o : HO} (h : ∀ xs, H p ≠ some (.tup xs)) (h' : ∀ o u, H p ≠ some (.frz o u)) (f : ¬ F p) (t : T ≠ some p) (no : p ∉ F.ob) (b : B.H p = none) (nown : ∀ j, ¬ OwnAt ρ σ j p) : Rel g B ρ σ (upd H p o) F T n where
  ev := ⟨fun a u q z m => by rw [upd_ne (fun e => by rw [e, b] at q; cases q)]; exact r.ev.same a u q z m, r.ev.sub, r.ev.new, fun d => dom_upd (r.ev.dom d), r.ev.obs⟩
  tw := r.tw.set t no (Kp.writeX h h' f)
  nf := r.nf
  dm := dom_upd r.dm
  tt := r.tt
  len := r.len
  sl := fun i s e => by
    have q := r.sl i s e
    cases s with
    | emp => trivial
    | dat d =>
      obtain ⟨v, e1, e2⟩ := q
      exact ⟨v, e1, Rp.kp (Kp.writeX h h' f) (fun _ z => z) d v e2⟩
    | own xs =>
      obtain ⟨a, vs, e1, e2, e3, e4, eo, e5, e6, e7⟩ := q
      have ne : a ≠ p := fun z => nown i ⟨⟨_, e, rfl⟩, by rw [← z]; exact e1⟩
      exact ⟨a, vs, e1, by rw [upd_ne ne]; exact e2, e3, e4, eo, e5, e6, Rps.kp (Kp.writeX h h' f) (fun _ z => z) xs vs e7⟩
    | odc ks us =>
      obtain ⟨a, xs, e1, e2, e3, e4, eo, e5, e6, e7, e8, ws, e9, e10⟩ := q
      have ne : a ≠ p := fun z => nown i ⟨⟨_, e, rfl⟩, by rw [← z]; exact e1⟩
      exact ⟨a, xs, e1, by rw [upd_ne ne]; exact e2, e3, e4, eo, e5, e6, e7, Rps.kp (Kp.writeX h h' f) (fun _ z => z) ks _ e8, ws, e9, Rps.kp (Kp.writeX h h' f) (fun _ z => z) us ws e10⟩
  dj := r.dj
theorem Rel.write (r : Rel g B ρ σ H F T n) {p : Addr} {o : HO} {ys : List V} (h : H p = some (.lst ys)) (f : ¬ F p) (t : T ≠ some p) (no : p ∉ F.ob) (b : B.H p = none) (nown : ∀ j, ¬ OwnAt ρ σ j p) : Rel g B ρ σ (upd H p o) F T n :=
  r.writeX (fun xs z => by rw [h] at z; cases z) (fun o u z => by rw [h] at z; cases z) f t no b nown
theorem Rel.ownH (r : Rel g B ρ σ H F T n) {j : Nat} {a : Addr} (h : OwnAt ρ σ j a) : ∃ u, H a = some u := by
  obtain ⟨⟨s, e, m⟩, ej⟩ := h
  have q := r.sl j s e
  cases s with
  | emp => cases m
  | dat d => cases m
  | own xs =>
    obtain ⟨b, vs, q1, q2, _⟩ := q
    rw [q1] at ej
    cases ej
    exact ⟨_, q2⟩
  | odc ks us =>
    obtain ⟨b, vs, q1, q2, _⟩ := q
    rw [q1] at ej
    cases ej
    exact ⟨_, q2⟩
/-- a dict of the frame's own -/
theorem Rel.ock (r : Rel g B ρ σ H F T n) {i : Nat} {ks us : List D} (h : getK ρ i = some (ks, us)) : ρ[i]? = some (.odc ks us) ∧ ∃ a xs, σ[i]? = some (some (.ref a)) ∧ H a = some (DX g.P g.w a xs) ∧ ¬ F a ∧ T ≠ some a ∧ a ∉ F.ob ∧ B.H a = none ∧ DxOk xs a ∧ topKeys ks = some (xs.map (·.1)) ∧ Rps g H F T ks (xs.map fun x => V.ref x.2.1) ∧ ∃ ws, Vals ws (xs.map (·.2.2)) ∧ Rps g H F T us ws := by
  unfold getK at h
  split at h
  · rename_i k v e
    cases h
    exact ⟨e, r.sl i _ e⟩
  · cases h
end
end Ss
/-! Ss, part C: readings of expressions; operators, comparisons, built-ins on data. -/
namespace Ss
open PySem PySem.Spec PyProof.Rows L2

inductive Kd where
  | full | shal | new
  deriving DecidableEq
/-- data; or a list of data that is a frame's own -/
def RpS (g : Gd) (T : Option Addr) (H : Hp) (F : FS) (d : D) (v : V) : Prop :=
  Rp g H F T d v ∨ ∃ a vs xs, d = .lst xs ∧ v = .ref a ∧ H a = some (.lst vs) ∧ T ≠ some a ∧ a ∉ F.ob ∧ vs.length ≤ sizeLine ∧ Rps g H F T xs vs
def Post (g : Gd) (T : Option Addr) (H0 H' : Hp) (F' : FS) : Kd → D → V → Prop
  | .full, d, v => Rp g H' F' T d v
  | .shal, d, v => RpS g T H' F' d v
  | .new, d, v => ∃ a vs xs, d = .lst xs ∧ v = .ref a ∧ H0 a = none ∧ H' a = some (.lst vs) ∧ ¬ F' a ∧ a ∉ F'.ob ∧ vs.length ≤ sizeLine ∧ Rps g H' F' T xs vs
def Fin {α : Type} (g : Gd) (W : WX) (σ : L2.St) (T : Option Addr) (H : Hp) (F : FS) (r : Res α) (K : α → S → Hp → FS → Prop) : Prop := match r with
  | .ok a n' => ∀ H' F', Ev T H F H' F' → Tw g T H' F' n' → K a n' H' F'
  | .exc c n' => ∀ H' F', Ev T H F H' F' → Tw g T H' F' n' → ∀ C, g.mg c = some (.ref C) → W (.ref C) none σ H'
  | .bad => False
section
variable {α β : Type} {g : Gd} {W : WX} {σ : L2.St} {T : Option Addr} {H H1 : Hp} {F F1 : FS} {n n1 : S}
theorem Fin.mono {r : Res α} {K K' : α → S → Hp → FS → Prop} (h : Fin g W σ T H F r K) (k : ∀ a n' H' F', Ev T H F H' F' → Tw g T H' F' n' → K a n' H' F' → K' a n' H' F') : Fin g W σ T H F r K' := by
  cases r with
  | ok a n' => exact fun H' F' e t => k a n' H' F' e t (h H' F' e t)
  | exc c n' => exact h
  | bad => exact h
/-- .. from a later state -/
theorem Fin.later {r : Res α} {K : α → S → Hp → FS → Prop} (h : Fin g W σ T H F r K) (e : Ev T H F H1 F1) (t : Tw g T H1 F1 n1) : Fin g W σ T H1 F1 r K := by
  cases r with
  | ok a n' => exact fun H' F' e' t' => h H' F' (e.trans t e') t'
  | exc c n' => exact fun H' F' e' t' => h H' F' (e.trans t e') t'
  | bad => exact h
theorem Fin.bnd {m : M α} {k : α → M β} {K : β → S → Hp → FS → Prop} (h : Fin g W σ T H F (bnd m k n) K) : Fin g W σ T H F (m n) fun a n1 H1 F1 => Fin g W σ T H1 F1 (k a n1) K := by
  unfold Ss.bnd at h
  cases e : m n with
  | ok a n' => rw [e] at h; exact fun H' F' e' t' => h.later e' t'
  | exc c n' => rw [e] at h; exact h
  | bad => rw [e] at h; exact h
theorem Fin.lft {o : Option α} {K : α → S → Hp → FS → Prop} (h : Fin g W σ T H F (lft o n) K) (tw : Tw g T H F n) : ∃ a, o = some a ∧ K a n H F ∧ ∀ H' F', Ev T H F H' F' → Tw g T H' F' n → K a n H' F' := by
  cases o with
  | none => exact False.elim h
  | some a => exact ⟨a, rfl, h H F Ev.refl tw, fun H' F' e t => h H' F' e t⟩
end
def tI (g : Gd) (B : Bs) (W : WX) (kd : Kd) (f : Env → M D) : TE := fun σ H Q => ∃ ρ F T n, Rel g B ρ σ H F T n ∧ Fin g W σ T H F (f ρ n) fun d _ H' F' => ∀ v, Post g T H H' F' kd d v → Q v H'
def tT (g : Gd) (B : Bs) (W : WX) (f : Env → M Bool) : TT := fun σ H Q => ∃ ρ F T n, Rel g B ρ σ H F T n ∧ Fin g W σ T H F (f ρ n) fun b _ H' _ => Q b H'
def Posts (g : Gd) (T : Option Addr) (H' : Hp) (F' : FS) : Kd → List D → List V → Prop
  | .shal, ds, vs => Paired (RpS g T H' F') ds vs
  | _, ds, vs => Rps g H' F' T ds vs
def tIs (g : Gd) (B : Bs) (W : WX) (kd : Kd) (f : Env → M (List D)) : TA := fun σ H Q => ∃ ρ F T n, Rel g B ρ σ H F T n ∧ Fin g W σ T H F (f ρ n) fun ds _ H' F' => ∀ vs, Posts g T H' F' kd ds vs → Q vs H'

theorem pe_wk {X : Cx} {e : Expr} {t t' : TE} (h : PE X e t') (k : ∀ σ H Q, t σ H Q → t' σ H Q) : PE X e t := ⟨fun pins s σ H Q I q => h.run pins s σ H Q I (k σ H Q q)⟩
theorem pt_wk {X : Cx} {e : Expr} {t t' : TT} (h : PT X e t') (k : ∀ σ H Q, t σ H Q → t' σ H Q) : PT X e t := ⟨fun pins s σ H Q I q => h.run pins s σ H Q I (k σ H Q q)⟩
theorem pw_wk {X : Cx} {e : Expr} {t t' : TT} (h : PW X e t') (k : ∀ σ H Q, t σ H Q → t' σ H Q) : PW X e t := ⟨fun wh pins s σ H Q I q => h.run wh pins s σ H Q I (k σ H Q q)⟩
theorem pa_wk {X : Cx} {e : List Expr} {t t' : TA} (h : PA X e t') (k : ∀ σ H Q, t σ H Q → t' σ H Q) : PA X e t := ⟨fun pos pins s σ H Q I q => h.run pos pins s σ H Q I (k σ H Q q)⟩
theorem ps_wk {X : Cx} {e : Stmt} {t t' : TS} (h : PS X e t') (k : ∀ D σ H, t D σ H → t' D σ H) : PS X e t := ⟨fun pins s σ H D I q => h.run pins s σ H D I (k D σ H q)⟩
theorem pss_wk {X : Cx} {e : List Stmt} {t t' : TS} (h : PSs X e t') (k : ∀ D σ H, t D σ H → t' D σ H) : PSs X e t := ⟨fun pins s σ H D I q => h.run pins s σ H D I (k D σ H q)⟩

section
variable {g : Gd} {B : Bs} {W : WX} {T : Option Addr} {H H' : Hp} {F F' : FS} {X : Cx}
theorem RpS.lst {xs : List D} {v : V} (h : RpS g T H F (.lst xs) v) : ∃ a vs, v = .ref a ∧ H a = some (.lst vs) ∧ vs.length ≤ sizeLine ∧ Rps g H F T xs vs := by
  rcases h with h | ⟨a, vs, ys, e, h1, h2, _, _, h3, h4⟩
  · simp only [Rp] at h
    obtain ⟨a, vs, h1, h2, _, h3, h4⟩ := h
    exact ⟨a, vs, h1, h2, h3, h4⟩
  · cases e
    exact ⟨a, vs, h1, h2, h3, h4⟩
theorem RpS.tup {xs : List D} {v : V} (h : RpS g T H F (.tup xs) v) : ∃ a vs, v = .ref a ∧ SqT g.K H a vs ∧ vs.length ≤ sizeLine ∧ Rps g H F T xs vs := by
  rcases h with h | ⟨a, vs, ys, e, _⟩
  · simpa only [Rp] using h
  · cases e
theorem RpS.int {i : Int} {v : V} (h : RpS g T H F (.int i) v) : v = .int i := by
  rcases h with h | ⟨a, vs, ys, e, _⟩
  · simpa only [Rp] using h
  · cases e
theorem RpS.bl {i : Bool} {v : V} (h : RpS g T H F (.bl i) v) : v = .bl i := by
  rcases h with h | ⟨a, vs, ys, e, _⟩
  · simpa only [Rp] using h
  · cases e
theorem RpS.non {v : V} (h : RpS g T H F .non v) : v = .non := by
  rcases h with h | ⟨a, vs, ys, e, _⟩
  · simpa only [Rp] using h
  · cases e
theorem RpS.str {i : Str} {v : V} (h : RpS g T H F (.str i) v) : v = .str i := by
  rcases h with h | ⟨a, vs, ys, e, _⟩
  · simpa only [Rp] using h
  · cases e
theorem RpS.scr {ns : List Int} {v : V} (h : RpS g T H F (.scr ns) v) : ∃ a, v = .ref a ∧ SqL g.K H a (ns.map V.int) := by
  rcases h with h | ⟨a, vs, ys, e, _⟩
  · simp only [Rp] at h
    obtain ⟨a, e, h⟩ := h
    refine ⟨a, e, ?_⟩
    rcases h with ⟨o, h⟩ | h
    · exact .inl (.inr ⟨o, h⟩)
    · exact h H
  · cases e
theorem rp_int {i : Int} : Rp g H F T (.int i) (.int i) := by simp only [Rp]
theorem rp_bl {i : Bool} : Rp g H F T (.bl i) (.bl i) := by simp only [Rp]
theorem rp_str {i : Str} : Rp g H F T (.str i) (.str i) := by simp only [Rp]
theorem rp_non : Rp g H F T .non .non := by simp only [Rp]
theorem rp_tup {a : Addr} {ds : List D} {vs : List V} (h : SqT g.K H a vs) (l : vs.length ≤ sizeLine) (r : Rps g H F T ds vs) : Rp g H F T (.tup ds) (.ref a) := by
  simp only [Rp]; exact ⟨a, vs, rfl, h, l, r⟩
theorem rp_lst {a : Addr} {ds : List D} {vs : List V} (h : H a = some (.lst vs)) (f : F a) (l : vs.length ≤ sizeLine) (r : Rps g H F T ds vs) : Rp g H F T (.lst ds) (.ref a) := by
  simp only [Rp]; exact ⟨a, vs, rfl, h, f, l, r⟩
theorem RpS.ev {n : S} (tw : Tw g T H F n) (nf : ∀ a, T = some a → ¬ F a) (e : Ev T H F H' F') {d : D} {v : V} (h : RpS g T H F d v) : RpS g T H' F' d v := by
  rcases h with h | ⟨a, vs, ys, e1, h1, h2, h3, ho, h4, h5⟩
  · exact .inl (Rp.kp (e.kp tw nf) (fun _ z => z) d v h)
  · exact .inr ⟨a, vs, ys, e1, h1, e.same a _ h2 h3 fun z => absurd z ho, h3, e.nob h2 ho, h4, Rps.kp (e.kp tw nf) (fun _ z => z) ys vs h5⟩
theorem Post.shal {kd : Kd} {H0 : Hp} {d : D} {v : V} (t : ∀ a, T = some a → ∃ o, H0 a = some o) (h : Post g T H0 H' F' kd d v) : RpS g T H' F' d v := by
  cases kd with
  | full => exact .inl h
  | shal => exact h
  | new =>
    obtain ⟨a, vs, xs, e1, e2, e3, e4, _, eo, e5, e6⟩ := h
    refine .inr ⟨a, vs, xs, e1, e2, e4, fun z => ?_, eo, e5, e6⟩
    obtain ⟨o, q⟩ := t a z
    rw [e3] at q; cases q
/-- a new list is frozen: data -/
theorem tI.full {f : Env → M D} {σ : L2.St} {Q : VK} {kd : Kd} (hk : kd ≠ .shal) (h : tI g B W .full f σ H Q) : tI g B W kd f σ H Q := by
  cases kd with
  | full => exact h
  | shal => exact absurd rfl hk
  | new =>
    obtain ⟨ρ, F, T, n, R, h⟩ := h
    refine ⟨ρ, F, T, n, R, ?_⟩
    cases e : f ρ n with
    | bad => rw [e] at h; exact h
    | exc c n' => rw [e] at h; exact h
    | ok d n' =>
      rw [e] at h
      intro H' F' e1 t1 v p
      obtain ⟨a, vs, xs, rfl, rfl, e3, e4, e5, eo, e6, e7⟩ := p
      have k : Kp H' F' H' (F'.add a) := Kp.freeze fun _ f => .inl f
      refine h H' (F'.add a) ⟨e1.same, fun b f => .inl (e1.sub b f), fun b f => ?_, ?_, e1.obs⟩ (t1.freeze eo) _ (rp_lst e4 (.inr rfl) e6 (Rps.kp k (fun _ z => z) xs vs e7))
      · rcases f with f | rfl
        · exact e1.new b f
        · exact .inr (.inl e3)
      · intro dd b f
        rcases f with f | rfl
        · exact e1.dom dd b f
        · exact ⟨_, e4⟩
theorem tI.shal {f : Env → M D} {σ : L2.St} {Q : VK} {kd : Kd} (h : tI g B W .shal f σ H Q) : tI g B W kd f σ H Q := by
  obtain ⟨ρ, F, T, n, R, h⟩ := h
  refine ⟨ρ, F, T, n, R, h.mono fun d n' H' F' e t k v p => k v (p.shal fun a z => ⟨_, R.tw.tn a z⟩)⟩
theorem pe_full {e : Expr} {kd : Kd} {f : Env → M D} (h : PE X e (tI g B W kd f)) (hk : kd ≠ .shal) : PE X e (tI g B W .full f) := pe_wk h fun _ _ _ q => q.full hk
theorem pe_shal {e : Expr} {kd : Kd} {f : Env → M D} (h : PE X e (tI g B W kd f)) : PE X e (tI g B W .shal f) := pe_wk h fun _ _ _ q => q.shal

/-! ### truth -/
theorem truV_of {d : D} {v : V} {k : Bool} (h : RpS g T H F d v) (e : tru d = some k) : TruV g.K v H k := by
  cases d with
  | non => rw [h.non]; cases e; rfl
  | bl b => rw [h.bl]; cases e; rfl
  | int i => rw [h.int]; cases e; rfl
  | str x =>
    rw [h.str]
    simp only [tru] at e
    split at e
    · rename_i hl; cases e; exact ⟨hl, rfl⟩
    · cases e
  | lst xs =>
    obtain ⟨a, vs, rfl, h1, _, h2⟩ := h.lst
    cases e
    refine .inl ⟨vs, SqL.of h1, ?_⟩
    have hl := h2.len
    cases xs <;> cases vs <;> simp_all
  | tup xs =>
    obtain ⟨a, vs, rfl, h1, _, h2⟩ := h.tup
    cases e
    refine .inr (.inl ⟨vs, h1, ?_⟩)
    have hl := h2.len
    cases xs <;> cases vs <;> simp_all
  | scr ns =>
    obtain ⟨a, rfl, h1⟩ := h.scr
    cases e
    refine .inl ⟨_, h1, ?_⟩
    cases ns <;> simp
  | dic _ _ => cases e
  | fn _ => cases e
  | exn _ => cases e
  | town => cases e
  | obj _ => cases e
  | dk _ _ => cases e
end
/-- the fixed part of a context -/
def gdOf (X : Cx) : Gd := ⟨X.prog, X.w, X.K, X.mg, X.base⟩
section
variable {B : Bs} {W : WX} {X : Cx}
/-- an expression as a test, by its value's truth -/
theorem pt_of {e : Expr} {kd : Kd} {f : Env → M D} (h : PE X e (tI (gdOf X) B W kd f)) (he : ∀ whole, isTrue e X.env whole = (do let v ← whole; standAt e.pos; holding [v] (truthy v))) : PT X e (tT (gdOf X) B W fun ρ => truM (f ρ)) := by
  refine pt_wk (pt_truth h he) fun σ H Q q => ?_
  obtain ⟨ρ, F, T, n, R, q⟩ := q
  refine ⟨ρ, F, T, n, R, q.bnd.mono fun d n' H' F' e t k v p => ?_⟩
  obtain ⟨b, eb, q, _⟩ := k.lft t
  exact ⟨b, truV_of (g := gdOf X) (p.shal fun a z => ⟨_, R.tw.tn a z⟩) eb, q⟩
end

/-! ### places -/
theorem Rps.at {g : Gd} {T : Option Addr} {H : Hp} {F : FS} {ds : List D} {vs : List V} {i : Int} {d : D} (h : Rps g H F T ds vs) (e : atI ds i = some d) : ∃ v, atI vs i = some v ∧ Rp g H F T d v := by
  unfold atI at e ⊢
  rw [h.len]
  cases q : ixN ds.length i with
  | none => rw [q] at e; cases e
  | some j => rw [q] at e; exact h.get e

/-! ### operators -/
def Op.ast : Op → Operator
  | .add => .Add | .sub => .Sub | .mul => .Mult | .fdiv => .FloorDiv | .mod => .Mod | .pow => .Pow
def rOp (g : Gd) (f : D → D → Option D) : R2 := fun x y H Q => ∃ F T n d e z, Tw g T H F n ∧ (∀ a, T = some a → ¬ F a) ∧ RpS g T H F d x ∧ RpS g T H F e y ∧ f d e = some z ∧ ∀ w H' F', Ev T H F H' F' → Tw g T H' F' n → Rp g H' F' T z w → Q w H'
section
variable {X : Cx}
theorem w64_ok {i : Int} (h : w64 i = true) : -(2 ^ 64) < i ∧ i < 2 ^ 64 := by
  unfold w64 at h
  simp only [Bool.and_eq_true, decide_eq_true_eq] at h
  exact h
def CDivNW (_ j : Int) : Prop := j ≠ 0 ∧ j.natAbs.log2 < 9000
theorem op_fdivNW : OpR X (binaryOp .FloorDiv) (rI CDivNW fun i j => .int (i.fdiv j)) := opI fun i j _ _ _ _ _ hc q => floordiv_int hc.1 q (.inl (PyProof.noPylong_of_log2 hc.2))
theorem op_rule (o : Op) : OpR X (binaryOp o.ast) (rOp (gdOf X) o.f) := by
  intro pins s σ H x y v u Q I rx ry h
  obtain ⟨F, T, n, d, e, z, tw, nf, hd, he, hz, q⟩ := h
  cases o with
  | add =>
    cases d <;> cases e <;> simp only [Op.f, reduceCtorEq] at hz
    case add.int.int i j =>
      cases hz
      rw [hd.int] at rx
      rw [he.int] at ry
      exact op_add pins s σ H _ _ v u Q I rx ry ⟨i, j, rfl, rfl, q _ _ _ Ev.refl tw rp_int⟩
    case add.str.str i j =>
      split at hz
      · rename_i hl
        cases hz
        rw [hd.str] at rx
        rw [he.str] at ry
        exact op_add_str pins s σ H _ _ v u Q I rx ry ⟨i, j, rfl, rfl, hl, q _ _ _ Ev.refl tw rp_str⟩
      · cases hz
    case add.lst.lst xs ys =>
      split at hz
      · rename_i hl
        cases hz
        obtain ⟨a, vs, rfl, h1, h2, h3⟩ := hd.lst
        obtain ⟨b, us, rfl, k1, k2, k3⟩ := he.lst
        have hl' : vs.length + us.length ≤ sizeLine := by rw [h3.len, k3.len]; exact hl
        refine op_cat pins s σ H _ _ v u Q I rx ry ⟨a, b, vs, us, rfl, rfl, h1, k1, hl', fun p hp => q _ _ _ (Ev.allocF hp) (tw.allocF hp) ?_⟩
        have k : Kp H F (upd H p (.lst (vs ++ us))) (F.add p) := Kp.alloc hp fun _ f => .inl f
        exact rp_lst upd_same (.inr rfl) (by rw [List.length_append]; exact hl') (Rps.kp k (fun _ z => z) _ _ (h3.app k3))
      · cases hz
    case add.tup.tup xs ys =>
      split at hz
      · rename_i hl
        cases hz
        obtain ⟨a, vs, rfl, h1, h2, h3⟩ := hd.tup
        obtain ⟨b, us, rfl, k1, k2, k3⟩ := he.tup
        have hl' : vs.length + us.length ≤ sizeLine := by rw [h3.len, k3.len]; exact hl
        have fin : ∀ p, H p = none → Q (.ref p) (upd H p (.tup (vs ++ us))) := fun p hp => by
          refine q _ _ _ (Ev.alloc hp) (tw.alloc hp) ?_
          have k : Kp H F (upd H p (.tup (vs ++ us))) F := Kp.alloc hp fun _ f => f
          exact rp_tup (SqT.of upd_same) (by rw [List.length_append]; exact hl') (Rps.kp k (fun _ z => z) _ _ (h3.app k3))
        have l1 : us = [] → Q (.ref a) H := fun z => by
          refine q _ _ _ Ev.refl tw ?_
          subst z
          have r := h3.app k3
          rw [List.append_nil] at r
          exact rp_tup h1 h2 r
        have l2 : vs = [] → Q (.ref b) H := fun z => by
          refine q _ _ _ Ev.refl tw ?_
          subst z
          have r := h3.app k3
          rw [List.nil_append] at r
          exact rp_tup k1 k2 r
        first
          | exact op_catA pins s σ H _ _ v u Q I rx ry ⟨a, b, vs, us, rfl, rfl, h1, k1, hl', l2, fun _ z => l1 z, fun _ _ p hp => fin p hp⟩
          | exact op_catA pins s σ H _ _ v u Q I rx ry ⟨a, b, vs, us, rfl, rfl, h1, k1, hl', l2, l1, fun _ _ p hp => fin p hp⟩
      · cases hz
  | sub =>
    cases d <;> cases e <;> simp only [Op.f, reduceCtorEq] at hz
    case sub.int.int i j =>
      cases hz
      rw [hd.int] at rx
      rw [he.int] at ry
      exact op_sub pins s σ H _ _ v u Q I rx ry ⟨i, j, rfl, rfl, q _ _ _ Ev.refl tw rp_int⟩
  | mul =>
    cases d <;> cases e <;> simp only [Op.f, reduceCtorEq] at hz
    case mul.int.int i j =>
      split at hz
      · rename_i hc
        cases hz
        rw [hd.int] at rx
        rw [he.int] at ry
        simp only [Bool.or_eq_true] at hc
        refine op_mul pins s σ H _ _ v u Q I rx ry ⟨i, j, rfl, rfl, ?_, q _ _ _ Ev.refl tw rp_int⟩
        rcases hc with hc | hc
        · exact .inl (w64_ok hc)
        · exact .inr (w64_ok hc)
      · cases hz
    case mul.lst.int xs k =>
      split at hz
      · rename_i hc
        cases hz
        obtain ⟨a, vs, rfl, h1, h2, h3⟩ := hd.lst
        rw [he.int] at ry
        have hl' : vs.length * k.toNat ≤ sizeLine := by rw [h3.len]; exact hc.2.2
        refine op_rep pins s σ H _ _ v u Q I rx ry ⟨a, k, vs, rfl, rfl, h1, by omega, by omega, hl', fun p hp => q _ _ _ (Ev.allocF hp) (tw.allocF hp) ?_⟩
        have kk : Kp H F (upd H p (.lst (List.replicate k.toNat vs).flatten)) (F.add p) := Kp.alloc hp fun _ f => .inl f
        refine rp_lst upd_same (.inr rfl) ?_ (Rps.kp kk (fun _ z => z) _ _ (h3.rep _))
        rw [List.length_flatten, List.map_replicate, List.sum_replicate_nat, Nat.mul_comm]
        exact hl'
      · cases hz
  | fdiv =>
    cases d <;> cases e <;> simp only [Op.f, reduceCtorEq] at hz
    case fdiv.int.int i j =>
      split at hz
      · rename_i hc
        cases hz
        rw [hd.int] at rx
        rw [he.int] at ry
        exact op_fdivW pins s σ H _ _ v u Q I rx ry ⟨i, j, rfl, rfl, wide_div (b := 200) hc.1 (by omega) (by decide) (by decide), q _ _ _ Ev.refl tw rp_int⟩
      · split at hz
        · rename_i hc
          cases hz
          rw [hd.int] at rx
          rw [he.int] at ry
          exact op_fdivNW pins s σ H _ _ v u Q I rx ry ⟨i, j, rfl, rfl, ⟨by omega, Nat.lt_of_lt_of_le (PySem.Flt.log2_lt_of (k := 200) (by decide) (by omega)) (by decide)⟩, q _ _ _ Ev.refl tw rp_int⟩
        · cases hz
  | mod =>
    cases d <;> cases e <;> simp only [Op.f, reduceCtorEq] at hz
    case mod.int.int i j =>
      split at hz
      · rename_i hc
        cases hz
        rw [hd.int] at rx
        rw [he.int] at ry
        exact op_mod pins s σ H _ _ v u Q I rx ry ⟨i, j, rfl, rfl, hc, q _ _ _ Ev.refl tw rp_int⟩
      · cases hz
  | pow =>
    cases d <;> cases e <;> simp only [Op.f, reduceCtorEq] at hz
    case pow.int.int i j =>
      split at hz
      · rename_i hc
        cases hz
        rw [hd.int] at rx
        rw [he.int] at ry
        exact op_pow pins s σ H _ _ v u Q I rx ry ⟨i, j, rfl, rfl, hc, q _ _ _ Ev.refl tw rp_int⟩
      · cases hz
end
end Ss
/-! Ss, part D: comparisons, places, cuts, built-ins on data. -/
namespace Ss
open PySem PySem.Spec PyProof.Rows L2

/-! ### data as the library's own -/
mutual
theorem toP_depth : ∀ d : D, (D.toP d).depth = d.dep
  | .non => by simp [D.toP, PyData.depth, D.dep]
  | .bl _ => by simp [D.toP, PyData.depth, D.dep]
  | .int _ => by simp [D.toP, PyData.depth, D.dep]
  | .str _ => by simp [D.toP, PyData.depth, D.dep]
  | .lst xs => by simp [D.toP, PyData.depth, D.dep, toPs_depth xs]
  | .tup xs => by simp [D.toP, PyData.depth, D.dep, toPs_depth xs]
  | .dic _ _ => by simp [D.toP, PyData.depth, D.dep]
  | .fn _ => by simp [D.toP, PyData.depth, D.dep]
  | .exn _ => by simp [D.toP, PyData.depth, D.dep]
  | .town => by simp [D.toP, PyData.depth, D.dep]
  | .scr _ => by simp [D.toP, PyData.depth, D.dep]
  | .obj _ => by simp [D.toP, PyData.depth, D.dep]
  | .dk _ _ => by simp [D.toP, PyData.depth, D.dep]
theorem toPs_depth : ∀ ds : List D, PyData.depthAll (D.toPs ds) = D.deps ds
  | [] => by simp [D.toPs, PyData.depthAll, D.deps]
  | d :: ds => by simp [D.toPs, PyData.depthAll, D.deps, toP_depth d, toPs_depth ds]
end
mutual
theorem toP_lay : ∀ d : D, d.pl = true → (D.toP d).canLay0 = true
  | .non, _ => by simp [D.toP, PyData.canLay0]
  | .bl _, _ => by simp [D.toP, PyData.canLay0]
  | .int _, _ => by simp [D.toP, PyData.canLay0]
  | .str x, h => by simp only [D.pl] at h; simp [D.toP, PyData.canLay0, h]
  | .lst xs, h => by simp only [D.pl] at h; simp [D.toP, PyData.canLay0, toPs_lay xs h]
  | .tup xs, h => by simp only [D.pl] at h; simp [D.toP, PyData.canLay0, toPs_lay xs h]
  | .dic _ _, h => by simp [D.pl] at h
  | .fn _, h => by simp [D.pl] at h
  | .exn _, h => by simp [D.pl] at h
  | .town, h => by simp [D.pl] at h
  | .scr _, h => by simp [D.pl] at h
  | .obj _, h => by simp [D.pl] at h
  | .dk _ _, h => by simp [D.pl] at h
theorem toPs_lay : ∀ ds : List D, D.pls ds = true → PyData.canLayAll0 (D.toPs ds) = true
  | [], _ => by simp [D.toPs, PyData.canLayAll0]
  | d :: ds, h => by
    simp only [D.pls, Bool.and_eq_true] at h
    simp [D.toPs, PyData.canLayAll0, toP_lay d h.1, toPs_lay ds h.2]
end
mutual
theorem toP_eqv : ∀ d e : D, d.pl = true → e.pl = true → PyData.eqv (D.toP d) (D.toP e) = D.eqv d e := fun d e hd he => by
  cases d with
  | lst xs =>
    cases e with
    | lst ys =>
      simp only [D.pl] at hd he
      simp only [D.toP, PyData.eqv, D.eqv, toPs_eqv xs ys hd he]
    | _ => simp_all [D.toP, PyData.eqv, D.eqv, D.pl]
  | tup xs =>
    cases e with
    | tup ys =>
      simp only [D.pl] at hd he
      simp only [D.toP, PyData.eqv, D.eqv, toPs_eqv xs ys hd he]
    | _ => simp_all [D.toP, PyData.eqv, D.eqv, D.pl]
  | _ => cases e <;> simp_all [D.toP, PyData.eqv, D.eqv, D.pl]
theorem toPs_eqv : ∀ ds es : List D, D.pls ds = true → D.pls es = true → PyData.eqvAll (D.toPs ds) (D.toPs es) = D.eqvs ds es
  | [], [], _, _ => by simp [D.toPs, PyData.eqvAll, D.eqvs]
  | [], _ :: _, _, _ => by simp [D.toPs, PyData.eqvAll, D.eqvs]
  | _ :: _, [], _, _ => by simp [D.toPs, PyData.eqvAll, D.eqvs]
  | d :: ds, e :: es, h, k => by
    simp only [D.pls, Bool.and_eq_true] at h k
    simp only [D.toPs, PyData.eqvAll, D.eqvs, toP_eqv d e h.1 k.1, toPs_eqv ds es h.2 k.2]
end
theorem toPs_any (d : D) (hd : d.pl = true) : ∀ ds : List D, D.pls ds = true → ((D.toPs ds).any fun z => PyData.eqv z (D.toP d)) = ds.any fun z => D.eqv z d
  | [], _ => rfl
  | e :: es, h => by
    simp only [D.pls, Bool.and_eq_true] at h
    simp only [D.toPs, List.any_cons, toP_eqv e d h.1 hd, toPs_any d hd es h.2]
theorem okE_pl {d : D} (h : d.okE = true) : d.pl = true := by
  simp only [D.okE, Bool.and_eq_true] at h; exact h.1
theorem okE_sh {d : D} (h : d.okE = true) : SeqAt.shaped (D.toP d) = true := by
  simp only [D.okE, Bool.and_eq_true, decide_eq_true_eq] at h
  simp only [SeqAt.shaped, Bool.and_eq_true, decide_eq_true_eq]
  exact ⟨toP_lay d h.1, by rw [toP_depth]; omega⟩
section
variable {g : Gd} {T : Option Addr} {H : Hp} {F : FS}
mutual
theorem rp_dp : ∀ (d : D) (v : V), d.pl = true → Rp g H F T d v → Dp g.K H v (D.toP d)
  | .non, _, _, h => by simp only [Rp] at h; subst h; simp only [D.toP]; exact .non
  | .bl _, _, _, h => by simp only [Rp] at h; subst h; simp only [D.toP]; exact .bl _
  | .int _, _, _, h => by simp only [Rp] at h; subst h; simp only [D.toP]; exact .int _
  | .str _, _, _, h => by simp only [Rp] at h; subst h; simp only [D.toP]; exact .str _
  | .lst ds, _, p, h => by
    simp only [Rp] at h
    simp only [D.pl] at p
    obtain ⟨a, vs, rfl, h1, _, _, h2⟩ := h
    simp only [D.toP]
    exact .lst (SqL.of h1) (rps_dp ds vs p h2)
  | .tup ds, _, p, h => by
    simp only [Rp] at h
    simp only [D.pl] at p
    obtain ⟨a, vs, rfl, h1, _, h2⟩ := h
    simp only [D.toP]
    exact .tup h1 (rps_dp ds vs p h2)
  | .dic _ _, _, p, _ => by simp [D.pl] at p
  | .fn _, _, p, _ => by simp [D.pl] at p
  | .exn _, _, p, _ => by simp [D.pl] at p
  | .town, _, p, _ => by simp [D.pl] at p
  | .scr _, _, p, _ => by simp [D.pl] at p
theorem rps_dp : ∀ (ds : List D) (vs : List V), D.pls ds = true → Rps g H F T ds vs → DpAll g.K H vs (D.toPs ds)
  | [], _, _, h => by simp only [Rps] at h; subst h; simp only [D.toPs]; exact .nil
  | d :: ds, _, p, h => by
    simp only [Rps] at h
    simp only [D.pls, Bool.and_eq_true] at p
    obtain ⟨v, r, rfl, h1, h2⟩ := h
    simp only [D.toPs]
    exact .cons (rp_dp d v p.1 h1) (rps_dp ds r p.2 h2)
end
theorem rpS_dp {d : D} {v : V} (p : d.pl = true) (h : RpS g T H F d v) : Dp g.K H v (D.toP d) := by
  rcases h with h | ⟨a, vs, xs, rfl, rfl, h1, _, _, _, h2⟩
  · exact rp_dp d v p h
  · simp only [D.pl] at p
    simp only [D.toP]
    exact .lst (SqL.of h1) (rps_dp xs vs p h2)
end

/-! ### comparisons -/
def Cm.ast : Cm → CmpOp
  | .eq => .Eq | .ne => .NotEq | .lt => .Lt | .le => .LtE | .gt => .Gt | .ge => .GtE | .inn => .In | .nin => .NotIn
def rCm (g : Gd) (f : D → D → Option Bool) : R2 := fun x y H Q => ∃ F T d e k, RpS g T H F d x ∧ RpS g T H F e y ∧ f d e = some k ∧ Q (.bl k) H
theorem sgnOf_eq {x : Str} {c : Nat} (h : sgnOf x = some c) : x = ⟨#[c]⟩ := by
  unfold sgnOf at h
  split at h
  · rename_i c' e
    cases h
    obtain ⟨l⟩ := x
    simp only at e
    congr 1
    apply Array.toList_inj.mp
    rw [e]
  · cases h
section
variable {X : Cx}
theorem in_rule (hu : X.A.units + 65 < cLine) : OpR X (compareOp .In) (rCm (gdOf X) inD) := by
  intro pins s σ H x y v u Q I rx ry h
  obtain ⟨F, T, d, e, k, hd, he, hk, q⟩ := h
  have two : ∀ ys, (e = .lst ys ∨ e = .tup ys) → (if (d.okE && e.okE) = true then some (ys.any fun z => D.eqv z d) else none) = some k → wpAny (model X.prog X.w) X.A (compareOp .In v u) (EP X pins σ Q) X.xe s := by
    intro ys hy hk
    split at hk
    · rename_i hc
      simp only [Bool.and_eq_true] at hc
      cases hk
      obtain ⟨as, r1⟩ := Dp.reads I _ x v (rpS_dp (g := gdOf X) (okE_pl hc.1) hd) rx
      obtain ⟨bs, r2⟩ := Dp.reads I _ y u (rpS_dp (g := gdOf X) (okE_pl hc.2) he) ry
      have pe := okE_pl hc.2
      have hdp := SeqAt.depth_of_shaped (okE_sh hc.1)
      rcases hy with rfl | rfl
      · simp only [D.pl] at pe
        simp only [D.toP] at r2
        refine SeqAt.in_list_reads r2 r1 (toPs_lay ys pe) (toP_lay d (okE_pl hc.1)) (by omega) ⟨.bl _, H, I, rfl, ?_⟩
        rw [toPs_any d (okE_pl hc.1) ys pe]
        exact q
      · simp only [D.pl] at pe
        simp only [D.toP] at r2
        refine SeqAt.in_tuple_reads r2 r1 (toPs_lay ys pe) (toP_lay d (okE_pl hc.1)) (by omega) ⟨.bl _, H, I, rfl, ?_⟩
        rw [toPs_any d (okE_pl hc.1) ys pe]
        exact q
    · cases hk
  cases e with
  | lst ys => simp only [inD] at hk; exact two ys (.inl rfl) hk
  | tup ys => simp only [inD] at hk; exact two ys (.inr rfl) hk
  | str z =>
    cases d <;> simp only [inD, reduceCtorEq] at hk
    rename_i x'
    cases e' : sgnOf x' with
    | none => rw [e'] at hk; cases hk
    | some c =>
      rw [e'] at hk
      cases hk
      rw [hd.str, sgnOf_eq e'] at rx
      rw [he.str] at ry
      exact op_in_sign pins s σ H _ _ v u Q I rx ry ⟨c, z, rfl, rfl, q⟩
  | _ => cases d <;> simp only [inD, reduceCtorEq] at hk
theorem nin_rule (hu : X.A.units + 65 < cLine) : OpR X (compareOp .NotIn) (rCm (gdOf X) fun d e => (inD d e).map fun b => !b) := by
  intro pins s σ H x y v u Q I rx ry h
  obtain ⟨F, T, d, e, k, hd, he, hk, q⟩ := h
  have two : ∀ ys, (e = .lst ys ∨ e = .tup ys) → (if (d.okE && e.okE) = true then some (ys.any fun z => D.eqv z d) else none).map (fun b => !b) = some k → wpAny (model X.prog X.w) X.A (compareOp .NotIn v u) (EP X pins σ Q) X.xe s := by
    intro ys hy hk
    split at hk
    · rename_i hc
      simp only [Bool.and_eq_true] at hc
      cases hk
      obtain ⟨as, r1⟩ := Dp.reads I _ x v (rpS_dp (g := gdOf X) (okE_pl hc.1) hd) rx
      obtain ⟨bs, r2⟩ := Dp.reads I _ y u (rpS_dp (g := gdOf X) (okE_pl hc.2) he) ry
      have pe := okE_pl hc.2
      have hdp := SeqAt.depth_of_shaped (okE_sh hc.1)
      rcases hy with rfl | rfl
      · simp only [D.pl] at pe
        simp only [D.toP] at r2
        refine SeqAt.notIn_list_reads r2 r1 (toPs_lay ys pe) (toP_lay d (okE_pl hc.1)) (by omega) ⟨.bl _, H, I, rfl, ?_⟩
        rw [toPs_any d (okE_pl hc.1) ys pe]
        exact q
      · simp only [D.pl] at pe
        simp only [D.toP] at r2
        refine SeqAt.notIn_tuple_reads r2 r1 (toPs_lay ys pe) (toP_lay d (okE_pl hc.1)) (by omega) ⟨.bl _, H, I, rfl, ?_⟩
        rw [toPs_any d (okE_pl hc.1) ys pe]
        exact q
    · cases hk
  cases e with
  | lst ys => simp only [inD] at hk; exact two ys (.inl rfl) hk
  | tup ys => simp only [inD] at hk; exact two ys (.inr rfl) hk
  | str z =>
    cases d <;> simp only [inD, Option.map_none, reduceCtorEq] at hk
    rename_i x'
    cases e' : sgnOf x' with
    | none => rw [e'] at hk; cases hk
    | some c =>
      rw [e'] at hk
      cases hk
      rw [hd.str, sgnOf_eq e'] at rx
      rw [he.str] at ry
      exact op_notIn_sign pins s σ H _ _ v u Q I rx ry ⟨c, z, rfl, rfl, q⟩
  | _ => cases d <;> simp only [inD, Option.map_none, reduceCtorEq] at hk
theorem cm_rule (o : Cm) (hu : X.A.units + 65 < cLine) : OpR X (compareOp o.ast) (rCm (gdOf X) o.f) := by
  cases o with
  | inn => exact in_rule hu
  | nin => exact nin_rule hu
  | eq =>
    intro pins s σ H x y v u Q I rx ry h
    obtain ⟨F, T, d, e, k, hd, he, hk, q⟩ := h
    simp only [Cm.f] at hk
    split at hk
    · rename_i hc
      simp only [Bool.and_eq_true] at hc
      cases hk
      refine op_eqD (by omega) pins s σ H x y v u Q I rx ry ⟨_, _, rpS_dp (g := gdOf X) (okE_pl hc.1) hd, rpS_dp (g := gdOf X) (okE_pl hc.2) he, okE_sh hc.1, okE_sh hc.2, ?_⟩
      rw [toP_eqv d e (okE_pl hc.1) (okE_pl hc.2)]
      exact q
    · cases hk
  | ne =>
    intro pins s σ H x y v u Q I rx ry h
    obtain ⟨F, T, d, e, k, hd, he, hk, q⟩ := h
    simp only [Cm.f] at hk
    split at hk
    · rename_i hc
      simp only [Bool.and_eq_true] at hc
      cases hk
      refine op_neD (by omega) pins s σ H x y v u Q I rx ry ⟨_, _, rpS_dp (g := gdOf X) (okE_pl hc.1) hd, rpS_dp (g := gdOf X) (okE_pl hc.2) he, okE_sh hc.1, okE_sh hc.2, ?_⟩
      rw [toP_eqv d e (okE_pl hc.1) (okE_pl hc.2)]
      exact q
    · cases hk
  | lt =>
    intro pins s σ H x y v u Q I rx ry h
    obtain ⟨F, T, d, e, k, hd, he, hk, q⟩ := h
    cases d <;> cases e <;> simp only [Cm.f, reduceCtorEq] at hk
    cases hk
    rw [hd.int] at rx
    rw [he.int] at ry
    exact op_lt pins s σ H _ _ v u Q I rx ry ⟨_, _, rfl, rfl, q⟩
  | le =>
    intro pins s σ H x y v u Q I rx ry h
    obtain ⟨F, T, d, e, k, hd, he, hk, q⟩ := h
    cases d <;> cases e <;> simp only [Cm.f, reduceCtorEq] at hk
    cases hk
    rw [hd.int] at rx
    rw [he.int] at ry
    exact op_le pins s σ H _ _ v u Q I rx ry ⟨_, _, rfl, rfl, q⟩
  | gt =>
    intro pins s σ H x y v u Q I rx ry h
    obtain ⟨F, T, d, e, k, hd, he, hk, q⟩ := h
    cases d <;> cases e <;> simp only [Cm.f, reduceCtorEq] at hk
    cases hk
    rw [hd.int] at rx
    rw [he.int] at ry
    exact op_gt pins s σ H _ _ v u Q I rx ry ⟨_, _, rfl, rfl, q⟩
  | ge =>
    intro pins s σ H x y v u Q I rx ry h
    obtain ⟨F, T, d, e, k, hd, he, hk, q⟩ := h
    cases d <;> cases e <;> simp only [Cm.f, reduceCtorEq] at hk
    cases hk
    rw [hd.int] at rx
    rw [he.int] at ry
    exact op_ge pins s σ H _ _ v u Q I rx ry ⟨_, _, rfl, rfl, q⟩

/-! ### places, cuts -/
def rIxD (g : Gd) : R2 := fun x y H Q => ∃ F T d e z, RpS g T H F d x ∧ RpS g T H F e y ∧ idxD d e = some z ∧ ∀ w, Rp g H F T z w → Q w H
theorem ix_rule : IxR X (rIxD (gdOf X)) := by
  intro value slice pins s σ H x y v u Q I rx ry h hs
  obtain ⟨F, T, d, e, z, hd, he, hz, q⟩ := h
  cases e <;> (try (cases d <;> simp only [idxD, reduceCtorEq] at hz))
  case int.lst i ds =>
    obtain ⟨a, vs, rfl, h1, _, h2⟩ := hd.lst
    obtain ⟨w, e1, e2⟩ := h2.at hz
    exact ix_list value slice pins s σ H _ y v u Q I rx ry ⟨a, vs, i, w, rfl, he.int, SqL.of h1, e1, q w e2⟩ hs
  case int.tup i ds =>
    obtain ⟨a, vs, rfl, h1, _, h2⟩ := hd.tup
    obtain ⟨w, e1, e2⟩ := h2.at hz
    exact ix_tup value slice pins s σ H _ y v u Q I rx ry ⟨a, vs, i, w, rfl, he.int, h1, e1, q w e2⟩ hs
  case int.str i x' =>
    split at hz
    · rename_i hl
      cases hc : atI x'.cps.toList i with
      | none => rw [hc] at hz; cases hz
      | some c =>
        rw [hc] at hz
        cases hz
        rw [hd.str] at rx
        exact ix_str value slice pins s σ H _ y v u Q I rx ry ⟨x', i, c, rfl, he.int, hl, hc, q _ rp_str⟩ hs
    · cases hz
  case int.scr i ns =>
    obtain ⟨a, rfl, h1⟩ := hd.scr
    cases hc : atI ns i with
    | none => rw [hc] at hz; cases hz
    | some c =>
      rw [hc] at hz
      cases hz
      refine ix_list value slice pins s σ H _ y v u Q I rx ry ⟨a, _, i, .int c, rfl, he.int, h1, ?_, q _ rp_int⟩ hs
      unfold atI at hc ⊢
      rw [List.length_map]
      cases hj : ixN ns.length i with
      | none => rw [hj] at hc; cases hc
      | some j =>
        rw [hj] at hc
        have hc : ns[j]? = some c := hc
        show (ns.map V.int)[j]? = some (.int c)
        rw [List.getElem?_map, hc]; rfl
def rSlD (g : Gd) : V → Option Int → Option Int → Hp → VK → Prop := fun x lo hi H Q => ∃ F T n d z, Tw g T H F n ∧ (∀ a, T = some a → ¬ F a) ∧ RpS g T H F d x ∧ cutD d lo hi = some z ∧ ∀ w H' F', Ev T H F H' F' → Tw g T H' F' n → Rp g H' F' T z w → Q w H'
theorem sl_rule : SlR X (rSlD (gdOf X)) := by
  intro pins s σ H x v vl vu lo hi sl Q I rx hs pl pu h
  obtain ⟨F, T, n, d, z, tw, nf, hd, hz, q⟩ := h
  cases d <;> simp only [cutD, reduceCtorEq] at hz
  case lst ds =>
    cases hz
    obtain ⟨a, vs, rfl, h1, h3, h2⟩ := hd.lst
    refine sl_list pins s σ H _ v vl vu lo hi sl Q I rx hs pl pu ⟨a, vs, rfl, SqL.of h1, fun p hp => q _ _ _ (Ev.allocF hp) (tw.allocF hp) ?_⟩
    have k : Kp H F (upd H p (.lst (cutV vs lo hi))) (F.add p) := Kp.alloc hp fun _ f => .inl f
    exact rp_lst upd_same (.inr rfl) (Nat.le_trans (cutV_length _ _ _) h3) (Rps.kp k (fun _ z => z) _ _ (h2.cut lo hi))
  case tup ds =>
    cases hz
    obtain ⟨a, vs, rfl, h1, h3, h2⟩ := hd.tup
    refine sl_tupA pins s σ H _ v vl vu lo hi sl Q I rx hs pl pu ⟨a, vs, rfl, h1, fun hw => q _ _ _ Ev.refl tw ?_, fun _ p hp => q _ _ _ (Ev.alloc hp) (tw.alloc hp) ?_⟩
    · have e : cutV vs lo hi = vs := by
        unfold cutV
        rw [hw.1, hw.2]
        simp
      have r := h2.cut lo hi
      rw [e] at r
      exact rp_tup h1 h3 r
    · have k : Kp H F (upd H p (.tup (cutV vs lo hi))) F := Kp.alloc hp fun _ f => f
      exact rp_tup (SqT.of upd_same) (Nat.le_trans (cutV_length _ _ _) h3) (Rps.kp k (fun _ z => z) _ _ (h2.cut lo hi))
  case str x' =>
    split at hz
    · rename_i hl
      cases hz
      rw [hd.str] at rx
      exact sl_str pins s σ H _ v vl vu lo hi sl Q I rx hs pl pu ⟨x', rfl, hl, q _ _ _ Ev.refl tw rp_str⟩
    · cases hz

/-! ### built-ins -/
def rBi (g : Gd) (kd : Kd) (f : List D → Option D) : List V → Hp → VK → Prop := fun xs H Q => ∃ F T n ds z, Tw g T H F n ∧ ((∀ a, T = some a → ¬ F a) ∧ ∀ a, F a → ∃ o, H a = some o) ∧ Paired (RpS g T H F) ds xs ∧ f ds = some z ∧ ∀ w H' F', Ev T H F H' F' → Tw g T H' F' n → Post g T H H' F' kd z w → Q w H'
theorem pair1 {α β : Type} {R : α → β → Prop} {a : α} {bs : List β} (h : Paired R [a] bs) : ∃ b, bs = [b] ∧ R a b := by
  cases h with
  | cons r t => cases t; exact ⟨_, rfl, r⟩
theorem pair2 {α β : Type} {R : α → β → Prop} {a a' : α} {bs : List β} (h : Paired R [a, a'] bs) : ∃ b b', bs = [b, b'] ∧ R a b ∧ R a' b' := by
  cases h with
  | cons r t =>
    obtain ⟨b', e, r'⟩ := pair1 t
    exact ⟨_, b', by rw [e], r, r'⟩
theorem bools_rps {g : Gd} {H : Hp} {F : FS} {T : Option Addr} : ∀ {ds : List D} {vs : List V} {bs : List Bool}, Rps g H F T ds vs → bools ds = some bs → vs = bs.map V.bl
  | [], vs, bs, h, e => by simp only [Rps] at h; cases e; exact h
  | d :: ds, vs, bs, h, e => by
    simp only [Rps] at h
    obtain ⟨v, r, rfl, h1, h2⟩ := h
    cases d <;> simp only [bools, reduceCtorEq] at e
    rename_i b
    cases hb : bools ds with
    | none => rw [hb] at e; cases e
    | some cs =>
      rw [hb] at e
      cases e
      simp only [Rp] at h1
      rw [h1, bools_rps h2 hb]
      rfl
theorem txts_rps {g : Gd} {H : Hp} {F : FS} {T : Option Addr} : ∀ {ds : List D} {vs : List V} {bs : List Str}, Rps g H F T ds vs → txts ds = some bs → vs = bs.map V.str
  | [], vs, bs, h, e => by simp only [Rps] at h; cases e; exact h
  | d :: ds, vs, bs, h, e => by
    simp only [Rps] at h
    obtain ⟨v, r, rfl, h1, h2⟩ := h
    cases d <;> simp only [txts, reduceCtorEq] at e
    rename_i b
    cases hb : txts ds with
    | none => rw [hb] at e; cases e
    | some cs =>
      rw [hb] at e
      cases e
      simp only [Rp] at h1
      rw [h1, txts_rps h2 hb]
      rfl
theorem nums_rps {g : Gd} {H : Hp} {F : FS} {T : Option Addr} : ∀ {ds : List D} {vs : List V} {bs : List Int}, Rps g H F T ds vs → nums ds = some bs → vs = bs.map V.int
  | [], vs, bs, h, e => by simp only [Rps] at h; cases e; exact h
  | d :: ds, vs, bs, h, e => by
    simp only [Rps] at h
    obtain ⟨v, r, rfl, h1, h2⟩ := h
    cases d <;> simp only [nums, reduceCtorEq] at e
    rename_i b
    cases hb : nums ds with
    | none => rw [hb] at e; cases e
    | some cs =>
      rw [hb] at e
      cases e
      simp only [Rp] at h1
      rw [h1, nums_rps h2 hb]
      rfl
theorem pf {g : Gd} {T : Option Addr} {H0 H' : Hp} {F' : FS} {d : D} {v : V} (h : Rp g H' F' T d v) : Post g T H0 H' F' .full d v := h
theorem len_rule : CallR X (.builtin "len") (rBi (gdOf X) .full (Bi.f .len)) := by
  intro pins s σ H xs us Q I r h
  obtain ⟨F, T, n, ds, z, tw, nf, hd, hz, q⟩ := h
  match ds, hd, hz with
  | [d], hd, hz =>
    obtain ⟨v, rfl, hv⟩ := pair1 hd
    simp only [Bi.f] at hz
    cases e : lenD d with
    | none => rw [e] at hz; cases hz
    | some k =>
      rw [e] at hz
      cases hz
      have fin : Q (.int k) H := q _ _ _ Ev.refl tw (pf rp_int)
      cases d <;> simp only [lenD, reduceCtorEq] at e
      case lst ds =>
        cases e
        obtain ⟨a, vs, rfl, h1, _, h2⟩ := hv.lst
        exact call_len pins s σ H _ us Q I r ⟨_, ds.length, rfl, .inl ⟨vs, SqL.of h1, h2.len.symm⟩, fin⟩
      case tup ds =>
        cases e
        obtain ⟨a, vs, rfl, h1, _, h2⟩ := hv.tup
        exact call_len pins s σ H _ us Q I r ⟨_, ds.length, rfl, .inr ⟨vs, h1, h2.len.symm⟩, fin⟩
      case scr ns =>
        cases e
        obtain ⟨a, rfl, h1⟩ := hv.scr
        exact call_len pins s σ H _ us Q I r ⟨_, ns.length, rfl, .inl ⟨_, h1, by rw [List.length_map]⟩, fin⟩
      case str x' =>
        split at e
        · rename_i hl
          cases e
          rw [hv.str] at r
          exact call_len pins s σ H _ us Q I r ⟨_, x'.length, rfl, ⟨hl, rfl⟩, fin⟩
        · cases e
theorem all_rule (hc : X.calm = true) : CallR X (.builtin "all") (rBi (gdOf X) .full (Bi.f .all)) := by
  intro pins s σ H xs us Q I r h
  obtain ⟨F, T, n, ds, z, tw, nf, hd, hz, q⟩ := h
  match ds, hd, hz with
  | [.lst ds], hd, hz =>
    obtain ⟨v, rfl, hv⟩ := pair1 hd
    simp only [Bi.f] at hz
    cases e : bools ds with
    | none => rw [e] at hz; cases hz
    | some bs =>
      rw [e] at hz
      cases hz
      obtain ⟨a, vs, rfl, h1, _, h2⟩ := hv.lst
      rw [bools_rps h2 e] at h1
      exact cr_all hc pins s σ H _ us Q I r ⟨a, bs, rfl, SqL.of h1, q _ _ _ Ev.refl tw (pf rp_bl)⟩
theorem max2_rule (hc : X.calm = true) : CallR X (.builtin "max") (rBi (gdOf X) .full (Bi.f .max2)) := by
  intro pins s σ H xs us Q I r h
  obtain ⟨F, T, n, ds, z, tw, nf, hd, hz, q⟩ := h
  match ds, hd, hz with
  | [.int i, .int j], hd, hz =>
    obtain ⟨v, w, rfl, hv, hw⟩ := pair2 hd
    cases hz
    rw [hv.int, hw.int] at r
    exact call_max2 hc pins s σ H _ us Q I r ⟨i, j, rfl, q _ _ _ Ev.refl tw (pf rp_int)⟩
theorem abs_rule : CallR X (.builtin "abs") (rBi (gdOf X) .full (Bi.f .abs)) := by
  intro pins s σ H xs us Q I r h
  obtain ⟨F, T, n, ds, z, tw, nf, hd, hz, q⟩ := h
  match ds, hd, hz with
  | [.int i], hd, hz =>
    obtain ⟨v, rfl, hv⟩ := pair1 hd
    cases hz
    rw [hv.int] at r
    exact call_abs pins s σ H _ us Q I r ⟨i, rfl, q _ _ _ Ev.refl tw (pf rp_int)⟩
theorem min2_rule (hc : X.calm = true) : CallR X (.builtin "min") (rBi (gdOf X) .full (Bi.f .min2)) := by
  intro pins s σ H xs us Q I r h
  obtain ⟨F, T, n, ds, z, tw, nf, hd, hz, q⟩ := h
  match ds, hd, hz with
  | [.int i, .int j], hd, hz =>
    obtain ⟨v, w, rfl, hv, hw⟩ := pair2 hd
    cases hz
    rw [hv.int, hw.int] at r
    exact call_min2 hc pins s σ H _ us Q I r ⟨i, j, rfl, q _ _ _ Ev.refl tw (pf rp_int)⟩
theorem any_rule (hc : X.calm = true) : CallR X (.builtin "any") (rBi (gdOf X) .full (Bi.f .any)) := by
  intro pins s σ H xs us Q I r h
  obtain ⟨F, T, n, ds, z, tw, nf, hd, hz, q⟩ := h
  match ds, hd, hz with
  | [.lst ds], hd, hz =>
    obtain ⟨v, rfl, hv⟩ := pair1 hd
    simp only [Bi.f] at hz
    cases e : bools ds with
    | none => rw [e] at hz; cases hz
    | some bs =>
      rw [e] at hz
      cases hz
      obtain ⟨a, vs, rfl, h1, _, h2⟩ := hv.lst
      rw [bools_rps h2 e] at h1
      exact cr_any hc pins s σ H _ us Q I r ⟨a, bs, rfl, SqL.of h1, q _ _ _ Ev.refl tw (pf rp_bl)⟩
theorem sum_rule (hc : X.calm = true) : CallR X (.builtin "sum") (rBi (gdOf X) .full (Bi.f .sum)) := by
  intro pins s σ H xs us Q I r h
  obtain ⟨F, T, n, ds, z, tw, nf, hd, hz, q⟩ := h
  match ds, hd, hz with
  | [.lst ds], hd, hz =>
    obtain ⟨v, rfl, hv⟩ := pair1 hd
    simp only [Bi.f] at hz
    cases e : nums ds with
    | none => rw [e] at hz; cases hz
    | some ns =>
      rw [e] at hz
      cases hz
      obtain ⟨a, vs, rfl, h1, _, h2⟩ := hv.lst
      rw [nums_rps h2 e] at h1
      exact cr_sum hc pins s σ H _ us Q I r ⟨a, ns, rfl, SqL.of h1, q _ _ _ Ev.refl tw (pf rp_int)⟩
theorem foldl_max (xs : List Int) : ∀ x : Int, x ≤ xs.foldl max x ∧ (∀ y ∈ xs, y ≤ xs.foldl max x) ∧ (xs.foldl max x = x ∨ xs.foldl max x ∈ xs) := by
  induction xs with
  | nil => intro x; exact ⟨Int.le_refl _, fun _ z => (by cases z), .inl rfl⟩
  | cons y ys ih =>
    intro x
    obtain ⟨h1, h2, h3⟩ := ih (max x y)
    simp only [List.foldl_cons]
    refine ⟨by omega, fun z hz => ?_, ?_⟩
    · rcases List.mem_cons.mp hz with rfl | hz
      · omega
      · exact h2 z hz
    · rcases h3 with h3 | h3
      · rcases Int.le_total x y with q | q
        · exact .inr (by rw [h3, Int.max_eq_right q]; exact List.mem_cons_self)
        · exact .inl (by rw [h3, Int.max_eq_left q])
      · exact .inr (List.mem_cons_of_mem _ h3)
theorem foldl_min (xs : List Int) : ∀ x : Int, xs.foldl min x ≤ x ∧ (∀ y ∈ xs, xs.foldl min x ≤ y) ∧ (xs.foldl min x = x ∨ xs.foldl min x ∈ xs) := by
  induction xs with
  | nil => intro x; exact ⟨Int.le_refl _, fun _ z => (by cases z), .inl rfl⟩
  | cons y ys ih =>
    intro x
    obtain ⟨h1, h2, h3⟩ := ih (min x y)
    simp only [List.foldl_cons]
    refine ⟨by omega, fun z hz => ?_, ?_⟩
    · rcases List.mem_cons.mp hz with rfl | hz
      · omega
      · exact h2 z hz
    · rcases h3 with h3 | h3
      · rcases Int.le_total x y with q | q
        · exact .inl (by rw [h3, Int.min_eq_left q])
        · exact .inr (by rw [h3, Int.min_eq_right q]; exact List.mem_cons_self)
      · exact .inr (List.mem_cons_of_mem _ h3)
theorem maxL_eq {ns : List Int} {k m : Int} (e : maxL ns = some k) (hm : m ∈ ns) (ha : ∀ y, y ∈ ns → y ≤ m) : m = k := by
  cases ns with
  | nil => cases e
  | cons x xs =>
    cases e
    obtain ⟨h1, h2, h3⟩ := foldl_max xs x
    have a : m ≤ xs.foldl max x := by
      rcases List.mem_cons.mp hm with rfl | hm
      · exact h1
      · exact h2 m hm
    have b : xs.foldl max x ≤ m := by
      rcases h3 with h3 | h3
      · rw [h3]; exact ha x List.mem_cons_self
      · exact ha _ (List.mem_cons_of_mem _ h3)
    omega
theorem minL_eq {ns : List Int} {k m : Int} (e : minL ns = some k) (hm : m ∈ ns) (ha : ∀ y, y ∈ ns → m ≤ y) : m = k := by
  cases ns with
  | nil => cases e
  | cons x xs =>
    cases e
    obtain ⟨h1, h2, h3⟩ := foldl_min xs x
    have a : xs.foldl min x ≤ m := by
      rcases List.mem_cons.mp hm with rfl | hm
      · exact h1
      · exact h2 m hm
    have b : m ≤ xs.foldl min x := by
      rcases h3 with h3 | h3
      · rw [h3]; exact ha x List.mem_cons_self
      · exact ha _ (List.mem_cons_of_mem _ h3)
    omega
theorem max1_rule (hc : X.calm = true) : CallR X (.builtin "max") (rBi (gdOf X) .full (Bi.f .max1)) := by
  intro pins s σ H xs us Q I r h
  obtain ⟨F, T, n, ds, z, tw, nf, hd, hz, q⟩ := h
  match ds, hd, hz with
  | [.lst ds], hd, hz =>
    obtain ⟨v, rfl, hv⟩ := pair1 hd
    simp only [Bi.f] at hz
    cases e : nums ds with
    | none => rw [e] at hz; cases hz
    | some ns =>
      rw [e] at hz
      obtain ⟨a, vs, rfl, h1, _, h2⟩ := hv.lst
      rw [nums_rps h2 e] at h1
      simp only [Option.bind_some] at hz
      cases em : maxL ns with
      | none => rw [em] at hz; cases hz
      | some k =>
        rw [em] at hz
        cases hz
        refine cr_max hc pins s σ H _ us Q I r ⟨a, ns, rfl, SqL.of h1, ?_, fun m hm ha => ?_⟩
        · cases ns with
          | nil => cases em
          | cons _ _ => simp
        · rw [maxL_eq em hm ha]; exact q _ _ _ Ev.refl tw (pf rp_int)
theorem min1_rule (hc : X.calm = true) : CallR X (.builtin "min") (rBi (gdOf X) .full (Bi.f .min1)) := by
  intro pins s σ H xs us Q I r h
  obtain ⟨F, T, n, ds, z, tw, nf, hd, hz, q⟩ := h
  match ds, hd, hz with
  | [.lst ds], hd, hz =>
    obtain ⟨v, rfl, hv⟩ := pair1 hd
    simp only [Bi.f] at hz
    cases e : nums ds with
    | none => rw [e] at hz; cases hz
    | some ns =>
      rw [e] at hz
      obtain ⟨a, vs, rfl, h1, _, h2⟩ := hv.lst
      rw [nums_rps h2 e] at h1
      simp only [Option.bind_some] at hz
      cases em : minL ns with
      | none => rw [em] at hz; cases hz
      | some k =>
        rw [em] at hz
        cases hz
        refine cr_min hc pins s σ H _ us Q I r ⟨a, ns, rfl, SqL.of h1, ?_, fun m hm ha => ?_⟩
        · cases ns with
          | nil => cases em
          | cons _ _ => simp
        · rw [minL_eq em hm ha]; exact q _ _ _ Ev.refl tw (pf rp_int)
/-! sorted -/
theorem toPs_map : ∀ ds : List D, D.toPs ds = ds.map D.toP
  | [] => by simp only [D.toPs, List.map_nil]
  | d :: ds => by simp only [D.toPs, List.map_cons, toPs_map ds]
theorem pls_mem : ∀ {ds : List D}, D.pls ds = true → ∀ d ∈ ds, d.pl = true
  | e :: es, h, d, hd => by
    simp only [D.pls, Bool.and_eq_true] at h
    rcases List.mem_cons.mp hd with rfl | hd
    · exact h.1
    · exact pls_mem h.2 d hd
theorem deps_mem : ∀ {ds : List D} {n : Nat}, D.deps ds ≤ n → ∀ d ∈ ds, d.dep ≤ n
  | e :: es, n, h, d, hd => by
    simp only [D.deps] at h
    rcases List.mem_cons.mp hd with rfl | hd
    · omega
    · exact deps_mem (show D.deps es ≤ n by omega) d hd
theorem each_of {g : Gd} {H : Hp} {F : FS} {T : Option Addr} : ∀ {ds : List D} {vs : List V} {us : List Value}, Rps g H F T ds vs → Vals vs us → PySem.W.EachIs (fun (u : Value) (d : D) => ∃ v, RelV v u ∧ Rp g H F T d v) us ds
  | [], _, us, h, r => by
    simp only [Rps] at h
    subst h
    cases r
    exact .nil
  | d :: ds, _, us, h, r => by
    simp only [Rps] at h
    obtain ⟨v, w, rfl, h1, h2⟩ := h
    cases r with
    | cons r1 r2 => exact .cons ⟨v, r1, h1⟩ (each_of h2 r2)
theorem of_each {g : Gd} {H : Hp} {F : FS} {T : Option Addr} : ∀ {ds : List D} {us : List Value}, PySem.W.EachIs (fun (u : Value) (d : D) => ∃ v, RelV v u ∧ Rp g H F T d v) us ds → ∃ vs, Vals vs us ∧ Rps g H F T ds vs
  | _, _, .nil => ⟨[], .nil, by simp only [Rps]⟩
  | _, _, .cons ⟨v, r, h⟩ t => by
    obtain ⟨vs, r2, h2⟩ := of_each t
    exact ⟨v :: vs, .cons r r2, by simp only [Rps]; exact ⟨v, vs, rfl, h, h2⟩⟩
theorem srt_rule (hu : X.A.units + 65 < cLine) : CallR X (.builtin "sorted") (rBi (gdOf X) .new (Bi.f .srt)) := by
  intro pins s σ H xs us Q I r h
  obtain ⟨F, T, n, ds, z, tw, nf, hd, hz, q⟩ := h
  match ds, hd, hz with
  | [.lst ds], hd, hz =>
    obtain ⟨v, rfl, hv⟩ := pair1 hd
    simp only [Bi.f] at hz
    split at hz
    · rename_i hb
      cases hz
      obtain ⟨a, vs, rfl, h1, l, h2⟩ := hv.lst
      obtain ⟨its, rv, hl, _⟩ := I.list (SqL.of h1)
      rw [Vals.ref1 r]
      unfold srtB at hb
      simp only [Bool.and_eq_true, decide_eq_true_eq] at hb
      obtain ⟨⟨⟨b1, b2⟩, b3⟩, b4⟩ := hb
      have er : PySem.W.EachIs (fun (u : Value) (d : D) => ∃ v, RelV v u ∧ Rp (gdOf X) H F T d v) its ds := each_of h2 rv
      have er2 : PySem.W.EachIs (fun u (d : D) => ∃ as, Reads s.heap u (D.toP d) as) its ds := (PySem.W.each_mem er).mono fun u d z => by
        obtain ⟨⟨v, r1, r2⟩, hm⟩ := z
        exact Dp.reads I _ v u (rp_dp (g := gdOf X) d v (pls_mem b1 d hm) r2) r1
      have hln : ds.length ≤ sizeLine := by rw [← h2.len]; exact l
      refine PySem.W.sorted_data (enc := D.toP) hl.isList er er2 ?_ ?_ hln (fun d hd => ?_) fun out ho eo => ?_
      · intro d hd d' hd'
        obtain ⟨e, he, rfl⟩ := List.mem_map.mp hd
        obtain ⟨e', he', rfl⟩ := List.mem_map.mp hd'
        exact List.all_eq_true.mp (List.all_eq_true.mp b3 e he) e' he'
      · simp only [Bool.or_eq_true] at b4
        rcases b4 with b4 | b4
        · refine .inl fun d hd => ?_
          obtain ⟨e, he, rfl⟩ := List.mem_map.mp hd
          have k := List.all_eq_true.mp b4 e he
          cases e with
          | tup ys => cases ys with
            | nil => cases k
            | cons y ys => exact ⟨_, _, by simp only [D.toP, D.toPs]; rfl⟩
          | _ => cases k
        · refine .inr fun d hd => ?_
          obtain ⟨e, he, rfl⟩ := List.mem_map.mp hd
          have k := List.all_eq_true.mp b4 e he
          cases e with
          | int _ => simp [D.toP]
          | str _ => simp [D.toP]
          | lst _ => simp [D.toP]
          | _ => cases k
      · have := deps_mem b2 d hd
        rw [toP_depth]
        omega
      · obtain ⟨vs', r1, r2⟩ := of_each eo
        obtain ⟨ep, he'⟩ := PyProof.Rows.sortedAll_at s.heap its out.toArray
        have hlen : vs'.length ≤ sizeLine := by rw [Vals.length r1, ho]; exact hln
        have hp : H (s.heap.objs.size + 1) = none := I.hok.fresh (Nat.le_succ _)
        have k : Kp H F (upd H (s.heap.objs.size + 1) (.lst vs')) F := Kp.alloc hp fun _ f => f
        have fp : ¬ F (s.heap.objs.size + 1) := fun f => by
          obtain ⟨o, q⟩ := nf.2 _ f
          rw [hp] at q; cases q
        exact ⟨.ref _, upd H (s.heap.objs.size + 1) (.lst vs'), I.laid (t' := s.toks) (fun _ _ => PyProof.Rows.sortedAll_old) (Nat.le_succ _) ⟨hlen, out, ep, r1, he'⟩, rfl, q _ _ F (Ev.alloc hp) (tw.alloc hp) ⟨_, vs', _, rfl, rfl, hp, upd_same, fp, tw.notIn hp, hlen, Rps.kp k (fun _ z => z) _ _ r2⟩⟩
    · cases hz
theorem int_rule : CallR X (.type "int") (rBi (gdOf X) .full (Bi.f .int)) := by
  intro pins s σ H xs us Q I r h
  obtain ⟨F, T, n, ds, z, tw, nf, hd, hz, q⟩ := h
  match ds, hd, hz with
  | [.int i], hd, hz =>
    obtain ⟨v, rfl, hv⟩ := pair1 hd
    cases hz
    rw [hv.int] at r
    exact call_int1 pins s σ H _ us Q I r (.inl ⟨i, rfl, q _ _ _ Ev.refl tw (pf rp_int)⟩)
  | [.bl i], hd, hz =>
    obtain ⟨v, rfl, hv⟩ := pair1 hd
    cases hz
    rw [hv.bl] at r
    exact call_int1 pins s σ H _ us Q I r (.inr ⟨i, rfl, q _ _ _ Ev.refl tw (pf rp_int)⟩)
theorem list_rule : CallR X (.type "list") (rBi (gdOf X) .new (Bi.f .list)) := by
  intro pins s σ H xs us Q I r h
  obtain ⟨F, T, n, ds, z, tw, nf, hd, hz, q⟩ := h
  have fin : ∀ ds vs, z = .lst ds → vs.length ≤ sizeLine → Rps (gdOf X) H F T ds vs → ∀ p, H p = none → Q (.ref p) (upd H p (.lst vs)) := fun ds vs e l h p hp => by
    have k : Kp H F (upd H p (.lst vs)) F := Kp.alloc hp fun _ f => f
    have fp : ¬ F p := fun f => by
      obtain ⟨o, q⟩ := nf.2 p f
      rw [hp] at q; cases q
    exact q _ _ F (Ev.alloc hp) (tw.alloc hp) ⟨p, vs, ds, e, rfl, hp, upd_same, fp, tw.notIn hp, l, Rps.kp k (fun _ z => z) _ _ h⟩
  match ds, hd, hz with
  | [.lst ds], hd, hz =>
    obtain ⟨v, rfl, hv⟩ := pair1 hd
    cases hz
    obtain ⟨a, vs, rfl, h1, l, h2⟩ := hv.lst
    exact call_list_of pins s σ H _ us Q I r ⟨a, vs, rfl, .inl (SqL.of h1), fin ds vs rfl l h2⟩
  | [.tup ds], hd, hz =>
    obtain ⟨v, rfl, hv⟩ := pair1 hd
    cases hz
    obtain ⟨a, vs, rfl, h1, l, h2⟩ := hv.tup
    exact call_list_of pins s σ H _ us Q I r ⟨a, vs, rfl, .inr h1, fin ds vs rfl l h2⟩
theorem tuple_rule : CallR X (.type "tuple") (rBi (gdOf X) .full (Bi.f .tuple)) := by
  intro pins s σ H xs us Q I r h
  obtain ⟨F, T, n, ds, z, tw, nf, hd, hz, q⟩ := h
  match ds, hd, hz with
  | [.lst ds], hd, hz =>
    obtain ⟨v, rfl, hv⟩ := pair1 hd
    cases hz
    obtain ⟨a, vs, rfl, h1, l, h2⟩ := hv.lst
    refine call_tuple_of pins s σ H _ us Q I r ⟨a, vs, rfl, .inl ⟨SqL.of h1, fun p hp => q _ _ _ (Ev.alloc hp) (tw.alloc hp) ?_⟩⟩
    have k : Kp H F (upd H p (.tup vs)) F := Kp.alloc hp fun _ f => f
    exact pf (rp_tup (SqT.of upd_same) l (Rps.kp k (fun _ z => z) _ _ h2))
  | [.tup ds], hd, hz =>
    obtain ⟨v, rfl, hv⟩ := pair1 hd
    cases hz
    obtain ⟨a, vs, rfl, h1, l, h2⟩ := hv.tup
    exact call_tuple_of pins s σ H _ us Q I r ⟨a, vs, rfl, .inr ⟨h1, q _ _ _ Ev.refl tw (pf (rp_tup h1 l h2))⟩⟩
end
end Ss
/-! Ss, part E: where one stands; the rules for expressions. -/
namespace Ss
open PySem PySem.Spec PyProof.Rows L2

def bns : List Str := ["len", "all", "max", "int", "list", "tuple", "isinstance", "set", "range", "bool", "str", "abs", "min", "sum", "any", "sorted", "dict", "zip", "ValueError"]
structure GdOk (g : Gd) : Prop where
  fr : ∀ x ∈ bns, g.mg x = none
structure Gud (g : Gd) (X : Cx) (W : WX) (sc : Scope) (fb : Str → Bool) (N : List Str) (L : Nat) : Prop where
  gd : gdOf X = g
  ok : GdOk g
  es : X.env.scope = sc
  nm : X.N = N
  nd : N.Nodup
  calm : X.calm = true
  room : Room L X.A
  tk : Takes X W
  fc : ∀ x, fb x = true → X.fn x = true
  own : PassesOwn (model X.prog X.w) X.A X.env X.xe
/-- what a def promises -/
def spOf (g : Gd) (f : Fn) : Sp := fun vs H Q E => ∃ F T n ds, Tw g T H F n ∧ (∀ a, T = some a → ¬ F a) ∧ (∀ a, F a → ∃ o, H a = some o) ∧ Rps g H F T ds vs ∧ ds.length = f.ar ∧
  Fin g (fun c d _ H' => E c d H') [] T H F (f.sem ds n) fun d _ H' F' => ∀ v, Rp g H' F' T d v → Q v H'
structure FnG (g : Gd) (L : Nat) (f : Fn) : Prop where
  ex : ∃ (a : Addr) (fd : FuncData) (ps : List Str), g.mg f.name = some (.ref a) ∧ PySem.W.keepIn g.K (.ref a) = true ∧ Binds g.K fd ps [] ∧ ps.length = f.ar ∧ FnOk g.P g.w g.K g.mg g.base (L2.CX g.P g.w) L a fd ps (spOf g f)
/-- a module's constant -/
def GlG (g : Gd) (x : Str) (d : D) : Prop := ∃ (v : V) (u : Value), g.mg x = some u ∧ RelV v u ∧ ∀ H F T, Rp g H F T d v

/-! ### names -/
def visB (sc : Scope) (x : Str) : Bool := match sc.names.lookup x with
  | some .local => true
  | some .cell => true
  | some .free => true
  | _ => false
def locB (sc : Scope) (x : Str) : Bool := match sc.names.lookup x with
  | some .local => true
  | some .cell => true
  | _ => false
def nmB (sc : Scope) (N : List Str) (i : Nat) (x : Str) : Bool := (N[i]? == some x) && visB sc x && !(x == ("__debug__" : Str)) && !(x == ("__classdict__" : Str))
def glB (sc : Scope) (x : Str) : Bool := (sc.names.lookup x == some .globalImplicit) && !(x == ("__debug__" : Str))
theorem visB_ok {sc : Scope} {x : Str} (h : visB sc x = true) : Vis sc x := by
  unfold visB at h
  split at h
  · exact .inl ‹_›
  · exact .inr (.inl ‹_›)
  · exact .inr (.inr ‹_›)
  · cases h
theorem locB_ok {sc : Scope} {x : Str} (h : locB sc x = true) : Loc sc x := by
  unfold locB at h
  split at h
  · exact .inl ‹_›
  · exact .inr ‹_›
  · cases h
section
variable {g : Gd} {X : Cx} {W : WX} {sc : Scope} {fb : Str → Bool} {N : List Str} {L : Nat} {B : Bs}
theorem Gud.vis (G : Gud g X W sc fb N L) {i : Nat} {x : Str} (h : nmB sc N i x = true) : X.N[i]? = some x ∧ Vis X.env.scope x ∧ (x == ("__debug__" : Str)) = false ∧ (x == ("__classdict__" : Str)) = false := by
  unfold nmB at h
  simp only [Bool.and_eq_true, Bool.not_eq_true', beq_iff_eq] at h
  rw [G.nm, G.es]
  exact ⟨h.1.1.1, visB_ok h.1.1.2, h.1.2, h.2⟩
theorem Gud.gl (G : Gud g X W sc fb N L) {x : Str} (h : glB sc x = true) : Gl X x ∧ (x == ("__debug__" : Str)) = false := by
  unfold glB at h
  simp only [Bool.and_eq_true, Bool.not_eq_true', beq_iff_eq] at h
  refine ⟨?_, h.2⟩
  show X.env.scope.names.lookup x = _
  rw [G.es]
  exact h.1
theorem Gud.units (G : Gud g X W sc fb N L) : X.A.units + 65 < cLine := by have := G.room.un; omega
theorem Gud.bn (G : Gud g X W sc fb N L) {x : Str} (h : x ∈ bns) : X.mg x = none := by
  have := G.ok.fr x h
  rw [← G.gd] at this
  exact this

theorem se_var (G : Gud g X W sc fb N L) {i : Nat} {x : Str} {pos : Pos} (h : nmB sc N i x = true) : PE X (.Name x pos) (tI g B W .full fun ρ => lft (getD ρ i)) := by
  obtain ⟨h1, h2, h3, h4⟩ := G.vis h
  refine pe_wk (pe_var h1 h2 h3 h4) fun σ H Q q => ?_
  obtain ⟨ρ, F, T, n, R, q⟩ := q
  obtain ⟨d, e, k, _⟩ := q.lft R.tw
  obtain ⟨v, e1, e2⟩ := R.dat e
  exact ⟨v, e1, k v e2⟩
theorem se_own (G : Gud g X W sc fb N L) {i : Nat} {x : Str} {pos : Pos} (h : nmB sc N i x = true) : PE X (.Name x pos) (tI g B W .shal fun ρ => lft ((getO ρ i).map D.lst)) := by
  obtain ⟨h1, h2, h3, h4⟩ := G.vis h
  refine pe_wk (pe_var h1 h2 h3 h4) fun σ H Q q => ?_
  obtain ⟨ρ, F, T, n, R, q⟩ := q
  obtain ⟨d, e, k, _⟩ := q.lft R.tw
  cases eo : getO ρ i with
  | none => rw [eo] at e; cases e
  | some xs =>
    rw [eo] at e
    cases e
    obtain ⟨_, a, vs, e1, e2, e3, e4, eo, e5, e6, e7⟩ := R.owd eo
    exact ⟨.ref a, e1, k _ (.inr ⟨a, vs, xs, rfl, rfl, e2, e4, eo, e6, e7⟩)⟩
def litB : D → Const → Bool
  | .non, .none => true
  | .bl b, .bool c => b == c
  | .int i, .int j => decide (i = j)
  | .str x, .str y => decide (x = y)
  | _, _ => false
theorem se_lit {d : D} {c : Const} {j : Nat} {pos : Pos} (h : litB d c = true) : PE X (.Constant c j pos) (tI g B W .full fun _ => ret d) := by
  have fin : ∀ v σ H Q, (∀ H F T, Rp g H F T d v) → tI g B W .full (fun _ => ret d) σ H Q → Q v H := fun v σ H Q hv q => by
    obtain ⟨ρ, F, T, n, R, q⟩ := q
    exact q H F Ev.refl R.tw v (hv H F T)
  cases d <;> cases c <;> simp only [litB, reduceCtorEq, Bool.false_eq_true] at h
  · exact pe_wk pe_non fun σ H Q q => fin _ σ H Q (fun _ _ _ => rp_non) q
  · have e := eq_of_beq h
    subst e
    exact pe_wk pe_bl fun σ H Q q => fin _ σ H Q (fun _ _ _ => rp_bl) q
  · have e := of_decide_eq_true h
    subst e
    exact pe_wk pe_int fun σ H Q q => fin _ σ H Q (fun _ _ _ => rp_int) q
  · have e := of_decide_eq_true h
    subst e
    exact pe_wk pe_str fun σ H Q q => fin _ σ H Q (fun _ _ _ => rp_str) q
theorem se_glob (G : Gud g X W sc fb N L) {x : Str} {d : D} {pos : Pos} (hd : GlG g x d) (h : glB sc x = true) : PE X (.Name x pos) (tI g B W .full fun _ => ret d) := by
  obtain ⟨h1, h2⟩ := G.gl h
  obtain ⟨v, u, e1, e2, e3⟩ := hd
  have e1 : X.mg x = some u := by rw [← G.gd] at e1; exact e1
  refine pe_wk (pe_glob h1 e1 e2 h2) fun σ H Q q => ?_
  obtain ⟨ρ, F, T, n, R, q⟩ := q
  exact q H F Ev.refl R.tw v (e3 H F T)

/-! ### argument lists -/
def nst : Expr → Bool
  | .Starred _ _ => false
  | _ => true
theorem star_of {e : Expr} {es : List Expr} {env : PySem.Env} (h : nst e = true) : starEach (e :: es) env = (false, eval e env) :: starEach es env := by
  cases e <;> first | rfl | (simp only [nst, Bool.false_eq_true] at h)
theorem sa_nil {kd : Kd} : PA X [] (tIs g B W kd fun _ => ret []) := by
  refine pa_wk pa_nil fun σ H Q q => ?_
  obtain ⟨ρ, F, T, n, R, q⟩ := q
  refine q H F Ev.refl R.tw [] ?_
  cases kd
  · exact (Rps.nil : Rps g H F T [] [])
  · exact .nil
  · exact (Rps.nil : Rps g H F T [] [])
theorem sa_cons {kd : Kd} {e : Expr} {es : List Expr} {f : Ss.Env → M D} {fs : Ss.Env → M (List D)} (he : PE X e (tI g B W kd f)) (hk : kd = .full ∨ kd = .shal) (hs : PA X es (tIs g B W kd fs)) (hn : nst e = true) :
    PA X (e :: es) (tIs g B W kd fun ρ => bnd (f ρ) fun d => bnd (fs ρ) fun ds => ret (d :: ds)) := by
  refine pa_wk (pa_cons he hs (star_of hn)) fun σ H Q q => ?_
  obtain ⟨ρ, F, T, n, R, q⟩ := q
  refine ⟨ρ, F, T, n, R, q.bnd.mono fun d n1 H1 F1 e1 t1 q1 v p1 => ?_⟩
  have R1 := R.step e1 t1
  refine ⟨ρ, F1, T, n1, R1, q1.bnd.mono fun ds n2 H2 F2 e2 t2 q2 vs p2 => ?_⟩
  refine q2 H2 F2 Ev.refl t2 (v :: vs) ?_
  rcases hk with rfl | rfl
  · exact Rps.cons (R1.rp e2 p1) p2
  · exact .cons (RpS.ev R1.tw R1.nf e2 p1) p2

/-! ### displays -/
theorem se_tup {es : List Expr} {fs : Ss.Env → M (List D)} {j : Nat} {pos : Pos} (h : PA X es (tIs g B W .full fs)) : PE X (.Tuple es j pos) (tI g B W .full fun ρ => bnd (fs ρ) fun ds => if ds.length ≤ sizeLine then ret (.tup ds) else bad) := by
  refine pe_wk (pe_tup h) fun σ H Q q => ?_
  obtain ⟨ρ, F, T, n, R, q⟩ := q
  refine ⟨ρ, F, T, n, R, q.bnd.mono fun ds n1 H1 F1 e1 t1 q1 vs p1 => ?_⟩
  have R1 := R.step e1 t1
  by_cases hl : ds.length ≤ sizeLine
  · rw [if_pos hl] at q1
    have p1 : Rps g H1 F1 T ds vs := p1
    have hl' : vs.length ≤ sizeLine := by rw [p1.len]; exact hl
    refine ⟨hl', fun p hp => q1 (upd H1 p (.tup vs)) F1 (Ev.alloc hp) (t1.alloc hp) _ ?_⟩
    have k : Kp H1 F1 (upd H1 p (.tup vs)) F1 := Kp.alloc hp fun _ f => f
    exact rp_tup (SqT.of upd_same) hl' (Rps.kp k (fun _ z => z) _ _ p1)
  · rw [if_neg hl] at q1; exact False.elim q1
theorem newPost {T : Option Addr} {H1 : Hp} {F1 : FS} {n : S} {ds : List D} {vs : List V} {p : Addr} (tw : Tw g T H1 F1 n) (dm : ∀ a, F1 a → ∃ o, H1 a = some o) (hp : H1 p = none) (H0 : Hp) (h0 : H0 p = none) (l : vs.length ≤ sizeLine) (r : Rps g H1 F1 T ds vs) :
    Post g T H0 (upd H1 p (.lst vs)) F1 .new (.lst ds) (.ref p) := by
  have k : Kp H1 F1 (upd H1 p (.lst vs)) F1 := Kp.alloc hp fun _ f => f
  refine ⟨p, vs, ds, rfl, rfl, h0, upd_same, fun f => ?_, tw.notIn hp, l, Rps.kp k (fun _ z => z) _ _ r⟩
  obtain ⟨o, q⟩ := dm p f
  rw [hp] at q; cases q
theorem none_back {T : Option Addr} {H H1 : Hp} {F F1 : FS} {n : S} (e : Ev T H F H1 F1) (t : Tw g T H1 F1 n) {p : Addr} (hp : H1 p = none) : H p = none := by
  cases q : H p with
  | none => rfl
  | some o =>
    by_cases z : T = some p
    · rw [t.tn p z] at hp; cases hp
    · by_cases m : p ∈ F.ob
      · obtain ⟨l, el, _⟩ := e.obs
        obtain ⟨u, hu⟩ := (t.isS (a := p) (by rw [el]; exact List.mem_append_left _ m)).1
        rw [hu] at hp; cases hp
      · rw [e.same p o q z fun y => absurd y m] at hp; cases hp
theorem se_lst {es : List Expr} {fs : Ss.Env → M (List D)} {pos : Pos} (h : PA X es (tIs g B W .full fs)) : PE X (.List es pos) (tI g B W .new fun ρ => bnd (fs ρ) fun ds => if ds.length ≤ sizeLine then ret (.lst ds) else bad) := by
  refine pe_wk (pe_lst h) fun σ H Q q => ?_
  obtain ⟨ρ, F, T, n, R, q⟩ := q
  refine ⟨ρ, F, T, n, R, q.bnd.mono fun ds n1 H1 F1 e1 t1 q1 vs p1 => ?_⟩
  have R1 := R.step e1 t1
  by_cases hl : ds.length ≤ sizeLine
  · rw [if_pos hl] at q1
    have p1 : Rps g H1 F1 T ds vs := p1
    have hl' : vs.length ≤ sizeLine := by rw [p1.len]; exact hl
    exact ⟨hl', fun p hp => q1 (upd H1 p (.lst vs)) F1 (Ev.alloc hp) (t1.alloc hp) _ (newPost R1.tw R1.dm hp H (none_back e1 t1 hp) hl' p1)⟩
  · rw [if_neg hl] at q1; exact False.elim q1

/-! ### operators, comparisons -/
theorem se_op (G : Gud g X W sc fb N L) {o : Op} {a b : Expr} {fa fb : Ss.Env → M D} {pos : Pos} (ha : PE X a (tI g B W .shal fa)) (hb : PE X b (tI g B W .shal fb)) :
    PE X (.BinOp a o.ast b pos) (tI g B W .full fun ρ => bnd (fa ρ) fun x => bnd (fb ρ) fun y => lft (o.f x y)) := by
  obtain rfl := G.gd
  refine pe_wk (pe_op (op_rule o) ha hb) fun σ H Q q => ?_
  obtain ⟨ρ, F, T, n, R, q⟩ := q
  refine ⟨ρ, F, T, n, R, q.bnd.mono fun d n1 H1 F1 e1 t1 q1 v p1 => ?_⟩
  have R1 := R.step e1 t1
  refine ⟨ρ, F1, T, n1, R1, q1.bnd.mono fun e n2 H2 F2 e2 t2 q2 u p2 => ?_⟩
  have R2 := R1.step e2 t2
  obtain ⟨z, ez, _, k⟩ := q2.lft t2
  exact ⟨F2, T, n2, d, e, z, t2, R2.nf, RpS.ev R1.tw R1.nf e2 p1, p2, ez, fun w H' F' e3 t3 p3 => k H' F' e3 t3 w p3⟩
theorem cmpB (o : Cm) (b : Expr) (h : (match b with | .Set _ _ _ => false | _ => true) = true) : behindInMarks o.ast b = false := by
  cases b <;> first | rfl | (simp only [Bool.false_eq_true] at h)
theorem se_cmp (G : Gud g X W sc fb N L) {o : Cm} {a b : Expr} {fa fb : Ss.Env → M D} {pos : Pos} (ha : PE X a (tI g B W .shal fa)) (hb : PE X b (tI g B W .shal fb)) (hm : behindInMarks o.ast b = false) :
    PE X (.Compare a [o.ast] [b] pos) (tI g B W .full fun ρ => bnd (fa ρ) fun x => bnd (fb ρ) fun y => lft ((o.f x y).map D.bl)) ∧
    PT X (.Compare a [o.ast] [b] pos) (tT g B W fun ρ => truM (bnd (fa ρ) fun x => bnd (fb ρ) fun y => lft ((o.f x y).map D.bl))) := by
  obtain rfl := G.gd
  constructor
  · refine pe_wk (pe_cmpR (cm_rule o G.units) ha hb hm) fun σ H Q q => ?_
    obtain ⟨ρ, F, T, n, R, q⟩ := q
    refine ⟨ρ, F, T, n, R, q.bnd.mono fun d n1 H1 F1 e1 t1 q1 v p1 => ?_⟩
    have R1 := R.step e1 t1
    refine ⟨ρ, F1, T, n1, R1, q1.bnd.mono fun e n2 H2 F2 e2 t2 q2 u p2 => ?_⟩
    have R2 := R1.step e2 t2
    obtain ⟨z, ez, k, _⟩ := q2.lft t2
    cases eb : o.f d e with
    | none => rw [eb] at ez; cases ez
    | some b =>
      rw [eb] at ez
      cases ez
      exact ⟨F2, T, d, e, b, RpS.ev R1.tw R1.nf e2 p1, p2, eb, k _ (pf rp_bl)⟩
  · refine pt_wk (pt_cmpR (cm_rule o G.units) ha hb hm) fun σ H Q q => ?_
    obtain ⟨ρ, F, T, n, R, q⟩ := q
    unfold truM at q
    refine ⟨ρ, F, T, n, R, q.bnd.bnd.mono fun d n1 H1 F1 e1 t1 q1 v p1 => ?_⟩
    have R1 := R.step e1 t1
    refine ⟨ρ, F1, T, n1, R1, q1.bnd.mono fun e n2 H2 F2 e2 t2 q2 u p2 => ?_⟩
    have R2 := R1.step e2 t2
    obtain ⟨z, ez, k, _⟩ := q2.lft t2
    cases eb : o.f d e with
    | none => rw [eb] at ez; cases ez
    | some b =>
      rw [eb] at ez
      cases ez
      obtain ⟨b', e', k, _⟩ := k.lft t2
      cases e'
      exact ⟨F2, T, d, e, b, RpS.ev R1.tw R1.nf e2 p1, p2, eb, b, rfl, k⟩
theorem le_bl {d e : D} {k : Bool} (h : Cm.f .le d e = some k) : True := trivial
theorem se_chain (G : Gud g X W sc fb N L) {a b c : Expr} {fa fb fc : Ss.Env → M D} {pos : Pos} (ha : PE X a (tI g B W .shal fa)) (hb : PE X b (tI g B W .shal fb)) (hc : PE X c (tI g B W .shal fc)) (hm : lastMarks [CmpOp.LtE, CmpOp.LtE] [b, c] = false) :
    PE X (.Compare a [.LtE, .LtE] [b, c] pos) (tI g B W .full fun ρ => bnd (fa ρ) fun x => bnd (fb ρ) fun y => bnd (lft (Cm.f .le x y)) fun k => if k then bnd (fc ρ) fun z => lft ((Cm.f .le y z).map D.bl) else ret (.bl false)) ∧
    PT X (.Compare a [.LtE, .LtE] [b, c] pos) (tT g B W fun ρ => truM (bnd (fa ρ) fun x => bnd (fb ρ) fun y => bnd (lft (Cm.f .le x y)) fun k => if k then bnd (fc ρ) fun z => lft ((Cm.f .le y z).map D.bl) else ret (.bl false))) := by
  obtain rfl := G.gd
  have key : ∀ (σ : L2.St) (H : Hp) (Q : VK), (∃ ρ F T n, Rel (gdOf X) B ρ σ H F T n ∧ Fin (gdOf X) W σ T H F ((bnd (fa ρ) fun x => bnd (fb ρ) fun y => bnd (lft (Cm.f .le x y)) fun k => if k then bnd (fc ρ) fun z => lft ((Cm.f .le y z).map D.bl) else ret (.bl false)) n) fun d _ H' F' => ∀ b, d = .bl b → Q (.bl b) H') →
      tChain (rCm (gdOf X) (Cm.f .le)) (rCm (gdOf X) (Cm.f .le)) (tI (gdOf X) B W .shal fa) (tI (gdOf X) B W .shal fb) (tI (gdOf X) B W .shal fc) σ H Q := fun σ H Q q => by
    obtain ⟨ρ, F, T, n, R, q⟩ := q
    refine ⟨ρ, F, T, n, R, q.bnd.mono fun d n1 H1 F1 e1 t1 q1 v p1 => ?_⟩
    have R1 := R.step e1 t1
    refine ⟨ρ, F1, T, n1, R1, q1.bnd.mono fun e n2 H2 F2 e2 t2 q2 u p2 => ?_⟩
    have R2 := R1.step e2 t2
    obtain ⟨k, ek, q3, _⟩ := q2.bnd.lft t2
    refine ⟨F2, T, d, e, k, RpS.ev R1.tw R1.nf e2 p1, p2, ek, k, rfl, ?_⟩
    cases k with
    | false =>
      simp only [Bool.false_eq_true, if_false] at q3 ⊢
      exact q3 H2 F2 Ev.refl t2 _ rfl
    | true =>
      simp only [if_true] at q3 ⊢
      refine ⟨ρ, F2, T, n2, R2, q3.bnd.mono fun z n3 H3 F3 e3 t3 q4 w p3 => ?_⟩
      obtain ⟨y, ey, k, _⟩ := q4.lft t3
      cases eb : Cm.f .le e z with
      | none => rw [eb] at ey; cases ey
      | some b =>
        rw [eb] at ey
        cases ey
        exact ⟨F3, T, e, z, b, RpS.ev R2.tw R2.nf e3 p2, p3, eb, k _ rfl⟩
  constructor
  · refine pe_wk (pe_chain (cm_rule .le G.units) (cm_rule .le G.units) ha hb hc hm) fun σ H Q q => key σ H Q ?_
    obtain ⟨ρ, F, T, n, R, q⟩ := q
    exact ⟨ρ, F, T, n, R, q.mono fun d n' H' F' e t k b eb => k _ (by rw [eb]; exact pf rp_bl)⟩
  · refine pt_wk (pt_chain (cm_rule .le G.units) (cm_rule .le G.units) ha hb hc hm) fun σ H Q q => ?_
    obtain ⟨ρ, F, T, n, R, q⟩ := q
    unfold truM at q
    refine key σ H _ ⟨ρ, F, T, n, R, q.bnd.mono fun d n' H' F' e t k b eb => ?_⟩
    subst eb
    obtain ⟨b', eb, k, _⟩ := k.lft t
    cases eb
    exact ⟨_, rfl, k⟩
theorem se_isn (G : Gud g X W sc fb N L) {neg : Bool} {a : Expr} {fa : Ss.Env → M D} {j : Nat} {pos pos' : Pos} (ha : PE X a (tI g B W .shal fa)) :
    PE X (.Compare a [if neg then .IsNot else .Is] [.Constant .none j pos'] pos) (tI g B W .full fun ρ => bnd (fa ρ) fun x => ret (.bl (match x with
    | .non => !neg
    | _ => neg))) ∧
    PT X (.Compare a [if neg then .IsNot else .Is] [.Constant .none j pos'] pos) (tT g B W fun ρ => truM (bnd (fa ρ) fun x => ret (.bl (match x with
    | .non => !neg
    | _ => neg)))) := by
  have val : ∀ {T : Option Addr} {H : Hp} {F : FS} {d : D} {v : V}, RpS g T H F d v → (match d with | .non => true | _ => false) = decide (v = .non) := fun {T H F d v} h => by
    cases d with
    | non => rw [h.non]; rfl
    | bl b => rw [h.bl]; rfl
    | int i => rw [h.int]; rfl
    | str x => rw [h.str]; rfl
    | lst xs => obtain ⟨a, vs, rfl, _⟩ := h.lst; rfl
    | tup xs => obtain ⟨a, vs, rfl, _⟩ := h.tup; rfl
    | scr ns => obtain ⟨a, rfl, _⟩ := h.scr; rfl
    | dic _ _ =>
      rcases h with h | ⟨_, _, _, e, _⟩
      · simp only [Rp] at h; obtain ⟨a, xs, rfl, _⟩ := h; rfl
      · cases e
    | exn _ =>
      rcases h with h | ⟨_, _, _, e, _⟩
      · simp only [Rp] at h; obtain ⟨a, C, rfl, _⟩ := h; rfl
      · cases e
    | obj _ =>
      rcases h with h | ⟨_, _, _, e, _⟩
      · simp only [Rp] at h; obtain ⟨a, rfl, _⟩ := h; rfl
      · cases e
    | dk _ _ =>
      rcases h with h | ⟨_, _, _, e, _⟩
      · simp only [Rp] at h; obtain ⟨a, kvs, rfl, _⟩ := h; rfl
      · cases e
    | fn _ =>
      rcases h with h | ⟨_, _, _, e, _⟩
      · simp only [Rp] at h; obtain ⟨a, rfl, _⟩ := h; rfl
      · cases e
    | town =>
      rcases h with h | ⟨_, _, _, e, _⟩
      · simp only [Rp] at h; obtain ⟨a, rfl, _⟩ := h; rfl
      · cases e
  cases neg with
  | false =>
    constructor
    · refine pe_wk (pe_cmp (pc_isN ha)) fun σ H Q q => ?_
      obtain ⟨ρ, F, T, n, R, q⟩ := q
      refine ⟨ρ, F, T, n, R, q.bnd.mono fun d n1 H1 F1 e1 t1 q1 v p1 => ?_⟩
      have z := q1 H1 F1 Ev.refl t1 _ (pf rp_bl)
      dsimp only
      rw [← val p1]
      cases d <;> exact z
    · refine pt_wk (pt_cmp (pc_isN ha)) fun σ H Q q => ?_
      obtain ⟨ρ, F, T, n, R, q⟩ := q
      unfold truM at q
      refine ⟨ρ, F, T, n, R, q.bnd.bnd.mono fun d n1 H1 F1 e1 t1 q1 v p1 => ?_⟩
      have z := q1 H1 F1 Ev.refl t1 H1 F1 Ev.refl t1
      dsimp only
      rw [← val p1]
      cases d <;> exact ⟨_, rfl, z⟩
  | true =>
    constructor
    · refine pe_wk (pe_cmp (pc_notN ha)) fun σ H Q q => ?_
      obtain ⟨ρ, F, T, n, R, q⟩ := q
      refine ⟨ρ, F, T, n, R, q.bnd.mono fun d n1 H1 F1 e1 t1 q1 v p1 => ?_⟩
      have z := q1 H1 F1 Ev.refl t1 _ (pf rp_bl)
      dsimp only
      rw [← val p1]
      cases d <;> exact z
    · refine pt_wk (pt_cmp (pc_notN ha)) fun σ H Q q => ?_
      obtain ⟨ρ, F, T, n, R, q⟩ := q
      unfold truM at q
      refine ⟨ρ, F, T, n, R, q.bnd.bnd.mono fun d n1 H1 F1 e1 t1 q1 v p1 => ?_⟩
      have z := q1 H1 F1 Ev.refl t1 H1 F1 Ev.refl t1
      dsimp only
      rw [← val p1]
      cases d <;> exact ⟨_, rfl, z⟩

/-! ### and, or, not, if -/
theorem tru_not (m : M D) : truM (bnd m fun x => lft ((tru x).map fun b => D.bl (!b))) = bnd (truM m) fun b => ret (!b) := by
  funext n
  simp only [truM, bnd]
  cases m n with
  | ok d n1 =>
    dsimp only
    cases h : tru d <;> simp [lft, bad, ret, tru]
  | exc c n1 => rfl
  | bad => rfl
theorem tru_bop (m fr : M D) (an : Bool) : truM (bnd m fun x => bnd (lft (tru x)) fun k => if k == an then fr else ret x) = bnd (truM m) fun k => if k == an then truM fr else ret k := by
  funext n
  simp only [truM, bnd]
  cases m n with
  | ok d n1 =>
    dsimp only
    cases h : tru d with
    | none => simp [lft, bad]
    | some k =>
      simp only [lft, ret]
      cases hk : k == an
      · simp [ret, h, lft]
      · simp only [if_true]
        rfl
  | exc c n1 => rfl
  | bad => rfl
theorem se_not (G : Gud g X W sc fb N L) {a : Expr} {fa : Ss.Env → M D} {pos : Pos} (ha : PE X a (tI g B W .shal fa)) (hp : PT X a (tT g B W fun ρ => truM (fa ρ))) :
    PE X (.UnaryOp .Not a pos) (tI g B W .full fun ρ => bnd (fa ρ) fun x => lft ((tru x).map fun b => D.bl (!b))) ∧
    PT X (.UnaryOp .Not a pos) (tT g B W fun ρ => truM (bnd (fa ρ) fun x => lft ((tru x).map fun b => D.bl (!b)))) := by
  obtain rfl := G.gd
  constructor
  · refine pe_wk (pe_notT ha) fun σ H Q q => ?_
    obtain ⟨ρ, F, T, n, R, q⟩ := q
    refine ⟨ρ, F, T, n, R, q.bnd.mono fun d n1 H1 F1 e1 t1 q1 v p1 => ?_⟩
    obtain ⟨z, ez, k, _⟩ := q1.lft t1
    cases eb : tru d with
    | none => rw [eb] at ez; cases ez
    | some b =>
      rw [eb] at ez
      cases ez
      exact ⟨b, truV_of (g := gdOf X) p1 eb, k _ (pf rp_bl)⟩
  · refine pt_wk (pt_not hp) fun σ H Q q => ?_
    obtain ⟨ρ, F, T, n, R, q⟩ := q
    dsimp only at q
    rw [tru_not] at q
    exact ⟨ρ, F, T, n, R, q.bnd.mono fun b n1 H1 F1 e1 t1 q1 => q1 H1 F1 Ev.refl t1⟩
/-- a if c else b -/
theorem se_ite {c a b : Expr} {fc fa fb : Ss.Env → M D} {kd : Kd} {pos : Pos} (hk : kd = .full ∨ kd = .shal) (hc : PT X c (tT g B W fun ρ => truM (fc ρ))) (ha : PE X a (tI g B W kd fa)) (hb : PE X b (tI g B W kd fb)) :
    PE X (.IfExp c a b pos) (tI g B W kd fun ρ => bnd (fc ρ) fun x => bnd (lft (tru x)) fun k => if k then fa ρ else fb ρ) := by
  refine pe_wk (pe_ifExp hc ha hb) fun σ H Q q => ?_
  obtain ⟨ρ, F, T, n, R, q⟩ := q
  dsimp only at q
  rw [← bnd_assoc] at q
  refine ⟨ρ, F, T, n, R, q.bnd.mono fun b n1 H1 F1 e1 t1 q1 => ?_⟩
  have R1 := R.step e1 t1
  have fin : ∀ (f : Ss.Env → M D), Fin g W σ T H1 F1 (f ρ n1) (fun d _ H' F' => ∀ v, Post g T H H' F' kd d v → Q v H') → tI g B W kd f σ H1 Q := fun f h => by
    refine ⟨ρ, F1, T, n1, R1, h.mono fun d n' H' F' e t k v p => k v ?_⟩
    rcases hk with rfl | rfl
    · exact p
    · exact p
  cases b with
  | true => exact fin fa q1
  | false => exact fin fb q1
/-- the n-ary and, or: as a value -/
theorem se_bop1 {op : BoolOp} {e : Expr} {f : Ss.Env → M D} {kd : Kd} {pos : Pos} (h : PE X e (tI g B W kd f)) : PE X (.BoolOp op [e] pos) (tI g B W kd f) := pe_one h
def bopA (an : Bool) : BoolOp := if an then .And else .Or
theorem se_bop (G : Gud g X W sc fb N L) {an : Bool} {a b : Expr} {rest : List Expr} {fa fr : Ss.Env → M D} {kd : Kd} {pos : Pos} (hk : kd = .full ∨ kd = .shal) (ha : PE X a (tI g B W kd fa)) (hr : PE X (.BoolOp (bopA an) (b :: rest) pos) (tI g B W kd fr)) :
    PE X (.BoolOp (bopA an) (a :: b :: rest) pos) (tI g B W kd fun ρ => bnd (fa ρ) fun x => bnd (lft (tru x)) fun k => if k == an then fr ρ else ret x) := by
  obtain rfl := G.gd
  have key : ∀ σ H Q, tI (gdOf X) B W kd (fun ρ => bnd (fa ρ) fun x => bnd (lft (tru x)) fun k => if k == an then fr ρ else ret x) σ H Q →
      tI (gdOf X) B W kd fa σ H (fun x H1 => ∃ k, TruV X.K x H1 k ∧ if (k == an) = true then tI (gdOf X) B W kd fr σ H1 Q else Q x H1) := fun σ H Q q => by
    obtain ⟨ρ, F, T, n, R, q⟩ := q
    refine ⟨ρ, F, T, n, R, q.bnd.mono fun d n1 H1 F1 e1 t1 q1 v p1 => ?_⟩
    have R1 := R.step e1 t1
    obtain ⟨k, ek, q2, _⟩ := q1.bnd.lft t1
    refine ⟨k, truV_of (g := gdOf X) (p1.shal fun a z => ⟨_, R.tw.tn a z⟩) ek, ?_⟩
    cases hb : k == an with
    | true =>
      rw [hb] at q2
      simp only [if_true] at q2 ⊢
      refine ⟨ρ, F1, T, n1, R1, q2.mono fun d n' H' F' e t k v p => k v ?_⟩
      rcases hk with rfl | rfl
      · exact p
      · exact p
    | false =>
      rw [hb] at q2
      simp only [Bool.false_eq_true, if_false] at q2 ⊢
      exact q2 H1 F1 Ev.refl t1 v p1
  cases an with
  | true =>
    refine pe_wk (pe_andT ha hr) fun σ H Q q => ?_
    obtain ⟨ρ, F, T, n, R, q⟩ := key σ H Q q
    refine ⟨ρ, F, T, n, R, q.mono fun d n1 H1 F1 e1 t1 q1 v p1 => ?_⟩
    obtain ⟨k, h1, h2⟩ := q1 v p1
    refine ⟨k, h1, ?_⟩
    cases k <;> exact h2
  | false =>
    refine pe_wk (pe_orT ha hr) fun σ H Q q => ?_
    obtain ⟨ρ, F, T, n, R, q⟩ := key σ H Q q
    refine ⟨ρ, F, T, n, R, q.mono fun d n1 H1 F1 e1 t1 q1 v p1 => ?_⟩
    obtain ⟨k, h1, h2⟩ := q1 v p1
    refine ⟨k, h1, ?_⟩
    cases k <;> exact h2
/-- .. as a test -/
theorem sw_bop1 {an : Bool} {e : Expr} {f : Ss.Env → M D} {pos : Pos} (h : PT X e (tT g B W fun ρ => truM (f ρ))) : PW X (.BoolOp (bopA an) [e] pos) (tT g B W fun ρ => truM (f ρ)) := by
  cases an
  · exact pw_or1 h
  · exact pw_and1 h
theorem sw_bop {an : Bool} {a b : Expr} {rest : List Expr} {fa fr : Ss.Env → M D} {pos : Pos} (ha : PT X a (tT g B W fun ρ => truM (fa ρ))) (hr : PW X (.BoolOp (bopA an) (b :: rest) pos) (tT g B W fun ρ => truM (fr ρ))) :
    PW X (.BoolOp (bopA an) (a :: b :: rest) pos) (tT g B W fun ρ => truM (bnd (fa ρ) fun x => bnd (lft (tru x)) fun k => if k == an then fr ρ else ret x)) := by
  have key : ∀ σ H Q, tT g B W (fun ρ => truM (bnd (fa ρ) fun x => bnd (lft (tru x)) fun k => if k == an then fr ρ else ret x)) σ H Q →
      tT g B W (fun ρ => truM (fa ρ)) σ H (fun k H1 => if (k == an) = true then tT g B W (fun ρ => truM (fr ρ)) σ H1 Q else Q k H1) := fun σ H Q q => by
    obtain ⟨ρ, F, T, n, R, q⟩ := q
    dsimp only at q
    rw [tru_bop] at q
    refine ⟨ρ, F, T, n, R, q.bnd.mono fun k n1 H1 F1 e1 t1 q1 => ?_⟩
    have R1 := R.step e1 t1
    by_cases hb : (k == an) = true
    · rw [if_pos hb] at q1
      show if (k == an) = true then _ else _
      rw [if_pos hb]
      exact ⟨ρ, F1, T, n1, R1, q1⟩
    · rw [if_neg hb] at q1
      show if (k == an) = true then _ else _
      rw [if_neg hb]
      exact q1 H1 F1 Ev.refl t1
  cases an with
  | true =>
    refine pw_wk (pw_and ha hr) fun σ H Q q => ?_
    obtain ⟨ρ, F, T, n, R, q⟩ := key σ H Q q
    refine ⟨ρ, F, T, n, R, q.mono fun k n1 H1 F1 e1 t1 q1 => ?_⟩
    cases k <;> exact q1
  | false =>
    refine pw_wk (pw_or ha hr) fun σ H Q q => ?_
    obtain ⟨ρ, F, T, n, R, q⟩ := key σ H Q q
    refine ⟨ρ, F, T, n, R, q.mono fun k n1 H1 F1 e1 t1 q1 => ?_⟩
    cases k <;> exact q1
end
end Ss
/-! Ss, part F: places, cuts, calls, what is walked, comprehensions. -/
namespace Ss
open PySem PySem.Spec PyProof.Rows L2
section
variable {g : Gd} {X : Cx} {W : WX} {sc : Scope} {fb : Str → Bool} {N : List Str} {L : Nat} {B : Bs}

/-! ### places, cuts -/
def ixB : Expr → Bool
  | .Name _ _ => true
  | .Constant _ _ _ => true
  | .BinOp _ _ _ _ => true
  | .UnaryOp _ _ _ => true
  | .Call _ _ _ _ => true
  | .Subscript _ _ _ => true
  | .IfExp _ _ _ _ => true
  | _ => false
theorem ixB_ok {b : Expr} (h : ixB b = true) : PlainIx b := by
  cases b <;> first | exact fun _ _ => rfl | (simp only [ixB, Bool.false_eq_true] at h)
theorem se_idx (G : Gud g X W sc fb N L) {a b : Expr} {fa fb : Ss.Env → M D} {pos : Pos} (ha : PE X a (tI g B W .shal fa)) (hb : PE X b (tI g B W .shal fb)) (hx : ixB b = true) :
    PE X (.Subscript a b pos) (tI g B W .full fun ρ => bnd (fa ρ) fun x => bnd (fb ρ) fun y => lft (idxD x y)) := by
  obtain rfl := G.gd
  refine pe_wk (pe_ix ix_rule ha hb (ixB_ok hx)) fun σ H Q q => ?_
  obtain ⟨ρ, F, T, n, R, q⟩ := q
  refine ⟨ρ, F, T, n, R, q.bnd.mono fun d n1 H1 F1 e1 t1 q1 v p1 => ?_⟩
  have R1 := R.step e1 t1
  refine ⟨ρ, F1, T, n1, R1, q1.bnd.mono fun e n2 H2 F2 e2 t2 q2 u p2 => ?_⟩
  obtain ⟨z, ez, k, _⟩ := q2.lft t2
  exact ⟨F2, T, d, e, z, RpS.ev R1.tw R1.nf e2 p1, p2, ez, fun w p3 => k w (pf p3)⟩
def tO (g : Gd) (B : Bs) (W : WX) (f : Ss.Env → M (Option Int)) : TO := fun σ H Q => ∃ ρ F T n, Rel g B ρ σ H F T n ∧ Fin g W σ T H F (f ρ n) fun o _ H' _ => Q o H'
theorem po_wk {e : Option Expr} {t t' : TO} (h : PO X e t') (k : ∀ σ H Q, t σ H Q → t' σ H Q) : PO X e t := ⟨fun pins s σ H Q I q => h.run pins s σ H Q I (k σ H Q q)⟩
theorem so_none : PO X none (tO g B W fun _ => ret none) := by
  refine po_wk po_none fun σ H Q q => ?_
  obtain ⟨ρ, F, T, n, R, q⟩ := q
  exact q H F Ev.refl R.tw
theorem so_some {e : Expr} {f : Ss.Env → M D} (h : PE X e (tI g B W .shal f)) : PO X (some e) (tO g B W fun ρ => bnd (f ρ) fun x => lft (part x)) := by
  refine po_wk (po_some h) fun σ H Q q => ?_
  obtain ⟨ρ, F, T, n, R, q⟩ := q
  refine ⟨ρ, F, T, n, R, q.bnd.mono fun d n1 H1 F1 e1 t1 q1 v p1 => ?_⟩
  obtain ⟨z, ez, k, _⟩ := q1.lft t1
  cases d <;> simp only [part, reduceCtorEq] at ez
  cases ez
  exact ⟨_, RpS.int p1, k⟩
theorem se_slc (G : Gud g X W sc fb N L) {a : Expr} {lo hi : Option Expr} {fa : Ss.Env → M D} {fl fh : Ss.Env → M (Option Int)} {pos p2 : Pos} (ha : PE X a (tI g B W .shal fa)) (hl : PO X lo (tO g B W fl)) (hh : PO X hi (tO g B W fh)) :
    PE X (.Subscript a (.Slice lo hi none p2) pos) (tI g B W .full fun ρ => bnd (fa ρ) fun x => bnd (fl ρ) fun l => bnd (fh ρ) fun h => lft (cutD x l h)) := by
  obtain rfl := G.gd
  refine pe_wk (pe_slice sl_rule ha hl hh) fun σ H Q q => ?_
  obtain ⟨ρ, F, T, n, R, q⟩ := q
  refine ⟨ρ, F, T, n, R, q.bnd.mono fun d n1 H1 F1 e1 t1 q1 v p1 => ?_⟩
  have R1 := R.step e1 t1
  refine ⟨ρ, F1, T, n1, R1, q1.bnd.mono fun l n2 H2 F2 e2 t2 q2 => ?_⟩
  have R2 := R1.step e2 t2
  refine ⟨ρ, F2, T, n2, R2, q2.bnd.mono fun h n3 H3 F3 e3 t3 q3 => ?_⟩
  have R3 := R2.step e3 t3
  obtain ⟨z, ez, _, k⟩ := q3.lft t3
  exact ⟨F3, T, n3, d, z, t3, R3.nf, RpS.ev R2.tw R2.nf e3 (RpS.ev R1.tw R1.nf e2 p1), ez, fun w H' F' e4 t4 p4 => k H' F' e4 t4 w p4⟩

/-! ### calls of built-ins -/
def nsts (es : List Expr) : Bool := es.all nst
theorem stars_of : ∀ {es : List Expr} {env : PySem.Env} {pos : Pos}, nsts es = true → (backTo pos (starEach es env)).any (·.1) = false
  | [], _, _, _ => rfl
  | e :: es, env, pos, h => by
    simp only [nsts, List.all_cons, Bool.and_eq_true] at h
    rw [star_of h.1]
    have ih := stars_of (env := env) (pos := pos) (show nsts es = true from h.2)
    simp only [backTo, List.map_cons, List.any_cons, Bool.false_or] at ih ⊢
    exact ih
def Bi.name : Bi → Str
  | .len => "len" | .all => "all" | .max2 => "max" | .int => "int" | .list => "list" | .tuple => "tuple" | .abs => "abs" | .min2 => "min" | .sum => "sum" | .max1 => "max" | .min1 => "min" | .any => "any" | .srt => "sorted"
def Bi.kd : Bi → Kd
  | .list => .new
  | .srt => .new
  | _ => .full
theorem bi_read {b : Bi} {fs : Ss.Env → M (List D)} {σ : L2.St} {H : Hp} {Q : VK} (q : tI g B W b.kd (fun ρ => bnd (fs ρ) fun ds => lft (b.f ds)) σ H Q) : tIs g B W .shal fs σ H (fun vs H1 => rBi g b.kd b.f vs H1 Q) := by
  obtain ⟨ρ, F, T, n, R, q⟩ := q
  refine ⟨ρ, F, T, n, R, q.bnd.mono fun ds n1 H1 F1 e1 t1 q1 vs p1 => ?_⟩
  have R1 := R.step e1 t1
  obtain ⟨z, ez, _, k⟩ := q1.lft t1
  refine ⟨F1, T, n1, ds, z, t1, ⟨R1.nf, R1.dm⟩, p1, ez, fun w H' F' e2 t2 p2 => k H' F' e2 t2 w ?_⟩
  cases hb : b.kd with
  | full => rw [hb] at p2; exact p2
  | shal => rw [hb] at p2; exact p2
  | new =>
    rw [hb] at p2
    obtain ⟨a, us, xs, h1, h2, h3, h4⟩ := p2
    exact ⟨a, us, xs, h1, h2, none_back e1 t1 h3, h4⟩
theorem se_bi (G : Gud g X W sc fb N L) {b : Bi} {e : Expr} {es : List Expr} {fs : Ss.Env → M (List D)} {p pos : Pos} (h : PA X (e :: es) (tIs g B W .shal fs)) (hn : nsts (e :: es) = true) (hg : glB sc b.name = true) :
    PE X (.Call (.Name b.name p) (e :: es) [] pos) (tI g B W b.kd fun ρ => bnd (fs ρ) fun ds => lft (b.f ds)) := by
  obtain rfl := G.gd
  obtain ⟨g1, g2⟩ := G.gl hg
  have hn1 : nst e = true := by simp only [nsts, List.all_cons, Bool.and_eq_true] at hn; exact hn.1
  have hn2 : nsts es = true := by simp only [nsts, List.all_cons, Bool.and_eq_true] at hn; exact hn.2
  cases b with
  | len => exact pe_wk (pe_callB len_rule g1 (G.bn (by decide +kernel)) boot_len h (by decide +kernel) g2 (star_of hn1) (stars_of hn2)) fun σ H Q q => bi_read q
  | all => exact pe_wk (pe_callB (all_rule G.calm) g1 (G.bn (by decide +kernel)) (by decide +kernel) h (by decide +kernel) g2 (star_of hn1) (stars_of hn2)) fun σ H Q q => bi_read q
  | max2 => exact pe_wk (pe_callB (max2_rule G.calm) g1 (G.bn (by decide +kernel)) (by decide +kernel) h (by decide +kernel) g2 (star_of hn1) (stars_of hn2)) fun σ H Q q => bi_read q
  | int => exact pe_wk (pe_callTy int_rule g1 (G.bn (by decide +kernel)) (by decide +kernel) h (by decide +kernel) g2 (star_of hn1) (stars_of hn2)) fun σ H Q q => bi_read q
  | list => exact pe_wk (pe_callTy list_rule g1 (G.bn (by decide +kernel)) (by decide +kernel) h (by decide +kernel) g2 (star_of hn1) (stars_of hn2)) fun σ H Q q => bi_read q
  | tuple => exact pe_wk (pe_callTy tuple_rule g1 (G.bn (by decide +kernel)) (by decide +kernel) h (by decide +kernel) g2 (star_of hn1) (stars_of hn2)) fun σ H Q q => bi_read q
  | abs => exact pe_wk (pe_callB abs_rule g1 (G.bn (by decide +kernel)) (by decide +kernel) h (by decide +kernel) g2 (star_of hn1) (stars_of hn2)) fun σ H Q q => bi_read q
  | min2 => exact pe_wk (pe_callB (min2_rule G.calm) g1 (G.bn (by decide +kernel)) (by decide +kernel) h (by decide +kernel) g2 (star_of hn1) (stars_of hn2)) fun σ H Q q => bi_read q
  | sum => exact pe_wk (pe_callB (sum_rule G.calm) g1 (G.bn (by decide +kernel)) (by decide +kernel) h (by decide +kernel) g2 (star_of hn1) (stars_of hn2)) fun σ H Q q => bi_read q
  | max1 => exact pe_wk (pe_callB (max1_rule G.calm) g1 (G.bn (by decide +kernel)) (by decide +kernel) h (by decide +kernel) g2 (star_of hn1) (stars_of hn2)) fun σ H Q q => bi_read q
  | min1 => exact pe_wk (pe_callB (min1_rule G.calm) g1 (G.bn (by decide +kernel)) (by decide +kernel) h (by decide +kernel) g2 (star_of hn1) (stars_of hn2)) fun σ H Q q => bi_read q
  | any => exact pe_wk (pe_callB (any_rule G.calm) g1 (G.bn (by decide +kernel)) (by decide +kernel) h (by decide +kernel) g2 (star_of hn1) (stars_of hn2)) fun σ H Q q => bi_read q
  | srt => exact pe_wk (pe_callB (srt_rule G.units) g1 (G.bn (by decide +kernel)) (by decide +kernel) h (by decide +kernel) g2 (star_of hn1) (stars_of hn2)) fun σ H Q q => bi_read q
/-- len(town) -/
theorem se_tlen (G : Gud g X W sc fb N L) {i : Nat} {x : Str} {p p2 pos : Pos} (h : nmB sc N i x = true) (hg : glB sc "len" = true) :
    PE X (.Call (.Name "len" p) [.Name x p2] [] pos) (tI g B W .full fun ρ => bnd (lft (getD ρ i)) fun x => match x with
    | .town => fun n => .ok (.int n.n) n
    | _ => bad) := by
  obtain rfl := G.gd
  obtain ⟨g1, g2⟩ := G.gl hg
  obtain ⟨h1, h2, h3, h4⟩ := G.vis h
  refine pe_wk (pe_callB call_len g1 (G.bn (by decide +kernel)) boot_len (pa_cons (pe_var h1 h2 h3 h4) pa_nil rfl) (by decide +kernel) g2 rfl rfl) fun σ H Q q => ?_
  obtain ⟨ρ, F, T, n, R, q⟩ := q
  obtain ⟨d, e, k, _⟩ := q.bnd.lft R.tw
  obtain ⟨v, e1, e2⟩ := R.dat e
  cases d with
  | town =>
    simp only [Rp] at e2
    obtain ⟨a, rfl, ta⟩ := e2
    refine ⟨_, e1, _, n.n, rfl, .inl ⟨_, SqL.of (R.tw.tn a ta), by rw [List.length_replicate]⟩, k H F Ev.refl R.tw _ (pf rp_int)⟩
  | _ => exact False.elim k

/-! ### isinstance -/
def Ty.name : Ty → Str
  | .int => "int" | .bool => "bool" | .str => "str" | .tuple => "tuple" | .list => "list"
def Ty.key : Ty → String
  | .int => "int" | .bool => "bool" | .str => "str" | .tuple => "tuple" | .list => "list"
theorem Ty.boot (t : Ty) : bootBuiltins t.name = some (.type t.key) := by
  cases t <;> decide +kernel
theorem ty_read {T : Option Addr} {H : Hp} {F : FS} {d : D} {v : V} {t : Ty} {b : Bool} (h : RpS g T H F d v) (e : t.f d = some b) : ∃ u, TyX g.K H v u ∧ PySem.W.kitOne g.K u (.type t.key) = some b := by
  cases d with
  | non =>
    rw [h.non]
    refine ⟨_, .base .non, ?_⟩
    simp only [Ty.f] at e
    cases e
    cases t <;> exact kit_ty (by decide +kernel)
  | bl i =>
    rw [h.bl]
    refine ⟨_, .base (.bl i), ?_⟩
    simp only [Ty.f] at e
    cases e
    cases t <;> exact kit_ty (by decide +kernel)
  | int i =>
    rw [h.int]
    refine ⟨_, .base (.int i), ?_⟩
    simp only [Ty.f] at e
    cases e
    cases t <;> exact kit_ty (by decide +kernel)
  | str i =>
    rw [h.str]
    refine ⟨_, .base (.str i), ?_⟩
    simp only [Ty.f] at e
    cases e
    cases t <;> exact kit_ty (by decide +kernel)
  | lst xs =>
    obtain ⟨a, vs, rfl, h1, _⟩ := h.lst
    refine ⟨_, .base (.lst h1), ?_⟩
    simp only [Ty.f] at e
    cases e
    cases t <;> exact kit_ty (by decide +kernel)
  | tup xs =>
    obtain ⟨a, vs, rfl, h1, _⟩ := h.tup
    have k : PySem.W.kitOne g.K (.type "tuple") (.type t.key) = some b := by
      simp only [Ty.f] at e
      cases e
      cases t <;> exact kit_ty (by decide +kernel)
    rcases h1 with (h1 | ⟨o, h1⟩) | ⟨o, its, n, h1, h2, _⟩
    · exact ⟨_, .base (.tup h1), k⟩
    · exact ⟨_, .fTuple h1, k⟩
    · exact ⟨_, .kTuple h1 h2, k⟩
  | dic _ _ => cases e
  | fn _ => cases e
  | exn _ => cases e
  | town => cases e
  | scr _ => cases e
  | obj _ => cases e
  | dk _ _ => cases e
theorem se_isi (G : Gud g X W sc fb N L) {t : Ty} {a : Expr} {fa : Ss.Env → M D} {p p2 pos : Pos} (ha : PE X a (tI g B W .shal fa)) (hn : nst a = true) (hg : glB sc "isinstance" = true) (ht : glB sc t.name = true) :
    PE X (.Call (.Name "isinstance" p) [a, .Name t.name p2] [] pos) (tI g B W .full fun ρ => bnd (fa ρ) fun x => lft ((t.f x).map D.bl)) := by
  obtain rfl := G.gd
  obtain ⟨g1, g2⟩ := G.gl hg
  obtain ⟨g3, g4⟩ := G.gl ht
  have hm : X.mg t.name = none := by cases t <;> exact G.bn (by decide +kernel)
  have hne : t.name ≠ "__name__" := by cases t <;> decide +kernel
  have pt : PE X (.Name t.name p2) (tC (.ty t.key)) := pe_bltn g3 hm t.boot rfl hne g4
  refine pe_wk (pe_callB call_isi g1 (G.bn (by decide +kernel)) (by decide +kernel) (pa_cons ha (pa_cons pt pa_nil rfl) (star_of hn)) (by decide +kernel) g2 (star_of hn) rfl) fun σ H Q q => ?_
  obtain ⟨ρ, F, T, n, R, q⟩ := q
  refine ⟨ρ, F, T, n, R, q.bnd.mono fun d n1 H1 F1 e1 t1 q1 v p1 => ?_⟩
  obtain ⟨z, ez, k, _⟩ := q1.lft t1
  cases eb : t.f d with
  | none => rw [eb] at ez; cases ez
  | some b =>
    rw [eb] at ez
    cases ez
    obtain ⟨u, h1, h2⟩ := ty_read (g := gdOf X) p1 eb
    exact ⟨v, _, u, _, b, rfl, .ty _, h1, h2, k _ (pf rp_bl)⟩

/-! ### calls of defs -/
theorem sp_read {f : Fn} {T : Option Addr} {H1 H0 : Hp} {F1 : FS} {n1 : S} {ds : List D} {vs : List V} {σ : L2.St} {Q : VK} (t1 : Tw g T H1 F1 n1) (nf : ∀ a, T = some a → ¬ F1 a) (dm : ∀ a, F1 a → ∃ o, H1 a = some o) (p1 : Rps g H1 F1 T ds vs)
    (q1 : Fin g W σ T H1 F1 ((if ds.length = f.ar then f.sem ds else bad) n1) fun d _ H' F' => ∀ v, Post g T H0 H' F' .full d v → Q v H') : spOf g f vs H1 Q (WE W σ) := by
  by_cases hl : ds.length = f.ar
  · rw [if_pos hl] at q1
    refine ⟨F1, T, n1, ds, t1, nf, dm, p1, hl, ?_⟩
    cases e : f.sem ds n1 with
    | ok d n' => rw [e] at q1; exact fun H' F' e t v p => q1 H' F' e t v p
    | exc c n' => rw [e] at q1; exact q1
    | bad => rw [e] at q1; exact q1
  · rw [if_neg hl] at q1; exact False.elim q1
theorem se_call (G : Gud g X W sc fb N L) {f : Fn} (hf : FnG g L f) {e : Expr} {es : List Expr} {fs : Ss.Env → M (List D)} {p pos : Pos} (h : PA X (e :: es) (tIs g B W .full fs)) (hn : nsts (e :: es) = true) (hg : glB sc f.name = true) :
    PE X (.Call (.Name f.name p) (e :: es) [] pos) (tI g B W .full fun ρ => bnd (fs ρ) fun ds => if ds.length = f.ar then f.sem ds else bad) := by
  obtain rfl := G.gd
  obtain ⟨g1, g2⟩ := G.gl hg
  obtain ⟨a, fd, ps, m, kp, b, _, ok⟩ := hf.ex
  have hn1 : nst e = true := by simp only [nsts, List.all_cons, Bool.and_eq_true] at hn; exact hn.1
  have hn2 : nsts es = true := by simp only [nsts, List.all_cons, Bool.and_eq_true] at hn; exact hn.2
  refine pe_wk (pe_callS (E := WE W) ok G.room g1 m kp b (fun σ => passAt G.tk σ) h g2 (star_of hn1) (stars_of hn2)) fun σ H Q q => ?_
  obtain ⟨ρ, F, T, n, R, q⟩ := q
  refine ⟨ρ, F, T, n, R, q.bnd.mono fun ds n1 H1 F1 e1 t1 q1 vs p1 => ?_⟩
  have R1 := R.step e1 t1
  exact sp_read t1 R1.nf R1.dm p1 q1
theorem se_callv (G : Gud g X W sc fb N L) {i : Nat} {x : Str} {gs : List Fn} (hf : ∀ f ∈ gs, FnG g L f) {e : Expr} {es : List Expr} {fs : Ss.Env → M (List D)} {p pos : Pos} (h : PA X (e :: es) (tIs g B W .full fs)) (hn : nsts (e :: es) = true) (hx : nmB sc N i x = true) :
    PE X (.Call (.Name x p) (e :: es) [] pos) (tI g B W .full fun ρ => match getD ρ i with
    | some (.fn x) => (match gs.find? fun g => g.name == x with
      | some g => bnd (fs ρ) fun ds => if ds.length = g.ar then g.sem ds else bad
      | none => bad)
    | _ => bad) := by
  obtain rfl := G.gd
  obtain ⟨h1, h2, h3, h4⟩ := G.vis hx
  have hn1 : nst e = true := by simp only [nsts, List.all_cons, Bool.and_eq_true] at hn; exact hn.1
  have hn2 : nsts es = true := by simp only [nsts, List.all_cons, Bool.and_eq_true] at hn; exact hn.2
  refine ⟨fun pins s σ H Q I q => ?_⟩
  obtain ⟨ρ, F, T, n, R, q⟩ := q
  dsimp only at q
  cases ey : getD ρ i with
  | none => rw [ey] at q; exact False.elim q
  | some d =>
    rw [ey] at q
    cases d with
    | fn y =>
      dsimp only at q
      cases ef : gs.find? fun g => g.name == y with
      | none => rw [ef] at q; exact False.elim q
      | some f =>
        rw [ef] at q
        obtain ⟨v, e1, e2⟩ := R.dat ey
        simp only [Rp] at e2
        obtain ⟨a, rfl, ma⟩ := e2
        have hm := List.mem_of_find?_eq_some ef
        have hnm : f.name = y := by have := List.find?_some ef; exact eq_of_beq this
        obtain ⟨a', fd, ps, m, kp, b, _, ok⟩ := (hf f hm).ex
        rw [hnm, ma] at m
        cases m
        refine wpAny_Call_Name_kw (thn ((pe_var (pos := p) h1 h2 h3 h4).run pins s σ H (fun v H1 => v = .ref a ∧ H1 = H) I ⟨.ref a, e1, rfl, rfl⟩) fun u s1 ⟨v, H1, I1, r1, q1⟩ => ?_)
        obtain ⟨rfl, rfl⟩ := q1
        cases r1
        have ht : tIs (gdOf X) B W .full fs σ H1 (fun vs H2 => spOf (gdOf X) f vs H2 Q (WE W σ)) := by
          refine ⟨ρ, F, T, n, R, q.bnd.mono fun ds n1 H2 F1 e1 t1 q1 vs p1 => ?_⟩
          have R1 := R.step e1 t1
          exact sp_read t1 R1.nf R1.dm p1 q1
        refine PySem.W.callWith_K (h₀ := X.base) I.ok.mod.kin kp (thn (h.run pos pins s1 σ _ _ I1 ht) fun us s2 ⟨vs, H2, I2, r, q⟩ => ⟨I2.kIn, ?_⟩) (star_of hn1) (stars_of hn2)
        exact run_fnS (E := WE W) ok G.room b (passAt G.tk σ) I2 r q
    | _ => exact False.elim q

/-! ### joining texts -/
def baseB : Expr → Bool
  | .Call _ [] _ _ => false
  | _ => true
theorem baseB_ok {o : Expr} {x : Str} {env : PySem.Env} (h : baseB o = true) : attributeBase o x env (eval o env) = eval o env := by
  unfold attributeBase
  split
  · simp only [baseB, Bool.false_eq_true] at h
  · rfl
theorem se_join {z a : Expr} {fz fa : Ss.Env → M D} {apos pos : Pos} (hz : PE X z (tI g B W .shal fz)) (ha : PE X a (tI g B W .shal fa)) (hn : nst a = true) (hb : baseB z = true) (hl : (apos.endLine == pos.line) = true) :
    PE X (.Call (.Attribute z "join" apos) [a] [] pos) (tI g B W .full fun ρ => bnd (fz ρ) fun s => match s with
    | .str z => bnd (fa ρ) fun x => (match x with
      | .lst ds => lft (joinS z ds)
      | _ => bad)
    | _ => bad) := by
  refine pe_wk (pe_join hz ha (by rw [star_of hn]; rfl) (baseB_ok hb) hl) fun σ H Q q => ?_
  obtain ⟨ρ, F, T, n, R, q⟩ := q
  refine ⟨ρ, F, T, n, R, q.bnd.mono fun d n1 H1 F1 e1 t1 q1 v p1 => ?_⟩
  have R1 := R.step e1 t1
  cases d with
  | str z =>
    refine ⟨⟨z, RpS.str p1⟩, ρ, F1, T, n1, R1, q1.bnd.mono fun x n2 H2 F2 e2 t2 q2 w p2 => ?_⟩
    cases x with
    | lst ds =>
      obtain ⟨y, ey, k, _⟩ := q2.lft t2
      obtain ⟨a, vs, rfl, h1, _, h2⟩ := RpS.lst p2
      unfold joinS at ey
      cases ex : txts ds with
      | none => rw [ex] at ey; cases ey
      | some xs =>
        rw [ex] at ey
        have ey : (if (xs.map (·.length)).sum + xs.length * z.length ≤ 16777216 then some (D.str (Txt.join z xs)) else none) = some y := ey
        split at ey
        · rename_i hc
          cases ey
          rw [txts_rps h2 ex] at h1
          exact ⟨z, a, xs, RpS.str p1, rfl, .inl (SqL.of h1), hc, k _ (pf rp_str)⟩
        · cases ey
    | _ => exact False.elim q2
  | _ => exact False.elim q1

/-! ### l.index(x) -/
theorem toPs_at : ∀ (ds : List D) (j : Nat), (D.toPs ds)[j]? = (ds[j]?).map D.toP
  | [], j => by simp [D.toPs]
  | d :: ds, 0 => by simp [D.toPs]
  | d :: ds, j + 1 => by simp only [D.toPs, List.getElem?_cons_succ, toPs_at ds j]
theorem pls_at : ∀ (ds : List D) (j : Nat) (d : D), D.pls ds = true → ds[j]? = some d → d.pl = true
  | [], _, _, _, h => by cases h
  | e :: ds, 0, d, h, e1 => by
    simp only [D.pls, Bool.and_eq_true] at h
    simp only [List.getElem?_cons_zero, Option.some.injEq] at e1
    subst e1; exact h.1
  | e :: ds, j + 1, d, h, e1 => by
    simp only [D.pls, Bool.and_eq_true] at h
    exact pls_at ds j d h.2 (by simpa using e1)
theorem se_ixm (G : Gud g X W sc fb N L) {z a : Expr} {fz fa : Ss.Env → M D} {apos pos : Pos} (hz : PE X z (tI g B W .shal fz)) (ha : PE X a (tI g B W .shal fa)) (hn : nst a = true) (hb : baseB z = true) (hl : (apos.endLine == pos.line) = true) :
    PE X (.Call (.Attribute z "index" apos) [a] [] pos) (tI g B W .full fun ρ => bnd (fz ρ) fun x => lstM x (bnd (fa ρ) fun y => lft (fndD x y))) := by
  obtain rfl := G.gd
  refine pe_wk (pe_bm PySem.F.plainAttrs_list PySem.F.slot_list_index PySem.F.type_list_index (mt_indexD G.units) hz (pa_cons ha pa_nil (star_of hn)) (baseB_ok hb) (by rw [star_of hn]; rfl) hl (star_of hn) rfl) fun σ H Q q => ?_
  obtain ⟨ρ, F, T, n, R, q⟩ := q
  refine ⟨ρ, F, T, n, R, q.bnd.mono fun x n1 H1 F1 e1 t1 q1 v p1 => ?_⟩
  have R1 := R.step e1 t1
  cases x with
  | lst ds =>
    simp only [lstM] at q1
    obtain ⟨p, vs, rfl, h1, _, h2⟩ := RpS.lst p1
    refine ⟨.inl ⟨rfl, vs, SqL.of h1⟩, ρ, F1, T, n1, R1, q1.bnd.mono fun y n2 H2 F2 e2 t2 q2 w p2 => ?_⟩
    have R2 := R1.step e2 t2
    obtain ⟨z, ez, k, _⟩ := q2.lft t2
    simp only [fndD] at ez
    split at ez
    · rename_i hc
      simp only [Bool.and_eq_true] at hc
      cases ef : ds.findIdx? fun z => D.eqv z y with
      | none => rw [ef] at ez; cases ez
      | some j =>
        rw [ef] at ez
        cases ez
        have pd := okE_pl hc.2
        have pe := pd
        simp only [D.pl] at pe
        have d1 := rpS_dp (g := gdOf X) pd (RpS.ev R1.tw R1.nf e2 p1)
        have d2 := rpS_dp (g := gdOf X) (okE_pl hc.1) p2
        have s1 := okE_sh hc.2
        simp only [D.toP] at d1 s1
        obtain ⟨hj, hj1, hj2⟩ := List.findIdx?_eq_some_iff_getElem.mp ef
        have gj : ds[j]? = some ds[j] := List.getElem?_eq_getElem hj
        refine ⟨p, w, D.toP y, D.toPs ds, j, D.toP ds[j], rfl, rfl, d1, d2, s1, okE_sh hc.1, ?_, ?_, ?_, k _ (pf rp_int)⟩
        · rw [toPs_at, gj]; rfl
        · rw [toP_eqv _ _ (pls_at ds j _ pe gj) (okE_pl hc.1)]; exact hj1
        · intro m z' hm hz'
          rw [toPs_at] at hz'
          have hml : m < ds.length := by omega
          rw [List.getElem?_eq_getElem hml] at hz'
          cases hz'
          rw [toP_eqv _ _ (pls_at ds m _ pe (List.getElem?_eq_getElem hml)) (okE_pl hc.1)]
          have := hj2 m hm
          simpa using this
    · cases ez
  | _ => exact False.elim q1

/-! ### list(range(..)) -/
theorem rngL_rps {T : Option Addr} {H : Hp} {F : FS} (lo hi : Int) : Rps g H F T (rngL lo hi) (rgV lo hi) := by
  unfold rngL rgV
  induction (List.range (hi - lo).toNat) with
  | nil => exact .nil
  | cons k r ih => exact .cons rp_int ih
theorem rngL_len (lo hi : Int) : (rngL lo hi).length = (hi - lo).toNat := by unfold rngL; rw [List.length_map, List.length_range]
theorem se_lrng1 (G : Gud g X W sc fb N L) {a : Expr} {fa : Ss.Env → M D} {p p2 q pos : Pos} (ha : PE X a (tI g B W .shal fa)) (hn : nst a = true) (hg : glB sc "list" = true) (hr : glB sc "range" = true) :
    PE X (.Call (.Name "list" p) [.Call (.Name "range" p2) [a] [] q] [] pos) (tI g B W .new fun ρ => bnd (bnd (fa ρ) fun d => bnd (ret []) fun ds => ret (d :: ds)) fun ds => lft ((rngD ds).map D.lst)) := by
  obtain rfl := G.gd
  refine pe_wk (pe_listRg G.calm (G.gl hg).1 (G.bn (by decide +kernel)) (prg_1 (G.gl hr).1 (G.bn (by decide +kernel)) ha (star_of hn)) rfl) fun σ H Q q => ?_
  obtain ⟨ρ, F, T, n, R, q⟩ := q
  refine ⟨ρ, F, T, n, R, q.bnd.bnd.mono fun d n1 H1 F1 e1 t1 q1 v p1 => ?_⟩
  have R1 := R.step e1 t1
  obtain ⟨z, ez, _, k⟩ := (q1 H1 F1 Ev.refl t1).lft t1
  cases d <;> simp only [rngD, Option.map_none, reduceCtorEq] at ez
  rename_i j
  split at ez
  · rename_i hc
    cases ez
    refine ⟨j, RpS.int p1, ⟨by omega, by omega, by omega, by omega, by omega⟩, fun r hr => k _ _ (Ev.alloc hr) (t1.alloc hr) _ (newPost R1.tw R1.dm hr H (none_back e1 t1 hr) ?_ (rngL_rps 0 j))⟩
    rw [rgV_length]
    have : sizeLine = 16777216 := sizeLine_eq
    omega
  · cases ez

/-! ### targets -/
def locF (sc : Scope) (fb : Str → Bool) (x : Str) : Bool := match sc.names.lookup x with
  | some .local => true
  | some .cell => fb x
  | _ => false
def tgB (sc : Scope) (fb : Str → Bool) (N : List Str) (i : Nat) (x : Str) : Bool := (N[i]? == some x) && locF sc fb x
theorem Gud.loc (G : Gud g X W sc fb N L) {i : Nat} {x : Str} (h : tgB sc fb N i x = true) : X.N[i]? = some x ∧ Loc X.env.scope x ∧ (X.fn x = true ∨ X.env.scope.names.lookup x = some .local) := by
  unfold tgB at h
  simp only [Bool.and_eq_true, beq_iff_eq] at h
  rw [G.nm, G.es]
  have hl := h.2
  unfold locF at hl
  split at hl
  · exact ⟨h.1, .inl ‹_›, .inr ‹_›⟩
  · exact ⟨h.1, .inr ‹_›, .inl (G.fc x hl)⟩
  · cases hl
def gTs : List Nat → TGs
  | [] => gNil
  | i :: is => gCons (gName i) (gTs is)
def gT (K : PySem.W.Frag) : Tg → TG
  | .one i => gName i
  | .many is => gTup K is.length (gTs is)
def chkTs (sc : Scope) (fb : Str → Bool) (N : List Str) : List Nat → List Expr → Bool
  | [], [] => true
  | i :: is, .Name x _ :: es => tgB sc fb N i x && chkTs sc fb N is es
  | _, _ => false
def chkT (sc : Scope) (fb : Str → Bool) (N : List Str) : Tg → Expr → Bool
  | .one i, .Name x _ => tgB sc fb N i x
  | .many is, .Tuple es _ _ => chkTs sc fb N is es
  | _, _ => false
theorem sgs (G : Gud g X W sc fb N L) : ∀ {is : List Nat} {es : List Expr}, chkTs sc fb N is es = true → PGs X es (gTs is) ∧ (assignEach es X.env).length = is.length ∧ (assignEach es X.env).findIdx? (·.1) = none
  | [], [], _ => ⟨pgs_nil, rfl, rfl⟩
  | i :: is, e :: es, h => by
    cases e <;> simp only [chkTs, Bool.and_eq_true, Bool.false_eq_true] at h
    rename_i x pos
    obtain ⟨h1, h2, h3⟩ := sgs G h.2
    obtain ⟨l1, l2, l3⟩ := G.loc h.1
    refine ⟨pgs_cons (pg_name (by rw [G.nm]; exact G.nd) l1 l2 l3) h1 rfl, ?_, ?_⟩
    · show (assignEach es X.env).length + 1 = is.length + 1
      rw [h2]
    · show List.findIdx? (·.1) ((false, _) :: assignEach es X.env) = none
      rw [List.findIdx?_cons]
      simp [h3]
  | [], _ :: _, h => by simp [chkTs] at h
  | _ :: _, [], h => by simp [chkTs] at h
theorem sg (G : Gud g X W sc fb N L) {tg : Tg} {e : Expr} (h : chkT sc fb N tg e = true) : PG X e (gT g.K tg) := by
  obtain rfl := G.gd
  cases tg with
  | one i =>
    cases e <;> simp only [chkT, Bool.false_eq_true] at h
    obtain ⟨l1, l2, l3⟩ := G.loc h
    exact pg_name (by rw [G.nm]; exact G.nd) l1 l2 l3
  | many is =>
    cases e <;> simp only [chkT, Bool.false_eq_true] at h
    obtain ⟨h1, h2, h3⟩ := sgs G h
    exact pg_tup G.calm h1 h2 h3
def Tg.sl : Tg → List Nat
  | .one i => [i]
  | .many is => is
theorem wipe_set {i : Nat} {o : Option V} : ∀ {vs : List Nat} {σ : L2.St}, i ∈ vs → L2.wipe (σ.set i o) vs = L2.wipe σ vs
  | v :: vs, σ, h => by
    simp only [L2.wipe]
    by_cases hi : i ∈ vs
    · rw [wipe_set hi]
    · have e : v = i := by
        rcases List.mem_cons.mp h with z | z
        · exact z.symm
        · exact absurd z hi
      subst e
      have out : ∀ (ws : List Nat) (τ : L2.St), v ∉ ws → L2.wipe (τ.set v o) ws = (L2.wipe τ ws).set v o := by
        intro ws
        induction ws with
        | nil => intro τ _; rfl
        | cons w ws ih =>
          intro τ hw
          simp only [List.mem_cons, not_or] at hw
          simp only [L2.wipe]
          rw [ih τ hw.2, List.set_comm _ _ hw.1]
      rw [out vs σ hi, List.set_set]
theorem gTs_read {T : Option Addr} {H : Hp} {F : FS} {n : S} : ∀ {is : List Nat} {ds : List D} {vs : List V} {ρ ρ' : Ss.Env} {σ : L2.St} {Q : L2.St → Hp → Prop}, puts ρ is ds = some ρ' → Rps g H F T ds vs → Rel g B ρ σ H F T n →
    (∀ σ', Rel g B ρ' σ' H F T n → (∀ ws, (∀ i ∈ is, i ∈ ws) → L2.wipe σ' ws = L2.wipe σ ws) → Q σ' H) → gTs is vs σ H Q
  | [], [], vs, ρ, ρ', σ, Q, e, r, R, k => by
    simp only [puts] at e
    cases e
    simp only [Rps] at r
    exact ⟨r, k σ R fun _ _ => rfl⟩
  | i :: is, d :: ds, vs, ρ, ρ', σ, Q, e, r, R, k => by
    simp only [puts] at e
    simp only [Rps] at r
    obtain ⟨v, r', rfl, h1, h2⟩ := r
    refine ⟨v, r', rfl, ?_⟩
    refine gTs_read e h2 (R.put i h1) fun σ' R' w => k σ' R' fun ws hw => ?_
    rw [w ws fun j hj => hw j (List.mem_cons_of_mem _ hj), wipe_set (hw i List.mem_cons_self)]
  | [], _ :: _, _, _, _, _, _, e, _, _, _ => by simp [puts] at e
  | _ :: _, [], _, _, _, _, _, e, _, _, _ => by simp [puts] at e
theorem puts_len : ∀ {is : List Nat} {ds : List D} {ρ ρ' : Ss.Env}, puts ρ is ds = some ρ' → ds.length = is.length
  | [], [], _, _, _ => rfl
  | i :: is, d :: ds, _, _, e => by
    simp only [puts] at e
    simp [puts_len e]
  | [], _ :: _, _, _, e => by simp [puts] at e
  | _ :: _, [], _, _, e => by simp [puts] at e
theorem gT_read {T : Option Addr} {H : Hp} {F : FS} {n : S} {tg : Tg} {d : D} {v : V} {ρ ρ' : Ss.Env} {σ : L2.St} {Q : L2.St → Hp → Prop} (e : tg.put d ρ = some ρ') (r : Rp g H F T d v) (R : Rel g B ρ σ H F T n)
    (k : ∀ σ', Rel g B ρ' σ' H F T n → (∀ ws, (∀ i ∈ tg.sl, i ∈ ws) → L2.wipe σ' ws = L2.wipe σ ws) → Q σ' H) : gT g.K tg v σ H Q := by
  cases tg with
  | one i =>
    simp only [Tg.put] at e
    cases e
    exact k _ (R.put i r) fun ws hw => wipe_set (hw i (by simp [Tg.sl]))
  | many is =>
    cases d <;> simp only [Tg.put, reduceCtorEq] at e
    simp only [Rp] at r
    obtain ⟨a, vs, rfl, h1, h2, h3⟩ := r
    exact ⟨a, vs, rfl, h1, by rw [h3.len]; exact puts_len e, gTs_read e h3 R k⟩

/-! ### what is walked -/
/-- J gives ds one by one, as long as frozen things (st) stay, or all that was (not st) -/
def Wks (g : Gd) (T : Option Addr) (st : Bool) (J : It) (H : Hp) (F : FS) (ds : List D) : Prop := ∃ (vs : List V) (P : Hp → Prop), Walk J ds.length P (YAt vs) ∧ Rps g H F T ds vs ∧ vs.length ≤ sizeLine ∧
  (∀ H' F', Ev T H F H' F' → P H') ∧ (st = true → ∀ H' F', Kp H F H' F' → P H')
def iI (g : Gd) (B : Bs) (W : WX) (st : Bool) (f : Ss.Env → M (List D)) : TI := fun σ H R => ∃ ρ F T n, Rel g B ρ σ H F T n ∧ Fin g W σ T H F (f ρ n) fun ds _ H' F' => ∀ J, Wks g T st J H' F' ds → R J H'
theorem pi_wk {tg e : Expr} {t t' : TI} (h : PI X tg e t') (k : ∀ σ H Q, t σ H Q → t' σ H Q) : PI X tg e t := ⟨fun pins s σ H Q I q => h.run pins s σ H Q I (k σ H Q q)⟩
end
end Ss
/-! Ss, part G: iterators and comprehensions. -/
namespace Ss
open PySem PySem.Spec PyProof.Rows L2
section
variable {g : Gd} {X : Cx} {W : WX} {sc : Scope} {fb : Str → Bool} {N : List Str} {L : Nat} {B : Bs}
/-- a list, a tuple or a text, whatever comes -/
def iAny (K : PySem.W.Frag) (tl : TE) : TI := fun σ H R => tl σ H fun x H1 =>
  (∃ a, x = .ref a ∧ (∃ xs, SqL K H1 a xs) ∧ R (Itl K a) H1) ∨ (∃ a, x = .ref a ∧ (∃ xs, SqT K H1 a xs) ∧ R (Itt K a) H1) ∨ ∃ z, x = .str z ∧ R (Its z) H1
theorem pi_any {tg l : Expr} {tl : TE} (hl : PE X l tl) : PI X tg l (iAny X.K tl) := by
  constructor
  intro pins s σ H R I h
  refine thn (hl.run pins s σ H _ I h) ?_
  rintro v s1 ⟨x, H1, I1, r1, q1⟩
  rcases q1 with ⟨a, rfl, ⟨xs, hq⟩, q⟩ | ⟨a, rfl, ⟨xs, hq⟩, q⟩ | ⟨z, rfl, q⟩
  · -- as a list
    have hp : PE X l (fun σ' H' Q => H' = H1 ∧ σ' = σ ∧ Q (.ref a) H1) ∨ True := .inr trivial
    cases r1
    obtain ⟨its, rv, p, hz⟩ := I1.list hq
    refine wpAny_pyIter_list p.isList ?_
    exact pi_one (tk := s1.toks) I1 _ (turn_list a _) ⟨_, Heap.get?_push_size _ rfl, rfl, rfl⟩ q
  · cases r1
    obtain ⟨its, rv, p, hz⟩ := I1.tuple hq
    refine wpAny_pyIter_tuple (show s1.heap.IsTuple a its.toArray from p) ?_
    exact pi_one (tk := s1.toks) I1 _ (turn_tuple a _) ⟨_, Heap.get?_push_size _ rfl, rfl, rfl⟩ q
  · obtain ⟨t, rfl⟩ := r1
    cases ha : z.cps.all (· < 128)
    · exact wpAny_pyIter_wide ha (pi_one (tk := s1.toks) I1 _ (turn_str _ z t "str_iterator" (.inr rfl)) ⟨_, Heap.get?_push_size _ rfl, rfl, rfl⟩ q)
    · exact wpAny_pyIter_ascii ha (pi_one (tk := s1.toks) I1 _ (turn_str _ z t "str_ascii_iterator" (.inl rfl)) ⟨_, Heap.get?_push_size _ rfl, rfl, rfl⟩ q)
theorem Fin.bnd' {α β : Type} {σ : L2.St} {T : Option Addr} {H : Hp} {F : FS} {n : S} {m : M α} {k : α → M β} {K : β → S → Hp → FS → Prop} (h : Fin g W σ T H F (Ss.bnd m k n) K) : Fin g W σ T H F (m n) fun a n1 _ _ => Fin g W σ T H F (k a n1) K := by
  unfold Ss.bnd at h
  cases e : m n with
  | ok a n' => rw [e] at h; exact fun _ _ _ _ => h
  | exc c n' => rw [e] at h; exact h
  | bad => rw [e] at h; exact h
theorem Fin.sup {α : Type} {W' : WX} {σ σ' : L2.St} {T : Option Addr} {H : Hp} {F : FS} {n : S} {m : M α} {K : α → S → Hp → FS → Prop} (h : Fin g W σ T H F (Ss.sup m n) K) : Fin g W' σ' T H F (m n) K := by
  unfold Ss.sup at h
  cases e : m n with
  | ok a n' => rw [e] at h; exact h
  | exc c n' => rw [e] at h; exact False.elim h
  | bad => rw [e] at h; exact h
theorem Fin.any {α : Type} {σ σ' : L2.St} {T : Option Addr} {H : Hp} {F : FS} {r : Res α} {K : α → S → Hp → FS → Prop} (h : Fin g (fun _ _ _ _ => False) σ T H F r K) : Fin g (fun _ _ _ _ => False) σ' T H F r K := by
  cases r with
  | ok a n => exact h
  | exc c n => exact h
  | bad => exact h
/-- what a loop or a comprehension walks: a list, a tuple, a text -/
theorem si_seq (G : Gud g X W sc fb N L) {tg it : Expr} {kd : Kd} {f : Ss.Env → M D} (h : PE X it (tI g B W kd f)) (st : Bool) (hs : st = true → kd = .full) : PI X tg it (iI g B W st fun ρ => bnd (f ρ) fun x => lft (items x)) := by
  obtain rfl := G.gd
  refine pi_wk (pi_any h) fun σ H Q q => ?_
  obtain ⟨ρ, F, T, n, R, q⟩ := q
  refine ⟨ρ, F, T, n, R, q.bnd.mono fun d n1 H1 F1 e1 t1 q1 v p1 => ?_⟩
  have R1 := R.step e1 t1
  obtain ⟨ds, ed, k, _⟩ := q1.lft t1
  have ps := p1.shal fun a z => ⟨_, R.tw.tn a z⟩
  cases d <;> simp only [items, reduceCtorEq] at ed
  case lst xs =>
    injection ed with ed
    subst ed
    have two : ∃ a vs, v = .ref a ∧ H1 a = some (.lst vs) ∧ T ≠ some a ∧ (a ∈ F1.ob → F1 a) ∧ vs.length ≤ sizeLine ∧ Rps (gdOf X) H1 F1 T xs vs ∧ (kd = .full → F1 a) := by
      cases kd with
      | full =>
        have p : Rp (gdOf X) H1 F1 T (.lst xs) v := p1
        simp only [Rp] at p
        obtain ⟨a, vs, h1, h2, h3, h4, h5⟩ := p
        exact ⟨a, vs, h1, h2, fun z => R1.nf a z h3, fun _ => h3, h4, h5, fun _ => h3⟩
      | shal =>
        rcases p1 with p | ⟨a, vs, ys, e, h1, h2, h3, ho, h4, h5⟩
        · simp only [Rp] at p
          obtain ⟨a, vs, h1, h2, h3, h4, h5⟩ := p
          exact ⟨a, vs, h1, h2, fun z => R1.nf a z h3, fun _ => h3, h4, h5, fun z => nomatch z⟩
        · cases e
          exact ⟨a, vs, h1, h2, h3, fun z => absurd z ho, h4, h5, fun z => nomatch z⟩
      | new =>
        obtain ⟨a, vs, ys, e, h1, h2, h3, h4, ho, h5, h6⟩ := p1
        cases e
        refine ⟨a, vs, h1, h3, fun z => ?_, fun z => absurd z ho, h5, h6, fun z => nomatch z⟩
        rw [R.tw.tn a z] at h2; cases h2
    obtain ⟨a, vs, rfl, h1, h2, ho, h3, h4, h5⟩ := two
    refine .inl ⟨a, rfl, ⟨vs, SqL.of h1⟩, k _ ⟨vs, fun H => SqL X.K H a vs, ?_, h4, h3, fun H' F' e => SqL.of (e.same a _ h1 h2 ho), fun z H' F' kk => SqL.of (kk.frz a _ (h5 (hs z)) h1)⟩⟩
    rw [← h4.len]
    exact walk_list
  case tup xs =>
    cases ed
    obtain ⟨a, vs, rfl, h1, h3, h4⟩ := ps.tup
    refine .inr (.inl ⟨a, rfl, ⟨vs, h1⟩, k _ ⟨vs, fun H => SqT X.K H a vs, ?_, h4, h3, fun H' F' e => Kp.sqT (g := gdOf X) (e.kp R1.tw R1.nf) h1, fun z H' F' kk => Kp.sqT (g := gdOf X) kk h1⟩⟩)
    rw [← h4.len]
    exact walk_tup
  case str x =>
    split at ed
    · rename_i hl
      cases ed
      rw [ps.str]
      have hr : ∀ l : List Nat, Rps (gdOf X) H1 F1 T (l.map sgn) (l.map fun c => V.str ⟨#[c]⟩) := fun l => by
        induction l with
        | nil => exact .nil
        | cons c r ih => exact .cons rp_str ih
      refine .inr (.inr ⟨x, rfl, k _ ⟨x.cps.toList.map fun c => V.str ⟨#[c]⟩, fun _ => True, ?_, hr _, ?_, fun _ _ _ => trivial, fun _ _ _ _ => trivial⟩⟩)
      · have w := walk_str (z := x)
        rw [List.length_map, Array.length_toList]
        refine w.mono (fun _ h => h) fun i H v H' _ _ y => ?_
        obtain ⟨y1, c, y2, y3⟩ := y
        refine ⟨y1, ?_⟩
        rw [List.getElem?_map, Array.getElem?_toList, y2, y3]
        rfl
      · rw [List.length_map, Array.length_toList]
        exact hl
    · cases ed
theorem rgV_walk (lo hi : Int) : Walk (Itr lo (hi - lo).toNat) (rngL lo hi).length (fun _ => True) (YAt (rgV lo hi)) := by
  rw [rngL_len]
  refine (walk_range (lo := lo) (n := (hi - lo).toNat)).mono (fun _ h => h) fun i H v H' hi' _ y => ⟨y.1, ?_⟩
  unfold rgV
  rw [List.getElem?_map, List.getElem?_range hi', y.2]
  rfl
theorem si_rng1 (G : Gud g X W sc fb N L) {tg a : Expr} {fa : Ss.Env → M D} {p pos : Pos} {st : Bool} (ha : PE X a (tI g B W .shal fa)) (hn : nst a = true) (hr : glB sc "range" = true) :
    PI X tg (.Call (.Name "range" p) [a] [] pos) (iI g B W st fun ρ => bnd (bnd (fa ρ) fun d => bnd (ret []) fun ds => ret (d :: ds)) fun ds => lft (rngD ds)) := by
  obtain rfl := G.gd
  refine pi_wk (pi_range1 (G.gl hr).1 (G.bn (by decide +kernel)) (pa_cons ha pa_nil (star_of hn)) (by rw [star_of hn]; rfl)) fun σ H Q q => ?_
  obtain ⟨ρ, F, T, n, R, q⟩ := q
  refine ⟨ρ, F, T, n, R, q.bnd.bnd.mono fun d n1 H1 F1 e1 t1 q1 v p1 => ?_⟩
  obtain ⟨l, el, k, _⟩ := (q1 H1 F1 Ev.refl t1).lft t1
  cases d <;> simp only [rngD, reduceCtorEq] at el
  rename_i j
  split at el
  · rename_i hc
    injection el with el
    subst el
    refine ⟨j, by rw [RpS.int p1], hc.1, by omega, ?_⟩
    have w := rgV_walk 0 j
    rw [Int.sub_zero] at w
    refine k _ ⟨rgV 0 j, fun _ => True, w, rngL_rps 0 j, ?_, fun _ _ _ => trivial, fun _ _ _ _ => trivial⟩
    rw [rgV_length, sizeLine_eq]
    omega
  · cases el
theorem si_rng2 (G : Gud g X W sc fb N L) {tg a b : Expr} {fa fb' : Ss.Env → M D} {p pos : Pos} {st : Bool} (ha : PE X a (tI g B W .shal fa)) (hb : PE X b (tI g B W .shal fb')) (hn : nst a = true) (hn2 : nst b = true) (hr : glB sc "range" = true) :
    PI X tg (.Call (.Name "range" p) [a, b] [] pos) (iI g B W st fun ρ => bnd (bnd (fa ρ) fun d => bnd (bnd (fb' ρ) fun d => bnd (ret []) fun ds => ret (d :: ds)) fun ds => ret (d :: ds)) fun ds => lft (rngD ds)) := by
  obtain rfl := G.gd
  refine pi_wk (pi_range2 (G.gl hr).1 (G.bn (by decide +kernel)) (pa_cons ha (pa_cons hb pa_nil (star_of hn2)) (star_of hn)) (by rw [star_of hn, star_of hn2]; rfl) (by rw [star_of hn2]; rfl)) fun σ H Q q => ?_
  obtain ⟨ρ, F, T, n, R, q⟩ := q
  refine ⟨ρ, F, T, n, R, q.bnd.bnd.mono fun d n1 H1 F1 e1 t1 q1 v p1 => ?_⟩
  have R1 := R.step e1 t1
  refine ⟨ρ, F1, T, n1, R1, q1.bnd.bnd.mono fun d2 n2 H2 F2 e2 t2 q2 v2 p2 => ?_⟩
  have q3 := q2 H2 F2 Ev.refl t2 H2 F2 Ev.refl t2
  obtain ⟨l, el, k, _⟩ := Fin.lft q3 t2
  clear q2 q3 q1
  cases d <;> cases d2 <;> simp only [rngD, reduceCtorEq] at el
  case int.int i j =>
  split at el
  · rename_i hc
    injection el with el
    subst el
    refine ⟨i, j, by rw [RpS.int p1, RpS.int p2], ⟨hc.1, by omega, by omega, by omega⟩, ?_⟩
    have w := rgV_walk i j
    refine k _ ⟨rgV i j, fun _ => True, w, rngL_rps i j, ?_, fun _ _ _ => trivial, fun _ _ _ _ => trivial⟩
    rw [rgV_length, sizeLine_eq]
    omega
  · cases el

/-! ### list comprehensions -/
abbrev W0 : WX := fun _ _ _ _ => False
theorem wipe_wipe (σ : L2.St) (vs : List Nat) : L2.wipe (L2.wipe σ vs) vs = L2.wipe σ vs := by
  have gen : ∀ (ws : List Nat), (∀ w ∈ ws, w ∈ vs) → L2.wipe (L2.wipe σ ws) vs = L2.wipe σ vs := by
    intro ws
    induction ws with
    | nil => intro _; rfl
    | cons w ws ih =>
      intro h
      show L2.wipe ((L2.wipe σ ws).set w none) vs = _
      rw [wipe_set (h w List.mem_cons_self), ih fun x hx => h x (List.mem_cons_of_mem _ hx)]
  exact gen vs fun _ h => h
theorem Ev.writeNew {T : Option Addr} {H H' : Hp} {F F' : FS} {p : Addr} {o : HO} (e : Ev T H F H' F') (h : H p = none) : Ev T H F (upd H' p o) F' :=
  ⟨fun a u q t m => by rw [upd_ne (ne_of_none q h)]; exact e.same a u q t m, e.sub, e.new, fun d => dom_upd (e.dom d), e.obs⟩
def lcF (tg : Tg) (fts fe : Ss.Env → M D) (ρ : Ss.Env) (d : D) : M (Option D) := bnd (lft (tg.put d ρ)) fun ρ2 => bnd (fts ρ2) fun c => bnd (lft (tru c)) fun k => if k then bnd (fe ρ2) fun x => ret (some x) else ret none
theorem comp_read {tg : Tg} {fi : Ss.Env → M (List D)} {fts fe : Ss.Env → M D} {vs : List Nat} (hsl : ∀ i ∈ tg.sl, i ∈ vs) (σ : L2.St) (H : Hp) (Q : VK)
    (q : tI g B W .new (fun ρ => bnd (fi ρ) fun ds => bnd (lcs (lcF tg fts fe (wip ρ vs)) ds) fun xs => ret (.lst xs)) σ H Q) :
    tLc (iI g B W false fi) (gT g.K tg) (tT g B W0 fun ρ => truM (fts ρ)) (tI g B W0 .full fe) vs σ H Q := by
  obtain ⟨ρ, F, T, n, R, q⟩ := q
  refine ⟨ρ, F, T, n, R, q.bnd.mono fun ds n1 H1 F1 e1 t1 q1 J wk => ?_⟩
  intro D hD
  obtain ⟨us, P, w, r, hl, pE, _⟩ := wk
  have R1 := R.step e1 t1
  have TD : T ≠ some D := fun z => by rw [t1.tn D z] at hD; cases hD
  have FD : ∀ {Hc : Hp} {Fc : FS}, Ev T H1 F1 Hc Fc → Hc D ≠ none → True := fun _ _ => trivial
  refine lc_it w (fun i Hc => ∃ (Fc : FS) (nc : S) (done : List Ss.D) (acc : List V), Ev T H1 F1 Hc Fc ∧ Tw g T Hc Fc nc ∧ ¬ Fc D ∧ D ∉ Fc.ob ∧ Hc D = some (.lst acc) ∧ acc.length ≤ i ∧ Rps g Hc Fc T done acc ∧
    Fin g W σ T H1 F1 (lcs (lcF tg fts fe (wip ρ vs)) (ds.drop i) nc) fun r n' H' F' => ∀ v, Post g T H H' F' .new (.lst (done ++ r)) v → Q v H') ?h0 ?hG ?hs ?hd
  case h0 =>
    refine ⟨F1, n1, [], [], Ev.alloc hD, t1.alloc hD, fun f => ?_, t1.notIn hD, upd_same, Nat.le_refl _, .nil, ?_⟩
    · obtain ⟨o, z⟩ := R1.dm D f
      rw [hD] at z; cases z
    · exact q1.bnd.mono fun xs n2 H2 F2 e2 t2 q2 => q2 H2 F2 Ev.refl t2
  case hG =>
    rintro i Hc _ ⟨Fc, nc, done, acc, ev, _⟩
    exact pE Hc Fc ev
  case hd =>
    rintro Hc ⟨Fc, nc, done, acc, ev, tw, nf, no, hc, hlen, rp, fin⟩
    rw [List.drop_length] at fin
    have z := fin Hc Fc ev tw (.ref D)
    rw [List.append_nil] at z
    refine z ⟨D, acc, done, rfl, rfl, none_back e1 t1 hD, hc, nf, no, ?_, rp⟩
    have := r.len
    omega
  case hs =>
    rintro i x Hc Hc' hi ⟨Fc, nc, done, acc, ev, tw, nf, no, hc, hlen, rp, fin⟩ ⟨rfl, hx⟩
    obtain ⟨d, hd, rd⟩ := r.get' hx
    have Rc := R1.step ev tw
    have rdc := R1.rp ev rd
    rw [List.drop_eq_getElem_cons hi] at fin
    have ed : ds[i] = d := by
      have z := List.getElem?_eq_getElem hi
      rw [hd] at z; exact (Option.some.inj z).symm
    rw [ed] at fin
    simp only [lcs] at fin
    have fin := (fin.bnd').later ev tw
    have Rw := Rc.wipe vs
    have fin : Fin g W0 (L2.wipe σ vs) T Hc' Fc (lcF tg fts fe (wip ρ vs) d nc) _ := fin.sup
    unfold lcF at fin
    cases ep : tg.put d (wip ρ vs) with
    | none => rw [ep] at fin; exact False.elim fin
    | some ρ2 =>
      rw [ep] at fin
      refine gT_read ep rdc Rw fun σ' R' wp => ⟨by rw [wp vs hsl, wipe_wipe], ?_⟩
      have fin : Fin g W0 (L2.wipe σ vs) T Hc' Fc (bnd (fts ρ2) (fun c => bnd (lft (tru c)) fun k => if k then bnd (fe ρ2) fun x => ret (some x) else ret none) nc) _ := fin
      rw [← bnd_assoc] at fin
      have fin := fin.bnd
      have keep : ∀ {H3 : Hp} {F3 : FS} {n3 : S}, Ev T Hc' Fc H3 F3 → Tw g T H3 F3 n3 → Ev T H1 F1 H3 F3 ∧ ¬ F3 D ∧ D ∉ F3.ob ∧ H3 D = some (.lst acc) ∧ Rps g H3 F3 T done acc := fun {H3 F3 n3} e3 t3 => by
        refine ⟨ev.trans tw e3, fun f => ?_, e3.nob hc no, e3.same D _ hc TD fun z => absurd z no, Rc.rps e3 rp⟩
        rcases e3.new D f with z | z | z
        · exact nf z
        · rw [hc] at z; cases z
        · exact no z
      refine ⟨ρ2, Fc, T, nc, R', fin.any.mono fun k n3 H3 F3 e3 t3 q3 => ?_⟩
      cases k with
      | false =>
        simp only [Bool.false_eq_true, if_false] at q3 ⊢
        have q3 := q3 H3 F3 Ev.refl t3
        obtain ⟨k1, k2, ko, k3, k4⟩ := keep e3 t3
        refine ⟨F3, n3, done, acc, k1, t3, k2, ko, k3, by omega, k4, ?_⟩
        exact q3.bnd'.mono fun r n' H' F' e t k => k H' F' e t
      | true =>
        simp only [if_true] at q3 ⊢
        refine ⟨ρ2, F3, T, n3, R'.step e3 t3, q3.bnd.any.mono fun y n4 H4 F4 e4 t4 q4 v p4 => ?_⟩
        have q4 := q4 H4 F4 Ev.refl t4
        obtain ⟨k1, k2, ko, k3, k4⟩ := keep (e3.trans t3 e4) t4
        have lz := r.len
        refine ⟨acc, k3, by omega, F4, n4, done ++ [y], acc ++ [v], k1.writeNew hD, t4.set TD ko (Kp.write k3 k2), k2, ko, upd_same, by rw [List.length_append]; simp; omega, ?_, ?_⟩
        · have kk : Kp H4 F4 (upd H4 D (.lst (acc ++ [v]))) F4 := Kp.write k3 k2
          exact (Rps.kp kk (fun _ z => z) _ _ k4).app (.one (Rp.kp kk (fun _ z => z) _ _ p4))
        · refine q4.bnd'.mono fun r n' H' F' e t k => ?_
          have z := k H' F' e t
          rw [List.append_assoc]
          exact z
/-- the block's own place -/
theorem Gud.blk (G : Gud g X W sc fb N L) (s : Shared) (H : Hp) (scope : Scope) (cl : List (Str × Addr)) (C : Addr) (fp : List Addr) :
    Gud g (X.blk s H scope (compEnvC scope cl C X.env) fp) W0 (relS scope sc) (fun x => scope.names.lookup x == some .cell) N L := by
  refine ⟨G.gd, G.ok, ?_, G.nm, G.nd, G.calm, G.room, takes0, fun x h => h, PassesOwn.never⟩
  show (compEnvC scope cl C X.env).scope = _
  rw [← G.es]
  rfl
theorem se_comp (G : Gud g X W sc fb N L) {tg : Tg} {elt tgE iter : Expr} {ifs : List Expr} {scope : Scope} {own : List (Str × Nat)} {pos : Pos} {fi : Ss.Env → M (List D)} {fts fe : Ss.Env → M D} (hi : PI X tgE iter (iI g B W false fi)) (ok : BlkOk N sc scope own)
    (hg : ∀ X', Gud g X' W0 (relS scope sc) (fun x => scope.names.lookup x == some .cell) N L → PG X' tgE (gT g.K tg)) (ht : ∀ X', Gud g X' W0 (relS scope sc) (fun x => scope.names.lookup x == some .cell) N L → PTs X' ifs (tT g B W0 fun ρ => truM (fts ρ)))
    (he : ∀ X', Gud g X' W0 (relS scope sc) (fun x => scope.names.lookup x == some .cell) N L → PE X' elt (tI g B W0 .full fe)) (hsl : ∀ i ∈ tg.sl, i ∈ own.map (·.2)) (hs : ∀ env x, foldedSetIterable iter env x = pure x) :
    PE X (.ListComp elt [⟨tgE, iter, ifs, 0⟩] scope pos) (tI g B W .new fun ρ => bnd (fi ρ) fun ds => bnd (lcs (lcF tg fts fe (wip ρ (own.map (·.2)))) ds) fun xs => ret (.lst xs)) := by
  refine pe_wk (pe_lc G.calm (by rw [G.nm]; exact G.nd) hi (by rw [G.nm, G.es]; exact ok) (fun s H C cl fp => hg _ (G.blk s H scope cl C fp)) (fun s H C cl fp => ht _ (G.blk s H scope cl C fp)) (fun s H C cl fp => he _ (G.blk s H scope cl C fp)) (hs X.env)) fun σ H Q q => comp_read hsl σ H Q q
/-- y = [..]: stored within the comprehension's frame -/
theorem ss_comp (G : Gud g X W sc fb N L) {tg : Tg} {i : Nat} {y : Str} {py : Pos} {elt tgE iter : Expr} {ifs : List Expr} {scope : Scope} {own : List (Str × Nat)} {pos spos : Pos} {fi : Ss.Env → M (List D)} {fts fe : Ss.Env → M D} (hi : PI X tgE iter (iI g B W false fi)) (ok : BlkOk N sc scope own)
    (hg : ∀ X', Gud g X' W0 (relS scope sc) (fun x => scope.names.lookup x == some .cell) N L → PG X' tgE (gT g.K tg)) (ht : ∀ X', Gud g X' W0 (relS scope sc) (fun x => scope.names.lookup x == some .cell) N L → PTs X' ifs (tT g B W0 fun ρ => truM (fts ρ)))
    (he : ∀ X', Gud g X' W0 (relS scope sc) (fun x => scope.names.lookup x == some .cell) N L → PE X' elt (tI g B W0 .full fe)) (hsl : ∀ i ∈ tg.sl, i ∈ own.map (·.2)) (hs : ∀ env x, foldedSetIterable iter env x = pure x)
    (hy : N[i]? = some y) (hyl : sc.names.lookup y = some .local) (hk : sc.kind = .function) (hl : (py.line == pos.line) = true) (ha : (scope.names.any fun (n, k) => n == y && (k == .local || k == .cell)) = false) :
    PS X (.Assign [.Name y py] (.ListComp elt [⟨tgE, iter, ifs, 0⟩] scope pos) spos) (tAsg (tI g B W .new fun ρ => bnd (fi ρ) fun ds => bnd (lcs (lcF tg fts fe (wip ρ (own.map (·.2)))) ds) fun xs => ret (.lst xs)) (gName i)) := by
  refine ps_wk (ps_setLc (i := i) G.calm (by rw [G.nm]; exact G.nd) (by rw [G.nm]; exact hy) (by rw [G.es]; exact hyl) (sw_true (by rw [G.es]; exact hk) (by rw [G.es]; exact hyl) hl ha) hi (by rw [G.nm, G.es]; exact ok)
    (fun s H C cl fp => hg _ (G.blk s H scope cl C fp)) (fun s H C cl fp => ht _ (G.blk s H scope cl C fp)) (fun s H C cl fp => he _ (G.blk s H scope cl C fp)) (hs X.env)) fun D σ H q => comp_read hsl σ H _ q
end
end Ss
/-! Ss, part X: dicts whose keys are tuples (nested, None within): the steps over the heap. -/
namespace Ss
open PySem PySem.Spec PyProof.Rows L2
section
variable {X : Cx} {pins : List (Addr × Obj)} {σ : L2.St} {H : Hp} {F : FS} {T : Option Addr} {s : Shared}
mutual
/-- data that are a key stand as one -/
theorem rp_nk (I : Inv X pins σ H s) : ∀ (d : D) (v : V) (u : Value) (k : NestedKey), keyOf d = some k → Rp (gdOf X) H F T d v → RelV v u → NestedIs s.heap k u
  | .non, v, u, k, e, h, r => by
    simp only [keyOf, Option.some.injEq] at e
    simp only [Rp] at h
    subst e h
    cases (show u = Value.none from r)
    exact .none
  | .bl b, v, u, k, e, h, r => by
    simp only [keyOf, Option.some.injEq] at e
    simp only [Rp] at h
    subst e h
    cases (show u = Value.bool b from r)
    exact .bool rfl
  | .int i, v, u, k, e, h, r => by
    simp only [keyOf, Option.some.injEq] at e
    simp only [Rp] at h
    subst e h
    obtain ⟨t, rfl⟩ := (show ∃ t, u = Value.int i t from r)
    exact .int _ _
  | .str x, v, u, k, e, h, r => by
    simp only [keyOf, Option.some.injEq] at e
    simp only [Rp] at h
    subst e h
    obtain ⟨t, rfl⟩ := (show ∃ t, u = Value.str x t from r)
    exact .text _ _
  | .tup ds, v, u, k, e, h, r => by
    simp only [keyOf] at e
    simp only [Rp] at h
    obtain ⟨a, vs, rfl, h1, _, h2⟩ := h
    cases ek : keysOf ds with
    | none => rw [ek] at e; cases e
    | some ks =>
      rw [ek] at e
      cases e
      cases (show u = Value.ref a from r)
      obtain ⟨its, rv, ⟨o, e1, e2, n, e3⟩, _⟩ := I.tuple h1
      exact .tup e1 e2 e3 (by simpa using rps_nk I ds vs its ks ek h2 rv)
  | .lst _, _, _, _, e, _, _ => by simp only [keyOf, reduceCtorEq] at e
  | .dic _ _, _, _, _, e, _, _ => by simp only [keyOf, reduceCtorEq] at e
  | .fn _, _, _, _, e, _, _ => by simp only [keyOf, reduceCtorEq] at e
  | .exn _, _, _, _, e, _, _ => by simp only [keyOf, reduceCtorEq] at e
  | .town, _, _, _, e, _, _ => by simp only [keyOf, reduceCtorEq] at e
  | .scr _, _, _, _, e, _, _ => by simp only [keyOf, reduceCtorEq] at e
theorem rps_nk (I : Inv X pins σ H s) : ∀ (ds : List D) (vs : List V) (us : List Value) (ks : List NestedKey), keysOf ds = some ks → Rps (gdOf X) H F T ds vs → Vals vs us → NestedAll s.heap ks us
  | [], vs, us, ks, e, h, r => by
    simp only [keysOf, Option.some.injEq] at e
    simp only [Rps] at h
    subst e h
    cases r
    exact .nil
  | d :: ds, vs, us, ks, e, h, r => by
    simp only [keysOf] at e
    simp only [Rps] at h
    obtain ⟨v, w, rfl, h1, h2⟩ := h
    cases e1 : keyOf d with
    | none => rw [e1] at e; cases e
    | some k =>
      rw [e1] at e
      simp only [Option.bind_some] at e
      cases e2 : keysOf ds with
      | none => rw [e2] at e; cases e
      | some r2 =>
        rw [e2] at e
        cases e
        cases r with
        | cons r1 rr => exact .cons (rp_nk I d v _ k e1 h1 r1) (rps_nk I ds w _ r2 e2 h2 rr)
end
theorem topKey_is (I : Inv X pins σ H s) {d : D} {v : V} {k : NestedKey} (e : topKey d = some k) (h : Rp (gdOf X) H F T d v) : ∃ b, v = .ref b ∧ (nestedKind X.prog X.w).is s.heap k b := by
  cases d <;> simp only [topKey, reduceCtorEq] at e
  rename_i ds
  cases ek : keyOf (.tup ds) with
  | none => rw [ek] at e; cases e
  | some k' =>
    rw [ek] at e
    have e : (if k'.depth ≤ 8 then some k' else none) = some k := e
    split at e
    · rename_i hl
      cases e
      have h' := h
      simp only [Rp] at h'
      obtain ⟨a, vs, rfl, _⟩ := h'
      exact ⟨a, rfl, rp_nk I _ _ _ _ ek h rfl, hl⟩
    · cases e
theorem topKeys_is (I : Inv X pins σ H s) : ∀ {ks : List D} {xs : List (NestedKey × Addr × Value)}, topKeys ks = some (xs.map (·.1)) → Rps (gdOf X) H F T ks (xs.map fun x => V.ref x.2.1) → ∀ x ∈ xs, (nestedKind X.prog X.w).is s.heap x.1 x.2.1
  | [], [], _, _, x, hx => by cases hx
  | [], _ :: _, e, _, _, _ => by cases e
  | d :: ds, [], e, h, _, hx => by cases hx
  | d :: ds, y :: ys, e, h, x, hx => by
    simp only [topKeys] at e
    simp only [List.map_cons, Rps] at h
    obtain ⟨v, r, e0, h1, h2⟩ := h
    cases e0
    cases e1 : topKey d with
    | none => rw [e1] at e; cases e
    | some k =>
      rw [e1] at e
      simp only [Option.bind_some] at e
      cases e2 : topKeys ds with
      | none => rw [e2] at e; cases e
      | some ks =>
        rw [e2] at e
        simp only [Option.map_some, Option.some.injEq, List.map_cons, List.cons.injEq] at e
        obtain ⟨rfl, rfl⟩ := e
        rcases List.mem_cons.mp hx with rfl | hx
        · obtain ⟨b, eb, q⟩ := topKey_is I e1 h1
          cases eb
          exact q
        · exact topKeys_is I e2 h2 x hx
/-- a dict of the model, as the library has it -/
theorem dx_of (I : Inv X pins σ H s) {a : Addr} {ks : List D} {xs : List (NestedKey × Addr × Value)} (h : H a = some (DX X.prog X.w a xs)) (ok : DxOk xs a) (e : topKeys ks = some (xs.map (·.1))) (r : Rps (gdOf X) H F T ks (xs.map fun x => V.ref x.2.1)) : s.heap.DictOfH (nestedKind X.prog X.w) a xs := by
  have z : ObjOk X.prog X.w H s.heap a (DX X.prog X.w a xs) := I.hok a _ h
  obtain ⟨⟨o, es, ep, e1, e2, e3, e4⟩, _⟩ := z
  exact ⟨o, es, ep, e1, e2, e3, e4, topKeys_is I e r, ok.nd⟩
theorem dx_ok {P : Program} {w : World} {H' : Hp} {h' : Heap} {a : Addr} {xs : List (NestedKey × Addr × Value)} (d : h'.DictOfH (nestedKind P w) a xs) : ObjOk P w H' h' a (DX P w a xs) := by
  obtain ⟨o, es, ep, e1, e2, e3, e4, _, _⟩ := d
  refine ⟨⟨o, es, ep, e1, e2, e3, e4⟩, ⟨o, e1⟩, fun h1 h2 z k => ?_⟩
  obtain ⟨o, es, ep, q1, q2, q3, q4⟩ := z
  exact ⟨o, es, ep, k o q1, q2, q3, q4⟩
/-- {} -/
def tDNewX (P : Program) (w : World) : TE := fun _ H Q => ∀ p, H p = none → (p == sysModules) = false → Q (.ref p) (upd H p (DX P w p []))
theorem pe_dnewX {pos : Pos} : PE X (.Dict [] [] pos) (tDNewX X.prog X.w) := ⟨fun pins s σ H Q I h =>
  wpAny_Dict_empty ⟨.ref s.heap.objs.size, _, I.laid (a := s.heap.objs.size) (o := DX X.prog X.w s.heap.objs.size []) (t' := s.toks) (fun _ _ q => Heap.get?_push_of_some _ q) (Nat.le_refl _) (dx_ok (Heap.DictOfH.new s.heap)), rfl, h _ (I.hok.fresh (Nat.le_refl _)) (beq_eq_false_iff_ne.mpr (Ne.symm (Nat.ne_of_lt I.big)))⟩⟩
/-- d[k] = v -/
theorem dx_set {A : Around} {E : Value → Shared → Prop} {a b : Addr} {k : NestedKey} {xs : List (NestedKey × Addr × Value)} {r : Value} {Q : Unit → Shared → Prop} (hu : A.units + 65 < cLine) (I : Inv X pins σ H s) (h : H a = some (DX X.prog X.w a xs)) (d : s.heap.DictOfH (nestedKind X.prog X.w) a xs) (hk : (nestedKind X.prog X.w).is s.heap k b) (hl : xs.length ≤ sizeLine)
    (q : ∀ s', Inv X pins σ (upd H a (DX X.prog X.w a (storedH xs k b r))) s' → ((storedH xs k b r).map (·.1)).Nodup → Q () s') : wpAny (model X.prog X.w) A (setItem (.ref a) (.ref b) r) Q E s := by
  refine wpAny_setItem_heap (hsz := hl) (show A.in1.units + 8 < cLine by show A.units + 1 + 8 < cLine; omega) hk d fun h' dd' hs => q _ ?_ (let ⟨_, _, _, _, _, _, _, _, z⟩ := dd'; z)
  have he : ∃ q, h'.get? a = some q := let ⟨q, _, _, hq, _⟩ := dd'; ⟨q, hq⟩
  exact L2.d_write I (by rw [h]; exact True.intro) hs he (dx_ok dd')
/-! ### d.keys(), list(d.keys()) -/
def VX (p d : Addr) : HO := .ext fun h => PySem.W.KdlKeysView h p d
def tKeysX (P : Program) (w : World) (te : TE) : TE := fun σ H Q => te σ H fun v H1 => ∃ d xs, v = .ref d ∧ H1 d = some (DX P w d xs) ∧ (d == sysModules) = false ∧ ∀ p, H1 p = none → Q (.ref p) (upd H1 p (VX p d))
theorem dx_raw {H : Hp} (I : Inv X pins σ H s) {a : Addr} {xs : List (NestedKey × Addr × Value)} (h : H a = some (DX X.prog X.w a xs)) : ∃ es ep, s.heap.DictRaw a es ep ∧ es.toList = xs.map (entryOfKey (nestedKind X.prog X.w)) := by
  have z : ObjOk X.prog X.w H s.heap a (DX X.prog X.w a xs) := I.hok a _ h
  obtain ⟨⟨o, es, ep, e1, e2, e3, e4⟩, _⟩ := z
  exact ⟨es, ep, ⟨o, e1, e2, e3⟩, e4⟩
theorem pe_keysX {e : Expr} {te : TE} {apos cpos : Pos} (he : PE X e te) (hbase : attributeBase e "keys" X.env (eval e X.env) = eval e X.env := by rfl) (hline : (apos.endLine == cpos.line) = true := by rfl) : PE X (.Call (.Attribute e "keys" apos) [] [] cpos) (tKeysX X.prog X.w te) := by
  refine ⟨fun pins s σ H Q I h => ?_⟩
  refine wpAny_Call_method (T := "dict") (id := "dict.keys") hbase rfl hline F.plainAttrs_dict F.slot_dict_keys F.type_dict_keys (thn (he.run pins s σ H _ I h) fun u s1 ⟨x, H1, I1, rx, d, xs, ex, hd, hs, q⟩ => ?_)
  subst ex
  obtain rfl : u = Value.ref d := rx
  obtain ⟨es, ep, hr, _⟩ := dx_raw I1 hd
  have nd : ∀ o, s1.heap.get? d = some o → o.dict = none := fun o e => by
    obtain ⟨o', e1, e2, _⟩ := hr
    rw [e1] at e; cases e
    exact e2.2.1
  refine ⟨hr.typeIs, ?_, ?_⟩
  · intro b eb
    cases eb
    obtain ⟨o, e1, e2, _⟩ := hr
    exact ⟨o, e1, e2.2.1⟩
  show wpAny _ _ (callWith cpos (.builtin "dict.keys") [.ref d] [] []) _ X.xe s1
  refine method_meetsIn F.slot_dict_keys F.entry_dict_keys rfl (PySem.evalArgs_none ⟨rfl, hr.typeIs, F.args_dict_keys_1 _, _, meets_dict_keys_raw d hs, ⟨es, ep, hr⟩, ?_⟩)
  refine ⟨.ref s1.heap.objs.size, _, I1.laid (a := s1.heap.objs.size) (o := VX s1.heap.objs.size d) (t' := s1.toks) (fun _ _ q => Heap.get?_push_of_some _ q) (Nat.le_refl _) ?_, rfl, q _ (I1.hok.fresh (Nat.le_refl _))⟩
  have g : (s1.heap.push { cls := .type "dict_keys", data := .fields #[.ref d] }).get? s1.heap.objs.size = some { cls := .type "dict_keys", data := .fields #[.ref d] } := Heap.get?_push_size _ rfl
  refine ⟨⟨_, g, rfl, rfl⟩, ⟨_, g⟩, fun h1 h2 z k => ?_⟩
  obtain ⟨o, z1, z2⟩ := z
  exact ⟨o, k o z1, z2⟩
theorem vals_keys : ∀ ys : List (NestedKey × Addr × Value), Vals (ys.map fun x => V.ref x.2.1) (ys.map fun x => Value.ref x.2.1)
  | [] => .nil
  | _ :: r => .cons rfl (vals_keys r)
theorem call_list_keysX (hc : X.calm = true) : CallR X (.type "list") (fun xs H Q => ∃ (p d : Addr) (ys : List (NestedKey × Addr × Value)), xs = [.ref p] ∧ H p = some (VX p d) ∧ H d = some (DX X.prog X.w d ys) ∧ ys.length ≤ sizeLine ∧ ∀ l, H l = none → Q (.ref l) (upd H l (.lst (ys.map fun x => V.ref x.2.1)))) := by
  intro pins s σ H xs us Q I r h
  obtain ⟨p, d, ys, rfl, hp, hd, hl, q⟩ := h
  obtain ⟨u, rfl, rx⟩ := r.one
  cases rx
  have z : ObjOk X.prog X.w H s.heap p (VX p d) := I.hok p _ hp
  obtain ⟨zv, _⟩ := z
  obtain ⟨es, ep, hr, he⟩ := dx_raw I hd
  have l1 : es.size = ys.length := size_of_entries he
  refine PySem.W.kdl_call (KdlSrc.rawKeys (es := es) (ep := ep) (r := p) (d := d)) (I.ok.hd hc) ⟨zv, hr⟩ (by omega) fun h' tk acc' c' kp e it => ?_
  have ea : acc'.toList = ys.map fun x => Value.ref x.2.1 := by
    have hl2 : acc'.toList.length = ys.length := by rw [Array.length_toList, it.1]; exact l1
    apply List.ext_getElem?
    intro j
    rw [List.getElem?_map]
    cases hj : acc'.toList[j]? with
    | none =>
      have h1 := List.getElem?_eq_none_iff.mp hj
      rw [List.getElem?_eq_none (by omega)]
      rfl
    | some v =>
      obtain ⟨hi, hv⟩ := it.2 j v (by rw [← Array.getElem?_toList]; exact hj)
      have qe : es.toList[j]? = (ys.map (entryOfKey (nestedKind X.prog X.w)))[j]? := by rw [he]
      rw [List.getElem?_map, List.getElem?_eq_getElem (by simpa using hi)] at qe
      cases hb : ys[j]? with
      | none => rw [hb] at qe; cases qe
      | some b =>
        rw [hb] at qe
        simp only [Option.map_some, Option.some.injEq, Array.getElem_toList] at qe
        rw [hv, qe]
        rfl
  have rv : Vals (ys.map fun x => V.ref x.2.1) acc'.toList := by
    rw [ea]
    exact vals_keys ys
  refine ⟨.ref s.heap.objs.size, _, I.laid (t' := tk) (o := .lst (ys.map fun x => V.ref x.2.1)) kp (Nat.le_refl _) ?_, rfl, q _ (I.hok.fresh (Nat.le_refl _))⟩
  exact ⟨by rw [List.length_map]; exact hl, acc'.toList, c', rv, by rw [Array.toArray_toList]; exact e⟩
/-! ### what a store makes of the entries -/
theorem storedH_cons {x : NestedKey × Addr × Value} {xs : List (NestedKey × Addr × Value)} {k : NestedKey} {a : Addr} {v : Value} (hn : ((x :: xs).map (·.1)).Nodup) : storedH (x :: xs) k a v = if x.1 = k then (x.1, x.2.1, v) :: xs else x :: storedH xs k a v := by
  by_cases h : x.1 = k
  · rw [if_pos h]
    have e : (atKey (x :: xs) k).isSome = true := by simp [atKey, h]
    have m : xs.map (putAt k v) = xs := by
      have hx : ∀ y ∈ xs, putAt k v y = y := fun y hy => by
        have : y.1 ≠ k := fun z => by
          simp only [List.map_cons, List.nodup_cons] at hn
          exact hn.1 (List.mem_map.mpr ⟨y, hy, by rw [z, h]⟩)
        simp [putAt, this]
      exact (List.map_congr_left hx).trans (List.map_id _)
    unfold storedH
    rw [if_pos e, List.map_cons, m]
    simp [putAt, h]
  · rw [if_neg h]
    have e : (atKey (x :: xs) k).isSome = (atKey xs k).isSome := by simp [atKey, h]
    unfold storedH
    rw [e]
    by_cases q : (atKey xs k).isSome = true
    · rw [if_pos q, if_pos q, List.map_cons]
      simp [putAt, h]
    · rw [if_neg q, if_neg q]; rfl
structure DRel (g : Gd) (H : Hp) (F : FS) (T : Option Addr) (ks us : List D) (xs : List (NestedKey × Addr × Value)) : Prop where
  key : topKeys ks = some (xs.map (·.1))
  rk : Rps g H F T ks (xs.map fun x => V.ref x.2.1)
  rv : ∃ ws, Vals ws (xs.map (·.2.2)) ∧ Rps g H F T us ws
theorem dput_rel {g : Gd} {d w : D} {k : NestedKey} {b : Addr} {v : V} {r : Value} (hk : topKey d = some k) (hd : Rp g H F T d (.ref b)) (hw : Rp g H F T w v) (hr : RelV v r) :
    ∀ {ks us ks' us' : List D} {xs : List (NestedKey × Addr × Value)}, DRel g H F T ks us xs → (xs.map (·.1)).Nodup → dput ks us k d w = some (ks', us') → DRel g H F T ks' us' (storedH xs k b r) ∧ (storedH xs k b r).length ≤ xs.length + 1
  | [], [], ks', us', xs, R, nd, e => by
    simp only [dput, Option.some.injEq, Prod.mk.injEq] at e
    obtain ⟨rfl, rfl⟩ := e
    have hx : xs = [] := by
      have := R.key
      simp only [topKeys, Option.some.injEq] at this
      cases xs with
      | nil => rfl
      | cons _ _ => simp at this
    subst hx
    have es : storedH ([] : List (NestedKey × Addr × Value)) k b r = [(k, b, r)] := rfl
    rw [es]
    refine ⟨⟨by simp [topKeys, hk], ?_, [v], .cons hr .nil, ?_⟩, Nat.le_refl _⟩
    · simp only [List.map_cons, List.map_nil, Rps]; exact ⟨_, _, rfl, hd, rfl⟩
    · simp only [Rps]; exact ⟨_, _, rfl, hw, rfl⟩
  | e0 :: ks, w0 :: us, ks', us', xs, R, nd, e => by
    have hkk := R.key
    simp only [topKeys] at hkk
    cases e1 : topKey e0 with
    | none => rw [e1] at hkk; cases hkk
    | some k0 =>
      rw [e1] at hkk
      simp only [Option.bind_some] at hkk
      cases e2 : topKeys ks with
      | none => rw [e2] at hkk; cases hkk
      | some kr =>
        rw [e2] at hkk
        cases xs with
        | nil => simp at hkk
        | cons y ys =>
          simp only [Option.map_some, Option.some.injEq, List.map_cons, List.cons.injEq] at hkk
          obtain ⟨rfl, rfl⟩ := hkk
          have rk := R.rk
          obtain ⟨ws, rv1, rv2⟩ := R.rv
          simp only [List.map_cons, Rps] at rk
          obtain ⟨v1, r1, er, rk1, rk2⟩ := rk
          cases er
          simp only [Rps] at rv2
          obtain ⟨v2, r2, rfl, rv3, rv4⟩ := rv2
          cases rv1 with
          | cons q1 q2 =>
            rw [storedH_cons nd]
            simp only [dput, e1, Option.bind_some] at e
            by_cases hc : y.1 = k
            · rw [if_pos hc] at e ⊢
              cases e
              refine ⟨⟨by simp [topKeys, e1, e2], ?_, v :: r2, .cons hr q2, ?_⟩, by simp⟩
              · simp only [List.map_cons, Rps]; exact ⟨_, _, rfl, rk1, rk2⟩
              · simp only [Rps]; exact ⟨_, _, rfl, hw, rv4⟩
            · rw [if_neg hc] at e ⊢
              cases e3 : dput ks us k d w with
              | none => rw [e3] at e; cases e
              | some p =>
                obtain ⟨p1, p2⟩ := p
                rw [e3] at e
                cases e
                have nd2 : (ys.map (·.1)).Nodup := by
                  simp only [List.map_cons, List.nodup_cons] at nd; exact nd.2
                obtain ⟨R2, l2⟩ := dput_rel hk hd hw hr ⟨e2, rk2, r2, q2, rv4⟩ nd2 e3
                obtain ⟨ws2, s1, s2⟩ := R2.rv
                refine ⟨⟨by simp [topKeys, e1, R2.key], ?_, v2 :: ws2, .cons q1 s1, ?_⟩, by simp only [List.length_cons]; omega⟩
                · simp only [List.map_cons, Rps]; exact ⟨_, _, rfl, rk1, R2.rk⟩
                · simp only [Rps]; exact ⟨_, _, rfl, rv3, s2⟩
  | [], _ :: _, _, _, _, _, _, e => by simp [dput] at e
  | _ :: _, [], _, _, _, _, _, e => by simp [dput] at e
end
end Ss
/-! Ss, part Y: dicts, as rules. -/
namespace Ss
open PySem PySem.Spec PyProof.Rows L2
section
variable {g : Gd} {X : Cx} {W : WX} {sc : Scope} {fb : Str → Bool} {N : List Str} {L : Nat} {B : Bs}
/-- list(x.keys()), x a dict of the frame's own -/
theorem se_dkl (G : Gud g X W sc fb N L) {i : Nat} {x : Str} {p p2 ap cp pos : Pos} (h : nmB sc N i x = true) (hg : glB sc "list" = true) (hl : (ap.endLine == cp.line) = true) :
    PE X (.Call (.Name "list" p) [.Call (.Attribute (.Name x p2) "keys" ap) [] [] cp] [] pos) (tI g B W .new fun ρ => lft ((getK ρ i).map fun p => D.lst p.1)) := by
  obtain rfl := G.gd
  obtain ⟨g1, g2⟩ := G.gl hg
  obtain ⟨h1, h2, h3, h4⟩ := G.vis h
  refine pe_wk (pe_callTy (call_list_keysX G.calm) g1 (G.bn (by decide +kernel)) (by decide +kernel) (pa_cons (pe_keysX (pe_var h1 h2 h3 h4) rfl hl) pa_nil rfl) (by decide +kernel) g2 rfl rfl) fun σ H Q q => ?_
  obtain ⟨ρ, F, T, n, R, q⟩ := q
  obtain ⟨z, e, _, k⟩ := q.lft R.tw
  cases eg : getK ρ i with
  | none => rw [eg] at e; cases e
  | some pr =>
    obtain ⟨ks, us⟩ := pr
    rw [eg] at e
    cases e
    obtain ⟨er, a, xs, e1, e2, e3, e4, _, e5, ok, e6, e7, _⟩ := R.ock eg
    refine ⟨_, e1, a, xs, rfl, e2, ok.sys, fun q hq => ?_⟩
    have hne : q ≠ a := fun z => by rw [z, e2] at hq; cases hq
    refine ⟨q, a, xs, rfl, upd_same, by rw [upd_ne (Ne.symm hne)]; exact e2, ok.len, fun l hl => ?_⟩
    have hlq : l ≠ q := fun z => by rw [z, upd_same] at hl; cases hl
    have hl0 : H l = none := by rw [upd_ne hlq] at hl; exact hl
    have fp : ¬ F l := fun f => by
      obtain ⟨o, q⟩ := R.dm l f
      rw [hl0] at q; cases q
    have t1 : Tw (gdOf X) T (upd H q (VX q a)) F n := R.tw.alloc hq
    have ev : Ev T H F (upd (upd H q (VX q a)) l (.lst (xs.map fun x => V.ref x.2.1))) F := (Ev.alloc hq).trans t1 (Ev.alloc hl)
    have kk : Kp H F (upd (upd H q (VX q a)) l (.lst (xs.map fun x => V.ref x.2.1))) F := (Kp.alloc hq fun _ f => f).trans (Kp.alloc hl fun _ f => f)
    exact k _ F ev (t1.alloc hl) _ ⟨l, _, ks, rfl, rfl, hl0, upd_same, fp, R.tw.notIn hl0, by rw [List.length_map]; exact ok.len, Rps.kp kk (fun _ z => z) _ _ e7⟩
end
end Ss
/-! Ss, part P: xs[::-1] of a tuple. -/
namespace Ss
open PySem PySem.Spec PyProof.Rows L2
section
variable {prog : Program} {w : World} {A : Around} {E : Value → Shared → Prop} {s : Shared}
theorem fm_map {α β : Type} {f : α → Option β} {g : α → β} : ∀ {xs : List α}, (∀ x ∈ xs, f x = some (g x)) → xs.filterMap f = xs.map g
  | [], _ => rfl
  | x :: xs, h => by
    rw [List.filterMap_cons, h x List.mem_cons_self, List.map_cons]
    exact congrArg _ (fm_map fun y hy => h y (List.mem_cons_of_mem _ hy))
theorem pick_rev (xs : Array Value) : ((List.range xs.size).filterMap fun (m : Nat) => xs[(((xs.size : Int) - 1) + (m : Int) * (-1)).toNat]?).toArray = xs.toList.reverse.toArray := by
  congr 1
  apply List.ext_getElem?
  intro i
  have e : ((List.range xs.size).filterMap fun (m : Nat) => xs[(((xs.size : Int) - 1) + (m : Int) * (-1)).toNat]?) = (List.range xs.size).map fun m => xs.toList.getD (xs.size - 1 - m) .none := by
    refine fm_map fun m hm => ?_
    have hm := List.mem_range.mp hm
    have : (((xs.size : Int) - 1) + (m : Int) * (-1)).toNat = xs.size - 1 - m := by omega
    rw [this]
    have lt : xs.size - 1 - m < xs.size := by omega
    simp [lt]
  rw [e]
  by_cases h : i < xs.size
  · rw [List.getElem?_map, List.getElem?_range h, List.getElem?_reverse (by simpa using h)]
    have lt : xs.size - 1 - i < xs.size := by omega
    simp [lt]
  · rw [List.getElem?_eq_none (by simp; omega), List.getElem?_eq_none (by simp; omega)]
theorem getItem_tuple_rev {t sl : Addr} {items : Array Value} {u : Tok} {Q : Value → Shared → Prop} (ht : IsTup s.heap t items) (hs : s.heap.IsSliceOf sl .none .none (.int (-1) u))
    (h : Q (.ref s.heap.objs.size) { s with heap := s.heap.push { cls := .type "tuple", data := .seq items.toList.reverse.toArray } })
    (hsz : items.size ≤ sizeLine) : wpAny (model prog w) A (getItem (.ref t) (.ref sl)) Q E s := by
  have htake : sizeOk (.seq items.toList.reverse.toArray) := by
    show items.toList.reverse.toArray.size ≤ sizeLine
    rw [List.size_toArray, List.length_reverse, Array.length_toList]
    exact hsz
  obtain ⟨os, hos, hcs, hds⟩ := id hs
  have hTs : s.TypeIs (.ref sl) "slice" := ⟨os, hos, hcs⟩
  unfold getItem
  try with_reducible refine wpAny_holding ?_
  first | refine wpAny_bind (wpAny_pure ?_) | skip
  refine wpAny_bind (wpAny_sequenceKey ht.typeIs (by decide) ?_)
  refine wpAny_bind (wpAny_callSpecial?_slot (name := Str.ofString "__getitem__") ht.typeIs PyProof.Rows.slot_tuple_getitem
    (wpAny_call_entry PyProof.Rows.slot_tuple_getitem ht.typeIs entry_tuple_getitem ?_ (args_tuple_getitem _ _)))
  show wpAny _ _ (Builtin.Tuple.tupleItemsOf (.ref t) >>= _) _ _ s
  refine wpAny_bind (tupleItemsOf_ ht ?_)
  refine wpAny_bind (wpAny_typeOf hTs ?_)
  rw [if_pos (by decide)]
  have sa : ∀ {Q : Int × Int × Nat → Shared → Prop} {E : Value → Shared → Prop} {A : Around}, Q ((items.size : Int) - 1, -1, items.size) s → wpAny (model prog w) A (Builtin.Slice.sliceApplied (.ref sl) (pure (items.size : Int))) Q E s := by
    intro Q E A h
    unfold Builtin.Slice.sliceApplied Builtin.Slice.sliceFields
    refine wpAny_bind (wpAny_bind (wpAny_field hos hds (x := .none) rfl (wpAny_bind (wpAny_field hos hds (x := .none) rfl (wpAny_bind (wpAny_field hos hds (x := .int (-1) u) rfl (wpAny_pure ?_)))))))
    refine wpAny_bind (slicePart_int ?_)
    show wpAny _ _ (if ((-1 : Int) == 0) = true then _ else _) _ _ s
    rw [if_neg (by decide)]
    refine wpAny_bind (slicePart_none (wpAny_bind (slicePart_none (wpAny_bind (wpAny_pure ?_)))))
    show wpAny _ _ (pure ((items.size : Int) - 1, (-1 : Int), Builtin.Slice.slicePlaces ((items.size : Int) - 1) (-1) (-1))) _ _ s
    have e : Builtin.Slice.slicePlaces ((items.size : Int) - 1) (-1) (-1) = items.size := by
      unfold Builtin.Slice.slicePlaces
      rw [if_neg (by decide)]
      split
      · have : -(-1 : Int) = 1 := rfl
        rw [this, Int.ediv_one]; omega
      · show (0 : Int).toNat = _
        omega
    rw [e]
    exact wpAny_pure h
  refine wpAny_bind (sa ?_)
  have hno : ¬ ((((items.size : Int) - 1) == 0 && (-1 : Int) == 1 && items.size == items.size) = true) := by
    intro q
    rw [Bool.and_eq_true, Bool.and_eq_true] at q
    exact absurd q.1.2 (by decide)
  show wpAny _ _ (if (((items.size : Int) - 1) == 0 && (-1 : Int) == 1 && items.size == items.size) = true then _ else _) _ _ s
  rw [if_neg hno, pick_rev]
  first
    | exact wpAny_bind (m := Builtin.Tuple.tupleExact _) (wpAny_newObj_type (wpAny_pure ⟨_, rfl, wpAny_pure h⟩) htake)
    | exact wpAny_bind (m := Builtin.Tuple.tupleExact _) (wpAny_newObj_type (wpAny_bind (wpAny_pure (wpAny_pure ⟨_, rfl, wpAny_pure h⟩))) htake)
    | exact wpAny_bind (wpAny_bind (m := Builtin.Tuple.tupleExact _) (wpAny_newObj_type (wpAny_pure (wpAny_pure ⟨_, rfl, wpAny_pure h⟩)) htake))
    | exact wpAny_bind (wpAny_bind (m := Builtin.Tuple.tupleExact _) (wpAny_newObj_type (wpAny_pure ⟨_, rfl, wpAny_pure h⟩) htake))
end
section
variable {X : Cx}
def tRevT (K : PySem.W.Frag) (te : TE) : TE := fun σ H Q => te σ H fun x H1 => ∃ a xs, x = .ref a ∧ SqT K H1 a xs ∧ ∀ p, H1 p = none → Q (.ref p) (upd H1 p (.tup xs.reverse))
theorem pe_revT {e : Expr} {te : TE} {k : Nat} {p1 p2 p3 pos : Pos} (he : PE X e te) : PE X (.Subscript e (.Slice none none (some (.UnaryOp .USub (.Constant (.int 1) k p1) p2)) p3) pos) (tRevT X.K te) := by
  refine ⟨fun pins s σ H Q I h => ?_⟩
  refine Subscript_ (thn (he.run pins s σ H _ I h) fun v s1 ⟨x, H1, I1, r1, q1⟩ => ?_)
  obtain ⟨a, xs, ex, hx, q⟩ := q1
  subst ex
  cases r1
  have hst : PO X (some (.UnaryOp .USub (.Constant (.int 1) k p1) p2)) (tPart (tUn (rU fun i => .int (-i)) (tC (.int 1)))) := po_some (pe_un un_neg pe_int)
  refine wpAny_Slice (thn (po_none.run pins s1 σ H1 (fun o H2 => o = none ∧ H2 = H1) I1 ⟨rfl, rfl⟩) fun vl s2 ⟨l, H2, I2, pl, el, e2⟩ => ?_)
  subst el e2
  refine thn (po_none.run pins s2 σ H2 (fun o H3 => o = none ∧ H3 = H2) I2 ⟨rfl, rfl⟩) fun vu s3 ⟨u, H3, I3, pu, eu, e3⟩ => ?_
  subst eu e3
  refine thn (hst.run pins s3 σ H3 (fun o H4 => o = some (-1) ∧ H4 = H3) I3 ⟨1, rfl, -1, rfl, rfl, rfl⟩) fun vs s4 ⟨o, H4, I4, ps, eo, e4⟩ => ?_
  subst eo e4
  cases pl
  cases pu
  obtain ⟨tk, rfl⟩ : ∃ tk, vs = .int (-1) tk := by cases ps; exact ⟨_, rfl⟩
  have I5 : L2.Inv X pins σ H4 { s4 with heap := s4.heap.push { cls := .type "slice", data := .fields #[.none, .none, .int (-1) tk] } } := I4.kept (t' := s4.toks) fun b ob q => Heap.get?_push_of_some _ q
  obtain ⟨its, r, ht, hz⟩ := I5.tuple hx
  have hlen := r.length
  show wpAny (model X.prog X.w) X.A (subscriptTail e (.Slice none none (some (.UnaryOp .USub (.Constant (.int 1) k p1) p2)) p3) (.ref a) (.ref s4.heap.objs.size)) (EP X pins σ Q) X.xe { s4 with heap := s4.heap.push { cls := .type "slice", data := .fields #[.none, .none, .int (-1) tk] } }
  refine tail_any (ops := [.ref a, .ref s4.heap.objs.size]) ht.typeIs (PyProof.Rows.slot_tuple_getitem.lookup) ?_ (by with_unfolding_all rfl)
  refine getItem_tuple_rev ht (Heap.IsSliceOf.new _ .none .none (.int (-1) tk)) ?_ (by rw [List.size_toArray]; omega)
  refine ⟨.ref _, _, I5.laid (t' := s4.toks) (o := .tup xs.reverse) (fun b ob q => Heap.get?_push_of_some _ q) (Nat.le_refl _) ?_, rfl, q _ (I5.hok.fresh (Nat.le_refl _))⟩
  exact ⟨by rw [List.length_reverse]; exact hz, _, r.reverse, IsTup.new _ _⟩
end
end Ss
/-! Ss, part W: -x, xs[::-1], a display of texts with one value taken, x[k] of an own dict. -/
namespace Ss
open PySem PySem.Spec PyProof.Rows L2
section
variable {g : Gd} {X : Cx} {W : WX} {sc : Scope} {fb : Str → Bool} {N : List Str} {L : Nat} {B : Bs}
theorem se_neg (G : Gud g X W sc fb N L) {a : Expr} {fa : Ss.Env → M D} {pos : Pos} (ha : PE X a (tI g B W .shal fa)) :
    PE X (.UnaryOp .USub a pos) (tI g B W .full fun ρ => bnd (fa ρ) fun x => lft (negD x)) := by
  obtain rfl := G.gd
  refine pe_wk (pe_un un_neg ha) fun σ H Q q => ?_
  obtain ⟨ρ, F, T, n, R, q⟩ := q
  refine ⟨ρ, F, T, n, R, q.bnd.mono fun d n1 H1 F1 e1 t1 q1 v p1 => ?_⟩
  obtain ⟨z, ez, k, _⟩ := q1.lft t1
  cases d <;> simp only [negD, reduceCtorEq] at ez
  rename_i i
  cases ez
  exact ⟨i, RpS.int p1, k _ (pf rp_int)⟩
theorem Rps.rev {H : Hp} {F : FS} {T : Option Addr} : ∀ {ds : List D} {vs : List V}, Rps g H F T ds vs → Rps g H F T ds.reverse vs.reverse
  | [], vs, h => by simp only [Rps] at h; subst h; exact .nil
  | d :: ds, vs, h => by
    simp only [Rps] at h
    obtain ⟨v, r, rfl, h1, h2⟩ := h
    rw [List.reverse_cons, List.reverse_cons]
    exact h2.rev.app (.one h1)
theorem se_rev (G : Gud g X W sc fb N L) {a : Expr} {fa : Ss.Env → M D} {k : Nat} {p1 p2 p3 pos : Pos} (ha : PE X a (tI g B W .shal fa)) :
    PE X (.Subscript a (.Slice none none (some (.UnaryOp .USub (.Constant (.int 1) k p1) p2)) p3) pos) (tI g B W .new fun ρ => bnd (fa ρ) fun x => lft (revD x)) := by
  obtain rfl := G.gd
  refine pe_wk (pe_revL ha) fun σ H Q q => ?_
  obtain ⟨ρ, F, T, n, R, q⟩ := q
  refine ⟨ρ, F, T, n, R, q.bnd.mono fun d n1 H1 F1 e1 t1 q1 v p1 => ?_⟩
  have R1 := R.step e1 t1
  obtain ⟨z, ez, _, k⟩ := q1.lft t1
  cases d <;> simp only [revD, reduceCtorEq] at ez
  rename_i xs
  cases ez
  obtain ⟨a, vs, rfl, h1, h3, h2⟩ := RpS.lst p1
  exact ⟨a, vs, rfl, SqL.of h1, fun p hp => k _ F1 (Ev.alloc hp) (t1.alloc hp) _ (newPost R1.tw R1.dm hp H (none_back e1 t1 hp) (by rw [List.length_reverse]; exact h3) h2.rev)⟩
theorem se_revt (G : Gud g X W sc fb N L) {a : Expr} {fa : Ss.Env → M D} {k : Nat} {p1 p2 p3 pos : Pos} (ha : PE X a (tI g B W .shal fa)) :
    PE X (.Subscript a (.Slice none none (some (.UnaryOp .USub (.Constant (.int 1) k p1) p2)) p3) pos) (tI g B W .full fun ρ => bnd (fa ρ) fun x => lft (revT x)) := by
  obtain rfl := G.gd
  refine pe_wk (pe_revT ha) fun σ H Q q => ?_
  obtain ⟨ρ, F, T, n, R, q⟩ := q
  refine ⟨ρ, F, T, n, R, q.bnd.mono fun d n1 H1 F1 e1 t1 q1 v p1 => ?_⟩
  have R1 := R.step e1 t1
  obtain ⟨z, ez, _, k⟩ := q1.lft t1
  cases d <;> simp only [revT, reduceCtorEq] at ez
  rename_i xs
  cases ez
  obtain ⟨a, vs, rfl, h1, h3, h2⟩ := RpS.tup p1
  refine ⟨a, vs, rfl, h1, fun p hp => k _ F1 (Ev.alloc hp) (t1.alloc hp) _ ?_⟩
  have kk : Kp H1 F1 (upd H1 p (.tup vs.reverse)) F1 := Kp.alloc hp fun _ f => f
  exact rp_tup (SqT.of upd_same) (by rw [List.length_reverse]; exact h3) (Rps.kp kk (fun _ z => z) _ _ h2.rev)
/-! ### a display of texts -/
def dKeys (ks : List Str) (es : List (Option Expr)) : Bool := match ks, es with
  | [], [] => true
  | k :: ks, some (.Constant (.str x) _ _) :: es => decide (k = x) && dKeys ks es
  | _, _ => false
def tKs (ks : List Str) (ts : List TE) : List (TE × TE) := (ks.zip ts).map fun p => (tC (.str p.1), p.2)
def valP : List Str → List V → List (Key × V)
  | k :: ks, v :: vs => (.inr k, v) :: valP ks vs
  | _, _ => []
theorem merge_nodup : ∀ (more kvs : List (Key × V)), ((kvs ++ more).map (·.1)).Nodup → mergeK kvs more = kvs ++ more
  | [], kvs, _ => by simp [mergeK]
  | p :: more, kvs, h => by
    have hn : (kvs.any fun kv => decide (kv.1 = p.1)) = false := by
      rw [List.any_eq_false]
      intro kv hkv e
      have e := of_decide_eq_true e
      rw [List.map_append, List.map_cons] at h
      have := (List.nodup_append.mp h).2.2 kv.1 (List.mem_map.mpr ⟨kv, hkv, rfl⟩) p.1 List.mem_cons_self
      exact this e
    have e1 : putK kvs p.1 p.2 = kvs ++ [p] := by
      unfold putK
      rw [hn]; rfl
    have := merge_nodup more (kvs ++ [p]) (by rw [List.append_assoc]; exact h)
    unfold mergeK at this ⊢
    rw [List.foldl_cons, e1, this, List.append_assoc]; rfl
theorem valP_keys : ∀ {ks : List Str} {vs : List V}, ks.length = vs.length → (valP ks vs).map (·.1) = ks.map Sum.inr
  | [], [], _ => rfl
  | [], _ :: _, h => by simp at h
  | _ :: _, [], h => by simp at h
  | k :: ks, v :: vs, h => by simp only [valP, List.map_cons, valP_keys (ks := ks) (vs := vs) (by simpa using h)]
theorem valP_len : ∀ {ks : List Str} {vs : List V}, ks.length = vs.length → (valP ks vs).length = ks.length
  | [], [], _ => rfl
  | [], _ :: _, h => by simp at h
  | _ :: _, [], h => by simp at h
  | k :: ks, v :: vs, h => by simp only [valP, List.length_cons, valP_len (ks := ks) (vs := vs) (by simpa using h)]
theorem sel_val {H : Hp} {F : FS} {T : Option Addr} {x : Str} {z : D} : ∀ {ks : List Str} {ds : List D} {vs : List V}, Rps g H F T ds vs → selD ks ds (.str x) = some z → ∃ v, valV (valP ks vs) (.inr x) = some v ∧ Rp g H F T z v
  | [], ds, vs, _, e => by simp [selD] at e
  | k :: ks, [], vs, _, e => by simp [selD] at e
  | k :: ks, d :: ds, vs, h, e => by
    simp only [Rps] at h
    obtain ⟨v, r, rfl, h1, h2⟩ := h
    simp only [selD] at e
    by_cases q : k = x
    · rw [if_pos q] at e
      cases e
      exact ⟨v, valV_pos (by rw [q]), h1⟩
    · rw [if_neg q] at e
      obtain ⟨u, e1, e2⟩ := sel_val (ks := ks) h2 e
      exact ⟨u, by
        show valV ((Sum.inr k, v) :: valP ks r) (.inr x) = _
        rw [valV_neg (by intro z; cases z; exact q rfl)]; exact e1, e2⟩
/-- the values, one behind the other, with their texts ahead -/
inductive PVs (X : Cx) (g : Gd) (B : Bs) (W : WX) : List Expr → List (Ss.Env → M D) → Prop where
  | nil : PVs X g B W [] []
  | cons {e : Expr} {es : List Expr} {f : Ss.Env → M D} {fs : List (Ss.Env → M D)} : PE X e (tI g B W .full f) → PVs X g B W es fs → PVs X g B W (e :: es) (f :: fs)
def evL (ρ : Ss.Env) : List (Ss.Env → M D) → M (List D)
  | [] => ret []
  | f :: fs => bnd (f ρ) fun d => bnd (evL ρ fs) fun ds => ret (d :: ds)
theorem pps_of {pos : Pos} : ∀ {ks : List Str} {kes : List (Option Expr)} {es : List Expr} {fs : List (Ss.Env → M D)}, dKeys ks kes = true → PVs X g B W es fs → ks.length = es.length → PPs X pos kes es (tKs ks (fs.map fun f => tI g B W .full f))
  | [], [], [], fs, _, h, _ => by cases h; exact pps_nil
  | [], [], _ :: _, _, _, _, l => by simp at l
  | [], _ :: _, _, _, k, _, _ => by simp [dKeys] at k
  | _ :: _, [], _, _, k, _, _ => by simp [dKeys] at k
  | k :: ks, none :: kes, _, _, hk, _, _ => by simp [dKeys] at hk
  | k :: ks, some ke :: kes, es, fs, hk, h, l => by
    cases ke with
    | Constant c j p =>
      cases c with
      | str x =>
        simp only [dKeys, Bool.and_eq_true] at hk
        obtain ⟨h1, h2⟩ := hk
        have h1 := of_decide_eq_true h1
        subst h1
        cases h with
        | nil => simp at l
        | cons he hr => exact pps_cons pe_str he (pps_of h2 hr (by simpa using l))
      | _ => simp [dKeys] at hk
    | _ => simp [dKeys] at hk
theorem pairs_read {σ : L2.St} {ρ : Ss.Env} {T : Option Addr} : ∀ {ks : List Str} {es : List Expr} {fs : List (Ss.Env → M D)} {H : Hp} {F : FS} {n : S} {K : List D → S → Hp → FS → Prop} {Q : List (V × V) → Hp → Prop}, ks.length = fs.length → Rel g B ρ σ H F T n → Fin g W σ T H F (evL ρ fs n) K →
    (∀ ds n' H' F', Ev T H F H' F' → Tw g T H' F' n' → K ds n' H' F' → ∀ vs, Rps g H' F' T ds vs → vs.length = ks.length → Q ((valP ks vs).map fun kv => (kV kv.1, kv.2)) H') → tPairs (tKs ks (fs.map fun f => tI g B W .full f)) σ H Q
  | [], _, [], H, F, n, K, Q, _, R, q, k => by
    have q := q H F Ev.refl R.tw
    exact k [] n H F Ev.refl R.tw q [] .nil rfl
  | [], _, _ :: _, _, _, _, _, _, l, _, _, _ => by simp at l
  | _ :: _, _, [], _, _, _, _, _, l, _, _, _ => by simp at l
  | x :: ks, es, f :: fs, H, F, n, K, Q, l, R, q, k => by
    show (tC (.str x)) σ H _
    refine ⟨ρ, F, T, n, R, (Fin.bnd q).mono fun d n1 H1 F1 e1 t1 q1 v p1 => ?_⟩
    have R1 := R.step e1 t1
    refine pairs_read (es := es) (by simpa using l) R1 (Fin.bnd q1) fun ds n2 H2 F2 e2 t2 q2 vs p2 hl => ?_
    have := q2 H2 F2 Ev.refl t2
    exact k (d :: ds) n2 H2 F2 (e1.trans t1 e2) t2 this (v :: vs) (Rps.cons (R1.rp e2 p1) p2) (by simp [hl])
theorem Fin.all {α : Type} {σ : L2.St} {T : Option Addr} {H : Hp} {F : FS} {r : Res α} {K : α → S → Hp → FS → Prop} (h : Fin g W σ T H F r K) : Fin g W σ T H F r fun a n' _ _ => ∀ H' F', Ev T H F H' F' → Tw g T H' F' n' → K a n' H' F' := by
  cases r with
  | ok a n' => exact fun _ _ _ _ => h
  | exc c n' => exact h
  | bad => exact h
theorem Ev.writeN {T : Option Addr} {H H' : Hp} {F F' : FS} {p : Addr} {o : HO} (e : Ev T H F H' F') (h : H p = none) : Ev T H F (upd H' p o) F' :=
  ⟨fun a u q z m => by rw [upd_ne (fun e => by rw [e, h] at q; cases q)]; exact e.same a u q z m, e.sub, e.new, fun d => dom_upd (e.dom d), e.obs⟩
theorem dKeys_len : ∀ {ks : List Str} {es : List (Option Expr)}, dKeys ks es = true → es.length = ks.length ∧ es.all (·.isSome) = true
  | [], [], _ => ⟨rfl, rfl⟩
  | [], _ :: _, h => by simp [dKeys] at h
  | _ :: _, [], h => by simp [dKeys] at h
  | k :: ks, none :: es, h => by simp [dKeys] at h
  | k :: ks, some e :: es, h => by
    cases e with
    | Constant c j p =>
      cases c with
      | str x =>
        simp only [dKeys, Bool.and_eq_true] at h
        obtain ⟨h1, h2⟩ := dKeys_len h.2
        exact ⟨by simp [h1], by simpa using h2⟩
      | _ => simp [dKeys] at h
    | _ => simp [dKeys] at h
theorem se_dsel (G : Gud g X W sc fb N L) {ks : List Str} {kes : List (Option Expr)} {es : List Expr} {b : Expr} {fs : List (Ss.Env → M D)} {fb : Ss.Env → M D} {p pos : Pos} (hk : dKeys ks kes = true) (hs : PVs X g B W es fs) (hl : ks.length = es.length) (hlf : ks.length = fs.length) (h0 : ks ≠ []) (h15 : ks.length ≤ 15) (nd : ks.Nodup) (hb : PE X b (tI g B W .shal fb)) (hx : ixB b = true) :
    PE X (.Subscript (.Dict kes es p) b pos) (tI g B W .full fun ρ => bnd (evL ρ fs) fun ds => bnd (fb ρ) fun x => lft (selD ks ds x)) := by
  obtain rfl := G.gd
  obtain ⟨kl, ka⟩ := dKeys_len hk
  have hu : X.A.units + 1 < cLine := by have := G.units; omega
  have hns : NoSl b := by cases b <;> first | exact fun _ _ => rfl | (simp only [ixB, Bool.false_eq_true] at hx)
  refine pe_wk (pe_dget hu (pe_disp (pps_of hk hs hl) ka (by omega) (by intro z; rw [z] at kl; simp at kl; exact h0 (List.length_eq_zero_iff.mp kl.symm)) (by omega)) hb hns) fun σ H Q q => ?_
  obtain ⟨ρ, F, T, n, R, q⟩ := q
  intro p hp
  have R0 := R.step (Ev.alloc (o := .dK []) hp) (R.tw.alloc hp)
  refine pairs_read (es := es) hlf R0 ((Fin.all (Fin.bnd q)).later (Ev.alloc hp) (R.tw.alloc hp)) fun ds n1 H1 F1 e1 t1 q1 vs p1 hvl => ?_
  have tp : T ≠ some p := fun z => by rw [R.tw.tn p z] at hp; cases hp
  have po : p ∉ F.ob := R.tw.notIn hp
  have hp1 : H1 p = some (.dK []) := e1.same p _ upd_same tp fun z => absurd z po
  have lv : ks.length = vs.length := hvl.symm
  have nk : ((valP ks vs).map (·.1)).Nodup := by
    rw [valP_keys lv]
    exact List.Pairwise.map _ (fun a b hab e => hab (by cases e; rfl)) nd
  refine ⟨hp1, valP ks vs, rfl, by rw [valP_len lv]; exact h15, ?_⟩
  rw [merge_nodup (valP ks vs) [] (by simpa using nk), List.nil_append]
  have ea : Ev T H F (upd H1 p (.dK (valP ks vs))) F1 := ((Ev.alloc hp).trans (R.tw.alloc hp) e1).writeN hp
  have R1 := R0.step e1 t1
  have np : ¬ F1 p := fun f => by
    rcases e1.new p f with z | z | z
    · obtain ⟨o, w⟩ := R.dm p z
      rw [hp] at w; cases w
    · rw [upd_same] at z; cases z
    · exact po z
  have kk : Kp H1 F1 (upd H1 p (.dK (valP ks vs))) F1 := Kp.writeX (fun xs z => by rw [hp1] at z; cases z) (fun o u z => by rw [hp1] at z; cases z) np
  have po1 : p ∉ F1.ob := e1.nob upd_same po
  have t2 : Tw (gdOf X) T (upd H1 p (.dK (valP ks vs))) F1 n1 := t1.set tp po1 kk
  have R2 := R.step ea t2
  have p2 : Rps (gdOf X) (upd H1 p (.dK (valP ks vs))) F1 T ds vs := Rps.kp kk (fun _ z => z) _ _ p1
  refine ⟨ρ, F1, T, n1, R2, (Fin.bnd (q1 _ _ ea t2)).mono fun x n2 H2 F2 e2 t3 q2 v pv => ?_⟩
  obtain ⟨z, ez, k, _⟩ := q2.lft t3
  have hp2 : H2 p = some (.dK (valP ks vs)) := e2.same p _ upd_same tp fun z => absurd z po1
  have p3 := R2.rps e2 p2
  cases x with
  | str x =>
    obtain ⟨w, e3, e4⟩ := sel_val p3 ez
    refine ⟨p, w, rfl, ?_, k w (pf e4)⟩
    rw [RpS.str pv]
    have d := DGet.k (k := (Sum.inr x : Key)) hp2
    rw [e3] at d
    exact d
  | _ =>
    exfalso
    cases ks with
    | nil => exact h0 rfl
    | cons k ks => cases ds <;> simp [selD] at ez
theorem dget_val {H : Hp} {F : FS} {T : Option Addr} {kk : NestedKey} {z : D} : ∀ {ks us : List D} {xs : List (NestedKey × Addr × Value)} {ws : List V}, topKeys ks = some (xs.map (·.1)) → Vals ws (xs.map (·.2.2)) → Rps g H F T us ws → dget ks us kk = some z → ∃ p, atKey xs kk = some p ∧ ∃ v, RelV v p.2 ∧ Rp g H F T z v
  | [], us, xs, ws, h1, h2, h3, e => by simp [dget] at e
  | d :: ks, [], xs, ws, h1, h2, h3, e => by simp [dget] at e
  | d :: ks, u :: us, xs, ws, h1, h2, h3, e => by
    simp only [topKeys] at h1
    cases e1 : topKey d with
    | none => rw [e1] at h1; cases h1
    | some k0 =>
      rw [e1] at h1
      simp only [Option.bind_some] at h1
      cases e2 : topKeys ks with
      | none => rw [e2] at h1; cases h1
      | some kr =>
        rw [e2] at h1
        simp only [Option.map_some, Option.some.injEq] at h1
        cases xs with
        | nil => cases h1
        | cons x xs =>
          simp only [List.map_cons, List.cons.injEq] at h1
          obtain ⟨h1, h1'⟩ := h1
          subst h1
          simp only [Rps] at h3
          obtain ⟨v, r, rfl, h3, h4⟩ := h3
          simp only [List.map_cons] at h2
          cases h2 with
          | cons r1 r2 =>
            simp only [dget, e1, Option.bind_some] at e
            by_cases q : x.1 = kk
            · rw [if_pos q] at e
              cases e
              exact ⟨x.2, by simp [atKey, q], v, r1, h3⟩
            · rw [if_neg q] at e
              obtain ⟨p, a1, a2⟩ := dget_val (ks := ks) (us := us) (xs := xs) (by rw [e2, h1']) r2 h4 e
              exact ⟨p, by rw [show atKey (x :: xs) kk = atKey xs kk by simp [atKey, q]]; exact a1, a2⟩
/-- x[k], x a dict: its entries are told -/
def tDGX (g : Gd) (td ty : TE) : TE := fun σ H Q => td σ H fun x H1 => ty σ H1 fun y H2 => ∃ (a b : Addr) (kk : NestedKey) (xs : List (NestedKey × Addr × Value)) (F : FS) (T : Option Addr) (d : D) (ks : List D) (p : Addr × Value) (v : V), x = .ref a ∧ y = .ref b ∧ H2 a = some (DX g.P g.w a xs) ∧ DxOk xs a ∧ topKeys ks = some (xs.map (·.1)) ∧ Rps g H2 F T ks (xs.map fun x => V.ref x.2.1) ∧ topKey d = some kk ∧ Rp g H2 F T d (.ref b) ∧ atKey xs kk = some p ∧ RelV v p.2 ∧ Q v H2
theorem pe_dgX (hu : X.A.units + 65 < cLine) {o i : Expr} {td ty : TE} {pos : Pos} (ho : PE X o td) (hi : PE X i ty) (hs : NoSl i) : PE X (.Subscript o i pos) (tDGX (gdOf X) td ty) := by
  refine ⟨fun pins s σ H Q I h => ?_⟩
  refine subD_of PySem.F.slot_dict_getitem.lookup hs (thn (ho.run pins s σ H _ I h) fun u s1 ⟨x, H1, I1, rx, q1⟩ => thn (hi.run pins s1 σ H1 _ I1 q1) fun iv s2 ⟨y, H2, I2, ry, a, b, kk, xs, F, T, d, ks, p, v, ex, ey, e2, ok, tk, rk, td', rd, hp, rv, q2⟩ => ?_)
  subst ex ey
  obtain rfl : u = Value.ref a := rx
  obtain rfl : iv = Value.ref b := ry
  obtain ⟨b', eb, hb⟩ := topKey_is I2 td' rd
  cases eb
  have D' := dx_of I2 e2 ok tk rk
  refine ⟨?_, wpAny_getItem_heap (show X.A.in1.units + 8 < cLine by show X.A.units + 1 + 8 < cLine; omega) hb D' hp ⟨v, H2, I2.kept (t' := _) fun b o e => e, rv, q2⟩⟩
  exact Heap.DictKeyed.typeIs ⟨xs, D', rfl⟩
theorem se_dgi (G : Gud g X W sc fb N L) {i : Nat} {x : Str} {b : Expr} {f : Ss.Env → M D} {p pos : Pos} (h : nmB sc N i x = true) (hb : PE X b (tI g B W .full f)) (hns : NoSl b) :
    PE X (.Subscript (.Name x p) b pos) (tI g B W .full fun ρ => bnd (lft (getK ρ i)) fun p => bnd (f ρ) fun d => lft ((topKey d).bind fun q => dget p.1 p.2 q)) := by
  obtain rfl := G.gd
  obtain ⟨h1, h2, h3, h4⟩ := G.vis h
  refine pe_wk (pe_dgX G.units (pe_var h1 h2 h3 h4) hb hns) fun σ H Q q => ?_
  obtain ⟨ρ, F, T, n, R, q⟩ := q
  obtain ⟨pr, eg, k0, _⟩ := (Fin.bnd q).lft R.tw
  obtain ⟨ks, us⟩ := pr
  obtain ⟨er, a, xs, e1, _⟩ := R.ock eg
  refine ⟨_, e1, ρ, F, T, n, R, (Fin.bnd k0).mono fun d n1 H1 F1 ev t1 q1 v pv => ?_⟩
  have R1 := R.step ev t1
  obtain ⟨er, a', xs, e1', e2, e3, e4, _, e5, ok, e6, e7, ws, e8, e9⟩ := R1.ock eg
  rw [e1] at e1'
  cases e1'
  obtain ⟨z, ez, k, _⟩ := q1.lft t1
  cases et : topKey d with
  | none => rw [et] at ez; cases ez
  | some kk =>
    rw [et] at ez
    have ez : dget ks us kk = some z := ez
    obtain ⟨p, a1, u, ru, rz⟩ := dget_val e6 e8 e9 ez
    have pv : Rp (gdOf X) H1 F1 T d v := pv
    have hb : ∃ b, v = .ref b := by
      cases d <;> simp only [topKey, reduceCtorEq] at et
      simp only [Rp] at pv
      obtain ⟨b, _, e, _⟩ := pv
      exact ⟨b, e⟩
    obtain ⟨b, rfl⟩ := hb
    exact ⟨a, b, kk, xs, F1, T, d, ks, p, u, rfl, rfl, e2, ok, e6, e7, et, pv, a1, ru, k u (pf rz)⟩
end
end Ss
/-! Ss, part S: set(a list of numbers, texts, truths, None): how many unlike ones. -/
namespace Ss
open PySem PySem.Spec PyProof.Rows
/-- met among the first i -/
def met (xs : List Leaf) (i : Nat) (k : Leaf) : Bool := (xs.take i).any fun z => decide (z = k)
theorem met_succ {xs : List Leaf} {i : Nat} (h : i < xs.length) (k : Leaf) : met xs (i + 1) k = (met xs i k || decide (k = xs.getD i .none)) := by
  unfold met
  have e : xs.take (i + 1) = xs.take i ++ [xs[i]] := by
    rw [List.take_add_one, List.getElem?_eq_getElem h]; rfl
  have e2 : xs.getD i Leaf.none = xs[i] := by
    rw [List.getD_eq_getElem?_getD, List.getElem?_eq_getElem h]; rfl
  rw [e, List.any_append, e2]
  congr 1
  simp only [List.any_cons, List.any_nil, Bool.or_false]
  by_cases z : xs[i] = k
  · rw [decide_eq_true z, decide_eq_true z.symm]
  · rw [decide_eq_false z, decide_eq_false fun q => z q.symm]
theorem dcn_le (xs : List Leaf) : ∀ i, dcn xs i ≤ i
  | 0 => Nat.le_refl _
  | i + 1 => by
    have := dcn_le xs i
    simp only [dcn]
    split <;> omega
theorem dcn_succ (xs : List Leaf) (i : Nat) : dcn xs (i + 1) = if met xs i (xs.getD i .none) = true then dcn xs i else dcn xs i + 1 := rfl
section
variable {prog : Program} {w : World} {A : Around} {R : Result → Shared → Prop} {I : Addr} {fp wr : List Addr} {G : Array GenState → Array GenState → Prop} {n : Nat} {P : Nat → Value → Prop} {St : Nat → Shared → Prop}
theorem setLoop (W : WalksS prog w A.in1 I fp wr G n P St) (S : Addr) (out : S ∉ fp) (xs : List Leaf) (hn : xs.length = n) (hb : n + 1 < scanBound)
    (hv : ∀ i v, P i v → Leaf.isOf (xs.getD i .none) v = true ∧ v.scannable = true) : ∀ (k i : Nat) (s : Shared), n - i = k → i ≤ n → St i s → s.heap.SetOf (leafKind prog w) S (met xs i) (dcn xs i) →
      (∀ s', Moved (S :: wr) G s s' → s'.heap.SetOf (leafKind prog w) S (met xs n) (dcn xs n) → R (.ok (.ret .none)) s') → codeAny (model prog w) A (.builtin "set.update.loop" ⟨[.ref S, .ref I], []⟩) R s := by
  have outw : S ∉ wr := fun h => out (W.sub _ h)
  have more : ∀ b ∈ wr, b ∈ S :: wr := fun b hb => List.mem_cons_of_mem _ hb
  have stays : ∀ {s s' : Shared} {p : Leaf → Bool} {m : Nat}, Moved wr G s s' → s.heap.SetOf (leafKind prog w) S p m → s'.heap.SetOf (leafKind prog w) S p m := fun hm hS => by
    obtain ⟨o, es, ep, t, ho, q⟩ := hS
    exact ⟨o, es, ep, t, hm.heap S _ outw ho, q⟩
  intro k
  induction k with
  | zero =>
    intro i s hk hi st hS hR
    obtain rfl : i = n := by omega
    refine codeAny_builtin PyProof.Rows.F.entry_set_update_loop ?_
    rw [Around.under_plainId PyProof.Rows.F.plain_set_update_loop _]
    show wpAny _ A.in1 (pyNext (.ref I) >>= _) _ _ s
    refine wpAny_bind (W.done s _ _ st fun s' hm => ?_)
    show wpAny _ A.in1 (PySem.ret Value.none) _ _ s'
    exact wpAny_pure (hR s' (hm.mono more) (stays hm hS))
  | succ k ih =>
    intro i s hk hi st hS hR
    have lt : i < n := by omega
    refine codeAny_builtin PyProof.Rows.F.entry_set_update_loop ?_
    rw [Around.under_plainId PyProof.Rows.F.plain_set_update_loop _]
    show wpAny _ A.in1 (pyNext (.ref I) >>= _) _ _ s
    refine wpAny_bind (W.item i s _ _ lt st fun v s' hP st' hm => ?_)
    obtain ⟨v1, v2⟩ := hv i v hP
    show wpAny _ A.in1 (holding [v] (setAdd S v) >>= _) _ _ s'
    refine wpAny_bind (wpAny_holding ?_)
    unfold setAdd
    refine wpAny_holding (wpAny_bind ((leafKind prog w).pyHash (k := xs.getD i .none) v1 ?_))
    have hS' := stays hm hS
    have dl := dcn_le xs i
    refine wpAny_setAddHashed_of (knd := leafKind prog w) (s := { s' with toks := s'.toks + 1 }) v1 v2 hS' (by omega) fun h' sb hS2 => ?_
    have hS3 : h'.SetOf (leafKind prog w) S (met xs (i + 1)) (dcn xs (i + 1)) := by
      have e1 : (fun k' => met xs i k' || decide (k' = xs.getD i .none)) = met xs (i + 1) := funext fun k' => (met_succ (by omega) k').symm
      rw [dcn_succ, ← e1]
      exact hS2
    refine wpAny_pure ⟨plainId_quiet PyProof.Rows.F.plain_set_update_loop _, ih (i + 1) _ (by omega) lt (W.frame _ s' _ _ st' (Nat.le_succ _) fun b hb o e => ?_) hS3 fun s2 hm2 hS4 => ?_⟩
    · have ne : b ≠ S := fun z => out (z ▸ hb)
      rw [sb.2 b ne]; exact e
    · refine hR s2 (Moved.trans W.gtrans ((hm.mono more).then_heap (Nat.le_succ _) fun b o hb e => ?_) hm2) hS4
      have ne : b ≠ S := fun z => hb (z ▸ List.mem_cons_self)
      rw [sb.2 b ne]; exact e
end
section
variable {prog : Program} {w : World} {A : Around} {E : Value → Shared → Prop} {s : Shared}
abbrev newSet (led : Bool) : Obj := { cls := .type "set", dict := none, data := .set #[] 0 (.fresh 0 0 led) }
set_option maxHeartbeats 8000000 in
theorem call_setL {l : Addr} {items : Array Value} {xs : List Leaf} {Q : Value → Shared → Prop} (hh : A.handled = none) (hl : s.heap.IsList l items) (hn : xs.length = items.size) (hb : items.size + 1 < scanBound)
    (hv : ∀ (i : Nat) (v : Value), items[i]? = some v → Leaf.isOf (xs.getD i .none) v = true ∧ v.scannable = true)
    (h : ∀ (h' : Heap) (tk : Nat), h'.SetOf (leafKind prog w) s.heap.objs.size (met xs items.size) (dcn xs items.size) → (∀ b o, b < s.heap.objs.size → s.heap.get? b = some o → h'.get? b = some o) → Q (.ref s.heap.objs.size) { s with heap := h', toks := tk }) :
    wpAny (model prog w) A (call (.type "set") [.ref l]) Q E s := by
  obtain ⟨c, tl, hmro⟩ := PySem.F.called_set.mro
  have m1 := PySem.F.called_set.made
  have m2 := PySem.F.called_set.sub
  refine wpAny_call (codeAny_of_tree ?_)
  show wpAny _ _ (callAny (.type "set") _) _ _ _
  refine wpAny_pure ⟨Code.quiet_builtin _ (by decide +kernel), codeAny_builtin PySem.F.entry_type_call ?_⟩
  rw [Around.under_plain (weight_type_call_type "set" [.ref l] []) rfl]
  have m3 := PySem.F.called_set.notType
  have m4 := PySem.F.called_set.canCreate
  have m5 := PySem.F.typeCall_set_1 (.ref l)
  repeat (any_goals (first | assumption | wp_step))
  refine codeAny_mono (code_set_new_1 (.ref l) (E := E) (Q₁ := fun obj s₁ => ∃ led : Bool, obj = .ref s.heap.objs.size ∧ s₁ = { s with heap := s.heap.push (newSet led) }) fun led => ⟨led, rfl, rfl⟩) fun r s₁ hr => ?_
  cases r with
  | error e => exact hr
  | ok fl =>
    cases fl with
    | ret obj =>
      obtain ⟨led, rfl, rfl⟩ := hr
      have new : (s.heap.push (newSet led)).get? s.heap.objs.size = some (newSet led) := Heap.get?_push_size _ rfl
      have ty : Shared.TypeIs { s with heap := s.heap.push (newSet led) } (.ref s.heap.objs.size) "set" := ⟨_, new, rfl⟩
      have i1 := PySem.F.called_set.init.lookup
      have i2 := PySem.F.called_set.init.bind (.ref s.heap.objs.size)
      repeat (any_goals (first | assumption | wp_step))
      refine codeAny_mono (codeAny_call_builtin (R := wants (fun r s₂ => r = .none ∧ ∃ h' tk, s₂ = { s with heap := h', toks := tk } ∧ h'.SetOf (leafKind prog w) s.heap.objs.size (met xs items.size) (dcn xs items.size) ∧
          ∀ b o, b < s.heap.objs.size → s.heap.get? b = some o → h'.get? b = some o) E) PySem.F.called_set.init.plain PySem.F.entry_set_init (check_set_init_1 ty ?_)) fun r₂ s₂ hr₂ => ?_
      · obtain ⟨ol, hol, hcl, nl, hdl⟩ := hl
        obtain ⟨ocls, odict, odata, oslots⟩ := ol
        simp only at hcl hdl
        subst hcl; subst hdl
        have old := Heap.get?_push_of_some (newSet led) hol
        have k1 := PySem.F.sub_list_set
        have k2 := PySem.F.sub_list_frozenset
        have k3 : (Value.type "list" == Value.type "dict") = false := by decide
        have hl1 : (s.heap.push (newSet led)).IsList l items := ⟨_, old, rfl, nl, rfl⟩
        unfold Builtin.«set.__init__» noKeywords Builtin.Frozenset.updateFrom
        generalize hPI : pyIter = PI
        wp_walk
        subst hPI
        refine wpAny_pyIter_list hl1 (wpAny_bind (wpAny_runValue ?_))
        have lt : l < s.heap.objs.size := Heap.lt_size hol
        have hh3 : A.in1.in1.in1.handled = none := by simp [hh]
        have sz : (s.heap.push (newSet led)).objs.size = s.heap.objs.size + 1 := Heap.size_push ..
        have ne1 : l ≠ (s.heap.push (newSet led)).objs.size := by rw [sz]; exact Nat.ne_of_lt (Nat.lt_succ_of_lt lt)
        have ne2 : s.heap.objs.size ∉ [(s.heap.push (newSet led)).objs.size, l] := by
          rw [sz]
          simp only [List.mem_cons, List.not_mem_nil, or_false, not_or]
          exact ⟨Nat.ne_of_lt (Nat.lt_succ_self _), Nat.ne_of_gt lt⟩
        refine setLoop ((Walks.list hh3 _ l ne1 items).toS) s.heap.objs.size ne2 xs hn hb hv (items.size - 0) 0 _ (by omega) (Nat.zero_le _) ⟨⟨_, Heap.get?_push_size _ rfl, rfl, rfl⟩, hl1.push _⟩ ?setA ?setB
        case setA => exact PyProof.Rows.SetOf_congr ((PyProof.Rows.setObjOf_fresh (knd := leafKind prog w) led).setOf (Heap.get?_push_of_some _ new) (by unfold scanBound; omega)) (fun _ => rfl) rfl
        case setB =>
          intro s' hm hS'
          obtain ⟨h', g', d', tk', os'⟩ := s'
          obtain rfl : g' = s.gens := hm.gens
          obtain rfl : d' = s.drawn := hm.drawn
          obtain rfl : os' = s.os := hm.os
          show wpAny _ _ _ _ _ _
          refine wpAny_pure ?_
          show wpAny _ _ (PySem.ret Value.none) _ _ _
          refine wpAny_pure ⟨rfl, h', tk', rfl, hS', fun b o hb e => ?_⟩
          refine hm.heap b o ?_ (Heap.get?_push_of_some _ (Heap.get?_push_of_some _ e))
          simp only [List.mem_cons, List.not_mem_nil, or_false, not_or]
          exact ⟨Nat.ne_of_lt hb, by rw [sz]; exact Nat.ne_of_lt (Nat.lt_succ_of_lt hb)⟩
      · cases r₂ with
        | error e => exact hr₂
        | ok fl₂ =>
          cases fl₂ with
          | ret r =>
            obtain ⟨rfl, h', tk, rfl, hS', hk'⟩ := hr₂
            repeat (any_goals (first | assumption | wp_step))
            exact h _ _ hS' hk'
          | _ => exact hr₂.elim
    | _ => exact hr.elim
end
end Ss
/-! Ss, part R: set(a tuple of numbers, texts, truths, None). -/
namespace Ss
open PySem PySem.Spec PyProof.Rows
section
variable {prog : Program} {w : World} {A : Around} {E : Value → Shared → Prop} {s : Shared}
set_option maxHeartbeats 8000000 in
theorem call_setT {l : Addr} {items : Array Value} {xs : List Leaf} {Q : Value → Shared → Prop} (hh : A.handled = none) (hl : s.heap.IsTuple l items) (hn : xs.length = items.size) (hb : items.size + 1 < scanBound)
    (hv : ∀ (i : Nat) (v : Value), items[i]? = some v → Leaf.isOf (xs.getD i .none) v = true ∧ v.scannable = true)
    (h : ∀ (h' : Heap) (tk : Nat), h'.SetOf (leafKind prog w) s.heap.objs.size (met xs items.size) (dcn xs items.size) → (∀ b o, b < s.heap.objs.size → s.heap.get? b = some o → h'.get? b = some o) → Q (.ref s.heap.objs.size) { s with heap := h', toks := tk }) :
    wpAny (model prog w) A (call (.type "set") [.ref l]) Q E s := by
  obtain ⟨c, tl, hmro⟩ := PySem.F.called_set.mro
  have m1 := PySem.F.called_set.made
  have m2 := PySem.F.called_set.sub
  refine wpAny_call (codeAny_of_tree ?_)
  show wpAny _ _ (callAny (.type "set") _) _ _ _
  refine wpAny_pure ⟨Code.quiet_builtin _ (by decide +kernel), codeAny_builtin PySem.F.entry_type_call ?_⟩
  rw [Around.under_plain (weight_type_call_type "set" [.ref l] []) rfl]
  have m3 := PySem.F.called_set.notType
  have m4 := PySem.F.called_set.canCreate
  have m5 := PySem.F.typeCall_set_1 (.ref l)
  repeat (any_goals (first | assumption | wp_step))
  refine codeAny_mono (code_set_new_1 (.ref l) (E := E) (Q₁ := fun obj s₁ => ∃ led : Bool, obj = .ref s.heap.objs.size ∧ s₁ = { s with heap := s.heap.push (newSet led) }) fun led => ⟨led, rfl, rfl⟩) fun r s₁ hr => ?_
  cases r with
  | error e => exact hr
  | ok fl =>
    cases fl with
    | ret obj =>
      obtain ⟨led, rfl, rfl⟩ := hr
      have new : (s.heap.push (newSet led)).get? s.heap.objs.size = some (newSet led) := Heap.get?_push_size _ rfl
      have ty : Shared.TypeIs { s with heap := s.heap.push (newSet led) } (.ref s.heap.objs.size) "set" := ⟨_, new, rfl⟩
      have i1 := PySem.F.called_set.init.lookup
      have i2 := PySem.F.called_set.init.bind (.ref s.heap.objs.size)
      repeat (any_goals (first | assumption | wp_step))
      refine codeAny_mono (codeAny_call_builtin (R := wants (fun r s₂ => r = .none ∧ ∃ h' tk, s₂ = { s with heap := h', toks := tk } ∧ h'.SetOf (leafKind prog w) s.heap.objs.size (met xs items.size) (dcn xs items.size) ∧
          ∀ b o, b < s.heap.objs.size → s.heap.get? b = some o → h'.get? b = some o) E) PySem.F.called_set.init.plain PySem.F.entry_set_init (check_set_init_1 ty ?_)) fun r₂ s₂ hr₂ => ?_
      · obtain ⟨ol, hol, hcl, nl, hdl⟩ := hl
        obtain ⟨ocls, odict, odata, oslots⟩ := ol
        simp only at hcl hdl
        subst hcl; subst hdl
        have old := Heap.get?_push_of_some (newSet led) hol
        have k1 := PySem.F.sub_tuple_set
        have k2 := PySem.F.sub_tuple_frozenset
        have k3 : (Value.type "tuple" == Value.type "dict") = false := by decide
        have hl1 : (s.heap.push (newSet led)).IsTuple l items := ⟨_, old, rfl, nl, rfl⟩
        unfold Builtin.«set.__init__» noKeywords Builtin.Frozenset.updateFrom
        generalize hPI : pyIter = PI
        wp_walk
        subst hPI
        refine wpAny_pyIter_tuple hl1 (wpAny_bind (wpAny_runValue ?_))
        have lt : l < s.heap.objs.size := Heap.lt_size hol
        have hh3 : A.in1.in1.in1.handled = none := by simp [hh]
        have sz : (s.heap.push (newSet led)).objs.size = s.heap.objs.size + 1 := Heap.size_push ..
        have ne1 : l ≠ (s.heap.push (newSet led)).objs.size := by rw [sz]; exact Nat.ne_of_lt (Nat.lt_succ_of_lt lt)
        have ne2 : s.heap.objs.size ∉ [(s.heap.push (newSet led)).objs.size, l] := by
          rw [sz]
          simp only [List.mem_cons, List.not_mem_nil, or_false, not_or]
          exact ⟨Nat.ne_of_lt (Nat.lt_succ_self _), Nat.ne_of_gt lt⟩
        refine setLoop ((Walks.tuple hh3 _ l ne1 items).toS) s.heap.objs.size ne2 xs hn hb hv (items.size - 0) 0 _ (by omega) (Nat.zero_le _) ⟨⟨_, Heap.get?_push_size _ rfl, rfl, rfl⟩, hl1.push _⟩ ?setA ?setB
        case setA => exact PyProof.Rows.SetOf_congr ((PyProof.Rows.setObjOf_fresh (knd := leafKind prog w) led).setOf (Heap.get?_push_of_some _ new) (by unfold scanBound; omega)) (fun _ => rfl) rfl
        case setB =>
          intro s' hm hS'
          obtain ⟨h', g', d', tk', os'⟩ := s'
          obtain rfl : g' = s.gens := hm.gens
          obtain rfl : d' = s.drawn := hm.drawn
          obtain rfl : os' = s.os := hm.os
          show wpAny _ _ _ _ _ _
          refine wpAny_pure ?_
          show wpAny _ _ (PySem.ret Value.none) _ _ _
          refine wpAny_pure ⟨rfl, h', tk', rfl, hS', fun b o hb e => ?_⟩
          refine hm.heap b o ?_ (Heap.get?_push_of_some _ (Heap.get?_push_of_some _ e))
          simp only [List.mem_cons, List.not_mem_nil, or_false, not_or]
          exact ⟨Nat.ne_of_lt hb, by rw [sz]; exact Nat.ne_of_lt (Nat.lt_succ_of_lt hb)⟩
      · cases r₂ with
        | error e => exact hr₂
        | ok fl₂ =>
          cases fl₂ with
          | ret r =>
            obtain ⟨rfl, h', tk, rfl, hS', hk'⟩ := hr₂
            repeat (any_goals (first | assumption | wp_step))
            exact h _ _ hS' hk'
          | _ => exact hr₂.elim
    | _ => exact hr.elim
end
end Ss
/-! Ss, part H: the IR against the written text; every expression. -/
namespace Ss
open PySem PySem.Spec PyProof.Rows L2

/-! ### len(set(..)) -/
section
variable {g : Gd} {X : Cx} {W : WX} {sc : Scope} {fb : Str → Bool} {N : List Str} {L : Nat} {B : Bs}
theorem leaf_is {T : Option Addr} {H : Hp} {F : FS} {d : D} {v : V} {u : Value} {x : Leaf} (h : Rp g H F T d v) (e : leaf d = some x) (r : RelV v u) : Leaf.isOf x u = true ∧ u.scannable = true := by
  cases d <;> simp only [leaf, reduceCtorEq] at e
  · simp only [Rp] at h; subst h; cases e; cases r; exact ⟨rfl, rfl⟩
  · simp only [Rp] at h; subst h; cases e; cases r; exact ⟨decide_eq_true rfl, rfl⟩
  · simp only [Rp] at h; subst h; cases e; obtain ⟨t, rfl⟩ := r; exact ⟨decide_eq_true rfl, rfl⟩
  · simp only [Rp] at h; subst h; cases e; obtain ⟨t, rfl⟩ := r; exact ⟨by simp [Leaf.isOf, Value.isStrOf], rfl⟩
theorem leaves_get {T : Option Addr} {H : Hp} {F : FS} : ∀ {ds : List D} {vs : List V} {us : List Value} {xs : List Leaf} {i : Nat} {u : Value}, Rps g H F T ds vs → leaves ds = some xs → Vals vs us → us[i]? = some u → Leaf.isOf (xs.getD i .none) u = true ∧ u.scannable = true
  | [], vs, us, xs, i, u, h, e, r, q => by
    simp only [Rps] at h
    subst h
    cases r
    simp at q
  | d :: ds, vs, us, xs, i, u, h, e, r, q => by
    simp only [Rps] at h
    obtain ⟨v, vr, rfl, h1, h2⟩ := h
    simp only [leaves] at e
    cases el : leaf d with
    | none => rw [el] at e; cases e
    | some x =>
      rw [el] at e
      cases es : leaves ds with
      | none => rw [es] at e; cases e
      | some ys =>
        rw [es] at e
        cases e
        cases r with
        | cons r1 r2 =>
          cases i with
          | zero =>
            simp only [List.getElem?_cons_zero, Option.some.injEq] at q
            subst q
            exact leaf_is h1 el r1
          | succ i => exact leaves_get (i := i) h2 es r2 q
theorem leaves_len : ∀ {ds : List D} {xs : List Leaf}, leaves ds = some xs → xs.length = ds.length
  | [], xs, e => by cases e; rfl
  | d :: ds, xs, e => by
    simp only [leaves] at e
    cases el : leaf d with
    | none => rw [el] at e; cases e
    | some x =>
      rw [el] at e
      cases es : leaves ds with
      | none => rw [es] at e; cases e
      | some ys =>
        rw [es] at e
        cases e
        simp [leaves_len es]
def tLens (K : PySem.W.Frag) (ta : TE) (g : Gd) : TE := fun σ H Q => ta σ H fun x H1 => ∃ F T ds xs, (RpS g T H1 F (.lst ds) x ∨ RpS g T H1 F (.tup ds) x) ∧ leaves ds = some xs ∧ xs.length ≤ 4000 ∧ Q (.int (dcn xs xs.length)) H1
theorem pe_lens {a : Expr} {ta : TE} {p p2 q pos : Pos} (hc : X.calm = true) (hg : Gl X "len") (hm : X.mg "len" = none) (hg2 : Gl X "set") (hm2 : X.mg "set" = none) (ha : PE X a ta) (na : nst a = true) :
    PE X (.Call (.Name "len" p) [.Call (.Name "set" p2) [a] [] q] [] pos) (tLens X.K ta (gdOf X)) := by
  constructor
  intro pins s σ H Q I h
  have st : starEach [a] X.env = (false, eval a X.env) :: starEach [] X.env := star_of na
  refine Call_ (ld_blt I hg hm boot_len (PyProof.Rows.callWith_builtin1 (PyProof.Rows.args_cons ?_ rfl) rfl rfl))
  refine Call_ (ld_blt I hg2 hm2 boot_set (PyProof.Rows.callWith_type1 (PyProof.Rows.args_cons (thn (ha.run pins s σ H _ I h) ?_) st) st rfl))
  rintro v s1 ⟨x, H1, I1, r1, F, T, ds, xs, hr, hx, hl, k⟩
  refine PyProof.Rows.args_nil ?_
  rcases hr with hr | hr
  · obtain ⟨l, vs, rfl, h1, _, h2⟩ := hr.lst
    cases r1
    obtain ⟨its, r, pl, hz⟩ := I1.list (SqL.of h1)
    have e1 := leaves_len hx
    have e2 := h2.len
    have e3 := r.length
    have sz : its.toArray.size = xs.length := by rw [List.size_toArray]; omega
    refine call_setL (I1.ok.hd hc) pl.isList sz.symm (by rw [sz]; unfold scanBound; omega) (fun i u hu => leaves_get h2 hx r (by simpa using hu)) fun h' tk hS hk => ?_
    refine PyProof.Rows.args_nil ?_
    rw [sz] at hS
    obtain ⟨o, es, ep, t, ho, hex, hd, _, _, _, hf, hn⟩ := hS
    have I2 : L2.Inv X pins σ H1 { s1 with heap := h', toks := tk } := I1.kept fun b o e => hk b o (Heap.lt_size e) e
    have dl := dcn_le xs xs.length
    exact call_len_set ho hex hd hf (by rw [hn]; omega) ⟨.int (dcn xs xs.length), H1, I2.tok _, ⟨_, by rw [hn]⟩, k⟩
  · obtain ⟨l, vs, rfl, h1, _, h2⟩ := hr.tup
    cases r1
    obtain ⟨its, r, pl, hz⟩ := I1.tuple h1
    have e1 := leaves_len hx
    have e2 := h2.len
    have e3 := r.length
    have sz : its.toArray.size = xs.length := by rw [List.size_toArray]; omega
    refine call_setT (I1.ok.hd hc) (show s1.heap.IsTuple l its.toArray from pl) sz.symm (by rw [sz]; unfold scanBound; omega) (fun i u hu => leaves_get h2 hx r (by simpa using hu)) fun h' tk hS hk => ?_
    refine PyProof.Rows.args_nil ?_
    rw [sz] at hS
    obtain ⟨o, es, ep, t, ho, hex, hd, _, _, _, hf, hn⟩ := hS
    have I2 : L2.Inv X pins σ H1 { s1 with heap := h', toks := tk } := I1.kept fun b o e => hk b o (Heap.lt_size e) e
    have dl := dcn_le xs xs.length
    exact call_len_set ho hex hd hf (by rw [hn]; omega) ⟨.int (dcn xs xs.length), H1, I2.tok _, ⟨_, by rw [hn]⟩, k⟩
theorem se_lens (G : Gud g X W sc fb N L) {a : Expr} {fa : Ss.Env → M D} {p p2 q pos : Pos} (ha : PE X a (tI g B W .shal fa)) (na : nst a = true) (hg : glB sc "len" = true) (hs : glB sc "set" = true) :
    PE X (.Call (.Name "len" p) [.Call (.Name "set" p2) [a] [] q] [] pos) (tI g B W .full fun ρ => bnd (fa ρ) fun x => match x with
    | .lst ds => lft ((leaves ds).bind fun xs => if xs.length ≤ 4000 then some (D.int (dcn xs xs.length)) else none)
    | .tup ds => lft ((leaves ds).bind fun xs => if xs.length ≤ 4000 then some (D.int (dcn xs xs.length)) else none)
    | _ => bad) := by
  obtain rfl := G.gd
  refine pe_wk (pe_lens G.calm (G.gl hg).1 (G.bn (by decide +kernel)) (G.gl hs).1 (G.bn (by decide +kernel)) ha na) fun σ H Q q => ?_
  obtain ⟨ρ, F, T, n, R, q⟩ := q
  refine ⟨ρ, F, T, n, R, q.bnd.mono fun d n1 H1 F1 e1 t1 q1 v p1 => ?_⟩
  cases d with
  | lst ds =>
    obtain ⟨z, ez, k, _⟩ := q1.lft t1
    cases el : leaves ds with
    | none => rw [el] at ez; cases ez
    | some xs =>
      rw [el] at ez
      have ez : (if xs.length ≤ 4000 then some (D.int (dcn xs xs.length)) else none) = some z := ez
      split at ez
      · rename_i hc
        cases ez
        exact ⟨F1, T, ds, xs, .inl p1, el, hc, k _ (pf rp_int)⟩
      · cases ez
  | tup ds =>
    obtain ⟨z, ez, k, _⟩ := q1.lft t1
    cases el : leaves ds with
    | none => rw [el] at ez; cases ez
    | some xs =>
      rw [el] at ez
      have ez : (if xs.length ≤ 4000 then some (D.int (dcn xs xs.length)) else none) = some z := ez
      split at ez
      · rename_i hc
        cases ez
        exact ⟨F1, T, ds, xs, .inr p1, el, hc, k _ (pf rp_int)⟩
      · cases ez
  | _ => exact False.elim q1
end

/-! ### the check -/
mutual
def IR.fl : IR → Bool
  | .own _ => false
  | .bop _ es => fls es
  | .ite _ a b => a.fl && b.fl
  | _ => true
def fls : List IR → Bool
  | [] => true
  | e :: es => e.fl && fls es
end
def IR.isNew : IR → Bool
  | .lst _ => true
  | .comp .. => true
  | .lrng _ => true
  | .bi .list _ => true
  | .bi .srt _ => true
  | .dkl _ => true
  | .rev _ => true
  | .pxn _ _ => true
  | _ => false
def IR.kd (e : IR) : Kd := if e.isNew then .new else if e.fl then .full else .shal
def blkB (N : List Str) (sc scope : Scope) (vs : List Nat) : Bool := decide (scope.kind = .function) && scope.names.all (fun y => scope.names.lookup y.1 == some y.2) && vs.all (fun i => (N[i]?).isSome) &&
  scope.names.all (fun y => match y.2 with
    | .free => (sc.names.lookup y.1 == some .cell) || (sc.names.lookup y.1 == some .free)
    | .local => vs.any (fun i => N[i]? == some y.1) || !N.contains y.1
    | .cell => vs.any (fun i => N[i]? == some y.1) || !N.contains y.1
    | _ => true)
def ownOf (N : List Str) (vs : List Nat) : List (Str × Nat) := vs.map fun i => (N.getD i Str.empty, i)
theorem ownOf_snd (N : List Str) (vs : List Nat) : (ownOf N vs).map (·.2) = vs := by
  unfold ownOf
  rw [List.map_map]
  exact List.map_id _
theorem blkB_ok {N : List Str} {sc scope : Scope} {vs : List Nat} (h : blkB N sc scope vs = true) : BlkOk N sc scope (ownOf N vs) := by
  unfold blkB at h
  simp only [Bool.and_eq_true, decide_eq_true_eq, List.all_eq_true, beq_iff_eq] at h
  obtain ⟨⟨⟨h1, h2⟩, h3⟩, h4⟩ := h
  have own : ∀ y ∈ scope.names, (vs.any (fun i => N[i]? == some y.1) || !N.contains y.1) = true → y.1 ∈ (ownOf N vs).map (·.1) ∨ y.1 ∉ N := fun y hy q => by
    simp only [Bool.or_eq_true, List.any_eq_true, beq_iff_eq, Bool.not_eq_true', List.contains_eq_mem, decide_eq_false_iff_not] at q
    rcases q with ⟨i, hi, e⟩ | q
    · refine .inl (List.mem_map.mpr ⟨(N.getD i Str.empty, i), List.mem_map.mpr ⟨i, hi, rfl⟩, ?_⟩)
      show N.getD i Str.empty = y.1
      rw [List.getD_eq_getElem?_getD, e]; rfl
    · exact .inr q
  refine ⟨h1, h2, fun p hp => ?_, fun y hy e => ?_, fun y hy e => ?_⟩
  · obtain ⟨i, hi, rfl⟩ := List.mem_map.mp hp
    show N[i]? = some (N.getD i Str.empty)
    have := h3 i hi
    rw [List.getD_eq_getElem?_getD]
    cases q : N[i]? with
    | none => rw [q] at this; cases this
    | some x => rfl
  · have := h4 y hy
    rw [e] at this
    simp only [Bool.or_eq_true, beq_iff_eq] at this
    exact this
  · have := h4 y hy
    rcases e with e | e
    · rw [e] at this; exact own y hy this
    · rw [e] at this; exact own y hy this
def noSet : Expr → Bool
  | .Set _ _ _ => false
  | _ => true
theorem noSet_fold {e : Expr} (h : noSet e = true) (env : PySem.Env) (x : Value) : foldedSetIterable e env x = pure x := by
  cases e <;> first | rfl | (simp only [noSet, Bool.false_eq_true] at h)

/-! ### the text taken apart -/
def dName : Expr → Option Str
  | .Name x _ => some x
  | _ => none
def dConst : Expr → Option Const
  | .Constant c _ _ => some c
  | _ => none
def dTup : Expr → Option (List Expr)
  | .Tuple es _ _ => some es
  | _ => none
def dLst : Expr → Option (List Expr)
  | .List es _ => some es
  | _ => none
def dBin : Expr → Option (Expr × Operator × Expr)
  | .BinOp a o b _ => some (a, o, b)
  | _ => none
def dCmp : Expr → Option (Expr × List CmpOp × List Expr)
  | .Compare a os bs _ => some (a, os, bs)
  | _ => none
def dBool : Expr → Option (BoolOp × List Expr)
  | .BoolOp o es _ => some (o, es)
  | _ => none
def dUn : Expr → Option (UnaryOp × Expr)
  | .UnaryOp o e _ => some (o, e)
  | _ => none
def dIf : Expr → Option (Expr × Expr × Expr)
  | .IfExp c a b _ => some (c, a, b)
  | _ => none
def dSub : Expr → Option (Expr × Expr)
  | .Subscript a b _ => some (a, b)
  | _ => none
def dSlc : Expr → Option (Option Expr × Option Expr)
  | .Slice l h s _ => (match s with
    | none => some (l, h)
    | some _ => none)
  | _ => none
/-- f(..), f a name -/
def dCall : Expr → Option (Str × List Expr)
  | .Call f es ks _ => (match dName f, ks with
    | some x, [] => some (x, es)
    | _, _ => none)
  | _ => none
/-- o.m(..), on one line -/
def dMeth : Expr → Option (Expr × Str × List Expr)
  | .Call f es ks pos => (match f, ks with
    | .Attribute o m ap, [] => if ap.endLine == pos.line then some (o, m, es) else none
    | _, _ => none)
  | _ => none
def dComp : Expr → Option (Expr × Expr × Expr × List Expr × Scope)
  | .ListComp f gs scope _ => (match gs with
    | [⟨t, it, fs, k⟩] => if k = 0 then some (f, t, it, fs, scope) else none
    | _ => none)
  | _ => none
theorem dName_eq {e : Expr} {x : Str} (h : dName e = some x) : ∃ p, e = .Name x p := by
  cases e <;> simp only [dName, reduceCtorEq] at h
  cases h; exact ⟨_, rfl⟩
theorem dConst_eq {e : Expr} {x : Const} (h : dConst e = some x) : ∃ k p, e = .Constant x k p := by
  cases e <;> simp only [dConst, reduceCtorEq] at h
  cases h; exact ⟨_, _, rfl⟩
theorem dTup_eq {e : Expr} {x : List Expr} (h : dTup e = some x) : ∃ k p, e = .Tuple x k p := by
  cases e <;> simp only [dTup, reduceCtorEq] at h
  cases h; exact ⟨_, _, rfl⟩
theorem dLst_eq {e : Expr} {x : List Expr} (h : dLst e = some x) : ∃ p, e = .List x p := by
  cases e <;> simp only [dLst, reduceCtorEq] at h
  cases h; exact ⟨_, rfl⟩
theorem dBin_eq {e a b : Expr} {o : Operator} (h : dBin e = some (a, o, b)) : ∃ p, e = .BinOp a o b p := by
  cases e <;> simp only [dBin, reduceCtorEq] at h
  cases h; exact ⟨_, rfl⟩
theorem dCmp_eq {e a : Expr} {o : List CmpOp} {b : List Expr} (h : dCmp e = some (a, o, b)) : ∃ p, e = .Compare a o b p := by
  cases e <;> simp only [dCmp, reduceCtorEq] at h
  cases h; exact ⟨_, rfl⟩
theorem dBool_eq {e : Expr} {o : BoolOp} {b : List Expr} (h : dBool e = some (o, b)) : ∃ p, e = .BoolOp o b p := by
  cases e <;> simp only [dBool, reduceCtorEq] at h
  cases h; exact ⟨_, rfl⟩
theorem dUn_eq {e a : Expr} {o : UnaryOp} (h : dUn e = some (o, a)) : ∃ p, e = .UnaryOp o a p := by
  cases e <;> simp only [dUn, reduceCtorEq] at h
  cases h; exact ⟨_, rfl⟩
theorem dIf_eq {e a b c : Expr} (h : dIf e = some (a, b, c)) : ∃ p, e = .IfExp a b c p := by
  cases e <;> simp only [dIf, reduceCtorEq] at h
  cases h; exact ⟨_, rfl⟩
theorem dSub_eq {e a b : Expr} (h : dSub e = some (a, b)) : ∃ p, e = .Subscript a b p := by
  cases e <;> simp only [dSub, reduceCtorEq] at h
  cases h; exact ⟨_, rfl⟩
theorem dSlc_eq {e : Expr} {a b : Option Expr} (h : dSlc e = some (a, b)) : ∃ p, e = .Slice a b none p := by
  cases e <;> simp only [dSlc, reduceCtorEq] at h
  split at h
  · cases h; exact ⟨_, rfl⟩
  · cases h
theorem dCall_eq {e : Expr} {x : Str} {b : List Expr} (h : dCall e = some (x, b)) : ∃ p q, e = .Call (.Name x p) b [] q := by
  cases e <;> simp only [dCall, reduceCtorEq] at h
  split at h
  · rename_i e2
    cases h
    obtain ⟨p, rfl⟩ := dName_eq e2
    exact ⟨_, _, rfl⟩
  · cases h
theorem dMeth_eq {e o : Expr} {x : Str} {b : List Expr} (h : dMeth e = some (o, x, b)) : ∃ ap q, e = .Call (.Attribute o x ap) b [] q ∧ (ap.endLine == q.line) = true := by
  cases e <;> simp only [dMeth, reduceCtorEq] at h
  split at h
  · split at h
    · rename_i hl
      cases h
      exact ⟨_, _, rfl, hl⟩
    · cases h
  · cases h
theorem dComp_eq {e f t it : Expr} {fs : List Expr} {scope : Scope} (h : dComp e = some (f, t, it, fs, scope)) : ∃ q, e = .ListComp f [⟨t, it, fs, 0⟩] scope q := by
  cases e <;> simp only [dComp, reduceCtorEq] at h
  split at h
  · split at h
    · rename_i hk
      cases h
      rw [hk]
      exact ⟨_, rfl⟩
    · cases h
  · cases h
def dCall1 (x : Str) (e : Expr) : Option Expr := match dCall e with
  | some (y, [a]) => if y = x then some a else none
  | _ => none
def dCall2 (x : Str) (e : Expr) : Option (Expr × Expr) := match dCall e with
  | some (y, [a, b]) => if y = x then some (a, b) else none
  | _ => none
/-- f(g(..)) -/
def dNest (x y : Str) (e : Expr) : Option (List Expr) := match dCall1 x e with
  | some a => (match dCall a with
    | some (z, es) => if z = y then some es else none
    | none => none)
  | none => none
theorem dCall1_eq {x : Str} {e a : Expr} (h : dCall1 x e = some a) : ∃ p q, e = .Call (.Name x p) [a] [] q := by
  unfold dCall1 at h
  split at h
  · rename_i y b hc
    split at h
    · rename_i hy
      cases h
      subst hy
      exact dCall_eq hc
    · cases h
  · cases h
theorem dCall2_eq {x : Str} {e a b : Expr} (h : dCall2 x e = some (a, b)) : ∃ p q, e = .Call (.Name x p) [a, b] [] q := by
  unfold dCall2 at h
  split at h
  · rename_i y c d hc
    split at h
    · rename_i hy
      cases h
      subst hy
      exact dCall_eq hc
    · cases h
  · cases h
theorem dNest_eq {x y : Str} {e : Expr} {es : List Expr} (h : dNest x y e = some es) : ∃ p q p' q', e = .Call (.Name x p) [.Call (.Name y p') es [] q'] [] q := by
  unfold dNest at h
  split at h
  · rename_i a ha
    split at h
    · rename_i z fs hc
      split at h
      · rename_i hy
        cases h
        subst hy
        obtain ⟨p, q, rfl⟩ := dCall1_eq ha
        obtain ⟨p', q', rfl⟩ := dCall_eq hc
        exact ⟨_, _, _, _, rfl⟩
      · cases h
    · cases h
  · cases h
def dNest1 (x y : Str) (e : Expr) : Option Expr := match dNest x y e with
  | some [z] => some z
  | _ => none
theorem dNest1_eq {x y : Str} {e z : Expr} (h : dNest1 x y e = some z) : ∃ p q p' q', e = .Call (.Name x p) [.Call (.Name y p') [z] [] q'] [] q := by
  unfold dNest1 at h
  split at h
  · rename_i w hw
    cases h
    exact dNest_eq hw
  · cases h
/-- list(x.keys()) -/
def dLk (e : Expr) : Option Str := match dCall1 "list" e with
  | some y => (match dMeth y with
    | some (.Name x _, m, []) => if m = "keys" then some x else none
    | _ => none)
  | none => none
theorem dLk_eq {e : Expr} {x : Str} (h : dLk e = some x) : ∃ p p2 ap cp pos, e = .Call (.Name "list" p) [.Call (.Attribute (.Name x p2) "keys" ap) [] [] cp] [] pos ∧ (ap.endLine == cp.line) = true := by
  unfold dLk at h
  split at h
  · rename_i y hy
    split at h
    · rename_i x' p2 m hm
      split at h
      · rename_i em
        cases h
        subst em
        obtain ⟨p, pos, rfl⟩ := dCall1_eq hy
        obtain ⟨ap, cp, rfl, hl⟩ := dMeth_eq hm
        exact ⟨p, p2, ap, cp, pos, rfl, hl⟩
      · cases h
    · cases h
  · cases h
/-- xs[::-1] -/
def dRev : Expr → Option Expr
  | .Subscript a (.Slice none none (some (.UnaryOp .USub (.Constant (.int 1) _ _) _)) _) _ => some a
  | _ => none
theorem dRev_eq {e a : Expr} (h : dRev e = some a) : ∃ k p1 p2 p3 pos, e = .Subscript a (.Slice none none (some (.UnaryOp .USub (.Constant (.int 1) k p1) p2)) p3) pos := by
  unfold dRev at h
  split at h
  · cases h; exact ⟨_, _, _, _, _, rfl⟩
  · cases h
def dDic : Expr → Option (List (Option Expr) × List Expr)
  | .Dict ks vs _ => some (ks, vs)
  | _ => none
theorem dDic_eq {e : Expr} {ks : List (Option Expr)} {vs : List Expr} (h : dDic e = some (ks, vs)) : ∃ p, e = .Dict ks vs p := by
  cases e <;> simp only [dDic, reduceCtorEq] at h
  cases h; exact ⟨_, rfl⟩
def noComp : Expr → Bool
  | .ListComp _ _ _ _ => false
  | .SetComp _ _ _ _ => false
  | .DictComp _ _ _ _ _ => false
  | _ => true
def nslB : Expr → Bool
  | .Name _ _ => true
  | .Constant _ _ _ => true
  | .Call _ _ _ _ => true
  | .Subscript _ _ _ => true
  | .Tuple _ _ _ => true
  | _ => false
theorem nslB_ok {b : Expr} (h : nslB b = true) : NoSl b := by
  cases b <;> first | exact fun _ _ => rfl | (simp only [nslB, Bool.false_eq_true] at h)
mutual
def chk (N : List Str) : IR → Scope → Expr → Bool
  | .var i, sc, e => (match dName e with | some x => nmB sc N i x | none => false)
  | .own i, sc, e => (match dName e with | some x => nmB sc N i x | none => false)
  | .lit d, _, e => (match dConst e with | some c => litB d c | none => false)
  | .glob x _, sc, e => (match dName e with | some y => decide (x = y) && glB sc x | none => false)
  | .tup es, sc, e => (match dTup e with | some fs => chks N es sc fs && fls es | none => false)
  | .lst es, sc, e => (match dLst e with | some fs => chks N es sc fs && fls es | none => false)
  | .op o a b, sc, e => (match dBin e with | some (x, p, y) => decide (p = o.ast) && chk N a sc x && chk N b sc y | none => false)
  | .cmp o a b, sc, e => (match dCmp e with | some (x, ps, ys) => (match ps, ys with | [p], [y] => decide (p = o.ast) && chk N a sc x && chk N b sc y && noSet y | _, _ => false) | none => false)
  | .chain a b c, sc, e => (match dCmp e with | some (x, ps, ys) => (match ps, ys with | [p, p'], [y, z] => decide (p = .LtE) && decide (p' = .LtE) && chk N a sc x && chk N b sc y && chk N c sc z && noSet z | _, _ => false) | none => false)
  | .isn neg a, sc, e => (match dCmp e with | some (x, ps, ys) => (match ps, ys with | [p], [y] => decide (p = if neg then .IsNot else .Is) && decide (dConst y = some .none) && chk N a sc x | _, _ => false) | none => false)
  | .bop an es, sc, e => (match dBool e with | some (p, fs) => decide (p = bopA an) && chks N es sc fs && !fs.isEmpty | none => false)
  | .nt a, sc, e => (match dUn e with | some (o, x) => decide (o = .Not) && chk N a sc x | none => false)
  | .ite c a b, sc, e => (match dIf e with | some (x, y, z) => chk N c sc x && chk N a sc y && chk N b sc z | none => false)
  | .idx a b, sc, e => (match dSub e with | some (x, y) => chk N a sc x && chk N b sc y && ixB y | none => false)
  | .slc a lo hi, sc, e => (match dSub e with | some (x, y) => (match dSlc y with | some (l, h) => chk N a sc x && chko N lo sc l && chko N hi sc h | none => false) | none => false)
  | .call g es, sc, e => (match dCall e with | some (x, fs) => decide (x = g.name) && glB sc x && chks N es sc fs && fls es && !fs.isEmpty | none => false)
  | .callv i _ es, sc, e => (match dCall e with | some (x, fs) => nmB sc N i x && chks N es sc fs && fls es && !fs.isEmpty | none => false)
  | .bi b es, sc, e => (match dCall e with | some (x, fs) => decide (x = b.name) && glB sc x && chks N es sc fs && !fs.isEmpty | none => false)
  | .isi t a, sc, e => (match dCall2 "isinstance" e with | some (y, z) => decide (dName z = some t.name) && glB sc "isinstance" && glB sc t.name && chk N a sc y && nst y | none => false)
  | .lens a, sc, e => (match dNest1 "len" "set" e with | some z => chk N a sc z && nst z && glB sc "len" && glB sc "set" | none => false)
  | .join z a, sc, e => (match dMeth e with | some (o, m, fs) => (match fs with | [y] => decide (m = "join") && chk N z sc o && chk N a sc y && nst y && baseB o | _ => false) | none => false)
  | .ixm z a, sc, e => (match dMeth e with | some (o, m, fs) => (match fs with | [y] => decide (m = "index") && chk N z sc o && chk N a sc y && nst y && baseB o | _ => false) | none => false)
  | .rng _, _, _ => false
  | .lrng es, sc, e => (match dNest "list" "range" e with | some gs => chks N es sc gs && glB sc "list" && glB sc "range" && decide (gs.length = 1) | none => false)
  | .tlen i, sc, e => (match dCall1 "len" e with | some y => (match dName y with | some z => glB sc "len" && nmB sc N i z | none => false) | none => false)
  | .dkl i, sc, e => (match dLk e with | some x => nmB sc N i x && glB sc "list" | none => false)
  | .neg a, sc, e => (match dUn e with | some (o, x) => decide (o = .USub) && chk N a sc x | none => false)
  | .rev a, sc, e => (match dRev e with | some x => chk N a sc x | none => false)
  | .revt a, sc, e => (match dRev e with | some x => chk N a sc x | none => false)
  | .dsel ks es a, sc, e => (match dSub e with | some (d, y) => (match dDic d with | some (kes, vs) => dKeys ks kes && chks N es sc vs && fls es && chk N a sc y && ixB y && decide (ks ≠ []) && decide (ks.length ≤ 15) && decide ks.Nodup && decide (ks.length = vs.length) | none => false) | none => false)
  | .dgi i a, sc, e => (match dSub e with | some (o, y) => (match dName o with | some x => nmB sc N i x && chk N a sc y && a.fl && nslB y | none => false) | none => false)
  | .comp elt tg it ifs vs, sc, e => (match dComp e with
    | some (f, t, iter, fs, scope) => blkB N sc scope vs && chkT (relS scope sc) (fun x => scope.names.lookup x == some .cell) N tg t && tg.sl.all (fun i => vs.contains i) && chks N ifs (relS scope sc) fs && decide (ifs.length ≤ 1) && chk N elt (relS scope sc) f && elt.fl && noSet iter &&
      (match it with
      | .rng es => (match dCall iter with | some (y, zs) => decide (y = "range") && glB sc y && chks N es sc zs && decide (zs.length = 1 ∨ zs.length = 2) | none => false)
      | .itx x es => (match x.dec sc iter with | some zs => chks N es sc zs && fls es | none => false)
      | it => chk N it sc iter)
    | none => false)
  | .px x es, sc, e => noComp e && (match x.dec sc e with | some fs => chks N es sc fs && (!x.fl || fls es) | none => false)
  | .pxn x es, sc, e => noComp e && (match x.dec sc e with | some fs => chks N es sc fs && (!x.fl || fls es) | none => false)
  | .itx _ _, _, _ => false
def chks (N : List Str) : List IR → Scope → List Expr → Bool
  | [], _, es => es.isEmpty
  | a :: as, sc, es => (match es with | e :: es => chk N a sc e && nst e && chks N as sc es | [] => false)
def chko (N : List Str) : Option IR → Scope → Option Expr → Bool
  | none, _, e => e.isNone
  | some a, sc, e => (match e with | some e => chk N a sc e | none => false)
end
def chki (N : List Str) (it : IR) (sc : Scope) (iter : Expr) : Bool := noSet iter && (match it with
  | .rng es => (match dCall iter with | some (y, zs) => decide (y = "range") && glB sc y && chks N es sc zs && decide (zs.length = 1 ∨ zs.length = 2) | none => false)
  | .itx x es => (match x.dec sc iter with | some zs => chks N es sc zs && fls es | none => false)
  | it => chk N it sc iter)
end Ss
/-! Ss, part I: every expression does what the evaluator says. -/
namespace Ss
open PySem PySem.Spec PyProof.Rows L2
/-- parts of an expression, each with what it comes to -/
inductive PVk (X : Cx) (g : Gd) (B : Bs) (W : WX) (kd : Kd) : List Expr → List (Ss.Env → M D) → Prop where
  | nil : PVk X g B W kd [] []
  | cons {e : Expr} {es : List Expr} {f : Ss.Env → M D} {fs : List (Ss.Env → M D)} : PE X e (tI g B W kd f) → nst e = true → PVk X g B W kd es fs → PVk X g B W kd (e :: es) (f :: fs)
def evPL (pre : D → Bool) (ρ : Ss.Env) : List (Ss.Env → M D) → M (List D)
  | [] => ret []
  | f :: fs => bnd (f ρ) fun d => if pre d then bnd (evL ρ fs) fun ds => ret (d :: ds) else bad
def Px.kd (x : Px) : Kd := if x.fl then .full else .shal
/-- a further form of an expression does what it says -/
def PxOk (g : Gd) (L : Nat) (x : Px) : Prop := ∀ (X : Cx) (W : WX) (sc : Scope) (fb : Str → Bool) (N : List Str) (B : Bs) (e : Expr) (es : List Expr) (fs : List (Ss.Env → M D)), Gud g X W sc fb N L → noComp e = true → x.dec sc e = some es → PVk X g B W x.kd es fs →
  PE X e (tI g B W .full fun ρ => bnd (evPL x.pre ρ fs) x.sem) ∧ PT X e (tT g B W fun ρ => truM (bnd (evPL x.pre ρ fs) x.sem))
/-- .. of a new list -/
def PnOk (g : Gd) (L : Nat) (x : Px) : Prop := ∀ (X : Cx) (W : WX) (sc : Scope) (fb : Str → Bool) (N : List Str) (B : Bs) (e : Expr) (es : List Expr) (fs : List (Ss.Env → M D)), Gud g X W sc fb N L → noComp e = true → x.dec sc e = some es → PVk X g B W x.kd es fs →
  PE X e (tI g B W .new fun ρ => bnd (evPL x.pre ρ fs) x.sem) ∧ PT X e (tT g B W fun ρ => truM (bnd (evPL x.pre ρ fs) x.sem))
def IxOk (g : Gd) (L : Nat) (x : Ix) : Prop := ∀ (X : Cx) (W : WX) (sc : Scope) (fb : Str → Bool) (N : List Str) (B : Bs) (st : Bool) (t e : Expr) (es : List Expr) (fs : List (Ss.Env → M D)), Gud g X W sc fb N L → x.dec sc e = some es → PVk X g B W .full es fs →
  PI X t e (iI g B W st fun ρ => bnd (evL ρ fs) x.sem)
mutual
/-- all defs and constants that are named in it are good -/
def IR.ok (g : Gd) (L : Nat) : IR → Prop
  | .var _ => True
  | .own _ => True
  | .lit _ => True
  | .glob x d => GlG g x d
  | .tup es => oks g L es
  | .lst es => oks g L es
  | .op _ a b => a.ok g L ∧ b.ok g L
  | .cmp _ a b => a.ok g L ∧ b.ok g L
  | .chain a b c => a.ok g L ∧ b.ok g L ∧ c.ok g L
  | .isn _ a => a.ok g L
  | .bop _ es => oks g L es
  | .nt a => a.ok g L
  | .ite c a b => c.ok g L ∧ a.ok g L ∧ b.ok g L
  | .idx a b => a.ok g L ∧ b.ok g L
  | .slc a lo hi => a.ok g L ∧ oko g L lo ∧ oko g L hi
  | .call f es => FnG g L f ∧ oks g L es
  | .callv _ gs es => (∀ f ∈ gs, FnG g L f) ∧ oks g L es
  | .bi _ es => oks g L es
  | .isi _ a => a.ok g L
  | .lens a => a.ok g L
  | .join z a => z.ok g L ∧ a.ok g L
  | .ixm z a => z.ok g L ∧ a.ok g L
  | .rng es => oks g L es
  | .lrng es => oks g L es
  | .tlen _ => True
  | .dkl _ => True
  | .neg a => a.ok g L
  | .rev a => a.ok g L
  | .revt a => a.ok g L
  | .dsel _ es a => oks g L es ∧ a.ok g L
  | .dgi _ a => a.ok g L
  | .comp elt _ it ifs _ => elt.ok g L ∧ it.ok g L ∧ oks g L ifs
  | .px x es => PxOk g L x ∧ oks g L es
  | .itx x es => IxOk g L x ∧ oks g L es
  | .pxn x es => PnOk g L x ∧ oks g L es
def oks (g : Gd) (L : Nat) : List IR → Prop
  | [] => True
  | a :: as => a.ok g L ∧ oks g L as
def oko (g : Gd) (L : Nat) : Option IR → Prop
  | none => True
  | some a => a.ok g L
end
def OkE (g : Gd) (L : Nat) (a : IR) : Prop := ∀ (X : Cx) (W : WX) (sc : Scope) (fb : Str → Bool) (N : List Str) (B : Bs) (e : Expr), Gud g X W sc fb N L → chk N a sc e = true →
  PE X e (tI g B W a.kd fun ρ => ev a ρ) ∧ PT X e (tT g B W fun ρ => truM (ev a ρ))
def OkEs (g : Gd) (L : Nat) (as : List IR) : Prop := ∀ (X : Cx) (W : WX) (sc : Scope) (fb : Str → Bool) (N : List Str) (B : Bs) (es : List Expr), Gud g X W sc fb N L → chks N as sc es = true →
  nsts es = true ∧ es.length = as.length ∧ PA X es (tIs g B W .shal fun ρ => evs as ρ) ∧ (fls as = true → PA X es (tIs g B W .full fun ρ => evs as ρ)) ∧
  (es ≠ [] → ∀ an pos, PE X (.BoolOp (bopA an) es pos) (tI g B W .shal fun ρ => evb an as ρ) ∧ (fls as = true → PE X (.BoolOp (bopA an) es pos) (tI g B W .full fun ρ => evb an as ρ)) ∧ PW X (.BoolOp (bopA an) es pos) (tT g B W fun ρ => truM (evb an as ρ)))
def OkO (g : Gd) (L : Nat) (a : Option IR) : Prop := ∀ (X : Cx) (W : WX) (sc : Scope) (fb : Str → Bool) (N : List Str) (B : Bs) (e : Option Expr), Gud g X W sc fb N L → chko N a sc e = true → PO X e (tO g B W fun ρ => evo a ρ)
section
variable {g : Gd} {X : Cx} {W : WX} {sc : Scope} {fb : Str → Bool} {N : List Str} {L : Nat} {B : Bs}
theorem kd_fl {a : IR} (h : a.fl = true) : a.kd ≠ .shal := by
  unfold IR.kd
  rw [h]
  split
  · intro z; cases z
  · intro z; cases z
theorem kd_full {a : IR} (h : a.fl = true) (n : a.isNew = false) : a.kd = .full := by
  unfold IR.kd
  rw [h, n]; rfl
theorem OkE.s {a : IR} (h : OkE g L a) {e : Expr} (G : Gud g X W sc fb N L) (c : chk N a sc e = true) : PE X e (tI g B W .shal fun ρ => ev a ρ) := pe_shal (h X W sc fb N B e G c).1
theorem OkE.f {a : IR} (h : OkE g L a) {e : Expr} (G : Gud g X W sc fb N L) (c : chk N a sc e = true) (f : a.fl = true) : PE X e (tI g B W .full fun ρ => ev a ρ) := pe_full (h X W sc fb N B e G c).1 (kd_fl f)
theorem OkE.t {a : IR} (h : OkE g L a) {e : Expr} (G : Gud g X W sc fb N L) (c : chk N a sc e = true) : PT X e (tT g B W fun ρ => truM (ev a ρ)) := (h X W sc fb N B e G c).2
theorem Gud.pt (G : Gud g X W sc fb N L) {e : Expr} {kd : Kd} {f : Ss.Env → M D} (h : PE X e (tI g B W kd f)) (he : ∀ whole, isTrue e X.env whole = (do let v ← whole; standAt e.pos; holding [v] (truthy v))) : PT X e (tT g B W fun ρ => truM (f ρ)) := by
  obtain rfl := G.gd
  exact pt_of h he
theorem ba2 {a b : Bool} (h : (a && b) = true) : a = true ∧ b = true := Bool.and_eq_true_iff.mp h

theorem ok_var {i : Nat} : OkE g L (.var i) := fun X W sc fb N B e G c => by
  simp only [chk] at c
  cases hd : dName e with
  | none => rw [hd] at c; cases c
  | some x =>
    rw [hd] at c
    obtain ⟨p, rfl⟩ := dName_eq hd
    simp only [ev]
    exact ⟨se_var G c, G.pt (se_var G c) fun _ => rfl⟩
theorem ok_own {i : Nat} : OkE g L (.own i) := fun X W sc fb N B e G c => by
  simp only [chk] at c
  cases hd : dName e with
  | none => rw [hd] at c; cases c
  | some x =>
    rw [hd] at c
    obtain ⟨p, rfl⟩ := dName_eq hd
    simp only [ev]
    exact ⟨se_own G c, G.pt (se_own G c) fun _ => rfl⟩
theorem ok_lit {d : D} : OkE g L (.lit d) := fun X W sc fb N B e G c => by
  simp only [chk] at c
  cases hd : dConst e with
  | none => rw [hd] at c; cases c
  | some x =>
    rw [hd] at c
    obtain ⟨k, p, rfl⟩ := dConst_eq hd
    simp only [ev]
    exact ⟨se_lit c, G.pt (se_lit c) fun _ => rfl⟩
theorem ok_glob {x : Str} {d : D} (h : GlG g x d) : OkE g L (.glob x d) := fun X W sc fb N B e G c => by
  simp only [chk] at c
  cases hd : dName e with
  | none => rw [hd] at c; cases c
  | some y =>
    rw [hd] at c
    obtain ⟨c1, c2⟩ := ba2 c
    have := of_decide_eq_true c1
    subst this
    obtain ⟨p, rfl⟩ := dName_eq hd
    simp only [ev]
    exact ⟨se_glob G h c2, G.pt (se_glob G h c2) fun _ => rfl⟩
theorem ok_tup {es : List IR} (h : OkEs g L es) : OkE g L (.tup es) := fun X W sc fb N B e G c => by
  simp only [chk] at c
  cases hd : dTup e with
  | none => rw [hd] at c; cases c
  | some fs =>
    rw [hd] at c
    obtain ⟨c1, c2⟩ := ba2 c
    obtain ⟨k, p, rfl⟩ := dTup_eq hd
    simp only [ev]
    have q := se_tup (j := k) (pos := p) ((h X W sc fb N B fs G c1).2.2.2.1 c2)
    exact ⟨q, G.pt q fun _ => rfl⟩
theorem ok_lst {es : List IR} (h : OkEs g L es) : OkE g L (.lst es) := fun X W sc fb N B e G c => by
  simp only [chk] at c
  cases hd : dLst e with
  | none => rw [hd] at c; cases c
  | some fs =>
    rw [hd] at c
    obtain ⟨c1, c2⟩ := ba2 c
    obtain ⟨p, rfl⟩ := dLst_eq hd
    simp only [ev]
    have q := se_lst (pos := p) ((h X W sc fb N B fs G c1).2.2.2.1 c2)
    exact ⟨q, G.pt q fun _ => rfl⟩
theorem ok_op {o : Op} {a b : IR} (ha : OkE g L a) (hb : OkE g L b) : OkE g L (.op o a b) := fun X W sc fb N B e G c => by
  simp only [chk] at c
  cases hd : dBin e with
  | none => rw [hd] at c; cases c
  | some t =>
    obtain ⟨x, p, y⟩ := t
    rw [hd] at c
    obtain ⟨c12, c3⟩ := ba2 c
    obtain ⟨c1, c2⟩ := ba2 c12
    have := of_decide_eq_true c1
    subst this
    obtain ⟨pos, rfl⟩ := dBin_eq hd
    simp only [ev]
    have q := se_op (B := B) (o := o) (pos := pos) G (ha.s G c2) (hb.s G c3)
    exact ⟨q, G.pt q fun _ => rfl⟩
theorem noSet_in {o : CmpOp} {b : Expr} (h : noSet b = true) : behindInMarks o b = false := by
  cases b <;> first | rfl | (simp only [noSet, Bool.false_eq_true] at h)
theorem ok_cmp {o : Cm} {a b : IR} (ha : OkE g L a) (hb : OkE g L b) : OkE g L (.cmp o a b) := fun X W sc fb N B e G c => by
  simp only [chk] at c
  cases hd : dCmp e with
  | none => rw [hd] at c; cases c
  | some t =>
    obtain ⟨x, ps, ys⟩ := t
    rw [hd] at c
    match ps, ys, hd, c with
    | [p], [y], hd, c =>
      obtain ⟨c123, c4⟩ := ba2 c
      obtain ⟨c12, c3⟩ := ba2 c123
      obtain ⟨c1, c2⟩ := ba2 c12
      have := of_decide_eq_true c1
      subst this
      obtain ⟨pos, rfl⟩ := dCmp_eq hd
      simp only [ev]
      exact se_cmp G (ha.s G c2) (hb.s G c3) (noSet_in c4)
theorem ok_chain {a b c : IR} (ha : OkE g L a) (hb : OkE g L b) (hc : OkE g L c) : OkE g L (.chain a b c) := fun X W sc fb N B e G k => by
  simp only [chk] at k
  cases hd : dCmp e with
  | none => rw [hd] at k; cases k
  | some t =>
    obtain ⟨x, ps, ys⟩ := t
    rw [hd] at k
    match ps, ys, hd, k with
    | [p, p'], [y, z], hd, k =>
      obtain ⟨k, k6⟩ := ba2 k
      obtain ⟨k, k5⟩ := ba2 k
      obtain ⟨k, k4⟩ := ba2 k
      obtain ⟨k, k3⟩ := ba2 k
      obtain ⟨k1, k2⟩ := ba2 k
      have := of_decide_eq_true k1
      subst this
      have := of_decide_eq_true k2
      subst this
      obtain ⟨pos, rfl⟩ := dCmp_eq hd
      simp only [ev]
      refine se_chain G (ha.s G k3) (hb.s G k4) (hc.s G k5) ?_
      show behindInMarks _ z = false
      exact noSet_in k6
theorem ok_isn {neg : Bool} {a : IR} (ha : OkE g L a) : OkE g L (.isn neg a) := fun X W sc fb N B e G k => by
  simp only [chk] at k
  cases hd : dCmp e with
  | none => rw [hd] at k; cases k
  | some t =>
    obtain ⟨x, ps, ys⟩ := t
    rw [hd] at k
    match ps, ys, hd, k with
    | [p], [y], hd, k =>
      obtain ⟨k, k3⟩ := ba2 k
      obtain ⟨k1, k2⟩ := ba2 k
      have := of_decide_eq_true k1
      subst this
      obtain ⟨j, p', rfl⟩ := dConst_eq (of_decide_eq_true k2)
      obtain ⟨pos, rfl⟩ := dCmp_eq hd
      simp only [ev]
      exact se_isn G (ha.s G k3)
theorem ok_bop {an : Bool} {es : List IR} (h : OkEs g L es) : OkE g L (.bop an es) := fun X W sc fb N B e G k => by
  simp only [chk] at k
  cases hd : dBool e with
  | none => rw [hd] at k; cases k
  | some t =>
    obtain ⟨p, fs⟩ := t
    rw [hd] at k
    obtain ⟨k, k3⟩ := ba2 k
    obtain ⟨k1, k2⟩ := ba2 k
    have := of_decide_eq_true k1
    subst this
    obtain ⟨pos, rfl⟩ := dBool_eq hd
    simp only [ev]
    obtain ⟨q1, q2, q3⟩ := (h X W sc fb N B fs G k2).2.2.2.2 (by intro z; rw [z] at k3; cases k3) an pos
    refine ⟨?_, q3.pt⟩
    cases hf : fls es with
    | true =>
      have : (IR.bop an es).kd = .full := kd_full (by simp only [IR.fl]; exact hf) rfl
      rw [this]
      exact q2 hf
    | false =>
      have : (IR.bop an es).kd = .shal := by
        unfold IR.kd
        simp only [IR.fl, IR.isNew, hf]
        rfl
      rw [this]
      exact q1
theorem ok_nt {a : IR} (ha : OkE g L a) : OkE g L (.nt a) := fun X W sc fb N B e G k => by
  simp only [chk] at k
  cases hd : dUn e with
  | none => rw [hd] at k; cases k
  | some t =>
    obtain ⟨o, x⟩ := t
    rw [hd] at k
    obtain ⟨k1, k2⟩ := ba2 k
    have := of_decide_eq_true k1
    subst this
    obtain ⟨pos, rfl⟩ := dUn_eq hd
    simp only [ev]
    exact se_not G (ha.s G k2) (ha.t G k2)
theorem pt_ite {c a b : Expr} {fc fa fb' : Ss.Env → M D} {pos : Pos} (hc : PT X c (tT g B W fun ρ => truM (fc ρ))) (ha : PT X a (tT g B W fun ρ => truM (fa ρ))) (hb : PT X b (tT g B W fun ρ => truM (fb' ρ))) :
    PT X (.IfExp c a b pos) (tT g B W fun ρ => truM (bnd (fc ρ) fun x => bnd (lft (tru x)) fun k => if k then fa ρ else fb' ρ)) := by
  refine ⟨fun pins s σ H Q I q => ?_⟩
  obtain ⟨ρ, F, T, n, R, q⟩ := q
  have e : truM (bnd (fc ρ) fun x => bnd (lft (tru x)) fun k => if k then fa ρ else fb' ρ) = bnd (truM (fc ρ)) fun k => if k then truM (fa ρ) else truM (fb' ρ) := by
    unfold truM
    rw [bnd_assoc, bnd_assoc]
    congr 1
    funext x
    rw [bnd_assoc]
    congr 1
    funext k
    cases k <;> rfl
  dsimp only at q
  rw [e] at q
  have h : tT g B W (fun ρ => truM (fc ρ)) σ H (fun k H1 => if k = true then tT g B W (fun ρ => truM (fa ρ)) σ H1 Q else tT g B W (fun ρ => truM (fb' ρ)) σ H1 Q) := by
    refine ⟨ρ, F, T, n, R, q.bnd.mono fun k n1 H1 F1 e1 t1 q1 => ?_⟩
    have R1 := R.step e1 t1
    cases k with
    | true => exact ⟨ρ, F1, T, n1, R1, q1⟩
    | false => exact ⟨ρ, F1, T, n1, R1, q1⟩
  refine PyProof.Rows.isTrue_IfExp (thn (hc.run pins s σ H _ I h) fun k s1 ⟨H1, I1, q1⟩ => ?_)
  cases k with
  | true => exact ha.run pins s1 σ H1 Q I1 q1
  | false => exact hb.run pins s1 σ H1 Q I1 q1
theorem ok_ite {c a b : IR} (hc : OkE g L c) (ha : OkE g L a) (hb : OkE g L b) : OkE g L (.ite c a b) := fun X W sc fb N B e G k => by
  simp only [chk] at k
  cases hd : dIf e with
  | none => rw [hd] at k; cases k
  | some t =>
    obtain ⟨x, y, z⟩ := t
    rw [hd] at k
    obtain ⟨k, k3⟩ := ba2 k
    obtain ⟨k1, k2⟩ := ba2 k
    obtain ⟨pos, rfl⟩ := dIf_eq hd
    simp only [ev]
    have main : ∀ kd, (kd = .full ∨ kd = .shal) → PE X y (tI g B W kd fun ρ => ev a ρ) → PE X z (tI g B W kd fun ρ => ev b ρ) →
        PE X (.IfExp x y z pos) (tI g B W kd fun ρ => bnd (ev c ρ) fun x => bnd (lft (tru x)) fun k => if k then ev a ρ else ev b ρ) := fun kd hk h1 h2 => se_ite hk (hc.t G k1) h1 h2
    cases hf : (a.fl && b.fl) with
    | true =>
      obtain ⟨f1, f2⟩ := ba2 hf
      have : (IR.ite c a b).kd = .full := kd_full (by simp only [IR.fl]; exact hf) rfl
      rw [this]
      exact ⟨main .full (.inl rfl) (ha.f G k2 f1) (hb.f G k3 f2), pt_ite (hc.t G k1) (ha.t G k2) (hb.t G k3)⟩
    | false =>
      have : (IR.ite c a b).kd = .shal := by
        unfold IR.kd
        simp only [IR.fl, IR.isNew, hf]
        rfl
      rw [this]
      exact ⟨main .shal (.inr rfl) (ha.s G k2) (hb.s G k3), pt_ite (hc.t G k1) (ha.t G k2) (hb.t G k3)⟩
theorem ok_idx {a b : IR} (ha : OkE g L a) (hb : OkE g L b) : OkE g L (.idx a b) := fun X W sc fb N B e G k => by
  simp only [chk] at k
  cases hd : dSub e with
  | none => rw [hd] at k; cases k
  | some t =>
    obtain ⟨x, y⟩ := t
    rw [hd] at k
    obtain ⟨k, k3⟩ := ba2 k
    obtain ⟨k1, k2⟩ := ba2 k
    obtain ⟨pos, rfl⟩ := dSub_eq hd
    simp only [ev]
    have q := se_idx (B := B) (pos := pos) G (ha.s G k1) (hb.s G k2) k3
    exact ⟨q, G.pt q fun _ => rfl⟩
theorem ok_slc {a : IR} {lo hi : Option IR} (ha : OkE g L a) (hl : OkO g L lo) (hh : OkO g L hi) : OkE g L (.slc a lo hi) := fun X W sc fb N B e G k => by
  simp only [chk] at k
  cases hd : dSub e with
  | none => rw [hd] at k; cases k
  | some t =>
    obtain ⟨x, y⟩ := t
    rw [hd] at k
    dsimp only at k
    cases hs : dSlc y with
    | none => rw [hs] at k; cases k
    | some t =>
      obtain ⟨l, h⟩ := t
      rw [hs] at k
      obtain ⟨k, k3⟩ := ba2 k
      obtain ⟨k1, k2⟩ := ba2 k
      obtain ⟨pos, rfl⟩ := dSub_eq hd
      obtain ⟨p2, rfl⟩ := dSlc_eq hs
      simp only [ev]
      have q := se_slc (B := B) (pos := pos) (p2 := p2) G (ha.s G k1) (hl X W sc fb N B l G k2) (hh X W sc fb N B h G k3)
      exact ⟨q, G.pt q fun _ => rfl⟩
theorem ok_call {f : Fn} (hf : FnG g L f) {es : List IR} (h : OkEs g L es) : OkE g L (.call f es) := fun X W sc fb N B e G k => by
  simp only [chk] at k
  cases hd : dCall e with
  | none => rw [hd] at k; cases k
  | some t =>
    obtain ⟨x, fs⟩ := t
    rw [hd] at k
    obtain ⟨k, k5⟩ := ba2 k
    obtain ⟨k, k4⟩ := ba2 k
    obtain ⟨k, k3⟩ := ba2 k
    obtain ⟨k1, k2⟩ := ba2 k
    have := of_decide_eq_true k1
    subst this
    obtain ⟨p, pos, rfl⟩ := dCall_eq hd
    simp only [ev]
    obtain ⟨h1, _, _, h4, _⟩ := h X W sc fb N B fs G k3
    cases fs with
    | nil => cases k5
    | cons a r =>
      have q := se_call (B := B) (p := p) (pos := pos) G hf (h4 k4) h1 k2
      exact ⟨q, G.pt q fun _ => rfl⟩
theorem ok_callv {i : Nat} {gs : List Fn} (hf : ∀ f ∈ gs, FnG g L f) {es : List IR} (h : OkEs g L es) : OkE g L (.callv i gs es) := fun X W sc fb N B e G k => by
  simp only [chk] at k
  cases hd : dCall e with
  | none => rw [hd] at k; cases k
  | some t =>
    obtain ⟨x, fs⟩ := t
    rw [hd] at k
    obtain ⟨k, k5⟩ := ba2 k
    obtain ⟨k, k4⟩ := ba2 k
    obtain ⟨k1, k3⟩ := ba2 k
    obtain ⟨p, pos, rfl⟩ := dCall_eq hd
    simp only [ev]
    obtain ⟨h1, _, _, h4, _⟩ := h X W sc fb N B fs G k3
    cases fs with
    | nil => cases k5
    | cons a r =>
      have q := se_callv (B := B) (p := p) (pos := pos) G hf (h4 k4) h1 k1
      exact ⟨q, G.pt q fun _ => rfl⟩
theorem ok_bi {b : Bi} {es : List IR} (h : OkEs g L es) : OkE g L (.bi b es) := fun X W sc fb N B e G k => by
  simp only [chk] at k
  cases hd : dCall e with
  | none => rw [hd] at k; cases k
  | some t =>
    obtain ⟨x, fs⟩ := t
    rw [hd] at k
    obtain ⟨k, k5⟩ := ba2 k
    obtain ⟨k, k3⟩ := ba2 k
    obtain ⟨k1, k2⟩ := ba2 k
    have := of_decide_eq_true k1
    subst this
    obtain ⟨p, pos, rfl⟩ := dCall_eq hd
    simp only [ev]
    obtain ⟨h1, _, h3, _, _⟩ := h X W sc fb N B fs G k3
    cases fs with
    | nil => cases k5
    | cons a r =>
      have q := se_bi (B := B) (b := b) (p := p) (pos := pos) G h3 h1 k2
      have e : (IR.bi b es).kd = b.kd := by cases b <;> rfl
      rw [e]
      exact ⟨q, G.pt q fun _ => rfl⟩
theorem ok_isi {t : Ty} {a : IR} (ha : OkE g L a) : OkE g L (.isi t a) := fun X W sc fb N B e G k => by
  simp only [chk] at k
  cases hd : dCall2 "isinstance" e with
  | none => rw [hd] at k; cases k
  | some p =>
    obtain ⟨y, z⟩ := p
    rw [hd] at k
    obtain ⟨k, k5⟩ := ba2 k
    obtain ⟨k, k4⟩ := ba2 k
    obtain ⟨k, k3⟩ := ba2 k
    obtain ⟨k1, k2⟩ := ba2 k
    obtain ⟨p2, rfl⟩ := dName_eq (of_decide_eq_true k1)
    obtain ⟨p, pos, rfl⟩ := dCall2_eq hd
    simp only [ev]
    have q := se_isi (B := B) (t := t) (p := p) (p2 := p2) (pos := pos) G (ha.s G k4) k5 k2 k3
    exact ⟨q, G.pt q fun _ => rfl⟩
theorem ok_lens {a : IR} (ha : OkE g L a) : OkE g L (.lens a) := fun X W sc fb N B e G k => by
  simp only [chk] at k
  cases hd : dNest1 "len" "set" e with
  | none => rw [hd] at k; cases k
  | some z =>
    rw [hd] at k
    obtain ⟨k, k4⟩ := ba2 k
    obtain ⟨k, k3⟩ := ba2 k
    obtain ⟨k1, k2⟩ := ba2 k
    obtain ⟨p, pos, p2, q2, rfl⟩ := dNest1_eq hd
    simp only [ev]
    have q := se_lens (B := B) (p := p) (p2 := p2) (q := q2) (pos := pos) G (ha.s G k1) k2 k3 k4
    exact ⟨q, G.pt q fun _ => rfl⟩
theorem ok_join {z a : IR} (hz : OkE g L z) (ha : OkE g L a) : OkE g L (.join z a) := fun X W sc fb N B e G k => by
  simp only [chk] at k
  cases hd : dMeth e with
  | none => rw [hd] at k; cases k
  | some t =>
    obtain ⟨o, m, fs⟩ := t
    rw [hd] at k
    match fs, hd, k with
    | [y], hd, k =>
      obtain ⟨k, k5⟩ := ba2 k
      obtain ⟨k, k4⟩ := ba2 k
      obtain ⟨k, k3⟩ := ba2 k
      obtain ⟨k1, k2⟩ := ba2 k
      have := of_decide_eq_true k1
      subst this
      obtain ⟨ap, pos, rfl, hl⟩ := dMeth_eq hd
      simp only [ev]
      have q := se_join (B := B) (apos := ap) (pos := pos) (hz.s G k2) (ha.s G k3) k4 k5 hl
      exact ⟨q, G.pt q fun _ => rfl⟩
theorem ok_ixm {z a : IR} (hz : OkE g L z) (ha : OkE g L a) : OkE g L (.ixm z a) := fun X W sc fb N B e G k => by
  simp only [chk] at k
  cases hd : dMeth e with
  | none => rw [hd] at k; cases k
  | some t =>
    obtain ⟨o, m, fs⟩ := t
    rw [hd] at k
    match fs, hd, k with
    | [y], hd, k =>
      obtain ⟨k, k5⟩ := ba2 k
      obtain ⟨k, k4⟩ := ba2 k
      obtain ⟨k, k3⟩ := ba2 k
      obtain ⟨k1, k2⟩ := ba2 k
      have := of_decide_eq_true k1
      subst this
      obtain ⟨ap, pos, rfl, hl⟩ := dMeth_eq hd
      simp only [ev]
      have q := se_ixm (B := B) (apos := ap) (pos := pos) G (hz.s G k2) (ha.s G k3) k4 k5 hl
      exact ⟨q, G.pt q fun _ => rfl⟩
theorem ok_tlen {i : Nat} : OkE g L (.tlen i) := fun X W sc fb N B e G k => by
  simp only [chk] at k
  cases hd : dCall1 "len" e with
  | none => rw [hd] at k; cases k
  | some y =>
    rw [hd] at k
    dsimp only at k
    cases hn : dName y with
    | none => rw [hn] at k; cases k
    | some z =>
      rw [hn] at k
      obtain ⟨k1, k2⟩ := ba2 k
      obtain ⟨p2, rfl⟩ := dName_eq hn
      obtain ⟨p, pos, rfl⟩ := dCall1_eq hd
      simp only [ev]
      have q := se_tlen (B := B) (p := p) (p2 := p2) (pos := pos) G k2 k1
      exact ⟨q, G.pt q fun _ => rfl⟩
theorem ok_dkl {i : Nat} : OkE g L (.dkl i) := fun X W sc fb N B e G k => by
  simp only [chk] at k
  cases hd : dLk e with
  | none => rw [hd] at k; cases k
  | some x =>
    rw [hd] at k
    obtain ⟨k1, k2⟩ := ba2 k
    obtain ⟨p, p2, ap, cp, pos, rfl, hl⟩ := dLk_eq hd
    simp only [ev]
    have q := se_dkl (B := B) (p := p) (p2 := p2) (ap := ap) (cp := cp) (pos := pos) G k1 k2 hl
    exact ⟨q, G.pt q fun _ => rfl⟩
theorem ok_neg {a : IR} (ha : OkE g L a) : OkE g L (.neg a) := fun X W sc fb N B e G k => by
  simp only [chk] at k
  cases hd : dUn e with
  | none => rw [hd] at k; cases k
  | some t =>
    obtain ⟨o, x⟩ := t
    rw [hd] at k
    obtain ⟨k1, k2⟩ := ba2 k
    obtain ⟨p, rfl⟩ := dUn_eq hd
    have := of_decide_eq_true k1
    subst this
    simp only [ev]
    have q := se_neg (B := B) (pos := p) G (ha.s G k2)
    exact ⟨q, G.pt q fun _ => rfl⟩
theorem ok_rev {a : IR} (ha : OkE g L a) : OkE g L (.rev a) := fun X W sc fb N B e G k => by
  simp only [chk] at k
  cases hd : dRev e with
  | none => rw [hd] at k; cases k
  | some x =>
    rw [hd] at k
    obtain ⟨j, p1, p2, p3, pos, rfl⟩ := dRev_eq hd
    simp only [ev]
    have q := se_rev (B := B) (k := j) (p1 := p1) (p2 := p2) (p3 := p3) (pos := pos) G (ha.s G k)
    exact ⟨q, G.pt q fun _ => rfl⟩
theorem ok_revt {a : IR} (ha : OkE g L a) : OkE g L (.revt a) := fun X W sc fb N B e G k => by
  simp only [chk] at k
  cases hd : dRev e with
  | none => rw [hd] at k; cases k
  | some x =>
    rw [hd] at k
    obtain ⟨j, p1, p2, p3, pos, rfl⟩ := dRev_eq hd
    simp only [ev]
    have q := se_revt (B := B) (k := j) (p1 := p1) (p2 := p2) (p3 := p3) (pos := pos) G (ha.s G k)
    exact ⟨q, G.pt q fun _ => rfl⟩
theorem evL_evs {ρ : Ss.Env} : ∀ es : List IR, evL ρ (es.map fun b ρ => ev b ρ) = evs es ρ
  | [] => by simp only [List.map_nil, evL, evs]
  | e :: es => by simp only [List.map_cons, evL, evs, evL_evs es]
theorem pvs_of (G : Gud g X W sc fb N L) : ∀ {es : List IR} {vs : List Expr}, (∀ b ∈ es, OkE g L b) → chks N es sc vs = true → fls es = true → PVs X g B W vs (es.map fun b ρ => ev b ρ) ∧ vs.length = es.length
  | [], vs, _, k, _ => by
    simp only [chks] at k
    cases vs with
    | nil => exact ⟨.nil, rfl⟩
    | cons _ _ => cases k
  | e :: es, [], _, k, _ => by simp [chks] at k
  | e :: es, v :: vs, h, k, f => by
    simp only [chks, Bool.and_eq_true] at k
    simp only [fls, Bool.and_eq_true] at f
    obtain ⟨h1, h2⟩ := pvs_of G (fun b hb => h b (List.mem_cons_of_mem _ hb)) k.2 f.2
    exact ⟨.cons ((h e List.mem_cons_self).f G k.1.1 f.1) h1, by simp [h2]⟩
theorem ok_dsel {ks : List Str} {es : List IR} {a : IR} (all : ∀ b ∈ es, OkE g L b) (ha : OkE g L a) : OkE g L (.dsel ks es a) := fun X W sc fb N B e G k => by
  simp only [chk] at k
  cases hd : dSub e with
  | none => rw [hd] at k; cases k
  | some t =>
    obtain ⟨d, y⟩ := t
    rw [hd] at k
    dsimp only at k
    cases hs : dDic d with
    | none => rw [hs] at k; cases k
    | some t =>
      obtain ⟨kes, vs⟩ := t
      rw [hs] at k
      simp only [Bool.and_eq_true, decide_eq_true_eq] at k
      obtain ⟨⟨⟨⟨⟨⟨⟨⟨k1, k2⟩, k3⟩, k4⟩, k5⟩, k6⟩, k7⟩, k8⟩, k9⟩ := k
      obtain ⟨pos, rfl⟩ := dSub_eq hd
      obtain ⟨p, rfl⟩ := dDic_eq hs
      obtain ⟨pv, l⟩ := pvs_of (B := B) G all k2 k3
      simp only [ev]
      have q := se_dsel (B := B) (p := p) (pos := pos) G k1 pv k9 (by rw [List.length_map]; omega) k6 k7 k8 (ha.s G k4) k5
      simp only [evL_evs] at q
      exact ⟨q, G.pt q fun _ => rfl⟩
theorem ok_dgi {i : Nat} {a : IR} (ha : OkE g L a) : OkE g L (.dgi i a) := fun X W sc fb N B e G k => by
  simp only [chk] at k
  cases hd : dSub e with
  | none => rw [hd] at k; cases k
  | some t =>
    obtain ⟨o, y⟩ := t
    rw [hd] at k
    dsimp only at k
    cases hs : dName o with
    | none => rw [hs] at k; cases k
    | some x =>
      rw [hs] at k
      simp only [Bool.and_eq_true] at k
      obtain ⟨⟨⟨k1, k2⟩, k3⟩, k4⟩ := k
      obtain ⟨pos, rfl⟩ := dSub_eq hd
      obtain ⟨p, rfl⟩ := dName_eq hs
      simp only [ev]
      have q := se_dgi (B := B) (p := p) (pos := pos) G k1 (ha.f G k2 k3) (nslB_ok k4)
      exact ⟨q, G.pt q fun _ => rfl⟩
theorem ok_nil : OkEs g L [] := fun X W sc fb N B es G k => by
  simp only [chks] at k
  cases es with
  | nil =>
    simp only [evs]
    exact ⟨rfl, rfl, sa_nil, fun _ => sa_nil, fun z => absurd rfl z⟩
  | cons _ _ => cases k
theorem ok_cons {a : IR} {as : List IR} (ha : OkE g L a) (has : OkEs g L as) : OkEs g L (a :: as) := fun X W sc fb N B es G k => by
  simp only [chks] at k
  cases es with
  | nil => cases k
  | cons e es =>
    obtain ⟨k, k3⟩ := ba2 k
    obtain ⟨k1, k2⟩ := ba2 k
    obtain ⟨h1, h2, h3, h4, h5⟩ := has X W sc fb N B es G k3
    refine ⟨?_, by simp [h2], ?_, ?_, ?_⟩
    · simp only [nsts, List.all_cons, Bool.and_eq_true]; exact ⟨k2, h1⟩
    · simp only [evs]
      exact sa_cons (ha.s G k1) (.inr rfl) h3 k2
    · intro f
      simp only [fls] at f
      obtain ⟨f1, f2⟩ := ba2 f
      simp only [evs]
      exact sa_cons (ha.f G k1 f1) (.inl rfl) (h4 f2) k2
    · intro _ an pos
      cases as with
      | nil =>
        have : es = [] := by cases es with
          | nil => rfl
          | cons _ _ => simp at h2
        subst this
        simp only [evb]
        refine ⟨se_bop1 (ha.s G k1), fun f => ?_, sw_bop1 (ha.t G k1)⟩
        simp only [fls] at f
        exact se_bop1 (ha.f G k1 (ba2 f).1)
      | cons b bs =>
        cases es with
        | nil => simp at h2
        | cons e2 es2 =>
          obtain ⟨q1, q2, q3⟩ := h5 (by simp) an pos
          simp only [evb]
          refine ⟨se_bop G (.inr rfl) (ha.s G k1) q1, fun f => ?_, sw_bop (ha.t G k1) q3⟩
          simp only [fls] at f
          obtain ⟨f1, f2⟩ := ba2 f
          exact se_bop G (.inl rfl) (ha.f G k1 f1) (q2 (by simp only [fls]; exact f2))
theorem ok_lrng {es : List IR} (h : oks g L es) (all : ∀ a ∈ es, OkE g L a) : OkE g L (.lrng es) := fun X W sc fb N B e G k => by
  simp only [chk] at k
  cases hd : dNest "list" "range" e with
  | none => rw [hd] at k; cases k
  | some gs =>
    rw [hd] at k
    obtain ⟨k, k4⟩ := ba2 k
    obtain ⟨k, k3⟩ := ba2 k
    obtain ⟨k1, k2⟩ := ba2 k
    obtain ⟨p, pos, p2, q2, rfl⟩ := dNest_eq hd
    have l := of_decide_eq_true k4
    match gs, l, k1 with
    | [z], l, k1 =>
      cases es with
      | nil => simp [chks] at k1
      | cons a as =>
        simp only [chks] at k1
        obtain ⟨k5, k6⟩ := ba2 k1
        obtain ⟨k7, k8⟩ := ba2 k5
        cases as with
        | cons b bs => simp [chks] at k6
        | nil =>
          simp only [ev, evs]
          have q := se_lrng1 (B := B) (p := p) (p2 := p2) (q := q2) (pos := pos) G ((all a (by simp)).s G k7) k8 k2 k3
          exact ⟨q, G.pt q fun _ => rfl⟩
theorem ok_none : OkO g L none := fun X W sc fb N B e G k => by
  simp only [chko] at k
  cases e with
  | none => simp only [evo]; exact so_none
  | some _ => cases k
theorem ok_some {a : IR} (ha : OkE g L a) : OkO g L (some a) := fun X W sc fb N B e G k => by
  simp only [chko] at k
  cases e with
  | none => cases k
  | some e => simp only [evo]; exact so_some (ha.s G k)
/-- what is walked -/
theorem pvk_of (G : Gud g X W sc fb N L) {kd : Kd} (hk : kd = .full ∨ kd = .shal) : ∀ {es : List IR} {vs : List Expr}, (∀ b ∈ es, OkE g L b) → chks N es sc vs = true → (kd = .full → fls es = true) → PVk X g B W kd vs (es.map fun b ρ => ev b ρ)
  | [], vs, _, k, _ => by
    simp only [chks] at k
    cases vs with
    | nil => exact .nil
    | cons _ _ => cases k
  | e :: es, [], _, k, _ => by simp [chks] at k
  | e :: es, v :: vs, h, k, f => by
    simp only [chks, Bool.and_eq_true] at k
    have f1 : kd = .full → e.fl = true ∧ fls es = true := fun z => by have := f z; simpa only [fls, Bool.and_eq_true] using this
    refine .cons ?_ k.1.2 (pvk_of G hk (fun b hb => h b (List.mem_cons_of_mem _ hb)) k.2 fun z => (f1 z).2)
    rcases hk with rfl | rfl
    · exact (h e List.mem_cons_self).f G k.1.1 (f1 rfl).1
    · exact (h e List.mem_cons_self).s G k.1.1
theorem ok_px {x : Px} {es : List IR} (hx : PxOk g L x) (all : ∀ b ∈ es, OkE g L b) : OkE g L (.px x es) := fun X W sc fb N B e G k => by
  simp only [chk] at k
  obtain ⟨k0, k⟩ := ba2 k
  cases hd : x.dec sc e with
  | none => rw [hd] at k; cases k
  | some fs =>
    rw [hd] at k
    obtain ⟨k1, k2⟩ := ba2 k
    have pv : PVk X g B W x.kd fs (es.map fun b ρ => ev b ρ) := by
      unfold Px.kd
      cases hf : x.fl with
      | true => exact pvk_of G (.inl rfl) all k1 fun _ => by rw [hf] at k2; simpa using k2
      | false => exact pvk_of G (.inr rfl) all k1 fun z => by cases z
    have q := hx X W sc fb N B e fs _ G k0 hd pv
    have ee : ∀ ρ, evPL x.pre ρ (es.map fun b ρ => ev b ρ) = evp x.pre es ρ := fun ρ => by
      cases es with
      | nil => simp only [List.map_nil, evPL, evp]
      | cons a as => simp only [List.map_cons, evPL, evp, evL_evs]
    simp only [ee] at q
    simp only [ev]
    exact q
theorem ok_pxn {x : Px} {es : List IR} (hx : PnOk g L x) (all : ∀ b ∈ es, OkE g L b) : OkE g L (.pxn x es) := fun X W sc fb N B e G k => by
  simp only [chk] at k
  obtain ⟨k0, k⟩ := ba2 k
  cases hd : x.dec sc e with
  | none => rw [hd] at k; cases k
  | some fs =>
    rw [hd] at k
    obtain ⟨k1, k2⟩ := ba2 k
    have pv : PVk X g B W x.kd fs (es.map fun b ρ => ev b ρ) := by
      unfold Px.kd
      cases hf : x.fl with
      | true => exact pvk_of G (.inl rfl) all k1 fun _ => by rw [hf] at k2; simpa using k2
      | false => exact pvk_of G (.inr rfl) all k1 fun z => by cases z
    have q := hx X W sc fb N B e fs _ G k0 hd pv
    have ee : ∀ ρ, evPL x.pre ρ (es.map fun b ρ => ev b ρ) = evp x.pre es ρ := fun ρ => by
      cases es with
      | nil => simp only [List.map_nil, evPL, evp]
      | cons a as => simp only [List.map_cons, evPL, evp, evL_evs]
    simp only [ee] at q
    simp only [ev]
    exact q
theorem ok_it {it : IR} (hi : OkE g L it) (hes : ∀ es, it = .rng es → ∀ a ∈ es, OkE g L a) (hxs : ∀ x es, it = .itx x es → IxOk g L x ∧ ∀ a ∈ es, OkE g L a) {st : Bool} (hst : st = true → it.fl = true) {tgE iter : Expr} (G : Gud g X W sc fb N L) (k : chki N it sc iter = true) :
    PI X tgE iter (iI g B W st fun ρ => evi it ρ) := by
  unfold chki at k
  obtain ⟨_, k⟩ := ba2 k
  have plain : chk N it sc iter = true → PI X tgE iter (iI g B W st fun ρ => bnd (ev it ρ) fun x => lft (items x)) := fun k => by
    cases st with
    | false => exact si_seq G (hi.s G k) false (fun z => nomatch z)
    | true => exact si_seq G (hi.f G k (hst rfl)) true (fun _ => rfl)
  cases it with
  | rng es =>
    dsimp only at k
    cases hd : dCall iter with
    | none => rw [hd] at k; cases k
    | some t =>
      obtain ⟨y, zs⟩ := t
      rw [hd] at k
      obtain ⟨k, k4⟩ := ba2 k
      obtain ⟨k, k3⟩ := ba2 k
      obtain ⟨k1, k2⟩ := ba2 k
      have := of_decide_eq_true k1
      subst this
      obtain ⟨p, pos, rfl⟩ := dCall_eq hd
      have l := of_decide_eq_true k4
      have hes := hes es rfl
      simp only [evi]
      match zs, l, k3 with
      | [z], _, k3 =>
        cases es with
        | nil => simp [chks] at k3
        | cons a as =>
          simp only [chks] at k3
          obtain ⟨k5, k6⟩ := ba2 k3
          obtain ⟨k7, k8⟩ := ba2 k5
          cases as with
          | cons b bs => simp [chks] at k6
          | nil =>
            simp only [evs]
            exact si_rng1 G ((hes a (by simp)).s G k7) k8 k2
      | [z, z'], _, k3 =>
        cases es with
        | nil => simp [chks] at k3
        | cons a as =>
          simp only [chks] at k3
          obtain ⟨k5, k6⟩ := ba2 k3
          obtain ⟨k7, k8⟩ := ba2 k5
          cases as with
          | nil => simp [chks] at k6
          | cons b bs =>
            simp only [chks] at k6
            obtain ⟨k9, k10⟩ := ba2 k6
            obtain ⟨k11, k12⟩ := ba2 k9
            cases bs with
            | cons b bs => simp [chks] at k10
            | nil =>
              simp only [evs]
              exact si_rng2 G ((hes a (by simp)).s G k7) ((hes b (by simp)).s G k11) k8 k12 k2
      | [], l, _ => simp at l
      | _ :: _ :: _ :: _, l, _ => simp at l
  | itx x es =>
    dsimp only at k
    cases hd : x.dec sc iter with
    | none => rw [hd] at k; cases k
    | some zs =>
      rw [hd] at k
      obtain ⟨k1, k2⟩ := ba2 k
      obtain ⟨h1, h2⟩ := hxs x es rfl
      have q := h1 X W sc fb N B st tgE iter zs _ G hd (pvk_of G (.inl rfl) h2 k1 fun _ => k2)
      simp only [evL_evs] at q
      simp only [evi]
      exact q
  | _ => exact plain k
theorem pts_of {ifs : List IR} {fs : List Expr} (h : OkEs g L ifs) (hl : ifs.length ≤ 1) (all : ∀ a ∈ ifs, OkE g L a) (G : Gud g X W sc fb N L) (k : chks N ifs sc fs = true) : PTs X fs (tT g B W fun ρ => truM (evb true ifs ρ)) := by
  cases ifs with
  | nil =>
    simp only [chks] at k
    cases fs with
    | cons _ _ => cases k
    | nil =>
      refine ⟨fun pins s σ H Q I q => ?_⟩
      refine pts_nil.run pins s σ H Q I ?_
      obtain ⟨ρ, F, T, n, R, q⟩ := q
      simp only [evb] at q
      exact q H F Ev.refl R.tw
  | cons a as =>
    cases as with
    | cons _ _ => simp at hl
    | nil =>
      simp only [chks] at k
      cases fs with
      | nil => cases k
      | cons f fs =>
        obtain ⟨k1, k2⟩ := ba2 k
        cases fs with
        | cons _ _ => simp [chks] at k2
        | nil =>
          simp only [evb]
          exact pts_one ((all a (by simp)).t G (ba2 k1).1)
/-- the parts of a comprehension -/
structure CmpOk (g : Gd) (L : Nat) (elt it : IR) (ifs : List IR) : Prop where
  e : OkE g L elt
  i : OkE g L it
  r : ∀ es, it = .rng es → ∀ a ∈ es, OkE g L a
  x : ∀ x es, it = .itx x es → IxOk g L x ∧ ∀ a ∈ es, OkE g L a
  f : OkEs g L ifs
  fa : ∀ a ∈ ifs, OkE g L a
theorem lcF_eq {elt : IR} {tg : Tg} {it : IR} {ifs : List IR} {vs : List Nat} {ρ : Ss.Env} : ev (.comp elt tg it ifs vs) ρ = bnd (evi it ρ) fun ds => bnd (lcs (lcF tg (fun ρ => evb true ifs ρ) (fun ρ => ev elt ρ) (wip ρ vs)) ds) fun xs => ret (.lst xs) := by
  cases it <;> simp only [ev, evi] <;> rfl
theorem ok_comp {elt : IR} {tg : Tg} {it : IR} {ifs : List IR} {vs : List Nat} (h : CmpOk g L elt it ifs) : OkE g L (.comp elt tg it ifs vs) := fun X W sc fb N B e G k => by
  simp only [chk] at k
  cases hd : dComp e with
  | none => rw [hd] at k; cases k
  | some t =>
    obtain ⟨f, t, iter, fs, scope⟩ := t
    rw [hd] at k
    obtain ⟨k, k9⟩ := ba2 k
    obtain ⟨k, k8⟩ := ba2 k
    obtain ⟨k, k7⟩ := ba2 k
    obtain ⟨k, k6⟩ := ba2 k
    obtain ⟨k, k5⟩ := ba2 k
    obtain ⟨k, k4⟩ := ba2 k
    obtain ⟨k, k3⟩ := ba2 k
    obtain ⟨k1, k2⟩ := ba2 k
    obtain ⟨pos, rfl⟩ := dComp_eq hd
    have hi : PI X t iter (iI g B W false fun ρ => evi it ρ) := ok_it (st := false) h.i h.r h.x (by intro z; cases z) G (by unfold chki; rw [k8]; exact k9)
    have q := se_comp (B := B) (tg := tg) (own := ownOf N vs) (pos := pos) (ifs := fs) (elt := f) (fts := fun ρ => evb true ifs ρ) (fe := fun ρ => ev elt ρ) G hi (blkB_ok k1) (fun X' G' => sg G' k2) (fun X' G' => pts_of h.f (of_decide_eq_true k5) h.fa G' k4) (fun X' G' => h.e.f G' k6 k7)
      (fun i hi => by
        rw [ownOf_snd]
        have := List.all_eq_true.mp k3 i hi
        simpa using this) (noSet_fold k8)
    rw [ownOf_snd] at q
    have e1 : (fun ρ => ev (.comp elt tg it ifs vs) ρ) = fun ρ => bnd (evi it ρ) fun ds => bnd (lcs (lcF tg (fun ρ => evb true ifs ρ) (fun ρ => ev elt ρ) (wip ρ vs)) ds) fun xs => ret (.lst xs) := funext fun ρ => lcF_eq
    have q' : PE X (.ListComp f [⟨t, iter, fs, 0⟩] scope pos) (tI g B W .new fun ρ => ev (.comp elt tg it ifs vs) ρ) := by rw [e1]; exact q
    exact ⟨q', G.pt q' fun _ => rfl⟩
end
/-! ### every expression -/
structure Ok2 (g : Gd) (L : Nat) (a : IR) : Prop where
  e : OkE g L a
  r : ∀ es, a = .rng es → ∀ b ∈ es, OkE g L b
  x : ∀ x es, a = .itx x es → IxOk g L x ∧ ∀ b ∈ es, OkE g L b
structure Oks2 (g : Gd) (L : Nat) (as : List IR) : Prop where
  e : OkEs g L as
  a : ∀ b ∈ as, OkE g L b
theorem Ok2.of {g : Gd} {L : Nat} {a : IR} (h : OkE g L a) (n : ∀ es, a ≠ .rng es) (m : ∀ x es, a ≠ .itx x es := by intro _ _ e; cases e) : Ok2 g L a := ⟨h, fun es e => absurd e (n es), fun x es e => absurd e (m x es)⟩
mutual
theorem okE (g : Gd) (L : Nat) : ∀ a : IR, a.ok g L → Ok2 g L a
  | .var _, _ => .of ok_var (by intro _ e; cases e)
  | .own _, _ => .of ok_own (by intro _ e; cases e)
  | .lit _, _ => .of ok_lit (by intro _ e; cases e)
  | .glob _ _, h => .of (ok_glob (by simpa only [IR.ok] using h)) (by intro _ e; cases e)
  | .tup es, h => .of (ok_tup (okEs g L es (by simpa only [IR.ok] using h)).e) (by intro _ e; cases e)
  | .lst es, h => .of (ok_lst (okEs g L es (by simpa only [IR.ok] using h)).e) (by intro _ e; cases e)
  | .op _ a b, h => .of (ok_op (okE g L a (by simp only [IR.ok] at h; exact h.1)).e (okE g L b (by simp only [IR.ok] at h; exact h.2)).e) (by intro _ e; cases e)
  | .cmp _ a b, h => .of (ok_cmp (okE g L a (by simp only [IR.ok] at h; exact h.1)).e (okE g L b (by simp only [IR.ok] at h; exact h.2)).e) (by intro _ e; cases e)
  | .chain a b c, h => .of (ok_chain (okE g L a (by simp only [IR.ok] at h; exact h.1)).e (okE g L b (by simp only [IR.ok] at h; exact h.2.1)).e (okE g L c (by simp only [IR.ok] at h; exact h.2.2)).e) (by intro _ e; cases e)
  | .isn _ a, h => .of (ok_isn (okE g L a (by simpa only [IR.ok] using h)).e) (by intro _ e; cases e)
  | .bop _ es, h => .of (ok_bop (okEs g L es (by simpa only [IR.ok] using h)).e) (by intro _ e; cases e)
  | .nt a, h => .of (ok_nt (okE g L a (by simpa only [IR.ok] using h)).e) (by intro _ e; cases e)
  | .ite c a b, h => .of (ok_ite (okE g L c (by simp only [IR.ok] at h; exact h.1)).e (okE g L a (by simp only [IR.ok] at h; exact h.2.1)).e (okE g L b (by simp only [IR.ok] at h; exact h.2.2)).e) (by intro _ e; cases e)
  | .idx a b, h => .of (ok_idx (okE g L a (by simp only [IR.ok] at h; exact h.1)).e (okE g L b (by simp only [IR.ok] at h; exact h.2)).e) (by intro _ e; cases e)
  | .slc a lo hi, h => .of (ok_slc (okE g L a (by simp only [IR.ok] at h; exact h.1)).e (okO g L lo (by simp only [IR.ok] at h; exact h.2.1)) (okO g L hi (by simp only [IR.ok] at h; exact h.2.2))) (by intro _ e; cases e)
  | .call f es, h => .of (ok_call (by simp only [IR.ok] at h; exact h.1) (okEs g L es (by simp only [IR.ok] at h; exact h.2)).e) (by intro _ e; cases e)
  | .callv _ gs es, h => .of (ok_callv (by simp only [IR.ok] at h; exact h.1) (okEs g L es (by simp only [IR.ok] at h; exact h.2)).e) (by intro _ e; cases e)
  | .bi _ es, h => .of (ok_bi (okEs g L es (by simpa only [IR.ok] using h)).e) (by intro _ e; cases e)
  | .isi _ a, h => .of (ok_isi (okE g L a (by simpa only [IR.ok] using h)).e) (by intro _ e; cases e)
  | .lens a, h => .of (ok_lens (okE g L a (by simpa only [IR.ok] using h)).e) (by intro _ e; cases e)
  | .join z a, h => .of (ok_join (okE g L z (by simp only [IR.ok] at h; exact h.1)).e (okE g L a (by simp only [IR.ok] at h; exact h.2)).e) (by intro _ e; cases e)
  | .ixm z a, h => .of (ok_ixm (okE g L z (by simp only [IR.ok] at h; exact h.1)).e (okE g L a (by simp only [IR.ok] at h; exact h.2)).e) (by intro _ e; cases e)
  | .rng es, h => ⟨fun X W sc fb N B e G k => (by simp [chk] at k), fun es' e b hb => (okEs g L es (by simpa only [IR.ok] using h)).a b (by cases e; exact hb), (fun _ _ e => by cases e)⟩
  | .itx x es, h => ⟨fun X W sc fb N B e G k => (by simp [chk] at k), (fun _ e => by cases e), fun x' es' e => (by cases e; exact ⟨(by simp only [IR.ok] at h; exact h.1), (okEs g L es (by simp only [IR.ok] at h; exact h.2)).a⟩)⟩
  | .pxn x es, h => .of (ok_pxn (by simp only [IR.ok] at h; exact h.1) (okEs g L es (by simp only [IR.ok] at h; exact h.2)).a) (by intro _ e; cases e)
  | .px x es, h => .of (ok_px (by simp only [IR.ok] at h; exact h.1) (okEs g L es (by simp only [IR.ok] at h; exact h.2)).a) (by intro _ e; cases e)
  | .lrng es, h => .of (ok_lrng (by simpa only [IR.ok] using h) (okEs g L es (by simpa only [IR.ok] using h)).a) (by intro _ e; cases e)
  | .tlen _, _ => .of ok_tlen (by intro _ e; cases e)
  | .dkl _, _ => .of ok_dkl (by intro _ e; cases e)
  | .neg a, h => .of (ok_neg (okE g L a (by simpa only [IR.ok] using h)).e) (by intro _ e; cases e)
  | .rev a, h => .of (ok_rev (okE g L a (by simpa only [IR.ok] using h)).e) (by intro _ e; cases e)
  | .revt a, h => .of (ok_revt (okE g L a (by simpa only [IR.ok] using h)).e) (by intro _ e; cases e)
  | .dsel _ es a, h => .of (ok_dsel (okEs g L es (by simp only [IR.ok] at h; exact h.1)).a (okE g L a (by simp only [IR.ok] at h; exact h.2)).e) (by intro _ e; cases e)
  | .dgi _ a, h => .of (ok_dgi (okE g L a (by simpa only [IR.ok] using h)).e) (by intro _ e; cases e)
  | .comp elt tg it ifs vs, h =>
    .of (ok_comp ⟨(okE g L elt (by simp only [IR.ok] at h; exact h.1)).e, (okE g L it (by simp only [IR.ok] at h; exact h.2.1)).e, (okE g L it (by simp only [IR.ok] at h; exact h.2.1)).r, (okE g L it (by simp only [IR.ok] at h; exact h.2.1)).x, (okEs g L ifs (by simp only [IR.ok] at h; exact h.2.2)).e, (okEs g L ifs (by simp only [IR.ok] at h; exact h.2.2)).a⟩) (by intro _ e; cases e)
theorem okEs (g : Gd) (L : Nat) : ∀ as : List IR, oks g L as → Oks2 g L as
  | [], _ => ⟨ok_nil, fun _ z => nomatch z⟩
  | a :: as, h => ⟨ok_cons (okE g L a (by simp only [oks] at h; exact h.1)).e (okEs g L as (by simp only [oks] at h; exact h.2)).e, fun b hb =>
    (List.mem_cons.mp hb).elim (fun e => by rw [e]; exact (okE g L a (by simp only [oks] at h; exact h.1)).e) ((okEs g L as (by simp only [oks] at h; exact h.2)).a b)⟩
theorem okO (g : Gd) (L : Nat) : ∀ a : Option IR, oko g L a → OkO g L a
  | none, _ => ok_none
  | some a, h => ok_some (okE g L a (by simpa only [oko] using h)).e
end
end Ss
/-! Ss, part K: statements of the small language, and what they come to. -/
namespace Ss
open PySem L2
inductive Stm where
  | set (tg : Tg) (e : IR) | seto (i : Nat) (e : IR)
  | app (i : Nat) (e : IR) | rem (i : Nat) (e : IR) | tapp (i : Nat)
  | exp (e : IR) | ifs (c : IR) (a b : List Stm) | for (tg : Tg) (it : IR) (body : List Stm)
  | ret (e : IR) | rai (c : Str) | pas | frz (i : Nat)
  | dnw (i : Nat) | dpt (i : Nat) (k v : IR) | frd (i : Nat)
  | whl (m : Nat) (c : IR) (b : List Stm) | ext (i : Nat) (e : IR) | par (i j : Nat) (a b : IR)
  | sx (x : Sx) (es : List IR) | cnt | fzo (i : Nat)
  | tryV (b : List Stm) (c : Str) (i j : Nat) | tryK (b : List Stm) (c : Str) (j : Nat) (d : D)

/-! ### statements -/
inductive Fl where
  | nx (ρ : Env) | rt (d : D) | ex (c : Str) (ρ : Env) | ct (ρ : Env)
/-- an expression's end, in a statement that goes on with it -/
def stp {α : Type} (ρ : Env) (m : M α) (k : α → M Fl) : M Fl := fun n => match m n with
  | .ok a n' => k a n'
  | .exc c n' => .ok (.ex c ρ) n'
  | .bad => .bad
def sq (m : M Fl) (k : Env → M Fl) : M Fl := bnd m fun f => match f with
  | .nx ρ => k ρ
  | f => ret f
/-- behind a loop's turn -/
def fq (m : M Fl) (k : Env → M Fl) : M Fl := bnd m fun g => match g with
  | .nx ρ' => k ρ'
  | .ct ρ' => k ρ'
  | g => ret g
def fors (f : D → Env → M Fl) : List D → Env → M Fl
  | [], ρ => ret (.nx ρ)
  | d :: ds, ρ => fq (f d ρ) fun ρ' => fors f ds ρ'
/-- the own errors -/
def errs : List Str := ["BadTable", "BadRow", "BadPlan", "NoPlace", "BadNumber", "NoRow", "Nothing", "BadText"]
/-- whether a clause takes an error -/
def cat (c e : Str) : Bool := decide (c = "SheetError") || decide (c = e)
/-- behind a try's body -/
def caught (c : Str) (k : Str → Env → M Fl) (f : Fl) : M Fl := match f with
  | .ex e ρ => if decide (e ∈ errs) then (if cat c e then k e ρ else ret (.ex e ρ)) else bad
  | f => ret f
def goneO (i : Nat) (s : S) : S := ⟨s.n, s.os.set i .gone⟩
def frzM (d : Option D) (k : D → M Fl) : M Fl := match d with
  | some (.obj i) => fun s => match s.os[i]? with
    | some (.lst xs) => k (.lst xs) (goneO i s)
    | some (.dk ks vs) => k (.dk ks vs) (goneO i s)
    | _ => .bad
  | _ => bad
def noCt (f : Fl) : M Fl := match f with
  | .ct _ => bad
  | f => ret f
/-- while, at most m turns -/
def whls (c : Env → M Bool) (f : Env → M Fl) : Nat → Env → M Fl
  | 0, _ => bad
  | m + 1, ρ => stp ρ (c ρ) fun k => if k then sq (bnd (f ρ) noCt) fun ρ' => whls c f m ρ' else ret (.nx ρ)
mutual
def ex : Stm → Env → M Fl
  | .set tg e, ρ => stp ρ (ev e ρ) fun d => bnd (lft (tg.put d ρ)) fun ρ' => ret (.nx ρ')
  | .seto i e, ρ => stp ρ (ev e ρ) fun d => match d with
    | .lst xs => ret (.nx (ρ.set i (.own xs)))
    | _ => bad
  | .app i e, ρ => bnd (lft (getO ρ i)) fun xs => stp ρ (ev e ρ) fun d => if xs.length < sizeLine then ret (.nx (ρ.set i (.own (xs ++ [d])))) else bad
  | .rem i e, ρ => bnd (lft (getO ρ i)) fun xs => bnd (lft (nums xs)) fun ns => stp ρ (ev e ρ) fun d => match d with
    | .int k => if ns.contains k then ret (.nx (ρ.set i (.own ((ns.erase k).map D.int)))) else bad
    | _ => bad
  | .tapp i, ρ => fun n => match getD ρ i with
    | some .town => if n.n < sizeLine then .ok (.nx ρ) ⟨n.n + 1, n.os⟩ else .bad
    | _ => .bad
  | .exp e, ρ => stp ρ (ev e ρ) fun _ => ret (.nx ρ)
  | .ifs c a b, ρ => stp ρ (truM (ev c ρ)) fun k => if k then exs a ρ else exs b ρ
  | .for tg it body, ρ => stp ρ (evi it ρ) fun ds => fors (fun d ρ => bnd (lft (tg.put d ρ)) fun ρ' => exs body ρ') ds ρ
  | .ret e, ρ => stp ρ (ev e ρ) fun d => ret (.rt d)
  | .rai c, ρ => ret (.ex c ρ)
  | .pas, ρ => ret (.nx ρ)
  | .frz i, ρ => bnd (lft (getO ρ i)) fun xs => ret (.nx (ρ.set i (.dat (.lst xs))))
  | .dnw i, ρ => ret (.nx (ρ.set i (.odc [] [])))
  | .dpt i k v, ρ => stp ρ (ev v ρ) fun w => bnd (lft (getK ρ i)) fun p => stp ρ (ev k ρ) fun d => bnd (lft ((topKey d).bind fun q => if p.1.length < sizeLine then dput p.1 p.2 q d w else none)) fun p => ret (.nx (ρ.set i (.odc p.1 p.2)))
  | .frd i, ρ => bnd (lft (getK ρ i)) fun p => ret (.nx (ρ.set i (.dat (.dic p.1 p.2))))
  | .whl m c b, ρ => whls (fun ρ => truM (ev c ρ)) (fun ρ => exs b ρ) m ρ
  | .ext i e, ρ => bnd (lft (getO ρ i)) fun xs => stp ρ (ev e ρ) fun d => match d with
    | .lst ys => if xs.length + ys.length ≤ sizeLine then ret (.nx (ρ.set i (.own (xs ++ ys)))) else bad
    | _ => bad
  | .par i j a b, ρ => stp ρ (evs [a, b] ρ) fun ds => match ds with
    | [x, y] => ret (.nx ((ρ.set i (.dat x)).set j (.dat y)))
    | _ => bad
  | .sx x es, ρ => stp ρ (bnd (evs es ρ) x.sem) fun _ => ret (.nx ρ)
  | .cnt, ρ => ret (.ct ρ)
  | .fzo i, ρ => frzM (getD ρ i) fun d => ret (.nx (ρ.set i (.dat d)))
  | .tryV b c i j, ρ => bnd (exs b ρ) (caught c fun e ρ' => if i < ρ'.length then ret (.nx ((ρ'.set j (.dat (.exn e))).set i .emp)) else bad)
  | .tryK b c j d, ρ => bnd (exs b ρ) (caught c fun _ ρ' => ret (.nx (ρ'.set j (.dat d))))
def exs : List Stm → Env → M Fl
  | [], ρ => ret (.nx ρ)
  | s :: ss, ρ => sq (ex s ρ) fun ρ' => exs ss ρ'
end
/-- a def: its slots, the parameters first -/
def runF (slots : Nat) (body : List Stm) (ds : List D) : M D := fun n => match exs body (ds.map Sl.dat ++ List.replicate (slots - ds.length) Sl.emp) n with
  | .ok (.nx _) n' => .ok .non n'
  | .ok (.rt d) n' => .ok d n'
  | .ok (.ex c _) n' => .exc c n'
  | _ => .bad
end Ss
/-! Ss, part J: statements. -/
namespace Ss
open PySem PySem.Spec PyProof.Rows L2
/-- what is wanted of a statement's end -/
def Sf (g : Gd) (B : Bs) (W : WX) (D : Ends) (T : Option Addr) (H : Hp) (F : FS) (r : Res Fl) : Prop := match r with
  | .ok (.nx ρ') n' => ∀ σ' H' F', Rel g B ρ' σ' H' F' T n' → Kp H F H' F' → D.nx σ' H'
  | .ok (.ct ρ') n' => ∀ σ' H' F', Rel g B ρ' σ' H' F' T n' → Kp H F H' F' → D.ct σ' H'
  | .ok (.rt d) n' => ∀ v H' F', Ev B.T B.H B.F H' F' → Tw g T H' F' n' → Rp g H' F' T d v → D.rt v H'
  | .ok (.ex c ρ') n' => ∀ σ' H' F', Rel g B ρ' σ' H' F' T n' → Kp H F H' F' → ∀ C, g.mg c = some (.ref C) → W (.ref C) none σ' H'
  | .exc _ _ => False
  | .bad => False
def tS (g : Gd) (B : Bs) (W : WX) (f : Ss.Env → M Fl) : TS := fun D σ H => ∃ ρ F T n, Rel g B ρ σ H F T n ∧ Sf g B W D T H F (f ρ n)
section
variable {g : Gd} {X : Cx} {W : WX} {sc : Scope} {fb : Str → Bool} {N : List Str} {L : Nat} {B : Bs} {D : Ends} {T : Option Addr} {H H1 : Hp} {F F1 : FS} {n : S} {σ : L2.St} {ρ : Ss.Env}
theorem Sf.later {r : Res Fl} (h : Sf g B W D T H F r) (k : Kp H F H1 F1) : Sf g B W D T H1 F1 r := by
  cases r with
  | ok f n' =>
    cases f with
    | nx ρ' => exact fun σ' H' F' R kk => h σ' H' F' R (k.trans kk)
    | ct ρ' => exact fun σ' H' F' R kk => h σ' H' F' R (k.trans kk)
    | rt d => exact h
    | ex c ρ' => exact fun σ' H' F' R kk => h σ' H' F' R (k.trans kk)
  | exc c n' => exact h
  | bad => exact h
theorem Sf.stp {α : Type} {m : M α} {k : α → M Fl} (R : Rel g B ρ σ H F T n) (h : Sf g B W D T H F (stp ρ m k n)) : Fin g W σ T H F (m n) fun a n1 H1 F1 => Sf g B W D T H1 F1 (k a n1) := by
  unfold Ss.stp at h
  cases e : m n with
  | ok a n1 => rw [e] at h; exact fun H1 F1 e1 t1 => h.later (e1.kp R.tw R.nf)
  | exc c n1 => rw [e] at h; exact fun H1 F1 e1 t1 C hC => h σ H1 F1 (R.step e1 t1) (e1.kp R.tw R.nf) C hC
  | bad => rw [e] at h; exact h

/-! ### assignment -/
theorem asg_read {tg : Tg} {f : Ss.Env → M Ss.D} (h : tS g B W (fun ρ => stp ρ (f ρ) fun d => bnd (lft (tg.put d ρ)) fun ρ' => ret (.nx ρ')) D σ H) : tAsg (tI g B W .full f) (gT g.K tg) D σ H := by
  obtain ⟨ρ, F, T, n, R, h⟩ := h
  refine ⟨ρ, F, T, n, R, (h.stp R).mono fun d n1 H1 F1 e1 t1 q v p => ?_⟩
  have R1 := R.step e1 t1
  cases ep : tg.put d ρ with
  | none => rw [ep] at q; exact False.elim q
  | some ρ' =>
    rw [ep] at q
    exact gT_read ep p R1 fun σ' R' _ => q σ' H1 F1 R' Kp.refl
theorem own_read {i : Nat} {f : Ss.Env → M Ss.D} (h : tS g B W (fun ρ => stp ρ (f ρ) fun d => match d with
    | .lst xs => ret (.nx (ρ.set i (.own xs)))
    | _ => bad) D σ H) : tAsg (tI g B W .new f) (gName i) D σ H := by
  obtain ⟨ρ, F, T, n, R, h⟩ := h
  refine ⟨ρ, F, T, n, R, (h.stp R).mono fun d n1 H1 F1 e1 t1 q v p => ?_⟩
  have R1 := R.step e1 t1
  obtain ⟨a, vs, xs, rfl, rfl, h1, h2, h3, ho, h4, h5⟩ := p
  have ta : T ≠ some a := fun z => by rw [R.tw.tn a z] at h1; cases h1
  refine q _ H1 F1 (R1.putO i h2 h3 ta ho ?_ h4 h5 ?_) Kp.refl
  · cases e : B.H a with
    | none => rfl
    | some o =>
      by_cases z : B.T = some a
      · rcases R.tt with y | ⟨y, _⟩
        · exact absurd (y.symm.trans z) ta
        · rw [y] at z; cases z
      · by_cases m : a ∈ B.F.ob
        · obtain ⟨l, el, _⟩ := R.ev.obs
          obtain ⟨u, hu⟩ := (R.tw.isS (a := a) (by rw [el]; exact List.mem_append_left _ m)).1
          rw [hu] at h1; cases h1
        · rw [R.ev.same a o e z fun y => absurd y m] at h1; cases h1
  · intro j hj
    obtain ⟨u, q2⟩ := R.ownH hj
    rw [h1] at q2; cases q2
theorem sw_plain {e : Expr} {t : Option Expr} {l : Nat} {env : PySem.Env} (h : noComp e = true) : swapsWith e t l env = pure false := by
  cases e <;> first | rfl | (simp only [noComp, Bool.false_eq_true] at h)
def swB (sc : Scope) (y : Str) (l1 l2 : Nat) (scope : Scope) : Bool := (sc.names.lookup y == some .local) && (l1 == l2) && !(scope.names.any fun (n, k) => n == y && (k == .local || k == .cell))
theorem sw_false {sc : Scope} {elt : Expr} {gs : List Comprehension} {scope : Scope} {pos py : Pos} {y : Str} {l : Nat} {env : PySem.Env} (es : env.scope = sc) (h : swB sc y py.line pos.line scope = false) : swapsWith (.ListComp elt gs scope pos) (some (.Name y py)) l env = pure false := by
  unfold swapsWith
  have e : (env.blockKind == ScopeKind.function && env.kindOf y == some .local && py.line == pos.line && !(scope.names.any fun (n, k) => n == y && (k == .local || k == .cell))) = false := by
    unfold swB at h
    have k : env.kindOf y = sc.names.lookup y := by rw [← es]; rfl
    rw [k]
    cases h1 : (sc.names.lookup y == some NameKind.local)
    · simp
    · cases h2 : (py.line == pos.line)
      · simp
      · rw [h1, h2] at h
        simp only [Bool.true_and] at h
        rw [h]
        simp
  show (do return (env.blockKind == ScopeKind.function && env.kindOf y == some .local && py.line == (Expr.ListComp elt gs scope pos).pos.line && !(scope.names.any fun (n, k) => n == y && (k == .local || k == .cell))) : Sem Bool) = pure false
  show (pure (env.blockKind == ScopeKind.function && env.kindOf y == some .local && py.line == pos.line && !(scope.names.any fun (n, k) => n == y && (k == .local || k == .cell))) : Sem Bool) = pure false
  rw [e]
/-- name = e -/
def asgB (sc : Scope) (N : List Str) (i : Nat) (y : Str) (py : Pos) (e : Expr) : Bool := match e with
  | .ListComp _ _ scope pos => decide (sc.kind = .function) && (swB sc y py.line pos.line scope || true)
  | e => noComp e
theorem ok_asg1 {a : IR} (ha : Ok2 g L a) (hc : ∀ elt tg it ifs vs, a = .comp elt tg it ifs vs → CmpOk g L elt it ifs) (G : Gud g X W sc fb N L) {i : Nat} {y : Str} {py pos : Pos} {e : Expr} (k1 : tgB sc fb N i y = true) (k2 : chk N a sc e = true) (k3 : asgB sc N i y py e = true) :
    PS X (.Assign [.Name y py] e pos) (tAsg (tI g B W a.kd fun ρ => ev a ρ) (gName i)) := by
  obtain ⟨l1, l2, l3⟩ := G.loc k1
  have nd : X.N.Nodup := by rw [G.nm]; exact G.nd
  cases hn : noComp e with
  | true => exact ps_set nd l1 l2 (ha.e X W sc fb N B e G k2).1 (sw_plain hn) l3
  | false =>
    cases hd : dComp e with
    | none =>
      -- a comprehension of another form is no IR's
      exfalso
      cases e <;> simp only [noComp, Bool.true_eq_false] at hn
      all_goals (cases a <;> simp [chk, dName, dConst, dTup, dLst, dBin, dCmp, dBool, dUn, dIf, dSub, dCall, dCall1, dCall2, dNest, dNest1, dMeth, dLk, dRev, noComp, hd] at k2)
      all_goals (first | done | (simp [dComp] at k2) | (simp [dComp] at hd; simp [dComp, hd] at k2))
    | some t =>
      obtain ⟨f, t, iter, fs, scope⟩ := t
      obtain ⟨cp, rfl⟩ := dComp_eq hd
      cases sw : swB sc y py.line cp.line scope with
      | false => exact ps_set nd l1 l2 (ha.e X W sc fb N B _ G k2).1 (sw_false G.es sw) l3
      | true =>
        cases a with
        | comp elt tg it ifs vs =>
          have h := hc _ _ _ _ _ rfl
          have k := k2
          simp only [chk] at k
          rw [hd] at k
          obtain ⟨k, k9⟩ := ba2 k
          obtain ⟨k, k8⟩ := ba2 k
          obtain ⟨k, k7⟩ := ba2 k
          obtain ⟨k, k6⟩ := ba2 k
          obtain ⟨k, k5⟩ := ba2 k
          obtain ⟨k, k4⟩ := ba2 k
          obtain ⟨k, k3'⟩ := ba2 k
          obtain ⟨k1', k2'⟩ := ba2 k
          have hi : PI X t iter (iI g B W false fun ρ => evi it ρ) := ok_it (st := false) h.i h.r h.x (by intro z; cases z) G (by unfold chki; rw [k8]; exact k9)
          unfold swB at sw
          obtain ⟨sw, s3⟩ := ba2 sw
          obtain ⟨s1, s2⟩ := ba2 sw
          have hy : N[i]? = some y := by rw [← G.nm]; exact l1
          have q := ss_comp (B := B) (tg := tg) (i := i) (y := y) (py := py) (own := ownOf N vs) (pos := cp) (spos := pos) (ifs := fs) (elt := f) (fts := fun ρ => evb true ifs ρ) (fe := fun ρ => ev elt ρ) G hi (blkB_ok k1') (fun X' G' => sg G' k2') (fun X' G' => pts_of h.f (of_decide_eq_true k5) h.fa G' k4) (fun X' G' => h.e.f G' k6 k7)
            (fun i hi => by
              rw [ownOf_snd]
              have := List.all_eq_true.mp k3' i hi
              simpa using this) (noSet_fold k8) hy (eq_of_beq s1) (of_decide_eq_true (ba2 k3).1) s2 (by simpa using s3)
          rw [ownOf_snd] at q
          have e1 : (fun ρ => ev (.comp elt tg it ifs vs) ρ) = fun ρ => bnd (evi it ρ) fun ds => bnd (lcs (lcF tg (fun ρ => evb true ifs ρ) (fun ρ => ev elt ρ) (wip ρ vs)) ds) fun xs => ret (.lst xs) := funext fun ρ => lcF_eq
          show PS X _ (tAsg (tI g B W .new fun ρ => ev (.comp elt tg it ifs vs) ρ) (gName i))
          rw [e1]
          exact q
        | _ => simp [chk, dName, dConst, dTup, dLst, dBin, dCmp, dBool, dUn, dIf, dSub, dCall, dCall1, dCall2, dNest, dNest1, dMeth, dLk, dRev, noComp] at k2
end
end Ss
/-! Ss, part L: statements, further; blocks; the check; every block. -/
namespace Ss
open PySem PySem.Spec PyProof.Rows L2
section
variable {g : Gd} {X : Cx} {W : WX} {sc : Scope} {fb : Str → Bool} {N : List Str} {L : Nat} {B : Bs} {D : Ends} {T : Option Addr} {H H1 : Hp} {F F1 : FS} {n : S} {σ : L2.St} {ρ : Ss.Env}
/-! ### a list of this frame's own grows, is changed -/
theorem set_self {σ : L2.St} {i : Nat} {v : V} (h : σ[i]? = some (some v)) : σ.set i (some v) = σ := by
  apply List.ext_getElem?
  intro j
  by_cases e : i = j
  · subst e
    have hl : i < σ.length := by
      rcases Nat.lt_or_ge i σ.length with z | z
      · exact z
      · rw [List.getElem?_eq_none z] at h; cases h
    rw [List.getElem?_set_self hl, h]
  · rw [List.getElem?_set_ne e]
/-- the own list in slot i is written -/
theorem Rel.writeO (R : Rel g B ρ σ H F T n) {i : Nat} {xs ys : List Ss.D} {vs us : List V} {a : Addr} (ei : ρ[i]? = some (.own xs)) (es : σ[i]? = some (some (.ref a))) (ha : H a = some (.lst vs)) (f : ¬ F a) (t : T ≠ some a) (no : a ∉ F.ob) (b : B.H a = none) (l : us.length ≤ sizeLine) (r : Rps g H F T ys us) :
    Rel g B (ρ.set i (.own ys)) σ (upd H a (.lst us)) F T n := by
  have hn : ∀ j, ¬ OwnAt (ρ.set i .emp) (σ.set i none) j a := fun j ⟨⟨zs, e1, e3⟩, e2⟩ => by
    by_cases e : i = j
    · subst e
      by_cases hl : i < ρ.length
      · rw [List.getElem?_set_self hl] at e1; cases e1; cases e3
      · rw [List.getElem?_eq_none (by rw [List.length_set]; omega)] at e1; cases e1
    · rw [List.getElem?_set_ne e] at e1 e2
      exact e (R.dj i j a ⟨⟨_, ei, rfl⟩, es⟩ ⟨⟨zs, e1, e3⟩, e2⟩)
  have R1 := (R.forget i none).write (o := .lst us) ha f t no b hn
  have kk : Kp H F (upd H a (.lst us)) F := Kp.write ha f
  have R2 := R1.putO i (a := a) (vs := us) (xs := ys) upd_same f t no b l (Rps.kp kk (fun _ z => z) _ _ r) fun j hj => absurd hj (hn j)
  rw [List.set_set, List.set_set, set_self es] at R2
  exact R2
theorem kpO (ha : H a = some (.lst vs)) (f : ¬ F a) : Kp H F (upd H a (.lst us)) F := Kp.write ha f
theorem app_read {i : Nat} {f : Ss.Env → M Ss.D} (h : tS g B W (fun ρ => bnd (lft (getO ρ i)) fun xs => stp ρ (f ρ) fun d => if xs.length < sizeLine then ret (.nx (ρ.set i (.own (xs ++ [d])))) else bad) D σ H) :
    ∃ v, σ[i]? = some (some v) ∧ tyV g.K "list" v H ∧ tI g B W .full f σ H fun y H2 => rAppend v [y] H2 fun _ H3 => D.nx σ H3 := by
  obtain ⟨ρ, F, T, n, R, h⟩ := h
  cases eo : getO ρ i with
  | none => simp only [eo] at h; exact False.elim h
  | some xs =>
    simp only [eo] at h
    obtain ⟨ei, a, vs, e1, e2, e3, e4, eo', e5, e6, e7⟩ := R.owd eo
    refine ⟨.ref a, e1, .inl ⟨rfl, vs, SqL.of e2⟩, ρ, F, T, n, R, (Sf.stp R h).mono fun d n1 H1 F1 ev1 t1 q v p => ?_⟩
    have R1 := R.step ev1 t1
    have e2' := ev1.same a _ e2 e4 fun z => absurd z eo'
    have f' : ¬ F1 a := fun z => by
      rcases ev1.new a z with z | z | z
      · exact e3 z
      · rw [e2] at z; cases z
      · exact eo' z
    have r' := R.rps ev1 e7
    by_cases hl : xs.length < sizeLine
    · rw [if_pos hl] at q
      have hl' : vs.length < sizeLine := by rw [e7.len]; exact hl
      exact ⟨a, vs, v, rfl, rfl, e2', hl', q σ _ F1 (R1.writeO ei e1 e2' f' e4 (ev1.nob e2 eo') e5 (by rw [List.length_append]; exact hl') (r'.app (.one p))) (Kp.write e2' f')⟩
    · rw [if_neg hl] at q; exact False.elim q
theorem ahead : ∀ (ns : List Int) (k : Int) (m : Nat), m < ns.idxOf k → ns[m]? ≠ some k
  | [], _, _, h => by simp at h
  | z :: zs, k, m, h => by
    rw [List.idxOf_cons] at h
    by_cases e : z = k
    · subst e; simp at h
    · have e' : (z == k) = false := by simpa using e
      rw [e'] at h
      simp only [cond_false] at h
      cases m with
      | zero => simpa using e
      | succ m => simpa using ahead zs k m (by omega)
theorem rem_read {i : Nat} {f : Ss.Env → M Ss.D} (h : tS g B W (fun ρ => bnd (lft (getO ρ i)) fun xs => bnd (lft (nums xs)) fun ns => stp ρ (f ρ) fun d => match d with
    | .int k => if ns.contains k then ret (.nx (ρ.set i (.own ((ns.erase k).map Ss.D.int)))) else bad
    | _ => bad) D σ H) :
    ∃ v, σ[i]? = some (some v) ∧ tyV g.K "list" v H ∧ tI g B W .full f σ H fun y H2 => rRemI v [y] H2 fun _ H3 => D.nx σ H3 := by
  obtain ⟨ρ, F, T, n, R, h⟩ := h
  cases eo : getO ρ i with
  | none => simp only [eo] at h; exact False.elim h
  | some xs =>
    simp only [eo] at h
    obtain ⟨ei, a, vs, e1, e2, e3, e4, eo', e5, e6, e7⟩ := R.owd eo
    cases en : nums xs with
    | none =>
      have h : Sf g B W D T H F ((bnd (lft (nums xs)) fun ns => stp ρ (f ρ) fun d => match d with
        | .int k => if ns.contains k then ret (.nx (ρ.set i (.own ((ns.erase k).map Ss.D.int)))) else bad
        | _ => bad) n) := h
      rw [en] at h; exact False.elim h
    | some ns =>
      have h : Sf g B W D T H F ((bnd (lft (nums xs)) fun ns => stp ρ (f ρ) fun d => match d with
        | .int k => if ns.contains k then ret (.nx (ρ.set i (.own ((ns.erase k).map Ss.D.int)))) else bad
        | _ => bad) n) := h
      rw [en] at h
      have evs := nums_rps e7 en
      refine ⟨.ref a, e1, .inl ⟨rfl, vs, SqL.of e2⟩, ρ, F, T, n, R, (Sf.stp R h).mono fun d n1 H1 F1 ev1 t1 q v p => ?_⟩
      have R1 := R.step ev1 t1
      have e2' := ev1.same a _ e2 e4 fun z => absurd z eo'
      have f' : ¬ F1 a := fun z => by
        rcases ev1.new a z with z | z | z
        · exact e3 z
        · rw [e2] at z; cases z
        · exact eo' z
      cases d with
      | int k =>
        dsimp only at q
        by_cases hc : ns.contains k = true
        · rw [if_pos hc] at q
          have hm : k ∈ ns := by simpa using hc
          have ej : ns.erase k = ns.eraseIdx (ns.idxOf k) := List.erase_eq_eraseIdx_of_idxOf rfl
          have hj : ns.idxOf k < ns.length := List.idxOf_lt_length_of_mem hm
          have rr : ∀ l : List Int, Rps g H1 F1 T (l.map Ss.D.int) (l.map V.int) := fun l => by
            induction l with
            | nil => exact .nil
            | cons z zs ih => exact .cons rp_int ih
          have p : Rp g H1 F1 T (.int k) v := p
          simp only [Rp] at p
          subst p
          rw [evs] at e2'
          refine ⟨a, ns, k, ns.idxOf k, rfl, rfl, e2', ?_, fun m hm' z => ?_, q σ _ F1 (R1.writeO ei e1 e2' f' e4 (ev1.nob e2 eo') e5 ?_ ?_) (Kp.write e2' f')⟩
          · rw [List.getElem?_eq_getElem hj, List.getElem_idxOf]
          · exact ahead ns k m hm' z
          · rw [List.length_map]
            have := List.length_eraseIdx_le ns (ns.idxOf k)
            have h3 : vs.length = ns.length := by rw [evs, List.length_map]
            omega
          · rw [ej]; exact rr _
        · rw [if_neg hc] at q; exact False.elim q
      | _ => exact False.elim q

/-! ### the town, a list frozen -/
theorem Rel.town (R : Rel g B ρ σ H F T n) {a : Addr} (t : T = some a) : Rel g B ρ σ (upd H a (.lst (List.replicate (n.n + 1) (.int 0)))) F T ⟨n.n + 1, n.os⟩ := by
  have ha := R.tw.tn a t
  have f := R.nf a t
  have kk : Kp H F (upd H a (.lst (List.replicate (n.n + 1) (.int 0)))) F := Kp.write ha f
  have na : ∀ b ∈ F.ob, b ≠ a := fun b hb z => (R.tw.isS hb).2 (by rw [z]; exact t)
  refine ⟨⟨fun b o q z m => ?_, R.ev.sub, R.ev.new, fun d => dom_upd (R.ev.dom d), R.ev.obs⟩, ⟨fun b z => ?_, R.tw.ln, fun i o b h1 h2 => ?_, R.tw.nd⟩, R.nf, dom_upd R.dm, R.tt, R.len, fun i s e => ?_, R.dj⟩
  · have ne : b ≠ a := fun e => by
      subst e
      exact R.bnT q z t
    rw [upd_ne ne]
    exact R.ev.same b o q z m
  · rw [t] at z
    cases z
    exact upd_same
  · have ne := na b (List.mem_of_getElem? h2)
    obtain ⟨⟨u, q1⟩, q2, q3, q4⟩ := R.tw.ob i o b h1 h2
    exact ⟨⟨u, by rw [upd_ne ne]; exact q1⟩, q2, q3, fun l => ⟨(q4 l).1, (q4 l).2.kp kk (upd_ne ne)⟩⟩
  · have q := R.sl i s e
    cases s with
    | emp => trivial
    | dat d =>
      obtain ⟨v, e1, e2⟩ := q
      exact ⟨v, e1, Rp.kp kk (fun _ z => z) d v e2⟩
    | own xs =>
      obtain ⟨b, vs, e1, e2, e3, e4, eo, e5, e6, e7⟩ := q
      have ne : b ≠ a := fun e => e4 (by rw [e]; exact t)
      exact ⟨b, vs, e1, by rw [upd_ne ne]; exact e2, e3, e4, eo, e5, e6, Rps.kp kk (fun _ z => z) xs vs e7⟩
    | odc ks us =>
      obtain ⟨b, xs, e1, e2, e3, e4, eo, e5, e6, e7, e8, ws, e9, e10⟩ := q
      have ne : b ≠ a := fun e => e4 (by rw [e]; exact t)
      exact ⟨b, xs, e1, by rw [upd_ne ne]; exact e2, e3, e4, eo, e5, e6, e7, Rps.kp kk (fun _ z => z) ks _ e8, ws, e9, Rps.kp kk (fun _ z => z) us ws e10⟩
theorem tapp_read {i : Nat} (h : tS g B W (fun ρ n => match getD ρ i with
    | some .town => if n.n < sizeLine then .ok (.nx ρ) ⟨n.n + 1, n.os⟩ else .bad
    | _ => .bad) D σ H) : ∃ v, σ[i]? = some (some v) ∧ tyV g.K "list" v H ∧ rAppend v [.int 0] H fun _ H3 => D.nx σ H3 := by
  obtain ⟨ρ, F, T, n, R, h⟩ := h
  dsimp only at h
  cases eg : getD ρ i with
  | none => rw [eg] at h; exact False.elim h
  | some d =>
    rw [eg] at h
    obtain ⟨v, e1, e2⟩ := R.dat eg
    cases d with
    | town =>
      simp only [Rp] at e2
      obtain ⟨a, rfl, t⟩ := e2
      dsimp only at h
      by_cases hl : n.n < sizeLine
      · rw [if_pos hl] at h
        have ha := R.tw.tn a t
        refine ⟨.ref a, e1, .inl ⟨rfl, _, SqL.of ha⟩, a, _, .int 0, rfl, rfl, ha, by rw [List.length_replicate]; exact hl, ?_⟩
        have e : List.replicate n.n (V.int 0) ++ [V.int 0] = List.replicate (n.n + 1) (V.int 0) := List.replicate_succ'.symm
        rw [e]
        exact h σ _ F (R.town t) (Kp.write ha (R.nf a t))
      · rw [if_neg hl] at h; exact False.elim h
    | _ => exact False.elim h
theorem Rel.freeze (R : Rel g B ρ σ H F T n) {i : Nat} {xs : List Ss.D} (e : getO ρ i = some xs) : ∃ F', Rel g B (ρ.set i (.dat (.lst xs))) σ H F' T n ∧ Kp H F H F' := by
  obtain ⟨ei, a, vs, e1, e2, e3, e4, eo', e5, e6, e7⟩ := R.owd e
  have kk : Kp H F H (F.add a) := Kp.freeze fun _ f => .inl f
  refine ⟨F.add a, ?_, kk⟩
  have R1 : Rel g B (ρ.set i .emp) σ H (F.add a) T n := by
    refine ⟨⟨R.ev.same, fun b f => .inl (R.ev.sub b f), fun b f => ?_, fun d b f => ?_, R.ev.obs⟩, R.tw.freeze eo', fun b z f => ?_, fun b f => ?_, R.tt, by rw [List.length_set]; exact R.len, fun j s ej => ?_, fun j k b h1 h2 => ?_⟩
    · rcases f with f | rfl
      · exact R.ev.new b f
      · exact .inr (.inl e5)
    · rcases f with f | rfl
      · exact R.ev.dom d b f
      · exact ⟨_, e2⟩
    · rcases f with f | rfl
      · exact R.nf b z f
      · exact e4 z
    · rcases f with f | rfl
      · exact R.dm b f
      · exact ⟨_, e2⟩
    · by_cases hj : i = j
      · subst hj
        by_cases hl : i < ρ.length
        · rw [List.getElem?_set_self hl] at ej; cases ej; trivial
        · rw [List.getElem?_eq_none (by rw [List.length_set]; omega)] at ej; cases ej
      · rw [List.getElem?_set_ne hj] at ej
        have q := R.sl j s ej
        cases s with
        | emp => trivial
        | dat d =>
          obtain ⟨v, q1, q2⟩ := q
          exact ⟨v, q1, Rp.kp kk (fun _ z => z) d v q2⟩
        | own ys =>
          obtain ⟨b, us, q1, q2, q3, q4, qo, q5, q6, q7⟩ := q
          refine ⟨b, us, q1, q2, fun f => ?_, q4, qo, q5, q6, Rps.kp kk (fun _ z => z) ys us q7⟩
          rcases f with f | rfl
          · exact q3 f
          · exact hj (R.dj i j b ⟨⟨_, ei, rfl⟩, e1⟩ ⟨⟨_, ej, rfl⟩, q1⟩)
        | odc ks ws =>
          obtain ⟨b, us, q1, q2, q3, q4, qo, q5, q6, q7, q8, zs, q9, q10⟩ := q
          refine ⟨b, us, q1, q2, fun f => ?_, q4, qo, q5, q6, q7, Rps.kp kk (fun _ z => z) ks _ q8, zs, q9, Rps.kp kk (fun _ z => z) ws zs q10⟩
          rcases f with f | rfl
          · exact q3 f
          · exact hj (R.dj i j b ⟨⟨_, ei, rfl⟩, e1⟩ ⟨⟨_, ej, rfl⟩, q1⟩)
    · have hn : ∀ m, OwnAt (ρ.set i .emp) σ m b → OwnAt ρ σ m b := fun m ⟨⟨ys, q1, q3⟩, q2⟩ => by
        have hm : i ≠ m := fun z => by
          subst z
          by_cases hl : i < ρ.length
          · rw [List.getElem?_set_self hl] at q1; cases q1; cases q3
          · rw [List.getElem?_eq_none (by rw [List.length_set]; omega)] at q1; cases q1
        rw [List.getElem?_set_ne hm] at q1
        exact ⟨⟨ys, q1, q3⟩, q2⟩
      exact R.dj j k b (hn j h1) (hn k h2)
  have R2 := R1.put i (rp_lst e2 (.inr rfl) e6 (Rps.kp kk (fun _ z => z) _ _ e7))
  rw [List.set_set, set_self e1] at R2
  exact R2

/-- a thing that might be changed is frozen -/
theorem Rel.freezeO (R : Rel g B ρ σ H F T n) {i k : Nat} {o : Ob} {d : Ss.D} (e : getD ρ i = some (.obj k)) (eo : n.os[k]? = some o) (hd : (∃ xs, o = .lst xs ∧ d = .lst xs) ∨ ∃ ks vs, o = .dk ks vs ∧ d = .dk ks vs) :
    ∃ F', Rel g B (ρ.set i (.dat d)) σ H F' T (goneO k n) ∧ Kp H F H F' := by
  obtain ⟨v, e1, e2⟩ := R.dat e
  simp only [Rp] at e2
  obtain ⟨a, rfl, ea⟩ := e2
  have ma : a ∈ F.ob := List.mem_of_getElem? ea
  obtain ⟨⟨u, hu⟩, ta, _, lv⟩ := R.tw.ob k o a eo ea
  have lo : o.live = true := by rcases hd with ⟨_, rfl, _⟩ | ⟨_, _, rfl, _⟩ <;> rfl
  obtain ⟨fa, ob⟩ := lv lo
  have kk : Kp H F H (F.add a) := Kp.freeze fun _ f => .inl f
  have hk : k < n.os.length := by
    rcases Nat.lt_or_ge k n.os.length with z | z
    · exact z
    · rw [List.getElem?_eq_none z] at eo; cases eo
  have T1 : Tw g T H (F.add a) (goneO k n) := by
    refine ⟨R.tw.tn, by simp only [goneO, List.length_set]; exact R.tw.ln, fun j q b h1 h2 => ?_, R.tw.nd⟩
    have h2 : F.ob[j]? = some b := h2
    by_cases hj : k = j
    · subst hj
      rw [ea] at h2
      cases h2
      simp only [goneO, List.getElem?_set_self hk] at h1
      cases h1
      exact ⟨⟨u, hu⟩, ta, fun _ => .inr rfl, fun z => nomatch z⟩
    · simp only [goneO, List.getElem?_set_ne hj] at h1
      have nb : b ≠ a := fun z => by
        subst z
        obtain ⟨g1, e1⟩ := List.getElem?_eq_some_iff.mp ea
        obtain ⟨g2, e2⟩ := List.getElem?_eq_some_iff.mp h2
        exact hj ((List.getElem_inj R.tw.nd).mp (e1.trans e2.symm))
      obtain ⟨q1, q2, q3, q4⟩ := R.tw.ob j q b h1 h2
      refine ⟨q1, q2, fun l => .inl (q3 l), fun l => ⟨fun f => ?_, (q4 l).2.kp kk rfl⟩⟩
      rcases f with f | f
      · exact (q4 l).1 f
      · exact nb f
  refine ⟨F.add a, ?_, kk⟩
  have R1 : Rel g B ρ σ H (F.add a) T (goneO k n) := by
    refine ⟨⟨R.ev.same, fun b f => .inl (R.ev.sub b f), fun b f => ?_, fun d b f => ?_, R.ev.obs⟩, T1, fun b z f => ?_, fun b f => ?_, R.tt, R.len, fun j s ej => ?_, R.dj⟩
    · rcases f with f | rfl
      · exact R.ev.new b f
      · obtain ⟨l, el, hl⟩ := R.ev.obs
        rw [el] at ma
        rcases List.mem_append.mp ma with z | z
        · exact .inr (.inr z)
        · exact .inr (.inl (hl b z))
    · rcases f with f | rfl
      · exact R.ev.dom d b f
      · exact ⟨_, hu⟩
    · rcases f with f | rfl
      · exact R.nf b z f
      · exact ta z
    · rcases f with f | rfl
      · exact R.dm b f
      · exact ⟨_, hu⟩
    · have q := R.sl j s ej
      cases s with
      | emp => trivial
      | dat d =>
        obtain ⟨v, q1, q2⟩ := q
        exact ⟨v, q1, Rp.kp kk (fun _ z => z) d v q2⟩
      | own ys =>
        obtain ⟨b, us, q1, q2, q3, q4, qo, q5, q6, q7⟩ := q
        refine ⟨b, us, q1, q2, fun f => ?_, q4, qo, q5, q6, Rps.kp kk (fun _ z => z) ys us q7⟩
        rcases f with f | rfl
        · exact q3 f
        · exact qo ma
      | odc ks ws =>
        obtain ⟨b, us, q1, q2, q3, q4, qo, q5, q6, q7, q8, zs, q9, q10⟩ := q
        refine ⟨b, us, q1, q2, fun f => ?_, q4, qo, q5, q6, q7, Rps.kp kk (fun _ z => z) ks _ q8, zs, q9, Rps.kp kk (fun _ z => z) ws zs q10⟩
        rcases f with f | rfl
        · exact q3 f
        · exact qo ma
  have rp : Rp g H (F.add a) T d (.ref a) := by
    rcases hd with ⟨xs, rfl, rfl⟩ | ⟨ks, vs, rfl, rfl⟩
    · obtain ⟨us, h1, h2, h3⟩ := ob
      exact rp_lst h1 (.inr rfl) h2 (Rps.kp kk (fun _ z => z) _ _ h3)
    · obtain ⟨kvs, h1, h2, h3⟩ := ob
      simp only [Rp]
      exact ⟨a, kvs, rfl, h1, .inr rfl, h2, Rps.kp kk (fun _ z => z) _ _ h3⟩
  have R2 := R1.put i rp
  rw [set_self e1] at R2
  exact R2

/-! ### the rules -/
/-- x.m(e): a method of a list by its name -/
theorem ps_meth {id : String} {name : Str} {r : V → List V → Hp → VK → Prop} (slot : Slot "list" name id) (hty : typeOf (.builtin id) = pure (.type "method_descriptor")) (hm : MtR X id r) (G : Gud g X W sc fb N L) {i : Nat} {x : Str} {e : Expr} {te : TE} {p ap pos pos2 : Pos}
    (hx : nmB sc N i x = true) (he : PE X e te) (hn : nst e = true) (hl : (ap.endLine == pos.line) = true) : PS X (.Expr (.Call (.Attribute (.Name x p) name ap) [e] [] pos) pos2) (fun D σ H => ∃ v, σ[i]? = some (some v) ∧ tyV g.K "list" v H ∧ te σ H fun y H2 => r v [y] H2 fun _ H3 => D.nx σ H3) := by
  obtain rfl := G.gd
  obtain ⟨h1, h2, h3, h4⟩ := G.vis hx
  refine ps_wk (ps_expr (pe_bm PySem.F.plainAttrs_list slot hty hm (pe_var h1 h2 h3 h4) (pa_cons he pa_nil (star_of hn)) rfl ?_ hl (star_of hn) rfl) rfl) fun D σ H q => ?_
  · rw [star_of hn]; rfl
  · exact q
theorem ss_app (G : Gud g X W sc fb N L) {i : Nat} {x : Str} {e : Expr} {f : Ss.Env → M Ss.D} {p ap pos pos2 : Pos} (hx : nmB sc N i x = true) (he : PE X e (tI g B W .full f)) (hn : nst e = true) (hl : (ap.endLine == pos.line) = true) :
    PS X (.Expr (.Call (.Attribute (.Name x p) "append" ap) [e] [] pos) pos2) (tS g B W fun ρ => bnd (lft (getO ρ i)) fun xs => stp ρ (f ρ) fun d => if xs.length < sizeLine then ret (.nx (ρ.set i (.own (xs ++ [d])))) else bad) :=
  ps_wk (ps_meth PySem.F.slot_list_append PySem.F.type_list_append mt_append G hx he hn hl) fun _ _ _ q => app_read q
theorem ss_rem (G : Gud g X W sc fb N L) {i : Nat} {x : Str} {e : Expr} {f : Ss.Env → M Ss.D} {p ap pos pos2 : Pos} (hx : nmB sc N i x = true) (he : PE X e (tI g B W .full f)) (hn : nst e = true) (hl : (ap.endLine == pos.line) = true) :
    PS X (.Expr (.Call (.Attribute (.Name x p) "remove" ap) [e] [] pos) pos2) (tS g B W fun ρ => bnd (lft (getO ρ i)) fun xs => bnd (lft (nums xs)) fun ns => stp ρ (f ρ) fun d => match d with
    | .int k => if ns.contains k then ret (.nx (ρ.set i (.own ((ns.erase k).map Ss.D.int)))) else bad
    | _ => bad) :=
  ps_wk (ps_meth PySem.F.slot_list_remove PySem.F.type_list_remove mt_remove G hx he hn hl) fun _ _ _ q => rem_read q
theorem ss_tapp (G : Gud g X W sc fb N L) {i : Nat} {x : Str} {j : Nat} {p p2 ap pos pos2 : Pos} (hx : nmB sc N i x = true) (hl : (ap.endLine == pos.line) = true) :
    PS X (.Expr (.Call (.Attribute (.Name x p) "append" ap) [.Constant (.int 0) j p2] [] pos) pos2) (tS g B W fun ρ n => match getD ρ i with
    | some .town => if n.n < sizeLine then .ok (.nx ρ) ⟨n.n + 1, n.os⟩ else .bad
    | _ => .bad) := by
  refine ps_wk (ps_meth PySem.F.slot_list_append PySem.F.type_list_append mt_append G hx pe_int rfl hl) fun D σ H q => ?_
  obtain ⟨v, e1, e2, k⟩ := tapp_read q
  exact ⟨v, e1, e2, k⟩
theorem ss_exp {e : Expr} {f : Ss.Env → M Ss.D} {kd : Kd} {pos : Pos} (he : PE X e (tI g B W kd f)) (hn : noComp e = true) : PS X (.Expr e pos) (tS g B W fun ρ => stp ρ (f ρ) fun _ => ret (.nx ρ)) := by
  refine ps_wk (ps_expr he (sw_plain hn)) fun D σ H q => ?_
  obtain ⟨ρ, F, T, n, R, q⟩ := q
  exact ⟨ρ, F, T, n, R, (Sf.stp R q).mono fun d n1 H1 F1 e1 t1 k v _ => k σ H1 F1 (R.step e1 t1) Kp.refl⟩
theorem ss_if {c : Expr} {a b : List Stmt} {fc : Ss.Env → M Bool} {fa fb' : Ss.Env → M Fl} {pos : Pos} (hc : PT X c (tT g B W fc)) (ha : PSs X a (tS g B W fa)) (hb : PSs X b (tS g B W fb')) : PS X (.If c a b pos) (tS g B W fun ρ => stp ρ (fc ρ) fun k => if k then fa ρ else fb' ρ) := by
  refine ps_wk (ps_if hc ha hb) fun D σ H q => ?_
  obtain ⟨ρ, F, T, n, R, q⟩ := q
  refine ⟨ρ, F, T, n, R, (Sf.stp R q).mono fun k n1 H1 F1 e1 t1 q1 => ?_⟩
  have R1 := R.step e1 t1
  cases k with
  | true => exact ⟨ρ, F1, T, n1, R1, q1⟩
  | false => exact ⟨ρ, F1, T, n1, R1, q1⟩
theorem ss_ret {e : Expr} {f : Ss.Env → M Ss.D} {pos : Pos} (he : PE X e (tI g B W .full f)) : PS X (.Return (some e) pos) (tS g B W fun ρ => stp ρ (f ρ) fun d => ret (.rt d)) := by
  refine ps_wk (ps_ret he) fun D σ H q => ?_
  obtain ⟨ρ, F, T, n, R, q⟩ := q
  exact ⟨ρ, F, T, n, R, (Sf.stp R q).mono fun d n1 H1 F1 e1 t1 k v p => k v H1 F1 (R.step e1 t1).ev t1 p⟩
theorem ss_pas {pos : Pos} : PS X (.Pass pos) (tS g B W fun ρ => ret (.nx ρ)) := by
  refine ps_wk ps_pass fun D σ H q => ?_
  obtain ⟨ρ, F, T, n, R, q⟩ := q
  exact q σ H F R Kp.refl
/-- an own error, ready to be raised -/
structure ClG (g : Gd) (c : Str) : Prop where
  ex : ∃ C, g.mg c = some (.ref C) ∧ PySem.W.excIn g.K C He.veBase "ValueError.__new__" = true ∧ PySem.W.keepIn g.K (.ref C) = true ∧ PySem.W.subIn g.K (.ref C) (.type "BaseException") = some true ∧ PySem.W.typeIn g.K (.ref C) = some (.type "type")
theorem ss_rai (G : Gud g X W sc fb N L) {c m : Str} {j : Nat} {p p2 pos pos2 : Pos} (hc : ClG g c) (hg : glB sc c = true) : PS X (.Raise (some (.Call (.Name c p) [.Constant (.str m) j p2] [] pos)) none pos2) (tS g B W fun ρ => ret (.ex c ρ)) := by
  obtain rfl := G.gd
  obtain ⟨C, h1, h2, h3, h4, h5⟩ := hc.ex
  obtain ⟨g1, g2⟩ := G.gl hg
  refine ps_wk (ps_raise G.calm G.tk (pmk_own PySem.F.excBase_ValueError h2 h1 h3 (raises_own h4 h5) g1 g2)) fun D σ H q => ?_
  obtain ⟨ρ, F, T, n, R, q⟩ := q
  exact q σ H F R Kp.refl C h1
theorem ss_for (G : Gud g X W sc fb N L) {tg : Tg} {tgE iter : Expr} {body : List Stmt} {fi : Ss.Env → M (List Ss.D)} {f : Ss.Env → M Fl} {pos : Pos} (hi : PI X tgE iter (iI g B W true fi)) (hg : PG X tgE (gT g.K tg)) (hb : PSs X body (tS g B W f)) (hs : noSet iter = true) :
    PS X (.For tgE iter body [] pos) (tS g B W fun ρ => stp ρ (fi ρ) fun ds => fors (fun d ρ => bnd (lft (tg.put d ρ)) fun ρ' => f ρ') ds ρ) := by
  refine ps_wk (ps_for G.own G.calm hi hg hb (noSet_fold hs X.env)) fun D σ H q => ?_
  obtain ⟨ρ, F, T, n, R, q⟩ := q
  refine ⟨ρ, F, T, n, R, (Sf.stp R q).mono fun ds n1 H1 F1 e1 t1 q1 J wk => ?_⟩
  have R1 := R.step e1 t1
  obtain ⟨us, P, w, r, hl, _, pK⟩ := wk
  refine for_it w (fun i σc Hc => ∃ ρc Fc nc, Rel g B ρc σc Hc Fc T nc ∧ Kp H1 F1 Hc Fc ∧ Sf g B W D T H1 F1 (fors (fun d ρ => bnd (lft (tg.put d ρ)) fun ρ' => f ρ') (ds.drop i) ρc nc)) ⟨ρ, F1, n1, R1, Kp.refl, q1⟩ ?hG ?hs ?hd
  case hG =>
    rintro i σc Hc _ ⟨ρc, Fc, nc, Rc, kc, _⟩
    exact pK rfl Hc Fc kc
  case hd =>
    rintro σc Hc ⟨ρc, Fc, nc, Rc, kc, s⟩
    rw [List.drop_length] at s
    exact s σc Hc Fc Rc kc
  case hs =>
    rintro i x σc Hc Hc' hi ⟨ρc, Fc, nc, Rc, kc, s⟩ ⟨rfl, hx⟩
    obtain ⟨d, hd, rd⟩ := r.get' hx
    rw [List.drop_eq_getElem_cons hi] at s
    have ed : ds[i] = d := by
      have z := List.getElem?_eq_getElem hi
      rw [hd] at z; exact (Option.some.inj z).symm
    rw [ed] at s
    have rdc := Rp.kp kc (fun _ z => z) _ _ rd
    simp only [fors, fq, bnd] at s
    cases ep : tg.put d ρc with
    | none => rw [ep] at s; exact False.elim s
    | some ρ2 =>
      rw [ep] at s
      refine gT_read ep rdc Rc fun σ' R' _ => ⟨ρ2, Fc, T, nc, R', ?_⟩
      simp only [lft, ret] at s
      cases ef : f ρ2 nc with
      | bad => rw [ef] at s; exact s
      | exc c n2 => rw [ef] at s; exact s
      | ok fl n2 =>
        rw [ef] at s
        cases fl with
        | nx ρ3 => exact fun σ2 H2 F2 R2 k2 => ⟨ρ3, F2, n2, R2, kc.trans k2, s⟩
        | ct ρ3 => exact fun σ2 H2 F2 R2 k2 => ⟨ρ3, F2, n2, R2, kc.trans k2, s⟩
        | rt v => exact s
        | ex c ρ3 => exact fun σ2 H2 F2 R2 k2 => s σ2 H2 F2 R2 (kc.trans k2)
end
end Ss
/-! Ss, part Q: dicts of the frame's own, as statements. -/
namespace Ss
open PySem PySem.Spec PyProof.Rows L2
section
variable {g : Gd} {X : Cx} {W : WX} {sc : Scope} {fb : Str → Bool} {N : List Str} {L : Nat} {B : Bs} {D : Ends} {T : Option Addr} {H H1 : Hp} {F F1 : FS} {n : S} {σ : L2.St} {ρ : Ss.Env}
theorem Rel.bnone (R : Rel g B ρ σ H F T n) {a : Addr} (h : H a = none) : B.H a = none := by
  have ta : T ≠ some a := fun z => by rw [R.tw.tn a z] at h; cases h
  cases e : B.H a with
  | none => rfl
  | some o =>
    by_cases z : B.T = some a
    · rcases R.tt with y | ⟨y, _⟩
      · exact absurd (y.symm.trans z) ta
      · rw [y] at z; cases z
    · by_cases m : a ∈ B.F.ob
      · obtain ⟨l, el, _⟩ := R.ev.obs
        obtain ⟨u, hu⟩ := (R.tw.isS (a := a) (by rw [el]; exact List.mem_append_left _ m)).1
        rw [hu] at h; cases h
      · rw [R.ev.same a o e z fun y => absurd y m] at h; cases h
/-- x = {} -/
theorem ss_dnw (G : Gud g X W sc fb N L) {i : Nat} {x : Str} {px p pos : Pos} (k1 : tgB sc fb N i x = true) : PS X (.Assign [.Name x px] (.Dict [] [] p) pos) (tS g B W fun ρ => ret (.nx (ρ.set i (.odc [] [])))) := by
  obtain rfl := G.gd
  obtain ⟨l1, l2, l3⟩ := G.loc k1
  have nd : X.N.Nodup := by rw [G.nm]; exact G.nd
  refine ps_wk (ps_set nd l1 l2 pe_dnewX rfl l3) fun D σ H q => ?_
  obtain ⟨ρ, F, T, n, R, q⟩ := q
  intro p hp hs
  have R1 := R.step (Ev.alloc (o := DX X.prog X.w p []) hp) (R.tw.alloc hp)
  have fp : ¬ F p := fun f => by
    obtain ⟨o, z⟩ := R.dm p f
    rw [hp] at z; cases z
  have tp : T ≠ some p := fun z => by rw [R.tw.tn p z] at hp; cases hp
  refine q _ _ F (R1.putS i ⟨p, [], rfl, upd_same, fp, tp, R.tw.notIn hp, R.bnone hp, ⟨hs, Nat.zero_le _, List.nodup_nil⟩, rfl, by simp only [List.map_nil, Rps], [], .nil, by simp only [Rps]⟩ fun j hj => ?_) (Kp.alloc hp fun _ f => f)
  obtain ⟨u, z⟩ := R.ownH (show OwnAt ρ σ j p from hj)
  rw [hp] at z; cases z
/-- the own dict in slot i is written -/
theorem Rel.writeD (R : Rel g B ρ σ H F T n) {i : Nat} {ks us ks' us' : List Ss.D} {xs ys : List (NestedKey × Addr × Value)} {a : Addr} (ei : ρ[i]? = some (.odc ks us)) (es : σ[i]? = some (some (.ref a))) (ha : H a = some (DX g.P g.w a xs)) (f : ¬ F a) (t : T ≠ some a) (no : a ∉ F.ob) (b : B.H a = none) (ok : DxOk ys a) (r : DRel g H F T ks' us' ys) :
    Rel g B (ρ.set i (.odc ks' us')) σ (upd H a (DX g.P g.w a ys)) F T n ∧ Kp H F (upd H a (DX g.P g.w a ys)) F := by
  have hn : ∀ j, ¬ OwnAt (ρ.set i .emp) (σ.set i none) j a := fun j ⟨⟨zs, e1, e3⟩, e2⟩ => by
    by_cases e : i = j
    · subst e
      by_cases hl : i < ρ.length
      · rw [List.getElem?_set_self hl] at e1; cases e1; cases e3
      · rw [List.getElem?_eq_none (by rw [List.length_set]; omega)] at e1; cases e1
    · rw [List.getElem?_set_ne e] at e1 e2
      exact e (R.dj i j a ⟨⟨_, ei, rfl⟩, es⟩ ⟨⟨zs, e1, e3⟩, e2⟩)
  have n1 : ∀ xs, H a ≠ some (.tup xs) := fun xs z => by rw [ha] at z; cases z
  have n2 : ∀ o u, H a ≠ some (.frz o u) := fun o u z => by rw [ha] at z; cases z
  have kk : Kp H F (upd H a (DX g.P g.w a ys)) F := Kp.writeX n1 n2 f
  have R1 := (R.forget i none).writeX (o := DX g.P g.w a ys) n1 n2 f t no b hn
  obtain ⟨ws, r1, r2⟩ := r.rv
  have R2 := R1.putS i (s0 := .odc ks' us') (a := a) ⟨a, ys, rfl, upd_same, f, t, no, b, ok, r.key, Rps.kp kk (fun _ z => z) _ _ r.rk, ws, r1, Rps.kp kk (fun _ z => z) _ _ r2⟩ fun j hj => absurd hj (hn j)
  rw [List.set_set, List.set_set, set_self es] at R2
  exact ⟨R2, kk⟩
/-- x[k] = v -/
def sDX (g : Gd) (i : Nat) (tv tk : TE) : TS := fun D σ H => tv σ H fun w H1 => ∃ a, σ[i]? = some (some (.ref a)) ∧ tk σ H1 fun y H2 => ∃ (b : Addr) (kk : NestedKey) (xs : List (NestedKey × Addr × Value)) (F : FS) (T : Option Addr) (d : Ss.D) (ks us : List Ss.D), y = .ref b ∧ H2 a = some (DX g.P g.w a xs) ∧ DxOk xs a ∧ DRel g H2 F T ks us xs ∧ topKey d = some kk ∧ Rp g H2 F T d (.ref b) ∧
  ∀ r, RelV w r → ((storedH xs kk b r).map (·.1)).Nodup → D.nx σ (upd H2 a (DX g.P g.w a (storedH xs kk b r)))
theorem ps_dptX (hu : X.A.units + 65 < cLine) {i : Nat} {x : Str} {k v : Expr} {tv tk : TE} {p p2 pos : Pos} (hi : X.N[i]? = some x) (ho : PE X (.Name x p) (tVar i)) (hk : PE X k tk) (hv : PE X v tv) (hn : noComp v = true) :
    PS X (.Assign [.Subscript (.Name x p) k p2] v pos) (sDX (gdOf X) i tv tk) := by
  refine ⟨fun pins s σ H D I q => ?_⟩
  refine wpAny_Assign_Subscript (thn (hv.run pins s σ H _ I q) fun r s1 ⟨w, H1, I1, rw_, a, ea, q1⟩ => thn (ho.run pins s1 σ H1 (fun x H2 => x = .ref a ∧ H2 = H1) I1 ⟨_, ea, rfl, rfl⟩) fun u s2 ⟨x', H2, I2, rx, ex, eH⟩ => ?_) (sw_plain hn)
  subst ex eH
  obtain rfl : u = Value.ref a := rx
  refine thn (hk.run pins s2 σ H2 _ I2 q1) fun iv s3 ⟨y, H3, I3, ry, b, kk, xs, F, T, d, ks, us, ey, e2, ok, dr, tk, rd, q3⟩ => ?_
  subst ey
  obtain rfl : iv = Value.ref b := ry
  obtain ⟨b', eb, hb⟩ := topKey_is I3 tk rd
  cases eb
  exact dx_set hu I3 e2 (dx_of I3 e2 ok dr.key dr.rk) hb ok.len fun s4 I4 nd => ⟨σ, _, I4, q3 r rw_ nd⟩
theorem ss_dpt (G : Gud g X W sc fb N L) {i : Nat} {x : Str} {k v : Expr} {fk fv : Ss.Env → M Ss.D} {p p2 pos : Pos} (h : nmB sc N i x = true) (hk : PE X k (tI g B W .full fk)) (hv : PE X v (tI g B W .full fv)) (hn : noComp v = true) :
    PS X (.Assign [.Subscript (.Name x p) k p2] v pos) (tS g B W fun ρ => stp ρ (fv ρ) fun w => bnd (lft (getK ρ i)) fun p => stp ρ (fk ρ) fun d => bnd (lft ((topKey d).bind fun q => if p.1.length < sizeLine then dput p.1 p.2 q d w else none)) fun p => ret (.nx (ρ.set i (.odc p.1 p.2)))) := by
  obtain rfl := G.gd
  obtain ⟨h1, h2, h3, h4⟩ := G.vis h
  refine ps_wk (ps_dptX G.units h1 (pe_var h1 h2 h3 h4) hk hv hn) fun D σ H q => ?_
  obtain ⟨ρ, F, T, n, R, q⟩ := q
  refine ⟨ρ, F, T, n, R, (q.stp R).mono fun w n1 H1 F1 e1 t1 q1 v p1 => ?_⟩
  have R1 := R.step e1 t1
  have key : ∃ ks us, getK ρ i = some (ks, us) := by
    cases eg : getK ρ i with
    | none => rw [eg] at q1; exact False.elim q1
    | some pr => exact ⟨pr.1, pr.2, rfl⟩
  obtain ⟨ks, us, eg⟩ := key
  rw [eg] at q1
  have q1 : Sf (gdOf X) B W D T H1 F1 (stp ρ (fk ρ) (fun d => bnd (lft ((topKey d).bind fun q => if ks.length < sizeLine then dput ks us q d w else none)) fun p => ret (.nx (ρ.set i (.odc p.1 p.2)))) n1) := q1
  obtain ⟨er, a, xs, ea, _⟩ := R1.ock eg
  refine ⟨a, ea, ρ, F1, T, n1, R1, (q1.stp R1).mono fun d n2 H2 F2 e2 t2 q2 y p2 => ?_⟩
  have R2 := R1.step e2 t2
  obtain ⟨er, a', xs, ea', b1, b2, b3, bo, b4, ok, b5, b6, ws, b7, b8⟩ := R2.ock eg
  rw [ea] at ea'
  cases ea'
  cases et : topKey d with
  | none => rw [et] at q2; exact False.elim q2
  | some kk =>
    rw [et] at q2
    simp only [Option.bind_some] at q2
    by_cases hl : ks.length < sizeLine
    · rw [if_pos hl] at q2
      cases ed : dput ks us kk d w with
      | none => rw [ed] at q2; exact False.elim q2
      | some pr =>
        obtain ⟨ks', us'⟩ := pr
        rw [ed] at q2
        have p2' : Rp (gdOf X) H2 F2 T d y := p2
        have hb : ∃ b, y = .ref b := by
          cases d <;> simp only [topKey, reduceCtorEq] at et
          simp only [Rp] at p2'
          obtain ⟨b, _, e, _⟩ := p2'
          exact ⟨b, e⟩
        obtain ⟨b, rfl⟩ := hb
        have dr : DRel (gdOf X) H2 F2 T ks us xs := ⟨b5, b6, ws, b7, b8⟩
        refine ⟨b, kk, xs, F2, T, d, ks, us, rfl, b1, ok, dr, et, p2', fun r hr nd => ?_⟩
        have pw : Rp (gdOf X) H2 F2 T w v := R1.rp e2 p1
        obtain ⟨dr', l'⟩ := dput_rel et p2' pw hr dr ok.nd ed
        have lx : xs.length = ks.length := by have := b6.len; rw [List.length_map] at this; exact this
        obtain ⟨R3, kk3⟩ := R2.writeD er ea b1 b2 b3 bo b4 ⟨ok.sys, by omega, nd⟩ dr'
        exact q2 σ _ F2 R3 kk3
    · rw [if_neg hl] at q2; exact False.elim q2
/-- x.extend(e) -/
theorem ext_read {i : Nat} {f : Ss.Env → M Ss.D} (h : tS g B W (fun ρ => bnd (lft (getO ρ i)) fun xs => stp ρ (f ρ) fun d => match d with
    | .lst ys => if xs.length + ys.length ≤ sizeLine then ret (.nx (ρ.set i (.own (xs ++ ys)))) else bad
    | _ => bad) D σ H) :
    ∃ v, σ[i]? = some (some v) ∧ tyV g.K "list" v H ∧ tI g B W .shal f σ H fun y H2 => rExtend v [y] H2 fun _ H3 => D.nx σ H3 := by
  obtain ⟨ρ, F, T, n, R, h⟩ := h
  cases eo : getO ρ i with
  | none => simp only [eo] at h; exact False.elim h
  | some xs =>
    simp only [eo] at h
    obtain ⟨ei, a, vs, e1, e2, e3, e4, eo', e5, e6, e7⟩ := R.owd eo
    refine ⟨.ref a, e1, .inl ⟨rfl, vs, SqL.of e2⟩, ρ, F, T, n, R, (Sf.stp R h).mono fun d n1 H1 F1 ev1 t1 q v p => ?_⟩
    have R1 := R.step ev1 t1
    have e2' := ev1.same a _ e2 e4 fun z => absurd z eo'
    have f' : ¬ F1 a := fun z => by
      rcases ev1.new a z with z | z | z
      · exact e3 z
      · rw [e2] at z; cases z
      · exact eo' z
    have r' := R.rps ev1 e7
    cases d with
    | lst ys =>
      dsimp only at q
      obtain ⟨b, us, rfl, k1, k2, k3⟩ := RpS.lst p
      by_cases hl : xs.length + ys.length ≤ sizeLine
      · rw [if_pos hl] at q
        have hl' : vs.length + us.length ≤ sizeLine := by rw [e7.len, k3.len]; exact hl
        exact ⟨a, b, vs, us, rfl, rfl, e2', k1, hl', q σ _ F1 (R1.writeO ei e1 e2' f' e4 (ev1.nob e2 eo') e5 (by rw [List.length_append]; exact hl') (r'.app k3)) (Kp.write e2' f')⟩
      · rw [if_neg hl] at q; exact False.elim q
    | _ => exact False.elim q
theorem ss_ext (G : Gud g X W sc fb N L) {i : Nat} {x : Str} {e : Expr} {f : Ss.Env → M Ss.D} {p ap pos pos2 : Pos} (hx : nmB sc N i x = true) (he : PE X e (tI g B W .shal f)) (hn : nst e = true) (hl : (ap.endLine == pos.line) = true) :
    PS X (.Expr (.Call (.Attribute (.Name x p) "extend" ap) [e] [] pos) pos2) (tS g B W fun ρ => bnd (lft (getO ρ i)) fun xs => stp ρ (f ρ) fun d => match d with
    | .lst ys => if xs.length + ys.length ≤ sizeLine then ret (.nx (ρ.set i (.own (xs ++ ys)))) else bad
    | _ => bad) :=
  ps_wk (ps_meth PySem.F.slot_list_extend PySem.F.type_list_extend mt_extend G hx he hn hl) fun _ _ _ q => ext_read q
/-- while -/
theorem ss_whl (G : Gud g X W sc fb N L) {c : Expr} {body : List Stmt} {fc : Ss.Env → M Bool} {f : Ss.Env → M Fl} {m : Nat} {pos : Pos} (hc : PT X c (tT g B W fc)) (hb : PSs X body (tS g B W f)) :
    PS X (.While c body [] pos) (tS g B W fun ρ => whls fc f m ρ) := by
  refine ps_wk (ps_while G.own hc hb) fun D σ H q => ?_
  obtain ⟨ρ, F, T, n, R, q⟩ := q
  refine ⟨fun k σc Hc => ∃ ρc Fc nc, Rel g B ρc σc Hc Fc T nc ∧ Sf g B W D T Hc Fc (whls fc f k ρc nc), ⟨m, ρ, F, n, R, q⟩, ?_⟩
  rintro k σc Hc ⟨ρc, Fc, nc, Rc, s⟩
  cases k with
  | zero => exact False.elim s
  | succ k =>
    simp only [whls] at s
    refine ⟨ρc, Fc, T, nc, Rc, (Sf.stp Rc s).mono fun b n1 H1 F1 e1 t1 q1 => ?_⟩
    have R1 := Rc.step e1 t1
    cases b with
    | false =>
      rw [if_neg (by decide)] at q1
      dsimp only
      rw [if_neg (by decide)]
      exact q1 σc H1 F1 R1 Kp.refl
    | true =>
      rw [if_pos rfl] at q1
      dsimp only
      rw [if_pos rfl]
      refine ⟨fun σ' H' => ∃ ρ' F' n', Rel g B ρ' σ' H' F' T n' ∧ Sf g B W D T H' F' (whls fc f k ρ' n'), ?_, ρc, F1, T, n1, R1, ?_⟩
      · rintro σ' H' ⟨ρ', F', n', R', s'⟩
        exact ⟨k, Nat.lt_succ_self k, ρ', F', n', R', s'⟩
      · unfold sq bnd at q1
        cases ef : f ρc n1 with
        | bad => rw [ef] at q1; exact q1
        | exc c n2 => rw [ef] at q1; exact q1
        | ok fl n2 =>
          rw [ef] at q1
          cases fl with
          | nx ρ3 => exact fun σ2 H2 F2 R2 k2 => ⟨ρ3, F2, n2, R2, Sf.later q1 k2⟩
          | rt v => exact q1
          | ct ρ3 => exact False.elim q1
          | ex c ρ3 => exact q1
/-! ### a, b = x, y -/
def isStar : Expr → Bool
  | .Starred .. => true
  | _ => false
/-- both are the frame's own names: stored from the right -/
def parK (sc : Scope) (x y : Str) (px py : Pos) (a b : Expr) : Bool := decide (sc.kind = .function) && (sc.names.lookup x == some .local) && (sc.names.lookup y == some .local) && (py.line == px.line) && decide (x ≠ y) && nst a && nst b && ([a, b].all (foldedForSure 8) == false) && ([a, b].all (constantsAlone 8) == false)
theorem starB {a : Expr} (h : nst a = true) : (match a with
    | .Starred .. => true
    | _ => false) = false := by cases a <;> first | rfl | (simp [nst] at h)
theorem par_sw {env : PySem.Env} {sc : Scope} (es : env.scope = sc) {x y : Str} {px py pt pt2 : Pos} {kt k2 : Nat} {a b : Expr} (h : parK sc x y px py a b = true) : swappedStores [.Tuple [.Name x px, .Name y py] kt pt] (.Tuple [a, b] k2 pt2) env = pure (some [x, y]) := by
  unfold parK at h
  simp only [Bool.and_eq_true, decide_eq_true_eq, beq_iff_eq] at h
  obtain ⟨⟨⟨⟨⟨⟨⟨⟨h1, h2⟩, h3⟩, h4⟩, h5⟩, h6⟩, h7⟩, h8⟩, h9⟩ := h
  have kb : env.blockKind = .function := by
    unfold PySem.Env.blockKind
    rw [es, h1]; rfl
  have k1 : env.kindOf x = some .local := by unfold PySem.Env.kindOf; rw [es]; exact h2
  have k2 : env.kindOf y = some .local := by unfold PySem.Env.kindOf; rw [es]; exact h3
  have s1 := starB h6
  have s2 := starB h7
  have e1 : ([x, y] : List Str).eraseDups = [x, y] := by
    have : (y == x) = false := beq_eq_false_iff_ne.mpr fun z => h5 z.symm
    simp [List.eraseDups_cons, this]
  unfold swappedStores
  simp only [List.length_cons, List.length_nil, kb, List.any_cons, List.any_nil, s1, s2, List.head?_cons, Option.map_some, Option.getD_some, List.filterMap_cons, List.filterMap_nil, k1, k2, h8, h9]
  rw [if_neg (by decide)]
  rw [if_neg (by
    intro z
    simp only [Bool.or_false, Bool.or_eq_true] at z
    rcases z with z | z
    · cases a <;> first | (simp [nst] at h6; done) | (simp at z; done)
    · cases b <;> first | (simp [nst] at h7; done) | (simp at z; done))]
  have l1 : (Expr.Name x px).pos.line = px.line := rfl
  simp only [l1, h4, beq_self_eq_true, Bool.and_self, if_true, List.length_cons, List.length_nil, e1]
  rfl
def parN (sc : Scope) (x y : Str) (px py : Pos) (a b : Expr) : Bool := nst a && nst b && !((sc.names.lookup x == some .local) && ((sc.names.lookup y == some .local) && (py.line == px.line)))
theorem par_no {env : PySem.Env} {sc : Scope} (es : env.scope = sc) {x y : Str} {px py pt pt2 : Pos} {kt k2 : Nat} {a b : Expr} (h : parN sc x y px py a b = true) : swappedStores [.Tuple [.Name x px, .Name y py] kt pt] (.Tuple [a, b] k2 pt2) env = pure none := by
  unfold parN at h
  simp only [Bool.and_eq_true] at h
  obtain ⟨⟨h6, h7⟩, h8⟩ := h
  have k1 : env.kindOf x = sc.names.lookup x := by unfold PySem.Env.kindOf; rw [es]
  have k2 : env.kindOf y = sc.names.lookup y := by unfold PySem.Env.kindOf; rw [es]
  unfold swappedStores
  simp only [List.length_cons, List.length_nil, List.any_cons, List.any_nil, List.head?_cons, Option.map_some, Option.getD_some, List.filterMap_cons, List.filterMap_nil, k1, k2]
  split
  · rfl
  · rw [if_neg (by
      intro z
      simp only [Bool.or_false, Bool.or_eq_true] at z
      rcases z with z | z
      · cases a <;> first | (simp [nst] at h6; done) | (simp at z; done)
      · cases b <;> first | (simp [nst] at h7; done) | (simp at z; done))]
    have l1 : (Expr.Name x px).pos.line = px.line := rfl
    simp only [l1]
    cases e1 : (sc.names.lookup x == some NameKind.local) with
    | false =>
      cases e2 : ((sc.names.lookup y == some NameKind.local) && (py.line == px.line)) with
      | false => simp
      | true => simp
    | true =>
      rw [e1, Bool.true_and] at h8
      have h8 : ((sc.names.lookup y == some NameKind.local) && (py.line == px.line)) = false := by
        cases q : ((sc.names.lookup y == some NameKind.local) && (py.line == px.line)) with
        | false => rfl
        | true => rw [q] at h8; cases h8
      rw [h8]; simp
theorem ss_par (G : Gud g X W sc fb N L) {i j : Nat} {x y : Str} {a b : Expr} {f : Ss.Env → M (List Ss.D)} {px py pt pt2 pos : Pos} {kt k2 : Nat} (hi : N[i]? = some x) (hj : N[j]? = some y) (hij : i ≠ j) (hk : parK sc x y px py a b = true) (ha : PA X [a, b] (tIs g B W .full f)) :
    PS X (.Assign [.Tuple [.Name x px, .Name y py] kt pt] (.Tuple [a, b] k2 pt2) pos) (tS g B W fun ρ => stp ρ (f ρ) fun ds => match ds with
    | [u, v] => ret (.nx ((ρ.set i (.dat u)).set j (.dat v)))
    | _ => bad) := by
  have hk' := hk
  unfold parK at hk'
  simp only [Bool.and_eq_true, decide_eq_true_eq, beq_iff_eq] at hk'
  obtain ⟨⟨⟨⟨⟨⟨⟨⟨h1, h2⟩, h3⟩, h4⟩, h5⟩, h6⟩, h7⟩, h8⟩, h9⟩ := hk'
  have nd : X.N.Nodup := by rw [G.nm]; exact G.nd
  refine ps_wk (ps_par G.calm nd (by rw [G.nm]; exact hi) (by rw [G.nm]; exact hj) hij (by rw [G.es]; exact h2) (by rw [G.es]; exact h3) ha (par_sw G.es hk) ?_) fun D σ H q => ?_
  · rfl
  · obtain ⟨ρ, F, T, n, R, q⟩ := q
    refine ⟨ρ, F, T, n, R, (Sf.stp R q).mono fun ds n1 H1 F1 e1 t1 q1 vs p1 => ?_⟩
    have R1 := R.step e1 t1
    match ds, p1, q1 with
    | [u, v], p1, q1 =>
      have p1 : Rps g H1 F1 T [u, v] vs := p1
      simp only [Rps] at p1
      obtain ⟨v1, r, rfl, a1, v2, r', rfl, a2, rfl⟩ := p1
      refine ⟨v1, v2, rfl, q1 _ H1 F1 ((R1.put i a1).put j a2) Kp.refl⟩
    | [], _, q1 => exact False.elim q1
    | [_], _, q1 => exact False.elim q1
    | _ :: _ :: _ :: _, _, q1 => exact False.elim q1
end
end Ss
/-! Ss, part U: try .. except X as n: the error is kept as a value. -/
namespace Ss
open PySem PySem.Spec PyProof.Rows L2
theorem xo_ok {P : Program} {w : World} {H : Hp} {h : Heap} {a : Addr} {cls : Value} {oe : Obj} {vs : Array Value} (e : h.get? a = some oe) (z : Zc cls none oe) (d : oe.data = .fields vs) : ObjOk P w H h a (XO cls a) :=
  ⟨⟨oe, vs, e, z, d⟩, ⟨oe, e⟩, fun _ _ ⟨o, v, q, r⟩ k => ⟨o, v, k o q, r⟩⟩
section
variable {X : Cx} {pins : List (Addr × Obj)} {σ : L2.St} {H : Hp} {sI s' : Shared} {G : Heap}
/-- landed: the error's object is tracked from now on -/
theorem land_kept {a : Addr} {cls : Value} {oe : Obj} {vs : Array Value} (I : Inv X pins σ H sI)
    (gr : ∀ b o, sI.heap.get? b = some o → b ∉ frs X.stack → G.get? b = some o) (st : G.StaysIn s'.heap) (up : sI.heap.UpToSlots s'.heap) (os : s'.os = sI.os) (ag : AllBare s'.gens)
    (na : H a = none) (ga : G.get? a = none) (nf : a ∉ frs X.stack) (he : s'.heap.get? a = some oe) (hz : Zc cls none oe) (hd : oe.data = .fields vs) :
    Inv X pins σ (upd H a (XO cls a)) s' := by
  have sa : sI.heap.get? a = none := by
    cases q : sI.heap.get? a with
    | none => rfl
    | some o =>
      have z := gr a o q nf
      rw [ga] at z; cases z
  have fr : ∀ b ∈ frs X.stack, ∀ o, sI.heap.get? b = some o → ∃ sl, s'.heap.get? b = some { o with slots := sl } := by
    intro b hb o e
    obtain ⟨_, o2, e2, hd2⟩ := I.stack.mem hb
    rw [e] at e2
    cases e2
    exact up b o e hd2
  have ne : ∀ {b : Addr} {u : HO}, H b = some u → b ≠ a := fun {b u} q z => by rw [z, na] at q; cases q
  have un : Un (frs X.stack) [] H (upd H a (XO cls a)) sI.heap s'.heap :=
    { keep := fun b o e _ hb _ => st b o (gr b o e hb)
      slot := fun b o e _ hb _ => fr b hb o e
      free := fun b o e q _ => by
        have nb : b ≠ a := fun z => by rw [z, sa] at e; cases e
        rw [upd_ne nb]; exact q
      there := fun b o e _ => by
        by_cases hb : b ∈ frs X.stack
        · obtain ⟨sl, q⟩ := fr b hb o e; exact ⟨_, q⟩
        · exact ⟨o, st b o (gr b o e hb)⟩
      tups := fun b xs q => by rw [upd_ne (ne q)]; exact q
      frzs := fun b o u q => by rw [upd_ne (ne q)]; exact q
      tbls := fun b ps q => ⟨#[], by rw [upd_ne (ne q), q]; simp⟩ }
  have base : HOk X.prog X.w H s'.heap := (I.inGround gr).kept st
  have hok : HOk X.prog X.w (upd H a (XO cls a)) s'.heap := fun b u e => by
    by_cases q : b = a
    · rw [q, upd_same] at e
      cases e
      rw [q]; exact xo_ok he hz hd
    · rw [upd_ne q] at e
      exact (base b u e).stay (fun _ _ _ r => r) (fun c r => by rw [upd_ne (ne r)]; exact r) fun c xs r => by rw [upd_ne (ne r)]; exact r
  have J := I.call (ch := []) (g' := s'.gens) (t' := s'.toks) (d' := s'.drawn) un hok ag fun _ z => nomatch z
  obtain ⟨b1, b2, b3, b4, b5⟩ := s'
  have e5 : b5 = sI.os := os
  rw [e5]; exact J
end
/-- what 'except x as n' wishes: the error is of the class, and is tracked -/
def wKept (K : PySem.W.Frag) (c : Value) (i : Nat) (ts : TS) (Wo : WX) (D : Ends) : WX := fun cls d σ H =>
  (PySem.W.exmOne K cls c = some true ∧ d = none ∧ ∀ a, H a = none → ts { nx := fun τ H' => D.nx (τ.set i none) H', rt := D.rt, bk := fun τ H' => D.bk (τ.set i none) H', ct := fun τ H' => D.ct (τ.set i none) H' } (σ.set i (some (.ref a))) (upd H a (XO cls a))) ∨
  (PySem.W.exmOne K cls c = some false ∧ Wo cls d σ H)
section
variable {X : Cx} {x n : Str} {c : Value} {i : Nat} {body suite : List Stmt} {b0 : Stmt} {np pos p2 : Pos} {tb : WX → TS} {ts : TS} {Wo : WX}
theorem ps_try_kept (hs : X.stack = X.env :: X.outer) (hf : X.env.frame = some X.env.locals) (nd : X.N.Nodup) (hi : X.N[i]? = some n) (hl : X.env.kindOf n = some .local) (hc : Names X x c) (tk : Takes X Wo)
    (hb : ∀ (W : WX) (pn : List (Addr × Obj)) (xe : Value → Shared → Prop), Takes (X.tr pn xe) W → PassesOwn (model X.prog X.w) X.A X.env xe → PSs (X.tr pn xe) body (tb W))
    (hsu : ∀ (a : Addr) (pn : List (Addr × Obj)), PSs (X.suite a pn) (b0 :: suite) ts) :
    PS X (.Try body [.ExceptHandler (some (.Name x np)) (some n) (b0 :: suite) p2] [] [] pos) (fun D σ H => tb (wKept X.K c i ts Wo D) D σ H) := by
  constructor
  intro pins s σ H D I h
  have fr : X.A.frames = some (X.env :: X.outer) := by rw [I.ok.frames, hs]
  refine wpAny_Try_except (wpAny_mono ((hb (wKept X.K c i ts Wo D) (X.pn ++ pins) _ ?air PassesOwn.looking).run [] s σ H D (I.toTry _) h) ?thru fun _ _ z => z)
  case thru =>
    intro f s1 r
    cases f with
    | next => obtain ⟨τ, H1, J, q⟩ := r; exact wpAny_execs_nil ⟨τ, H1, J.ofTry I.ok, q⟩
    | brk => obtain ⟨τ, H1, J, q⟩ := r; exact ⟨τ, H1, J.ofTry I.ok, q⟩
    | cont => obtain ⟨τ, H1, J, q⟩ := r; exact ⟨τ, H1, J.ofTry I.ok, q⟩
    | ret u => obtain ⟨v, τ, H1, J, r1, q⟩ := r; exact ⟨v, τ, H1, J.ofTry I.ok, r1, q⟩
  case air =>
    intro u s1 air
    obtain ⟨a, G, sI, pj, τ, H1, cls, d, rfl, J0, gr, up, sky, na, os, ag, wish⟩ := air
    have J : Inv X pins τ H1 sI := J0.ofTry I.ok
    rw [show (X.tr (X.pn ++ pins) _).stack = X.env :: X.outer from hs] at sky
    refine Sky.land Zc.steady fr hf sky fun h3 fl3 up3 => ?_
    have J3 : Inv X pins τ H1 { s1 with heap := h3 } := J.landed gr fl3.1 (up.trans up3) os ag
    obtain ⟨o3, v3, e3, z3, d3⟩ := fl3.there
    have nfr : a ∉ frs (X.env :: X.outer) := fun m => by
      obtain ⟨_, o4, e4, z4⟩ := fl3.2.2.1.mem m
      rw [e3] at e4
      cases e4
      exact z4 _ d3
    have nL : a ≠ X.env.locals := fun z => nfr (List.mem_filterMap.mpr ⟨X.env, by simp, by rw [hf, z]⟩)
    have nF : a ∉ X.fs := fun m => by
      obtain ⟨e, he, q⟩ := List.mem_filterMap.mp m
      exact nfr (List.mem_filterMap.mpr ⟨e, by simp [he], q⟩)
    have S3 := J3.suite e3 d3 na nL nF
    have look : PySem.W.Looks (model X.prog X.w) h3 (typeOf (.ref a)) cls := fun A Q E s k q => wpAny_typeOf_ref (k _ _ e3) (by rw [z3.1]; exact q)
    have name : ∀ {Q E : Value → Shared → Prop}, Q c { s1 with heap := h3 } → wpAny (model X.prog X.w) (X.A.mark (some (.ref a))) (eval (.Name x np) X.env) Q E { s1 with heap := h3 } := fun {Q E} q => by
      obtain ⟨n1, n2, n3⟩ := hc
      rcases n3 with n3 | ⟨n3, n4, n5⟩
      · exact ld_glob S3 n1 n3 q n2
      · exact ld_blt S3 n1 n3 n4 q n5 n2
    refine wpAny_handleBy_cons (codeAny_handlers_test (name ?_)) (fun z => by cases z)
    rcases wish with ⟨ex, rfl, go⟩ | ⟨ex, w⟩
    · refine (PySem.W.exm_one (M := model X.prog X.w) J3.kIn look ex).here (codeAny_handlers_suite_as (HandSPX.lands_againZ fl3 fun h4 fl4 up4 => ?_))
      obtain ⟨o4, v4, e4, z4, d4⟩ := fl4.there
      have J4 : Inv X pins τ (upd H1 a (XO cls a)) { s1 with heap := h4 } := land_kept J gr fl4.1 ((up.trans up3).trans up4) os ag na fl4.2.1 (by rw [hs]; exact nfr) e4 z4 d4
      have S4 : Inv (X.suite a (X.pn ++ pins)) [] τ (upd H1 a (XO cls a)) { s1 with heap := h4 } :=
        ⟨I.ok.suite _ _, J4.os, J4.bare, J4.base, J4.loc, J4.cell, J4.free, J4.freeC, fun p hp => J4.pin p (by simpa using hp), J4.hok, J4.len⟩
      refine store_ok (X := X.suite a (X.pn ++ pins)) (v := .ref a) S4 nd hi (.inl hl) rfl (fun s5 S5 => ?_) (.inr hl)
      have back : ∀ {τ6 : L2.St} {H6 : Hp} {s6 : Shared}, Inv (X.suite a (X.pn ++ pins)) [] τ6 H6 s6 → Inv X pins τ6 H6 s6 := fun {τ6 H6 s6} S6 =>
        ⟨I.ok, S6.os, S6.bare, S6.base, S6.loc, S6.cell, S6.free, S6.freeC, fun p hp => S6.pin p (by simpa using hp), S6.hok, S6.len⟩
      refine wpAny_mono ((hsu a (X.pn ++ pins)).run [] s5 _ _ _ S5 (go a na)) (fun f s6 r => ?_) (fun _ _ z => False.elim z)
      cases f with
      | next => obtain ⟨τ6, H6, S6, q6⟩ := r; exact gone_ok (back S6) nd hi hl fun s7 J7 => ⟨_, _, J7, q6⟩
      | brk => obtain ⟨τ6, H6, S6, q6⟩ := r; exact gone_ok (back S6) nd hi hl fun s7 J7 => ⟨_, _, J7, q6⟩
      | cont => obtain ⟨τ6, H6, S6, q6⟩ := r; exact gone_ok (back S6) nd hi hl fun s7 J7 => ⟨_, _, J7, q6⟩
      | ret u => obtain ⟨v6, τ6, H6, S6, r6, q6⟩ := r; exact gone_ok (back S6) nd hi hl fun s7 J7 => ⟨_, _, _, J7, r6, q6⟩
    · refine (PySem.W.exm_one (M := model X.prog X.w) J3.kIn look ex).here ?_
      show wpAny _ X.A (handleBy (.ref a) X.env []) _ _ _
      refine wpAny_handleBy_nil ?_
      obtain ⟨k1, k2, k3, oe, vs, tb, ob, tv, he, hz, hd, h1, hr⟩ := id fl3
      unfold PySem.passOn
      refine wpAny_bind (wpAny_field he hd h1 ?_)
      rw [if_neg (show ¬ ((Value.ref tb == Value.none) = true) by simp)]
      have out : wpAny (model X.prog X.w) X.A (setFlight (.ref a) X.env.frame) (fun _ s4 => wpAny (model X.prog X.w) X.A (throw (.ref a) : Sem Flow) (SP X pins D) X.xe s4) X.xe { s1 with heap := h3 } := by
        rw [hf]
        exact HandSPX.setFlight_upZ fl3 fun h4 hh4 up4 => wpAny_throw (tk _ _ ⟨a, G, sI, pins, τ, H1, cls, d, rfl, J, gr, (up.trans up3).trans up4, .inr (.inr (by rw [hs]; exact hh4)), na, os, ag, w⟩)
      first
        | exact wpAny_bind (wpAny_pure (wpAny_bind out))
        | exact wpAny_bind out
end
end Ss
/-! Ss, part M: blocks against the written text; a def keeps its promise. -/
namespace Ss
open PySem PySem.Spec PyProof.Rows L2
/-- where a def's statement stands -/
structure Gus (g : Gd) (X : Cx) (W : WX) (sc : Scope) (fb : Str → Bool) (N : List Str) (L : Nat) : Prop where
  g : Gud g X W sc fb N L
  st : X.stack = X.env :: X.outer
  fr : X.env.frame = some X.env.locals
/-- a further form of a statement does what it says -/
def SxOk (g : Gd) (L : Nat) (x : Sx) : Prop := ∀ (X : Cx) (W : WX) (sc : Scope) (fb : Str → Bool) (N : List Str) (B : Bs) (t : Stmt) (es : List Expr) (fs : List (Ss.Env → M D)), Gud g X W sc fb N L → x.dec sc t = some es → PVk X g B W .full es fs →
  PS X t (tS g B W fun ρ => stp ρ (bnd (evL ρ fs) x.sem) fun _ => ret (.nx ρ))
/-- what a clause takes -/
structure TryG (g : Gd) (c : Str) : Prop where
  ex : ∃ C, g.mg c = some (.ref C) ∧ ∀ e ∈ errs, ∀ E, g.mg e = some (.ref E) → PySem.W.exmOne g.K (.ref E) (.ref C) = some (cat c e)
mutual
def Stm.ok (g : Gd) (L : Nat) : Stm → Prop
  | .set _ e => e.ok g L
  | .seto _ e => e.ok g L
  | .app _ e => e.ok g L
  | .rem _ e => e.ok g L
  | .tapp _ => True
  | .exp e => e.ok g L
  | .ifs c a b => c.ok g L ∧ okss g L a ∧ okss g L b
  | .for _ it b => it.ok g L ∧ okss g L b
  | .ret e => e.ok g L
  | .rai c => ClG g c
  | .pas => True
  | .frz _ => True
  | .dnw _ => True
  | .dpt _ k v => k.ok g L ∧ v.ok g L
  | .frd _ => True
  | .whl _ c b => c.ok g L ∧ okss g L b
  | .ext _ e => e.ok g L
  | .par _ _ a b => a.ok g L ∧ b.ok g L
  | .sx x es => SxOk g L x ∧ oks g L es
  | .cnt => True
  | .fzo _ => True
  | .tryV b c _ _ => okss g L b ∧ TryG g c
  | .tryK b c _ _ => okss g L b ∧ TryG g c
def okss (g : Gd) (L : Nat) : List Stm → Prop
  | [] => True
  | s :: ss => s.ok g L ∧ okss g L ss
end
/-! ### the text taken apart -/
def dAsg : Stmt → Option (Expr × Expr)
  | .Assign ts e _ => (match ts with
    | [t] => some (t, e)
    | _ => none)
  | _ => none
def dExp : Stmt → Option Expr
  | .Expr e _ => some e
  | _ => none
def dIfS : Stmt → Option (Expr × List Stmt × List Stmt)
  | .If c a b _ => some (c, a, b)
  | _ => none
def dFor : Stmt → Option (Expr × Expr × List Stmt)
  | .For t i b e _ => (match e with
    | [] => some (t, i, b)
    | _ => none)
  | _ => none
def dRet : Stmt → Option Expr
  | .Return e _ => e
  | _ => none
def dRai : Stmt → Option Expr
  | .Raise e c _ => (match c with
    | none => e
    | some _ => none)
  | _ => none
def isPas : Stmt → Bool
  | .Pass _ => true
  | _ => false
theorem dAsg_eq {s : Stmt} {t e : Expr} (h : dAsg s = some (t, e)) : ∃ p, s = .Assign [t] e p := by
  cases s <;> simp only [dAsg, reduceCtorEq] at h
  split at h
  · cases h; exact ⟨_, rfl⟩
  · cases h
theorem dExp_eq {s : Stmt} {e : Expr} (h : dExp s = some e) : ∃ p, s = .Expr e p := by
  cases s <;> simp only [dExp, reduceCtorEq] at h
  cases h; exact ⟨_, rfl⟩
theorem dIfS_eq {s : Stmt} {c : Expr} {a b : List Stmt} (h : dIfS s = some (c, a, b)) : ∃ p, s = .If c a b p := by
  cases s <;> simp only [dIfS, reduceCtorEq] at h
  cases h; exact ⟨_, rfl⟩
theorem dFor_eq {s : Stmt} {t i : Expr} {b : List Stmt} (h : dFor s = some (t, i, b)) : ∃ p, s = .For t i b [] p := by
  cases s <;> simp only [dFor, reduceCtorEq] at h
  split at h
  · cases h; exact ⟨_, rfl⟩
  · cases h
theorem dRet_eq {s : Stmt} {e : Expr} (h : dRet s = some e) : ∃ p, s = .Return (some e) p := by
  cases s <;> simp only [dRet, reduceCtorEq] at h
  subst h; exact ⟨_, rfl⟩
theorem dRai_eq {s : Stmt} {e : Expr} (h : dRai s = some e) : ∃ p, s = .Raise (some e) none p := by
  cases s <;> simp only [dRai, reduceCtorEq] at h
  split at h
  · subst h; exact ⟨_, rfl⟩
  · cases h
theorem isPas_eq {s : Stmt} (h : isPas s = true) : ∃ p, s = .Pass p := by
  cases s <;> simp only [isPas, Bool.false_eq_true] at h
  exact ⟨_, rfl⟩
/-- what stands behind the target: no second reading of the store -/
def asgT (sc : Scope) (N : List Str) (tg : Tg) (t e : Expr) : Bool := match tg, t with
  | .one i, .Name y py => asgB sc N i y py e
  | .many _, t => noComp e && (match e with
    | .Tuple vs _ _ => (match t, vs with
      | .Tuple [.Name x px, .Name y py] _ _, [a, b] => parN sc x y px py a b
      | _, _ => false)
    | _ => true)
  | _, _ => false
def dWhl : Stmt → Option (Expr × List Stmt)
  | .While c b e _ => (match e with
    | [] => some (c, b)
    | _ => none)
  | _ => none
theorem dWhl_eq {s : Stmt} {c : Expr} {b : List Stmt} (h : dWhl s = some (c, b)) : ∃ p, s = .While c b [] p := by
  cases s <;> simp only [dWhl, reduceCtorEq] at h
  split at h
  · cases h; exact ⟨_, rfl⟩
  · cases h
/-- x, y = a, b -/
def dPar : Stmt → Option (Str × Pos × Str × Pos × Expr × Expr)
  | .Assign [.Tuple [.Name x px, .Name y py] _ _] (.Tuple [a, b] _ _) _ => some (x, px, y, py, a, b)
  | _ => none
theorem dPar_eq {s : Stmt} {x y : Str} {px py : Pos} {a b : Expr} (h : dPar s = some (x, px, y, py, a, b)) : ∃ kt pt k2 pt2 pos, s = .Assign [.Tuple [.Name x px, .Name y py] kt pt] (.Tuple [a, b] k2 pt2) pos := by
  unfold dPar at h
  split at h
  · cases h; exact ⟨_, _, _, _, _, rfl⟩
  · cases h
/-- x.m(e), x in slot i -/
def methB (N : List Str) (sc : Scope) (i : Nat) (m : Str) (e : Expr) : Option Expr := match dMeth e with
  | some (.Name x _, m', [a]) => if nmB sc N i x && decide (m' = m) && nst a then some a else none
  | _ => none
theorem methB_eq {N : List Str} {sc : Scope} {i : Nat} {m : Str} {e a : Expr} (h : methB N sc i m e = some a) : ∃ x p ap pos, e = .Call (.Attribute (.Name x p) m ap) [a] [] pos ∧ nmB sc N i x = true ∧ nst a = true ∧ (ap.endLine == pos.line) = true := by
  unfold methB at h
  split at h
  · rename_i x p m' b hd
    split at h
    · rename_i hc
      cases h
      obtain ⟨hc, h3⟩ := ba2 hc
      obtain ⟨h1, h2⟩ := ba2 hc
      have := of_decide_eq_true h2
      subst this
      obtain ⟨ap, pos, rfl, hl⟩ := dMeth_eq hd
      exact ⟨x, p, ap, pos, rfl, h1, h3, hl⟩
    · cases h
  · cases h
def isDic0 (e : Expr) : Bool := match e with
  | .Dict ks vs _ => ks.isEmpty && vs.isEmpty
  | _ => false
theorem isDic0_eq {e : Expr} (h : isDic0 e = true) : ∃ p, e = .Dict [] [] p := by
  cases e <;> simp only [isDic0, Bool.false_eq_true] at h
  rename_i ks vs p
  obtain ⟨h1, h2⟩ := ba2 h
  rw [List.isEmpty_iff] at h1 h2
  exact ⟨p, by rw [h1, h2]⟩
/-- x[y] = e, x in slot i -/
def dStore (N : List Str) (sc : Scope) (i : Nat) (s : Stmt) : Option (Expr × Expr) := match dAsg s with
  | some (t, e) => (match dSub t with
    | some (o, y) => (match dName o with
      | some x => if nmB sc N i x && noComp e then some (y, e) else none
      | none => none)
    | none => none)
  | none => none
theorem dStore_eq {N : List Str} {sc : Scope} {i : Nat} {s : Stmt} {y e : Expr} (h : dStore N sc i s = some (y, e)) : ∃ x p p2 pos, s = .Assign [.Subscript (.Name x p) y p2] e pos ∧ nmB sc N i x = true ∧ noComp e = true := by
  unfold dStore at h
  split at h
  · rename_i t e' h1
    split at h
    · rename_i o y' h2
      split at h
      · rename_i x h3
        split at h
        · rename_i hc
          cases h
          obtain ⟨c1, c2⟩ := ba2 hc
          obtain ⟨pos, rfl⟩ := dAsg_eq h1
          obtain ⟨p2, rfl⟩ := dSub_eq h2
          obtain ⟨p, rfl⟩ := dName_eq h3
          exact ⟨x, p, p2, pos, rfl, c1, c2⟩
        · cases h
      · cases h
    · cases h
  · cases h
/-- try: .. except c as n: m = k -/
def dTryV : Stmt → Option (List Stmt × Str × Str × Str × Pos × Str)
  | .Try b [.ExceptHandler (some (.Name c _)) (some n) [.Assign [.Name m pm] (.Name k _) _] _] [] [] _ => some (b, c, n, m, pm, k)
  | _ => none
theorem dTryV_eq {s : Stmt} {b : List Stmt} {c n m k : Str} {pm : Pos} (h : dTryV s = some (b, c, n, m, pm, k)) : ∃ np p1 p2 p3 p4, s = .Try b [.ExceptHandler (some (.Name c np)) (some n) [.Assign [.Name m pm] (.Name k p1) p2] p3] [] [] p4 := by
  unfold dTryV at h
  split at h
  · cases h; exact ⟨_, _, _, _, _, rfl⟩
  · cases h
/-- try: .. except c: m = v -/
def dTryK : Stmt → Option (List Stmt × Str × Str × Const)
  | .Try b [.ExceptHandler (some (.Name c _)) none [.Assign [.Name m _] (.Constant k _ _) _] _] [] [] _ => some (b, c, m, k)
  | _ => none
theorem dTryK_eq {s : Stmt} {b : List Stmt} {c m : Str} {k : Const} (h : dTryK s = some (b, c, m, k)) : ∃ np pm j p1 p2 p3 p4, s = .Try b [.ExceptHandler (some (.Name c np)) none [.Assign [.Name m pm] (.Constant k j p1) p2] p3] [] [] p4 := by
  unfold dTryK at h
  split at h
  · cases h; exact ⟨_, _, _, _, _, _, _, rfl⟩
  · cases h
def isCnt : Stmt → Bool
  | .Continue _ => true
  | _ => false
theorem isCnt_eq {s : Stmt} (h : isCnt s = true) : ∃ p, s = .Continue p := by
  cases s <;> simp only [isCnt, Bool.false_eq_true] at h
  exact ⟨_, rfl⟩
def lcB (sc : Scope) (x : Str) : Bool := sc.names.lookup x == some .local
mutual
def chkS (N : List Str) (sc : Scope) (fb : Str → Bool) : Stm → Stmt → Bool
  | .set tg e, s => (match dAsg s with | some (t, v) => chkT sc fb N tg t && chk N e sc v && e.fl && asgT sc N tg t v | none => false)
  | .seto i e, s => (match dAsg s with | some (t, v) => chkT sc fb N (.one i) t && chk N e sc v && e.isNew && asgT sc N (.one i) t v | none => false)
  | .app i e, s => (match dExp s with | some x => (match methB N sc i "append" x with | some a => chk N e sc a && e.fl | none => false) | none => false)
  | .rem i e, s => (match dExp s with | some x => (match methB N sc i "remove" x with | some a => chk N e sc a && e.fl | none => false) | none => false)
  | .tapp i, s => (match dExp s with | some x => (match methB N sc i "append" x with | some a => decide (dConst a = some (.int 0)) | none => false) | none => false)
  | .exp e, s => (match dExp s with | some x => chk N e sc x && noComp x | none => false)
  | .ifs c a b, s => (match dIfS s with | some (x, y, z) => chk N c sc x && chkSs N sc fb a y && chkSs N sc fb b z | none => false)
  | .for tg it b, s => (match dFor s with | some (t, i, y) => chkT sc fb N tg t && chki N it sc i && it.fl && chkSs N sc fb b y | none => false)
  | .ret e, s => (match dRet s with | some x => chk N e sc x && e.fl | none => false)
  | .rai c, s => (match dRai s with | some x => (match dCall1 c x with | some a => (match dConst a with | some (.str _) => glB sc c | _ => false) | none => false) | none => false)
  | .pas, s => isPas s
  | .frz _, _ => false
  | .dnw i, s => (match dAsg s with | some (t, e) => chkT sc fb N (.one i) t && isDic0 e | none => false)
  | .dpt i k v, s => (match dStore N sc i s with | some (y, e) => chk N k sc y && k.fl && chk N v sc e && v.fl | none => false)
  | .frd _, _ => false
  | .whl _ c b, s => (match dWhl s with | some (x, y) => chk N c sc x && chkSs N sc fb b y | none => false)
  | .ext i e, s => (match dExp s with | some x => (match methB N sc i "extend" x with | some a => chk N e sc a | none => false) | none => false)
  | .par i j a b, s => (match dPar s with | some (x, px, y, py, u, v) => decide (N[i]? = some x) && decide (N[j]? = some y) && decide (i ≠ j) && parK sc x y px py u v && chks N [a, b] sc [u, v] && fls [a, b] | none => false)
  | .sx x es, s => (match x.dec sc s with | some fs => chks N es sc fs && fls es | none => false)
  | .cnt, s => isCnt s
  | .fzo _, _ => false
  | .tryV b c i j, s => (match dTryV s with | some (y, c', n, m, _, k) => decide (c' = c) && glB sc c && decide (N[i]? = some n) && lcB sc n && tgB sc fb N j m && lcB sc m && decide (k = n) && nmB sc N i k && decide (i ≠ j) && chkSs N sc fb b y | none => false)
  | .tryK b c j d, s => (match dTryK s with | some (y, c', m, k) => decide (c' = c) && glB sc c && tgB sc fb N j m && lcB sc m && litB d k && chkSs N sc fb b y | none => false)
def chkSs (N : List Str) (sc : Scope) (fb : Str → Bool) : List Stm → List Stmt → Bool
  | [], ss => ss.isEmpty
  | s :: r, ss => (match s with
    | .frz _ => chkSs N sc fb r ss
    | .fzo _ => chkSs N sc fb r ss
    | s => (match ss with
      | t :: ts => chkS N sc fb s t && chkSs N sc fb r ts
      | [] => false))
end
def OkS (g : Gd) (L : Nat) (s : Stm) : Prop := ∀ (X : Cx) (W : WX) (sc : Scope) (fb : Str → Bool) (N : List Str) (B : Bs) (t : Stmt), Gus g X W sc fb N L → chkS N sc fb s t = true → PS X t (tS g B W fun ρ => ex s ρ)
def OkSs (g : Gd) (L : Nat) (s : List Stm) : Prop := ∀ (X : Cx) (W : WX) (sc : Scope) (fb : Str → Bool) (N : List Str) (B : Bs) (t : List Stmt), Gus g X W sc fb N L → chkSs N sc fb s t = true → PSs X t (tS g B W fun ρ => exs s ρ)
section
variable {g : Gd} {L : Nat}
theorem cmp_of {a : IR} (h : a.ok g L) : ∀ elt tg it ifs vs, a = .comp elt tg it ifs vs → CmpOk g L elt it ifs := fun elt tg it ifs vs e => by
  subst e
  simp only [IR.ok] at h
  exact ⟨(okE g L elt h.1).e, (okE g L it h.2.1).e, (okE g L it h.2.1).r, (okE g L it h.2.1).x, (okEs g L ifs h.2.2).e, (okEs g L ifs h.2.2).a⟩
theorem oks_set {tg : Tg} {e : IR} (h : e.ok g L) : OkS g L (.set tg e) := fun X W sc fb N B s GS k => by
  have G := GS.g
  simp only [chkS] at k
  cases hd : dAsg s with
  | none => rw [hd] at k; cases k
  | some t =>
    obtain ⟨t, v⟩ := t
    rw [hd] at k
    obtain ⟨k, k4⟩ := ba2 k
    obtain ⟨k, k3⟩ := ba2 k
    obtain ⟨k1, k2⟩ := ba2 k
    obtain ⟨pos, rfl⟩ := dAsg_eq hd
    simp only [ex]
    cases tg with
    | one i =>
      cases t <;> simp only [chkT, Bool.false_eq_true] at k1
      rename_i y py
      refine ps_wk (ok_asg1 (B := B) (okE g L e h) (cmp_of h) G k1 k2 (by simpa only [asgT] using k4)) fun D σ H q => ?_
      have q := asg_read q
      exact tI.full (kd_fl k3) q
    | many is =>
      simp only [asgT] at k4
      obtain ⟨k5, k6⟩ := ba2 k4
      have hq : PE X v (tI g B W .full fun ρ => ev e ρ) := (okE g L e h).e.f G k2 k3
      have hg := sg G k1
      cases t <;> simp only [chkT, Bool.false_eq_true] at k1
      rename_i es j p
      refine ps_wk (ps_asg hq hg (by simp only [swapsWithSole]; exact sw_plain k5) ?_ rfl) fun D σ H q => asg_read q
      cases v with
      | Tuple vs kk pp =>
        dsimp only at k6
        split at k6
        · rename_i x px y py kt pt a b et
          cases et
          exact par_no G.es k6
        · cases k6
      | _ => rfl
theorem oks_seto {i : Nat} {e : IR} (h : e.ok g L) : OkS g L (.seto i e) := fun X W sc fb N B s GS k => by
  have G := GS.g
  simp only [chkS] at k
  cases hd : dAsg s with
  | none => rw [hd] at k; cases k
  | some t =>
    obtain ⟨t, v⟩ := t
    rw [hd] at k
    obtain ⟨k, k4⟩ := ba2 k
    obtain ⟨k, k3⟩ := ba2 k
    obtain ⟨k1, k2⟩ := ba2 k
    obtain ⟨pos, rfl⟩ := dAsg_eq hd
    simp only [ex]
    cases t <;> simp only [chkT, Bool.false_eq_true] at k1
    rename_i y py
    refine ps_wk (ok_asg1 (B := B) (okE g L e h) (cmp_of h) G k1 k2 (by simpa only [asgT] using k4)) fun D σ H q => ?_
    have ek : e.kd = .new := by unfold IR.kd; rw [k3]; rfl
    rw [ek]
    exact own_read q
theorem oks_app {i : Nat} {e : IR} (h : e.ok g L) : OkS g L (.app i e) := fun X W sc fb N B s GS k => by
  have G := GS.g
  simp only [chkS] at k
  cases hd : dExp s with
  | none => rw [hd] at k; cases k
  | some x =>
    rw [hd] at k
    dsimp only at k
    cases hm : methB N sc i "append" x with
    | none => rw [hm] at k; cases k
    | some a =>
      rw [hm] at k
      obtain ⟨k1, k2⟩ := ba2 k
      obtain ⟨pos2, rfl⟩ := dExp_eq hd
      obtain ⟨x, p, ap, pos, rfl, h1, h2, h3⟩ := methB_eq hm
      simp only [ex]
      exact ss_app G h1 ((okE g L e h).e.f G k1 k2) h2 h3
theorem oks_ext {i : Nat} {e : IR} (h : e.ok g L) : OkS g L (.ext i e) := fun X W sc fb N B s GS k => by
  have G := GS.g
  simp only [chkS] at k
  cases hd : dExp s with
  | none => rw [hd] at k; cases k
  | some x =>
    rw [hd] at k
    dsimp only at k
    cases hm : methB N sc i "extend" x with
    | none => rw [hm] at k; cases k
    | some a =>
      rw [hm] at k
      obtain ⟨pos2, rfl⟩ := dExp_eq hd
      obtain ⟨x, p, ap, pos, rfl, h1, h2, h3⟩ := methB_eq hm
      simp only [ex]
      exact ss_ext G h1 ((okE g L e h).e.s G k) h2 h3
theorem oks_whl {m : Nat} {c : IR} {b : List Stm} (h : c.ok g L) (hb : OkSs g L b) : OkS g L (.whl m c b) := fun X W sc fb N B s GS k => by
  have G := GS.g
  simp only [chkS] at k
  cases hd : dWhl s with
  | none => rw [hd] at k; cases k
  | some t =>
    obtain ⟨x, y⟩ := t
    rw [hd] at k
    obtain ⟨k1, k2⟩ := ba2 k
    obtain ⟨pos2, rfl⟩ := dWhl_eq hd
    simp only [ex]
    exact ss_whl G ((okE g L c h).e.t G k1) (hb X W sc fb N B y GS k2)
theorem oks_par {i j : Nat} {a b : IR} (h : a.ok g L ∧ b.ok g L) : OkS g L (.par i j a b) := fun X W sc fb N B s GS k => by
  have G := GS.g
  simp only [chkS] at k
  cases hd : dPar s with
  | none => rw [hd] at k; cases k
  | some t =>
    obtain ⟨x, px, y, py, u, v⟩ := t
    rw [hd] at k
    simp only [Bool.and_eq_true, decide_eq_true_eq] at k
    obtain ⟨⟨⟨⟨⟨k1, k2⟩, k3⟩, k4⟩, k5⟩, k6⟩ := k
    obtain ⟨kt, pt, j2, pt2, pos, rfl⟩ := dPar_eq hd
    simp only [ex]
    have hs := (okEs g L [a, b] (by simp only [oks, and_true]; exact h)).e X W sc fb N B [u, v] G k5
    exact ss_par G k1 k2 k3 k4 (hs.2.2.2.1 k6)
theorem oks_dnw {i : Nat} : OkS g L (.dnw i) := fun X W sc fb N B s GS k => by
  have G := GS.g
  simp only [chkS] at k
  cases hd : dAsg s with
  | none => rw [hd] at k; cases k
  | some t =>
    obtain ⟨t, e⟩ := t
    rw [hd] at k
    obtain ⟨k1, k2⟩ := ba2 k
    obtain ⟨pos, rfl⟩ := dAsg_eq hd
    obtain ⟨p, rfl⟩ := isDic0_eq k2
    cases t <;> simp only [chkT, Bool.false_eq_true] at k1
    simp only [ex]
    exact ss_dnw G k1
theorem oks_dpt {i : Nat} {a b : IR} (h : a.ok g L ∧ b.ok g L) : OkS g L (.dpt i a b) := fun X W sc fb N B s GS k => by
  have G := GS.g
  simp only [chkS] at k
  cases hd : dStore N sc i s with
  | none => rw [hd] at k; cases k
  | some t =>
    obtain ⟨y, e⟩ := t
    rw [hd] at k
    obtain ⟨k, k4⟩ := ba2 k
    obtain ⟨k, k3⟩ := ba2 k
    obtain ⟨k1, k2⟩ := ba2 k
    obtain ⟨x, p, p2, pos, rfl, h1, h2⟩ := dStore_eq hd
    simp only [ex]
    exact ss_dpt G h1 ((okE g L a h.1).e.f G k1 k2) ((okE g L b h.2).e.f G k3 k4) h2
theorem oks_rem {i : Nat} {e : IR} (h : e.ok g L) : OkS g L (.rem i e) := fun X W sc fb N B s GS k => by
  have G := GS.g
  simp only [chkS] at k
  cases hd : dExp s with
  | none => rw [hd] at k; cases k
  | some x =>
    rw [hd] at k
    dsimp only at k
    cases hm : methB N sc i "remove" x with
    | none => rw [hm] at k; cases k
    | some a =>
      rw [hm] at k
      obtain ⟨k1, k2⟩ := ba2 k
      obtain ⟨pos2, rfl⟩ := dExp_eq hd
      obtain ⟨x, p, ap, pos, rfl, h1, h2, h3⟩ := methB_eq hm
      simp only [ex]
      exact ss_rem G h1 ((okE g L e h).e.f G k1 k2) h2 h3
theorem oks_tapp {i : Nat} : OkS g L (.tapp i) := fun X W sc fb N B s GS k => by
  have G := GS.g
  simp only [chkS] at k
  cases hd : dExp s with
  | none => rw [hd] at k; cases k
  | some x =>
    rw [hd] at k
    dsimp only at k
    cases hm : methB N sc i "append" x with
    | none => rw [hm] at k; cases k
    | some a =>
      rw [hm] at k
      obtain ⟨j, p2, rfl⟩ := dConst_eq (of_decide_eq_true k)
      obtain ⟨pos2, rfl⟩ := dExp_eq hd
      obtain ⟨x, p, ap, pos, rfl, h1, h2, h3⟩ := methB_eq hm
      simp only [ex]
      exact ss_tapp G h1 h3
theorem oks_exp {e : IR} (h : e.ok g L) : OkS g L (.exp e) := fun X W sc fb N B s GS k => by
  have G := GS.g
  simp only [chkS] at k
  cases hd : dExp s with
  | none => rw [hd] at k; cases k
  | some x =>
    rw [hd] at k
    obtain ⟨k1, k2⟩ := ba2 k
    obtain ⟨pos2, rfl⟩ := dExp_eq hd
    simp only [ex]
    exact ss_exp ((okE g L e h).e X W sc fb N B x G k1).1 k2
theorem oks_ifs {c : IR} {a b : List Stm} (h : c.ok g L) (ha : OkSs g L a) (hb : OkSs g L b) : OkS g L (.ifs c a b) := fun X W sc fb N B s GS k => by
  have G := GS.g
  simp only [chkS] at k
  cases hd : dIfS s with
  | none => rw [hd] at k; cases k
  | some t =>
    obtain ⟨x, y, z⟩ := t
    rw [hd] at k
    obtain ⟨k, k3⟩ := ba2 k
    obtain ⟨k1, k2⟩ := ba2 k
    obtain ⟨pos2, rfl⟩ := dIfS_eq hd
    simp only [ex]
    exact ss_if ((okE g L c h).e.t G k1) (ha X W sc fb N B y GS k2) (hb X W sc fb N B z GS k3)
theorem oks_for {tg : Tg} {it : IR} {b : List Stm} (h : it.ok g L) (hb : OkSs g L b) : OkS g L (.for tg it b) := fun X W sc fb N B s GS k => by
  have G := GS.g
  simp only [chkS] at k
  cases hd : dFor s with
  | none => rw [hd] at k; cases k
  | some t =>
    obtain ⟨t, i, y⟩ := t
    rw [hd] at k
    obtain ⟨k, k4⟩ := ba2 k
    obtain ⟨k, k3⟩ := ba2 k
    obtain ⟨k1, k2⟩ := ba2 k
    obtain ⟨pos2, rfl⟩ := dFor_eq hd
    simp only [ex]
    have hi : PI X t i (iI g B W true fun ρ => evi it ρ) := ok_it (okE g L it h).e (okE g L it h).r (okE g L it h).x (fun _ => k3) G k2
    have hs : noSet i = true := by unfold chki at k2; exact (ba2 k2).1
    exact ss_for G hi (sg G k1) (hb X W sc fb N B y GS k4) hs
theorem oks_ret {e : IR} (h : e.ok g L) : OkS g L (.ret e) := fun X W sc fb N B s GS k => by
  have G := GS.g
  simp only [chkS] at k
  cases hd : dRet s with
  | none => rw [hd] at k; cases k
  | some x =>
    rw [hd] at k
    obtain ⟨k1, k2⟩ := ba2 k
    obtain ⟨pos2, rfl⟩ := dRet_eq hd
    simp only [ex]
    exact ss_ret ((okE g L e h).e.f G k1 k2)
theorem oks_rai {c : Str} (h : ClG g c) : OkS g L (.rai c) := fun X W sc fb N B s GS k => by
  have G := GS.g
  simp only [chkS] at k
  cases hd : dRai s with
  | none => rw [hd] at k; cases k
  | some x =>
    rw [hd] at k
    dsimp only at k
    cases hc : dCall1 c x with
    | none => rw [hc] at k; cases k
    | some a =>
      rw [hc] at k
      dsimp only at k
      cases hk : dConst a with
      | none => rw [hk] at k; cases k
      | some y =>
        rw [hk] at k
        cases y with
        | str m =>
          obtain ⟨j, p2, rfl⟩ := dConst_eq hk
          obtain ⟨p, pos, rfl⟩ := dCall1_eq hc
          obtain ⟨pos2, rfl⟩ := dRai_eq hd
          simp only [ex]
          exact ss_rai G h k
        | _ => cases k
theorem oks_pas : OkS g L .pas := fun X W sc fb N B s GS k => by
  have G := GS.g
  simp only [chkS] at k
  obtain ⟨p, rfl⟩ := isPas_eq k
  simp only [ex]
  exact ss_pas
theorem oks_frz {i : Nat} : OkS g L (.frz i) := fun X W sc fb N B s G k => by simp [chkS] at k
theorem oks_cnt : OkS g L .cnt := fun X W sc fb N B s GS k => by
  simp only [chkS] at k
  obtain ⟨p, rfl⟩ := isCnt_eq k
  simp only [ex]
  refine ps_wk ps_continue fun D σ H q => ?_
  obtain ⟨ρ, F, T, n, R, q⟩ := q
  exact q σ H F R Kp.refl
theorem oks_sx {x : Sx} {es : List IR} (hx : SxOk g L x) (all : ∀ b ∈ es, OkE g L b) : OkS g L (.sx x es) := fun X W sc fb N B s GS k => by
  simp only [chkS] at k
  cases hd : x.dec sc s with
  | none => rw [hd] at k; cases k
  | some fs =>
    rw [hd] at k
    obtain ⟨k1, k2⟩ := ba2 k
    have q := hx X W sc fb N B s fs _ GS.g hd (pvk_of GS.g (.inl rfl) all k1 fun _ => k2)
    simp only [evL_evs] at q
    simp only [ex]
    exact q
theorem Gus.tr {X : Cx} {W W' : WX} {sc : Scope} {fb : Str → Bool} {N : List Str} (G : Gus g X W sc fb N L) {pn : List (Addr × Obj)} {xe : Value → Shared → Prop} (tk : Takes (X.tr pn xe) W') (ow : PassesOwn (model X.prog X.w) X.A X.env xe) : Gus g (X.tr pn xe) W' sc fb N L :=
  ⟨⟨G.g.gd, G.g.ok, G.g.es, G.g.nm, G.g.nd, G.g.calm, G.g.room, tk, G.g.fc, ow⟩, G.st, G.fr⟩
theorem lcB_eq {sc : Scope} {x : Str} (h : lcB sc x = true) : sc.names.lookup x = some .local := eq_of_beq h
theorem oks_tryV {b : List Stm} {c : Str} {i j : Nat} (hb : OkSs g L b) (ht : TryG g c) : OkS g L (.tryV b c i j) := fun X W sc fb N B s GS k => by
  have G := GS.g
  simp only [chkS] at k
  cases hd : dTryV s with
  | none => rw [hd] at k; cases k
  | some t =>
    obtain ⟨y, c', n, m, pm, kk⟩ := t
    rw [hd] at k
    simp only [Bool.and_eq_true, decide_eq_true_eq] at k
    obtain ⟨⟨⟨⟨⟨⟨⟨⟨⟨k1, k2⟩, k3⟩, k4⟩, k5⟩, k6⟩, k7⟩, k8⟩, k9⟩, k10⟩ := k
    subst k1
    subst k7
    obtain ⟨np, p1, p2, p3, p4, rfl⟩ := dTryV_eq hd
    obtain ⟨C, hC, hE⟩ := ht.ex
    have gd := G.gd
    have mgC : X.mg c' = some (.ref C) := by rw [← gd] at hC; exact hC
    have hN : X.N[i]? = some kk := by rw [G.nm]; exact k3
    have hl : X.env.kindOf kk = some .local := by
      show X.env.scope.names.lookup kk = _
      rw [G.es]; exact lcB_eq k4
    obtain ⟨g1, g2⟩ := G.gl k2
    have nd : X.N.Nodup := by rw [G.nm]; exact G.nd
    obtain ⟨l1, l2, l3⟩ := G.loc k5
    obtain ⟨v1, v2, v3, v4⟩ := G.vis k8
    have lm : X.env.scope.names.lookup m = some .local := by rw [G.es]; exact lcB_eq k6
    have T := ps_try_kept (i := i) (b0 := .Assign [.Name m pm] (.Name kk p1) p2) (np := np) (p2 := p3) (pos := p4) (tb := fun W' => tS g B W' fun ρ => exs b ρ) (ts := tAsg (tVar i) (gName j)) (Wo := W) GS.st GS.fr nd hN hl ⟨g1, g2, .inl mgC⟩ G.tk
      (fun W' pn xe tk ow => hb _ _ sc fb N B y (GS.tr tk ow) k10)
      (fun a pn => pss_one (ps_set (X := X.suite a pn) (i := j) nd l1 l2 (pe_var (X := X.suite a pn) v1 v2 v3 v4) rfl (.inr lm)))
    refine ps_wk T fun D σ H q => ?_
    obtain ⟨ρ, F, T, n0, R, q⟩ := q
    refine ⟨ρ, F, T, n0, R, ?_⟩
    show Sf g B _ D T H F (exs b ρ n0)
    simp only [ex, bnd] at q
    cases e : exs b ρ n0 with
    | bad => rw [e] at q; exact q
    | exc _ _ => rw [e] at q; exact q
    | ok f n' =>
      rw [e] at q
      cases f with
      | nx ρ' => exact q
      | rt d => exact q
      | ct ρ' => exact q
      | ex er ρ' =>
        simp only [caught] at q
        intro σ' H' F' R' k' E hEr
        by_cases he : er ∈ errs
        · rw [if_pos (decide_eq_true he)] at q
          have xm := hE er he E hEr
          have gK : g.K = X.K := by rw [← gd]; rfl
          rw [gK] at xm
          by_cases hc : cat c' er = true
          · rw [if_pos hc] at q
            rw [hc] at xm
            refine .inl ⟨xm, rfl, fun a ha => ?_⟩
            by_cases hi : i < ρ'.length
            case neg => rw [if_neg hi] at q; exact False.elim q
            rw [if_pos hi] at q
            have hiσ : i < σ'.length := by rw [R'.len]; exact hi
            refine ⟨.ref a, List.getElem?_set_self hiσ, ?_⟩
            have R1 := R'.step (Ev.allocF (o := XO (.ref E) a) ha) (R'.tw.allocF ha)
            have R2 := ((R1.forget i (some (.ref a))).put j (d := .exn er) (v := .ref a) (by
              simp only [Rp]
              exact ⟨a, E, rfl, hEr, upd_same, .inr rfl⟩)).forget i none
            have er1 : ((ρ'.set i .emp).set j (.dat (.exn er))).set i .emp = (ρ'.set j (.dat (.exn er))).set i .emp := by
              rw [List.set_comm _ _ k9, List.set_set]
            rw [er1] at R2
            exact q _ _ _ R2 (k'.trans (Kp.alloc ha fun _ f => .inl f))
          · rw [if_neg hc] at q
            have hc : cat c' er = false := by simpa using hc
            rw [hc] at xm
            exact .inr ⟨xm, q σ' H' F' R' k' E hEr⟩
        · rw [if_neg (by simpa using he)] at q; exact False.elim q
theorem oks_tryK {b : List Stm} {c : Str} {j : Nat} {d : Ss.D} (hb : OkSs g L b) (ht : TryG g c) : OkS g L (.tryK b c j d) := fun X W sc fb N B s GS k => by
  have G := GS.g
  simp only [chkS] at k
  cases hd : dTryK s with
  | none => rw [hd] at k; cases k
  | some t =>
    obtain ⟨y, c', m, kk⟩ := t
    rw [hd] at k
    simp only [Bool.and_eq_true, decide_eq_true_eq] at k
    obtain ⟨⟨⟨⟨⟨k1, k2⟩, k5⟩, k6⟩, k7⟩, k10⟩ := k
    subst k1
    obtain ⟨np, pm, jj, p1, p2, p3, p4, rfl⟩ := dTryK_eq hd
    obtain ⟨C, hC, hE⟩ := ht.ex
    have gd := G.gd
    have mgC : X.mg c' = some (.ref C) := by rw [← gd] at hC; exact hC
    obtain ⟨g1, g2⟩ := G.gl k2
    have nd : X.N.Nodup := by rw [G.nm]; exact G.nd
    obtain ⟨l1, l2, l3⟩ := G.loc k5
    have lm : X.env.scope.names.lookup m = some .local := by rw [G.es]; exact lcB_eq k6
    have val : ∃ v : V, (∀ H F T, Rp g H F T d v) ∧ ∀ X' : Cx, PE X' (.Constant kk jj p1) (tC v) := by
      cases d <;> cases kk <;> simp only [litB, reduceCtorEq, Bool.false_eq_true] at k7
      · exact ⟨_, fun _ _ _ => rp_non, fun X' => pe_non⟩
      · have e := eq_of_beq k7; subst e
        exact ⟨_, fun _ _ _ => rp_bl, fun X' => pe_bl⟩
      · have e := of_decide_eq_true k7; subst e
        exact ⟨_, fun _ _ _ => rp_int, fun X' => pe_int⟩
      · have e := of_decide_eq_true k7; subst e
        exact ⟨_, fun _ _ _ => rp_str, fun X' => pe_str⟩
    obtain ⟨v, hv, pv⟩ := val
    have T := ps_try_only (b₀ := .Assign [.Name m pm] (.Constant kk jj p1) p2) (np := np) (pos' := p3) (pos := p4) (tb := fun W' => tS g B W' fun ρ => exs b ρ) (ts := fun _ _ _ => tAsg (tC v) (gName j)) (Wout := W) GS.st GS.fr ⟨g1, g2, .inl mgC⟩ G.tk
      (fun W' pn xe tk ow => hb _ _ sc fb N B y (GS.tr tk ow) k10)
      (fun a oe cls d pn _ _ => pss_one (ps_set (X := X.suite a ((a, oe) :: pn)) (i := j) nd l1 l2 (pv _) rfl (.inr lm)))
    refine ps_wk T fun D σ H q => ?_
    obtain ⟨ρ, F, T, n0, R, q⟩ := q
    refine ⟨ρ, F, T, n0, R, ?_⟩
    show Sf g B _ D T H F (exs b ρ n0)
    simp only [ex, bnd] at q
    cases e : exs b ρ n0 with
    | bad => rw [e] at q; exact q
    | exc _ _ => rw [e] at q; exact q
    | ok f n' =>
      rw [e] at q
      cases f with
      | nx ρ' => exact q
      | rt d => exact q
      | ct ρ' => exact q
      | ex er ρ' =>
        simp only [caught] at q
        intro σ' H' F' R' k' E hEr
        by_cases he : er ∈ errs
        · rw [if_pos (decide_eq_true he)] at q
          have xm := hE er he E hEr
          have gK : g.K = X.K := by rw [← gd]; rfl
          rw [gK] at xm
          refine ⟨cat c' er, xm, fun hc a ha => ?_, fun hc => ?_⟩
          · rw [if_pos hc] at q
            exact q _ _ _ (R'.put j (hv _ _ _)) k'
          · rw [if_neg (by rw [hc]; exact Bool.false_ne_true)] at q
            exact q σ' H' F' R' k' E hEr
        · rw [if_neg (by simpa using he)] at q; exact False.elim q
theorem okss_nil : OkSs g L [] := fun X W sc fb N B s G k => by
  simp only [chkSs] at k
  cases s with
  | cons _ _ => cases k
  | nil =>
    simp only [exs]
    refine pss_wk pss_nil fun D σ H q => ?_
    obtain ⟨ρ, F, T, n, R, q⟩ := q
    exact q σ H F R Kp.refl
theorem Sf.sq {B : Bs} {W : WX} {D : Ends} {T : Option Addr} {H : Hp} {F : FS} {n : S} {m : M Fl} {k : Ss.Env → M Fl} (h : Sf g B W D T H F (sq m k n)) (D' : Ends) (hr : D'.rt = D.rt) (hct : D'.ct = D.ct)
    (hx : ∀ ρ' n' σ' H' F', m n = .ok (.nx ρ') n' → Rel g B ρ' σ' H' F' T n' → Kp H F H' F' → Sf g B W D T H' F' (k ρ' n') → D'.nx σ' H') : Sf g B W D' T H F (m n) := by
  unfold Ss.sq bnd at h
  cases e : m n with
  | bad => rw [e] at h; exact h
  | exc c n' => rw [e] at h; exact h
  | ok f n' =>
    rw [e] at h
    cases f with
    | nx ρ' => exact fun σ' H' F' R kk => hx ρ' n' σ' H' F' e R kk (h.later kk)
    | rt d => intro v H' F' a b c; rw [hr]; exact h v H' F' a b c
    | ct ρ' => intro σ' H' F' a b; rw [hct]; exact h σ' H' F' a b
    | ex c ρ' => exact h
theorem okss_cons {s : Stm} {ss : List Stm} (h1 : OkS g L s) (h2 : OkSs g L ss) : OkSs g L (s :: ss) := fun X W sc fb N B t G k => by
  have plain : True → ∀ t ts, chkS N sc fb s t = true → chkSs N sc fb ss ts = true → PSs X (t :: ts) (tS g B W fun ρ => exs (s :: ss) ρ) := fun _ t ts k1 k2 => by
    simp only [exs]
    refine pss_wk (pss_cons (h1 X W sc fb N B t G k1) (h2 X W sc fb N B ts G k2)) fun D σ H q => ?_
    obtain ⟨ρ, F, T, n, R, q⟩ := q
    refine ⟨ρ, F, T, n, R, q.sq { D with nx := tS g B W (fun ρ => exs ss ρ) D } rfl rfl fun ρ' n' σ' H' F' _ R' _ s' => ⟨ρ', F', T, n', R', s'⟩⟩
  have go : True → ∀ t' : List Stmt, (match t' with | t :: ts => chkS N sc fb s t && chkSs N sc fb ss ts | [] => false) = true → PSs X t' (tS g B W fun ρ => exs (s :: ss) ρ) := fun hn t' k => by
    cases t' with
    | nil => cases k
    | cons t ts => exact plain hn t ts (ba2 k).1 (ba2 k).2
  cases s with
  | frz i =>
    simp only [chkSs] at k
    refine pss_wk (h2 X W sc fb N B t G k) fun D σ H q => ?_
    obtain ⟨ρ, F, T, n, R, q⟩ := q
    simp only [exs, ex] at q
    cases eo : getO ρ i with
    | none =>
      rw [eo] at q
      exact False.elim q
    | some xs =>
      rw [eo] at q
      obtain ⟨F', R', kk⟩ := R.freeze eo
      exact ⟨_, F', T, n, R', (show Sf g B W D T H F (exs ss (ρ.set i (.dat (.lst xs))) n) from q).later kk⟩
  | fzo i =>
    simp only [chkSs] at k
    refine pss_wk (h2 X W sc fb N B t G k) fun D σ H q => ?_
    obtain ⟨ρ, F, T, n, R, q⟩ := q
    simp only [exs, ex] at q
    cases eo : getD ρ i with
    | none => rw [eo] at q; exact False.elim q
    | some d =>
      rw [eo] at q
      cases d with
      | obj j =>
        cases en : n.os[j]? with
        | none => simp only [Ss.sq, bnd, frzM, en] at q; exact False.elim q
        | some o =>
          cases o with
          | lst xs =>
            obtain ⟨F', R', kk⟩ := R.freezeO eo en (.inl ⟨xs, rfl, rfl⟩)
            simp only [Ss.sq, bnd, frzM, en, ret] at q
            exact ⟨_, F', T, _, R', q.later kk⟩
          | dk ks vs =>
            obtain ⟨F', R', kk⟩ := R.freezeO eo en (.inr ⟨ks, vs, rfl, rfl⟩)
            simp only [Ss.sq, bnd, frzM, en, ret] at q
            exact ⟨_, F', T, _, R', q.later kk⟩
          | gone => simp only [Ss.sq, bnd, frzM, en] at q; exact False.elim q
          | ins c fs => simp only [Ss.sq, bnd, frzM, en] at q; exact False.elim q
      | _ => exact False.elim q
  | sx _ _ => simp only [chkSs] at k; exact go trivial t k
  | cnt => simp only [chkSs] at k; exact go trivial t k
  | tryV _ _ _ _ => simp only [chkSs] at k; exact go trivial t k
  | tryK _ _ _ _ => simp only [chkSs] at k; exact go trivial t k
  | set _ _ => simp only [chkSs] at k; exact go trivial t k
  | seto _ _ => simp only [chkSs] at k; exact go trivial t k
  | app _ _ => simp only [chkSs] at k; exact go trivial t k
  | rem _ _ => simp only [chkSs] at k; exact go trivial t k
  | tapp _ => simp only [chkSs] at k; exact go trivial t k
  | exp _ => simp only [chkSs] at k; exact go trivial t k
  | ifs _ _ _ => simp only [chkSs] at k; exact go trivial t k
  | «for» _ _ _ => simp only [chkSs] at k; exact go trivial t k
  | ret _ => simp only [chkSs] at k; exact go trivial t k
  | rai _ => simp only [chkSs] at k; exact go trivial t k
  | pas => simp only [chkSs] at k; exact go trivial t k
  | dnw _ => simp only [chkSs] at k; exact go trivial t k
  | dpt _ _ _ => simp only [chkSs] at k; exact go trivial t k
  | frd _ => simp only [chkSs] at k; exact go trivial t k
  | whl _ _ _ => simp only [chkSs] at k; exact go trivial t k
  | ext _ _ => simp only [chkSs] at k; exact go trivial t k
  | par _ _ _ _ => simp only [chkSs] at k; exact go trivial t k
end
mutual
theorem okS (g : Gd) (L : Nat) : ∀ s : Stm, s.ok g L → OkS g L s
  | .set _ e, h => oks_set (by simpa only [Stm.ok] using h)
  | .seto _ e, h => oks_seto (by simpa only [Stm.ok] using h)
  | .app _ e, h => oks_app (by simpa only [Stm.ok] using h)
  | .rem _ e, h => oks_rem (by simpa only [Stm.ok] using h)
  | .tapp _, _ => oks_tapp
  | .exp e, h => oks_exp (by simpa only [Stm.ok] using h)
  | .ifs c a b, h => oks_ifs (by simp only [Stm.ok] at h; exact h.1) (okSs g L a (by simp only [Stm.ok] at h; exact h.2.1)) (okSs g L b (by simp only [Stm.ok] at h; exact h.2.2))
  | .for _ it b, h => oks_for (by simp only [Stm.ok] at h; exact h.1) (okSs g L b (by simp only [Stm.ok] at h; exact h.2))
  | .ret e, h => oks_ret (by simpa only [Stm.ok] using h)
  | .rai c, h => oks_rai (by simpa only [Stm.ok] using h)
  | .pas, _ => oks_pas
  | .frz _, _ => oks_frz
  | .dnw _, _ => oks_dnw
  | .dpt _ a b, h => oks_dpt (by simpa only [Stm.ok] using h)
  | .frd _, _ => fun X W sc fb N B s G k => by simp only [chkS, Bool.false_eq_true] at k
  | .whl _ c b, h => oks_whl (by simp only [Stm.ok] at h; exact h.1) (okSs g L b (by simp only [Stm.ok] at h; exact h.2))
  | .ext _ e, h => oks_ext (by simpa only [Stm.ok] using h)
  | .par _ _ a b, h => oks_par (by simpa only [Stm.ok] using h)
  | .sx x es, h => oks_sx (by simp only [Stm.ok] at h; exact h.1) (okEs g L es (by simp only [Stm.ok] at h; exact h.2)).a
  | .cnt, _ => oks_cnt
  | .fzo _, _ => fun X W sc fb N B s G k => by simp only [chkS, Bool.false_eq_true] at k
  | .tryV b _ _ _, h => oks_tryV (okSs g L b (by simp only [Stm.ok] at h; exact h.1)) (by simp only [Stm.ok] at h; exact h.2)
  | .tryK b _ _ _, h => oks_tryK (okSs g L b (by simp only [Stm.ok] at h; exact h.1)) (by simp only [Stm.ok] at h; exact h.2)
theorem okSs (g : Gd) (L : Nat) : ∀ s : List Stm, okss g L s → OkSs g L s
  | [], _ => okss_nil
  | s :: ss, h => okss_cons (okS g L s (by simp only [okss] at h; exact h.1)) (okSs g L ss (by simp only [okss] at h; exact h.2))
end
end Ss
/-! Ss, part N: a def keeps its promise; the law itself. -/
namespace Ss
open PySem PySem.Spec PyProof.Rows L2
theorem start_get {N : List Str} {vs : List V} {i : Nat} {v : V} (h : vs[i]? = some v) : (L2.start N vs)[i]? = some (some v) := by
  unfold L2.start
  have hl : i < vs.length := by
    rcases Nat.lt_or_ge i vs.length with z | z
    · exact z
    · rw [List.getElem?_eq_none z] at h; cases h
  rw [List.getElem?_append_left (by simpa using hl), List.getElem?_map, h]; rfl
def slots0 (m : Nat) (ds : List D) : Ss.Env := ds.map Sl.dat ++ List.replicate (m - ds.length) Sl.emp
theorem slots0_get {m : Nat} {ds : List D} {i : Nat} {s : Sl} (h : (slots0 m ds)[i]? = some s) : s = .emp ∨ ∃ d, ds[i]? = some d ∧ s = .dat d := by
  unfold slots0 at h
  by_cases hi : i < ds.length
  · rw [List.getElem?_append_left (by simpa using hi), List.getElem?_map] at h
    cases e : ds[i]? with
    | none => rw [e] at h; cases h
    | some d => rw [e] at h; cases h; exact .inr ⟨d, rfl, rfl⟩
  · rw [List.getElem?_append_right (by simpa using hi), List.getElem?_replicate] at h
    split at h
    · cases h; exact .inl rfl
    · cases h
theorem rel0 {g : Gd} {N : List Str} {T : Option Addr} {H : Hp} {F : FS} {n : S} {ds : List D} {vs : List V} (tw : Tw g T H F n) (nf : ∀ a, T = some a → ¬ F a) (dm : ∀ a, F a → ∃ o, H a = some o) (r : Rps g H F T ds vs) :
    Rel g ⟨T, H, F⟩ (slots0 N.length ds) (L2.start N vs) H F T n := by
  refine ⟨Ev.refl, tw, nf, dm, .inl rfl, ?_, fun i s e => ?_, fun i j a h1 _ => ?_⟩
  · unfold slots0 L2.start
    simp only [List.length_append, List.length_map, List.length_replicate, r.len]
  · rcases slots0_get e with rfl | ⟨d, hd, rfl⟩
    · trivial
    · obtain ⟨v, hv, rv⟩ := r.get hd
      exact ⟨v, start_get hv, rv⟩
  · obtain ⟨⟨xs, e, e3⟩, _⟩ := h1
    rcases slots0_get e with z | ⟨d, _, z⟩ <;> (subst z; cases e3)
/-- from what a def comes to, to what its body is wanted to reach -/
theorem sf_of {g : Gd} {T : Option Addr} {H : Hp} {F : FS} {n : S} {irs : List Stm} {m : Nat} {ds : List D} {Q : VK} {E : XK}
    (h : Fin g (fun c d _ H' => E c d H') [] T H F (runF m irs ds n) fun d _ H' F' => ∀ v, Rp g H' F' T d v → Q v H') :
    Sf g ⟨T, H, F⟩ (fun c d _ H' => E c d H') { nx := fun _ H' => Q .non H', rt := Q } T H F (exs irs (slots0 m ds) n) := by
  unfold runF at h
  have e0 : ds.map Sl.dat ++ List.replicate (m - ds.length) Sl.emp = slots0 m ds := rfl
  rw [e0] at h
  cases e : exs irs (slots0 m ds) n with
  | bad => rw [e] at h; exact h
  | exc c n' => rw [e] at h; exact h
  | ok f n' =>
    rw [e] at h
    cases f with
    | nx ρ' => exact fun σ' H' F' R _ => h H' F' R.ev R.tw .non (by simp only [Rp])
    | rt d => exact fun v H' F' ev tw r => h H' F' ev tw v r
    | ct ρ' => exact False.elim h
    | ex c ρ' => exact fun σ' H' F' R _ C hC => h H' F' R.ev R.tw C hC
section
variable {P : Program} {w : World} {K : PySem.W.Frag} {mg : Str → Option Value} {base : Heap}
/-- a def of the text -/
structure FnTxt (K : PySem.W.Frag) (mg : Str → Option Value) (name qual : Str) (params : Arguments) (body : List Stmt) (scope : Scope) (ps : List Str) : Prop where
  ex : ∃ a fd, mg name = some (.ref a) ∧ FunD K name qual params body scope [] [] a fd ∧ Binds K fd ps []
theorem gud_of {N ps : List Str} {qual : Str} {scope : Scope} {f : Addr} {cdv : Value} {A : Around} {outer : List PySem.Env} {s : Shared} {H : Hp} {E : XK} {L : Nat} (S : FnScope N ps scope) (ok : GdOk ⟨P, w, K, mg, base⟩) (hr : Room L (A.deeper (envOfC qual scope s.heap.objs.size f cdv))) :
    Gus ⟨P, w, K, mg, base⟩ (cxOf (L2.CX P w) P w K mg base N qual scope f cdv A outer s H E) (fun c d _ H' => E c d H') scope (fun _ => true) N L :=
  ⟨⟨rfl, ok, rfl, rfl, S.nd, rfl, hr, takes_of rfl rfl rfl rfl, fun _ _ => rfl, passes_of rfl⟩, rfl, rfl⟩
theorem fnG_of {f : Fn} {qual : Str} {params : Arguments} {body : List Stmt} {scope : Scope} {N ps : List Str} {irs : List Stm} {L : Nat} (T : FnTxt K mg f.name qual params body scope ps) (S : FnScope N ps scope) (hl : ps.length = f.ar) (hs : f.sem = runF N.length irs)
    (ok : GdOk ⟨P, w, K, mg, base⟩) (hok : okss ⟨P, w, K, mg, base⟩ L irs) (hc : chkSs N scope (fun _ => true) irs body = true) : FnG ⟨P, w, K, mg, base⟩ (L + 1) f := by
  obtain ⟨a, fd, hm, F, hb⟩ := T.ex
  refine ⟨a, fd, ps, hm, F.kp, hb, hl, F.ok S (fun vs H Q E h => ?_) fun cdv A outer s H vs Q E hr h => ?_⟩
  · obtain ⟨_, _, _, ds, _, _, _, r, e, _⟩ := h
    rw [r.len, e, hl]
  · obtain ⟨Fz, Tn, n, ds, tw, nf, dm, r, e, fin⟩ := h
    have G := gud_of (P := P) (w := w) (K := K) (mg := mg) (base := base) (outer := outer) (s := s) (H := H) (E := E) S ok hr
    refine ⟨_, okSs _ L irs hok _ _ scope (fun _ => true) N ⟨Tn, H, Fz⟩ body G hc, slots0 N.length ds, Fz, Tn, n, rel0 tw nf dm r, ?_⟩
    rw [hs] at fin
    exact sf_of fin
/-- the law: slot 0 the script, slot i the town, which its first statement lays -/
def lawRun (m i : Nat) (irs : List Stm) (ns : List Int) : Res Fl := exs irs ((slots0 m [.scr ns]).set i (.dat .town)) ⟨0, []⟩
def spLaw (K : PySem.W.Frag) : Sp := fun vs H Q _ => ∃ (a : Addr) (ns : List Int), vs = [.ref a] ∧ ns.length ≤ 63 ∧ ((∃ o, H a = some (.frz o (.lst (ns.map V.int)))) ∨ ∀ H', SqL K H' a (ns.map V.int)) ∧ ∀ H', Q (.bl true) H'
def isNilE (e : Expr) : Bool := match dLst e with
  | some [] => true
  | _ => false
theorem isNilE_eq {e : Expr} (h : isNilE e = true) : dLst e = some [] := by
  unfold isNilE at h
  split at h
  · assumption
  · cases h
def tnewB (N : List Str) (sc : Scope) (i : Nat) (s : Stmt) : Bool := match dAsg s with
  | some (t, e) => chkT sc (fun _ => true) N (.one i) t && isNilE e
  | none => false
theorem law_fn {qual name : Str} {params : Arguments} {s0 : Stmt} {body : List Stmt} {scope : Scope} {N : List Str} {irs : List Stm} {L i : Nat} {a : Addr} {fd : FuncData} (F : FunD K name qual params (s0 :: body) scope [] [] a fd) (S : FnScope N ["script"] scope)
    (ok : GdOk ⟨P, w, K, mg, base⟩) (hok : okss ⟨P, w, K, mg, base⟩ L irs) (h0 : tnewB N scope i s0 = true) (hi : 0 < i ∧ i < N.length) (hc : chkSs N scope (fun _ => true) irs body = true)
    (law : ∀ ns : List Int, ns.length ≤ 63 → ∃ n', lawRun N.length i irs ns = .ok (.rt (.bl true)) n') : FnOk P w K mg base CX0 (L + 1) a fd ["script"] (spLaw K) := by
  refine F.ok S (fun vs H Q E h => ?_) fun cdv A outer s H vs Q E hr h => ?_
  · obtain ⟨_, _, rfl, _⟩ := h
    rfl
  · obtain ⟨sa, ns, rfl, hl, hs, hq⟩ := h
    obtain ⟨n', hn⟩ := law ns hl
    have GS : Gus ⟨P, w, K, mg, base⟩ (cxOf CX0 P w K mg base N qual scope a cdv A outer s H E).nox (fun _ _ _ _ => False) scope (fun _ => true) N L :=
      ⟨⟨rfl, ok, rfl, rfl, S.nd, rfl, hr, takes0, fun _ _ => rfl, PassesOwn.never⟩, rfl, rfl⟩
    have G := GS.g
    unfold tnewB at h0
    cases hd : dAsg s0 with
    | none => rw [hd] at h0; cases h0
    | some t =>
      obtain ⟨t, e⟩ := t
      rw [hd] at h0
      obtain ⟨k1, k2⟩ := ba2 h0
      obtain ⟨pos, rfl⟩ := dAsg_eq hd
      obtain ⟨p, rfl⟩ := dLst_eq (isNilE_eq k2)
      cases t <;> simp only [chkT, Bool.false_eq_true] at k1
      rename_i x px
      obtain ⟨l1, l2, l3⟩ := G.loc k1
      refine ⟨_, PSs.nox (pss_cons (ps_set (i := i) S.nd l1 l2 (pe_lst pa_nil) rfl l3) (okSs _ L irs hok _ _ scope (fun _ => true) N ⟨none, H, FS.no⟩ body GS hc)), ?_⟩
      refine ⟨Nat.zero_le _, fun q hq0 => ?_⟩
      have R0 : Rel ⟨P, w, K, mg, base⟩ ⟨none, H, FS.no⟩ (slots0 N.length [.scr ns]) (L2.start N [.ref sa]) H FS.no none ⟨0, []⟩ :=
        rel0 ⟨fun _ z => (by cases z), rfl, fun _ _ _ _ z => (by simp [FS.no] at z), List.nodup_nil⟩ (fun _ z => nomatch z) (fun _ z => z.elim) (.one (by simp only [Rp]; exact ⟨sa, rfl, hs⟩))
      have kk : Kp H FS.no (upd H q (.lst [])) FS.no := Kp.alloc hq0 fun _ z => z
      have R1 : Rel ⟨P, w, K, mg, base⟩ ⟨none, H, FS.no⟩ ((slots0 N.length [.scr ns]).set i .emp) (L2.start N [.ref sa]) (upd H q (.lst [])) FS.no (some q) ⟨0, []⟩ := by
        have eo : ∀ {j : Nat} {s : Sl}, ((slots0 N.length [.scr ns]).set i .emp)[j]? = some s → s = .emp ∨ (slots0 N.length [.scr ns])[j]? = some s := fun {j s} e => by
          by_cases hj : i = j
          · subst hj
            by_cases hl : i < (slots0 N.length [.scr ns]).length
            · rw [List.getElem?_set_self hl] at e; cases e; exact .inl rfl
            · rw [List.getElem?_eq_none (by rw [List.length_set]; omega)] at e; cases e
          · rw [List.getElem?_set_ne hj] at e; exact .inr e
        refine ⟨Ev.alloc hq0, ⟨fun b z => ?_, rfl, fun _ _ _ _ z => (by simp [FS.no] at z), List.nodup_nil⟩, fun b _ f => f, fun b f => f.elim, .inr ⟨rfl, fun b z => ?_⟩, by rw [List.length_set]; exact R0.len, fun j s e => ?_, fun j k b h1 _ => ?_⟩
        · cases z; exact upd_same
        · cases z; exact hq0
        · rcases eo e with rfl | e
          · trivial
          · have z := R0.sl j s e
            rcases slots0_get e with rfl | ⟨d, hd, rfl⟩
            · trivial
            · obtain ⟨v, z1, z2⟩ := z
              exact ⟨v, z1, Rp.kp kk (fun _ (y : (none : Option Addr) = some _) => by cases y) _ _ z2⟩
        · obtain ⟨⟨xs, e, e3⟩, _⟩ := h1
          rcases eo e with z | e
          · subst z; cases e3
          · rcases slots0_get e with z | ⟨d, _, z⟩ <;> (subst z; cases e3)
      have R2 := R1.put i (d := .town) (v := .ref q) (by simp only [Rp]; exact ⟨q, rfl, rfl⟩)
      rw [List.set_set] at R2
      refine ⟨_, _, _, _, R2, ?_⟩
      show Sf _ _ _ _ _ _ _ (lawRun N.length i irs ns)
      rw [hn]
      intro v H' F' _ _ r
      simp only [Rp] at r
      rw [r]
      exact hq H'
end
end Ss
/-! Ss, part O: what the head tells, as the layer wants it. -/
namespace Ss
open PySem PySem.Spec PyProof.Rows L2
/-- a Hook: facts, defs, one Bool more -/
def obsS (fa : List He.Fa) (fn : List He.DefD) (ex : PySem.W.Frag → Bool) (K : PySem.W.Frag) : He.AlD × Bool := (He.obsD fa fn K, ex K)
def obsSG (n : Nat) (fa : List He.Fa) (fn : List He.DefD) (ex : PySem.W.Frag → Bool) (g : Addr → Option Obj) : He.AlD × Bool := obsS fa fn ex (He.frG g (He.asD g n))
def hookS (n : Nat) (fa : List He.Fa) (fn : List He.DefD) (ex : PySem.W.Frag → Bool) : PySem.W.Hook where
  α := He.AlD × Bool
  obs := fun s => obsSG n fa fn ex s.heap.get?
  val := fun _ => (He.valD fn, true)
  says := fun _ h => ∃ K : PySem.W.Frag, K.In h ∧ He.SaysD fa fn K ∧ ex K = true
  of := fun _ _ e => ⟨_, He.frG_in, congrArg (fun z : He.AlD × Bool => z.1) e, congrArg (fun z : He.AlD × Bool => z.2) e⟩
  keeps := fun _ _ _ ⟨K, hK, c⟩ k => ⟨K, PySem.W.Frag.In.keeps hK k, c⟩
theorem obsSG_eq {n : Nat} {fa : List He.Fa} {fn : List He.DefD} {ex : PySem.W.Frag → Bool} {g : Addr → Option Obj} {s : Shared} (h : ∀ a, g a = s.heap.get? a) : obsSG n fa fn ex g = (hookS n fa fn ex).obs s := by
  have e : g = s.heap.get? := funext h
  rw [e] <;> rfl
section
variable {fa : List He.Fa} {fn : List He.DefD} {P : Program} {w : World} {K : PySem.W.Frag} {mg : Str → Option Value} {base : Heap} {h : Heap}
theorem FnG.mono {g : Gd} {L L' : Nat} {f : Fn} (x : FnG g L f) (h : L ≤ L') : FnG g L' f := by
  obtain ⟨a, fd, ps, h1, h2, h3, h4, h5⟩ := x.ex
  exact ⟨a, fd, ps, h1, h2, h3, h4, h5.mono h⟩
theorem fa_mem (c : He.SaysD fa fn K) {f : He.Fa} (h : f ∈ fa) : f.ok K = true := by
  obtain ⟨i, hi, e⟩ := List.mem_iff_getElem.mp h
  exact c.fact i (f := f) (by rw [List.getElem?_eq_getElem hi, e])
theorem gdOk_of (X : K.In h) (G : h.Ns mainGlobals mg) (c : He.SaysD fa fn K) (hf : ∀ x ∈ bns, He.Fa.free x ∈ fa) : GdOk ⟨P, w, K, mg, base⟩ := ⟨fun x hx => He.free_ok X G (fa_mem c (hf x hx))⟩
theorem gl_int (X : K.In h) (G : h.Ns mainGlobals mg) (c : He.SaysD fa fn K) {x : Str} {i : Int} (n : Nat) (hf : fa[n]? = some (.int x i)) : GlG ⟨P, w, K, mg, base⟩ x (.int i) := by
  obtain ⟨t, e⟩ := He.int_ok X G (c.fact n hf)
  exact ⟨.int i, _, e, ⟨t, rfl⟩, fun _ _ _ => by simp only [Rp]⟩
theorem gl_str (X : K.In h) (G : h.Ns mainGlobals mg) (c : He.SaysD fa fn K) {x z : Str} (n : Nat) (hf : fa[n]? = some (.str x z)) : GlG ⟨P, w, K, mg, base⟩ x (.str z) := by
  obtain ⟨t, e⟩ := He.str_ok X G (c.fact n hf)
  exact ⟨.str z, _, e, ⟨t, rfl⟩, fun _ _ _ => by simp only [Rp]⟩
theorem gl_fn (X : K.In h) (G : h.Ns mainGlobals mg) (c : He.SaysD fa fn K) {x : Str} (n : Nat) (hf : fa[n]? = some (.glo x)) : GlG ⟨P, w, K, mg, base⟩ x (.fn x) := by
  have e := He.glo_ok X G (c.fact n hf)
  exact ⟨.ref _, _, e, rfl, fun _ _ _ => by simp only [Rp]; exact ⟨_, rfl, e⟩⟩
theorem rps_str {g : Gd} {H : Hp} {F : FS} {T : Option Addr} : ∀ xs : List Str, Rps g H F T (xs.map D.str) (xs.map V.str)
  | [] => by simp only [List.map_nil, Rps]
  | x :: xs => by
    simp only [List.map_cons, Rps]
    exact ⟨_, _, rfl, by simp only [Rp], rps_str xs⟩
theorem gl_tupS (X : K.In h) (G : h.Ns mainGlobals mg) (c : He.SaysD fa fn K) {x : Str} (xs : List Str) (n : Nat) (hf : fa[n]? = some (.glo x)) (ht : He.tupB K x (xs.map He.Dv.str) = true) (hl : xs.length ≤ sizeLine) : GlG ⟨P, w, K, mg, base⟩ x (.tup (xs.map D.str)) := by
  refine ⟨.ref (He.ga K x), _, He.glo_ok X G (c.fact n hf), rfl, fun H F T => ?_⟩
  simp only [Rp]
  refine ⟨_, xs.map V.str, rfl, ?_, by simpa using hl, rps_str xs⟩
  have z := He.tupB_ok ht H
  have e : (xs.map He.Dv.str).map (He.Dv.v K) = xs.map V.str := by rw [List.map_map]; rfl
  rw [e] at z
  exact z
theorem cl_exc (X : K.In h) (G : h.Ns mainGlobals mg) (c : He.SaysD fa fn K) {x : Str} (n m : Nat) (hf : fa[n]? = some (.exc x)) (hg : fa[m]? = some (.glo x)) : ClG ⟨P, w, K, mg, base⟩ x := by
  obtain ⟨h1, h2, h3, h4⟩ := He.exc_ok (c.fact n hf)
  exact ⟨_, He.glo_ok X G (c.fact m hg), h1, h2, h3, h4⟩
/-- a def of the top, from its facts -/
theorem fnTxt_of (X : K.In h) (G : h.Ns mainGlobals mg) (c : He.SaysD fa fn K) {x : Str} {params : Arguments} {body : List Stmt} {scope : Scope} {ps : List Str} (i n : Nat) (hd : fn[i]? = some ⟨(x, none), x, x, params, body, scope, [], []⟩) (hg : fa[n]? = some (.glo x))
    (hb : ∀ (kV doc pm : Value) (an : Option Addr) (cdv ct : Value) (us : List Value), us.length = ps.length → bindArgs (PySem.W.fnOf x x params body scope .none kV doc pm an cdv ct) ⟨us, []⟩ = pure (ps.zip us)) : FnTxt K mg x x params body scope ps := by
  obtain ⟨fd, F⟩ := c.def_ i hd
  exact ⟨_, fd, He.glo_ok X G (c.fact n hg), F, F.bindsN hb⟩
theorem sp_law {H : Hp} {a : Addr} {ns : List Int} (hl : ns.length ≤ 63) (ho : Only H) (hS : SqL K H a (ns.map V.int)) : spLaw K [.ref a] H (fun v _ => v = .bl true) fun _ _ _ => False := by
  refine ⟨a, ns, rfl, hl, ?_, fun _ => rfl⟩
  rcases hS with z | z
  · rcases z with z | z
    · rcases ho a with q | ⟨o, xs, q⟩
      · rw [q] at z; cases z
      · rw [q] at z; cases z
    · exact .inl z
  · exact .inr fun H' => .inr z
end
end Ss
/-! Sx, part D: further forms of expressions: how they are taken apart, what they come to. No program in sight. -/
namespace Ss
open PySem L2
def isTup : D → Bool
  | .tup _ => true
  | _ => false
def isLst : D → Bool
  | .lst _ => true
  | _ => false
def isStr : D → Bool
  | .str _ => true
  | _ => false
def isDk : D → Bool
  | .dk _ _ => true
  | _ => false
def anyD : D → Bool := fun _ => true
/-- o.m(y), one argument -/
def dM1 (m : Str) (e : Expr) : Option (List Expr) := match dMeth e with
  | some (o, m', [y]) => if m' = m ∧ baseB o = true ∧ nst y = true then some [o, y] else none
  | _ => none
/-- o.m(y, z) -/
def dM2 (m : Str) (e : Expr) : Option (List Expr) := match dMeth e with
  | some (o, m', [y, z]) => if m' = m ∧ baseB o = true ∧ nst y = true ∧ nst z = true then some [o, y, z] else none
  | _ => none
/-- o.m() -/
def dM0 (m : Str) (e : Expr) : Option (List Expr) := match dMeth e with
  | some (o, m', []) => if m' = m ∧ baseB o = true then some [o] else none
  | _ => none
/-- f(y) -/
def dC1 (x : Str) (sc : Scope) (e : Expr) : Option (List Expr) := match dCall1 x e with
  | some y => if glB sc x = true ∧ nst y = true then some [y] else none
  | none => none
/-! ### t.index(x) -/
def fndT (x y : D) : Option D := match x with
  | .tup ds => if (y.okE && (D.tup ds).okE) = true then (ds.findIdx? fun z => D.eqv z y).map fun j => .int (j : Nat) else none
  | _ => none
def semTIdx : List D → M D
  | [x, y] => lft (fndT x y)
  | _ => bad
def pTIdx : Px := ⟨false, isTup, fun _ e => dM1 "index" e, semTIdx⟩
/-! ### xs.count(x) -/
def cntD (x y : D) : Option D := match x with
  | .lst ds => if (y.okE && (D.lst ds).okE) = true then some (.int (ds.countP fun z => D.eqv z y : Nat)) else none
  | _ => none
def semCnt : List D → M D
  | [x, y] => lft (cntD x y)
  | _ => bad
def pCnt : Px := ⟨false, isLst, fun _ e => dM1 "count" e, semCnt⟩
/-! ### x is True -/
def dIsB (b neg : Bool) (e : Expr) : Option (List Expr) := match dCmp e with
  | some (x, [p], [y]) => if p = (if neg then .IsNot else .Is) ∧ dConst y = some (.bool b) then some [x] else none
  | _ => none
def semIsB (b neg : Bool) : List D → M D
  | [.bl c] => ret (.bl (if neg then !decide (c = b) else decide (c = b)))
  | _ => bad
def pIsB (b neg : Bool) : Px := ⟨false, anyD, fun _ e => dIsB b neg e, semIsB b neg⟩
/-! ### t * n -/
def dMul (e : Expr) : Option (List Expr) := match dBin e with
  | some (a, o, b) => if o = .Mult then some [a, b] else none
  | none => none
def semMulT : List D → M D
  | [.tup xs, .int k] => if 0 ≤ k ∧ k ≤ 1000 ∧ xs.length ≤ 1000 ∧ xs ≠ [] then ret (.tup (List.replicate k.toNat xs).flatten) else bad
  | _ => bad
def pMulT : Px := ⟨false, isTup, fun _ e => dMul e, semMulT⟩
/-! ### isinstance(e, Error) -/
/-- classes above -/
def isaE (c e : Str) : Bool := decide (c = "ValueError") || decide (c = "SheetError") || decide (c = e)
def dIsE (c : Str) (sc : Scope) (e : Expr) : Option (List Expr) := match dCall2 "isinstance" e with
  | some (y, z) => if dName z = some c ∧ glB sc "isinstance" = true ∧ glB sc c = true ∧ nst y = true then some [y] else none
  | none => none
def semIsE (c : Str) : List D → M D
  | [.exn e] => if e ∈ errs then ret (.bl (isaE c e)) else bad
  | _ => bad
def pIsE (c : Str) : Px := ⟨true, anyD, fun sc e => dIsE c sc e, semIsE c⟩
/-! ### dict([..]), d.get(k, z) -/
def kyOf : D → Option (Sum Int Str)
  | .int i => some (.inl i)
  | .str x => some (.inr x)
  | _ => none
def prOf : D → Option (Sum Int Str × D)
  | .tup [a, b] => (kyOf a).map fun k => (k, b)
  | _ => none
def prsOf : List D → Option (List (Sum Int Str × D))
  | [] => some []
  | d :: ds => (prOf d).bind fun p => (prsOf ds).map fun ps => p :: ps
/-- a key that comes again takes the last value at its first place -/
def kput : List (Sum Int Str × D) → Sum Int Str → D → List (Sum Int Str × D)
  | [], k, v => [(k, v)]
  | (k', v') :: r, k, v => if k' = k then (k, v) :: r else (k', v') :: kput r k v
def kputs (l : List (Sum Int Str × D)) (ps : List (Sum Int Str × D)) : List (Sum Int Str × D) := ps.foldl (fun l p => kput l p.1 p.2) l
def semDictP : List D → M D
  | [.lst ds] => lft ((prsOf ds).map fun ps => .dk ((kputs [] ps).map (·.1)) ((kputs [] ps).map (·.2)))
  | _ => bad
def pDictP : Px := ⟨true, anyD, fun sc e => dC1 "dict" sc e, semDictP⟩
def kget : List (Sum Int Str) → List D → Sum Int Str → Option D
  | k' :: ks, v :: vs, k => if k' = k then some v else kget ks vs k
  | _, _, _ => none
def semGet : List D → M D
  | [.dk ks vs, a, z] => lft ((kyOf a).map fun k => (kget ks vs k).getD z)
  | _ => bad
def pGet : Px := ⟨true, isDk, fun _ e => dM2 "get" e, semGet⟩
/-! ### xs + ys, a new list -/
def dAdd (e : Expr) : Option (List Expr) := match dBin e with
  | some (a, o, b) => if o = .Add then some [a, b] else none
  | none => none
def semCat : List D → M D
  | [.lst xs, .lst ys] => if xs.length + ys.length ≤ sizeLine then ret (.lst (xs ++ ys)) else bad
  | _ => bad
def pCat : Px := ⟨false, isLst, fun _ e => dAdd e, semCat⟩
/-! ### f() -/
def dC0 (x : Str) (sc : Scope) (e : Expr) : Option (List Expr) := match dCall e with
  | some (y, []) => if y = x ∧ glB sc x = true then some [] else none
  | _ => none
def semC0 (f : Fn) : List D → M D
  | [] => if f.ar = 0 then f.sem [] else bad
  | _ => bad
def pCall0 (f : Fn) : Px := ⟨true, anyD, fun sc e => dC0 f.name sc e, semC0 f⟩
end Ss
/-! Sx, part A: the further forms do what they say: index, count, is, tuples times, dicts of pairs. -/
namespace Ss
open PySem PySem.Spec PyProof.Rows L2
section
variable {g : Gd} {X : Cx} {W : WX} {sc : Scope} {fb : Str → Bool} {N : List Str} {L : Nat} {B : Bs} {kd : Kd}
theorem pvk0 {fs : List (Ss.Env → M D)} (h : PVk X g B W kd [] fs) : fs = [] := by cases h; rfl
theorem pvk1 {e : Expr} {fs : List (Ss.Env → M D)} (h : PVk X g B W kd [e] fs) : ∃ f, fs = [f] ∧ PE X e (tI g B W kd f) ∧ nst e = true := by
  cases h with
  | cons h1 h2 h3 => cases h3; exact ⟨_, rfl, h1, h2⟩
theorem pvk2 {e e2 : Expr} {fs : List (Ss.Env → M D)} (h : PVk X g B W kd [e, e2] fs) : ∃ f f2, fs = [f, f2] ∧ PE X e (tI g B W kd f) ∧ nst e = true ∧ PE X e2 (tI g B W kd f2) ∧ nst e2 = true := by
  cases h with
  | cons h1 h2 h3 =>
    obtain ⟨f, rfl, q1, q2⟩ := pvk1 h3
    exact ⟨_, _, rfl, h1, h2, q1, q2⟩
theorem pvk3 {e e2 e3 : Expr} {fs : List (Ss.Env → M D)} (h : PVk X g B W kd [e, e2, e3] fs) : ∃ f f2 f3, fs = [f, f2, f3] ∧ PE X e (tI g B W kd f) ∧ nst e = true ∧ PE X e2 (tI g B W kd f2) ∧ nst e2 = true ∧ PE X e3 (tI g B W kd f3) ∧ nst e3 = true := by
  cases h with
  | cons h1 h2 h3 =>
    obtain ⟨f, f2, rfl, q1, q2, q3, q4⟩ := pvk2 h3
    exact ⟨_, _, _, rfl, h1, h2, q1, q2, q3, q4⟩
theorem evP1 {pre : D → Bool} {ρ : Ss.Env} {f : Ss.Env → M D} {k : List D → M D} : bnd (evPL pre ρ [f]) k = bnd (f ρ) fun d => if pre d then k [d] else bad := by
  simp only [evPL, evL, bnd_assoc]
  congr 1; funext d
  by_cases h : pre d = true
  · simp only [if_pos h, ret_bnd]
  · simp only [if_neg h, bad_bnd]
theorem evP2 {pre : D → Bool} {ρ : Ss.Env} {f f2 : Ss.Env → M D} {k : List D → M D} : bnd (evPL pre ρ [f, f2]) k = bnd (f ρ) fun d => if pre d then bnd (f2 ρ) fun y => k [d, y] else bad := by
  simp only [evPL, evL, bnd_assoc]
  congr 1; funext d
  by_cases h : pre d = true
  · simp only [if_pos h, ret_bnd, bnd_assoc]
  · simp only [if_neg h, bad_bnd]
theorem evP3 {pre : D → Bool} {ρ : Ss.Env} {f f2 f3 : Ss.Env → M D} {k : List D → M D} : bnd (evPL pre ρ [f, f2, f3]) k = bnd (f ρ) fun d => if pre d then bnd (f2 ρ) fun y => bnd (f3 ρ) fun z => k [d, y, z] else bad := by
  simp only [evPL, evL, bnd_assoc]
  congr 1; funext d
  by_cases h : pre d = true
  · simp only [if_pos h, ret_bnd, bnd_assoc]
  · simp only [if_neg h, bad_bnd]
theorem evPa {ρ : Ss.Env} {f : Ss.Env → M D} {k : List D → M D} : bnd (evPL anyD ρ [f]) k = bnd (f ρ) fun d => k [d] := by
  rw [evP1]; simp only [anyD, if_true]
theorem dM1_eq {m : Str} {e : Expr} {es : List Expr} (h : dM1 m e = some es) : ∃ o y ap pos, e = .Call (.Attribute o m ap) [y] [] pos ∧ es = [o, y] ∧ baseB o = true ∧ nst y = true ∧ (ap.endLine == pos.line) = true := by
  unfold dM1 at h
  split at h
  · rename_i o m' y hd
    split at h
    · rename_i c
      cases h
      obtain ⟨rfl, c1, c2⟩ := c
      obtain ⟨ap, pos, rfl, hl⟩ := dMeth_eq hd
      exact ⟨o, y, ap, pos, rfl, rfl, c1, c2, hl⟩
    · cases h
  · cases h
theorem dM2_eq {m : Str} {e : Expr} {es : List Expr} (h : dM2 m e = some es) : ∃ o y z ap pos, e = .Call (.Attribute o m ap) [y, z] [] pos ∧ es = [o, y, z] ∧ baseB o = true ∧ nst y = true ∧ nst z = true ∧ (ap.endLine == pos.line) = true := by
  unfold dM2 at h
  split at h
  · rename_i o m' y z hd
    split at h
    · rename_i c
      cases h
      obtain ⟨rfl, c1, c2, c3⟩ := c
      obtain ⟨ap, pos, rfl, hl⟩ := dMeth_eq hd
      exact ⟨o, y, z, ap, pos, rfl, rfl, c1, c2, c3, hl⟩
    · cases h
  · cases h
theorem dM0_eq {m : Str} {e : Expr} {es : List Expr} (h : dM0 m e = some es) : ∃ o ap pos, e = .Call (.Attribute o m ap) [] [] pos ∧ es = [o] ∧ baseB o = true ∧ (ap.endLine == pos.line) = true := by
  unfold dM0 at h
  split at h
  · rename_i o m' hd
    split at h
    · rename_i c
      cases h
      obtain ⟨rfl, c1⟩ := c
      obtain ⟨ap, pos, rfl, hl⟩ := dMeth_eq hd
      exact ⟨o, ap, pos, rfl, rfl, c1, hl⟩
    · cases h
  · cases h
theorem dC1_eq {x : Str} {e : Expr} {es : List Expr} (h : dC1 x sc e = some es) : ∃ y p pos, e = .Call (.Name x p) [y] [] pos ∧ es = [y] ∧ glB sc x = true ∧ nst y = true := by
  unfold dC1 at h
  split at h
  · rename_i y hd
    split at h
    · rename_i c
      cases h
      obtain ⟨p, pos, rfl⟩ := dCall1_eq hd
      exact ⟨y, p, pos, rfl, rfl, c.1, c.2⟩
    · cases h
  · cases h
/-! ### t.index(x) -/
def rIndexT (K : PySem.W.Frag) : V → List V → Hp → VK → Prop := fun x xs H Q => ∃ (a : Addr) (y : V) (d : PyData) (ds : List PyData) (j : Nat) (z : PyData), x = V.ref a ∧ xs = [y] ∧ Dp K H (V.ref a) (.tuple ds) ∧ Dp K H y d ∧ SeqAt.shaped (.tuple ds) = true ∧ SeqAt.shaped d = true ∧ ds[j]? = some z ∧ PyData.eqv z d = true ∧ (∀ (m : Nat) (z' : PyData), m < j → ds[m]? = some z' → PyData.eqv z' d = false) ∧ Q (.int (j : Nat)) H
theorem mt_indexT (hu : X.A.units + 65 < cLine) : MtR X "tuple.index" (rIndexT X.K) := by
  intro pins s σ H x xs v us Q I rx rxs h
  obtain ⟨a, y, d, ds, j, z, rfl, rfl, hl, hy, sl, sd, hz, hzj, hno, q⟩ := h
  cases rx
  obtain ⟨uy, rfl, ry⟩ := vals1 rxs
  obtain ⟨bs, r1⟩ := Dp.reads I d y uy hy ry
  have lay : PyData.canLayAll0 ds = true := by
    have := SeqAt.canLay_of_shaped sl
    simpa [PyData.canLay0] using this
  cases hl with
  | tup hs ha =>
    obtain ⟨its, rv, ⟨⟨cls, dd, dt, sls⟩, ho, hc, n, hdt⟩, hlen⟩ := I.tuple hs
    simp only at hc hdt
    subst hc hdt
    obtain ⟨as, h4⟩ := Dp.readsAll I ds _ its ha rv
    have room : X.A.units + 1 + min (PyData.depthAll ds) d.depth < cLine := room_in_shaped sd hu
    have rd := SeqAt.readsAll_map ds its as lay h4
    have ln : its.length = ds.length := by rw [← rd, List.length_map]
    have at_ : ∀ (m : Nat) (hm : m < its.toArray.size) (z' : PyData), ds[m]? = some z' → SeqAt.readOf s.heap its.toArray[m] = z' := fun m hm z' hz' => by
      have hm' : m < its.length := by simpa using hm
      rw [← rd, List.getElem?_map, List.getElem?_eq_getElem hm'] at hz'
      simpa using hz'
    have hj : j < its.toArray.size := by
      have := (List.getElem?_eq_some_iff.mp hz).1
      simp; omega
    refine call_meets PySem.F.slot_tuple_index ⟨_, ho, rfl⟩ PySem.F.entry_tuple_index (PySem.F.args_tuple_index_2 _ _)
      (TI.tuple_indexAt a its.toArray n dd sls uy (fun u => PyData.eqv (SeqAt.readOf s.heap u) d) j hj (by rw [at_ j hj z hz]; exact hzj) (fun m hm hmj => ?_))
      ⟨ho, SeqAt.items_eqAt (vs := its.toArray) (show ReadsAll s.heap its.toArray.toList ds as from h4) r1 lay (SeqAt.canLay_of_shaped sd) room, ⟨.int (j : Nat), H, I.tok _, ⟨_, rfl⟩, q⟩⟩
    have hm2 : m < its.length := by simpa using hm
    have hmd : m < ds.length := by omega
    rw [at_ m hm _ (List.getElem?_eq_getElem hmd)]
    exact hno m _ hmj (List.getElem?_eq_getElem hmd)
/-! ### xs.count(x) -/
def rCountD (K : PySem.W.Frag) : V → List V → Hp → VK → Prop := fun x xs H Q => ∃ (a : Addr) (y : V) (d : PyData) (ds : List PyData), x = V.ref a ∧ xs = [y] ∧ Dp K H (V.ref a) (.list ds) ∧ Dp K H y d ∧ SeqAt.shaped (.list ds) = true ∧ SeqAt.shaped d = true ∧ Q (.int (ds.countP fun z => PyData.eqv z d : Nat)) H
theorem mt_countD (hu : X.A.units + 65 < cLine) : MtR X "list.count" (rCountD X.K) := by
  intro pins s σ H x xs v us Q I rx rxs h
  obtain ⟨a, y, d, ds, rfl, rfl, hl, hy, sl, sd, q⟩ := h
  cases rx
  obtain ⟨uy, rfl, ry⟩ := vals1 rxs
  obtain ⟨bs, r1⟩ := Dp.reads I d y uy hy ry
  have lay : PyData.canLayAll0 ds = true := by
    have := SeqAt.canLay_of_shaped sl
    simpa [PyData.canLay0] using this
  cases hl with
  | lst hs ha =>
    obtain ⟨its, rv, pl, hlen⟩ := I.list hs
    obtain ⟨⟨cls, dd, dt, sls⟩, n, ho, hc, hdn, hdt⟩ := pl
    simp only at hc hdt
    subst hc hdt
    obtain ⟨as, h4⟩ := Dp.readsAll I ds _ its ha rv
    have room : X.A.units + 1 + min (PyData.depthAll ds) d.depth < cLine := room_in_shaped sd hu
    have rd := SeqAt.readsAll_map ds its as lay h4
    have ec : its.countP (fun u => PyData.eqv (SeqAt.readOf s.heap u) d) = ds.countP fun z => PyData.eqv z d := by
      rw [← rd, List.countP_map]; rfl
    refine call_meets PySem.F.slot_list_count ⟨_, ho, rfl⟩ PySem.F.entry_list_count (PySem.F.args_list_count_2 _ _)
      (SeqAt.list_countAt a its.toArray n dd sls uy (fun u => PyData.eqv (SeqAt.readOf s.heap u) d))
      ⟨ho, SeqAt.items_eqAt (vs := its.toArray) (show ReadsAll s.heap its.toArray.toList ds as from h4) r1 lay (SeqAt.canLay_of_shaped sd) room, ⟨.int (ds.countP fun z => PyData.eqv z d : Nat), H, I.tok _, ⟨s.toks, by simp only [ec]⟩, q⟩⟩
theorem cnt_toP {y : D} (hy : y.pl = true) : ∀ ds : List D, D.pls ds = true → ((D.toPs ds).countP fun z => PyData.eqv z (D.toP y)) = ds.countP fun z => D.eqv z y
  | [], _ => by simp [D.toPs]
  | z :: zs, h => by
    simp only [D.pls, Bool.and_eq_true] at h
    simp only [D.toPs, List.countP_cons, cnt_toP hy zs h.2, toP_eqv _ _ h.1 hy]
theorem ok_pCnt : PxOk g L pCnt := fun X W sc fb N B e es fs G k0 hd pv => by
  obtain ⟨o, y, ap, pos, rfl, rfl, hb, hn, hl⟩ := dM1_eq hd
  obtain ⟨f, f2, rfl, po, no, py, ny⟩ := pvk2 pv
  obtain rfl := G.gd
  simp only [evP2]
  have q : PE X (.Call (.Attribute o "count" ap) [y] [] pos) (tI (gdOf X) B W .full fun ρ => bnd (f ρ) fun d => if isLst d then bnd (f2 ρ) fun y => semCnt [d, y] else bad) := by
    refine pe_wk (pe_bm PySem.F.plainAttrs_list PySem.F.slot_list_count PySem.F.type_list_count (mt_countD G.units) po (pa_cons py pa_nil (star_of hn)) (baseB_ok hb) (by rw [star_of hn]; rfl) hl (star_of hn) rfl) fun σ H Q q => ?_
    obtain ⟨ρ, F, T, n, R, q⟩ := q
    refine ⟨ρ, F, T, n, R, q.bnd.mono fun x n1 H1 F1 e1 t1 q1 v p1 => ?_⟩
    have R1 := R.step e1 t1
    cases x with
    | lst ds =>
      simp only [isLst, if_true] at q1
      obtain ⟨p, vs, rfl, h1, _, h2⟩ := RpS.lst p1
      refine ⟨.inl ⟨rfl, vs, SqL.of h1⟩, ρ, F1, T, n1, R1, q1.bnd.mono fun y n2 H2 F2 e2 t2 q2 w p2 => ?_⟩
      obtain ⟨z, ez, k, _⟩ := q2.lft t2
      simp only [cntD] at ez
      split at ez
      · rename_i hc
        simp only [Bool.and_eq_true] at hc
        cases ez
        have pd := okE_pl hc.2
        have pe := pd
        simp only [D.pl] at pe
        have d1 := rpS_dp (g := gdOf X) pd (RpS.ev R1.tw R1.nf e2 p1)
        have d2 := rpS_dp (g := gdOf X) (okE_pl hc.1) p2
        have s1 := okE_sh hc.2
        simp only [D.toP] at d1 s1
        have ec := cnt_toP (okE_pl hc.1) ds pe
        refine ⟨p, w, D.toP y, D.toPs ds, rfl, rfl, d1, d2, s1, okE_sh hc.1, ?_⟩
        rw [ec]
        exact k _ (pf rp_int)
      · cases ez
    | _ => exact False.elim q1
  exact ⟨q, G.pt q fun _ => rfl⟩
/-! ### x is True -/
theorem dIsB_eq {b neg : Bool} {e : Expr} {es : List Expr} (h : dIsB b neg e = some es) : ∃ x k p pos, e = .Compare x [if neg then .IsNot else .Is] [.Constant (.bool b) k p] pos ∧ es = [x] := by
  unfold dIsB at h
  split at h
  · rename_i x p y hd
    by_cases c : p = (if neg then CmpOp.IsNot else CmpOp.Is) ∧ dConst y = some (.bool b)
    · rw [if_pos c] at h
      cases h
      obtain ⟨rfl, c2⟩ := c
      obtain ⟨pos, rfl⟩ := dCmp_eq hd
      obtain ⟨k, p2, rfl⟩ := dConst_eq c2
      exact ⟨x, k, p2, pos, rfl, rfl⟩
    · rw [if_neg c] at h; cases h
  · cases h
theorem ok_pIsB {b neg : Bool} : PxOk g L (pIsB b neg) := fun X W sc fb N B e es fs G k0 hd pv => by
  obtain ⟨x, k, p, pos, rfl, rfl⟩ := dIsB_eq hd
  obtain ⟨f, rfl, po, no⟩ := pvk1 pv
  obtain rfl := G.gd
  have ev : (fun ρ => bnd (evPL (pIsB b neg).pre ρ [f]) (pIsB b neg).sem) = fun ρ => bnd (f ρ) fun d => semIsB b neg [d] := funext fun ρ => evPa
  rw [ev]
  have ev2 : (fun ρ => truM (bnd (evPL (pIsB b neg).pre ρ [f]) (pIsB b neg).sem)) = fun ρ => truM (bnd (f ρ) fun d => semIsB b neg [d]) := funext fun ρ => by rw [← evPa (k := semIsB b neg)]; rfl
  rw [ev2]
  have po : PE X x (tI (gdOf X) B W .shal f) := po
  cases neg with
  | false =>
    constructor
    · refine pe_wk (pe_cmpR op_is_bl po pe_bl (nomark _)) fun σ H Q q => ?_
      obtain ⟨ρ, F, T, n, R, q⟩ := q
      refine ⟨ρ, F, T, n, R, q.bnd.mono fun d n1 H1 F1 e1 t1 q1 v p1 => ?_⟩
      cases d with
      | bl c => exact ⟨c, b, RpS.bl p1, rfl, q1 H1 F1 Ev.refl t1 _ (pf rp_bl)⟩
      | _ => exact False.elim q1
    · refine pt_wk (pt_cmpR op_is_bl po pe_bl (nomark _)) fun σ H Q q => ?_
      obtain ⟨ρ, F, T, n, R, q⟩ := q
      unfold truM at q
      refine ⟨ρ, F, T, n, R, q.bnd.bnd.mono fun d n1 H1 F1 e1 t1 q1 v p1 => ?_⟩
      cases d with
      | bl c => exact ⟨c, b, RpS.bl p1, rfl, _, rfl, q1 H1 F1 Ev.refl t1 H1 F1 Ev.refl t1⟩
      | _ => exact False.elim q1
  | true =>
    constructor
    · refine pe_wk (pe_cmpR op_isnot_bl po pe_bl (nomark _)) fun σ H Q q => ?_
      obtain ⟨ρ, F, T, n, R, q⟩ := q
      refine ⟨ρ, F, T, n, R, q.bnd.mono fun d n1 H1 F1 e1 t1 q1 v p1 => ?_⟩
      cases d with
      | bl c => exact ⟨c, b, RpS.bl p1, rfl, q1 H1 F1 Ev.refl t1 _ (pf rp_bl)⟩
      | _ => exact False.elim q1
    · refine pt_wk (pt_cmpR op_isnot_bl po pe_bl (nomark _)) fun σ H Q q => ?_
      obtain ⟨ρ, F, T, n, R, q⟩ := q
      unfold truM at q
      refine ⟨ρ, F, T, n, R, q.bnd.bnd.mono fun d n1 H1 F1 e1 t1 q1 v p1 => ?_⟩
      cases d with
      | bl c => exact ⟨c, b, RpS.bl p1, rfl, _, rfl, q1 H1 F1 Ev.refl t1 H1 F1 Ev.refl t1⟩
      | _ => exact False.elim q1
/-! ### dict([..]) -/
theorem kput_rel {T : Option Addr} {H : Hp} {F : FS} {k : Sum Int Str} {d : D} {v : V} (hv : Rp g H F T d v) : ∀ {l : List (Sum Int Str × D)} {kvs : List (L2.Key × V)}, (l.map (·.1)).Nodup → kvs.map (·.1) = l.map (·.1) → Rps g H F T (l.map (·.2)) (kvs.map (·.2)) →
    ((kput l k d).map (·.1)).Nodup ∧ (putK kvs k v).map (·.1) = (kput l k d).map (·.1) ∧ Rps g H F T ((kput l k d).map (·.2)) ((putK kvs k v).map (·.2)) ∧ ∀ x, x ∈ (kput l k d).map (·.1) → x = k ∨ x ∈ l.map (·.1)
  | [], kvs, nd, e, r => by
    have : kvs = [] := by cases kvs with | nil => rfl | cons _ _ => simp at e
    subst this
    refine ⟨by simp [kput], by simp [kput, putK], ?_, fun x hx => by simpa [kput] using hx⟩
    simp only [kput, putK, List.any_nil, Bool.false_eq_true, if_false, List.nil_append, List.map_cons, List.map_nil]
    exact .one hv
  | (k', d') :: l, [], nd, e, r => by simp at e
  | (k', d') :: l, (k2, v') :: kvs, nd, e, r => by
    simp only [List.map_cons, List.cons.injEq] at e
    obtain ⟨rfl, e⟩ := e
    simp only [List.map_cons, Rps] at r
    obtain ⟨w, ws, er, r1, r2⟩ := r
    cases er
    simp only [List.map_cons, List.nodup_cons] at nd
    by_cases hk : k2 = k
    · subst hk
      have no : ∀ kv ∈ kvs, ¬ kv.1 = k2 := fun kv hkv z => nd.1 (by rw [← e]; exact List.mem_map.mpr ⟨kv, hkv, z⟩)
      have em : kvs.map (fun kv => if kv.1 = k2 then (kv.1, v) else kv) = kvs := by
        rw [List.map_congr_left (g := id) fun kv hkv => by rw [if_neg (no kv hkv)]; rfl, List.map_id]
      have ep : putK ((k2, v') :: kvs) k2 v = (k2, v) :: kvs := by
        unfold putK
        rw [if_pos (by simp), List.map_cons, em]
        simp
      rw [ep]
      simp only [kput, if_true, List.map_cons]
      refine ⟨List.nodup_cons.mpr nd, by rw [e], .cons hv r2, fun x hx => ?_⟩
      rcases List.mem_cons.mp hx with z | z
      · exact .inl z
      · exact .inr (List.mem_cons_of_mem _ z)
    · obtain ⟨i1, i2, i3, i4⟩ := kput_rel hv (l := l) (kvs := kvs) nd.2 e r2
      have ep : putK ((k2, v') :: kvs) k v = (k2, v') :: putK kvs k v := by
        unfold putK
        rw [List.any_cons, decide_eq_false hk, Bool.false_or]
        split
        · rw [List.map_cons, if_neg hk]
        · rfl
      rw [ep]
      simp only [kput, if_neg hk, List.map_cons]
      refine ⟨List.nodup_cons.mpr ⟨fun m => ?_, i1⟩, by rw [i2], .cons r1 i3, fun x hx => ?_⟩
      · rcases i4 _ m with z | z
        · exact hk z
        · exact nd.1 z
      · rcases List.mem_cons.mp hx with z | z
        · exact .inr (by rw [z]; exact List.mem_cons_self)
        · rcases i4 x z with z | z
          · exact .inl z
          · exact .inr (List.mem_cons_of_mem _ z)
theorem kputs_rel {T : Option Addr} {H : Hp} {F : FS} : ∀ {ps : List (Sum Int Str × D)} {more : List (L2.Key × V)} {l : List (Sum Int Str × D)} {kvs : List (L2.Key × V)}, more.map (·.1) = ps.map (·.1) → Rps g H F T (ps.map (·.2)) (more.map (·.2)) → (l.map (·.1)).Nodup → kvs.map (·.1) = l.map (·.1) → Rps g H F T (l.map (·.2)) (kvs.map (·.2)) →
    (mergeK kvs more).map (·.1) = (kputs l ps).map (·.1) ∧ Rps g H F T ((kputs l ps).map (·.2)) ((mergeK kvs more).map (·.2))
  | [], more, l, kvs, e, r, nd, e2, r2 => by
    have : more = [] := by cases more with | nil => rfl | cons _ _ => simp at e
    subst this
    exact ⟨e2, r2⟩
  | (k, d) :: ps, [], l, kvs, e, r, nd, e2, r2 => by simp at e
  | (k, d) :: ps, (k', v) :: more, l, kvs, e, r, nd, e2, r2 => by
    simp only [List.map_cons, List.cons.injEq] at e
    obtain ⟨rfl, e⟩ := e
    simp only [List.map_cons, Rps] at r
    obtain ⟨w, ws, er, r1, r3⟩ := r
    cases er
    obtain ⟨i1, i2, i3, _⟩ := kput_rel r1 nd e2 r2
    exact kputs_rel (ps := ps) (more := more) (l := kput l k' d) (kvs := putK kvs k' v) e r3 i1 i2 i3
theorem prs_vals {T : Option Addr} {H : Hp} {F : FS} : ∀ {ds : List D} {vs : List V} {ps : List (Sum Int Str × D)}, Rps g H F T ds vs → prsOf ds = some ps → ∃ (as : List Addr) (kvs : List (L2.Key × V)), vs = as.map V.ref ∧ Paired (fun p kv => SqT g.K H p [kV kv.1, kv.2]) as kvs ∧ kvs.map (·.1) = ps.map (·.1) ∧ Rps g H F T (ps.map (·.2)) (kvs.map (·.2))
  | [], vs, ps, r, e => by
    simp only [Rps] at r
    simp only [prsOf, Option.some.injEq] at e
    subst r e
    exact ⟨[], [], rfl, .nil, rfl, .nil⟩
  | d :: ds, vs, ps, r, e => by
    simp only [Rps] at r
    obtain ⟨v, ws, rfl, r1, r2⟩ := r
    simp only [prsOf] at e
    cases ep : prOf d with
    | none => rw [ep] at e; cases e
    | some p =>
      rw [ep] at e
      simp only [Option.bind_some] at e
      cases eq : prsOf ds with
      | none => rw [eq] at e; cases e
      | some qs =>
        rw [eq] at e
        cases e
        obtain ⟨as, kvs, rfl, h1, h2, h3⟩ := prs_vals r2 eq
        unfold prOf at ep
        split at ep
        · rename_i a b
          cases ek : kyOf a with
          | none => rw [ek] at ep; cases ep
          | some k =>
            rw [ek] at ep
            cases ep
            simp only [Rp] at r1
            obtain ⟨ad, us, rfl, sq, _, ru⟩ := r1
            simp only [Rps] at ru
            obtain ⟨va, u2, rfl, ra, vb, u3, rfl, rb, rfl⟩ := ru
            have ea : va = kV k := by
              cases a <;> simp only [kyOf, reduceCtorEq, Option.some.injEq] at ek
              · subst ek; simp only [Rp] at ra; exact ra
              · subst ek; simp only [Rp] at ra; exact ra
            subst ea
            exact ⟨ad :: as, (k, vb) :: kvs, rfl, .cons sq h1, by simp [h2], by simp only [List.map_cons]; exact .cons rb h3⟩
        · cases ep
theorem ok_pDictP : PxOk g L pDictP := fun X W sc fb N B e es fs G k0 hd pv => by
  obtain ⟨y, p, pos, rfl, rfl, hg, hn⟩ := dC1_eq hd
  obtain ⟨f, rfl, po, no⟩ := pvk1 pv
  obtain rfl := G.gd
  obtain ⟨g1, g2⟩ := G.gl hg
  have po : PE X y (tI (gdOf X) B W .full f) := po
  have q : PE X (.Call (.Name "dict" p) [y] [] pos) (tI (gdOf X) B W .full fun ρ => bnd (evPL pDictP.pre ρ [f]) pDictP.sem) := by
    refine pe_wk (pe_callTy (call_dictP G.calm) g1 (G.bn (by decide +kernel)) (by decide +kernel) (pa_cons po pa_nil (star_of hn)) (by decide +kernel) g2 (star_of hn) rfl) fun σ H Q q => ?_
    obtain ⟨ρ, F, T, n, R, q⟩ := q
    have e0 : bnd (evPL pDictP.pre ρ [f]) pDictP.sem = bnd (f ρ) fun d => semDictP [d] := evPa
    dsimp only at q
    rw [e0] at q
    refine ⟨ρ, F, T, n, R, q.bnd.mono fun d n1 H1 F1 e1 t1 q1 v p1 => ?_⟩
    cases d with
    | lst ds =>
      obtain ⟨z, ez, _, k⟩ := q1.lft t1
      cases ep : prsOf ds with
      | none => rw [ep] at ez; cases ez
      | some ps =>
        rw [ep] at ez
        cases ez
        have p1 : Rp (gdOf X) H1 F1 T (.lst ds) v := p1
        simp only [Rp] at p1
        obtain ⟨a, vs, rfl, h1, _, _, h2⟩ := p1
        obtain ⟨as, kvs, rfl, h3, h4, h5⟩ := prs_vals h2 ep
        refine ⟨a, as, kvs, rfl, SqL.of h1, h3, fun q hq => k _ _ (Ev.allocF hq) (t1.allocF hq) _ ?_⟩
        obtain ⟨i1, i2⟩ := kputs_rel (g := gdOf X) (l := []) (kvs := []) h4 h5 List.nodup_nil rfl .nil
        have kk : Kp H1 F1 (upd H1 q (.dK (mergeK [] kvs))) (F1.add q) := Kp.alloc hq fun _ f => .inl f
        show Rp _ _ _ _ _ _
        simp only [Rp]
        exact ⟨q, _, rfl, upd_same, .inr rfl, i1, Rps.kp kk (fun _ z => z) _ _ i2⟩
    | _ => exact False.elim q1
  exact ⟨q, G.pt q fun _ => rfl⟩
/-! ### d.get(k, z) -/
theorem kget_val {T : Option Addr} {H : Hp} {F : FS} {k : Sum Int Str} : ∀ {ks : List (Sum Int Str)} {vs : List D} {kvs : List (L2.Key × V)}, kvs.map (·.1) = ks → Rps g H F T vs (kvs.map (·.2)) → (kget ks vs k = none ∧ valV kvs k = none) ∨ ∃ d v, kget ks vs k = some d ∧ valV kvs k = some v ∧ Rp g H F T d v
  | ks, vs, [], e, r => by
    subst e
    exact .inl ⟨by simp [kget], rfl⟩
  | ks, vs, (k', v) :: kvs, e, r => by
    subst e
    cases vs with
    | nil => simp only [Rps] at r; simp at r
    | cons d vs =>
      simp only [List.map_cons, Rps] at r
      obtain ⟨w, ws, er, r1, r2⟩ := r
      cases er
      by_cases h : k' = k
      · exact .inr ⟨d, v, by simp [kget, h], valV_pos h, r1⟩
      · simp only [List.map_cons, kget, if_neg h]
        rw [valV_neg h]
        exact kget_val rfl r2
theorem ok_pGet : PxOk g L pGet := fun X W sc fb N B e es fs G k0 hd pv => by
  obtain ⟨o, y, z, ap, pos, rfl, rfl, hb, hn, hn2, hl⟩ := dM2_eq hd
  obtain ⟨f, f2, f3, rfl, po, no, py, ny, pz, nz⟩ := pvk3 pv
  obtain rfl := G.gd
  have hu : X.A.units + 1 < cLine := by have := G.units; omega
  have po : PE X o (tI (gdOf X) B W .full f) := po
  have py : PE X y (tI (gdOf X) B W .full f2) := py
  have pz : PE X z (tI (gdOf X) B W .full f3) := pz
  have m2 : M2 X o "get" ap y z pos := ⟨baseB_ok hb, by rw [star_of hn, star_of hn2]; rfl, hl, by rw [star_of hn, star_of hn2]; rfl⟩
  have q : PE X (.Call (.Attribute o "get" ap) [y, z] [] pos) (tI (gdOf X) B W .full fun ρ => bnd (evPL pGet.pre ρ [f, f2, f3]) pGet.sem) := by
    refine pe_wk (pe_dget2 hu po py pz m2) fun σ H Q q => ?_
    obtain ⟨ρ, F, T, n, R, q⟩ := q
    dsimp only at q
    rw [evP3] at q
    refine ⟨ρ, F, T, n, R, q.bnd.mono fun x n1 H1 F1 e1 t1 q1 v p1 => ?_⟩
    have R1 := R.step e1 t1
    cases x with
    | dk ks vs =>
      have q1 : Fin (gdOf X) W σ T H1 F1 (bnd (f2 ρ) (fun y => bnd (f3 ρ) fun z => semGet [.dk ks vs, y, z]) n1) _ := q1
      have p1' : Rp (gdOf X) H1 F1 T (.dk ks vs) v := p1
      have p1 := p1'
      simp only [Rp] at p1
      obtain ⟨a, kvs, rfl, h1, fa, _⟩ := p1
      refine ⟨a, rfl, .inl ⟨kvs, .inl h1⟩, ρ, F1, T, n1, R1, q1.bnd.mono fun y n2 H2 F2 e2 t2 q2 w p2 => ?_⟩
      have R2 := R1.step e2 t2
      refine ⟨ρ, F2, T, n2, R2, q2.bnd.mono fun z n3 H3 F3 e3 t3 q3 u p3 => ?_⟩
      obtain ⟨r, er, k, _⟩ := q3.lft t3
      have p4 := R2.rp e3 (R1.rp e2 p1')
      simp only [Rp] at p4
      obtain ⟨a', kvs', ea, h1', _, hk, hr⟩ := p4
      cases ea
      have p2' : Rp (gdOf X) H3 F3 T y w := R2.rp e3 p2
      cases ek : kyOf y with
      | none => rw [ek] at er; cases er
      | some kk =>
        rw [ek] at er
        cases er
        have ew : w = kV kk := by
          cases y <;> simp only [kyOf, reduceCtorEq, Option.some.injEq] at ek
          · subst ek; simp only [Rp] at p2'; exact p2'
          · subst ek; simp only [Rp] at p2'; exact p2'
        subst ew
        rcases kget_val (k := kk) hk hr with ⟨z1, z2⟩ | ⟨d, u', z1, z2, z3⟩
        · refine ⟨none, ?_, ?_⟩
          · have := DGet.k (k := (kk : L2.Key)) h1'
            rw [z2] at this
            exact this
          · dsimp only at k
            rw [z1] at k
            exact k u p3
        · refine ⟨some u', ?_, ?_⟩
          · have := DGet.k (k := (kk : L2.Key)) h1'
            rw [z2] at this
            exact this
          · dsimp only at k
            rw [z1] at k
            exact k u' z3
    | _ => exact False.elim q1
  exact ⟨q, G.pt q fun _ => rfl⟩
/-! ### xs + ys -/
theorem dAdd_eq {e : Expr} {es : List Expr} (h : dAdd e = some es) : ∃ a b pos, e = .BinOp a .Add b pos ∧ es = [a, b] := by
  unfold dAdd at h
  split at h
  · rename_i a o b hd
    split at h
    · rename_i c
      cases h
      subst c
      obtain ⟨pos, rfl⟩ := dBin_eq hd
      exact ⟨a, b, pos, rfl, rfl⟩
    · cases h
  · cases h
theorem ok_pCat : PnOk g L pCat := fun X W sc fb N B e es fs G k0 hd pv => by
  obtain ⟨a, b, pos, rfl, rfl⟩ := dAdd_eq hd
  obtain ⟨f, f2, rfl, pa, na, pb, nb⟩ := pvk2 pv
  obtain rfl := G.gd
  have pa : PE X a (tI (gdOf X) B W .shal f) := pa
  have pb : PE X b (tI (gdOf X) B W .shal f2) := pb
  have q : PE X (.BinOp a .Add b pos) (tI (gdOf X) B W .new fun ρ => bnd (evPL pCat.pre ρ [f, f2]) pCat.sem) := by
    refine pe_wk (pe_op op_cat pa pb) fun σ H Q q => ?_
    obtain ⟨ρ, F, T, n, R, q⟩ := q
    dsimp only at q
    rw [evP2] at q
    refine ⟨ρ, F, T, n, R, q.bnd.mono fun x n1 H1 F1 e1 t1 q1 v p1 => ?_⟩
    have R1 := R.step e1 t1
    cases x with
    | lst xs =>
      have q1 : Fin (gdOf X) W σ T H1 F1 (bnd (f2 ρ) (fun y => semCat [.lst xs, y]) n1) _ := q1
      refine ⟨ρ, F1, T, n1, R1, q1.bnd.mono fun y n2 H2 F2 e2 t2 q2 w p2 => ?_⟩
      have R2 := R1.step e2 t2
      cases y with
      | lst ys =>
        have q2 : Fin (gdOf X) W σ T H2 F2 ((if xs.length + ys.length ≤ sizeLine then ret (D.lst (xs ++ ys)) else bad) n2) _ := q2
        by_cases c : xs.length + ys.length ≤ sizeLine
        · rw [if_pos c] at q2
          obtain ⟨p, vs, rfl, h1, _, h2⟩ := RpS.lst (RpS.ev R1.tw R1.nf e2 p1)
          obtain ⟨p', us, rfl, k1, _, k2⟩ := RpS.lst p2
          have l : vs.length + us.length ≤ sizeLine := by rw [h2.len, k2.len]; exact c
          exact ⟨p, p', vs, us, rfl, rfl, h1, k1, l, fun q hq => q2 _ F2 (Ev.alloc hq) (t2.alloc hq) _ (newPost R2.tw R2.dm hq H (none_back e1 t1 (none_back e2 t2 hq)) (by rw [List.length_append]; exact l) (h2.app k2))⟩
        · rw [if_neg c] at q2; exact False.elim q2
      | _ => exact False.elim q2
    | _ => exact False.elim q1
  exact ⟨q, G.pt q fun _ => rfl⟩
/-! ### f() -/
theorem ok_pCall0 {f : Fn} (hf : FnG g L f) : PxOk g L (pCall0 f) := fun X W sc fb N B e es fs G k0 hd pv => by
  have h : dC0 f.name sc e = some es := hd
  unfold dC0 at h
  split at h
  · rename_i y hc
    split at h
    · rename_i c
      cases h
      obtain ⟨rfl, hg⟩ := c
      obtain ⟨p, pos, rfl⟩ := dCall_eq hc
      have := pvk0 pv
      subst this
      obtain rfl := G.gd
      obtain ⟨g1, g2⟩ := G.gl hg
      obtain ⟨a, fd, ps, m, kp, b, _, ok⟩ := hf.ex
      have q : PE X (.Call (.Name f.name p) [] [] pos) (tI (gdOf X) B W .full fun ρ => bnd (evPL (pCall0 f).pre ρ []) (pCall0 f).sem) := by
        refine ⟨fun pins s σ H Q I q => ?_⟩
        obtain ⟨ρ, F, T, n, R, q⟩ := q
        refine wpAny_Call_Name_kw (ld_glob I g1 m ?_ g2)
        refine PySem.W.callWith_K0 I.kIn kp (run_fnS (us := []) ok G.room b (passAt G.tk σ) I .nil ?_)
        refine sp_read (ds := []) (W := W) R.tw R.nf R.dm .nil (H0 := H) ?_
        have e0 : bnd (evPL (pCall0 f).pre ρ []) (pCall0 f).sem = if ([] : List D).length = f.ar then f.sem [] else bad := by
          show semC0 f [] = _
          by_cases z : f.ar = 0
          · rw [if_pos (by rw [z]; rfl)]; simp only [semC0, if_pos z]
          · rw [if_neg (by intro y; exact z y.symm)]; simp only [semC0, if_neg z]
        dsimp only at q
        rw [e0] at q
        exact q
      exact ⟨q, G.pt q fun _ => rfl⟩
    · cases h
  · cases h
end
end Ss
/-! Sx, part T: a tuple times 0, 1, more. -/
namespace L2
open PySem PySem.Spec PyProof.Rows
theorem tuple_mul_one (l : Addr) (items : Array Value) (n : Nat) (dd : Option Addr) (sl : Array (Option Value)) (u : Tok) :
    Meets (Builtin.«tuple.__mul__» ⟨[.ref l, .int 1 u], []⟩) (fun _ R s => s.heap.get? l = some { cls := .type "tuple", dict := dd, data := .seq items n, slots := sl } ∧ R (.ok (.ret (Value.ref l))) s) :=
  .of_wp fun prog w A R s h => by
    obtain ⟨hp, g, d, tk, os⟩ := s
    obtain ⟨hl, h⟩ := h
    have f1 := AutoSeq1.idx_int
    have c1 : (items.isEmpty || (1 : Int) == 1) = true := by simp
    wp_walk using wpAny_loadPart' hl
    repeat (first
      | (refine wpAny_ite_true (decide_eq_true (by rw [c1])) ?_; wp_walk using wpAny_loadPart' hl))
    exact ⟨_, rfl, h⟩
theorem tuple_mul_zero (l : Addr) (items : Array Value) (n : Nat) (dd : Option Addr) (sl : Array (Option Value)) (u : Tok) (hi : items.isEmpty = false) :
    Meets (Builtin.«tuple.__mul__» ⟨[.ref l, .int 0 u], []⟩) (fun _ R s => s.heap.get? l = some { cls := .type "tuple", dict := dd, data := .seq items n, slots := sl } ∧
      R (.ok (.ret (Value.ref s.heap.objs.size))) { s with heap := s.heap.push { cls := Value.type "tuple", data := Data.seq #[] }, toks := s.toks }) :=
  .of_wp fun prog w A R s h => by
    obtain ⟨hp, g, d, tk, os⟩ := s
    obtain ⟨hl, h⟩ := h
    have f1 := AutoSeq1.idx_int
    have c1 : (items.isEmpty || (0 : Int) == 1) = false := by rw [hi]; rfl
    have c2 : (decide ((0 : Int) ≤ 0) || items.isEmpty) = true := by simp
    wp_walk using wpAny_loadPart' hl
    repeat (first
      | (refine wpAny_ite_false (decide_eq_false (by rw [c1]; exact Bool.false_ne_true)) ?_; wp_walk using wpAny_loadPart' hl)
      | (refine wpAny_ite_true (decide_eq_true (by rw [c2])) ?_; wp_walk using wpAny_loadPart' hl))
    exact ⟨_, rfl, h⟩
def rRepS (K : PySem.W.Frag) : R2 := fun x y H Q => ∃ l k xs, x = .ref l ∧ y = .int k ∧ SqT K H l xs ∧ xs ≠ [] ∧ ((k = 1 ∧ Q (.ref l) H) ∨ (k = 0 ∧ ∀ p, H p = none → Q (.ref p) (upd H p (.tup []))) ∨ (2 ≤ k ∧ k ≤ 1000 ∧ xs.length ≤ 1000 ∧ ∀ p, H p = none → Q (.ref p) (upd H p (.tup (List.replicate k.toNat xs).flatten))))
theorem op_repS {X : Cx} : OpR X (binaryOp .Mult) (rRepS X.K) := by
  intro pins s σ H x y v u Q I rx ry h
  obtain ⟨l, k, xs, rfl, rfl, hT, hne, h⟩ := h
  rcases h with ⟨rfl, q⟩ | ⟨rfl, q⟩ | ⟨h1, h2, h3, q⟩
  case inr.inr => exact op_repT pins s σ H _ _ v u Q I rx ry ⟨l, k, xs, rfl, rfl, hT, hne, h1, h2, h3, q⟩
  all_goals
    cases rx
    obtain ⟨t, rfl⟩ := ry
    obtain ⟨its, r, ⟨⟨cls, dd, data, sl⟩, ho, hc, n, hd⟩, hs⟩ := I.tuple hT
    simp only at hc hd
    subst hc hd
    have hi : its.toArray.isEmpty = false := by
      cases its with
      | nil => have := r.length; simp at this; exact absurd this hne
      | cons a b => rfl
  · refine wpAny_binaryOp_repeat_ref (T := "tuple") (U := "int") (by decide) ⟨_, ho, rfl⟩ (fun s' => typeIs_int s' 1 t) noFill_tuple_mul F.fills_int_mul F.slot_int_rmul repeat_tuple F.slot_int_index.lookup
      (call_meets F.slot_int_rmul (typeIs_int s 1 t) F.entry_int_rmul (F.args_int_rmul_2 _ _) (int_rmul_tuple 1 t l its.toArray n dd sl)
        ⟨ho, rfl, ⟨_, ho, rfl⟩, call_meets F.slot_tuple_mul ⟨_, ho, rfl⟩ F.entry_tuple_mul (F.args_tuple_mul_2 _ _) (tuple_mul_one l its.toArray n dd sl t) ⟨ho, ⟨.ref l, H, I, rfl, q⟩⟩⟩)
  · refine wpAny_binaryOp_repeat_ref (T := "tuple") (U := "int") (by decide) ⟨_, ho, rfl⟩ (fun s' => typeIs_int s' 0 t) noFill_tuple_mul F.fills_int_mul F.slot_int_rmul repeat_tuple F.slot_int_index.lookup
      (call_meets F.slot_int_rmul (typeIs_int s 0 t) F.entry_int_rmul (F.args_int_rmul_2 _ _) (int_rmul_tuple 0 t l its.toArray n dd sl)
        ⟨ho, rfl, ⟨_, ho, rfl⟩, call_meets F.slot_tuple_mul ⟨_, ho, rfl⟩ F.entry_tuple_mul (F.args_tuple_mul_2 _ _) (tuple_mul_zero l its.toArray n dd sl t hi) ⟨ho, ?_⟩⟩)
    refine ⟨.ref s.heap.objs.size, upd H s.heap.objs.size (.tup []), I.laid (t' := s.toks) (fun b o e => Heap.get?_push_of_some _ e) (Nat.le_refl _) ?_, rfl, q _ (I.hok.fresh (Nat.le_refl _))⟩
    exact ⟨Nat.zero_le _, [], .nil, _, Heap.get?_push_size _ rfl, rfl, _, rfl⟩
end L2
namespace Ss
open PySem PySem.Spec PyProof.Rows L2
theorem dMul_eq {e : Expr} {es : List Expr} (h : dMul e = some es) : ∃ a b pos, e = .BinOp a .Mult b pos ∧ es = [a, b] := by
  unfold dMul at h
  split at h
  · rename_i a o b hd
    split at h
    · rename_i c
      cases h
      subst c
      obtain ⟨pos, rfl⟩ := dBin_eq hd
      exact ⟨a, b, pos, rfl, rfl⟩
    · cases h
  · cases h
theorem ok_pMulT {g : Gd} {L : Nat} : PxOk g L pMulT := fun X W sc fb N B e es fs G k0 hd pv => by
  obtain ⟨a, b, pos, rfl, rfl⟩ := dMul_eq hd
  obtain ⟨f, f2, rfl, pa, na, pb, nb⟩ := pvk2 pv
  obtain rfl := G.gd
  have pa : PE X a (tI (gdOf X) B W .shal f) := pa
  have pb : PE X b (tI (gdOf X) B W .shal f2) := pb
  have q : PE X (.BinOp a .Mult b pos) (tI (gdOf X) B W .full fun ρ => bnd (evPL pMulT.pre ρ [f, f2]) pMulT.sem) := by
    refine pe_wk (pe_op op_repS pa pb) fun σ H Q q => ?_
    obtain ⟨ρ, F, T, n, R, q⟩ := q
    dsimp only at q
    rw [evP2] at q
    refine ⟨ρ, F, T, n, R, q.bnd.mono fun x n1 H1 F1 e1 t1 q1 v p1 => ?_⟩
    have R1 := R.step e1 t1
    cases x with
    | tup xs =>
      have q1 : Fin (gdOf X) W σ T H1 F1 (bnd (f2 ρ) (fun y => semMulT [.tup xs, y]) n1) _ := q1
      refine ⟨ρ, F1, T, n1, R1, q1.bnd.mono fun y n2 H2 F2 e2 t2 q2 w p2 => ?_⟩
      cases y with
      | int k =>
        have q2 : Fin (gdOf X) W σ T H2 F2 ((if 0 ≤ k ∧ k ≤ 1000 ∧ xs.length ≤ 1000 ∧ xs ≠ [] then ret (D.tup (List.replicate k.toNat xs).flatten) else bad) n2) _ := q2
        by_cases c : 0 ≤ k ∧ k ≤ 1000 ∧ xs.length ≤ 1000 ∧ xs ≠ []
        · rw [if_pos c] at q2
          obtain ⟨c1, c2, c3, c4⟩ := c
          obtain ⟨p, vs, rfl, h1, h3, h2⟩ := RpS.tup (RpS.ev R1.tw R1.nf e2 p1)
          have lv := h2.len
          have ne : vs ≠ [] := fun z => by rw [z] at lv; exact c4 (List.length_eq_zero_iff.mp lv.symm)
          refine ⟨p, k, vs, rfl, RpS.int p2, h1, ne, ?_⟩
          have fin : ∀ {us : List V}, Rps (gdOf X) H2 F2 T (List.replicate k.toNat xs).flatten us → us.length ≤ sizeLine → ∀ q, H2 q = none → Q (.ref q) (upd H2 q (.tup us)) := fun {us} hu lu q hq => by
            have kk : Kp H2 F2 (upd H2 q (.tup us)) F2 := Kp.alloc hq fun _ f => f
            exact q2 _ F2 (Ev.alloc hq) (t2.alloc hq) _ (rp_tup (SqT.of upd_same) lu (Rps.kp kk (fun _ z => z) _ _ hu))
          by_cases k1 : k = 1
          · subst k1
            refine .inl ⟨rfl, q2 H2 F2 Ev.refl t2 _ ?_⟩
            have : (List.replicate (1 : Int).toNat xs).flatten = xs := by simp
            rw [this]
            exact rp_tup h1 h3 h2
          · by_cases k2 : k = 0
            · subst k2
              exact .inr (.inl ⟨rfl, fun q hq => fin (us := []) (by simpa using Rps.nil) (Nat.zero_le _) q hq⟩)
            · refine .inr (.inr ⟨by omega, c2, by omega, fun q hq => fin (h2.rep k.toNat) ?_ q hq⟩)
              rw [List.length_flatten, List.map_replicate, List.sum_replicate_nat]
              have : sizeLine = 16777216 := sizeLine_eq
              have a1 : k.toNat * vs.length ≤ 1000 * 1000 := Nat.mul_le_mul (by omega) (by omega)
              omega
        · rw [if_neg c] at q2; exact False.elim q2
      | _ => exact False.elim q2
    | _ => exact False.elim q1
  exact ⟨q, G.pt q fun _ => rfl⟩
end Ss
/-! Sx, part E: isinstance of an error that was caught. -/
namespace Ss
open PySem PySem.Spec PyProof.Rows L2
def rIsX (K : PySem.W.Frag) : List V → Hp → VK → Prop := fun xs H Q => ∃ (a C : Addr) (c : V) (cv : Value) (b : Bool), xs = [.ref a, c] ∧ H a = some (XO (.ref C) a) ∧ ExcC K C ∧ (∀ u, RelV c u → u = cv) ∧ PySem.W.kitOne K (.ref C) cv = some b ∧ Q (.bl b) H
theorem call_isX {X : Cx} : CallR X (.builtin "isinstance") (rIsX X.K) := by
  intro pins s σ H xs us Q I r h
  obtain ⟨a, C, c, cv, b, rfl, ha, ec, hcv, e, q⟩ := h
  obtain ⟨u, w, rfl, ru, rw'⟩ := r.two
  cases ru
  have e2 := hcv _ rw'
  subst e2
  obtain ⟨⟨oe, vs, hget, hz, hv⟩, _⟩ := I.hok a _ ha
  have J : PySem.W.InstAt s.heap a oe C none := by
    obtain ⟨o1, o2, o3, o4⟩ := oe
    obtain ⟨z1, z2⟩ := hz
    dsimp only at z1 z2 hv
    subst z1 z2 hv
    exact ⟨hget, rfl, rfl, trivial⟩
  exact PySem.W.kia_one (PySem.W.handS_kitx_exc ec.hg ec.hk ec.hs ec.hd ec.ha ec.hn ec.ht ec.hm) I.kIn J e (fun z => nomatch z) fun tk => ⟨.bl b, H, I.kept (t' := tk) fun _ _ z => z, rfl, q⟩
/-- a class that isinstance is asked of -/
structure IsaG (g : Gd) (c : Str) : Prop where
  ex : (∃ C2, g.mg c = some (.ref C2) ∧ ∀ e ∈ errs, ∀ C, g.mg e = some (.ref C) → ExcC g.K C ∧ PySem.W.kitOne g.K (.ref C) (.ref C2) = some (isaE c e)) ∨
    (c = "ValueError" ∧ ∀ e ∈ errs, ∀ C, g.mg e = some (.ref C) → ExcC g.K C ∧ PySem.W.kitOne g.K (.ref C) (.type "ValueError") = some true)
theorem dIsE_eq {c : Str} {sc : Scope} {e : Expr} {es : List Expr} (h : dIsE c sc e = some es) : ∃ y p p2 pos, e = .Call (.Name "isinstance" p) [y, .Name c p2] [] pos ∧ es = [y] ∧ glB sc "isinstance" = true ∧ glB sc c = true ∧ nst y = true := by
  unfold dIsE at h
  split at h
  · rename_i y z hd
    split at h
    · rename_i q
      cases h
      obtain ⟨p, pos, rfl⟩ := dCall2_eq hd
      obtain ⟨p2, rfl⟩ := dName_eq q.1
      exact ⟨y, p, p2, pos, rfl, rfl, q.2.1, q.2.2.1, q.2.2.2⟩
    · cases h
  · cases h
theorem ok_pIsE {g : Gd} {L : Nat} {c : Str} (hc : IsaG g c) : PxOk g L (pIsE c) := fun X W sc fb N B e es fs G k0 hd pv => by
  obtain ⟨y, p, p2, pos, rfl, rfl, hg, hg2, hn⟩ := dIsE_eq hd
  obtain ⟨f, rfl, po, no⟩ := pvk1 pv
  obtain rfl := G.gd
  obtain ⟨g1, g2⟩ := G.gl hg
  obtain ⟨g3, g4⟩ := G.gl hg2
  have po : PE X y (tI (gdOf X) B W .full f) := po
  obtain ⟨cv, cu, pc, hcv, kit⟩ : ∃ (cv : V) (cu : Value), PE X (.Name c p2) (tC cv) ∧ (∀ u, RelV cv u → u = cu) ∧ ∀ e ∈ errs, ∀ C, X.mg e = some (.ref C) → ExcC X.K C ∧ PySem.W.kitOne X.K (.ref C) cu = some (isaE c e) := by
    rcases hc.ex with ⟨C2, h1, h2⟩ | ⟨rfl, h2⟩
    · exact ⟨.ref C2, .ref C2, pe_glob g3 h1 rfl g4, fun u r => by cases r; rfl, h2⟩
    · refine ⟨.ty "ValueError", .type "ValueError", pe_bltn g3 (G.bn (by decide +kernel)) (by decide +kernel) rfl (by decide +kernel) g4, fun u r => by cases r; rfl, fun e he C hC => ⟨(h2 e he C hC).1, ?_⟩⟩
      have z : PySem.W.kitOne X.K (.ref C) (.type "ValueError") = some true := (h2 e he C hC).2
      rw [z]
      simp [isaE]
  have q : PE X (.Call (.Name "isinstance" p) [y, .Name c p2] [] pos) (tI (gdOf X) B W .full fun ρ => bnd (evPL (pIsE c).pre ρ [f]) (pIsE c).sem) := by
    refine pe_wk (pe_callB call_isX g1 (G.bn (by decide +kernel)) (by decide +kernel) (pa_cons po (pa_cons pc pa_nil rfl) (star_of hn)) (by decide +kernel) g2 (star_of hn) rfl) fun σ H Q q => ?_
    obtain ⟨ρ, F, T, n, R, q⟩ := q
    have e0 : bnd (evPL (pIsE c).pre ρ [f]) (pIsE c).sem = bnd (f ρ) fun d => semIsE c [d] := evPa
    dsimp only at q
    rw [e0] at q
    refine ⟨ρ, F, T, n, R, q.bnd.mono fun d n1 H1 F1 e1 t1 q1 v p1 => ?_⟩
    cases d with
    | exn er =>
      have p1 : Rp (gdOf X) H1 F1 T (.exn er) v := p1
      simp only [Rp] at p1
      obtain ⟨a, C, rfl, hC, hx, _⟩ := p1
      simp only [semIsE] at q1
      by_cases he : er ∈ errs
      · rw [if_pos he] at q1
        obtain ⟨k1, k2⟩ := kit er he C hC
        exact ⟨a, C, cv, cu, _, rfl, hx, k1, hcv, k2, q1 H1 F1 Ev.refl t1 _ (pf rp_bl)⟩
      · rw [if_neg he] at q1; exact False.elim q1
    | _ => exact False.elim q1
  exact ⟨q, G.pt q fun _ => rfl⟩
end Ss
/-! Sx, part O: what the head tells of the errors. -/
namespace Ss
open PySem PySem.Spec PyProof.Rows L2
def exB (K : PySem.W.Frag) (e : Str) : Bool :=
  decide (PySem.W.findIn K (.ref (He.ga K e)) "__getattribute__" = some (some (.builtin "BaseException.__getattribute__"))) &&
  (decide (PySem.W.findIn K (.ref (He.ga K e)) "__getattr__" = some none) &&
  (decide (PySem.W.subIn K (.ref (He.ga K e)) (.type "BaseException") = some true) &&
  (PySem.W.hasDictIn K (He.ga K e) &&
  (decide (PySem.W.findIn K (.ref (He.ga K e)) "__class__" = some (some (.builtin "object.__class__"))) &&
  (decide (PySem.W.specialIn K (.builtin "object.__class__") "__get__" = some (some (.builtin "getset_descriptor.__get__"))) &&
  (decide (PySem.W.takesIn K (.builtin "object.__class__") = some true) &&
  decide (PySem.W.mroIn K (He.ga K e) (.type "object") = some true)))))))
theorem exB_ok {K : PySem.W.Frag} {e : Str} (h : exB K e = true) : ExcC K (He.ga K e) := by
  unfold exB at h
  simp only [Bool.and_eq_true, decide_eq_true_eq] at h
  exact ⟨h.1, h.2.1, h.2.2.1, h.2.2.2.1, h.2.2.2.2.1, h.2.2.2.2.2.1, h.2.2.2.2.2.2.1, h.2.2.2.2.2.2.2⟩
def catB (K : PySem.W.Frag) (c : Str) : Bool := errs.all fun e => decide (PySem.W.exmOne K (.ref (He.ga K e)) (.ref (He.ga K c)) = some (cat c e))
def isaB (K : PySem.W.Frag) (c : Str) : Bool := errs.all fun e => exB K e && decide (PySem.W.kitOne K (.ref (He.ga K e)) (.ref (He.ga K c)) = some (isaE c e))
def isaV (K : PySem.W.Frag) : Bool := errs.all fun e => exB K e && decide (PySem.W.kitOne K (.ref (He.ga K e)) (.type "ValueError") = some true)
section
variable {P : Program} {w : World} {K : PySem.W.Frag} {mg : Str → Option Value} {base : Heap}
theorem tryG_of {c : Str} (ms : ∀ e ∈ errs, mg e = some (.ref (He.ga K e))) (hc : mg c = some (.ref (He.ga K c))) (h : catB K c = true) : TryG ⟨P, w, K, mg, base⟩ c :=
  ⟨_, hc, fun e he E hE => by
    have hE : mg e = some (.ref E) := hE
    rw [ms e he] at hE
    cases hE
    exact of_decide_eq_true (List.all_eq_true.mp h e he)⟩
theorem isaG_of {c : Str} (ms : ∀ e ∈ errs, mg e = some (.ref (He.ga K e))) (hc : mg c = some (.ref (He.ga K c))) (h : isaB K c = true) : IsaG ⟨P, w, K, mg, base⟩ c :=
  ⟨.inl ⟨_, hc, fun e he E hE => by
    have hE : mg e = some (.ref E) := hE
    rw [ms e he] at hE
    cases hE
    have q := List.all_eq_true.mp h e he
    simp only [Bool.and_eq_true, decide_eq_true_eq] at q
    exact ⟨exB_ok q.1, q.2⟩⟩⟩
theorem isaG_V (ms : ∀ e ∈ errs, mg e = some (.ref (He.ga K e))) (h : isaV K = true) : IsaG ⟨P, w, K, mg, base⟩ "ValueError" :=
  ⟨.inr ⟨rfl, fun e he E hE => by
    have hE : mg e = some (.ref E) := hE
    rw [ms e he] at hE
    cases hE
    have q := List.all_eq_true.mp h e he
    simp only [Bool.and_eq_true, decide_eq_true_eq] at q
    exact ⟨exB_ok q.1, q.2⟩⟩⟩
theorem errs_of {p : Str → Prop} (h1 : p "BadTable") (h2 : p "BadRow") (h3 : p "BadPlan") (h4 : p "NoPlace") (h5 : p "BadNumber") (h6 : p "NoRow") (h7 : p "Nothing") (h8 : p "BadText") : ∀ e ∈ errs, p e := fun e he => by
  simp only [errs, List.mem_cons, List.not_mem_nil, or_false] at he
  rcases he with rfl | rfl | rfl | rfl | rfl | rfl | rfl | rfl <;> assumption
end
end Ss
/-! Ss, part T: how to reckon with the small language's evaluator. -/
namespace Ss
open PySem L2
/-! ### expressions -/
section
variable {ρ : Ss.Env} {i : Nat} {d : D} {x : Str} {es : List IR} {a b c e : IR}
@[simp] theorem ev_var : ev (.var i) ρ = lft (getD ρ i) := by simp only [ev]
@[simp] theorem ev_own : ev (.own i) ρ = lft ((getO ρ i).map D.lst) := by simp only [ev]
@[simp] theorem ev_lit : ev (.lit d) ρ = ret d := by simp only [ev]
@[simp] theorem ev_glob : ev (.glob x d) ρ = ret d := by simp only [ev]
@[simp] theorem ev_tup : ev (.tup es) ρ = bnd (evs es ρ) fun ds => if ds.length ≤ sizeLine then ret (.tup ds) else bad := by simp only [ev]
@[simp] theorem ev_lst : ev (.lst es) ρ = bnd (evs es ρ) fun ds => if ds.length ≤ sizeLine then ret (.lst ds) else bad := by simp only [ev]
@[simp] theorem ev_op {o : Op} : ev (.op o a b) ρ = bnd (ev a ρ) fun x => bnd (ev b ρ) fun y => lft (o.f x y) := by simp only [ev]
@[simp] theorem ev_cmp {o : Cm} : ev (.cmp o a b) ρ = bnd (ev a ρ) fun x => bnd (ev b ρ) fun y => lft ((o.f x y).map D.bl) := by simp only [ev]
@[simp] theorem ev_chain : ev (.chain a b c) ρ = bnd (ev a ρ) fun x => bnd (ev b ρ) fun y => bnd (lft (Cm.f .le x y)) fun k => if k then bnd (ev c ρ) fun z => lft ((Cm.f .le y z).map D.bl) else ret (.bl false) := by simp only [ev]
def isN : D → Bool
  | .non => true
  | _ => false
@[simp] theorem ev_isn {neg : Bool} : ev (.isn neg a) ρ = bnd (ev a ρ) fun x => ret (.bl (if isN x then !neg else neg)) := by
  simp only [ev]
  congr 1
  funext x
  cases x <;> simp [isN]
@[simp] theorem ev_bop {an : Bool} : ev (.bop an es) ρ = evb an es ρ := by simp only [ev]
@[simp] theorem ev_nt : ev (.nt a) ρ = bnd (ev a ρ) fun x => lft ((tru x).map fun b => D.bl (!b)) := by simp only [ev]
@[simp] theorem ev_ite : ev (.ite c a b) ρ = bnd (ev c ρ) fun x => bnd (lft (tru x)) fun k => if k then ev a ρ else ev b ρ := by simp only [ev]
@[simp] theorem ev_idx : ev (.idx a b) ρ = bnd (ev a ρ) fun x => bnd (ev b ρ) fun y => lft (idxD x y) := by simp only [ev]
@[simp] theorem ev_slc {lo hi : Option IR} : ev (.slc a lo hi) ρ = bnd (ev a ρ) fun x => bnd (evo lo ρ) fun l => bnd (evo hi ρ) fun h => lft (cutD x l h) := by simp only [ev]
@[simp] theorem ev_call {g : Fn} : ev (.call g es) ρ = bnd (evs es ρ) fun ds => if ds.length = g.ar then g.sem ds else bad := by simp only [ev]
@[simp] theorem ev_bi {b : Bi} : ev (.bi b es) ρ = bnd (evs es ρ) fun ds => lft (b.f ds) := by simp only [ev]
@[simp] theorem ev_isi {t : Ty} : ev (.isi t a) ρ = bnd (ev a ρ) fun x => lft ((t.f x).map D.bl) := by simp only [ev]
def setN (x : D) : M D := match x with
    | .lst ds => lft ((leaves ds).bind fun xs => if xs.length ≤ 4000 then some (D.int (dcn xs xs.length)) else none)
    | .tup ds => lft ((leaves ds).bind fun xs => if xs.length ≤ 4000 then some (D.int (dcn xs xs.length)) else none)
    | _ => bad
@[simp] theorem ev_lens : ev (.lens a) ρ = bnd (ev a ρ) setN := by
  simp only [ev]; congr 1
@[simp] theorem ev_ixm : ev (.ixm a b) ρ = bnd (ev a ρ) fun x => lstM x (bnd (ev b ρ) fun y => lft (fndD x y)) := by simp only [ev]
@[simp] theorem lstM_lst {ds : List D} {k : M D} : lstM (.lst ds) k = k := Eq.trans rfl rfl
def joinM (z x : D) : M D := match z, x with
  | .str z, .lst ds => lft (joinS z ds)
  | _, _ => bad
theorem joinM_bad {z : D} (h : ∀ s, z ≠ .str s) (x : D) : joinM z x = bad := by
  cases z <;> first | rfl | (exact absurd rfl (h _))
@[simp] theorem ev_join {z : Str} : ev (.join (.lit (.str z)) a) ρ = bnd (ev a ρ) fun x => joinM (.str z) x := by
  simp only [ev, ret_bnd]
  congr 1
  funext x
  cases x <;> rfl
@[simp] theorem ev_lrng : ev (.lrng es) ρ = bnd (evs es ρ) fun ds => lft ((rngD ds).map D.lst) := by simp only [ev]
def tlenM (x : D) : M D := match x with
  | .town => fun n => .ok (.int n.n) n
  | _ => bad
@[simp] theorem ev_tlen : ev (.tlen i) ρ = bnd (lft (getD ρ i)) tlenM := by
  simp only [ev]; congr 1
def cb (elt : IR) (tg : Tg) (ifs : List IR) (vs : List Nat) (ρ : Ss.Env) (d : D) : M (Option D) := bnd (lft (tg.put d (wip ρ vs))) fun ρ2 => bnd (evb true ifs ρ2) fun c => bnd (lft (tru c)) fun k => if k then bnd (ev elt ρ2) fun x => ret (some x) else ret none
@[simp] theorem ev_comp {elt it : IR} {tg : Tg} {ifs : List IR} {vs : List Nat} : ev (.comp elt tg it ifs vs) ρ = bnd (evi it ρ) fun ds => bnd (lcs (cb elt tg ifs vs ρ) ds) fun xs => ret (.lst xs) := by
  cases it <;> (simp only [ev, evi]; rfl)
@[simp] theorem ev_neg : ev (.neg a) ρ = bnd (ev a ρ) fun x => lft (negD x) := by simp only [ev]
@[simp] theorem ev_revt : ev (.revt a) ρ = bnd (ev a ρ) fun x => lft (revT x) := by simp only [ev]
@[simp] theorem ev_rev : ev (.rev a) ρ = bnd (ev a ρ) fun x => lft (revD x) := by simp only [ev]
@[simp] theorem ev_dsel {ks : List Str} : ev (.dsel ks es a) ρ = bnd (evs es ρ) fun ds => bnd (ev a ρ) fun x => lft (selD ks ds x) := by simp only [ev]
@[simp] theorem ev_dgi : ev (.dgi i a) ρ = bnd (lft (getK ρ i)) fun p => bnd (ev a ρ) fun d => lft ((topKey d).bind fun q => dget p.1 p.2 q) := by simp only [ev]
@[simp] theorem ev_px {x : Px} : ev (.px x es) ρ = bnd (evp x.pre es ρ) x.sem := by simp only [ev]
@[simp] theorem ev_pxn {x : Px} : ev (.pxn x es) ρ = bnd (evp x.pre es ρ) x.sem := by simp only [ev]
@[simp] theorem evp_nil {p : D → Bool} : evp p [] ρ = ret [] := by simp only [evp]
@[simp] theorem evp_cons {p : D → Bool} : evp p (e :: es) ρ = bnd (ev e ρ) fun d => if p d then bnd (evs es ρ) fun ds => ret (d :: ds) else bad := by simp only [evp]
@[simp] theorem evs_nil : evs [] ρ = ret [] := by simp only [evs]
@[simp] theorem evs_cons : evs (e :: es) ρ = bnd (ev e ρ) fun d => bnd (evs es ρ) fun ds => ret (d :: ds) := by simp only [evs]
@[simp] theorem evo_none : evo none ρ = ret none := by simp only [evo]
@[simp] theorem evo_some : evo (some e) ρ = bnd (ev e ρ) fun x => lft (part x) := by simp only [evo]
@[simp] theorem evb_nil {an : Bool} : evb an [] ρ = ret (.bl an) := by simp only [evb]
@[simp] theorem evb_one {an : Bool} : evb an [e] ρ = ev e ρ := by simp only [evb]
@[simp] theorem evb_cons {an : Bool} {f : IR} : evb an (e :: f :: es) ρ = bnd (ev e ρ) fun x => bnd (lft (tru x)) fun k => if k == an then evb an (f :: es) ρ else ret x := by simp only [evb]
@[simp] theorem evi_rng : evi (.rng es) ρ = bnd (evs es ρ) fun ds => lft (rngD ds) := Eq.trans rfl rfl
@[simp] theorem evi_itx {x : Ix} : evi (.itx x es) ρ = bnd (evs es ρ) x.sem := Eq.trans rfl rfl
@[simp] theorem evi_pxn {x : Px} : evi (.pxn x es) ρ = bnd (ev (.pxn x es) ρ) fun x => lft (items x) := Eq.trans rfl rfl
@[simp] theorem evi_px {x : Px} : evi (.px x es) ρ = bnd (ev (.px x es) ρ) fun x => lft (items x) := Eq.trans rfl rfl
@[simp] theorem evi_var : evi (.var i) ρ = bnd (ev (.var i) ρ) fun x => lft (items x) := Eq.trans rfl rfl
@[simp] theorem evi_own : evi (.own i) ρ = bnd (ev (.own i) ρ) fun x => lft (items x) := Eq.trans rfl rfl
@[simp] theorem evi_idx : evi (.idx a b) ρ = bnd (ev (.idx a b) ρ) fun x => lft (items x) := Eq.trans rfl rfl
@[simp] theorem evi_op {o : Op} : evi (.op o a b) ρ = bnd (ev (.op o a b) ρ) fun x => lft (items x) := Eq.trans rfl rfl
@[simp] theorem evi_lst : evi (.lst es) ρ = bnd (ev (.lst es) ρ) fun x => lft (items x) := Eq.trans rfl rfl
@[simp] theorem evi_tup : evi (.tup es) ρ = bnd (ev (.tup es) ρ) fun x => lft (items x) := Eq.trans rfl rfl
@[simp] theorem evi_lit : evi (.lit d) ρ = bnd (ev (.lit d) ρ) fun x => lft (items x) := Eq.trans rfl rfl
@[simp] theorem evi_glob : evi (.glob x d) ρ = bnd (ev (.glob x d) ρ) fun x => lft (items x) := Eq.trans rfl rfl
@[simp] theorem evi_call {g : Fn} : evi (.call g es) ρ = bnd (ev (.call g es) ρ) fun x => lft (items x) := Eq.trans rfl rfl
@[simp] theorem evi_slc {lo hi : Option IR} : evi (.slc a lo hi) ρ = bnd (ev (.slc a lo hi) ρ) fun x => lft (items x) := Eq.trans rfl rfl
@[simp] theorem evi_rev : evi (.rev a) ρ = bnd (ev (.rev a) ρ) fun x => lft (items x) := Eq.trans rfl rfl
@[simp] theorem evi_lrng : evi (.lrng es) ρ = bnd (ev (.lrng es) ρ) fun x => lft (items x) := Eq.trans rfl rfl
@[simp] theorem evi_ite : evi (.ite a b c) ρ = bnd (ev (.ite a b c) ρ) fun x => lft (items x) := Eq.trans rfl rfl
@[simp] theorem evi_dkl : evi (.dkl i) ρ = bnd (ev (.dkl i) ρ) fun x => lft (items x) := Eq.trans rfl rfl
@[simp] theorem evi_bi {b : Bi} : evi (.bi b es) ρ = bnd (ev (.bi b es) ρ) fun x => lft (items x) := Eq.trans rfl rfl
@[simp] theorem evi_comp {elt it : IR} {tg : Tg} {ifs : List IR} {vs : List Nat} : evi (.comp elt tg it ifs vs) ρ = bnd (ev (.comp elt tg it ifs vs) ρ) fun x => lft (items x) := Eq.trans rfl rfl
/-! ### statements -/
@[simp] theorem stp_ret {α : Type} (v : α) (k : α → M Fl) : stp ρ (ret v) k = k v := Eq.trans rfl rfl
@[simp] theorem stp_raz {α : Type} (c : Str) (k : α → M Fl) : stp ρ (raz c : M α) k = ret (.ex c ρ) := Eq.trans rfl rfl
@[simp] theorem sq_nx {ρ' : Ss.Env} {k : Ss.Env → M Fl} : sq (ret (.nx ρ')) k = k ρ' := Eq.trans rfl rfl
@[simp] theorem sq_ct {ρ' : Ss.Env} {k : Ss.Env → M Fl} : sq (ret (.ct ρ')) k = ret (.ct ρ') := Eq.trans rfl rfl
@[simp] theorem fq_nx {ρ' : Ss.Env} {k : Ss.Env → M Fl} : fq (ret (.nx ρ')) k = k ρ' := Eq.trans rfl rfl
@[simp] theorem fq_ct {ρ' : Ss.Env} {k : Ss.Env → M Fl} : fq (ret (.ct ρ')) k = k ρ' := Eq.trans rfl rfl
@[simp] theorem fq_rt {k : Ss.Env → M Fl} : fq (ret (.rt d)) k = ret (.rt d) := Eq.trans rfl rfl
@[simp] theorem fq_ex {ρ' : Ss.Env} {k : Ss.Env → M Fl} : fq (ret (.ex x ρ')) k = ret (.ex x ρ') := Eq.trans rfl rfl
@[simp] theorem noCt_nx {ρ' : Ss.Env} : noCt (.nx ρ') = ret (.nx ρ') := Eq.trans rfl rfl
@[simp] theorem noCt_rt : noCt (.rt d) = ret (.rt d) := Eq.trans rfl rfl
@[simp] theorem noCt_ex {ρ' : Ss.Env} : noCt (.ex x ρ') = ret (.ex x ρ') := Eq.trans rfl rfl
@[simp] theorem sq_rt {k : Ss.Env → M Fl} : sq (ret (.rt d)) k = ret (.rt d) := Eq.trans rfl rfl
@[simp] theorem sq_ex {ρ' : Ss.Env} {k : Ss.Env → M Fl} : sq (ret (.ex x ρ')) k = ret (.ex x ρ') := Eq.trans rfl rfl
@[simp] theorem sq_stp {α : Type} {m : M α} {k : α → M Fl} {l : Ss.Env → M Fl} : sq (stp ρ m k) l = stp ρ m fun v => sq (k v) l := by
  funext n; simp only [sq, stp, bnd]
  cases m n <;> rfl
@[simp] theorem sq_bnd {α : Type} {m : M α} {k : α → M Fl} {l : Ss.Env → M Fl} : sq (bnd m k) l = bnd m fun v => sq (k v) l := by
  funext n; simp only [sq, bnd]
  cases m n <;> rfl
@[simp] theorem sq_sq {m : M Fl} {k l : Ss.Env → M Fl} : sq (sq m k) l = sq m fun ρ => sq (k ρ) l := by
  funext n; simp only [sq, bnd]
  cases m n with
  | ok f n' => cases f <;> rfl
  | exc _ _ => rfl
  | bad => rfl
@[simp] theorem fq_stp {α : Type} {m : M α} {k : α → M Fl} {l : Ss.Env → M Fl} : fq (stp ρ m k) l = stp ρ m fun v => fq (k v) l := by
  funext n; simp only [fq, stp, bnd]
  cases m n <;> rfl
@[simp] theorem fq_bnd {α : Type} {m : M α} {k : α → M Fl} {l : Ss.Env → M Fl} : fq (bnd m k) l = bnd m fun v => fq (k v) l := by
  funext n; simp only [fq, bnd]
  cases m n <;> rfl
@[simp] theorem fq_ite {p : Prop} [Decidable p] {m m' : M Fl} {l : Ss.Env → M Fl} : fq (if p then m else m') l = if p then fq m l else fq m' l := by split <;> rfl
@[simp] theorem sq_ite {p : Prop} [Decidable p] {m m' : M Fl} {l : Ss.Env → M Fl} : sq (if p then m else m') l = if p then sq m l else sq m' l := by split <;> rfl
@[simp] theorem stp_bnd {α β : Type} {m : M α} {k : α → M β} {l : β → M Fl} : stp ρ (bnd m k) l = stp ρ m fun v => stp ρ (k v) l := by
  funext n; simp only [stp, bnd]
  cases m n <;> rfl
@[simp] theorem stp_ite {α : Type} {p : Prop} [Decidable p] {m m' : M α} {l : α → M Fl} : stp ρ (if p then m else m') l = if p then stp ρ m l else stp ρ m' l := by split <;> rfl
@[simp] theorem bnd_bnd {α β γ : Type} (m : M α) (k : α → M β) (l : β → M γ) : bnd (bnd m k) l = bnd m fun a => bnd (k a) l := bnd_assoc m k l
@[simp] theorem bnd_ite {α β : Type} {p : Prop} [Decidable p] {m m' : M α} {l : α → M β} : bnd (if p then m else m') l = if p then bnd m l else bnd m' l := by split <;> rfl
theorem sq_id (m : M Fl) : sq m (fun ρ => ret (.nx ρ)) = m := by
  funext n
  simp only [sq, bnd]
  cases m n with
  | ok f n' => cases f <;> rfl
  | exc _ _ => rfl
  | bad => rfl
@[simp] theorem exs_nil : exs [] ρ = ret (.nx ρ) := by simp only [exs]
theorem exs_cons {s : Stm} {ss : List Stm} : exs (s :: ss) ρ = sq (ex s ρ) fun ρ' => exs ss ρ' := by simp only [exs]
@[simp] theorem exs_one {s : Stm} : exs [s] ρ = ex s ρ := by
  rw [exs_cons]
  have e : (fun ρ' => exs [] ρ') = fun ρ' : Ss.Env => ret (.nx ρ') := funext fun ρ' => exs_nil
  rw [e, sq_id]
@[simp] theorem exs_cons2 {s t : Stm} {ss : List Stm} : exs (s :: t :: ss) ρ = sq (ex s ρ) fun ρ' => exs (t :: ss) ρ' := exs_cons
@[simp] theorem ex_set {tg : Tg} : ex (.set tg e) ρ = stp ρ (ev e ρ) fun d => bnd (lft (tg.put d ρ)) fun ρ' => ret (.nx ρ') := by simp only [ex]
def setoM (ρ : Ss.Env) (i : Nat) (d : D) : M Fl := match d with
    | .lst xs => ret (.nx (ρ.set i (.own xs)))
    | _ => bad
@[simp] theorem setoM_lst {xs : List D} : setoM ρ i (.lst xs) = ret (.nx (ρ.set i (.own xs))) := Eq.trans rfl rfl
@[simp] theorem ex_seto : ex (.seto i e) ρ = stp ρ (ev e ρ) (setoM ρ i) := by simp only [ex]; rfl
@[simp] theorem ex_app : ex (.app i e) ρ = bnd (lft (getO ρ i)) fun xs => stp ρ (ev e ρ) fun d => if xs.length < sizeLine then ret (.nx (ρ.set i (.own (xs ++ [d])))) else bad := by simp only [ex]
def remM (ρ : Ss.Env) (i : Nat) (ns : List Int) (d : D) : M Fl := match d with
    | .int k => if ns.contains k then ret (.nx (ρ.set i (.own ((ns.erase k).map D.int)))) else bad
    | _ => bad
theorem remM_int {ns : List Int} {k : Int} : remM ρ i ns (.int k) = if ns.contains k then ret (.nx (ρ.set i (.own ((ns.erase k).map D.int)))) else bad := rfl
@[simp] theorem ex_rem : ex (.rem i e) ρ = bnd (lft (getO ρ i)) fun xs => bnd (lft (nums xs)) fun ns => stp ρ (ev e ρ) (remM ρ i ns) := by simp only [ex]; rfl
@[simp] theorem ex_exp : ex (.exp e) ρ = stp ρ (ev e ρ) fun _ => ret (.nx ρ) := by simp only [ex]
@[simp] theorem ex_ifs {p q : List Stm} : ex (.ifs c p q) ρ = stp ρ (truM (ev c ρ)) fun k => if k then exs p ρ else exs q ρ := by simp only [ex]
@[simp] theorem truM_bnd {α : Type} {m : M α} {k : α → M D} : truM (bnd m k) = bnd m fun v => truM (k v) := by
  unfold truM; rw [bnd_assoc]
@[simp] theorem truM_ret : truM (ret d) = lft (tru d) := Eq.trans rfl rfl
@[simp] theorem truM_raz : truM (raz x) = raz x := Eq.trans rfl rfl
@[simp] theorem truM_lft {o : Option D} : truM (lft o) = lft (o.bind tru) := by cases o <;> rfl
theorem truM_ite {p : Prop} [Decidable p] {m m' : M D} : truM (if p then m else m') = if p then truM m else truM m' := by split <;> rfl
def forB (tg : Tg) (body : List Stm) (ds : List D) (ρ : Ss.Env) : M Fl := fors (fun d ρ => bnd (lft (tg.put d ρ)) fun ρ' => exs body ρ') ds ρ
@[simp] theorem ex_for {tg : Tg} {body : List Stm} : ex (.for tg e body) ρ = stp ρ (evi e ρ) fun ds => forB tg body ds ρ := by simp only [ex]; rfl
@[simp] theorem ex_ret : ex (.ret e) ρ = stp ρ (ev e ρ) fun d => ret (.rt d) := by simp only [ex]
@[simp] theorem ex_rai : ex (.rai x) ρ = ret (.ex x ρ) := by simp only [ex]
@[simp] theorem ex_sx {x : Sx} : ex (.sx x es) ρ = stp ρ (bnd (evs es ρ) x.sem) fun _ => ret (.nx ρ) := by simp only [ex]
@[simp] theorem ex_cnt : ex .cnt ρ = ret (.ct ρ) := by simp only [ex]
@[simp] theorem ex_fzo : ex (.fzo i) ρ = frzM (getD ρ i) fun d => ret (.nx (ρ.set i (.dat d))) := by simp only [ex]
@[simp] theorem ex_tryV {p : List Stm} {j : Nat} : ex (.tryV p x i j) ρ = bnd (exs p ρ) (caught x fun e ρ' => if i < ρ'.length then ret (.nx ((ρ'.set j (.dat (.exn e))).set i .emp)) else bad) := by simp only [ex]
@[simp] theorem ex_tryK {p : List Stm} {j : Nat} : ex (.tryK p x j d) ρ = bnd (exs p ρ) (caught x fun _ ρ' => ret (.nx (ρ'.set j (.dat d)))) := by simp only [ex]
@[simp] theorem ex_pas : ex .pas ρ = ret (.nx ρ) := by simp only [ex]
@[simp] theorem ex_frz : ex (.frz i) ρ = bnd (lft (getO ρ i)) fun xs => ret (.nx (ρ.set i (.dat (.lst xs)))) := by simp only [ex]
@[simp] theorem ex_whl {m : Nat} {b : List Stm} : ex (.whl m c b) ρ = whls (fun ρ => truM (ev c ρ)) (fun ρ => exs b ρ) m ρ := by simp only [ex]
def extM (ρ : Ss.Env) (i : Nat) (xs : List D) (d : D) : M Fl := match d with
    | .lst ys => if xs.length + ys.length ≤ sizeLine then ret (.nx (ρ.set i (.own (xs ++ ys)))) else bad
    | _ => bad
theorem extM_lst {xs ys : List D} : extM ρ i xs (.lst ys) = if xs.length + ys.length ≤ sizeLine then ret (.nx (ρ.set i (.own (xs ++ ys)))) else bad := rfl
@[simp] theorem ex_ext : ex (.ext i e) ρ = bnd (lft (getO ρ i)) fun xs => stp ρ (ev e ρ) (extM ρ i xs) := by simp only [ex]; rfl
@[simp] theorem ex_par {j : Nat} : ex (.par i j a b) ρ = stp ρ (ev a ρ) fun x => stp ρ (ev b ρ) fun y => ret (.nx ((ρ.set i (.dat x)).set j (.dat y))) := by
  simp only [ex, evs_cons, evs_nil, stp_bnd, ret_bnd, stp_ret]
@[simp] theorem fors_nil {f : D → Ss.Env → M Fl} : fors f [] ρ = ret (.nx ρ) := Eq.trans rfl rfl
@[simp] theorem fors_cons {f : D → Ss.Env → M Fl} {ds : List D} : fors f (d :: ds) ρ = fq (f d ρ) fun ρ' => fors f ds ρ' := Eq.trans rfl rfl
end
/-! ### slots -/
@[simp] theorem getD_zero {d : D} {ρ : Ss.Env} : getD (.dat d :: ρ) 0 = some d := Eq.trans rfl rfl
@[simp] theorem getD_succ {s : Sl} {ρ : Ss.Env} {i : Nat} : getD (s :: ρ) (i + 1) = getD ρ i := Eq.trans rfl rfl
@[simp] theorem getO_zero {ds : List D} {ρ : Ss.Env} : getO (.own ds :: ρ) 0 = some ds := Eq.trans rfl rfl
@[simp] theorem getO_succ {s : Sl} {ρ : Ss.Env} {i : Nat} : getO (s :: ρ) (i + 1) = getO ρ i := Eq.trans rfl rfl
@[simp] theorem put_one {i : Nat} {d : D} {ρ : Ss.Env} : Tg.put (.one i) d ρ = some (ρ.set i (.dat d)) := Eq.trans rfl rfl
@[simp] theorem put_many {is : List Nat} {ds : List D} {ρ : Ss.Env} : Tg.put (.many is) (.tup ds) ρ = puts ρ is ds := Eq.trans rfl rfl
@[simp] theorem puts_nil {ρ : Ss.Env} : puts ρ [] [] = some ρ := Eq.trans rfl rfl
@[simp] theorem puts_cons {ρ : Ss.Env} {i : Nat} {is : List Nat} {d : D} {ds : List D} : puts ρ (i :: is) (d :: ds) = puts (ρ.set i (.dat d)) is ds := Eq.trans rfl rfl
@[simp] theorem wip_nil {ρ : Ss.Env} : wip ρ [] = ρ := Eq.trans rfl rfl
@[simp] theorem wip_cons {ρ : Ss.Env} {v : Nat} {vs : List Nat} : wip ρ (v :: vs) = (wip ρ vs).set v .emp := Eq.trans rfl rfl
/-! ### data -/
@[simp] theorem neg_int {i : Int} : negD (.int i) = some (.int (-i)) := Eq.trans rfl rfl
@[simp] theorem rev_tup {xs : List D} : revT (.tup xs) = some (.tup xs.reverse) := Eq.trans rfl rfl
@[simp] theorem rev_lst {xs : List D} : revD (.lst xs) = some (.lst xs.reverse) := Eq.trans rfl rfl
@[simp] theorem sizeLine_eq : sizeLine = 16777216 := Eq.trans rfl rfl
@[simp] theorem op_addI {i j : Int} : Op.f .add (.int i) (.int j) = some (.int (i + j)) := Eq.trans rfl rfl
@[simp] theorem op_subI {i j : Int} : Op.f .sub (.int i) (.int j) = some (.int (i - j)) := Eq.trans rfl rfl
theorem op_addL {xs ys : List D} (h : xs.length + ys.length ≤ sizeLine) : Op.f .add (.lst xs) (.lst ys) = some (.lst (xs ++ ys)) := by simp only [Op.f, if_pos h]
theorem op_addT {xs ys : List D} (h : xs.length + ys.length ≤ sizeLine) : Op.f .add (.tup xs) (.tup ys) = some (.tup (xs ++ ys)) := by simp only [Op.f, if_pos h]
@[simp] theorem cm_lt {i j : Int} : Cm.f .lt (.int i) (.int j) = some (decide (i < j)) := Eq.trans rfl rfl
@[simp] theorem cm_le {i j : Int} : Cm.f .le (.int i) (.int j) = some (decide (i ≤ j)) := Eq.trans rfl rfl
@[simp] theorem cm_gt {i j : Int} : Cm.f .gt (.int i) (.int j) = some (decide (j < i)) := Eq.trans rfl rfl
@[simp] theorem cm_ge {i j : Int} : Cm.f .ge (.int i) (.int j) = some (decide (j ≤ i)) := Eq.trans rfl rfl
theorem cm_eq {d e : D} (h : d.okE = true) (h' : e.okE = true) : Cm.f .eq d e = some (D.eqv d e) := by simp only [Cm.f, h, h', Bool.and_self, if_true]
theorem cm_ne {d e : D} (h : d.okE = true) (h' : e.okE = true) : Cm.f .ne d e = some (!D.eqv d e) := by simp only [Cm.f, h, h', Bool.and_self, if_true]
@[simp] theorem cm_inn {d e : D} : Cm.f .inn d e = inD d e := Eq.trans rfl rfl
@[simp] theorem cm_nin {d e : D} : Cm.f .nin d e = (inD d e).map fun b => !b := Eq.trans rfl rfl
@[simp] theorem tru_bl {b : Bool} : tru (.bl b) = some b := Eq.trans rfl rfl
@[simp] theorem tru_lst {xs : List D} : tru (.lst xs) = some (!xs.isEmpty) := Eq.trans rfl rfl
@[simp] theorem tru_tup {xs : List D} : tru (.tup xs) = some (!xs.isEmpty) := Eq.trans rfl rfl
@[simp] theorem tru_scr {xs : List Int} : tru (.scr xs) = some (!xs.isEmpty) := Eq.trans rfl rfl
@[simp] theorem items_lst {xs : List D} : items (.lst xs) = some xs := Eq.trans rfl rfl
@[simp] theorem items_tup {xs : List D} : items (.tup xs) = some xs := Eq.trans rfl rfl
@[simp] theorem len_lst {xs : List D} : Bi.f .len [.lst xs] = some (.int xs.length) := Eq.trans rfl rfl
@[simp] theorem len_tup {xs : List D} : Bi.f .len [.tup xs] = some (.int xs.length) := Eq.trans rfl rfl
@[simp] theorem len_scr {xs : List Int} : Bi.f .len [.scr xs] = some (.int xs.length) := Eq.trans rfl rfl
@[simp] theorem bi_list {xs : List D} : Bi.f .list [.lst xs] = some (.lst xs) := Eq.trans rfl rfl
@[simp] theorem bi_tuple {xs : List D} : Bi.f .tuple [.lst xs] = some (.tup xs) := Eq.trans rfl rfl
@[simp] theorem bi_intB {b : Bool} : Bi.f .int [.bl b] = some (.int (if b then 1 else 0)) := Eq.trans rfl rfl
@[simp] theorem bi_max2 {i j : Int} : Bi.f .max2 [.int i, .int j] = some (.int (if j > i then j else i)) := Eq.trans rfl rfl
@[simp] theorem part_int {i : Int} : part (.int i) = some (some i) := Eq.trans rfl rfl
@[simp] theorem cut_lst {xs : List D} {lo hi : Option Int} : cutD (.lst xs) lo hi = some (.lst (cutL xs lo hi)) := Eq.trans rfl rfl
@[simp] theorem cut_tup {xs : List D} {lo hi : Option Int} : cutD (.tup xs) lo hi = some (.tup (cutL xs lo hi)) := Eq.trans rfl rfl
@[simp] theorem idx_lst {xs : List D} {i : Int} : idxD (.lst xs) (.int i) = atI xs i := Eq.trans rfl rfl
@[simp] theorem idx_tup {xs : List D} {i : Int} : idxD (.tup xs) (.int i) = atI xs i := Eq.trans rfl rfl
@[simp] theorem idx_scr {xs : List Int} {i : Int} : idxD (.scr xs) (.int i) = (atI xs i).map D.int := Eq.trans rfl rfl
theorem atI_nat {α : Type} (xs : List α) (k : Nat) : atI xs (k : Int) = xs[k]? := by
  unfold atI
  by_cases h : k < xs.length
  · have e : ixN xs.length (k : Int) = some k := by
      unfold ixN
      simp
      omega
    rw [e]; rfl
  · rw [List.getElem?_eq_none (by omega)]
    cases q : ixN xs.length (k : Int) with
    | none => rfl
    | some j =>
      exfalso
      revert q
      unfold ixN
      simp
      omega
@[simp] theorem atI_zero {α : Type} (x : α) (xs : List α) : atI (x :: xs) 0 = some x := atI_nat (x :: xs) 0
@[simp] theorem atI_one {α : Type} (x y : α) (xs : List α) : atI (x :: y :: xs) 1 = some y := atI_nat (x :: y :: xs) 1
@[simp] theorem atI_two {α : Type} (x y z : α) (xs : List α) : atI (x :: y :: z :: xs) 2 = some z := atI_nat (x :: y :: z :: xs) 2
theorem rngD_nat (n : Nat) (h : n ≤ 16777216) : rngD [.int (n : Int)] = some ((List.range n).map fun (k : Nat) => D.int k) := by
  have e : (-(2 ^ 62) ≤ (n : Int)) ∧ (n : Int) ≤ 16777216 := ⟨by omega, by omega⟩
  simp only [rngD, if_pos e, rngL]
  simp
/-! ### comprehensions -/
@[simp] theorem lcs_nil {f : D → M (Option D)} : lcs f [] = ret [] := Eq.trans rfl rfl
theorem lcs_ret {α : Type} {f : D → M (Option D)} {em : α → D} {g : α → Option D} : ∀ {xs : List α}, (∀ x ∈ xs, f (em x) = ret (g x)) → lcs f (xs.map em) = ret (xs.filterMap g)
  | [], _ => rfl
  | x :: xs, h => by
    simp only [List.map_cons, lcs]
    rw [h x (List.mem_cons_self), lcs_ret fun y hy => h y (List.mem_cons_of_mem _ hy)]
    simp only [sup_ret, ret_bnd]
    rw [List.filterMap_cons]
    cases g x <;> rfl
theorem lcs_map {α : Type} {f : D → M (Option D)} {em : α → D} {g : α → D} {xs : List α} (h : ∀ x ∈ xs, f (em x) = ret (some (g x))) : lcs f (xs.map em) = ret (xs.map g) := by
  rw [lcs_ret (g := fun x => some (g x)) h]
  congr 1
  induction xs with
  | nil => rfl
  | cons x xs ih => rw [List.filterMap_cons]; simp only [List.map_cons]; rw [ih fun y hy => h y (List.mem_cons_of_mem _ hy)]
theorem lcs_filter {α : Type} {f : D → M (Option D)} {em : α → D} {p : α → Bool} {g : α → D} {xs : List α} (h : ∀ x ∈ xs, f (em x) = ret (if p x then some (g x) else none)) : lcs f (xs.map em) = ret ((xs.filter p).map g) := by
  rw [lcs_ret h]
  congr 1
  clear h
  induction xs with
  | nil => rfl
  | cons x xs ih =>
    rw [List.filterMap_cons, List.filter_cons, ih]
    cases p x <;> rfl
/-! ### loops without draws -/
theorem fors_ret {α : Type} {f : D → Ss.Env → M Fl} {em : α → D} {σ : Type} {en : σ → Ss.Env} {st : σ → α → σ} : ∀ {xs : List α} {s : σ}, (∀ s, ∀ x ∈ xs, f (em x) (en s) = ret (.nx (en (st s x)))) → fors f (xs.map em) (en s) = ret (.nx (en (xs.foldl st s)))
  | [], _, _ => rfl
  | x :: xs, s, h => by
    simp only [List.map_cons, fors_cons, List.foldl_cons]
    rw [h s x List.mem_cons_self, fq_nx]
    exact fors_ret fun s y hy => h s y (List.mem_cons_of_mem _ hy)
theorem forB_ret {α : Type} {tg : Tg} {body : List Stm} {em : α → D} {σ : Type} {en : σ → Ss.Env} {st : σ → α → σ} {xs : List α} {s : σ} (h : ∀ s, ∀ x ∈ xs, (bnd (lft (tg.put (em x) (en s))) fun ρ' => exs body ρ') = ret (.nx (en (st s x)))) : forB tg body (xs.map em) (en s) = ret (.nx (en (xs.foldl st s))) := fors_ret h
/-- the same, with what holds at every turn -/
theorem forB_inv {α : Type} {tg : Tg} {body : List Stm} {em : α → D} {σ : Type} {en : σ → Ss.Env} {st : σ → α → σ} {I : σ → Prop} : ∀ {xs : List α} {s : σ}, I s → (∀ s, I s → ∀ x ∈ xs, I (st s x) ∧ (bnd (lft (tg.put (em x) (en s))) fun ρ' => exs body ρ') = ret (.nx (en (st s x)))) → forB tg body (xs.map em) (en s) = ret (.nx (en (xs.foldl st s))) ∧ I (xs.foldl st s)
  | [], _, i, _ => ⟨rfl, i⟩
  | x :: xs, s, i, h => by
    obtain ⟨j, e⟩ := h s i x List.mem_cons_self
    obtain ⟨f, k⟩ := forB_inv (xs := xs) j fun s i y hy => h s i y (List.mem_cons_of_mem _ hy)
    refine ⟨?_, k⟩
    unfold forB at f ⊢
    simp only [List.map_cons, fors_cons, List.foldl_cons]
    rw [e, fq_nx]
    exact f
/-- the same, by the turn's number -/
theorem forB_ix {α : Type} {tg : Tg} {body : List Stm} {em : α → D} {σ : Type} {en : σ → Ss.Env} {st : σ → α → σ} {I : Nat → σ → Prop} : ∀ {xs : List α} {n : Nat} {s : σ}, I n s → (∀ (i : Nat) (s : σ) (x : α), xs[i]? = some x → I (n + i) s → I (n + i + 1) (st s x) ∧ (bnd (lft (tg.put (em x) (en s))) fun ρ' => exs body ρ') = ret (.nx (en (st s x)))) → forB tg body (xs.map em) (en s) = ret (.nx (en (xs.foldl st s))) ∧ I (n + xs.length) (xs.foldl st s)
  | [], _, _, i, _ => ⟨rfl, i⟩
  | x :: xs, n, s, i, h => by
    obtain ⟨j, e⟩ := h 0 s x rfl i
    obtain ⟨f, k⟩ := forB_ix (xs := xs) (n := n + 1) j fun i s y hy q => by
      have z := h (i + 1) s y hy (by rw [show n + (i + 1) = n + 1 + i by omega]; exact q)
      rw [show n + (i + 1) + 1 = n + 1 + i + 1 by omega] at z
      exact z
    rw [show n + (x :: xs).length = n + 1 + xs.length by simp only [List.length_cons]; omega]
    refine ⟨?_, k⟩
    unfold forB at f ⊢
    simp only [List.map_cons, fors_cons, List.foldl_cons]
    rw [e, fq_nx]
    exact f
/-! ### defs -/
theorem runF_rt {m : Nat} {b : List Stm} {ds : List D} {d : D} (h : exs b (ds.map Sl.dat ++ List.replicate (m - ds.length) Sl.emp) = ret (.rt d)) : runF m b ds = ret d := by
  funext n; unfold runF; rw [h]; rfl
theorem runF_nx {m : Nat} {b : List Stm} {ds : List D} {ρ : Ss.Env} (h : exs b (ds.map Sl.dat ++ List.replicate (m - ds.length) Sl.emp) = ret (.nx ρ)) : runF m b ds = ret .non := by
  funext n; unfold runF; rw [h]; rfl
theorem runF_ex {m : Nat} {b : List Stm} {ds : List D} {ρ : Ss.Env} {c : Str} (h : exs b (ds.map Sl.dat ++ List.replicate (m - ds.length) Sl.emp) = ret (.ex c ρ)) : runF m b ds = raz c := by
  funext n; unfold runF; rw [h]; rfl
inductive All2 {α β : Type} (P : α → β → Prop) : List α → List β → Prop where
  | nil : All2 P [] []
  | cons {x : α} {y : β} {xs : List α} {ys : List β} : P x y → All2 P xs ys → All2 P (x :: xs) (y :: ys)
theorem All2.len {α β : Type} {P : α → β → Prop} {xs : List α} {ys : List β} (h : All2 P xs ys) : ys.length = xs.length := by
  induction h with
  | nil => rfl
  | cons _ _ ih => simp only [List.length_cons, ih]
theorem All2.get {α β : Type} {P : α → β → Prop} {xs : List α} {ys : List β} (h : All2 P xs ys) {y : β} (hy : y ∈ ys) : ∃ x ∈ xs, P x y := by
  induction h with
  | nil => cases hy
  | cons p _ ih =>
    rcases List.mem_cons.mp hy with rfl | z
    · exact ⟨_, List.mem_cons_self, p⟩
    · obtain ⟨x, hx, q⟩ := ih z
      exact ⟨x, List.mem_cons_of_mem _ hx, q⟩
theorem All2.nth {α β : Type} {P : α → β → Prop} {xs : List α} {ys : List β} (h : All2 P xs ys) : ∀ (k : Nat) (h1 : k < xs.length) (h2 : k < ys.length), P xs[k] ys[k] := by
  induction h with
  | nil => intro k h1; exact absurd h1 (Nat.not_lt_zero _)
  | cons p _ ih =>
    intro k h1 h2
    cases k with
    | zero => exact p
    | succ k => exact ih k (by simpa using h1) (by simpa using h2)
/-- the things come from values of a type of one's own -/
theorem All2.back {α β γ : Type} {em : γ → β} {P : α → γ → Prop} {xs : List α} {ys : List β} (h : All2 (fun x y => ∃ z, y = em z ∧ P x z) xs ys) : ∃ zs, ys = zs.map em ∧ All2 P xs zs := by
  induction h with
  | nil => exact ⟨[], rfl, .nil⟩
  | cons p _ ih =>
    obtain ⟨z, rfl, q⟩ := p
    obtain ⟨zs, rfl, r⟩ := ih
    exact ⟨z :: zs, rfl, .cons q r⟩
/-! ### with draws: at most c more, and what comes is P -/
def Hs {α : Type} (m : M α) (c : Nat) (P : α → Prop) : Prop := ∀ (n : Nat) (os : List Ob), n + c ≤ 16777216 → ∃ a n', m ⟨n, os⟩ = .ok a ⟨n', os⟩ ∧ n' ≤ n + c ∧ P a
section
variable {α β : Type} {m : M α} {k : α → M β} {c c1 c2 : Nat} {P : α → Prop} {Q : β → Prop}
theorem Hs.ret {a : α} (h : P a) : Hs (ret a) c P := fun n _ _ => ⟨a, n, rfl, by omega, h⟩
theorem Hs.of {a : α} (e : m = Ss.ret a) (h : P a) : Hs m c P := by rw [e]; exact Hs.ret h
theorem Hs.imp {P' : α → Prop} (x : Hs m c P) (hc : c ≤ c1) (h : ∀ a, P a → P' a) : Hs m c1 P' := fun n os hn => by
  obtain ⟨a, n', e, l, p⟩ := x n os (by omega)
  exact ⟨a, n', e, by omega, h a p⟩
theorem Hs.bnd (x : Hs m c1 P) (y : ∀ a, P a → Hs (k a) c2 Q) (hc : c1 + c2 ≤ c := by omega) : Hs (Ss.bnd m k) c Q := fun n os hn => by
  obtain ⟨a, n', e, l, p⟩ := x n os (by omega)
  obtain ⟨b, n'', e', l', q⟩ := y a p n' os (by omega)
  exact ⟨b, n'', by rw [bnd_ok e, e'], by omega, q⟩
theorem Hs.stp {ρ : Ss.Env} {k : α → M Fl} {Q : Fl → Prop} (x : Hs m c1 P) (y : ∀ a, P a → Hs (k a) c2 Q) (hc : c1 + c2 ≤ c := by omega) : Hs (Ss.stp ρ m k) c Q := fun n os hn => by
  obtain ⟨a, n', e, l, p⟩ := x n os (by omega)
  obtain ⟨b, n'', e', l', q⟩ := y a p n' os (by omega)
  exact ⟨b, n'', by simp only [Ss.stp, e, e'], by omega, q⟩
theorem Hs.sq {m : M Fl} {k : Ss.Env → M Fl} {P : Ss.Env → Prop} {Q : Fl → Prop} (x : Hs m c1 fun f => ∃ ρ, f = .nx ρ ∧ P ρ) (y : ∀ ρ, P ρ → Hs (k ρ) c2 Q) (hc : c1 + c2 ≤ c := by omega) : Hs (Ss.sq m k) c Q := fun n os hn => by
  obtain ⟨a, n', e, l, ρ, rfl, p⟩ := x n os (by omega)
  obtain ⟨b, n'', e', l', q⟩ := y ρ p n' os (by omega)
  exact ⟨b, n'', by simp only [Ss.sq, Ss.bnd, e, e'], by omega, q⟩
theorem Hs.runF {s : Nat} {b : List Stm} {ds : List D} {P : D → Prop} (x : Hs (exs b (ds.map Sl.dat ++ List.replicate (s - ds.length) Sl.emp)) c fun f => ∃ d, f = .rt d ∧ P d) : Hs (Ss.runF s b ds) c P := fun n os hn => by
  obtain ⟨a, n', e, l, d, rfl, p⟩ := x n os hn
  exact ⟨d, n', by simp only [Ss.runF, e], l, p⟩
theorem Hs.sup {m : M α} (x : Hs m c P) : Hs (Ss.sup m) c P := fun n os hn => by
  obtain ⟨a, n', e, l, p⟩ := x n os hn
  exact ⟨a, n', by simp only [Ss.sup, e], l, p⟩
theorem Hs.fq {m : M Fl} {k : Ss.Env → M Fl} {P : Ss.Env → Prop} {Q : Fl → Prop} (x : Hs m c1 fun f => ∃ ρ, f = .nx ρ ∧ P ρ) (y : ∀ ρ, P ρ → Hs (k ρ) c2 Q) (hc : c1 + c2 ≤ c := by omega) : Hs (Ss.fq m k) c Q := fun n os hn => by
  obtain ⟨a, n', e, l, ρ, rfl, p⟩ := x n os (by omega)
  obtain ⟨b, n'', e', l', q⟩ := y ρ p n' os (by omega)
  exact ⟨b, n'', by simp only [Ss.fq, Ss.bnd, e, e'], by omega, q⟩
/-- a comprehension that keeps every turn -/
theorem Hs.lcs {γ : Type} {em : γ → D} {f : D → M (Option D)} {P : γ → D → Prop} : ∀ {xs : List γ} {c : Nat}, (∀ x ∈ xs, Hs (f (em x)) c1 fun o => ∃ d, o = some d ∧ P x d) → xs.length * c1 ≤ c → Hs (Ss.lcs f (xs.map em)) c fun ds => All2 P xs ds
  | [], c, _, _ => Hs.ret .nil
  | x :: xs, c, h, hc => by
    have hc' : xs.length * c1 + c1 ≤ c := by
      rw [List.length_cons, Nat.add_mul] at hc; omega
    simp only [List.map_cons, Ss.lcs]
    refine Hs.bnd (c2 := xs.length * c1) (h x List.mem_cons_self).sup (fun o ho => ?_) (by omega)
    obtain ⟨d, rfl, p⟩ := ho
    refine Hs.bnd (c2 := 0) (Hs.lcs (c := xs.length * c1) (fun y hy => h y (List.mem_cons_of_mem _ hy)) (Nat.le_refl _)) (fun ds q => ?_) (by omega)
    exact Hs.ret (.cons p q)
end
end Ss
/-! Ss, part V: values, rows, columns, tables: the law's world in types of our own. -/
namespace Ss
open PySem L2
inductive Val where
  | non | int (i : Int) | str (x : Str)
  deriving DecidableEq
def Val.d : Val → D
  | .non => .non
  | .int i => .int i
  | .str x => .str x
abbrev Row := List Val
def rowD (r : Row) : D := .tup (r.map Val.d)
def Val.wf : Val → Bool
  | .str x => PyData.strOk x
  | _ => true
def rowW (r : Row) : Bool := r.all Val.wf
theorem val_pl {v : Val} (h : v.wf = true) : v.d.pl = true := by
  cases v <;> simp only [Val.d, D.pl]
  exact h
theorem val_dep (v : Val) : v.d.dep = 0 := by cases v <;> rfl
theorem val_eqv (v w : Val) : D.eqv v.d w.d = decide (v = w) := by
  cases v <;> cases w <;> simp [Val.d, D.eqv, Bool.beq_eq_decide_eq]
theorem pls_all {α : Type} {f : α → D} {xs : List α} (h : ∀ x ∈ xs, (f x).pl = true) : D.pls (xs.map f) = true := by
  induction xs with
  | nil => simp only [List.map_nil, D.pls]
  | cons x xs ih =>
    simp only [List.map_cons, D.pls, h x List.mem_cons_self, ih fun y hy => h y (List.mem_cons_of_mem _ hy), Bool.and_self]
theorem deps_all {α : Type} {f : α → D} {xs : List α} {n : Nat} (h : ∀ x ∈ xs, (f x).dep ≤ n) : D.deps (xs.map f) ≤ n := by
  induction xs with
  | nil => simp only [List.map_nil, D.deps]; omega
  | cons x xs ih =>
    simp only [List.map_cons, D.deps]
    have h1 := h x List.mem_cons_self
    have h2 := ih fun y hy => h y (List.mem_cons_of_mem _ hy)
    omega
theorem eqvs_map {α : Type} [DecidableEq α] {f : α → D} (h : ∀ x y, D.eqv (f x) (f y) = decide (x = y)) : ∀ xs ys : List α, D.eqvs (xs.map f) (ys.map f) = decide (xs = ys)
  | [], [] => by simp [D.eqvs]
  | [], _ :: _ => by simp [D.eqvs]
  | _ :: _, [] => by simp [D.eqvs]
  | x :: xs, y :: ys => by
    simp only [List.map_cons, D.eqvs, h, eqvs_map h xs ys]
    by_cases a : x = y <;> by_cases b : xs = ys <;> simp [a, b]
theorem row_eqv (r s : Row) : D.eqv (rowD r) (rowD s) = decide (r = s) := by
  simp only [rowD, D.eqv]
  exact eqvs_map val_eqv r s
theorem row_dep (r : Row) : (rowD r).dep ≤ 1 := by
  simp only [rowD, D.dep]
  have h : D.deps (r.map Val.d) ≤ 0 := deps_all fun x _ => by rw [val_dep]; omega
  omega
theorem row_pl {r : Row} (h : rowW r = true) : (rowD r).pl = true := by
  simp only [rowD, D.pl]
  exact pls_all fun v hv => val_pl (List.all_eq_true.mp h v hv)
theorem okE_of {d : D} (h : d.pl = true) (h' : d.dep ≤ 60) : d.okE = true := by
  simp only [D.okE, h, Bool.true_and]
  exact decide_eq_true h'
theorem row_okE {r : Row} (h : rowW r = true) : (rowD r).okE = true := okE_of (row_pl h) (by have := row_dep r; omega)
def rowsD (rs : List Row) : D := .lst (rs.map rowD)
theorem rows_okE {rs : List Row} (h : ∀ r ∈ rs, rowW r = true) : (rowsD rs).okE = true := by
  refine okE_of ?_ ?_
  · simp only [rowsD, D.pl]; exact pls_all fun r hr => row_pl (h r hr)
  · simp only [rowsD, D.dep]
    have h : D.deps (rs.map rowD) ≤ 1 := deps_all fun r _ => row_dep r
    omega
/-! numbers -/
def natD (k : Nat) : D := .int k
def natsD (ks : List Nat) : D := .lst (ks.map natD)
theorem nat_eqv (j k : Nat) : D.eqv (natD j) (natD k) = decide (j = k) := by
  simp only [natD, D.eqv, Bool.beq_eq_decide_eq, Int.natCast_inj]
theorem nats_eqv (js ks : List Nat) : D.eqv (natsD js) (natsD ks) = decide (js = ks) := by
  simp only [natsD, D.eqv]
  exact eqvs_map nat_eqv js ks
theorem nats_pl (ks : List Nat) : (natsD ks).pl = true := by
  simp only [natsD, D.pl]; exact pls_all fun k _ => by simp only [natD, D.pl]
theorem nats_dep (ks : List Nat) : (natsD ks).dep ≤ 1 := by
  simp only [natsD, D.dep]
  have h : D.deps (ks.map natD) ≤ 0 := deps_all fun k _ => by simp only [natD, D.dep]; omega
  omega
theorem nats_okE (ks : List Nat) : (natsD ks).okE = true := okE_of (nats_pl ks) (by have := nats_dep ks; omega)
theorem nat_okE (k : Nat) : (natD k).okE = true := okE_of (by simp only [natD, D.pl]) (by simp only [natD, D.dep]; omega)
theorem int_okE (k : Int) : (D.int k).okE = true := okE_of (by simp only [D.pl]) (by simp only [D.dep]; omega)
theorem any_eqv {α : Type} [DecidableEq α] {f : α → D} (h : ∀ x y, D.eqv (f x) (f y) = decide (x = y)) (x : α) (xs : List α) : ((xs.map f).any fun z => D.eqv z (f x)) = decide (x ∈ xs) := by
  induction xs with
  | nil => simp
  | cons y ys ih =>
    simp only [List.map_cons, List.any_cons, h, ih, List.mem_cons]
    by_cases a : y = x
    · simp [a]
    · have b : ¬ x = y := fun z => a z.symm
      simp [a, b]
theorem in_nats (j : Nat) (ks : List Nat) : inD (natD j) (natsD ks) = some (decide (j ∈ ks)) := by
  have h := any_eqv nat_eqv j ks
  have e : inD (natD j) (natsD ks) = if (natD j).okE && (natsD ks).okE then some ((ks.map natD).any fun z => D.eqv z (natD j)) else none := rfl
  rw [e, nat_okE, nats_okE, h]; exact if_pos rfl
theorem in_rows {r : Row} {rs : List Row} (h : rowW r = true) (h' : ∀ r ∈ rs, rowW r = true) : inD (rowD r) (rowsD rs) = some (decide (r ∈ rs)) := by
  have q := any_eqv row_eqv r rs
  have e : inD (rowD r) (rowsD rs) = if (rowD r).okE && (rowsD rs).okE then some ((rs.map rowD).any fun z => D.eqv z (rowD r)) else none := rfl
  rw [e, row_okE h, rows_okE h', q, Bool.and_self, if_pos rfl]; exact congrArg some (decide_eq_decide.mpr Iff.rfl)
theorem cutL_take {α : Type} (xs : List α) (k : Nat) : cutL xs none (some (k : Int)) = xs.take k := by
  unfold cutL
  rw [HT.sIx_none, HT.sIx_nat, List.drop_zero, Nat.sub_zero]
  rcases Nat.le_total k xs.length with h | h
  · rw [Nat.min_eq_left h]
  · rw [Nat.min_eq_right h, List.take_of_length_le (Nat.le_refl _), List.take_of_length_le h]
theorem cutL_drop {α : Type} (xs : List α) (k : Nat) : cutL xs (some (k : Int)) none = xs.drop k := by
  unfold cutL
  rw [HT.sIx_none, HT.sIx_nat]
  rcases Nat.le_total k xs.length with h | h
  · rw [Nat.min_eq_left h]
    exact List.take_of_length_le (by rw [List.length_drop]; omega)
  · rw [Nat.min_eq_right h, Nat.sub_self, List.take_zero, List.drop_eq_nil_of_le h]
theorem op_mul0 (xs : List D) : Op.f .mul (.lst xs) (.int 0) = some (.lst []) := by
  have h : (0 : Int) ≤ 0 ∧ (0 : Int) < 2 ^ 62 ∧ xs.length * (0 : Int).toNat ≤ sizeLine := ⟨by omega, by omega, by simp⟩
  simp only [Op.f, if_pos h]; rfl
theorem op_mul1 (xs : List D) (h : xs.length ≤ 16777216) : Op.f .mul (.lst xs) (.int 1) = some (.lst xs) := by
  have h : (0 : Int) ≤ 1 ∧ (1 : Int) < 2 ^ 62 ∧ xs.length * (1 : Int).toNat ≤ sizeLine := ⟨by omega, by omega, by simpa using h⟩
  simp only [Op.f, if_pos h]; simp
/-- xs * int(b) -/
theorem op_mulB (xs : List D) (b : Bool) (h : xs.length ≤ 16777216) : Op.f .mul (.lst xs) (.int (if b then 1 else 0)) = some (.lst (if b then xs else [])) := by
  cases b
  · exact op_mul0 xs
  · exact op_mul1 xs h
theorem nats_nil : natsD [] = .lst [] := rfl
/-! words -/
def small : Str := "abcdefghijklmnopqrstuvwxyz"
def isW (x : Str) : Bool := decide (1 ≤ x.length) && decide (x.length ≤ 8) && x.cps.toList.all fun c => decide (c ∈ small.cps.toList)
theorem small_lt : ∀ c ∈ small.cps.toList, c < 0x110000 := by decide +kernel
theorem isW_strOk {x : Str} (h : isW x = true) : PyData.strOk x = true := by
  unfold PyData.strOk
  simp only [isW, Bool.and_eq_true] at h
  rw [← Array.all_toList]
  refine List.all_eq_true.mpr fun c hc => ?_
  have z := List.all_eq_true.mp h.2 c hc
  exact decide_eq_true (small_lt c (of_decide_eq_true z))
theorem isW_len {x : Str} (h : isW x = true) : 1 ≤ x.length ∧ x.length ≤ 8 := by
  simp only [isW, Bool.and_eq_true, decide_eq_true_eq] at h
  exact h.1
theorem isW_all {x : Str} (h : isW x = true) : ∀ c ∈ x.cps.toList, c ∈ small.cps.toList := fun c hc => by
  simp only [isW, Bool.and_eq_true, decide_eq_true_eq] at h
  exact of_decide_eq_true (List.all_eq_true.mp h.2 c hc)
/-! columns: a name, and whether it is of words -/
structure Col where
  nm : Str
  wd : Bool
  deriving DecidableEq
def kindS (b : Bool) : Str := if b then "word" else "number"
def Col.d (c : Col) : D := .tup [.str c.nm, .str (kindS c.wd)]
def colsD (cs : List Col) : D := .tup (cs.map Col.d)
def tabD (cs : List Col) (rs : List Row) : D := .tup [colsD cs, rowsD rs]
structure ColsOk (cs : List Col) : Prop where
  one : 1 ≤ cs.length
  six : cs.length ≤ 6
  nms : ∀ c ∈ cs, isW c.nm = true
  nd : (cs.map Col.nm).Nodup
def fits (c : Col) : Val → Bool
  | .non => true
  | .int i => !c.wd && decide (-1000000 ≤ i) && decide (i ≤ 1000000)
  | .str x => c.wd && isW x
def RowOk (cs : List Col) (r : Row) : Prop := All2 (fun c v => fits c v = true) cs r
theorem fits_wf {c : Col} {v : Val} (h : fits c v = true) : v.wf = true := by
  cases v <;> simp only [Val.wf]
  simp only [fits, Bool.and_eq_true] at h
  exact isW_strOk h.2
theorem RowOk.wf {cs : List Col} {r : Row} (h : RowOk cs r) : rowW r = true := by
  refine List.all_eq_true.mpr fun v hv => ?_
  obtain ⟨c, _, q⟩ := All2.get h hv
  exact fits_wf q
theorem kindS_ok (b : Bool) : PyData.strOk (kindS b) = true := by cases b <;> decide +kernel
theorem col_pl {c : Col} (h : isW c.nm = true) : c.d.pl = true := by
  simp only [Col.d, D.pl, D.pls, isW_strOk h, kindS_ok, Bool.and_self]
theorem col_dep (c : Col) : c.d.dep ≤ 1 := by simp only [Col.d, D.dep, D.deps]; omega
theorem cols_okE {cs : List Col} (h : ColsOk cs) : (colsD cs).okE = true := by
  refine okE_of ?_ ?_
  · simp only [colsD, D.pl]; exact pls_all fun c hc => col_pl (h.nms c hc)
  · simp only [colsD, D.dep]
    have h : D.deps (cs.map Col.d) ≤ 1 := deps_all fun c _ => col_dep c
    omega
theorem kindS_inj {a b : Bool} (h : kindS a = kindS b) : a = b := by
  cases a <;> cases b <;> first | rfl | (exfalso; revert h; decide +kernel)
theorem col_eqv (a b : Col) : D.eqv a.d b.d = decide (a = b) := by
  obtain ⟨x, p⟩ := a
  obtain ⟨y, q⟩ := b
  simp only [Col.d, D.eqv, D.eqvs, Bool.beq_eq_decide_eq, Bool.and_true]
  by_cases h : x = y
  · by_cases h2 : p = q
    · simp [h, h2]
    · have : kindS p ≠ kindS q := fun z => h2 (kindS_inj z)
      simp [h, h2, this]
  · simp [h]
theorem cols_eqv (as bs : List Col) : D.eqv (colsD as) (colsD bs) = decide (as = bs) := by
  simp only [colsD, D.eqv]
  exact eqvs_map col_eqv as bs
end Ss
/-! The defs of the text in the small language; printed by gen.py. -/
namespace Pg
open PySem Ss
def B_divisor_0 : List Stm := [.par 0 1 (.var 1) (.op .mod (.var 0) (.var 1))]
def I_divisor : List Stm := [.whl 10000000000000000000000000000000000000000 (.var 1) B_divisor_0,
  .ret (.bi .abs [(.var 0)])]
def F_divisor : Fn := ⟨"divisor", 2, runF 2 I_divisor⟩
@[simp] theorem ar_divisor : F_divisor.ar = 2 := Eq.trans rfl rfl
@[simp] theorem nm_divisor : F_divisor.name = "divisor" := Eq.trans rfl rfl
def I_least : List Stm := [.ifs (.cmp .eq (.var 1) (.lit (.int 0))) [.ret (.lit (.non))] [],
  .ifs (.cmp .lt (.var 1) (.lit (.int 0))) [.par 0 1 (.op .sub (.lit (.int 0)) (.var 0)) (.op .sub (.lit (.int 0)) (.var 1))] [],
  .set (.one 2) (.call F_divisor [(.var 0), (.var 1)]),
  .ret (.tup [(.op .fdiv (.var 0) (.var 2)), (.op .fdiv (.var 1) (.var 2))])]
def F_least : Fn := ⟨"least", 2, runF 3 I_least⟩
@[simp] theorem ar_least : F_least.ar = 2 := Eq.trans rfl rfl
@[simp] theorem nm_least : F_least.name = "least" := Eq.trans rfl rfl
def I_is_whole : List Stm := [.ret (.bop true [(.isi .int (.var 0)), (.nt (.isi .bool (.var 0))), (.chain (.var 1) (.var 0) (.var 2))])]
def F_is_whole : Fn := ⟨"is_whole", 3, runF 3 I_is_whole⟩
@[simp] theorem ar_is_whole : F_is_whole.ar = 3 := Eq.trans rfl rfl
@[simp] theorem nm_is_whole : F_is_whole.name = "is_whole" := Eq.trans rfl rfl
def I_is_word : List Stm := [.ret (.bop true [(.isi .str (.var 0)), (.chain (.lit (.int 1)) (.bi .len [(.var 0)]) (.glob "MOST_WORD" (.int 8))), (.bi .all [(.comp (.cmp .inn (.var 1) (.glob "SMALL" (.str "abcdefghijklmnopqrstuvwxyz"))) (.one 1) (.var 0) [] [1])])])]
def F_is_word : Fn := ⟨"is_word", 1, runF 2 I_is_word⟩
@[simp] theorem ar_is_word : F_is_word.ar = 1 := Eq.trans rfl rfl
@[simp] theorem nm_is_word : F_is_word.name = "is_word" := Eq.trans rfl rfl
def I_is_value : List Stm := [.ifs (.isn false (.var 1)) [.ret (.lit (.bl true))] [],
  .ret (.ite (.cmp .eq (.var 0) (.lit (.str "word"))) (.call F_is_word [(.var 1)]) (.call F_is_whole [(.var 1), (.op .sub (.lit (.int 0)) (.glob "MOST_NUMBER" (.int 1000000))), (.glob "MOST_NUMBER" (.int 1000000))]))]
def F_is_value : Fn := ⟨"is_value", 2, runF 2 I_is_value⟩
@[simp] theorem ar_is_value : F_is_value.ar = 2 := Eq.trans rfl rfl
@[simp] theorem nm_is_value : F_is_value.name = "is_value" := Eq.trans rfl rfl
def I_are_columns : List Stm := [.ifs (.bop false [(.nt (.isi .tuple (.var 0))), (.nt (.chain (.lit (.int 1)) (.bi .len [(.var 0)]) (.glob "MOST_COLUMNS" (.int 6))))]) [.ret (.lit (.bl false))] [],
  .ifs (.nt (.bi .all [(.comp (.bop true [(.isi .tuple (.var 1)), (.cmp .eq (.bi .len [(.var 1)]) (.lit (.int 2))), (.call F_is_word [(.idx (.var 1) (.lit (.int 0)))])]) (.one 1) (.var 0) [] [1])])) [.ret (.lit (.bl false))] [],
  .ifs (.nt (.bi .all [(.comp (.bop true [(.isi .str (.idx (.var 1) (.lit (.int 1)))), (.cmp .inn (.idx (.var 1) (.lit (.int 1))) (.glob "KINDS" (.tup [.str "word", .str "number"])))]) (.one 1) (.var 0) [] [1])])) [.ret (.lit (.bl false))] [],
  .ret (.cmp .eq (.lens (.comp (.idx (.var 1) (.lit (.int 0))) (.one 1) (.var 0) [] [1])) (.bi .len [(.var 0)]))]
def F_are_columns : Fn := ⟨"are_columns", 1, runF 2 I_are_columns⟩
@[simp] theorem ar_are_columns : F_are_columns.ar = 1 := Eq.trans rfl rfl
@[simp] theorem nm_are_columns : F_are_columns.name = "are_columns" := Eq.trans rfl rfl
def I_look_columns : List Stm := [.ifs (.nt (.call F_are_columns [(.var 0)])) [.rai "BadTable"] []]
def F_look_columns : Fn := ⟨"look_columns", 1, runF 1 I_look_columns⟩
@[simp] theorem ar_look_columns : F_look_columns.ar = 1 := Eq.trans rfl rfl
@[simp] theorem nm_look_columns : F_look_columns.name = "look_columns" := Eq.trans rfl rfl
def I_look_row : List Stm := [.ifs (.bop false [(.nt (.isi .tuple (.var 1))), (.cmp .ne (.bi .len [(.var 1)]) (.bi .len [(.var 0)]))]) [.rai "BadRow"] [],
  .ifs (.nt (.bi .all [(.comp (.call F_is_value [(.idx (.idx (.var 0) (.var 2)) (.lit (.int 1))), (.idx (.var 1) (.var 2))]) (.one 2) (.rng [(.bi .len [(.var 1)])]) [] [2])])) [.rai "BadRow"] []]
def F_look_row : Fn := ⟨"look_row", 2, runF 3 I_look_row⟩
@[simp] theorem ar_look_row : F_look_row.ar = 2 := Eq.trans rfl rfl
@[simp] theorem nm_look_row : F_look_row.name = "look_row" := Eq.trans rfl rfl
def I_look_table : List Stm := [.ifs (.bop false [(.nt (.isi .tuple (.var 0))), (.cmp .ne (.bi .len [(.var 0)]) (.lit (.int 2)))]) [.rai "BadTable"] [],
  .exp (.call F_look_columns [(.idx (.var 0) (.lit (.int 0)))]),
  .ifs (.bop false [(.nt (.isi .list (.idx (.var 0) (.lit (.int 1))))), (.cmp .gt (.bi .len [(.idx (.var 0) (.lit (.int 1)))]) (.glob "MOST_ROWS" (.int 24)))]) [.rai "BadTable"] [],
  .for (.one 1) (.idx (.var 0) (.lit (.int 1))) [.exp (.call F_look_row [(.idx (.var 0) (.lit (.int 0))), (.var 1)])]]
def F_look_table : Fn := ⟨"look_table", 1, runF 2 I_look_table⟩
@[simp] theorem ar_look_table : F_look_table.ar = 1 := Eq.trans rfl rfl
@[simp] theorem nm_look_table : F_look_table.name = "look_table" := Eq.trans rfl rfl
def I_place_of : List Stm := [.set (.one 2) (.comp (.var 3) (.one 3) (.rng [(.bi .len [(.var 0)])]) [(.cmp .eq (.idx (.idx (.var 0) (.var 3)) (.lit (.int 0))) (.var 1))] [3]),
  .ret (.ite (.var 2) (.idx (.var 2) (.lit (.int 0))) (.lit (.non)))]
def F_place_of : Fn := ⟨"place_of", 2, runF 4 I_place_of⟩
@[simp] theorem ar_place_of : F_place_of.ar = 2 := Eq.trans rfl rfl
@[simp] theorem nm_place_of : F_place_of.name = "place_of" := Eq.trans rfl rfl
def I_kind_of : List Stm := [.set (.one 2) (.ite (.call F_is_word [(.var 1)]) (.call F_place_of [(.var 0), (.var 1)]) (.lit (.non))),
  .ret (.ite (.isn false (.var 2)) (.lit (.non)) (.idx (.idx (.var 0) (.var 2)) (.lit (.int 1))))]
def F_kind_of : Fn := ⟨"kind_of", 2, runF 3 I_kind_of⟩
@[simp] theorem ar_kind_of : F_kind_of.ar = 2 := Eq.trans rfl rfl
@[simp] theorem nm_kind_of : F_kind_of.name = "kind_of" := Eq.trans rfl rfl
def I_rank : List Stm := [.ifs (.isn false (.var 0)) [.ret (.tup [(.lit (.int 0)), (.lit (.int 0)), (.lit (.str ""))])] [],
  .ret (.ite (.isi .int (.var 0)) (.tup [(.lit (.int 1)), (.var 0), (.lit (.str ""))]) (.tup [(.lit (.int 1)), (.lit (.int 0)), (.var 0)]))]
def F_rank : Fn := ⟨"rank", 1, runF 1 I_rank⟩
@[simp] theorem ar_rank : F_rank.ar = 1 := Eq.trans rfl rfl
@[simp] theorem nm_rank : F_rank.name = "rank" := Eq.trans rfl rfl
def I_ranked : List Stm := [.ret (.comp (.call F_rank [(.var 1)]) (.one 1) (.var 0) [] [1])]
def F_ranked : Fn := ⟨"ranked", 1, runF 2 I_ranked⟩
@[simp] theorem ar_ranked : F_ranked.ar = 1 := Eq.trans rfl rfl
@[simp] theorem nm_ranked : F_ranked.name = "ranked" := Eq.trans rfl rfl
def I_is_key : List Stm := [.ifs (.isi .str (.var 1)) [.ret (.isn true (.call F_kind_of [(.var 0), (.var 1)]))] [],
  .ifs (.bop false [(.nt (.isi .tuple (.var 1))), (.cmp .ne (.bi .len [(.var 1)]) (.lit (.int 3))), (.nt (.isi .str (.idx (.var 1) (.lit (.int 0)))))]) [.ret (.lit (.bl false))] [],
  .ifs (.cmp .eq (.idx (.var 1) (.lit (.int 0))) (.lit (.str "band"))) [.ret (.bop true [(.cmp .eq (.call F_kind_of [(.var 0), (.idx (.var 1) (.lit (.int 1)))]) (.lit (.str "number"))), (.call F_is_whole [(.idx (.var 1) (.lit (.int 2))), (.lit (.int 1)), (.glob "MOST_NUMBER" (.int 1000000))])])] [],
  .ret (.bop true [(.cmp .eq (.idx (.var 1) (.lit (.int 0))) (.lit (.str "first"))), (.cmp .eq (.call F_kind_of [(.var 0), (.idx (.var 1) (.lit (.int 1)))]) (.lit (.str "word"))), (.call F_is_whole [(.idx (.var 1) (.lit (.int 2))), (.lit (.int 1)), (.glob "MOST_WORD" (.int 8))])])]
def F_is_key : Fn := ⟨"is_key", 2, runF 2 I_is_key⟩
@[simp] theorem ar_is_key : F_is_key.ar = 2 := Eq.trans rfl rfl
@[simp] theorem nm_is_key : F_is_key.name = "is_key" := Eq.trans rfl rfl
def I_is_sum : List Stm := [.ifs (.bop false [(.nt (.isi .tuple (.var 1))), (.cmp .eq (.bi .len [(.var 1)]) (.lit (.int 0))), (.nt (.isi .str (.idx (.var 1) (.lit (.int 0)))))]) [.ret (.lit (.bl false))] [],
  .ifs (.cmp .eq (.idx (.var 1) (.lit (.int 0))) (.lit (.str "count"))) [.ret (.cmp .eq (.bi .len [(.var 1)]) (.lit (.int 1)))] [],
  .ifs (.cmp .ne (.bi .len [(.var 1)]) (.lit (.int 2))) [.ret (.lit (.bl false))] [],
  .ifs (.bop false [(.cmp .inn (.idx (.var 1) (.lit (.int 0))) (.glob "OF_NUMBERS" (.tup [.str "sum", .str "least", .str "greatest", .str "mean"]))), (.cmp .inn (.idx (.var 1) (.lit (.int 0))) (.glob "SHARES" (.tup [.str "of all", .str "of row", .str "of column"])))]) [.ret (.cmp .eq (.call F_kind_of [(.var 0), (.idx (.var 1) (.lit (.int 1)))]) (.lit (.str "number")))] [],
  .ret (.bop true [(.cmp .inn (.idx (.var 1) (.lit (.int 0))) (.tup [(.lit (.str "unlike")), (.lit (.str "filled"))])), (.isn true (.call F_kind_of [(.var 0), (.idx (.var 1) (.lit (.int 1)))]))])]
def F_is_sum : Fn := ⟨"is_sum", 2, runF 2 I_is_sum⟩
@[simp] theorem ar_is_sum : F_is_sum.ar = 2 := Eq.trans rfl rfl
@[simp] theorem nm_is_sum : F_is_sum.name = "is_sum" := Eq.trans rfl rfl
def I_is_sift : List Stm := [.ifs (.bop false [(.nt (.isi .tuple (.var 1))), (.cmp .eq (.bi .len [(.var 1)]) (.lit (.int 0))), (.nt (.isi .str (.idx (.var 1) (.lit (.int 0)))))]) [.ret (.lit (.bl false))] [],
  .ifs (.cmp .inn (.idx (.var 1) (.lit (.int 0))) (.tup [(.lit (.str "is")), (.lit (.str "not"))])) [.set (.one 2) (.ite (.cmp .eq (.bi .len [(.var 1)]) (.lit (.int 3))) (.call F_kind_of [(.var 0), (.idx (.var 1) (.lit (.int 1)))]) (.lit (.non))),
  .ret (.bop true [(.isn true (.var 2)), (.call F_is_value [(.var 2), (.idx (.var 1) (.lit (.int 2)))])])] [],
  .ifs (.bop false [(.cmp .ne (.idx (.var 1) (.lit (.int 0))) (.lit (.str "from"))), (.cmp .ne (.bi .len [(.var 1)]) (.lit (.int 4))), (.cmp .ne (.call F_kind_of [(.var 0), (.idx (.var 1) (.lit (.int 1)))]) (.lit (.str "number")))]) [.ret (.lit (.bl false))] [],
  .ret (.bi .all [(.comp (.call F_is_whole [(.var 3), (.op .sub (.lit (.int 0)) (.glob "MOST_NUMBER" (.int 1000000))), (.glob "MOST_NUMBER" (.int 1000000))]) (.one 3) (.slc (.var 1) (some (.lit (.int 2))) none) [] [3])])]
def F_is_sift : Fn := ⟨"is_sift", 2, runF 4 I_is_sift⟩
@[simp] theorem ar_is_sift : F_is_sift.ar = 2 := Eq.trans rfl rfl
@[simp] theorem nm_is_sift : F_is_sift.name = "is_sift" := Eq.trans rfl rfl
def I_are_all : List Stm := [.ret (.bop true [(.isi .tuple (.var 0)), (.cmp .le (.bi .len [(.var 0)]) (.var 1)), (.bi .all [(.comp (.callv 2 [F_is_key, F_is_sift, F_is_sum] [(.var 3), (.var 4)]) (.one 4) (.var 0) [] [4])])])]
def F_are_all : Fn := ⟨"are_all", 4, runF 5 I_are_all⟩
@[simp] theorem ar_are_all : F_are_all.ar = 4 := Eq.trans rfl rfl
@[simp] theorem nm_are_all : F_are_all.name = "are_all" := Eq.trans rfl rfl
def I_look_plan : List Stm := [.exp (.call F_look_columns [(.var 0)]),
  .ifs (.bop false [(.nt (.isi .tuple (.var 1))), (.cmp .ne (.bi .len [(.var 1)]) (.lit (.int 4)))]) [.rai "BadPlan"] [],
  .ifs (.bop false [(.nt (.call F_are_all [(.idx (.var 1) (.lit (.int 0))), (.glob "MOST_KEYS" (.int 3)), (.glob "is_key" (.fn "is_key")), (.var 0)])), (.nt (.call F_are_all [(.idx (.var 1) (.lit (.int 1))), (.glob "MOST_KEYS" (.int 3)), (.glob "is_key" (.fn "is_key")), (.var 0)]))]) [.rai "BadPlan"] [],
  .ifs (.bop false [(.nt (.call F_are_all [(.idx (.var 1) (.lit (.int 2))), (.glob "MOST_SUMS" (.int 4)), (.glob "is_sum" (.fn "is_sum")), (.var 0)])), (.cmp .eq (.bi .len [(.idx (.var 1) (.lit (.int 2)))]) (.lit (.int 0)))]) [.rai "BadPlan"] [],
  .ifs (.nt (.call F_are_all [(.idx (.var 1) (.lit (.int 3))), (.glob "MOST_SIFTS" (.int 3)), (.glob "is_sift" (.fn "is_sift")), (.var 0)])) [.rai "BadPlan"] []]
def F_look_plan : Fn := ⟨"look_plan", 2, runF 2 I_look_plan⟩
@[simp] theorem ar_look_plan : F_look_plan.ar = 2 := Eq.trans rfl rfl
@[simp] theorem nm_look_plan : F_look_plan.name = "look_plan" := Eq.trans rfl rfl
def I_key_in : List Stm := [.ifs (.isi .str (.var 1)) [.ret (.idx (.var 2) (.call F_place_of [(.var 0), (.var 1)]))] [],
  .set (.one 3) (.idx (.var 2) (.call F_place_of [(.var 0), (.idx (.var 1) (.lit (.int 1)))])),
  .ifs (.isn false (.var 3)) [.ret (.lit (.non))] [],
  .ret (.ite (.cmp .eq (.idx (.var 1) (.lit (.int 0))) (.lit (.str "band"))) (.op .mul (.op .fdiv (.var 3) (.idx (.var 1) (.lit (.int 2)))) (.idx (.var 1) (.lit (.int 2)))) (.slc (.var 3) none (some (.idx (.var 1) (.lit (.int 2))))))]
def F_key_in : Fn := ⟨"key_in", 3, runF 4 I_key_in⟩
@[simp] theorem ar_key_in : F_key_in.ar = 3 := Eq.trans rfl rfl
@[simp] theorem nm_key_in : F_key_in.name = "key_in" := Eq.trans rfl rfl
def I_path_in : List Stm := [.ret (.bi .tuple [(.comp (.call F_key_in [(.var 0), (.var 3), (.var 2)]) (.one 3) (.var 1) [] [3])])]
def F_path_in : Fn := ⟨"path_in", 3, runF 4 I_path_in⟩
@[simp] theorem ar_path_in : F_path_in.ar = 3 := Eq.trans rfl rfl
@[simp] theorem nm_path_in : F_path_in.name = "path_in" := Eq.trans rfl rfl
def I_counts : List Stm := [.for (.one 3) (.var 1) [.set (.one 4) (.idx (.var 2) (.call F_place_of [(.var 0), (.idx (.var 3) (.lit (.int 1)))])),
  .ifs (.cmp .eq (.idx (.var 3) (.lit (.int 0))) (.lit (.str "from"))) [.ifs (.bop false [(.isn false (.var 4)), (.nt (.chain (.idx (.var 3) (.lit (.int 2))) (.var 4) (.idx (.var 3) (.lit (.int 3)))))]) [.ret (.lit (.bl false))] []] [.ifs (.cmp .ne (.cmp .eq (.var 4) (.idx (.var 3) (.lit (.int 2)))) (.cmp .eq (.idx (.var 3) (.lit (.int 0))) (.lit (.str "is")))) [.ret (.lit (.bl false))] []]],
  .ret (.lit (.bl true))]
def F_counts : Fn := ⟨"counts", 3, runF 5 I_counts⟩
@[simp] theorem ar_counts : F_counts.ar = 3 := Eq.trans rfl rfl
@[simp] theorem nm_counts : F_counts.name = "counts" := Eq.trans rfl rfl
def I_turned : List Stm := [.exp (.call F_look_plan [(.var 0), (.var 1)]),
  .set (.one 2) (.px pDictP [(.lst [(.tup [(.lit (.str "of row")), (.lit (.str "of column"))]), (.tup [(.lit (.str "of column")), (.lit (.str "of row"))])])]),
  .set (.one 3) (.bi .tuple [(.comp (.op .add (.tup [(.px pGet [(.var 2), (.idx (.var 4) (.lit (.int 0))), (.idx (.var 4) (.lit (.int 0)))])]) (.slc (.var 4) (some (.lit (.int 1))) none)) (.one 4) (.idx (.var 1) (.lit (.int 2))) [] [4])]),
  .ret (.tup [(.idx (.var 1) (.lit (.int 1))), (.idx (.var 1) (.lit (.int 0))), (.var 3), (.idx (.var 1) (.lit (.int 3)))])]
def F_turned : Fn := ⟨"turned", 2, runF 5 I_turned⟩
@[simp] theorem ar_turned : F_turned.ar = 2 := Eq.trans rfl rfl
@[simp] theorem nm_turned : F_turned.name = "turned" := Eq.trans rfl rfl
def I_deeper : List Stm := [.exp (.call F_look_plan [(.var 0), (.var 1)]),
  .set (.one 3) (.op .add (.tup [(.op .add (.idx (.var 1) (.lit (.int 0))) (.tup [(.var 2)]))]) (.slc (.var 1) (some (.lit (.int 1))) none)),
  .exp (.call F_look_plan [(.var 0), (.var 3)]),
  .ret (.var 3)]
def F_deeper : Fn := ⟨"deeper", 3, runF 4 I_deeper⟩
@[simp] theorem ar_deeper : F_deeper.ar = 3 := Eq.trans rfl rfl
@[simp] theorem nm_deeper : F_deeper.name = "deeper" := Eq.trans rfl rfl
def I_rolled : List Stm := [.exp (.call F_look_plan [(.var 0), (.var 1)]),
  .ifs (.cmp .eq (.idx (.var 1) (.lit (.int 0))) (.tup [])) [.rai "BadPlan"] [],
  .ret (.op .add (.tup [(.slc (.idx (.var 1) (.lit (.int 0))) none (some (.neg (.lit (.int 1)))))]) (.slc (.var 1) (some (.lit (.int 1))) none))]
def F_rolled : Fn := ⟨"rolled", 2, runF 2 I_rolled⟩
@[simp] theorem ar_rolled : F_rolled.ar = 2 := Eq.trans rfl rfl
@[simp] theorem nm_rolled : F_rolled.name = "rolled" := Eq.trans rfl rfl
def I_look_all : List Stm := [.exp (.call F_look_table [(.var 0)]),
  .exp (.call F_look_plan [(.idx (.var 0) (.lit (.int 0))), (.var 1)])]
def F_look_all : Fn := ⟨"look_all", 2, runF 2 I_look_all⟩
@[simp] theorem ar_look_all : F_look_all.ar = 2 := Eq.trans rfl rfl
@[simp] theorem nm_look_all : F_look_all.name = "look_all" := Eq.trans rfl rfl
def I_counted : List Stm := [.set (.many [4, 5]) (.var 0),
  .seto 2 (.lst []),
  .for (.one 3) (.rng [(.bi .len [(.var 5)])]) [.ifs (.call F_counts [(.var 4), (.idx (.var 1) (.lit (.int 3))), (.idx (.var 5) (.var 3))]) [.app 2 (.tup [(.var 3), (.call F_path_in [(.var 4), (.idx (.var 1) (.lit (.int 0))), (.idx (.var 5) (.var 3))]), (.call F_path_in [(.var 4), (.idx (.var 1) (.lit (.int 1))), (.idx (.var 5) (.var 3))])])] []],
  .frz 2,
  .ret (.var 2)]
def F_counted : Fn := ⟨"counted", 2, runF 6 I_counted⟩
@[simp] theorem ar_counted : F_counted.ar = 2 := Eq.trans rfl rfl
@[simp] theorem nm_counted : F_counted.name = "counted" := Eq.trans rfl rfl
def I_with_heads : List Stm := [.dnw 2,
  .dpt 2 (.tup []) (.lit (.bl true)),
  .for (.one 3) (.var 0) [.for (.one 5) (.rng [(.op .add (.var 1) (.lit (.int 1)))]) [.dpt 2 (.slc (.var 3) none (some (.var 5))) (.lit (.bl true))]],
  .set (.one 0) (.dkl 2),
  .set (.one 4) (.bi .srt [(.comp (.tup [(.call F_ranked [(.idx (.var 0) (.var 5))]), (.var 5)]) (.one 5) (.rng [(.bi .len [(.var 0)])]) [] [5])]),
  .ret (.comp (.idx (.var 0) (.var 5)) (.many [6, 5]) (.var 4) [] [6, 5])]
def F_with_heads : Fn := ⟨"with_heads", 2, runF 7 I_with_heads⟩
@[simp] theorem ar_with_heads : F_with_heads.ar = 2 := Eq.trans rfl rfl
@[simp] theorem nm_with_heads : F_with_heads.name = "with_heads" := Eq.trans rfl rfl
def I_sides : List Stm := [.set (.one 2) (.call F_counted [(.var 0), (.var 1)]),
  .set (.one 3) (.call F_with_heads [(.comp (.idx (.var 4) (.lit (.int 1))) (.one 4) (.var 2) [] [4]), (.bi .len [(.idx (.var 1) (.lit (.int 0)))])]),
  .ret (.tup [(.var 3), (.call F_with_heads [(.comp (.idx (.var 4) (.lit (.int 2))) (.one 4) (.var 2) [] [4]), (.bi .len [(.idx (.var 1) (.lit (.int 1)))])])])]
def F_sides : Fn := ⟨"sides", 2, runF 5 I_sides⟩
@[simp] theorem ar_sides : F_sides.ar = 2 := Eq.trans rfl rfl
@[simp] theorem nm_sides : F_sides.name = "sides" := Eq.trans rfl rfl
def I_heads : List Stm := [.exp (.call F_look_all [(.var 0), (.var 1)]),
  .ret (.call F_sides [(.var 0), (.var 1)])]
def F_heads : Fn := ⟨"heads", 2, runF 2 I_heads⟩
@[simp] theorem ar_heads : F_heads.ar = 2 := Eq.trans rfl rfl
@[simp] theorem nm_heads : F_heads.name = "heads" := Eq.trans rfl rfl
def I_begins : List Stm := [.ret (.cmp .eq (.slc (.var 0) none (some (.bi .len [(.var 1)]))) (.var 1))]
def F_begins : Fn := ⟨"begins", 2, runF 2 I_begins⟩
@[simp] theorem ar_begins : F_begins.ar = 2 := Eq.trans rfl rfl
@[simp] theorem nm_begins : F_begins.name = "begins" := Eq.trans rfl rfl
def I_members : List Stm := [.ret (.comp (.idx (.var 3) (.lit (.int 0))) (.one 3) (.var 0) [(.bop true [(.call F_begins [(.idx (.var 3) (.lit (.int 1))), (.var 1)]), (.call F_begins [(.idx (.var 3) (.lit (.int 2))), (.var 2)])])] [3])]
def F_members : Fn := ⟨"members", 3, runF 4 I_members⟩
@[simp] theorem ar_members : F_members.ar = 3 := Eq.trans rfl rfl
@[simp] theorem nm_members : F_members.name = "members" := Eq.trans rfl rfl
def I_values_of : List Stm := [.set (.one 3) (.call F_place_of [(.idx (.var 0) (.lit (.int 0))), (.var 1)]),
  .set (.one 4) (.comp (.idx (.idx (.idx (.var 0) (.lit (.int 1))) (.var 5)) (.var 3)) (.one 5) (.var 2) [] [5]),
  .ret (.comp (.var 6) (.one 6) (.var 4) [(.isn true (.var 6))] [6])]
def F_values_of : Fn := ⟨"values_of", 3, runF 7 I_values_of⟩
@[simp] theorem ar_values_of : F_values_of.ar = 3 := Eq.trans rfl rfl
@[simp] theorem nm_values_of : F_values_of.name = "values_of" := Eq.trans rfl rfl
def I_one_sum : List Stm := [.set (.one 5) (.call F_members [(.var 1), (.var 3), (.var 4)]),
  .ifs (.cmp .eq (.idx (.var 2) (.lit (.int 0))) (.lit (.str "count"))) [.ret (.bi .len [(.var 5)])] [],
  .set (.one 6) (.call F_values_of [(.var 0), (.idx (.var 2) (.lit (.int 1))), (.var 5)]),
  .ifs (.cmp .eq (.idx (.var 2) (.lit (.int 0))) (.lit (.str "filled"))) [.ret (.bi .len [(.var 6)])] [],
  .ifs (.cmp .eq (.idx (.var 2) (.lit (.int 0))) (.lit (.str "unlike"))) [.ret (.lens (.var 6))] [],
  .ifs (.cmp .eq (.idx (.var 2) (.lit (.int 0))) (.lit (.str "sum"))) [.ret (.bi .sum [(.var 6)])] [],
  .ifs (.cmp .eq (.idx (.var 2) (.lit (.int 0))) (.lit (.str "mean"))) [.ret (.call F_least [(.bi .sum [(.var 6)]), (.bi .len [(.var 6)])])] [],
  .ifs (.cmp .inn (.idx (.var 2) (.lit (.int 0))) (.tup [(.lit (.str "least")), (.lit (.str "greatest"))])) [.ret (.ite (.nt (.var 6)) (.lit (.non)) (.ite (.cmp .eq (.idx (.var 2) (.lit (.int 0))) (.lit (.str "least"))) (.bi .min1 [(.var 6)]) (.bi .max1 [(.var 6)])))] [],
  .set (.one 7) (.dsel ["of all", "of row", "of column"] [(.tup [(.tup []), (.tup [])]), (.tup [(.var 3), (.tup [])]), (.tup [(.tup []), (.var 4)])] (.idx (.var 2) (.lit (.int 0)))),
  .ret (.call F_least [(.bi .sum [(.var 6)]), (.bi .sum [(.call F_values_of [(.var 0), (.idx (.var 2) (.lit (.int 1))), (.call F_members [(.var 1), (.idx (.var 7) (.lit (.int 0))), (.idx (.var 7) (.lit (.int 1)))])])])])]
def F_one_sum : Fn := ⟨"one_sum", 5, runF 8 I_one_sum⟩
@[simp] theorem ar_one_sum : F_one_sum.ar = 5 := Eq.trans rfl rfl
@[simp] theorem nm_one_sum : F_one_sum.name = "one_sum" := Eq.trans rfl rfl
def I_cell_of : List Stm := [.ret (.bi .tuple [(.comp (.call F_one_sum [(.var 0), (.var 2), (.var 5), (.var 3), (.var 4)]) (.one 5) (.idx (.var 1) (.lit (.int 2))) [] [5])])]
def F_cell_of : Fn := ⟨"cell_of", 5, runF 6 I_cell_of⟩
@[simp] theorem ar_cell_of : F_cell_of.ar = 5 := Eq.trans rfl rfl
@[simp] theorem nm_cell_of : F_cell_of.name = "cell_of" := Eq.trans rfl rfl
def I_look_place : List Stm := [.set (.many [4, 5]) (.call F_sides [(.var 0), (.var 1)]),
  .ifs (.bop false [(.cmp .nin (.var 2) (.var 4)), (.cmp .nin (.var 3) (.var 5))]) [.rai "NoPlace"] []]
def F_look_place : Fn := ⟨"look_place", 4, runF 6 I_look_place⟩
@[simp] theorem ar_look_place : F_look_place.ar = 4 := Eq.trans rfl rfl
@[simp] theorem nm_look_place : F_look_place.name = "look_place" := Eq.trans rfl rfl
def I_cell : List Stm := [.exp (.call F_look_all [(.var 0), (.var 1)]),
  .exp (.call F_look_place [(.var 0), (.var 1), (.var 2), (.var 3)]),
  .ret (.call F_cell_of [(.var 0), (.var 1), (.call F_counted [(.var 0), (.var 1)]), (.var 2), (.var 3)])]
def F_cell : Fn := ⟨"cell", 4, runF 4 I_cell⟩
@[simp] theorem ar_cell : F_cell.ar = 4 := Eq.trans rfl rfl
@[simp] theorem nm_cell : F_cell.name = "cell" := Eq.trans rfl rfl
def I_opened : List Stm := [.exp (.call F_look_all [(.var 0), (.var 1)]),
  .exp (.call F_look_place [(.var 0), (.var 1), (.var 2), (.var 3)]),
  .ret (.call F_members [(.call F_counted [(.var 0), (.var 1)]), (.var 2), (.var 3)])]
def F_opened : Fn := ⟨"opened", 4, runF 4 I_opened⟩
@[simp] theorem ar_opened : F_opened.ar = 4 := Eq.trans rfl rfl
@[simp] theorem nm_opened : F_opened.name = "opened" := Eq.trans rfl rfl
def I_sheet_of : List Stm := [.set (.many [4, 5]) (.call F_sides [(.var 0), (.var 1)]),
  .set (.one 2) (.call F_counted [(.var 0), (.var 1)]),
  .set (.one 3) (.comp (.comp (.call F_cell_of [(.var 0), (.var 1), (.var 2), (.var 6), (.var 7)]) (.one 7) (.var 5) [] [7]) (.one 6) (.var 4) [] [6]),
  .ret (.tup [(.var 4), (.var 5), (.var 3)])]
def F_sheet_of : Fn := ⟨"sheet_of", 2, runF 8 I_sheet_of⟩
@[simp] theorem ar_sheet_of : F_sheet_of.ar = 2 := Eq.trans rfl rfl
@[simp] theorem nm_sheet_of : F_sheet_of.name = "sheet_of" := Eq.trans rfl rfl
def I_sheet : List Stm := [.exp (.call F_look_all [(.var 0), (.var 1)]),
  .ret (.call F_sheet_of [(.var 0), (.var 1)])]
def F_sheet : Fn := ⟨"sheet", 2, runF 2 I_sheet⟩
@[simp] theorem ar_sheet : F_sheet.ar = 2 := Eq.trans rfl rfl
@[simp] theorem nm_sheet : F_sheet.name = "sheet" := Eq.trans rfl rfl
def B_gaps_0 : List Stm := [.set (.one 8) (.bop true [(.cmp .eq (.bi .len [(.var 4)]) (.bi .len [(.idx (.var 1) (.lit (.int 0)))])), (.cmp .eq (.bi .len [(.var 7)]) (.bi .len [(.idx (.var 1) (.lit (.int 1)))]))]),
  .ifs (.bop true [(.var 8), (.nt (.call F_members [(.var 2), (.var 4), (.var 7)]))]) [.app 3 (.tup [(.var 4), (.var 7)])] []]
def B_gaps_1 : List Stm := [.for (.one 7) (.var 6) B_gaps_0]
def I_gaps : List Stm := [.exp (.call F_look_all [(.var 0), (.var 1)]),
  .set (.many [5, 6]) (.call F_sides [(.var 0), (.var 1)]),
  .set (.one 2) (.call F_counted [(.var 0), (.var 1)]),
  .seto 3 (.lst []),
  .for (.one 4) (.var 5) B_gaps_1,
  .frz 3,
  .ret (.var 3)]
def F_gaps : Fn := ⟨"gaps", 2, runF 9 I_gaps⟩
@[simp] theorem ar_gaps : F_gaps.ar = 2 := Eq.trans rfl rfl
@[simp] theorem nm_gaps : F_gaps.name = "gaps" := Eq.trans rfl rfl
def B_places_of_0 : List Stm := [.dpt 1 (.tup [(.idx (.var 3) (.var 2)), (.idx (.var 4) (.var 6))]) (.idx (.idx (.var 5) (.var 2)) (.var 6))]
def B_places_of_1 : List Stm := [.for (.one 6) (.rng [(.bi .len [(.var 4)])]) B_places_of_0]
def I_places_of : List Stm := [.set (.many [3, 4, 5]) (.var 0),
  .dnw 1,
  .for (.one 2) (.rng [(.bi .len [(.var 3)])]) B_places_of_1,
  .ret (.var 1)]
def F_places_of : Fn := ⟨"places_of", 1, runF 7 I_places_of⟩
@[simp] theorem ar_places_of : F_places_of.ar = 1 := Eq.trans rfl rfl
@[simp] theorem nm_places_of : F_places_of.name = "places_of" := Eq.trans rfl rfl
def I_in_order : List Stm := [.set (.one 1) (.bi .srt [(.comp (.tup [(.call F_ranked [(.idx (.idx (.var 0) (.var 2)) (.lit (.int 0)))]), (.call F_ranked [(.idx (.idx (.var 0) (.var 2)) (.lit (.int 1)))]), (.var 2)]) (.one 2) (.rng [(.bi .len [(.var 0)])]) [] [2])]),
  .ret (.comp (.idx (.var 0) (.var 2)) (.many [3, 4, 2]) (.var 1) [] [3, 4, 2])]
def F_in_order : Fn := ⟨"in_order", 1, runF 5 I_in_order⟩
@[simp] theorem ar_in_order : F_in_order.ar = 1 := Eq.trans rfl rfl
@[simp] theorem nm_in_order : F_in_order.name = "in_order" := Eq.trans rfl rfl
def I_children : List Stm := [.ret (.comp (.var 2) (.one 2) (.var 0) [(.bop true [(.cmp .eq (.bi .len [(.var 2)]) (.op .add (.bi .len [(.var 1)]) (.lit (.int 1)))), (.call F_begins [(.var 2), (.var 1)])])] [2])]
def F_children : Fn := ⟨"children", 2, runF 3 I_children⟩
@[simp] theorem ar_children : F_children.ar = 2 := Eq.trans rfl rfl
@[simp] theorem nm_children : F_children.name = "children" := Eq.trans rfl rfl
def I_is_before : List Stm := [.ifs (.bop false [(.isn false (.var 0)), (.isn false (.var 1))]) [.ret (.bop true [(.isn true (.var 0)), (.isn false (.var 1))])] [],
  .ifs (.isi .tuple (.var 0)) [.par 3 4 (.op .mul (.idx (.var 0) (.lit (.int 0))) (.idx (.var 1) (.lit (.int 1)))) (.op .mul (.idx (.var 1) (.lit (.int 0))) (.idx (.var 0) (.lit (.int 1)))),
  .ret (.ite (.var 2) (.cmp .gt (.var 3) (.var 4)) (.cmp .lt (.var 3) (.var 4)))] [],
  .ret (.ite (.var 2) (.cmp .gt (.var 0) (.var 1)) (.cmp .lt (.var 0) (.var 1)))]
def F_is_before : Fn := ⟨"is_before", 3, runF 5 I_is_before⟩
@[simp] theorem ar_is_before : F_is_before.ar = 3 := Eq.trans rfl rfl
@[simp] theorem nm_is_before : F_is_before.name = "is_before" := Eq.trans rfl rfl
def I_look_sum : List Stm := [.ifs (.nt (.call F_is_whole [(.var 1), (.lit (.int 0)), (.op .sub (.bi .len [(.idx (.var 0) (.lit (.int 2)))]) (.lit (.int 1)))])) [.rai "BadNumber"] []]
def F_look_sum : Fn := ⟨"look_sum", 2, runF 2 I_look_sum⟩
@[simp] theorem ar_look_sum : F_look_sum.ar = 2 := Eq.trans rfl rfl
@[simp] theorem nm_look_sum : F_look_sum.name = "look_sum" := Eq.trans rfl rfl
def B_running_0 : List Stm := [.set (.one 6) (.op .add (.var 6) (.call F_one_sum [(.var 0), (.var 4), (.idx (.idx (.var 1) (.lit (.int 2))) (.var 3)), (.var 7), (.tup [])])),
  .app 5 (.tup [(.var 7), (.var 6)])]
def I_running : List Stm := [.exp (.call F_look_all [(.var 0), (.var 1)]),
  .set (.many [8, 9]) (.call F_sides [(.var 0), (.var 1)]),
  .ifs (.cmp .nin (.var 2) (.var 8)) [.rai "NoPlace"] [],
  .exp (.call F_look_sum [(.var 1), (.var 3)]),
  .ifs (.cmp .nin (.idx (.idx (.idx (.var 1) (.lit (.int 2))) (.var 3)) (.lit (.int 0))) (.tup [(.lit (.str "count")), (.lit (.str "sum")), (.lit (.str "filled"))])) [.rai "BadNumber"] [],
  .set (.one 4) (.call F_counted [(.var 0), (.var 1)]),
  .seto 5 (.lst []),
  .set (.one 6) (.lit (.int 0)),
  .for (.one 7) (.call F_children [(.var 8), (.var 2)]) B_running_0,
  .frz 5,
  .ret (.var 5)]
def F_running : Fn := ⟨"running", 4, runF 10 I_running⟩
@[simp] theorem ar_running : F_running.ar = 4 := Eq.trans rfl rfl
@[simp] theorem nm_running : F_running.name = "running" := Eq.trans rfl rfl
def I_is_share : List Stm := [.ifs (.bop false [(.nt (.isi .tuple (.var 0))), (.cmp .ne (.bi .len [(.var 0)]) (.lit (.int 2)))]) [.ret (.lit (.bl false))] [],
  .ret (.bop true [(.call F_is_whole [(.idx (.var 0) (.lit (.int 1))), (.lit (.int 1)), (.lit (.int 1000))]), (.call F_is_whole [(.idx (.var 0) (.lit (.int 0))), (.lit (.int 0)), (.idx (.var 0) (.lit (.int 1)))])])]
def F_is_share : Fn := ⟨"is_share", 1, runF 1 I_is_share⟩
@[simp] theorem ar_is_share : F_is_share.ar = 1 := Eq.trans rfl rfl
@[simp] theorem nm_is_share : F_is_share.name = "is_share" := Eq.trans rfl rfl
def I_more_than : List Stm := [.ifs (.bop false [(.isn false (.var 0)), (.isn false (.var 1))]) [.ret (.lit (.non))] [],
  .ifs (.isi .tuple (.var 1)) [.ret (.call F_least [(.op .sub (.op .mul (.idx (.var 1) (.lit (.int 0))) (.idx (.var 0) (.lit (.int 1)))) (.op .mul (.idx (.var 0) (.lit (.int 0))) (.idx (.var 1) (.lit (.int 1))))), (.op .mul (.idx (.var 1) (.lit (.int 1))) (.idx (.var 0) (.lit (.int 1))))])] [],
  .ret (.op .sub (.var 1) (.var 0))]
def F_more_than : Fn := ⟨"more_than", 2, runF 2 I_more_than⟩
@[simp] theorem ar_more_than : F_more_than.ar = 2 := Eq.trans rfl rfl
@[simp] theorem nm_more_than : F_more_than.name = "more_than" := Eq.trans rfl rfl
def B_grown_0 : List Stm := [.ifs (.cmp .eq (.bi .len [(.var 7)]) (.bi .len [(.idx (.var 1) (.lit (.int 1)))])) [.set (.one 10) (.call F_one_sum [(.var 0), (.var 4), (.idx (.idx (.var 1) (.lit (.int 2))) (.var 3)), (.var 2), (.var 7)]),
  .app 5 (.tup [(.var 7), (.call F_more_than [(.var 6), (.var 10)])]),
  .set (.one 6) (.var 10)] []]
def I_grown : List Stm := [.exp (.call F_look_all [(.var 0), (.var 1)]),
  .set (.many [8, 9]) (.call F_sides [(.var 0), (.var 1)]),
  .ifs (.cmp .nin (.var 2) (.var 8)) [.rai "NoPlace"] [],
  .exp (.call F_look_sum [(.var 1), (.var 3)]),
  .set (.one 4) (.call F_counted [(.var 0), (.var 1)]),
  .seto 5 (.lst []),
  .set (.one 6) (.lit (.non)),
  .for (.one 7) (.var 9) B_grown_0,
  .frz 5,
  .ret (.var 5)]
def F_grown : Fn := ⟨"grown", 4, runF 11 I_grown⟩
@[simp] theorem ar_grown : F_grown.ar = 4 := Eq.trans rfl rfl
@[simp] theorem nm_grown : F_grown.name = "grown" := Eq.trans rfl rfl
def I_value_in : List Stm := [.ifs (.cmp .eq (.var 0) (.lit (.str "-"))) [.ret (.lit (.non))] [],
  .set (.one 1) (.ite (.cmp .eq (.slc (.var 0) none (some (.lit (.int 1)))) (.lit (.str "-"))) (.slc (.var 0) (some (.lit (.int 1))) none) (.var 0)),
  .ifs (.bop true [(.cmp .ne (.var 1) (.lit (.str ""))), (.cmp .lt (.bi .len [(.var 1)]) (.lit (.int 9))), (.bi .all [(.comp (.cmp .inn (.var 2) (.glob "FIGURES" (.str "0123456789"))) (.one 2) (.var 1) [] [2])])]) [.ret (.bi .int [(.var 0)])] [],
  .ret (.var 0)]
def F_value_in : Fn := ⟨"value_in", 1, runF 3 I_value_in⟩
@[simp] theorem ar_value_in : F_value_in.ar = 1 := Eq.trans rfl rfl
@[simp] theorem nm_value_in : F_value_in.name = "value_in" := Eq.trans rfl rfl
def B_needless_0 : List Stm := [.set (.one 6) (.comp (.var 8) (.one 8) (.var 3) [(.cmp .ne (.var 8) (.var 5))] [8]),
  .ifs (.cmp .eq (.lens (.comp (.bi .tuple [(.comp (.idx (.var 7) (.var 8)) (.one 8) (.var 6) [] [8])]) (.one 7) (.var 2) [] [7])) (.bi .len [(.var 2)])) [.set (.one 3) (.var 6),
  .app 4 (.var 5)] []]
def I_needless : List Stm := [.exp (.call F_look_all [(.var 0), (.var 1)]),
  .set (.one 2) (.comp (.var 7) (.one 7) (.idx (.call F_sides [(.var 0), (.var 1)]) (.lit (.int 0))) [(.cmp .eq (.bi .len [(.var 7)]) (.bi .len [(.idx (.var 1) (.lit (.int 0)))]))] [7]),
  .set (.one 3) (.lrng [(.bi .len [(.idx (.var 1) (.lit (.int 0)))])]),
  .seto 4 (.lst []),
  .for (.one 5) (.rev (.lrng [(.bi .len [(.idx (.var 1) (.lit (.int 0)))])])) B_needless_0,
  .frz 4,
  .ret (.var 4)]
def F_needless : Fn := ⟨"needless", 2, runF 9 I_needless⟩
@[simp] theorem ar_needless : F_needless.ar = 2 := Eq.trans rfl rfl
@[simp] theorem nm_needless : F_needless.name = "needless" := Eq.trans rfl rfl
def I_is_kept : List Stm := [.exp (.call F_look_plan [(.var 0), (.var 1)]),
  .exp (.call F_look_plan [(.var 0), (.var 2)]),
  .ifs (.bop false [(.cmp .ne (.idx (.var 1) (.lit (.int 3))) (.idx (.var 2) (.lit (.int 3)))), (.cmp .ne (.idx (.var 2) (.lit (.int 0))) (.slc (.idx (.var 1) (.lit (.int 0))) none (some (.bi .len [(.idx (.var 2) (.lit (.int 0)))])))), (.cmp .ne (.idx (.var 2) (.lit (.int 1))) (.slc (.idx (.var 1) (.lit (.int 1))) none (some (.bi .len [(.idx (.var 2) (.lit (.int 1)))]))))]) [.ret (.lit (.bl false))] [],
  .ret (.bi .all [(.comp (.cmp .inn (.var 3) (.idx (.var 1) (.lit (.int 2)))) (.one 3) (.idx (.var 2) (.lit (.int 2))) [] [3])])]
def F_is_kept : Fn := ⟨"is_kept", 3, runF 4 I_is_kept⟩
@[simp] theorem ar_is_kept : F_is_kept.ar = 3 := Eq.trans rfl rfl
@[simp] theorem nm_is_kept : F_is_kept.name = "is_kept" := Eq.trans rfl rfl
def I_told_from : List Stm := [.exp (.call F_look_all [(.var 0), (.var 1)]),
  .ifs (.nt (.call F_is_kept [(.idx (.var 0) (.lit (.int 0))), (.var 1), (.var 2)])) [.ret (.lit (.non))] [],
  .set (.many [7, 8, 9]) (.call F_sheet_of [(.var 0), (.var 1)]),
  .set (.one 3) (.comp (.ixm (.idx (.var 1) (.lit (.int 2))) (.var 10)) (.one 10) (.idx (.var 2) (.lit (.int 2))) [] [10]),
  .set (.one 4) (.comp (.var 11) (.one 11) (.rng [(.bi .len [(.var 7)])]) [(.cmp .le (.bi .len [(.idx (.var 7) (.var 11))]) (.bi .len [(.idx (.var 2) (.lit (.int 0)))]))] [11]),
  .set (.one 5) (.comp (.var 11) (.one 11) (.rng [(.bi .len [(.var 8)])]) [(.cmp .le (.bi .len [(.idx (.var 8) (.var 11))]) (.bi .len [(.idx (.var 2) (.lit (.int 1)))]))] [11]),
  .set (.one 6) (.comp (.comp (.bi .tuple [(.comp (.idx (.idx (.idx (.var 9) (.var 12)) (.var 13)) (.var 14)) (.one 14) (.var 3) [] [14])]) (.one 13) (.var 5) [] [13]) (.one 12) (.var 4) [] [12]),
  .ret (.tup [(.comp (.idx (.var 7) (.var 12)) (.one 12) (.var 4) [] [12]), (.comp (.idx (.var 8) (.var 13)) (.one 13) (.var 5) [] [13]), (.var 6)])]
def F_told_from : Fn := ⟨"told_from", 3, runF 15 I_told_from⟩
@[simp] theorem ar_told_from : F_told_from.ar = 3 := Eq.trans rfl rfl
@[simp] theorem nm_told_from : F_told_from.name = "told_from" := Eq.trans rfl rfl
def I__law_cell : List Stm := [.ifs (.var 0) [.ret (.idx (.var 0) (.op .mod (.var 1) (.bi .len [(.var 0)])))] [],
  .ret (.lit (.int 0))]
def F__law_cell : Fn := ⟨"_law_cell", 2, runF 2 I__law_cell⟩
@[simp] theorem ar__law_cell : F__law_cell.ar = 2 := Eq.trans rfl rfl
@[simp] theorem nm__law_cell : F__law_cell.name = "_law_cell" := Eq.trans rfl rfl
def I__law_mix : List Stm := [.set (.one 2) (.op .mod (.op .add (.call F__law_cell [(.var 0), (.var 1)]) (.op .mul (.lit (.int 104729)) (.op .add (.var 1) (.lit (.int 1))))) (.lit (.int 4294967291))),
  .set (.one 2) (.op .mod (.op .pow (.var 2) (.lit (.int 5))) (.lit (.int 4294967279))),
  .ret (.op .mod (.op .add (.op .mul (.op .fdiv (.var 2) (.lit (.int 64))) (.lit (.int 69621))) (.var 2)) (.lit (.int 4294967231)))]
def F__law_mix : Fn := ⟨"_law_mix", 2, runF 3 I__law_mix⟩
@[simp] theorem ar__law_mix : F__law_mix.ar = 2 := Eq.trans rfl rfl
@[simp] theorem nm__law_mix : F__law_mix.name = "_law_mix" := Eq.trans rfl rfl
def I__law_draw : List Stm := [.tapp 1,
  .ret (.op .mod (.op .fdiv (.call F__law_mix [(.var 0), (.tlen 1)]) (.lit (.int 8))) (.var 2))]
def F__law_draw : Fn := ⟨"_law_draw", 3, runF 3 I__law_draw⟩
@[simp] theorem ar__law_draw : F__law_draw.ar = 3 := Eq.trans rfl rfl
@[simp] theorem nm__law_draw : F__law_draw.name = "_law_draw" := Eq.trans rfl rfl
def I__law_pick : List Stm := [.ret (.idx (.var 2) (.call F__law_draw [(.var 0), (.var 1), (.bi .len [(.var 2)])]))]
def F__law_pick : Fn := ⟨"_law_pick", 3, runF 3 I__law_pick⟩
@[simp] theorem ar__law_pick : F__law_pick.ar = 3 := Eq.trans rfl rfl
@[simp] theorem nm__law_pick : F__law_pick.name = "_law_pick" := Eq.trans rfl rfl
def I__law_refusal : List Stm := [.ifs (.isn false (.var 0)) [.ret (.tup [(.lit (.str "ok"))])] [],
  .set (.one 1) (.lst [(.px (pIsE "BadTable") [(.var 0)]), (.px (pIsE "BadRow") [(.var 0)]), (.px (pIsE "BadPlan") [(.var 0)])]),
  .set (.one 1) (.op .add (.var 1) (.lst [(.px (pIsE "NoPlace") [(.var 0)]), (.px (pIsE "BadNumber") [(.var 0)]), (.px (pIsE "NoRow") [(.var 0)])])),
  .set (.one 1) (.op .add (.var 1) (.lst [(.px (pIsE "Nothing") [(.var 0)]), (.px (pIsE "BadText") [(.var 0)])])),
  .ifs (.bop false [(.cmp .ne (.px pCnt [(.var 1), (.lit (.bl true))]) (.lit (.int 1))), (.nt (.px (pIsE "ValueError") [(.var 0)]))]) [.ret (.tup [(.lit (.str "wrong"))])] [],
  .set (.one 2) (.lst [(.lit (.str "table")), (.lit (.str "row")), (.lit (.str "plan")), (.lit (.str "place")), (.lit (.str "number")), (.lit (.str "no row")), (.lit (.str "nothing")), (.lit (.str "text"))]),
  .ret (.tup [(.lit (.str "refused")), (.idx (.var 2) (.ixm (.var 1) (.lit (.bl true))))])]
def F__law_refusal : Fn := ⟨"_law_refusal", 1, runF 3 I__law_refusal⟩
@[simp] theorem ar__law_refusal : F__law_refusal.ar = 1 := Eq.trans rfl rfl
@[simp] theorem nm__law_refusal : F__law_refusal.name = "_law_refusal" := Eq.trans rfl rfl
def I__law_word : List Stm := [.set (.one 2) (.lit (.str "abcdefghijklmnopqrstuvwxyz")),
  .ifs (.cmp .gt (.call F__law_draw [(.var 0), (.var 1), (.lit (.int 8))]) (.lit (.int 0))) [.ret (.call F__law_pick [(.var 0), (.var 1), (.lst [(.lit (.str "a")), (.lit (.str "ab")), (.lit (.str "abc")), (.lit (.str "b")), (.lit (.str "ba")), (.lit (.str "count")), (.lit (.str "band"))])])] [],
  .ret (.join (.lit (.str "")) (.comp (.idx (.var 2) (.call F__law_draw [(.var 0), (.var 1), (.lit (.int 26))])) (.one 3) (.rng [(.op .add (.lit (.int 1)) (.call F__law_draw [(.var 0), (.var 1), (.lit (.int 8))]))]) [] [3]))]
def F__law_word : Fn := ⟨"_law_word", 2, runF 4 I__law_word⟩
@[simp] theorem ar__law_word : F__law_word.ar = 2 := Eq.trans rfl rfl
@[simp] theorem nm__law_word : F__law_word.name = "_law_word" := Eq.trans rfl rfl
def I__law_value : List Stm := [.ifs (.cmp .eq (.call F__law_draw [(.var 0), (.var 1), (.lit (.int 6))]) (.lit (.int 0))) [.ret (.lit (.non))] [],
  .ifs (.cmp .eq (.var 2) (.lit (.str "word"))) [.ret (.call F__law_word [(.var 0), (.var 1)])] [],
  .set (.one 3) (.lst [(.lit (.int 0)), (.lit (.int 1)), (.lit (.int 1)), (.lit (.int 2)), (.lit (.int 7)), (.op .sub (.lit (.int 0)) (.lit (.int 1))), (.op .sub (.lit (.int 0)) (.lit (.int 7))), (.lit (.int 1000000)), (.op .sub (.lit (.int 0)) (.lit (.int 1000000))), (.op .sub (.call F__law_draw [(.var 0), (.var 1), (.lit (.int 100))]) (.lit (.int 50)))]),
  .ret (.call F__law_pick [(.var 0), (.var 1), (.var 3)])]
def F__law_value : Fn := ⟨"_law_value", 3, runF 4 I__law_value⟩
@[simp] theorem ar__law_value : F__law_value.ar = 3 := Eq.trans rfl rfl
@[simp] theorem nm__law_value : F__law_value.name = "_law_value" := Eq.trans rfl rfl
def I__law_columns : List Stm := [.set (.one 2) (.lst [(.lit (.str "w")), (.lit (.str "n")), (.lit (.str "word")), (.lit (.str "size")), (.lit (.str "of")), (.lit (.str "abcdefgh"))]),
  .set (.one 3) (.call F__law_draw [(.var 0), (.var 1), (.lit (.int 6))]),
  .set (.one 2) (.op .add (.slc (.var 2) (some (.var 3)) none) (.slc (.var 2) none (some (.var 3)))),
  .set (.one 4) (.op .add (.lst [(.lit (.str "word")), (.lit (.str "number"))]) (.comp (.call F__law_pick [(.var 0), (.var 1), (.lst [(.lit (.str "word")), (.lit (.str "number"))])]) (.one 6) (.rng [(.lit (.int 4))]) [] [6])),
  .set (.one 5) (.comp (.tup [(.idx (.var 2) (.var 6)), (.idx (.var 4) (.var 6))]) (.one 6) (.rng [(.op .add (.lit (.int 2)) (.call F__law_draw [(.var 0), (.var 1), (.lit (.int 5))]))]) [] [6]),
  .set (.one 3) (.call F__law_draw [(.var 0), (.var 1), (.bi .len [(.var 5)])]),
  .ret (.bi .tuple [(.op .add (.slc (.var 5) (some (.var 3)) none) (.slc (.var 5) none (some (.var 3))))])]
def F__law_columns : Fn := ⟨"_law_columns", 2, runF 7 I__law_columns⟩
@[simp] theorem ar__law_columns : F__law_columns.ar = 2 := Eq.trans rfl rfl
@[simp] theorem nm__law_columns : F__law_columns.name = "_law_columns" := Eq.trans rfl rfl
def I__law_row : List Stm := [.ret (.bi .tuple [(.comp (.call F__law_value [(.var 0), (.var 1), (.var 4)]) (.many [3, 4]) (.var 2) [] [3, 4])])]
def F__law_row : Fn := ⟨"_law_row", 3, runF 5 I__law_row⟩
@[simp] theorem ar__law_row : F__law_row.ar = 3 := Eq.trans rfl rfl
@[simp] theorem nm__law_row : F__law_row.name = "_law_row" := Eq.trans rfl rfl
def I__law_table : List Stm := [.set (.one 3) (.call F__law_columns [(.var 0), (.var 1)]),
  .set (.one 4) (.comp (.call F__law_row [(.var 0), (.var 1), (.var 3)]) (.one 5) (.rng [(.call F__law_draw [(.var 0), (.var 1), (.op .add (.var 2) (.lit (.int 1)))])]) [] [5]),
  .ret (.tup [(.var 3), (.var 4)])]
def F__law_table : Fn := ⟨"_law_table", 3, runF 6 I__law_table⟩
@[simp] theorem ar__law_table : F__law_table.ar = 3 := Eq.trans rfl rfl
@[simp] theorem nm__law_table : F__law_table.name = "_law_table" := Eq.trans rfl rfl
def I__law_behind : List Stm := [.set (.many [3, 4]) (.var 1),
  .set (.one 2) (.comp (.var 5) (.one 5) (.var 0) [(.cmp .eq (.slc (.idx (.var 5) (.lit (.int 1))) none (some (.bi .len [(.var 3)]))) (.var 3))] [5]),
  .ret (.comp (.idx (.var 5) (.lit (.int 0))) (.one 5) (.var 2) [(.cmp .eq (.slc (.idx (.var 5) (.lit (.int 2))) none (some (.bi .len [(.var 4)]))) (.var 4))] [5])]
def F__law_behind : Fn := ⟨"_law_behind", 2, runF 6 I__law_behind⟩
@[simp] theorem ar__law_behind : F__law_behind.ar = 2 := Eq.trans rfl rfl
@[simp] theorem nm__law_behind : F__law_behind.name = "_law_behind" := Eq.trans rfl rfl
def B__law_least_0 : List Stm := [.par 3 4 (.var 4) (.op .mod (.var 3) (.var 4))]
def I__law_least : List Stm := [.ifs (.cmp .eq (.var 1) (.lit (.int 0))) [.ret (.lit (.non))] [],
  .par 3 4 (.bi .abs [(.var 0)]) (.bi .abs [(.var 1)]),
  .whl 10000000000000000000000000000000000000000 (.cmp .gt (.var 4) (.lit (.int 0))) B__law_least_0,
  .set (.one 2) (.ite (.cmp .gt (.var 1) (.lit (.int 0))) (.var 3) (.op .sub (.lit (.int 0)) (.var 3))),
  .ret (.tup [(.op .fdiv (.var 0) (.var 2)), (.op .fdiv (.var 1) (.var 2))])]
def F__law_least : Fn := ⟨"_law_least", 2, runF 5 I__law_least⟩
@[simp] theorem ar__law_least : F__law_least.ar = 2 := Eq.trans rfl rfl
@[simp] theorem nm__law_least : F__law_least.name = "_law_least" := Eq.trans rfl rfl
def I__law_at : List Stm := [.ret (.idx (.comp (.idx (.var 1) (.var 3)) (.one 3) (.rng [(.bi .len [(.var 1)])]) [(.cmp .eq (.idx (.idx (.var 0) (.var 3)) (.lit (.int 0))) (.var 2))] [3]) (.lit (.int 0)))]
def F__law_at : Fn := ⟨"_law_at", 3, runF 4 I__law_at⟩
@[simp] theorem ar__law_at : F__law_at.ar = 3 := Eq.trans rfl rfl
@[simp] theorem nm__law_at : F__law_at.name = "_law_at" := Eq.trans rfl rfl
def I__law_one : List Stm := [.set (.one 4) (.call F__law_behind [(.var 1), (.var 3)]),
  .ifs (.cmp .eq (.idx (.var 2) (.lit (.int 0))) (.lit (.str "count"))) [.ret (.bi .len [(.var 4)])] [],
  .set (.one 5) (.comp (.call F__law_at [(.idx (.var 0) (.lit (.int 0))), (.idx (.idx (.var 0) (.lit (.int 1))) (.var 9)), (.idx (.var 2) (.lit (.int 1)))]) (.one 9) (.var 4) [] [9]),
  .set (.one 5) (.comp (.var 10) (.one 10) (.var 5) [(.isn true (.var 10))] [10]),
  .ifs (.cmp .inn (.idx (.var 2) (.lit (.int 0))) (.tup [(.lit (.str "filled")), (.lit (.str "unlike"))])) [.ret (.ite (.cmp .eq (.idx (.var 2) (.lit (.int 0))) (.lit (.str "filled"))) (.bi .len [(.var 5)]) (.lens (.var 5)))] [],
  .set (.one 6) (.bi .sum [(.var 5)]),
  .ifs (.cmp .inn (.idx (.var 2) (.lit (.int 0))) (.tup [(.lit (.str "sum")), (.lit (.str "mean"))])) [.ret (.ite (.cmp .eq (.idx (.var 2) (.lit (.int 0))) (.lit (.str "sum"))) (.var 6) (.call F__law_least [(.var 6), (.bi .len [(.var 5)])]))] [],
  .ifs (.cmp .inn (.idx (.var 2) (.lit (.int 0))) (.tup [(.lit (.str "least")), (.lit (.str "greatest"))])) [.ret (.ite (.cmp .ne (.var 5) (.lst [])) (.idx (.bi .srt [(.var 5)]) (.ite (.cmp .eq (.idx (.var 2) (.lit (.int 0))) (.lit (.str "least"))) (.lit (.int 0)) (.op .sub (.bi .len [(.var 5)]) (.lit (.int 1))))) (.lit (.non)))] [],
  .set (.one 7) (.dsel ["of all", "of row", "of column"] [(.tup [(.tup []), (.tup [])]), (.tup [(.idx (.var 3) (.lit (.int 0))), (.tup [])]), (.tup [(.tup []), (.idx (.var 3) (.lit (.int 1)))])] (.idx (.var 2) (.lit (.int 0)))),
  .set (.one 8) (.comp (.call F__law_at [(.idx (.var 0) (.lit (.int 0))), (.idx (.idx (.var 0) (.lit (.int 1))) (.var 9)), (.idx (.var 2) (.lit (.int 1)))]) (.one 9) (.call F__law_behind [(.var 1), (.var 7)]) [] [9]),
  .ret (.call F__law_least [(.var 6), (.bi .sum [(.comp (.var 10) (.one 10) (.var 8) [(.isn true (.var 10))] [10])])])]
def F__law_one : Fn := ⟨"_law_one", 4, runF 11 I__law_one⟩
@[simp] theorem ar__law_one : F__law_one.ar = 4 := Eq.trans rfl rfl
@[simp] theorem nm__law_one : F__law_one.name = "_law_one" := Eq.trans rfl rfl
def I__law_told : List Stm := [.set (.one 2) (.lit (.non)),
  .set (.one 3) (.lit (.non)),
  .tryV [.set (.one 3) (.call F__law_one [(.var 0), (.var 1)])] "SheetError" 4 2,
  .ret (.ite (.isn false (.var 2)) (.tup [(.lit (.str "found")), (.var 3)]) (.call F__law_refusal [(.var 2)]))]
def F__law_told : Fn := ⟨"_law_told", 2, runF 5 I__law_told⟩
@[simp] theorem ar__law_told : F__law_told.ar = 2 := Eq.trans rfl rfl
@[simp] theorem nm__law_told : F__law_told.name = "_law_told" := Eq.trans rfl rfl
def I__law_key : List Stm := [.set (.many [4, 5]) (.call F__law_pick [(.var 0), (.var 1), (.var 2)]),
  .set (.one 3) (.call F__law_draw [(.var 0), (.var 1), (.lit (.int 3))]),
  .ifs (.cmp .gt (.var 3) (.lit (.int 0))) [.ret (.var 4)] [],
  .ifs (.cmp .eq (.var 5) (.lit (.str "number"))) [.ret (.tup [(.lit (.str "band")), (.var 4), (.call F__law_pick [(.var 0), (.var 1), (.lst [(.lit (.int 1)), (.lit (.int 2)), (.lit (.int 3)), (.lit (.int 10)), (.lit (.int 1000000))])])])] [],
  .ret (.tup [(.lit (.str "first")), (.var 4), (.call F__law_pick [(.var 0), (.var 1), (.lst [(.lit (.int 1)), (.lit (.int 1)), (.lit (.int 2)), (.lit (.int 8))])])])]
def F__law_key : Fn := ⟨"_law_key", 3, runF 6 I__law_key⟩
@[simp] theorem ar__law_key : F__law_key.ar = 3 := Eq.trans rfl rfl
@[simp] theorem nm__law_key : F__law_key.name = "_law_key" := Eq.trans rfl rfl
def I__law_sum : List Stm := [.set (.one 3) (.call F__law_draw [(.var 0), (.var 1), (.lit (.int 10))]),
  .set (.one 4) (.comp (.var 6) (.many [6, 7]) (.var 2) [(.cmp .eq (.var 7) (.lit (.str "number")))] [6, 7]),
  .ifs (.cmp .eq (.var 3) (.lit (.int 0))) [.ret (.tup [(.lit (.str "count"))])] [],
  .ifs (.cmp .lt (.var 3) (.lit (.int 3))) [.ret (.tup [(.call F__law_pick [(.var 0), (.var 1), (.lst [(.lit (.str "unlike")), (.lit (.str "filled"))])]), (.idx (.call F__law_pick [(.var 0), (.var 1), (.var 2)]) (.lit (.int 0)))])] [],
  .set (.one 5) (.lst [(.lit (.str "sum")), (.lit (.str "least")), (.lit (.str "greatest")), (.lit (.str "mean")), (.lit (.str "of all")), (.lit (.str "of row")), (.lit (.str "of column"))]),
  .ret (.tup [(.idx (.var 5) (.op .sub (.var 3) (.lit (.int 3)))), (.call F__law_pick [(.var 0), (.var 1), (.var 4)])])]
def F__law_sum : Fn := ⟨"_law_sum", 3, runF 8 I__law_sum⟩
@[simp] theorem ar__law_sum : F__law_sum.ar = 3 := Eq.trans rfl rfl
@[simp] theorem nm__law_sum : F__law_sum.name = "_law_sum" := Eq.trans rfl rfl
def I__law_sift : List Stm := [.set (.many [3, 4]) (.call F__law_pick [(.var 0), (.var 1), (.var 2)]),
  .ifs (.bop true [(.cmp .eq (.var 4) (.lit (.str "number"))), (.cmp .eq (.call F__law_draw [(.var 0), (.var 1), (.lit (.int 2))]) (.lit (.int 0)))]) [.set (.one 5) (.call F__law_pick [(.var 0), (.var 1), (.lst [(.op .sub (.lit (.int 0)) (.lit (.int 1000000))), (.op .sub (.lit (.int 0)) (.lit (.int 5))), (.lit (.int 0))])]),
  .ret (.tup [(.lit (.str "from")), (.var 3), (.var 5), (.call F__law_pick [(.var 0), (.var 1), (.lst [(.lit (.int 1)), (.lit (.int 50)), (.lit (.int 1000000)), (.op .sub (.lit (.int 0)) (.lit (.int 9)))])])])] [],
  .ret (.tup [(.call F__law_pick [(.var 0), (.var 1), (.lst [(.lit (.str "is")), (.lit (.str "not")), (.lit (.str "not"))])]), (.var 3), (.call F__law_value [(.var 0), (.var 1), (.var 4)])])]
def F__law_sift : Fn := ⟨"_law_sift", 3, runF 6 I__law_sift⟩
@[simp] theorem ar__law_sift : F__law_sift.ar = 3 := Eq.trans rfl rfl
@[simp] theorem nm__law_sift : F__law_sift.name = "_law_sift" := Eq.trans rfl rfl
def I__law_plan : List Stm := [.set (.one 4) (.comp (.call F__law_key [(.var 0), (.var 1), (.var 2)]) (.one 9) (.rng [(.op .mul (.lit (.int 2)) (.var 3))]) [] [9]),
  .set (.one 5) (.bi .tuple [(.slc (.var 4) none (some (.call F__law_draw [(.var 0), (.var 1), (.op .add (.var 3) (.lit (.int 1)))])))]),
  .set (.one 6) (.bi .tuple [(.comp (.call F__law_sum [(.var 0), (.var 1), (.var 2)]) (.one 9) (.rng [(.op .add (.lit (.int 1)) (.call F__law_draw [(.var 0), (.var 1), (.lit (.int 4))]))]) [] [9])]),
  .set (.one 7) (.call F__law_pick [(.var 0), (.var 1), (.lst [(.lit (.int 0)), (.lit (.int 0)), (.lit (.int 1)), (.lit (.int 2)), (.lit (.int 3))])]),
  .set (.one 8) (.bi .tuple [(.comp (.call F__law_sift [(.var 0), (.var 1), (.var 2)]) (.one 9) (.rng [(.var 7)]) [] [9])]),
  .ret (.tup [(.var 5), (.bi .tuple [(.slc (.var 4) (some (.var 3)) (some (.op .add (.var 3) (.call F__law_draw [(.var 0), (.var 1), (.op .add (.var 3) (.lit (.int 1)))]))))]), (.var 6), (.var 8)])]
def F__law_plan : Fn := ⟨"_law_plan", 4, runF 10 I__law_plan⟩
@[simp] theorem ar__law_plan : F__law_plan.ar = 4 := Eq.trans rfl rfl
@[simp] theorem nm__law_plan : F__law_plan.name = "_law_plan" := Eq.trans rfl rfl
def I__law_mark : List Stm := [.ret (.comp (.ite (.isn false (.var 1)) (.tup [(.lit (.int 0)), (.lit (.int 0)), (.lit (.str ""))]) (.ite (.isi .str (.var 1)) (.tup [(.lit (.int 1)), (.lit (.int 0)), (.var 1)]) (.tup [(.lit (.int 1)), (.var 1), (.lit (.str ""))]))) (.one 1) (.var 0) [] [1])]
def F__law_mark : Fn := ⟨"_law_mark", 1, runF 2 I__law_mark⟩
@[simp] theorem ar__law_mark : F__law_mark.ar = 1 := Eq.trans rfl rfl
@[simp] theorem nm__law_mark : F__law_mark.name = "_law_mark" := Eq.trans rfl rfl
def I__law_heads : List Stm := [.set (.one 1) (.lst [(.tup [])]),
  .for (.one 2) (.var 0) [.set (.one 1) (.op .add (.var 1) (.comp (.slc (.var 2) none (some (.var 4))) (.one 4) (.rng [(.lit (.int 1)), (.op .add (.bi .len [(.var 2)]) (.lit (.int 1)))]) [] [4]))],
  .set (.one 1) (.comp (.idx (.var 1) (.var 4)) (.one 4) (.rng [(.bi .len [(.var 1)])]) [(.cmp .nin (.idx (.var 1) (.var 4)) (.slc (.var 1) none (some (.var 4))))] [4]),
  .set (.one 3) (.bi .srt [(.comp (.tup [(.call F__law_mark [(.idx (.var 1) (.var 4))]), (.var 4)]) (.one 4) (.rng [(.bi .len [(.var 1)])]) [] [4])]),
  .ret (.comp (.idx (.var 1) (.var 4)) (.many [5, 4]) (.var 3) [] [5, 4])]
def F__law_heads : Fn := ⟨"_law_heads", 1, runF 6 I__law_heads⟩
@[simp] theorem ar__law_heads : F__law_heads.ar = 1 := Eq.trans rfl rfl
@[simp] theorem nm__law_heads : F__law_heads.name = "_law_heads" := Eq.trans rfl rfl
def I_strained : List Stm := [.exp (.call F_look_table [(.var 0)]),
  .ifs (.nt (.call F_are_all [(.var 1), (.glob "MOST_SIFTS" (.int 3)), (.glob "is_sift" (.fn "is_sift")), (.idx (.var 0) (.lit (.int 0)))])) [.rai "BadPlan"] [],
  .ret (.tup [(.idx (.var 0) (.lit (.int 0))), (.comp (.var 2) (.one 2) (.idx (.var 0) (.lit (.int 1))) [(.call F_counts [(.idx (.var 0) (.lit (.int 0))), (.var 1), (.var 2)])] [2])])]
def F_strained : Fn := ⟨"strained", 2, runF 3 I_strained⟩
@[simp] theorem ar_strained : F_strained.ar = 2 := Eq.trans rfl rfl
@[simp] theorem nm_strained : F_strained.name = "strained" := Eq.trans rfl rfl
def B__law_counts_0 : List Stm := [.set (.one 4) (.call F__law_at [(.var 0), (.var 2), (.idx (.var 3) (.lit (.int 1)))]),
  .ifs (.bop false [(.bop true [(.cmp .eq (.idx (.var 3) (.lit (.int 0))) (.lit (.str "is"))), (.cmp .ne (.var 4) (.idx (.var 3) (.lit (.int 2))))]), (.bop true [(.cmp .eq (.idx (.var 3) (.lit (.int 0))) (.lit (.str "not"))), (.cmp .eq (.var 4) (.idx (.var 3) (.lit (.int 2))))])]) [.ret (.lit (.bl false))] [],
  .ifs (.bop true [(.cmp .eq (.idx (.var 3) (.lit (.int 0))) (.lit (.str "from"))), (.isn false (.var 4))]) [.ret (.lit (.bl false))] [],
  .ifs (.bop true [(.cmp .eq (.idx (.var 3) (.lit (.int 0))) (.lit (.str "from"))), (.bop false [(.cmp .lt (.var 4) (.idx (.var 3) (.lit (.int 2)))), (.cmp .lt (.idx (.var 3) (.lit (.int 3))) (.var 4))])]) [.ret (.lit (.bl false))] []]
def I__law_counts : List Stm := [.for (.one 3) (.var 1) B__law_counts_0,
  .ret (.lit (.bl true))]
def F__law_counts : Fn := ⟨"_law_counts", 3, runF 5 I__law_counts⟩
@[simp] theorem ar__law_counts : F__law_counts.ar = 3 := Eq.trans rfl rfl
@[simp] theorem nm__law_counts : F__law_counts.name = "_law_counts" := Eq.trans rfl rfl
def B__law_path_0 : List Stm := [.set (.one 5) (.call F__law_at [(.var 0), (.var 2), (.ite (.isi .str (.var 4)) (.var 4) (.idx (.var 4) (.lit (.int 1))))]),
  .ifs (.bop true [(.isn true (.var 5)), (.nt (.isi .str (.var 4)))]) [.set (.one 5) (.ite (.cmp .eq (.idx (.var 4) (.lit (.int 0))) (.lit (.str "band"))) (.op .sub (.var 5) (.op .mod (.var 5) (.idx (.var 4) (.lit (.int 2))))) (.slc (.var 5) none (some (.idx (.var 4) (.lit (.int 2))))))] [],
  .app 3 (.var 5)]
def I__law_path : List Stm := [.seto 3 (.lst []),
  .for (.one 4) (.var 1) B__law_path_0,
  .ret (.bi .tuple [(.own 3)])]
def F__law_path : Fn := ⟨"_law_path", 3, runF 6 I__law_path⟩
@[simp] theorem ar__law_path : F__law_path.ar = 3 := Eq.trans rfl rfl
@[simp] theorem nm__law_path : F__law_path.name = "_law_path" := Eq.trans rfl rfl
def B__law_rows_0 : List Stm := [.set (.one 6) (.idx (.idx (.var 0) (.lit (.int 1))) (.var 5)),
  .app 4 (.tup [(.var 5), (.call F__law_path [(.var 2), (.idx (.var 1) (.lit (.int 0))), (.var 6)]), (.call F__law_path [(.var 2), (.idx (.var 1) (.lit (.int 1))), (.var 6)])])]
def I__law_rows : List Stm := [.set (.one 2) (.idx (.var 0) (.lit (.int 0))),
  .set (.one 3) (.comp (.var 5) (.one 5) (.rng [(.bi .len [(.idx (.var 0) (.lit (.int 1)))])]) [(.call F__law_counts [(.var 2), (.idx (.var 1) (.lit (.int 3))), (.idx (.idx (.var 0) (.lit (.int 1))) (.var 5))])] [5]),
  .seto 4 (.lst []),
  .for (.one 5) (.var 3) B__law_rows_0,
  .frz 4,
  .ret (.var 4)]
def F__law_rows : Fn := ⟨"_law_rows", 2, runF 7 I__law_rows⟩
@[simp] theorem ar__law_rows : F__law_rows.ar = 2 := Eq.trans rfl rfl
@[simp] theorem nm__law_rows : F__law_rows.name = "_law_rows" := Eq.trans rfl rfl
def I__law_sums_at : List Stm := [.ret (.bi .tuple [(.comp (.call F__law_one [(.var 0), (.var 2), (.var 4), (.var 3)]) (.one 4) (.idx (.var 1) (.lit (.int 2))) [] [4])])]
def F__law_sums_at : Fn := ⟨"_law_sums_at", 4, runF 5 I__law_sums_at⟩
@[simp] theorem ar__law_sums_at : F__law_sums_at.ar = 4 := Eq.trans rfl rfl
@[simp] theorem nm__law_sums_at : F__law_sums_at.name = "_law_sums_at" := Eq.trans rfl rfl
def I_fitted : List Stm := [.ifs (.bop false [(.cmp .gt (.bi .len [(.var 0)]) (.glob "MOST_COLUMNS" (.int 6))), (.cmp .gt (.bi .len [(.var 1)]) (.glob "MOST_ROWS" (.int 24)))]) [.rai "BadTable"] [],
  .ret (.tup [(.var 0), (.var 1)])]
def F_fitted : Fn := ⟨"fitted", 2, runF 2 I_fitted⟩
@[simp] theorem ar_fitted : F_fitted.ar = 2 := Eq.trans rfl rfl
@[simp] theorem nm_fitted : F_fitted.name = "fitted" := Eq.trans rfl rfl
def B_joined_0 : List Stm := [.set (.one 9) (.comp (.var 11) (.one 11) (.idx (.var 1) (.lit (.int 1))) [(.bop true [(.cmp .eq (.idx (.var 11) (.var 8)) (.idx (.var 6) (.var 7))), (.isn true (.idx (.var 6) (.var 7)))])] [11]),
  .ext 5 (.comp (.op .add (.var 6) (.bi .tuple [(.comp (.idx (.var 11) (.var 10)) (.one 10) (.var 4) [] [10])])) (.one 11) (.var 9) [] [11]),
  .ifs (.bop true [(.nt (.var 9)), (.var 3)]) [.app 5 (.op .add (.var 6) (.px pMulT [(.tup [(.lit (.non))]), (.bi .len [(.var 4)])]))] []]
def I_joined : List Stm := [.exp (.call F_look_table [(.var 0)]),
  .exp (.call F_look_table [(.var 1)]),
  .ifs (.bop false [(.isn false (.call F_kind_of [(.idx (.var 0) (.lit (.int 0))), (.var 2)])), (.cmp .ne (.call F_kind_of [(.idx (.var 0) (.lit (.int 0))), (.var 2)]) (.call F_kind_of [(.idx (.var 1) (.lit (.int 0))), (.var 2)]))]) [.rai "BadTable"] [],
  .set (.many [7, 8]) (.tup [(.call F_place_of [(.idx (.var 0) (.lit (.int 0))), (.var 2)]), (.call F_place_of [(.idx (.var 1) (.lit (.int 0))), (.var 2)])]),
  .set (.one 4) (.comp (.var 10) (.one 10) (.rng [(.bi .len [(.idx (.var 1) (.lit (.int 0)))])]) [(.cmp .ne (.var 10) (.var 8))] [10]),
  .ifs (.bi .any [(.comp (.isn true (.call F_place_of [(.idx (.var 0) (.lit (.int 0))), (.idx (.idx (.idx (.var 1) (.lit (.int 0))) (.var 10)) (.lit (.int 0)))])) (.one 10) (.var 4) [] [10])]) [.rai "BadTable"] [],
  .seto 5 (.lst []),
  .for (.one 6) (.idx (.var 0) (.lit (.int 1))) B_joined_0,
  .frz 5,
  .ret (.call F_fitted [(.op .add (.idx (.var 0) (.lit (.int 0))) (.bi .tuple [(.comp (.idx (.idx (.var 1) (.lit (.int 0))) (.var 10)) (.one 10) (.var 4) [] [10])])), (.var 5)])]
def F_joined : Fn := ⟨"joined", 4, runF 12 I_joined⟩
@[simp] theorem ar_joined : F_joined.ar = 4 := Eq.trans rfl rfl
@[simp] theorem nm_joined : F_joined.name = "joined" := Eq.trans rfl rfl
def I_picked : List Stm := [.exp (.call F_look_table [(.var 0)]),
  .ifs (.bop false [(.nt (.isi .tuple (.var 1))), (.cmp .eq (.bi .len [(.var 1)]) (.lit (.int 0)))]) [.rai "BadTable"] [],
  .ifs (.nt (.bi .all [(.comp (.isn true (.call F_kind_of [(.idx (.var 0) (.lit (.int 0))), (.var 4)])) (.one 4) (.var 1) [] [4])])) [.rai "BadTable"] [],
  .ifs (.cmp .lt (.lens (.var 1)) (.bi .len [(.var 1)])) [.rai "BadTable"] [],
  .set (.one 2) (.comp (.call F_place_of [(.idx (.var 0) (.lit (.int 0))), (.var 4)]) (.one 4) (.var 1) [] [4]),
  .set (.one 3) (.bi .tuple [(.comp (.idx (.idx (.var 0) (.lit (.int 0))) (.var 5)) (.one 5) (.var 2) [] [5])]),
  .ret (.tup [(.var 3), (.comp (.bi .tuple [(.comp (.idx (.var 6) (.var 5)) (.one 5) (.var 2) [] [5])]) (.one 6) (.idx (.var 0) (.lit (.int 1))) [] [6])])]
def F_picked : Fn := ⟨"picked", 2, runF 7 I_picked⟩
@[simp] theorem ar_picked : F_picked.ar = 2 := Eq.trans rfl rfl
@[simp] theorem nm_picked : F_picked.name = "picked" := Eq.trans rfl rfl
def I_stacked : List Stm := [.exp (.call F_look_table [(.var 0)]),
  .exp (.call F_look_table [(.var 1)]),
  .ifs (.cmp .ne (.idx (.var 0) (.lit (.int 0))) (.idx (.var 1) (.lit (.int 0)))) [.rai "BadTable"] [],
  .ret (.call F_fitted [(.idx (.var 0) (.lit (.int 0))), (.op .add (.idx (.var 0) (.lit (.int 1))) (.idx (.var 1) (.lit (.int 1))))])]
def F_stacked : Fn := ⟨"stacked", 2, runF 2 I_stacked⟩
@[simp] theorem ar_stacked : F_stacked.ar = 2 := Eq.trans rfl rfl
@[simp] theorem nm_stacked : F_stacked.name = "stacked" := Eq.trans rfl rfl
def I__law_plans : List Stm := [.set (.one 5) (.idx (.var 2) (.lit (.int 0))),
  .set (.one 6) (.call F__law_key [(.var 0), (.var 1), (.var 5)]),
  .ifs (.bop true [(.cmp .eq (.var 4) (.lit (.int 0))), (.cmp .lt (.bi .len [(.idx (.var 3) (.lit (.int 0)))]) (.lit (.int 3)))]) [.ret (.tup [(.lst [(.var 6)]), (.op .add (.tup [(.op .add (.idx (.var 3) (.lit (.int 0))) (.tup [(.var 6)]))]) (.slc (.var 3) (some (.lit (.int 1))) none))])] [],
  .ifs (.bop true [(.cmp .eq (.var 4) (.lit (.int 1))), (.cmp .ne (.idx (.var 3) (.lit (.int 0))) (.tup []))]) [.ret (.tup [(.lst []), (.op .add (.tup [(.slc (.idx (.var 3) (.lit (.int 0))) none (some (.neg (.lit (.int 1)))))]) (.slc (.var 3) (some (.lit (.int 1))) none))])] [],
  .set (.one 7) (.call F__law_draw [(.var 0), (.var 1), (.lit (.int 3))]),
  .set (.one 8) (.slc (.idx (.var 3) (.lit (.int 0))) none (some (.var 7))),
  .set (.one 9) (.cmp .eq (.comp (.var 6) (.one 6) (.var 8) [(.nt (.isi .str (.var 6)))] [6]) (.lst [])),
  .ifs (.bop true [(.cmp .eq (.var 4) (.lit (.int 2))), (.cmp .eq (.bi .len [(.var 8)]) (.var 7)), (.cmp .le (.op .add (.bi .len [(.idx (.var 3) (.lit (.int 3)))]) (.var 7)) (.lit (.int 3))), (.var 9)]) [.set (.one 10) (.px pMulT [(.tup [(.lit (.non))]), (.var 7)]),
  .ifs (.cmp .ne (.idx (.var 2) (.lit (.int 1))) (.lst [])) [.set (.one 10) (.call F__law_path [(.var 5), (.var 8), (.call F__law_pick [(.var 0), (.var 1), (.idx (.var 2) (.lit (.int 1)))])])] [],
  .set (.one 11) (.bi .tuple [(.comp (.tup [(.lit (.str "is")), (.idx (.var 8) (.var 14)), (.idx (.var 10) (.var 14))]) (.one 14) (.rng [(.var 7)]) [] [14])]),
  .ret (.tup [(.lst [(.var 10)]), (.op .add (.op .add (.tup [(.slc (.idx (.var 3) (.lit (.int 0))) (some (.var 7)) none)]) (.slc (.var 3) (some (.lit (.int 1))) (some (.lit (.int 3))))) (.tup [(.op .add (.idx (.var 3) (.lit (.int 3))) (.var 11))]))])] [],
  .ifs (.cmp .eq (.var 4) (.lit (.int 3))) [.set (.one 12) (.px pDictP [(.lst [(.tup [(.lit (.str "of row")), (.lit (.str "of column"))]), (.tup [(.lit (.str "of column")), (.lit (.str "of row"))])])]),
  .set (.one 13) (.bi .tuple [(.comp (.op .add (.tup [(.px pGet [(.var 12), (.idx (.var 15) (.lit (.int 0))), (.idx (.var 15) (.lit (.int 0)))])]) (.slc (.var 15) (some (.lit (.int 1))) none)) (.one 15) (.idx (.var 3) (.lit (.int 2))) [] [15])]),
  .ret (.tup [(.lst []), (.tup [(.idx (.var 3) (.lit (.int 1))), (.idx (.var 3) (.lit (.int 0))), (.var 13), (.idx (.var 3) (.lit (.int 3)))])])] [],
  .ret (.lit (.non))]
def F__law_plans : Fn := ⟨"_law_plans", 5, runF 16 I__law_plans⟩
@[simp] theorem ar__law_plans : F__law_plans.ar = 5 := Eq.trans rfl rfl
@[simp] theorem nm__law_plans : F__law_plans.name = "_law_plans" := Eq.trans rfl rfl
def I_look_two : List Stm := [.exp (.call F_look_table [(.var 0)]),
  .exp (.call F_look_table [(.var 1)]),
  .ifs (.cmp .ne (.idx (.var 0) (.lit (.int 0))) (.idx (.var 1) (.lit (.int 0)))) [.rai "BadTable"] []]
def F_look_two : Fn := ⟨"look_two", 2, runF 2 I_look_two⟩
@[simp] theorem ar_look_two : F_look_two.ar = 2 := Eq.trans rfl rfl
@[simp] theorem nm_look_two : F_look_two.name = "look_two" := Eq.trans rfl rfl
def I_changes : List Stm := [.exp (.call F_look_two [(.var 0), (.var 1)]),
  .seto 2 (.lrng [(.bi .len [(.idx (.var 1) (.lit (.int 1)))])]),
  .seto 3 (.lst []),
  .for (.one 4) (.rng [(.bi .len [(.idx (.var 0) (.lit (.int 1)))])]) [.set (.one 5) (.comp (.var 6) (.one 6) (.own 2) [(.cmp .eq (.idx (.idx (.var 1) (.lit (.int 1))) (.var 6)) (.idx (.idx (.var 0) (.lit (.int 1))) (.var 4)))] [6]),
  .ifs (.var 5) [.rem 2 (.idx (.var 5) (.lit (.int 0)))] [.app 3 (.var 4)]],
  .frz 2,
  .frz 3,
  .ret (.tup [(.var 3), (.var 2)])]
def F_changes : Fn := ⟨"changes", 2, runF 7 I_changes⟩
@[simp] theorem ar_changes : F_changes.ar = 2 := Eq.trans rfl rfl
@[simp] theorem nm_changes : F_changes.name = "changes" := Eq.trans rfl rfl
def I__law_two : List Stm := [.set (.one 3) (.call F__law_table [(.var 0), (.var 1), (.var 2)]),
  .set (.many [6, 7]) (.var 3),
  .set (.one 4) (.op .add (.slc (.var 7) (some (.call F__law_draw [(.var 0), (.var 1), (.op .add (.bi .len [(.var 7)]) (.lit (.int 1)))])) none) (.slc (.var 7) none (some (.call F__law_draw [(.var 0), (.var 1), (.lit (.int 3))])))),
  .set (.one 5) (.comp (.call F__law_row [(.var 0), (.var 1), (.var 6)]) (.one 8) (.rng [(.call F__law_draw [(.var 0), (.var 1), (.lit (.int 4))])]) [] [8]),
  .ret (.tup [(.var 3), (.tup [(.var 6), (.op .add (.var 4) (.var 5))])])]
def F__law_two : Fn := ⟨"_law_two", 3, runF 9 I__law_two⟩
@[simp] theorem ar__law_two : F__law_two.ar = 3 := Eq.trans rfl rfl
@[simp] theorem nm__law_two : F__law_two.name = "_law_two" := Eq.trans rfl rfl
def I_look_runs : List Stm := [.exp (.call F_look_sum [(.var 0), (.var 1)]),
  .ifs (.cmp .nin (.idx (.idx (.idx (.var 0) (.lit (.int 2))) (.var 1)) (.lit (.int 0))) (.tup [(.lit (.str "count")), (.lit (.str "sum")), (.lit (.str "filled"))])) [.rai "BadNumber"] []]
def F_look_runs : Fn := ⟨"look_runs", 2, runF 2 I_look_runs⟩
@[simp] theorem ar_look_runs : F_look_runs.ar = 2 := Eq.trans rfl rfl
@[simp] theorem nm_look_runs : F_look_runs.name = "look_runs" := Eq.trans rfl rfl
def I_sum_at : List Stm := [.ret (.call F_one_sum [(.var 0), (.call F_counted [(.var 0), (.var 1)]), (.idx (.idx (.var 1) (.lit (.int 2))) (.var 3)), (.var 2), (.tup [])])]
def F_sum_at : Fn := ⟨"sum_at", 4, runF 4 I_sum_at⟩
@[simp] theorem ar_sum_at : F_sum_at.ar = 4 := Eq.trans rfl rfl
@[simp] theorem nm_sum_at : F_sum_at.name = "sum_at" := Eq.trans rfl rfl
def I_heads_of : List Stm := [.set (.one 3) (.idx (.call F_sides [(.var 0), (.var 2)]) (.lit (.int 0))),
  .set (.one 3) (.op .add (.var 3) (.comp (.var 5) (.one 5) (.idx (.call F_sides [(.var 1), (.var 2)]) (.lit (.int 0))) [(.cmp .nin (.var 5) (.var 3))] [5])),
  .set (.one 4) (.bi .srt [(.comp (.tup [(.call F_ranked [(.idx (.var 3) (.var 6))]), (.var 6)]) (.one 6) (.rng [(.bi .len [(.var 3)])]) [] [6])]),
  .ret (.comp (.idx (.var 3) (.var 6)) (.many [7, 6]) (.var 4) [] [7, 6])]
def F_heads_of : Fn := ⟨"heads_of", 3, runF 8 I_heads_of⟩
@[simp] theorem ar_heads_of : F_heads_of.ar = 3 := Eq.trans rfl rfl
@[simp] theorem nm_heads_of : F_heads_of.name = "heads_of" := Eq.trans rfl rfl
def B_parted_0 : List Stm := [.ifs (.bop true [(.cmp .eq (.bi .len [(.var 7)]) (.op .add (.bi .len [(.var 3)]) (.lit (.int 1)))), (.call F_begins [(.var 7), (.var 3)])]) [.set (.one 8) (.op .sub (.call F_sum_at [(.var 1), (.var 2), (.var 7), (.var 4)]) (.call F_sum_at [(.var 0), (.var 2), (.var 7), (.var 4)])),
  .ext 6 (.ite (.cmp .eq (.var 8) (.lit (.int 0))) (.lst []) (.lst [(.tup [(.var 7), (.var 8)])]))] []]
def I_parted : List Stm := [.exp (.call F_look_two [(.var 0), (.var 1)]),
  .exp (.call F_look_plan [(.idx (.var 0) (.lit (.int 0))), (.var 2)]),
  .set (.one 5) (.call F_heads_of [(.var 0), (.var 1), (.var 2)]),
  .ifs (.cmp .nin (.var 3) (.var 5)) [.rai "NoPlace"] [],
  .exp (.call F_look_runs [(.var 2), (.var 4)]),
  .seto 6 (.lst []),
  .for (.one 7) (.var 5) B_parted_0,
  .frz 6,
  .ret (.var 6)]
def F_parted : Fn := ⟨"parted", 5, runF 9 I_parted⟩
@[simp] theorem ar_parted : F_parted.ar = 5 := Eq.trans rfl rfl
@[simp] theorem nm_parted : F_parted.name = "parted" := Eq.trans rfl rfl
def B_blamed_0 : List Stm := [.set (.one 5) (.call F_parted [(.var 0), (.var 1), (.var 2), (.var 4), (.var 3)]),
  .ifs (.nt (.var 5)) [.ret (.var 4)] [],
  .set (.one 6) (.bi .max1 [(.comp (.bi .abs [(.var 8)]) (.many [7, 8]) (.var 5) [] [7, 8])]),
  .set (.one 4) (.idx (.comp (.var 7) (.many [7, 8]) (.var 5) [(.cmp .eq (.bi .abs [(.var 8)]) (.var 6))] [7, 8]) (.lit (.int 0)))]
def I_blamed : List Stm := [.exp (.call F_look_two [(.var 0), (.var 1)]),
  .exp (.call F_look_plan [(.idx (.var 0) (.lit (.int 0))), (.var 2)]),
  .exp (.call F_look_runs [(.var 2), (.var 3)]),
  .set (.one 4) (.tup []),
  .whl 10000000000000000000000000000000000000000 (.lit (.bl true)) B_blamed_0]
def F_blamed : Fn := ⟨"blamed", 4, runF 9 I_blamed⟩
@[simp] theorem ar_blamed : F_blamed.ar = 4 := Eq.trans rfl rfl
@[simp] theorem nm_blamed : F_blamed.name = "blamed" := Eq.trans rfl rfl
end Pg
/-! GA: more of how to reckon with the evaluator; data that fit. -/
namespace Ss
open PySem L2
/-! ### data that fit: may be compared, no text or list too long -/
mutual
def D.sz : D → Bool
  | .str x => decide (x.length ≤ 16777216)
  | .lst xs => decide (xs.length ≤ 16777216) && D.szs xs
  | .tup xs => decide (xs.length ≤ 16777216) && D.szs xs
  | _ => true
def D.szs : List D → Bool
  | [] => true
  | x :: xs => D.sz x && D.szs xs
end
def D.gd (d : D) : Bool := d.okE && d.sz
theorem gd_okE {d : D} (h : d.gd = true) : d.okE = true := by
  simp only [D.gd, Bool.and_eq_true] at h; exact h.1
theorem okE_iff {d : D} : d.okE = true ↔ d.pl = true ∧ d.dep ≤ 60 := by
  simp only [D.okE, Bool.and_eq_true, decide_eq_true_eq]
theorem gd_iff {d : D} : d.gd = true ↔ d.pl = true ∧ d.dep ≤ 60 ∧ d.sz = true := by
  simp only [D.gd, Bool.and_eq_true, okE_iff]
  exact ⟨fun ⟨⟨a, b⟩, c⟩ => ⟨a, b, c⟩, fun ⟨a, b, c⟩ => ⟨⟨a, b⟩, c⟩⟩
theorem pls_mem' : ∀ {xs : List D}, D.pls xs = true → ∀ x ∈ xs, x.pl = true
  | x :: xs, h, y, hy => by
    simp only [D.pls, Bool.and_eq_true] at h
    rcases List.mem_cons.mp hy with rfl | hy
    · exact h.1
    · exact pls_mem' h.2 y hy
theorem szs_mem : ∀ {xs : List D}, D.szs xs = true → ∀ x ∈ xs, x.sz = true
  | x :: xs, h, y, hy => by
    simp only [D.szs, Bool.and_eq_true] at h
    rcases List.mem_cons.mp hy with rfl | hy
    · exact h.1
    · exact szs_mem h.2 y hy
theorem deps_mem' : ∀ {xs : List D}, ∀ x ∈ xs, x.dep ≤ D.deps xs
  | x :: xs, y, hy => by
    simp only [D.deps]
    rcases List.mem_cons.mp hy with rfl | hy
    · omega
    · have := deps_mem' (xs := xs) y hy; omega
theorem gd_tup {xs : List D} (h : (D.tup xs).gd = true) : ∀ x ∈ xs, x.gd = true := fun x hx => by
  rw [gd_iff] at h ⊢
  obtain ⟨a, b, c⟩ := h
  simp only [D.pl, D.dep, D.sz, Bool.and_eq_true] at a b c
  have := deps_mem' (xs := xs) x hx
  exact ⟨pls_mem' a x hx, by omega, szs_mem c.2 x hx⟩
theorem gd_lst {xs : List D} (h : (D.lst xs).gd = true) : ∀ x ∈ xs, x.gd = true := fun x hx => by
  rw [gd_iff] at h ⊢
  obtain ⟨a, b, c⟩ := h
  simp only [D.pl, D.dep, D.sz, Bool.and_eq_true] at a b c
  have := deps_mem' (xs := xs) x hx
  exact ⟨pls_mem' a x hx, by omega, szs_mem c.2 x hx⟩
theorem gd_str {x : Str} (h : (D.str x).gd = true) : x.length ≤ 16777216 := by
  rw [gd_iff] at h
  simpa only [D.sz, decide_eq_true_eq] using h.2.2
theorem gd_tlen {xs : List D} (h : (D.tup xs).gd = true) : xs.length ≤ 16777216 := by
  rw [gd_iff] at h
  have := h.2.2
  simp only [D.sz, Bool.and_eq_true, decide_eq_true_eq] at this
  exact this.1
theorem gd_int (i : Int) : (D.int i).gd = true := rfl
theorem gd_pl {d : D} (h : d.gd = true) : d.pl = true := (gd_iff.mp h).1
@[simp] theorem eq_gd {d e : D} (h : d.gd = true) (h' : e.gd = true) : Cm.f .eq d e = some (D.eqv d e) := cm_eq (gd_okE h) (gd_okE h')
theorem szs_all {α : Type} {f : α → D} {xs : List α} (h : ∀ x ∈ xs, (f x).sz = true) : D.szs (xs.map f) = true := by
  induction xs with
  | nil => simp only [List.map_nil, D.szs]
  | cons x xs ih => simp only [List.map_cons, D.szs, h x List.mem_cons_self, ih fun y hy => h y (List.mem_cons_of_mem _ hy), Bool.and_self]
/-! ### comparing simple things -/
@[simp] theorem eqv_ss {x y : Str} : D.eqv (.str x) (.str y) = (x == y) := by simp only [D.eqv]
@[simp] theorem eqv_ii {x y : Int} : D.eqv (.int x) (.int y) = (x == y) := by simp only [D.eqv]
@[simp] theorem eq_ii {i j : Int} : Cm.f .eq (.int i) (.int j) = some (decide (i = j)) := by
  rw [cm_eq (int_okE _) (int_okE _)]; simp [Bool.beq_eq_decide_eq]
@[simp] theorem ne_ii {i j : Int} : Cm.f .ne (.int i) (.int j) = some (!decide (i = j)) := by
  rw [cm_ne (int_okE _) (int_okE _)]; simp [Bool.beq_eq_decide_eq]
theorem str_okE {x : Str} (h : PyData.strOk x = true) : (D.str x).okE = true := okE_of (by simpa only [D.pl] using h) (by simp only [D.dep]; omega)
theorem eq_ss {x y : Str} (h : PyData.strOk x = true) (h' : PyData.strOk y = true) : Cm.f .eq (.str x) (.str y) = some (decide (x = y)) := by
  rw [cm_eq (str_okE h) (str_okE h')]; simp [Bool.beq_eq_decide_eq]
theorem ne_ss {x y : Str} (h : PyData.strOk x = true) (h' : PyData.strOk y = true) : Cm.f .ne (.str x) (.str y) = some (!decide (x = y)) := by
  rw [cm_ne (str_okE h) (str_okE h')]; simp [Bool.beq_eq_decide_eq]
theorem gd_strOk {x : Str} (h : (D.str x).gd = true) : PyData.strOk x = true := by
  have := gd_pl h; simpa only [D.pl] using this
/-! ### types -/
@[simp] theorem ty_non {t : Ty} : Ty.f t .non = some false := Eq.trans rfl rfl
@[simp] theorem ty_bl {t : Ty} {b : Bool} : Ty.f t (.bl b) = some (decide (t = .int ∨ t = .bool)) := Eq.trans rfl rfl
@[simp] theorem ty_int {t : Ty} {i : Int} : Ty.f t (.int i) = some (decide (t = .int)) := Eq.trans rfl rfl
@[simp] theorem ty_str {t : Ty} {x : Str} : Ty.f t (.str x) = some (decide (t = .str)) := Eq.trans rfl rfl
@[simp] theorem ty_lst {t : Ty} {xs : List D} : Ty.f t (.lst xs) = some (decide (t = .list)) := Eq.trans rfl rfl
@[simp] theorem ty_tup {t : Ty} {xs : List D} : Ty.f t (.tup xs) = some (decide (t = .tuple)) := Eq.trans rfl rfl
@[simp] theorem isN_non : isN .non = true := Eq.trans rfl rfl
@[simp] theorem isN_bl {b : Bool} : isN (.bl b) = false := Eq.trans rfl rfl
@[simp] theorem isN_int {b : Int} : isN (.int b) = false := Eq.trans rfl rfl
@[simp] theorem isN_str {b : Str} : isN (.str b) = false := Eq.trans rfl rfl
@[simp] theorem isN_lst {b : List D} : isN (.lst b) = false := Eq.trans rfl rfl
@[simp] theorem isN_tup {b : List D} : isN (.tup b) = false := Eq.trans rfl rfl
theorem len_str {x : Str} (h : x.length ≤ 16777216) : Bi.f .len [.str x] = some (.int x.length) := by
  simp only [Bi.f, lenD, if_pos (show x.length ≤ sizeLine from h), Option.map_some]
theorem items_str {x : Str} (h : x.length ≤ 16777216) : items (.str x) = some (x.cps.toList.map sgn) := by
  simp only [items, if_pos (show x.length ≤ sizeLine from h)]
/-! ### calls of what is handed in -/
def callF (gs : List Fn) (es : List IR) (ρ : Env) (d : Option D) : M D := match d with
  | some (.fn x) => (match gs.find? fun g => g.name == x with
    | some g => bnd (evs es ρ) fun ds => if ds.length = g.ar then g.sem ds else bad
    | none => bad)
  | _ => bad
@[simp] theorem ev_callv {i : Nat} {gs : List Fn} {es : List IR} {ρ : Env} : ev (.callv i gs es) ρ = callF gs es ρ (getD ρ i) := by
  simp only [ev]; rfl
@[simp] theorem ev_dkl {i : Nat} {ρ : Env} : ev (.dkl i) ρ = lft ((getK ρ i).map fun p => D.lst p.1) := by simp only [ev]
@[simp] theorem getK_zero {ks vs : List D} {ρ : Env} : getK (.odc ks vs :: ρ) 0 = some (ks, vs) := Eq.trans rfl rfl
@[simp] theorem getK_succ {s : Sl} {ρ : Env} {i : Nat} : getK (s :: ρ) (i + 1) = getK ρ i := Eq.trans rfl rfl
@[simp] theorem ex_dnw {i : Nat} {ρ : Env} : ex (.dnw i) ρ = ret (.nx (ρ.set i (.odc [] []))) := by simp only [ex]
@[simp] theorem ex_dpt {i : Nat} {k v : IR} {ρ : Env} : ex (.dpt i k v) ρ = stp ρ (ev v ρ) fun w => bnd (lft (getK ρ i)) fun p => stp ρ (ev k ρ) fun d => bnd (lft ((topKey d).bind fun q => if p.1.length < sizeLine then dput p.1 p.2 q d w else none)) fun p => ret (.nx (ρ.set i (.odc p.1 p.2))) := by simp only [ex]
/-! ### all, any of truths -/
theorem bools_map {α : Type} (p : α → Bool) : ∀ xs : List α, bools (xs.map fun x => D.bl (p x)) = some (xs.map p)
  | [] => rfl
  | x :: xs => by simp only [List.map_cons, bools, bools_map p xs, Option.map_some]
theorem all_map {α : Type} (p : α → Bool) (xs : List α) : Bi.f .all [.lst (xs.map fun x => D.bl (p x))] = some (.bl (xs.all p)) := by
  simp only [Bi.f, bools_map, Option.map_some, List.all_map]; rfl
theorem any_map {α : Type} (p : α → Bool) (xs : List α) : Bi.f .any [.lst (xs.map fun x => D.bl (p x))] = some (.bl (xs.any p)) := by
  simp only [Bi.f, bools_map, Option.map_some, List.any_map]; rfl
theorem lcs_all {f : D → M (Option D)} {p : D → Bool} {xs : List D} (h : ∀ x ∈ xs, f x = ret (some (.bl (p x)))) : lcs f xs = ret (xs.map fun x => D.bl (p x)) := by
  have e := lcs_map (em := id) (g := fun x => D.bl (p x)) (xs := xs) (f := f) h
  rwa [List.map_id] at e
/-! ### how many unlike ones -/
theorem dcn_le' (xs : List Leaf) : ∀ i, dcn xs i ≤ i
  | 0 => Nat.le_refl _
  | i + 1 => by
    have := dcn_le' xs i
    simp only [dcn]; split <;> omega
theorem dcn_nodup {xs : List Leaf} : ∀ i, i ≤ xs.length → dcn xs i = i → (xs.take i).Nodup
  | 0, _, _ => by simp
  | i + 1, hi, e => by
    have l := dcn_le' xs i
    simp only [dcn] at e
    split at e
    · omega
    · rename_i h
      have ih := dcn_nodup (xs := xs) i (by omega) (by omega)
      have g : xs.getD i .none = xs[i] := by simp [List.getD_eq_getElem?_getD, List.getElem?_eq_getElem (show i < xs.length by omega)]
      rw [List.take_succ_eq_append_getElem (by omega)]
      refine List.nodup_append.mpr ⟨ih, by simp, fun a ha b hb q => h ?_⟩
      simp only [List.mem_cons, List.not_mem_nil, or_false] at hb
      rw [List.any_eq_true]
      exact ⟨a, ha, by rw [g]; exact decide_eq_true (q.trans hb)⟩
theorem nodup_dcn {xs : List Leaf} (h : xs.Nodup) : ∀ i, i ≤ xs.length → dcn xs i = i
  | 0, _ => rfl
  | i + 1, hi => by
    have hn : ((xs.take i).any fun z => decide (z = xs.getD i .none)) = false := by
      rw [List.any_eq_false]
      intro z hz q
      have q := of_decide_eq_true q
      have e : xs.getD i .none = xs[i] := by simp [List.getD_eq_getElem?_getD, List.getElem?_eq_getElem (show i < xs.length by omega)]
      rw [e] at q
      obtain ⟨j, hj, ej⟩ := List.mem_iff_getElem.mp hz
      rw [List.getElem_take] at ej
      rw [List.length_take] at hj
      have := (List.getElem_inj h (i := j) (j := i) (h₀ := by omega) (h₁ := by omega)).mp (ej.trans q)
      omega
    simp only [dcn, hn, Bool.false_eq_true, if_false, nodup_dcn h i (by omega)]
theorem dcn_iff (xs : List Leaf) : dcn xs xs.length = xs.length ↔ xs.Nodup := by
  refine ⟨fun h => ?_, fun h => nodup_dcn h _ (Nat.le_refl _)⟩
  have := dcn_nodup xs.length (Nat.le_refl _) h
  rwa [List.take_of_length_le (Nat.le_refl _)] at this
theorem leaves_map {α : Type} {f : α → D} {g : α → Leaf} {xs : List α} (h : ∀ x ∈ xs, leaf (f x) = some (g x)) : leaves (xs.map f) = some (xs.map g) := by
  induction xs with
  | nil => rfl
  | cons x xs ih => simp only [List.map_cons, leaves, h x List.mem_cons_self, ih fun y hy => h y (List.mem_cons_of_mem _ hy), Option.bind_some, Option.map_some]
theorem setN_map {α : Type} {f : α → D} {g : α → Leaf} {xs : List α} (h : ∀ x ∈ xs, leaf (f x) = some (g x)) (hl : xs.length ≤ 4000) : setN (.lst (xs.map f)) = ret (.int (dcn (xs.map g) xs.length)) := by
  simp only [setN, leaves_map h, Option.bind_some]
  simp [hl]
/-! ### words, cuts -/
@[simp] theorem op_addII {i j : Int} : Op.f .add (.int i) (.int j) = some (.int (i + j)) := Eq.trans rfl rfl
end Ss
/-! GB: columns, rows, tables as they are read; what the lookers come to, of whatever fits. -/
namespace Ss
open PySem L2
theorem isSome_ite {α : Type} {p : Prop} [Decidable p] {a : α} : (if p then some a else none).isSome = decide p := by by_cases h : p <;> simp [h]
/-! ### reading -/
def isWD : D → Bool
  | .str x => isW x
  | _ => false
def wholeD (lo hi : Int) : D → Bool
  | .int i => decide (lo ≤ i) && decide (i ≤ hi)
  | _ => false
def valOf (wd : Bool) : D → Option Val
  | .non => some .non
  | .int i => if !wd && (decide (-1000000 ≤ i) && decide (i ≤ 1000000)) then some (.int i) else none
  | .str x => if wd && isW x then some (.str x) else none
  | _ => none
def colOf : D → Option Col
  | .tup [.str n, .str k] => if isW n then (if k = "word" then some ⟨n, true⟩ else if k = "number" then some ⟨n, false⟩ else none) else none
  | _ => none
def colsL : List D → Option (List Col)
  | [] => some []
  | d :: ds => (colOf d).bind fun c => (colsL ds).map fun cs => c :: cs
def colsOf : D → Option (List Col)
  | .tup xs => if 1 ≤ xs.length ∧ xs.length ≤ 6 then (colsL xs).bind fun cs => if (cs.map Col.nm).Nodup then some cs else none else none
  | _ => none
def rowL : List Col → List D → Option Row
  | [], [] => some []
  | c :: cs, d :: ds => (valOf c.wd d).bind fun v => (rowL cs ds).map fun r => v :: r
  | _, _ => none
def rowOf (cs : List Col) : D → Option Row
  | .tup xs => rowL cs xs
  | _ => none
def rowsL (cs : List Col) : List D → Option (List Row)
  | [] => some []
  | d :: ds => (rowOf cs d).bind fun r => (rowsL cs ds).map fun rs => r :: rs
/-- a table, or what is raised -/
def tabOf : D → Except Str (List Col × List Row)
  | .tup [a, b] => match colsOf a with
    | none => .error "BadTable"
    | some cs => match b with
      | .lst rs => if rs.length ≤ 24 then (match rowsL cs rs with
        | none => .error "BadRow"
        | some rs => .ok (cs, rs)) else .error "BadTable"
      | _ => .error "BadTable"
  | _ => .error "BadTable"
theorem valOf_d {wd : Bool} {d : D} {v : Val} (h : valOf wd d = some v) : d = v.d ∧ ∀ c : Col, c.wd = wd → fits c v = true := by
  cases d <;> simp only [valOf, reduceCtorEq] at h
  · cases h; exact ⟨rfl, fun c _ => rfl⟩
  · split at h
    · rename_i q
      cases h
      refine ⟨rfl, fun c e => ?_⟩
      subst e
      simpa [fits, Bool.and_assoc] using q
    · cases h
  · split at h
    · rename_i q
      cases h
      refine ⟨rfl, fun c e => ?_⟩
      subst e
      simpa [fits] using q
    · cases h
theorem valOf_fits {c : Col} {v : Val} (h : fits c v = true) : valOf c.wd v.d = some v := by
  cases v with
  | non => rfl
  | int i =>
    simp only [Val.d, valOf]
    rw [if_pos]
    simpa [fits, Bool.and_assoc] using h
  | str x =>
    simp only [Val.d, valOf]
    rw [if_pos]
    simpa [fits] using h
theorem colOf_d {d : D} {c : Col} (h : colOf d = some c) : d = c.d ∧ isW c.nm = true := by
  unfold colOf at h
  split at h
  · rename_i n k
    split at h
    · rename_i w
      split at h
      · rename_i e
        cases h
        exact ⟨by rw [e]; rfl, w⟩
      · split at h
        · rename_i e
          cases h
          exact ⟨by rw [e]; rfl, w⟩
        · cases h
    · cases h
  · cases h
theorem colOf_ok {c : Col} (h : isW c.nm = true) : colOf c.d = some c := by
  obtain ⟨n, w⟩ := c
  have z : ¬ (kindS false = kindS true) := by decide +kernel
  have e1 : kindS true = "word" := rfl
  have e2 : kindS false = "number" := rfl
  cases w
  · show (if isW n then (if kindS false = "word" then some (⟨n, true⟩ : Col) else if kindS false = "number" then some ⟨n, false⟩ else none) else none) = _
    rw [if_pos h, if_neg (by rw [← e1]; exact z), if_pos e2]
  · show (if isW n then (if kindS true = "word" then some (⟨n, true⟩ : Col) else if kindS true = "number" then some ⟨n, false⟩ else none) else none) = _
    rw [if_pos h, if_pos e1]
theorem colsL_d : ∀ {xs : List D} {cs : List Col}, colsL xs = some cs → xs = cs.map Col.d ∧ ∀ c ∈ cs, isW c.nm = true
  | [], cs, h => by cases h; exact ⟨rfl, fun _ z => nomatch z⟩
  | d :: ds, cs, h => by
    simp only [colsL] at h
    cases e : colOf d with
    | none => rw [e] at h; cases h
    | some c =>
      rw [e] at h
      cases e2 : colsL ds with
      | none => rw [e2] at h; cases h
      | some r =>
        rw [e2] at h
        cases h
        obtain ⟨rfl, w⟩ := colOf_d e
        obtain ⟨rfl, w2⟩ := colsL_d e2
        exact ⟨rfl, fun c hc => by
          rcases List.mem_cons.mp hc with rfl | hc
          · exact w
          · exact w2 c hc⟩
theorem colsL_ok : ∀ {cs : List Col}, (∀ c ∈ cs, isW c.nm = true) → colsL (cs.map Col.d) = some cs
  | [], _ => rfl
  | c :: cs, h => by
    simp only [List.map_cons, colsL, colOf_ok (h c List.mem_cons_self), colsL_ok fun d hd => h d (List.mem_cons_of_mem _ hd), Option.bind_some, Option.map_some]
theorem colsOf_d {d : D} {cs : List Col} (h : colsOf d = some cs) : d = colsD cs ∧ ColsOk cs := by
  cases d <;> simp only [colsOf, reduceCtorEq] at h
  rename_i xs
  split at h
  · rename_i l
    cases e : colsL xs with
    | none => rw [e] at h; cases h
    | some r =>
      rw [e] at h
      simp only [Option.bind_some] at h
      split at h
      · rename_i nd
        cases h
        obtain ⟨rfl, w⟩ := colsL_d e
        rw [List.length_map] at l
        exact ⟨rfl, l.1, l.2, w, nd⟩
      · cases h
  · cases h
theorem colsOf_ok {cs : List Col} (h : ColsOk cs) : colsOf (colsD cs) = some cs := by
  simp only [colsD, colsOf, List.length_map, if_pos (And.intro h.one h.six), colsL_ok h.nms, Option.bind_some, if_pos h.nd]
theorem rowL_d : ∀ {cs : List Col} {xs : List D} {r : Row}, rowL cs xs = some r → xs = r.map Val.d ∧ RowOk cs r
  | [], [], r, h => by cases h; exact ⟨rfl, .nil⟩
  | [], _ :: _, r, h => by cases h
  | _ :: _, [], r, h => by cases h
  | c :: cs, d :: ds, r, h => by
    simp only [rowL] at h
    cases e : valOf c.wd d with
    | none => rw [e] at h; cases h
    | some v =>
      rw [e] at h
      cases e2 : rowL cs ds with
      | none => rw [e2] at h; cases h
      | some q =>
        rw [e2] at h
        cases h
        obtain ⟨rfl, w⟩ := valOf_d e
        obtain ⟨rfl, w2⟩ := rowL_d e2
        exact ⟨rfl, .cons (w c rfl) w2⟩
theorem rowL_ok {cs : List Col} {r : Row} (h : RowOk cs r) : rowL cs (r.map Val.d) = some r := by
  induction h with
  | nil => rfl
  | cons p _ ih => simp only [List.map_cons, rowL, valOf_fits p, ih, Option.bind_some, Option.map_some]
theorem rowsL_d {cs : List Col} : ∀ {xs : List D} {rs : List Row}, rowsL cs xs = some rs → xs = rs.map rowD ∧ ∀ r ∈ rs, RowOk cs r
  | [], rs, h => by cases h; exact ⟨rfl, fun _ z => nomatch z⟩
  | d :: ds, rs, h => by
    simp only [rowsL] at h
    cases e : rowOf cs d with
    | none => rw [e] at h; cases h
    | some r =>
      rw [e] at h
      cases e2 : rowsL cs ds with
      | none => rw [e2] at h; cases h
      | some q =>
        rw [e2] at h
        cases h
        cases d <;> simp only [rowOf, reduceCtorEq] at e
        obtain ⟨rfl, w⟩ := rowL_d e
        obtain ⟨rfl, w2⟩ := rowsL_d e2
        exact ⟨rfl, fun c hc => by
          rcases List.mem_cons.mp hc with rfl | hc
          · exact w
          · exact w2 c hc⟩
theorem rowsL_ok {cs : List Col} : ∀ {rs : List Row}, (∀ r ∈ rs, RowOk cs r) → rowsL cs (rs.map rowD) = some rs
  | [], _ => rfl
  | r :: rs, h => by
    have e : rowOf cs (rowD r) = some r := rowL_ok (h r List.mem_cons_self)
    simp only [List.map_cons, rowsL, e, rowsL_ok fun d hd => h d (List.mem_cons_of_mem _ hd), Option.bind_some, Option.map_some]
/-- a table that is one -/
structure Tab where
  cs : List Col
  rs : List Row
structure TabOk (t : Tab) : Prop where
  cols : ColsOk t.cs
  rows : ∀ r ∈ t.rs, RowOk t.cs r
  len : t.rs.length ≤ 24
def Tab.d (t : Tab) : D := tabD t.cs t.rs
theorem tabOf_ok {t : Tab} (h : TabOk t) : tabOf t.d = .ok (t.cs, t.rs) := by
  have e : tabOf t.d = match colsOf (colsD t.cs) with
    | none => .error "BadTable"
    | some cs => if (t.rs.map rowD).length ≤ 24 then (match rowsL cs (t.rs.map rowD) with
        | none => .error "BadRow"
        | some rs => .ok (cs, rs)) else .error "BadTable" := by
    simp only [Tab.d, tabD, rowsD, tabOf]
  rw [e, colsOf_ok h.cols]
  simp only [List.length_map, if_pos h.len, rowsL_ok h.rows]
end Ss
namespace Pg
open PySem Ss L2
/-! ### the lookers -/
theorem is_word_sem {d : D} (h : d.gd = true) : F_is_word.sem [d] = ret (.bl (isWD d)) := by
  refine runF_rt ?_
  cases d with
  | str x =>
    have h3 := gd_str h
    have hl := len_str h3
    have hi := items_str h3
    by_cases e : 1 ≤ x.length ∧ x.length ≤ 8
    · have e1 : (1 : Int) ≤ x.length := by omega
      have e2 : (x.length : Int) ≤ 8 := by omega
      simp [I_is_word, hl, hi, e1, e2]
      rw [lcs_map (g := fun c => D.bl (decide (c ∈ small.cps.toList))) (fun c _ => by simp [cb, sgn, inD, sgnOf, small])]
      simp [all_map, isWD, isW, e]
    · have z : isW x = false := by
        simp only [isW]
        rcases Nat.lt_or_ge x.length 1 with q | q
        · simp; omega
        · simp; omega
      by_cases e1 : (1 : Int) ≤ x.length
      · have e2 : ¬ ((x.length : Int) ≤ 8) := by omega
        simp [I_is_word, hl, e1, e2, isWD, z]
      · simp [I_is_word, hl, e1, isWD, z]
  | non => simp [I_is_word, isWD]
  | bl b => simp [I_is_word, isWD]
  | int i => simp [I_is_word, isWD]
  | lst xs => simp [I_is_word, isWD]
  | tup xs => simp [I_is_word, isWD]
  | _ => exact absurd (gd_pl h) (by simp only [D.pl]; exact Bool.false_ne_true)
theorem is_whole_sem {d : D} (h : d.gd = true) (lo hi : Int) : F_is_whole.sem [d, .int lo, .int hi] = ret (.bl (wholeD lo hi d)) := by
  refine runF_rt ?_
  cases d with
  | int i =>
    by_cases e1 : lo ≤ i <;> simp [I_is_whole, wholeD, e1]
  | non => simp [I_is_whole, wholeD]
  | bl b => simp [I_is_whole, wholeD]
  | str i => simp [I_is_whole, wholeD]
  | lst xs => simp [I_is_whole, wholeD]
  | tup xs => simp [I_is_whole, wholeD]
  | _ => exact absurd (gd_pl h) (by simp only [D.pl]; exact Bool.false_ne_true)
theorem kw_eq (b : Bool) : Cm.f .eq (.str (kindS b)) (.str "word") = some b := by cases b <;> decide +kernel
theorem is_value_sem {d : D} (h : d.gd = true) (b : Bool) : F_is_value.sem [.str (kindS b), d] = ret (.bl (valOf b d).isSome) := by
  refine runF_rt ?_
  have h1 := is_word_sem h
  have h2 := is_whole_sem h (-1000000) 1000000
  cases d with
  | non => simp [I_is_value, valOf]
  | fn _ => exact absurd (gd_pl h) (by simp only [D.pl]; exact Bool.false_ne_true)
  | dic _ _ => exact absurd (gd_pl h) (by simp only [D.pl]; exact Bool.false_ne_true)
  | exn _ => exact absurd (gd_pl h) (by simp only [D.pl]; exact Bool.false_ne_true)
  | town => exact absurd (gd_pl h) (by simp only [D.pl]; exact Bool.false_ne_true)
  | scr _ => exact absurd (gd_pl h) (by simp only [D.pl]; exact Bool.false_ne_true)
  | obj _ => exact absurd (gd_pl h) (by simp only [D.pl]; exact Bool.false_ne_true)
  | dk _ _ => exact absurd (gd_pl h) (by simp only [D.pl]; exact Bool.false_ne_true)
  | int i => cases b <;> simp [I_is_value, kw_eq, h1, h2, valOf, isWD, wholeD, isSome_ite]
  | str i => cases b <;> simp [I_is_value, kw_eq, h1, h2, valOf, isWD, wholeD, isSome_ite]
  | bl b => cases b <;> simp [I_is_value, kw_eq, h1, h2, valOf, isWD, wholeD]
  | lst b => cases b <;> simp [I_is_value, kw_eq, h1, h2, valOf, isWD, wholeD]
  | tup b => cases b <;> simp [I_is_value, kw_eq, h1, h2, valOf, isWD, wholeD]
/-- a column's first part is told, its second -/
def c1B : D → Bool
  | .tup [a, _] => isWD a
  | _ => false
def c2B : D → Bool
  | .tup [_, .str k] => decide (k = "word" ∨ k = "number")
  | _ => false
theorem colOf_isSome (d : D) : (colOf d).isSome = (c1B d && c2B d) := by
  unfold colOf
  split
  · rename_i n k
    simp only [c1B, c2B, isWD]
    by_cases w : isW n = true
    · by_cases e1 : k = "word"
      · simp [w, e1]
      · rw [if_pos w, if_neg e1]
        by_cases e2 : k = "number"
        · rw [if_pos e2, decide_eq_true (show k = "word" ∨ k = "number" from .inr e2), w]; rfl
        · simp [w, e1, e2]
    · simp [w]
  · rename_i h
    symm
    simp only [Option.isSome_none, Bool.and_eq_false_iff]
    cases d <;> try exact .inl rfl
    rename_i xs
    match xs with
    | [] => exact .inl rfl
    | [a] => exact .inl rfl
    | a :: b :: c :: r => exact .inl rfl
    | [a, b] =>
      cases a <;> try exact .inl rfl
      cases b <;> try exact .inr rfl
      exact absurd rfl (h _ _)
theorem colsL_isSome : ∀ xs : List D, (colsL xs).isSome = (xs.all c1B && xs.all c2B)
  | [] => rfl
  | d :: ds => by
    have e := colOf_isSome d
    have ih := colsL_isSome ds
    simp only [colsL, List.all_cons]
    cases h : colOf d with
    | none =>
      rw [h] at e
      simp only [Option.bind_none, Option.isSome_none] at e ⊢
      cases h1 : c1B d <;> cases h2 : c2B d <;> simp_all
    | some c =>
      rw [h] at e
      simp only [Option.isSome_some, Bool.true_eq, Bool.and_eq_true, Option.bind_some, Option.isSome_map] at e ⊢
      rw [e.1, e.2, ih]; simp
theorem names_leaf {cs : List Col} : ∀ c ∈ cs, leaf (D.str c.nm) = some (Leaf.text c.nm) := fun c _ => rfl
theorem are_columns_sem {d : D} (h : d.gd = true) : F_are_columns.sem [d] = ret (.bl (colsOf d).isSome) := by
  refine runF_rt ?_
  cases d with
  | tup xs =>
    by_cases e : 1 ≤ xs.length ∧ xs.length ≤ 6
    · have e1 : (1 : Int) ≤ xs.length := by omega
      have e2 : (xs.length : Int) ≤ 6 := by omega
      have L := colsL_isSome xs
      simp [I_are_columns, e1, e2]
      rw [lcs_all (p := c1B) (fun x hx => ?_)]
      · simp [all_map]
        by_cases a1 : xs.all c1B = true
        · have a1' := List.all_eq_true.mp a1
          simp only [a1, Bool.true_and] at L
          have a1q : ¬ ∃ x, x ∈ xs ∧ c1B x = false := fun ⟨x, hx, q⟩ => by rw [a1' x hx] at q; cases q
          simp [a1q]
          rw [lcs_all (p := c2B) (fun x hx => ?_)]
          · simp [all_map]
            by_cases a2 : xs.all c2B = true
            · have a2' := List.all_eq_true.mp a2
              have a2q : ¬ ∃ x, x ∈ xs ∧ c2B x = false := fun ⟨x, hx, q⟩ => by rw [a2' x hx] at q; cases q
              simp [a2q]
              rw [a2] at L
              cases eL : colsL xs with
              | none => rw [eL] at L; cases L
              | some cs =>
                obtain ⟨rfl, w⟩ := colsL_d eL
                rw [lcs_map (g := fun c : Col => D.str c.nm) (fun c _ => by simp [cb, Col.d])]
                have l6 : cs.length ≤ 4000 := by simp at e; omega
                have sN := setN_map (f := fun c : Col => D.str c.nm) (g := fun c => Leaf.text c.nm) (xs := cs) names_leaf l6
                have hd := dcn_iff (cs.map fun c => Leaf.text c.nm)
                simp only [List.length_map] at hd
                have nd : (cs.map fun c => Leaf.text c.nm).Nodup ↔ (cs.map Col.nm).Nodup := by
                  have e : (cs.map fun c => Leaf.text c.nm) = (cs.map Col.nm).map Leaf.text := by rw [List.map_map]; rfl
                  rw [e]
                  refine ⟨fun q => ?_, fun q => List.Pairwise.map _ (fun x y hxy q => hxy (by cases q; rfl)) q⟩
                  refine List.Pairwise.of_map Leaf.text (fun x y hxy q => hxy (by rw [q])) q
                have hw : colsOf (.tup (cs.map Col.d)) = if (cs.map Col.nm).Nodup then some cs else none := by
                  simp only [List.length_map] at e
                  simp only [colsOf, List.length_map, if_pos e, eL, Option.bind_some]
                simp [sN, hw, isSome_ite, Int.ofNat_inj, hd, nd]
            · have a2q : ∃ x, x ∈ xs ∧ c2B x = false := by simpa using a2
              have a2 : xs.all c2B = false := by simpa using a2
              rw [a2] at L
              have z : colsOf (.tup xs) = none := by
                cases eL : colsL xs with
                | none => simp only [colsOf, if_pos e, eL, Option.bind_none]
                | some _ => rw [eL] at L; cases L
              simp [a2q, z]
          · have q := a1' x hx
            cases x <;> simp only [c1B, reduceCtorEq] at q
            rename_i ys
            match ys, q with
            | [a, b], q =>
              have gx := gd_tup h _ hx
              have gb := gd_tup gx b (by simp)
              cases b with
              | str k =>
                have z : inD (.str k) (.tup [.str "word", .str "number"]) = some (decide (k = "word" ∨ k = "number")) := by
                  have o := str_okE (gd_strOk gb)
                  have o2 : (D.tup [.str "word", .str "number"]).okE = true := by decide +kernel
                  simp only [inD, o, o2, Bool.and_self, if_true, List.any_cons, List.any_nil, eqv_ss, Bool.or_false]
                  by_cases q1 : k = "word"
                  · simp [q1]
                  · by_cases q2 : k = "number"
                    · simp [q2]
                    · have q1' : ¬ Str.ofString "word" = k := fun z => q1 z.symm
                      have q2' : ¬ Str.ofString "number" = k := fun z => q2 z.symm
                      simp [q1, q2, q1', q2']
                simp [cb, z, c2B]
              | non => simp [cb, c2B]
              | bl _ => simp [cb, c2B]
              | int _ => simp [cb, c2B]
              | lst _ => simp [cb, c2B]
              | tup _ => simp [cb, c2B]
              | _ => exact absurd (gd_pl gb) (by simp only [D.pl]; exact Bool.false_ne_true)
        · have a1q : ∃ x, x ∈ xs ∧ c1B x = false := by simpa using a1
          have a1 : xs.all c1B = false := by simpa using a1
          simp only [a1, Bool.false_and] at L
          have z : colsOf (.tup xs) = none := by
            cases eL : colsL xs with
            | none => simp only [colsOf, if_pos e, eL, Option.bind_none]
            | some _ => rw [eL] at L; cases L
          simp [a1q, z]
      · have gx := gd_tup h _ hx
        cases x with
        | tup ys =>
          match ys with
          | [] => simp [cb, c1B]
          | [a] => simp [cb, c1B]
          | [a, b] =>
            have ga := gd_tup gx a (by simp)
            have w := is_word_sem ga
            simp [cb, c1B, w]
          | a :: b :: c :: r =>
            have z : ¬ ((r.length : Int) + 1 + 1 + 1 = 2) := by omega
            simp [cb, c1B, z]
        | non => simp [cb, c1B]
        | bl _ => simp [cb, c1B]
        | int _ => simp [cb, c1B]
        | lst _ => simp [cb, c1B]
        | str _ => simp [cb, c1B]
        | _ => exact absurd (gd_pl gx) (by simp only [D.pl]; exact Bool.false_ne_true)
    · have z : colsOf (.tup xs) = none := by simp only [colsOf, if_neg e]
      by_cases e1 : (1 : Int) ≤ xs.length
      · have e2 : ¬ ((xs.length : Int) ≤ 6) := by omega
        simp [I_are_columns, e1, e2, z]
      · simp [I_are_columns, e1, z]
  | non => simp [I_are_columns, colsOf]
  | bl b => simp [I_are_columns, colsOf]
  | int i => simp [I_are_columns, colsOf]
  | lst xs => simp [I_are_columns, colsOf]
  | str xs => simp [I_are_columns, colsOf]
  | _ => exact absurd (gd_pl h) (by simp only [D.pl]; exact Bool.false_ne_true)
/-- ends with None, or raises -/
def okM (o : Option Str) : M D := match o with
  | none => ret .non
  | some c => raz c
theorem runF_okM {m : Nat} {b : List Stm} {ds : List D} {c : Option Str} (h : match c with
    | none => ∃ ρ, exs b (ds.map Sl.dat ++ List.replicate (m - ds.length) Sl.emp) = ret (.nx ρ)
    | some c => ∃ ρ, exs b (ds.map Sl.dat ++ List.replicate (m - ds.length) Sl.emp) = ret (.ex c ρ)) : runF m b ds = okM c := by
  cases c with
  | none => obtain ⟨ρ, h⟩ := h; exact runF_nx h
  | some c => obtain ⟨ρ, h⟩ := h; exact runF_ex h
@[simp] theorem okM_none : okM none = ret .non := Eq.trans rfl rfl
@[simp] theorem okM_some {c : Str} : okM (some c) = raz c := Eq.trans rfl rfl
theorem look_columns_sem {d : D} (h : d.gd = true) : F_look_columns.sem [d] = okM (match colsOf d with
    | some _ => none
    | none => some "BadTable") := by
  refine runF_okM ?_
  have e := are_columns_sem h
  cases q : colsOf d with
  | none => exact ⟨[.dat d], by simp [I_look_columns, e, q]⟩
  | some cs => exact ⟨[.dat d], by simp [I_look_columns, e, q]⟩
theorem rowL_isSome : ∀ {cs : List Col} {xs : List D}, xs.length = cs.length → ((List.range xs.length).all fun k => (valOf (cs.getD k ⟨"", true⟩).wd (xs.getD k .non)).isSome) = (rowL cs xs).isSome
  | [], [], _ => rfl
  | [], _ :: _, h => by simp at h
  | _ :: _, [], h => by simp at h
  | c :: cs, d :: ds, h => by
    have ih := rowL_isSome (cs := cs) (xs := ds) (by simpa using h)
    simp only [List.length_cons, List.range_succ_eq_map, List.all_cons, List.all_map]
    simp only [rowL]
    have e : (fun k => (valOf (cs.getD k ⟨"", true⟩).wd (ds.getD k .non)).isSome) = ((fun k => (valOf ((c :: cs).getD k ⟨"", true⟩).wd ((d :: ds).getD k .non)).isSome) ∘ Nat.succ) := by
      funext k; simp
    rw [← e, ih]
    simp
    cases valOf c.wd d <;> simp
theorem rowL_len : ∀ {cs : List Col} {xs : List D}, ¬ xs.length = cs.length → rowL cs xs = none
  | [], [], h => absurd rfl h
  | [], _ :: _, h => rfl
  | _ :: _, [], h => rfl
  | c :: cs, d :: ds, h => by
    simp only [rowL, rowL_len (cs := cs) (xs := ds) (by simpa using h), Option.map_none]
    cases valOf c.wd d <;> rfl
theorem look_row_sem {cs : List Col} (hc : cs.length ≤ 6) {d : D} (h : d.gd = true) : F_look_row.sem [colsD cs, d] = okM (match rowOf cs d with
    | some _ => none
    | none => some "BadRow") := by
  refine runF_okM ?_
  cases d with
  | tup xs =>
    by_cases e : xs.length = cs.length
    · have L := rowL_isSome e
      have e' : (xs.length : Int) = cs.length := by omega
      have r := rngD_nat xs.length (by omega)
      have c1 : lcs (cb (.call F_is_value [(.idx (.idx (.var 0) (.var 2)) (.lit (.int 1))), (.idx (.var 1) (.var 2))]) (.one 2) [] [2] [.dat (.tup (cs.map Col.d)), .dat (.tup xs), .emp]) ((List.range xs.length).map fun (k : Nat) => D.int k) = ret ((List.range xs.length).map fun k => D.bl (valOf (cs.getD k ⟨"", true⟩).wd (xs.getD k .non)).isSome) := by
        refine lcs_map fun k hk => ?_
        have hk : k < xs.length := List.mem_range.mp hk
        have hk2 : k < cs.length := by omega
        have g1 : (cs.map Col.d)[k]? = some (cs[k].d) := by simp [List.getElem?_eq_getElem hk2]
        have g2 : xs[k]? = some xs[k] := List.getElem?_eq_getElem hk
        have v := is_value_sem (gd_tup h xs[k] (List.getElem_mem hk)) cs[k].wd
        have q1 : cs.getD k ⟨"", true⟩ = cs[k] := by simp [List.getD_eq_getElem?_getD, List.getElem?_eq_getElem hk2]
        have q2 : xs.getD k .non = xs[k] := by simp [List.getD_eq_getElem?_getD, List.getElem?_eq_getElem hk]
        rw [q1, q2]
        simp [cb, Ss.atI_nat, List.getElem?_eq_getElem hk2, g2]
        simp [Col.d, v]
      cases q : rowOf cs (.tup xs) with
      | none =>
        have q : rowL cs xs = none := q
        rw [q] at L
        have L : (List.range xs.length).all (fun k => (valOf (cs.getD k ⟨"", true⟩).wd (xs.getD k .non)).isSome) = false := L
        have A := all_map (fun k => (valOf (cs.getD k ⟨"", true⟩).wd (xs.getD k .non)).isSome) (List.range xs.length)
        rw [L] at A
        refine ⟨[.dat (.tup (cs.map Col.d)), .dat (.tup xs), .emp], ?_⟩
        simp only [I_look_row, colsD]
        simp [e']
        rw [← e', r]
        simp only [lft_some, ret_bnd, stp_ret, stp_bnd, c1, A]
        simp
      | some w =>
        have q : rowL cs xs = some w := q
        rw [q] at L
        have L : (List.range xs.length).all (fun k => (valOf (cs.getD k ⟨"", true⟩).wd (xs.getD k .non)).isSome) = true := L
        have A := all_map (fun k => (valOf (cs.getD k ⟨"", true⟩).wd (xs.getD k .non)).isSome) (List.range xs.length)
        rw [L] at A
        refine ⟨[.dat (.tup (cs.map Col.d)), .dat (.tup xs), .emp], ?_⟩
        simp only [I_look_row, colsD]
        simp [e']
        rw [← e', r]
        simp only [lft_some, ret_bnd, stp_ret, stp_bnd, c1, A]
        simp
    · have q : rowOf cs (.tup xs) = none := rowL_len e
      have e' : ¬ (xs.length : Int) = cs.length := by omega
      rw [q]
      refine ⟨[.dat (.tup (cs.map Col.d)), .dat (.tup xs), .emp], ?_⟩
      simp [I_look_row, colsD, e']
  | non => exact ⟨[.dat (colsD cs), .dat .non, .emp], by simp [I_look_row]⟩
  | bl b => exact ⟨[.dat (colsD cs), .dat (.bl b), .emp], by simp [I_look_row]⟩
  | int i => exact ⟨[.dat (colsD cs), .dat (.int i), .emp], by simp [I_look_row]⟩
  | str i => exact ⟨[.dat (colsD cs), .dat (.str i), .emp], by simp [I_look_row]⟩
  | lst i => exact ⟨[.dat (colsD cs), .dat (.lst i), .emp], by simp [I_look_row]⟩
  | _ => exact absurd (gd_pl h) (by simp only [D.pl]; exact Bool.false_ne_true)
def exE {α : Type} : Except Str α → Option Str
  | .ok _ => none
  | .error c => some c
theorem look_rows {cs : List Col} (hc : cs.length ≤ 6) (t : D) : ∀ (rs : List D) (s : Sl), (∀ r ∈ rs, r.gd = true) → ∃ s', forB (.one 1) [.exp (.call F_look_row [(.idx (.var 0) (.lit (.int 0))), (.var 1)])] rs [.dat (.tup [colsD cs, t]), s] = match rowsL cs rs with
    | none => ret (.ex "BadRow" [.dat (.tup [colsD cs, t]), s'])
    | some _ => ret (.nx [.dat (.tup [colsD cs, t]), s'])
  | [], s, _ => ⟨s, rfl⟩
  | r :: rs, s, h => by
    have L := look_row_sem hc (h r List.mem_cons_self)
    obtain ⟨s', ih⟩ := look_rows hc t rs (.dat r) fun x hx => h x (List.mem_cons_of_mem _ hx)
    cases q : rowOf cs r with
    | none =>
      refine ⟨.dat r, ?_⟩
      simp [forB, L, q, rowsL]
    | some w =>
      refine ⟨s', ?_⟩
      have e : rowsL cs (r :: rs) = (rowsL cs rs).map fun rs => w :: rs := by simp only [rowsL, q, Option.bind_some]
      rw [e]
      simp only [forB] at ih
      simp [forB, L, q]
      simp at ih
      rw [ih]
      cases rowsL cs rs <;> rfl
theorem look_table_sem {d : D} (h : d.gd = true) : F_look_table.sem [d] = okM (exE (tabOf d)) := by
  refine runF_okM ?_
  cases d with
  | tup xs =>
    match xs with
    | [] => exact ⟨[.dat (.tup []), .emp], by simp [I_look_table]⟩
    | [a] => exact ⟨[.dat (.tup [a]), .emp], by simp [I_look_table]⟩
    | a :: b :: c :: r =>
      have z : ¬ ((r.length : Int) + 1 + 1 + 1 = 2) := by omega
      exact ⟨[.dat (.tup (a :: b :: c :: r)), .emp], by simp [I_look_table, z]⟩
    | [a, b] =>
      have ga := gd_tup h a (by simp)
      have gb := gd_tup h b (by simp)
      have L := look_columns_sem ga
      cases q : colsOf a with
      | none =>
        have e : tabOf (.tup [a, b]) = .error "BadTable" := by simp only [tabOf, q]
        rw [e]
        exact ⟨[.dat (.tup [a, b]), .emp], by simp [I_look_table, L, q]⟩
      | some cs =>
        obtain ⟨rfl, ok⟩ := colsOf_d q
        cases b with
        | lst rs =>
          by_cases l : rs.length ≤ 24
          · have l' : ¬ ((24 : Int) < rs.length) := by omega
            obtain ⟨s', lf⟩ := look_rows ok.six (.lst rs) rs .emp (gd_lst gb)
            cases q2 : rowsL cs rs with
            | none =>
              have e : tabOf (.tup [colsD cs, .lst rs]) = .error "BadRow" := by simp only [tabOf, q, if_pos l, q2]
              rw [e]
              rw [q2] at lf
              exact ⟨_, by simp [I_look_table, L, q, l', lf]; rfl⟩
            | some r =>
              have e : tabOf (.tup [colsD cs, .lst rs]) = .ok (cs, r) := by simp only [tabOf, q, if_pos l, q2]
              rw [e]
              rw [q2] at lf
              exact ⟨_, by simp [I_look_table, L, q, l', lf]; rfl⟩
          · have l' : ((24 : Int) < rs.length) := by omega
            have e : tabOf (.tup [colsD cs, .lst rs]) = .error "BadTable" := by simp only [tabOf, q, if_neg l]
            rw [e]
            exact ⟨[.dat (.tup [colsD cs, .lst rs]), .emp], by simp [I_look_table, L, q, l']⟩
        | non => rw [show tabOf (.tup [colsD cs, .non]) = .error "BadTable" by simp only [tabOf, q]]; exact ⟨[.dat (.tup [colsD cs, .non]), .emp], by simp [I_look_table, L, q]⟩
        | bl b => rw [show tabOf (.tup [colsD cs, .bl b]) = .error "BadTable" by simp only [tabOf, q]]; exact ⟨[.dat (.tup [colsD cs, .bl b]), .emp], by simp [I_look_table, L, q]⟩
        | int b => rw [show tabOf (.tup [colsD cs, .int b]) = .error "BadTable" by simp only [tabOf, q]]; exact ⟨[.dat (.tup [colsD cs, .int b]), .emp], by simp [I_look_table, L, q]⟩
        | str b => rw [show tabOf (.tup [colsD cs, .str b]) = .error "BadTable" by simp only [tabOf, q]]; exact ⟨[.dat (.tup [colsD cs, .str b]), .emp], by simp [I_look_table, L, q]⟩
        | tup b => rw [show tabOf (.tup [colsD cs, .tup b]) = .error "BadTable" by simp only [tabOf, q]]; exact ⟨[.dat (.tup [colsD cs, .tup b]), .emp], by simp [I_look_table, L, q]⟩
        | _ => exact absurd (gd_pl gb) (by simp only [D.pl]; exact Bool.false_ne_true)
  | non => exact ⟨[.dat .non, .emp], by simp [I_look_table]⟩
  | bl b => exact ⟨[.dat (.bl b), .emp], by simp [I_look_table]⟩
  | int i => exact ⟨[.dat (.int i), .emp], by simp [I_look_table]⟩
  | str i => exact ⟨[.dat (.str i), .emp], by simp [I_look_table]⟩
  | lst i => exact ⟨[.dat (.lst i), .emp], by simp [I_look_table]⟩
  | _ => exact absurd (gd_pl h) (by simp only [D.pl]; exact Bool.false_ne_true)
end Pg
/-! GC: plans as they are read; what their lookers come to, of whatever fits. -/
namespace Ss
open PySem L2
/-! ### where a column stands -/
def plc (cs : List Col) (x : Str) : Option Nat := (List.range cs.length).find? fun k => decide ((cs[k]?).map Col.nm = some x)
def kndOf (cs : List Col) (x : Str) : Option Bool := (plc cs x).bind fun k => (cs[k]?).map Col.wd
def kndD (cs : List Col) : D → Option Bool
  | .str x => kndOf cs x
  | _ => none
def kindR : Option Bool → D
  | some b => .str (kindS b)
  | none => .non
def natR : Option Nat → D
  | some k => natD k
  | none => .non
theorem plc_some {cs : List Col} {x : Str} {k : Nat} (h : plc cs x = some k) : ∃ hk : k < cs.length, cs[k].nm = x := by
  have a := List.find?_some h
  have b := List.mem_of_find?_eq_some h
  have hk := List.mem_range.mp b
  refine ⟨hk, ?_⟩
  have a := of_decide_eq_true a
  rw [List.getElem?_eq_getElem hk] at a
  simpa using a
theorem plc_none {cs : List Col} {x : Str} (h : plc cs x = none) : ∀ c ∈ cs, c.nm ≠ x := fun c hc e => by
  obtain ⟨k, hk, rfl⟩ := List.mem_iff_getElem.mp hc
  have := List.find?_eq_none.mp h k (List.mem_range.mpr hk)
  rw [List.getElem?_eq_getElem hk] at this
  simp [e] at this
theorem plc_at {cs : List Col} (nd : (cs.map Col.nm).Nodup) {k : Nat} (hk : k < cs.length) : plc cs cs[k].nm = some k := by
  cases h : plc cs cs[k].nm with
  | none => exact absurd rfl (plc_none h cs[k] (List.getElem_mem hk))
  | some j =>
    obtain ⟨hj, e⟩ := plc_some h
    have := (List.getElem_inj nd (i := j) (j := k) (h₀ := by simpa using hj) (h₁ := by simpa using hk)).mp (by simpa using e)
    rw [this]
theorem knd_some {cs : List Col} {x : Str} {b : Bool} (h : kndOf cs x = some b) : ∃ k, plc cs x = some k ∧ ∃ hk : k < cs.length, cs[k].nm = x ∧ cs[k].wd = b := by
  unfold kndOf at h
  cases e : plc cs x with
  | none => rw [e] at h; cases h
  | some k =>
    obtain ⟨hk, en⟩ := plc_some e
    rw [e] at h
    simp only [Option.bind_some, List.getElem?_eq_getElem hk, Option.map_some, Option.some.injEq] at h
    exact ⟨k, rfl, hk, en, h⟩
theorem kndD_str {cs : List Col} {d : D} {b : Bool} (h : kndD cs d = some b) : ∃ x, d = .str x ∧ kndOf cs x = some b := by
  cases d <;> simp only [kndD, reduceCtorEq] at h
  exact ⟨_, rfl, h⟩
theorem knd_isW {cs : List Col} (h : ColsOk cs) {x : Str} {b : Bool} (e : kndOf cs x = some b) : isW x = true := by
  obtain ⟨k, _, hk, en, _⟩ := knd_some e
  rw [← en]; exact h.nms _ (List.getElem_mem hk)
/-! ### lists of parts -/
def allL {α : Type} (f : D → Option α) : List D → Option (List α)
  | [] => some []
  | d :: ds => (f d).bind fun a => (allL f ds).map fun as => a :: as
theorem allL_isSome {α : Type} (f : D → Option α) : ∀ xs : List D, (allL f xs).isSome = xs.all fun x => (f x).isSome
  | [] => rfl
  | d :: ds => by
    simp only [allL, List.all_cons, ← allL_isSome f ds]
    cases f d <;> simp
theorem allL_d {α : Type} {f : D → Option α} {em : α → D} {P : α → Prop} (h : ∀ d a, f d = some a → d = em a ∧ P a) : ∀ {xs : List D} {as : List α}, allL f xs = some as → xs = as.map em ∧ ∀ a ∈ as, P a
  | [], as, e => by cases e; exact ⟨rfl, fun _ z => nomatch z⟩
  | d :: ds, as, e => by
    simp only [allL] at e
    cases e1 : f d with
    | none => rw [e1] at e; cases e
    | some a =>
      rw [e1] at e
      cases e2 : allL f ds with
      | none => rw [e2] at e; cases e
      | some r =>
        rw [e2] at e
        cases e
        obtain ⟨rfl, w⟩ := h d a e1
        obtain ⟨rfl, w2⟩ := allL_d h e2
        exact ⟨rfl, fun c hc => by
          rcases List.mem_cons.mp hc with rfl | hc
          · exact w
          · exact w2 c hc⟩
theorem allL_ok {α : Type} {f : D → Option α} {em : α → D} : ∀ {as : List α}, (∀ a ∈ as, f (em a) = some a) → allL f (as.map em) = some as
  | [], _ => rfl
  | a :: as, h => by
    simp only [List.map_cons, allL, h a List.mem_cons_self, allL_ok fun d hd => h d (List.mem_cons_of_mem _ hd), Option.bind_some, Option.map_some]
def partOf {α : Type} (f : D → Option α) (m : Nat) : D → Option (List α)
  | .tup xs => if xs.length ≤ m then allL f xs else none
  | _ => none
theorem partOf_d {α : Type} {f : D → Option α} {em : α → D} {P : α → Prop} (h : ∀ d a, f d = some a → d = em a ∧ P a) {m : Nat} {d : D} {as : List α} (e : partOf f m d = some as) : d = .tup (as.map em) ∧ as.length ≤ m ∧ ∀ a ∈ as, P a := by
  cases d <;> simp only [partOf, reduceCtorEq] at e
  split at e
  · rename_i l
    obtain ⟨rfl, w⟩ := allL_d h e
    rw [List.length_map] at l
    exact ⟨rfl, l, w⟩
  · cases e
theorem partOf_ok {α : Type} {f : D → Option α} {em : α → D} {m : Nat} {as : List α} (l : as.length ≤ m) (h : ∀ a ∈ as, f (em a) = some a) : partOf f m (.tup (as.map em)) = some as := by
  simp only [partOf, List.length_map, if_pos l, allL_ok h]
/-! ### keys, sums, sifts, plans -/
inductive Key where
  | plain (x : Str) | band (x : Str) (s : Int) | first (x : Str) (s : Int)
  deriving DecidableEq
def Key.d : Key → D
  | .plain x => .str x
  | .band x s => .tup [.str "band", .str x, .int s]
  | .first x s => .tup [.str "first", .str x, .int s]
def keyOf' (cs : List Col) : D → Option Key
  | .str x => if (kndOf cs x).isSome then some (.plain x) else none
  | .tup [.str s, .str x, .int i] =>
    if s = "band" then (if kndOf cs x = some false ∧ 1 ≤ i ∧ i ≤ 1000000 then some (.band x i) else none)
    else if s = "first" ∧ kndOf cs x = some true ∧ 1 ≤ i ∧ i ≤ 8 then some (.first x i) else none
  | _ => none
inductive SK where
  | fil | unl | sum | lea | gre | mea | ofA | ofR | ofC
  deriving DecidableEq
def SK.w : SK → Str
  | .fil => "filled" | .unl => "unlike" | .sum => "sum" | .lea => "least" | .gre => "greatest" | .mea => "mean" | .ofA => "of all" | .ofR => "of row" | .ofC => "of column"
def SK.num : SK → Bool
  | .fil => false
  | .unl => false
  | _ => true
def skOf (s : Str) : Option SK :=
  if s = "sum" then some .sum else if s = "least" then some .lea else if s = "greatest" then some .gre else if s = "mean" then some .mea
  else if s = "of all" then some .ofA else if s = "of row" then some .ofR else if s = "of column" then some .ofC
  else if s = "unlike" then some .unl else if s = "filled" then some .fil else none
inductive Sum where
  | cnt | one (k : SK) (x : Str)
  deriving DecidableEq
def Sum.d : Sum → D
  | .cnt => .tup [.str "count"]
  | .one k x => .tup [.str k.w, .str x]
def sumFit (cs : List Col) (k : SK) (x : Str) : Bool := if k.num then decide (kndOf cs x = some false) else (kndOf cs x).isSome
def sumOf (cs : List Col) : D → Option Sum
  | .tup [.str s] => if s = "count" then some .cnt else none
  | .tup [.str s, .str x] => if s = "count" then none else match skOf s with
    | some k => if sumFit cs k x = true then some (.one k x) else none
    | none => none
  | _ => none
inductive Sift where
  | eq (pos : Bool) (x : Str) (v : Val) | frm (x : Str) (lo hi : Int)
  deriving DecidableEq
def isS (b : Bool) : Str := if b then "is" else "not"
def Sift.d : Sift → D
  | .eq b x v => .tup [.str (isS b), .str x, v.d]
  | .frm x lo hi => .tup [.str "from", .str x, .int lo, .int hi]
def big (i : Int) : Prop := -1000000 ≤ i ∧ i ≤ 1000000
instance (i : Int) : Decidable (big i) := by unfold big; exact inferInstance
def siftOf (cs : List Col) : D → Option Sift
  | .tup [.str s, .str x, v] => if s = "is" ∨ s = "not" then (kndOf cs x).bind fun b => (valOf b v).map fun v => .eq (decide (s = "is")) x v else none
  | .tup [.str s, .str x, .int lo, .int hi] => if s = "from" ∧ kndOf cs x = some false ∧ big lo ∧ big hi then some (.frm x lo hi) else none
  | _ => none
structure Plan where
  rk : List Key
  ck : List Key
  sm : List Sum
  sf : List Sift
  deriving DecidableEq
def keysD (ks : List Key) : D := .tup (ks.map Key.d)
def sumsD (ks : List Sum) : D := .tup (ks.map Sum.d)
def siftsD (ks : List Sift) : D := .tup (ks.map Sift.d)
def Plan.d (p : Plan) : D := .tup [keysD p.rk, keysD p.ck, sumsD p.sm, siftsD p.sf]
def planOf (cs : List Col) : D → Option Plan
  | .tup [a, b, c, d] => (partOf (keyOf' cs) 3 a).bind fun a => (partOf (keyOf' cs) 3 b).bind fun b => (partOf (sumOf cs) 4 c).bind fun c => if c = [] then none else (partOf (siftOf cs) 3 d).map fun d => ⟨a, b, c, d⟩
  | _ => none
theorem skOf_w {s : Str} {k : SK} (h : skOf s = some k) : s = k.w := by
  unfold skOf at h
  repeat' (split at h; · cases h; assumption)
  cases h
theorem skOf_ok (k : SK) : skOf k.w = some k := by cases k <;> decide +kernel
theorem SK.ncount (k : SK) : k.w ≠ "count" := by cases k <;> decide +kernel
theorem keyOf_d {cs : List Col} {d : D} {k : Key} (h : keyOf' cs d = some k) : d = k.d ∧ keyOf' cs k.d = some k := by
  have e : d = k.d := by
    unfold keyOf' at h
    split at h
    · split at h
      · cases h; rfl
      · cases h
    · split at h
      · rename_i e
        split at h
        · cases h; rw [e]; rfl
        · cases h
      · split at h
        · rename_i e
          cases h; rw [e.1]; rfl
        · cases h
    · cases h
  exact ⟨e, by rw [← e]; exact h⟩
theorem sumOf_d {cs : List Col} {d : D} {k : Sum} (h : sumOf cs d = some k) : d = k.d ∧ sumOf cs k.d = some k := by
  have e : d = k.d := by
    unfold sumOf at h
    split at h
    · split at h
      · rename_i e
        cases h; rw [e]; rfl
      · cases h
    · split at h
      · cases h
      · split at h
        · rename_i k e
          split at h
          · cases h; rw [skOf_w e]; rfl
          · cases h
        · cases h
    · cases h
  exact ⟨e, by rw [← e]; exact h⟩
theorem siftOf_d {cs : List Col} {d : D} {k : Sift} (h : siftOf cs d = some k) : d = k.d ∧ siftOf cs k.d = some k := by
  have e : d = k.d := by
    unfold siftOf at h
    split at h
    · rename_i s x v
      split at h
      · rename_i e
        cases e1 : kndOf cs x with
        | none => rw [e1] at h; cases h
        | some b =>
          rw [e1] at h
          cases e2 : valOf b v with
          | none => rw [Option.bind_some, e2] at h; cases h
          | some u =>
            rw [Option.bind_some, e2] at h
            cases h
            obtain ⟨rfl, _⟩ := valOf_d e2
            have es : s = isS (decide (s = "is")) := by
              by_cases q : s = "is"
              · rw [decide_eq_true q]; exact q
              · rw [decide_eq_false q]; exact e.resolve_left q
            show D.tup [.str s, .str x, u.d] = D.tup [.str (isS (decide (s = "is"))), .str x, u.d]
            rw [← es]
      · cases h
    · split at h
      · rename_i e
        cases h; rw [e.1]; rfl
      · cases h
    · cases h
  exact ⟨e, by rw [← e]; exact h⟩
def KeyOk (cs : List Col) (k : Key) : Prop := keyOf' cs k.d = some k
def SumOk (cs : List Col) (k : Sum) : Prop := sumOf cs k.d = some k
def SiftOk (cs : List Col) (k : Sift) : Prop := siftOf cs k.d = some k
structure PlanOk (cs : List Col) (p : Plan) : Prop where
  rk : ∀ k ∈ p.rk, KeyOk cs k
  rl : p.rk.length ≤ 3
  ck : ∀ k ∈ p.ck, KeyOk cs k
  cl : p.ck.length ≤ 3
  sm : ∀ k ∈ p.sm, SumOk cs k
  sl : p.sm.length ≤ 4
  s1 : p.sm ≠ []
  sf : ∀ k ∈ p.sf, SiftOk cs k
  fl : p.sf.length ≤ 3
theorem planOf_d {cs : List Col} {d : D} {p : Plan} (h : planOf cs d = some p) : d = p.d ∧ PlanOk cs p := by
  unfold planOf at h
  split at h
  · rename_i a b c d
    cases ea : partOf (keyOf' cs) 3 a with
    | none => rw [ea] at h; cases h
    | some a' =>
    cases eb : partOf (keyOf' cs) 3 b with
    | none => rw [ea, eb] at h; cases h
    | some b' =>
    cases ec : partOf (sumOf cs) 4 c with
    | none => rw [ea, eb, ec] at h; cases h
    | some c' =>
    rw [ea, eb, ec] at h
    simp only [Option.bind_some] at h
    split at h
    · cases h
    · rename_i ne
      cases ed : partOf (siftOf cs) 3 d with
      | none => rw [ed] at h; cases h
      | some d' =>
        rw [ed] at h
        cases h
        obtain ⟨rfl, l1, w1⟩ := partOf_d (em := Key.d) (P := KeyOk cs) (fun d a e => keyOf_d e) ea
        obtain ⟨rfl, l2, w2⟩ := partOf_d (em := Key.d) (P := KeyOk cs) (fun d a e => keyOf_d e) eb
        obtain ⟨rfl, l3, w3⟩ := partOf_d (em := Sum.d) (P := SumOk cs) (fun d a e => sumOf_d e) ec
        obtain ⟨rfl, l4, w4⟩ := partOf_d (em := Sift.d) (P := SiftOk cs) (fun d a e => siftOf_d e) ed
        exact ⟨rfl, w1, l1, w2, l2, w3, l3, ne, w4, l4⟩
  · cases h
theorem planOf_ok {cs : List Col} {p : Plan} (h : PlanOk cs p) : planOf cs p.d = some p := by
  have e1 := partOf_ok (em := Key.d) h.rl h.rk
  have e2 := partOf_ok (em := Key.d) h.cl h.ck
  have e3 := partOf_ok (em := Sum.d) h.sl h.sm
  have e4 := partOf_ok (em := Sift.d) h.fl h.sf
  simp only [Plan.d, planOf, keysD, sumsD, siftsD, e1, e2, e3, e4, Option.bind_some, if_neg h.s1, Option.map_some]
end Ss
/-! GD: what the lookers of plans come to, of whatever fits. -/
namespace Pg
open PySem Ss L2
theorem place_of_sem {cs : List Col} (h : ColsOk cs) {x : Str} (hx : PyData.strOk x = true) : F_place_of.sem [colsD cs, .str x] = ret (natR (plc cs x)) := by
  refine runF_rt ?_
  have r := rngD_nat cs.length (by have := h.six; omega)
  simp [I_place_of, colsD, r]
  rw [lcs_filter (p := fun k => decide ((cs[k]?).map Col.nm = some x)) (g := fun (k : Nat) => D.int k) (fun k hk => ?_)]
  · have e := List.head?_filter (p := fun k => decide ((cs[k]?).map Col.nm = some x)) (l := List.range cs.length)
    simp only [ret_bnd, stp_ret]
    cases q : (List.range cs.length).filter fun k => decide ((cs[k]?).map Col.nm = some x) with
    | nil =>
      rw [q] at e
      have : plc cs x = none := e.symm
      rw [this]
      simp [natR]
    | cons k ks =>
      rw [q] at e
      have : plc cs x = some k := e.symm
      rw [this]
      simp [natR, natD]
  · have hk := List.mem_range.mp hk
    have z := eq_ss (isW_strOk (h.nms cs[k] (List.getElem_mem hk))) hx
    simp [cb, Ss.atI_nat, List.getElem?_eq_getElem hk]
    simp [Col.d, z]
    split <;> rfl
theorem kind_of_sem {cs : List Col} (h : ColsOk cs) {d : D} (hd : d.gd = true) : F_kind_of.sem [colsD cs, d] = ret (kindR (kndD cs d)) := by
  refine runF_rt ?_
  have w := is_word_sem hd
  by_cases e : isWD d = true
  · cases d <;> simp only [isWD, reduceCtorEq, Bool.false_eq_true] at e
    rename_i x
    have p := place_of_sem h (isW_strOk e)
    have e' : isWD (.str x) = true := e
    cases q : plc cs x with
    | none =>
      rw [q] at p
      simp [I_kind_of, w, e', p, natR, kndD, kndOf, q, kindR]
    | some k =>
      obtain ⟨hk, en⟩ := plc_some q
      rw [q] at p
      simp [I_kind_of, w, e', p, natR, natD, kndD, kndOf, q, kindR, List.getElem?_eq_getElem hk]
      simp [colsD, Ss.atI_nat, List.getElem?_eq_getElem hk]
      simp [Col.d]
  · have z : kndD cs d = none := by
      cases q : kndD cs d with
      | none => rfl
      | some b =>
        obtain ⟨x, rfl, q⟩ := kndD_str q
        exact absurd (knd_isW h q) e
    have e : isWD d = false := by simpa using e
    simp [I_kind_of, w, e, z, kindR]
theorem kn_eq (o : Option Bool) : Cm.f .eq (kindR o) (.str "number") = some (decide (o = some false)) := by
  rcases o with _ | _ | _ <;> decide +kernel
theorem kw_eq' (o : Option Bool) : Cm.f .eq (kindR o) (.str "word") = some (decide (o = some true)) := by
  rcases o with _ | _ | _ <;> decide +kernel
theorem kn_ne (o : Option Bool) : Cm.f .ne (kindR o) (.str "number") = some (!decide (o = some false)) := by
  rcases o with _ | _ | _ <;> decide +kernel
theorem kindR_isN (o : Option Bool) : isN (kindR o) = !o.isSome := by rcases o with _ | _ | _ <;> rfl
theorem sOk (s : Str) (h : PyData.strOk s = true := by decide +kernel) : PyData.strOk s = true := h
theorem is_key_sem {cs : List Col} (h : ColsOk cs) {d : D} (hd : d.gd = true) : F_is_key.sem [colsD cs, d] = ret (.bl (keyOf' cs d).isSome) := by
  refine runF_rt ?_
  cases d with
  | str x =>
    have k := kind_of_sem h hd
    simp [I_is_key, k, kindR_isN, kndD, keyOf', isSome_ite]
  | tup xs =>
    match xs with
    | [] => simp [I_is_key, keyOf']
    | [a] => simp [I_is_key, keyOf']
    | [a, b] => simp [I_is_key, keyOf']
    | a :: b :: c :: e :: r =>
      have z : ¬ ((r.length : Int) + 1 + 1 + 1 + 1 = 3) := by omega
      simp [I_is_key, keyOf', z]
    | [a, b, c] =>
      have ga := gd_tup hd a (by simp)
      have gb := gd_tup hd b (by simp)
      have gc := gd_tup hd c (by simp)
      have k := kind_of_sem h gb
      have w1 := is_whole_sem gc 1 1000000
      have w2 := is_whole_sem gc 1 8
      cases a with
      | str s =>
        have z1 := eq_ss (gd_strOk ga) (sOk "band")
        have z2 := eq_ss (gd_strOk ga) (sOk "first")
        have key : (keyOf' cs (.tup [.str s, b, c])).isSome = if s = "band" then (decide (kndD cs b = some false) && wholeD 1 1000000 c) else (decide (s = "first") && (decide (kndD cs b = some true) && wholeD 1 8 c)) := by
          cases b with
          | str x =>
            cases c with
            | int i =>
              simp only [keyOf', kndD, wholeD]
              by_cases e1 : s = "band"
              · rw [if_pos e1, if_pos e1, isSome_ite]
                by_cases q1 : kndOf cs x = some false <;> simp [q1]
              · rw [if_neg e1, if_neg e1, isSome_ite]
                by_cases q0 : s = "first" <;> by_cases q1 : kndOf cs x = some true <;> simp [q0, q1]
            | _ => simp [keyOf', wholeD]
          | _ => simp [keyOf', kndD]
        rw [key]
        by_cases e1 : s = "band"
        · subst e1
          by_cases q1 : kndD cs b = some false
          · simp [I_is_key, z1, k, kn_eq, q1, w1]
          · simp [I_is_key, z1, k, kn_eq, q1, w1]
        · by_cases q0 : s = "first"
          · subst q0
            have e1' : decide ((Str.ofString "first") = Str.ofString "band") = false := decide_eq_false e1
            rw [e1'] at z1
            by_cases q1 : kndD cs b = some true
            · simp [I_is_key, z1, z2, k, kw_eq', q1, w2, e1]
            · simp [I_is_key, z1, z2, k, kw_eq', q1, w2, e1]
          · simp [I_is_key, z1, z2, e1, q0]
      | non => simp [I_is_key, keyOf']
      | bl _ => simp [I_is_key, keyOf']
      | int _ => simp [I_is_key, keyOf']
      | lst _ => simp [I_is_key, keyOf']
      | tup _ => simp [I_is_key, keyOf']
      | _ => exact absurd (gd_pl ga) (by simp only [D.pl]; exact Bool.false_ne_true)
  | non => simp [I_is_key, keyOf']
  | bl b => simp [I_is_key, keyOf']
  | int i => simp [I_is_key, keyOf']
  | lst i => simp [I_is_key, keyOf']
  | _ => exact absurd (gd_pl hd) (by simp only [D.pl]; exact Bool.false_ne_true)
theorem in_tup_s {s : Str} {ys : List Str} (h : PyData.strOk s = true) (h' : ∀ y ∈ ys, PyData.strOk y = true) : inD (.str s) (.tup (ys.map D.str)) = some (decide (s ∈ ys)) := by
  have o := str_okE h
  have o2 : (D.tup (ys.map D.str)).okE = true := by
    refine okE_of ?_ ?_
    · simp only [D.pl]; exact pls_all fun y hy => by simpa only [D.pl] using h' y hy
    · simp only [D.dep]
      have : D.deps (ys.map D.str) ≤ 0 := deps_all fun y _ => by simp only [D.dep]; omega
      omega
  have e := any_eqv (f := D.str) (fun x y => by simp [Bool.beq_eq_decide_eq]) s ys
  simp only [inD, o, o2, Bool.and_self, if_true, e]
theorem skOf_isSome (s : Str) : (skOf s).isSome = (decide (s ∈ ([("sum" : Str), "least", "greatest", "mean"] : List Str)) || decide (s ∈ ([("of all" : Str), "of row", "of column"] : List Str)) || decide (s ∈ ([("unlike" : Str), "filled"] : List Str))) := by
  unfold skOf
  simp only [List.mem_cons, List.not_mem_nil, or_false]
  repeat' (split; · simp_all)
  simp_all
theorem skOf_num (s : Str) {k : SK} (h : skOf s = some k) : k.num = (decide (s ∈ ([("sum" : Str), "least", "greatest", "mean"] : List Str)) || decide (s ∈ ([("of all" : Str), "of row", "of column"] : List Str))) := by
  have e := skOf_w h
  subst e
  cases k <;> decide +kernel
theorem is_sum_sem {cs : List Col} (h : ColsOk cs) {d : D} (hd : d.gd = true) : F_is_sum.sem [colsD cs, d] = ret (.bl (sumOf cs d).isSome) := by
  refine runF_rt ?_
  cases d with
  | tup xs =>
    match xs with
    | [] => simp [I_is_sum, sumOf]
    | a :: r =>
      have ga := gd_tup hd a (by simp)
      have zl : ¬ ((r.length : Int) + 1 = 0) := by omega
      cases a with
      | str s =>
        have so := gd_strOk ga
        have z1 := eq_ss so (sOk "count")
        by_cases e1 : s = "count"
        · subst e1
          cases r with
          | nil => simp [I_is_sum, sumOf, z1]
          | cons b r =>
            have z2 : ¬ ((r.length : Int) + 1 + 1 = 1) := by omega
            have z3 : ¬ ((r.length : Int) + 1 + 1 = 0) := by omega
            have zz : sumOf cs (.tup (.str "count" :: b :: r)) = none := by
              unfold sumOf
              split
              · rename_i e; cases e
              · rename_i e; cases e; simp
              · rfl
            simp [I_is_sum, z1, z2, z3, zz]
        · rw [decide_eq_false e1] at z1
          match r with
          | [] => simp [I_is_sum, sumOf, z1, e1]
          | b :: c :: r =>
            have z2 : ¬ ((r.length : Int) + 1 + 1 + 1 = 2) := by omega
            have z3 : ¬ ((r.length : Int) + 1 + 1 + 1 = 0) := by omega
            simp [I_is_sum, sumOf, z1, z2, z3]
          | [b] =>
            have gb := gd_tup hd b (by simp)
            have k := kind_of_sem h gb
            have i1 := in_tup_s (ys := [("sum" : Str), "least", "greatest", "mean"]) so (by decide +kernel)
            have i2 := in_tup_s (ys := [("of all" : Str), "of row", "of column"]) so (by decide +kernel)
            have i3 := in_tup_s (ys := [("unlike" : Str), "filled"]) so (by decide +kernel)
            have key : (sumOf cs (.tup [.str s, b])).isSome = if (decide (s ∈ ([("sum" : Str), "least", "greatest", "mean"] : List Str)) || decide (s ∈ ([("of all" : Str), "of row", "of column"] : List Str))) then decide (kndD cs b = some false) else (decide (s ∈ ([("unlike" : Str), "filled"] : List Str)) && (kndD cs b).isSome) := by
              have n := skOf_isSome s
              cases b with
              | str x =>
                simp only [sumOf, if_neg e1, kndD]
                cases q : skOf s with
                | none =>
                  rw [q] at n
                  simp only [Option.isSome_none] at n ⊢
                  have n' := n.symm
                  rw [Bool.or_eq_false_iff] at n'
                  rw [n'.1, n'.2]; rfl
                | some sk =>
                  rw [q] at n
                  have m := skOf_num s q
                  have e : (if sumFit cs sk x = true then some (Sum.one sk x) else none).isSome = sumFit cs sk x := by cases sumFit cs sk x <;> rfl
                  simp only [e]
                  rw [← m] at n ⊢
                  unfold sumFit
                  by_cases hn : sk.num = true
                  · rw [if_pos hn, if_pos hn]; exact decide_eq_decide.mpr Iff.rfl
                  · rw [if_neg hn, if_neg hn]
                    have hn : sk.num = false := by simpa using hn
                    rw [hn, Bool.false_or] at n
                    simp only [Option.isSome_some] at n
                    rw [← n]; rfl
              | _ => simp [sumOf, kndD]
            simp only [List.map_cons, List.map_nil] at i1 i2 i3
            rw [key]
            generalize decide (s ∈ ([("sum" : Str), "least", "greatest", "mean"] : List Str)) = p1 at *
            generalize decide (s ∈ ([("of all" : Str), "of row", "of column"] : List Str)) = p2 at *
            generalize decide (s ∈ ([("unlike" : Str), "filled"] : List Str)) = p3 at *
            cases p1 <;> cases p2 <;> cases p3 <;> simp [I_is_sum, z1, i1, i2, i3, k, kn_eq, kindR_isN]
      | non => simp [I_is_sum, sumOf, zl]
      | bl _ => simp [I_is_sum, sumOf, zl]
      | int _ => simp [I_is_sum, sumOf, zl]
      | lst _ => simp [I_is_sum, sumOf, zl]
      | tup _ => simp [I_is_sum, sumOf, zl]
      | _ => exact absurd (gd_pl ga) (by simp only [D.pl]; exact Bool.false_ne_true)
  | non => simp [I_is_sum, sumOf]
  | bl b => simp [I_is_sum, sumOf]
  | int i => simp [I_is_sum, sumOf]
  | lst i => simp [I_is_sum, sumOf]
  | str i => simp [I_is_sum, sumOf]
  | _ => exact absurd (gd_pl hd) (by simp only [D.pl]; exact Bool.false_ne_true)
theorem wholeD_big (d : D) : wholeD (-1000000) 1000000 d = (match d with
    | .int i => decide (big i)
    | _ => false) := by
  cases d with
  | int i => by_cases a : -1000000 ≤ i <;> by_cases b : i ≤ 1000000 <;> simp [wholeD, big, a, b]
  | _ => simp [wholeD]
theorem is_sift_sem {cs : List Col} (h : ColsOk cs) {d : D} (hd : d.gd = true) : F_is_sift.sem [colsD cs, d] = ret (.bl (siftOf cs d).isSome) := by
  refine runF_rt ?_
  cases d with
  | tup xs =>
    match xs with
    | [] => simp [I_is_sift, siftOf]
    | a :: r =>
      have ga := gd_tup hd a (by simp)
      have zl : ¬ ((r.length : Int) + 1 = 0) := by omega
      cases a with
      | str s =>
        have so := gd_strOk ga
        have z1 := ne_ss so (sOk "from")
        have i1 := in_tup_s (ys := [("is" : Str), "not"]) so (by decide +kernel)
        simp only [List.map_cons, List.map_nil] at i1
        by_cases e1 : s ∈ ([("is" : Str), "not"] : List Str)
        · rw [decide_eq_true e1] at i1
          have e1' : s = "is" ∨ s = "not" := by simpa using e1
          have nf : ¬ s = "from" := by rcases e1' with rfl | rfl <;> decide +kernel
          match r with
          | [b, v] =>
            have gb := gd_tup hd b (by simp)
            have gv := gd_tup hd v (by simp)
            have k := kind_of_sem h gb
            cases q : kndD cs b with
            | none =>
              have zz : siftOf cs (.tup [.str s, b, v]) = none := by
                cases b with
                | str x =>
                  have q : kndOf cs x = none := q
                  simp only [siftOf, if_pos e1', q, Option.bind_none]
                | _ => simp [siftOf]
              rw [q] at k
              simp [I_is_sift, i1, k, kindR, zz]
            | some b' =>
              obtain ⟨x, rfl, q'⟩ := kndD_str q
              have V := is_value_sem gv b'
              have zz : siftOf cs (.tup [.str s, .str x, v]) = (valOf b' v).map fun v => .eq (decide (s = "is")) x v := by
                simp only [siftOf, if_pos e1', q', Option.bind_some]
              rw [q] at k
              simp [I_is_sift, i1, k, kindR, zz, V]
          | [] => simp [I_is_sift, siftOf, i1]
          | [b] => simp [I_is_sift, siftOf, i1]
          | b :: c :: e :: r =>
            have z2 : ¬ ((r.length : Int) + 1 + 1 + 1 + 1 = 3) := by omega
            have z3 : ¬ ((r.length : Int) + 1 + 1 + 1 + 1 = 0) := by omega
            have zz : siftOf cs (.tup (.str s :: b :: c :: e :: r)) = none := by
              unfold siftOf
              split
              · rename_i q; cases q
              · rename_i q; cases q; rw [if_neg (fun z => nf z.1)]
              · rfl
            simp [I_is_sift, i1, z2, z3, zz]
        · rw [decide_eq_false e1] at i1
          have e1' : ¬ (s = "is" ∨ s = "not") := by simpa using e1
          by_cases e2 : s = "from"
          · subst e2
            match r with
            | [b, lo, hi] =>
              have gb := gd_tup hd b (by simp)
              have gl := gd_tup hd lo (by simp)
              have gh := gd_tup hd hi (by simp)
              have k := kind_of_sem h gb
              have w1 := is_whole_sem gl (-1000000) 1000000
              have w2 := is_whole_sem gh (-1000000) 1000000
              have c1 : ∀ ρ, lcs (cb (.call F_is_whole [(.var 3), (.op .sub (.lit (.int 0)) (.glob "MOST_NUMBER" (.int 1000000))), (.glob "MOST_NUMBER" (.int 1000000))]) (.one 3) [] [3] (colsD cs |> fun c => [.dat c, .dat (.tup [.str "from", b, lo, hi]), ρ, .emp])) [lo, hi] = ret ([lo, hi].map fun x => D.bl (wholeD (-1000000) 1000000 x)) := fun ρ => by
                refine lcs_all fun x hx => ?_
                simp only [List.mem_cons, List.not_mem_nil, or_false] at hx
                rcases hx with rfl | rfl
                · simp [cb, w1]
                · simp [cb, w2]
              have ct : cutL [D.str "from", b, lo, hi] (some 2) none = [lo, hi] := cutL_drop _ 2
              have A := all_map (fun x => wholeD (-1000000) 1000000 x) [lo, hi]
              simp only [List.map_cons, List.map_nil] at c1 A
              have key : (siftOf cs (.tup [.str "from", b, lo, hi])).isSome = (decide (kndD cs b = some false) && [lo, hi].all fun x => wholeD (-1000000) 1000000 x) := by
                cases b with
                | str x =>
                  simp only [List.all_cons, List.all_nil, wholeD_big, Bool.and_true]
                  cases lo with
                  | int lo =>
                    cases hi with
                    | int hi =>
                      simp only [siftOf, kndD, isSome_ite]
                      by_cases q : kndOf cs x = some false <;> simp [q]
                    | _ => simp [siftOf]
                  | _ => simp [siftOf]
                | _ => simp [siftOf, kndD]
              rw [key]
              by_cases q : kndD cs b = some false
              · simp [I_is_sift, i1, z1, k, kn_ne, q, ct, c1, A]
              · simp [I_is_sift, i1, z1, k, kn_ne, q]
            | [] => simp [I_is_sift, siftOf, i1, z1]
            | [b] => simp [I_is_sift, siftOf, i1, z1]
            | [b, c] =>
              have zz : siftOf cs (.tup [.str "from", b, c]) = none := by
                cases b <;> simp only [siftOf]
                rw [if_neg e1']
              simp [I_is_sift, i1, z1, zz]
            | b :: c :: e :: f :: r =>
              have z2 : ¬ ((r.length : Int) + 1 + 1 + 1 + 1 + 1 = 4) := by omega
              have z3 : ¬ ((r.length : Int) + 1 + 1 + 1 + 1 + 1 = 0) := by omega
              simp [I_is_sift, i1, z1, z2, z3, siftOf]
          · rw [decide_eq_false e2] at z1
            have zz : siftOf cs (.tup (.str s :: r)) = none := by
              unfold siftOf
              split
              · rename_i q; cases q; rw [if_neg e1']
              · rename_i q; cases q; rw [if_neg (fun z => e2 z.1)]
              · rfl
            simp [I_is_sift, i1, z1, zz, zl]
      | non => simp [I_is_sift, siftOf, zl]
      | bl _ => simp [I_is_sift, siftOf, zl]
      | int _ => simp [I_is_sift, siftOf, zl]
      | lst _ => simp [I_is_sift, siftOf, zl]
      | tup _ => simp [I_is_sift, siftOf, zl]
      | _ => exact absurd (gd_pl ga) (by simp only [D.pl]; exact Bool.false_ne_true)
  | non => simp [I_is_sift, siftOf]
  | bl b => simp [I_is_sift, siftOf]
  | int i => simp [I_is_sift, siftOf]
  | lst i => simp [I_is_sift, siftOf]
  | str i => simp [I_is_sift, siftOf]
  | _ => exact absurd (gd_pl hd) (by simp only [D.pl]; exact Bool.false_ne_true)
/-- a part of a plan -/
def partB (p : D → Bool) (m : Nat) : D → Bool
  | .tup xs => decide (xs.length ≤ m) && xs.all p
  | _ => false
theorem partOf_isSome {α : Type} (f : D → Option α) (m : Nat) (d : D) : (partOf f m d).isSome = partB (fun x => (f x).isSome) m d := by
  cases d <;> simp only [partOf, partB, Option.isSome_none]
  rename_i xs
  by_cases l : xs.length ≤ m
  · rw [if_pos l, allL_isSome, decide_eq_true l]; rfl
  · rw [if_neg l, decide_eq_false l]; rfl
theorem are_all_sem {cs : List Col} {d : D} (hd : d.gd = true) {m : Nat} {f : Str} {g : Fn} {p : D → Bool} (hf : ([F_is_key, F_is_sift, F_is_sum].find? fun g => g.name == f) = some g) (ar : g.ar = 2) (hp : ∀ x : D, x.gd = true → g.sem [colsD cs, x] = ret (.bl (p x))) :
    F_are_all.sem [d, .int m, .fn f, colsD cs] = ret (.bl (partB p m d)) := by
  refine runF_rt ?_
  cases d with
  | tup xs =>
    by_cases l : xs.length ≤ m
    · have l' : (xs.length : Int) ≤ m := by omega
      simp [I_are_all, l']
      rw [lcs_all (p := p) fun x hx => ?_]
      · simp [all_map, partB, l]
      · have e := hp x (gd_tup hd x hx)
        simp only [cb]
        simp [callF, hf, ar, e]
    · have l' : ¬ ((xs.length : Int) ≤ m) := by omega
      simp [I_are_all, l', partB, l]
  | non => simp [I_are_all, partB]
  | bl b => simp [I_are_all, partB]
  | int i => simp [I_are_all, partB]
  | lst i => simp [I_are_all, partB]
  | str i => simp [I_are_all, partB]
  | _ => exact absurd (gd_pl hd) (by simp only [D.pl]; exact Bool.false_ne_true)
theorem find_key : ([F_is_key, F_is_sift, F_is_sum].find? fun g => g.name == ("is_key" : Str)) = some F_is_key := by simp [List.find?]
theorem find_sift : ([F_is_key, F_is_sift, F_is_sum].find? fun g => g.name == ("is_sift" : Str)) = some F_is_sift := by
  have e : ((Str.ofString "is_key") == Str.ofString "is_sift") = false := by decide +kernel
  simp [List.find?, e]
theorem find_sum : ([F_is_key, F_is_sift, F_is_sum].find? fun g => g.name == ("is_sum" : Str)) = some F_is_sum := by
  have e : ((Str.ofString "is_key") == Str.ofString "is_sum") = false := by decide +kernel
  have e2 : ((Str.ofString "is_sift") == Str.ofString "is_sum") = false := by decide +kernel
  simp [List.find?, e, e2]
theorem all_keys {cs : List Col} (h : ColsOk cs) {d : D} (hd : d.gd = true) : F_are_all.sem [d, .int 3, .fn "is_key", colsD cs] = ret (.bl (partOf (keyOf' cs) 3 d).isSome) := by
  rw [partOf_isSome]; exact are_all_sem (m := 3) hd find_key rfl fun x hx => is_key_sem h hx
theorem all_sums {cs : List Col} (h : ColsOk cs) {d : D} (hd : d.gd = true) : F_are_all.sem [d, .int 4, .fn "is_sum", colsD cs] = ret (.bl (partOf (sumOf cs) 4 d).isSome) := by
  rw [partOf_isSome]; exact are_all_sem (m := 4) hd find_sum rfl fun x hx => is_sum_sem h hx
theorem all_sifts {cs : List Col} (h : ColsOk cs) {d : D} (hd : d.gd = true) : F_are_all.sem [d, .int 3, .fn "is_sift", colsD cs] = ret (.bl (partOf (siftOf cs) 3 d).isSome) := by
  rw [partOf_isSome]; exact are_all_sem (m := 3) hd find_sift rfl fun x hx => is_sift_sem h hx
/-- what look_plan raises -/
def planE (c d : D) : Option Str := match colsOf c with
  | none => some "BadTable"
  | some cs => match planOf cs d with
    | some _ => none
    | none => some "BadPlan"
theorem look_plan_sem {c d : D} (hc : c.gd = true) (hd : d.gd = true) : F_look_plan.sem [c, d] = okM (planE c d) := by
  refine runF_okM ?_
  have L := look_columns_sem hc
  unfold planE
  cases q : colsOf c with
  | none => exact ⟨[.dat c, .dat d], by simp [I_look_plan, L, q]⟩
  | some cs =>
    rw [q] at L
    obtain ⟨rfl, ok⟩ := colsOf_d q
    simp only [okM_none] at L
    dsimp only
    cases d with
    | tup xs =>
      match xs with
      | [] => exact ⟨[.dat (colsD cs), .dat (.tup [])], by simp [I_look_plan, L]⟩
      | [x] => exact ⟨[.dat (colsD cs), .dat (.tup [x])], by simp [I_look_plan, L]⟩
      | [x, y] => exact ⟨[.dat (colsD cs), .dat (.tup [x, y])], by simp [I_look_plan, L]⟩
      | [x, y, z] => exact ⟨[.dat (colsD cs), .dat (.tup [x, y, z])], by simp [I_look_plan, L]⟩
      | x :: y :: z :: u :: v :: r =>
        have zz : ¬ ((r.length : Int) + 1 + 1 + 1 + 1 + 1 = 4) := by omega
        exact ⟨[.dat (colsD cs), .dat (.tup (x :: y :: z :: u :: v :: r))], by simp [I_look_plan, L, zz]⟩
      | [x, y, z, u] =>
        have gx := gd_tup hd x (by simp)
        have gy := gd_tup hd y (by simp)
        have gz := gd_tup hd z (by simp)
        have gu := gd_tup hd u (by simp)
        have a1 := all_keys ok gx
        have a2 := all_keys ok gy
        have a3 := all_sums ok gz
        have a4 := all_sifts ok gu
        have e3 : ∀ xs : List D, atI (x :: y :: z :: u :: xs) 3 = some u := fun xs => atI_nat (x :: y :: z :: u :: xs) 3
        cases q1 : partOf (keyOf' cs) 3 x with
        | none =>
          rw [q1] at a1
          rw [show planOf cs (.tup [x, y, z, u]) = none by simp only [planOf, q1, Option.bind_none]]
          exact ⟨[.dat (colsD cs), .dat (.tup [x, y, z, u])], by simp [I_look_plan, L, a1]⟩
        | some x' =>
        rw [q1] at a1
        cases q2 : partOf (keyOf' cs) 3 y with
        | none =>
          rw [q2] at a2
          rw [show planOf cs (.tup [x, y, z, u]) = none by simp only [planOf, q1, q2, Option.bind_none, Option.bind_some]]
          exact ⟨[.dat (colsD cs), .dat (.tup [x, y, z, u])], by simp [I_look_plan, L, a1, a2]⟩
        | some y' =>
        rw [q2] at a2
        cases q3 : partOf (sumOf cs) 4 z with
        | none =>
          rw [q3] at a3
          rw [show planOf cs (.tup [x, y, z, u]) = none by simp only [planOf, q1, q2, q3, Option.bind_none, Option.bind_some]]
          exact ⟨[.dat (colsD cs), .dat (.tup [x, y, z, u])], by simp [I_look_plan, L, a1, a2, a3]⟩
        | some z' =>
        rw [q3] at a3
        obtain ⟨rfl, _, _⟩ := partOf_d (em := Sum.d) (P := SumOk cs) (fun d a e => sumOf_d e) q3
        by_cases ne : z' = []
        · subst ne
          rw [show planOf cs (.tup [x, y, .tup (([] : List Sum).map Sum.d), u]) = none by simp only [planOf, q1, q2, q3, Option.bind_some, if_pos]]
          exact ⟨[.dat (colsD cs), .dat (.tup [x, y, .tup [], u])], by simp at a3; simp [I_look_plan, L, a1, a2, a3]⟩
        · have nl : ¬ ((z'.length : Int) = 0) := by
            have := List.length_pos_iff.mpr ne
            omega
          cases q4 : partOf (siftOf cs) 3 u with
          | none =>
            rw [q4] at a4
            rw [show planOf cs (.tup [x, y, .tup (z'.map Sum.d), u]) = none by simp only [planOf, q1, q2, q3, q4, Option.bind_some, if_neg ne, Option.map_none]]
            exact ⟨[.dat (colsD cs), .dat (.tup [x, y, .tup (z'.map Sum.d), u])], by simp [I_look_plan, L, a1, a2, a3, a4, ne, e3]⟩
          | some u' =>
            rw [q4] at a4
            rw [show planOf cs (.tup [x, y, .tup (z'.map Sum.d), u]) = some ⟨x', y', z', u'⟩ by simp only [planOf, q1, q2, q3, q4, Option.bind_some, if_neg ne, Option.map_some]]
            exact ⟨[.dat (colsD cs), .dat (.tup [x, y, .tup (z'.map Sum.d), u])], by simp [I_look_plan, L, a1, a2, a3, a4, ne, e3]⟩
    | non => exact ⟨[.dat (colsD cs), .dat .non], by simp [I_look_plan, L]⟩
    | bl b => exact ⟨[.dat (colsD cs), .dat (.bl b)], by simp [I_look_plan, L]⟩
    | int b => exact ⟨[.dat (colsD cs), .dat (.int b)], by simp [I_look_plan, L]⟩
    | lst b => exact ⟨[.dat (colsD cs), .dat (.lst b)], by simp [I_look_plan, L]⟩
    | str b => exact ⟨[.dat (colsD cs), .dat (.str b)], by simp [I_look_plan, L]⟩
    | _ => exact absurd (gd_pl hd) (by simp only [D.pl]; exact Bool.false_ne_true)
theorem tabOf_d {d : D} {cs : List Col} {rs : List Row} (h : tabOf d = .ok (cs, rs)) : d = tabD cs rs ∧ TabOk ⟨cs, rs⟩ := by
  unfold tabOf at h
  split at h
  · rename_i a b
    cases q : colsOf a with
    | none => rw [q] at h; cases h
    | some cs' =>
      rw [q] at h
      simp only at h
      cases b with
      | lst rs' =>
        simp only at h
        by_cases l : rs'.length ≤ 24
        · rw [if_pos l] at h
          cases q2 : rowsL cs' rs' with
          | none => rw [q2] at h; cases h
          | some r2 =>
            rw [q2] at h
            cases h
            obtain ⟨rfl, ok⟩ := colsOf_d q
            obtain ⟨rfl, ro⟩ := rowsL_d q2
            rw [List.length_map] at l
            exact ⟨rfl, ok, ro, l⟩
        · rw [if_neg l] at h; cases h
      | _ => cases h
  · cases h
/-- what look_all raises -/
def allE (t p : D) : Option Str := match tabOf t with
  | .error c => some c
  | .ok (cs, _) => match planOf cs p with
    | some _ => none
    | none => some "BadPlan"
theorem look_all_sem {t p : D} (ht : t.gd = true) (hp : p.gd = true) : F_look_all.sem [t, p] = okM (allE t p) := by
  refine runF_okM ?_
  have L := look_table_sem ht
  unfold allE
  cases q : tabOf t with
  | error c =>
    rw [q] at L
    exact ⟨[.dat t, .dat p], by simp [I_look_all, L, exE]⟩
  | ok a =>
    obtain ⟨cs, rs⟩ := a
    rw [q] at L
    obtain ⟨rfl, ok⟩ := tabOf_d q
    have gc : (colsD cs).gd = true := gd_tup ht _ (by simp)
    have L2 := look_plan_sem gc hp
    unfold planE at L2
    rw [colsOf_ok ok.cols] at L2
    simp only at L2 ⊢
    cases q2 : planOf cs p with
    | none =>
      rw [q2] at L2
      exact ⟨[.dat (tabD cs rs), .dat p], by simp [I_look_all, L, exE]; simp [tabD, L2]⟩
    | some _ =>
      rw [q2] at L2
      exact ⟨[.dat (tabD cs rs), .dat p], by simp [I_look_all, L, exE]; simp [tabD, L2]⟩
end Pg
/-! GE: what the laws' drawers come to. -/
namespace Pg
open PySem Ss L2
theorem atI_int {α : Type} (xs : List α) {i : Int} (h0 : 0 ≤ i) (h1 : i < xs.length) : ∃ x, x ∈ xs ∧ atI xs i = some x := by
  obtain ⟨k, rfl⟩ := Int.eq_ofNat_of_zero_le h0
  have hk : k < xs.length := by omega
  exact ⟨xs[k], List.getElem_mem hk, by rw [Ss.atI_nat, List.getElem?_eq_getElem hk]⟩
theorem op_mod {i j : Int} (h : 0 < j) : Op.f .mod (.int i) (.int j) = some (.int (i % j)) := by simp only [Op.f, if_pos h]
theorem op_fdiv {i j : Int} (h : 0 < j) (h' : j < 1073741824) : Op.f .fdiv (.int i) (.int j) = some (.int (i / j)) := by
  have h2 : 0 < j ∧ j < 2 ^ 200 := ⟨h, by omega⟩
  simp only [Op.f, if_pos h2]
theorem op_mulL {i j : Int} (h : w64 i = true) : Op.f .mul (.int i) (.int j) = some (.int (i * j)) := by simp only [Op.f, h, Bool.true_or, if_true]
theorem op_mulR {i j : Int} (h : w64 j = true) : Op.f .mul (.int i) (.int j) = some (.int (i * j)) := by simp only [Op.f, h, Bool.or_true, if_true]
theorem cell_ok (ns : List Int) (k : Int) : ∃ c : Int, F__law_cell.sem [.scr ns, .int k] = ret (.int c) := by
  cases ns with
  | nil =>
    refine ⟨0, ?_⟩
    show runF 2 I__law_cell [.scr [], .int k] = _
    refine runF_rt ?_
    simp [I__law_cell]
  | cons a r =>
    have hp : (0 : Int) < ((a :: r).length : Int) := by simp only [List.length_cons]; omega
    obtain ⟨x, _, hx⟩ := atI_int (a :: r) (i := k % ((a :: r).length : Int)) (Int.emod_nonneg _ (by omega)) (Int.emod_lt_of_pos _ hp)
    refine ⟨x, ?_⟩
    refine runF_rt ?_
    have m := op_mod (i := k) hp
    have el : ((a :: r).length : Int) = (r.length : Int) + 1 := by simp
    rw [el] at m hx
    simp only [I__law_cell]
    simp [m, hx]
theorem mix_ok (ns : List Int) (k : Int) : ∃ c : Int, F__law_mix.sem [.scr ns, .int k] = ret (.int c) := by
  obtain ⟨c, hc⟩ := cell_ok ns k
  have a : F__law_cell.ar = 2 := rfl
  have m1 := op_mulL (i := 104729) (j := k + 1) (by decide)
  have m2 := op_mod (i := c + 104729 * (k + 1)) (j := 4294967291) (by decide)
  have b0 := Int.emod_nonneg (c + 104729 * (k + 1)) (show (4294967291 : Int) ≠ 0 by decide)
  have b1 := Int.emod_lt_of_pos (c + 104729 * (k + 1)) (show (0 : Int) < 4294967291 by decide)
  generalize (c + 104729 * (k + 1)) % 4294967291 = x at m2 b0 b1
  have m3 : Op.f .pow (.int x) (.int 5) = some (.int (x ^ 5)) := by
    have h : (0 : Int) ≤ 5 ∧ (5 : Int) ≤ 1000000 ∧ x.natAbs < 2 ^ 64 := ⟨by decide, by decide, by omega⟩
    simp only [Op.f, if_pos h]; rfl
  have m4 := op_mod (i := x ^ 5) (j := 4294967279) (by decide)
  generalize x ^ 5 % 4294967279 = y at m4
  have m5 := op_fdiv (i := y) (j := 64) (by decide) (by decide)
  have m6 := op_mulR (i := y / 64) (j := 69621) (by decide)
  have m7 := op_mod (i := y / 64 * 69621 + y) (j := 4294967231) (by decide)
  refine ⟨(y / 64 * 69621 + y) % 4294967231, ?_⟩
  refine runF_rt ?_
  simp only [I__law_mix]
  simp [a, hc, m1, m2, m3, m4, m5, m6, m7]
theorem draw_ok (ns : List Int) {m : Nat} (hm : 0 < m) : Hs (F__law_draw.sem [.scr ns, .town, .int m]) 1 fun d => ∃ k, d = natD k ∧ k < m := by
  refine Hs.runF fun n os hn => ?_
  obtain ⟨c, hc⟩ := mix_ok ns ((n + 1 : Nat) : Int)
  have m1 := op_fdiv (i := c) (j := 8) (by decide) (by decide)
  have m2 := op_mod (i := c / 8) (j := (m : Int)) (by omega)
  have b0 := Int.emod_nonneg (c / 8) (show (m : Int) ≠ 0 by omega)
  have b1 := Int.emod_lt_of_pos (c / 8) (show (0 : Int) < m by omega)
  have a : F__law_mix.ar = 2 := rfl
  obtain ⟨k, hk⟩ := Int.eq_ofNat_of_zero_le b0
  refine ⟨.rt (natD k), n + 1, ?_, by omega, _, rfl, k, rfl, by omega⟩
  have e : ev (.op .mod (.op .fdiv (.call F__law_mix [(.var 0), (.tlen 1)]) (.lit (.int 8))) (.var 2)) [.dat (.scr ns), .dat .town, .dat (.int m)] ⟨n + 1, os⟩ = .ok (natD k) ⟨n + 1, os⟩ := by
    simp only [ev_op, ev_call, evs_cons, ev_var, ev_tlen, evs_nil, ev_lit]
    simp only [getD_zero, getD_succ, lft_some, ret_bnd]
    simp only [bnd, tlenM, Ss.ret, List.length_cons, List.length_nil, a, if_true]
    have hc' := congrFun hc ⟨n + 1, os⟩
    simp only [Ss.ret] at hc'
    simp only [show (0 + 1 + 1 : Nat) = 2 by rfl, if_true, hc', m1, m2, lft_some, Ss.ret, hk]
    rfl
  have hn' : n < sizeLine := by simp; omega
  simp only [I__law_draw, List.map_cons, List.map_nil, List.length_cons, List.length_nil, List.replicate, List.append_nil]
  rw [exs_cons]
  have e2 : ex (.tapp 1) [.dat (.scr ns), .dat .town, .dat (.int m)] ⟨n, os⟩ = .ok (.nx [.dat (.scr ns), .dat .town, .dat (.int m)]) ⟨n + 1, os⟩ := by
    simp only [ex, getD_zero, getD_succ, if_pos hn']
  simp only [Nat.reduceAdd, Nat.sub_self, List.replicate, List.append_nil] at *
  simp only [sq, bnd, e2, exs_one, ex_ret, stp, e]
  rfl
theorem pick_ok (ns : List Int) {xs : List D} (h : xs ≠ []) : Hs (F__law_pick.sem [.scr ns, .town, .lst xs]) 1 fun d => d ∈ xs := by
  refine Hs.runF ?_
  have a : F__law_draw.ar = 3 := rfl
  have hp : 0 < xs.length := List.length_pos_iff.mpr h
  simp [I__law_pick, a]
  refine Hs.stp (c1 := 1) (c2 := 0) (draw_ok ns hp) fun d hd => ?_
  obtain ⟨k, rfl, hk⟩ := hd
  simp [natD, Ss.atI_nat, List.getElem?_eq_getElem hk]
  exact Hs.ret ⟨_, rfl, List.getElem_mem hk⟩
theorem names_ok (ns : List Int) : ∀ w ∈ ([D.str "a", D.str "ab", D.str "abc", D.str "b", D.str "ba", D.str "count", D.str "band"] : List D), ∃ x, w = .str x ∧ isW x = true := fun w hw => by
  simp only [List.mem_cons, List.not_mem_nil, or_false] at hw
  rcases hw with rfl | rfl | rfl | rfl | rfl | rfl | rfl <;> exact ⟨_, rfl, by decide +kernel⟩
theorem txts_sgn (cs : List Nat) : txts (cs.map sgn) = some (cs.map fun c => (⟨#[c]⟩ : Str)) := by
  induction cs with
  | nil => rfl
  | cons c cs ih => simp only [List.map_cons, sgn, txts] at ih ⊢; rw [ih]; rfl
theorem join_sgn : ∀ cs : List Nat, Str.join Str.empty (cs.map fun c => (⟨#[c]⟩ : Str)) = ⟨cs.toArray⟩
  | [] => rfl
  | [c] => rfl
  | c :: d :: cs => by
    have e := join_sgn (d :: cs)
    simp only [List.map_cons] at e ⊢
    simp only [Str.join]
    rw [e]
    show (⟨(#[c] ++ #[]) ++ (d :: cs).toArray⟩ : Str) = ⟨(c :: d :: cs).toArray⟩
    simp
theorem joinS_sgn {cs : List Nat} (h : cs.length ≤ 8) : joinS (Str.ofString "") (cs.map sgn) = some (.str ⟨cs.toArray⟩) := by
  have e0 : Str.ofString "" = Str.empty := by decide +kernel
  have l : ((cs.map fun c => (⟨#[c]⟩ : Str)).map (·.length)).sum = cs.length := by
    clear h
    induction cs with
    | nil => rfl
    | cons c cs ih => simp only [List.map_cons, List.sum_cons, ih, List.length_cons]; show 1 + _ = _; omega
  have z : Str.empty.length = 0 := rfl
  unfold joinS
  rw [txts_sgn, e0]
  simp only [Option.bind_some, l, z, Nat.mul_zero, Nat.add_zero]
  rw [if_pos (by omega)]
  have j : Txt.join Str.empty (cs.map fun c => (⟨#[c]⟩ : Str)) = ⟨cs.toArray⟩ := by
    unfold Txt.join
    rw [StrLaws.glued_eq_join, join_sgn]
  rw [j]
theorem isW_mk {cs : List Nat} (h1 : 1 ≤ cs.length) (h2 : cs.length ≤ 8) (h : ∀ c ∈ cs, c ∈ small.cps.toList) : isW ⟨cs.toArray⟩ = true := by
  have l : (⟨cs.toArray⟩ : Str).length = cs.length := by simp [Str.length]
  simp only [isW, l, Bool.and_eq_true, decide_eq_true_eq]
  exact ⟨⟨h1, h2⟩, List.all_eq_true.mpr fun c hc => decide_eq_true (h c hc)⟩
theorem word_ok (ns : List Int) : Hs (F__law_word.sem [.scr ns, .town]) 10 fun d => ∃ x, d = .str x ∧ isW x = true := by
  refine Hs.runF ?_
  have a : F__law_draw.ar = 3 := rfl
  have a2 : F__law_pick.ar = 3 := rfl
  simp [I__law_word, a, a2, truM_bnd]
  refine Hs.stp (c1 := 1) (c2 := 9) (draw_ok ns (m := 8) (by decide)) fun d hd => ?_
  obtain ⟨k, rfl, hk⟩ := hd
  simp [natD]
  split
  · refine Hs.stp (c1 := 1) (c2 := 0) (pick_ok ns (by simp)) fun d hd => Hs.ret ⟨d, rfl, names_ok ns d hd⟩
  · refine Hs.stp (c1 := 1) (c2 := 8) (draw_ok ns (m := 8) (by decide)) fun d hd => ?_
    obtain ⟨j, rfl, hj⟩ := hd
    have r := rngD_nat (1 + j) (by omega)
    have e : (((1 + j : Nat)) : Int) = 1 + (j : Int) := by omega
    rw [e] at r
    simp [natD, r]
    refine Hs.stp (c1 := 8) (c2 := 0) (P := fun ds => All2 (fun _ d => ∃ c, d = sgn c ∧ c ∈ small.cps.toList) (List.range (1 + j)) ds) ?_ fun ds hd => ?_
    · refine Hs.lcs (c1 := 1) (fun i _ => ?_) (by simp; omega)
      simp [cb, a]
      refine Hs.bnd (c1 := 1) (c2 := 0) (draw_ok ns (m := 26) (by decide)) fun d hd => ?_
      obtain ⟨q, rfl, hq⟩ := hd
      have l : small.cps.toList.length = 26 := by decide +kernel
      have g : idxD (.str small) (natD q) = some (sgn (small.cps.toList[q]'(by omega))) := by
        have ls : small.length ≤ sizeLine := by decide +kernel
        simp only [natD, idxD, if_pos ls, Ss.atI_nat, List.getElem?_eq_getElem (show q < small.cps.toList.length by omega), Option.map_some]
      unfold small at g
      simp [g]
      exact Hs.ret ⟨_, rfl, _, rfl, by unfold small; exact Array.getElem_mem _⟩
    · obtain ⟨cs, rfl, h2⟩ := hd.back
      have l := h2.len
      rw [List.length_range] at l
      have hj := joinS_sgn (cs := cs) (by omega)
      simp [joinM, hj]
      refine Hs.ret ⟨_, rfl, _, rfl, isW_mk (by omega) (by omega) fun c hc => ?_⟩
      obtain ⟨_, _, q⟩ := h2.get hc
      exact q
theorem value_ok (ns : List Int) (c : Col) : Hs (F__law_value.sem [.scr ns, .town, .str (kindS c.wd)]) 11 fun d => ∃ v : Val, d = v.d ∧ fits c v = true := by
  refine Hs.runF ?_
  have a : F__law_draw.ar = 3 := rfl
  have a2 : F__law_pick.ar = 3 := rfl
  have a3 : F__law_word.ar = 2 := rfl
  simp [I__law_value, a, a2, a3, kw_eq]
  refine Hs.stp (c1 := 1) (c2 := 10) (draw_ok ns (m := 6) (by decide)) fun d hd => ?_
  obtain ⟨k, rfl, hk⟩ := hd
  have z : Cm.f .eq (natD k) (.int 0) = some (decide (k = 0)) := by
    have z := cm_eq (nat_okE k) (nat_okE 0)
    rw [nat_eqv] at z
    exact z
  simp [z]
  split
  · exact Hs.ret ⟨_, rfl, .non, rfl, rfl⟩
  · split
    · rename_i hw
      refine Hs.stp (c1 := 10) (c2 := 0) (word_ok ns) fun d hd => ?_
      obtain ⟨x, rfl, hx⟩ := hd
      exact Hs.ret ⟨_, rfl, .str x, rfl, by simp only [fits, hw, hx, Bool.and_self]⟩
    · rename_i hw
      have hw : c.wd = false := by simpa using hw
      refine Hs.stp (c1 := 1) (c2 := 1) (draw_ok ns (m := 100) (by decide)) fun d hd => ?_
      obtain ⟨j, rfl, hj⟩ := hd
      simp [natD]
      refine Hs.stp (c1 := 1) (c2 := 0) (pick_ok ns (by simp)) fun d hd => Hs.ret ⟨d, rfl, ?_⟩
      simp only [List.mem_cons, List.not_mem_nil, or_false] at hd
      have f : ∀ i : Int, -1000000 ≤ i → i ≤ 1000000 → fits c (.int i) = true := fun i h1 h2 => by
        simp only [fits, hw, decide_eq_true h1, decide_eq_true h2]; rfl
      rcases hd with rfl | rfl | rfl | rfl | rfl | rfl | rfl | rfl | rfl | rfl
      all_goals exact ⟨.int _, rfl, f _ (by omega) (by omega)⟩
theorem row_ok (ns : List Int) {cs : List Col} (h : cs.length ≤ 6) : Hs (F__law_row.sem [.scr ns, .town, colsD cs]) 66 fun d => ∃ r, d = rowD r ∧ RowOk cs r := by
  refine Hs.runF ?_
  have a : F__law_value.ar = 3 := rfl
  simp [I__law_row, colsD]
  refine Hs.stp (c1 := 66) (c2 := 0) (P := fun ds => All2 (fun c d => ∃ v : Val, d = v.d ∧ fits c v = true) cs ds) ?_ fun ds hd => ?_
  · refine Hs.lcs (c1 := 11) (fun c hc => ?_) (by omega)
    simp [cb, Col.d, a]
    refine Hs.bnd (c1 := 11) (c2 := 0) (value_ok ns c) fun d hd => Hs.ret ⟨d, rfl, hd⟩
  · obtain ⟨r, rfl, h2⟩ := hd.back
    exact Hs.ret ⟨_, rfl, r, rfl, h2⟩
/-! columns -/
theorem cols_perm {cs ds : List Col} (h : ColsOk cs) (p : ds.Perm cs) : ColsOk ds :=
  ⟨by rw [p.length_eq]; exact h.one, by rw [p.length_eq]; exact h.six, fun c hc => h.nms c (p.mem_iff.mp hc), ((p.map Col.nm).nodup_iff).mpr h.nd⟩
theorem rot_perm {α : Type} (xs : List α) (k : Nat) : (xs.drop k ++ xs.take k).Perm xs := by
  have h := List.perm_append_comm (l₁ := xs.drop k) (l₂ := xs.take k)
  rwa [List.take_append_drop] at h
theorem columns_ok (ns : List Int) : Hs (F__law_columns.sem [.scr ns, .town]) 7 fun d => ∃ cs, d = colsD cs ∧ ColsOk cs ∧ 2 ≤ cs.length ∧ (∃ c ∈ cs, c.wd = false) ∧ ∃ c ∈ cs, c.wd = true := by
  refine Hs.runF ?_
  have a : F__law_draw.ar = 3 := rfl
  have a2 : F__law_pick.ar = 3 := rfl
  simp [I__law_columns, a, a2]
  refine Hs.stp (c1 := 1) (c2 := 6) (draw_ok ns (m := 6) (by decide)) fun d hd => ?_
  obtain ⟨t, rfl, ht⟩ := hd
  let nm0 : List Str := ["w", "n", "word", "size", "of", "abcdefgh"]
  let nm : List Str := nm0.drop t ++ nm0.take t
  have pn : nm.Perm nm0 := rot_perm nm0 t
  have hn : Op.f .add (.lst (cutL (nm0.map D.str) (some (t : Int)) none)) (.lst (cutL (nm0.map D.str) none (some (t : Int)))) = some (.lst (nm.map D.str)) := by
    rw [cutL_drop, cutL_take, op_addL (by simp [nm0]; omega)]
    simp [nm, List.map_drop, List.map_take]
  have e0 : nm0.map D.str = [D.str "w", D.str "n", D.str "word", D.str "size", D.str "of", D.str "abcdefgh"] := rfl
  rw [e0] at hn
  simp [natD, hn]
  have r4 : rngD [.int 4] = some ((List.range 4).map natD) := rngD_nat 4 (by decide)
  simp [r4]
  refine Hs.stp (c1 := 4) (c2 := 2) (P := fun ds => All2 (fun _ d => ∃ b, d = D.str (kindS b) ∧ True) (List.range 4) ds) ?_ fun ds hd => ?_
  · refine Hs.lcs (c1 := 1) (fun i _ => ?_) (by simp)
    simp [cb, a2]
    refine Hs.bnd (c1 := 1) (c2 := 0) (pick_ok ns (by simp)) fun d hd => Hs.ret ⟨d, rfl, ?_⟩
    simp only [List.mem_cons, List.not_mem_nil, or_false] at hd
    rcases hd with rfl | rfl
    · exact .inr rfl
    · exact .inl rfl
  obtain ⟨bs, rfl, h2⟩ := All2.back (em := fun b => D.str (kindS b)) (P := fun _ _ => True) hd
  have lb : bs.length = 4 := by rw [h2.len]; rfl
  let kb : List Bool := true :: false :: bs
  have lk : kb.length = 6 := by simp [kb, lb]
  have hk : Op.f .add (.lst [D.str "word", D.str "number"]) (.lst (bs.map fun b => D.str (kindS b))) = some (.lst (kb.map fun b => D.str (kindS b))) := by
    rw [op_addL (by simp; omega)]; rfl
  simp [hk]
  refine Hs.stp (c1 := 1) (c2 := 1) (draw_ok ns (m := 5) (by decide)) fun d hd => ?_
  obtain ⟨q, rfl, hq⟩ := hd
  have r5 := rngD_nat (2 + q) (by omega)
  have e5 : (((2 + q : Nat)) : Int) = 2 + (q : Int) := by omega
  rw [e5] at r5
  simp [natD, r5]
  let cs0 : List Col := (List.range (2 + q)).map fun k => ⟨nm.getD k Str.empty, kb.getD k false⟩
  have ln : nm.length = 6 := by rw [pn.length_eq]; rfl
  have lc : lcs (cb (.tup [(.idx (.var 2) (.var 6)), (.idx (.var 4) (.var 6))]) (.one 6) [] [6] [.dat (.scr ns), .dat .town, .dat (.lst (nm.map D.str)), .dat (.int t), .dat (.lst (kb.map fun b => D.str (kindS b))), .emp, .emp]) ((List.range (2 + q)).map fun (k : Nat) => D.int k) = ret ((List.range (2 + q)).map fun k => Col.d ⟨nm.getD k Str.empty, kb.getD k false⟩) := by
    refine lcs_map fun k hk => ?_
    have hk := List.mem_range.mp hk
    have g1 : (nm.map D.str)[k]? = some (.str (nm.getD k Str.empty)) := by
      simp [List.getElem?_eq_getElem (show k < nm.length by omega), List.getD_eq_getElem?_getD]
    have g2 : (kb.map fun b => D.str (kindS b))[k]? = some (.str (kindS (kb.getD k false))) := by
      simp [List.getElem?_eq_getElem (show k < kb.length by omega), List.getD_eq_getElem?_getD]
    simp only [cb]
    simp [Ss.atI_nat, g1, g2, Col.d]
  have lc2 : (List.range (2 + q)).map (fun k => Col.d ⟨nm.getD k Str.empty, kb.getD k false⟩) = cs0.map Col.d := by
    rw [List.map_map]; rfl
  rw [lc2] at lc
  have l0 : cs0.length = 2 + q := by simp [cs0]
  have nms : cs0.map Col.nm = nm.take (2 + q) := by
    apply List.ext_getElem?
    intro i
    by_cases hi : i < 2 + q
    · simp [cs0, List.getElem?_range hi, List.getElem?_take_of_lt hi, List.getElem?_eq_getElem (show i < nm.length by omega)]
    · simp [cs0, hi]
      omega
  have nm0w : ∀ x ∈ nm0, isW x = true := by decide +kernel
  have nm0n : nm0.Nodup := by decide +kernel
  have ok0 : ColsOk cs0 := by
    refine ⟨by omega, by omega, fun c hc => ?_, ?_⟩
    · have hm : c.nm ∈ cs0.map Col.nm := List.mem_map.mpr ⟨c, hc, rfl⟩
      rw [nms] at hm
      exact nm0w _ (pn.mem_iff.mp (List.mem_of_mem_take hm))
    · rw [nms]
      exact ((pn.nodup_iff).mpr nm0n).sublist (List.take_sublist _ _)
  simp [lc]
  refine Hs.stp (c1 := 1) (c2 := 0) (draw_ok ns (m := cs0.length) (by omega)) fun d hd => ?_
  obtain ⟨u, rfl, hu⟩ := hd
  have hc : Op.f .add (.lst (cutL (cs0.map Col.d) (some (u : Int)) none)) (.lst (cutL (cs0.map Col.d) none (some (u : Int)))) = some (.lst ((cs0.drop u ++ cs0.take u).map Col.d)) := by
    rw [cutL_drop, cutL_take, op_addL (by simp; omega)]
    simp [List.map_drop, List.map_take]
  simp [natD, hc]
  have hk0 : 0 < cs0.length := by omega
  have hk1 : 1 < cs0.length := by omega
  refine Hs.ret ⟨_, rfl, cs0.drop u ++ cs0.take u, ?_, cols_perm ok0 (rot_perm cs0 u), ?_, ⟨cs0[1], (rot_perm cs0 u).mem_iff.mpr (List.getElem_mem hk1), ?_⟩, ⟨cs0[0], (rot_perm cs0 u).mem_iff.mpr (List.getElem_mem hk0), ?_⟩⟩
  · simp [colsD]
  · rw [(rot_perm cs0 u).length_eq]; omega
  · simp [cs0, kb]
  · simp [cs0, kb]
theorem table_ok (ns : List Int) {m : Nat} (hm : m ≤ 24) : Hs (F__law_table.sem [.scr ns, .town, .int m]) 1592 fun d => ∃ t : Tab, d = t.d ∧ TabOk t ∧ t.rs.length ≤ m ∧ 2 ≤ t.cs.length ∧ (∃ c ∈ t.cs, c.wd = false) ∧ ∃ c ∈ t.cs, c.wd = true := by
  refine Hs.runF ?_
  have a : F__law_draw.ar = 3 := rfl
  have a2 : F__law_columns.ar = 2 := rfl
  have a3 : F__law_row.ar = 3 := rfl
  simp [I__law_table, a, a2]
  refine Hs.stp (c1 := 7) (c2 := 1585) (columns_ok ns) fun d hd => ?_
  obtain ⟨cs, rfl, hcs, h2c, hn, hw⟩ := hd
  have e : ((m : Int) + 1) = ((m + 1 : Nat) : Int) := by omega
  rw [e]
  refine Hs.stp (c1 := 1) (c2 := 1584) (draw_ok ns (m := m + 1) (by omega)) fun d hd => ?_
  obtain ⟨k, rfl, hk⟩ := hd
  have r := rngD_nat k (by omega)
  simp [natD, r]
  refine Hs.stp (c1 := 1584) (c2 := 0) (P := fun ds => All2 (fun _ d => ∃ r, d = rowD r ∧ RowOk cs r) (List.range k) ds) ?_ fun ds hd => ?_
  · refine Hs.lcs (c1 := 66) (fun i _ => ?_) (by simp; omega)
    simp [cb, a3]
    exact Hs.bnd (c1 := 66) (c2 := 0) (row_ok ns hcs.six) fun d hd => Hs.ret ⟨d, rfl, hd⟩
  · obtain ⟨rs, rfl, h2⟩ := hd.back
    have l := h2.len
    rw [List.length_range] at l
    refine Hs.ret ⟨_, rfl, ⟨cs, rs⟩, rfl, ⟨hcs, fun r hr => ?_, ?_⟩, ?_, h2c, hn, hw⟩
    · obtain ⟨_, _, q⟩ := h2.get hr
      exact q
    · show rs.length ≤ 24
      omega
    · show rs.length ≤ m
      omega
end Pg
/-! GF: what the laws' drawers of plans come to. -/
namespace Pg
open PySem Ss L2
theorem pick_tup (ns : List Int) {xs : List D} (h : xs ≠ []) : Hs (F__law_pick.sem [.scr ns, .town, .tup xs]) 1 fun d => d ∈ xs := by
  refine Hs.runF ?_
  have hp : 0 < xs.length := List.length_pos_iff.mpr h
  simp [I__law_pick]
  refine Hs.stp (c1 := 1) (c2 := 0) (draw_ok ns hp) fun d hd => ?_
  obtain ⟨k, rfl, hk⟩ := hd
  simp [natD, Ss.atI_nat, List.getElem?_eq_getElem hk]
  exact Hs.ret ⟨_, rfl, List.getElem_mem hk⟩
theorem pick_col (ns : List Int) {cs : List Col} (h : ColsOk cs) : Hs (F__law_pick.sem [.scr ns, .town, colsD cs]) 1 fun d => ∃ c ∈ cs, d = c.d := by
  have ne : cs.map Col.d ≠ [] := by
    have := h.one
    intro z
    have : (cs.map Col.d).length = 0 := by rw [z]; rfl
    rw [List.length_map] at this; omega
  refine (pick_tup ns ne).imp (Nat.le_refl _) fun d hd => ?_
  obtain ⟨c, hc, rfl⟩ := List.mem_map.mp hd
  exact ⟨c, hc, rfl⟩
theorem knd_at {cs : List Col} (h : ColsOk cs) {c : Col} (hc : c ∈ cs) : kndOf cs c.nm = some c.wd := by
  obtain ⟨k, hk, rfl⟩ := List.mem_iff_getElem.mp hc
  simp only [kndOf, plc_at h.nd hk, Option.bind_some, List.getElem?_eq_getElem hk, Option.map_some]
theorem kn_eqs (b : Bool) : Cm.f .eq (.str (kindS b)) (.str "number") = some (!b) := by cases b <;> decide +kernel
theorem key_plain {cs : List Col} (h : ColsOk cs) {c : Col} (hc : c ∈ cs) : KeyOk cs (.plain c.nm) := by
  unfold KeyOk
  simp only [Key.d, keyOf', knd_at h hc, Option.isSome_some, if_true]
theorem key_band {cs : List Col} {x : Str} (h : kndOf cs x = some false) {i : Int} (h1 : 1 ≤ i) (h2 : i ≤ 1000000) : KeyOk cs (.band x i) := by
  unfold KeyOk
  simp only [Key.d, keyOf', h, if_true, h1, h2, and_self]
theorem key_first {cs : List Col} {x : Str} (h : kndOf cs x = some true) {i : Int} (h1 : 1 ≤ i) (h2 : i ≤ 8) : KeyOk cs (.first x i) := by
  unfold KeyOk
  have z : ¬ (Str.ofString "first" = Str.ofString "band") := by decide +kernel
  simp only [Key.d, keyOf', h, if_neg z, h1, h2, and_self, if_true]
theorem key_ok (ns : List Int) {cs : List Col} (h : ColsOk cs) : Hs (F__law_key.sem [.scr ns, .town, colsD cs]) 3 fun d => ∃ k : Ss.Key, d = k.d ∧ KeyOk cs k := by
  refine Hs.runF ?_
  simp [I__law_key]
  refine Hs.stp (c1 := 1) (c2 := 2) (pick_col ns h) fun d hd => ?_
  obtain ⟨c, hc, rfl⟩ := hd
  have kn := knd_at h hc
  simp [Col.d]
  refine Hs.stp (c1 := 1) (c2 := 1) (draw_ok ns (m := 3) (by decide)) fun d hd => ?_
  obtain ⟨k, rfl, hk⟩ := hd
  simp [natD]
  split
  · exact Hs.ret ⟨_, rfl, .plain c.nm, rfl, key_plain h hc⟩
  · rw [kn_eqs]
    cases hw : c.wd with
    | false =>
      simp
      refine Hs.stp (c1 := 1) (c2 := 0) (pick_ok ns (by simp)) fun d hd => ?_
      simp only [List.mem_cons, List.not_mem_nil, or_false] at hd
      rw [hw] at kn
      have f : ∀ i : Int, 1 ≤ i → i ≤ 1000000 → ∃ d, Fl.rt (D.tup [D.str "band", D.str c.nm, D.int i]) = Fl.rt d ∧ ∃ k : Ss.Key, d = k.d ∧ KeyOk cs k := fun i h1 h2 => ⟨_, rfl, .band c.nm i, rfl, key_band kn h1 h2⟩
      rcases hd with rfl | rfl | rfl | rfl | rfl <;> exact Hs.ret (f _ (by decide) (by decide))
    | true =>
      simp
      refine Hs.stp (c1 := 1) (c2 := 0) (pick_ok ns (by simp)) fun d hd => ?_
      simp only [List.mem_cons, List.not_mem_nil, or_false] at hd
      rw [hw] at kn
      have f : ∀ i : Int, 1 ≤ i → i ≤ 8 → ∃ d, Fl.rt (D.tup [D.str "first", D.str c.nm, D.int i]) = Fl.rt d ∧ ∃ k : Ss.Key, d = k.d ∧ KeyOk cs k := fun i h1 h2 => ⟨_, rfl, .first c.nm i, rfl, key_first kn h1 h2⟩
      rcases hd with rfl | rfl | rfl | rfl <;> exact Hs.ret (f _ (by decide) (by decide))
theorem sum_one {cs : List Col} {k : SK} {x : Str} (h : sumFit cs k x = true) : SumOk cs (.one k x) := by
  unfold SumOk
  simp only [Sum.d, sumOf, if_neg k.ncount, skOf_ok, h, if_true]
theorem sum_cnt {cs : List Col} : SumOk cs .cnt := by
  unfold SumOk
  simp only [Sum.d, sumOf, if_true]
theorem fit_any {cs : List Col} {k : SK} {x : Str} {b : Bool} (h : kndOf cs x = some b) (hk : k.num = false) : sumFit cs k x = true := by
  simp only [sumFit, hk, h, Option.isSome_some, Bool.false_eq_true, if_false]
theorem fit_num {cs : List Col} {k : SK} {x : Str} (h : kndOf cs x = some false) : sumFit cs k x = true := by
  unfold sumFit
  cases k.num <;> simp [h]
/-- the names of the columns of numbers -/
def numCols (cs : List Col) : List Col := cs.filter fun c => !c.wd
theorem numCols_lcs {cs : List Col} {ρ : Ss.Env} (i j : Nat) {f : D → M (Option D)} (hf : ∀ c : Col, f c.d = ret (if !c.wd then some (.str c.nm) else none)) : lcs f (cs.map Col.d) = ret ((numCols cs).map fun c => D.str c.nm) := lcs_filter fun c _ => hf c
theorem sum_ok (ns : List Int) {cs : List Col} (h : ColsOk cs) (hn : ∃ c ∈ cs, c.wd = false) : Hs (F__law_sum.sem [.scr ns, .town, colsD cs]) 3 fun d => ∃ k : Ss.Sum, d = k.d ∧ SumOk cs k := by
  refine Hs.runF ?_
  simp [I__law_sum]
  refine Hs.stp (c1 := 1) (c2 := 2) (draw_ok ns (m := 10) (by decide)) fun d hd => ?_
  obtain ⟨k, rfl, hk⟩ := hd
  have hw : ∀ ρ : Ss.Env, ρ.length = 8 → lcs (cb (.var 6) (.many [6, 7]) [(.cmp .eq (.var 7) (.lit (.str "number")))] [6, 7] ρ) (cs.map Col.d) = ret ((numCols cs).map fun c => D.str c.nm) := fun ρ hρ => by
    match ρ, hρ with
    | [a, b, c, d, e, f, g, i], _ =>
      refine lcs_filter fun c _ => ?_
      simp [cb, Col.d, kn_eqs]
      cases c.wd <;> rfl
  simp [natD, colsD]
  rw [hw _ rfl]
  simp
  split
  · exact Hs.ret ⟨_, rfl, .cnt, rfl, sum_cnt⟩
  · split
    · refine Hs.stp (c1 := 1) (c2 := 1) (pick_ok ns (by simp)) fun d hd => ?_
      simp only [List.mem_cons, List.not_mem_nil, or_false] at hd
      have P : Hs (F__law_pick.sem [.scr ns, .town, .tup (cs.map Col.d)]) 1 fun d => ∃ c ∈ cs, d = c.d := pick_col ns h
      refine Hs.stp (c1 := 1) (c2 := 0) P fun e he => ?_
      obtain ⟨c, hc, rfl⟩ := he
      have kn := knd_at h hc
      simp [Col.d]
      rcases hd with rfl | rfl
      · exact Hs.ret ⟨_, rfl, .one .unl c.nm, rfl, sum_one (fit_any kn rfl)⟩
      · exact Hs.ret ⟨_, rfl, .one .fil c.nm, rfl, sum_one (fit_any kn rfl)⟩
    · rename_i k0 k3
      have ne : ((numCols cs).map fun c => D.str c.nm) ≠ [] := by
        obtain ⟨c, hc, hw⟩ := hn
        have : c ∈ numCols cs := List.mem_filter.mpr ⟨hc, by rw [hw]; rfl⟩
        intro z
        rw [List.map_eq_nil_iff] at z
        rw [z] at this; cases this
      have sub : ((k : Int) - 3) = ((k - 3 : Nat) : Int) := by omega
      rw [sub, Ss.atI_nat]
      let ws : List SK := [.sum, .lea, .gre, .mea, .ofA, .ofR, .ofC]
      have hk3 : k - 3 < ws.length := by simp only [ws, List.length_cons, List.length_nil]; omega
      have g : ([D.str "sum", D.str "least", D.str "greatest", D.str "mean", D.str "of all", D.str "of row", D.str "of column"] : List D)[k - 3]? = some (.str (ws[k - 3]'hk3).w) := by
        have e : ([D.str "sum", D.str "least", D.str "greatest", D.str "mean", D.str "of all", D.str "of row", D.str "of column"] : List D) = ws.map fun k => D.str k.w := rfl
        rw [e, List.getElem?_map, List.getElem?_eq_getElem hk3]; rfl
      simp [g]
      refine Hs.stp (c1 := 1) (c2 := 0) (pick_ok ns ne) fun d hd => ?_
      obtain ⟨c, hc, rfl⟩ := List.mem_map.mp hd
      obtain ⟨hc, w⟩ := List.mem_filter.mp hc
      have kn := knd_at h hc
      have w : c.wd = false := by simpa using w
      rw [w] at kn
      exact Hs.ret ⟨_, rfl, .one (ws[k - 3]'hk3) c.nm, rfl, sum_one (fit_num kn)⟩
theorem sift_eq {cs : List Col} {x : Str} {c : Col} (h : kndOf cs x = some c.wd) {v : Val} (f : fits c v = true) (b : Bool) : SiftOk cs (.eq b x v) := by
  unfold SiftOk
  have e : isS b = "is" ∨ isS b = "not" := by cases b <;> decide +kernel
  have e2 : decide (isS b = "is") = b := by cases b <;> decide +kernel
  simp only [Sift.d, siftOf, if_pos e, h, Option.bind_some, valOf_fits f, Option.map_some, e2]
theorem sift_frm {cs : List Col} {x : Str} (h : kndOf cs x = some false) {lo hi : Int} (h1 : big lo) (h2 : big hi) : SiftOk cs (.frm x lo hi) := by
  unfold SiftOk
  simp only [Sift.d, siftOf, h, h1, h2, and_self, if_true]
theorem sift_ok (ns : List Int) {cs : List Col} (h : ColsOk cs) : Hs (F__law_sift.sem [.scr ns, .town, colsD cs]) 14 fun d => ∃ k : Sift, d = k.d ∧ SiftOk cs k := by
  refine Hs.runF ?_
  simp [I__law_sift]
  refine Hs.stp (c1 := 1) (c2 := 13) (pick_col ns h) fun d hd => ?_
  obtain ⟨c, hc, rfl⟩ := hd
  have kn := knd_at h hc
  have tail : ∀ ρ0 : Ss.Env, ∀ m : Fl → Prop, (∀ (b : Bool) (v : Val), fits c v = true → m (.rt (.tup [.str (isS b), .str c.nm, v.d]))) → Hs (stp ρ0 (F__law_pick.sem [.scr ns, .town, .lst [.str "is", .str "not", .str "not"]]) fun v => stp ρ0 (F__law_value.sem [.scr ns, .town, .str (kindS c.wd)]) fun u => ret (.rt (.tup [v, .str c.nm, u]))) 12 m := fun ρ0 m hm => by
    refine Hs.stp (c1 := 1) (c2 := 11) (pick_ok ns (by simp)) fun d hd => ?_
    simp only [List.mem_cons, List.not_mem_nil, or_false] at hd
    refine Hs.stp (c1 := 11) (c2 := 0) (value_ok ns c) fun e he => ?_
    obtain ⟨v, rfl, hv⟩ := he
    rcases hd with rfl | rfl | rfl
    · exact Hs.ret (hm true v hv)
    · exact Hs.ret (hm false v hv)
    · exact Hs.ret (hm false v hv)
  have fin : ∀ (b : Bool) (v : Val), fits c v = true → ∃ d, Fl.rt (.tup [.str (isS b), .str c.nm, v.d]) = .rt d ∧ ∃ k : Sift, d = k.d ∧ SiftOk cs k := fun b v hv => ⟨_, rfl, .eq b c.nm v, rfl, sift_eq kn hv b⟩
  simp [Col.d, kn_eqs]
  cases hw : c.wd with
  | true =>
    rw [hw] at tail
    simp
    exact (tail _ _ fin).imp (by omega) fun _ p => p
  | false =>
    rw [hw] at tail kn
    simp
    refine Hs.stp (c1 := 1) (c2 := 12) (draw_ok ns (m := 2) (by decide)) fun d hd => ?_
    obtain ⟨k, rfl, hk⟩ := hd
    simp [natD]
    split
    · refine Hs.stp (c1 := 1) (c2 := 11) (pick_ok ns (by simp)) fun d hd => ?_
      simp only [List.mem_cons, List.not_mem_nil, or_false] at hd
      refine Hs.stp (c1 := 1) (c2 := 10) (pick_ok ns (by simp)) fun e he => ?_
      simp only [List.mem_cons, List.not_mem_nil, or_false] at he
      have f : ∀ i j : Int, big i → big j → ∃ d, Fl.rt (D.tup [D.str "from", D.str c.nm, D.int i, D.int j]) = Fl.rt d ∧ ∃ k : Sift, d = k.d ∧ SiftOk cs k := fun i j h1 h2 => ⟨_, rfl, .frm c.nm i j, rfl, sift_frm kn h1 h2⟩
      rcases hd with rfl | rfl | rfl <;> rcases he with rfl | rfl | rfl | rfl <;> exact Hs.ret (f _ _ (by decide) (by decide))
    · exact tail _ _ fin
theorem cutL_both {α : Type} (xs : List α) (j k : Nat) : cutL xs (some (j : Int)) (some (k : Int)) = (xs.take k).drop j := by
  unfold cutL
  rw [HT.sIx_nat, HT.sIx_nat, List.drop_take]
  rcases Nat.le_total j xs.length with h | h
  · rw [Nat.min_eq_left h]
    rcases Nat.le_total k xs.length with h2 | h2
    · rw [Nat.min_eq_left h2]
    · rw [Nat.min_eq_right h2, List.take_of_length_le (by rw [List.length_drop]; omega), List.take_of_length_le (by rw [List.length_drop]; omega)]
  · rw [Nat.min_eq_right h, List.drop_eq_nil_of_le (Nat.le_refl _), List.drop_eq_nil_of_le h]
    simp
theorem plan_ok (ns : List Int) {cs : List Col} (h : ColsOk cs) (hn : ∃ c ∈ cs, c.wd = false) {m : Nat} (hm : m ≤ 3) : Hs (F__law_plan.sem [.scr ns, .town, colsD cs, .int m]) 76 fun d => ∃ p : Plan, d = p.d ∧ PlanOk cs p ∧ p.rk.length ≤ m ∧ p.ck.length ≤ m := by
  refine Hs.runF ?_
  simp [I__law_plan]
  have m1 : Op.f .mul (.int 2) (.int m) = some (.int (2 * (m : Int))) := op_mulL (by decide)
  have r1 := rngD_nat (2 * m) (by omega)
  rw [show (((2 * m : Nat)) : Int) = 2 * (m : Int) by omega] at r1
  simp [m1, r1]
  refine Hs.stp (c1 := 18) (c2 := 58) (P := fun ds => All2 (fun _ d => ∃ k : Ss.Key, d = k.d ∧ KeyOk cs k) (List.range (2 * m)) ds) ?_ fun ds hd => ?_
  · refine Hs.lcs (c1 := 3) (fun i _ => ?_) (by rw [List.length_range]; omega)
    simp [cb]
    exact Hs.bnd (c1 := 3) (c2 := 0) (key_ok ns h) fun d hd => Hs.ret ⟨d, rfl, hd⟩
  obtain ⟨ks, rfl, h2⟩ := hd.back
  have lk := h2.len
  rw [List.length_range] at lk
  have kOk : ∀ k ∈ ks, KeyOk cs k := fun k hk => by obtain ⟨_, _, q⟩ := h2.get hk; exact q
  have e1 : ((m : Int) + 1) = ((m + 1 : Nat) : Int) := by omega
  rw [e1]
  refine Hs.stp (c1 := 1) (c2 := 57) (draw_ok ns (m := m + 1) (by omega)) fun d hd => ?_
  obtain ⟨a, rfl, ha⟩ := hd
  simp [natD, cutL_take]
  refine Hs.stp (c1 := 1) (c2 := 56) (draw_ok ns (m := 4) (by decide)) fun d hd => ?_
  obtain ⟨b, rfl, hb⟩ := hd
  have e2 : (1 + (b : Int)) = ((1 + b : Nat) : Int) := by omega
  have r2 := rngD_nat (1 + b) (by omega)
  simp [natD]
  rw [e2, r2]
  simp
  refine Hs.stp (c1 := 12) (c2 := 44) (P := fun ds => All2 (fun _ d => ∃ k : Ss.Sum, d = k.d ∧ SumOk cs k) (List.range (1 + b)) ds) ?_ fun ds hd => ?_
  · refine Hs.lcs (c1 := 3) (fun i _ => ?_) (by simp; omega)
    simp [cb]
    exact Hs.bnd (c1 := 3) (c2 := 0) (sum_ok ns h hn) fun d hd => Hs.ret ⟨d, rfl, hd⟩
  obtain ⟨ss, rfl, h3⟩ := hd.back
  have ls := h3.len
  rw [List.length_range] at ls
  have sOk : ∀ k ∈ ss, SumOk cs k := fun k hk => by obtain ⟨_, _, q⟩ := h3.get hk; exact q
  refine Hs.stp (c1 := 1) (c2 := 43) (pick_ok ns (by simp)) fun d hd => ?_
  have hd' : ∃ q : Nat, d = .int q ∧ q ≤ 3 := by
    simp only [List.mem_cons, List.not_mem_nil, or_false] at hd
    rcases hd with rfl | rfl | rfl | rfl | rfl
    · exact ⟨0, rfl, by omega⟩
    · exact ⟨0, rfl, by omega⟩
    · exact ⟨1, rfl, by omega⟩
    · exact ⟨2, rfl, by omega⟩
    · exact ⟨3, rfl, by omega⟩
  obtain ⟨q, rfl, hq⟩ := hd'
  have r3 := rngD_nat q (by omega)
  simp [r3]
  refine Hs.stp (c1 := 42) (c2 := 1) (P := fun ds => All2 (fun _ d => ∃ k : Sift, d = k.d ∧ SiftOk cs k) (List.range q) ds) ?_ fun ds hd => ?_
  · refine Hs.lcs (c1 := 14) (fun i _ => ?_) (by simp; omega)
    simp [cb]
    exact Hs.bnd (c1 := 14) (c2 := 0) (sift_ok ns h) fun d hd => Hs.ret ⟨d, rfl, hd⟩
  obtain ⟨fs, rfl, h4⟩ := hd.back
  have lf := h4.len
  rw [List.length_range] at lf
  have fOk : ∀ k ∈ fs, SiftOk cs k := fun k hk => by obtain ⟨_, _, q⟩ := h4.get hk; exact q
  rw [e1]
  refine Hs.stp (c1 := 1) (c2 := 0) (draw_ok ns (m := m + 1) (by omega)) fun d hd => ?_
  obtain ⟨u, rfl, hu⟩ := hd
  have e3 : ((m : Int) + (u : Int)) = ((m + u : Nat) : Int) := by omega
  simp [natD]
  rw [e3, cutL_both]
  refine Hs.ret ⟨_, rfl, ⟨ks.take a, (ks.take (m + u)).drop m, ss, fs⟩, ?_, ⟨fun k hk => kOk k (List.mem_of_mem_take hk), ?_, fun k hk => kOk k (List.mem_of_mem_take (List.mem_of_mem_drop hk)), ?_, sOk, ?_, ?_, fOk, ?_⟩, ?_, ?_⟩
  · simp [Plan.d, keysD, sumsD, siftsD, List.map_take, List.map_drop]
  · show (ks.take a).length ≤ 3
    rw [List.length_take]; omega
  · show ((ks.take (m + u)).drop m).length ≤ 3
    rw [List.length_drop, List.length_take]; omega
  · show ss.length ≤ 4
    omega
  · show ss ≠ []
    intro z
    rw [z] at ls
    simp at ls; omega
  · show fs.length ≤ 3
    omega
  · show (ks.take a).length ≤ m
    rw [List.length_take]; omega
  · show ((ks.take (m + u)).drop m).length ≤ m
    rw [List.length_drop, List.length_take]; omega
end Pg
/-! GG: loops; what keys make of rows, which rows count. -/
namespace Ss
open PySem L2
/-! ### loops -/
section
variable {α σ τ : Type} {tg : Tg} {body : List Stm} {em : α → D}
theorem forB_nil {ρ : Env} : forB tg body [] ρ = ret (.nx ρ) := rfl
theorem forB_cons {d : D} {ds : List D} {ρ : Env} : forB tg body (d :: ds) ρ = fq (bnd (lft (tg.put d ρ)) fun ρ' => exs body ρ') fun ρ' => forB tg body ds ρ' := rfl
/-- a list grows -/
theorem forB_flat {en : List D → τ → Env} {f : α → List D} {B : Nat} : ∀ {xs : List α} {s : List D} {t : τ}, s.length + (xs.flatMap f).length ≤ B →
    (∀ s t, ∀ x ∈ xs, s.length + (f x).length ≤ B → ∃ t', (bnd (lft (tg.put (em x) (en s t))) fun ρ' => exs body ρ') = ret (.nx (en (s ++ f x) t'))) →
    ∃ t', forB tg body (xs.map em) (en s t) = ret (.nx (en (s ++ xs.flatMap f) t'))
  | [], s, t, _, _ => ⟨t, by simp [forB_nil]⟩
  | x :: xs, s, t, hB, h => by
    rw [List.flatMap_cons, List.length_append] at hB
    obtain ⟨t1, e1⟩ := h s t x List.mem_cons_self (by omega)
    obtain ⟨t2, e2⟩ := forB_flat (xs := xs) (s := s ++ f x) (t := t1) (by rw [List.length_append]; omega) fun s t y hy => h s t y (List.mem_cons_of_mem _ hy)
    refine ⟨t2, ?_⟩
    rw [List.map_cons, forB_cons, e1, fq_nx, e2, List.flatMap_cons, List.append_assoc]
/-- a state goes on -/
theorem forB_fold {en : σ → τ → Env} {st : σ → α → σ} {I : σ → Prop} : ∀ {xs : List α} {s : σ} {t : τ}, I s →
    (∀ s t, ∀ x ∈ xs, I s → I (st s x) ∧ ∃ t', (bnd (lft (tg.put (em x) (en s t))) fun ρ' => exs body ρ') = ret (.nx (en (st s x) t'))) →
    I (xs.foldl st s) ∧ ∃ t', forB tg body (xs.map em) (en s t) = ret (.nx (en (xs.foldl st s) t'))
  | [], s, t, i, _ => ⟨i, t, rfl⟩
  | x :: xs, s, t, i, h => by
    obtain ⟨i1, t1, e1⟩ := h s t x List.mem_cons_self i
    obtain ⟨i2, t2, e2⟩ := forB_fold (xs := xs) (s := st s x) (t := t1) i1 fun s t y hy => h s t y (List.mem_cons_of_mem _ hy)
    refine ⟨i2, t2, ?_⟩
    rw [List.map_cons, forB_cons, e1, fq_nx, e2]; rfl
def retO (o : Option D) (ρ : Env) : M Fl := match o with
  | none => ret (.nx ρ)
  | some d => ret (.rt d)
@[simp] theorem retO_none {ρ : Env} : retO none ρ = ret (.nx ρ) := Eq.trans rfl rfl
@[simp] theorem retO_some {ρ : Env} {d : D} : retO (some d) ρ = ret (.rt d) := Eq.trans rfl rfl
/-- a search -/
theorem forB_find {en : τ → Env} {p : α → Option D} : ∀ {xs : List α} {t : τ},
    (∀ t, ∀ x ∈ xs, ∃ t', (bnd (lft (tg.put (em x) (en t))) fun ρ' => exs body ρ') = retO (p x) (en t')) →
    ∃ t', forB tg body (xs.map em) (en t) = retO (xs.findSome? p) (en t')
  | [], t, _ => ⟨t, rfl⟩
  | x :: xs, t, h => by
    obtain ⟨t1, e1⟩ := h t x List.mem_cons_self
    obtain ⟨t2, e2⟩ := forB_find (xs := xs) (t := t1) fun t y hy => h t y (List.mem_cons_of_mem _ hy)
    rw [List.map_cons, forB_cons, e1, List.findSome?_cons]
    cases p x with
    | none => exact ⟨t2, by rw [retO_none, fq_nx, e2]⟩
    | some d => exact ⟨t1, by rw [retO_some, fq_rt]⟩
end
theorem findSome_all {α : Type} {p : α → Bool} {d : D} (xs : List α) : (xs.findSome? fun x => if p x then none else some d) = if xs.all p then none else some d := by
  induction xs with
  | nil => rfl
  | cons x xs ih =>
    rw [List.findSome?_cons, List.all_cons]
    cases p x with
    | true => simpa using ih
    | false => simp
/-! ### the value in a column -/
def atc (cs : List Col) (r : Row) (x : Str) : Val := match plc cs x with
  | some k => r.getD k .non
  | none => .non
theorem All2.nthD {cs : List Col} {r : Row} (h : RowOk cs r) {k : Nat} (hk : k < cs.length) : fits cs[k] (r.getD k .non) = true ∧ r[k]? = some (r.getD k .non) := by
  have hr : k < r.length := by have := All2.len h; omega
  have q := All2.nth h k hk hr
  have e : r.getD k .non = r[k] := by simp [List.getD_eq_getElem?_getD, List.getElem?_eq_getElem hr]
  rw [e]; exact ⟨q, List.getElem?_eq_getElem hr⟩
theorem atc_fits {cs : List Col} {r : Row} (h : RowOk cs r) {x : Str} {b : Bool} (hx : kndOf cs x = some b) : ∀ c : Col, c.wd = b → fits c (atc cs r x) = true := by
  obtain ⟨k, e, hk, en, ew⟩ := knd_some hx
  intro c hc
  have q := (All2.nthD h hk).1
  simp only [atc, e]
  have z : ∀ v, fits c v = fits cs[k] v := fun v => by cases v <;> simp [fits, hc, ew]
  rw [z]; exact q
theorem atc_num {cs : List Col} {r : Row} (h : RowOk cs r) {x : Str} (hx : kndOf cs x = some false) : atc cs r x = .non ∨ ∃ i : Int, atc cs r x = .int i ∧ -1000000 ≤ i ∧ i ≤ 1000000 := by
  have f := atc_fits h hx ⟨x, false⟩ rfl
  cases e : atc cs r x with
  | non => exact .inl rfl
  | int i =>
    rw [e] at f
    simp [fits] at f
    exact .inr ⟨i, rfl, f⟩
  | str y => rw [e] at f; simp [fits] at f
theorem atc_word {cs : List Col} {r : Row} (h : RowOk cs r) {x : Str} (hx : kndOf cs x = some true) : atc cs r x = .non ∨ ∃ y : Str, atc cs r x = .str y ∧ isW y = true := by
  have f := atc_fits h hx ⟨x, true⟩ rfl
  cases e : atc cs r x with
  | non => exact .inl rfl
  | int i => rw [e] at f; simp [fits] at f
  | str y =>
    rw [e] at f
    simp [fits] at f
    exact .inr ⟨y, rfl, f⟩
theorem atc_wf {cs : List Col} {r : Row} (h : RowOk cs r) (x : Str) : (atc cs r x).wf = true := by
  cases e : kndOf cs x with
  | some b => exact fits_wf (atc_fits h e ⟨x, b⟩ rfl)
  | none =>
    have : plc cs x = none := by
      cases q : plc cs x with
      | none => rfl
      | some k =>
        obtain ⟨hk, _⟩ := plc_some q
        simp [kndOf, q, List.getElem?_eq_getElem hk] at e
    simp [atc, this, Val.wf]
/-- what a key makes of a row -/
def keyv (cs : List Col) (r : Row) : Key → Val
  | .plain x => atc cs r x
  | .band x s => match atc cs r x with
    | .int i => .int (i / s * s)
    | _ => .non
  | .first x s => match atc cs r x with
    | .str y => .str (cutS y none (some s))
    | _ => .non
def pth (cs : List Col) (ks : List Key) (r : Row) : Row := ks.map (keyv cs r)
def sift1 (cs : List Col) (r : Row) : Sift → Bool
  | .eq b x v => decide (atc cs r x = v) == b
  | .frm x lo hi => match atc cs r x with
    | .int i => decide (lo ≤ i) && decide (i ≤ hi)
    | _ => false
def cnts (cs : List Col) (fs : List Sift) (r : Row) : Bool := fs.all (sift1 cs r)
/-- a row that counts: its number, its paths -/
abbrev Tr := Nat × Row × Row
def Tr.d (t : Tr) : D := .tup [natD t.1, rowD t.2.1, rowD t.2.2]
def rowAt (rs : List Row) (k : Nat) : Row := rs.getD k []
theorem rowAt_eq {rs : List Row} {k : Nat} (hk : k < rs.length) : rowAt rs k = rs[k] := by simp [rowAt, List.getD_eq_getElem?_getD, List.getElem?_eq_getElem hk]
def ctd (cs : List Col) (rs : List Row) (p : Plan) : List Tr := ((List.range rs.length).filter fun k => cnts cs p.sf (rowAt rs k)).map fun k => (k, pth cs p.rk (rowAt rs k), pth cs p.ck (rowAt rs k))
/-! what is said by being a key, a sift -/
theorem key_knd {cs : List Col} {k : Key} (h : KeyOk cs k) : match k with
    | .plain x => ∃ b, kndOf cs x = some b
    | .band x i => kndOf cs x = some false ∧ 1 ≤ i ∧ i ≤ 1000000
    | .first x i => kndOf cs x = some true ∧ 1 ≤ i ∧ i ≤ 8 := by
  unfold KeyOk at h
  cases k with
  | plain x =>
    simp only [Key.d, keyOf'] at h
    cases e : kndOf cs x with
    | none => rw [e] at h; simp at h
    | some b => exact ⟨b, e⟩
  | band x i =>
    simp only [Key.d, keyOf', if_true] at h
    split at h
    · rename_i q; exact q
    · cases h
  | first x i =>
    have z : ¬ (Str.ofString "first" = Str.ofString "band") := by decide +kernel
    simp only [Key.d, keyOf', if_neg z] at h
    split at h
    · rename_i q; exact q.2
    · cases h
theorem sift_knd {cs : List Col} {k : Sift} (h : SiftOk cs k) : match k with
    | .eq _ x v => ∃ b, kndOf cs x = some b ∧ v.wf = true ∧ ∀ c : Col, c.wd = b → fits c v = true
    | .frm x lo hi => kndOf cs x = some false ∧ big lo ∧ big hi := by
  unfold SiftOk at h
  cases k with
  | eq b x v =>
    have e : isS b = "is" ∨ isS b = "not" := by cases b <;> decide +kernel
    simp only [Sift.d, siftOf, if_pos e] at h
    cases e1 : kndOf cs x with
    | none => rw [e1] at h; cases h
    | some c =>
      rw [e1, Option.bind_some] at h
      cases e2 : valOf c v.d with
      | none => rw [e2] at h; cases h
      | some u =>
        rw [e2] at h
        simp only [Option.map_some, Option.some.injEq, Sift.eq.injEq] at h
        obtain ⟨_, f⟩ := valOf_d e2
        rw [h.2.2] at f
        exact ⟨c, e1, fits_wf (f ⟨x, c⟩ rfl), f⟩
  | frm x lo hi =>
    simp only [Sift.d, siftOf] at h
    split at h
    · rename_i q; exact q.2
    · cases h
end Ss
namespace Pg
open PySem Ss L2
theorem at_col {cs : List Col} {r : Row} (h : RowOk cs r) {x : Str} {b : Bool} (hx : kndOf cs x = some b) : idxD (rowD r) (natR (plc cs x)) = some (atc cs r x).d := by
  obtain ⟨k, e, hk, _, _⟩ := knd_some hx
  have q := (All2.nthD h hk).2
  simp only [e, natR, natD, rowD, idx_tup, Ss.atI_nat, List.getElem?_map, q, Option.map_some, atc]
theorem knd_strOk {cs : List Col} (h : ColsOk cs) {x : Str} {b : Bool} (e : kndOf cs x = some b) : PyData.strOk x = true := isW_strOk (knd_isW h e)
theorem key_in_sem {cs : List Col} (h : ColsOk cs) {k : Ss.Key} (hk : KeyOk cs k) {r : Row} (hr : RowOk cs r) : F_key_in.sem [colsD cs, k.d, rowD r] = ret (keyv cs r k).d := by
  refine runF_rt ?_
  have K := key_knd hk
  cases k with
  | plain x =>
    obtain ⟨b, K⟩ := K
    have p := place_of_sem h (knd_strOk h K)
    simp [I_key_in, Key.d, p, at_col hr K, keyv]
  | band x i =>
    obtain ⟨K, i1, i2⟩ := K
    have p := place_of_sem h (knd_strOk h K)
    have z := eq_ss (sOk "band") (sOk "band")
    rcases atc_num hr K with e | ⟨v, e, _, _⟩
    · have a := at_col hr K
      simp only [e] at a
      simp [I_key_in, Key.d, p, a, e, keyv, Val.d]
    · have a := at_col hr K
      simp only [e] at a
      have m1 := op_fdiv (i := v) (j := i) (by omega) (by omega)
      have m2 : Op.f .mul (.int (v / i)) (.int i) = some (.int (v / i * i)) := op_mulR (by simp only [w64, Bool.and_eq_true, decide_eq_true_eq]; omega)
      simp [I_key_in, Key.d, p, a, e, keyv, Val.d, z, m1, m2]
  | first x i =>
    obtain ⟨K, i1, i2⟩ := K
    have p := place_of_sem h (knd_strOk h K)
    have z : Cm.f .eq (.str "first") (.str "band") = some false := by decide +kernel
    rcases atc_word hr K with e | ⟨y, e, hy⟩
    · have a := at_col hr K
      simp only [e] at a
      simp [I_key_in, Key.d, p, a, e, keyv, Val.d]
    · have a := at_col hr K
      simp only [e] at a
      have l := isW_len hy
      have c : cutD (.str y) none (some i) = some (.str (cutS y none (some i))) := by
        simp only [cutD, if_pos (show y.length ≤ sizeLine by simp; omega)]
      simp [I_key_in, Key.d, p, a, e, keyv, Val.d, z, c]
theorem path_in_sem {cs : List Col} (h : ColsOk cs) {ks : List Ss.Key} (hk : ∀ k ∈ ks, KeyOk cs k) {r : Row} (hr : RowOk cs r) : F_path_in.sem [colsD cs, keysD ks, rowD r] = ret (rowD (pth cs ks r)) := by
  refine runF_rt ?_
  simp [I_path_in, keysD]
  rw [lcs_map (g := fun k => (keyv cs r k).d) fun k hk' => by
    have e := key_in_sem h (hk k hk') hr
    simp [cb, e]]
  simp [rowD, pth, Function.comp_def]
theorem isS_eq (b : Bool) : Cm.f .eq (.str (isS b)) (.str "is") = some b := by cases b <;> decide +kernel
theorem isS_from (b : Bool) : Cm.f .eq (.str (isS b)) (.str "from") = some false := by cases b <;> decide +kernel
theorem ne_bb (a b : Bool) : Cm.f .ne (.bl a) (.bl b) = some (!(a == b)) := by cases a <;> cases b <;> decide +kernel
theorem eq_vv {v w : Val} (hv : v.wf = true) (hw : w.wf = true) : Cm.f .eq v.d w.d = some (decide (v = w)) := by
  rw [cm_eq (okE_of (val_pl hv) (by rw [val_dep]; omega)) (okE_of (val_pl hw) (by rw [val_dep]; omega)), val_eqv]
theorem counts_sem {cs : List Col} (h : ColsOk cs) {fs : List Sift} (hf : ∀ k ∈ fs, SiftOk cs k) {r : Row} (hr : RowOk cs r) : F_counts.sem [colsD cs, siftsD fs, rowD r] = ret (.bl (cnts cs fs r)) := by
  refine runF_rt ?_
  simp [I_counts, siftsD]
  obtain ⟨t, e⟩ := forB_find (tg := .one 3) (body := [.set (.one 4) (.idx (.var 2) (.call F_place_of [(.var 0), (.idx (.var 3) (.lit (.int 1)))])),
    .ifs (.cmp .eq (.idx (.var 3) (.lit (.int 0))) (.lit (.str "from"))) [.ifs (.bop false [(.isn false (.var 4)), (.nt (.chain (.idx (.var 3) (.lit (.int 2))) (.var 4) (.idx (.var 3) (.lit (.int 3)))))]) [.ret (.lit (.bl false))] []] [.ifs (.cmp .ne (.cmp .eq (.var 4) (.idx (.var 3) (.lit (.int 2)))) (.cmp .eq (.idx (.var 3) (.lit (.int 0))) (.lit (.str "is")))) [.ret (.lit (.bl false))] []]])
    (em := Sift.d) (en := fun t : Sl × Sl => [.dat (colsD cs), .dat (.tup (fs.map Sift.d)), .dat (rowD r), t.1, t.2]) (p := fun s => if sift1 cs r s then none else some (.bl false)) (xs := fs) (t := (.emp, .emp)) fun t s hs => by
      have K := sift_knd (hf s hs)
      cases s with
      | eq b x v =>
        obtain ⟨c, K, wv, _⟩ := K
        have p := place_of_sem h (knd_strOk h K)
        have a := at_col hr K
        have q := eq_vv (atc_wf hr x) wv
        refine ⟨(.dat (Sift.d (.eq b x v)), .dat (atc cs r x).d), ?_⟩
        simp [Sift.d, p, a, isS_eq, isS_from, q, ne_bb, sift1]
        by_cases e : (decide (atc cs r x = v) == b) = true
        · simp at e; simp [e]
        · simp at e; simp [e]
      | frm x lo hi =>
        obtain ⟨K, l1, l2⟩ := K
        have p := place_of_sem h (knd_strOk h K)
        have a := at_col hr K
        have z := eq_ss (sOk "from") (sOk "from")
        have e3 : ∀ a b c d : D, atI [a, b, c, d] 3 = some d := fun a b c d => Ss.atI_nat [a, b, c, d] 3
        refine ⟨(.dat (Sift.d (.frm x lo hi)), .dat (atc cs r x).d), ?_⟩
        rcases atc_num hr K with e | ⟨i, e, _, _⟩
        · simp only [e] at a
          simp [Sift.d, p, a, e, z, sift1, Val.d]
        · simp only [e] at a
          by_cases q1 : lo ≤ i
          · by_cases q2 : i ≤ hi
            · simp [Sift.d, p, a, e, z, sift1, Val.d, e3, q1, q2]
            · simp [Sift.d, p, a, e, z, sift1, Val.d, e3, q1, q2]
          · simp [Sift.d, p, a, e, z, sift1, Val.d, e3, q1]
  simp only at e
  rw [e, findSome_all]
  unfold cnts
  cases fs.all (sift1 cs r) <;> simp
theorem counted_sem {t : Tab} (ht : TabOk t) {p : Plan} (hp : PlanOk t.cs p) : F_counted.sem [t.d, p.d] = ret (.lst ((ctd t.cs t.rs p).map Tr.d)) := by
  refine runF_rt ?_
  have r := rngD_nat t.rs.length (by have := ht.len; omega)
  have lr := ht.len
  simp [I_counted, Tab.d, tabD, rowsD, r]
  let f : Nat → List D := fun k => if cnts t.cs p.sf (rowAt t.rs k) then [Tr.d (k, pth t.cs p.rk (rowAt t.rs k), pth t.cs p.ck (rowAt t.rs k))] else []
  have e3 : ∀ a b c d : D, atI [a, b, c, d] 3 = some d := fun a b c d => Ss.atI_nat [a, b, c, d] 3
  have fl : ∀ xs : List Nat, (xs.flatMap f) = ((xs.filter fun k => cnts t.cs p.sf (rowAt t.rs k)).map fun k => (k, pth t.cs p.rk (rowAt t.rs k), pth t.cs p.ck (rowAt t.rs k))).map Tr.d := fun xs => by
    induction xs with
    | nil => rfl
    | cons k ks ih =>
      rw [List.flatMap_cons, ih, List.filter_cons]
      simp only [f]
      split <;> simp
  have fll : ∀ xs : List Nat, (xs.flatMap f).length ≤ xs.length := fun xs => by
    rw [fl]; simp only [List.length_map]; exact List.length_filter_le _ _
  obtain ⟨e', e⟩ := forB_flat (tg := .one 3) (body := [.ifs (.call F_counts [(.var 4), (.idx (.var 1) (.lit (.int 3))), (.idx (.var 5) (.var 3))]) [.app 2 (.tup [(.var 3), (.call F_path_in [(.var 4), (.idx (.var 1) (.lit (.int 0))), (.idx (.var 5) (.var 3))]), (.call F_path_in [(.var 4), (.idx (.var 1) (.lit (.int 1))), (.idx (.var 5) (.var 3))])])] []])
    (em := fun (k : Nat) => D.int k) (en := fun s (e : Sl) => [.dat (.tup [colsD t.cs, .lst (t.rs.map rowD)]), .dat p.d, .own s, e, .dat (colsD t.cs), .dat (.lst (t.rs.map rowD))]) (f := f) (B := 100) (xs := List.range t.rs.length) (s := []) (t := .emp) (by
      have := fll (List.range t.rs.length)
      rw [List.length_range] at this
      simp only [List.length_nil]; omega) fun s e k hk hB => by
      have hk := List.mem_range.mp hk
      have g : (t.rs.map rowD)[k]? = some (rowD (rowAt t.rs k)) := by simp [List.getElem?_eq_getElem hk, rowAt_eq hk]
      have hr : RowOk t.cs (rowAt t.rs k) := by
        rw [rowAt_eq hk]; exact ht.rows _ (List.getElem_mem hk)
      have c := counts_sem ht.cols hp.sf hr
      have p1 := path_in_sem ht.cols hp.rk hr
      have p2 := path_in_sem ht.cols hp.ck hr
      refine ⟨.dat (.int k), ?_⟩
      have hs : s.length < 16777216 := by omega
      simp only [f]
      generalize rowAt t.rs k = row at *
      simp only [Plan.d]
      simp [Ss.atI_nat, g, e3, c]
      split
      · simp [Ss.atI_nat, g, p1, p2, hs, Tr.d, natD]
      · rw [List.append_nil]
  rw [e]
  simp
  rw [fl]; rfl
end Pg
/-! GH: the order of paths; sorting; paths with their beginnings. -/
namespace Ss
open PySem L2 PySem.W PyProof.Rows
/-! ### ranks -/
def rkV : Val → D
  | .non => .tup [.int 0, .int 0, .str ""]
  | .int i => .tup [.int 1, .int i, .str ""]
  | .str x => .tup [.int 1, .int 0, .str x]
def rkP (p : Row) : D := .lst (p.map rkV)
def pLt (p q : Row) : Bool := dataLt (rkP p).toP (rkP q).toP
def pLe (p q : Row) : Bool := !pLt q p
/-- a value as tables have them -/
def Val.pv : Val → Bool
  | .str x => isW x
  | _ => true
def PathOk (p : Row) : Prop := ∀ v ∈ p, v.pv = true
theorem toPs_map' {α : Type} {f : α → D} (xs : List α) : D.toPs (xs.map f) = xs.map fun x => (f x).toP := by
  induction xs with
  | nil => simp only [List.map_nil, D.toPs]
  | cons x xs ih => simp only [List.map_cons, D.toPs, ih]
theorem isW_ne {x : Str} (h : isW x = true) : x ≠ "" := fun e => by
  have := (isW_len h).1
  rw [e] at this
  revert this; decide +kernel
theorem eqv3 (a b : Int) (x : Str) (c d : Int) (y : Str) : PyData.eqv (.tuple [.int a, .int b, .str x]) (.tuple [.int c, .int d, .str y]) = (decide (a = c) && (decide (b = d) && decide (x = y))) := by
  simp only [PyData.eqv, PyData.eqvAll, Bool.beq_eq_decide_eq, Bool.and_true]
theorem rkV_toP (v : Val) : (rkV v).toP = match v with
    | .non => PyData.tuple [.int 0, .int 0, .str ""]
    | .int i => .tuple [.int 1, .int i, .str ""]
    | .str x => .tuple [.int 1, .int 0, .str x] := by
  cases v <;> simp only [rkV, D.toP, D.toPs]
theorem rkV_eqv {v w : Val} (hv : v.pv = true) (hw : w.pv = true) : PyData.eqv (rkV v).toP (rkV w).toP = decide (v = w) := by
  rw [rkV_toP, rkV_toP]
  cases v <;> cases w <;> simp only [eqv3] <;> simp
  · rename_i i y
    exact fun _ e => isW_ne hw e.symm
  · rename_i y i
    exact fun _ e => isW_ne hv e
theorem eqvAll_map {α : Type} [DecidableEq α] {f : α → PyData} {P : α → Prop} (h : ∀ x y, P x → P y → PyData.eqv (f x) (f y) = decide (x = y)) : ∀ xs ys : List α, (∀ x ∈ xs, P x) → (∀ y ∈ ys, P y) → PyData.eqvAll (xs.map f) (ys.map f) = decide (xs = ys)
  | [], [], _, _ => by simp [PyData.eqvAll]
  | [], _ :: _, _, _ => by simp [PyData.eqvAll]
  | _ :: _, [], _, _ => by simp [PyData.eqvAll]
  | x :: xs, y :: ys, hx, hy => by
    simp only [List.map_cons, PyData.eqvAll, h x y (hx x List.mem_cons_self) (hy y List.mem_cons_self), eqvAll_map h xs ys (fun z hz => hx z (List.mem_cons_of_mem _ hz)) (fun z hz => hy z (List.mem_cons_of_mem _ hz))]
    by_cases a : x = y <;> by_cases b : xs = ys <;> simp [a, b]
theorem rkP_toP (p : Row) : (rkP p).toP = .list (p.map fun v => (rkV v).toP) := by
  simp only [rkP, D.toP, toPs_map']
theorem rkP_eqv {p q : Row} (hp : PathOk p) (hq : PathOk q) : PyData.eqv (rkP p).toP (rkP q).toP = decide (p = q) := by
  rw [rkP_toP, rkP_toP]
  simp only [PyData.eqv]
  exact eqvAll_map (P := fun v : Val => v.pv = true) (fun x y hx hy => rkV_eqv hx hy) p q hp hq
theorem rkV_alike (v w : Val) : alike (rkV v).toP (rkV w).toP = true := by
  rw [rkV_toP, rkV_toP]
  cases v <;> cases w <;> simp [alike, alikeAll]
theorem alikeAll_map {α : Type} {f : α → PyData} (h : ∀ x y, alike (f x) (f y) = true) : ∀ xs ys : List α, alikeAll (xs.map f) (ys.map f) = true
  | [], _ => by simp [alikeAll]
  | _ :: _, [] => by simp [alikeAll]
  | x :: xs, y :: ys => by
    simp only [List.map_cons]
    rw [alikeAll, alikeAll_map h xs ys, h]; rfl
theorem rkP_alike (p q : Row) : alike (rkP p).toP (rkP q).toP = true := by
  rw [rkP_toP, rkP_toP]
  simp only [alike]
  exact alikeAll_map rkV_alike p q
/-! ### the order -/
theorem dlt_irrefl (x : PyData) : dataLt x x = false := lex_irrefl _
theorem dlt_trans {x y z : PyData} (h : dataLt x y = true) (h' : dataLt y z = true) : dataLt x z = true := lex_trans _ _ _ h h'
theorem dlt_asymm {x y : PyData} (h : dataLt x y = true) : dataLt y x = false := by
  cases e : dataLt y x with
  | false => rfl
  | true => have := dlt_trans h e; rw [dlt_irrefl] at this; cases this
theorem dlt_neg {x z : PyData} (y : PyData) (h : dataLt x z = true) : dataLt x y = true ∨ dataLt y z = true := lex_negTrans _ _ _ h
theorem dlt_total {x y : PyData} (al : alike x y = true) (h : dataLt x y = false) (h' : dataLt y x = false) : PyData.eqv x y = true := by
  have e : keyToks x = keyToks y := lex_total _ _ h h'
  cases q : PyData.eqv x y with
  | true => rfl
  | false =>
    have z := (toks_eqv x y al).2 q
    have a := z [] [Sum.inl 0]
    rw [e, lex_pre, lex_irrefl] at a
    have b : lexLt itemOrd [] [Sum.inl 0] = true := by decide
    rw [b] at a; cases a
theorem pLe_trans (p q r : Row) : pLe p q = true → pLe q r = true → pLe p r = true := by
  unfold pLe pLt
  intro h1 h2
  simp only [Bool.not_eq_true'] at h1 h2 ⊢
  cases e : dataLt (rkP r).toP (rkP p).toP with
  | false => rfl
  | true =>
    rcases dlt_neg (rkP q).toP e with z | z
    · rw [h2] at z; cases z
    · rw [h1] at z; cases z
theorem pLe_total (p q : Row) : (pLe p q || pLe q p) = true := by
  unfold pLe pLt
  cases e : dataLt (rkP q).toP (rkP p).toP with
  | false => rfl
  | true => rw [dlt_asymm e]; rfl
theorem pLe_anti {p q : Row} (hp : PathOk p) (hq : PathOk q) (h : pLe p q = true) (h' : pLe q p = true) : p = q := by
  unfold pLe pLt at h h'
  simp only [Bool.not_eq_true'] at h h'
  have := dlt_total (rkP_alike p q) h' h
  rw [rkP_eqv hp hq] at this
  exact of_decide_eq_true this
/-! ### sorted lists are told by what is in them -/
theorem sorted_uniq {α : Type} {le : α → α → Bool} : ∀ {xs ys : List α}, xs.Perm ys → (∀ a ∈ xs, ∀ b ∈ xs, le a b = true → le b a = true → a = b) → xs.Pairwise (fun a b => le a b = true) → ys.Pairwise (fun a b => le a b = true) → xs = ys
  | [], ys, h, _, _, _ => by rw [h.nil_eq]
  | x :: xs, [], h, _, _, _ => by have := h.length_eq; simp at this
  | x :: xs, y :: ys, h, an, sx, sy => by
    have e : x = y := by
      rcases List.mem_cons.mp (h.mem_iff.mp (List.mem_cons_self (a := x) (l := xs))) with e | hx
      · exact e
      · rcases List.mem_cons.mp (h.mem_iff.mpr (List.mem_cons_self (a := y) (l := ys))) with e | hy
        · exact e.symm
        · exact an x List.mem_cons_self y (List.mem_cons_of_mem _ hy) ((List.pairwise_cons.mp sx).1 y hy) ((List.pairwise_cons.mp sy).1 x hx)
    subst e
    rw [sorted_uniq (List.perm_cons x |>.mp h) (fun a ha b hb => an a (List.mem_cons_of_mem _ ha) b (List.mem_cons_of_mem _ hb)) (List.pairwise_cons.mp sx).2 (List.pairwise_cons.mp sy).2]
/-- in order, each once -/
def srtP (ps : List Row) : List Row := ps.mergeSort pLe
theorem srtP_perm (ps : List Row) : (srtP ps).Perm ps := List.mergeSort_perm ps pLe
theorem srtP_sorted (ps : List Row) : (srtP ps).Pairwise (fun a b => pLe a b = true) := List.pairwise_mergeSort (fun a b c => pLe_trans a b c) pLe_total ps
theorem srtP_mem {ps : List Row} {p : Row} : p ∈ srtP ps ↔ p ∈ ps := (srtP_perm ps).mem_iff
theorem srtP_nodup {ps : List Row} : (srtP ps).Nodup ↔ ps.Nodup := (srtP_perm ps).nodup_iff
theorem srtP_congr {ps qs : List Row} (ok : ∀ p ∈ ps, PathOk p) (np : ps.Nodup) (nq : qs.Nodup) (h : ∀ p, p ∈ ps ↔ p ∈ qs) : srtP ps = srtP qs := by
  have pq : ps.Perm qs := (List.perm_ext_iff_of_nodup np nq).mpr h
  refine sorted_uniq ((srtP_perm ps).trans (pq.trans (srtP_perm qs).symm)) (fun a ha b hb => pLe_anti (ok a (srtP_mem.mp ha)) (ok b (srtP_mem.mp hb))) (srtP_sorted ps) (srtP_sorted qs)
/-! ### sorting numbered paths -/
def nkD (ps : List Row) (k : Nat) : D := .tup [rkP (rowAt ps k), .int k]
theorem rkV_pl {v : Val} (h : v.wf = true) : (rkV v).pl = true := by
  cases v <;> simp only [rkV, D.pl, D.pls, Bool.and_true, Bool.true_and]
  · decide +kernel
  · decide +kernel
  · exact h
theorem rkV_dep (v : Val) : (rkV v).dep ≤ 1 := by cases v <;> simp [rkV, D.dep, D.deps]
theorem pv_wf {v : Val} (h : v.pv = true) : v.wf = true := by
  cases v <;> simp only [Val.wf]
  exact isW_strOk h
theorem rkP_pl {p : Row} (h : PathOk p) : (rkP p).pl = true := by
  simp only [rkP, D.pl]; exact pls_all fun v hv => rkV_pl (pv_wf (h v hv))
theorem rkP_dep (p : Row) : (rkP p).dep ≤ 2 := by
  simp only [rkP, D.dep]
  have : D.deps (p.map rkV) ≤ 1 := deps_all fun v _ => rkV_dep v
  omega
theorem nkD_alike (ps : List Row) (j k : Nat) : alike (nkD ps j).toP (nkD ps k).toP = true := by
  simp only [nkD, D.toP, D.toPs, alike, alikeAll, rkP_alike]; rfl
theorem srtB_nk {ps : List Row} (ok : ∀ p ∈ ps, PathOk p) : srtB ((List.range ps.length).map (nkD ps)) = true := by
  have okA : ∀ k ∈ List.range ps.length, PathOk (rowAt ps k) := fun k hk => by
    have hk := List.mem_range.mp hk
    rw [rowAt_eq hk]; exact ok _ (List.getElem_mem hk)
  have h1 : D.pls ((List.range ps.length).map (nkD ps)) = true := pls_all fun k hk => by
    simp only [nkD, D.pl, D.pls, rkP_pl (okA k hk), Bool.and_self]
  have h2 : D.deps ((List.range ps.length).map (nkD ps)) ≤ 60 := deps_all fun k _ => by
    have := rkP_dep (rowAt ps k)
    simp only [nkD, D.dep, D.deps]; omega
  have h3 : (((List.range ps.length).map (nkD ps)).all fun d => ((List.range ps.length).map (nkD ps)).all fun e => alike d.toP e.toP) = true := by
    refine List.all_eq_true.mpr fun d hd => List.all_eq_true.mpr fun e he => ?_
    obtain ⟨j, _, rfl⟩ := List.mem_map.mp hd
    obtain ⟨k, _, rfl⟩ := List.mem_map.mp he
    exact nkD_alike ps j k
  simp only [srtB, Bool.and_eq_true, Bool.or_eq_true]
  exact ⟨⟨⟨h1, decide_eq_true h2⟩, h3⟩, .inl (List.all_eq_true.mpr fun d hd => by
    obtain ⟨j, _, rfl⟩ := List.mem_map.mp hd
    rfl)⟩
theorem nk_le {ps : List Row} (ok : ∀ p ∈ ps, PathOk p) (nd : ps.Nodup) {j k : Nat} (hj : j < ps.length) (hk : k < ps.length) : dataLe false D.toP (nkD ps j) (nkD ps k) = pLe (rowAt ps j) (rowAt ps k) := by
  show (!dataLt (nkD ps k).toP (nkD ps j).toP) = _
  have e : dataLt (nkD ps k).toP (nkD ps j).toP = pLt (rowAt ps k) (rowAt ps j) := by
    simp only [nkD, D.toP, D.toPs]
    rw [dataLt_pair (rkP_alike _ _) (by simp [alike]), rkP_eqv (by rw [rowAt_eq hk]; exact ok _ (List.getElem_mem hk)) (by rw [rowAt_eq hj]; exact ok _ (List.getElem_mem hj))]
    by_cases q : k = j
    · subst q
      simp only [decide_eq_true, if_true]
      simp [PyData.eqv, pLt, dlt_irrefl]
    · have ne : ¬ rowAt ps k = rowAt ps j := fun z => q (by
        rw [rowAt_eq hk, rowAt_eq hj] at z
        exact (List.getElem_inj nd).mp z)
      simp only [decide_eq_false ne, Bool.false_eq_true, if_false]; rfl
  rw [e]; rfl
theorem map_rowAt (ps : List Row) : (List.range ps.length).map (rowAt ps) = ps := by
  apply List.ext_getElem?
  intro i
  rw [List.getElem?_map]
  by_cases h : i < ps.length
  · rw [List.getElem?_range h, List.getElem?_eq_getElem h, Option.map_some, rowAt_eq h]
  · rw [List.getElem?_eq_none (by rw [List.length_range]; omega), List.getElem?_eq_none (by omega)]; rfl
/-- sorted([(rank of p, k), ..]), the paths taken out again -/
theorem srt_nk {ps : List Row} (ok : ∀ p ∈ ps, PathOk p) (nd : ps.Nodup) : ∃ ks : List Nat, srtL ((List.range ps.length).map (nkD ps)) = ks.map (nkD ps) ∧ ks.map (rowAt ps) = srtP ps ∧ ∀ k ∈ ks, k < ps.length := by
  refine ⟨(List.range ps.length).mergeSort fun j k => dataLe false D.toP (nkD ps j) (nkD ps k), ?_, ?_, fun k hk => ?_⟩
  · unfold srtL
    exact (List.map_mergeSort (f := nkD ps) (fun a _ b _ => rfl)).symm
  · have e := List.map_mergeSort (r := fun j k => dataLe false D.toP (nkD ps j) (nkD ps k)) (s := pLe) (f := rowAt ps) (l := List.range ps.length) (fun a ha b hb => nk_le ok nd (List.mem_range.mp ha) (List.mem_range.mp hb))
    rw [e, map_rowAt]; rfl
  · have := (List.mergeSort_perm (List.range ps.length) fun j k => dataLe false D.toP (nkD ps j) (nkD ps k)).mem_iff.mp hk
    exact List.mem_range.mp this
end Ss
/-! GI: dicts of paths; all paths with their beginnings; places. -/
namespace Ss
open PySem L2 PySem.W PyProof.Rows
/-! ### a loop with a measure -/
theorem forB_meas {α σ τ : Type} {tg : Tg} {body : List Stm} {em : α → D} {en : σ → τ → Env} {st : σ → α → σ} {m : σ → Nat} {c B : Nat} : ∀ {xs : List α} {s : σ} {t : τ}, m s + xs.length * c ≤ B →
    (∀ s t, ∀ x ∈ xs, m s + c ≤ B → m (st s x) ≤ m s + c ∧ ∃ t', (bnd (lft (tg.put (em x) (en s t))) fun ρ' => exs body ρ') = ret (.nx (en (st s x) t'))) →
    m (xs.foldl st s) ≤ m s + xs.length * c ∧ ∃ t', forB tg body (xs.map em) (en s t) = ret (.nx (en (xs.foldl st s) t'))
  | [], s, t, _, _ => ⟨by simp, t, rfl⟩
  | x :: xs, s, t, hB, h => by
    rw [List.length_cons, Nat.add_mul] at hB
    obtain ⟨i1, t1, e1⟩ := h s t x List.mem_cons_self (by omega)
    obtain ⟨i2, t2, e2⟩ := forB_meas (xs := xs) (s := st s x) (t := t1) (by omega) fun s t y hy => h s t y (List.mem_cons_of_mem _ hy)
    refine ⟨?_, t2, ?_⟩
    · rw [List.length_cons, Nat.add_mul]
      simp only [List.foldl_cons]; omega
    · rw [List.map_cons, forB_cons, e1, fq_nx, e2]; rfl
/-! ### keys -/
def Val.nk : Val → NestedKey
  | .non => .none
  | .int i => .num i
  | .str x => .text x
def pk (p : Row) : NestedKey := .tup (p.map Val.nk)
theorem nk_inj {v w : Val} (h : v.nk = w.nk) : v = w := by cases v <;> cases w <;> simp_all [Val.nk]
theorem pk_inj {p q : Row} (h : pk p = pk q) : p = q := by
  simp only [pk, NestedKey.tup.injEq] at h
  exact (List.map_inj_right fun _ _ => nk_inj).mp h
theorem keyOf_val (v : Val) : keyOf v.d = some v.nk := by cases v <;> simp only [Val.d, keyOf, Val.nk]
theorem keysOf_vals : ∀ p : Row, keysOf (p.map Val.d) = some (p.map Val.nk)
  | [] => by simp only [List.map_nil, keysOf]
  | v :: p => by simp only [List.map_cons, keysOf, keyOf_val, keysOf_vals p, Option.bind_some, Option.map_some]
theorem keyOf_row (p : Row) : keyOf (rowD p) = some (pk p) := by simp only [rowD, keyOf, keysOf_vals, Option.map_some, pk]
theorem nk_depth (v : Val) : v.nk.depth ≤ 1 := by cases v <;> simp [Val.nk, NestedKey.depth]
theorem nks_depth : ∀ p : Row, NestedKey.depthAll (p.map Val.nk) ≤ 1
  | [] => by simp [NestedKey.depthAll]
  | v :: p => by
    have := nk_depth v
    have := nks_depth p
    simp only [List.map_cons, NestedKey.depthAll]; omega
theorem pk_depth (p : Row) : (pk p).depth ≤ 2 := by
  have := nks_depth p
  simp only [pk, NestedKey.depth]; omega
theorem topKey_row (p : Row) : topKey (rowD p) = some (pk p) := by
  have k := keyOf_row p
  have d := pk_depth p
  simp only [rowD] at k ⊢
  simp only [topKey, k, Option.bind_some, if_pos (show (pk p).depth ≤ 8 by omega)]
/-! ### dicts as lists of pairs -/
def alput {α β : Type} [DecidableEq α] : List (α × β) → α → β → List (α × β)
  | [], a, v => [(a, v)]
  | (b, w) :: l, a, v => if b = a then (b, v) :: l else (b, w) :: alput l a v
def alget {α β : Type} [DecidableEq α] : List (α × β) → α → Option β
  | [], _ => none
  | (b, w) :: l, a => if b = a then some w else alget l a
theorem alput_len {α β : Type} [DecidableEq α] (a : α) (v : β) : ∀ l : List (α × β), (alput l a v).length ≤ l.length + 1
  | [] => by simp [alput]
  | (b, w) :: l => by
    have := alput_len a v l
    simp only [alput]; split <;> simp <;> omega
section
variable {α : Type} [DecidableEq α] {em : α → D} {nk : α → NestedKey}
theorem dput_map (ht : ∀ a, topKey (em a) = some (nk a)) (inj : ∀ a b, nk a = nk b → a = b) (a : α) (v : D) : ∀ l : List (α × D), dput (l.map fun x => em x.1) (l.map fun x => x.2) (nk a) (em a) v = some ((alput l a v).map (fun x => em x.1), (alput l a v).map fun x => x.2)
  | [] => rfl
  | (b, w) :: l => by
    simp only [List.map_cons, dput, ht, Option.bind_some]
    by_cases h : b = a
    · subst h
      rw [if_pos rfl]
      simp [alput]
    · rw [if_neg fun z => h (inj _ _ z), dput_map ht inj a v l]
      simp [alput, h]
theorem dget_map (ht : ∀ a, topKey (em a) = some (nk a)) (inj : ∀ a b, nk a = nk b → a = b) (a : α) : ∀ l : List (α × D), dget (l.map fun x => em x.1) (l.map fun x => x.2) (nk a) = alget l a
  | [] => rfl
  | (b, w) :: l => by
    simp only [List.map_cons, dget, ht, Option.bind_some]
    by_cases h : b = a
    · subst h
      rw [if_pos rfl]
      simp [alget]
    · rw [if_neg fun z => h (inj _ _ z), dget_map ht inj a l]
      simp [alget, h]
end
/-! ### each once -/
def ins {α : Type} [DecidableEq α] (ks : List α) (p : α) : List α := if p ∈ ks then ks else ks ++ [p]
def insAll {α : Type} [DecidableEq α] (ks : List α) (ps : List α) : List α := ps.foldl ins ks
theorem ins_put {α β : Type} [DecidableEq α] (t : β) (p : α) : ∀ ks : List α, alput (ks.map fun k => (k, t)) p t = (ins ks p).map fun k => (k, t)
  | [] => by simp [alput, ins]
  | k :: ks => by
    have ih := ins_put t p ks
    simp only [List.map_cons, alput]
    by_cases h : k = p
    · subst h; simp [ins]
    · have h' : ¬ p = k := fun z => h z.symm
      rw [if_neg h, ih]
      by_cases q : p ∈ ks <;> simp [ins, h', q]
section
variable {α : Type} [DecidableEq α]
theorem ins_mem {ks : List α} {p x : α} : x ∈ ins ks p ↔ x ∈ ks ∨ x = p := by
  unfold ins
  by_cases h : p ∈ ks
  · rw [if_pos h]
    exact ⟨.inl, fun z => z.elim id fun e => by rw [e]; exact h⟩
  · rw [if_neg h, List.mem_append, List.mem_singleton]
theorem ins_nodup {ks : List α} {p : α} (h : ks.Nodup) : (ins ks p).Nodup := by
  unfold ins
  by_cases q : p ∈ ks
  · rw [if_pos q]; exact h
  · rw [if_neg q]
    refine List.nodup_append.mpr ⟨h, by simp, fun a ha b hb e => q ?_⟩
    rw [List.mem_singleton] at hb
    rw [← hb, ← e]; exact ha
theorem ins_len (ks : List α) (p : α) : (ins ks p).length ≤ ks.length + 1 := by
  unfold ins; split <;> simp
theorem insAll_mem {x : α} : ∀ {ps ks : List α}, x ∈ insAll ks ps ↔ x ∈ ks ∨ x ∈ ps
  | [], ks => by simp [insAll]
  | p :: ps, ks => by
    have := insAll_mem (x := x) (ps := ps) (ks := ins ks p)
    simp only [insAll, List.foldl_cons] at this ⊢
    rw [this, ins_mem, List.mem_cons, or_assoc]
theorem insAll_nodup : ∀ {ps ks : List α}, ks.Nodup → (insAll ks ps).Nodup
  | [], ks, h => h
  | p :: ps, ks, h => insAll_nodup (ps := ps) (ins_nodup h)
theorem insAll_len : ∀ (ps ks : List α), (insAll ks ps).length ≤ ks.length + ps.length
  | [], ks => by simp [insAll]
  | p :: ps, ks => by
    have := insAll_len ps (ins ks p)
    have := ins_len ks p
    simp only [insAll, List.foldl_cons, List.length_cons] at *; omega
theorem insAll_app (ks ps qs : List α) : insAll ks (ps ++ qs) = insAll (insAll ks ps) qs := by
  unfold insAll; rw [List.foldl_append]
end
/-! ### all beginnings -/
def prefs (n : Nat) (p : Row) : List Row := (List.range (n + 1)).map fun k => p.take k
def hdsK (qs : List Row) (n : Nat) : List Row := insAll [[]] (qs.flatMap (prefs n))
def hds (qs : List Row) (n : Nat) : List Row := srtP (hdsK qs n)
theorem hdsK_fold (n : Nat) : ∀ (qs ks : List Row), qs.foldl (fun ks p => insAll ks (prefs n p)) ks = insAll ks (qs.flatMap (prefs n))
  | [], ks => rfl
  | q :: qs, ks => by rw [List.foldl_cons, hdsK_fold n qs, List.flatMap_cons, insAll_app]
theorem prefs_mem {n : Nat} {p q : Row} : q ∈ prefs n p ↔ ∃ k ≤ n, q = p.take k := by
  unfold prefs
  rw [List.mem_map]
  exact ⟨fun ⟨k, hk, e⟩ => ⟨k, by have := List.mem_range.mp hk; omega, e.symm⟩, fun ⟨k, hk, e⟩ => ⟨k, List.mem_range.mpr (by omega), e.symm⟩⟩
theorem hds_mem {qs : List Row} {n : Nat} {q : Row} : q ∈ hds qs n ↔ q = [] ∨ ∃ p ∈ qs, ∃ k ≤ n, q = p.take k := by
  unfold hds hdsK
  rw [srtP_mem, insAll_mem, List.mem_singleton, List.mem_flatMap]
  exact or_congr_right ⟨fun ⟨p, hp, z⟩ => ⟨p, hp, prefs_mem.mp z⟩, fun ⟨p, hp, z⟩ => ⟨p, hp, prefs_mem.mpr z⟩⟩
theorem hds_nodup (qs : List Row) (n : Nat) : (hds qs n).Nodup := srtP_nodup.mpr (insAll_nodup (by simp))
theorem hds_ok {qs : List Row} {n : Nat} (h : ∀ q ∈ qs, PathOk q) : ∀ p ∈ hds qs n, PathOk p := fun p hp => by
  rcases hds_mem.mp hp with rfl | ⟨q, hq, k, _, rfl⟩
  · exact fun _ z => nomatch z
  · exact fun v hv => h q hq v (List.mem_of_mem_take hv)
theorem hdsK_len (qs : List Row) (n : Nat) : (hdsK qs n).length ≤ 1 + qs.length * (n + 1) := by
  have h := insAll_len (qs.flatMap (prefs n)) [([] : Row)]
  have e : (qs.flatMap (prefs n)).length = qs.length * (n + 1) := by
    clear h
    induction qs with
    | nil => simp
    | cons q qs ih =>
      rw [List.flatMap_cons, List.length_append, ih, List.length_cons, Nat.add_mul]
      simp only [prefs, List.length_map, List.length_range]; omega
  rw [e] at h
  simpa [hdsK] using h
theorem hds_len (qs : List Row) (n : Nat) : (hds qs n).length ≤ 1 + qs.length * (n + 1) := by
  unfold hds
  rw [(srtP_perm _).length_eq]; exact hdsK_len qs n
end Ss
namespace Pg
open PySem Ss L2
theorem rank_sem (v : Val) : F_rank.sem [v.d] = ret (rkV v) := by
  refine runF_rt ?_
  cases v <;> simp [I_rank, Val.d, rkV]
theorem ranked_sem (p : Row) : F_ranked.sem [rowD p] = ret (rkP p) := by
  refine runF_rt ?_
  simp [I_ranked, rowD]
  rw [lcs_map (g := rkV) fun v _ => by simp [cb, rank_sem]]
  simp [rkP]
def trueD {α : Type} (ks : List α) : List D := ks.map fun _ => D.bl true
theorem dput_row (ks : List Row) (p : Row) : dput (ks.map rowD) (trueD ks) (pk p) (rowD p) (.bl true) = some ((ins ks p).map rowD, trueD (ins ks p)) := by
  have h := dput_map (em := rowD) (nk := pk) topKey_row (fun a b => pk_inj) p (.bl true) (ks.map fun k => (k, D.bl true))
  rw [ins_put] at h
  simpa [trueD, Function.comp_def] using h
theorem with_heads_sem {qs : List Row} (ok : ∀ q ∈ qs, PathOk q) {n : Nat} (hn : n ≤ 100) (hq : qs.length ≤ 1000) : F_with_heads.sem [rowsD qs, .int n] = ret (rowsD (hds qs n)) := by
  refine runF_rt ?_
  have t0 : topKey (.tup []) = some (pk []) := topKey_row []
  have d0 : dput [] [] (pk []) (.tup []) (.bl true) = some ([.tup []], [.bl true]) := rfl
  simp [I_with_heads, rowsD, t0, d0]
  have r1 := rngD_nat (n + 1) (by omega)
  rw [show (((n + 1 : Nat)) : Int) = (n : Int) + 1 by omega] at r1
  have hql : qs.length * (n + 1) ≤ 1000 * 101 := Nat.mul_le_mul hq (by omega)
  obtain ⟨-, t', e⟩ := forB_meas (tg := .one 3) (body := [.for (.one 5) (.rng [(.op .add (.var 1) (.lit (.int 1)))]) [.dpt 2 (.slc (.var 3) none (some (.var 5))) (.lit (.bl true))]]) (em := rowD)
    (en := fun (ks : List Row) (t : Sl × Sl) => [.dat (.lst (qs.map rowD)), .dat (.int n), .odc (ks.map rowD) (trueD ks), t.1, .emp, t.2, .emp]) (st := fun ks p => insAll ks (prefs n p)) (m := List.length) (c := n + 1) (B := 1000000) (xs := qs) (s := [[]]) (t := (.emp, .emp))
    (by simp only [List.length_cons, List.length_nil]; omega) fun ks t p hp hB => by
      refine ⟨?_, ?_⟩
      · have := insAll_len (prefs n p) ks
        simpa [prefs] using this
      · obtain ⟨-, t', e⟩ := forB_meas (tg := .one 5) (body := [.dpt 2 (.slc (.var 3) none (some (.var 5))) (.lit (.bl true))]) (em := fun (k : Nat) => D.int k)
          (en := fun (ks : List Row) (t : Sl) => [.dat (.lst (qs.map rowD)), .dat (.int n), .odc (ks.map rowD) (trueD ks), .dat (rowD p), .emp, t, .emp]) (st := fun ks k => ins ks (p.take k)) (m := List.length) (c := 1) (B := 1000000) (xs := List.range (n + 1)) (s := ks) (t := t.2)
          (by rw [List.length_range]; omega) fun ks t k hk hB => by
            refine ⟨ins_len _ _, .dat (.int k), ?_⟩
            have hl : ks.length < 16777216 := by omega
            have d := dput_row ks (p.take k)
            have tk := topKey_row (p.take k)
            have ct : (cutL (p.map Val.d) none (some (k : Int))) = (p.take k).map Val.d := by rw [cutL_take, List.map_take]
            simp only [rowD] at d tk ⊢
            simp [ct]
            simp only [List.map_take] at d tk ct
            simp [tk, hl, d]
        refine ⟨(.dat (rowD p), t'), ?_⟩
        have fe : (List.range (n + 1)).foldl (fun ks k => ins ks (p.take k)) ks = insAll ks (prefs n p) := by
          unfold insAll prefs
          rw [List.foldl_map]
        rw [fe] at e
        simp [r1, e]
  rw [hdsK_fold n qs [[]]] at e
  have e0 : insAll [[]] (qs.flatMap (prefs n)) = hdsK qs n := rfl
  rw [e0] at e
  simp only [trueD, List.map_cons, List.map_nil, rowD] at e
  have kl := hdsK_len qs n
  have nd : (hdsK qs n).Nodup := insAll_nodup (by simp)
  have pok : ∀ p ∈ hdsK qs n, PathOk p := fun p hp => hds_ok ok p (srtP_mem.mpr hp)
  rw [e]
  generalize hK : hdsK qs n = ks at *
  have r2 := rngD_nat ks.length (by omega)
  simp [r2]
  rw [lcs_map (g := nkD ks) fun k hk => ?_]
  · have sb := srtB_nk pok
    obtain ⟨js, e1, e2, e3⟩ := srt_nk pok nd
    have sf : Bi.f .srt [.lst ((List.range ks.length).map (nkD ks))] = some (.lst (js.map (nkD ks))) := by
      simp only [Bi.f, sb, if_true, e1]
    simp [sf]
    rw [lcs_map (g := fun k => rowD (rowAt ks k)) fun k hk => ?_]
    · have : hds qs n = srtP ks := by unfold hds; rw [hK]
      rw [this, ← e2]
      simp [Function.comp_def]
    · have hk := e3 k hk
      simp [cb, nkD, Ss.atI_nat, List.getElem?_eq_getElem hk, rowAt_eq hk]
  · have hk := List.mem_range.mp hk
    simp [cb, Ss.atI_nat, List.getElem?_eq_getElem hk, ranked_sem, nkD, rowAt_eq hk]
end Pg
/-! GJ: tables and plans fit; row paths and column paths; the rows behind a place. -/
namespace Ss
open PySem L2 PySem.W PyProof.Rows
/-! ### what is well made fits -/
theorem gd_of {d : D} (h1 : d.pl = true) (h2 : d.dep ≤ 60) (h3 : d.sz = true) : d.gd = true := gd_iff.mpr ⟨h1, h2, h3⟩
theorem isW_sz {x : Str} (h : isW x = true) : (D.str x).sz = true := by
  have := (isW_len h).2
  simp only [D.sz]; exact decide_eq_true (by omega)
theorem pv_sz {v : Val} (h : v.pv = true) : v.d.sz = true := by
  cases v with
  | str x => exact isW_sz h
  | non => simp only [Val.d, D.sz]
  | int i => simp only [Val.d, D.sz]
theorem fits_pv {c : Col} {v : Val} (h : fits c v = true) : v.pv = true := by
  cases v with
  | str x =>
    simp only [fits, Bool.and_eq_true] at h
    exact h.2
  | non => rfl
  | int i => rfl
theorem RowOk.path {cs : List Col} {r : Row} (h : RowOk cs r) : PathOk r := fun v hv => by
  obtain ⟨c, _, q⟩ := All2.get h hv
  exact fits_pv q
theorem path_wf {p : Row} (h : PathOk p) : rowW p = true := List.all_eq_true.mpr fun v hv => pv_wf (h v hv)
theorem path_gd {p : Row} (h : PathOk p) (hl : p.length ≤ 1000) : (rowD p).gd = true := by
  refine gd_of (row_pl (path_wf h)) (by have := row_dep p; omega) ?_
  simp only [rowD, D.sz, Bool.and_eq_true, decide_eq_true_eq, List.length_map]
  exact ⟨by omega, szs_all fun v hv => pv_sz (h v hv)⟩
theorem lst_gd {α : Type} {f : α → D} {xs : List α} (h : ∀ x ∈ xs, (f x).pl = true ∧ (f x).dep ≤ 50 ∧ (f x).sz = true) (l : xs.length ≤ 100000) : (D.lst (xs.map f)).gd = true := by
  refine gd_of ?_ ?_ ?_
  · simp only [D.pl]; exact pls_all fun x hx => (h x hx).1
  · simp only [D.dep]
    have : D.deps (xs.map f) ≤ 50 := deps_all fun x hx => (h x hx).2.1
    omega
  · simp only [D.sz, Bool.and_eq_true, decide_eq_true_eq, List.length_map]
    exact ⟨by omega, szs_all fun x hx => (h x hx).2.2⟩
theorem tup_gd {α : Type} {f : α → D} {xs : List α} (h : ∀ x ∈ xs, (f x).pl = true ∧ (f x).dep ≤ 50 ∧ (f x).sz = true) (l : xs.length ≤ 100000) : (D.tup (xs.map f)).gd = true := by
  have := lst_gd h l
  rw [gd_iff] at this ⊢
  simpa only [D.pl, D.dep, D.sz] using this
/-- fits, and is not deep -/
def D.gs (n : Nat) (d : D) : Prop := d.pl = true ∧ d.dep ≤ n ∧ d.sz = true
theorem D.gs.mono {n m : Nat} {d : D} (h : d.gs n) (l : n ≤ m) : d.gs m := ⟨h.1, by have := h.2.1; omega, h.2.2⟩
theorem D.gs.gd {n : Nat} {d : D} (h : d.gs n) (l : n ≤ 60 := by decide) : d.gd = true := gd_of h.1 (by have := h.2.1; omega) h.2.2
theorem D.gs.okE {n : Nat} {d : D} (h : d.gs n) (l : n ≤ 60 := by decide) : d.okE = true := gd_okE (h.gd l)
theorem gs_lst {α : Type} {f : α → D} {xs : List α} {n : Nat} (h : ∀ x ∈ xs, (f x).gs n) (l : xs.length ≤ 16777216) : (D.lst (xs.map f)).gs (n + 1) := by
  refine ⟨?_, ?_, ?_⟩
  · simp only [D.pl]; exact pls_all fun x hx => (h x hx).1
  · simp only [D.dep]
    have : D.deps (xs.map f) ≤ n := deps_all fun x hx => (h x hx).2.1
    omega
  · simp only [D.sz, Bool.and_eq_true, decide_eq_true_eq, List.length_map]
    exact ⟨l, szs_all fun x hx => (h x hx).2.2⟩
theorem gs_tup {α : Type} {f : α → D} {xs : List α} {n : Nat} (h : ∀ x ∈ xs, (f x).gs n) (l : xs.length ≤ 16777216) : (D.tup (xs.map f)).gs (n + 1) := by
  have := gs_lst h l
  simpa only [D.gs, D.pl, D.dep, D.sz] using this
theorem gs_tupL {xs : List D} {n : Nat} (h : ∀ x ∈ xs, x.gs n) (l : xs.length ≤ 16777216) : (D.tup xs).gs (n + 1) := by
  have := gs_tup (f := id) h l
  rwa [List.map_id] at this
theorem gs_lstL {xs : List D} {n : Nat} (h : ∀ x ∈ xs, x.gs n) (l : xs.length ≤ 16777216) : (D.lst xs).gs (n + 1) := by
  have := gs_lst (f := id) h l
  rwa [List.map_id] at this
theorem gs_int (i : Int) : (D.int i).gs 0 := ⟨by simp only [D.pl], by simp only [D.dep]; omega, by simp only [D.sz]⟩
theorem gs_bl (i : Bool) : (D.bl i).gs 0 := ⟨by simp only [D.pl], by simp only [D.dep]; omega, by simp only [D.sz]⟩
theorem gs_non : (D.non).gs 0 := ⟨by simp only [D.pl], by simp only [D.dep]; omega, by simp only [D.sz]⟩
theorem gs_str {x : Str} (h : PyData.strOk x = true) (l : x.length ≤ 16777216) : (D.str x).gs 0 := ⟨by simpa only [D.pl] using h, by simp only [D.dep]; omega, by simp only [D.sz]; exact decide_eq_true l⟩
theorem gs_word {x : Str} (h : isW x = true) : (D.str x).gs 0 := gs_str (isW_strOk h) (by have := isW_len h; omega)
theorem gs_val {v : Val} (h : v.pv = true) : v.d.gs 0 := by
  cases v with
  | str x => exact gs_word h
  | non => exact gs_non
  | int i => exact gs_int i
theorem gs_path {p : Row} (h : PathOk p) (l : p.length ≤ 16777216 := by omega) : (rowD p).gs 1 := gs_tup (fun v hv => gs_val (h v hv)) l
theorem gs_rows {ps : List Row} (h : ∀ p ∈ ps, PathOk p ∧ p.length ≤ 16777216) (l : ps.length ≤ 16777216 := by omega) : (rowsD ps).gs 2 := gs_lst (fun p hp => gs_path (h p hp).1 (h p hp).2) l
theorem gs_col {c : Col} (h : isW c.nm = true) : c.d.gs 1 := gs_tupL (fun x hx => by
  simp only [List.mem_cons, List.not_mem_nil, or_false] at hx
  rcases hx with rfl | rfl
  · exact gs_word h
  · exact gs_str (kindS_ok _) (by cases c.wd <;> decide +kernel)) (by simp)
theorem gs_cols {cs : List Col} (h : ColsOk cs) : (colsD cs).gs 2 := gs_tup (fun c hc => gs_col (h.nms c hc)) (by have := h.six; omega)
theorem RowOk.len {cs : List Col} {r : Row} (h : RowOk cs r) : r.length = cs.length := All2.len h
theorem gs_tab {t : Tab} (h : TabOk t) : t.d.gs 3 := gs_tupL (fun x hx => by
  simp only [List.mem_cons, List.not_mem_nil, or_false] at hx
  rcases hx with rfl | rfl
  · exact gs_cols h.cols
  · exact gs_rows (fun r hr => ⟨(h.rows r hr).path, by have := (h.rows r hr).len; have := h.cols.six; omega⟩) (by have := h.len; omega)) (by simp)
theorem gs_key {cs : List Col} (hc : ColsOk cs) {k : Key} (h : KeyOk cs k) : k.d.gs 1 := by
  have K := key_knd h
  cases k with
  | plain x => obtain ⟨b, K⟩ := K; exact (gs_word (knd_isW hc K)).mono (by omega)
  | band x i =>
    refine gs_tupL (fun z hz => ?_) (by simp)
    simp only [List.mem_cons, List.not_mem_nil, or_false] at hz
    rcases hz with rfl | rfl | rfl
    · exact gs_str (by decide +kernel) (by decide +kernel)
    · exact gs_word (knd_isW hc K.1)
    · exact gs_int _
  | first x i =>
    refine gs_tupL (fun z hz => ?_) (by simp)
    simp only [List.mem_cons, List.not_mem_nil, or_false] at hz
    rcases hz with rfl | rfl | rfl
    · exact gs_str (by decide +kernel) (by decide +kernel)
    · exact gs_word (knd_isW hc K.1)
    · exact gs_int _
theorem sum_knd {cs : List Col} {k : SK} {x : Str} (h : SumOk cs (.one k x)) : (∃ b, kndOf cs x = some b) ∧ (k.num = true → kndOf cs x = some false) := by
  unfold SumOk at h
  simp only [Sum.d, sumOf, if_neg k.ncount, skOf_ok] at h
  split at h
  · rename_i q
    unfold sumFit at q
    cases e : k.num with
    | true =>
      rw [e] at q
      simp at q
      exact ⟨⟨_, q⟩, fun _ => q⟩
    | false =>
      rw [e] at q
      simp only [Bool.false_eq_true, if_false] at q
      exact ⟨Option.isSome_iff_exists.mp q, fun z => nomatch z⟩
  · cases h
theorem SK.w_ok (k : SK) : PyData.strOk k.w = true ∧ k.w.length ≤ 16777216 := by cases k <;> decide +kernel
theorem gs_sum {cs : List Col} (hc : ColsOk cs) {k : Sum} (h : SumOk cs k) : k.d.gs 1 := by
  cases k with
  | cnt =>
    refine gs_tupL (fun z hz => ?_) (by simp)
    simp only [List.mem_cons, List.not_mem_nil, or_false] at hz
    rw [hz]; exact gs_str (by decide +kernel) (by decide +kernel)
  | one k x =>
    obtain ⟨⟨b, K⟩, _⟩ := sum_knd h
    refine gs_tupL (fun z hz => ?_) (by simp)
    simp only [List.mem_cons, List.not_mem_nil, or_false] at hz
    rcases hz with rfl | rfl
    · exact gs_str k.w_ok.1 k.w_ok.2
    · exact gs_word (knd_isW hc K)
theorem gs_sift {cs : List Col} (hc : ColsOk cs) {k : Sift} (h : SiftOk cs k) : k.d.gs 1 := by
  have K := sift_knd h
  cases k with
  | eq b x v =>
    obtain ⟨c, K, _, f⟩ := K
    refine gs_tupL (fun z hz => ?_) (by simp)
    simp only [List.mem_cons, List.not_mem_nil, or_false] at hz
    rcases hz with rfl | rfl | rfl
    · cases b <;> exact gs_str (by decide +kernel) (by decide +kernel)
    · exact gs_word (knd_isW hc K)
    · exact gs_val (fits_pv (f ⟨x, c⟩ rfl))
  | frm x lo hi =>
    refine gs_tupL (fun z hz => ?_) (by simp)
    simp only [List.mem_cons, List.not_mem_nil, or_false] at hz
    rcases hz with rfl | rfl | rfl | rfl
    · exact gs_str (by decide +kernel) (by decide +kernel)
    · exact gs_word (knd_isW hc K.1)
    · exact gs_int _
    · exact gs_int _
theorem gs_keys {cs : List Col} (hc : ColsOk cs) {ks : List Key} (h : ∀ k ∈ ks, KeyOk cs k) (l : ks.length ≤ 16777216) : (keysD ks).gs 2 := gs_tup (fun k hk => gs_key hc (h k hk)) l
theorem gs_sums {cs : List Col} (hc : ColsOk cs) {ks : List Sum} (h : ∀ k ∈ ks, SumOk cs k) (l : ks.length ≤ 16777216) : (sumsD ks).gs 2 := gs_tup (fun k hk => gs_sum hc (h k hk)) l
theorem gs_sifts {cs : List Col} (hc : ColsOk cs) {ks : List Sift} (h : ∀ k ∈ ks, SiftOk cs k) (l : ks.length ≤ 16777216) : (siftsD ks).gs 2 := gs_tup (fun k hk => gs_sift hc (h k hk)) l
theorem gs_plan {cs : List Col} (hc : ColsOk cs) {p : Plan} (h : PlanOk cs p) : p.d.gs 3 := gs_tupL (fun x hx => by
  simp only [List.mem_cons, List.not_mem_nil, or_false] at hx
  rcases hx with rfl | rfl | rfl | rfl
  · exact gs_keys hc h.rk (by have := h.rl; omega)
  · exact gs_keys hc h.ck (by have := h.cl; omega)
  · exact gs_sums hc h.sm (by have := h.sl; omega)
  · exact gs_sifts hc h.sf (by have := h.fl; omega)) (by simp)
/-! ### paths that keys make -/
theorem cutS_take (y : Str) {s : Int} (h : 0 ≤ s) : (cutS y none (some s)).cps.toList = y.cps.toList.take s.toNat := by
  obtain ⟨k, rfl⟩ := Int.eq_ofNat_of_zero_le h
  have l : y.length = y.cps.toList.length := by simp [Str.length]
  unfold cutS
  rw [HT.sIx_none, HT.sIx_nat, List.drop_zero, Nat.sub_zero]
  simp only [Int.toNat_natCast, l]
  rcases Nat.le_total k y.cps.toList.length with q | q
  · rw [Nat.min_eq_left q]
  · rw [Nat.min_eq_right q, List.take_of_length_le (Nat.le_refl _), List.take_of_length_le q]
theorem str_len (y : Str) : y.length = y.cps.toList.length := by simp [Str.length]
theorem cutS_isW {y : Str} (h : isW y = true) {s : Int} (h1 : 1 ≤ s) : isW (cutS y none (some s)) = true := by
  have l := isW_len h
  have e := cutS_take y (s := s) (by omega)
  rw [str_len] at l
  have hl : (cutS y none (some s)).length = min s.toNat y.cps.toList.length := by rw [str_len, e, List.length_take]
  simp only [isW, Bool.and_eq_true, decide_eq_true_eq, hl]
  refine ⟨⟨by omega, by omega⟩, ?_⟩
  rw [e]
  exact List.all_eq_true.mpr fun c hc => decide_eq_true (isW_all h c (List.mem_of_mem_take hc))
theorem keyv_pv {cs : List Col} {k : Key} (hk : KeyOk cs k) {r : Row} (hr : RowOk cs r) : (keyv cs r k).pv = true := by
  have K := key_knd hk
  cases k with
  | plain x =>
    obtain ⟨b, K⟩ := K
    exact fits_pv (atc_fits hr K ⟨x, b⟩ rfl)
  | band x i =>
    simp only [keyv]
    split <;> rfl
  | first x i =>
    simp only [keyv]
    rcases atc_word hr K.1 with e | ⟨y, e, hy⟩
    · rw [e]; rfl
    · rw [e]; exact cutS_isW hy K.2.1
theorem pth_ok {cs : List Col} {ks : List Key} (hk : ∀ k ∈ ks, KeyOk cs k) {r : Row} (hr : RowOk cs r) : PathOk (pth cs ks r) := fun v hv => by
  obtain ⟨k, hk', rfl⟩ := List.mem_map.mp hv
  exact keyv_pv (hk k hk') hr
/-! ### rows and columns of a sheet -/
def Tab.trs (t : Tab) (p : Plan) : List Tr := ctd t.cs t.rs p
def Tab.rws (t : Tab) (p : Plan) : List Row := hds ((t.trs p).map fun x => x.2.1) p.rk.length
def Tab.cls (t : Tab) (p : Plan) : List Row := hds ((t.trs p).map fun x => x.2.2) p.ck.length
theorem trs_mem {t : Tab} {p : Plan} {x : Tr} (h : x ∈ t.trs p) : ∃ k, ∃ hk : k < t.rs.length, x = (k, pth t.cs p.rk t.rs[k], pth t.cs p.ck t.rs[k]) ∧ cnts t.cs p.sf t.rs[k] = true := by
  unfold Tab.trs ctd at h
  obtain ⟨k, hk, rfl⟩ := List.mem_map.mp h
  obtain ⟨h1, h2⟩ := List.mem_filter.mp hk
  have h1 := List.mem_range.mp h1
  rw [rowAt_eq h1] at h2 ⊢
  exact ⟨k, h1, rfl, h2⟩
theorem trs_len {t : Tab} (h : TabOk t) (p : Plan) : (t.trs p).length ≤ 24 := by
  have l := h.len
  have := List.length_filter_le (fun k => cnts t.cs p.sf (rowAt t.rs k)) (List.range t.rs.length)
  rw [List.length_range] at this
  unfold Tab.trs ctd
  rw [List.length_map]; omega
theorem trs_path {t : Tab} (ht : TabOk t) {p : Plan} (hp : PlanOk t.cs p) {x : Tr} (h : x ∈ t.trs p) : PathOk x.2.1 ∧ PathOk x.2.2 ∧ x.2.1.length = p.rk.length ∧ x.2.2.length = p.ck.length := by
  obtain ⟨k, hk, rfl, _⟩ := trs_mem h
  have hr := ht.rows _ (List.getElem_mem hk)
  exact ⟨pth_ok hp.rk hr, pth_ok hp.ck hr, by simp [pth], by simp [pth]⟩
theorem rws_ok {t : Tab} (ht : TabOk t) {p : Plan} (hp : PlanOk t.cs p) : ∀ q ∈ t.rws p, PathOk q ∧ q.length ≤ p.rk.length := fun q hq => by
  refine ⟨hds_ok (fun q hq => ?_) q hq, ?_⟩
  · obtain ⟨x, hx, rfl⟩ := List.mem_map.mp hq
    exact (trs_path ht hp hx).1
  · rcases hds_mem.mp hq with rfl | ⟨z, hz, k, hk, rfl⟩
    · simp
    · rw [List.length_take]; omega
theorem cls_ok {t : Tab} (ht : TabOk t) {p : Plan} (hp : PlanOk t.cs p) : ∀ q ∈ t.cls p, PathOk q ∧ q.length ≤ p.ck.length := fun q hq => by
  refine ⟨hds_ok (fun q hq => ?_) q hq, ?_⟩
  · obtain ⟨x, hx, rfl⟩ := List.mem_map.mp hq
    exact (trs_path ht hp hx).2.1
  · rcases hds_mem.mp hq with rfl | ⟨z, hz, k, hk, rfl⟩
    · simp
    · rw [List.length_take]; omega
theorem rws_len {t : Tab} (ht : TabOk t) {p : Plan} (hp : PlanOk t.cs p) : (t.rws p).length ≤ 97 := by
  have h := hds_len ((t.trs p).map fun x => x.2.1) p.rk.length
  have l := trs_len ht p
  have r := hp.rl
  rw [List.length_map] at h
  have : (t.trs p).length * (p.rk.length + 1) ≤ 24 * 4 := Nat.mul_le_mul l (by omega)
  unfold Tab.rws; omega
theorem cls_len {t : Tab} (ht : TabOk t) {p : Plan} (hp : PlanOk t.cs p) : (t.cls p).length ≤ 97 := by
  have h := hds_len ((t.trs p).map fun x => x.2.2) p.ck.length
  have l := trs_len ht p
  have r := hp.cl
  rw [List.length_map] at h
  have : (t.trs p).length * (p.ck.length + 1) ≤ 24 * 4 := Nat.mul_le_mul l (by omega)
  unfold Tab.cls; omega
theorem gs_rws {t : Tab} (ht : TabOk t) {p : Plan} (hp : PlanOk t.cs p) : (rowsD (t.rws p)).gs 2 := gs_rows (fun q hq => ⟨(rws_ok ht hp q hq).1, by have := (rws_ok ht hp q hq).2; have := hp.rl; omega⟩) (by have := rws_len ht hp; omega)
theorem gs_cls {t : Tab} (ht : TabOk t) {p : Plan} (hp : PlanOk t.cs p) : (rowsD (t.cls p)).gs 2 := gs_rows (fun q hq => ⟨(cls_ok ht hp q hq).1, by have := (cls_ok ht hp q hq).2; have := hp.cl; omega⟩) (by have := cls_len ht hp; omega)
/-! ### beginnings -/
def beg (p h : Row) : Bool := decide (p.take h.length = h)
def beh (ts : List Tr) (a b : Row) : List Nat := (ts.filter fun t => beg t.2.1 a && beg t.2.2 b).map fun t => t.1
/-- whether a thing is among paths -/
def inP (d : D) (ps : List Row) : Bool := ps.any fun z => D.eqv (rowD z) d
theorem inP_row (q : Row) (ps : List Row) : inP (rowD q) ps = decide (q ∈ ps) := by
  unfold inP
  have := any_eqv row_eqv q ps
  rw [List.any_map] at this
  exact (show (ps.any fun z => D.eqv (rowD z) (rowD q)) = _ from this).trans (decide_eq_decide.mpr Iff.rfl)
theorem in_paths {d : D} (hd : d.okE = true) {ps : List Row} (h : (rowsD ps).okE = true) : inD d (rowsD ps) = some (inP d ps) := by
  simp only [rowsD] at h ⊢
  simp only [inD, hd, h, Bool.and_self, if_true, List.any_map]
  rfl
end Ss
namespace Pg
open PySem Ss L2
theorem look_all_ok {t : Tab} (ht : TabOk t) {p : Plan} (hp : PlanOk t.cs p) : F_look_all.sem [t.d, p.d] = ret .non := by
  rw [look_all_sem (gs_tab ht).gd (gs_plan ht.cols hp).gd]
  unfold allE
  rw [tabOf_ok ht]
  simp only [planOf_ok hp]; rfl
theorem look_table_ok {t : Tab} (ht : TabOk t) : F_look_table.sem [t.d] = ret .non := by
  rw [look_table_sem (gs_tab ht).gd, tabOf_ok ht]; rfl
theorem look_plan_ok {cs : List Col} (hc : ColsOk cs) {p : Plan} (hp : PlanOk cs p) : F_look_plan.sem [colsD cs, p.d] = ret .non := by
  rw [look_plan_sem (gs_cols hc).gd (gs_plan hc hp).gd]
  unfold planE
  rw [colsOf_ok hc]
  simp only [planOf_ok hp]; rfl
theorem sides_sem {t : Tab} (ht : TabOk t) {p : Plan} (hp : PlanOk t.cs p) : F_sides.sem [t.d, p.d] = ret (.tup [rowsD (t.rws p), rowsD (t.cls p)]) := by
  refine runF_rt ?_
  have c := counted_sem ht hp
  have l := trs_len ht p
  have w1 := with_heads_sem (qs := (t.trs p).map fun x => x.2.1) (fun q hq => by
    obtain ⟨x, hx, rfl⟩ := List.mem_map.mp hq
    exact (trs_path ht hp hx).1) (n := p.rk.length) (by have := hp.rl; omega) (by rw [List.length_map]; omega)
  have w2 := with_heads_sem (qs := (t.trs p).map fun x => x.2.2) (fun q hq => by
    obtain ⟨x, hx, rfl⟩ := List.mem_map.mp hq
    exact (trs_path ht hp hx).2.1) (n := p.ck.length) (by have := hp.cl; omega) (by rw [List.length_map]; omega)
  simp [I_sides, c]
  rw [lcs_map (g := fun x : Tr => rowD x.2.1) fun x _ => by simp [cb, Tr.d]]
  simp only [rowsD, List.map_map, Function.comp_def] at w1 w2
  simp only [Tab.trs] at w1 w2
  simp [Plan.d, keysD, w1]
  rw [lcs_map (g := fun x : Tr => rowD x.2.2) fun x _ => by simp [cb, Tr.d]]
  simp [w2]
  rfl
theorem heads_sem {t : Tab} (ht : TabOk t) {p : Plan} (hp : PlanOk t.cs p) : F_heads.sem [t.d, p.d] = ret (.tup [rowsD (t.rws p), rowsD (t.cls p)]) := by
  refine runF_rt ?_
  simp [I_heads, look_all_ok ht hp, sides_sem ht hp]
theorem begins_sem {p h : Row} (hp : PathOk p) (hh : PathOk h) : F_begins.sem [rowD p, rowD h] = ret (.bl (beg p h)) := by
  refine runF_rt ?_
  have hl : PathOk (p.take h.length) := fun v hv => hp v (List.mem_of_mem_take hv)
  have e : Cm.f .eq (rowD (p.take h.length)) (rowD h) = some (beg p h) := by
    rw [cm_eq (row_okE (path_wf hl)) (row_okE (path_wf hh)), row_eqv]; rfl
  simp only [rowD] at e ⊢
  simp only [List.map_take] at e
  simp [I_begins, cutL_take, e]
theorem members_sem {ts : List Tr} (ht : ∀ x ∈ ts, PathOk x.2.1 ∧ PathOk x.2.2) {a b : Row} (ha : PathOk a) (hb : PathOk b) : F_members.sem [.lst (ts.map Tr.d), rowD a, rowD b] = ret (natsD (beh ts a b)) := by
  refine runF_rt ?_
  simp [I_members]
  rw [lcs_filter (p := fun t : Tr => beg t.2.1 a && beg t.2.2 b) (g := fun t => natD t.1) fun x hx => ?_]
  · simp [beh, natsD, Function.comp_def]
  · have b1 := begins_sem (ht x hx).1 ha
    have b2 := begins_sem (ht x hx).2 hb
    simp only [cb, Tr.d]
    cases q : beg x.2.1 a <;> cases q2 : beg x.2.2 b <;> simp [b1, b2, q, q2]
theorem look_place_sem {t : Tab} (ht : TabOk t) {p : Plan} (hp : PlanOk t.cs p) {a b : D} (ha : a.gd = true) (hb : b.gd = true) : F_look_place.sem [t.d, p.d, a, b] = okM (if inP a (t.rws p) && inP b (t.cls p) then none else some "NoPlace") := by
  refine runF_okM ?_
  have s := sides_sem ht hp
  have i1 := in_paths (gd_okE ha) (gs_rws ht hp).okE
  have i2 := in_paths (gd_okE hb) (gs_cls ht hp).okE
  cases q1 : inP a (t.rws p) with
  | false => exact ⟨[.dat t.d, .dat p.d, .dat a, .dat b, .dat (rowsD (t.rws p)), .dat (rowsD (t.cls p))], by simp [I_look_place, s, i1, q1]⟩
  | true =>
    cases q2 : inP b (t.cls p) with
    | false => exact ⟨[.dat t.d, .dat p.d, .dat a, .dat b, .dat (rowsD (t.rws p)), .dat (rowsD (t.cls p))], by simp [I_look_place, s, i1, i2, q1, q2]⟩
    | true => exact ⟨[.dat t.d, .dat p.d, .dat a, .dat b, .dat (rowsD (t.rws p)), .dat (rowsD (t.cls p))], by simp [I_look_place, s, i1, i2, q1, q2]⟩
theorem look_place_ok {t : Tab} (ht : TabOk t) {p : Plan} (hp : PlanOk t.cs p) {a b : Row} (ha : a ∈ t.rws p) (hb : b ∈ t.cls p) : F_look_place.sem [t.d, p.d, rowD a, rowD b] = ret .non := by
  have oa := rws_ok ht hp a ha
  have ob := cls_ok ht hp b hb
  rw [look_place_sem ht hp (gs_path oa.1 (by have := hp.rl; omega)).gd (gs_path ob.1 (by have := hp.cl; omega)).gd, inP_row, inP_row, decide_eq_true ha, decide_eq_true hb]; rfl
theorem trs_paths {t : Tab} (ht : TabOk t) {p : Plan} (hp : PlanOk t.cs p) : ∀ x ∈ t.trs p, PathOk x.2.1 ∧ PathOk x.2.2 := fun x hx => ⟨(trs_path ht hp hx).1, (trs_path ht hp hx).2.1⟩
theorem opened_sem {t : Tab} (ht : TabOk t) {p : Plan} (hp : PlanOk t.cs p) {a b : Row} (ha : a ∈ t.rws p) (hb : b ∈ t.cls p) : F_opened.sem [t.d, p.d, rowD a, rowD b] = ret (natsD (beh (t.trs p) a b)) := by
  refine runF_rt ?_
  have m := members_sem (trs_paths ht hp) (rws_ok ht hp a ha).1 (cls_ok ht hp b hb).1
  have c := counted_sem ht hp
  have e : (ctd t.cs t.rs p) = t.trs p := rfl
  rw [e] at c
  simp [I_opened, look_all_ok ht hp, look_place_ok ht hp ha hb, c, m]
end Pg
/-! GK: the laws' own marks and heads. -/
namespace Ss
open PySem L2 PySem.W PyProof.Rows
/-! ### the first of each -/
section
variable {α : Type} [DecidableEq α]
def dd (xs : List α) : List α := (xs.foldl ins [])
/-- the places of the first ones -/
def fstAt (xs : List α) (k : Nat) : Bool := !((xs[k]?).any fun x => decide (x ∈ xs.take k))
theorem dd_take (xs : List α) : ∀ n ≤ xs.length, ((List.range n).filter (fstAt xs)).filterMap (fun k => xs[k]?) = dd (xs.take n)
  | 0, _ => rfl
  | n + 1, h => by
    have ih := dd_take xs n (by omega)
    have hn : n < xs.length := by omega
    rw [List.range_succ, List.filter_append, List.filterMap_append, ih]
    have e : xs.take (n + 1) = xs.take n ++ [xs[n]] := List.take_succ_eq_append_getElem hn
    have m : ∀ x, x ∈ dd (xs.take n) ↔ x ∈ xs.take n := fun x => by
      have := insAll_mem (x := x) (ps := xs.take n) (ks := [])
      simpa [dd, insAll] using this
    rw [e]
    unfold dd
    rw [List.foldl_append]
    simp only [List.foldl_cons, List.foldl_nil]
    show _ = ins (dd (xs.take n)) xs[n]
    unfold ins
    by_cases q : xs[n] ∈ xs.take n
    · rw [if_pos ((m _).mpr q)]
      simp [fstAt, List.getElem?_eq_getElem hn, q]; rfl
    · rw [if_neg fun z => q ((m _).mp z)]
      simp [fstAt, List.getElem?_eq_getElem hn, q]; rfl
theorem dd_mem {xs : List α} {x : α} : x ∈ dd xs ↔ x ∈ xs := by
  have := insAll_mem (x := x) (ps := xs) (ks := [])
  simpa [dd, insAll] using this
theorem dd_nodup (xs : List α) : (dd xs).Nodup := insAll_nodup (ks := []) (ps := xs) (by simp)
theorem dd_len (xs : List α) : (dd xs).length ≤ xs.length := by
  have := insAll_len xs ([] : List α)
  simpa [dd, insAll] using this
end
def lhK (qs : List Row) : List Row := [] :: qs.flatMap fun p => (List.range p.length).map fun k => p.take (1 + k)
def lheads (qs : List Row) : List Row := srtP (dd (lhK qs))
theorem lheads_eq {qs : List Row} (ok : ∀ q ∈ qs, PathOk q) {n : Nat} (h : ∀ q ∈ qs, q.length ≤ n) : lheads qs = hds qs n := by
  refine srtP_congr (fun p hp => ?_) (dd_nodup _) (insAll_nodup (by simp)) fun p => ?_
  · rw [dd_mem] at hp
    rcases List.mem_cons.mp hp with rfl | hp
    · exact fun _ z => nomatch z
    · obtain ⟨q, hq, hp⟩ := List.mem_flatMap.mp hp
      obtain ⟨k, _, rfl⟩ := List.mem_map.mp hp
      exact fun v hv => ok q hq v (List.mem_of_mem_take hv)
  · rw [dd_mem]
    have e : p ∈ hdsK qs n ↔ p ∈ hds qs n := srtP_mem.symm
    rw [e, hds_mem]
    unfold lhK
    rw [List.mem_cons, List.mem_flatMap]
    constructor
    · rintro (rfl | ⟨q, hq, z⟩)
      · exact .inl rfl
      · obtain ⟨k, hk, rfl⟩ := List.mem_map.mp z
        have hk := List.mem_range.mp hk
        have := h q hq
        exact .inr ⟨q, hq, 1 + k, by omega, rfl⟩
    · rintro (rfl | ⟨q, hq, k, hk, rfl⟩)
      · exact .inl rfl
      · by_cases hz : min k q.length = 0
        · left
          have : (q.take k).length = 0 := by rw [List.length_take]; exact hz
          exact List.length_eq_zero_iff.mp this
        · right
          refine ⟨q, hq, List.mem_map.mpr ⟨min k q.length - 1, List.mem_range.mpr (by omega), ?_⟩⟩
          rw [show 1 + (min k q.length - 1) = min k q.length by omega]
          rcases Nat.le_total k q.length with y | y
          · rw [Nat.min_eq_left y]
          · rw [Nat.min_eq_right y, List.take_of_length_le (Nat.le_refl _), List.take_of_length_le y]
theorem lhK_len (qs : List Row) {n : Nat} (h : ∀ q ∈ qs, q.length ≤ n) : (lhK qs).length ≤ 1 + qs.length * n := by
  have e : (qs.flatMap fun p => (List.range p.length).map fun k => p.take (1 + k)).length ≤ qs.length * n := by
    induction qs with
    | nil => simp
    | cons q qs ih =>
      have := ih fun x hx => h x (List.mem_cons_of_mem _ hx)
      have := h q List.mem_cons_self
      rw [List.flatMap_cons, List.length_append, List.length_cons, Nat.add_mul]
      simp only [List.length_map, List.length_range]; omega
  unfold lhK
  rw [List.length_cons]; omega
theorem rngD_two (i n : Nat) (h : i + n ≤ 16777216) : rngD [.int (i : Int), .int ((i : Int) + n)] = some ((List.range n).map fun (k : Nat) => D.int ((i + k : Nat) : Int)) := by
  have e : (-(2 ^ 62) ≤ (i : Int)) ∧ (i : Int) ≤ 16777216 ∧ (-(2 ^ 62) ≤ (i : Int) + n) ∧ (i : Int) + n ≤ 16777216 ∧ (i : Int) + n - i ≤ 16777216 := ⟨by omega, by omega, by omega, by omega, by omega⟩
  simp only [rngD, if_pos e, rngL]
  have z : ((i : Int) + n - i).toNat = n := by omega
  rw [z]
  congr 1
end Ss
namespace Pg
open PySem Ss L2
theorem mark_sem (p : Row) : F__law_mark.sem [rowD p] = ret (rkP p) := by
  refine runF_rt ?_
  simp [I__law_mark, rowD]
  rw [lcs_map (g := rkV) fun v _ => by cases v <;> simp [cb, Val.d, rkV]]
  simp [rkP]
theorem law_heads_sem {qs : List Row} (ok : ∀ q ∈ qs, PathOk q) {n : Nat} (hn : n ≤ 100) (h : ∀ q ∈ qs, q.length ≤ n) (hq : qs.length ≤ 1000) : F__law_heads.sem [rowsD qs] = ret (rowsD (hds qs n)) := by
  rw [← lheads_eq ok h]
  refine runF_rt ?_
  have LL := lhK_len qs h
  have hql : qs.length * n ≤ 1000 * 100 := Nat.mul_le_mul hq hn
  simp [I__law_heads, rowsD]
  obtain ⟨t', e⟩ := forB_flat (tg := .one 2) (body := [.set (.one 1) (.op .add (.var 1) (.comp (.slc (.var 2) none (some (.var 4))) (.one 4) (.rng [(.lit (.int 1)), (.op .add (.bi .len [(.var 2)]) (.lit (.int 1)))]) [] [4]))]) (em := rowD)
    (en := fun (s : List D) (t : Sl) => [.dat (.lst (qs.map rowD)), .dat (.lst s), t, .emp, .emp, .emp]) (f := fun p => ((List.range p.length).map fun k => p.take (1 + k)).map rowD) (B := 1000000) (xs := qs) (s := [rowD []]) (t := .emp)
    (by
      have e : (qs.flatMap fun p => ((List.range p.length).map fun k => p.take (1 + k)).map rowD) = (qs.flatMap fun p => (List.range p.length).map fun k => p.take (1 + k)).map rowD := by rw [List.map_flatMap]
      rw [e, List.length_map]
      unfold lhK at LL
      simp only [List.length_cons, List.length_nil] at LL ⊢; omega) fun s t p hp hB => by
      refine ⟨.dat (rowD p), ?_⟩
      have l := h p hp
      have r := rngD_two 1 p.length (by omega)
      rw [show ((1 : Nat) : Int) + (p.length : Int) = (p.length : Int) + 1 by omega] at r
      have r : rngD [.int 1, .int ((p.length : Int) + 1)] = _ := r
      simp only [List.length_map, List.length_range] at hB
      have ad : ∀ ys : List D, ys.length = p.length → Op.f .add (.lst s) (.lst ys) = some (.lst (s ++ ys)) := fun ys hy => op_addL (by simp; omega)
      simp only [rowD]
      simp [r]
      rw [lcs_map (g := fun k => rowD (p.take (1 + k))) fun k hk => ?_]
      · simp
        rw [ad _ (by simp)]
        simp [Function.comp_def]
      · have e : ((1 + k : Nat) : Int) = 1 + (k : Int) := by omega
        simp only [cb]
        simp
        rw [← e, cutL_take]
        simp [rowD]
  have fe : [rowD []] ++ (qs.flatMap fun p => ((List.range p.length).map fun k => p.take (1 + k)).map rowD) = (lhK qs).map rowD := by
    unfold lhK
    rw [List.map_cons, List.map_flatMap]; rfl
  rw [fe] at e
  simp only [rowD, List.map_nil] at e
  rw [e]
  have okL : ∀ p ∈ lhK qs, PathOk p := fun p hp => hds_ok ok p (n := n) (by
    rw [← lheads_eq ok h]
    exact srtP_mem.mpr (dd_mem.mpr hp))
  have wL : ∀ p ∈ lhK qs, rowW p = true := fun p hp => path_wf (okL p hp)
  generalize hK : lhK qs = ps at *
  have r2 := rngD_nat ps.length (by omega)
  simp [r2]
  rw [lcs_filter (p := fstAt ps) (g := fun k => rowD (rowAt ps k)) fun k hk => ?_]
  · have dt := dd_take ps ps.length (Nat.le_refl _)
    rw [List.take_of_length_le (Nat.le_refl _)] at dt
    have dl := dd_len ps
    have de : (((List.range ps.length).filter (fstAt ps)).map fun k => rowD (rowAt ps k)) = (dd ps).map rowD := by
      rw [← dt, List.map_filterMap]
      generalize hl : ((List.range ps.length).filter (fstAt ps)) = ks
      have hb : ∀ k ∈ ks, k < ps.length := fun k hk => by
        rw [← hl] at hk
        exact List.mem_range.mp (List.mem_filter.mp hk).1
      clear hl
      induction ks with
      | nil => rfl
      | cons k ks ih =>
        have hk := hb k List.mem_cons_self
        rw [List.map_cons, List.filterMap_cons, ih fun j hj => hb j (List.mem_cons_of_mem _ hj)]
        simp [List.getElem?_eq_getElem hk, rowAt_eq hk]
    rw [de]
    have pok : ∀ p ∈ dd ps, PathOk p := fun p hp => okL p (dd_mem.mp hp)
    have nd := dd_nodup ps
    have r3 := rngD_nat (dd ps).length (by omega)
    have lh : lheads qs = srtP (dd ps) := by unfold lheads; rw [hK]
    rw [lh]
    generalize dd ps = ks at *
    simp [r3]
    rw [lcs_map (g := nkD ks) fun k hk => ?_]
    · have sb := srtB_nk pok
      obtain ⟨js, e1, e2, e3⟩ := srt_nk pok nd
      have sf : Bi.f .srt [.lst ((List.range ks.length).map (nkD ks))] = some (.lst (js.map (nkD ks))) := by
        simp only [Bi.f, sb, if_true, e1]
      simp [sf]
      rw [lcs_map (g := fun k => rowD (rowAt ks k)) fun k hk => ?_]
      · rw [← e2]
        simp [Function.comp_def]
      · have hk := e3 k hk
        simp [cb, nkD, Ss.atI_nat, List.getElem?_eq_getElem hk, rowAt_eq hk]
    · have hk := List.mem_range.mp hk
      simp [cb, Ss.atI_nat, List.getElem?_eq_getElem hk, mark_sem, nkD, rowAt_eq hk]
  · have hk := List.mem_range.mp hk
    have i := in_rows (wL _ (List.getElem_mem hk)) (rs := ps.take k) fun r hr => wL r (List.mem_of_mem_take hr)
    simp only [rowsD, List.map_take] at i
    simp only [cb]
    simp [Ss.atI_nat, List.getElem?_eq_getElem hk, cutL_take, i, rowAt_eq hk]
    by_cases q : ps[k] ∈ ps.take k <;> simp [q, fstAt, List.getElem?_eq_getElem hk]
end Pg
/-! GL: loops with draws; laws, statement by statement. -/
namespace Ss
open PySem L2
/-- a loop whose turns may draw -/
theorem Hs.forI {α : Type} {tg : Tg} {body : List Stm} {em : α → D} {I : Nat → Env → Prop} {c1 : Nat} : ∀ {xs : List α} {n : Nat} {ρ : Env} {c : Nat}, I n ρ →
    (∀ (i : Nat) (ρ : Env) (x : α), xs[i]? = some x → I (n + i) ρ → Hs (Ss.bnd (lft (tg.put (em x) ρ)) fun ρ' => exs body ρ') c1 fun f => ∃ ρ', f = .nx ρ' ∧ I (n + i + 1) ρ') → xs.length * c1 ≤ c →
    Hs (forB tg body (xs.map em) ρ) c fun f => ∃ ρ', f = .nx ρ' ∧ I (n + xs.length) ρ'
  | [], n, ρ, c, i, _, _ => Hs.ret ⟨ρ, rfl, i⟩
  | x :: xs, n, ρ, c, i, h, hc => by
    have hc' : xs.length * c1 + c1 ≤ c := by
      rw [List.length_cons, Nat.add_mul] at hc; omega
    rw [List.map_cons, forB_cons]
    refine Hs.fq (c1 := c1) (c2 := xs.length * c1) (P := I (n + 1)) (h 0 ρ x rfl i) (fun ρ' i' => ?_) (by omega)
    have z := Hs.forI (xs := xs) (n := n + 1) (ρ := ρ') (c := xs.length * c1) i' (fun i ρ y hy q => by
      have w := h (i + 1) ρ y hy (by rw [show n + (i + 1) = n + 1 + i by omega]; exact q)
      rw [show n + (i + 1) + 1 = n + 1 + i + 1 by omega] at w
      exact w) (Nat.le_refl _)
    rw [show n + 1 + xs.length = n + (x :: xs).length by simp only [List.length_cons]; omega] at z
    exact z
/-- a law's next statement -/
theorem Hs.stepS {s : Stm} {R : List Stm} {ρ : Env} {c c1 c2 : Nat} {P : Env → Prop} {Q : Fl → Prop} (x : Hs (ex s ρ) c1 fun f => ∃ ρ', f = .nx ρ' ∧ P ρ') (y : ∀ ρ', P ρ' → Hs (exs R ρ') c2 Q) (hc : c1 + c2 ≤ c := by omega) : Hs (exs (s :: R) ρ) c Q := by
  rw [exs_cons]
  exact Hs.sq x y hc
theorem exs_step {s : Stm} {R : List Stm} {ρ ρ' : Env} (h : ex s ρ = ret (.nx ρ')) : exs (s :: R) ρ = exs R ρ' := by rw [exs_cons, h, sq_nx]
end Ss
namespace Ss
open PySem L2
mutual
theorem eqv_refl : ∀ d : D, d.pl = true → D.eqv d d = true
  | .non, _ => by simp only [D.eqv]
  | .bl b, _ => by simp [D.eqv]
  | .int i, _ => by simp [D.eqv]
  | .str x, _ => by simp [D.eqv]
  | .lst xs, h => by
    simp only [D.pl] at h
    simp only [D.eqv]; exact eqvs_refl xs h
  | .tup xs, h => by
    simp only [D.pl] at h
    simp only [D.eqv]; exact eqvs_refl xs h
  | .dic _ _, h => by simp [D.pl] at h
  | .fn _, h => by simp [D.pl] at h
  | .exn _, h => by simp [D.pl] at h
  | .town, h => by simp [D.pl] at h
  | .scr _, h => by simp [D.pl] at h
  | .obj _, h => by simp [D.pl] at h
  | .dk _ _, h => by simp [D.pl] at h
theorem eqvs_refl : ∀ ds : List D, D.pls ds = true → D.eqvs ds ds = true
  | [], _ => by simp only [D.eqvs]
  | d :: ds, h => by
    simp only [D.pls, Bool.and_eq_true] at h
    simp only [D.eqvs, eqv_refl d h.1, eqvs_refl ds h.2, Bool.and_self]
end
theorem ne_same {d : D} (h : d.okE = true) : Cm.f .ne d d = some false := by
  rw [cm_ne h h, eqv_refl d (okE_iff.mp h).1]; rfl
theorem eq_same {d : D} (h : d.okE = true) : Cm.f .eq d d = some true := by
  rw [cm_eq h h, eqv_refl d (okE_iff.mp h).1]
/-- no beginnings but the empty one -/
theorem hds_zero (qs : List Row) (h : ∀ q ∈ qs, q = []) : hds qs 0 = [[]] := by
  have e : hdsK qs 0 = [[]] := by
    unfold hdsK
    have z : ∀ ps : List Row, (∀ q ∈ ps, q = []) → insAll [[]] ps = [([] : Row)] := fun ps => by
      induction ps with
      | nil => intro _; rfl
      | cons p ps ih =>
        intro h
        have hp := h p List.mem_cons_self
        subst hp
        show insAll (ins [[]] []) ps = _
        have : ins [([] : Row)] [] = [[]] := by simp [ins]
        rw [this]; exact ih fun q hq => h q (List.mem_cons_of_mem _ hq)
    refine z _ fun q hq => ?_
    obtain ⟨p, hp, z⟩ := List.mem_flatMap.mp hq
    obtain ⟨k, _, rfl⟩ := prefs_mem.mp z
    rw [h p hp]; simp
  unfold hds
  rw [e]; simp [srtP]
end Ss
/-! GM: fractions, values, sums, cells, sheets. -/
namespace Ss
open PySem L2
/-! ### while -/
theorem whls_succ {c : Env → M Bool} {f : Env → M Fl} {m : Nat} {ρ : Env} : whls c f (m + 1) ρ = stp ρ (c ρ) fun k => if k then sq (bnd (f ρ) noCt) fun ρ' => whls c f m ρ' else ret (.nx ρ) := rfl
theorem whls_no {c : Env → M Bool} {f : Env → M Fl} {m : Nat} {ρ : Env} (h : c ρ = ret false) : whls c f (m + 1) ρ = ret (.nx ρ) := by
  rw [whls_succ, h]; rfl
theorem whls_go {c : Env → M Bool} {f : Env → M Fl} {m : Nat} {ρ ρ' : Env} (h : c ρ = ret true) (h' : f ρ = ret (.nx ρ')) : whls c f (m + 1) ρ = whls c f m ρ' := by
  rw [whls_succ, h, stp_ret, if_pos rfl, h', ret_bnd]; rfl
theorem tru_int {i : Int} : tru (.int i) = some (i != 0) := rfl
theorem op_modP {i j : Int} (h : 0 < j) : Op.f .mod (.int i) (.int j) = some (.int (i % j)) := by simp only [Op.f, if_pos h]
theorem op_fdivP {i j : Int} (h : 0 < j) (h' : j < 2 ^ 200) : Op.f .fdiv (.int i) (.int j) = some (.int (i / j)) := by simp only [Op.f, if_pos (And.intro h h')]
theorem op_fdivM {i j : Int} (h : j < 0) (h' : -j < 2 ^ 200) : Op.f .fdiv (.int i) (.int j) = some (.int (i.fdiv j)) := by
  have n : ¬ (0 < j ∧ j < 2 ^ 200) := by omega
  simp only [Op.f, if_neg n, if_pos (And.intro h h')]
@[simp] theorem bi_abs {i : Int} : Bi.f .abs [.int i] = some (.int (if i < 0 then -i else i)) := Eq.trans rfl rfl
theorem gcd_step (a b : Int) (hb : 0 < b) : Int.gcd b (a % b) = Int.gcd a b := by
  rw [Int.gcd_comm a b]
  conv => rhs; rw [← Int.emod_add_mul_ediv a b]
  rw [Int.gcd_add_mul_left_right]
/-! ### fractions -/
inductive SV where
  | non | int (i : Int) | fr (a b : Int)
  deriving DecidableEq
def SV.d : SV → D
  | .non => .non
  | .int i => .int i
  | .fr a b => .tup [.int a, .int b]
def leastV (t u : Int) : SV := if u = 0 then .non else if u < 0 then .fr ((-t) / (Int.gcd t u : Int)) ((-u) / (Int.gcd t u : Int)) else .fr (t / (Int.gcd t u : Int)) (u / (Int.gcd t u : Int))
theorem sv_gs (v : SV) : v.d.gs 1 := by
  cases v with
  | non => exact gs_non.mono (by omega)
  | int i => exact (gs_int i).mono (by omega)
  | fr a b => exact gs_tupL (fun x hx => by
      simp only [List.mem_cons, List.not_mem_nil, or_false] at hx
      rcases hx with rfl | rfl <;> exact gs_int _) (by simp)
theorem sv_eqv (v w : SV) : D.eqv v.d w.d = decide (v = w) := by
  cases v <;> cases w <;> simp [SV.d, D.eqv, D.eqvs, Bool.beq_eq_decide_eq]
end Ss
namespace Pg
open PySem Ss L2
theorem div_loop : ∀ (n : Nat) (a b : Int) (m : Nat), 0 ≤ b → b.toNat ≤ n → n < m → whls (fun ρ => truM (ev (.var 1) ρ)) (fun ρ => exs B_divisor_0 ρ) m [.dat (.int a), .dat (.int b)] = ret (.nx [.dat (.int (if b = 0 then a else Int.gcd a b)), .dat (.int 0)]) ∨ ∃ g : Int, g.natAbs = Int.gcd a b ∧ whls (fun ρ => truM (ev (.var 1) ρ)) (fun ρ => exs B_divisor_0 ρ) m [.dat (.int a), .dat (.int b)] = ret (.nx [.dat (.int g), .dat (.int 0)])
  | n, a, b, 0, _, _, h => by omega
  | n, a, b, m + 1, h0, hn, hm => by
    right
    by_cases hb : b = 0
    · subst hb
      exact ⟨a, by simp, whls_no (by simp [tru_int])⟩
    · have hp : 0 < b := by omega
      have bt : (b != 0) = true := by simpa using hb
      have r0 := Int.emod_nonneg a hb
      have r1 := Int.emod_lt_of_pos a hp
      have e : whls (fun ρ => truM (ev (.var 1) ρ)) (fun ρ => exs B_divisor_0 ρ) (m + 1) [.dat (.int a), .dat (.int b)] = whls (fun ρ => truM (ev (.var 1) ρ)) (fun ρ => exs B_divisor_0 ρ) m [.dat (.int b), .dat (.int (a % b))] := whls_go (by simp [tru_int, bt]) (by simp [B_divisor_0, op_modP hp])
      rw [e, ← gcd_step a b hp]
      match n, hn, hm with
      | 0, hn, _ => omega
      | n + 1, hn, hm =>
        rcases div_loop n b (a % b) m r0 (by omega) (by omega) with q | ⟨g, h1, h2⟩
        · by_cases z : a % b = 0
          · rw [if_pos z] at q
            exact ⟨b, by rw [z]; simp, q⟩
          · rw [if_neg z] at q
            exact ⟨_, by simp, q⟩
        · exact ⟨g, h1, h2⟩
theorem divisor_sem (a : Int) {b : Int} (h0 : 0 ≤ b) (h1 : b < 10000000000000000000000000000000000000000) : F_divisor.sem [.int a, .int b] = ret (.int (Int.gcd a b)) := by
  refine runF_rt ?_
  have L : ∃ g : Int, g.natAbs = Int.gcd a b ∧ whls (fun ρ => truM (ev (.var 1) ρ)) (fun ρ => exs B_divisor_0 ρ) 10000000000000000000000000000000000000000 [.dat (.int a), .dat (.int b)] = ret (.nx [.dat (.int g), .dat (.int 0)]) := by
    rcases div_loop b.toNat a b 10000000000000000000000000000000000000000 h0 (Nat.le_refl _) (by omega) with q | q
    · by_cases z : b = 0
      · rw [if_pos z] at q
        rw [z] at q ⊢
        exact ⟨a, by simp, q⟩
      · rw [if_neg z] at q
        exact ⟨_, by simp, q⟩
    · exact q
  obtain ⟨g, e1, e2⟩ := L
  have e3 : (if g < 0 then -g else g) = (Int.gcd a b : Int) := by split <;> omega
  show exs (.whl 10000000000000000000000000000000000000000 (.var 1) B_divisor_0 :: [.ret (.bi .abs [(.var 0)])]) _ = _
  rw [exs_cons, ex_whl]
  show sq (whls (fun ρ => truM (ev (.var 1) ρ)) (fun ρ => exs B_divisor_0 ρ) 10000000000000000000000000000000000000000 [.dat (.int a), .dat (.int b)]) _ = _
  rw [e2, sq_nx]
  simp [e3]
theorem least_sem (t : Int) {u : Int} (h1 : u.natAbs < 10000000000000000000000000000000000000000) : F_least.sem [.int t, .int u] = ret (leastV t u).d := by
  refine runF_rt ?_
  by_cases z : u = 0
  · subst z
    simp [I_least, leastV, SV.d]
  · have gp : 0 < Int.gcd t u := Int.gcd_pos_of_ne_zero_right t z
    have gl : Int.gcd t u ≤ u.natAbs := Nat.le_of_dvd (by omega) (Int.gcd_dvd_natAbs_right t u)
    by_cases hn : u < 0
    · have d := divisor_sem (-t) (b := -u) (by omega) (by omega)
      rw [Int.gcd_neg, Int.neg_gcd] at d
      have f1 := op_fdivP (i := -t) (j := (Int.gcd t u : Int)) (by omega) (by omega)
      have f2 := op_fdivP (i := -u) (j := (Int.gcd t u : Int)) (by omega) (by omega)
      simp [I_least, z, hn, d, f1, f2, leastV, SV.d]
    · have d := divisor_sem t (b := u) (by omega) (by omega)
      have f1 := op_fdivP (i := t) (j := (Int.gcd t u : Int)) (by omega) (by omega)
      have f2 := op_fdivP (i := u) (j := (Int.gcd t u : Int)) (by omega) (by omega)
      simp [I_least, z, hn, d, f1, f2, leastV, SV.d]
end Pg
namespace Ss
open PySem L2
/-! ### values, sums -/
def vals (t : Tab) (x : Str) (ks : List Nat) : List Val := (ks.map fun k => atc t.cs (rowAt t.rs k) x).filter fun v => decide (v ≠ .non)
def toI : Val → Option Int
  | .int i => some i
  | _ => none
def itg (vs : List Val) : List Int := vs.filterMap toI
def leafV : Val → Leaf
  | .non => .none
  | .int i => .num i
  | .str x => .text x
def unl (vs : List Val) : Int := dcn (vs.map leafV) vs.length
def ofNd (o : Option Int) : SV := match o with
  | some i => .int i
  | none => .non
def oneS (t : Tab) (ts : List Tr) (s : Sum) (a b : Row) : SV := match s with
  | .cnt => .int (beh ts a b).length
  | .one k x => match k with
    | .fil => .int (vals t x (beh ts a b)).length
    | .unl => .int (unl (vals t x (beh ts a b)))
    | .sum => .int (itg (vals t x (beh ts a b))).sum
    | .mea => leastV (itg (vals t x (beh ts a b))).sum (vals t x (beh ts a b)).length
    | .lea => ofNd (minL (itg (vals t x (beh ts a b))))
    | .gre => ofNd (maxL (itg (vals t x (beh ts a b))))
    | .ofA => leastV (itg (vals t x (beh ts a b))).sum (itg (vals t x (beh ts [] []))).sum
    | .ofR => leastV (itg (vals t x (beh ts a b))).sum (itg (vals t x (beh ts a []))).sum
    | .ofC => leastV (itg (vals t x (beh ts a b))).sum (itg (vals t x (beh ts [] b))).sum
def cellS (t : Tab) (ts : List Tr) (ss : List Sum) (a b : Row) : List SV := ss.map fun s => oneS t ts s a b
def cellD (c : List SV) : D := .tup (c.map SV.d)
theorem beh_lt {ts : List Tr} {n : Nat} (h : ∀ x ∈ ts, x.1 < n) {a b : Row} : ∀ k ∈ beh ts a b, k < n := fun k hk => by
  obtain ⟨x, hx, rfl⟩ := List.mem_map.mp hk
  exact h x (List.mem_filter.mp hx).1
theorem beh_len (ts : List Tr) (a b : Row) : (beh ts a b).length ≤ ts.length := by
  unfold beh
  rw [List.length_map]; exact List.length_filter_le _ _
theorem trs_lt {t : Tab} {p : Plan} : ∀ x ∈ t.trs p, x.1 < t.rs.length := fun x hx => by
  obtain ⟨k, hk, rfl, _⟩ := trs_mem hx
  exact hk
theorem vals_len (t : Tab) (x : Str) (ks : List Nat) : (vals t x ks).length ≤ ks.length := by
  have := List.length_filter_le (fun v => decide (v ≠ .non)) (ks.map fun k => atc t.cs (rowAt t.rs k) x)
  rw [List.length_map] at this
  exact this
theorem vals_num {t : Tab} (ht : TabOk t) {x : Str} (hx : kndOf t.cs x = some false) {ks : List Nat} (hk : ∀ k ∈ ks, k < t.rs.length) : (vals t x ks).map Val.d = (itg (vals t x ks)).map D.int ∧ (itg (vals t x ks)).length = (vals t x ks).length ∧ ∀ i ∈ itg (vals t x ks), -1000000 ≤ i ∧ i ≤ 1000000 := by
  have h : ∀ v ∈ vals t x ks, ∃ i : Int, v = .int i ∧ -1000000 ≤ i ∧ i ≤ 1000000 := fun v hv => by
    obtain ⟨h1, h2⟩ := List.mem_filter.mp hv
    obtain ⟨k, hk', rfl⟩ := List.mem_map.mp h1
    have hl := hk k hk'
    rw [rowAt_eq hl] at h2 ⊢
    rcases atc_num (ht.rows _ (List.getElem_mem hl)) hx with e | ⟨i, e, b⟩
    · rw [e] at h2; simp at h2
    · exact ⟨i, e, b⟩
  generalize vals t x ks = vs at *
  induction vs with
  | nil => exact ⟨rfl, rfl, fun _ z => nomatch z⟩
  | cons v vs ih =>
    obtain ⟨i, rfl, b⟩ := h v List.mem_cons_self
    obtain ⟨e1, e2, e3⟩ := ih fun w hw => h w (List.mem_cons_of_mem _ hw)
    have e : itg (.int i :: vs) = i :: itg vs := by simp [itg, toI]
    rw [e]
    refine ⟨by rw [List.map_cons, List.map_cons, e1]; rfl, by simp [e2], fun j hj => ?_⟩
    rcases List.mem_cons.mp hj with rfl | hj
    · exact b
    · exact e3 j hj
theorem sum_bound : ∀ (is : List Int) (B : Int), 0 ≤ B → (∀ i ∈ is, -B ≤ i ∧ i ≤ B) → -(B * is.length) ≤ is.sum ∧ is.sum ≤ B * is.length
  | [], B, _, _ => by simp
  | i :: is, B, hB, h => by
    have ⟨h1, h2⟩ := h i List.mem_cons_self
    have ⟨h3, h4⟩ := sum_bound is B hB fun j hj => h j (List.mem_cons_of_mem _ hj)
    have e : B * ((i :: is).length : Int) = B * (is.length : Int) + B := by
      rw [List.length_cons]
      show B * ((is.length : Int) + 1) = _
      rw [Int.mul_add, Int.mul_one]
    rw [List.sum_cons, e]
    omega
theorem nums_int (is : List Int) : nums (is.map D.int) = some is := by
  induction is with
  | nil => rfl
  | cons i is ih => simp only [List.map_cons, nums, ih, Option.map_some]
theorem leaf_val (v : Val) : leaf v.d = some (leafV v) := by cases v <;> rfl
theorem cell_gs {c : List SV} (l : c.length ≤ 16777216) : (cellD c).gs 2 := gs_tup (fun v _ => sv_gs v) l
theorem cell_eqv (c c' : List SV) : D.eqv (cellD c) (cellD c') = decide (c = c') := by
  simp only [cellD, D.eqv]
  exact eqvs_map sv_eqv c c'
end Ss
namespace Pg
open PySem Ss L2
theorem values_of_sem {t : Tab} (ht : TabOk t) {x : Str} {b : Bool} (hx : kndOf t.cs x = some b) {ks : List Nat} (hk : ∀ k ∈ ks, k < t.rs.length) : F_values_of.sem [t.d, .str x, natsD ks] = ret (.lst ((vals t x ks).map Val.d)) := by
  refine runF_rt ?_
  have p := place_of_sem ht.cols (knd_strOk ht.cols hx)
  have i0 : idxD t.d (.int 0) = some (colsD t.cs) := rfl
  have i1 : idxD t.d (.int 1) = some (.lst (t.rs.map rowD)) := rfl
  simp [I_values_of, i0, p, natsD]
  rw [lcs_map (g := fun k => (atc t.cs (rowAt t.rs k) x).d) fun k hk' => ?_]
  · simp only [stp_ret]
    have e : (ks.map fun k => (atc t.cs (rowAt t.rs k) x).d) = (ks.map fun k => atc t.cs (rowAt t.rs k) x).map Val.d := by rw [List.map_map]; rfl
    rw [e]
    simp
    rw [← List.map_map] 
    rw [lcs_filter (p := fun v : Val => decide (v ≠ .non)) (g := Val.d) (xs := ks.map fun k => atc t.cs (rowAt t.rs k) x) fun v hv => ?_]
    · simp [vals]
    · simp only [cb]
      cases v <;> simp [Val.d]
  · have hl := hk k hk'
    have hr := ht.rows _ (List.getElem_mem hl)
    have a := at_col hr hx
    simp only [cb]
    simp [i1, natD, Ss.atI_nat, List.getElem?_eq_getElem hl, a, rowAt_eq hl]
theorem w_count (k : SK) : Cm.f .eq (.str k.w) (.str "count") = some false := by cases k <;> decide +kernel
theorem w_filled (k : SK) : Cm.f .eq (.str k.w) (.str "filled") = some (decide (k = .fil)) := by cases k <;> decide +kernel
theorem w_unlike (k : SK) : Cm.f .eq (.str k.w) (.str "unlike") = some (decide (k = .unl)) := by cases k <;> decide +kernel
theorem w_sum (k : SK) : Cm.f .eq (.str k.w) (.str "sum") = some (decide (k = .sum)) := by cases k <;> decide +kernel
theorem w_mean (k : SK) : Cm.f .eq (.str k.w) (.str "mean") = some (decide (k = .mea)) := by cases k <;> decide +kernel
theorem w_least (k : SK) : Cm.f .eq (.str k.w) (.str "least") = some (decide (k = .lea)) := by cases k <;> decide +kernel
theorem w_ends (k : SK) : inD (.str k.w) (.tup [.str "least", .str "greatest"]) = some (decide (k = .lea ∨ k = .gre)) := by cases k <;> decide +kernel
theorem sel_all (a b c : D) : selD ["of all", "of row", "of column"] [a, b, c] (.str (SK.ofA).w) = some a := rfl
theorem sel_row (a b c : D) : selD ["of all", "of row", "of column"] [a, b, c] (.str (SK.ofR).w) = some b := by
  have z : ¬ (Str.ofString "of all" = SK.w .ofR) := by decide +kernel
  simp only [selD, if_neg z]; rfl
theorem sel_col (a b c : D) : selD ["of all", "of row", "of column"] [a, b, c] (.str (SK.ofC).w) = some c := by
  have z : ¬ (Str.ofString "of all" = SK.w .ofC) := by decide +kernel
  have z2 : ¬ (Str.ofString "of row" = SK.w .ofC) := by decide +kernel
  simp only [selD, if_neg z, if_neg z2]; rfl
theorem path_nil : PathOk [] := fun _ z => nomatch z
theorem len_nats (ks : List Nat) : Bi.f .len [natsD ks] = some (.int ks.length) := by simp [natsD]
structure TsOk (t : Tab) (ts : List Tr) : Prop where
  path : ∀ x ∈ ts, PathOk x.2.1 ∧ PathOk x.2.2
  lt : ∀ x ∈ ts, x.1 < t.rs.length
  len : ts.length ≤ 24
theorem trs_tsok {t : Tab} (ht : TabOk t) {p : Plan} (hp : PlanOk t.cs p) : TsOk t (t.trs p) := ⟨trs_paths ht hp, trs_lt, trs_len ht p⟩
theorem sum_lim {t : Tab} (ht : TabOk t) {ts : List Tr} (ho : TsOk t ts) {x : Str} (hx : kndOf t.cs x = some false) (a b : Row) : (itg (vals t x (beh ts a b))).sum.natAbs < 1000000000 := by
  obtain ⟨e1, e2, e3⟩ := vals_num ht hx (beh_lt ho.lt (a := a) (b := b))
  have l1 := beh_len ts a b
  have l2 := vals_len t x (beh ts a b)
  have l3 := ho.len
  have ⟨s1, s2⟩ := sum_bound (itg (vals t x (beh ts a b))) 1000000 (by decide) e3
  rw [e2] at s1 s2
  omega
theorem one_sum_sem {t : Tab} (ht : TabOk t) {ts : List Tr} (ho : TsOk t ts) {s : Ss.Sum} (hs : SumOk t.cs s) {a b : Row} (ha : PathOk a) (hb : PathOk b) : F_one_sum.sem [t.d, .lst (ts.map Tr.d), s.d, rowD a, rowD b] = ret (oneS t ts s a b).d := by
  refine runF_rt ?_
  have m := members_sem ho.path ha hb
  cases s with
  | cnt =>
    have z := eq_ss (sOk "count") (sOk "count")
    simp [I_one_sum, m, Sum.d, z, len_nats, oneS, SV.d]
  | one k x =>
    obtain ⟨⟨c, kx⟩, kn⟩ := sum_knd hs
    have V := values_of_sem ht kx (beh_lt ho.lt (a := a) (b := b))
    have lb := beh_len ts a b
    have lv := vals_len t x (beh ts a b)
    have lt := ho.len
    have lN : ∀ {a b : Row}, (vals t x (beh ts a b)).length ≤ 24 := fun {a b} => by
      have := beh_len ts a b
      have := vals_len t x (beh ts a b)
      omega
    cases k with
    | fil => simp [I_one_sum, m, Sum.d, w_count, w_filled, V, oneS, SV.d]
    | unl =>
      have sN := setN_map (f := Val.d) (g := leafV) (xs := vals t x (beh ts a b)) (fun v _ => leaf_val v) (by omega)
      simp [I_one_sum, m, Sum.d, w_count, w_filled, w_unlike, V, sN, oneS, SV.d, unl]
    | sum =>
      have kx := kn rfl
      obtain ⟨e1, e2, e3⟩ := vals_num ht kx (beh_lt ho.lt (a := a) (b := b))
      have S : Bi.f .sum [.lst ((vals t x (beh ts a b)).map Val.d)] = some (.int (itg (vals t x (beh ts a b))).sum) := by
        rw [e1]; simp only [Bi.f, nums_int, Option.map_some]
      simp [I_one_sum, m, Sum.d, w_count, w_filled, w_unlike, w_sum, V, S, oneS, SV.d]
    | mea =>
      have kx := kn rfl
      obtain ⟨e1, e2, e3⟩ := vals_num ht kx (beh_lt ho.lt (a := a) (b := b))
      have S : Bi.f .sum [.lst ((vals t x (beh ts a b)).map Val.d)] = some (.int (itg (vals t x (beh ts a b))).sum) := by
        rw [e1]; simp only [Bi.f, nums_int, Option.map_some]
      have L := least_sem (itg (vals t x (beh ts a b))).sum (u := (vals t x (beh ts a b)).length) (by omega)
      simp [I_one_sum, m, Sum.d, w_count, w_filled, w_unlike, w_sum, w_mean, V, S, L, oneS]
    | lea =>
      have kx := kn rfl
      obtain ⟨e1, e2, e3⟩ := vals_num ht kx (beh_lt ho.lt (a := a) (b := b))
      rw [e1] at V
      simp only [oneS]
      generalize itg (vals t x (beh ts a b)) = is at *
      cases is with
      | nil => simp [I_one_sum, m, Sum.d, w_count, w_filled, w_unlike, w_sum, w_mean, w_ends, V, minL, ofNd, SV.d]
      | cons i is =>
        have S : Bi.f .min1 [.lst ((i :: is).map D.int)] = some (.int (is.foldl min i)) := by simp only [Bi.f, nums_int, Option.bind_some, minL, Option.map_some]
        simp only [List.map_cons] at S
        simp [I_one_sum, m, Sum.d, w_count, w_filled, w_unlike, w_sum, w_mean, w_ends, w_least, V, S, minL, ofNd, SV.d]
    | gre =>
      have kx := kn rfl
      obtain ⟨e1, e2, e3⟩ := vals_num ht kx (beh_lt ho.lt (a := a) (b := b))
      rw [e1] at V
      simp only [oneS]
      generalize itg (vals t x (beh ts a b)) = is at *
      cases is with
      | nil => simp [I_one_sum, m, Sum.d, w_count, w_filled, w_unlike, w_sum, w_mean, w_ends, V, maxL, ofNd, SV.d]
      | cons i is =>
        have S : Bi.f .max1 [.lst ((i :: is).map D.int)] = some (.int (is.foldl max i)) := by simp only [Bi.f, nums_int, Option.bind_some, maxL, Option.map_some]
        simp only [List.map_cons] at S
        simp [I_one_sum, m, Sum.d, w_count, w_filled, w_unlike, w_sum, w_mean, w_ends, w_least, V, S, maxL, ofNd, SV.d]
    | ofA =>
      have kx := kn rfl
      obtain ⟨e1, e2, e3⟩ := vals_num ht kx (beh_lt ho.lt (a := a) (b := b))
      obtain ⟨g1, g2, g3⟩ := vals_num ht kx (beh_lt ho.lt (a := []) (b := []))
      have S : Bi.f .sum [.lst ((vals t x (beh ts a b)).map Val.d)] = some (.int (itg (vals t x (beh ts a b))).sum) := by
        rw [e1]; simp only [Bi.f, nums_int, Option.map_some]
      have S2 : Bi.f .sum [.lst ((vals t x (beh ts [] [])).map Val.d)] = some (.int (itg (vals t x (beh ts [] []))).sum) := by
        rw [g1]; simp only [Bi.f, nums_int, Option.map_some]
      have m2 := members_sem ho.path (a := []) (b := []) path_nil path_nil
      have V2 := values_of_sem ht kx (beh_lt ho.lt (a := []) (b := []))
      have L := least_sem (itg (vals t x (beh ts a b))).sum (Nat.lt_trans (sum_lim ht ho kx [] []) (by decide))
      have m2 : F_members.sem [.lst (ts.map Tr.d), .tup [], .tup []] = _ := m2
      simp [I_one_sum, m, Sum.d, w_count, w_filled, w_unlike, w_sum, w_mean, w_ends, V, S, V2, S2, L, m2, sel_all, oneS]
    | ofR =>
      have kx := kn rfl
      obtain ⟨e1, e2, e3⟩ := vals_num ht kx (beh_lt ho.lt (a := a) (b := b))
      obtain ⟨g1, g2, g3⟩ := vals_num ht kx (beh_lt ho.lt (a := a) (b := []))
      have S : Bi.f .sum [.lst ((vals t x (beh ts a b)).map Val.d)] = some (.int (itg (vals t x (beh ts a b))).sum) := by
        rw [e1]; simp only [Bi.f, nums_int, Option.map_some]
      have S2 : Bi.f .sum [.lst ((vals t x (beh ts a [])).map Val.d)] = some (.int (itg (vals t x (beh ts a []))).sum) := by
        rw [g1]; simp only [Bi.f, nums_int, Option.map_some]
      have m2 := members_sem ho.path (a := a) (b := []) ha path_nil
      have V2 := values_of_sem ht kx (beh_lt ho.lt (a := a) (b := []))
      have L := least_sem (itg (vals t x (beh ts a b))).sum (Nat.lt_trans (sum_lim ht ho kx a []) (by decide))
      have m2 : F_members.sem [.lst (ts.map Tr.d), rowD a, .tup []] = _ := m2
      simp [I_one_sum, m, Sum.d, w_count, w_filled, w_unlike, w_sum, w_mean, w_ends, V, S, V2, S2, L, m2, sel_row, oneS]
    | ofC =>
      have kx := kn rfl
      obtain ⟨e1, e2, e3⟩ := vals_num ht kx (beh_lt ho.lt (a := a) (b := b))
      obtain ⟨g1, g2, g3⟩ := vals_num ht kx (beh_lt ho.lt (a := []) (b := b))
      have S : Bi.f .sum [.lst ((vals t x (beh ts a b)).map Val.d)] = some (.int (itg (vals t x (beh ts a b))).sum) := by
        rw [e1]; simp only [Bi.f, nums_int, Option.map_some]
      have S2 : Bi.f .sum [.lst ((vals t x (beh ts [] b)).map Val.d)] = some (.int (itg (vals t x (beh ts [] b))).sum) := by
        rw [g1]; simp only [Bi.f, nums_int, Option.map_some]
      have m2 := members_sem ho.path (a := []) (b := b) path_nil hb
      have V2 := values_of_sem ht kx (beh_lt ho.lt (a := []) (b := b))
      have L := least_sem (itg (vals t x (beh ts a b))).sum (Nat.lt_trans (sum_lim ht ho kx [] b) (by decide))
      have m2 : F_members.sem [.lst (ts.map Tr.d), .tup [], rowD b] = _ := m2
      simp [I_one_sum, m, Sum.d, w_count, w_filled, w_unlike, w_sum, w_mean, w_ends, V, S, V2, S2, L, m2, sel_col, oneS]
theorem cell_of_sem {t : Tab} (ht : TabOk t) {p : Plan} (hp : PlanOk t.cs p) {ts : List Tr} (ho : TsOk t ts) {a b : Row} (ha : PathOk a) (hb : PathOk b) : F_cell_of.sem [t.d, p.d, .lst (ts.map Tr.d), rowD a, rowD b] = ret (cellD (cellS t ts p.sm a b)) := by
  refine runF_rt ?_
  have i2 : idxD p.d (.int 2) = some (.tup (p.sm.map Sum.d)) := rfl
  simp [I_cell_of, i2]
  rw [lcs_map (g := fun s => (oneS t ts s a b).d) fun s hs => by
    have e := one_sum_sem ht ho (hp.sm s hs) ha hb
    simp [cb, e]]
  simp [cellD, cellS, Function.comp_def]
/-- all sums at a place -/
def _root_.Ss.Tab.cel (t : Tab) (p : Plan) (a b : Row) : List SV := cellS t (t.trs p) p.sm a b
theorem cell_sem {t : Tab} (ht : TabOk t) {p : Plan} (hp : PlanOk t.cs p) {a b : Row} (ha : a ∈ t.rws p) (hb : b ∈ t.cls p) : F_cell.sem [t.d, p.d, rowD a, rowD b] = ret (cellD (t.cel p a b)) := by
  refine runF_rt ?_
  have m := cell_of_sem ht hp (trs_tsok ht hp) (rws_ok ht hp a ha).1 (cls_ok ht hp b hb).1
  have c := counted_sem ht hp
  have e : (ctd t.cs t.rs p) = t.trs p := rfl
  rw [e] at c
  simp [I_cell, look_all_ok ht hp, look_place_ok ht hp ha hb, c, m, Tab.cel]
/-- a sheet -/
def _root_.Ss.Tab.sht (t : Tab) (p : Plan) : D := .tup [rowsD (t.rws p), rowsD (t.cls p), .lst ((t.rws p).map fun a => D.lst ((t.cls p).map fun b => cellD (t.cel p a b)))]
theorem sheet_of_sem {t : Tab} (ht : TabOk t) {p : Plan} (hp : PlanOk t.cs p) : F_sheet_of.sem [t.d, p.d] = ret (t.sht p) := by
  refine runF_rt ?_
  have c := counted_sem ht hp
  have e : (ctd t.cs t.rs p) = t.trs p := rfl
  rw [e] at c
  simp [I_sheet_of, sides_sem ht hp, c, rowsD]
  rw [lcs_map (g := fun a => D.lst ((t.cls p).map fun b => cellD (t.cel p a b))) fun a ha => ?_]
  · simp [Tab.sht, rowsD]
  · simp only [cb]
    simp
    rw [lcs_map (g := fun b => cellD (t.cel p a b)) fun b hb => ?_]
    · simp
    · have m := cell_of_sem ht hp (trs_tsok ht hp) (rws_ok ht hp a ha).1 (cls_ok ht hp b hb).1
      simp [cb, m, Tab.cel]
theorem sheet_sem {t : Tab} (ht : TabOk t) {p : Plan} (hp : PlanOk t.cs p) : F_sheet.sem [t.d, p.d] = ret (t.sht p) := by
  refine runF_rt ?_
  simp [I_sheet, look_all_ok ht hp, sheet_of_sem ht hp]
end Pg
/-! GN: sheets by rows, not by their numbers. -/
namespace Ss
open PySem L2
/-- the rows that count -/
def Tab.cr (t : Tab) (p : Plan) : List Row := t.rs.filter (cnts t.cs p.sf)
/-- the rows behind a place -/
def rb (cs : List Col) (rk ck : List Key) (rs : List Row) (a b : Row) : List Row := rs.filter fun r => beg (pth cs rk r) a && beg (pth cs ck r) b
def vR (cs : List Col) (x : Str) (rs : List Row) : List Val := (rs.map fun r => atc cs r x).filter fun v => decide (v ≠ .non)
def iR (cs : List Col) (x : Str) (rs : List Row) : List Int := itg (vR cs x rs)
def oneR (cs : List Col) (rk ck : List Key) (rs : List Row) (s : Sum) (a b : Row) : SV := match s with
  | .cnt => .int (rb cs rk ck rs a b).length
  | .one k x => match k with
    | .fil => .int (vR cs x (rb cs rk ck rs a b)).length
    | .unl => .int (unl (vR cs x (rb cs rk ck rs a b)))
    | .sum => .int (iR cs x (rb cs rk ck rs a b)).sum
    | .mea => leastV (iR cs x (rb cs rk ck rs a b)).sum (vR cs x (rb cs rk ck rs a b)).length
    | .lea => ofNd (minL (iR cs x (rb cs rk ck rs a b)))
    | .gre => ofNd (maxL (iR cs x (rb cs rk ck rs a b)))
    | .ofA => leastV (iR cs x (rb cs rk ck rs a b)).sum (iR cs x (rb cs rk ck rs [] [])).sum
    | .ofR => leastV (iR cs x (rb cs rk ck rs a b)).sum (iR cs x (rb cs rk ck rs a [])).sum
    | .ofC => leastV (iR cs x (rb cs rk ck rs a b)).sum (iR cs x (rb cs rk ck rs [] b)).sum
theorem filter_rowAt (rs : List Row) (P : Row → Bool) : ((List.range rs.length).filter fun k => P (rowAt rs k)).map (rowAt rs) = rs.filter P := by
  have h := List.filter_map (f := rowAt rs) (p := P) (l := List.range rs.length)
  rw [map_rowAt] at h
  rw [h]; rfl
theorem beh_rows (t : Tab) (p : Plan) (a b : Row) : (beh (t.trs p) a b).map (rowAt t.rs) = rb t.cs p.rk p.ck (t.cr p) a b := by
  unfold beh Tab.trs ctd rb Tab.cr
  rw [List.filter_map, List.map_map, List.map_map, List.filter_filter]
  have e := filter_rowAt t.rs fun r => (beg (pth t.cs p.rk r) a && beg (pth t.cs p.ck r) b) && cnts t.cs p.sf r
  rw [List.filter_filter, ← e]
  rfl
theorem trs_rows (t : Tab) (p : Plan) : (t.trs p).map (fun x => rowAt t.rs x.1) = t.cr p := by
  unfold Tab.trs ctd Tab.cr
  rw [List.map_map]
  exact filter_rowAt t.rs (cnts t.cs p.sf)
theorem rws_eq (t : Tab) (p : Plan) : t.rws p = hds ((t.cr p).map (pth t.cs p.rk)) p.rk.length := by
  unfold Tab.rws
  rw [← trs_rows, List.map_map]
  congr 1
  unfold Tab.trs ctd
  rw [List.map_map, List.map_map]; rfl
theorem cls_eq (t : Tab) (p : Plan) : t.cls p = hds ((t.cr p).map (pth t.cs p.ck)) p.ck.length := by
  unfold Tab.cls
  rw [← trs_rows, List.map_map]
  congr 1
  unfold Tab.trs ctd
  rw [List.map_map, List.map_map]; rfl
theorem vals_eq (t : Tab) (x : Str) (ks : List Nat) : vals t x ks = vR t.cs x (ks.map (rowAt t.rs)) := by
  unfold vals vR
  rw [List.map_map]; rfl
theorem oneS_eq (t : Tab) (p : Plan) (s : Sum) (a b : Row) : oneS t (t.trs p) s a b = oneR t.cs p.rk p.ck (t.cr p) s a b := by
  unfold oneS oneR iR
  simp only [vals_eq, beh_rows]
  have l : (beh (t.trs p) a b).length = (rb t.cs p.rk p.ck (t.cr p) a b).length := by rw [← beh_rows, List.length_map]
  rw [l]
  all_goals (cases s with
    | cnt => rfl
    | one k x => cases k <;> rfl)
theorem cel_eq (t : Tab) (p : Plan) (a b : Row) : t.cel p a b = p.sm.map fun s => oneR t.cs p.rk p.ck (t.cr p) s a b := by
  unfold Tab.cel cellS
  exact List.map_congr_left fun s _ => oneS_eq t p s a b
/-- sheets hang on these alone -/
theorem sht_congr {t u : Tab} {p q : Plan} (hc : t.cs = u.cs) (h1 : p.rk = q.rk) (h2 : p.ck = q.ck) (h3 : p.sm = q.sm) (h4 : t.cr p = u.cr q) : t.sht p = u.sht q := by
  have e1 : t.rws p = u.rws q := by rw [rws_eq, rws_eq, h4, hc, h1]
  have e2 : t.cls p = u.cls q := by rw [cls_eq, cls_eq, h4, hc, h2]
  have e3 : ∀ a b, t.cel p a b = u.cel q a b := fun a b => by rw [cel_eq, cel_eq, h4, hc, h1, h2, h3]
  unfold Tab.sht
  simp only [e1, e2, e3]
theorem sht_gs {t : Tab} (ht : TabOk t) {p : Plan} (hp : PlanOk t.cs p) : (t.sht p).gs 5 := gs_tupL (fun x hx => by
  simp only [List.mem_cons, List.not_mem_nil, or_false] at hx
  have l1 := rws_len ht hp
  have l2 := cls_len ht hp
  have l3 := hp.sl
  rcases hx with rfl | rfl | rfl
  · exact (gs_rws ht hp).mono (by omega)
  · exact (gs_cls ht hp).mono (by omega)
  · exact gs_lst (fun a _ => gs_lst (fun b _ => cell_gs (by simp [Tab.cel, cellS]; omega)) (by omega)) (by omega)) (by simp)
theorem heads_gs {t : Tab} (ht : TabOk t) {p : Plan} (hp : PlanOk t.cs p) : (D.tup [rowsD (t.rws p), rowsD (t.cls p)]).gs 3 := gs_tupL (fun x hx => by
  simp only [List.mem_cons, List.not_mem_nil, or_false] at hx
  rcases hx with rfl | rfl
  · exact gs_rws ht hp
  · exact gs_cls ht hp) (by simp)
theorem nil_rws {t : Tab} {p : Plan} : [] ∈ t.rws p := hds_mem.mpr (.inl rfl)
theorem nil_cls {t : Tab} {p : Plan} : [] ∈ t.cls p := hds_mem.mpr (.inl rfl)
theorem beg_nil (p : Row) : beg p [] = true := by simp [beg]
theorem rb_nil (cs : List Col) (rk ck : List Key) (rs : List Row) : rb cs rk ck rs [] [] = rs := by
  unfold rb
  exact List.filter_eq_self.mpr fun r _ => by simp [beg_nil]
/-- sifted tables -/
def Tab.str (t : Tab) (fs : List Sift) : Tab := ⟨t.cs, t.rs.filter (cnts t.cs fs)⟩
theorem str_ok {t : Tab} (h : TabOk t) (fs : List Sift) : TabOk (t.str fs) := ⟨h.cols, fun r hr => h.rows r (List.mem_filter.mp hr).1, by
  have := List.length_filter_le (cnts t.cs fs) t.rs
  have := h.len
  show (t.rs.filter (cnts t.cs fs)).length ≤ 24
  omega⟩
end Ss
namespace Pg
open PySem Ss L2
theorem strained_sem {t : Tab} (ht : TabOk t) {fs : List Sift} (hf : ∀ k ∈ fs, SiftOk t.cs k) (hl : fs.length ≤ 3) : F_strained.sem [t.d, siftsD fs] = ret (t.str fs).d := by
  refine runF_rt ?_
  have L := look_table_ok ht
  have A := all_sifts ht.cols (gs_sifts ht.cols hf (by omega)).gd
  have e := partOf_ok (em := Sift.d) (f := siftOf t.cs) hl hf
  have e : partOf (siftOf t.cs) 3 (siftsD fs) = some fs := e
  rw [e] at A
  have i0 : idxD t.d (.int 0) = some (colsD t.cs) := rfl
  have i1 : idxD t.d (.int 1) = some (.lst (t.rs.map rowD)) := rfl
  simp [I_strained, L, i0, A, i1]
  rw [lcs_filter (p := cnts t.cs fs) (g := rowD) fun r hr => ?_]
  · simp [Tab.str, Tab.d, tabD, rowsD]
  · have c := counts_sem ht.cols hf (ht.rows r hr)
    simp [cb, i0, c]
    cases cnts t.cs fs r <;> simp
theorem law_at_sem {cs : List Col} (h : ColsOk cs) {r : Row} (hr : RowOk cs r) {x : Str} {b : Bool} (hx : kndOf cs x = some b) : F__law_at.sem [colsD cs, rowD r, .str x] = ret (atc cs r x).d := by
  refine runF_rt ?_
  have l := hr.len
  have h6 := h.six
  have rn := rngD_nat r.length (by omega)
  have so := knd_strOk h hx
  simp [I__law_at, colsD, rowD, rn]
  rw [lcs_filter (p := fun k => decide ((cs[k]?).map Col.nm = some x)) (g := fun k => (r.getD k .non).d) fun k hk => ?_]
  · obtain ⟨k, e, hk, en, ew⟩ := knd_some hx
    have hd := List.head?_filter (p := fun k => decide ((cs[k]?).map Col.nm = some x)) (l := List.range cs.length)
    have e' : (List.range cs.length).find? (fun k => decide ((cs[k]?).map Col.nm = some x)) = some k := e
    rw [e'] at hd
    rw [l]
    cases q : (List.range cs.length).filter fun k => decide ((cs[k]?).map Col.nm = some x) with
    | nil => rw [q] at hd; cases hd
    | cons j js =>
      rw [q] at hd
      cases hd
      simp [atc, e]
  · have hk := List.mem_range.mp hk
    have hk2 : k < cs.length := by omega
    have z := eq_ss (isW_strOk (h.nms cs[k] (List.getElem_mem hk2))) so
    simp only [cb]
    simp [Ss.atI_nat, List.getElem?_eq_getElem hk2, List.getElem?_eq_getElem hk]
    simp [Col.d, z]
    split <;> rfl
theorem law_counts_sem {cs : List Col} (h : ColsOk cs) {fs : List Sift} (hf : ∀ k ∈ fs, SiftOk cs k) {r : Row} (hr : RowOk cs r) : F__law_counts.sem [colsD cs, siftsD fs, rowD r] = ret (.bl (cnts cs fs r)) := by
  refine runF_rt ?_
  simp [I__law_counts, siftsD]
  obtain ⟨t, e⟩ := forB_find (tg := .one 3) (body := B__law_counts_0)
    (em := Sift.d) (en := fun t : Sl × Sl => [.dat (colsD cs), .dat (.tup (fs.map Sift.d)), .dat (rowD r), t.1, t.2]) (p := fun s => if sift1 cs r s then none else some (.bl false)) (xs := fs) (t := (.emp, .emp)) fun t s hs => by
      have K := sift_knd (hf s hs)
      cases s with
      | eq b x v =>
        obtain ⟨c, K, wv, _⟩ := K
        have p := law_at_sem h hr K
        have q := eq_vv (atc_wf hr x) wv
        have q' : Cm.f .ne (atc cs r x).d v.d = some (!decide (atc cs r x = v)) := by
          rw [cm_ne (okE_of (val_pl (atc_wf hr x)) (by rw [val_dep]; omega)) (okE_of (val_pl wv) (by rw [val_dep]; omega)), val_eqv]
        have z1 : Cm.f .eq (.str (isS b)) (.str "not") = some (!b) := by cases b <;> decide +kernel
        refine ⟨(.dat (Sift.d (.eq b x v)), .dat (atc cs r x).d), ?_⟩
        have s1 : sift1 cs r (.eq b x v) = (decide (atc cs r x = v) == b) := rfl
        rw [s1]
        generalize decide (atc cs r x = v) = eb at *
        simp only [B__law_counts_0]
        cases b <;> cases eb <;> simp [Sift.d, p, isS_eq, isS_from, q, q', z1]
      | frm x lo hi =>
        obtain ⟨K, l1, l2⟩ := K
        have p := law_at_sem h hr K
        have z1 : Cm.f .eq (.str "from") (.str "is") = some false := by decide +kernel
        have z2 : Cm.f .eq (.str "from") (.str "not") = some false := by decide +kernel
        have z := eq_ss (sOk "from") (sOk "from")
        have e3 : ∀ a b c d : D, atI [a, b, c, d] 3 = some d := fun a b c d => Ss.atI_nat [a, b, c, d] 3
        refine ⟨(.dat (Sift.d (.frm x lo hi)), .dat (atc cs r x).d), ?_⟩
        simp only [B__law_counts_0]
        rcases atc_num hr K with e | ⟨i, e, _, _⟩
        · simp [Sift.d, p, e, z, z1, z2, sift1, Val.d]
        · by_cases q1 : lo ≤ i
          · have q1' : ¬ i < lo := by omega
            by_cases q2 : i ≤ hi
            · have q2' : ¬ hi < i := by omega
              simp [Sift.d, p, e, z, z1, z2, sift1, Val.d, e3, q1, q1', q2, q2']
            · have q2' : hi < i := by omega
              simp [Sift.d, p, e, z, z1, z2, sift1, Val.d, e3, q1, q1', q2, q2']
          · have q1' : i < lo := by omega
            simp [Sift.d, p, e, z, z1, z2, sift1, Val.d, e3, q1, q1']
  simp only at e
  rw [e, findSome_all]
  unfold cnts
  cases fs.all (sift1 cs r) <;> simp
end Pg
/-! GO: the rows behind a place are those right below it. -/
namespace Ss
open PySem L2
/-- the paths right behind one -/
def chl (ps : List Row) (a : Row) : List Row := ps.filter fun q => decide (q.length = a.length + 1) && beg q a
theorem chl_mem {ps : List Row} {a q : Row} : q ∈ chl ps a ↔ q ∈ ps ∧ q.length = a.length + 1 ∧ q.take a.length = a := by
  unfold chl beg
  rw [List.mem_filter]
  simp only [Bool.and_eq_true, decide_eq_true_eq]
theorem chl_nodup {ps : List Row} (h : ps.Nodup) (a : Row) : (chl ps a).Nodup := h.filter _
theorem chl_full {ps : List Row} {n : Nat} (h : ∀ q ∈ ps, q.length ≤ n) {a : Row} (ha : n ≤ a.length) : chl ps a = [] := by
  rw [List.eq_nil_iff_forall_not_mem]
  intro q hq
  obtain ⟨h1, h2, _⟩ := chl_mem.mp hq
  have := h q h1
  omega
/-- each thing behind just one of the keys -/
theorem split_perm {α κ : Type} [DecidableEq κ] (f : α → κ) : ∀ (C : List κ) (S : List α), C.Nodup → (∀ r ∈ S, f r ∈ C) → (C.flatMap fun c => S.filter fun r => decide (f r = c)).Perm S
  | [], S, _, h => by
    cases S with
    | nil => exact .refl _
    | cons s S => exact absurd (h s List.mem_cons_self) (by simp)
  | c :: C, S, nd, h => by
    rw [List.flatMap_cons]
    have nd' := List.nodup_cons.mp nd
    have e : (C.flatMap fun c' => S.filter fun r => decide (f r = c')) = C.flatMap fun c' => (S.filter fun r => !decide (f r = c)).filter fun r => decide (f r = c') := by
      have : ∀ c' ∈ C, (S.filter fun r => decide (f r = c')) = (S.filter fun r => !decide (f r = c)).filter fun r => decide (f r = c') := fun c' hc' => by
        rw [List.filter_filter]
        refine List.filter_congr fun r _ => ?_
        by_cases q : f r = c'
        · have ne : ¬ c' = c := fun z => nd'.1 (by rw [← z]; exact hc')
          simp [q, ne]
        · simp [q]
      simp only [List.flatMap_def]
      rw [List.map_congr_left this]
    rw [e]
    have ih := split_perm f C (S.filter fun r => !decide (f r = c)) nd'.2 fun r hr => by
      obtain ⟨h1, h2⟩ := List.mem_filter.mp hr
      rcases List.mem_cons.mp (h r h1) with z | z
      · simp [z] at h2
      · exact z
    exact (List.Perm.append_left _ ih).trans (List.filter_append_perm (fun r => decide (f r = c)) S)
theorem beg_trans {p q a : Row} (h : beg p q = true) (h' : beg q a = true) : beg p a = true := by
  unfold beg at *
  have h := of_decide_eq_true h
  have h' := of_decide_eq_true h'
  refine decide_eq_true ?_
  have l : a.length ≤ q.length := by
    have := congrArg List.length h'
    rw [List.length_take] at this; omega
  rw [← h, List.take_take, Nat.min_eq_left l] at h'
  exact h'
theorem part_perm {α : Type} (f : α → Row) {n : Nat} {R : List α} (hl : ∀ r ∈ R, (f r).length = n) {a : Row} (ha : a.length < n) {S : List α} (hS : ∀ r ∈ S, r ∈ R ∧ beg (f r) a = true) :
    ((chl (hds (R.map f) n) a).flatMap fun q => S.filter fun r => beg (f r) q).Perm S := by
  have e : ((chl (hds (R.map f) n) a).flatMap fun q => S.filter fun r => beg (f r) q) = (chl (hds (R.map f) n) a).flatMap fun q => S.filter fun r => decide ((f r).take (a.length + 1) = q) := by
    simp only [List.flatMap_def]
    congr 1
    refine List.map_congr_left fun q hq => List.filter_congr fun r _ => ?_
    have hq := (chl_mem.mp hq).2.1
    unfold beg
    rw [hq]
  rw [e]
  refine split_perm _ _ _ (chl_nodup (hds_nodup _ _) a) fun r hr => ?_
  obtain ⟨h1, h2⟩ := hS r hr
  have lr := hl r h1
  refine chl_mem.mpr ⟨hds_mem.mpr (.inr ⟨f r, List.mem_map.mpr ⟨r, h1, rfl⟩, a.length + 1, by omega, rfl⟩), by rw [List.length_take]; omega, ?_⟩
  rw [List.take_take, Nat.min_eq_left (by omega)]
  exact of_decide_eq_true h2
theorem rb_swap (cs : List Col) (rk ck : List Key) (rs : List Row) (a b : Row) : rb cs rk ck rs a b = rb cs ck rk rs b a := by
  unfold rb
  refine List.filter_congr fun r _ => Bool.and_comm _ _
theorem rb_child {cs : List Col} {rk ck : List Key} {rs : List Row} {a b q : Row} (hq : beg q a = true) : (rb cs rk ck rs a b).filter (fun r => beg (pth cs rk r) q) = rb cs rk ck rs q b := by
  unfold rb
  rw [List.filter_filter]
  refine List.filter_congr fun r _ => ?_
  cases e : beg (pth cs rk r) q with
  | false => simp
  | true => simp [beg_trans e hq]
/-- right below a row path -/
theorem rows_below {t : Tab} {p : Plan} {a : Row} (ha : a.length < p.rk.length) (b : Row) : ((chl (t.rws p) a).flatMap fun q => rb t.cs p.rk p.ck (t.cr p) q b).Perm (rb t.cs p.rk p.ck (t.cr p) a b) := by
  have h := part_perm (pth t.cs p.rk) (n := p.rk.length) (R := t.cr p) (fun r _ => by simp [pth]) ha (S := rb t.cs p.rk p.ck (t.cr p) a b) fun r hr => by
    obtain ⟨h1, h2⟩ := List.mem_filter.mp hr
    simp only [Bool.and_eq_true] at h2
    exact ⟨h1, h2.1⟩
  rw [← rws_eq] at h
  have e : ((chl (t.rws p) a).flatMap fun q => (rb t.cs p.rk p.ck (t.cr p) a b).filter fun r => beg (pth t.cs p.rk r) q) = (chl (t.rws p) a).flatMap fun q => rb t.cs p.rk p.ck (t.cr p) q b := by
    simp only [List.flatMap_def]
    congr 1
    refine List.map_congr_left fun q hq => rb_child ?_
    exact decide_eq_true (chl_mem.mp hq).2.2
  rw [e] at h
  exact h
theorem cols_below {t : Tab} {p : Plan} {b : Row} (hb : b.length < p.ck.length) (a : Row) : ((chl (t.cls p) b).flatMap fun q => rb t.cs p.rk p.ck (t.cr p) a q).Perm (rb t.cs p.rk p.ck (t.cr p) a b) := by
  have h := part_perm (pth t.cs p.ck) (n := p.ck.length) (R := t.cr p) (fun r _ => by simp [pth]) hb (S := rb t.cs p.rk p.ck (t.cr p) a b) fun r hr => by
    obtain ⟨h1, h2⟩ := List.mem_filter.mp hr
    simp only [Bool.and_eq_true] at h2
    exact ⟨h1, h2.2⟩
  rw [← cls_eq] at h
  have e : ((chl (t.cls p) b).flatMap fun q => (rb t.cs p.rk p.ck (t.cr p) a b).filter fun r => beg (pth t.cs p.ck r) q) = (chl (t.cls p) b).flatMap fun q => rb t.cs p.rk p.ck (t.cr p) a q := by
    simp only [List.flatMap_def]
    congr 1
    refine List.map_congr_left fun q hq => ?_
    rw [rb_swap, rb_child (decide_eq_true (chl_mem.mp hq).2.2), rb_swap]
  rw [e] at h
  exact h
/-! ### what parts come to -/
theorem vR_perm {cs : List Col} {x : Str} {rs ss : List Row} (h : rs.Perm ss) : (vR cs x rs).Perm (vR cs x ss) := (h.map _).filter _
theorem iR_perm {cs : List Col} {x : Str} {rs ss : List Row} (h : rs.Perm ss) : (iR cs x rs).Perm (iR cs x ss) := (vR_perm h).filterMap _
theorem vR_flat {α : Type} (cs : List Col) (x : Str) (f : α → List Row) (xs : List α) : vR cs x (xs.flatMap f) = xs.flatMap fun a => vR cs x (f a) := by
  induction xs with
  | nil => rfl
  | cons a xs ih =>
    rw [List.flatMap_cons, List.flatMap_cons, ← ih]
    unfold vR
    rw [List.map_append, List.filter_append]
theorem iR_flat {α : Type} (cs : List Col) (x : Str) (f : α → List Row) (xs : List α) : iR cs x (xs.flatMap f) = xs.flatMap fun a => iR cs x (f a) := by
  unfold iR
  rw [vR_flat]
  unfold itg
  induction xs with
  | nil => rfl
  | cons a xs ih => rw [List.flatMap_cons, List.flatMap_cons, List.filterMap_append, ih]
theorem sum_flat {α : Type} (f : α → List Int) (xs : List α) : (xs.flatMap f).sum = (xs.map fun a => (f a).sum).sum := by
  induction xs with
  | nil => rfl
  | cons a xs ih => rw [List.flatMap_cons, List.sum_append, ih, List.map_cons, List.sum_cons]
theorem perm_sum {xs ys : List Int} (h : xs.Perm ys) : xs.sum = ys.sum := by
  induction h with
  | nil => rfl
  | cons x _ ih => rw [List.sum_cons, List.sum_cons, ih]
  | swap x y l => simp only [List.sum_cons]; omega
  | trans _ _ h1 h2 => rw [h1, h2]
theorem len_flat {α β : Type} (f : α → List β) (xs : List α) : ((xs.flatMap f).length : Int) = (xs.map fun a => ((f a).length : Int)).sum := by
  induction xs with
  | nil => rfl
  | cons a xs ih =>
    rw [List.flatMap_cons, List.length_append, List.map_cons, List.sum_cons, ← ih]; omega
end Ss
/-! GP: fractions held against one another; what grows. -/
namespace Ss
open PySem L2
/-- a number or None | a fraction or None, within bounds -/
def SV.ok (fr : Bool) : SV → Prop
  | .non => True
  | .int _ => fr = false
  | .fr a b => fr = true ∧ a.natAbs < 1000000000 ∧ b.natAbs < 1000000000 ∧ 0 < b
def Sum.fr : Sum → Bool
  | .one .mea _ => true
  | .one .ofA _ => true
  | .one .ofR _ => true
  | .one .ofC _ => true
  | _ => false
theorem ediv_natAbs_le (a : Int) {g : Int} (hg : 0 < g) : (a / g).natAbs ≤ a.natAbs := by
  have := Int.natAbs_ediv_le_natAbs a g
  exact this
theorem leastV_ok {t u : Int} (ht : t.natAbs < 1000000000) (hu : u.natAbs < 1000000000) : (leastV t u).ok true := by
  unfold leastV
  by_cases z : u = 0
  · rw [if_pos z]; trivial
  · rw [if_neg z]
    have gp : 0 < (Int.gcd t u : Int) := by have := Int.gcd_pos_of_ne_zero_right t z; omega
    have dv : (Int.gcd t u : Int) ∣ u := Int.gcd_dvd_right t u
    by_cases hn : u < 0
    · rw [if_pos hn]
      have h1 := ediv_natAbs_le (-t) gp
      have h2 := ediv_natAbs_le (-u) gp
      have h3 : 0 < (-u) / (Int.gcd t u : Int) := Int.ediv_pos_of_pos_of_dvd (by omega) (by omega) (Int.dvd_neg.mpr dv)
      exact ⟨rfl, by omega, by omega, h3⟩
    · rw [if_neg hn]
      have h1 := ediv_natAbs_le t gp
      have h2 := ediv_natAbs_le u gp
      have h3 : 0 < u / (Int.gcd t u : Int) := Int.ediv_pos_of_pos_of_dvd (by omega) (by omega) dv
      exact ⟨rfl, by omega, by omega, h3⟩
/-- how much more -/
def moreV : SV → SV → SV
  | .int i, .int j => .int (j - i)
  | .fr a b, .fr c d => leastV (c * b - a * d) (d * b)
  | _, _ => .non
/-- along a row of paths -/
def growL {α : Type} (f : α → SV) : SV → List α → List (α × SV)
  | _, [] => []
  | v, c :: cs => (c, moreV v (f c)) :: growL f (f c) cs
def rsD (x : Row × SV) : D := .tup [rowD x.1, x.2.d]
end Ss
namespace Pg
open PySem Ss L2
theorem oneS_ok {t : Tab} (ht : TabOk t) {ts : List Tr} (ho : TsOk t ts) {s : Ss.Sum} (hs : SumOk t.cs s) (a b : Row) : (oneS t ts s a b).ok s.fr := by
  cases s with
  | cnt => rfl
  | one k x =>
    have lb := beh_len ts a b
    have lv := vals_len t x (beh ts a b)
    have lt := ho.len
    obtain ⟨_, kn⟩ := sum_knd hs
    cases k with
    | fil => rfl
    | unl => rfl
    | sum => rfl
    | lea =>
      simp only [oneS]
      cases minL (itg (vals t x (beh ts a b))) <;> simp [ofNd, SV.ok, Sum.fr]
    | gre =>
      simp only [oneS]
      cases maxL (itg (vals t x (beh ts a b))) <;> simp [ofNd, SV.ok, Sum.fr]
    | mea => exact leastV_ok (sum_lim ht ho (kn rfl) a b) (by omega)
    | ofA => exact leastV_ok (sum_lim ht ho (kn rfl) a b) (sum_lim ht ho (kn rfl) [] [])
    | ofR => exact leastV_ok (sum_lim ht ho (kn rfl) a b) (sum_lim ht ho (kn rfl) a [])
    | ofC => exact leastV_ok (sum_lim ht ho (kn rfl) a b) (sum_lim ht ho (kn rfl) [] b)
theorem w64_of {i : Int} (h : i.natAbs < 1000000000) : w64 i = true := by
  simp only [w64, Bool.and_eq_true, decide_eq_true_eq]; omega
theorem mul_lim {a b : Int} (ha : a.natAbs < 1000000000) (hb : b.natAbs < 1000000000) : (a * b).natAbs < 1000000000000000000 := by
  rw [Int.natAbs_mul]
  exact Nat.lt_of_le_of_lt (Nat.mul_le_mul (Nat.le_of_lt ha) (Nat.le_of_lt_succ (by omega : b.natAbs < 999999999 + 1))) (by omega)
theorem more_than_sem {fr : Bool} {v w : SV} (hv : v.ok fr) (hw : w.ok fr) : F_more_than.sem [v.d, w.d] = ret (moreV v w).d := by
  refine runF_rt ?_
  cases v with
  | non => simp [I_more_than, SV.d, moreV]
  | int i =>
    cases w with
    | non => simp [I_more_than, SV.d, moreV]
    | int j => simp [I_more_than, SV.d, moreV]
    | fr c d => exact absurd (hw.1.symm.trans hv) (by decide)
  | fr a b =>
    cases w with
    | non => simp [I_more_than, SV.d, moreV]
    | int j => exact absurd (hv.1.symm.trans hw) (by decide)
    | fr c d =>
      obtain ⟨_, a1, b1, _⟩ := hv
      obtain ⟨_, c1, d1, _⟩ := hw
      have m1 := op_mulL (i := c) (j := b) (w64_of c1)
      have m2 := op_mulL (i := a) (j := d) (w64_of a1)
      have m3 := op_mulL (i := d) (j := b) (w64_of d1)
      have l := mul_lim d1 b1
      have L := least_sem (c * b - a * d) (u := d * b) (by omega)
      simp only [moreV]
      generalize leastV (c * b - a * d) (d * b) = z at *
      simp only [SV.d]
      simp [I_more_than, m1, m2, m3]
      rw [L]
      simp
      rfl
theorem law_div_loop : ∀ (n : Nat) (x y z : D) (a b : Int) (m : Nat), 0 ≤ b → 0 ≤ a → b.toNat ≤ n → n < m → ∃ g : Int, g = Int.gcd a b ∧ whls (fun ρ => truM (ev (.cmp .gt (.var 4) (.lit (.int 0))) ρ)) (fun ρ => exs B__law_least_0 ρ) m [.dat x, .dat y, .emp, .dat (.int a), .dat (.int b)] = ret (.nx [.dat x, .dat y, .emp, .dat (.int g), .dat (.int 0)])
  | n, x, y, z, a, b, 0, _, _, _, h => by omega
  | n, x, y, z, a, b, m + 1, h0, ha, hn, hm => by
    by_cases hb : b = 0
    · subst hb
      exact ⟨a, by simp; omega, whls_no (by simp)⟩
    · have hp : 0 < b := by omega
      have r0 := Int.emod_nonneg a hb
      have r1 := Int.emod_lt_of_pos a hp
      have e : whls (fun ρ => truM (ev (.cmp .gt (.var 4) (.lit (.int 0))) ρ)) (fun ρ => exs B__law_least_0 ρ) (m + 1) [.dat x, .dat y, .emp, .dat (.int a), .dat (.int b)] = whls (fun ρ => truM (ev (.cmp .gt (.var 4) (.lit (.int 0))) ρ)) (fun ρ => exs B__law_least_0 ρ) m [.dat x, .dat y, .emp, .dat (.int b), .dat (.int (a % b))] := whls_go (by simp [hp]) (by simp [B__law_least_0, op_modP hp])
      rw [e, ← gcd_step a b hp]
      match n, hn, hm with
      | 0, hn, _ => omega
      | n + 1, hn, hm => exact law_div_loop n x y z b (a % b) m r0 (by omega) (by omega) (by omega)
theorem fdiv_neg_dvd {a g : Int} (hg : 0 < g) (h : g ∣ a) : a.fdiv (-g) = (-a) / g := by
  obtain ⟨k, rfl⟩ := h
  rw [← Int.mul_neg, Int.mul_ediv_cancel_left _ (by omega)]
  have e : g * k = (-g) * (-k) := by rw [Int.neg_mul_neg]
  rw [e, Int.mul_fdiv_cancel_left _ (by omega)]
theorem law_least_sem (t : Int) {u : Int} (h1 : u.natAbs < 10000000000000000000) : F__law_least.sem [.int t, .int u] = ret (leastV t u).d := by
  refine runF_rt ?_
  by_cases z : u = 0
  · subst z
    simp [I__law_least, leastV, SV.d]
  · have gp : 0 < Int.gcd t u := Int.gcd_pos_of_ne_zero_right t z
    have gl : Int.gcd t u ≤ u.natAbs := Nat.le_of_dvd (by omega) (Int.gcd_dvd_natAbs_right t u)
    have dt : (Int.gcd t u : Int) ∣ t := Int.gcd_dvd_left t u
    have du : (Int.gcd t u : Int) ∣ u := Int.gcd_dvd_right t u
    obtain ⟨g, eg, W⟩ := law_div_loop u.natAbs (.int t) (.int u) .non (if t < 0 then -t else t) (if u < 0 then -u else u) 10000000000000000000000000000000000000000 (by split <;> omega) (by split <;> omega) (by split <;> omega) (by omega)
    have ea : Int.gcd (if t < 0 then -t else t) (if u < 0 then -u else u) = Int.gcd t u := by
      split <;> split <;> simp [Int.gcd_neg, Int.neg_gcd]
    rw [ea] at eg
    subst eg
    have I : I__law_least = [.ifs (.cmp .eq (.var 1) (.lit (.int 0))) [.ret (.lit (.non))] [], .par 3 4 (.bi .abs [(.var 0)]) (.bi .abs [(.var 1)])] ++ (.whl 10000000000000000000000000000000000000000 (.cmp .gt (.var 4) (.lit (.int 0))) B__law_least_0 :: [.set (.one 2) (.ite (.cmp .gt (.var 1) (.lit (.int 0))) (.var 3) (.op .sub (.lit (.int 0)) (.var 3))),
  .ret (.tup [(.op .fdiv (.var 0) (.var 2)), (.op .fdiv (.var 1) (.var 2))])]) := rfl
    rw [I]
    generalize hR : ([.set (.one 2) (.ite (.cmp .gt (.var 1) (.lit (.int 0))) (.var 3) (.op .sub (.lit (.int 0)) (.var 3))),
  .ret (.tup [(.op .fdiv (.var 0) (.var 2)), (.op .fdiv (.var 1) (.var 2))])] : List Stm) = R
    simp only [List.cons_append, List.nil_append]
    rw [exs_step (ρ' := [.dat (.int t), .dat (.int u), .emp, .emp, .emp]) (by simp [z])]
    rw [exs_step (ρ' := [.dat (.int t), .dat (.int u), .emp, .dat (.int (if t < 0 then -t else t)), .dat (.int (if u < 0 then -u else u))]) (by simp)]
    rw [exs_step (ρ' := [.dat (.int t), .dat (.int u), .emp, .dat (.int (Int.gcd t u)), .dat (.int 0)]) (by rw [ex_whl]; exact W)]
    subst hR
    by_cases hn : u < 0
    · have hn' : ¬ (0 < u) := by omega
      have f1 := op_fdivM (i := t) (j := -(Int.gcd t u : Int)) (by omega) (by omega)
      have f2 := op_fdivM (i := u) (j := -(Int.gcd t u : Int)) (by omega) (by omega)
      rw [fdiv_neg_dvd (by omega) dt] at f1
      rw [fdiv_neg_dvd (by omega) du] at f2
      simp [hn', f1, f2, leastV, z, hn, SV.d]
    · have hn' : 0 < u := by omega
      have f1 := op_fdivP (i := t) (j := (Int.gcd t u : Int)) (by omega) (by omega)
      have f2 := op_fdivP (i := u) (j := (Int.gcd t u : Int)) (by omega) (by omega)
      simp [hn', f1, f2, leastV, z, hn, SV.d]
theorem look_sum_ok {p : Plan} {k : Nat} (hk : k < p.sm.length) : F_look_sum.sem [p.d, natD k] = ret .non := by
  refine runF_nx (ρ := [.dat p.d, .dat (natD k)]) ?_
  have i2 : idxD p.d (.int 2) = some (.tup (p.sm.map Sum.d)) := rfl
  have w := is_whole_sem (d := natD k) (gd_int _) 0 ((p.sm.length : Int) - 1)
  have e : wholeD 0 ((p.sm.length : Int) - 1) (natD k) = true := by
    simp only [natD, wholeD, Bool.and_eq_true, decide_eq_true_eq]; omega
  rw [e] at w
  simp [I_look_sum, i2, w]
theorem sum_at {p : Plan} {k : Nat} (hk : k < p.sm.length) : idxD (.tup (p.sm.map Sum.d)) (natD k) = some (p.sm[k]).d := by
  simp only [natD, idx_tup, Ss.atI_nat, List.getElem?_map, List.getElem?_eq_getElem hk, Option.map_some]
theorem in_rws {t : Tab} (ht : TabOk t) {p : Plan} (hp : PlanOk t.cs p) {a : Row} (ha : a ∈ t.rws p) : inD (rowD a) (rowsD (t.rws p)) = some true := by
  rw [in_paths (gs_path (rws_ok ht hp a ha).1 (by have := (rws_ok ht hp a ha).2; have := hp.rl; omega)).okE (gs_rws ht hp).okE, inP_row, decide_eq_true ha]
theorem growL_len {α : Type} (f : α → SV) : ∀ (v : SV) (cs : List α), (growL f v cs).length = cs.length
  | _, [] => rfl
  | v, c :: cs => by simp only [growL, List.length_cons, growL_len f (f c) cs]
theorem grown_loop {t : Tab} (ht : TabOk t) {p : Plan} (hp : PlanOk t.cs p) {a : Row} (ha : PathOk a) {k : Nat} (hk : k < p.sm.length) (rc : D) : ∀ (cs : List Row) (s : List D) (v : SV) (c7 c10 : Sl), (∀ c ∈ cs, PathOk c) → v.ok (p.sm[k]).fr → s.length + cs.length ≤ 1000 →
    ∃ v' c7' c10', forB (.one 7) B_grown_0 (cs.map rowD) [.dat t.d, .dat p.d, .dat (rowD a), .dat (natD k), .dat (.lst ((t.trs p).map Tr.d)), .own s, .dat v.d, c7, .dat rc, .dat (rowsD (t.cls p)), c10] =
      ret (.nx [.dat t.d, .dat p.d, .dat (rowD a), .dat (natD k), .dat (.lst ((t.trs p).map Tr.d)), .own (s ++ (growL (fun c => oneS t (t.trs p) p.sm[k] a c) v (cs.filter fun c => decide (c.length = p.ck.length))).map rsD), .dat v', c7', .dat rc, .dat (rowsD (t.cls p)), c10'])
  | [], s, v, c7, c10, _, _, _ => ⟨v.d, c7, c10, by simp [forB_nil, growL]⟩
  | c :: cs, s, v, c7, c10, hc, hv, hl => by
    have i1 : idxD p.d (.int 1) = some (.tup (p.ck.map Key.d)) := rfl
    have i2 : idxD p.d (.int 2) = some (.tup (p.sm.map Sum.d)) := rfl
    have ln : Bi.f .len [rowD c] = some (.int c.length) := by simp [rowD]
    have oc := hc c List.mem_cons_self
    have ho := trs_tsok ht hp
    have O := one_sum_sem ht ho (hp.sm _ (List.getElem_mem hk)) ha oc
    have ok := oneS_ok ht ho (hp.sm _ (List.getElem_mem hk)) a c
    have m := more_than_sem hv ok
    simp only [List.length_cons] at hl
    rw [List.map_cons, forB_cons]
    by_cases e : c.length = p.ck.length
    · have hs : s.length < 16777216 := by omega
      obtain ⟨v', c7', c10', ih⟩ := grown_loop ht hp ha hk rc cs (s ++ [rsD (c, moreV v (oneS t (t.trs p) p.sm[k] a c))]) (oneS t (t.trs p) p.sm[k] a c) (.dat (rowD c)) (.dat (oneS t (t.trs p) p.sm[k] a c).d) (fun x hx => hc x (List.mem_cons_of_mem _ hx)) ok (by simp; omega)
      refine ⟨v', c7', c10', ?_⟩
      rw [List.filter_cons_of_pos (by simp [e])]
      simp only [growL, List.map_cons]
      rw [List.append_assoc, List.singleton_append] at ih
      rw [← ih]
      have e' : (c.length : Int) = (p.ck.length : Int) := by omega
      simp [B_grown_0, ln, i1, e', i2, sum_at hk, O, m, hs, rsD]
    · obtain ⟨v', c7', c10', ih⟩ := grown_loop ht hp ha hk rc cs s v (.dat (rowD c)) c10 (fun x hx => hc x (List.mem_cons_of_mem _ hx)) hv (by omega)
      refine ⟨v', c7', c10', ?_⟩
      rw [List.filter_cons_of_neg (by simp [e])]
      rw [← ih]
      have e' : ¬ ((c.length : Int) = (p.ck.length : Int)) := by omega
      simp [B_grown_0, ln, i1, e']
/-- the full column paths -/
def _root_.Ss.Tab.fcl (t : Tab) (p : Plan) : List Row := (t.cls p).filter fun c => decide (c.length = p.ck.length)
theorem grown_sem {t : Tab} (ht : TabOk t) {p : Plan} (hp : PlanOk t.cs p) {a : Row} (ha : a ∈ t.rws p) {k : Nat} (hk : k < p.sm.length) : F_grown.sem [t.d, p.d, rowD a, natD k] = ret (.lst ((growL (fun c => oneS t (t.trs p) p.sm[k] a c) .non (t.fcl p)).map rsD)) := by
  refine runF_rt ?_
  have c := counted_sem ht hp
  have e : (ctd t.cs t.rs p) = t.trs p := rfl
  rw [e] at c
  have lc := cls_len ht hp
  obtain ⟨v', c7', c10', L⟩ := grown_loop ht hp (rws_ok ht hp a ha).1 hk (rowsD (t.rws p)) (t.cls p) [] .non .emp .emp (fun x hx => (cls_ok ht hp x hx).1) trivial (by simp; omega)
  simp only [List.nil_append] at L
  have L : forB (.one 7) B_grown_0 ((t.cls p).map rowD) [.dat t.d, .dat p.d, .dat (rowD a), .dat (natD k), .dat (.lst ((t.trs p).map Tr.d)), .own [], .dat .non, .emp, .dat (rowsD (t.rws p)), .dat (rowsD (t.cls p)), .emp] = _ := L
  simp [I_grown, look_all_ok ht hp, sides_sem ht hp, in_rws ht hp ha, look_sum_ok hk, c]
  have it : items (rowsD (t.cls p)) = some ((t.cls p).map rowD) := rfl
  rw [it]
  simp only [lft_some, stp_ret]
  rw [L]
  simp [Tab.fcl]
end Pg
/-! GQ: least, greatest and unlike over parts. -/
namespace Ss
open PySem L2
theorem nodup_len {α : Type} [DecidableEq α] : ∀ (ys zs : List α), ys.Nodup → (∀ y ∈ ys, y ∈ zs) → ys.length ≤ zs.length
  | [], _, _, _ => Nat.zero_le _
  | y :: ys, zs, n, h => by
    have hn := List.nodup_cons.mp n
    have hy := h y List.mem_cons_self
    have ih := nodup_len ys (zs.erase y) hn.2 fun x hx => (List.mem_erase_of_ne (by intro e; subst e; exact hn.1 hx)).mpr (h x (List.mem_cons_of_mem _ hx))
    have l := List.length_erase_of_mem hy
    have : 0 < zs.length := List.length_pos_of_mem hy
    simp only [List.length_cons]; omega
theorem dcn_spec (xs : List Leaf) : ∀ i, i ≤ xs.length → ∃ ys : List Leaf, ys.Nodup ∧ (∀ z, z ∈ ys ↔ z ∈ xs.take i) ∧ ys.length = dcn xs i
  | 0, _ => ⟨[], List.nodup_nil, fun z => by simp, rfl⟩
  | i + 1, h => by
    obtain ⟨ys, n, m, l⟩ := dcn_spec xs i (by omega)
    have hi : i < xs.length := by omega
    have tk : xs.take (i + 1) = xs.take i ++ [xs[i]] := by rw [List.take_succ, List.getElem?_eq_getElem hi]; rfl
    have gd : xs.getD i .none = xs[i] := by rw [List.getD_eq_getElem?_getD, List.getElem?_eq_getElem hi]; rfl
    simp only [dcn, gd]
    by_cases q : xs[i] ∈ xs.take i
    · have e : ((xs.take i).any fun z => decide (z = xs[i])) = true := List.any_eq_true.mpr ⟨_, q, by simp⟩
      rw [if_pos e]
      refine ⟨ys, n, fun z => ?_, l⟩
      rw [m, tk, List.mem_append, List.mem_singleton]
      exact ⟨.inl, fun w => w.elim id fun e => e ▸ q⟩
    · have e : ((xs.take i).any fun z => decide (z = xs[i])) = false := by
        rw [List.any_eq_false]
        intro z hz
        have : z ≠ xs[i] := fun e => q (e ▸ hz)
        simp [this]
      rw [e, if_neg (by decide)]
      refine ⟨xs[i] :: ys, List.nodup_cons.mpr ⟨fun w => q ((m _).mp w), n⟩, fun z => ?_, by rw [List.length_cons, l]⟩
      rw [tk, List.mem_append, List.mem_singleton, List.mem_cons, m]
      exact ⟨fun w => w.elim .inr .inl, fun w => w.elim .inr .inl⟩
theorem unl_spec (vs : List Val) : ∃ ys : List Leaf, ys.Nodup ∧ (∀ z, z ∈ ys ↔ z ∈ vs.map leafV) ∧ (ys.length : Int) = unl vs := by
  obtain ⟨ys, n, m, l⟩ := dcn_spec (vs.map leafV) vs.length (by simp)
  rw [List.take_of_length_le (by simp)] at m
  exact ⟨ys, n, m, by rw [l]; rfl⟩
theorem unl_mono {us vs : List Val} (h : ∀ v ∈ us, v ∈ vs) : unl us ≤ unl vs := by
  obtain ⟨ys, n, m, l⟩ := unl_spec us
  obtain ⟨zs, n', m', l'⟩ := unl_spec vs
  have := nodup_len ys zs n fun z hz => by
    obtain ⟨v, hv, e⟩ := List.mem_map.mp ((m z).mp hz)
    exact (m' z).mpr (List.mem_map.mpr ⟨v, h v hv, e⟩)
  omega
theorem unl_len (vs : List Val) : unl vs ≤ vs.length := by
  obtain ⟨ys, n, m, l⟩ := unl_spec vs
  have := nodup_len ys (vs.map leafV) n fun z hz => (m z).mp hz
  rw [List.length_map] at this
  omega
theorem unl_nn (vs : List Val) : 0 ≤ unl vs := by
  unfold unl; omega
theorem unl_app (us vs : List Val) : unl (us ++ vs) ≤ unl us + unl vs := by
  obtain ⟨ys, n, m, l⟩ := unl_spec us
  obtain ⟨zs, n', m', l'⟩ := unl_spec vs
  obtain ⟨ws, n2, m2, l2⟩ := unl_spec (us ++ vs)
  have := nodup_len ws (ys ++ zs) n2 fun z hz => by
    have := (m2 z).mp hz
    rw [List.map_append, List.mem_append] at this
    exact List.mem_append.mpr (this.imp (m z).mpr (m' z).mpr)
  rw [List.length_append] at this
  omega
theorem unl_nil : unl [] = 0 := rfl
theorem unl_flat {α : Type} (f : α → List Val) : ∀ xs : List α, unl (xs.flatMap f) ≤ (xs.map fun a => unl (f a)).sum
  | [] => by simp [unl_nil]
  | x :: xs => by
    have a := unl_app (f x) (xs.flatMap f)
    have b := unl_flat f xs
    simp only [List.flatMap_cons, List.map_cons, List.sum_cons]
    omega
theorem minL_some {xs : List Int} {m : Int} : minL xs = some m ↔ m ∈ xs ∧ ∀ y ∈ xs, m ≤ y := by
  cases xs with
  | nil => simp [minL]
  | cons x xs =>
    obtain ⟨h1, h2, h3⟩ := foldl_min xs x
    constructor
    · intro e
      cases e
      refine ⟨?_, fun y hy => ?_⟩
      · rcases h3 with h3 | h3
        · rw [h3]; exact List.mem_cons_self
        · exact List.mem_cons_of_mem _ h3
      · rcases List.mem_cons.mp hy with rfl | hy
        · exact h1
        · exact h2 y hy
    · rintro ⟨hm, ha⟩
      rw [minL_eq (ns := x :: xs) (k := xs.foldl min x) rfl hm ha]; rfl
theorem maxL_some {xs : List Int} {m : Int} : maxL xs = some m ↔ m ∈ xs ∧ ∀ y ∈ xs, y ≤ m := by
  cases xs with
  | nil => simp [maxL]
  | cons x xs =>
    obtain ⟨h1, h2, h3⟩ := foldl_max xs x
    constructor
    · intro e
      cases e
      refine ⟨?_, fun y hy => ?_⟩
      · rcases h3 with h3 | h3
        · rw [h3]; exact List.mem_cons_self
        · exact List.mem_cons_of_mem _ h3
      · rcases List.mem_cons.mp hy with rfl | hy
        · exact h1
        · exact h2 y hy
    · rintro ⟨hm, ha⟩
      rw [maxL_eq (ns := x :: xs) (k := xs.foldl max x) rfl hm ha]; rfl
theorem minL_none {xs : List Int} : minL xs = none ↔ xs = [] := by cases xs <;> simp [minL]
theorem maxL_none {xs : List Int} : maxL xs = none ↔ xs = [] := by cases xs <;> simp [maxL]
theorem minL_perm {xs ys : List Int} (h : xs.Perm ys) : minL xs = minL ys := by
  cases e : minL ys with
  | none => rw [minL_none] at e ⊢; subst e; exact h.eq_nil
  | some m =>
    rw [minL_some] at e ⊢
    exact ⟨h.mem_iff.mpr e.1, fun y hy => e.2 y (h.mem_iff.mp hy)⟩
theorem maxL_perm {xs ys : List Int} (h : xs.Perm ys) : maxL xs = maxL ys := by
  cases e : maxL ys with
  | none => rw [maxL_none] at e ⊢; subst e; exact h.eq_nil
  | some m =>
    rw [maxL_some] at e ⊢
    exact ⟨h.mem_iff.mpr e.1, fun y hy => e.2 y (h.mem_iff.mp hy)⟩
theorem minL_flat {α : Type} (f : α → List Int) (xs : List α) : minL (xs.flatMap f) = minL (xs.filterMap fun a => minL (f a)) := by
  cases e : minL (xs.filterMap fun a => minL (f a)) with
  | none =>
    rw [minL_none] at e ⊢
    rw [List.flatMap_eq_nil_iff]
    intro a ha
    rw [← minL_none]
    exact List.filterMap_eq_nil_iff.mp e a ha
  | some m =>
    rw [minL_some] at e ⊢
    obtain ⟨hm, hall⟩ := e
    obtain ⟨a, ha, ea⟩ := List.mem_filterMap.mp hm
    rw [minL_some] at ea
    refine ⟨List.mem_flatMap.mpr ⟨a, ha, ea.1⟩, fun y hy => ?_⟩
    obtain ⟨b, hb, hy⟩ := List.mem_flatMap.mp hy
    cases eb : minL (f b) with
    | none => rw [minL_none] at eb; rw [eb] at hy; cases hy
    | some k =>
      have := hall k (List.mem_filterMap.mpr ⟨b, hb, eb⟩)
      have := (minL_some.mp eb).2 y hy
      omega
theorem maxL_flat {α : Type} (f : α → List Int) (xs : List α) : maxL (xs.flatMap f) = maxL (xs.filterMap fun a => maxL (f a)) := by
  cases e : maxL (xs.filterMap fun a => maxL (f a)) with
  | none =>
    rw [maxL_none] at e ⊢
    rw [List.flatMap_eq_nil_iff]
    intro a ha
    rw [← maxL_none]
    exact List.filterMap_eq_nil_iff.mp e a ha
  | some m =>
    rw [maxL_some] at e ⊢
    obtain ⟨hm, hall⟩ := e
    obtain ⟨a, ha, ea⟩ := List.mem_filterMap.mp hm
    rw [maxL_some] at ea
    refine ⟨List.mem_flatMap.mpr ⟨a, ha, ea.1⟩, fun y hy => ?_⟩
    obtain ⟨b, hb, hy⟩ := List.mem_flatMap.mp hy
    cases eb : maxL (f b) with
    | none => rw [maxL_none] at eb; rw [eb] at hy; cases hy
    | some k =>
      have := hall k (List.mem_filterMap.mpr ⟨b, hb, eb⟩)
      have := (maxL_some.mp eb).2 y hy
      omega
theorem cutL_last {α : Type} (xs : List α) : cutL xs none (some (-1)) = xs.take (xs.length - 1) := by
  unfold cutL
  rw [HT.sIx_none, List.drop_zero, Nat.sub_zero]
  congr 1
  show (if (-1 : Int) < 0 then ((-1 : Int) + (xs.length : Int)).toNat else min (-1 : Int).toNat xs.length) = _
  rw [if_pos (by decide)]
  omega
end Ss
/-! GR: sorted numbers; the first head; parts by their places. -/
namespace Ss
open PySem L2
open PySem.W
theorem nil_pLe (p : Row) : pLe [] p = true := by
  unfold pLe pLt
  rw [rkP_toP, rkP_toP, List.map_nil, dataLt_list]
  cases p with
  | nil => decide
  | cons v p =>
    simp only [List.map_cons, keyToksAll]
    have e := lex_atom (p := Sum.inl 1) (q := Sum.inl 0) (by decide) (keyToks (rkV v).toP ++ keyToksAll (p.map fun v => (rkV v).toP)) []
    rw [e]
    decide
theorem hds_first {qs : List Row} {n : Nat} (ok : ∀ q ∈ hds qs n, PathOk q) : rowAt (hds qs n) 0 = [] ∧ 0 < (hds qs n).length := by
  have m : [] ∈ hds qs n := hds_mem.mpr (.inl rfl)
  have s := srtP_sorted (hdsK qs n)
  change (hds qs n).Pairwise _ at s
  cases e : hds qs n with
  | nil => rw [e] at m; cases m
  | cons h r =>
    rw [e] at m s ok
    refine ⟨?_, by simp⟩
    show h = []
    rcases List.mem_cons.mp m with m | m
    · exact m.symm
    · exact pLe_anti (ok h List.mem_cons_self) (fun _ z => by cases z) ((List.pairwise_cons.mp s).1 _ m) (nil_pLe h)
theorem dLe_trans (p q r : D) : dataLe false D.toP p q = true → dataLe false D.toP q r = true → dataLe false D.toP p r = true := by
  show (!dataLt q.toP p.toP) = true → (!dataLt r.toP q.toP) = true → (!dataLt r.toP p.toP) = true
  intro h1 h2
  simp only [Bool.not_eq_true'] at h1 h2 ⊢
  cases e : dataLt r.toP p.toP with
  | false => rfl
  | true =>
    rcases dlt_neg q.toP e with z | z
    · rw [h2] at z; cases z
    · rw [h1] at z; cases z
theorem dLe_total (p q : D) : (dataLe false D.toP p q || dataLe false D.toP q p) = true := by
  show ((!dataLt q.toP p.toP) || (!dataLt p.toP q.toP)) = true
  cases e : dataLt q.toP p.toP with
  | false => rfl
  | true => rw [dlt_asymm e]; rfl
theorem dLe_int (a b : Int) : dataLe false D.toP (.int a) (.int b) = decide (a ≤ b) := by
  show (!dataLt (.int b) (.int a)) = _
  rw [dataLt_int]
  by_cases h : a ≤ b
  · rw [decide_eq_true h, decide_eq_false (by omega)]; rfl
  · rw [decide_eq_false h, decide_eq_true (by omega)]; rfl
theorem srt_ints (is : List Int) : ∃ js : List Int, Bi.f .srt [.lst (is.map D.int)] = some (.lst (js.map D.int)) ∧ js.Perm is ∧ js.Pairwise (· ≤ ·) := by
  have B : srtB (is.map D.int) = true := by
    have h1 : D.pls (is.map D.int) = true := pls_all fun k hk => by simp [D.pl]
    have h2 : D.deps (is.map D.int) ≤ 60 := deps_all fun k _ => by simp [D.dep]
    have h3 : ((is.map D.int).all fun d => (is.map D.int).all fun e => alike d.toP e.toP) = true := by
      refine List.all_eq_true.mpr fun d hd => List.all_eq_true.mpr fun e he => ?_
      obtain ⟨j, _, rfl⟩ := List.mem_map.mp hd
      obtain ⟨k, _, rfl⟩ := List.mem_map.mp he
      simp [D.toP, alike]
    simp only [srtB, Bool.and_eq_true, Bool.or_eq_true]
    exact ⟨⟨⟨h1, decide_eq_true h2⟩, h3⟩, .inr (List.all_eq_true.mpr fun d hd => by
      obtain ⟨j, _, rfl⟩ := List.mem_map.mp hd
      rfl)⟩
  have P : (srtL (is.map D.int)).Perm (is.map D.int) := List.mergeSort_perm _ _
  have S : (srtL (is.map D.int)).Pairwise (fun a b => dataLe false D.toP a b = true) := List.pairwise_mergeSort (fun a b c => dLe_trans a b c) dLe_total _
  obtain ⟨js, ej⟩ : ∃ js : List Int, srtL (is.map D.int) = js.map D.int := by
    have : ∀ d ∈ srtL (is.map D.int), ∃ i, D.int i = d := fun d hd => by
      obtain ⟨i, _, e⟩ := List.mem_map.mp (P.mem_iff.mp hd)
      exact ⟨i, e⟩
    generalize srtL (is.map D.int) = ds at this
    induction ds with
    | nil => exact ⟨[], rfl⟩
    | cons d ds ih =>
      obtain ⟨i, rfl⟩ := this d List.mem_cons_self
      obtain ⟨js, e⟩ := ih fun d hd => this d (List.mem_cons_of_mem _ hd)
      exact ⟨i :: js, by rw [e]; rfl⟩
  refine ⟨js, ?_, ?_, ?_⟩
  · show (if srtB (is.map D.int) then some (D.lst (srtL (is.map D.int))) else none) = _
    rw [B, ej]; rfl
  · rw [ej] at P
    have := P.filterMap (fun d : D => match d with | .int i => some i | _ => none)
    have f : ∀ xs : List Int, (xs.map D.int).filterMap (fun d : D => match d with | .int i => some i | _ => none) = xs := fun xs => by
      rw [List.filterMap_map]
      induction xs with
      | nil => rfl
      | cons x xs ih => rw [List.filterMap_cons]; simp only [Function.comp]; rw [show (List.filterMap ((fun d : D => match d with | .int i => some i | _ => none) ∘ D.int) xs) = xs from ih] 
    rw [f, f] at this
    exact this
  · rw [ej, List.pairwise_map] at S
    exact S.imp fun h => by rw [dLe_int] at h; exact of_decide_eq_true h
theorem srt_first {is js : List Int} (p : js.Perm is) (s : js.Pairwise (· ≤ ·)) : minL is = js.head? := by
  cases js with
  | nil => rw [minL_none.mpr p.nil_eq.symm]; rfl
  | cons j js =>
    rw [List.head?_cons, minL_some]
    refine ⟨p.mem_iff.mp List.mem_cons_self, fun y hy => ?_⟩
    rcases List.mem_cons.mp (p.mem_iff.mpr hy) with rfl | hy
    · omega
    · exact (List.pairwise_cons.mp s).1 y hy
theorem srt_last {is js : List Int} (p : js.Perm is) (s : js.Pairwise (· ≤ ·)) : maxL is = js[js.length - 1]? := by
  cases hj : js with
  | nil => subst hj; rw [maxL_none.mpr p.nil_eq.symm]; rfl
  | cons j r =>
    rw [← hj]
    have l : js.length - 1 < js.length := by rw [hj]; simp
    rw [List.getElem?_eq_getElem l, maxL_some]
    refine ⟨p.mem_iff.mp (List.getElem_mem l), fun y hy => ?_⟩
    obtain ⟨k, hk, e⟩ := List.getElem_of_mem (p.mem_iff.mpr hy)
    rw [← e]
    by_cases q : k = js.length - 1
    · subst q; omega
    · exact List.pairwise_iff_getElem.mp s k (js.length - 1) hk l (by omega)
theorem sum_of {α : Type} (g : α → Int) (C : List α) : Bi.f .sum [.lst (C.map fun c => D.int (g c))] = some (.int (C.map g).sum) := by
  have e : (C.map fun c => D.int (g c)) = (C.map g).map D.int := by rw [List.map_map]; rfl
  rw [e]
  show (nums ((C.map g).map D.int)).map _ = _
  rw [nums_int]; rfl
theorem max_of {α : Type} (g : α → Int) (C : List α) : Bi.f .max1 [.lst (C.map fun c => D.int (g c))] = (maxL (C.map g)).map D.int := by
  have e : (C.map fun c => D.int (g c)) = (C.map g).map D.int := by rw [List.map_map]; rfl
  rw [e]
  show ((nums ((C.map g).map D.int)).bind maxL).map D.int = _
  rw [nums_int]; rfl
theorem opt_ints {α : Type} (g : α → Option Int) (C : List α) : (C.filterMap fun c => (g c).map D.int) = (C.filterMap g).map D.int := by
  rw [List.map_filterMap]
theorem gs_ints {is : List Int} (l : is.length ≤ 1000) : (D.lst (is.map D.int)).gs 1 := gs_lst (fun i _ => gs_int i) (by omega)
theorem ne_nil {is : List Int} (l : is.length ≤ 1000) : Cm.f .ne (.lst (is.map D.int)) (.lst []) = some (!is.isEmpty) := by
  have e : (D.lst []).okE = true := by decide +kernel
  rw [cm_ne (gs_ints l).okE e]
  cases is <;> simp [D.eqv, D.eqvs]
theorem eq_nil {is : List Int} (l : is.length ≤ 1000) : Cm.f .eq (.lst (is.map D.int)) (.lst []) = some is.isEmpty := by
  have e : (D.lst []).okE = true := by decide +kernel
  rw [cm_eq (gs_ints l).okE e]
  cases is <;> simp [D.eqv, D.eqvs]
theorem chl_at (ps : List Row) (a : Row) : ((List.range ps.length).filter fun k => decide ((rowAt ps k).length = a.length + 1) && beg (rowAt ps k) a).map (rowAt ps) = chl ps a := filter_rowAt ps fun q => decide (q.length = a.length + 1) && beg q a
end Ss
/-! GS: two tables with the same columns. -/
namespace Ss
open PySem L2
structure TwoOk (t u : Tab) (p : Plan) : Prop where
  ta : TabOk t
  tb : TabOk u
  cc : u.cs = t.cs
  pp : PlanOk t.cs p
theorem TwoOk.q {t u : Tab} {p : Plan} (h : TwoOk t u p) : PlanOk u.cs p := by rw [h.cc]; exact h.pp
theorem TwoOk.sw {t u : Tab} {p : Plan} (h : TwoOk t u p) : TwoOk u t p := ⟨h.tb, h.ta, h.cc.symm, h.q⟩
/-- all row paths of both -/
def hTwo (t u : Tab) (p : Plan) : List Row := srtP (t.rws p ++ (u.rws p).filter fun q => decide (q ∉ t.rws p))
theorem hTwo_mem {t u : Tab} {p : Plan} {q : Row} : q ∈ hTwo t u p ↔ q ∈ t.rws p ∨ q ∈ u.rws p := by
  unfold hTwo
  rw [srtP_mem, List.mem_append, List.mem_filter]
  constructor
  · rintro (h | h)
    · exact .inl h
    · exact .inr h.1
  · rintro (h | h)
    · exact .inl h
    · by_cases z : q ∈ t.rws p
      · exact .inl z
      · exact .inr ⟨h, decide_eq_true z⟩
theorem rws_nodup (t : Tab) (p : Plan) : (t.rws p).Nodup := hds_nodup _ _
theorem two_nodup (t u : Tab) (p : Plan) : (t.rws p ++ (u.rws p).filter fun q => decide (q ∉ t.rws p)).Nodup := by
  rw [List.nodup_append]
  refine ⟨rws_nodup t p, (rws_nodup u p).filter _, fun a ha b hb e => ?_⟩
  have := (List.mem_filter.mp hb).2
  subst e
  exact (of_decide_eq_true this) ha
theorem hTwo_nodup (t u : Tab) (p : Plan) : (hTwo t u p).Nodup := srtP_nodup.mpr (two_nodup t u p)
theorem two_ok' {t u : Tab} {p : Plan} (h : TwoOk t u p) : ∀ q ∈ t.rws p ++ (u.rws p).filter (fun q => decide (q ∉ t.rws p)), PathOk q ∧ q.length ≤ p.rk.length := fun q hq => by
  rcases List.mem_append.mp hq with hq | hq
  · exact rws_ok h.ta h.pp q hq
  · exact rws_ok h.tb h.q q (List.mem_filter.mp hq).1
theorem hTwo_ok {t u : Tab} {p : Plan} (h : TwoOk t u p) : ∀ q ∈ hTwo t u p, PathOk q ∧ q.length ≤ p.rk.length := fun q hq => two_ok' h q (srtP_mem.mp hq)
theorem two_len {t u : Tab} {p : Plan} (h : TwoOk t u p) : (t.rws p ++ (u.rws p).filter (fun q => decide (q ∉ t.rws p))).length ≤ 194 := by
  have a := rws_len h.ta h.pp
  have b := rws_len h.tb h.q
  have c := List.length_filter_le (fun q => decide (q ∉ t.rws p)) (u.rws p)
  rw [List.length_append]; omega
theorem hTwo_len {t u : Tab} {p : Plan} (h : TwoOk t u p) : (hTwo t u p).length ≤ 194 := by
  unfold hTwo; rw [(srtP_perm _).length_eq]; exact two_len h
theorem hTwo_sw {t u : Tab} {p : Plan} (h : TwoOk t u p) : hTwo u t p = hTwo t u p := srtP_congr (fun q hq => (two_ok' h.sw q hq).1) (two_nodup u t p) (two_nodup t u p) fun q => by
  have a := hTwo_mem (t := u) (u := t) (p := p) (q := q)
  have b := hTwo_mem (t := t) (u := u) (p := p) (q := q)
  unfold hTwo at a b
  rw [srtP_mem] at a b
  rw [a, b]; exact Or.comm
theorem hTwo_gs {t u : Tab} {p : Plan} (h : TwoOk t u p) : (rowsD (hTwo t u p)).gs 2 := gs_rows (fun q hq => ⟨(hTwo_ok h q hq).1, by have := (hTwo_ok h q hq).2; have := h.pp.rl; omega⟩) (by have := hTwo_len h; omega)
theorem in_hTwo {t u : Tab} {p : Plan} (h : TwoOk t u p) {a : Row} (ha : a ∈ hTwo t u p) : inD (rowD a) (rowsD (hTwo t u p)) = some true := by
  rw [in_paths (gs_path (hTwo_ok h a ha).1 (by have := (hTwo_ok h a ha).2; have := h.pp.rl; omega)).okE (hTwo_gs h).okE, inP_row, decide_eq_true ha]
/-- what the law calls all paths -/
theorem hTwo_hds {t u : Tab} {p : Plan} (h : TwoOk t u p) : hds (t.rws p ++ u.rws p) p.rk.length = hTwo t u p := by
  unfold hds
  refine (srtP_congr (fun q hq => (two_ok' h q hq).1) (two_nodup t u p) (by have := hds_nodup (t.rws p ++ u.rws p) p.rk.length; unfold hds at this; exact srtP_nodup.mp this) fun q => ?_).symm
  have a := hTwo_mem (t := t) (u := u) (p := p) (q := q)
  unfold hTwo at a
  rw [srtP_mem] at a
  have b := hds_mem (qs := t.rws p ++ u.rws p) (n := p.rk.length) (q := q)
  unfold hds at b
  rw [srtP_mem] at b
  have pre : ∀ (t : Tab) (q : Row) (k : Nat), q ∈ t.rws p → q.take k ∈ t.rws p := fun t q k hq => by
    rw [rws_eq] at hq ⊢
    rcases hds_mem.mp hq with rfl | ⟨r, hr, m, hm, rfl⟩
    · rw [List.take_nil]; exact hds_mem.mpr (.inl rfl)
    · rw [List.take_take]
      exact hds_mem.mpr (.inr ⟨r, hr, min k m, by omega, rfl⟩)
  rw [a, b]
  constructor
  · rintro (z | z)
    · exact .inr ⟨q, List.mem_append.mpr (.inl z), p.rk.length, Nat.le_refl _, (List.take_of_length_le (rws_ok h.ta h.pp q z).2).symm⟩
    · exact .inr ⟨q, List.mem_append.mpr (.inr z), p.rk.length, Nat.le_refl _, (List.take_of_length_le (rws_ok h.tb h.q q z).2).symm⟩
  · rintro (rfl | ⟨r, hr, k, _, rfl⟩)
    · exact .inl nil_rws
    · exact (List.mem_append.mp hr).imp (pre t r k) (pre u r k)
end Ss
namespace Pg
open PySem Ss L2
theorem look_two_ok {t u : Tab} (ht : TabOk t) (hu : TabOk u) (hc : u.cs = t.cs) : F_look_two.sem [t.d, u.d] = ret .non := by
  have i0 : idxD t.d (.int 0) = some (colsD t.cs) := rfl
  have i1 : idxD u.d (.int 0) = some (colsD t.cs) := by rw [← hc]; rfl
  have z : Cm.f .ne (colsD t.cs) (colsD t.cs) = some false := ne_same (cols_okE ht.cols)
  refine runF_nx (ρ := [.dat t.d, .dat u.d]) ?_
  simp [I_look_two, look_table_ok ht, look_table_ok hu, i0, i1, z]
theorem heads_of_sem {t u : Tab} {p : Plan} (h : TwoOk t u p) : F_heads_of.sem [t.d, u.d, p.d] = ret (rowsD (hTwo t u p)) := by
  refine runF_rt ?_
  have i0 : ∀ a b : D, idxD (.tup [a, b]) (.int 0) = some a := fun a b => rfl
  simp [I_heads_of, sides_sem h.ta h.pp, sides_sem h.tb h.q]
  rw [show items (rowsD (u.rws p)) = some ((u.rws p).map rowD) from rfl]
  simp only [lft_some, stp_ret]
  rw [lcs_filter (p := fun q : Row => decide (q ∉ t.rws p)) (g := rowD) fun q hq => ?_]
  · have ad : Op.f .add (rowsD (t.rws p)) (.lst (((u.rws p).filter fun q => decide (q ∉ t.rws p)).map rowD)) = some (rowsD (t.rws p ++ (u.rws p).filter fun q => decide (q ∉ t.rws p))) := by
      have l := two_len h
      rw [List.length_append] at l
      unfold rowsD
      rw [op_addL (by rw [List.length_map, List.length_map]; have : sizeLine = 16777216 := rfl; omega), List.map_append]
    simp only [stp_ret, ad, lft_some]
    have pok : ∀ q ∈ t.rws p ++ (u.rws p).filter (fun q => decide (q ∉ t.rws p)), PathOk q := fun q hq => (two_ok' h q hq).1
    have nd := two_nodup t u p
    have ll := two_len h
    have hH : hTwo t u p = srtP (t.rws p ++ (u.rws p).filter fun q => decide (q ∉ t.rws p)) := rfl
    generalize (t.rws p ++ (u.rws p).filter fun q => decide (q ∉ t.rws p)) = ks at *
    have r2 := rngD_nat ks.length (by omega)
    have lk : Bi.f .len [rowsD ks] = some (.int ks.length) := by simp [rowsD]
    have ix : ∀ k, k < ks.length → idxD (rowsD ks) (.int (k : Int)) = some (rowD (rowAt ks k)) := fun k hk => by
      simp only [rowsD, idx_lst, Ss.atI_nat, List.getElem?_map, List.getElem?_eq_getElem hk, Option.map_some, rowAt_eq hk]
    simp [lk, r2]
    rw [lcs_map (g := nkD ks) fun k hk => ?_]
    · have sb := srtB_nk pok
      obtain ⟨js, e1, e2, e3⟩ := srt_nk pok nd
      have sf : Bi.f .srt [.lst ((List.range ks.length).map (nkD ks))] = some (.lst (js.map (nkD ks))) := by
        simp only [Bi.f, sb, if_true, e1]
      simp [sf]
      rw [lcs_map (g := fun k => rowD (rowAt ks k)) fun k hk => ?_]
      · rw [hH, ← e2]
        simp [Function.comp_def, rowsD]
      · have hk := e3 k hk
        simp [cb, nkD, ix k hk]
    · have hk := List.mem_range.mp hk
      simp [cb, ix k hk, ranked_sem, nkD]
  · have ok := rws_ok h.tb h.q q hq
    have rl := h.pp.rl
    have iq : inD (rowD q) (rowsD (t.rws p)) = some (decide (q ∈ t.rws p)) := by
      rw [in_paths (gs_path ok.1 (by omega)).okE (gs_rws h.ta h.pp).okE, inP_row]
    by_cases z : q ∈ t.rws p
    · simp [cb, iq, z]
    · simp [cb, iq, z]
end Pg
/-! GT: what parts two tables. -/
namespace Ss
open PySem L2
def runS : Sum → Bool
  | .cnt => true
  | .one .fil _ => true
  | .one .sum _ => true
  | _ => false
def svN : SV → Int
  | .int i => i
  | _ => 0
def wk (t : Tab) (p : Plan) (s : Sum) (a : Row) : Int := svN (oneS t (t.trs p) s a [])
theorem wk_eq {t : Tab} {p : Plan} {s : Sum} (h : runS s = true) (a : Row) : oneS t (t.trs p) s a [] = .int (wk t p s a) := by
  unfold wk
  cases s with
  | cnt => rfl
  | one k x => cases k <;> first | rfl | cases h
def mD (t u : Tab) (p : Plan) (s : Sum) (q : Row) : Int := wk u p s q - wk t p s q
def piD (q : Row × Int) : D := .tup [rowD q.1, .int q.2]
def pOf (t u : Tab) (p : Plan) (s : Sum) (qs : List Row) : List (Row × Int) := qs.flatMap fun q => if mD t u p s q = 0 then [] else [(q, mD t u p s q)]
def pds (t u : Tab) (p : Plan) (s : Sum) (a : Row) : List (Row × Int) := pOf t u p s (chl (hTwo t u p) a)
theorem flat_filter {α β : Type} (P : α → Bool) (f : α → List β) : ∀ xs : List α, (xs.flatMap fun x => if P x then f x else []) = (xs.filter P).flatMap f
  | [] => rfl
  | x :: xs => by
    rw [List.flatMap_cons, flat_filter P f xs]
    cases h : P x with
    | true => rw [List.filter_cons_of_pos h, List.flatMap_cons]; simp
    | false => rw [List.filter_cons_of_neg (by simp [h])]; simp
theorem pds_map (t u : Tab) (p : Plan) (s : Sum) (a : Row) : (((hTwo t u p).filter fun q => decide (q.length = a.length + 1) && beg q a).flatMap fun q => if mD t u p s q = 0 then [] else [piD (q, mD t u p s q)]) = (pds t u p s a).map piD := by
  unfold pds pOf chl
  rw [List.map_flatMap]
  congr 1
  funext q
  split <;> rfl
structure RunOk (p : Plan) (k : Nat) (s : Sum) : Prop where
  lt : k < p.sm.length
  at_ : p.sm[k]? = some s
  run : runS s = true
theorem RunOk.eq {p : Plan} {k : Nat} {s : Sum} (h : RunOk p k s) : p.sm[k]'h.lt = s := by
  have := h.at_
  rw [List.getElem?_eq_getElem h.lt] at this
  exact Option.some.inj this
end Ss
namespace Pg
open PySem Ss L2
theorem sum_at_ok {t : Tab} (ht : TabOk t) {p : Plan} (hp : PlanOk t.cs p) {k : Nat} {s : Ss.Sum} (hk : RunOk p k s) {a : Row} (ha : PathOk a) : F_sum_at.sem [t.d, p.d, rowD a, natD k] = ret (.int (wk t p s a)) := by
  refine runF_rt ?_
  have c := counted_sem ht hp
  have e : (ctd t.cs t.rs p) = t.trs p := rfl
  rw [e] at c
  have i2 : idxD p.d (.int 2) = some (.tup (p.sm.map Sum.d)) := rfl
  have i3 := sum_at hk.lt
  rw [hk.eq] at i3
  have hs : SumOk t.cs s := by have := hp.sm _ (List.getElem_mem hk.lt); rw [hk.eq] at this; exact this
  have O := one_sum_sem ht (trs_tsok ht hp) hs (a := a) (b := []) ha (fun _ z => by cases z)
  rw [wk_eq hk.run, show rowD [] = D.tup [] from rfl] at O
  simp [I_sum_at, c, i2, i3, O]
  rfl
theorem look_runs_ok {p : Plan} {k : Nat} {s : Ss.Sum} (hk : RunOk p k s) : F_look_runs.sem [p.d, natD k] = ret .non := by
  refine runF_nx (ρ := [.dat p.d, .dat (natD k)]) ?_
  have i2 : idxD p.d (.int 2) = some (.tup (p.sm.map Sum.d)) := rfl
  have i3 := sum_at hk.lt
  rw [hk.eq] at i3
  have w : ∃ d, idxD s.d (.int 0) = some d ∧ inD d (.tup [.str "count", .str "sum", .str "filled"]) = some true := by
    have := hk.run
    cases s with
    | cnt => exact ⟨_, rfl, by decide +kernel⟩
    | one k x => cases k <;> first | exact ⟨_, rfl, by decide +kernel⟩ | cases this
  obtain ⟨d, w1, w2⟩ := w
  simp [I_look_runs, look_sum_ok hk.lt, i2, i3, w1, w2]
theorem parted_sem {t u : Tab} {p : Plan} (h : TwoOk t u p) {k : Nat} {s : Ss.Sum} (hk : RunOk p k s) {a : Row} (ha : a ∈ hTwo t u p) : F_parted.sem [t.d, u.d, p.d, rowD a, natD k] = ret (.lst ((pds t u p s a).map piD)) := by
  refine runF_rt ?_
  have i0 : idxD t.d (.int 0) = some (colsD t.cs) := rfl
  have aok := hTwo_ok h a ha
  have rl := h.pp.rl
  have lH := hTwo_len h
  have la : Bi.f .len [rowD a] = some (.int a.length) := by simp [rowD]
  have L := forB_flat (tg := .one 7) (body := B_parted_0) (em := rowD) (en := fun (s : List D) (v : Sl × Sl) => ([.dat t.d, .dat u.d, .dat p.d, .dat (rowD a), .dat (natD k), .dat (rowsD (hTwo t u p)), .own s, v.1, v.2] : Ss.Env)) (f := fun q => if decide (q.length = a.length + 1) && beg q a then (if mD t u p s q = 0 then [] else [piD (q, mD t u p s q)]) else []) (B := 1000) (xs := hTwo t u p) (s := []) (t := (.emp, .emp)) (by
      have : ∀ qs : List Row, (qs.flatMap fun q => if decide (q.length = a.length + 1) && beg q a then (if mD t u p s q = 0 then [] else [piD (q, mD t u p s q)]) else []).length ≤ qs.length := fun qs => by
        induction qs with
        | nil => simp
        | cons q qs ih =>
          rw [List.flatMap_cons, List.length_append, List.length_cons]
          have : (if decide (q.length = a.length + 1) && beg q a then (if mD t u p s q = 0 then [] else [piD (q, mD t u p s q)]) else []).length ≤ 1 := by
            split
            · split <;> simp
            · simp
          omega
      have := this (hTwo t u p)
      simp only [List.length_nil]; omega) fun ds v q hq hl => by
    have ok := hTwo_ok h q hq
    have lq : Bi.f .len [rowD q] = some (.int q.length) := by simp [rowD]
    have bg := begins_sem ok.1 aok.1
    have s1 := sum_at_ok h.ta h.pp hk ok.1
    have s2 := sum_at_ok h.tb h.q hk ok.1
    by_cases e : q.length = a.length + 1
    · have e' : (q.length : Int) = (a.length : Int) + 1 := by omega
      cases b : beg q a with
      | false =>
        refine ⟨(.dat (rowD q), v.2), ?_⟩
        rw [b] at bg
        simp [B_parted_0, la, lq, e', bg]
      | true =>
        rw [b] at bg
        simp only [e, b, decide_true, Bool.and_self, if_true] at hl ⊢
        refine ⟨(.dat (rowD q), .dat (.int (mD t u p s q))), ?_⟩
        by_cases z : mD t u p s q = 0
        · have z' : wk u p s q - wk t p s q = 0 := z
          simp [B_parted_0, la, lq, e', bg, s1, s2, z, z']
          rw [extM_lst, if_pos (by rw [if_pos z] at hl; have : sizeLine = 16777216 := rfl; simp only [List.length_nil] at hl ⊢; omega)]
          simp
        · have z' : ¬ (wk u p s q - wk t p s q = 0) := z
          simp only [if_neg z] at hl ⊢
          simp [B_parted_0, la, lq, e', bg, s1, s2, z']
          rw [extM_lst, if_pos (by have : sizeLine = 16777216 := rfl; simp only [List.length_cons, List.length_nil] at hl ⊢; omega)]
          rfl
    · have e' : ¬ (q.length : Int) = (a.length : Int) + 1 := by omega
      refine ⟨(.dat (rowD q), v.2), ?_⟩
      simp [B_parted_0, la, lq, e', e]
  obtain ⟨v, L⟩ := L
  have it : items (rowsD (hTwo t u p)) = some ((hTwo t u p).map rowD) := rfl
  simp [I_parted, look_two_ok h.ta h.tb h.cc, i0, look_plan_ok h.ta.cols h.pp, heads_of_sem h, in_hTwo h ha, look_runs_ok hk, it]
  simp only [List.nil_append] at L
  rw [L, flat_filter, pds_map]
  simp
end Pg
/-! GU: where two tables part the most. -/
namespace Ss
open PySem L2
def ab (i : Int) : Int := if i < 0 then -i else i
def mxP (ps : List (Row × Int)) : Option Int := maxL (ps.map fun q => ab q.2)
def nxt (ps : List (Row × Int)) : Row := match mxP ps with
  | none => []
  | some m => match ps.filter fun q => decide (ab q.2 = m) with
    | [] => []
    | q :: _ => q.1
theorem nxt_facts {ps : List (Row × Int)} (h : ps ≠ []) : ∃ m q0 r, mxP ps = some m ∧ (ps.filter fun q => decide (ab q.2 = m)) = q0 :: r ∧ q0.1 = nxt ps ∧ q0 ∈ ps := by
  cases e : mxP ps with
  | none =>
    unfold mxP at e
    rw [maxL_none, List.map_eq_nil_iff] at e
    exact absurd e h
  | some m =>
    have z := e
    unfold mxP at z
    obtain ⟨q, hq, em⟩ := List.mem_map.mp (maxL_some.mp z).1
    cases f : ps.filter fun q => decide (ab q.2 = m) with
    | nil =>
      have : q ∈ ps.filter fun q => decide (ab q.2 = m) := List.mem_filter.mpr ⟨hq, decide_eq_true em⟩
      rw [f] at this; cases this
    | cons q0 r =>
      refine ⟨m, q0, r, rfl, f, ?_, ?_⟩
      · unfold nxt
        rw [e]
        show q0.1 = match ps.filter fun q => decide (ab q.2 = m) with
          | [] => []
          | q :: _ => q.1
        rw [f]
      · have : q0 ∈ ps.filter fun q => decide (ab q.2 = m) := by rw [f]; exact List.mem_cons_self
        exact (List.mem_filter.mp this).1
theorem pOf_mem {t u : Tab} {p : Plan} {s : Sum} {qs : List Row} {q : Row × Int} (h : q ∈ pOf t u p s qs) : q.1 ∈ qs ∧ q.2 = mD t u p s q.1 := by
  obtain ⟨x, hx, z⟩ := List.mem_flatMap.mp h
  split at z
  · cases z
  · rw [List.mem_singleton] at z; subst z; exact ⟨hx, rfl⟩
theorem pOf_len {t u : Tab} {p : Plan} {s : Sum} (qs : List Row) : (pOf t u p s qs).length ≤ qs.length := by
  unfold pOf
  induction qs with
  | nil => simp
  | cons q qs ih =>
    rw [List.flatMap_cons, List.length_append, List.length_cons]
    have : (if mD t u p s q = 0 then [] else [(q, mD t u p s q)] : List (Row × Int)).length ≤ 1 := by split <;> simp
    omega
theorem nxt_chl {t u : Tab} {p : Plan} {s : Sum} {a : Row} (h : pds t u p s a ≠ []) : nxt (pds t u p s a) ∈ chl (hTwo t u p) a := by
  obtain ⟨m, q0, r, _, _, e, hm⟩ := nxt_facts h
  rw [← e]; exact (pOf_mem hm).1
def down (t u : Tab) (p : Plan) (s : Sum) : Nat → Row → Row
  | 0, a => a
  | n + 1, a => if pds t u p s a = [] then a else down t u p s n (nxt (pds t u p s a))
theorem pds_full {t u : Tab} {p : Plan} (h : TwoOk t u p) {s : Sum} {a : Row} (ha : p.rk.length ≤ a.length) : pds t u p s a = [] := by
  unfold pds
  rw [chl_full (fun q hq => (hTwo_ok h q hq).2) ha]; rfl
theorem pds_len {t u : Tab} {p : Plan} (h : TwoOk t u p) (s : Sum) (a : Row) : (pds t u p s a).length ≤ 194 := by
  have l1 := pOf_len (t := t) (u := u) (p := p) (s := s) (chl (hTwo t u p) a)
  have l2 := List.length_filter_le (fun q : Row => decide (q.length = a.length + 1) && beg q a) (hTwo t u p)
  have l3 := hTwo_len h
  unfold pds; unfold chl at l1 ⊢; omega
theorem pds_gs {t u : Tab} {p : Plan} (h : TwoOk t u p) (s : Sum) (a : Row) : (D.lst ((pds t u p s a).map piD)).gs 3 := gs_lst (fun x hx => gs_tupL (fun y hy => by
  have ok := hTwo_ok h _ (chl_mem.mp (pOf_mem hx).1).1
  have := h.pp.rl
  simp only [List.mem_cons, List.not_mem_nil, or_false] at hy
  rcases hy with rfl | rfl
  · exact gs_path ok.1 (by omega)
  · exact (gs_int _).mono (by omega)) (by simp)) (by have := pds_len h s a; omega)
theorem pds_ne {t u : Tab} {p : Plan} (h : TwoOk t u p) (s : Sum) (a : Row) : Cm.f .ne (.lst ((pds t u p s a).map piD)) (.lst []) = some (!(pds t u p s a).isEmpty) := by
  have e0 : (D.lst []).okE = true := by decide +kernel
  rw [cm_ne (pds_gs h s a).okE e0]
  cases pds t u p s a <;> simp [D.eqv, D.eqvs]
end Ss
namespace Pg
open PySem Ss L2
theorem blamed_loop {t u : Tab} {p : Plan} (h : TwoOk t u p) {k : Nat} {s : Ss.Sum} (hk : RunOk p k s) : ∀ (n : Nat) (a : Row) (m : Nat) (v5 v6 : Sl), a ∈ hTwo t u p → p.rk.length ≤ a.length + n → n < m → whls (fun ρ => truM (ev (.lit (.bl true)) ρ)) (fun ρ => exs B_blamed_0 ρ) m [.dat t.d, .dat u.d, .dat p.d, .dat (natD k), .dat (rowD a), v5, v6, .emp, .emp] = ret (.rt (rowD (down t u p s n a)))
  | n, a, 0, _, _, _, _, hm => by omega
  | n, a, m + 1, v5, v6, ha, hn, hm => by
    have P := parted_sem h hk ha
    rw [whls_succ]
    have c1 : truM (ev (.lit (.bl true)) [.dat t.d, .dat u.d, .dat p.d, .dat (natD k), .dat (rowD a), v5, v6, .emp, .emp]) = ret true := by simp
    rw [c1, stp_ret, if_pos rfl]
    by_cases z : pds t u p s a = []
    · have e : down t u p s n a = a := by
        cases n with
        | zero => rfl
        | succ n => simp only [down, if_pos z]
      rw [e]
      rw [z] at P
      simp [B_blamed_0, P]
    · obtain ⟨mx, q0, r, e1, e2, e3, e4⟩ := nxt_facts z
      have hc := chl_mem.mp (nxt_chl z)
      have hn' : p.rk.length ≤ (nxt (pds t u p s a)).length + (n - 1) := by omega
      have hpos : 0 < n := by
        by_cases q : n = 0
        · subst q; exact absurd (pds_full h (by omega)) z
        · omega
      have ed : down t u p s n a = down t u p s (n - 1) (nxt (pds t u p s a)) := by
        cases n with
        | zero => omega
        | succ n => simp only [down, if_neg z]; rfl
      have ih := blamed_loop h hk (n - 1) (nxt (pds t u p s a)) m (.dat (.lst ((pds t u p s a).map piD))) (.dat (.int mx)) hc.1 hn' (by omega)
      rw [ed, ← ih]
      have M1 := max_of (fun q : Row × Int => ab q.2) (pds t u p s a)
      rw [show maxL ((pds t u p s a).map fun q => ab q.2) = some mx from e1] at M1
      have tr : tru (.lst ((pds t u p s a).map piD)) = some true := by
        cases q : pds t u p s a with
        | nil => exact absurd q z
        | cons _ _ => rfl
      have A1 : ∀ ρ : Ss.Env, ρ.length = 9 → lcs (cb (.bi .abs [(.var 8)]) (.many [7, 8]) [] [7, 8] ρ) ((pds t u p s a).map piD) = ret ((pds t u p s a).map fun q => D.int (ab q.2)) := fun ρ hρ => by
        match ρ, hρ with
        | [b0, b1, b2, b3, b4, b5, b6, b7, b8], _ =>
          refine lcs_map fun q _ => ?_
          simp [cb, piD, ab]
      have A2 : lcs (cb (.var 7) (.many [7, 8]) [(.cmp .eq (.bi .abs [(.var 8)]) (.var 6))] [7, 8] [.dat t.d, .dat u.d, .dat p.d, .dat (natD k), .dat (rowD a), .dat (.lst ((pds t u p s a).map piD)), .dat (.int mx), .emp, .emp]) ((pds t u p s a).map piD) = ret (((pds t u p s a).filter fun q => decide (ab q.2 = mx)).map fun q => rowD q.1) := by
        refine lcs_filter fun q _ => ?_
        have : (if q.2 < 0 then -q.2 else q.2) = ab q.2 := rfl
        simp [cb, piD, this]
        split <;> rfl
      rw [e2] at A2
      simp [B_blamed_0, P, tr]
      rw [A1 _ rfl]
      simp [M1]
      rw [A2]
      simp [e3]
theorem blamed_sem {t u : Tab} {p : Plan} (h : TwoOk t u p) {k : Nat} {s : Ss.Sum} (hk : RunOk p k s) {n : Nat} (hn : p.rk.length ≤ n) (hn2 : n ≤ 100) : F_blamed.sem [t.d, u.d, p.d, natD k] = ret (rowD (down t u p s n [])) := by
  refine runF_rt ?_
  have i0 : idxD t.d (.int 0) = some (colsD t.cs) := rfl
  have nil : [] ∈ hTwo t u p := hTwo_mem.mpr (.inl nil_rws)
  have B := blamed_loop h hk n [] 10000000000000000000000000000000000000000 .emp .emp nil (by simpa using hn) (by omega)
  rw [show rowD [] = D.tup [] from rfl] at B
  generalize hW : (10000000000000000000000000000000000000000 : Nat) = W at B
  simp only [I_blamed, hW]
  simp [look_two_ok h.ta h.tb h.cc, i0, look_plan_ok h.ta.cols h.pp, look_runs_ok hk]
  exact B
end Pg
/-! GV: sums that run on, over parts; two tables drawn. -/
namespace Ss
open PySem L2
def gS (cs : List Col) (s : Sum) (S : List Row) : Int := match s with
  | .cnt => S.length
  | .one .fil x => (vR cs x S).length
  | .one .sum x => (iR cs x S).sum
  | _ => 0
theorem wk_gS {t : Tab} {p : Plan} {s : Sum} (h : runS s = true) (a : Row) : wk t p s a = gS t.cs s (rb t.cs p.rk p.ck (t.cr p) a []) := by
  unfold wk
  rw [oneS_eq]
  cases s with
  | cnt => rfl
  | one k x => cases k <;> first | rfl | cases h
theorem gS_nil (cs : List Col) (s : Sum) : gS cs s [] = 0 := by
  cases s with
  | cnt => rfl
  | one k x => cases k <;> rfl
theorem gS_perm {cs : List Col} {s : Sum} {S T : List Row} (h : S.Perm T) : gS cs s S = gS cs s T := by
  cases s with
  | cnt => show ((S.length : Int)) = T.length; rw [h.length_eq]
  | one k x =>
    cases k <;> first | rfl | skip
    · show (((vR cs x S).length : Int)) = (vR cs x T).length
      rw [(vR_perm h).length_eq]
    · exact perm_sum (iR_perm h)
theorem gS_flat {α : Type} (cs : List Col) {s : Sum} (hs : runS s = true) (f : α → List Row) (xs : List α) : gS cs s (xs.flatMap f) = (xs.map fun a => gS cs s (f a)).sum := by
  cases s with
  | cnt => exact len_flat f xs
  | one k x =>
    cases k <;> first | cases hs | skip
    · show (((vR cs x (xs.flatMap f)).length : Int)) = _
      rw [vR_flat, len_flat]; rfl
    · show (iR cs x (xs.flatMap f)).sum = _
      rw [iR_flat, sum_flat]; rfl
/-- what stands in no head has no rows -/
theorem rb_out {t : Tab} {p : Plan} {a : Row} (h : a ∉ t.rws p) (ha : a.length ≤ p.rk.length) (b : Row) : rb t.cs p.rk p.ck (t.cr p) a b = [] := by
  unfold rb
  rw [List.filter_eq_nil_iff]
  intro r hr z
  simp only [Bool.and_eq_true] at z
  apply h
  rw [rws_eq]
  exact hds_mem.mpr (.inr ⟨_, List.mem_map.mpr ⟨r, hr, rfl⟩, a.length, ha, (of_decide_eq_true z.1).symm⟩)
theorem wk_out {t : Tab} {p : Plan} {s : Sum} (hs : runS s = true) {a : Row} (h : a ∉ t.rws p) (ha : a.length ≤ p.rk.length) : wk t p s a = 0 := by
  rw [wk_gS hs, rb_out h ha, gS_nil]
theorem two_below {t u : Tab} {p : Plan} {a : Row} (ha : a.length < p.rk.length) : ((chl (hTwo t u p) a).flatMap fun q => rb t.cs p.rk p.ck (t.cr p) q []).Perm (rb t.cs p.rk p.ck (t.cr p) a []) := by
  have e : ((chl (hTwo t u p) a).flatMap fun q => rb t.cs p.rk p.ck (t.cr p) q []) = (chl (hTwo t u p) a).flatMap fun q => (rb t.cs p.rk p.ck (t.cr p) a []).filter fun r => decide ((pth t.cs p.rk r).take (a.length + 1) = q) := by
    simp only [List.flatMap_def]
    congr 1
    refine List.map_congr_left fun q hq => ?_
    have hq := (chl_mem.mp hq).2
    rw [← rb_child (q := q) (decide_eq_true hq.2)]
    refine List.filter_congr fun r _ => ?_
    unfold beg
    rw [hq.1]
  rw [e]
  refine split_perm _ _ _ (chl_nodup (hTwo_nodup t u p) a) fun r hr => ?_
  obtain ⟨h1, h2⟩ := List.mem_filter.mp hr
  simp only [Bool.and_eq_true] at h2
  have lr : (pth t.cs p.rk r).length = p.rk.length := by simp [pth]
  refine chl_mem.mpr ⟨hTwo_mem.mpr (.inl ?_), by rw [List.length_take]; omega, ?_⟩
  · rw [rws_eq]
    exact hds_mem.mpr (.inr ⟨_, List.mem_map.mpr ⟨r, h1, rfl⟩, a.length + 1, by omega, rfl⟩)
  · rw [List.take_take, Nat.min_eq_left (by omega)]
    exact of_decide_eq_true h2.1
theorem wk_below {t u : Tab} {p : Plan} {s : Sum} (hs : runS s = true) {a : Row} (ha : a.length < p.rk.length) : ((chl (hTwo t u p) a).map fun q => wk t p s q).sum = wk t p s a := by
  rw [wk_gS hs a, ← gS_perm (two_below (u := u) ha), gS_flat t.cs hs]
  congr 1
  exact List.map_congr_left fun q _ => wk_gS hs q
theorem pOf_sum (t u : Tab) (p : Plan) (s : Sum) : ∀ qs : List Row, ((pOf t u p s qs).map fun q => q.2).sum = (qs.map fun q => wk u p s q).sum - (qs.map fun q => wk t p s q).sum
  | [] => rfl
  | q :: qs => by
    have ih := pOf_sum t u p s qs
    unfold pOf at ih ⊢
    rw [List.flatMap_cons, List.map_append, List.sum_append, ih, List.map_cons, List.map_cons, List.sum_cons, List.sum_cons]
    split
    · rename_i z
      unfold mD at z
      simp only [List.map_nil, List.sum_nil]; omega
    · simp only [List.map_cons, List.map_nil, List.sum_cons, List.sum_nil, mD]; omega
theorem pds_sum {t u : Tab} {p : Plan} (h : TwoOk t u p) {s : Sum} (hs : runS s = true) {a : Row} (ha : a.length < p.rk.length) : ((pds t u p s a).map fun q => q.2).sum = mD t u p s a := by
  unfold pds
  rw [pOf_sum, wk_below hs ha, ← hTwo_sw h, wk_below hs ha]; rfl
theorem pds_sw {t u : Tab} {p : Plan} (h : TwoOk t u p) (s : Sum) (a : Row) : pds u t p s a = (pds t u p s a).map fun q => (q.1, 0 - q.2) := by
  unfold pds pOf
  rw [hTwo_sw h, List.map_flatMap]
  congr 1
  funext q
  have e : mD u t p s q = 0 - mD t u p s q := by unfold mD; omega
  rw [e]
  by_cases z : mD t u p s q = 0
  · rw [if_pos (by omega), if_pos z]; rfl
  · rw [if_neg (by omega), if_neg z]; rfl
theorem pds_same {t : Tab} {p : Plan} {s : Sum} {a : Row} : pds t t p s a = [] := by
  unfold pds pOf
  rw [List.flatMap_eq_nil_iff]
  intro q _
  rw [if_pos (by unfold mD; omega)]
end Ss
namespace Pg
open PySem Ss L2
theorem two_ok (ns : List Int) {m : Nat} (hm : m ≤ 12) : Hs (F__law_two.sem [.scr ns, .town, .int m]) 2000 fun d => ∃ t u : Tab, d = .tup [t.d, u.d] ∧ TabOk t ∧ TabOk u ∧ u.cs = t.cs ∧ ∃ c ∈ t.cs, c.wd = false := by
  refine Hs.runF ?_
  simp [I__law_two]
  refine Hs.stp (c1 := 1592) (c2 := 400) (table_ok ns (m := m) (by omega)) fun d hd => ?_
  obtain ⟨t0, rfl, ht0, hl, _, hn, _⟩ := hd
  obtain ⟨cs, rs⟩ := t0
  have hcs : ColsOk cs := ht0.cols
  have hrs : ∀ r ∈ rs, RowOk cs r := ht0.rows
  have hl : rs.length ≤ m := hl
  simp only [Tab.d, tabD, rowsD]
  simp
  have e : ((rs.length : Int) + 1) = ((rs.length + 1 : Nat) : Int) := by omega
  rw [e]
  refine Hs.stp (c1 := 1) (c2 := 399) (draw_ok ns (m := rs.length + 1) (by omega)) fun d hd => ?_
  obtain ⟨t, rfl, ht⟩ := hd
  simp [natD]
  refine Hs.stp (c1 := 1) (c2 := 398) (draw_ok ns (m := 3) (by decide)) fun d hd => ?_
  obtain ⟨u, rfl, hu⟩ := hd
  have hc : Op.f .add (.lst (cutL (rs.map rowD) (some (t : Int)) none)) (.lst (cutL (rs.map rowD) none (some (u : Int)))) = some (.lst ((rs.drop t ++ rs.take u).map rowD)) := by
    rw [cutL_drop, cutL_take, op_addL (by simp; omega)]
    simp [List.map_drop, List.map_take]
  simp [natD, hc]
  refine Hs.stp (c1 := 1) (c2 := 397) (draw_ok ns (m := 4) (by decide)) fun d hd => ?_
  obtain ⟨k, rfl, hk⟩ := hd
  have r := rngD_nat k (by omega)
  simp [natD, r]
  refine Hs.stp (c1 := 198) (c2 := 0) (P := fun ds => All2 (fun _ d => ∃ r, d = rowD r ∧ RowOk cs r) (List.range k) ds) ?_ fun ds hd => ?_
  · refine Hs.lcs (c1 := 66) (fun i _ => ?_) (by simp; omega)
    simp [cb]
    exact Hs.bnd (c1 := 66) (c2 := 0) (row_ok ns hcs.six) fun d hd => Hs.ret ⟨d, rfl, hd⟩
  · obtain ⟨ms, rfl, h2⟩ := hd.back
    have l := h2.len
    rw [List.length_range] at l
    have had : Op.f .add (.lst ((rs.drop t ++ rs.take u).map rowD)) (.lst (ms.map rowD)) = some (.lst ((rs.drop t ++ rs.take u ++ ms).map rowD)) := by
      rw [op_addL (by simp; omega)]; simp
    simp at had
    simp [had]
    refine Hs.ret ⟨_, rfl, ⟨cs, rs⟩, ⟨cs, rs.drop t ++ rs.take u ++ ms⟩, by simp [Tab.d, tabD, rowsD], ht0, ⟨hcs, fun r hr => ?_, by simp; omega⟩, rfl, hn⟩
    rcases List.mem_append.mp hr with z | z
    · rcases List.mem_append.mp z with z | z
      · exact hrs r (List.mem_of_mem_drop z)
      · exact hrs r (List.mem_of_mem_take z)
    · obtain ⟨_, _, q⟩ := h2.get z
      exact q
end Pg
/-! GW: tables one behind the other. -/
namespace Ss
open PySem L2
def Tab.stk (t u : Tab) : Tab := ⟨t.cs, t.rs ++ u.rs⟩
theorem stk_ok {t u : Tab} (ht : TabOk t) (hu : TabOk u) (hc : u.cs = t.cs) (hl : t.rs.length + u.rs.length ≤ 24) : TabOk (t.stk u) := ⟨ht.cols, fun r hr => by
  rcases List.mem_append.mp hr with hr | hr
  · exact ht.rows r hr
  · have := hu.rows r hr; rw [hc] at this; exact this, by
  show (t.rs ++ u.rs).length ≤ 24
  rw [List.length_append]; exact hl⟩
end Ss
namespace Pg
open PySem Ss L2
theorem fitted_sem {cs : List Col} {rs : List Row} (hc : cs.length ≤ 6) (hl : rs.length ≤ 24) : F_fitted.sem [colsD cs, rowsD rs] = ret (.tup [colsD cs, rowsD rs]) := by
  refine runF_rt ?_
  have l1 : Bi.f .len [colsD cs] = some (.int cs.length) := by simp [colsD]
  have l2 : Bi.f .len [rowsD rs] = some (.int rs.length) := by simp [rowsD]
  have c1 : ¬ (6 : Int) < (cs.length : Int) := by omega
  have c2 : ¬ (24 : Int) < (rs.length : Int) := by omega
  simp [I_fitted, l1, l2, c1, c2]
theorem stacked_sem {t u : Tab} (ht : TabOk t) (hu : TabOk u) (hc : u.cs = t.cs) (hl : t.rs.length + u.rs.length ≤ 24) : F_stacked.sem [t.d, u.d] = ret (t.stk u).d := by
  refine runF_rt ?_
  have i0 : idxD t.d (.int 0) = some (colsD t.cs) := rfl
  have i1 : idxD u.d (.int 0) = some (colsD t.cs) := by rw [← hc]; rfl
  have j0 : idxD t.d (.int 1) = some (rowsD t.rs) := rfl
  have j1 : idxD u.d (.int 1) = some (rowsD u.rs) := rfl
  have z : Cm.f .ne (colsD t.cs) (colsD t.cs) = some false := ne_same (cols_okE ht.cols)
  have ad : Op.f .add (rowsD t.rs) (rowsD u.rs) = some (rowsD (t.rs ++ u.rs)) := by
    unfold rowsD
    rw [op_addL (by rw [List.length_map, List.length_map]; have : sizeLine = 16777216 := rfl; omega), List.map_append]
  have F := fitted_sem (cs := t.cs) (rs := t.rs ++ u.rs) ht.cols.six (by rw [List.length_append]; exact hl)
  simp [I_stacked, look_table_ok ht, look_table_ok hu, i0, i1, j0, j1, z, ad, F]
  rfl
end Pg
/-! GX: tables cut to some columns. -/
namespace Ss
open PySem L2
def colN (cs : List Col) (x : Str) : Col := ⟨x, (kndOf cs x).getD true⟩
def pickR (cs : List Col) (xs : List Str) (r : Row) : Row := xs.map (atc cs r)
def Tab.pick (t : Tab) (xs : List Str) : Tab := ⟨xs.map (colN t.cs), t.rs.map (pickR t.cs xs)⟩
def namesD (xs : List Str) : D := .tup (xs.map D.str)
/-- names that may be picked -/
structure NmsOk (cs : List Col) (xs : List Str) : Prop where
  ne : xs ≠ []
  nd : xs.Nodup
  kn : ∀ x ∈ xs, (kndOf cs x).isSome = true
theorem nodup_sub_len {α : Type} [DecidableEq α] : ∀ {xs ys : List α}, xs.Nodup → (∀ x ∈ xs, x ∈ ys) → xs.length ≤ ys.length
  | [], _, _, _ => Nat.zero_le _
  | x :: xs, ys, nd, h => by
    have hx := h x List.mem_cons_self
    obtain ⟨n1, n2⟩ := List.nodup_cons.mp nd
    have := nodup_sub_len (xs := xs) (ys := ys.erase x) n2 fun y hy => (List.mem_erase_of_ne (fun e => n1 (by rw [← e]; exact hy))).mpr (h y (List.mem_cons_of_mem _ hy))
    have e := List.length_erase_of_mem hx
    have p : 0 < ys.length := List.length_pos_of_mem hx
    simp only [List.length_cons]; omega
theorem knd_mem {cs : List Col} {x : Str} (h : (kndOf cs x).isSome = true) : ∃ c ∈ cs, c.nm = x ∧ kndOf cs x = some c.wd := by
  obtain ⟨b, e⟩ := Option.isSome_iff_exists.mp h
  obtain ⟨k, _, hk, en, ew⟩ := knd_some e
  exact ⟨cs[k], List.getElem_mem hk, en, by rw [e, ew]⟩
theorem NmsOk.len {cs : List Col} {xs : List Str} (h : NmsOk cs xs) : xs.length ≤ cs.length := by
  have := nodup_sub_len h.nd (ys := cs.map Col.nm) fun x hx => by
    obtain ⟨c, hc, e, _⟩ := knd_mem (h.kn x hx)
    exact List.mem_map.mpr ⟨c, hc, e⟩
  simpa using this
theorem NmsOk.isW {cs : List Col} (hc : ColsOk cs) {xs : List Str} (h : NmsOk cs xs) : ∀ x ∈ xs, isW x = true := fun x hx => by
  obtain ⟨b, e⟩ := Option.isSome_iff_exists.mp (h.kn x hx)
  exact knd_isW hc e
theorem pick_names (cs : List Col) (xs : List Str) : (xs.map (colN cs)).map Col.nm = xs := by
  rw [List.map_map]; exact List.map_id _
theorem pick_cols {cs : List Col} (hc : ColsOk cs) {xs : List Str} (h : NmsOk cs xs) : ColsOk (xs.map (colN cs)) := by
  refine ⟨?_, ?_, fun c hc' => ?_, by rw [pick_names]; exact h.nd⟩
  · rw [List.length_map]
    rcases xs with _ | ⟨x, xs⟩
    · exact absurd rfl h.ne
    · simp
  · rw [List.length_map]; have := h.len; have := hc.six; omega
  · obtain ⟨x, hx, rfl⟩ := List.mem_map.mp hc'
    exact h.isW hc x hx
theorem All2.ofMap {α β γ : Type} {P : β → γ → Prop} {f : α → β} {g : α → γ} : ∀ {xs : List α}, (∀ x ∈ xs, P (f x) (g x)) → All2 P (xs.map f) (xs.map g)
  | [], _ => .nil
  | x :: xs, h => .cons (h x List.mem_cons_self) (All2.ofMap fun y hy => h y (List.mem_cons_of_mem _ hy))
theorem pick_row {cs : List Col} {xs : List Str} (h : NmsOk cs xs) {r : Row} (hr : RowOk cs r) : RowOk (xs.map (colN cs)) (pickR cs xs r) := by
  refine All2.ofMap fun x hx => ?_
  obtain ⟨b, e⟩ := Option.isSome_iff_exists.mp (h.kn x hx)
  exact atc_fits hr e _ (by simp [colN, e])
theorem pick_tab {t : Tab} (ht : TabOk t) {xs : List Str} (h : NmsOk t.cs xs) : TabOk (t.pick xs) := ⟨pick_cols ht.cols h, fun r hr => by
  obtain ⟨q, hq, rfl⟩ := List.mem_map.mp hr
  exact pick_row h (ht.rows q hq), by
  show (t.rs.map _).length ≤ 24
  rw [List.length_map]; exact ht.len⟩
theorem plc_pick {cs : List Col} {xs : List Str} (nd : xs.Nodup) {k : Nat} (hk : k < xs.length) : plc (xs.map (colN cs)) xs[k] = some k := by
  have hk' : k < (xs.map (colN cs)).length := by simpa using hk
  have e := plc_at (cs := xs.map (colN cs)) (by rw [pick_names]; exact nd) hk'
  rw [List.getElem_map] at e
  exact e
theorem atc_pick {cs : List Col} {xs : List Str} (nd : xs.Nodup) {x : Str} (hx : x ∈ xs) (r : Row) : atc (xs.map (colN cs)) (pickR cs xs r) x = atc cs r x := by
  obtain ⟨k, hk, rfl⟩ := List.mem_iff_getElem.mp hx
  unfold atc
  rw [plc_pick nd hk]
  show (pickR cs xs r).getD k .non = _
  unfold pickR
  rw [List.getD_eq_getElem?_getD, List.getElem?_map, List.getElem?_eq_getElem hk]
  rfl
theorem knd_pick {cs : List Col} {xs : List Str} (h : NmsOk cs xs) {x : Str} (hx : x ∈ xs) : kndOf (xs.map (colN cs)) x = kndOf cs x := by
  obtain ⟨k, hk, rfl⟩ := List.mem_iff_getElem.mp hx
  obtain ⟨b, e⟩ := Option.isSome_iff_exists.mp (h.kn _ hx)
  have q := plc_pick (cs := cs) h.nd hk
  unfold kndOf at e ⊢
  rw [q, e]
  simp only [Option.bind_some, List.getElem?_map, List.getElem?_eq_getElem hk, Option.map_some, colN]
  have : kndOf cs xs[k] = some b := e
  rw [this]; rfl
theorem pick_pick {t : Tab} {xs ys : List Str} (h : NmsOk t.cs xs) (hs : ∀ y ∈ ys, y ∈ xs) : (t.pick xs).pick ys = t.pick ys := by
  unfold Tab.pick
  simp only [Tab.mk.injEq, List.map_map]
  refine ⟨List.map_congr_left fun y hy => ?_, List.map_congr_left fun r _ => ?_⟩
  · show (⟨y, (kndOf (xs.map (colN t.cs)) y).getD true⟩ : Col) = ⟨y, (kndOf t.cs y).getD true⟩
    rw [knd_pick h (hs y hy)]
  · show pickR _ ys (pickR t.cs xs r) = pickR t.cs ys r
    exact List.map_congr_left fun y hy => atc_pick h.nd (hs y hy) r
end Ss
namespace Pg
open PySem Ss L2
theorem plc_of_knd {cs : List Col} {x : Str} (h : (kndOf cs x).isSome = true) : ∃ k, plc cs x = some k ∧ k < cs.length ∧ cs[k]? = some (colN cs x) ∧ ∀ r : Row, r.getD k .non = atc cs r x := by
  obtain ⟨b, e⟩ := Option.isSome_iff_exists.mp h
  obtain ⟨k, ek, hk, en, ew⟩ := knd_some e
  refine ⟨k, ek, hk, ?_, fun r => by simp only [atc, ek]⟩
  rw [List.getElem?_eq_getElem hk]
  unfold colN
  rw [e]
  cases hc : cs[k] with
  | mk n w => rw [hc] at en ew; cases en; cases ew; rfl
theorem leafS (xs : List Str) : ∀ x ∈ xs, leaf (D.str x) = some (Leaf.text x) := fun _ _ => rfl
theorem text_inj {xs : List Str} (h : xs.Nodup) : (xs.map Leaf.text).Nodup := List.Pairwise.map _ (fun a b hab e => hab (by cases e; rfl)) h
theorem setN_tup {α : Type} {f : α → D} {g : α → Leaf} {xs : List α} (h : ∀ x ∈ xs, leaf (f x) = some (g x)) (hl : xs.length ≤ 4000) : setN (.tup (xs.map f)) = ret (.int (dcn (xs.map g) xs.length)) := by
  simp only [setN, leaves_map h, Option.bind_some]
  simp [hl]
theorem picked_sem {t : Tab} (ht : TabOk t) {xs : List Str} (h : NmsOk t.cs xs) : F_picked.sem [t.d, namesD xs] = ret (t.pick xs).d := by
  refine runF_rt ?_
  have L := look_table_ok ht
  have i0 : idxD t.d (.int 0) = some (colsD t.cs) := rfl
  have i1 : idxD t.d (.int 1) = some (.lst (t.rs.map rowD)) := rfl
  have l6 := h.len
  have s6 := ht.cols.six
  have l0 : ¬ ((xs.length : Int) = 0) := by
    have := h.ne
    cases xs with
    | nil => exact absurd rfl this
    | cons _ _ => simp only [List.length_cons]; omega
  have w := h.isW ht.cols
  have dc : dcn (xs.map Leaf.text) xs.length = xs.length := by
    have := nodup_dcn (text_inj h.nd) xs.length (by simp)
    simpa using this
  have S := setN_tup (leafS xs) (by omega)
  rw [dc] at S
  have PL : ∀ x ∈ xs, plc t.cs x = some ((plc t.cs x).getD 0) ∧ (plc t.cs x).getD 0 < t.cs.length ∧ t.cs[(plc t.cs x).getD 0]? = some (colN t.cs x) ∧ ∀ r : Row, r.getD ((plc t.cs x).getD 0) .non = atc t.cs r x := fun x hx => by
    obtain ⟨k, q1, q2, q3, q4⟩ := plc_of_knd (h.kn x hx)
    rw [q1]; exact ⟨rfl, q2, q3, q4⟩
  obtain ⟨pl, hpl⟩ : ∃ pl : Str → Nat, pl = fun x => (plc t.cs x).getD 0 := ⟨_, rfl⟩
  have p1 : ∀ x ∈ xs, plc t.cs x = some (pl x) := fun x hx => by rw [hpl]; exact (PL x hx).1
  have p2 : ∀ x ∈ xs, pl x < t.cs.length := fun x hx => by rw [hpl]; exact (PL x hx).2.1
  have p3 : ∀ x ∈ xs, t.cs[pl x]? = some (colN t.cs x) := fun x hx => by rw [hpl]; exact (PL x hx).2.2.1
  have p4 : ∀ x ∈ xs, ∀ r : Row, r.getD (pl x) .non = atc t.cs r x := fun x hx => by rw [hpl]; exact (PL x hx).2.2.2
  have C1 : ∀ s2 s3 : Sl, lcs (cb (.isn true (.call F_kind_of [(.idx (.var 0) (.lit (.int 0))), (.var 4)])) (.one 4) [] [4] [.dat t.d, .dat (namesD xs), s2, s3, .emp, .emp, .emp]) (xs.map D.str) = ret (xs.map fun _ => D.bl true) := fun s2 s3 => by
    refine lcs_map fun x hx => ?_
    have K := kind_of_sem ht.cols (gs_word (w x hx)).gd
    obtain ⟨b, e⟩ := Option.isSome_iff_exists.mp (h.kn x hx)
    simp [cb, i0, K, kindR_isN, kndD, e]
  have A : Bi.f .all [.lst (xs.map fun _ => D.bl true)] = some (.bl true) := by
    rw [all_map (fun _ => true) xs]; simp
  simp only [namesD] at C1
  have ne := h.ne
  simp [I_picked, L, namesD, l0, ne]
  rw [C1]
  simp [A, S]
  rw [lcs_map (g := fun x => D.int (pl x)) fun x hx => by
    have P := place_of_sem ht.cols (isW_strOk (w x hx))
    rw [p1 x hx] at P
    simp [cb, i0, P, natR, natD]]
  simp
  rw [lcs_map (em := fun x => D.int (pl x)) (g := fun x => (colN t.cs x).d) fun x hx => by
    simp [cb, i0, colsD, Ss.atI_nat, p3 x hx]]
  simp [i1]
  rw [lcs_map (g := fun r => rowD (pickR t.cs xs r)) fun r hr => ?_]
  · simp [Tab.pick, Tab.d, tabD, colsD, rowsD, Function.comp_def]
  · simp only [cb]
    simp
    rw [lcs_map (em := fun x => D.int (pl x)) (g := fun x => (atc t.cs r x).d) fun x hx => by
      have hk : pl x < r.length := by rw [(ht.rows r hr).len]; exact p2 x hx
      have e : r[pl x]? = some (atc t.cs r x) := by
        rw [← p4 x hx r, List.getD_eq_getElem?_getD, List.getElem?_eq_getElem hk]; rfl
      simp [cb, rowD, Ss.atI_nat, e]]
    simp [pickR, rowD, Function.comp_def]
end Pg
/-! GY: a plan turned; its cells. -/
namespace Pg
open PySem Ss L2
def SK.trn : SK → SK
  | .ofR => .ofC
  | .ofC => .ofR
  | k => k
def Sum.trn : Ss.Sum → Ss.Sum
  | .cnt => .cnt
  | .one k x => .one (SK.trn k) x
def _root_.Ss.Plan.trn (p : Plan) : Plan := ⟨p.ck, p.rk, p.sm.map Sum.trn, p.sf⟩
theorem SK.trn_trn (k : SK) : SK.trn (SK.trn k) = k := by cases k <;> rfl
theorem Sum.trn_trn (s : Ss.Sum) : Sum.trn (Sum.trn s) = s := by
  cases s with
  | cnt => rfl
  | one k x => simp only [Sum.trn, SK.trn_trn]
theorem trn_trn (p : Plan) : p.trn.trn = p := by
  unfold Plan.trn
  cases p
  simp only [List.map_map]
  congr 1
  show List.map (fun s => Sum.trn (Sum.trn s)) _ = _
  rw [List.map_congr_left (g := id) fun s _ => Sum.trn_trn s, List.map_id]
theorem oneR_trn (cs : List Col) (rk ck : List Ss.Key) (rs : List Row) (s : Ss.Sum) (a b : Row) : oneR cs ck rk rs (Sum.trn s) b a = oneR cs rk ck rs s a b := by
  cases s with
  | cnt => simp only [Sum.trn, oneR]; rw [rb_swap]
  | one k x =>
    have e1 := rb_swap cs ck rk rs b a
    have e2 := rb_swap cs ck rk rs [] []
    have e3 := rb_swap cs ck rk rs [] a
    have e4 := rb_swap cs ck rk rs b []
    cases k <;> simp only [Sum.trn, SK.trn, oneR, e1, e2, e3, e4]
theorem cr_trn (t : Tab) (p : Plan) : t.cr p.trn = t.cr p := rfl
theorem cel_trn (t : Tab) (p : Plan) (a b : Row) : t.cel p.trn b a = t.cel p a b := by
  rw [cel_eq, cel_eq]
  show (p.sm.map Sum.trn).map _ = _
  rw [List.map_map]
  refine List.map_congr_left fun s _ => ?_
  exact oneR_trn t.cs p.rk p.ck (t.cr p) s a b
theorem rws_trn (t : Tab) (p : Plan) : t.rws p.trn = t.cls p := by rw [rws_eq, cls_eq]; rfl
theorem cls_trn (t : Tab) (p : Plan) : t.cls p.trn = t.rws p := by rw [rws_eq, cls_eq]; rfl
theorem sum_trn_ok {cs : List Col} {s : Ss.Sum} (h : SumOk cs s) : SumOk cs (Sum.trn s) := by
  cases s with
  | cnt => exact h
  | one k x =>
    cases k <;> first | exact h | skip
    all_goals
      have := (sum_knd h).2 rfl
      exact sum_one (fit_num this)
theorem trn_ok {cs : List Col} {p : Plan} (h : PlanOk cs p) : PlanOk cs p.trn := by
  obtain ⟨h1, h2, h3, h4, h5, h6, h7, h8, h9⟩ := h
  refine ⟨h3, h4, h1, h2, fun k hk => ?_, by simpa [Plan.trn] using h6, by simpa [Plan.trn] using h7, h8, h9⟩
  obtain ⟨s, hs, rfl⟩ := List.mem_map.mp hk
  exact sum_trn_ok (h5 s hs)
theorem w_row (k : SK) : ((Sum.inr ("of row" : Str) : _root_.Sum Int Str) = .inr k.w) = (k = .ofR) := by
  have : decide ((Sum.inr ("of row" : Str) : _root_.Sum Int Str) = .inr k.w) = decide (k = .ofR) := by cases k <;> decide +kernel
  exact propext ⟨fun h => of_decide_eq_true (by rw [← this]; exact decide_eq_true h), fun h => of_decide_eq_true (by rw [this]; exact decide_eq_true h)⟩
theorem w_col (k : SK) : ((Sum.inr ("of column" : Str) : _root_.Sum Int Str) = .inr k.w) = (k = .ofC) := by
  have : decide ((Sum.inr ("of column" : Str) : _root_.Sum Int Str) = .inr k.w) = decide (k = .ofC) := by cases k <;> decide +kernel
  exact propext ⟨fun h => of_decide_eq_true (by rw [← this]; exact decide_eq_true h), fun h => of_decide_eq_true (by rw [this]; exact decide_eq_true h)⟩
theorem w_cnt : ((Sum.inr ("of row" : Str) : _root_.Sum Int Str) = .inr "count") = False ∧ ((Sum.inr ("of column" : Str) : _root_.Sum Int Str) = .inr "count") = False := by
  refine ⟨eq_false ?_, eq_false ?_⟩ <;> decide +kernel
theorem get_trn (s : Ss.Sum) : ∃ w r, s.d = .tup (.str w :: r) ∧ (Sum.trn s).d = .tup ((kget [.inr ("of row" : Str), .inr "of column"] [.str "of column", .str "of row"] (.inr w)).getD (.str w) :: r) ∧ r.length ≤ 1 := by
  cases s with
  | cnt =>
    refine ⟨"count", [], rfl, ?_, by simp⟩
    simp only [kget, w_cnt.1, w_cnt.2, if_false, Sum.trn, Sum.d]
    rfl
  | one k x =>
    refine ⟨k.w, [.str x], rfl, ?_, by simp⟩
    simp only [kget, w_row, w_col]
    cases k <;> simp [Sum.trn, SK.trn, Sum.d, SK.w]
theorem turned_sem {cs : List Col} (hc : ColsOk cs) {p : Plan} (hp : PlanOk cs p) : F_turned.sem [colsD cs, p.d] = ret p.trn.d := by
  have L := look_plan_ok hc hp
  have i0 : idxD p.d (.int 0) = some (keysD p.rk) := rfl
  have i1 : idxD p.d (.int 1) = some (keysD p.ck) := rfl
  have i2 : idxD p.d (.int 2) = some (.tup (p.sm.map Sum.d)) := rfl
  have i3 : idxD p.d (.int 3) = some (siftsD p.sf) := rfl
  have dk : semDictP [.lst [.tup [.str "of row", .str "of column"], .tup [.str "of column", .str "of row"]]] = ret (.dk [.inr "of row", .inr "of column"] [.str "of column", .str "of row"]) := by
    have : prsOf [.tup [.str "of row", .str "of column"], .tup [.str "of column", .str "of row"]] = some [(.inr "of row", .str "of column"), (.inr "of column", .str "of row")] := rfl
    simp only [semDictP, this, Option.map_some, lft_some]
    have ne : (("of row" : Str) = "of column") = False := by
      refine eq_false ?_
      decide +kernel
    simp [kputs, kput, ne]
  refine runF_rt ?_
  simp [I_turned, L, pDictP, dk, anyD, i0, i1, i2, i3]
  rw [lcs_map (g := fun s => (Sum.trn s).d) fun s _ => ?_]
  · simp [Plan.trn, Plan.d, sumsD, List.map_map, Function.comp_def, i0, i1, i3]
  · obtain ⟨w, r, e1, e2, l⟩ := get_trn s
    rw [e1, e2]
    simp [cb, pGet, isDk, semGet, kyOf]
    have c1 : ∀ z : List D, cutL z (some 1) none = z.drop 1 := fun z => cutL_drop z 1
    have oa := op_addT (xs := [(kget [.inr ("of row" : Str), .inr "of column"] [.str "of column", .str "of row"] (.inr w)).getD (.str w)]) (ys := r) (by simp [show sizeLine = 16777216 from rfl]; omega)
    rw [c1]
    simp [oa]
end Pg
/-! GZ: fractions in least words, put together; association lists filled by a rule. -/
namespace Ss
open PySem L2
theorem leastV_neg (a b : Int) : leastV (-a) (-b) = leastV a b := by
  unfold leastV
  rw [Int.gcd_neg, Int.neg_gcd]
  by_cases z : b = 0
  · subst z; rfl
  · rw [if_neg (by omega), if_neg z]
    by_cases n : b < 0
    · rw [if_neg (by omega), if_pos n]
    · rw [if_pos (by omega), if_neg n, Int.neg_neg, Int.neg_neg]
theorem leastV_pos {a b k : Int} (hk : 0 < k) : leastV (a * k) (b * k) = leastV a b := by
  unfold leastV
  have g : (Int.gcd (a * k) (b * k) : Int) = (Int.gcd a b : Int) * k := by
    rw [Int.gcd_mul_right]
    have : ((k.natAbs : Nat) : Int) = k := by omega
    rw [Int.natCast_mul, this]
  rw [g]
  have z0 : (b * k = 0) = (b = 0) := propext ⟨fun h => by rcases Int.mul_eq_zero.mp h with h | h <;> omega, fun h => by rw [h, Int.zero_mul]⟩
  have n0 : (b * k < 0) = (b < 0) := propext ⟨fun h => by
    by_cases q : b < 0
    · exact q
    · have := Int.mul_nonneg (show 0 ≤ b by omega) (show 0 ≤ k by omega); omega, fun h => Int.mul_neg_of_neg_of_pos h hk⟩
  simp only [z0, n0]
  have d : ∀ x : Int, (x * k) / ((Int.gcd a b : Int) * k) = x / (Int.gcd a b : Int) := fun x => Int.mul_ediv_mul_of_pos_left x _ hk
  rw [← Int.neg_mul, ← Int.neg_mul, d, d, d, d]
theorem leastV_mul {a b k : Int} (hk : k ≠ 0) : leastV (a * k) (b * k) = leastV a b := by
  by_cases h : 0 < k
  · exact leastV_pos h
  · rw [← leastV_neg, ← Int.mul_neg, ← Int.mul_neg]
    exact leastV_pos (by omega)
theorem leastV_same {a b c d : Int} (hb : b ≠ 0) (hd : d ≠ 0) (h : a * d = c * b) : leastV a b = leastV c d := by
  rw [← leastV_mul (a := a) (b := b) hd, h, Int.mul_comm b d, leastV_mul hb]
theorem leastV_fr {t u : Int} (h : u ≠ 0) : ∃ p q, leastV t u = .fr p q ∧ 0 < q ∧ q.natAbs ≤ u.natAbs ∧ p.natAbs ≤ t.natAbs ∧ p * u = t * q := by
  unfold leastV
  rw [if_neg h]
  have gp : 0 < (Int.gcd t u : Int) := by have := Int.gcd_pos_of_ne_zero_right t h; omega
  have dv : (Int.gcd t u : Int) ∣ u := Int.gcd_dvd_right t u
  have dt : (Int.gcd t u : Int) ∣ t := Int.gcd_dvd_left t u
  generalize (Int.gcd t u : Int) = g at *
  obtain ⟨u', rfl⟩ := dv
  obtain ⟨t', rfl⟩ := dt
  by_cases hn : g * u' < 0
  · rw [if_pos hn]
    have h1 := ediv_natAbs_le (-(g * t')) gp
    have h2 := ediv_natAbs_le (-(g * u')) gp
    have h3 : 0 < (-(g * u')) / g := Int.ediv_pos_of_pos_of_dvd (by omega) (by omega) (Int.dvd_neg.mpr ⟨u', rfl⟩)
    refine ⟨_, _, rfl, h3, by omega, by omega, ?_⟩
    rw [← Int.mul_neg, ← Int.mul_neg, Int.mul_ediv_cancel_left _ (by omega), Int.mul_ediv_cancel_left _ (by omega)]
    simp only [Int.neg_mul, Int.mul_neg]
    rw [Int.mul_left_comm, Int.mul_assoc]
  · rw [if_neg hn]
    have h1 := ediv_natAbs_le (g * t') gp
    have h2 := ediv_natAbs_le (g * u') gp
    have h3 : 0 < (g * u') / g := Int.ediv_pos_of_pos_of_dvd (by omega) (by omega) ⟨u', rfl⟩
    refine ⟨_, _, rfl, h3, by omega, by omega, ?_⟩
    rw [Int.mul_ediv_cancel_left _ (by omega), Int.mul_ediv_cancel_left _ (by omega), Int.mul_left_comm, Int.mul_assoc]
theorem leastV_zero {u : Int} (h : u ≠ 0) : leastV 0 u = .fr 0 1 := by
  rw [leastV_same (c := 0) (d := 1) h (by decide) (by omega)]; decide
theorem leastV_one {u : Int} (h : u ≠ 0) : leastV u u = .fr 1 1 := by
  rw [leastV_same (c := 1) (d := 1) h (by decide) (by omega)]; decide
theorem alget_put {α β : Type} [DecidableEq α] (a b : α) (v : β) : ∀ l : List (α × β), alget (alput l a v) b = if a = b then some v else alget l b
  | [] => by
    simp only [alput, alget]
  | (c, w) :: l => by
    simp only [alput]
    by_cases h : c = a
    · subst h
      simp only [if_true, alget]
      by_cases q : c = b <;> simp [q]
    · rw [if_neg h]
      simp only [alget]
      rw [alget_put a b v l]
      by_cases q : c = b
      · subst q
        rw [if_pos rfl, if_neg fun z => h z.symm, if_pos rfl]
      · simp [q]
end Ss
/-! The defs of the text in the small language; printed by gen.py. -/
namespace K14
open PySem Ss
def B__law_total_0 : List Stm := [.set (.one 1) (.call Pg.F__law_least [(.op .add (.op .mul (.idx (.var 1) (.lit (.int 0))) (.idx (.var 2) (.lit (.int 1)))) (.op .mul (.idx (.var 2) (.lit (.int 0))) (.idx (.var 1) (.lit (.int 1))))), (.op .mul (.idx (.var 1) (.lit (.int 1))) (.idx (.var 2) (.lit (.int 1))))])]
def I__law_total : List Stm := [.set (.one 1) (.tup [(.lit (.int 0)), (.lit (.int 1))]),
  .for (.one 2) (.var 0) B__law_total_0,
  .ret (.var 1)]
def F__law_total : Fn := ⟨"_law_total", 1, runF 3 I__law_total⟩
@[simp] theorem ar__law_total : F__law_total.ar = 1 := Eq.trans rfl rfl
@[simp] theorem nm__law_total : F__law_total.name = "_law_total" := Eq.trans rfl rfl
def B_law_0 : List Stm := [.dpt 8 (.tup [(.var 9), (.var 12)]) (.idx (.call Pg.F_cell [(.var 2), (.var 6), (.var 9), (.var 12)]) (.lit (.int 0)))]
def B_law_1 : List Stm := [.for (.one 12) (.var 11) B_law_0]
def B_law_2 : List Stm := [.set (.one 15) (.call Pg.F_cell [(.var 2), (.var 6), (.var 9), (.var 12)]),
  .set (.one 16) (.comp (.call Pg.F__law_least [(.idx (.var 15) (.lit (.int 0))), (.var 19)]) (.one 19) (.tup [(.dgi 8 (.tup [(.tup []), (.tup [])])), (.dgi 8 (.tup [(.var 9), (.tup [])])), (.dgi 8 (.tup [(.tup []), (.var 12)]))]) [] [19]),
  .ifs (.cmp .ne (.bi .list [(.slc (.var 15) (some (.lit (.int 1))) none)]) (.var 16)) [.ret (.lit (.bl false))] [],
  .set (.one 17) (.call Pg.F_cell [(.var 2), (.var 7), (.var 12), (.var 9)]),
  .ifs (.cmp .ne (.var 17) (.var 15)) [.ret (.lit (.bl false))] [],
  .ifs (.cmp .eq (.bi .len [(.var 12)]) (.lit (.int 1))) [.app 13 (.idx (.var 15) (.lit (.int 2)))] []]
def B_law_3 : List Stm := [.seto 13 (.lst []),
  .for (.one 12) (.var 11) B_law_2,
  .frz 13,
  .ifs (.bop true [(.cmp .ne (.var 13) (.lst [])), (.cmp .ne (.dgi 8 (.tup [(.var 9), (.tup [])])) (.lit (.int 0))), (.cmp .ne (.call F__law_total [(.var 13)]) (.tup [(.lit (.int 1)), (.lit (.int 1))]))]) [.ret (.lit (.bl false))] []]
def R_13 : List Stm := .ret (.lit (.bl true)) ::
  []
def R_12 : List Stm := .for (.one 9) (.var 10) B_law_3 ::
  R_13
def R_11 : List Stm := .for (.one 9) (.var 10) B_law_1 ::
  R_12
def R_10 : List Stm := .dnw 8 ::
  R_11
def R_9 : List Stm := .set (.many [10, 11]) (.call Pg.F_heads [(.var 2), (.var 6)]) ::
  R_10
def R_8 : List Stm := .ifs (.cmp .ne (.call Pg.F_turned [(.var 3), (.var 7)]) (.var 6)) [.ret (.lit (.bl false))] [] ::
  R_9
def R_7 : List Stm := .ifs (.cmp .ne (.idx (.var 7) (.lit (.int 2))) (.tup [(.tup [(.lit (.str "sum")), (.var 4)]), (.tup [(.lit (.str "of all")), (.var 4)]), (.tup [(.lit (.str "of column")), (.var 4)]), (.tup [(.lit (.str "of row")), (.var 4)])])) [.ret (.lit (.bl false))] [] ::
  R_8
def R_6 : List Stm := .set (.one 7) (.call Pg.F_turned [(.var 3), (.var 6)]) ::
  R_7
def R_5 : List Stm := .set (.one 6) (.op .add (.var 6) (.tup [(.tup [(.tup [(.lit (.str "sum")), (.var 4)]), (.tup [(.lit (.str "of all")), (.var 4)]), (.tup [(.lit (.str "of row")), (.var 4)]), (.tup [(.lit (.str "of column")), (.var 4)])]), (.tup [])])) ::
  R_6
def R_4 : List Stm := .set (.one 6) (.tup [(.bi .tuple [(.slc (.var 5) none (some (.call Pg.F__law_draw [(.var 0), (.var 1), (.lit (.int 3))])))]), (.bi .tuple [(.slc (.var 5) (some (.lit (.int 2))) (some (.op .add (.lit (.int 2)) (.call Pg.F__law_draw [(.var 0), (.var 1), (.lit (.int 3))]))))])]) ::
  R_5
def R_3 : List Stm := .set (.one 5) (.comp (.call Pg.F__law_key [(.var 0), (.var 1), (.var 3)]) (.one 14) (.rng [(.lit (.int 4))]) [] [14]) ::
  R_4
def R_2 : List Stm := .set (.one 4) (.idx (.comp (.var 4) (.many [4, 18]) (.var 3) [(.cmp .eq (.var 18) (.lit (.str "number")))] [4, 18]) (.lit (.int 0))) ::
  R_3
def R_1 : List Stm := .set (.one 3) (.idx (.var 2) (.lit (.int 0))) ::
  R_2
def R_0 : List Stm := .set (.one 2) (.call Pg.F__law_table [(.var 0), (.var 1), (.lit (.int 10))]) ::
  R_1
def I_law : List Stm := R_0
end K14
/-! k14: the law behind its draws. -/
namespace K14
open PySem Ss L2 Pg
theorem total_loop {S : Int} (hS : S ≠ 0) (hS' : S.natAbs < 1000000000) (v0 : D) : ∀ (xs : List Int) (P : Int) (v2 : Sl), (∀ x ∈ xs, x.natAbs < 1000000000) → P.natAbs + xs.length * 1000000000 < 1000000000000 →
    ∃ w, forB (.one 2) B__law_total_0 (xs.map fun s => (leastV s S).d) [.dat v0, .dat (leastV P S).d, v2] = ret (.nx [.dat v0, .dat (leastV (P + xs.sum) S).d, w])
  | [], P, v2, _, _ => ⟨v2, by simp [forB_nil]⟩
  | x :: xs, P, v2, h, hb => by
    obtain ⟨p, q, e1, q0, q1, q2, q3⟩ := leastV_fr (t := P) hS
    obtain ⟨p', q', e2, r0, r1, r2, r3⟩ := leastV_fr (t := x) hS
    have hx := h x List.mem_cons_self
    rw [List.length_cons, Nat.add_mul] at hb
    obtain ⟨w, E⟩ := total_loop hS hS' v0 xs (P + x) (.dat (leastV x S).d) (fun y hy => h y (List.mem_cons_of_mem _ hy)) (by omega)
    refine ⟨w, ?_⟩
    rw [List.map_cons, forB_cons]
    have k : leastV (p * q' + p' * q) (q * q') = leastV (P + x) S := by
      refine leastV_same ?_ hS ?_
      · have := Int.mul_pos q0 r0; omega
      · rw [Int.add_mul, Int.add_mul]
        congr 1
        · rw [Int.mul_right_comm, q3, Int.mul_assoc]
        · rw [Int.mul_right_comm, r3, Int.mul_assoc, Int.mul_comm q' q]
    have w1 : w64 p = true := by simp only [w64, Bool.and_eq_true, decide_eq_true_eq]; omega
    have w2 : w64 p' = true := by simp only [w64, Bool.and_eq_true, decide_eq_true_eq]; omega
    have w3 : w64 q = true := by simp only [w64, Bool.and_eq_true, decide_eq_true_eq]; omega
    have m1 := op_mulL (i := p) (j := q') w1
    have m2 := op_mulL (i := p') (j := q) w2
    have m3 := op_mulL (i := q) (j := q') w3
    have l := mul_lim (a := q) (b := q') (by omega) (by omega)
    have L := law_least_sem (p * q' + p' * q) (u := q * q') (by omega)
    rw [k] at L
    have T : (bnd (lft (Tg.put (.one 2) (leastV x S).d [.dat v0, .dat (leastV P S).d, v2])) fun ρ' => exs B__law_total_0 ρ') = ret (.nx [.dat v0, .dat (leastV (P + x) S).d, .dat (leastV x S).d]) := by
      rw [e1, e2]
      generalize leastV (P + x) S = z at *
      simp only [SV.d]
      simp [B__law_total_0, m1, m2, m3]
      rw [L]
      simp
      rfl
    rw [T, fq_nx, E, List.sum_cons, Int.add_assoc]
theorem total_sem {S : Int} (hS : S ≠ 0) (hS' : S.natAbs < 1000000000) {xs : List Int} (h : ∀ x ∈ xs, x.natAbs < 1000000000) (l : xs.length ≤ 100) (e : xs.sum = S) : F__law_total.sem [.lst (xs.map fun s => (leastV s S).d)] = ret (.tup [.int 1, .int 1]) := by
  refine runF_rt ?_
  obtain ⟨w, E⟩ := total_loop hS hS' (.lst (xs.map fun s => (leastV s S).d)) xs 0 .emp h (by simp; omega)
  rw [leastV_zero hS, Int.zero_add, e, leastV_one hS] at E
  rw [show (SV.fr 0 1).d = .tup [.int 0, .int 1] from rfl, show (SV.fr 1 1).d = .tup [.int 1, .int 1] from rfl] at E
  simp [I__law_total, E]
/-- the plan -/
def pl (rk ck : List Ss.Key) (x : Str) : Plan := ⟨rk, ck, [.one .sum x, .one .ofA x, .one .ofR x, .one .ofC x], []⟩
structure Ok (t : Tab) (rk ck : List Ss.Key) (x : Str) : Prop where
  tb : TabOk t
  a : PlanOk t.cs (pl rk ck x)
  x : kndOf t.cs x = some false
def sm (t : Tab) (rk ck : List Ss.Key) (x : Str) (a b : Row) : Int := (iR t.cs x (rb t.cs rk ck t.rs a b)).sum
theorem cr_pl (t : Tab) (rk ck : List Ss.Key) (x : Str) : t.cr (pl rk ck x) = t.rs := by
  unfold Tab.cr
  rw [List.filter_eq_self]
  intro r _; rfl
theorem cel_pl (t : Tab) (rk ck : List Ss.Key) (x : Str) (a b : Row) : t.cel (pl rk ck x) a b = [.int (sm t rk ck x a b), leastV (sm t rk ck x a b) (sm t rk ck x [] []), leastV (sm t rk ck x a b) (sm t rk ck x a []), leastV (sm t rk ck x a b) (sm t rk ck x [] b)] := by
  rw [cel_eq, cr_pl]
  rfl
theorem sm_lim {t : Tab} {rk ck : List Ss.Key} {x : Str} (h : Ok t rk ck x) (a b : Row) : (sm t rk ck x a b).natAbs < 1000000000 := by
  have := sum_lim h.tb (trs_tsok h.tb h.a) h.x a b
  rw [vals_eq, beh_rows, cr_pl] at this
  exact this
abbrev E14 (ns : List Int) (t : Tab) (rk ck : List Ss.Key) (x : Str) (v5 v8 v9 v12 v13 v15 v16 v17 : Sl) : Ss.Env :=
  [.dat (.scr ns), .dat .town, .dat t.d, .dat (colsD t.cs), .dat (.str x), v5, .dat (pl rk ck x).d, .dat (pl rk ck x).trn.d, v8, v9, .dat (rowsD (t.rws (pl rk ck x))), .dat (rowsD (t.cls (pl rk ck x))), v12, v13, .emp, v15, v16, v17, .emp, .emp]
abbrev pD (k : Row × Row) : D := .tup [rowD k.1, rowD k.2]
def pN (k : Row × Row) : NestedKey := .tup [pk k.1, pk k.2]
theorem topKey_pair (k : Row × Row) : topKey (pD k) = some (pN k) := by
  have k1 := keyOf_row k.1
  have k2 := keyOf_row k.2
  have d1 := pk_depth k.1
  have d2 := pk_depth k.2
  have e : keysOf [rowD k.1, rowD k.2] = some [pk k.1, pk k.2] := by simp only [keysOf, k1, k2, Option.bind_some, Option.map_some]
  have d : (pN k).depth ≤ 8 := by
    simp only [pN, NestedKey.depth, NestedKey.depthAll]
    omega
  simp only [topKey, pD, Ss.keyOf, e, Option.map_some, Option.bind_some]
  rw [if_pos (show (NestedKey.tup [pk k.1, pk k.2]).depth ≤ 8 from d)]
  rfl
theorem pN_inj (a b : Row × Row) (h : pN a = pN b) : a = b := by
  simp only [pN, NestedKey.tup.injEq, List.cons.injEq, and_true] at h
  exact Prod.ext (pk_inj h.1) (pk_inj h.2)
abbrev dic (l : List ((Row × Row) × D)) : Sl := .odc (l.map fun x => pD x.1) (l.map fun x => x.2)
theorem fold_get {α β : Type} [DecidableEq α] (f : α → β) (k : α) : ∀ (ks : List α) (l : List (α × β)), alget (ks.foldl (fun l k => alput l k (f k)) l) k = if k ∈ ks then some (f k) else alget l k
  | [], l => by simp
  | q :: ks, l => by
    rw [List.foldl_cons, fold_get f k ks, alget_put]
    by_cases h : k ∈ ks
    · simp [h]
    · by_cases z : q = k
      · subst z; simp [h]
      · rw [if_neg h, if_neg z, if_neg]
        intro w
        rcases List.mem_cons.mp w with w | w
        · exact z w.symm
        · exact h w
def fill (t : Tab) (rk ck : List Ss.Key) (x : Str) : List ((Row × Row) × D) := (t.rws (pl rk ck x)).foldl (fun l a => (t.cls (pl rk ck x)).foldl (fun l b => alput l (a, b) (.int (sm t rk ck x a b))) l) []
theorem fill_get (t : Tab) (rk ck : List Ss.Key) (x : Str) {a b : Row} (ha : a ∈ t.rws (pl rk ck x)) (hb : b ∈ t.cls (pl rk ck x)) : alget (fill t rk ck x) (a, b) = some (.int (sm t rk ck x a b)) := by
  have e : fill t rk ck x = ((t.rws (pl rk ck x)).flatMap fun a => (t.cls (pl rk ck x)).map fun b => (a, b)).foldl (fun l (k : Row × Row) => alput l k (.int (sm t rk ck x k.1 k.2))) [] := by
    unfold fill
    rw [List.foldl_flatMap]
    congr 1
    funext l a
    rw [List.foldl_map]
  rw [e, fold_get (fun k : Row × Row => D.int (sm t rk ck x k.1 k.2)), if_pos]
  exact List.mem_flatMap.mpr ⟨a, ha, List.mem_map.mpr ⟨b, hb, rfl⟩⟩
theorem cellA {t : Tab} {rk ck : List Ss.Key} {x : Str} (h : Ok t rk ck x) {a b : Row} (ha : a ∈ t.rws (pl rk ck x)) (hb : b ∈ t.cls (pl rk ck x)) : F_cell.sem [t.d, (pl rk ck x).d, rowD a, rowD b] = ret (cellD (t.cel (pl rk ck x) a b)) := cell_sem h.tb h.a ha hb
theorem cellB {t : Tab} {rk ck : List Ss.Key} {x : Str} (h : Ok t rk ck x) {a b : Row} (ha : a ∈ t.rws (pl rk ck x)) (hb : b ∈ t.cls (pl rk ck x)) : F_cell.sem [t.d, (pl rk ck x).trn.d, rowD b, rowD a] = ret (cellD (t.cel (pl rk ck x) a b)) := by
  have := cell_sem h.tb (trn_ok h.a) (a := b) (b := a) (by rw [rws_trn]; exact hb) (by rw [cls_trn]; exact ha)
  rw [cel_trn] at this
  exact this
theorem fill_sem (ns : List Int) {t : Tab} {rk ck : List Ss.Key} {x : Str} (h : Ok t rk ck x) (v5 : Sl) : ∃ v9 v12, forB (.one 9) B_law_1 ((t.rws (pl rk ck x)).map rowD) (E14 ns t rk ck x v5 (dic []) .emp .emp .emp .emp .emp .emp) = ret (.nx (E14 ns t rk ck x v5 (dic (fill t rk ck x)) v9 v12 .emp .emp .emp .emp)) := by
  have lr := rws_len h.tb h.a
  have lc := cls_len h.tb h.a
  have lm : (t.rws (pl rk ck x)).length * (t.cls (pl rk ck x)).length ≤ 97 * 97 := Nat.mul_le_mul lr lc
  obtain ⟨-, t', e⟩ := forB_meas (tg := .one 9) (body := B_law_1) (em := rowD)
    (en := fun (l : List ((Row × Row) × D)) (v : Sl × Sl) => E14 ns t rk ck x v5 (dic l) v.1 v.2 .emp .emp .emp .emp) (st := fun l a => (t.cls (pl rk ck x)).foldl (fun l b => alput l (a, b) (.int (sm t rk ck x a b))) l) (m := List.length) (c := (t.cls (pl rk ck x)).length) (B := 1000000) (xs := t.rws (pl rk ck x)) (s := []) (t := (.emp, .emp))
    (by simp only [List.length_nil]; omega) fun l v a ha hB => by
      obtain ⟨hl, t', e⟩ := forB_meas (tg := .one 12) (body := B_law_0) (em := rowD)
        (en := fun (l : List ((Row × Row) × D)) (v : Sl) => E14 ns t rk ck x v5 (dic l) (.dat (rowD a)) v .emp .emp .emp .emp) (st := fun l b => alput l (a, b) (.int (sm t rk ck x a b))) (m := List.length) (c := 1) (B := 1000000) (xs := t.cls (pl rk ck x)) (s := l) (t := v.2)
        (by omega) fun l v b hb hB => by
          refine ⟨alput_len _ _ _, .dat (rowD b), ?_⟩
          have d := dput_map (em := pD) (nk := pN) topKey_pair pN_inj (a, b) (.int (sm t rk ck x a b)) l
          have tk := topKey_pair (a, b)
          have C := cellA h ha hb
          have i0 : idxD (cellD (t.cel (pl rk ck x) a b)) (.int 0) = some (.int (sm t rk ck x a b)) := by rw [cel_pl]; rfl
          have hl : l.length < 16777216 := by omega
          simp only [pD] at d tk
          simp [B_law_0, C, i0, tk, hl, d]
      refine ⟨by simpa using hl, (.dat (rowD a), t'), ?_⟩
      have it : items (rowsD (t.cls (pl rk ck x))) = some ((t.cls (pl rk ck x)).map rowD) := rfl
      simp [B_law_1, it]
      rw [e]
  exact ⟨t'.1, t'.2, e⟩
def one1 (t : Tab) (rk ck : List Ss.Key) (x : Str) (a b : Row) : List D := if b.length = 1 then [(leastV (sm t rk ck x a b) (sm t rk ck x a [])).d] else []
theorem body_sem (ns : List Int) {t : Tab} {rk ck : List Ss.Key} {x : Str} (h : Ok t rk ck x) (v5 : Sl) {a b : Row} (ha : a ∈ t.rws (pl rk ck x)) (hb : b ∈ t.cls (pl rk ck x)) {s : List D} (hs : s.length + 1 ≤ 1000) (v15 v16 v17 : Sl) :
    ∃ w15 w16 w17, exs B_law_2 (E14 ns t rk ck x v5 (dic (fill t rk ck x)) (.dat (rowD a)) (.dat (rowD b)) (.own s) v15 v16 v17) = ret (.nx (E14 ns t rk ck x v5 (dic (fill t rk ck x)) (.dat (rowD a)) (.dat (rowD b)) (.own (s ++ one1 t rk ck x a b)) w15 w16 w17)) := by
  have C := cellA h ha hb
  have C2 := cellB h ha hb
  have G : ∀ {a b : Row}, a ∈ t.rws (pl rk ck x) → b ∈ t.cls (pl rk ck x) → dget ((fill t rk ck x).map fun x => pD x.1) ((fill t rk ck x).map fun x => x.2) (pN (a, b)) = some (.int (sm t rk ck x a b)) := fun ha hb => by
    rw [dget_map (em := pD) (nk := pN) topKey_pair pN_inj, fill_get t rk ck x ha hb]
  have g0 := G (a := []) (b := []) nil_rws nil_cls
  have g1 := G (b := []) ha nil_cls
  have g2 := G (a := []) nil_rws hb
  have t0 : topKey (.tup [.tup [], .tup []]) = some (pN ([], [])) := topKey_pair ([], [])
  have t1 : topKey (.tup [rowD a, .tup []]) = some (pN (a, [])) := topKey_pair (a, [])
  have t2 : topKey (.tup [.tup [], rowD b]) = some (pN ([], b)) := topKey_pair ([], b)
  have i0 : idxD (cellD (t.cel (pl rk ck x) a b)) (.int 0) = some (.int (sm t rk ck x a b)) := by rw [cel_pl]; rfl
  have i2 : idxD (cellD (t.cel (pl rk ck x) a b)) (.int 2) = some (leastV (sm t rk ck x a b) (sm t rk ck x a [])).d := by rw [cel_pl]; rfl
  have L0 := law_least_sem (sm t rk ck x a b) (u := sm t rk ck x [] []) (by have := sm_lim h [] []; omega)
  have L1 := law_least_sem (sm t rk ck x a b) (u := sm t rk ck x a []) (by have := sm_lim h a []; omega)
  have L2 := law_least_sem (sm t rk ck x a b) (u := sm t rk ck x [] b) (by have := sm_lim h [] b; omega)
  have ct : cutD (cellD (t.cel (pl rk ck x) a b)) (some 1) none = some (.tup [(leastV (sm t rk ck x a b) (sm t rk ck x [] [])).d, (leastV (sm t rk ck x a b) (sm t rk ck x a [])).d, (leastV (sm t rk ck x a b) (sm t rk ck x [] b)).d]) := by
    rw [cel_pl]
    exact congrArg (fun z => some (D.tup z)) (cutL_drop _ 1)
  have N1 := ne_same (gs_lstL (xs := [(leastV (sm t rk ck x a b) (sm t rk ck x [] [])).d, (leastV (sm t rk ck x a b) (sm t rk ck x a [])).d, (leastV (sm t rk ck x a b) (sm t rk ck x [] b)).d]) (n := 1) (fun d hd => by
    simp only [List.mem_cons, List.not_mem_nil, or_false] at hd
    rcases hd with rfl | rfl | rfl <;> exact sv_gs _) (by simp)).okE
  have N2 := ne_same (cell_gs (c := t.cel (pl rk ck x) a b) (by rw [cel_pl]; simp)).okE
  have bl : ∀ a b c : D, Bi.f .list [.tup [a, b, c]] = some (.lst [a, b, c]) := fun _ _ _ => rfl
  have lb : Bi.f .len [rowD b] = some (.int b.length) := by simp [rowD]
  refine ⟨.dat (cellD (t.cel (pl rk ck x) a b)), .dat (.lst [(leastV (sm t rk ck x a b) (sm t rk ck x [] [])).d, (leastV (sm t rk ck x a b) (sm t rk ck x a [])).d, (leastV (sm t rk ck x a b) (sm t rk ck x [] b)).d]), .dat (cellD (t.cel (pl rk ck x) a b)), ?_⟩
  by_cases h1 : b.length = 1
  · have hc : (b.length : Int) = 1 := by omega
    simp [B_law_2, C, C2, Ss.lcs, cb, g0, g1, g2, t0, t1, t2, L0, L1, L2, i0, i2, ct, N1, N2, bl, lb, hc, one1, h1]
    omega
  · have hc : ¬ (b.length : Int) = 1 := by omega
    simp [B_law_2, C, C2, Ss.lcs, cb, g0, g1, g2, t0, t1, t2, L0, L1, L2, i0, i2, ct, N1, N2, bl, lb, hc, one1, h1]
theorem flat1 (t : Tab) (rk ck : List Ss.Key) (x : Str) (a : Row) : ∀ bs : List Row, bs.flatMap (one1 t rk ck x a) = ((bs.filter fun b => decide (b.length = 1)).map fun b => sm t rk ck x a b).map fun s => (leastV s (sm t rk ck x a [])).d
  | [] => rfl
  | b :: bs => by
    rw [List.flatMap_cons, flat1 t rk ck x a bs]
    by_cases h : b.length = 1
    · simp [one1, h]
    · simp [one1, h]
theorem chl_nil (ps : List Row) : chl ps [] = ps.filter fun b => decide (b.length = 1) := by
  unfold chl
  refine List.filter_congr fun q _ => ?_
  simp [beg]
theorem row_sem (ns : List Int) {t : Tab} {rk ck : List Ss.Key} {x : Str} (h : Ok t rk ck x) (v5 : Sl) {a : Row} (ha : a ∈ t.rws (pl rk ck x)) (v12 v13 v15 v16 v17 : Sl) :
    ∃ w12 w13 w15 w16 w17, exs B_law_3 (E14 ns t rk ck x v5 (dic (fill t rk ck x)) (.dat (rowD a)) v12 v13 v15 v16 v17) = ret (.nx (E14 ns t rk ck x v5 (dic (fill t rk ck x)) (.dat (rowD a)) w12 w13 w15 w16 w17)) := by
  have lc := cls_len h.tb h.a
  have lf : ∀ bs : List Row, (bs.flatMap (one1 t rk ck x a)).length ≤ bs.length := fun bs => by
    rw [flat1, List.length_map, List.length_map]; exact List.length_filter_le _ _
  obtain ⟨v, F⟩ := forB_flat (tg := .one 12) (body := B_law_2) (em := rowD) (en := fun (s : List D) (v : Sl × Sl × Sl × Sl) => E14 ns t rk ck x v5 (dic (fill t rk ck x)) (.dat (rowD a)) v.1 (.own s) v.2.1 v.2.2.1 v.2.2.2) (f := one1 t rk ck x a) (B := 100) (xs := t.cls (pl rk ck x)) (s := []) (t := (v12, v15, v16, v17)) (by have := lf (t.cls (pl rk ck x)); simp only [List.length_nil]; omega) fun s v b hb hB => by
      obtain ⟨w15, w16, w17, E⟩ := body_sem ns h v5 ha hb (s := s) (by omega) v.2.1 v.2.2.1 v.2.2.2
      exact ⟨(.dat (rowD b), w15, w16, w17), E⟩
  rw [List.nil_append, flat1, ← chl_nil] at F
  refine ⟨v.1, .dat (.lst (((chl (t.cls (pl rk ck x)) []).map fun b => sm t rk ck x a b).map fun s => (leastV s (sm t rk ck x a [])).d)), v.2.1, v.2.2.1, v.2.2.2, ?_⟩
  have it : items (rowsD (t.cls (pl rk ck x))) = some ((t.cls (pl rk ck x)).map rowD) := rfl
  have g1 : dget ((fill t rk ck x).map fun x => pD x.1) ((fill t rk ck x).map fun x => x.2) (pN (a, [])) = some (.int (sm t rk ck x a [])) := by
    rw [dget_map (em := pD) (nk := pN) topKey_pair pN_inj, fill_get t rk ck x ha nil_cls]
  have t1 : topKey (.tup [rowD a, .tup []]) = some (pN (a, [])) := topKey_pair (a, [])
  have CB : 0 < ck.length → ((chl (t.cls (pl rk ck x)) []).map fun b => sm t rk ck x a b).sum = sm t rk ck x a [] := fun hl => by
    have q := cols_below (t := t) (p := pl rk ck x) (b := []) hl a
    have := perm_sum (iR_perm (cs := t.cs) (x := x) q)
    rw [iR_flat, sum_flat, cr_pl] at this
    exact this
  have C0 : ck.length = 0 → chl (t.cls (pl rk ck x)) [] = [] := fun hl => chl_full (n := 0) (fun q hq => by have := (cls_ok h.tb h.a q hq).2; rw [show (pl rk ck x).ck = ck from rfl, hl] at this; exact this) (by simp)
  have lx : (chl (t.cls (pl rk ck x)) []).length ≤ 97 := Nat.le_trans (List.length_filter_le _ _) lc
  generalize chl (t.cls (pl rk ck x)) [] = cl at *
  have N0 : Cm.f .ne (.lst ((cl.map fun b => sm t rk ck x a b).map fun s => (leastV s (sm t rk ck x a [])).d)) (.lst []) = some (!cl.isEmpty) := by
    have e : (D.lst []).okE = true := by decide +kernel
    rw [cm_ne (gs_lst (f := fun s => (leastV s (sm t rk ck x a [])).d) (n := 1) (fun _ _ => sv_gs _) (by rw [List.length_map]; omega)).okE e]
    cases cl <;> simp [D.eqv, D.eqvs]
  have N1 : Cm.f .ne (.tup [.int 1, .int 1]) (.tup [.int 1, .int 1]) = some false := by decide +kernel
  have T : cl ≠ [] → sm t rk ck x a [] ≠ 0 → F__law_total.sem [.lst ((cl.map fun b => sm t rk ck x a b).map fun s => (leastV s (sm t rk ck x a [])).d)] = ret (.tup [.int 1, .int 1]) := fun h1 h2 => by
    refine total_sem h2 (sm_lim h a []) (fun y hy => ?_) (by rw [List.length_map]; omega) (CB ?_)
    · obtain ⟨b, _, rfl⟩ := List.mem_map.mp hy
      exact sm_lim h a b
    · by_cases z : ck.length = 0
      · exact absurd (C0 z) h1
      · omega
  have G : ∀ L : List D, L = ((cl.map fun b => sm t rk ck x a b).map fun s => (leastV s (sm t rk ck x a [])).d) → ∀ ρ, ρ = E14 ns t rk ck x v5 (dic (fill t rk ck x)) (.dat (rowD a)) v.1 (.dat (.lst L)) v.2.1 v.2.2.1 v.2.2.2 → exs [.ifs (.bop true [(.cmp .ne (.var 13) (.lst [])), (.cmp .ne (.dgi 8 (.tup [(.var 9), (.tup [])])) (.lit (.int 0))), (.cmp .ne (.call F__law_total [(.var 13)]) (.tup [(.lit (.int 1)), (.lit (.int 1))]))]) [.ret (.lit (.bl false))] []] ρ = ret (.nx ρ) := fun L hL ρ hρ => by
    rw [← hL] at N0 T
    rw [hρ]
    by_cases h1 : cl = []
    · rw [h1] at N0
      have N0 : Cm.f .ne (.lst L) (.lst []) = some false := N0
      simp [N0]
    · have e1 : (!cl.isEmpty) = true := by simpa using h1
      rw [e1] at N0
      by_cases h2 : sm t rk ck x a [] = 0
      · simp [N0, t1, g1, h2]
      · simp [N0, t1, g1, h2, T h1 h2, N1]
  have G' := G _ rfl _ rfl
  simp only [B_law_3]
  refine (exs_step (ρ' := E14 ns t rk ck x v5 (dic (fill t rk ck x)) (.dat (rowD a)) v12 (.own []) v15 v16 v17) ?_).trans ((exs_step (ρ' := E14 ns t rk ck x v5 (dic (fill t rk ck x)) (.dat (rowD a)) v.1 (.own ((cl.map fun b => sm t rk ck x a b).map fun s => (leastV s (sm t rk ck x a [])).d)) v.2.1 v.2.2.1 v.2.2.2) ?_).trans ((exs_step ?_).trans G'))
  · simp
  · simp only [ex_for]
    rw [List.map_map] at F
    simp [it]
    exact F
  · simp
end K14
set_option maxHeartbeats 0
/-! The text is what P says; the head. Printed by gen.py. -/
namespace K14
open PySem PySem.Spec PyProof.Rows L2 Ss
abbrev prg : Program := PySem.Challenge.pw_sumsheets_k14_whole_of
def top (i : Nat) : Stmt := prg.main.body.getD i (.Pass ⟨0, 0, 0, 0⟩)
abbrev s_divisor : Stmt := top 7
abbrev s_least : Stmt := top 8
abbrev s_is_whole : Stmt := top 16
abbrev s_is_word : Stmt := top 17
abbrev s_is_value : Stmt := top 18
abbrev s_are_columns : Stmt := top 19
abbrev s_look_columns : Stmt := top 20
abbrev s_look_row : Stmt := top 21
abbrev s_look_table : Stmt := top 22
abbrev s_place_of : Stmt := top 23
abbrev s_kind_of : Stmt := top 24
abbrev s_rank : Stmt := top 25
abbrev s_ranked : Stmt := top 26
abbrev s_is_key : Stmt := top 33
abbrev s_is_sum : Stmt := top 34
abbrev s_is_sift : Stmt := top 35
abbrev s_are_all : Stmt := top 36
abbrev s_look_plan : Stmt := top 37
abbrev s_key_in : Stmt := top 38
abbrev s_path_in : Stmt := top 39
abbrev s_counts : Stmt := top 40
abbrev s_turned : Stmt := top 41
abbrev s_look_all : Stmt := top 43
abbrev s_counted : Stmt := top 44
abbrev s_with_heads : Stmt := top 45
abbrev s_sides : Stmt := top 46
abbrev s_heads : Stmt := top 47
abbrev s_begins : Stmt := top 48
abbrev s_members : Stmt := top 49
abbrev s_values_of : Stmt := top 50
abbrev s_one_sum : Stmt := top 51
abbrev s_cell_of : Stmt := top 52
abbrev s_look_place : Stmt := top 53
abbrev s_cell : Stmt := top 54
abbrev s__law_cell : Stmt := top 56
abbrev s__law_mix : Stmt := top 57
abbrev s__law_draw : Stmt := top 58
abbrev s__law_pick : Stmt := top 59
abbrev s__law_word : Stmt := top 60
abbrev s__law_value : Stmt := top 61
abbrev s__law_columns : Stmt := top 62
abbrev s__law_row : Stmt := top 63
abbrev s__law_table : Stmt := top 64
abbrev s__law_key : Stmt := top 65
abbrev s__law_sum : Stmt := top 66
abbrev s__law_sift : Stmt := top 67
abbrev s__law_plan : Stmt := top 68
abbrev s__law_least : Stmt := top 69
abbrev s__law_total : Stmt := top 70
abbrev s_law : Stmt := top 71
def d_divisor : He.DefD := ⟨("divisor", none), "divisor", "divisor", defArgs s_divisor, defBody s_divisor, defScope s_divisor, [], []⟩
def d_least : He.DefD := ⟨("least", none), "least", "least", defArgs s_least, defBody s_least, defScope s_least, [], []⟩
def d_is_whole : He.DefD := ⟨("is_whole", none), "is_whole", "is_whole", defArgs s_is_whole, defBody s_is_whole, defScope s_is_whole, [], []⟩
def d_is_word : He.DefD := ⟨("is_word", none), "is_word", "is_word", defArgs s_is_word, defBody s_is_word, defScope s_is_word, [], []⟩
def d_is_value : He.DefD := ⟨("is_value", none), "is_value", "is_value", defArgs s_is_value, defBody s_is_value, defScope s_is_value, [], []⟩
def d_are_columns : He.DefD := ⟨("are_columns", none), "are_columns", "are_columns", defArgs s_are_columns, defBody s_are_columns, defScope s_are_columns, [], []⟩
def d_look_columns : He.DefD := ⟨("look_columns", none), "look_columns", "look_columns", defArgs s_look_columns, defBody s_look_columns, defScope s_look_columns, [], []⟩
def d_look_row : He.DefD := ⟨("look_row", none), "look_row", "look_row", defArgs s_look_row, defBody s_look_row, defScope s_look_row, [], []⟩
def d_look_table : He.DefD := ⟨("look_table", none), "look_table", "look_table", defArgs s_look_table, defBody s_look_table, defScope s_look_table, [], []⟩
def d_place_of : He.DefD := ⟨("place_of", none), "place_of", "place_of", defArgs s_place_of, defBody s_place_of, defScope s_place_of, [], []⟩
def d_kind_of : He.DefD := ⟨("kind_of", none), "kind_of", "kind_of", defArgs s_kind_of, defBody s_kind_of, defScope s_kind_of, [], []⟩
def d_rank : He.DefD := ⟨("rank", none), "rank", "rank", defArgs s_rank, defBody s_rank, defScope s_rank, [], []⟩
def d_ranked : He.DefD := ⟨("ranked", none), "ranked", "ranked", defArgs s_ranked, defBody s_ranked, defScope s_ranked, [], []⟩
def d_is_key : He.DefD := ⟨("is_key", none), "is_key", "is_key", defArgs s_is_key, defBody s_is_key, defScope s_is_key, [], []⟩
def d_is_sum : He.DefD := ⟨("is_sum", none), "is_sum", "is_sum", defArgs s_is_sum, defBody s_is_sum, defScope s_is_sum, [], []⟩
def d_is_sift : He.DefD := ⟨("is_sift", none), "is_sift", "is_sift", defArgs s_is_sift, defBody s_is_sift, defScope s_is_sift, [], []⟩
def d_are_all : He.DefD := ⟨("are_all", none), "are_all", "are_all", defArgs s_are_all, defBody s_are_all, defScope s_are_all, [], []⟩
def d_look_plan : He.DefD := ⟨("look_plan", none), "look_plan", "look_plan", defArgs s_look_plan, defBody s_look_plan, defScope s_look_plan, [], []⟩
def d_key_in : He.DefD := ⟨("key_in", none), "key_in", "key_in", defArgs s_key_in, defBody s_key_in, defScope s_key_in, [], []⟩
def d_path_in : He.DefD := ⟨("path_in", none), "path_in", "path_in", defArgs s_path_in, defBody s_path_in, defScope s_path_in, [], []⟩
def d_counts : He.DefD := ⟨("counts", none), "counts", "counts", defArgs s_counts, defBody s_counts, defScope s_counts, [], []⟩
def d_turned : He.DefD := ⟨("turned", none), "turned", "turned", defArgs s_turned, defBody s_turned, defScope s_turned, [], []⟩
def d_look_all : He.DefD := ⟨("look_all", none), "look_all", "look_all", defArgs s_look_all, defBody s_look_all, defScope s_look_all, [], []⟩
def d_counted : He.DefD := ⟨("counted", none), "counted", "counted", defArgs s_counted, defBody s_counted, defScope s_counted, [], []⟩
def d_with_heads : He.DefD := ⟨("with_heads", none), "with_heads", "with_heads", defArgs s_with_heads, defBody s_with_heads, defScope s_with_heads, [], []⟩
def d_sides : He.DefD := ⟨("sides", none), "sides", "sides", defArgs s_sides, defBody s_sides, defScope s_sides, [], []⟩
def d_heads : He.DefD := ⟨("heads", none), "heads", "heads", defArgs s_heads, defBody s_heads, defScope s_heads, [], []⟩
def d_begins : He.DefD := ⟨("begins", none), "begins", "begins", defArgs s_begins, defBody s_begins, defScope s_begins, [], []⟩
def d_members : He.DefD := ⟨("members", none), "members", "members", defArgs s_members, defBody s_members, defScope s_members, [], []⟩
def d_values_of : He.DefD := ⟨("values_of", none), "values_of", "values_of", defArgs s_values_of, defBody s_values_of, defScope s_values_of, [], []⟩
def d_one_sum : He.DefD := ⟨("one_sum", none), "one_sum", "one_sum", defArgs s_one_sum, defBody s_one_sum, defScope s_one_sum, [], []⟩
def d_cell_of : He.DefD := ⟨("cell_of", none), "cell_of", "cell_of", defArgs s_cell_of, defBody s_cell_of, defScope s_cell_of, [], []⟩
def d_look_place : He.DefD := ⟨("look_place", none), "look_place", "look_place", defArgs s_look_place, defBody s_look_place, defScope s_look_place, [], []⟩
def d_cell : He.DefD := ⟨("cell", none), "cell", "cell", defArgs s_cell, defBody s_cell, defScope s_cell, [], []⟩
def d__law_cell : He.DefD := ⟨("_law_cell", none), "_law_cell", "_law_cell", defArgs s__law_cell, defBody s__law_cell, defScope s__law_cell, [], []⟩
def d__law_mix : He.DefD := ⟨("_law_mix", none), "_law_mix", "_law_mix", defArgs s__law_mix, defBody s__law_mix, defScope s__law_mix, [], []⟩
def d__law_draw : He.DefD := ⟨("_law_draw", none), "_law_draw", "_law_draw", defArgs s__law_draw, defBody s__law_draw, defScope s__law_draw, [], []⟩
def d__law_pick : He.DefD := ⟨("_law_pick", none), "_law_pick", "_law_pick", defArgs s__law_pick, defBody s__law_pick, defScope s__law_pick, [], []⟩
def d__law_word : He.DefD := ⟨("_law_word", none), "_law_word", "_law_word", defArgs s__law_word, defBody s__law_word, defScope s__law_word, [], []⟩
def d__law_value : He.DefD := ⟨("_law_value", none), "_law_value", "_law_value", defArgs s__law_value, defBody s__law_value, defScope s__law_value, [], []⟩
def d__law_columns : He.DefD := ⟨("_law_columns", none), "_law_columns", "_law_columns", defArgs s__law_columns, defBody s__law_columns, defScope s__law_columns, [], []⟩
def d__law_row : He.DefD := ⟨("_law_row", none), "_law_row", "_law_row", defArgs s__law_row, defBody s__law_row, defScope s__law_row, [], []⟩
def d__law_table : He.DefD := ⟨("_law_table", none), "_law_table", "_law_table", defArgs s__law_table, defBody s__law_table, defScope s__law_table, [], []⟩
def d__law_key : He.DefD := ⟨("_law_key", none), "_law_key", "_law_key", defArgs s__law_key, defBody s__law_key, defScope s__law_key, [], []⟩
def d__law_sum : He.DefD := ⟨("_law_sum", none), "_law_sum", "_law_sum", defArgs s__law_sum, defBody s__law_sum, defScope s__law_sum, [], []⟩
def d__law_sift : He.DefD := ⟨("_law_sift", none), "_law_sift", "_law_sift", defArgs s__law_sift, defBody s__law_sift, defScope s__law_sift, [], []⟩
def d__law_plan : He.DefD := ⟨("_law_plan", none), "_law_plan", "_law_plan", defArgs s__law_plan, defBody s__law_plan, defScope s__law_plan, [], []⟩
def d__law_least : He.DefD := ⟨("_law_least", none), "_law_least", "_law_least", defArgs s__law_least, defBody s__law_least, defScope s__law_least, [], []⟩
def d__law_total : He.DefD := ⟨("_law_total", none), "_law_total", "_law_total", defArgs s__law_total, defBody s__law_total, defScope s__law_total, [], []⟩
def d_law : He.DefD := ⟨("law", none), "law", "law", defArgs s_law, defBody s_law, defScope s_law, [], []⟩
def fns : List He.DefD := [d_divisor, d_least, d_is_whole, d_is_word, d_is_value, d_are_columns, d_look_columns, d_look_row, d_look_table, d_place_of, d_kind_of, d_rank, d_ranked, d_is_key, d_is_sum, d_is_sift, d_are_all, d_look_plan, d_key_in, d_path_in, d_counts, d_turned, d_look_all, d_counted, d_with_heads, d_sides, d_heads, d_begins, d_members, d_values_of, d_one_sum, d_cell_of, d_look_place, d_cell, d__law_cell, d__law_mix, d__law_draw, d__law_pick, d__law_word, d__law_value, d__law_columns, d__law_row, d__law_table, d__law_key, d__law_sum, d__law_sift, d__law_plan, d__law_least, d__law_total, d_law]
def fas : List He.Fa := [.glo "SheetError", .glo "BadTable", .glo "BadRow", .glo "BadPlan", .glo "NoPlace", .glo "divisor", .glo "least", .glo "KINDS", .glo "is_whole", .glo "is_word", .glo "is_value", .glo "are_columns", .glo "look_columns", .glo "look_row", .glo "look_table", .glo "place_of", .glo "kind_of", .glo "rank", .glo "ranked", .glo "OF_NUMBERS", .glo "SHARES", .glo "is_key", .glo "is_sum", .glo "is_sift", .glo "are_all", .glo "look_plan", .glo "key_in", .glo "path_in", .glo "counts", .glo "turned", .glo "look_all", .glo "counted", .glo "with_heads", .glo "sides", .glo "heads", .glo "begins", .glo "members", .glo "values_of", .glo "one_sum", .glo "cell_of", .glo "look_place", .glo "cell", .glo "_law_cell", .glo "_law_mix", .glo "_law_draw", .glo "_law_pick", .glo "_law_word", .glo "_law_value", .glo "_law_columns", .glo "_law_row", .glo "_law_table", .glo "_law_key", .glo "_law_sum", .glo "_law_sift", .glo "_law_plan", .glo "_law_least", .glo "_law_total", .glo "law", .str "SMALL" "abcdefghijklmnopqrstuvwxyz", .int "MOST_COLUMNS" 6, .int "MOST_ROWS" 24, .int "MOST_WORD" 8, .int "MOST_NUMBER" 1000000, .int "MOST_KEYS" 3, .int "MOST_SUMS" 4, .int "MOST_SIFTS" 3, .exc "SheetError", .exc "BadTable", .exc "BadRow", .exc "BadPlan", .exc "NoPlace", .free "len", .free "all", .free "max", .free "int", .free "list", .free "tuple", .free "isinstance", .free "set", .free "range", .free "bool", .free "str", .free "abs", .free "min", .free "sum", .free "any", .free "sorted", .free "dict", .free "zip", .free "ValueError"]
def exs_ (K : PySem.W.Frag) : Bool := He.tupB K "KINDS" ((["word", "number"] : List Str).map He.Dv.str) && He.tupB K "OF_NUMBERS" ((["sum", "least", "greatest", "mean"] : List Str).map He.Dv.str) && He.tupB K "SHARES" ((["of all", "of row", "of column"] : List Str).map He.Dv.str)
abbrev R : PySem.W.OpenRow := PySem.W.OpenLaw.row PySem.Challenge.rw_sumsheets_k14_whole_of
abbrev hk : PySem.W.Hook := hookS 4 fas fns exs_
def ob (s : PySem.W.SharedT) : He.AlD × Bool := obsSG 4 fas fns exs_ (HandSHeadRun.getT s)
theorem ob_eq (s : PySem.W.SharedT) : ob s = hk.obs s.abs := obsSG_eq (HandSHeadRun.getT_eq s)
def loose : List Str := (["__name__", "SheetError", "BadTable", "BadRow", "BadPlan", "NoPlace", "divisor", "least", "SMALL", "MOST_COLUMNS", "MOST_ROWS", "MOST_WORD", "MOST_NUMBER", "KINDS", "is_whole", "is_word", "is_value", "are_columns", "look_columns", "look_row", "look_table", "place_of", "kind_of", "rank", "ranked", "MOST_KEYS", "MOST_SUMS", "MOST_SIFTS", "OF_NUMBERS", "SHARES"] : List Str) ++ (["is_key", "is_sum", "is_sift", "are_all", "look_plan", "key_in", "path_in", "counts", "turned", "look_all", "counted", "with_heads", "sides", "heads", "begins", "members", "values_of", "one_sum", "cell_of", "look_place", "cell", "_law_cell", "_law_mix", "_law_draw", "_law_pick", "_law_word", "_law_value", "_law_columns", "_law_row", "_law_table"] : List Str) ++ (["_law_key", "_law_sum", "_law_sift", "_law_plan", "_law_least", "_law_total"] : List Str)
theorem run (w : World) : HandSHeadRun.RunEq R (PySem.W.view R.prog [71]) hk ob 20000 loose w := by
  intro os
  kernel_rfl
def N_divisor : List Str := ["one", "other"]
theorem sc_divisor : FnScope N_divisor ["one", "other"] (defScope s_divisor) := ⟨rfl, rfl, rfl, by decide +kernel, rfl, by decide +kernel, by decide +kernel⟩
theorem ck_divisor : chkSs N_divisor (defScope s_divisor) (fun _ => true) Pg.I_divisor (defBody s_divisor) = true := by decide +kernel
def N_least : List Str := ["top", "under", "both"]
theorem sc_least : FnScope N_least ["top", "under"] (defScope s_least) := ⟨rfl, rfl, rfl, by decide +kernel, rfl, by decide +kernel, by decide +kernel⟩
theorem ck_least : chkSs N_least (defScope s_least) (fun _ => true) Pg.I_least (defBody s_least) = true := by decide +kernel
def N_is_whole : List Str := ["thing", "low", "most"]
theorem sc_is_whole : FnScope N_is_whole ["thing", "low", "most"] (defScope s_is_whole) := ⟨rfl, rfl, rfl, by decide +kernel, rfl, by decide +kernel, by decide +kernel⟩
theorem ck_is_whole : chkSs N_is_whole (defScope s_is_whole) (fun _ => true) Pg.I_is_whole (defBody s_is_whole) = true := by decide +kernel
def N_is_word : List Str := ["thing", "sign"]
theorem sc_is_word : FnScope N_is_word ["thing"] (defScope s_is_word) := ⟨rfl, rfl, rfl, by decide +kernel, rfl, by decide +kernel, by decide +kernel⟩
theorem ck_is_word : chkSs N_is_word (defScope s_is_word) (fun _ => true) Pg.I_is_word (defBody s_is_word) = true := by decide +kernel
def N_is_value : List Str := ["kind", "thing"]
theorem sc_is_value : FnScope N_is_value ["kind", "thing"] (defScope s_is_value) := ⟨rfl, rfl, rfl, by decide +kernel, rfl, by decide +kernel, by decide +kernel⟩
theorem ck_is_value : chkSs N_is_value (defScope s_is_value) (fun _ => true) Pg.I_is_value (defBody s_is_value) = true := by decide +kernel
def N_are_columns : List Str := ["thing", "one"]
theorem sc_are_columns : FnScope N_are_columns ["thing"] (defScope s_are_columns) := ⟨rfl, rfl, rfl, by decide +kernel, rfl, by decide +kernel, by decide +kernel⟩
theorem ck_are_columns : chkSs N_are_columns (defScope s_are_columns) (fun _ => true) Pg.I_are_columns (defBody s_are_columns) = true := by decide +kernel
def N_look_columns : List Str := ["columns"]
theorem sc_look_columns : FnScope N_look_columns ["columns"] (defScope s_look_columns) := ⟨rfl, rfl, rfl, by decide +kernel, rfl, by decide +kernel, by decide +kernel⟩
theorem ck_look_columns : chkSs N_look_columns (defScope s_look_columns) (fun _ => true) Pg.I_look_columns (defBody s_look_columns) = true := by decide +kernel
def N_look_row : List Str := ["columns", "row", "k"]
theorem sc_look_row : FnScope N_look_row ["columns", "row"] (defScope s_look_row) := ⟨rfl, rfl, rfl, by decide +kernel, rfl, by decide +kernel, by decide +kernel⟩
theorem ck_look_row : chkSs N_look_row (defScope s_look_row) (fun _ => true) Pg.I_look_row (defBody s_look_row) = true := by decide +kernel
def N_look_table : List Str := ["table", "row"]
theorem sc_look_table : FnScope N_look_table ["table"] (defScope s_look_table) := ⟨rfl, rfl, rfl, by decide +kernel, rfl, by decide +kernel, by decide +kernel⟩
theorem ck_look_table : chkSs N_look_table (defScope s_look_table) (fun _ => true) Pg.I_look_table (defBody s_look_table) = true := by decide +kernel
def N_place_of : List Str := ["columns", "name", "some", "k"]
theorem sc_place_of : FnScope N_place_of ["columns", "name"] (defScope s_place_of) := ⟨rfl, rfl, rfl, by decide +kernel, rfl, by decide +kernel, by decide +kernel⟩
theorem ck_place_of : chkSs N_place_of (defScope s_place_of) (fun _ => true) Pg.I_place_of (defBody s_place_of) = true := by decide +kernel
def N_kind_of : List Str := ["columns", "name", "place"]
theorem sc_kind_of : FnScope N_kind_of ["columns", "name"] (defScope s_kind_of) := ⟨rfl, rfl, rfl, by decide +kernel, rfl, by decide +kernel, by decide +kernel⟩
theorem ck_kind_of : chkSs N_kind_of (defScope s_kind_of) (fun _ => true) Pg.I_kind_of (defBody s_kind_of) = true := by decide +kernel
def N_rank : List Str := ["value"]
theorem sc_rank : FnScope N_rank ["value"] (defScope s_rank) := ⟨rfl, rfl, rfl, by decide +kernel, rfl, by decide +kernel, by decide +kernel⟩
theorem ck_rank : chkSs N_rank (defScope s_rank) (fun _ => true) Pg.I_rank (defBody s_rank) = true := by decide +kernel
def N_ranked : List Str := ["path", "value"]
theorem sc_ranked : FnScope N_ranked ["path"] (defScope s_ranked) := ⟨rfl, rfl, rfl, by decide +kernel, rfl, by decide +kernel, by decide +kernel⟩
theorem ck_ranked : chkSs N_ranked (defScope s_ranked) (fun _ => true) Pg.I_ranked (defBody s_ranked) = true := by decide +kernel
def N_is_key : List Str := ["columns", "thing"]
theorem sc_is_key : FnScope N_is_key ["columns", "thing"] (defScope s_is_key) := ⟨rfl, rfl, rfl, by decide +kernel, rfl, by decide +kernel, by decide +kernel⟩
theorem ck_is_key : chkSs N_is_key (defScope s_is_key) (fun _ => true) Pg.I_is_key (defBody s_is_key) = true := by decide +kernel
def N_is_sum : List Str := ["columns", "thing"]
theorem sc_is_sum : FnScope N_is_sum ["columns", "thing"] (defScope s_is_sum) := ⟨rfl, rfl, rfl, by decide +kernel, rfl, by decide +kernel, by decide +kernel⟩
theorem ck_is_sum : chkSs N_is_sum (defScope s_is_sum) (fun _ => true) Pg.I_is_sum (defBody s_is_sum) = true := by decide +kernel
def N_is_sift : List Str := ["columns", "thing", "kind", "one"]
theorem sc_is_sift : FnScope N_is_sift ["columns", "thing"] (defScope s_is_sift) := ⟨rfl, rfl, rfl, by decide +kernel, rfl, by decide +kernel, by decide +kernel⟩
theorem ck_is_sift : chkSs N_is_sift (defScope s_is_sift) (fun _ => true) Pg.I_is_sift (defBody s_is_sift) = true := by decide +kernel
def N_are_all : List Str := ["some", "most", "test", "columns", "one"]
theorem sc_are_all : FnScope N_are_all ["some", "most", "test", "columns"] (defScope s_are_all) := ⟨rfl, rfl, rfl, by decide +kernel, rfl, by decide +kernel, by decide +kernel⟩
theorem ck_are_all : chkSs N_are_all (defScope s_are_all) (fun _ => true) Pg.I_are_all (defBody s_are_all) = true := by decide +kernel
def N_look_plan : List Str := ["columns", "plan"]
theorem sc_look_plan : FnScope N_look_plan ["columns", "plan"] (defScope s_look_plan) := ⟨rfl, rfl, rfl, by decide +kernel, rfl, by decide +kernel, by decide +kernel⟩
theorem ck_look_plan : chkSs N_look_plan (defScope s_look_plan) (fun _ => true) Pg.I_look_plan (defBody s_look_plan) = true := by decide +kernel
def N_key_in : List Str := ["columns", "key", "row", "value"]
theorem sc_key_in : FnScope N_key_in ["columns", "key", "row"] (defScope s_key_in) := ⟨rfl, rfl, rfl, by decide +kernel, rfl, by decide +kernel, by decide +kernel⟩
theorem ck_key_in : chkSs N_key_in (defScope s_key_in) (fun _ => true) Pg.I_key_in (defBody s_key_in) = true := by decide +kernel
def N_path_in : List Str := ["columns", "keys", "row", "key"]
theorem sc_path_in : FnScope N_path_in ["columns", "keys", "row"] (defScope s_path_in) := ⟨rfl, rfl, rfl, by decide +kernel, rfl, by decide +kernel, by decide +kernel⟩
theorem ck_path_in : chkSs N_path_in (defScope s_path_in) (fun _ => true) Pg.I_path_in (defBody s_path_in) = true := by decide +kernel
def N_counts : List Str := ["columns", "sifts", "row", "sift", "value"]
theorem sc_counts : FnScope N_counts ["columns", "sifts", "row"] (defScope s_counts) := ⟨rfl, rfl, rfl, by decide +kernel, rfl, by decide +kernel, by decide +kernel⟩
theorem ck_counts : chkSs N_counts (defScope s_counts) (fun _ => true) Pg.I_counts (defBody s_counts) = true := by decide +kernel
def N_turned : List Str := ["columns", "plan", "other", "sums", "one"]
theorem sc_turned : FnScope N_turned ["columns", "plan"] (defScope s_turned) := ⟨rfl, rfl, rfl, by decide +kernel, rfl, by decide +kernel, by decide +kernel⟩
theorem ck_turned : chkSs N_turned (defScope s_turned) (fun _ => true) Pg.I_turned (defBody s_turned) = true := by decide +kernel
def N_look_all : List Str := ["table", "plan"]
theorem sc_look_all : FnScope N_look_all ["table", "plan"] (defScope s_look_all) := ⟨rfl, rfl, rfl, by decide +kernel, rfl, by decide +kernel, by decide +kernel⟩
theorem ck_look_all : chkSs N_look_all (defScope s_look_all) (fun _ => true) Pg.I_look_all (defBody s_look_all) = true := by decide +kernel
def N_counted : List Str := ["table", "plan", "found", "k", "columns", "rows"]
theorem sc_counted : FnScope N_counted ["table", "plan"] (defScope s_counted) := ⟨rfl, rfl, rfl, by decide +kernel, rfl, by decide +kernel, by decide +kernel⟩
theorem ck_counted : chkSs N_counted (defScope s_counted) (fun _ => true) Pg.I_counted (defBody s_counted) = true := by decide +kernel
def N_with_heads : List Str := ["paths", "size", "found", "path", "turn", "k", "order"]
theorem sc_with_heads : FnScope N_with_heads ["paths", "size"] (defScope s_with_heads) := ⟨rfl, rfl, rfl, by decide +kernel, rfl, by decide +kernel, by decide +kernel⟩
theorem ck_with_heads : chkSs N_with_heads (defScope s_with_heads) (fun _ => true) Pg.I_with_heads (defBody s_with_heads) = true := by decide +kernel
def N_sides : List Str := ["table", "plan", "some", "rows", "one"]
theorem sc_sides : FnScope N_sides ["table", "plan"] (defScope s_sides) := ⟨rfl, rfl, rfl, by decide +kernel, rfl, by decide +kernel, by decide +kernel⟩
theorem ck_sides : chkSs N_sides (defScope s_sides) (fun _ => true) Pg.I_sides (defBody s_sides) = true := by decide +kernel
def N_heads : List Str := ["table", "plan"]
theorem sc_heads : FnScope N_heads ["table", "plan"] (defScope s_heads) := ⟨rfl, rfl, rfl, by decide +kernel, rfl, by decide +kernel, by decide +kernel⟩
theorem ck_heads : chkSs N_heads (defScope s_heads) (fun _ => true) Pg.I_heads (defBody s_heads) = true := by decide +kernel
def N_begins : List Str := ["path", "head"]
theorem sc_begins : FnScope N_begins ["path", "head"] (defScope s_begins) := ⟨rfl, rfl, rfl, by decide +kernel, rfl, by decide +kernel, by decide +kernel⟩
theorem ck_begins : chkSs N_begins (defScope s_begins) (fun _ => true) Pg.I_begins (defBody s_begins) = true := by decide +kernel
def N_members : List Str := ["some", "row_path", "column_path", "one"]
theorem sc_members : FnScope N_members ["some", "row_path", "column_path"] (defScope s_members) := ⟨rfl, rfl, rfl, by decide +kernel, rfl, by decide +kernel, by decide +kernel⟩
theorem ck_members : chkSs N_members (defScope s_members) (fun _ => true) Pg.I_members (defBody s_members) = true := by decide +kernel
def N_values_of : List Str := ["table", "name", "numbers", "place", "some", "k", "value"]
theorem sc_values_of : FnScope N_values_of ["table", "name", "numbers"] (defScope s_values_of) := ⟨rfl, rfl, rfl, by decide +kernel, rfl, by decide +kernel, by decide +kernel⟩
theorem ck_values_of : chkSs N_values_of (defScope s_values_of) (fun _ => true) Pg.I_values_of (defBody s_values_of) = true := by decide +kernel
def N_one_sum : List Str := ["table", "some", "one", "row_path", "column_path", "numbers", "values", "around"]
theorem sc_one_sum : FnScope N_one_sum ["table", "some", "one", "row_path", "column_path"] (defScope s_one_sum) := ⟨rfl, rfl, rfl, by decide +kernel, rfl, by decide +kernel, by decide +kernel⟩
theorem ck_one_sum : chkSs N_one_sum (defScope s_one_sum) (fun _ => true) Pg.I_one_sum (defBody s_one_sum) = true := by decide +kernel
def N_cell_of : List Str := ["table", "plan", "some", "row_path", "column_path", "one"]
theorem sc_cell_of : FnScope N_cell_of ["table", "plan", "some", "row_path", "column_path"] (defScope s_cell_of) := ⟨rfl, rfl, rfl, by decide +kernel, rfl, by decide +kernel, by decide +kernel⟩
theorem ck_cell_of : chkSs N_cell_of (defScope s_cell_of) (fun _ => true) Pg.I_cell_of (defBody s_cell_of) = true := by decide +kernel
def N_look_place : List Str := ["table", "plan", "row_path", "column_path", "rows", "columns"]
theorem sc_look_place : FnScope N_look_place ["table", "plan", "row_path", "column_path"] (defScope s_look_place) := ⟨rfl, rfl, rfl, by decide +kernel, rfl, by decide +kernel, by decide +kernel⟩
theorem ck_look_place : chkSs N_look_place (defScope s_look_place) (fun _ => true) Pg.I_look_place (defBody s_look_place) = true := by decide +kernel
def N_cell : List Str := ["table", "plan", "row_path", "column_path"]
theorem sc_cell : FnScope N_cell ["table", "plan", "row_path", "column_path"] (defScope s_cell) := ⟨rfl, rfl, rfl, by decide +kernel, rfl, by decide +kernel, by decide +kernel⟩
theorem ck_cell : chkSs N_cell (defScope s_cell) (fun _ => true) Pg.I_cell (defBody s_cell) = true := by decide +kernel
def N__law_cell : List Str := ["script", "k"]
theorem sc__law_cell : FnScope N__law_cell ["script", "k"] (defScope s__law_cell) := ⟨rfl, rfl, rfl, by decide +kernel, rfl, by decide +kernel, by decide +kernel⟩
theorem ck__law_cell : chkSs N__law_cell (defScope s__law_cell) (fun _ => true) Pg.I__law_cell (defBody s__law_cell) = true := by decide +kernel
def N__law_mix : List Str := ["script", "k", "number"]
theorem sc__law_mix : FnScope N__law_mix ["script", "k"] (defScope s__law_mix) := ⟨rfl, rfl, rfl, by decide +kernel, rfl, by decide +kernel, by decide +kernel⟩
theorem ck__law_mix : chkSs N__law_mix (defScope s__law_mix) (fun _ => true) Pg.I__law_mix (defBody s__law_mix) = true := by decide +kernel
def N__law_draw : List Str := ["script", "town", "many"]
theorem sc__law_draw : FnScope N__law_draw ["script", "town", "many"] (defScope s__law_draw) := ⟨rfl, rfl, rfl, by decide +kernel, rfl, by decide +kernel, by decide +kernel⟩
theorem ck__law_draw : chkSs N__law_draw (defScope s__law_draw) (fun _ => true) Pg.I__law_draw (defBody s__law_draw) = true := by decide +kernel
def N__law_pick : List Str := ["script", "town", "some"]
theorem sc__law_pick : FnScope N__law_pick ["script", "town", "some"] (defScope s__law_pick) := ⟨rfl, rfl, rfl, by decide +kernel, rfl, by decide +kernel, by decide +kernel⟩
theorem ck__law_pick : chkSs N__law_pick (defScope s__law_pick) (fun _ => true) Pg.I__law_pick (defBody s__law_pick) = true := by decide +kernel
def N__law_word : List Str := ["script", "town", "signs", "k"]
theorem sc__law_word : FnScope N__law_word ["script", "town"] (defScope s__law_word) := ⟨rfl, rfl, rfl, by decide +kernel, rfl, by decide +kernel, by decide +kernel⟩
theorem ck__law_word : chkSs N__law_word (defScope s__law_word) (fun _ => true) Pg.I__law_word (defBody s__law_word) = true := by decide +kernel
def N__law_value : List Str := ["script", "town", "kind", "some"]
theorem sc__law_value : FnScope N__law_value ["script", "town", "kind"] (defScope s__law_value) := ⟨rfl, rfl, rfl, by decide +kernel, rfl, by decide +kernel, by decide +kernel⟩
theorem ck__law_value : chkSs N__law_value (defScope s__law_value) (fun _ => true) Pg.I__law_value (defBody s__law_value) = true := by decide +kernel
def N__law_columns : List Str := ["script", "town", "names", "turn", "kinds", "found", "k"]
theorem sc__law_columns : FnScope N__law_columns ["script", "town"] (defScope s__law_columns) := ⟨rfl, rfl, rfl, by decide +kernel, rfl, by decide +kernel, by decide +kernel⟩
theorem ck__law_columns : chkSs N__law_columns (defScope s__law_columns) (fun _ => true) Pg.I__law_columns (defBody s__law_columns) = true := by decide +kernel
def N__law_row : List Str := ["script", "town", "columns", "name", "kind"]
theorem sc__law_row : FnScope N__law_row ["script", "town", "columns"] (defScope s__law_row) := ⟨rfl, rfl, rfl, by decide +kernel, rfl, by decide +kernel, by decide +kernel⟩
theorem ck__law_row : chkSs N__law_row (defScope s__law_row) (fun _ => true) Pg.I__law_row (defBody s__law_row) = true := by decide +kernel
def N__law_table : List Str := ["script", "town", "most", "columns", "rows", "k"]
theorem sc__law_table : FnScope N__law_table ["script", "town", "most"] (defScope s__law_table) := ⟨rfl, rfl, rfl, by decide +kernel, rfl, by decide +kernel, by decide +kernel⟩
theorem ck__law_table : chkSs N__law_table (defScope s__law_table) (fun _ => true) Pg.I__law_table (defBody s__law_table) = true := by decide +kernel
def N__law_key : List Str := ["script", "town", "columns", "sort", "name", "kind"]
theorem sc__law_key : FnScope N__law_key ["script", "town", "columns"] (defScope s__law_key) := ⟨rfl, rfl, rfl, by decide +kernel, rfl, by decide +kernel, by decide +kernel⟩
theorem ck__law_key : chkSs N__law_key (defScope s__law_key) (fun _ => true) Pg.I__law_key (defBody s__law_key) = true := by decide +kernel
def N__law_sum : List Str := ["script", "town", "columns", "sort", "numbers", "words", "name", "kind"]
theorem sc__law_sum : FnScope N__law_sum ["script", "town", "columns"] (defScope s__law_sum) := ⟨rfl, rfl, rfl, by decide +kernel, rfl, by decide +kernel, by decide +kernel⟩
theorem ck__law_sum : chkSs N__law_sum (defScope s__law_sum) (fun _ => true) Pg.I__law_sum (defBody s__law_sum) = true := by decide +kernel
def N__law_sift : List Str := ["script", "town", "columns", "name", "kind", "low"]
theorem sc__law_sift : FnScope N__law_sift ["script", "town", "columns"] (defScope s__law_sift) := ⟨rfl, rfl, rfl, by decide +kernel, rfl, by decide +kernel, by decide +kernel⟩
theorem ck__law_sift : chkSs N__law_sift (defScope s__law_sift) (fun _ => true) Pg.I__law_sift (defBody s__law_sift) = true := by decide +kernel
def N__law_plan : List Str := ["script", "town", "columns", "most", "keys", "own", "sums", "many", "sifts", "k"]
theorem sc__law_plan : FnScope N__law_plan ["script", "town", "columns", "most"] (defScope s__law_plan) := ⟨rfl, rfl, rfl, by decide +kernel, rfl, by decide +kernel, by decide +kernel⟩
theorem ck__law_plan : chkSs N__law_plan (defScope s__law_plan) (fun _ => true) Pg.I__law_plan (defBody s__law_plan) = true := by decide +kernel
def N__law_least : List Str := ["high", "under", "by", "one", "other"]
theorem sc__law_least : FnScope N__law_least ["high", "under"] (defScope s__law_least) := ⟨rfl, rfl, rfl, by decide +kernel, rfl, by decide +kernel, by decide +kernel⟩
theorem ck__law_least : chkSs N__law_least (defScope s__law_least) (fun _ => true) Pg.I__law_least (defBody s__law_least) = true := by decide +kernel
def N__law_total : List Str := ["some", "found", "one"]
theorem sc__law_total : FnScope N__law_total ["some"] (defScope s__law_total) := ⟨rfl, rfl, rfl, by decide +kernel, rfl, by decide +kernel, by decide +kernel⟩
theorem ck__law_total : chkSs N__law_total (defScope s__law_total) (fun _ => true) I__law_total (defBody s__law_total) = true := by decide +kernel
def N_law : List Str := ["script", "town", "table", "columns", "name", "keys", "plan", "other", "sums", "one", "rows", "across", "far", "parts", "k", "here", "due", "there", "kind", "under"]
theorem sc_law : FnScope N_law ["script"] (defScope s_law) := ⟨rfl, rfl, rfl, by decide +kernel, rfl, by decide +kernel, by decide +kernel⟩
theorem bd_law : defBody s_law = (defBody s_law).headD (.Pass ⟨0, 0, 0, 0⟩) :: (defBody s_law).tail := by kernel_rfl
theorem ck_law : chkSs N_law (defScope s_law) (fun _ => true) I_law (defBody s_law).tail = true := by decide +kernel
theorem t0_law : tnewB N_law (defScope s_law) 1 ((defBody s_law).headD (.Pass ⟨0, 0, 0, 0⟩)) = true := by decide +kernel
section
variable {P : Program} {w : World} {K : PySem.W.Frag} {mg : Str → Option Value} {base : Heap} {h : Heap}
structure Fs (P : Program) (w : World) (K : PySem.W.Frag) (mg : Str → Option Value) (base : Heap) : Prop where
  ok : GdOk ⟨P, w, K, mg, base⟩
  g_KINDS : GlG ⟨P, w, K, mg, base⟩ "KINDS" (.tup [.str "word", .str "number"])
  g_MOST_COLUMNS : GlG ⟨P, w, K, mg, base⟩ "MOST_COLUMNS" (.int 6)
  g_MOST_KEYS : GlG ⟨P, w, K, mg, base⟩ "MOST_KEYS" (.int 3)
  g_MOST_NUMBER : GlG ⟨P, w, K, mg, base⟩ "MOST_NUMBER" (.int 1000000)
  g_MOST_ROWS : GlG ⟨P, w, K, mg, base⟩ "MOST_ROWS" (.int 24)
  g_MOST_SIFTS : GlG ⟨P, w, K, mg, base⟩ "MOST_SIFTS" (.int 3)
  g_MOST_SUMS : GlG ⟨P, w, K, mg, base⟩ "MOST_SUMS" (.int 4)
  g_MOST_WORD : GlG ⟨P, w, K, mg, base⟩ "MOST_WORD" (.int 8)
  g_OF_NUMBERS : GlG ⟨P, w, K, mg, base⟩ "OF_NUMBERS" (.tup [.str "sum", .str "least", .str "greatest", .str "mean"])
  g_SHARES : GlG ⟨P, w, K, mg, base⟩ "SHARES" (.tup [.str "of all", .str "of row", .str "of column"])
  g_SMALL : GlG ⟨P, w, K, mg, base⟩ "SMALL" (.str "abcdefghijklmnopqrstuvwxyz")
  v_is_key : GlG ⟨P, w, K, mg, base⟩ "is_key" (.fn "is_key")
  v_is_sift : GlG ⟨P, w, K, mg, base⟩ "is_sift" (.fn "is_sift")
  v_is_sum : GlG ⟨P, w, K, mg, base⟩ "is_sum" (.fn "is_sum")
  e_BadPlan : ClG ⟨P, w, K, mg, base⟩ "BadPlan"
  e_BadRow : ClG ⟨P, w, K, mg, base⟩ "BadRow"
  e_BadTable : ClG ⟨P, w, K, mg, base⟩ "BadTable"
  e_NoPlace : ClG ⟨P, w, K, mg, base⟩ "NoPlace"
  t_divisor : FnTxt K mg "divisor" "divisor" (defArgs s_divisor) (defBody s_divisor) (defScope s_divisor) ["one", "other"]
  t_least : FnTxt K mg "least" "least" (defArgs s_least) (defBody s_least) (defScope s_least) ["top", "under"]
  t_is_whole : FnTxt K mg "is_whole" "is_whole" (defArgs s_is_whole) (defBody s_is_whole) (defScope s_is_whole) ["thing", "low", "most"]
  t_is_word : FnTxt K mg "is_word" "is_word" (defArgs s_is_word) (defBody s_is_word) (defScope s_is_word) ["thing"]
  t_is_value : FnTxt K mg "is_value" "is_value" (defArgs s_is_value) (defBody s_is_value) (defScope s_is_value) ["kind", "thing"]
  t_are_columns : FnTxt K mg "are_columns" "are_columns" (defArgs s_are_columns) (defBody s_are_columns) (defScope s_are_columns) ["thing"]
  t_look_columns : FnTxt K mg "look_columns" "look_columns" (defArgs s_look_columns) (defBody s_look_columns) (defScope s_look_columns) ["columns"]
  t_look_row : FnTxt K mg "look_row" "look_row" (defArgs s_look_row) (defBody s_look_row) (defScope s_look_row) ["columns", "row"]
  t_look_table : FnTxt K mg "look_table" "look_table" (defArgs s_look_table) (defBody s_look_table) (defScope s_look_table) ["table"]
  t_place_of : FnTxt K mg "place_of" "place_of" (defArgs s_place_of) (defBody s_place_of) (defScope s_place_of) ["columns", "name"]
  t_kind_of : FnTxt K mg "kind_of" "kind_of" (defArgs s_kind_of) (defBody s_kind_of) (defScope s_kind_of) ["columns", "name"]
  t_rank : FnTxt K mg "rank" "rank" (defArgs s_rank) (defBody s_rank) (defScope s_rank) ["value"]
  t_ranked : FnTxt K mg "ranked" "ranked" (defArgs s_ranked) (defBody s_ranked) (defScope s_ranked) ["path"]
  t_is_key : FnTxt K mg "is_key" "is_key" (defArgs s_is_key) (defBody s_is_key) (defScope s_is_key) ["columns", "thing"]
  t_is_sum : FnTxt K mg "is_sum" "is_sum" (defArgs s_is_sum) (defBody s_is_sum) (defScope s_is_sum) ["columns", "thing"]
  t_is_sift : FnTxt K mg "is_sift" "is_sift" (defArgs s_is_sift) (defBody s_is_sift) (defScope s_is_sift) ["columns", "thing"]
  t_are_all : FnTxt K mg "are_all" "are_all" (defArgs s_are_all) (defBody s_are_all) (defScope s_are_all) ["some", "most", "test", "columns"]
  t_look_plan : FnTxt K mg "look_plan" "look_plan" (defArgs s_look_plan) (defBody s_look_plan) (defScope s_look_plan) ["columns", "plan"]
  t_key_in : FnTxt K mg "key_in" "key_in" (defArgs s_key_in) (defBody s_key_in) (defScope s_key_in) ["columns", "key", "row"]
  t_path_in : FnTxt K mg "path_in" "path_in" (defArgs s_path_in) (defBody s_path_in) (defScope s_path_in) ["columns", "keys", "row"]
  t_counts : FnTxt K mg "counts" "counts" (defArgs s_counts) (defBody s_counts) (defScope s_counts) ["columns", "sifts", "row"]
  t_turned : FnTxt K mg "turned" "turned" (defArgs s_turned) (defBody s_turned) (defScope s_turned) ["columns", "plan"]
  t_look_all : FnTxt K mg "look_all" "look_all" (defArgs s_look_all) (defBody s_look_all) (defScope s_look_all) ["table", "plan"]
  t_counted : FnTxt K mg "counted" "counted" (defArgs s_counted) (defBody s_counted) (defScope s_counted) ["table", "plan"]
  t_with_heads : FnTxt K mg "with_heads" "with_heads" (defArgs s_with_heads) (defBody s_with_heads) (defScope s_with_heads) ["paths", "size"]
  t_sides : FnTxt K mg "sides" "sides" (defArgs s_sides) (defBody s_sides) (defScope s_sides) ["table", "plan"]
  t_heads : FnTxt K mg "heads" "heads" (defArgs s_heads) (defBody s_heads) (defScope s_heads) ["table", "plan"]
  t_begins : FnTxt K mg "begins" "begins" (defArgs s_begins) (defBody s_begins) (defScope s_begins) ["path", "head"]
  t_members : FnTxt K mg "members" "members" (defArgs s_members) (defBody s_members) (defScope s_members) ["some", "row_path", "column_path"]
  t_values_of : FnTxt K mg "values_of" "values_of" (defArgs s_values_of) (defBody s_values_of) (defScope s_values_of) ["table", "name", "numbers"]
  t_one_sum : FnTxt K mg "one_sum" "one_sum" (defArgs s_one_sum) (defBody s_one_sum) (defScope s_one_sum) ["table", "some", "one", "row_path", "column_path"]
  t_cell_of : FnTxt K mg "cell_of" "cell_of" (defArgs s_cell_of) (defBody s_cell_of) (defScope s_cell_of) ["table", "plan", "some", "row_path", "column_path"]
  t_look_place : FnTxt K mg "look_place" "look_place" (defArgs s_look_place) (defBody s_look_place) (defScope s_look_place) ["table", "plan", "row_path", "column_path"]
  t_cell : FnTxt K mg "cell" "cell" (defArgs s_cell) (defBody s_cell) (defScope s_cell) ["table", "plan", "row_path", "column_path"]
  t__law_cell : FnTxt K mg "_law_cell" "_law_cell" (defArgs s__law_cell) (defBody s__law_cell) (defScope s__law_cell) ["script", "k"]
  t__law_mix : FnTxt K mg "_law_mix" "_law_mix" (defArgs s__law_mix) (defBody s__law_mix) (defScope s__law_mix) ["script", "k"]
  t__law_draw : FnTxt K mg "_law_draw" "_law_draw" (defArgs s__law_draw) (defBody s__law_draw) (defScope s__law_draw) ["script", "town", "many"]
  t__law_pick : FnTxt K mg "_law_pick" "_law_pick" (defArgs s__law_pick) (defBody s__law_pick) (defScope s__law_pick) ["script", "town", "some"]
  t__law_word : FnTxt K mg "_law_word" "_law_word" (defArgs s__law_word) (defBody s__law_word) (defScope s__law_word) ["script", "town"]
  t__law_value : FnTxt K mg "_law_value" "_law_value" (defArgs s__law_value) (defBody s__law_value) (defScope s__law_value) ["script", "town", "kind"]
  t__law_columns : FnTxt K mg "_law_columns" "_law_columns" (defArgs s__law_columns) (defBody s__law_columns) (defScope s__law_columns) ["script", "town"]
  t__law_row : FnTxt K mg "_law_row" "_law_row" (defArgs s__law_row) (defBody s__law_row) (defScope s__law_row) ["script", "town", "columns"]
  t__law_table : FnTxt K mg "_law_table" "_law_table" (defArgs s__law_table) (defBody s__law_table) (defScope s__law_table) ["script", "town", "most"]
  t__law_key : FnTxt K mg "_law_key" "_law_key" (defArgs s__law_key) (defBody s__law_key) (defScope s__law_key) ["script", "town", "columns"]
  t__law_sum : FnTxt K mg "_law_sum" "_law_sum" (defArgs s__law_sum) (defBody s__law_sum) (defScope s__law_sum) ["script", "town", "columns"]
  t__law_sift : FnTxt K mg "_law_sift" "_law_sift" (defArgs s__law_sift) (defBody s__law_sift) (defScope s__law_sift) ["script", "town", "columns"]
  t__law_plan : FnTxt K mg "_law_plan" "_law_plan" (defArgs s__law_plan) (defBody s__law_plan) (defScope s__law_plan) ["script", "town", "columns", "most"]
  t__law_least : FnTxt K mg "_law_least" "_law_least" (defArgs s__law_least) (defBody s__law_least) (defScope s__law_least) ["high", "under"]
  t__law_total : FnTxt K mg "_law_total" "_law_total" (defArgs s__law_total) (defBody s__law_total) (defScope s__law_total) ["some"]
theorem fs (X : K.In h) (G : h.Ns mainGlobals mg) (c : He.SaysD fas fns K) (e : exs_ K = true) : Fs P w K mg base := by
  exact ⟨gdOk_of X G c (fun x hx => by simp only [bns, List.mem_cons, List.not_mem_nil, or_false] at hx; rcases hx with rfl | rfl | rfl | rfl | rfl | rfl | rfl | rfl | rfl | rfl | rfl | rfl | rfl | rfl | rfl | rfl | rfl | rfl | rfl <;> simp [fas]),
    gl_tupS X G c ["word", "number"] 7 rfl (He.ba (He.ba e).1).1 (by decide),
    gl_int X G c 59 rfl,
    gl_int X G c 63 rfl,
    gl_int X G c 62 rfl,
    gl_int X G c 60 rfl,
    gl_int X G c 65 rfl,
    gl_int X G c 64 rfl,
    gl_int X G c 61 rfl,
    gl_tupS X G c ["sum", "least", "greatest", "mean"] 19 rfl (He.ba (He.ba e).1).2 (by decide),
    gl_tupS X G c ["of all", "of row", "of column"] 20 rfl (He.ba e).2 (by decide),
    gl_str X G c 58 rfl,
    gl_fn X G c 21 rfl,
    gl_fn X G c 23 rfl,
    gl_fn X G c 22 rfl,
    cl_exc X G c 69 3 rfl rfl,
    cl_exc X G c 68 2 rfl rfl,
    cl_exc X G c 67 1 rfl rfl,
    cl_exc X G c 70 4 rfl rfl,
    fnTxt_of X G c 0 5 rfl rfl (fun _ _ _ _ _ _ us hl => match us, hl with | [_, _], _ => rfl),
    fnTxt_of X G c 1 6 rfl rfl (fun _ _ _ _ _ _ us hl => match us, hl with | [_, _], _ => rfl),
    fnTxt_of X G c 2 8 rfl rfl (fun _ _ _ _ _ _ us hl => match us, hl with | [_, _, _], _ => rfl),
    fnTxt_of X G c 3 9 rfl rfl (fun _ _ _ _ _ _ us hl => match us, hl with | [_], _ => rfl),
    fnTxt_of X G c 4 10 rfl rfl (fun _ _ _ _ _ _ us hl => match us, hl with | [_, _], _ => rfl),
    fnTxt_of X G c 5 11 rfl rfl (fun _ _ _ _ _ _ us hl => match us, hl with | [_], _ => rfl),
    fnTxt_of X G c 6 12 rfl rfl (fun _ _ _ _ _ _ us hl => match us, hl with | [_], _ => rfl),
    fnTxt_of X G c 7 13 rfl rfl (fun _ _ _ _ _ _ us hl => match us, hl with | [_, _], _ => rfl),
    fnTxt_of X G c 8 14 rfl rfl (fun _ _ _ _ _ _ us hl => match us, hl with | [_], _ => rfl),
    fnTxt_of X G c 9 15 rfl rfl (fun _ _ _ _ _ _ us hl => match us, hl with | [_, _], _ => rfl),
    fnTxt_of X G c 10 16 rfl rfl (fun _ _ _ _ _ _ us hl => match us, hl with | [_, _], _ => rfl),
    fnTxt_of X G c 11 17 rfl rfl (fun _ _ _ _ _ _ us hl => match us, hl with | [_], _ => rfl),
    fnTxt_of X G c 12 18 rfl rfl (fun _ _ _ _ _ _ us hl => match us, hl with | [_], _ => rfl),
    fnTxt_of X G c 13 21 rfl rfl (fun _ _ _ _ _ _ us hl => match us, hl with | [_, _], _ => rfl),
    fnTxt_of X G c 14 22 rfl rfl (fun _ _ _ _ _ _ us hl => match us, hl with | [_, _], _ => rfl),
    fnTxt_of X G c 15 23 rfl rfl (fun _ _ _ _ _ _ us hl => match us, hl with | [_, _], _ => rfl),
    fnTxt_of X G c 16 24 rfl rfl (fun _ _ _ _ _ _ us hl => match us, hl with | [_, _, _, _], _ => rfl),
    fnTxt_of X G c 17 25 rfl rfl (fun _ _ _ _ _ _ us hl => match us, hl with | [_, _], _ => rfl),
    fnTxt_of X G c 18 26 rfl rfl (fun _ _ _ _ _ _ us hl => match us, hl with | [_, _, _], _ => rfl),
    fnTxt_of X G c 19 27 rfl rfl (fun _ _ _ _ _ _ us hl => match us, hl with | [_, _, _], _ => rfl),
    fnTxt_of X G c 20 28 rfl rfl (fun _ _ _ _ _ _ us hl => match us, hl with | [_, _, _], _ => rfl),
    fnTxt_of X G c 21 29 rfl rfl (fun _ _ _ _ _ _ us hl => match us, hl with | [_, _], _ => rfl),
    fnTxt_of X G c 22 30 rfl rfl (fun _ _ _ _ _ _ us hl => match us, hl with | [_, _], _ => rfl),
    fnTxt_of X G c 23 31 rfl rfl (fun _ _ _ _ _ _ us hl => match us, hl with | [_, _], _ => rfl),
    fnTxt_of X G c 24 32 rfl rfl (fun _ _ _ _ _ _ us hl => match us, hl with | [_, _], _ => rfl),
    fnTxt_of X G c 25 33 rfl rfl (fun _ _ _ _ _ _ us hl => match us, hl with | [_, _], _ => rfl),
    fnTxt_of X G c 26 34 rfl rfl (fun _ _ _ _ _ _ us hl => match us, hl with | [_, _], _ => rfl),
    fnTxt_of X G c 27 35 rfl rfl (fun _ _ _ _ _ _ us hl => match us, hl with | [_, _], _ => rfl),
    fnTxt_of X G c 28 36 rfl rfl (fun _ _ _ _ _ _ us hl => match us, hl with | [_, _, _], _ => rfl),
    fnTxt_of X G c 29 37 rfl rfl (fun _ _ _ _ _ _ us hl => match us, hl with | [_, _, _], _ => rfl),
    fnTxt_of X G c 30 38 rfl rfl (fun _ _ _ _ _ _ us hl => match us, hl with | [_, _, _, _, _], _ => rfl),
    fnTxt_of X G c 31 39 rfl rfl (fun _ _ _ _ _ _ us hl => match us, hl with | [_, _, _, _, _], _ => rfl),
    fnTxt_of X G c 32 40 rfl rfl (fun _ _ _ _ _ _ us hl => match us, hl with | [_, _, _, _], _ => rfl),
    fnTxt_of X G c 33 41 rfl rfl (fun _ _ _ _ _ _ us hl => match us, hl with | [_, _, _, _], _ => rfl),
    fnTxt_of X G c 34 42 rfl rfl (fun _ _ _ _ _ _ us hl => match us, hl with | [_, _], _ => rfl),
    fnTxt_of X G c 35 43 rfl rfl (fun _ _ _ _ _ _ us hl => match us, hl with | [_, _], _ => rfl),
    fnTxt_of X G c 36 44 rfl rfl (fun _ _ _ _ _ _ us hl => match us, hl with | [_, _, _], _ => rfl),
    fnTxt_of X G c 37 45 rfl rfl (fun _ _ _ _ _ _ us hl => match us, hl with | [_, _, _], _ => rfl),
    fnTxt_of X G c 38 46 rfl rfl (fun _ _ _ _ _ _ us hl => match us, hl with | [_, _], _ => rfl),
    fnTxt_of X G c 39 47 rfl rfl (fun _ _ _ _ _ _ us hl => match us, hl with | [_, _, _], _ => rfl),
    fnTxt_of X G c 40 48 rfl rfl (fun _ _ _ _ _ _ us hl => match us, hl with | [_, _], _ => rfl),
    fnTxt_of X G c 41 49 rfl rfl (fun _ _ _ _ _ _ us hl => match us, hl with | [_, _, _], _ => rfl),
    fnTxt_of X G c 42 50 rfl rfl (fun _ _ _ _ _ _ us hl => match us, hl with | [_, _, _], _ => rfl),
    fnTxt_of X G c 43 51 rfl rfl (fun _ _ _ _ _ _ us hl => match us, hl with | [_, _, _], _ => rfl),
    fnTxt_of X G c 44 52 rfl rfl (fun _ _ _ _ _ _ us hl => match us, hl with | [_, _, _], _ => rfl),
    fnTxt_of X G c 45 53 rfl rfl (fun _ _ _ _ _ _ us hl => match us, hl with | [_, _, _], _ => rfl),
    fnTxt_of X G c 46 54 rfl rfl (fun _ _ _ _ _ _ us hl => match us, hl with | [_, _, _, _], _ => rfl),
    fnTxt_of X G c 47 55 rfl rfl (fun _ _ _ _ _ _ us hl => match us, hl with | [_, _], _ => rfl),
    fnTxt_of X G c 48 56 rfl rfl (fun _ _ _ _ _ _ us hl => match us, hl with | [_], _ => rfl)⟩
theorem k_divisor (S : Fs P w K mg base) : okss ⟨P, w, K, mg, base⟩ 0 Pg.I_divisor := by
  simp only [Pg.I_divisor, Pg.B_divisor_0, okss, Stm.ok, IR.ok, oks, oko, and_true, true_and, List.forall_mem_cons, List.forall_mem_nil, List.not_mem_nil, false_implies, implies_true]
theorem h_divisor (S : Fs P w K mg base) : FnG ⟨P, w, K, mg, base⟩ 1 Pg.F_divisor := fnG_of S.t_divisor sc_divisor rfl rfl S.ok (k_divisor S) ck_divisor
theorem k_least (S : Fs P w K mg base) : okss ⟨P, w, K, mg, base⟩ 1 Pg.I_least := by
  have c_divisor := (h_divisor S).mono (show 1 ≤ 1 by decide)
  simp only [Pg.I_least, okss, Stm.ok, IR.ok, oks, oko, and_true, true_and, List.forall_mem_cons, List.forall_mem_nil, List.not_mem_nil, false_implies, implies_true, c_divisor]
theorem h_least (S : Fs P w K mg base) : FnG ⟨P, w, K, mg, base⟩ 2 Pg.F_least := fnG_of S.t_least sc_least rfl rfl S.ok (k_least S) ck_least
theorem k_is_whole (S : Fs P w K mg base) : okss ⟨P, w, K, mg, base⟩ 0 Pg.I_is_whole := by
  simp only [Pg.I_is_whole, okss, Stm.ok, IR.ok, oks, oko, and_true, true_and, List.forall_mem_cons, List.forall_mem_nil, List.not_mem_nil, false_implies, implies_true]
theorem h_is_whole (S : Fs P w K mg base) : FnG ⟨P, w, K, mg, base⟩ 1 Pg.F_is_whole := fnG_of S.t_is_whole sc_is_whole rfl rfl S.ok (k_is_whole S) ck_is_whole
theorem k_is_word (S : Fs P w K mg base) : okss ⟨P, w, K, mg, base⟩ 0 Pg.I_is_word := by
  have g_MOST_WORD := S.g_MOST_WORD
  have g_SMALL := S.g_SMALL
  simp only [Pg.I_is_word, okss, Stm.ok, IR.ok, oks, oko, and_true, true_and, List.forall_mem_cons, List.forall_mem_nil, List.not_mem_nil, false_implies, implies_true, g_MOST_WORD, g_SMALL]
theorem h_is_word (S : Fs P w K mg base) : FnG ⟨P, w, K, mg, base⟩ 1 Pg.F_is_word := fnG_of S.t_is_word sc_is_word rfl rfl S.ok (k_is_word S) ck_is_word
theorem k_is_value (S : Fs P w K mg base) : okss ⟨P, w, K, mg, base⟩ 1 Pg.I_is_value := by
  have c_is_word := (h_is_word S).mono (show 1 ≤ 1 by decide)
  have c_is_whole := (h_is_whole S).mono (show 1 ≤ 1 by decide)
  have g_MOST_NUMBER := S.g_MOST_NUMBER
  simp only [Pg.I_is_value, okss, Stm.ok, IR.ok, oks, oko, and_true, true_and, List.forall_mem_cons, List.forall_mem_nil, List.not_mem_nil, false_implies, implies_true, c_is_word, c_is_whole, g_MOST_NUMBER]
theorem h_is_value (S : Fs P w K mg base) : FnG ⟨P, w, K, mg, base⟩ 2 Pg.F_is_value := fnG_of S.t_is_value sc_is_value rfl rfl S.ok (k_is_value S) ck_is_value
theorem k_are_columns (S : Fs P w K mg base) : okss ⟨P, w, K, mg, base⟩ 1 Pg.I_are_columns := by
  have c_is_word := (h_is_word S).mono (show 1 ≤ 1 by decide)
  have g_MOST_COLUMNS := S.g_MOST_COLUMNS
  have g_KINDS := S.g_KINDS
  simp only [Pg.I_are_columns, okss, Stm.ok, IR.ok, oks, oko, and_true, true_and, List.forall_mem_cons, List.forall_mem_nil, List.not_mem_nil, false_implies, implies_true, c_is_word, g_MOST_COLUMNS, g_KINDS]
theorem h_are_columns (S : Fs P w K mg base) : FnG ⟨P, w, K, mg, base⟩ 2 Pg.F_are_columns := fnG_of S.t_are_columns sc_are_columns rfl rfl S.ok (k_are_columns S) ck_are_columns
theorem k_look_columns (S : Fs P w K mg base) : okss ⟨P, w, K, mg, base⟩ 2 Pg.I_look_columns := by
  have c_are_columns := (h_are_columns S).mono (show 2 ≤ 2 by decide)
  have e_BadTable := S.e_BadTable
  simp only [Pg.I_look_columns, okss, Stm.ok, IR.ok, oks, oko, and_true, true_and, List.forall_mem_cons, List.forall_mem_nil, List.not_mem_nil, false_implies, implies_true, c_are_columns, e_BadTable]
theorem h_look_columns (S : Fs P w K mg base) : FnG ⟨P, w, K, mg, base⟩ 3 Pg.F_look_columns := fnG_of S.t_look_columns sc_look_columns rfl rfl S.ok (k_look_columns S) ck_look_columns
theorem k_look_row (S : Fs P w K mg base) : okss ⟨P, w, K, mg, base⟩ 2 Pg.I_look_row := by
  have c_is_value := (h_is_value S).mono (show 2 ≤ 2 by decide)
  have e_BadRow := S.e_BadRow
  simp only [Pg.I_look_row, okss, Stm.ok, IR.ok, oks, oko, and_true, true_and, List.forall_mem_cons, List.forall_mem_nil, List.not_mem_nil, false_implies, implies_true, c_is_value, e_BadRow]
theorem h_look_row (S : Fs P w K mg base) : FnG ⟨P, w, K, mg, base⟩ 3 Pg.F_look_row := fnG_of S.t_look_row sc_look_row rfl rfl S.ok (k_look_row S) ck_look_row
theorem k_look_table (S : Fs P w K mg base) : okss ⟨P, w, K, mg, base⟩ 3 Pg.I_look_table := by
  have c_look_columns := (h_look_columns S).mono (show 3 ≤ 3 by decide)
  have c_look_row := (h_look_row S).mono (show 3 ≤ 3 by decide)
  have g_MOST_ROWS := S.g_MOST_ROWS
  have e_BadTable := S.e_BadTable
  simp only [Pg.I_look_table, okss, Stm.ok, IR.ok, oks, oko, and_true, true_and, List.forall_mem_cons, List.forall_mem_nil, List.not_mem_nil, false_implies, implies_true, c_look_columns, c_look_row, g_MOST_ROWS, e_BadTable]
theorem h_look_table (S : Fs P w K mg base) : FnG ⟨P, w, K, mg, base⟩ 4 Pg.F_look_table := fnG_of S.t_look_table sc_look_table rfl rfl S.ok (k_look_table S) ck_look_table
theorem k_place_of (S : Fs P w K mg base) : okss ⟨P, w, K, mg, base⟩ 0 Pg.I_place_of := by
  simp only [Pg.I_place_of, okss, Stm.ok, IR.ok, oks, oko, and_true, true_and, List.forall_mem_cons, List.forall_mem_nil, List.not_mem_nil, false_implies, implies_true]
theorem h_place_of (S : Fs P w K mg base) : FnG ⟨P, w, K, mg, base⟩ 1 Pg.F_place_of := fnG_of S.t_place_of sc_place_of rfl rfl S.ok (k_place_of S) ck_place_of
theorem k_kind_of (S : Fs P w K mg base) : okss ⟨P, w, K, mg, base⟩ 1 Pg.I_kind_of := by
  have c_is_word := (h_is_word S).mono (show 1 ≤ 1 by decide)
  have c_place_of := (h_place_of S).mono (show 1 ≤ 1 by decide)
  simp only [Pg.I_kind_of, okss, Stm.ok, IR.ok, oks, oko, and_true, true_and, List.forall_mem_cons, List.forall_mem_nil, List.not_mem_nil, false_implies, implies_true, c_is_word, c_place_of]
theorem h_kind_of (S : Fs P w K mg base) : FnG ⟨P, w, K, mg, base⟩ 2 Pg.F_kind_of := fnG_of S.t_kind_of sc_kind_of rfl rfl S.ok (k_kind_of S) ck_kind_of
theorem k_rank (S : Fs P w K mg base) : okss ⟨P, w, K, mg, base⟩ 0 Pg.I_rank := by
  simp only [Pg.I_rank, okss, Stm.ok, IR.ok, oks, oko, and_true, true_and, List.forall_mem_cons, List.forall_mem_nil, List.not_mem_nil, false_implies, implies_true]
theorem h_rank (S : Fs P w K mg base) : FnG ⟨P, w, K, mg, base⟩ 1 Pg.F_rank := fnG_of S.t_rank sc_rank rfl rfl S.ok (k_rank S) ck_rank
theorem k_ranked (S : Fs P w K mg base) : okss ⟨P, w, K, mg, base⟩ 1 Pg.I_ranked := by
  have c_rank := (h_rank S).mono (show 1 ≤ 1 by decide)
  simp only [Pg.I_ranked, okss, Stm.ok, IR.ok, oks, oko, and_true, true_and, List.forall_mem_cons, List.forall_mem_nil, List.not_mem_nil, false_implies, implies_true, c_rank]
theorem h_ranked (S : Fs P w K mg base) : FnG ⟨P, w, K, mg, base⟩ 2 Pg.F_ranked := fnG_of S.t_ranked sc_ranked rfl rfl S.ok (k_ranked S) ck_ranked
theorem k_is_key (S : Fs P w K mg base) : okss ⟨P, w, K, mg, base⟩ 2 Pg.I_is_key := by
  have c_kind_of := (h_kind_of S).mono (show 2 ≤ 2 by decide)
  have c_is_whole := (h_is_whole S).mono (show 1 ≤ 2 by decide)
  have g_MOST_NUMBER := S.g_MOST_NUMBER
  have g_MOST_WORD := S.g_MOST_WORD
  simp only [Pg.I_is_key, okss, Stm.ok, IR.ok, oks, oko, and_true, true_and, List.forall_mem_cons, List.forall_mem_nil, List.not_mem_nil, false_implies, implies_true, c_kind_of, c_is_whole, g_MOST_NUMBER, g_MOST_WORD]
theorem h_is_key (S : Fs P w K mg base) : FnG ⟨P, w, K, mg, base⟩ 3 Pg.F_is_key := fnG_of S.t_is_key sc_is_key rfl rfl S.ok (k_is_key S) ck_is_key
theorem k_is_sum (S : Fs P w K mg base) : okss ⟨P, w, K, mg, base⟩ 2 Pg.I_is_sum := by
  have c_kind_of := (h_kind_of S).mono (show 2 ≤ 2 by decide)
  have g_OF_NUMBERS := S.g_OF_NUMBERS
  have g_SHARES := S.g_SHARES
  simp only [Pg.I_is_sum, okss, Stm.ok, IR.ok, oks, oko, and_true, true_and, List.forall_mem_cons, List.forall_mem_nil, List.not_mem_nil, false_implies, implies_true, c_kind_of, g_OF_NUMBERS, g_SHARES]
theorem h_is_sum (S : Fs P w K mg base) : FnG ⟨P, w, K, mg, base⟩ 3 Pg.F_is_sum := fnG_of S.t_is_sum sc_is_sum rfl rfl S.ok (k_is_sum S) ck_is_sum
theorem k_is_sift (S : Fs P w K mg base) : okss ⟨P, w, K, mg, base⟩ 2 Pg.I_is_sift := by
  have c_kind_of := (h_kind_of S).mono (show 2 ≤ 2 by decide)
  have c_is_value := (h_is_value S).mono (show 2 ≤ 2 by decide)
  have c_is_whole := (h_is_whole S).mono (show 1 ≤ 2 by decide)
  have g_MOST_NUMBER := S.g_MOST_NUMBER
  simp only [Pg.I_is_sift, okss, Stm.ok, IR.ok, oks, oko, and_true, true_and, List.forall_mem_cons, List.forall_mem_nil, List.not_mem_nil, false_implies, implies_true, c_kind_of, c_is_value, c_is_whole, g_MOST_NUMBER]
theorem h_is_sift (S : Fs P w K mg base) : FnG ⟨P, w, K, mg, base⟩ 3 Pg.F_is_sift := fnG_of S.t_is_sift sc_is_sift rfl rfl S.ok (k_is_sift S) ck_is_sift
theorem k_are_all (S : Fs P w K mg base) : okss ⟨P, w, K, mg, base⟩ 3 Pg.I_are_all := by
  have c_is_key := (h_is_key S).mono (show 3 ≤ 3 by decide)
  have c_is_sift := (h_is_sift S).mono (show 3 ≤ 3 by decide)
  have c_is_sum := (h_is_sum S).mono (show 3 ≤ 3 by decide)
  simp only [Pg.I_are_all, okss, Stm.ok, IR.ok, oks, oko, and_true, true_and, List.forall_mem_cons, List.forall_mem_nil, List.not_mem_nil, false_implies, implies_true, c_is_key, c_is_sift, c_is_sum]
theorem h_are_all (S : Fs P w K mg base) : FnG ⟨P, w, K, mg, base⟩ 4 Pg.F_are_all := fnG_of S.t_are_all sc_are_all rfl rfl S.ok (k_are_all S) ck_are_all
theorem k_look_plan (S : Fs P w K mg base) : okss ⟨P, w, K, mg, base⟩ 4 Pg.I_look_plan := by
  have c_look_columns := (h_look_columns S).mono (show 3 ≤ 4 by decide)
  have c_are_all := (h_are_all S).mono (show 4 ≤ 4 by decide)
  have g_MOST_KEYS := S.g_MOST_KEYS
  have g_MOST_SUMS := S.g_MOST_SUMS
  have g_MOST_SIFTS := S.g_MOST_SIFTS
  have v_is_key := S.v_is_key
  have v_is_sum := S.v_is_sum
  have v_is_sift := S.v_is_sift
  have e_BadPlan := S.e_BadPlan
  simp only [Pg.I_look_plan, okss, Stm.ok, IR.ok, oks, oko, and_true, true_and, List.forall_mem_cons, List.forall_mem_nil, List.not_mem_nil, false_implies, implies_true, v_is_key, v_is_sum, v_is_sift, c_look_columns, c_are_all, g_MOST_KEYS, g_MOST_SUMS, g_MOST_SIFTS, e_BadPlan]
theorem h_look_plan (S : Fs P w K mg base) : FnG ⟨P, w, K, mg, base⟩ 5 Pg.F_look_plan := fnG_of S.t_look_plan sc_look_plan rfl rfl S.ok (k_look_plan S) ck_look_plan
theorem k_key_in (S : Fs P w K mg base) : okss ⟨P, w, K, mg, base⟩ 1 Pg.I_key_in := by
  have c_place_of := (h_place_of S).mono (show 1 ≤ 1 by decide)
  simp only [Pg.I_key_in, okss, Stm.ok, IR.ok, oks, oko, and_true, true_and, List.forall_mem_cons, List.forall_mem_nil, List.not_mem_nil, false_implies, implies_true, c_place_of]
theorem h_key_in (S : Fs P w K mg base) : FnG ⟨P, w, K, mg, base⟩ 2 Pg.F_key_in := fnG_of S.t_key_in sc_key_in rfl rfl S.ok (k_key_in S) ck_key_in
theorem k_path_in (S : Fs P w K mg base) : okss ⟨P, w, K, mg, base⟩ 2 Pg.I_path_in := by
  have c_key_in := (h_key_in S).mono (show 2 ≤ 2 by decide)
  simp only [Pg.I_path_in, okss, Stm.ok, IR.ok, oks, oko, and_true, true_and, List.forall_mem_cons, List.forall_mem_nil, List.not_mem_nil, false_implies, implies_true, c_key_in]
theorem h_path_in (S : Fs P w K mg base) : FnG ⟨P, w, K, mg, base⟩ 3 Pg.F_path_in := fnG_of S.t_path_in sc_path_in rfl rfl S.ok (k_path_in S) ck_path_in
theorem k_counts (S : Fs P w K mg base) : okss ⟨P, w, K, mg, base⟩ 1 Pg.I_counts := by
  have c_place_of := (h_place_of S).mono (show 1 ≤ 1 by decide)
  simp only [Pg.I_counts, okss, Stm.ok, IR.ok, oks, oko, and_true, true_and, List.forall_mem_cons, List.forall_mem_nil, List.not_mem_nil, false_implies, implies_true, c_place_of]
theorem h_counts (S : Fs P w K mg base) : FnG ⟨P, w, K, mg, base⟩ 2 Pg.F_counts := fnG_of S.t_counts sc_counts rfl rfl S.ok (k_counts S) ck_counts
theorem k_turned (S : Fs P w K mg base) : okss ⟨P, w, K, mg, base⟩ 5 Pg.I_turned := by
  have c_look_plan := (h_look_plan S).mono (show 5 ≤ 5 by decide)
  have x_0 : PxOk ⟨P, w, K, mg, base⟩ 5 pDictP := ok_pDictP
  have x_1 : PxOk ⟨P, w, K, mg, base⟩ 5 pGet := ok_pGet
  simp only [Pg.I_turned, okss, Stm.ok, IR.ok, oks, oko, and_true, true_and, List.forall_mem_cons, List.forall_mem_nil, List.not_mem_nil, false_implies, implies_true, c_look_plan, x_0, x_1]
theorem h_turned (S : Fs P w K mg base) : FnG ⟨P, w, K, mg, base⟩ 6 Pg.F_turned := fnG_of S.t_turned sc_turned rfl rfl S.ok (k_turned S) ck_turned
theorem k_look_all (S : Fs P w K mg base) : okss ⟨P, w, K, mg, base⟩ 5 Pg.I_look_all := by
  have c_look_table := (h_look_table S).mono (show 4 ≤ 5 by decide)
  have c_look_plan := (h_look_plan S).mono (show 5 ≤ 5 by decide)
  simp only [Pg.I_look_all, okss, Stm.ok, IR.ok, oks, oko, and_true, true_and, List.forall_mem_cons, List.forall_mem_nil, List.not_mem_nil, false_implies, implies_true, c_look_table, c_look_plan]
theorem h_look_all (S : Fs P w K mg base) : FnG ⟨P, w, K, mg, base⟩ 6 Pg.F_look_all := fnG_of S.t_look_all sc_look_all rfl rfl S.ok (k_look_all S) ck_look_all
theorem k_counted (S : Fs P w K mg base) : okss ⟨P, w, K, mg, base⟩ 3 Pg.I_counted := by
  have c_counts := (h_counts S).mono (show 2 ≤ 3 by decide)
  have c_path_in := (h_path_in S).mono (show 3 ≤ 3 by decide)
  simp only [Pg.I_counted, okss, Stm.ok, IR.ok, oks, oko, and_true, true_and, List.forall_mem_cons, List.forall_mem_nil, List.not_mem_nil, false_implies, implies_true, c_counts, c_path_in]
theorem h_counted (S : Fs P w K mg base) : FnG ⟨P, w, K, mg, base⟩ 4 Pg.F_counted := fnG_of S.t_counted sc_counted rfl rfl S.ok (k_counted S) ck_counted
theorem k_with_heads (S : Fs P w K mg base) : okss ⟨P, w, K, mg, base⟩ 2 Pg.I_with_heads := by
  have c_ranked := (h_ranked S).mono (show 2 ≤ 2 by decide)
  simp only [Pg.I_with_heads, okss, Stm.ok, IR.ok, oks, oko, and_true, true_and, List.forall_mem_cons, List.forall_mem_nil, List.not_mem_nil, false_implies, implies_true, c_ranked]
theorem h_with_heads (S : Fs P w K mg base) : FnG ⟨P, w, K, mg, base⟩ 3 Pg.F_with_heads := fnG_of S.t_with_heads sc_with_heads rfl rfl S.ok (k_with_heads S) ck_with_heads
theorem k_sides (S : Fs P w K mg base) : okss ⟨P, w, K, mg, base⟩ 4 Pg.I_sides := by
  have c_counted := (h_counted S).mono (show 4 ≤ 4 by decide)
  have c_with_heads := (h_with_heads S).mono (show 3 ≤ 4 by decide)
  simp only [Pg.I_sides, okss, Stm.ok, IR.ok, oks, oko, and_true, true_and, List.forall_mem_cons, List.forall_mem_nil, List.not_mem_nil, false_implies, implies_true, c_counted, c_with_heads]
theorem h_sides (S : Fs P w K mg base) : FnG ⟨P, w, K, mg, base⟩ 5 Pg.F_sides := fnG_of S.t_sides sc_sides rfl rfl S.ok (k_sides S) ck_sides
theorem k_heads (S : Fs P w K mg base) : okss ⟨P, w, K, mg, base⟩ 6 Pg.I_heads := by
  have c_look_all := (h_look_all S).mono (show 6 ≤ 6 by decide)
  have c_sides := (h_sides S).mono (show 5 ≤ 6 by decide)
  simp only [Pg.I_heads, okss, Stm.ok, IR.ok, oks, oko, and_true, true_and, List.forall_mem_cons, List.forall_mem_nil, List.not_mem_nil, false_implies, implies_true, c_look_all, c_sides]
theorem h_heads (S : Fs P w K mg base) : FnG ⟨P, w, K, mg, base⟩ 7 Pg.F_heads := fnG_of S.t_heads sc_heads rfl rfl S.ok (k_heads S) ck_heads
theorem k_begins (S : Fs P w K mg base) : okss ⟨P, w, K, mg, base⟩ 0 Pg.I_begins := by
  simp only [Pg.I_begins, okss, Stm.ok, IR.ok, oks, oko, and_true, true_and, List.forall_mem_cons, List.forall_mem_nil, List.not_mem_nil, false_implies, implies_true]
theorem h_begins (S : Fs P w K mg base) : FnG ⟨P, w, K, mg, base⟩ 1 Pg.F_begins := fnG_of S.t_begins sc_begins rfl rfl S.ok (k_begins S) ck_begins
theorem k_members (S : Fs P w K mg base) : okss ⟨P, w, K, mg, base⟩ 1 Pg.I_members := by
  have c_begins := (h_begins S).mono (show 1 ≤ 1 by decide)
  simp only [Pg.I_members, okss, Stm.ok, IR.ok, oks, oko, and_true, true_and, List.forall_mem_cons, List.forall_mem_nil, List.not_mem_nil, false_implies, implies_true, c_begins]
theorem h_members (S : Fs P w K mg base) : FnG ⟨P, w, K, mg, base⟩ 2 Pg.F_members := fnG_of S.t_members sc_members rfl rfl S.ok (k_members S) ck_members
theorem k_values_of (S : Fs P w K mg base) : okss ⟨P, w, K, mg, base⟩ 1 Pg.I_values_of := by
  have c_place_of := (h_place_of S).mono (show 1 ≤ 1 by decide)
  simp only [Pg.I_values_of, okss, Stm.ok, IR.ok, oks, oko, and_true, true_and, List.forall_mem_cons, List.forall_mem_nil, List.not_mem_nil, false_implies, implies_true, c_place_of]
theorem h_values_of (S : Fs P w K mg base) : FnG ⟨P, w, K, mg, base⟩ 2 Pg.F_values_of := fnG_of S.t_values_of sc_values_of rfl rfl S.ok (k_values_of S) ck_values_of
theorem k_one_sum (S : Fs P w K mg base) : okss ⟨P, w, K, mg, base⟩ 2 Pg.I_one_sum := by
  have c_members := (h_members S).mono (show 2 ≤ 2 by decide)
  have c_values_of := (h_values_of S).mono (show 2 ≤ 2 by decide)
  have c_least := (h_least S).mono (show 2 ≤ 2 by decide)
  simp only [Pg.I_one_sum, okss, Stm.ok, IR.ok, oks, oko, and_true, true_and, List.forall_mem_cons, List.forall_mem_nil, List.not_mem_nil, false_implies, implies_true, c_members, c_values_of, c_least]
theorem h_one_sum (S : Fs P w K mg base) : FnG ⟨P, w, K, mg, base⟩ 3 Pg.F_one_sum := fnG_of S.t_one_sum sc_one_sum rfl rfl S.ok (k_one_sum S) ck_one_sum
theorem k_cell_of (S : Fs P w K mg base) : okss ⟨P, w, K, mg, base⟩ 3 Pg.I_cell_of := by
  have c_one_sum := (h_one_sum S).mono (show 3 ≤ 3 by decide)
  simp only [Pg.I_cell_of, okss, Stm.ok, IR.ok, oks, oko, and_true, true_and, List.forall_mem_cons, List.forall_mem_nil, List.not_mem_nil, false_implies, implies_true, c_one_sum]
theorem h_cell_of (S : Fs P w K mg base) : FnG ⟨P, w, K, mg, base⟩ 4 Pg.F_cell_of := fnG_of S.t_cell_of sc_cell_of rfl rfl S.ok (k_cell_of S) ck_cell_of
theorem k_look_place (S : Fs P w K mg base) : okss ⟨P, w, K, mg, base⟩ 5 Pg.I_look_place := by
  have c_sides := (h_sides S).mono (show 5 ≤ 5 by decide)
  have e_NoPlace := S.e_NoPlace
  simp only [Pg.I_look_place, okss, Stm.ok, IR.ok, oks, oko, and_true, true_and, List.forall_mem_cons, List.forall_mem_nil, List.not_mem_nil, false_implies, implies_true, c_sides, e_NoPlace]
theorem h_look_place (S : Fs P w K mg base) : FnG ⟨P, w, K, mg, base⟩ 6 Pg.F_look_place := fnG_of S.t_look_place sc_look_place rfl rfl S.ok (k_look_place S) ck_look_place
theorem k_cell (S : Fs P w K mg base) : okss ⟨P, w, K, mg, base⟩ 6 Pg.I_cell := by
  have c_look_all := (h_look_all S).mono (show 6 ≤ 6 by decide)
  have c_look_place := (h_look_place S).mono (show 6 ≤ 6 by decide)
  have c_cell_of := (h_cell_of S).mono (show 4 ≤ 6 by decide)
  have c_counted := (h_counted S).mono (show 4 ≤ 6 by decide)
  simp only [Pg.I_cell, okss, Stm.ok, IR.ok, oks, oko, and_true, true_and, List.forall_mem_cons, List.forall_mem_nil, List.not_mem_nil, false_implies, implies_true, c_look_all, c_look_place, c_cell_of, c_counted]
theorem h_cell (S : Fs P w K mg base) : FnG ⟨P, w, K, mg, base⟩ 7 Pg.F_cell := fnG_of S.t_cell sc_cell rfl rfl S.ok (k_cell S) ck_cell
theorem k__law_cell (S : Fs P w K mg base) : okss ⟨P, w, K, mg, base⟩ 0 Pg.I__law_cell := by
  simp only [Pg.I__law_cell, okss, Stm.ok, IR.ok, oks, oko, and_true, true_and, List.forall_mem_cons, List.forall_mem_nil, List.not_mem_nil, false_implies, implies_true]
theorem h__law_cell (S : Fs P w K mg base) : FnG ⟨P, w, K, mg, base⟩ 1 Pg.F__law_cell := fnG_of S.t__law_cell sc__law_cell rfl rfl S.ok (k__law_cell S) ck__law_cell
theorem k__law_mix (S : Fs P w K mg base) : okss ⟨P, w, K, mg, base⟩ 1 Pg.I__law_mix := by
  have c__law_cell := (h__law_cell S).mono (show 1 ≤ 1 by decide)
  simp only [Pg.I__law_mix, okss, Stm.ok, IR.ok, oks, oko, and_true, true_and, List.forall_mem_cons, List.forall_mem_nil, List.not_mem_nil, false_implies, implies_true, c__law_cell]
theorem h__law_mix (S : Fs P w K mg base) : FnG ⟨P, w, K, mg, base⟩ 2 Pg.F__law_mix := fnG_of S.t__law_mix sc__law_mix rfl rfl S.ok (k__law_mix S) ck__law_mix
theorem k__law_draw (S : Fs P w K mg base) : okss ⟨P, w, K, mg, base⟩ 2 Pg.I__law_draw := by
  have c__law_mix := (h__law_mix S).mono (show 2 ≤ 2 by decide)
  simp only [Pg.I__law_draw, okss, Stm.ok, IR.ok, oks, oko, and_true, true_and, List.forall_mem_cons, List.forall_mem_nil, List.not_mem_nil, false_implies, implies_true, c__law_mix]
theorem h__law_draw (S : Fs P w K mg base) : FnG ⟨P, w, K, mg, base⟩ 3 Pg.F__law_draw := fnG_of S.t__law_draw sc__law_draw rfl rfl S.ok (k__law_draw S) ck__law_draw
theorem k__law_pick (S : Fs P w K mg base) : okss ⟨P, w, K, mg, base⟩ 3 Pg.I__law_pick := by
  have c__law_draw := (h__law_draw S).mono (show 3 ≤ 3 by decide)
  simp only [Pg.I__law_pick, okss, Stm.ok, IR.ok, oks, oko, and_true, true_and, List.forall_mem_cons, List.forall_mem_nil, List.not_mem_nil, false_implies, implies_true, c__law_draw]
theorem h__law_pick (S : Fs P w K mg base) : FnG ⟨P, w, K, mg, base⟩ 4 Pg.F__law_pick := fnG_of S.t__law_pick sc__law_pick rfl rfl S.ok (k__law_pick S) ck__law_pick
theorem k__law_word (S : Fs P w K mg base) : okss ⟨P, w, K, mg, base⟩ 4 Pg.I__law_word := by
  have c__law_draw := (h__law_draw S).mono (show 3 ≤ 4 by decide)
  have c__law_pick := (h__law_pick S).mono (show 4 ≤ 4 by decide)
  simp only [Pg.I__law_word, okss, Stm.ok, IR.ok, oks, oko, and_true, true_and, List.forall_mem_cons, List.forall_mem_nil, List.not_mem_nil, false_implies, implies_true, c__law_draw, c__law_pick]
theorem h__law_word (S : Fs P w K mg base) : FnG ⟨P, w, K, mg, base⟩ 5 Pg.F__law_word := fnG_of S.t__law_word sc__law_word rfl rfl S.ok (k__law_word S) ck__law_word
theorem k__law_value (S : Fs P w K mg base) : okss ⟨P, w, K, mg, base⟩ 5 Pg.I__law_value := by
  have c__law_draw := (h__law_draw S).mono (show 3 ≤ 5 by decide)
  have c__law_word := (h__law_word S).mono (show 5 ≤ 5 by decide)
  have c__law_pick := (h__law_pick S).mono (show 4 ≤ 5 by decide)
  simp only [Pg.I__law_value, okss, Stm.ok, IR.ok, oks, oko, and_true, true_and, List.forall_mem_cons, List.forall_mem_nil, List.not_mem_nil, false_implies, implies_true, c__law_draw, c__law_word, c__law_pick]
theorem h__law_value (S : Fs P w K mg base) : FnG ⟨P, w, K, mg, base⟩ 6 Pg.F__law_value := fnG_of S.t__law_value sc__law_value rfl rfl S.ok (k__law_value S) ck__law_value
theorem k__law_columns (S : Fs P w K mg base) : okss ⟨P, w, K, mg, base⟩ 4 Pg.I__law_columns := by
  have c__law_draw := (h__law_draw S).mono (show 3 ≤ 4 by decide)
  have c__law_pick := (h__law_pick S).mono (show 4 ≤ 4 by decide)
  simp only [Pg.I__law_columns, okss, Stm.ok, IR.ok, oks, oko, and_true, true_and, List.forall_mem_cons, List.forall_mem_nil, List.not_mem_nil, false_implies, implies_true, c__law_draw, c__law_pick]
theorem h__law_columns (S : Fs P w K mg base) : FnG ⟨P, w, K, mg, base⟩ 5 Pg.F__law_columns := fnG_of S.t__law_columns sc__law_columns rfl rfl S.ok (k__law_columns S) ck__law_columns
theorem k__law_row (S : Fs P w K mg base) : okss ⟨P, w, K, mg, base⟩ 6 Pg.I__law_row := by
  have c__law_value := (h__law_value S).mono (show 6 ≤ 6 by decide)
  simp only [Pg.I__law_row, okss, Stm.ok, IR.ok, oks, oko, and_true, true_and, List.forall_mem_cons, List.forall_mem_nil, List.not_mem_nil, false_implies, implies_true, c__law_value]
theorem h__law_row (S : Fs P w K mg base) : FnG ⟨P, w, K, mg, base⟩ 7 Pg.F__law_row := fnG_of S.t__law_row sc__law_row rfl rfl S.ok (k__law_row S) ck__law_row
theorem k__law_table (S : Fs P w K mg base) : okss ⟨P, w, K, mg, base⟩ 7 Pg.I__law_table := by
  have c__law_columns := (h__law_columns S).mono (show 5 ≤ 7 by decide)
  have c__law_draw := (h__law_draw S).mono (show 3 ≤ 7 by decide)
  have c__law_row := (h__law_row S).mono (show 7 ≤ 7 by decide)
  simp only [Pg.I__law_table, okss, Stm.ok, IR.ok, oks, oko, and_true, true_and, List.forall_mem_cons, List.forall_mem_nil, List.not_mem_nil, false_implies, implies_true, c__law_columns, c__law_draw, c__law_row]
theorem h__law_table (S : Fs P w K mg base) : FnG ⟨P, w, K, mg, base⟩ 8 Pg.F__law_table := fnG_of S.t__law_table sc__law_table rfl rfl S.ok (k__law_table S) ck__law_table
theorem k__law_key (S : Fs P w K mg base) : okss ⟨P, w, K, mg, base⟩ 4 Pg.I__law_key := by
  have c__law_pick := (h__law_pick S).mono (show 4 ≤ 4 by decide)
  have c__law_draw := (h__law_draw S).mono (show 3 ≤ 4 by decide)
  simp only [Pg.I__law_key, okss, Stm.ok, IR.ok, oks, oko, and_true, true_and, List.forall_mem_cons, List.forall_mem_nil, List.not_mem_nil, false_implies, implies_true, c__law_pick, c__law_draw]
theorem h__law_key (S : Fs P w K mg base) : FnG ⟨P, w, K, mg, base⟩ 5 Pg.F__law_key := fnG_of S.t__law_key sc__law_key rfl rfl S.ok (k__law_key S) ck__law_key
theorem k__law_sum (S : Fs P w K mg base) : okss ⟨P, w, K, mg, base⟩ 4 Pg.I__law_sum := by
  have c__law_draw := (h__law_draw S).mono (show 3 ≤ 4 by decide)
  have c__law_pick := (h__law_pick S).mono (show 4 ≤ 4 by decide)
  simp only [Pg.I__law_sum, okss, Stm.ok, IR.ok, oks, oko, and_true, true_and, List.forall_mem_cons, List.forall_mem_nil, List.not_mem_nil, false_implies, implies_true, c__law_draw, c__law_pick]
theorem h__law_sum (S : Fs P w K mg base) : FnG ⟨P, w, K, mg, base⟩ 5 Pg.F__law_sum := fnG_of S.t__law_sum sc__law_sum rfl rfl S.ok (k__law_sum S) ck__law_sum
theorem k__law_sift (S : Fs P w K mg base) : okss ⟨P, w, K, mg, base⟩ 6 Pg.I__law_sift := by
  have c__law_pick := (h__law_pick S).mono (show 4 ≤ 6 by decide)
  have c__law_draw := (h__law_draw S).mono (show 3 ≤ 6 by decide)
  have c__law_value := (h__law_value S).mono (show 6 ≤ 6 by decide)
  simp only [Pg.I__law_sift, okss, Stm.ok, IR.ok, oks, oko, and_true, true_and, List.forall_mem_cons, List.forall_mem_nil, List.not_mem_nil, false_implies, implies_true, c__law_pick, c__law_draw, c__law_value]
theorem h__law_sift (S : Fs P w K mg base) : FnG ⟨P, w, K, mg, base⟩ 7 Pg.F__law_sift := fnG_of S.t__law_sift sc__law_sift rfl rfl S.ok (k__law_sift S) ck__law_sift
theorem k__law_plan (S : Fs P w K mg base) : okss ⟨P, w, K, mg, base⟩ 7 Pg.I__law_plan := by
  have c__law_key := (h__law_key S).mono (show 5 ≤ 7 by decide)
  have c__law_draw := (h__law_draw S).mono (show 3 ≤ 7 by decide)
  have c__law_sum := (h__law_sum S).mono (show 5 ≤ 7 by decide)
  have c__law_pick := (h__law_pick S).mono (show 4 ≤ 7 by decide)
  have c__law_sift := (h__law_sift S).mono (show 7 ≤ 7 by decide)
  simp only [Pg.I__law_plan, okss, Stm.ok, IR.ok, oks, oko, and_true, true_and, List.forall_mem_cons, List.forall_mem_nil, List.not_mem_nil, false_implies, implies_true, c__law_key, c__law_draw, c__law_sum, c__law_pick, c__law_sift]
theorem h__law_plan (S : Fs P w K mg base) : FnG ⟨P, w, K, mg, base⟩ 8 Pg.F__law_plan := fnG_of S.t__law_plan sc__law_plan rfl rfl S.ok (k__law_plan S) ck__law_plan
theorem k__law_least (S : Fs P w K mg base) : okss ⟨P, w, K, mg, base⟩ 0 Pg.I__law_least := by
  simp only [Pg.I__law_least, Pg.B__law_least_0, okss, Stm.ok, IR.ok, oks, oko, and_true, true_and, List.forall_mem_cons, List.forall_mem_nil, List.not_mem_nil, false_implies, implies_true]
theorem h__law_least (S : Fs P w K mg base) : FnG ⟨P, w, K, mg, base⟩ 1 Pg.F__law_least := fnG_of S.t__law_least sc__law_least rfl rfl S.ok (k__law_least S) ck__law_least
theorem k__law_total (S : Fs P w K mg base) : okss ⟨P, w, K, mg, base⟩ 1 I__law_total := by
  have c__law_least := (h__law_least S).mono (show 1 ≤ 1 by decide)
  simp only [I__law_total, B__law_total_0, okss, Stm.ok, IR.ok, oks, oko, and_true, true_and, List.forall_mem_cons, List.forall_mem_nil, List.not_mem_nil, false_implies, implies_true, c__law_least]
theorem h__law_total (S : Fs P w K mg base) : FnG ⟨P, w, K, mg, base⟩ 2 F__law_total := fnG_of S.t__law_total sc__law_total rfl rfl S.ok (k__law_total S) ck__law_total
theorem k_law (S : Fs P w K mg base) : okss ⟨P, w, K, mg, base⟩ 8 I_law := by
  have c__law_table := (h__law_table S).mono (show 8 ≤ 8 by decide)
  have c__law_key := (h__law_key S).mono (show 5 ≤ 8 by decide)
  have c__law_draw := (h__law_draw S).mono (show 3 ≤ 8 by decide)
  have c_turned := (h_turned S).mono (show 6 ≤ 8 by decide)
  have c_heads := (h_heads S).mono (show 7 ≤ 8 by decide)
  have c_cell := (h_cell S).mono (show 7 ≤ 8 by decide)
  have c__law_least := (h__law_least S).mono (show 1 ≤ 8 by decide)
  have c__law_total := (h__law_total S).mono (show 2 ≤ 8 by decide)
  simp only [I_law, B_law_0, B_law_1, B_law_2, B_law_3, R_13, R_12, R_11, R_10, R_9, R_8, R_7, R_6, R_5, R_4, R_3, R_2, R_1, R_0, okss, Stm.ok, IR.ok, oks, oko, and_true, true_and, List.forall_mem_cons, List.forall_mem_nil, List.not_mem_nil, false_implies, implies_true, c__law_table, c__law_key, c__law_draw, c_turned, c_heads, c_cell, c__law_least, c__law_total]
end
/-- the whole: from what the small language's law comes to -/
theorem holds (law : ∀ ns : List Int, ns.length ≤ 63 → ∃ n', lawRun 20 1 I_law ns = .ok (.rt (.bl true)) n') : PySem.Challenge.rw_sumsheets_k14_whole_of.Holds := by
  w_on; o_law
  refine HandSHeadRun.head_any (r := PySem.W.OpenLaw.row PySem.Challenge.rw_sumsheets_k14_whole_of) (q := PySem.W.view (PySem.W.OpenLaw.row PySem.Challenge.rw_sumsheets_k14_whole_of).prog [71]) (H := hk) (ob := ob) (M := 20000) (loose := loose) (d := HandSHeadRun.topDef (PySem.W.OpenLaw.row PySem.Challenge.rw_sumsheets_k14_whole_of).prog 71) (kwd := []) ob_eq
    (by kernel_rfl) (fun s => by kernel_rfl) run (by kernel_rfl) (by kernel_rfl) (by kernel_rfl) (by rfl) (by first | assumption | decide +kernel) (by decide +kernel) ⟨rfl, rfl, rfl, rfl, rfl, by decide +kernel⟩ ?hw ?hc
  case hw => w_witness2
  case hc =>
    refine L2.walk_ofE (l := PySem.Challenge.rw_sumsheets_k14_whole_of) (n := 63) (k := 9) (x := "script") (CX := L2.CX0) rfl (by decide) (by kernel_rfl) ⟨rfl, by decide, by decide⟩ ?F (fun _ _ _ _ z => z)
    intro w mg fa h Y G hmg0
    obtain ⟨K, KX, c, e⟩ := Y
    have hmg : mg ("law" : PySem.Str) = some (.ref fa) := by
      have e : (HandSHeadRun.topDef (PySem.W.OpenLaw.row PySem.Challenge.rw_sumsheets_k14_whole_of).prog 71).name = ("law" : PySem.Str) := by kernel_rfl
      rw [← e]
      exact hmg0
    obtain ⟨fd, F⟩ := c.def_ 49 (d := d_law) rfl
    have ea := hmg.symm.trans (He.glo_ok KX G (c.fact 57 (f := .glo "law") rfl))
    cases ea
    have b := FunD.bindsA (ps := ["script"]) F fun _ _ _ _ _ _ us hl => match us, hl with | [_], _ => rfl
    refine ⟨K, fd, spLaw K, KX, fun s v => b s [v] rfl, fun H a ns hl ho hS => sp_law hl ho hS, fun base hK hN => ?_⟩
    have S : Fs PySem.Challenge.pw_sumsheets_k14_whole_of w K mg base := fs KX G c e
    have F2 := F
    unfold d_law at F2
    dsimp only at F2
    rw [bd_law] at F2
    exact law_fn F2 sc_law S.ok (k_law S) t0_law ⟨by decide, by decide⟩ ck_law law
end K14
set_option maxHeartbeats 4000000
/-! k14: the law, whole. -/
namespace K14
open PySem Ss L2 Pg
theorem num_col {cs : List Col} (h : ColsOk cs) (hn : ∃ c ∈ cs, c.wd = false) : ∃ (c : Col) (r : List Col), numCols cs = c :: r ∧ kndOf cs c.nm = some false := by
  obtain ⟨c, hc, hw⟩ := hn
  cases e : numCols cs with
  | nil =>
    have : c ∈ numCols cs := List.mem_filter.mpr ⟨hc, by simp [hw]⟩
    rw [e] at this; cases this
  | cons d r =>
    have : d ∈ numCols cs := by rw [e]; exact List.mem_cons_self
    have q := List.mem_filter.mp this
    refine ⟨d, r, rfl, ?_⟩
    have k := knd_at h q.1
    rw [k]
    have := q.2
    simp at this
    rw [this]
theorem law_hs (ns : List Int) : Hs (exs I_law [.dat (.scr ns), .dat .town, .emp, .emp, .emp, .emp, .emp, .emp, .emp, .emp, .emp, .emp, .emp, .emp, .emp, .emp, .emp, .emp, .emp, .emp]) 2000 fun f => f = .rt (.bl true) := by
  show Hs (exs R_0 _) _ _
  refine Hs.stepS (c1 := 1592) (c2 := 400) (P := fun ρ => ∃ t : Tab, ρ = [.dat (.scr ns), .dat .town, .dat t.d, .emp, .emp, .emp, .emp, .emp, .emp, .emp, .emp, .emp, .emp, .emp, .emp, .emp, .emp, .emp, .emp, .emp] ∧ TabOk t ∧ ∃ c ∈ t.cs, c.wd = false) ?_ fun ρ hρ => ?_
  · have T := table_ok ns (m := 10) (by decide)
    rw [show ((10 : Nat) : Int) = 10 from rfl] at T
    simp
    refine Hs.stp (c1 := 1592) (c2 := 0) T fun d hd => ?_
    obtain ⟨t, rfl, ht, _, _, hn, _⟩ := hd
    exact Hs.ret ⟨_, rfl, t, rfl, ht, hn⟩
  obtain ⟨t, rfl, ht, hn⟩ := hρ
  have X1 : exs R_1 [.dat (.scr ns), .dat .town, .dat t.d, .emp, .emp, .emp, .emp, .emp, .emp, .emp, .emp, .emp, .emp, .emp, .emp, .emp, .emp, .emp, .emp, .emp] = exs R_2 [.dat (.scr ns), .dat .town, .dat t.d, .dat (colsD t.cs), .emp, .emp, .emp, .emp, .emp, .emp, .emp, .emp, .emp, .emp, .emp, .emp, .emp, .emp, .emp, .emp] := by
    refine exs_step ?_
    have i0 : idxD t.d (.int 0) = some (colsD t.cs) := rfl
    simp [i0]
  obtain ⟨c0, cr0, hc0, hx⟩ := num_col ht.cols hn
  generalize hxx : c0.nm = x at *
  have X2 : exs R_2 [.dat (.scr ns), .dat .town, .dat t.d, .dat (colsD t.cs), .emp, .emp, .emp, .emp, .emp, .emp, .emp, .emp, .emp, .emp, .emp, .emp, .emp, .emp, .emp, .emp] = exs R_3 [.dat (.scr ns), .dat .town, .dat t.d, .dat (colsD t.cs), .dat (.str x), .emp, .emp, .emp, .emp, .emp, .emp, .emp, .emp, .emp, .emp, .emp, .emp, .emp, .emp, .emp] := by
    refine exs_step ?_
    simp
    rw [show items (colsD t.cs) = some (t.cs.map Col.d) from rfl]
    simp only [lft_some, stp_ret]
    rw [numCols_lcs (ρ := []) 4 20 (cs := t.cs) fun c => ?_]
    · rw [hc0]
      simp [hxx]
    · simp [cb, Col.d, kn_eqs]
      cases c.wd <;> rfl
  rw [X1, X2]
  refine Hs.stepS (c1 := 12) (c2 := 380) (P := fun ρ => ∃ ks : List Ss.Key, ρ = [.dat (.scr ns), .dat .town, .dat t.d, .dat (colsD t.cs), .dat (.str x), .dat (.lst (ks.map Key.d)), .emp, .emp, .emp, .emp, .emp, .emp, .emp, .emp, .emp, .emp, .emp, .emp, .emp, .emp] ∧ (∀ k ∈ ks, KeyOk t.cs k) ∧ ks.length = 4) ?_ fun ρ hρ => ?_
  · have r4 : rngD [.int 4] = some ((List.range 4).map natD) := rngD_nat 4 (by decide)
    simp [r4]
    refine Hs.stp (c1 := 12) (c2 := 0) (P := fun ds => All2 (fun _ d => ∃ k : Ss.Key, d = k.d ∧ KeyOk t.cs k) (List.range 4) ds) ?_ fun ds hd => ?_
    · refine Hs.lcs (c1 := 3) (fun i _ => ?_) (by rw [List.length_range]; omega)
      simp [cb]
      exact Hs.bnd (c1 := 3) (c2 := 0) (key_ok ns ht.cols) fun d hd => Hs.ret ⟨d, rfl, hd⟩
    obtain ⟨ks, rfl, h2⟩ := hd.back
    have lk := h2.len
    rw [List.length_range] at lk
    exact Hs.ret ⟨_, rfl, ks, rfl, fun k hk => by obtain ⟨_, _, q⟩ := h2.get hk; exact q, by omega⟩
  obtain ⟨ks, rfl, hk, lk⟩ := hρ
  refine Hs.stepS (c1 := 2) (c2 := 370) (P := fun ρ => ∃ rk ck : List Ss.Key, ρ = [.dat (.scr ns), .dat .town, .dat t.d, .dat (colsD t.cs), .dat (.str x), .dat (.lst (ks.map Key.d)), .dat (.tup [keysD rk, keysD ck]), .emp, .emp, .emp, .emp, .emp, .emp, .emp, .emp, .emp, .emp, .emp, .emp, .emp] ∧ (∀ k ∈ rk, KeyOk t.cs k) ∧ (∀ k ∈ ck, KeyOk t.cs k) ∧ rk.length ≤ 3 ∧ ck.length ≤ 3) ?_ fun ρ hρ => ?_
  · simp
    refine Hs.stp (c1 := 1) (c2 := 1) (draw_ok ns (m := 3) (by decide)) fun d hd => ?_
    obtain ⟨a, rfl, ha⟩ := hd
    simp [natD, cutL_take]
    refine Hs.stp (c1 := 1) (c2 := 0) (draw_ok ns (m := 3) (by decide)) fun d hd => ?_
    obtain ⟨b, rfl, hb⟩ := hd
    have e2 : (2 + (b : Int)) = ((2 + b : Nat) : Int) := by omega
    have cb2 : ∀ z : List D, cutL z (some 2) (some ((2 + b : Nat) : Int)) = (z.take (2 + b)).drop 2 := fun z => cutL_both z 2 (2 + b)
    simp [natD]
    rw [e2, cb2]
    refine Hs.ret ⟨_, rfl, ks.take a, (ks.take (2 + b)).drop 2, ?_, fun k hh => hk k (List.mem_of_mem_take hh), fun k hh => hk k (List.mem_of_mem_take (List.mem_of_mem_drop hh)), by rw [List.length_take]; omega, by rw [List.length_drop, List.length_take]; omega⟩
    simp only [keysD, List.map_take, List.map_drop]
  obtain ⟨rk, ck, rfl, hrk, hck, lrk, lck⟩ := hρ
  have ok : Ok t rk ck x := ⟨ht, ⟨hrk, lrk, hck, lck, fun k hk => by
      simp only [pl, List.mem_cons, List.not_mem_nil, or_false] at hk
      rcases hk with rfl | rfl | rfl | rfl
      all_goals exact sum_one (fit_num hx), by simp [pl], by simp [pl], fun k hk => (by cases hk), by simp [pl]⟩, hx⟩
  have X5 : exs R_5 [.dat (.scr ns), .dat .town, .dat t.d, .dat (colsD t.cs), .dat (.str x), .dat (.lst (ks.map Key.d)), .dat (.tup [keysD rk, keysD ck]), .emp, .emp, .emp, .emp, .emp, .emp, .emp, .emp, .emp, .emp, .emp, .emp, .emp] = exs R_6 [.dat (.scr ns), .dat .town, .dat t.d, .dat (colsD t.cs), .dat (.str x), .dat (.lst (ks.map Key.d)), .dat (pl rk ck x).d, .emp, .emp, .emp, .emp, .emp, .emp, .emp, .emp, .emp, .emp, .emp, .emp, .emp] := by
    refine exs_step ?_
    have aa : ∀ d : D, Op.f .add (.tup [keysD rk, keysD ck]) (.tup [d, .tup []]) = some (.tup [keysD rk, keysD ck, d, .tup []]) := fun d => op_addT (show (4 : Nat) ≤ sizeLine by decide)
    simp [aa]
    rfl
  rw [X5]
  generalize Sl.dat (.lst (ks.map Key.d)) = v5
  have T1 := turned_sem ht.cols ok.a
  have T2 := turned_sem ht.cols (trn_ok ok.a)
  rw [trn_trn] at T2
  have X6 : exs R_6 [.dat (.scr ns), .dat .town, .dat t.d, .dat (colsD t.cs), .dat (.str x), v5, .dat (pl rk ck x).d, .emp, .emp, .emp, .emp, .emp, .emp, .emp, .emp, .emp, .emp, .emp, .emp, .emp] = exs R_7 [.dat (.scr ns), .dat .town, .dat t.d, .dat (colsD t.cs), .dat (.str x), v5, .dat (pl rk ck x).d, .dat (pl rk ck x).trn.d, .emp, .emp, .emp, .emp, .emp, .emp, .emp, .emp, .emp, .emp, .emp, .emp] := by
    refine exs_step ?_
    simp [T1]
  have i2 : idxD (pl rk ck x).trn.d (.int 2) = some (sumsD (pl rk ck x).trn.sm) := rfl
  have X7 : exs R_7 [.dat (.scr ns), .dat .town, .dat t.d, .dat (colsD t.cs), .dat (.str x), v5, .dat (pl rk ck x).d, .dat (pl rk ck x).trn.d, .emp, .emp, .emp, .emp, .emp, .emp, .emp, .emp, .emp, .emp, .emp, .emp] = exs R_8 [.dat (.scr ns), .dat .town, .dat t.d, .dat (colsD t.cs), .dat (.str x), v5, .dat (pl rk ck x).d, .dat (pl rk ck x).trn.d, .emp, .emp, .emp, .emp, .emp, .emp, .emp, .emp, .emp, .emp, .emp, .emp] := by
    refine exs_step ?_
    have N := ne_same (gs_sums ht.cols (trn_ok ok.a).sm (by simp [pl, Plan.trn])).okE
    have e : sumsD (pl rk ck x).trn.sm = .tup [.tup [.str "sum", .str x], .tup [.str "of all", .str x], .tup [.str "of column", .str x], .tup [.str "of row", .str x]] := rfl
    rw [e] at i2 N
    simp [i2, N]
  have X8 : exs R_8 [.dat (.scr ns), .dat .town, .dat t.d, .dat (colsD t.cs), .dat (.str x), v5, .dat (pl rk ck x).d, .dat (pl rk ck x).trn.d, .emp, .emp, .emp, .emp, .emp, .emp, .emp, .emp, .emp, .emp, .emp, .emp] = exs R_9 [.dat (.scr ns), .dat .town, .dat t.d, .dat (colsD t.cs), .dat (.str x), v5, .dat (pl rk ck x).d, .dat (pl rk ck x).trn.d, .emp, .emp, .emp, .emp, .emp, .emp, .emp, .emp, .emp, .emp, .emp, .emp] := by
    refine exs_step ?_
    have N := ne_same (gs_plan ht.cols ok.a).okE
    simp [T2, N]
  have X9 : exs R_9 [.dat (.scr ns), .dat .town, .dat t.d, .dat (colsD t.cs), .dat (.str x), v5, .dat (pl rk ck x).d, .dat (pl rk ck x).trn.d, .emp, .emp, .emp, .emp, .emp, .emp, .emp, .emp, .emp, .emp, .emp, .emp] = exs R_10 (E14 ns t rk ck x v5 .emp .emp .emp .emp .emp .emp .emp) := by
    refine exs_step ?_
    simp [heads_sem ht ok.a]
  have X10 : exs R_10 (E14 ns t rk ck x v5 .emp .emp .emp .emp .emp .emp .emp) = exs R_11 (E14 ns t rk ck x v5 (dic []) .emp .emp .emp .emp .emp .emp) := by
    refine exs_step ?_
    simp
    rfl
  have it : items (rowsD (t.rws (pl rk ck x))) = some ((t.rws (pl rk ck x)).map rowD) := rfl
  obtain ⟨v9, v12, F⟩ := fill_sem ns ok v5
  have X11 : exs R_11 (E14 ns t rk ck x v5 (dic []) .emp .emp .emp .emp .emp .emp) = exs R_12 (E14 ns t rk ck x v5 (dic (fill t rk ck x)) v9 v12 .emp .emp .emp .emp) := by
    refine exs_step ?_
    simp only [ex_for]
    simp [it]
    exact F
  obtain ⟨-, w, G⟩ := forB_fold (tg := .one 9) (body := B_law_3) (em := rowD) (σ := Unit) (I := fun _ => True) (st := fun _ _ => ()) (en := fun _ (v : Sl × Sl × Sl × Sl × Sl × Sl) => E14 ns t rk ck x v5 (dic (fill t rk ck x)) v.1 v.2.1 v.2.2.1 v.2.2.2.1 v.2.2.2.2.1 v.2.2.2.2.2) (xs := t.rws (pl rk ck x)) (s := ()) (t := (v9, v12, .emp, .emp, .emp, .emp)) trivial fun s v a ha _ => by
    obtain ⟨w12, w13, w15, w16, w17, E⟩ := row_sem ns ok v5 ha v.2.1 v.2.2.1 v.2.2.2.1 v.2.2.2.2.1 v.2.2.2.2.2
    exact ⟨trivial, (.dat (rowD a), w12, w13, w15, w16, w17), E⟩
  have X12 : exs R_12 (E14 ns t rk ck x v5 (dic (fill t rk ck x)) v9 v12 .emp .emp .emp .emp) = exs R_13 (E14 ns t rk ck x v5 (dic (fill t rk ck x)) w.1 w.2.1 w.2.2.1 w.2.2.2.1 w.2.2.2.2.1 w.2.2.2.2.2) := by
    refine exs_step ?_
    simp only [ex_for]
    simp [it]
    exact G
  rw [X6, X7, X8, X9, X10, X11, X12]
  refine Hs.of ?_ rfl
  simp [R_13]
end K14
theorem PySem.Challenge.cw_sumsheets_k14_whole_of_holds : PySem.Challenge.rw_sumsheets_k14_whole_of.Holds := by
  refine K14.holds fun ns _ => ?_
  obtain ⟨f, n', e, _, rfl⟩ := K14.law_hs ns 0 [] (by decide)
  exact ⟨_, e⟩
