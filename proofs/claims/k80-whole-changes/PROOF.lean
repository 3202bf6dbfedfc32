import PyProof.Rows.All
import Wide.All
import OpenK.AllK
import Wide.FinOn
import HandS.ForMost
import HandS.ForExc
import HandS.Deep
import HandS.IsInst
import HandS.TupAny
import HandS.TupMul
import HandS.SetFor
import HandS.Conv
import HandS.Flow
import HandS.CallLocal
import HandS.Zip
import KE.KDictCopyH
import HandS.Walk
import HandS.HeadHook1
import HandS.Defaults
import HandS.HeadHook2
import HandS.HeadEnd
import HandS.Head2
import PySem.Challenge.RW_sumsheets_k80_whole_changes
set_option Elab.async false
set_option linter.all false
set_option maxRecDepth 100000
set_option maxHeartbeats 4000000
/-! Ss, part A: plain data D, the small language IR, its evaluator. No program in sight. -/
namespace Ss
open PySem L2

/-- data: what a program's values are worth -/
inductive D where
  | non | bl (b : Bool) | int (i : Int) | str (x : Str) | lst (xs : List D) | tup (xs : List D) | dic (es : List D) | fn (f : Str) | exn (c : Str) | town | scr (ns : List Int)

/-- an end: a value and how many draws there were; an own error; or nothing is known -/
inductive Res (α : Type) where
  | ok (a : α) (n : Nat) | exc (c : Str) (n : Nat) | bad
abbrev M (α : Type) := Nat → Res α
def ret {α : Type} (a : α) : M α := fun n => .ok a n
def bnd {α β : Type} (m : M α) (k : α → M β) : M β := fun n => match m n with
  | .ok a n' => k a n'
  | .exc c n' => .exc c n'
  | .bad => .bad
def bad {α : Type} : M α := fun _ => .bad
def lft {α : Type} : Option α → M α
  | some a => ret a
  | none => bad
def raz {α : Type} (c : Str) : M α := fun n => .exc c n
/-- where no error may leave -/
def sup {α : Type} (m : M α) : M α := fun n => match m n with
  | .exc _ _ => .bad
  | r => r

theorem bnd_ok {α β : Type} {m : M α} {k : α → M β} {n n' : Nat} {a : α} (h : m n = .ok a n') : bnd m k n = k a n' := by simp only [bnd, h]
theorem bnd_exc {α β : Type} {m : M α} {k : α → M β} {n n' : Nat} {c : Str} (h : m n = .exc c n') : bnd m k n = .exc c n' := by simp only [bnd, h]
theorem bnd_bad {α β : Type} {m : M α} {k : α → M β} {n : Nat} (h : m n = .bad) : bnd m k n = .bad := by simp only [bnd, h]
@[simp] theorem ret_bnd {α β : Type} (a : α) (k : α → M β) : bnd (ret a) k = k a := Eq.trans rfl rfl
@[simp] theorem bad_bnd {α β : Type} (k : α → M β) : bnd (bad : M α) k = bad := Eq.trans rfl rfl
@[simp] theorem raz_bnd {α β : Type} (c : Str) (k : α → M β) : bnd (raz c : M α) k = raz c := Eq.trans rfl rfl
@[simp] theorem lft_some {α : Type} (a : α) : lft (some a) = ret a := Eq.trans rfl rfl
@[simp] theorem lft_none {α : Type} : lft (none : Option α) = bad := Eq.trans rfl rfl
@[simp] theorem sup_ret {α : Type} (a : α) : sup (ret a) = ret a := Eq.trans rfl rfl
theorem bnd_assoc {α β γ : Type} (m : M α) (k : α → M β) (l : β → M γ) : bnd (bnd m k) l = bnd m fun a => bnd (k a) l := by
  funext n; simp only [bnd]; cases m n <;> rfl
@[simp] theorem bnd_ret {α : Type} (m : M α) : bnd m ret = m := by
  funext n; simp only [bnd]; cases m n <;> rfl

/-! ### equality of data, as Python has it -/
mutual
def D.eqv : D → D → Bool
  | .non, .non => true
  | .bl a, .bl b => a == b
  | .bl a, .int j => (if a then 1 else 0) == j
  | .int i, .bl b => i == (if b then 1 else 0)
  | .int i, .int j => i == j
  | .str x, .str y => x == y
  | .lst xs, .lst ys => D.eqvs xs ys
  | .tup xs, .tup ys => D.eqvs xs ys
  | _, _ => false
def D.eqvs : List D → List D → Bool
  | [], [] => true
  | x :: xs, y :: ys => D.eqv x y && D.eqvs xs ys
  | _, _ => false
end
mutual
def D.toP : D → PyData
  | .non => .none
  | .bl b => .bool b
  | .int i => .int i
  | .str x => .str x
  | .lst xs => .list (D.toPs xs)
  | .tup xs => .tuple (D.toPs xs)
  | _ => .none
def D.toPs : List D → List PyData
  | [] => []
  | x :: xs => D.toP x :: D.toPs xs
end
mutual
/-- made of None, truths, numbers, texts, lists, tuples alone -/
def D.pl : D → Bool
  | .non => true
  | .bl _ => true
  | .int _ => true
  | .str x => PyData.strOk x
  | .lst xs => D.pls xs
  | .tup xs => D.pls xs
  | _ => false
def D.pls : List D → Bool
  | [] => true
  | x :: xs => D.pl x && D.pls xs
end
mutual
def D.dep : D → Nat
  | .lst xs => D.deps xs + 1
  | .tup xs => D.deps xs + 1
  | _ => 0
def D.deps : List D → Nat
  | [] => 0
  | x :: xs => max (D.dep x) (D.deps xs)
end
/-- may be compared -/
def D.okE (d : D) : Bool := d.pl && decide (d.dep ≤ 60)

/-! ### truth, items, places, cuts -/
def tru : D → Option Bool
  | .non => some false
  | .bl b => some b
  | .int i => some (i != 0)
  | .str x => if x.length ≤ sizeLine then some ((x.length : Int) != 0) else none
  | .lst xs => some (!xs.isEmpty)
  | .tup xs => some (!xs.isEmpty)
  | .scr ns => some (!ns.isEmpty)
  | _ => none
def sgn (c : Nat) : D := .str ⟨#[c]⟩
def items : D → Option (List D)
  | .lst xs => some xs
  | .tup xs => some xs
  | .str x => if x.length ≤ sizeLine then some (x.cps.toList.map sgn) else none
  | _ => none
def cutL {α : Type} (xs : List α) (lo hi : Option Int) : List α := (xs.drop (HT.sIx xs.length 0 lo)).take (HT.sIx xs.length xs.length hi - HT.sIx xs.length 0 lo)
def part : D → Option (Option Int)
  | .int i => some (some i)
  | _ => none
def cutD (d : D) (lo hi : Option Int) : Option D := match d with
  | .lst xs => some (.lst (cutL xs lo hi))
  | .tup xs => some (.tup (cutL xs lo hi))
  | .str x => if x.length ≤ sizeLine then some (.str (cutS x lo hi)) else none
  | _ => none
def idxD : D → D → Option D
  | .lst xs, .int i => atI xs i
  | .tup xs, .int i => atI xs i
  | .str x, .int i => if x.length ≤ sizeLine then (atI x.cps.toList i).map sgn else none
  | .scr ns, .int i => (atI ns i).map D.int
  | _, _ => none
def lenD : D → Option Int
  | .lst xs => some xs.length
  | .tup xs => some xs.length
  | .str x => if x.length ≤ sizeLine then some x.length else none
  | .scr ns => some ns.length
  | _ => none

/-! ### operators -/
inductive Op where
  | add | sub | mul | fdiv | mod | pow
  deriving DecidableEq
def w64 (i : Int) : Bool := decide (-(2 ^ 64) < i) && decide (i < 2 ^ 64)
def Op.f : Op → D → D → Option D
  | .add, .int i, .int j => some (.int (i + j))
  | .add, .str x, .str y => if x.length + y.length ≤ sizeLine then some (.str (x ++ y)) else none
  | .add, .lst xs, .lst ys => if xs.length + ys.length ≤ sizeLine then some (.lst (xs ++ ys)) else none
  | .add, .tup xs, .tup ys => if xs.length + ys.length ≤ sizeLine then some (.tup (xs ++ ys)) else none
  | .sub, .int i, .int j => some (.int (i - j))
  | .mul, .int i, .int j => if w64 i || w64 j then some (.int (i * j)) else none
  | .mul, .lst xs, .int k => if 0 ≤ k ∧ k < 2 ^ 62 ∧ xs.length * k.toNat ≤ sizeLine then some (.lst (List.replicate k.toNat xs).flatten) else none
  | .fdiv, .int i, .int j => if 0 < j ∧ j < 1073741824 then some (.int (i / j)) else none
  | .mod, .int i, .int j => if 0 < j then some (.int (i % j)) else none
  | .pow, .int i, .int j => if 0 ≤ j ∧ j ≤ 1000000 ∧ i.natAbs < 2 ^ 64 then some (.int (i ^ j.toNat)) else none
  | _, _, _ => none
inductive Cm where
  | eq | ne | lt | le | gt | ge | inn | nin
  deriving DecidableEq
def sgnOf (x : Str) : Option Nat := match x.cps.toList with
  | [c] => some c
  | _ => none
def inD : D → D → Option Bool
  | d, .lst ys => if d.okE && (D.lst ys).okE then some (ys.any fun z => D.eqv z d) else none
  | d, .tup ys => if d.okE && (D.tup ys).okE then some (ys.any fun z => D.eqv z d) else none
  | .str x, .str y => (sgnOf x).map fun c => decide (c ∈ y.cps.toList)
  | _, _ => none
def Cm.f : Cm → D → D → Option Bool
  | .eq, d, e => if d.okE && e.okE then some (D.eqv d e) else none
  | .ne, d, e => if d.okE && e.okE then some (!D.eqv d e) else none
  | .lt, .int i, .int j => some (decide (i < j))
  | .le, .int i, .int j => some (decide (i ≤ j))
  | .gt, .int i, .int j => some (decide (j < i))
  | .ge, .int i, .int j => some (decide (j ≤ i))
  | .inn, d, e => inD d e
  | .nin, d, e => (inD d e).map fun b => !b
  | _, _, _ => none

/-! ### built-ins by name -/
inductive Ty where
  | int | bool | str | tuple | list
  deriving DecidableEq
def Ty.f : Ty → D → Option Bool
  | t, .non => some false
  | t, .bl _ => some (decide (t = .int ∨ t = .bool))
  | t, .int _ => some (decide (t = .int))
  | t, .str _ => some (decide (t = .str))
  | t, .lst _ => some (decide (t = .list))
  | t, .tup _ => some (decide (t = .tuple))
  | _, _ => none
inductive Bi where
  | len | all | max2 | int | list | tuple
  deriving DecidableEq
def bools : List D → Option (List Bool)
  | [] => some []
  | .bl b :: r => (bools r).map fun bs => b :: bs
  | _ :: _ => none
def Bi.f : Bi → List D → Option D
  | .len, [d] => (lenD d).map D.int
  | .all, [.lst ds] => (bools ds).map fun bs => .bl (bs.all id)
  | .max2, [.int i, .int j] => some (.int (if j > i then j else i))
  | .int, [.int i] => some (.int i)
  | .int, [.bl b] => some (.int (if b then 1 else 0))
  | .list, [.lst xs] => some (.lst xs)
  | .list, [.tup xs] => some (.lst xs)
  | .tuple, [.lst xs] => some (.tup xs)
  | .tuple, [.tup xs] => some (.tup xs)
  | _, _ => none
def txts : List D → Option (List Str)
  | [] => some []
  | .str x :: r => (txts r).map fun xs => x :: xs
  | _ :: _ => none
/-- a thing by which a set tells its members apart -/
def leaf : D → Option Leaf
  | .non => some .none
  | .bl b => some (.num (if b then 1 else 0))
  | .int i => some (.num i)
  | .str x => some (.text x)
  | _ => none
def leaves : List D → Option (List Leaf)
  | [] => some []
  | d :: r => (leaf d).bind fun x => (leaves r).map fun xs => x :: xs
/-- how many unlike ones among the first i -/
def dcn (xs : List Leaf) : Nat → Nat
  | 0 => 0
  | i + 1 => if (xs.take i).any (fun z => decide (z = xs.getD i .none)) then dcn xs i else dcn xs i + 1
def joinS (z : Str) (ds : List D) : Option D := (txts ds).bind fun xs => if (xs.map (·.length)).sum + xs.length * z.length ≤ 16777216 then some (.str (Txt.join z xs)) else none
def rngL (lo hi : Int) : List D := (List.range (hi - lo).toNat).map fun (k : Nat) => D.int (lo + (k : Int))
def rngD : List D → Option (List D)
  | [.int j] => if -(2 ^ 62) ≤ j ∧ j ≤ 16777216 then some (rngL 0 j) else none
  | [.int i, .int j] => if -(2 ^ 62) ≤ i ∧ i ≤ 16777216 ∧ -(2 ^ 62) ≤ j ∧ j ≤ 16777216 ∧ j - i ≤ 16777216 then some (rngL i j) else none
  | _ => none

/-! ### the language -/
/-- a def by its name, with what it comes to -/
structure Fn where
  name : Str
  ar : Nat
  sem : List D → M D
/-- where a value goes: one name's slot, several -/
inductive Tg where
  | one (i : Nat) | many (is : List Nat)
inductive IR where
  | var (i : Nat) | own (i : Nat) | lit (d : D) | glob (x : Str) (d : D)
  | tup (es : List IR) | lst (es : List IR)
  | op (o : Op) (a b : IR) | cmp (o : Cm) (a b : IR) | chain (a b c : IR) | isn (neg : Bool) (a : IR)
  | bop (an : Bool) (es : List IR) | nt (a : IR) | ite (c a b : IR)
  | idx (a b : IR) | slc (a : IR) (lo hi : Option IR)
  | call (g : Fn) (es : List IR) | callv (i : Nat) (gs : List Fn) (es : List IR)
  | bi (b : Bi) (es : List IR) | isi (t : Ty) (a : IR) | lens (a : IR) | join (z a : IR)
  | rng (es : List IR) | lrng (es : List IR) | tlen (i : Nat)
  | comp (elt : IR) (tg : Tg) (it : IR) (ifs : List IR) (vs : List Nat)
/-! ### what it comes to -/
/-- a slot: nothing known; data; a list that is this frame's own -/
inductive Sl where
  | emp | dat (d : D) | own (xs : List D)
abbrev Env := List Sl
def put (ρ : Env) (i : Nat) (s : Sl) : Env := ρ.set i s
def wip (ρ : Env) : List Nat → Env
  | [] => ρ
  | v :: vs => (wip ρ vs).set v .emp
def puts (ρ : Env) : List Nat → List D → Option Env
  | [], [] => some ρ
  | i :: is, d :: ds => puts (ρ.set i (.dat d)) is ds
  | _, _ => none
def Tg.put : Tg → D → Env → Option Env
  | .one i, d, ρ => some (ρ.set i (.dat d))
  | .many is, .tup ds, ρ => puts ρ is ds
  | _, _, _ => none
def getD (ρ : Env) (i : Nat) : Option D := match ρ[i]? with
  | some (.dat d) => some d
  | _ => none
def getO (ρ : Env) (i : Nat) : Option (List D) := match ρ[i]? with
  | some (.own xs) => some xs
  | _ => none
/-- a list comprehension's turns -/
def lcs (f : D → M (Option D)) : List D → M (List D)
  | [] => ret []
  | d :: ds => bnd (sup (f d)) fun o => bnd (lcs f ds) fun r => ret (match o with
    | some x => x :: r
    | none => r)
def truM (m : M D) : M Bool := bnd m fun d => lft (tru d)
mutual
def ev : IR → Env → M D
  | .var i, ρ => lft (getD ρ i)
  | .own i, ρ => lft ((getO ρ i).map D.lst)
  | .lit d, _ => ret d
  | .glob _ d, _ => ret d
  | .tup es, ρ => bnd (evs es ρ) fun ds => if ds.length ≤ sizeLine then ret (.tup ds) else bad
  | .lst es, ρ => bnd (evs es ρ) fun ds => if ds.length ≤ sizeLine then ret (.lst ds) else bad
  | .op o a b, ρ => bnd (ev a ρ) fun x => bnd (ev b ρ) fun y => lft (o.f x y)
  | .cmp o a b, ρ => bnd (ev a ρ) fun x => bnd (ev b ρ) fun y => lft ((o.f x y).map D.bl)
  | .chain a b c, ρ => bnd (ev a ρ) fun x => bnd (ev b ρ) fun y => bnd (lft (Cm.f .le x y)) fun k => if k then bnd (ev c ρ) fun z => lft ((Cm.f .le y z).map D.bl) else ret (.bl false)
  | .isn neg a, ρ => bnd (ev a ρ) fun x => ret (.bl (match x with
    | .non => !neg
    | _ => neg))
  | .bop an es, ρ => evb an es ρ
  | .nt a, ρ => bnd (ev a ρ) fun x => lft ((tru x).map fun b => D.bl (!b))
  | .ite c a b, ρ => bnd (ev c ρ) fun x => bnd (lft (tru x)) fun k => if k then ev a ρ else ev b ρ
  | .idx a b, ρ => bnd (ev a ρ) fun x => bnd (ev b ρ) fun y => lft (idxD x y)
  | .slc a lo hi, ρ => bnd (ev a ρ) fun x => bnd (evo lo ρ) fun l => bnd (evo hi ρ) fun h => lft (cutD x l h)
  | .call g es, ρ => bnd (evs es ρ) fun ds => if ds.length = g.ar then g.sem ds else bad
  | .callv i gs es, ρ => match getD ρ i with
    | some (.fn x) => (match gs.find? fun g => g.name == x with
      | some g => bnd (evs es ρ) fun ds => if ds.length = g.ar then g.sem ds else bad
      | none => bad)
    | _ => bad
  | .bi b es, ρ => bnd (evs es ρ) fun ds => lft (b.f ds)
  | .isi t a, ρ => bnd (ev a ρ) fun x => lft ((t.f x).map D.bl)
  | .lens a, ρ => bnd (ev a ρ) fun x => match x with
    | .lst ds => lft ((leaves ds).bind fun xs => if xs.length ≤ 4000 then some (D.int (dcn xs xs.length)) else none)
    | _ => bad
  | .join z a, ρ => bnd (ev z ρ) fun s => match s with
    | .str z => bnd (ev a ρ) fun x => (match x with
      | .lst ds => lft (joinS z ds)
      | _ => bad)
    | _ => bad
  | .rng _, _ => bad
  | .lrng es, ρ => bnd (evs es ρ) fun ds => lft ((rngD ds).map D.lst)
  | .tlen i, ρ => bnd (lft (getD ρ i)) fun x => match x with
    | .town => fun n => .ok (.int n) n
    | _ => bad
  | .comp elt tg it ifs vs, ρ => bnd (match it with
      | .rng es => bnd (evs es ρ) fun ds => lft (rngD ds)
      | it => bnd (ev it ρ) fun x => lft (items x)) fun ds =>
    bnd (lcs (fun d => bnd (lft (tg.put d (wip ρ vs))) fun ρ2 => bnd (evb true ifs ρ2) fun c => bnd (lft (tru c)) fun k => if k then bnd (ev elt ρ2) fun x => ret (some x) else ret none) ds) fun xs => ret (.lst xs)
def evs : List IR → Env → M (List D)
  | [], _ => ret []
  | e :: es, ρ => bnd (ev e ρ) fun d => bnd (evs es ρ) fun ds => ret (d :: ds)
def evo : Option IR → Env → M (Option Int)
  | none, _ => ret none
  | some e, ρ => bnd (ev e ρ) fun x => lft (part x)
def evb (an : Bool) : List IR → Env → M D
  | [], _ => ret (.bl an)
  | [e], ρ => ev e ρ
  | e :: es, ρ => bnd (ev e ρ) fun x => bnd (lft (tru x)) fun k => if k == an then evb an es ρ else ret x
end
def evi (it : IR) (ρ : Env) : M (List D) := match it with
  | .rng es => bnd (evs es ρ) fun ds => lft (rngD ds)
  | it => bnd (ev it ρ) fun x => lft (items x)

def nums : List D → Option (List Int)
  | [] => some []
  | .int i :: r => (nums r).map fun is => i :: is
  | _ :: _ => none
end Ss
/-! Ss, part B: how data lie in the abstract heap; slots; what evaluation may change. -/
namespace Ss
open PySem L2

/-- the program's fixed part -/
structure Gd where
  P : Program
  w : World
  K : PySem.W.Frag
  mg : Str → Option Value
  base : Heap
/-- the lists that nobody changes any more -/
abbrev FS := Addr → Prop

mutual
def Rp (g : Gd) (H : Hp) (F : FS) (T : Option Addr) : D → V → Prop
  | .non, v => v = .non
  | .bl b, v => v = .bl b
  | .int i, v => v = .int i
  | .str x, v => v = .str x
  | .lst ds, v => ∃ a vs, v = .ref a ∧ H a = some (.lst vs) ∧ F a ∧ vs.length ≤ sizeLine ∧ Rps g H F T ds vs
  | .tup ds, v => ∃ a vs, v = .ref a ∧ SqT g.K H a vs ∧ vs.length ≤ sizeLine ∧ Rps g H F T ds vs
  | .dic _, _ => False
  | .fn f, v => ∃ a, v = .ref a ∧ g.mg f = some (.ref a)
  | .exn _, _ => False
  | .town, v => ∃ a, v = .ref a ∧ T = some a
  | .scr ns, v => ∃ a, v = .ref a ∧ ((∃ o, H a = some (.frz o (.lst (ns.map V.int)))) ∨ ∀ H', SqL g.K H' a (ns.map V.int))
def Rps (g : Gd) (H : Hp) (F : FS) (T : Option Addr) : List D → List V → Prop
  | [], vs => vs = []
  | d :: ds, vs => ∃ v r, vs = v :: r ∧ Rp g H F T d v ∧ Rps g H F T ds r
end

section
variable {g : Gd} {H H' : Hp} {F F' : FS} {T T' : Option Addr}

theorem Rps.len : ∀ {ds : List D} {vs : List V}, Rps g H F T ds vs → vs.length = ds.length
  | [], vs, h => by simp only [Rps] at h; rw [h]; rfl
  | d :: ds, vs, h => by
    simp only [Rps] at h
    obtain ⟨v, r, rfl, _, h⟩ := h
    simp only [List.length_cons, h.len]
theorem Rps.get : ∀ {ds : List D} {vs : List V} {i : Nat} {d : D}, Rps g H F T ds vs → ds[i]? = some d → ∃ v, vs[i]? = some v ∧ Rp g H F T d v
  | [], _, _, _, _, e => by simp at e
  | d :: ds, vs, i, x, h, e => by
    simp only [Rps] at h
    obtain ⟨v, r, rfl, h1, h2⟩ := h
    cases i with
    | zero => simp at e; subst e; exact ⟨v, rfl, h1⟩
    | succ i => simp at e; simpa using h2.get e
theorem Rps.get' : ∀ {ds : List D} {vs : List V} {i : Nat} {v : V}, Rps g H F T ds vs → vs[i]? = some v → ∃ d, ds[i]? = some d ∧ Rp g H F T d v
  | [], vs, _, _, h, e => by simp only [Rps] at h; subst h; simp at e
  | d :: ds, vs, i, x, h, e => by
    simp only [Rps] at h
    obtain ⟨v, r, rfl, h1, h2⟩ := h
    cases i with
    | zero => simp at e; subst e; exact ⟨d, rfl, h1⟩
    | succ i => simp at e; simpa using h2.get' e
theorem Rps.nil : Rps g H F T [] [] := by simp only [Rps]
theorem Rps.cons {d : D} {v : V} {ds : List D} {vs : List V} (h1 : Rp g H F T d v) (h2 : Rps g H F T ds vs) : Rps g H F T (d :: ds) (v :: vs) := by
  simp only [Rps]; exact ⟨v, vs, rfl, h1, h2⟩
theorem Rps.one {d : D} {v : V} (h1 : Rp g H F T d v) : Rps g H F T [d] [v] := .cons h1 .nil
theorem Rps.app : ∀ {ds es : List D} {vs us : List V}, Rps g H F T ds vs → Rps g H F T es us → Rps g H F T (ds ++ es) (vs ++ us)
  | [], _, vs, _, h, k => by simp only [Rps] at h; subst h; exact k
  | d :: ds, es, vs, us, h, k => by
    simp only [Rps] at h
    obtain ⟨v, r, rfl, h1, h2⟩ := h
    exact .cons h1 (h2.app k)
theorem Rps.drop : ∀ {ds : List D} {vs : List V} (n : Nat), Rps g H F T ds vs → Rps g H F T (ds.drop n) (vs.drop n)
  | ds, vs, 0, h => h
  | [], vs, n + 1, h => by simp only [Rps] at h; subst h; exact .nil
  | d :: ds, vs, n + 1, h => by
    simp only [Rps] at h
    obtain ⟨v, r, rfl, h1, h2⟩ := h
    exact h2.drop n
theorem Rps.take : ∀ {ds : List D} {vs : List V} (n : Nat), Rps g H F T ds vs → Rps g H F T (ds.take n) (vs.take n)
  | ds, vs, 0, h => by simp only [List.take_zero]; exact .nil
  | [], vs, n + 1, h => by simp only [Rps] at h; subst h; exact .nil
  | d :: ds, vs, n + 1, h => by
    simp only [Rps] at h
    obtain ⟨v, r, rfl, h1, h2⟩ := h
    exact .cons h1 (h2.take n)
theorem Rps.cut {ds : List D} {vs : List V} (h : Rps g H F T ds vs) (lo hi : Option Int) : Rps g H F T (cutL ds lo hi) (cutV vs lo hi) := by
  unfold cutL cutV
  rw [h.len]
  exact (h.drop _).take _
theorem Rps.rep {ds : List D} {vs : List V} (h : Rps g H F T ds vs) : ∀ k : Nat, Rps g H F T (List.replicate k ds).flatten (List.replicate k vs).flatten
  | 0 => .nil
  | k + 1 => by
    simp only [List.replicate_succ, List.flatten_cons]
    exact h.app (h.rep k)
theorem Rps.eraseIdx : ∀ {ds : List D} {vs : List V} (j : Nat), Rps g H F T ds vs → Rps g H F T (ds.eraseIdx j) (vs.eraseIdx j)
  | [], vs, _, h => by simp only [Rps] at h; subst h; exact .nil
  | d :: ds, vs, j, h => by
    simp only [Rps] at h
    obtain ⟨v, r, rfl, h1, h2⟩ := h
    cases j with
    | zero => exact h2
    | succ j => exact .cons h1 (h2.eraseIdx j)

/-! ### what stays -/
/-- what frozen data lean on stays -/
structure Kp (H : Hp) (F : FS) (H' : Hp) (F' : FS) : Prop where
  frz : ∀ a o, F a → H a = some o → H' a = some o
  tup : ∀ a xs, H a = some (.tup xs) → H' a = some (.tup xs)
  ftp : ∀ a o u, H a = some (.frz o u) → H' a = some (.frz o u)
  sub : ∀ a, F a → F' a
theorem Kp.refl : Kp H F H F := ⟨fun _ _ _ h => h, fun _ _ h => h, fun _ _ _ h => h, fun _ h => h⟩
theorem Kp.trans {H2 : Hp} {F2 : FS} (x : Kp H F H' F') (y : Kp H' F' H2 F2) : Kp H F H2 F2 :=
  ⟨fun a o f h => y.frz a o (x.sub a f) (x.frz a o f h), fun a xs h => y.tup a xs (x.tup a xs h), fun a o xs h => y.ftp a o xs (x.ftp a o xs h), fun a f => y.sub a (x.sub a f)⟩
theorem Kp.sqT (k : Kp H F H' F') {a : Addr} {vs : List V} (h : SqT g.K H a vs) : SqT g.K H' a vs := by
  rcases h with (h | ⟨o, h⟩) | h
  · exact .inl (.inl (k.tup _ _ h))
  · exact .inl (.inr ⟨o, k.ftp _ _ _ h⟩)
  · exact .inr h
theorem Kp.sqL (k : Kp H F H' F') {a : Addr} {vs : List V} (f : F a) (h : SqL g.K H a vs) : SqL g.K H' a vs := by
  rcases h with (h | ⟨o, h⟩) | h
  · exact .inl (.inl (k.frz _ _ f h))
  · exact .inl (.inr ⟨o, k.frz _ _ f h⟩)
  · exact .inr h
mutual
theorem Rp.kp (k : Kp H F H' F') (t : ∀ a, T = some a → T' = some a) : ∀ (d : D) (v : V), Rp g H F T d v → Rp g H' F' T' d v
  | .non, _, h => by simpa only [Rp] using h
  | .bl _, _, h => by simpa only [Rp] using h
  | .int _, _, h => by simpa only [Rp] using h
  | .str _, _, h => by simpa only [Rp] using h
  | .lst ds, _, h => by
    simp only [Rp] at h ⊢
    obtain ⟨a, vs, e, hs, f, l, r⟩ := h
    exact ⟨a, vs, e, k.frz _ _ f hs, k.sub a f, l, Rps.kp k t ds vs r⟩
  | .tup ds, _, h => by
    simp only [Rp] at h ⊢
    obtain ⟨a, vs, e, hs, l, r⟩ := h
    exact ⟨a, vs, e, k.sqT hs, l, Rps.kp k t ds vs r⟩
  | .dic _, _, h => by simp only [Rp] at h
  | .fn _, _, h => by simpa only [Rp] using h
  | .exn _, _, h => by simp only [Rp] at h
  | .town, _, h => by
    simp only [Rp] at h ⊢
    obtain ⟨a, e, h⟩ := h
    exact ⟨a, e, t a h⟩
  | .scr ns, _, h => by
    simp only [Rp] at h ⊢
    obtain ⟨a, e, h⟩ := h
    refine ⟨a, e, ?_⟩
    rcases h with ⟨o, h⟩ | h
    · exact .inl ⟨o, k.ftp a o _ h⟩
    · exact .inr h
theorem Rps.kp (k : Kp H F H' F') (t : ∀ a, T = some a → T' = some a) : ∀ (ds : List D) (vs : List V), Rps g H F T ds vs → Rps g H' F' T' ds vs
  | [], _, h => by simpa only [Rps] using h
  | d :: ds, _, h => by
    simp only [Rps] at h ⊢
    obtain ⟨v, r, e, h1, h2⟩ := h
    exact ⟨v, r, e, Rp.kp k t d v h1, Rps.kp k t ds r h2⟩
end

/-- the town: the list of the draws -/
def Tw (T : Option Addr) (H : Hp) (n : Nat) : Prop := ∀ a, T = some a → H a = some (.lst (List.replicate n (.int 0)))
/-- evaluation: all that was tracked stands, but the town; new lists may be frozen -/
structure Ev (T : Option Addr) (H : Hp) (F : FS) (H' : Hp) (F' : FS) : Prop where
  same : ∀ a o, H a = some o → T ≠ some a → H' a = some o
  sub : ∀ a, F a → F' a
  new : ∀ a, F' a → F a ∨ H a = none
  dom : (∀ a, F a → ∃ o, H a = some o) → ∀ a, F' a → ∃ o, H' a = some o
theorem Ev.refl : Ev T H F H F := ⟨fun _ _ h _ => h, fun _ h => h, fun _ h => .inl h, fun h => h⟩
theorem Ev.kp {n : Nat} (e : Ev T H F H' F') (tw : Tw T H n) (nf : ∀ a, T = some a → ¬ F a) : Kp H F H' F' :=
  ⟨fun a o f h => e.same a o h fun z => nf a z f, fun a xs h => e.same a _ h fun z => (by rw [tw a z] at h; cases h), fun a o xs h => e.same a _ h fun z => (by rw [tw a z] at h; cases h), e.sub⟩
theorem Ev.tnf {n : Nat} (e : Ev T H F H' F') (tw : Tw T H n) (nf : ∀ a, T = some a → ¬ F a) : ∀ a, T = some a → ¬ F' a := fun a z f => by
  rcases e.new a f with q | q
  · exact nf a z q
  · rw [tw a z] at q; cases q
theorem Ev.trans {H2 : Hp} {F2 : FS} {n : Nat} (x : Ev T H F H' F') (tw : Tw T H' n) (y : Ev T H' F' H2 F2) : Ev T H F H2 F2 where
  same := fun a o h t => y.same a o (x.same a o h t) t
  sub := fun a f => y.sub a (x.sub a f)
  new := fun a f => by
    rcases y.new a f with q | q
    · exact x.new a q
    · cases e : H a with
      | none => exact .inr rfl
      | some o =>
        by_cases t : T = some a
        · rw [tw a t] at q; cases q
        · rw [x.same a o e t] at q; cases q
  dom := fun d => y.dom (x.dom d)
theorem dom_upd {p : Addr} {o : HO} (d : ∀ a, F a → ∃ o, H a = some o) : ∀ a, F a → ∃ u, upd H p o a = some u := fun a f => by
  by_cases h : a = p
  · subst h; exact ⟨_, upd_same⟩
  · rw [upd_ne h]; exact d a f
/-- a new object -/
theorem Ev.alloc {p : Addr} {o : HO} (h : H p = none) : Ev T H F (upd H p o) F :=
  ⟨fun a u e _ => by rw [upd_ne (ne_of_none e h)]; exact e, fun _ f => f, fun _ f => .inl f, dom_upd⟩
/-- .. frozen at once -/
theorem Ev.allocF {p : Addr} {o : HO} (h : H p = none) : Ev T H F (upd H p o) (fun a => F a ∨ a = p) :=
  ⟨fun a u e _ => by rw [upd_ne (ne_of_none e h)]; exact e, fun _ f => .inl f, fun a f => by
    rcases f with f | f
    · exact .inl f
    · exact .inr (by rw [f]; exact h), fun d a f => by
    rcases f with f | f
    · exact dom_upd d a f
    · rw [f]; exact ⟨_, upd_same⟩⟩
theorem Tw.alloc {p : Addr} {o : HO} {n : Nat} (t : Tw T H n) (h : H p = none) : Tw T (upd H p o) n := fun a e => by
  have q := t a e
  rw [upd_ne (ne_of_none q h)]; exact q
theorem Kp.alloc {p : Addr} {o : HO} (h : H p = none) (s : ∀ a, F a → F' a) : Kp H F (upd H p o) F' :=
  ⟨fun a u _ e => by rw [upd_ne (ne_of_none e h)]; exact e, fun a _ e => by rw [upd_ne (ne_of_none e h)]; exact e, fun a _ _ e => by rw [upd_ne (ne_of_none e h)]; exact e, s⟩
theorem Kp.write {p : Addr} {o : HO} {xs : List V} (h : H p = some (.lst xs)) (f : ¬ F p) : Kp H F (upd H p o) F :=
  ⟨fun a u q e => by
    have ne : a ≠ p := fun z => f (by rw [← z]; exact q)
    rw [upd_ne ne]; exact e, fun a _ e => by rw [upd_ne (ne_of e h (by intro z; cases z))]; exact e, fun a _ _ e => by rw [upd_ne (ne_of e h (by intro z; cases z))]; exact e, fun _ q => q⟩
theorem Kp.freeze (s : ∀ a, F a → F' a) : Kp H F H F' := ⟨fun _ _ _ h => h, fun _ _ h => h, fun _ _ _ h => h, s⟩
end

/-! ### a def's entry, its slots -/
structure Bs where
  T : Option Addr
  H : Hp
  F : FS
def SlOk (g : Gd) (B : Bs) (H : Hp) (F : FS) (T : Option Addr) : Sl → Option (Option V) → Prop
  | .emp, _ => True
  | .dat d, o => ∃ v, o = some (some v) ∧ Rp g H F T d v
  | .own xs, o => ∃ a vs, o = some (some (.ref a)) ∧ H a = some (.lst vs) ∧ ¬ F a ∧ T ≠ some a ∧ B.H a = none ∧ vs.length ≤ sizeLine ∧ Rps g H F T xs vs
/-- the slots that are lists of this frame's own, by their addresses -/
def OwnAt (ρ : Env) (σ : L2.St) (i : Nat) (a : Addr) : Prop := (∃ xs, ρ[i]? = some (.own xs)) ∧ σ[i]? = some (some (.ref a))
structure Rel (g : Gd) (B : Bs) (ρ : Env) (σ : L2.St) (H : Hp) (F : FS) (T : Option Addr) (n : Nat) : Prop where
  ev : Ev B.T B.H B.F H F
  tw : Tw T H n
  nf : ∀ a, T = some a → ¬ F a
  dm : ∀ a, F a → ∃ o, H a = some o
  tt : B.T = T ∨ (B.T = none ∧ ∀ a, T = some a → B.H a = none)
  len : σ.length = ρ.length
  sl : ∀ (i : Nat) (s : Sl), ρ[i]? = some s → SlOk g B H F T s σ[i]?
  dj : ∀ i j a, OwnAt ρ σ i a → OwnAt ρ σ j a → i = j
section
variable {g : Gd} {B : Bs} {ρ ρ' : Env} {σ : L2.St} {H H' : Hp} {F F' : FS} {T : Option Addr} {n n' : Nat}
theorem Rel.bnT (r : Rel g B ρ σ H F T n) {a : Addr} {o : HO} (h : B.H a = some o) (t : B.T ≠ some a) : T ≠ some a := fun z => by
  rcases r.tt with e | ⟨e, k⟩
  · exact t (e.trans z)
  · rw [k a z] at h; cases h
theorem Rel.stepN (r : Rel g B ρ σ H F T n) (e : Ev T H F H' F') {a : Addr} (f : F' a) : B.F a ∨ B.H a = none := by
  rcases e.new a f with q | q
  · exact r.ev.new a q
  · cases h : B.H a with
    | none => exact .inr rfl
    | some o =>
      by_cases t : B.T = some a
      · have tt : T = some a := by
          rcases r.tt with e | ⟨e, _⟩
          · exact e.symm.trans t
          · rw [e] at t; cases t
        rw [r.tw a tt] at q; cases q
      · rw [r.ev.same a o h t] at q; cases q
/-- behind an evaluation -/
theorem Rel.step (r : Rel g B ρ σ H F T n) (e : Ev T H F H' F') (tw : Tw T H' n') : Rel g B ρ σ H' F' T n' where
  ev := ⟨fun a o h t => e.same a o (r.ev.same a o h t) (r.bnT h t), fun a f => e.sub a (r.ev.sub a f), fun a f => r.stepN e f, fun d => e.dom (r.ev.dom d)⟩
  tw := tw
  nf := e.tnf r.tw r.nf
  dm := e.dom r.dm
  tt := r.tt
  len := r.len
  sl := fun i s h => by
    have q := r.sl i s h
    cases s with
    | emp => trivial
    | dat d =>
      obtain ⟨v, e1, e2⟩ := q
      exact ⟨v, e1, Rp.kp (e.kp r.tw r.nf) (fun _ z => z) d v e2⟩
    | own xs =>
      obtain ⟨a, vs, e1, e2, e3, e4, e5, e6, e7⟩ := q
      refine ⟨a, vs, e1, e.same a _ e2 e4, fun f => ?_, e4, e5, e6, Rps.kp (e.kp r.tw r.nf) (fun _ z => z) xs vs e7⟩
      rcases e.new a f with z | z
      · exact e3 z
      · rw [e2] at z; cases z
  dj := r.dj
theorem Rel.rp (r : Rel g B ρ σ H F T n) (e : Ev T H F H' F') {d : D} {v : V} (h : Rp g H F T d v) : Rp g H' F' T d v := Rp.kp (e.kp r.tw r.nf) (fun _ z => z) d v h
theorem Rel.rps (r : Rel g B ρ σ H F T n) (e : Ev T H F H' F') {ds : List D} {vs : List V} (h : Rps g H F T ds vs) : Rps g H' F' T ds vs := Rps.kp (e.kp r.tw r.nf) (fun _ z => z) ds vs h
theorem Rel.dat (r : Rel g B ρ σ H F T n) {i : Nat} {d : D} (h : getD ρ i = some d) : ∃ v, σ[i]? = some (some v) ∧ Rp g H F T d v := by
  unfold getD at h
  split at h
  · rename_i x e
    cases h
    exact r.sl i _ e
  · cases h
theorem Rel.owd (r : Rel g B ρ σ H F T n) {i : Nat} {xs : List D} (h : getO ρ i = some xs) : ρ[i]? = some (.own xs) ∧ ∃ a vs, σ[i]? = some (some (.ref a)) ∧ H a = some (.lst vs) ∧ ¬ F a ∧ T ≠ some a ∧ B.H a = none ∧ vs.length ≤ sizeLine ∧ Rps g H F T xs vs := by
  unfold getO at h
  split at h
  · rename_i x e
    cases h
    exact ⟨e, r.sl i _ e⟩
  · cases h
/-- a slot is given data -/
theorem Rel.put (r : Rel g B ρ σ H F T n) (i : Nat) {d : D} {v : V} (h : Rp g H F T d v) : Rel g B (ρ.set i (.dat d)) (σ.set i (some v)) H F T n where
  ev := r.ev
  tw := r.tw
  nf := r.nf
  dm := r.dm
  tt := r.tt
  len := by rw [List.length_set, List.length_set]; exact r.len
  sl := fun j s e => by
    by_cases hj : i = j
    · subst hj
      by_cases hl : i < ρ.length
      · rw [List.getElem?_set_self hl] at e
        cases e
        exact ⟨v, List.getElem?_set_self (by rw [r.len]; exact hl), h⟩
      · rw [List.getElem?_eq_none (by rw [List.length_set]; omega)] at e; cases e
    · rw [List.getElem?_set_ne hj] at e
      have q := r.sl j s e
      rw [List.getElem?_set_ne hj]
      exact q
  dj := fun j k a h1 h2 => by
    have hn : ∀ m, OwnAt (ρ.set i (.dat d)) (σ.set i (some v)) m a → OwnAt ρ σ m a := fun m hm => by
      obtain ⟨⟨xs, e1⟩, e2⟩ := hm
      have hm : i ≠ m := fun z => by
        subst z
        by_cases hl : i < ρ.length
        · rw [List.getElem?_set_self hl] at e1; cases e1
        · rw [List.getElem?_eq_none (by rw [List.length_set]; omega)] at e1; cases e1
      rw [List.getElem?_set_ne hm] at e1 e2
      exact ⟨⟨xs, e1⟩, e2⟩
    exact r.dj j k a (hn j h1) (hn k h2)
/-- slots forgotten -/
theorem Rel.forget (r : Rel g B ρ σ H F T n) (i : Nat) (o : Option V) : Rel g B (ρ.set i .emp) (σ.set i o) H F T n where
  ev := r.ev
  tw := r.tw
  nf := r.nf
  dm := r.dm
  tt := r.tt
  len := by rw [List.length_set, List.length_set]; exact r.len
  sl := fun j s e => by
    by_cases hj : i = j
    · subst hj
      by_cases hl : i < ρ.length
      · rw [List.getElem?_set_self hl] at e
        cases e
        trivial
      · rw [List.getElem?_eq_none (by rw [List.length_set]; omega)] at e; cases e
    · rw [List.getElem?_set_ne hj] at e
      have q := r.sl j s e
      rw [List.getElem?_set_ne hj]
      exact q
  dj := fun j k a h1 h2 => by
    have hn : ∀ m, OwnAt (ρ.set i .emp) (σ.set i o) m a → OwnAt ρ σ m a := fun m hm => by
      obtain ⟨⟨xs, e1⟩, e2⟩ := hm
      have hm : i ≠ m := fun z => by
        subst z
        by_cases hl : i < ρ.length
        · rw [List.getElem?_set_self hl] at e1; cases e1
        · rw [List.getElem?_eq_none (by rw [List.length_set]; omega)] at e1; cases e1
      rw [List.getElem?_set_ne hm] at e1 e2
      exact ⟨⟨xs, e1⟩, e2⟩
    exact r.dj j k a (hn j h1) (hn k h2)
theorem Rel.wipe (r : Rel g B ρ σ H F T n) : ∀ vs : List Nat, Rel g B (wip ρ vs) (L2.wipe σ vs) H F T n
  | [] => r
  | v :: vs => (r.wipe vs).forget v none
theorem wip_len (ρ : Env) : ∀ vs : List Nat, (wip ρ vs).length = ρ.length
  | [] => rfl
  | v :: vs => by unfold wip; rw [List.length_set, wip_len ρ vs]
/-- a new own list in a slot -/
theorem Rel.putO (r : Rel g B ρ σ H F T n) (i : Nat) {xs : List D} {a : Addr} {vs : List V} (h1 : H a = some (.lst vs)) (h2 : ¬ F a) (h3 : T ≠ some a) (h4 : B.H a = none) (h5 : vs.length ≤ sizeLine) (h6 : Rps g H F T xs vs)
    (h7 : ∀ j, OwnAt ρ σ j a → j = i) : Rel g B (ρ.set i (.own xs)) (σ.set i (some (.ref a))) H F T n where
  ev := r.ev
  tw := r.tw
  nf := r.nf
  dm := r.dm
  tt := r.tt
  len := by rw [List.length_set, List.length_set]; exact r.len
  sl := fun j s e => by
    by_cases hj : i = j
    · subst hj
      by_cases hl : i < ρ.length
      · rw [List.getElem?_set_self hl] at e
        cases e
        exact ⟨a, vs, List.getElem?_set_self (by rw [r.len]; exact hl), h1, h2, h3, h4, h5, h6⟩
      · rw [List.getElem?_eq_none (by rw [List.length_set]; omega)] at e; cases e
    · rw [List.getElem?_set_ne hj] at e
      have q := r.sl j s e
      rw [List.getElem?_set_ne hj]
      exact q
  dj := fun j k b g1 g2 => by
    have hn : ∀ m, m ≠ i → OwnAt (ρ.set i (.own xs)) (σ.set i (some (.ref a))) m b → OwnAt ρ σ m b := fun m hm ⟨⟨ys, e1⟩, e2⟩ => by
      rw [List.getElem?_set_ne (Ne.symm hm)] at e1 e2
      exact ⟨⟨ys, e1⟩, e2⟩
    have hi : OwnAt (ρ.set i (.own xs)) (σ.set i (some (.ref a))) i b → b = a := fun ⟨_, e2⟩ => by
      by_cases hl : i < σ.length
      · rw [List.getElem?_set_self hl] at e2; cases e2; rfl
      · rw [List.getElem?_eq_none (by rw [List.length_set]; omega)] at e2; cases e2
    by_cases hj : j = i
    · by_cases hk : k = i
      · rw [hj, hk]
      · rw [hj] at g1
        have := hi g1
        subst this
        exact absurd (h7 k (hn k hk g2)) hk
    · by_cases hk : k = i
      · rw [hk] at g2
        have := hi g2
        subst this
        exact absurd (h7 j (hn j hj g1)) hj
      · exact r.dj j k b (hn j hj g1) (hn k hk g2)
/-- an object that no slot leans on is written -/
theorem Rel.write (r : Rel g B ρ σ H F T n) {p : Addr} {o : HO} {ys : List V} (h : H p = some (.lst ys)) (f : ¬ F p) (t : T ≠ some p) (b : B.H p = none) (nown : ∀ j, ¬ OwnAt ρ σ j p) : Rel g B ρ σ (upd H p o) F T n where
  ev := ⟨fun a u q z => by rw [upd_ne (fun e => by rw [e, b] at q; cases q)]; exact r.ev.same a u q z, r.ev.sub, r.ev.new, fun d => dom_upd (r.ev.dom d)⟩
  tw := fun a z => by
    have ne : a ≠ p := fun e => t (by rw [← e]; exact z)
    rw [upd_ne ne]; exact r.tw a z
  nf := r.nf
  dm := dom_upd r.dm
  tt := r.tt
  len := r.len
  sl := fun i s e => by
    have q := r.sl i s e
    cases s with
    | emp => trivial
    | dat d =>
      obtain ⟨v, e1, e2⟩ := q
      exact ⟨v, e1, Rp.kp (Kp.write h f) (fun _ z => z) d v e2⟩
    | own xs =>
      obtain ⟨a, vs, e1, e2, e3, e4, e5, e6, e7⟩ := q
      have ne : a ≠ p := fun z => nown i ⟨⟨xs, e⟩, by rw [← z]; exact e1⟩
      exact ⟨a, vs, e1, by rw [upd_ne ne]; exact e2, e3, e4, e5, e6, Rps.kp (Kp.write h f) (fun _ z => z) xs vs e7⟩
  dj := r.dj
end
end Ss
/-! Ss, part C: readings of expressions; operators, comparisons, built-ins on data. -/
namespace Ss
open PySem PySem.Spec PyProof.Rows L2

inductive Kd where
  | full | shal | new
  deriving DecidableEq
/-- data; or a list of data that is a frame's own -/
def RpS (g : Gd) (T : Option Addr) (H : Hp) (F : FS) (d : D) (v : V) : Prop :=
  Rp g H F T d v ∨ ∃ a vs xs, d = .lst xs ∧ v = .ref a ∧ H a = some (.lst vs) ∧ T ≠ some a ∧ vs.length ≤ sizeLine ∧ Rps g H F T xs vs
def Post (g : Gd) (T : Option Addr) (H0 H' : Hp) (F' : FS) : Kd → D → V → Prop
  | .full, d, v => Rp g H' F' T d v
  | .shal, d, v => RpS g T H' F' d v
  | .new, d, v => ∃ a vs xs, d = .lst xs ∧ v = .ref a ∧ H0 a = none ∧ H' a = some (.lst vs) ∧ ¬ F' a ∧ vs.length ≤ sizeLine ∧ Rps g H' F' T xs vs
def Fin {α : Type} (g : Gd) (W : WX) (σ : L2.St) (T : Option Addr) (H : Hp) (F : FS) (r : Res α) (K : α → Nat → Hp → FS → Prop) : Prop := match r with
  | .ok a n' => ∀ H' F', Ev T H F H' F' → Tw T H' n' → K a n' H' F'
  | .exc c n' => ∀ H' F', Ev T H F H' F' → Tw T H' n' → ∀ C, g.mg c = some (.ref C) → W (.ref C) none σ H'
  | .bad => False
section
variable {α β : Type} {g : Gd} {W : WX} {σ : L2.St} {T : Option Addr} {H H1 : Hp} {F F1 : FS} {n n1 : Nat}
theorem Fin.mono {r : Res α} {K K' : α → Nat → Hp → FS → Prop} (h : Fin g W σ T H F r K) (k : ∀ a n' H' F', Ev T H F H' F' → Tw T H' n' → K a n' H' F' → K' a n' H' F') : Fin g W σ T H F r K' := by
  cases r with
  | ok a n' => exact fun H' F' e t => k a n' H' F' e t (h H' F' e t)
  | exc c n' => exact h
  | bad => exact h
/-- .. from a later state -/
theorem Fin.later {r : Res α} {K : α → Nat → Hp → FS → Prop} (h : Fin g W σ T H F r K) (e : Ev T H F H1 F1) (t : Tw T H1 n1) : Fin g W σ T H1 F1 r K := by
  cases r with
  | ok a n' => exact fun H' F' e' t' => h H' F' (e.trans t e') t'
  | exc c n' => exact fun H' F' e' t' => h H' F' (e.trans t e') t'
  | bad => exact h
theorem Fin.bnd {m : M α} {k : α → M β} {K : β → Nat → Hp → FS → Prop} (h : Fin g W σ T H F (bnd m k n) K) : Fin g W σ T H F (m n) fun a n1 H1 F1 => Fin g W σ T H1 F1 (k a n1) K := by
  unfold Ss.bnd at h
  cases e : m n with
  | ok a n' => rw [e] at h; exact fun H' F' e' t' => h.later e' t'
  | exc c n' => rw [e] at h; exact h
  | bad => rw [e] at h; exact h
theorem Fin.lft {o : Option α} {K : α → Nat → Hp → FS → Prop} (h : Fin g W σ T H F (lft o n) K) (tw : Tw T H n) : ∃ a, o = some a ∧ K a n H F ∧ ∀ H' F', Ev T H F H' F' → Tw T H' n → K a n H' F' := by
  cases o with
  | none => exact False.elim h
  | some a => exact ⟨a, rfl, h H F Ev.refl tw, fun H' F' e t => h H' F' e t⟩
end
def tI (g : Gd) (B : Bs) (W : WX) (kd : Kd) (f : Env → M D) : TE := fun σ H Q => ∃ ρ F T n, Rel g B ρ σ H F T n ∧ Fin g W σ T H F (f ρ n) fun d _ H' F' => ∀ v, Post g T H H' F' kd d v → Q v H'
def tT (g : Gd) (B : Bs) (W : WX) (f : Env → M Bool) : TT := fun σ H Q => ∃ ρ F T n, Rel g B ρ σ H F T n ∧ Fin g W σ T H F (f ρ n) fun b _ H' _ => Q b H'
def Posts (g : Gd) (T : Option Addr) (H' : Hp) (F' : FS) : Kd → List D → List V → Prop
  | .shal, ds, vs => Paired (RpS g T H' F') ds vs
  | _, ds, vs => Rps g H' F' T ds vs
def tIs (g : Gd) (B : Bs) (W : WX) (kd : Kd) (f : Env → M (List D)) : TA := fun σ H Q => ∃ ρ F T n, Rel g B ρ σ H F T n ∧ Fin g W σ T H F (f ρ n) fun ds _ H' F' => ∀ vs, Posts g T H' F' kd ds vs → Q vs H'

theorem pe_wk {X : Cx} {e : Expr} {t t' : TE} (h : PE X e t') (k : ∀ σ H Q, t σ H Q → t' σ H Q) : PE X e t := ⟨fun pins s σ H Q I q => h.run pins s σ H Q I (k σ H Q q)⟩
theorem pt_wk {X : Cx} {e : Expr} {t t' : TT} (h : PT X e t') (k : ∀ σ H Q, t σ H Q → t' σ H Q) : PT X e t := ⟨fun pins s σ H Q I q => h.run pins s σ H Q I (k σ H Q q)⟩
theorem pw_wk {X : Cx} {e : Expr} {t t' : TT} (h : PW X e t') (k : ∀ σ H Q, t σ H Q → t' σ H Q) : PW X e t := ⟨fun wh pins s σ H Q I q => h.run wh pins s σ H Q I (k σ H Q q)⟩
theorem pa_wk {X : Cx} {e : List Expr} {t t' : TA} (h : PA X e t') (k : ∀ σ H Q, t σ H Q → t' σ H Q) : PA X e t := ⟨fun pos pins s σ H Q I q => h.run pos pins s σ H Q I (k σ H Q q)⟩
theorem ps_wk {X : Cx} {e : Stmt} {t t' : TS} (h : PS X e t') (k : ∀ D σ H, t D σ H → t' D σ H) : PS X e t := ⟨fun pins s σ H D I q => h.run pins s σ H D I (k D σ H q)⟩
theorem pss_wk {X : Cx} {e : List Stmt} {t t' : TS} (h : PSs X e t') (k : ∀ D σ H, t D σ H → t' D σ H) : PSs X e t := ⟨fun pins s σ H D I q => h.run pins s σ H D I (k D σ H q)⟩

section
variable {g : Gd} {B : Bs} {W : WX} {T : Option Addr} {H H' : Hp} {F F' : FS} {X : Cx}
theorem RpS.lst {xs : List D} {v : V} (h : RpS g T H F (.lst xs) v) : ∃ a vs, v = .ref a ∧ H a = some (.lst vs) ∧ vs.length ≤ sizeLine ∧ Rps g H F T xs vs := by
  rcases h with h | ⟨a, vs, ys, e, h1, h2, _, h3, h4⟩
  · simp only [Rp] at h
    obtain ⟨a, vs, h1, h2, _, h3, h4⟩ := h
    exact ⟨a, vs, h1, h2, h3, h4⟩
  · cases e
    exact ⟨a, vs, h1, h2, h3, h4⟩
theorem RpS.tup {xs : List D} {v : V} (h : RpS g T H F (.tup xs) v) : ∃ a vs, v = .ref a ∧ SqT g.K H a vs ∧ vs.length ≤ sizeLine ∧ Rps g H F T xs vs := by
  rcases h with h | ⟨a, vs, ys, e, _⟩
  · simpa only [Rp] using h
  · cases e
theorem RpS.int {i : Int} {v : V} (h : RpS g T H F (.int i) v) : v = .int i := by
  rcases h with h | ⟨a, vs, ys, e, _⟩
  · simpa only [Rp] using h
  · cases e
theorem RpS.bl {i : Bool} {v : V} (h : RpS g T H F (.bl i) v) : v = .bl i := by
  rcases h with h | ⟨a, vs, ys, e, _⟩
  · simpa only [Rp] using h
  · cases e
theorem RpS.non {v : V} (h : RpS g T H F .non v) : v = .non := by
  rcases h with h | ⟨a, vs, ys, e, _⟩
  · simpa only [Rp] using h
  · cases e
theorem RpS.str {i : Str} {v : V} (h : RpS g T H F (.str i) v) : v = .str i := by
  rcases h with h | ⟨a, vs, ys, e, _⟩
  · simpa only [Rp] using h
  · cases e
theorem RpS.scr {ns : List Int} {v : V} (h : RpS g T H F (.scr ns) v) : ∃ a, v = .ref a ∧ SqL g.K H a (ns.map V.int) := by
  rcases h with h | ⟨a, vs, ys, e, _⟩
  · simp only [Rp] at h
    obtain ⟨a, e, h⟩ := h
    refine ⟨a, e, ?_⟩
    rcases h with ⟨o, h⟩ | h
    · exact .inl (.inr ⟨o, h⟩)
    · exact h H
  · cases e
theorem rp_int {i : Int} : Rp g H F T (.int i) (.int i) := by simp only [Rp]
theorem rp_bl {i : Bool} : Rp g H F T (.bl i) (.bl i) := by simp only [Rp]
theorem rp_str {i : Str} : Rp g H F T (.str i) (.str i) := by simp only [Rp]
theorem rp_non : Rp g H F T .non .non := by simp only [Rp]
theorem rp_tup {a : Addr} {ds : List D} {vs : List V} (h : SqT g.K H a vs) (l : vs.length ≤ sizeLine) (r : Rps g H F T ds vs) : Rp g H F T (.tup ds) (.ref a) := by
  simp only [Rp]; exact ⟨a, vs, rfl, h, l, r⟩
theorem rp_lst {a : Addr} {ds : List D} {vs : List V} (h : H a = some (.lst vs)) (f : F a) (l : vs.length ≤ sizeLine) (r : Rps g H F T ds vs) : Rp g H F T (.lst ds) (.ref a) := by
  simp only [Rp]; exact ⟨a, vs, rfl, h, f, l, r⟩
theorem RpS.ev {n : Nat} (tw : Tw T H n) (nf : ∀ a, T = some a → ¬ F a) (e : Ev T H F H' F') {d : D} {v : V} (h : RpS g T H F d v) : RpS g T H' F' d v := by
  rcases h with h | ⟨a, vs, ys, e1, h1, h2, h3, h4, h5⟩
  · exact .inl (Rp.kp (e.kp tw nf) (fun _ z => z) d v h)
  · exact .inr ⟨a, vs, ys, e1, h1, e.same a _ h2 h3, h3, h4, Rps.kp (e.kp tw nf) (fun _ z => z) ys vs h5⟩
theorem Post.shal {kd : Kd} {H0 : Hp} {d : D} {v : V} (t : ∀ a, T = some a → ∃ o, H0 a = some o) (h : Post g T H0 H' F' kd d v) : RpS g T H' F' d v := by
  cases kd with
  | full => exact .inl h
  | shal => exact h
  | new =>
    obtain ⟨a, vs, xs, e1, e2, e3, e4, _, e5, e6⟩ := h
    refine .inr ⟨a, vs, xs, e1, e2, e4, fun z => ?_, e5, e6⟩
    obtain ⟨o, q⟩ := t a z
    rw [e3] at q; cases q
/-- a new list is frozen: data -/
theorem tI.full {f : Env → M D} {σ : L2.St} {Q : VK} {kd : Kd} (hk : kd ≠ .shal) (h : tI g B W .full f σ H Q) : tI g B W kd f σ H Q := by
  cases kd with
  | full => exact h
  | shal => exact absurd rfl hk
  | new =>
    obtain ⟨ρ, F, T, n, R, h⟩ := h
    refine ⟨ρ, F, T, n, R, ?_⟩
    cases e : f ρ n with
    | bad => rw [e] at h; exact h
    | exc c n' => rw [e] at h; exact h
    | ok d n' =>
      rw [e] at h
      intro H' F' e1 t1 v p
      obtain ⟨a, vs, xs, rfl, rfl, e3, e4, e5, e6, e7⟩ := p
      have k : Kp H' F' H' (fun b => F' b ∨ b = a) := Kp.freeze fun _ f => .inl f
      refine h H' (fun b => F' b ∨ b = a) ⟨e1.same, fun b f => .inl (e1.sub b f), fun b f => ?_, ?_⟩ t1 _ (rp_lst e4 (.inr rfl) e6 (Rps.kp k (fun _ z => z) xs vs e7))
      · rcases f with f | rfl
        · exact e1.new b f
        · exact .inr e3
      · intro dd b f
        rcases f with f | rfl
        · exact e1.dom dd b f
        · exact ⟨_, e4⟩
theorem tI.shal {f : Env → M D} {σ : L2.St} {Q : VK} {kd : Kd} (h : tI g B W .shal f σ H Q) : tI g B W kd f σ H Q := by
  obtain ⟨ρ, F, T, n, R, h⟩ := h
  refine ⟨ρ, F, T, n, R, h.mono fun d n' H' F' e t k v p => k v (p.shal fun a z => ⟨_, R.tw a z⟩)⟩
theorem pe_full {e : Expr} {kd : Kd} {f : Env → M D} (h : PE X e (tI g B W kd f)) (hk : kd ≠ .shal) : PE X e (tI g B W .full f) := pe_wk h fun _ _ _ q => q.full hk
theorem pe_shal {e : Expr} {kd : Kd} {f : Env → M D} (h : PE X e (tI g B W kd f)) : PE X e (tI g B W .shal f) := pe_wk h fun _ _ _ q => q.shal

/-! ### truth -/
theorem truV_of {d : D} {v : V} {k : Bool} (h : RpS g T H F d v) (e : tru d = some k) : TruV g.K v H k := by
  cases d with
  | non => rw [h.non]; cases e; rfl
  | bl b => rw [h.bl]; cases e; rfl
  | int i => rw [h.int]; cases e; rfl
  | str x =>
    rw [h.str]
    simp only [tru] at e
    split at e
    · rename_i hl; cases e; exact ⟨hl, rfl⟩
    · cases e
  | lst xs =>
    obtain ⟨a, vs, rfl, h1, _, h2⟩ := h.lst
    cases e
    refine .inl ⟨vs, SqL.of h1, ?_⟩
    have hl := h2.len
    cases xs <;> cases vs <;> simp_all
  | tup xs =>
    obtain ⟨a, vs, rfl, h1, _, h2⟩ := h.tup
    cases e
    refine .inr (.inl ⟨vs, h1, ?_⟩)
    have hl := h2.len
    cases xs <;> cases vs <;> simp_all
  | scr ns =>
    obtain ⟨a, rfl, h1⟩ := h.scr
    cases e
    refine .inl ⟨_, h1, ?_⟩
    cases ns <;> simp
  | dic _ => cases e
  | fn _ => cases e
  | exn _ => cases e
  | town => cases e
end
/-- the fixed part of a context -/
def gdOf (X : Cx) : Gd := ⟨X.prog, X.w, X.K, X.mg, X.base⟩
section
variable {B : Bs} {W : WX} {X : Cx}
/-- an expression as a test, by its value's truth -/
theorem pt_of {e : Expr} {kd : Kd} {f : Env → M D} (h : PE X e (tI (gdOf X) B W kd f)) (he : ∀ whole, isTrue e X.env whole = (do let v ← whole; standAt e.pos; holding [v] (truthy v))) : PT X e (tT (gdOf X) B W fun ρ => truM (f ρ)) := by
  refine pt_wk (pt_truth h he) fun σ H Q q => ?_
  obtain ⟨ρ, F, T, n, R, q⟩ := q
  refine ⟨ρ, F, T, n, R, q.bnd.mono fun d n' H' F' e t k v p => ?_⟩
  obtain ⟨b, eb, q, _⟩ := k.lft t
  exact ⟨b, truV_of (g := gdOf X) (p.shal fun a z => ⟨_, R.tw a z⟩) eb, q⟩
end

/-! ### places -/
theorem Rps.at {g : Gd} {T : Option Addr} {H : Hp} {F : FS} {ds : List D} {vs : List V} {i : Int} {d : D} (h : Rps g H F T ds vs) (e : atI ds i = some d) : ∃ v, atI vs i = some v ∧ Rp g H F T d v := by
  unfold atI at e ⊢
  rw [h.len]
  cases q : ixN ds.length i with
  | none => rw [q] at e; cases e
  | some j => rw [q] at e; exact h.get e

/-! ### operators -/
def Op.ast : Op → Operator
  | .add => .Add | .sub => .Sub | .mul => .Mult | .fdiv => .FloorDiv | .mod => .Mod | .pow => .Pow
def rOp (g : Gd) (f : D → D → Option D) : R2 := fun x y H Q => ∃ F T n d e z, Tw T H n ∧ (∀ a, T = some a → ¬ F a) ∧ RpS g T H F d x ∧ RpS g T H F e y ∧ f d e = some z ∧ ∀ w H' F', Ev T H F H' F' → Tw T H' n → Rp g H' F' T z w → Q w H'
section
variable {X : Cx}
theorem w64_ok {i : Int} (h : w64 i = true) : -(2 ^ 64) < i ∧ i < 2 ^ 64 := by
  unfold w64 at h
  simp only [Bool.and_eq_true, decide_eq_true_eq] at h
  exact h
theorem op_rule (o : Op) : OpR X (binaryOp o.ast) (rOp (gdOf X) o.f) := by
  intro pins s σ H x y v u Q I rx ry h
  obtain ⟨F, T, n, d, e, z, tw, nf, hd, he, hz, q⟩ := h
  cases o with
  | add =>
    cases d <;> cases e <;> simp only [Op.f, reduceCtorEq] at hz
    case add.int.int i j =>
      cases hz
      rw [hd.int] at rx
      rw [he.int] at ry
      exact op_add pins s σ H _ _ v u Q I rx ry ⟨i, j, rfl, rfl, q _ _ _ Ev.refl tw rp_int⟩
    case add.str.str i j =>
      split at hz
      · rename_i hl
        cases hz
        rw [hd.str] at rx
        rw [he.str] at ry
        exact op_add_str pins s σ H _ _ v u Q I rx ry ⟨i, j, rfl, rfl, hl, q _ _ _ Ev.refl tw rp_str⟩
      · cases hz
    case add.lst.lst xs ys =>
      split at hz
      · rename_i hl
        cases hz
        obtain ⟨a, vs, rfl, h1, h2, h3⟩ := hd.lst
        obtain ⟨b, us, rfl, k1, k2, k3⟩ := he.lst
        have hl' : vs.length + us.length ≤ sizeLine := by rw [h3.len, k3.len]; exact hl
        refine op_cat pins s σ H _ _ v u Q I rx ry ⟨a, b, vs, us, rfl, rfl, h1, k1, hl', fun p hp => q _ _ _ (Ev.allocF hp) (tw.alloc hp) ?_⟩
        have k : Kp H F (upd H p (.lst (vs ++ us))) (fun a => F a ∨ a = p) := Kp.alloc hp fun _ f => .inl f
        exact rp_lst upd_same (.inr rfl) (by rw [List.length_append]; exact hl') (Rps.kp k (fun _ z => z) _ _ (h3.app k3))
      · cases hz
    case add.tup.tup xs ys =>
      split at hz
      · rename_i hl
        cases hz
        obtain ⟨a, vs, rfl, h1, h2, h3⟩ := hd.tup
        obtain ⟨b, us, rfl, k1, k2, k3⟩ := he.tup
        have hl' : vs.length + us.length ≤ sizeLine := by rw [h3.len, k3.len]; exact hl
        have fin : ∀ p, H p = none → Q (.ref p) (upd H p (.tup (vs ++ us))) := fun p hp => by
          refine q _ _ _ (Ev.alloc hp) (tw.alloc hp) ?_
          have k : Kp H F (upd H p (.tup (vs ++ us))) F := Kp.alloc hp fun _ f => f
          exact rp_tup (SqT.of upd_same) (by rw [List.length_append]; exact hl') (Rps.kp k (fun _ z => z) _ _ (h3.app k3))
        have l1 : us = [] → Q (.ref a) H := fun z => by
          refine q _ _ _ Ev.refl tw ?_
          subst z
          have r := h3.app k3
          rw [List.append_nil] at r
          exact rp_tup h1 h2 r
        have l2 : vs = [] → Q (.ref b) H := fun z => by
          refine q _ _ _ Ev.refl tw ?_
          subst z
          have r := h3.app k3
          rw [List.nil_append] at r
          exact rp_tup k1 k2 r
        first
          | exact op_catA pins s σ H _ _ v u Q I rx ry ⟨a, b, vs, us, rfl, rfl, h1, k1, hl', l2, fun _ z => l1 z, fun _ _ p hp => fin p hp⟩
          | exact op_catA pins s σ H _ _ v u Q I rx ry ⟨a, b, vs, us, rfl, rfl, h1, k1, hl', l2, l1, fun _ _ p hp => fin p hp⟩
      · cases hz
  | sub =>
    cases d <;> cases e <;> simp only [Op.f, reduceCtorEq] at hz
    case sub.int.int i j =>
      cases hz
      rw [hd.int] at rx
      rw [he.int] at ry
      exact op_sub pins s σ H _ _ v u Q I rx ry ⟨i, j, rfl, rfl, q _ _ _ Ev.refl tw rp_int⟩
  | mul =>
    cases d <;> cases e <;> simp only [Op.f, reduceCtorEq] at hz
    case mul.int.int i j =>
      split at hz
      · rename_i hc
        cases hz
        rw [hd.int] at rx
        rw [he.int] at ry
        simp only [Bool.or_eq_true] at hc
        refine op_mul pins s σ H _ _ v u Q I rx ry ⟨i, j, rfl, rfl, ?_, q _ _ _ Ev.refl tw rp_int⟩
        rcases hc with hc | hc
        · exact .inl (w64_ok hc)
        · exact .inr (w64_ok hc)
      · cases hz
    case mul.lst.int xs k =>
      split at hz
      · rename_i hc
        cases hz
        obtain ⟨a, vs, rfl, h1, h2, h3⟩ := hd.lst
        rw [he.int] at ry
        have hl' : vs.length * k.toNat ≤ sizeLine := by rw [h3.len]; exact hc.2.2
        refine op_rep pins s σ H _ _ v u Q I rx ry ⟨a, k, vs, rfl, rfl, h1, by omega, by omega, hl', fun p hp => q _ _ _ (Ev.allocF hp) (tw.alloc hp) ?_⟩
        have kk : Kp H F (upd H p (.lst (List.replicate k.toNat vs).flatten)) (fun a => F a ∨ a = p) := Kp.alloc hp fun _ f => .inl f
        refine rp_lst upd_same (.inr rfl) ?_ (Rps.kp kk (fun _ z => z) _ _ (h3.rep _))
        rw [List.length_flatten, List.map_replicate, List.sum_replicate_nat, Nat.mul_comm]
        exact hl'
      · cases hz
  | fdiv =>
    cases d <;> cases e <;> simp only [Op.f, reduceCtorEq] at hz
    case fdiv.int.int i j =>
      split at hz
      · rename_i hc
        cases hz
        rw [hd.int] at rx
        rw [he.int] at ry
        exact op_fdiv pins s σ H _ _ v u Q I rx ry ⟨i, j, rfl, rfl, hc, q _ _ _ Ev.refl tw rp_int⟩
      · cases hz
  | mod =>
    cases d <;> cases e <;> simp only [Op.f, reduceCtorEq] at hz
    case mod.int.int i j =>
      split at hz
      · rename_i hc
        cases hz
        rw [hd.int] at rx
        rw [he.int] at ry
        exact op_mod pins s σ H _ _ v u Q I rx ry ⟨i, j, rfl, rfl, hc, q _ _ _ Ev.refl tw rp_int⟩
      · cases hz
  | pow =>
    cases d <;> cases e <;> simp only [Op.f, reduceCtorEq] at hz
    case pow.int.int i j =>
      split at hz
      · rename_i hc
        cases hz
        rw [hd.int] at rx
        rw [he.int] at ry
        exact op_pow pins s σ H _ _ v u Q I rx ry ⟨i, j, rfl, rfl, hc, q _ _ _ Ev.refl tw rp_int⟩
      · cases hz
end
end Ss
/-! Ss, part D: comparisons, places, cuts, built-ins on data. -/
namespace Ss
open PySem PySem.Spec PyProof.Rows L2

/-! ### data as the library's own -/
mutual
theorem toP_depth : ∀ d : D, (D.toP d).depth = d.dep
  | .non => by simp [D.toP, PyData.depth, D.dep]
  | .bl _ => by simp [D.toP, PyData.depth, D.dep]
  | .int _ => by simp [D.toP, PyData.depth, D.dep]
  | .str _ => by simp [D.toP, PyData.depth, D.dep]
  | .lst xs => by simp [D.toP, PyData.depth, D.dep, toPs_depth xs]
  | .tup xs => by simp [D.toP, PyData.depth, D.dep, toPs_depth xs]
  | .dic _ => by simp [D.toP, PyData.depth, D.dep]
  | .fn _ => by simp [D.toP, PyData.depth, D.dep]
  | .exn _ => by simp [D.toP, PyData.depth, D.dep]
  | .town => by simp [D.toP, PyData.depth, D.dep]
  | .scr _ => by simp [D.toP, PyData.depth, D.dep]
theorem toPs_depth : ∀ ds : List D, PyData.depthAll (D.toPs ds) = D.deps ds
  | [] => by simp [D.toPs, PyData.depthAll, D.deps]
  | d :: ds => by simp [D.toPs, PyData.depthAll, D.deps, toP_depth d, toPs_depth ds]
end
mutual
theorem toP_lay : ∀ d : D, d.pl = true → (D.toP d).canLay0 = true
  | .non, _ => by simp [D.toP, PyData.canLay0]
  | .bl _, _ => by simp [D.toP, PyData.canLay0]
  | .int _, _ => by simp [D.toP, PyData.canLay0]
  | .str x, h => by simp only [D.pl] at h; simp [D.toP, PyData.canLay0, h]
  | .lst xs, h => by simp only [D.pl] at h; simp [D.toP, PyData.canLay0, toPs_lay xs h]
  | .tup xs, h => by simp only [D.pl] at h; simp [D.toP, PyData.canLay0, toPs_lay xs h]
  | .dic _, h => by simp [D.pl] at h
  | .fn _, h => by simp [D.pl] at h
  | .exn _, h => by simp [D.pl] at h
  | .town, h => by simp [D.pl] at h
  | .scr _, h => by simp [D.pl] at h
theorem toPs_lay : ∀ ds : List D, D.pls ds = true → PyData.canLayAll0 (D.toPs ds) = true
  | [], _ => by simp [D.toPs, PyData.canLayAll0]
  | d :: ds, h => by
    simp only [D.pls, Bool.and_eq_true] at h
    simp [D.toPs, PyData.canLayAll0, toP_lay d h.1, toPs_lay ds h.2]
end
mutual
theorem toP_eqv : ∀ d e : D, d.pl = true → e.pl = true → PyData.eqv (D.toP d) (D.toP e) = D.eqv d e := fun d e hd he => by
  cases d with
  | lst xs =>
    cases e with
    | lst ys =>
      simp only [D.pl] at hd he
      simp only [D.toP, PyData.eqv, D.eqv, toPs_eqv xs ys hd he]
    | _ => simp_all [D.toP, PyData.eqv, D.eqv, D.pl]
  | tup xs =>
    cases e with
    | tup ys =>
      simp only [D.pl] at hd he
      simp only [D.toP, PyData.eqv, D.eqv, toPs_eqv xs ys hd he]
    | _ => simp_all [D.toP, PyData.eqv, D.eqv, D.pl]
  | _ => cases e <;> simp_all [D.toP, PyData.eqv, D.eqv, D.pl]
theorem toPs_eqv : ∀ ds es : List D, D.pls ds = true → D.pls es = true → PyData.eqvAll (D.toPs ds) (D.toPs es) = D.eqvs ds es
  | [], [], _, _ => by simp [D.toPs, PyData.eqvAll, D.eqvs]
  | [], _ :: _, _, _ => by simp [D.toPs, PyData.eqvAll, D.eqvs]
  | _ :: _, [], _, _ => by simp [D.toPs, PyData.eqvAll, D.eqvs]
  | d :: ds, e :: es, h, k => by
    simp only [D.pls, Bool.and_eq_true] at h k
    simp only [D.toPs, PyData.eqvAll, D.eqvs, toP_eqv d e h.1 k.1, toPs_eqv ds es h.2 k.2]
end
theorem toPs_any (d : D) (hd : d.pl = true) : ∀ ds : List D, D.pls ds = true → ((D.toPs ds).any fun z => PyData.eqv z (D.toP d)) = ds.any fun z => D.eqv z d
  | [], _ => rfl
  | e :: es, h => by
    simp only [D.pls, Bool.and_eq_true] at h
    simp only [D.toPs, List.any_cons, toP_eqv e d h.1 hd, toPs_any d hd es h.2]
theorem okE_pl {d : D} (h : d.okE = true) : d.pl = true := by
  simp only [D.okE, Bool.and_eq_true] at h; exact h.1
theorem okE_sh {d : D} (h : d.okE = true) : SeqAt.shaped (D.toP d) = true := by
  simp only [D.okE, Bool.and_eq_true, decide_eq_true_eq] at h
  simp only [SeqAt.shaped, Bool.and_eq_true, decide_eq_true_eq]
  exact ⟨toP_lay d h.1, by rw [toP_depth]; omega⟩
section
variable {g : Gd} {T : Option Addr} {H : Hp} {F : FS}
mutual
theorem rp_dp : ∀ (d : D) (v : V), d.pl = true → Rp g H F T d v → Dp g.K H v (D.toP d)
  | .non, _, _, h => by simp only [Rp] at h; subst h; simp only [D.toP]; exact .non
  | .bl _, _, _, h => by simp only [Rp] at h; subst h; simp only [D.toP]; exact .bl _
  | .int _, _, _, h => by simp only [Rp] at h; subst h; simp only [D.toP]; exact .int _
  | .str _, _, _, h => by simp only [Rp] at h; subst h; simp only [D.toP]; exact .str _
  | .lst ds, _, p, h => by
    simp only [Rp] at h
    simp only [D.pl] at p
    obtain ⟨a, vs, rfl, h1, _, _, h2⟩ := h
    simp only [D.toP]
    exact .lst (SqL.of h1) (rps_dp ds vs p h2)
  | .tup ds, _, p, h => by
    simp only [Rp] at h
    simp only [D.pl] at p
    obtain ⟨a, vs, rfl, h1, _, h2⟩ := h
    simp only [D.toP]
    exact .tup h1 (rps_dp ds vs p h2)
  | .dic _, _, p, _ => by simp [D.pl] at p
  | .fn _, _, p, _ => by simp [D.pl] at p
  | .exn _, _, p, _ => by simp [D.pl] at p
  | .town, _, p, _ => by simp [D.pl] at p
  | .scr _, _, p, _ => by simp [D.pl] at p
theorem rps_dp : ∀ (ds : List D) (vs : List V), D.pls ds = true → Rps g H F T ds vs → DpAll g.K H vs (D.toPs ds)
  | [], _, _, h => by simp only [Rps] at h; subst h; simp only [D.toPs]; exact .nil
  | d :: ds, _, p, h => by
    simp only [Rps] at h
    simp only [D.pls, Bool.and_eq_true] at p
    obtain ⟨v, r, rfl, h1, h2⟩ := h
    simp only [D.toPs]
    exact .cons (rp_dp d v p.1 h1) (rps_dp ds r p.2 h2)
end
theorem rpS_dp {d : D} {v : V} (p : d.pl = true) (h : RpS g T H F d v) : Dp g.K H v (D.toP d) := by
  rcases h with h | ⟨a, vs, xs, rfl, rfl, h1, _, _, h2⟩
  · exact rp_dp d v p h
  · simp only [D.pl] at p
    simp only [D.toP]
    exact .lst (SqL.of h1) (rps_dp xs vs p h2)
end

/-! ### comparisons -/
def Cm.ast : Cm → CmpOp
  | .eq => .Eq | .ne => .NotEq | .lt => .Lt | .le => .LtE | .gt => .Gt | .ge => .GtE | .inn => .In | .nin => .NotIn
def rCm (g : Gd) (f : D → D → Option Bool) : R2 := fun x y H Q => ∃ F T d e k, RpS g T H F d x ∧ RpS g T H F e y ∧ f d e = some k ∧ Q (.bl k) H
theorem sgnOf_eq {x : Str} {c : Nat} (h : sgnOf x = some c) : x = ⟨#[c]⟩ := by
  unfold sgnOf at h
  split at h
  · rename_i c' e
    cases h
    obtain ⟨l⟩ := x
    simp only at e
    congr 1
    apply Array.toList_inj.mp
    rw [e]
  · cases h
section
variable {X : Cx}
theorem in_rule (hu : X.A.units + 65 < cLine) : OpR X (compareOp .In) (rCm (gdOf X) inD) := by
  intro pins s σ H x y v u Q I rx ry h
  obtain ⟨F, T, d, e, k, hd, he, hk, q⟩ := h
  have two : ∀ ys, (e = .lst ys ∨ e = .tup ys) → (if (d.okE && e.okE) = true then some (ys.any fun z => D.eqv z d) else none) = some k → wpAny (model X.prog X.w) X.A (compareOp .In v u) (EP X pins σ Q) X.xe s := by
    intro ys hy hk
    split at hk
    · rename_i hc
      simp only [Bool.and_eq_true] at hc
      cases hk
      obtain ⟨as, r1⟩ := Dp.reads I _ x v (rpS_dp (g := gdOf X) (okE_pl hc.1) hd) rx
      obtain ⟨bs, r2⟩ := Dp.reads I _ y u (rpS_dp (g := gdOf X) (okE_pl hc.2) he) ry
      have pe := okE_pl hc.2
      have hdp := SeqAt.depth_of_shaped (okE_sh hc.1)
      rcases hy with rfl | rfl
      · simp only [D.pl] at pe
        simp only [D.toP] at r2
        refine SeqAt.in_list_reads r2 r1 (toPs_lay ys pe) (toP_lay d (okE_pl hc.1)) (by omega) ⟨.bl _, H, I, rfl, ?_⟩
        rw [toPs_any d (okE_pl hc.1) ys pe]
        exact q
      · simp only [D.pl] at pe
        simp only [D.toP] at r2
        refine SeqAt.in_tuple_reads r2 r1 (toPs_lay ys pe) (toP_lay d (okE_pl hc.1)) (by omega) ⟨.bl _, H, I, rfl, ?_⟩
        rw [toPs_any d (okE_pl hc.1) ys pe]
        exact q
    · cases hk
  cases e with
  | lst ys => simp only [inD] at hk; exact two ys (.inl rfl) hk
  | tup ys => simp only [inD] at hk; exact two ys (.inr rfl) hk
  | str z =>
    cases d <;> simp only [inD, reduceCtorEq] at hk
    rename_i x'
    cases e' : sgnOf x' with
    | none => rw [e'] at hk; cases hk
    | some c =>
      rw [e'] at hk
      cases hk
      rw [hd.str, sgnOf_eq e'] at rx
      rw [he.str] at ry
      exact op_in_sign pins s σ H _ _ v u Q I rx ry ⟨c, z, rfl, rfl, q⟩
  | _ => cases d <;> simp only [inD, reduceCtorEq] at hk
theorem nin_rule (hu : X.A.units + 65 < cLine) : OpR X (compareOp .NotIn) (rCm (gdOf X) fun d e => (inD d e).map fun b => !b) := by
  intro pins s σ H x y v u Q I rx ry h
  obtain ⟨F, T, d, e, k, hd, he, hk, q⟩ := h
  have two : ∀ ys, (e = .lst ys ∨ e = .tup ys) → (if (d.okE && e.okE) = true then some (ys.any fun z => D.eqv z d) else none).map (fun b => !b) = some k → wpAny (model X.prog X.w) X.A (compareOp .NotIn v u) (EP X pins σ Q) X.xe s := by
    intro ys hy hk
    split at hk
    · rename_i hc
      simp only [Bool.and_eq_true] at hc
      cases hk
      obtain ⟨as, r1⟩ := Dp.reads I _ x v (rpS_dp (g := gdOf X) (okE_pl hc.1) hd) rx
      obtain ⟨bs, r2⟩ := Dp.reads I _ y u (rpS_dp (g := gdOf X) (okE_pl hc.2) he) ry
      have pe := okE_pl hc.2
      have hdp := SeqAt.depth_of_shaped (okE_sh hc.1)
      rcases hy with rfl | rfl
      · simp only [D.pl] at pe
        simp only [D.toP] at r2
        refine SeqAt.notIn_list_reads r2 r1 (toPs_lay ys pe) (toP_lay d (okE_pl hc.1)) (by omega) ⟨.bl _, H, I, rfl, ?_⟩
        rw [toPs_any d (okE_pl hc.1) ys pe]
        exact q
      · simp only [D.pl] at pe
        simp only [D.toP] at r2
        refine SeqAt.notIn_tuple_reads r2 r1 (toPs_lay ys pe) (toP_lay d (okE_pl hc.1)) (by omega) ⟨.bl _, H, I, rfl, ?_⟩
        rw [toPs_any d (okE_pl hc.1) ys pe]
        exact q
    · cases hk
  cases e with
  | lst ys => simp only [inD] at hk; exact two ys (.inl rfl) hk
  | tup ys => simp only [inD] at hk; exact two ys (.inr rfl) hk
  | str z =>
    cases d <;> simp only [inD, Option.map_none, reduceCtorEq] at hk
    rename_i x'
    cases e' : sgnOf x' with
    | none => rw [e'] at hk; cases hk
    | some c =>
      rw [e'] at hk
      cases hk
      rw [hd.str, sgnOf_eq e'] at rx
      rw [he.str] at ry
      exact op_notIn_sign pins s σ H _ _ v u Q I rx ry ⟨c, z, rfl, rfl, q⟩
  | _ => cases d <;> simp only [inD, Option.map_none, reduceCtorEq] at hk
theorem cm_rule (o : Cm) (hu : X.A.units + 65 < cLine) : OpR X (compareOp o.ast) (rCm (gdOf X) o.f) := by
  cases o with
  | inn => exact in_rule hu
  | nin => exact nin_rule hu
  | eq =>
    intro pins s σ H x y v u Q I rx ry h
    obtain ⟨F, T, d, e, k, hd, he, hk, q⟩ := h
    simp only [Cm.f] at hk
    split at hk
    · rename_i hc
      simp only [Bool.and_eq_true] at hc
      cases hk
      refine op_eqD (by omega) pins s σ H x y v u Q I rx ry ⟨_, _, rpS_dp (g := gdOf X) (okE_pl hc.1) hd, rpS_dp (g := gdOf X) (okE_pl hc.2) he, okE_sh hc.1, okE_sh hc.2, ?_⟩
      rw [toP_eqv d e (okE_pl hc.1) (okE_pl hc.2)]
      exact q
    · cases hk
  | ne =>
    intro pins s σ H x y v u Q I rx ry h
    obtain ⟨F, T, d, e, k, hd, he, hk, q⟩ := h
    simp only [Cm.f] at hk
    split at hk
    · rename_i hc
      simp only [Bool.and_eq_true] at hc
      cases hk
      refine op_neD (by omega) pins s σ H x y v u Q I rx ry ⟨_, _, rpS_dp (g := gdOf X) (okE_pl hc.1) hd, rpS_dp (g := gdOf X) (okE_pl hc.2) he, okE_sh hc.1, okE_sh hc.2, ?_⟩
      rw [toP_eqv d e (okE_pl hc.1) (okE_pl hc.2)]
      exact q
    · cases hk
  | lt =>
    intro pins s σ H x y v u Q I rx ry h
    obtain ⟨F, T, d, e, k, hd, he, hk, q⟩ := h
    cases d <;> cases e <;> simp only [Cm.f, reduceCtorEq] at hk
    cases hk
    rw [hd.int] at rx
    rw [he.int] at ry
    exact op_lt pins s σ H _ _ v u Q I rx ry ⟨_, _, rfl, rfl, q⟩
  | le =>
    intro pins s σ H x y v u Q I rx ry h
    obtain ⟨F, T, d, e, k, hd, he, hk, q⟩ := h
    cases d <;> cases e <;> simp only [Cm.f, reduceCtorEq] at hk
    cases hk
    rw [hd.int] at rx
    rw [he.int] at ry
    exact op_le pins s σ H _ _ v u Q I rx ry ⟨_, _, rfl, rfl, q⟩
  | gt =>
    intro pins s σ H x y v u Q I rx ry h
    obtain ⟨F, T, d, e, k, hd, he, hk, q⟩ := h
    cases d <;> cases e <;> simp only [Cm.f, reduceCtorEq] at hk
    cases hk
    rw [hd.int] at rx
    rw [he.int] at ry
    exact op_gt pins s σ H _ _ v u Q I rx ry ⟨_, _, rfl, rfl, q⟩
  | ge =>
    intro pins s σ H x y v u Q I rx ry h
    obtain ⟨F, T, d, e, k, hd, he, hk, q⟩ := h
    cases d <;> cases e <;> simp only [Cm.f, reduceCtorEq] at hk
    cases hk
    rw [hd.int] at rx
    rw [he.int] at ry
    exact op_ge pins s σ H _ _ v u Q I rx ry ⟨_, _, rfl, rfl, q⟩

/-! ### places, cuts -/
def rIxD (g : Gd) : R2 := fun x y H Q => ∃ F T d e z, RpS g T H F d x ∧ RpS g T H F e y ∧ idxD d e = some z ∧ ∀ w, Rp g H F T z w → Q w H
theorem ix_rule : IxR X (rIxD (gdOf X)) := by
  intro value slice pins s σ H x y v u Q I rx ry h hs
  obtain ⟨F, T, d, e, z, hd, he, hz, q⟩ := h
  cases e <;> (try (cases d <;> simp only [idxD, reduceCtorEq] at hz))
  case int.lst i ds =>
    obtain ⟨a, vs, rfl, h1, _, h2⟩ := hd.lst
    obtain ⟨w, e1, e2⟩ := h2.at hz
    exact ix_list value slice pins s σ H _ y v u Q I rx ry ⟨a, vs, i, w, rfl, he.int, SqL.of h1, e1, q w e2⟩ hs
  case int.tup i ds =>
    obtain ⟨a, vs, rfl, h1, _, h2⟩ := hd.tup
    obtain ⟨w, e1, e2⟩ := h2.at hz
    exact ix_tup value slice pins s σ H _ y v u Q I rx ry ⟨a, vs, i, w, rfl, he.int, h1, e1, q w e2⟩ hs
  case int.str i x' =>
    split at hz
    · rename_i hl
      cases hc : atI x'.cps.toList i with
      | none => rw [hc] at hz; cases hz
      | some c =>
        rw [hc] at hz
        cases hz
        rw [hd.str] at rx
        exact ix_str value slice pins s σ H _ y v u Q I rx ry ⟨x', i, c, rfl, he.int, hl, hc, q _ rp_str⟩ hs
    · cases hz
  case int.scr i ns =>
    obtain ⟨a, rfl, h1⟩ := hd.scr
    cases hc : atI ns i with
    | none => rw [hc] at hz; cases hz
    | some c =>
      rw [hc] at hz
      cases hz
      refine ix_list value slice pins s σ H _ y v u Q I rx ry ⟨a, _, i, .int c, rfl, he.int, h1, ?_, q _ rp_int⟩ hs
      unfold atI at hc ⊢
      rw [List.length_map]
      cases hj : ixN ns.length i with
      | none => rw [hj] at hc; cases hc
      | some j =>
        rw [hj] at hc
        have hc : ns[j]? = some c := hc
        show (ns.map V.int)[j]? = some (.int c)
        rw [List.getElem?_map, hc]; rfl
def rSlD (g : Gd) : V → Option Int → Option Int → Hp → VK → Prop := fun x lo hi H Q => ∃ F T n d z, Tw T H n ∧ (∀ a, T = some a → ¬ F a) ∧ RpS g T H F d x ∧ cutD d lo hi = some z ∧ ∀ w H' F', Ev T H F H' F' → Tw T H' n → Rp g H' F' T z w → Q w H'
theorem sl_rule : SlR X (rSlD (gdOf X)) := by
  intro pins s σ H x v vl vu lo hi sl Q I rx hs pl pu h
  obtain ⟨F, T, n, d, z, tw, nf, hd, hz, q⟩ := h
  cases d <;> simp only [cutD, reduceCtorEq] at hz
  case lst ds =>
    cases hz
    obtain ⟨a, vs, rfl, h1, h3, h2⟩ := hd.lst
    refine sl_list pins s σ H _ v vl vu lo hi sl Q I rx hs pl pu ⟨a, vs, rfl, SqL.of h1, fun p hp => q _ _ _ (Ev.allocF hp) (tw.alloc hp) ?_⟩
    have k : Kp H F (upd H p (.lst (cutV vs lo hi))) (fun a => F a ∨ a = p) := Kp.alloc hp fun _ f => .inl f
    exact rp_lst upd_same (.inr rfl) (Nat.le_trans (cutV_length _ _ _) h3) (Rps.kp k (fun _ z => z) _ _ (h2.cut lo hi))
  case tup ds =>
    cases hz
    obtain ⟨a, vs, rfl, h1, h3, h2⟩ := hd.tup
    refine sl_tupA pins s σ H _ v vl vu lo hi sl Q I rx hs pl pu ⟨a, vs, rfl, h1, fun hw => q _ _ _ Ev.refl tw ?_, fun _ p hp => q _ _ _ (Ev.alloc hp) (tw.alloc hp) ?_⟩
    · have e : cutV vs lo hi = vs := by
        unfold cutV
        rw [hw.1, hw.2]
        simp
      have r := h2.cut lo hi
      rw [e] at r
      exact rp_tup h1 h3 r
    · have k : Kp H F (upd H p (.tup (cutV vs lo hi))) F := Kp.alloc hp fun _ f => f
      exact rp_tup (SqT.of upd_same) (Nat.le_trans (cutV_length _ _ _) h3) (Rps.kp k (fun _ z => z) _ _ (h2.cut lo hi))
  case str x' =>
    split at hz
    · rename_i hl
      cases hz
      rw [hd.str] at rx
      exact sl_str pins s σ H _ v vl vu lo hi sl Q I rx hs pl pu ⟨x', rfl, hl, q _ _ _ Ev.refl tw rp_str⟩
    · cases hz

/-! ### built-ins -/
def rBi (g : Gd) (kd : Kd) (f : List D → Option D) : List V → Hp → VK → Prop := fun xs H Q => ∃ F T n ds z, Tw T H n ∧ ((∀ a, T = some a → ¬ F a) ∧ ∀ a, F a → ∃ o, H a = some o) ∧ Paired (RpS g T H F) ds xs ∧ f ds = some z ∧ ∀ w H' F', Ev T H F H' F' → Tw T H' n → Post g T H H' F' kd z w → Q w H'
theorem pair1 {α β : Type} {R : α → β → Prop} {a : α} {bs : List β} (h : Paired R [a] bs) : ∃ b, bs = [b] ∧ R a b := by
  cases h with
  | cons r t => cases t; exact ⟨_, rfl, r⟩
theorem pair2 {α β : Type} {R : α → β → Prop} {a a' : α} {bs : List β} (h : Paired R [a, a'] bs) : ∃ b b', bs = [b, b'] ∧ R a b ∧ R a' b' := by
  cases h with
  | cons r t =>
    obtain ⟨b', e, r'⟩ := pair1 t
    exact ⟨_, b', by rw [e], r, r'⟩
theorem bools_rps {g : Gd} {H : Hp} {F : FS} {T : Option Addr} : ∀ {ds : List D} {vs : List V} {bs : List Bool}, Rps g H F T ds vs → bools ds = some bs → vs = bs.map V.bl
  | [], vs, bs, h, e => by simp only [Rps] at h; cases e; exact h
  | d :: ds, vs, bs, h, e => by
    simp only [Rps] at h
    obtain ⟨v, r, rfl, h1, h2⟩ := h
    cases d <;> simp only [bools, reduceCtorEq] at e
    rename_i b
    cases hb : bools ds with
    | none => rw [hb] at e; cases e
    | some cs =>
      rw [hb] at e
      cases e
      simp only [Rp] at h1
      rw [h1, bools_rps h2 hb]
      rfl
theorem txts_rps {g : Gd} {H : Hp} {F : FS} {T : Option Addr} : ∀ {ds : List D} {vs : List V} {bs : List Str}, Rps g H F T ds vs → txts ds = some bs → vs = bs.map V.str
  | [], vs, bs, h, e => by simp only [Rps] at h; cases e; exact h
  | d :: ds, vs, bs, h, e => by
    simp only [Rps] at h
    obtain ⟨v, r, rfl, h1, h2⟩ := h
    cases d <;> simp only [txts, reduceCtorEq] at e
    rename_i b
    cases hb : txts ds with
    | none => rw [hb] at e; cases e
    | some cs =>
      rw [hb] at e
      cases e
      simp only [Rp] at h1
      rw [h1, txts_rps h2 hb]
      rfl
theorem nums_rps {g : Gd} {H : Hp} {F : FS} {T : Option Addr} : ∀ {ds : List D} {vs : List V} {bs : List Int}, Rps g H F T ds vs → nums ds = some bs → vs = bs.map V.int
  | [], vs, bs, h, e => by simp only [Rps] at h; cases e; exact h
  | d :: ds, vs, bs, h, e => by
    simp only [Rps] at h
    obtain ⟨v, r, rfl, h1, h2⟩ := h
    cases d <;> simp only [nums, reduceCtorEq] at e
    rename_i b
    cases hb : nums ds with
    | none => rw [hb] at e; cases e
    | some cs =>
      rw [hb] at e
      cases e
      simp only [Rp] at h1
      rw [h1, nums_rps h2 hb]
      rfl
theorem pf {g : Gd} {T : Option Addr} {H0 H' : Hp} {F' : FS} {d : D} {v : V} (h : Rp g H' F' T d v) : Post g T H0 H' F' .full d v := h
theorem len_rule : CallR X (.builtin "len") (rBi (gdOf X) .full (Bi.f .len)) := by
  intro pins s σ H xs us Q I r h
  obtain ⟨F, T, n, ds, z, tw, nf, hd, hz, q⟩ := h
  match ds, hd, hz with
  | [d], hd, hz =>
    obtain ⟨v, rfl, hv⟩ := pair1 hd
    simp only [Bi.f] at hz
    cases e : lenD d with
    | none => rw [e] at hz; cases hz
    | some k =>
      rw [e] at hz
      cases hz
      have fin : Q (.int k) H := q _ _ _ Ev.refl tw (pf rp_int)
      cases d <;> simp only [lenD, reduceCtorEq] at e
      case lst ds =>
        cases e
        obtain ⟨a, vs, rfl, h1, _, h2⟩ := hv.lst
        exact call_len pins s σ H _ us Q I r ⟨_, ds.length, rfl, .inl ⟨vs, SqL.of h1, h2.len.symm⟩, fin⟩
      case tup ds =>
        cases e
        obtain ⟨a, vs, rfl, h1, _, h2⟩ := hv.tup
        exact call_len pins s σ H _ us Q I r ⟨_, ds.length, rfl, .inr ⟨vs, h1, h2.len.symm⟩, fin⟩
      case scr ns =>
        cases e
        obtain ⟨a, rfl, h1⟩ := hv.scr
        exact call_len pins s σ H _ us Q I r ⟨_, ns.length, rfl, .inl ⟨_, h1, by rw [List.length_map]⟩, fin⟩
      case str x' =>
        split at e
        · rename_i hl
          cases e
          rw [hv.str] at r
          exact call_len pins s σ H _ us Q I r ⟨_, x'.length, rfl, ⟨hl, rfl⟩, fin⟩
        · cases e
theorem all_rule (hc : X.calm = true) : CallR X (.builtin "all") (rBi (gdOf X) .full (Bi.f .all)) := by
  intro pins s σ H xs us Q I r h
  obtain ⟨F, T, n, ds, z, tw, nf, hd, hz, q⟩ := h
  match ds, hd, hz with
  | [.lst ds], hd, hz =>
    obtain ⟨v, rfl, hv⟩ := pair1 hd
    simp only [Bi.f] at hz
    cases e : bools ds with
    | none => rw [e] at hz; cases hz
    | some bs =>
      rw [e] at hz
      cases hz
      obtain ⟨a, vs, rfl, h1, _, h2⟩ := hv.lst
      rw [bools_rps h2 e] at h1
      exact cr_all hc pins s σ H _ us Q I r ⟨a, bs, rfl, SqL.of h1, q _ _ _ Ev.refl tw (pf rp_bl)⟩
theorem max2_rule (hc : X.calm = true) : CallR X (.builtin "max") (rBi (gdOf X) .full (Bi.f .max2)) := by
  intro pins s σ H xs us Q I r h
  obtain ⟨F, T, n, ds, z, tw, nf, hd, hz, q⟩ := h
  match ds, hd, hz with
  | [.int i, .int j], hd, hz =>
    obtain ⟨v, w, rfl, hv, hw⟩ := pair2 hd
    cases hz
    rw [hv.int, hw.int] at r
    exact call_max2 hc pins s σ H _ us Q I r ⟨i, j, rfl, q _ _ _ Ev.refl tw (pf rp_int)⟩
theorem int_rule : CallR X (.type "int") (rBi (gdOf X) .full (Bi.f .int)) := by
  intro pins s σ H xs us Q I r h
  obtain ⟨F, T, n, ds, z, tw, nf, hd, hz, q⟩ := h
  match ds, hd, hz with
  | [.int i], hd, hz =>
    obtain ⟨v, rfl, hv⟩ := pair1 hd
    cases hz
    rw [hv.int] at r
    exact call_int1 pins s σ H _ us Q I r (.inl ⟨i, rfl, q _ _ _ Ev.refl tw (pf rp_int)⟩)
  | [.bl i], hd, hz =>
    obtain ⟨v, rfl, hv⟩ := pair1 hd
    cases hz
    rw [hv.bl] at r
    exact call_int1 pins s σ H _ us Q I r (.inr ⟨i, rfl, q _ _ _ Ev.refl tw (pf rp_int)⟩)
theorem list_rule : CallR X (.type "list") (rBi (gdOf X) .new (Bi.f .list)) := by
  intro pins s σ H xs us Q I r h
  obtain ⟨F, T, n, ds, z, tw, nf, hd, hz, q⟩ := h
  have fin : ∀ ds vs, z = .lst ds → vs.length ≤ sizeLine → Rps (gdOf X) H F T ds vs → ∀ p, H p = none → Q (.ref p) (upd H p (.lst vs)) := fun ds vs e l h p hp => by
    have k : Kp H F (upd H p (.lst vs)) F := Kp.alloc hp fun _ f => f
    have fp : ¬ F p := fun f => by
      obtain ⟨o, q⟩ := nf.2 p f
      rw [hp] at q; cases q
    exact q _ _ F (Ev.alloc hp) (tw.alloc hp) ⟨p, vs, ds, e, rfl, hp, upd_same, fp, l, Rps.kp k (fun _ z => z) _ _ h⟩
  match ds, hd, hz with
  | [.lst ds], hd, hz =>
    obtain ⟨v, rfl, hv⟩ := pair1 hd
    cases hz
    obtain ⟨a, vs, rfl, h1, l, h2⟩ := hv.lst
    exact call_list_of pins s σ H _ us Q I r ⟨a, vs, rfl, .inl (SqL.of h1), fin ds vs rfl l h2⟩
  | [.tup ds], hd, hz =>
    obtain ⟨v, rfl, hv⟩ := pair1 hd
    cases hz
    obtain ⟨a, vs, rfl, h1, l, h2⟩ := hv.tup
    exact call_list_of pins s σ H _ us Q I r ⟨a, vs, rfl, .inr h1, fin ds vs rfl l h2⟩
theorem tuple_rule : CallR X (.type "tuple") (rBi (gdOf X) .full (Bi.f .tuple)) := by
  intro pins s σ H xs us Q I r h
  obtain ⟨F, T, n, ds, z, tw, nf, hd, hz, q⟩ := h
  match ds, hd, hz with
  | [.lst ds], hd, hz =>
    obtain ⟨v, rfl, hv⟩ := pair1 hd
    cases hz
    obtain ⟨a, vs, rfl, h1, l, h2⟩ := hv.lst
    refine call_tuple_of pins s σ H _ us Q I r ⟨a, vs, rfl, .inl ⟨SqL.of h1, fun p hp => q _ _ _ (Ev.alloc hp) (tw.alloc hp) ?_⟩⟩
    have k : Kp H F (upd H p (.tup vs)) F := Kp.alloc hp fun _ f => f
    exact pf (rp_tup (SqT.of upd_same) l (Rps.kp k (fun _ z => z) _ _ h2))
  | [.tup ds], hd, hz =>
    obtain ⟨v, rfl, hv⟩ := pair1 hd
    cases hz
    obtain ⟨a, vs, rfl, h1, l, h2⟩ := hv.tup
    exact call_tuple_of pins s σ H _ us Q I r ⟨a, vs, rfl, .inr ⟨h1, q _ _ _ Ev.refl tw (pf (rp_tup h1 l h2))⟩⟩
end
end Ss
/-! Ss, part E: where one stands; the rules for expressions. -/
namespace Ss
open PySem PySem.Spec PyProof.Rows L2

def bns : List Str := ["len", "all", "max", "int", "list", "tuple", "isinstance", "set", "range", "bool", "str"]
structure GdOk (g : Gd) : Prop where
  fr : ∀ x ∈ bns, g.mg x = none
structure Gud (g : Gd) (X : Cx) (W : WX) (sc : Scope) (fb : Str → Bool) (N : List Str) (L : Nat) : Prop where
  gd : gdOf X = g
  ok : GdOk g
  es : X.env.scope = sc
  nm : X.N = N
  nd : N.Nodup
  calm : X.calm = true
  room : Room L X.A
  tk : Takes X W
  fc : ∀ x, fb x = true → X.fn x = true
  own : PassesOwn (model X.prog X.w) X.A X.env X.xe
/-- what a def promises -/
def spOf (g : Gd) (f : Fn) : Sp := fun vs H Q E => ∃ F T n ds, Tw T H n ∧ (∀ a, T = some a → ¬ F a) ∧ (∀ a, F a → ∃ o, H a = some o) ∧ Rps g H F T ds vs ∧ ds.length = f.ar ∧
  Fin g (fun c d _ H' => E c d H') [] T H F (f.sem ds n) fun d _ H' F' => ∀ v, Rp g H' F' T d v → Q v H'
structure FnG (g : Gd) (L : Nat) (f : Fn) : Prop where
  ex : ∃ (a : Addr) (fd : FuncData) (ps : List Str), g.mg f.name = some (.ref a) ∧ PySem.W.keepIn g.K (.ref a) = true ∧ Binds g.K fd ps [] ∧ ps.length = f.ar ∧ FnOk g.P g.w g.K g.mg g.base (L2.CX g.P g.w) L a fd ps (spOf g f)
/-- a module's constant -/
def GlG (g : Gd) (x : Str) (d : D) : Prop := ∃ (v : V) (u : Value), g.mg x = some u ∧ RelV v u ∧ ∀ H F T, Rp g H F T d v

/-! ### names -/
def visB (sc : Scope) (x : Str) : Bool := match sc.names.lookup x with
  | some .local => true
  | some .cell => true
  | some .free => true
  | _ => false
def locB (sc : Scope) (x : Str) : Bool := match sc.names.lookup x with
  | some .local => true
  | some .cell => true
  | _ => false
def nmB (sc : Scope) (N : List Str) (i : Nat) (x : Str) : Bool := (N[i]? == some x) && visB sc x && !(x == ("__debug__" : Str)) && !(x == ("__classdict__" : Str))
def glB (sc : Scope) (x : Str) : Bool := (sc.names.lookup x == some .globalImplicit) && !(x == ("__debug__" : Str))
theorem visB_ok {sc : Scope} {x : Str} (h : visB sc x = true) : Vis sc x := by
  unfold visB at h
  split at h
  · exact .inl ‹_›
  · exact .inr (.inl ‹_›)
  · exact .inr (.inr ‹_›)
  · cases h
theorem locB_ok {sc : Scope} {x : Str} (h : locB sc x = true) : Loc sc x := by
  unfold locB at h
  split at h
  · exact .inl ‹_›
  · exact .inr ‹_›
  · cases h
section
variable {g : Gd} {X : Cx} {W : WX} {sc : Scope} {fb : Str → Bool} {N : List Str} {L : Nat} {B : Bs}
theorem Gud.vis (G : Gud g X W sc fb N L) {i : Nat} {x : Str} (h : nmB sc N i x = true) : X.N[i]? = some x ∧ Vis X.env.scope x ∧ (x == ("__debug__" : Str)) = false ∧ (x == ("__classdict__" : Str)) = false := by
  unfold nmB at h
  simp only [Bool.and_eq_true, Bool.not_eq_true', beq_iff_eq] at h
  rw [G.nm, G.es]
  exact ⟨h.1.1.1, visB_ok h.1.1.2, h.1.2, h.2⟩
theorem Gud.gl (G : Gud g X W sc fb N L) {x : Str} (h : glB sc x = true) : Gl X x ∧ (x == ("__debug__" : Str)) = false := by
  unfold glB at h
  simp only [Bool.and_eq_true, Bool.not_eq_true', beq_iff_eq] at h
  refine ⟨?_, h.2⟩
  show X.env.scope.names.lookup x = _
  rw [G.es]
  exact h.1
theorem Gud.units (G : Gud g X W sc fb N L) : X.A.units + 65 < cLine := by have := G.room.un; omega
theorem Gud.bn (G : Gud g X W sc fb N L) {x : Str} (h : x ∈ bns) : X.mg x = none := by
  have := G.ok.fr x h
  rw [← G.gd] at this
  exact this

theorem se_var (G : Gud g X W sc fb N L) {i : Nat} {x : Str} {pos : Pos} (h : nmB sc N i x = true) : PE X (.Name x pos) (tI g B W .full fun ρ => lft (getD ρ i)) := by
  obtain ⟨h1, h2, h3, h4⟩ := G.vis h
  refine pe_wk (pe_var h1 h2 h3 h4) fun σ H Q q => ?_
  obtain ⟨ρ, F, T, n, R, q⟩ := q
  obtain ⟨d, e, k, _⟩ := q.lft R.tw
  obtain ⟨v, e1, e2⟩ := R.dat e
  exact ⟨v, e1, k v e2⟩
theorem se_own (G : Gud g X W sc fb N L) {i : Nat} {x : Str} {pos : Pos} (h : nmB sc N i x = true) : PE X (.Name x pos) (tI g B W .shal fun ρ => lft ((getO ρ i).map D.lst)) := by
  obtain ⟨h1, h2, h3, h4⟩ := G.vis h
  refine pe_wk (pe_var h1 h2 h3 h4) fun σ H Q q => ?_
  obtain ⟨ρ, F, T, n, R, q⟩ := q
  obtain ⟨d, e, k, _⟩ := q.lft R.tw
  cases eo : getO ρ i with
  | none => rw [eo] at e; cases e
  | some xs =>
    rw [eo] at e
    cases e
    obtain ⟨_, a, vs, e1, e2, e3, e4, e5, e6, e7⟩ := R.owd eo
    exact ⟨.ref a, e1, k _ (.inr ⟨a, vs, xs, rfl, rfl, e2, e4, e6, e7⟩)⟩
def litB : D → Const → Bool
  | .non, .none => true
  | .bl b, .bool c => b == c
  | .int i, .int j => decide (i = j)
  | .str x, .str y => decide (x = y)
  | _, _ => false
theorem se_lit {d : D} {c : Const} {j : Nat} {pos : Pos} (h : litB d c = true) : PE X (.Constant c j pos) (tI g B W .full fun _ => ret d) := by
  have fin : ∀ v σ H Q, (∀ H F T, Rp g H F T d v) → tI g B W .full (fun _ => ret d) σ H Q → Q v H := fun v σ H Q hv q => by
    obtain ⟨ρ, F, T, n, R, q⟩ := q
    exact q H F Ev.refl R.tw v (hv H F T)
  cases d <;> cases c <;> simp only [litB, reduceCtorEq, Bool.false_eq_true] at h
  · exact pe_wk pe_non fun σ H Q q => fin _ σ H Q (fun _ _ _ => rp_non) q
  · have e := eq_of_beq h
    subst e
    exact pe_wk pe_bl fun σ H Q q => fin _ σ H Q (fun _ _ _ => rp_bl) q
  · have e := of_decide_eq_true h
    subst e
    exact pe_wk pe_int fun σ H Q q => fin _ σ H Q (fun _ _ _ => rp_int) q
  · have e := of_decide_eq_true h
    subst e
    exact pe_wk pe_str fun σ H Q q => fin _ σ H Q (fun _ _ _ => rp_str) q
theorem se_glob (G : Gud g X W sc fb N L) {x : Str} {d : D} {pos : Pos} (hd : GlG g x d) (h : glB sc x = true) : PE X (.Name x pos) (tI g B W .full fun _ => ret d) := by
  obtain ⟨h1, h2⟩ := G.gl h
  obtain ⟨v, u, e1, e2, e3⟩ := hd
  have e1 : X.mg x = some u := by rw [← G.gd] at e1; exact e1
  refine pe_wk (pe_glob h1 e1 e2 h2) fun σ H Q q => ?_
  obtain ⟨ρ, F, T, n, R, q⟩ := q
  exact q H F Ev.refl R.tw v (e3 H F T)

/-! ### argument lists -/
def nst : Expr → Bool
  | .Starred _ _ => false
  | _ => true
theorem star_of {e : Expr} {es : List Expr} {env : PySem.Env} (h : nst e = true) : starEach (e :: es) env = (false, eval e env) :: starEach es env := by
  cases e <;> first | rfl | (simp only [nst, Bool.false_eq_true] at h)
theorem sa_nil {kd : Kd} : PA X [] (tIs g B W kd fun _ => ret []) := by
  refine pa_wk pa_nil fun σ H Q q => ?_
  obtain ⟨ρ, F, T, n, R, q⟩ := q
  refine q H F Ev.refl R.tw [] ?_
  cases kd
  · exact (Rps.nil : Rps g H F T [] [])
  · exact .nil
  · exact (Rps.nil : Rps g H F T [] [])
theorem sa_cons {kd : Kd} {e : Expr} {es : List Expr} {f : Ss.Env → M D} {fs : Ss.Env → M (List D)} (he : PE X e (tI g B W kd f)) (hk : kd = .full ∨ kd = .shal) (hs : PA X es (tIs g B W kd fs)) (hn : nst e = true) :
    PA X (e :: es) (tIs g B W kd fun ρ => bnd (f ρ) fun d => bnd (fs ρ) fun ds => ret (d :: ds)) := by
  refine pa_wk (pa_cons he hs (star_of hn)) fun σ H Q q => ?_
  obtain ⟨ρ, F, T, n, R, q⟩ := q
  refine ⟨ρ, F, T, n, R, q.bnd.mono fun d n1 H1 F1 e1 t1 q1 v p1 => ?_⟩
  have R1 := R.step e1 t1
  refine ⟨ρ, F1, T, n1, R1, q1.bnd.mono fun ds n2 H2 F2 e2 t2 q2 vs p2 => ?_⟩
  refine q2 H2 F2 Ev.refl t2 (v :: vs) ?_
  rcases hk with rfl | rfl
  · exact Rps.cons (R1.rp e2 p1) p2
  · exact .cons (RpS.ev R1.tw R1.nf e2 p1) p2

/-! ### displays -/
theorem se_tup {es : List Expr} {fs : Ss.Env → M (List D)} {j : Nat} {pos : Pos} (h : PA X es (tIs g B W .full fs)) : PE X (.Tuple es j pos) (tI g B W .full fun ρ => bnd (fs ρ) fun ds => if ds.length ≤ sizeLine then ret (.tup ds) else bad) := by
  refine pe_wk (pe_tup h) fun σ H Q q => ?_
  obtain ⟨ρ, F, T, n, R, q⟩ := q
  refine ⟨ρ, F, T, n, R, q.bnd.mono fun ds n1 H1 F1 e1 t1 q1 vs p1 => ?_⟩
  have R1 := R.step e1 t1
  by_cases hl : ds.length ≤ sizeLine
  · rw [if_pos hl] at q1
    have p1 : Rps g H1 F1 T ds vs := p1
    have hl' : vs.length ≤ sizeLine := by rw [p1.len]; exact hl
    refine ⟨hl', fun p hp => q1 (upd H1 p (.tup vs)) F1 (Ev.alloc hp) (t1.alloc hp) _ ?_⟩
    have k : Kp H1 F1 (upd H1 p (.tup vs)) F1 := Kp.alloc hp fun _ f => f
    exact rp_tup (SqT.of upd_same) hl' (Rps.kp k (fun _ z => z) _ _ p1)
  · rw [if_neg hl] at q1; exact False.elim q1
theorem newPost {T : Option Addr} {H1 : Hp} {F1 : FS} {ds : List D} {vs : List V} {p : Addr} (dm : ∀ a, F1 a → ∃ o, H1 a = some o) (hp : H1 p = none) (H0 : Hp) (h0 : H0 p = none) (l : vs.length ≤ sizeLine) (r : Rps g H1 F1 T ds vs) :
    Post g T H0 (upd H1 p (.lst vs)) F1 .new (.lst ds) (.ref p) := by
  have k : Kp H1 F1 (upd H1 p (.lst vs)) F1 := Kp.alloc hp fun _ f => f
  refine ⟨p, vs, ds, rfl, rfl, h0, upd_same, fun f => ?_, l, Rps.kp k (fun _ z => z) _ _ r⟩
  obtain ⟨o, q⟩ := dm p f
  rw [hp] at q; cases q
theorem none_back {T : Option Addr} {H H1 : Hp} {F F1 : FS} {n : Nat} (e : Ev T H F H1 F1) (t : Tw T H1 n) {p : Addr} (hp : H1 p = none) : H p = none := by
  cases q : H p with
  | none => rfl
  | some o =>
    by_cases z : T = some p
    · rw [t p z] at hp; cases hp
    · rw [e.same p o q z] at hp; cases hp
theorem se_lst {es : List Expr} {fs : Ss.Env → M (List D)} {pos : Pos} (h : PA X es (tIs g B W .full fs)) : PE X (.List es pos) (tI g B W .new fun ρ => bnd (fs ρ) fun ds => if ds.length ≤ sizeLine then ret (.lst ds) else bad) := by
  refine pe_wk (pe_lst h) fun σ H Q q => ?_
  obtain ⟨ρ, F, T, n, R, q⟩ := q
  refine ⟨ρ, F, T, n, R, q.bnd.mono fun ds n1 H1 F1 e1 t1 q1 vs p1 => ?_⟩
  have R1 := R.step e1 t1
  by_cases hl : ds.length ≤ sizeLine
  · rw [if_pos hl] at q1
    have p1 : Rps g H1 F1 T ds vs := p1
    have hl' : vs.length ≤ sizeLine := by rw [p1.len]; exact hl
    exact ⟨hl', fun p hp => q1 (upd H1 p (.lst vs)) F1 (Ev.alloc hp) (t1.alloc hp) _ (newPost R1.dm hp H (none_back e1 t1 hp) hl' p1)⟩
  · rw [if_neg hl] at q1; exact False.elim q1

/-! ### operators, comparisons -/
theorem se_op (G : Gud g X W sc fb N L) {o : Op} {a b : Expr} {fa fb : Ss.Env → M D} {pos : Pos} (ha : PE X a (tI g B W .shal fa)) (hb : PE X b (tI g B W .shal fb)) :
    PE X (.BinOp a o.ast b pos) (tI g B W .full fun ρ => bnd (fa ρ) fun x => bnd (fb ρ) fun y => lft (o.f x y)) := by
  obtain rfl := G.gd
  refine pe_wk (pe_op (op_rule o) ha hb) fun σ H Q q => ?_
  obtain ⟨ρ, F, T, n, R, q⟩ := q
  refine ⟨ρ, F, T, n, R, q.bnd.mono fun d n1 H1 F1 e1 t1 q1 v p1 => ?_⟩
  have R1 := R.step e1 t1
  refine ⟨ρ, F1, T, n1, R1, q1.bnd.mono fun e n2 H2 F2 e2 t2 q2 u p2 => ?_⟩
  have R2 := R1.step e2 t2
  obtain ⟨z, ez, _, k⟩ := q2.lft t2
  exact ⟨F2, T, n2, d, e, z, t2, R2.nf, RpS.ev R1.tw R1.nf e2 p1, p2, ez, fun w H' F' e3 t3 p3 => k H' F' e3 t3 w p3⟩
theorem cmpB (o : Cm) (b : Expr) (h : (match b with | .Set _ _ _ => false | _ => true) = true) : behindInMarks o.ast b = false := by
  cases b <;> first | rfl | (simp only [Bool.false_eq_true] at h)
theorem se_cmp (G : Gud g X W sc fb N L) {o : Cm} {a b : Expr} {fa fb : Ss.Env → M D} {pos : Pos} (ha : PE X a (tI g B W .shal fa)) (hb : PE X b (tI g B W .shal fb)) (hm : behindInMarks o.ast b = false) :
    PE X (.Compare a [o.ast] [b] pos) (tI g B W .full fun ρ => bnd (fa ρ) fun x => bnd (fb ρ) fun y => lft ((o.f x y).map D.bl)) ∧
    PT X (.Compare a [o.ast] [b] pos) (tT g B W fun ρ => truM (bnd (fa ρ) fun x => bnd (fb ρ) fun y => lft ((o.f x y).map D.bl))) := by
  obtain rfl := G.gd
  constructor
  · refine pe_wk (pe_cmpR (cm_rule o G.units) ha hb hm) fun σ H Q q => ?_
    obtain ⟨ρ, F, T, n, R, q⟩ := q
    refine ⟨ρ, F, T, n, R, q.bnd.mono fun d n1 H1 F1 e1 t1 q1 v p1 => ?_⟩
    have R1 := R.step e1 t1
    refine ⟨ρ, F1, T, n1, R1, q1.bnd.mono fun e n2 H2 F2 e2 t2 q2 u p2 => ?_⟩
    have R2 := R1.step e2 t2
    obtain ⟨z, ez, k, _⟩ := q2.lft t2
    cases eb : o.f d e with
    | none => rw [eb] at ez; cases ez
    | some b =>
      rw [eb] at ez
      cases ez
      exact ⟨F2, T, d, e, b, RpS.ev R1.tw R1.nf e2 p1, p2, eb, k _ (pf rp_bl)⟩
  · refine pt_wk (pt_cmpR (cm_rule o G.units) ha hb hm) fun σ H Q q => ?_
    obtain ⟨ρ, F, T, n, R, q⟩ := q
    unfold truM at q
    refine ⟨ρ, F, T, n, R, q.bnd.bnd.mono fun d n1 H1 F1 e1 t1 q1 v p1 => ?_⟩
    have R1 := R.step e1 t1
    refine ⟨ρ, F1, T, n1, R1, q1.bnd.mono fun e n2 H2 F2 e2 t2 q2 u p2 => ?_⟩
    have R2 := R1.step e2 t2
    obtain ⟨z, ez, k, _⟩ := q2.lft t2
    cases eb : o.f d e with
    | none => rw [eb] at ez; cases ez
    | some b =>
      rw [eb] at ez
      cases ez
      obtain ⟨b', e', k, _⟩ := k.lft t2
      cases e'
      exact ⟨F2, T, d, e, b, RpS.ev R1.tw R1.nf e2 p1, p2, eb, b, rfl, k⟩
theorem le_bl {d e : D} {k : Bool} (h : Cm.f .le d e = some k) : True := trivial
theorem se_chain (G : Gud g X W sc fb N L) {a b c : Expr} {fa fb fc : Ss.Env → M D} {pos : Pos} (ha : PE X a (tI g B W .shal fa)) (hb : PE X b (tI g B W .shal fb)) (hc : PE X c (tI g B W .shal fc)) (hm : lastMarks [CmpOp.LtE, CmpOp.LtE] [b, c] = false) :
    PE X (.Compare a [.LtE, .LtE] [b, c] pos) (tI g B W .full fun ρ => bnd (fa ρ) fun x => bnd (fb ρ) fun y => bnd (lft (Cm.f .le x y)) fun k => if k then bnd (fc ρ) fun z => lft ((Cm.f .le y z).map D.bl) else ret (.bl false)) ∧
    PT X (.Compare a [.LtE, .LtE] [b, c] pos) (tT g B W fun ρ => truM (bnd (fa ρ) fun x => bnd (fb ρ) fun y => bnd (lft (Cm.f .le x y)) fun k => if k then bnd (fc ρ) fun z => lft ((Cm.f .le y z).map D.bl) else ret (.bl false))) := by
  obtain rfl := G.gd
  have key : ∀ (σ : L2.St) (H : Hp) (Q : VK), (∃ ρ F T n, Rel (gdOf X) B ρ σ H F T n ∧ Fin (gdOf X) W σ T H F ((bnd (fa ρ) fun x => bnd (fb ρ) fun y => bnd (lft (Cm.f .le x y)) fun k => if k then bnd (fc ρ) fun z => lft ((Cm.f .le y z).map D.bl) else ret (.bl false)) n) fun d _ H' F' => ∀ b, d = .bl b → Q (.bl b) H') →
      tChain (rCm (gdOf X) (Cm.f .le)) (rCm (gdOf X) (Cm.f .le)) (tI (gdOf X) B W .shal fa) (tI (gdOf X) B W .shal fb) (tI (gdOf X) B W .shal fc) σ H Q := fun σ H Q q => by
    obtain ⟨ρ, F, T, n, R, q⟩ := q
    refine ⟨ρ, F, T, n, R, q.bnd.mono fun d n1 H1 F1 e1 t1 q1 v p1 => ?_⟩
    have R1 := R.step e1 t1
    refine ⟨ρ, F1, T, n1, R1, q1.bnd.mono fun e n2 H2 F2 e2 t2 q2 u p2 => ?_⟩
    have R2 := R1.step e2 t2
    obtain ⟨k, ek, q3, _⟩ := q2.bnd.lft t2
    refine ⟨F2, T, d, e, k, RpS.ev R1.tw R1.nf e2 p1, p2, ek, k, rfl, ?_⟩
    cases k with
    | false =>
      simp only [Bool.false_eq_true, if_false] at q3 ⊢
      exact q3 H2 F2 Ev.refl t2 _ rfl
    | true =>
      simp only [if_true] at q3 ⊢
      refine ⟨ρ, F2, T, n2, R2, q3.bnd.mono fun z n3 H3 F3 e3 t3 q4 w p3 => ?_⟩
      obtain ⟨y, ey, k, _⟩ := q4.lft t3
      cases eb : Cm.f .le e z with
      | none => rw [eb] at ey; cases ey
      | some b =>
        rw [eb] at ey
        cases ey
        exact ⟨F3, T, e, z, b, RpS.ev R2.tw R2.nf e3 p2, p3, eb, k _ rfl⟩
  constructor
  · refine pe_wk (pe_chain (cm_rule .le G.units) (cm_rule .le G.units) ha hb hc hm) fun σ H Q q => key σ H Q ?_
    obtain ⟨ρ, F, T, n, R, q⟩ := q
    exact ⟨ρ, F, T, n, R, q.mono fun d n' H' F' e t k b eb => k _ (by rw [eb]; exact pf rp_bl)⟩
  · refine pt_wk (pt_chain (cm_rule .le G.units) (cm_rule .le G.units) ha hb hc hm) fun σ H Q q => ?_
    obtain ⟨ρ, F, T, n, R, q⟩ := q
    unfold truM at q
    refine key σ H _ ⟨ρ, F, T, n, R, q.bnd.mono fun d n' H' F' e t k b eb => ?_⟩
    subst eb
    obtain ⟨b', eb, k, _⟩ := k.lft t
    cases eb
    exact ⟨_, rfl, k⟩
theorem se_isn (G : Gud g X W sc fb N L) {neg : Bool} {a : Expr} {fa : Ss.Env → M D} {j : Nat} {pos pos' : Pos} (ha : PE X a (tI g B W .shal fa)) :
    PE X (.Compare a [if neg then .IsNot else .Is] [.Constant .none j pos'] pos) (tI g B W .full fun ρ => bnd (fa ρ) fun x => ret (.bl (match x with
    | .non => !neg
    | _ => neg))) ∧
    PT X (.Compare a [if neg then .IsNot else .Is] [.Constant .none j pos'] pos) (tT g B W fun ρ => truM (bnd (fa ρ) fun x => ret (.bl (match x with
    | .non => !neg
    | _ => neg)))) := by
  have val : ∀ {T : Option Addr} {H : Hp} {F : FS} {d : D} {v : V}, RpS g T H F d v → (match d with | .non => true | _ => false) = decide (v = .non) := fun {T H F d v} h => by
    cases d with
    | non => rw [h.non]; rfl
    | bl b => rw [h.bl]; rfl
    | int i => rw [h.int]; rfl
    | str x => rw [h.str]; rfl
    | lst xs => obtain ⟨a, vs, rfl, _⟩ := h.lst; rfl
    | tup xs => obtain ⟨a, vs, rfl, _⟩ := h.tup; rfl
    | scr ns => obtain ⟨a, rfl, _⟩ := h.scr; rfl
    | dic _ =>
      rcases h with h | ⟨_, _, _, e, _⟩
      · simp only [Rp] at h
      · cases e
    | exn _ =>
      rcases h with h | ⟨_, _, _, e, _⟩
      · simp only [Rp] at h
      · cases e
    | fn _ =>
      rcases h with h | ⟨_, _, _, e, _⟩
      · simp only [Rp] at h; obtain ⟨a, rfl, _⟩ := h; rfl
      · cases e
    | town =>
      rcases h with h | ⟨_, _, _, e, _⟩
      · simp only [Rp] at h; obtain ⟨a, rfl, _⟩ := h; rfl
      · cases e
  cases neg with
  | false =>
    constructor
    · refine pe_wk (pe_cmp (pc_isN ha)) fun σ H Q q => ?_
      obtain ⟨ρ, F, T, n, R, q⟩ := q
      refine ⟨ρ, F, T, n, R, q.bnd.mono fun d n1 H1 F1 e1 t1 q1 v p1 => ?_⟩
      have z := q1 H1 F1 Ev.refl t1 _ (pf rp_bl)
      dsimp only
      rw [← val p1]
      cases d <;> exact z
    · refine pt_wk (pt_cmp (pc_isN ha)) fun σ H Q q => ?_
      obtain ⟨ρ, F, T, n, R, q⟩ := q
      unfold truM at q
      refine ⟨ρ, F, T, n, R, q.bnd.bnd.mono fun d n1 H1 F1 e1 t1 q1 v p1 => ?_⟩
      have z := q1 H1 F1 Ev.refl t1 H1 F1 Ev.refl t1
      dsimp only
      rw [← val p1]
      cases d <;> exact ⟨_, rfl, z⟩
  | true =>
    constructor
    · refine pe_wk (pe_cmp (pc_notN ha)) fun σ H Q q => ?_
      obtain ⟨ρ, F, T, n, R, q⟩ := q
      refine ⟨ρ, F, T, n, R, q.bnd.mono fun d n1 H1 F1 e1 t1 q1 v p1 => ?_⟩
      have z := q1 H1 F1 Ev.refl t1 _ (pf rp_bl)
      dsimp only
      rw [← val p1]
      cases d <;> exact z
    · refine pt_wk (pt_cmp (pc_notN ha)) fun σ H Q q => ?_
      obtain ⟨ρ, F, T, n, R, q⟩ := q
      unfold truM at q
      refine ⟨ρ, F, T, n, R, q.bnd.bnd.mono fun d n1 H1 F1 e1 t1 q1 v p1 => ?_⟩
      have z := q1 H1 F1 Ev.refl t1 H1 F1 Ev.refl t1
      dsimp only
      rw [← val p1]
      cases d <;> exact ⟨_, rfl, z⟩

/-! ### and, or, not, if -/
theorem tru_not (m : M D) : truM (bnd m fun x => lft ((tru x).map fun b => D.bl (!b))) = bnd (truM m) fun b => ret (!b) := by
  funext n
  simp only [truM, bnd]
  cases m n with
  | ok d n1 =>
    dsimp only
    cases h : tru d <;> simp [lft, bad, ret, tru]
  | exc c n1 => rfl
  | bad => rfl
theorem tru_bop (m fr : M D) (an : Bool) : truM (bnd m fun x => bnd (lft (tru x)) fun k => if k == an then fr else ret x) = bnd (truM m) fun k => if k == an then truM fr else ret k := by
  funext n
  simp only [truM, bnd]
  cases m n with
  | ok d n1 =>
    dsimp only
    cases h : tru d with
    | none => simp [lft, bad]
    | some k =>
      simp only [lft, ret]
      cases hk : k == an
      · simp [ret, h, lft]
      · simp only [if_true]
        rfl
  | exc c n1 => rfl
  | bad => rfl
theorem se_not (G : Gud g X W sc fb N L) {a : Expr} {fa : Ss.Env → M D} {pos : Pos} (ha : PE X a (tI g B W .shal fa)) (hp : PT X a (tT g B W fun ρ => truM (fa ρ))) :
    PE X (.UnaryOp .Not a pos) (tI g B W .full fun ρ => bnd (fa ρ) fun x => lft ((tru x).map fun b => D.bl (!b))) ∧
    PT X (.UnaryOp .Not a pos) (tT g B W fun ρ => truM (bnd (fa ρ) fun x => lft ((tru x).map fun b => D.bl (!b)))) := by
  obtain rfl := G.gd
  constructor
  · refine pe_wk (pe_notT ha) fun σ H Q q => ?_
    obtain ⟨ρ, F, T, n, R, q⟩ := q
    refine ⟨ρ, F, T, n, R, q.bnd.mono fun d n1 H1 F1 e1 t1 q1 v p1 => ?_⟩
    obtain ⟨z, ez, k, _⟩ := q1.lft t1
    cases eb : tru d with
    | none => rw [eb] at ez; cases ez
    | some b =>
      rw [eb] at ez
      cases ez
      exact ⟨b, truV_of (g := gdOf X) p1 eb, k _ (pf rp_bl)⟩
  · refine pt_wk (pt_not hp) fun σ H Q q => ?_
    obtain ⟨ρ, F, T, n, R, q⟩ := q
    dsimp only at q
    rw [tru_not] at q
    exact ⟨ρ, F, T, n, R, q.bnd.mono fun b n1 H1 F1 e1 t1 q1 => q1 H1 F1 Ev.refl t1⟩
/-- a if c else b -/
theorem se_ite {c a b : Expr} {fc fa fb : Ss.Env → M D} {kd : Kd} {pos : Pos} (hk : kd = .full ∨ kd = .shal) (hc : PT X c (tT g B W fun ρ => truM (fc ρ))) (ha : PE X a (tI g B W kd fa)) (hb : PE X b (tI g B W kd fb)) :
    PE X (.IfExp c a b pos) (tI g B W kd fun ρ => bnd (fc ρ) fun x => bnd (lft (tru x)) fun k => if k then fa ρ else fb ρ) := by
  refine pe_wk (pe_ifExp hc ha hb) fun σ H Q q => ?_
  obtain ⟨ρ, F, T, n, R, q⟩ := q
  dsimp only at q
  rw [← bnd_assoc] at q
  refine ⟨ρ, F, T, n, R, q.bnd.mono fun b n1 H1 F1 e1 t1 q1 => ?_⟩
  have R1 := R.step e1 t1
  have fin : ∀ (f : Ss.Env → M D), Fin g W σ T H1 F1 (f ρ n1) (fun d _ H' F' => ∀ v, Post g T H H' F' kd d v → Q v H') → tI g B W kd f σ H1 Q := fun f h => by
    refine ⟨ρ, F1, T, n1, R1, h.mono fun d n' H' F' e t k v p => k v ?_⟩
    rcases hk with rfl | rfl
    · exact p
    · exact p
  cases b with
  | true => exact fin fa q1
  | false => exact fin fb q1
/-- the n-ary and, or: as a value -/
theorem se_bop1 {op : BoolOp} {e : Expr} {f : Ss.Env → M D} {kd : Kd} {pos : Pos} (h : PE X e (tI g B W kd f)) : PE X (.BoolOp op [e] pos) (tI g B W kd f) := pe_one h
def bopA (an : Bool) : BoolOp := if an then .And else .Or
theorem se_bop (G : Gud g X W sc fb N L) {an : Bool} {a b : Expr} {rest : List Expr} {fa fr : Ss.Env → M D} {kd : Kd} {pos : Pos} (hk : kd = .full ∨ kd = .shal) (ha : PE X a (tI g B W kd fa)) (hr : PE X (.BoolOp (bopA an) (b :: rest) pos) (tI g B W kd fr)) :
    PE X (.BoolOp (bopA an) (a :: b :: rest) pos) (tI g B W kd fun ρ => bnd (fa ρ) fun x => bnd (lft (tru x)) fun k => if k == an then fr ρ else ret x) := by
  obtain rfl := G.gd
  have key : ∀ σ H Q, tI (gdOf X) B W kd (fun ρ => bnd (fa ρ) fun x => bnd (lft (tru x)) fun k => if k == an then fr ρ else ret x) σ H Q →
      tI (gdOf X) B W kd fa σ H (fun x H1 => ∃ k, TruV X.K x H1 k ∧ if (k == an) = true then tI (gdOf X) B W kd fr σ H1 Q else Q x H1) := fun σ H Q q => by
    obtain ⟨ρ, F, T, n, R, q⟩ := q
    refine ⟨ρ, F, T, n, R, q.bnd.mono fun d n1 H1 F1 e1 t1 q1 v p1 => ?_⟩
    have R1 := R.step e1 t1
    obtain ⟨k, ek, q2, _⟩ := q1.bnd.lft t1
    refine ⟨k, truV_of (g := gdOf X) (p1.shal fun a z => ⟨_, R.tw a z⟩) ek, ?_⟩
    cases hb : k == an with
    | true =>
      rw [hb] at q2
      simp only [if_true] at q2 ⊢
      refine ⟨ρ, F1, T, n1, R1, q2.mono fun d n' H' F' e t k v p => k v ?_⟩
      rcases hk with rfl | rfl
      · exact p
      · exact p
    | false =>
      rw [hb] at q2
      simp only [Bool.false_eq_true, if_false] at q2 ⊢
      exact q2 H1 F1 Ev.refl t1 v p1
  cases an with
  | true =>
    refine pe_wk (pe_andT ha hr) fun σ H Q q => ?_
    obtain ⟨ρ, F, T, n, R, q⟩ := key σ H Q q
    refine ⟨ρ, F, T, n, R, q.mono fun d n1 H1 F1 e1 t1 q1 v p1 => ?_⟩
    obtain ⟨k, h1, h2⟩ := q1 v p1
    refine ⟨k, h1, ?_⟩
    cases k <;> exact h2
  | false =>
    refine pe_wk (pe_orT ha hr) fun σ H Q q => ?_
    obtain ⟨ρ, F, T, n, R, q⟩ := key σ H Q q
    refine ⟨ρ, F, T, n, R, q.mono fun d n1 H1 F1 e1 t1 q1 v p1 => ?_⟩
    obtain ⟨k, h1, h2⟩ := q1 v p1
    refine ⟨k, h1, ?_⟩
    cases k <;> exact h2
/-- .. as a test -/
theorem sw_bop1 {an : Bool} {e : Expr} {f : Ss.Env → M D} {pos : Pos} (h : PT X e (tT g B W fun ρ => truM (f ρ))) : PW X (.BoolOp (bopA an) [e] pos) (tT g B W fun ρ => truM (f ρ)) := by
  cases an
  · exact pw_or1 h
  · exact pw_and1 h
theorem sw_bop {an : Bool} {a b : Expr} {rest : List Expr} {fa fr : Ss.Env → M D} {pos : Pos} (ha : PT X a (tT g B W fun ρ => truM (fa ρ))) (hr : PW X (.BoolOp (bopA an) (b :: rest) pos) (tT g B W fun ρ => truM (fr ρ))) :
    PW X (.BoolOp (bopA an) (a :: b :: rest) pos) (tT g B W fun ρ => truM (bnd (fa ρ) fun x => bnd (lft (tru x)) fun k => if k == an then fr ρ else ret x)) := by
  have key : ∀ σ H Q, tT g B W (fun ρ => truM (bnd (fa ρ) fun x => bnd (lft (tru x)) fun k => if k == an then fr ρ else ret x)) σ H Q →
      tT g B W (fun ρ => truM (fa ρ)) σ H (fun k H1 => if (k == an) = true then tT g B W (fun ρ => truM (fr ρ)) σ H1 Q else Q k H1) := fun σ H Q q => by
    obtain ⟨ρ, F, T, n, R, q⟩ := q
    dsimp only at q
    rw [tru_bop] at q
    refine ⟨ρ, F, T, n, R, q.bnd.mono fun k n1 H1 F1 e1 t1 q1 => ?_⟩
    have R1 := R.step e1 t1
    by_cases hb : (k == an) = true
    · rw [if_pos hb] at q1
      show if (k == an) = true then _ else _
      rw [if_pos hb]
      exact ⟨ρ, F1, T, n1, R1, q1⟩
    · rw [if_neg hb] at q1
      show if (k == an) = true then _ else _
      rw [if_neg hb]
      exact q1 H1 F1 Ev.refl t1
  cases an with
  | true =>
    refine pw_wk (pw_and ha hr) fun σ H Q q => ?_
    obtain ⟨ρ, F, T, n, R, q⟩ := key σ H Q q
    refine ⟨ρ, F, T, n, R, q.mono fun k n1 H1 F1 e1 t1 q1 => ?_⟩
    cases k <;> exact q1
  | false =>
    refine pw_wk (pw_or ha hr) fun σ H Q q => ?_
    obtain ⟨ρ, F, T, n, R, q⟩ := key σ H Q q
    refine ⟨ρ, F, T, n, R, q.mono fun k n1 H1 F1 e1 t1 q1 => ?_⟩
    cases k <;> exact q1
end
end Ss
/-! Ss, part F: places, cuts, calls, what is walked, comprehensions. -/
namespace Ss
open PySem PySem.Spec PyProof.Rows L2
section
variable {g : Gd} {X : Cx} {W : WX} {sc : Scope} {fb : Str → Bool} {N : List Str} {L : Nat} {B : Bs}

/-! ### places, cuts -/
def ixB : Expr → Bool
  | .Name _ _ => true
  | .Constant _ _ _ => true
  | .BinOp _ _ _ _ => true
  | .UnaryOp _ _ _ => true
  | .Call _ _ _ _ => true
  | .Subscript _ _ _ => true
  | .IfExp _ _ _ _ => true
  | _ => false
theorem ixB_ok {b : Expr} (h : ixB b = true) : PlainIx b := by
  cases b <;> first | exact fun _ _ => rfl | (simp only [ixB, Bool.false_eq_true] at h)
theorem se_idx (G : Gud g X W sc fb N L) {a b : Expr} {fa fb : Ss.Env → M D} {pos : Pos} (ha : PE X a (tI g B W .shal fa)) (hb : PE X b (tI g B W .shal fb)) (hx : ixB b = true) :
    PE X (.Subscript a b pos) (tI g B W .full fun ρ => bnd (fa ρ) fun x => bnd (fb ρ) fun y => lft (idxD x y)) := by
  obtain rfl := G.gd
  refine pe_wk (pe_ix ix_rule ha hb (ixB_ok hx)) fun σ H Q q => ?_
  obtain ⟨ρ, F, T, n, R, q⟩ := q
  refine ⟨ρ, F, T, n, R, q.bnd.mono fun d n1 H1 F1 e1 t1 q1 v p1 => ?_⟩
  have R1 := R.step e1 t1
  refine ⟨ρ, F1, T, n1, R1, q1.bnd.mono fun e n2 H2 F2 e2 t2 q2 u p2 => ?_⟩
  obtain ⟨z, ez, k, _⟩ := q2.lft t2
  exact ⟨F2, T, d, e, z, RpS.ev R1.tw R1.nf e2 p1, p2, ez, fun w p3 => k w (pf p3)⟩
def tO (g : Gd) (B : Bs) (W : WX) (f : Ss.Env → M (Option Int)) : TO := fun σ H Q => ∃ ρ F T n, Rel g B ρ σ H F T n ∧ Fin g W σ T H F (f ρ n) fun o _ H' _ => Q o H'
theorem po_wk {e : Option Expr} {t t' : TO} (h : PO X e t') (k : ∀ σ H Q, t σ H Q → t' σ H Q) : PO X e t := ⟨fun pins s σ H Q I q => h.run pins s σ H Q I (k σ H Q q)⟩
theorem so_none : PO X none (tO g B W fun _ => ret none) := by
  refine po_wk po_none fun σ H Q q => ?_
  obtain ⟨ρ, F, T, n, R, q⟩ := q
  exact q H F Ev.refl R.tw
theorem so_some {e : Expr} {f : Ss.Env → M D} (h : PE X e (tI g B W .shal f)) : PO X (some e) (tO g B W fun ρ => bnd (f ρ) fun x => lft (part x)) := by
  refine po_wk (po_some h) fun σ H Q q => ?_
  obtain ⟨ρ, F, T, n, R, q⟩ := q
  refine ⟨ρ, F, T, n, R, q.bnd.mono fun d n1 H1 F1 e1 t1 q1 v p1 => ?_⟩
  obtain ⟨z, ez, k, _⟩ := q1.lft t1
  cases d <;> simp only [part, reduceCtorEq] at ez
  cases ez
  exact ⟨_, RpS.int p1, k⟩
theorem se_slc (G : Gud g X W sc fb N L) {a : Expr} {lo hi : Option Expr} {fa : Ss.Env → M D} {fl fh : Ss.Env → M (Option Int)} {pos p2 : Pos} (ha : PE X a (tI g B W .shal fa)) (hl : PO X lo (tO g B W fl)) (hh : PO X hi (tO g B W fh)) :
    PE X (.Subscript a (.Slice lo hi none p2) pos) (tI g B W .full fun ρ => bnd (fa ρ) fun x => bnd (fl ρ) fun l => bnd (fh ρ) fun h => lft (cutD x l h)) := by
  obtain rfl := G.gd
  refine pe_wk (pe_slice sl_rule ha hl hh) fun σ H Q q => ?_
  obtain ⟨ρ, F, T, n, R, q⟩ := q
  refine ⟨ρ, F, T, n, R, q.bnd.mono fun d n1 H1 F1 e1 t1 q1 v p1 => ?_⟩
  have R1 := R.step e1 t1
  refine ⟨ρ, F1, T, n1, R1, q1.bnd.mono fun l n2 H2 F2 e2 t2 q2 => ?_⟩
  have R2 := R1.step e2 t2
  refine ⟨ρ, F2, T, n2, R2, q2.bnd.mono fun h n3 H3 F3 e3 t3 q3 => ?_⟩
  have R3 := R2.step e3 t3
  obtain ⟨z, ez, _, k⟩ := q3.lft t3
  exact ⟨F3, T, n3, d, z, t3, R3.nf, RpS.ev R2.tw R2.nf e3 (RpS.ev R1.tw R1.nf e2 p1), ez, fun w H' F' e4 t4 p4 => k H' F' e4 t4 w p4⟩

/-! ### calls of built-ins -/
def nsts (es : List Expr) : Bool := es.all nst
theorem stars_of : ∀ {es : List Expr} {env : PySem.Env} {pos : Pos}, nsts es = true → (backTo pos (starEach es env)).any (·.1) = false
  | [], _, _, _ => rfl
  | e :: es, env, pos, h => by
    simp only [nsts, List.all_cons, Bool.and_eq_true] at h
    rw [star_of h.1]
    have ih := stars_of (env := env) (pos := pos) (show nsts es = true from h.2)
    simp only [backTo, List.map_cons, List.any_cons, Bool.false_or] at ih ⊢
    exact ih
def Bi.name : Bi → Str
  | .len => "len" | .all => "all" | .max2 => "max" | .int => "int" | .list => "list" | .tuple => "tuple"
def Bi.kd : Bi → Kd
  | .list => .new
  | _ => .full
theorem bi_read {b : Bi} {fs : Ss.Env → M (List D)} {σ : L2.St} {H : Hp} {Q : VK} (q : tI g B W b.kd (fun ρ => bnd (fs ρ) fun ds => lft (b.f ds)) σ H Q) : tIs g B W .shal fs σ H (fun vs H1 => rBi g b.kd b.f vs H1 Q) := by
  obtain ⟨ρ, F, T, n, R, q⟩ := q
  refine ⟨ρ, F, T, n, R, q.bnd.mono fun ds n1 H1 F1 e1 t1 q1 vs p1 => ?_⟩
  have R1 := R.step e1 t1
  obtain ⟨z, ez, _, k⟩ := q1.lft t1
  refine ⟨F1, T, n1, ds, z, t1, ⟨R1.nf, R1.dm⟩, p1, ez, fun w H' F' e2 t2 p2 => k H' F' e2 t2 w ?_⟩
  cases hb : b.kd with
  | full => rw [hb] at p2; exact p2
  | shal => rw [hb] at p2; exact p2
  | new =>
    rw [hb] at p2
    obtain ⟨a, us, xs, h1, h2, h3, h4⟩ := p2
    exact ⟨a, us, xs, h1, h2, none_back e1 t1 h3, h4⟩
theorem se_bi (G : Gud g X W sc fb N L) {b : Bi} {e : Expr} {es : List Expr} {fs : Ss.Env → M (List D)} {p pos : Pos} (h : PA X (e :: es) (tIs g B W .shal fs)) (hn : nsts (e :: es) = true) (hg : glB sc b.name = true) :
    PE X (.Call (.Name b.name p) (e :: es) [] pos) (tI g B W b.kd fun ρ => bnd (fs ρ) fun ds => lft (b.f ds)) := by
  obtain rfl := G.gd
  obtain ⟨g1, g2⟩ := G.gl hg
  have hn1 : nst e = true := by simp only [nsts, List.all_cons, Bool.and_eq_true] at hn; exact hn.1
  have hn2 : nsts es = true := by simp only [nsts, List.all_cons, Bool.and_eq_true] at hn; exact hn.2
  cases b with
  | len => exact pe_wk (pe_callB len_rule g1 (G.bn (by decide +kernel)) boot_len h (by decide +kernel) g2 (star_of hn1) (stars_of hn2)) fun σ H Q q => bi_read q
  | all => exact pe_wk (pe_callB (all_rule G.calm) g1 (G.bn (by decide +kernel)) (by decide +kernel) h (by decide +kernel) g2 (star_of hn1) (stars_of hn2)) fun σ H Q q => bi_read q
  | max2 => exact pe_wk (pe_callB (max2_rule G.calm) g1 (G.bn (by decide +kernel)) (by decide +kernel) h (by decide +kernel) g2 (star_of hn1) (stars_of hn2)) fun σ H Q q => bi_read q
  | int => exact pe_wk (pe_callTy int_rule g1 (G.bn (by decide +kernel)) (by decide +kernel) h (by decide +kernel) g2 (star_of hn1) (stars_of hn2)) fun σ H Q q => bi_read q
  | list => exact pe_wk (pe_callTy list_rule g1 (G.bn (by decide +kernel)) (by decide +kernel) h (by decide +kernel) g2 (star_of hn1) (stars_of hn2)) fun σ H Q q => bi_read q
  | tuple => exact pe_wk (pe_callTy tuple_rule g1 (G.bn (by decide +kernel)) (by decide +kernel) h (by decide +kernel) g2 (star_of hn1) (stars_of hn2)) fun σ H Q q => bi_read q
/-- len(town) -/
theorem se_tlen (G : Gud g X W sc fb N L) {i : Nat} {x : Str} {p p2 pos : Pos} (h : nmB sc N i x = true) (hg : glB sc "len" = true) :
    PE X (.Call (.Name "len" p) [.Name x p2] [] pos) (tI g B W .full fun ρ => bnd (lft (getD ρ i)) fun x => match x with
    | .town => fun n => .ok (.int n) n
    | _ => bad) := by
  obtain rfl := G.gd
  obtain ⟨g1, g2⟩ := G.gl hg
  obtain ⟨h1, h2, h3, h4⟩ := G.vis h
  refine pe_wk (pe_callB call_len g1 (G.bn (by decide +kernel)) boot_len (pa_cons (pe_var h1 h2 h3 h4) pa_nil rfl) (by decide +kernel) g2 rfl rfl) fun σ H Q q => ?_
  obtain ⟨ρ, F, T, n, R, q⟩ := q
  obtain ⟨d, e, k, _⟩ := q.bnd.lft R.tw
  obtain ⟨v, e1, e2⟩ := R.dat e
  cases d with
  | town =>
    simp only [Rp] at e2
    obtain ⟨a, rfl, ta⟩ := e2
    refine ⟨_, e1, _, n, rfl, .inl ⟨_, SqL.of (R.tw a ta), by rw [List.length_replicate]⟩, k H F Ev.refl R.tw _ (pf rp_int)⟩
  | _ => exact False.elim k

/-! ### isinstance -/
def Ty.name : Ty → Str
  | .int => "int" | .bool => "bool" | .str => "str" | .tuple => "tuple" | .list => "list"
def Ty.key : Ty → String
  | .int => "int" | .bool => "bool" | .str => "str" | .tuple => "tuple" | .list => "list"
theorem Ty.boot (t : Ty) : bootBuiltins t.name = some (.type t.key) := by
  cases t <;> decide +kernel
theorem ty_read {T : Option Addr} {H : Hp} {F : FS} {d : D} {v : V} {t : Ty} {b : Bool} (h : RpS g T H F d v) (e : t.f d = some b) : ∃ u, TyX g.K H v u ∧ PySem.W.kitOne g.K u (.type t.key) = some b := by
  cases d with
  | non =>
    rw [h.non]
    refine ⟨_, .base .non, ?_⟩
    simp only [Ty.f] at e
    cases e
    cases t <;> exact kit_ty (by decide +kernel)
  | bl i =>
    rw [h.bl]
    refine ⟨_, .base (.bl i), ?_⟩
    simp only [Ty.f] at e
    cases e
    cases t <;> exact kit_ty (by decide +kernel)
  | int i =>
    rw [h.int]
    refine ⟨_, .base (.int i), ?_⟩
    simp only [Ty.f] at e
    cases e
    cases t <;> exact kit_ty (by decide +kernel)
  | str i =>
    rw [h.str]
    refine ⟨_, .base (.str i), ?_⟩
    simp only [Ty.f] at e
    cases e
    cases t <;> exact kit_ty (by decide +kernel)
  | lst xs =>
    obtain ⟨a, vs, rfl, h1, _⟩ := h.lst
    refine ⟨_, .base (.lst h1), ?_⟩
    simp only [Ty.f] at e
    cases e
    cases t <;> exact kit_ty (by decide +kernel)
  | tup xs =>
    obtain ⟨a, vs, rfl, h1, _⟩ := h.tup
    have k : PySem.W.kitOne g.K (.type "tuple") (.type t.key) = some b := by
      simp only [Ty.f] at e
      cases e
      cases t <;> exact kit_ty (by decide +kernel)
    rcases h1 with (h1 | ⟨o, h1⟩) | ⟨o, its, n, h1, h2, _⟩
    · exact ⟨_, .base (.tup h1), k⟩
    · exact ⟨_, .fTuple h1, k⟩
    · exact ⟨_, .kTuple h1 h2, k⟩
  | dic _ => cases e
  | fn _ => cases e
  | exn _ => cases e
  | town => cases e
  | scr _ => cases e
theorem se_isi (G : Gud g X W sc fb N L) {t : Ty} {a : Expr} {fa : Ss.Env → M D} {p p2 pos : Pos} (ha : PE X a (tI g B W .shal fa)) (hn : nst a = true) (hg : glB sc "isinstance" = true) (ht : glB sc t.name = true) :
    PE X (.Call (.Name "isinstance" p) [a, .Name t.name p2] [] pos) (tI g B W .full fun ρ => bnd (fa ρ) fun x => lft ((t.f x).map D.bl)) := by
  obtain rfl := G.gd
  obtain ⟨g1, g2⟩ := G.gl hg
  obtain ⟨g3, g4⟩ := G.gl ht
  have hm : X.mg t.name = none := by cases t <;> exact G.bn (by decide +kernel)
  have hne : t.name ≠ "__name__" := by cases t <;> decide +kernel
  have pt : PE X (.Name t.name p2) (tC (.ty t.key)) := pe_bltn g3 hm t.boot rfl hne g4
  refine pe_wk (pe_callB call_isi g1 (G.bn (by decide +kernel)) (by decide +kernel) (pa_cons ha (pa_cons pt pa_nil rfl) (star_of hn)) (by decide +kernel) g2 (star_of hn) rfl) fun σ H Q q => ?_
  obtain ⟨ρ, F, T, n, R, q⟩ := q
  refine ⟨ρ, F, T, n, R, q.bnd.mono fun d n1 H1 F1 e1 t1 q1 v p1 => ?_⟩
  obtain ⟨z, ez, k, _⟩ := q1.lft t1
  cases eb : t.f d with
  | none => rw [eb] at ez; cases ez
  | some b =>
    rw [eb] at ez
    cases ez
    obtain ⟨u, h1, h2⟩ := ty_read (g := gdOf X) p1 eb
    exact ⟨v, _, u, _, b, rfl, .ty _, h1, h2, k _ (pf rp_bl)⟩

/-! ### calls of defs -/
theorem sp_read {f : Fn} {T : Option Addr} {H1 H0 : Hp} {F1 : FS} {n1 : Nat} {ds : List D} {vs : List V} {σ : L2.St} {Q : VK} (t1 : Tw T H1 n1) (nf : ∀ a, T = some a → ¬ F1 a) (dm : ∀ a, F1 a → ∃ o, H1 a = some o) (p1 : Rps g H1 F1 T ds vs)
    (q1 : Fin g W σ T H1 F1 ((if ds.length = f.ar then f.sem ds else bad) n1) fun d _ H' F' => ∀ v, Post g T H0 H' F' .full d v → Q v H') : spOf g f vs H1 Q (WE W σ) := by
  by_cases hl : ds.length = f.ar
  · rw [if_pos hl] at q1
    refine ⟨F1, T, n1, ds, t1, nf, dm, p1, hl, ?_⟩
    cases e : f.sem ds n1 with
    | ok d n' => rw [e] at q1; exact fun H' F' e t v p => q1 H' F' e t v p
    | exc c n' => rw [e] at q1; exact q1
    | bad => rw [e] at q1; exact q1
  · rw [if_neg hl] at q1; exact False.elim q1
theorem se_call (G : Gud g X W sc fb N L) {f : Fn} (hf : FnG g L f) {e : Expr} {es : List Expr} {fs : Ss.Env → M (List D)} {p pos : Pos} (h : PA X (e :: es) (tIs g B W .full fs)) (hn : nsts (e :: es) = true) (hg : glB sc f.name = true) :
    PE X (.Call (.Name f.name p) (e :: es) [] pos) (tI g B W .full fun ρ => bnd (fs ρ) fun ds => if ds.length = f.ar then f.sem ds else bad) := by
  obtain rfl := G.gd
  obtain ⟨g1, g2⟩ := G.gl hg
  obtain ⟨a, fd, ps, m, kp, b, _, ok⟩ := hf.ex
  have hn1 : nst e = true := by simp only [nsts, List.all_cons, Bool.and_eq_true] at hn; exact hn.1
  have hn2 : nsts es = true := by simp only [nsts, List.all_cons, Bool.and_eq_true] at hn; exact hn.2
  refine pe_wk (pe_callS (E := WE W) ok G.room g1 m kp b (fun σ => passAt G.tk σ) h g2 (star_of hn1) (stars_of hn2)) fun σ H Q q => ?_
  obtain ⟨ρ, F, T, n, R, q⟩ := q
  refine ⟨ρ, F, T, n, R, q.bnd.mono fun ds n1 H1 F1 e1 t1 q1 vs p1 => ?_⟩
  have R1 := R.step e1 t1
  exact sp_read t1 R1.nf R1.dm p1 q1
theorem se_callv (G : Gud g X W sc fb N L) {i : Nat} {x : Str} {gs : List Fn} (hf : ∀ f ∈ gs, FnG g L f) {e : Expr} {es : List Expr} {fs : Ss.Env → M (List D)} {p pos : Pos} (h : PA X (e :: es) (tIs g B W .full fs)) (hn : nsts (e :: es) = true) (hx : nmB sc N i x = true) :
    PE X (.Call (.Name x p) (e :: es) [] pos) (tI g B W .full fun ρ => match getD ρ i with
    | some (.fn x) => (match gs.find? fun g => g.name == x with
      | some g => bnd (fs ρ) fun ds => if ds.length = g.ar then g.sem ds else bad
      | none => bad)
    | _ => bad) := by
  obtain rfl := G.gd
  obtain ⟨h1, h2, h3, h4⟩ := G.vis hx
  have hn1 : nst e = true := by simp only [nsts, List.all_cons, Bool.and_eq_true] at hn; exact hn.1
  have hn2 : nsts es = true := by simp only [nsts, List.all_cons, Bool.and_eq_true] at hn; exact hn.2
  refine ⟨fun pins s σ H Q I q => ?_⟩
  obtain ⟨ρ, F, T, n, R, q⟩ := q
  dsimp only at q
  cases ey : getD ρ i with
  | none => rw [ey] at q; exact False.elim q
  | some d =>
    rw [ey] at q
    cases d with
    | fn y =>
      dsimp only at q
      cases ef : gs.find? fun g => g.name == y with
      | none => rw [ef] at q; exact False.elim q
      | some f =>
        rw [ef] at q
        obtain ⟨v, e1, e2⟩ := R.dat ey
        simp only [Rp] at e2
        obtain ⟨a, rfl, ma⟩ := e2
        have hm := List.mem_of_find?_eq_some ef
        have hnm : f.name = y := by have := List.find?_some ef; exact eq_of_beq this
        obtain ⟨a', fd, ps, m, kp, b, _, ok⟩ := (hf f hm).ex
        rw [hnm, ma] at m
        cases m
        refine wpAny_Call_Name_kw (thn ((pe_var (pos := p) h1 h2 h3 h4).run pins s σ H (fun v H1 => v = .ref a ∧ H1 = H) I ⟨.ref a, e1, rfl, rfl⟩) fun u s1 ⟨v, H1, I1, r1, q1⟩ => ?_)
        obtain ⟨rfl, rfl⟩ := q1
        cases r1
        have ht : tIs (gdOf X) B W .full fs σ H1 (fun vs H2 => spOf (gdOf X) f vs H2 Q (WE W σ)) := by
          refine ⟨ρ, F, T, n, R, q.bnd.mono fun ds n1 H2 F1 e1 t1 q1 vs p1 => ?_⟩
          have R1 := R.step e1 t1
          exact sp_read t1 R1.nf R1.dm p1 q1
        refine PySem.W.callWith_K (h₀ := X.base) I.ok.mod.kin kp (thn (h.run pos pins s1 σ _ _ I1 ht) fun us s2 ⟨vs, H2, I2, r, q⟩ => ⟨I2.kIn, ?_⟩) (star_of hn1) (stars_of hn2)
        exact run_fnS (E := WE W) ok G.room b (passAt G.tk σ) I2 r q
    | _ => exact False.elim q

/-! ### joining texts -/
def baseB : Expr → Bool
  | .Call _ [] _ _ => false
  | _ => true
theorem baseB_ok {o : Expr} {x : Str} {env : PySem.Env} (h : baseB o = true) : attributeBase o x env (eval o env) = eval o env := by
  unfold attributeBase
  split
  · simp only [baseB, Bool.false_eq_true] at h
  · rfl
theorem se_join {z a : Expr} {fz fa : Ss.Env → M D} {apos pos : Pos} (hz : PE X z (tI g B W .shal fz)) (ha : PE X a (tI g B W .shal fa)) (hn : nst a = true) (hb : baseB z = true) (hl : (apos.endLine == pos.line) = true) :
    PE X (.Call (.Attribute z "join" apos) [a] [] pos) (tI g B W .full fun ρ => bnd (fz ρ) fun s => match s with
    | .str z => bnd (fa ρ) fun x => (match x with
      | .lst ds => lft (joinS z ds)
      | _ => bad)
    | _ => bad) := by
  refine pe_wk (pe_join hz ha (by rw [star_of hn]; rfl) (baseB_ok hb) hl) fun σ H Q q => ?_
  obtain ⟨ρ, F, T, n, R, q⟩ := q
  refine ⟨ρ, F, T, n, R, q.bnd.mono fun d n1 H1 F1 e1 t1 q1 v p1 => ?_⟩
  have R1 := R.step e1 t1
  cases d with
  | str z =>
    refine ⟨⟨z, RpS.str p1⟩, ρ, F1, T, n1, R1, q1.bnd.mono fun x n2 H2 F2 e2 t2 q2 w p2 => ?_⟩
    cases x with
    | lst ds =>
      obtain ⟨y, ey, k, _⟩ := q2.lft t2
      obtain ⟨a, vs, rfl, h1, _, h2⟩ := RpS.lst p2
      unfold joinS at ey
      cases ex : txts ds with
      | none => rw [ex] at ey; cases ey
      | some xs =>
        rw [ex] at ey
        have ey : (if (xs.map (·.length)).sum + xs.length * z.length ≤ 16777216 then some (D.str (Txt.join z xs)) else none) = some y := ey
        split at ey
        · rename_i hc
          cases ey
          rw [txts_rps h2 ex] at h1
          exact ⟨z, a, xs, RpS.str p1, rfl, .inl (SqL.of h1), hc, k _ (pf rp_str)⟩
        · cases ey
    | _ => exact False.elim q2
  | _ => exact False.elim q1

/-! ### list(range(..)) -/
theorem rngL_rps {T : Option Addr} {H : Hp} {F : FS} (lo hi : Int) : Rps g H F T (rngL lo hi) (rgV lo hi) := by
  unfold rngL rgV
  induction (List.range (hi - lo).toNat) with
  | nil => exact .nil
  | cons k r ih => exact .cons rp_int ih
theorem rngL_len (lo hi : Int) : (rngL lo hi).length = (hi - lo).toNat := by unfold rngL; rw [List.length_map, List.length_range]
theorem se_lrng1 (G : Gud g X W sc fb N L) {a : Expr} {fa : Ss.Env → M D} {p p2 q pos : Pos} (ha : PE X a (tI g B W .shal fa)) (hn : nst a = true) (hg : glB sc "list" = true) (hr : glB sc "range" = true) :
    PE X (.Call (.Name "list" p) [.Call (.Name "range" p2) [a] [] q] [] pos) (tI g B W .new fun ρ => bnd (bnd (fa ρ) fun d => bnd (ret []) fun ds => ret (d :: ds)) fun ds => lft ((rngD ds).map D.lst)) := by
  obtain rfl := G.gd
  refine pe_wk (pe_listRg G.calm (G.gl hg).1 (G.bn (by decide +kernel)) (prg_1 (G.gl hr).1 (G.bn (by decide +kernel)) ha (star_of hn)) rfl) fun σ H Q q => ?_
  obtain ⟨ρ, F, T, n, R, q⟩ := q
  refine ⟨ρ, F, T, n, R, q.bnd.bnd.mono fun d n1 H1 F1 e1 t1 q1 v p1 => ?_⟩
  have R1 := R.step e1 t1
  obtain ⟨z, ez, _, k⟩ := (q1 H1 F1 Ev.refl t1).lft t1
  cases d <;> simp only [rngD, Option.map_none, reduceCtorEq] at ez
  rename_i j
  split at ez
  · rename_i hc
    cases ez
    refine ⟨j, RpS.int p1, ⟨by omega, by omega, by omega, by omega, by omega⟩, fun r hr => k _ _ (Ev.alloc hr) (t1.alloc hr) _ (newPost R1.dm hr H (none_back e1 t1 hr) ?_ (rngL_rps 0 j))⟩
    rw [rgV_length]
    have : sizeLine = 16777216 := sizeLine_eq
    omega
  · cases ez

/-! ### targets -/
def locF (sc : Scope) (fb : Str → Bool) (x : Str) : Bool := match sc.names.lookup x with
  | some .local => true
  | some .cell => fb x
  | _ => false
def tgB (sc : Scope) (fb : Str → Bool) (N : List Str) (i : Nat) (x : Str) : Bool := (N[i]? == some x) && locF sc fb x
theorem Gud.loc (G : Gud g X W sc fb N L) {i : Nat} {x : Str} (h : tgB sc fb N i x = true) : X.N[i]? = some x ∧ Loc X.env.scope x ∧ (X.fn x = true ∨ X.env.scope.names.lookup x = some .local) := by
  unfold tgB at h
  simp only [Bool.and_eq_true, beq_iff_eq] at h
  rw [G.nm, G.es]
  have hl := h.2
  unfold locF at hl
  split at hl
  · exact ⟨h.1, .inl ‹_›, .inr ‹_›⟩
  · exact ⟨h.1, .inr ‹_›, .inl (G.fc x hl)⟩
  · cases hl
def gTs : List Nat → TGs
  | [] => gNil
  | i :: is => gCons (gName i) (gTs is)
def gT (K : PySem.W.Frag) : Tg → TG
  | .one i => gName i
  | .many is => gTup K is.length (gTs is)
def chkTs (sc : Scope) (fb : Str → Bool) (N : List Str) : List Nat → List Expr → Bool
  | [], [] => true
  | i :: is, .Name x _ :: es => tgB sc fb N i x && chkTs sc fb N is es
  | _, _ => false
def chkT (sc : Scope) (fb : Str → Bool) (N : List Str) : Tg → Expr → Bool
  | .one i, .Name x _ => tgB sc fb N i x
  | .many is, .Tuple es _ _ => chkTs sc fb N is es
  | _, _ => false
theorem sgs (G : Gud g X W sc fb N L) : ∀ {is : List Nat} {es : List Expr}, chkTs sc fb N is es = true → PGs X es (gTs is) ∧ (assignEach es X.env).length = is.length ∧ (assignEach es X.env).findIdx? (·.1) = none
  | [], [], _ => ⟨pgs_nil, rfl, rfl⟩
  | i :: is, e :: es, h => by
    cases e <;> simp only [chkTs, Bool.and_eq_true, Bool.false_eq_true] at h
    rename_i x pos
    obtain ⟨h1, h2, h3⟩ := sgs G h.2
    obtain ⟨l1, l2, l3⟩ := G.loc h.1
    refine ⟨pgs_cons (pg_name (by rw [G.nm]; exact G.nd) l1 l2 l3) h1 rfl, ?_, ?_⟩
    · show (assignEach es X.env).length + 1 = is.length + 1
      rw [h2]
    · show List.findIdx? (·.1) ((false, _) :: assignEach es X.env) = none
      rw [List.findIdx?_cons]
      simp [h3]
  | [], _ :: _, h => by simp [chkTs] at h
  | _ :: _, [], h => by simp [chkTs] at h
theorem sg (G : Gud g X W sc fb N L) {tg : Tg} {e : Expr} (h : chkT sc fb N tg e = true) : PG X e (gT g.K tg) := by
  obtain rfl := G.gd
  cases tg with
  | one i =>
    cases e <;> simp only [chkT, Bool.false_eq_true] at h
    obtain ⟨l1, l2, l3⟩ := G.loc h
    exact pg_name (by rw [G.nm]; exact G.nd) l1 l2 l3
  | many is =>
    cases e <;> simp only [chkT, Bool.false_eq_true] at h
    obtain ⟨h1, h2, h3⟩ := sgs G h
    exact pg_tup G.calm h1 h2 h3
def Tg.sl : Tg → List Nat
  | .one i => [i]
  | .many is => is
theorem wipe_set {i : Nat} {o : Option V} : ∀ {vs : List Nat} {σ : L2.St}, i ∈ vs → L2.wipe (σ.set i o) vs = L2.wipe σ vs
  | v :: vs, σ, h => by
    simp only [L2.wipe]
    by_cases hi : i ∈ vs
    · rw [wipe_set hi]
    · have e : v = i := by
        rcases List.mem_cons.mp h with z | z
        · exact z.symm
        · exact absurd z hi
      subst e
      have out : ∀ (ws : List Nat) (τ : L2.St), v ∉ ws → L2.wipe (τ.set v o) ws = (L2.wipe τ ws).set v o := by
        intro ws
        induction ws with
        | nil => intro τ _; rfl
        | cons w ws ih =>
          intro τ hw
          simp only [List.mem_cons, not_or] at hw
          simp only [L2.wipe]
          rw [ih τ hw.2, List.set_comm _ _ hw.1]
      rw [out vs σ hi, List.set_set]
theorem gTs_read {T : Option Addr} {H : Hp} {F : FS} {n : Nat} : ∀ {is : List Nat} {ds : List D} {vs : List V} {ρ ρ' : Ss.Env} {σ : L2.St} {Q : L2.St → Hp → Prop}, puts ρ is ds = some ρ' → Rps g H F T ds vs → Rel g B ρ σ H F T n →
    (∀ σ', Rel g B ρ' σ' H F T n → (∀ ws, (∀ i ∈ is, i ∈ ws) → L2.wipe σ' ws = L2.wipe σ ws) → Q σ' H) → gTs is vs σ H Q
  | [], [], vs, ρ, ρ', σ, Q, e, r, R, k => by
    simp only [puts] at e
    cases e
    simp only [Rps] at r
    exact ⟨r, k σ R fun _ _ => rfl⟩
  | i :: is, d :: ds, vs, ρ, ρ', σ, Q, e, r, R, k => by
    simp only [puts] at e
    simp only [Rps] at r
    obtain ⟨v, r', rfl, h1, h2⟩ := r
    refine ⟨v, r', rfl, ?_⟩
    refine gTs_read e h2 (R.put i h1) fun σ' R' w => k σ' R' fun ws hw => ?_
    rw [w ws fun j hj => hw j (List.mem_cons_of_mem _ hj), wipe_set (hw i List.mem_cons_self)]
  | [], _ :: _, _, _, _, _, _, e, _, _, _ => by simp [puts] at e
  | _ :: _, [], _, _, _, _, _, e, _, _, _ => by simp [puts] at e
theorem puts_len : ∀ {is : List Nat} {ds : List D} {ρ ρ' : Ss.Env}, puts ρ is ds = some ρ' → ds.length = is.length
  | [], [], _, _, _ => rfl
  | i :: is, d :: ds, _, _, e => by
    simp only [puts] at e
    simp [puts_len e]
  | [], _ :: _, _, _, e => by simp [puts] at e
  | _ :: _, [], _, _, e => by simp [puts] at e
theorem gT_read {T : Option Addr} {H : Hp} {F : FS} {n : Nat} {tg : Tg} {d : D} {v : V} {ρ ρ' : Ss.Env} {σ : L2.St} {Q : L2.St → Hp → Prop} (e : tg.put d ρ = some ρ') (r : Rp g H F T d v) (R : Rel g B ρ σ H F T n)
    (k : ∀ σ', Rel g B ρ' σ' H F T n → (∀ ws, (∀ i ∈ tg.sl, i ∈ ws) → L2.wipe σ' ws = L2.wipe σ ws) → Q σ' H) : gT g.K tg v σ H Q := by
  cases tg with
  | one i =>
    simp only [Tg.put] at e
    cases e
    exact k _ (R.put i r) fun ws hw => wipe_set (hw i (by simp [Tg.sl]))
  | many is =>
    cases d <;> simp only [Tg.put, reduceCtorEq] at e
    simp only [Rp] at r
    obtain ⟨a, vs, rfl, h1, h2, h3⟩ := r
    exact ⟨a, vs, rfl, h1, by rw [h3.len]; exact puts_len e, gTs_read e h3 R k⟩

/-! ### what is walked -/
/-- J gives ds one by one, as long as frozen things (st) stay, or all that was (not st) -/
def Wks (g : Gd) (T : Option Addr) (st : Bool) (J : It) (H : Hp) (F : FS) (ds : List D) : Prop := ∃ (vs : List V) (P : Hp → Prop), Walk J ds.length P (YAt vs) ∧ Rps g H F T ds vs ∧ vs.length ≤ sizeLine ∧
  (∀ H' F', Ev T H F H' F' → P H') ∧ (st = true → ∀ H' F', Kp H F H' F' → P H')
def iI (g : Gd) (B : Bs) (W : WX) (st : Bool) (f : Ss.Env → M (List D)) : TI := fun σ H R => ∃ ρ F T n, Rel g B ρ σ H F T n ∧ Fin g W σ T H F (f ρ n) fun ds _ H' F' => ∀ J, Wks g T st J H' F' ds → R J H'
theorem pi_wk {tg e : Expr} {t t' : TI} (h : PI X tg e t') (k : ∀ σ H Q, t σ H Q → t' σ H Q) : PI X tg e t := ⟨fun pins s σ H Q I q => h.run pins s σ H Q I (k σ H Q q)⟩
end
end Ss
/-! Ss, part G: iterators and comprehensions. -/
namespace Ss
open PySem PySem.Spec PyProof.Rows L2
section
variable {g : Gd} {X : Cx} {W : WX} {sc : Scope} {fb : Str → Bool} {N : List Str} {L : Nat} {B : Bs}
/-- a list, a tuple or a text, whatever comes -/
def iAny (K : PySem.W.Frag) (tl : TE) : TI := fun σ H R => tl σ H fun x H1 =>
  (∃ a, x = .ref a ∧ (∃ xs, SqL K H1 a xs) ∧ R (Itl K a) H1) ∨ (∃ a, x = .ref a ∧ (∃ xs, SqT K H1 a xs) ∧ R (Itt K a) H1) ∨ ∃ z, x = .str z ∧ R (Its z) H1
theorem pi_any {tg l : Expr} {tl : TE} (hl : PE X l tl) : PI X tg l (iAny X.K tl) := by
  constructor
  intro pins s σ H R I h
  refine thn (hl.run pins s σ H _ I h) ?_
  rintro v s1 ⟨x, H1, I1, r1, q1⟩
  rcases q1 with ⟨a, rfl, ⟨xs, hq⟩, q⟩ | ⟨a, rfl, ⟨xs, hq⟩, q⟩ | ⟨z, rfl, q⟩
  · -- as a list
    have hp : PE X l (fun σ' H' Q => H' = H1 ∧ σ' = σ ∧ Q (.ref a) H1) ∨ True := .inr trivial
    cases r1
    obtain ⟨its, rv, p, hz⟩ := I1.list hq
    refine wpAny_pyIter_list p.isList ?_
    exact pi_one (tk := s1.toks) I1 _ (turn_list a _) ⟨_, Heap.get?_push_size _ rfl, rfl, rfl⟩ q
  · cases r1
    obtain ⟨its, rv, p, hz⟩ := I1.tuple hq
    refine wpAny_pyIter_tuple (show s1.heap.IsTuple a its.toArray from p) ?_
    exact pi_one (tk := s1.toks) I1 _ (turn_tuple a _) ⟨_, Heap.get?_push_size _ rfl, rfl, rfl⟩ q
  · obtain ⟨t, rfl⟩ := r1
    cases ha : z.cps.all (· < 128)
    · exact wpAny_pyIter_wide ha (pi_one (tk := s1.toks) I1 _ (turn_str _ z t "str_iterator" (.inr rfl)) ⟨_, Heap.get?_push_size _ rfl, rfl, rfl⟩ q)
    · exact wpAny_pyIter_ascii ha (pi_one (tk := s1.toks) I1 _ (turn_str _ z t "str_ascii_iterator" (.inl rfl)) ⟨_, Heap.get?_push_size _ rfl, rfl, rfl⟩ q)
theorem Fin.bnd' {α β : Type} {σ : L2.St} {T : Option Addr} {H : Hp} {F : FS} {n : Nat} {m : M α} {k : α → M β} {K : β → Nat → Hp → FS → Prop} (h : Fin g W σ T H F (Ss.bnd m k n) K) : Fin g W σ T H F (m n) fun a n1 _ _ => Fin g W σ T H F (k a n1) K := by
  unfold Ss.bnd at h
  cases e : m n with
  | ok a n' => rw [e] at h; exact fun _ _ _ _ => h
  | exc c n' => rw [e] at h; exact h
  | bad => rw [e] at h; exact h
theorem Fin.sup {α : Type} {W' : WX} {σ σ' : L2.St} {T : Option Addr} {H : Hp} {F : FS} {n : Nat} {m : M α} {K : α → Nat → Hp → FS → Prop} (h : Fin g W σ T H F (Ss.sup m n) K) : Fin g W' σ' T H F (m n) K := by
  unfold Ss.sup at h
  cases e : m n with
  | ok a n' => rw [e] at h; exact h
  | exc c n' => rw [e] at h; exact False.elim h
  | bad => rw [e] at h; exact h
theorem Fin.any {α : Type} {σ σ' : L2.St} {T : Option Addr} {H : Hp} {F : FS} {r : Res α} {K : α → Nat → Hp → FS → Prop} (h : Fin g (fun _ _ _ _ => False) σ T H F r K) : Fin g (fun _ _ _ _ => False) σ' T H F r K := by
  cases r with
  | ok a n => exact h
  | exc c n => exact h
  | bad => exact h
/-- what a loop or a comprehension walks: a list, a tuple, a text -/
theorem si_seq (G : Gud g X W sc fb N L) {tg it : Expr} {kd : Kd} {f : Ss.Env → M D} (h : PE X it (tI g B W kd f)) (st : Bool) (hs : st = true → kd = .full) : PI X tg it (iI g B W st fun ρ => bnd (f ρ) fun x => lft (items x)) := by
  obtain rfl := G.gd
  refine pi_wk (pi_any h) fun σ H Q q => ?_
  obtain ⟨ρ, F, T, n, R, q⟩ := q
  refine ⟨ρ, F, T, n, R, q.bnd.mono fun d n1 H1 F1 e1 t1 q1 v p1 => ?_⟩
  have R1 := R.step e1 t1
  obtain ⟨ds, ed, k, _⟩ := q1.lft t1
  have ps := p1.shal fun a z => ⟨_, R.tw a z⟩
  cases d <;> simp only [items, reduceCtorEq] at ed
  case lst xs =>
    injection ed with ed
    subst ed
    have two : ∃ a vs, v = .ref a ∧ H1 a = some (.lst vs) ∧ T ≠ some a ∧ vs.length ≤ sizeLine ∧ Rps (gdOf X) H1 F1 T xs vs ∧ (kd = .full → F1 a) := by
      cases kd with
      | full =>
        have p : Rp (gdOf X) H1 F1 T (.lst xs) v := p1
        simp only [Rp] at p
        obtain ⟨a, vs, h1, h2, h3, h4, h5⟩ := p
        exact ⟨a, vs, h1, h2, fun z => R1.nf a z h3, h4, h5, fun _ => h3⟩
      | shal =>
        rcases p1 with p | ⟨a, vs, ys, e, h1, h2, h3, h4, h5⟩
        · simp only [Rp] at p
          obtain ⟨a, vs, h1, h2, h3, h4, h5⟩ := p
          exact ⟨a, vs, h1, h2, fun z => R1.nf a z h3, h4, h5, fun z => nomatch z⟩
        · cases e
          exact ⟨a, vs, h1, h2, h3, h4, h5, fun z => nomatch z⟩
      | new =>
        obtain ⟨a, vs, ys, e, h1, h2, h3, h4, h5, h6⟩ := p1
        cases e
        refine ⟨a, vs, h1, h3, fun z => ?_, h5, h6, fun z => nomatch z⟩
        rw [R.tw a z] at h2; cases h2
    obtain ⟨a, vs, rfl, h1, h2, h3, h4, h5⟩ := two
    refine .inl ⟨a, rfl, ⟨vs, SqL.of h1⟩, k _ ⟨vs, fun H => SqL X.K H a vs, ?_, h4, h3, fun H' F' e => SqL.of (e.same a _ h1 h2), fun z H' F' kk => SqL.of (kk.frz a _ (h5 (hs z)) h1)⟩⟩
    rw [← h4.len]
    exact walk_list
  case tup xs =>
    cases ed
    obtain ⟨a, vs, rfl, h1, h3, h4⟩ := ps.tup
    refine .inr (.inl ⟨a, rfl, ⟨vs, h1⟩, k _ ⟨vs, fun H => SqT X.K H a vs, ?_, h4, h3, fun H' F' e => Kp.sqT (g := gdOf X) (e.kp R1.tw R1.nf) h1, fun z H' F' kk => Kp.sqT (g := gdOf X) kk h1⟩⟩)
    rw [← h4.len]
    exact walk_tup
  case str x =>
    split at ed
    · rename_i hl
      cases ed
      rw [ps.str]
      have hr : ∀ l : List Nat, Rps (gdOf X) H1 F1 T (l.map sgn) (l.map fun c => V.str ⟨#[c]⟩) := fun l => by
        induction l with
        | nil => exact .nil
        | cons c r ih => exact .cons rp_str ih
      refine .inr (.inr ⟨x, rfl, k _ ⟨x.cps.toList.map fun c => V.str ⟨#[c]⟩, fun _ => True, ?_, hr _, ?_, fun _ _ _ => trivial, fun _ _ _ _ => trivial⟩⟩)
      · have w := walk_str (z := x)
        rw [List.length_map, Array.length_toList]
        refine w.mono (fun _ h => h) fun i H v H' _ _ y => ?_
        obtain ⟨y1, c, y2, y3⟩ := y
        refine ⟨y1, ?_⟩
        rw [List.getElem?_map, Array.getElem?_toList, y2, y3]
        rfl
      · rw [List.length_map, Array.length_toList]
        exact hl
    · cases ed
theorem rgV_walk (lo hi : Int) : Walk (Itr lo (hi - lo).toNat) (rngL lo hi).length (fun _ => True) (YAt (rgV lo hi)) := by
  rw [rngL_len]
  refine (walk_range (lo := lo) (n := (hi - lo).toNat)).mono (fun _ h => h) fun i H v H' hi' _ y => ⟨y.1, ?_⟩
  unfold rgV
  rw [List.getElem?_map, List.getElem?_range hi', y.2]
  rfl
theorem si_rng1 (G : Gud g X W sc fb N L) {tg a : Expr} {fa : Ss.Env → M D} {p pos : Pos} {st : Bool} (ha : PE X a (tI g B W .shal fa)) (hn : nst a = true) (hr : glB sc "range" = true) :
    PI X tg (.Call (.Name "range" p) [a] [] pos) (iI g B W st fun ρ => bnd (bnd (fa ρ) fun d => bnd (ret []) fun ds => ret (d :: ds)) fun ds => lft (rngD ds)) := by
  obtain rfl := G.gd
  refine pi_wk (pi_range1 (G.gl hr).1 (G.bn (by decide +kernel)) (pa_cons ha pa_nil (star_of hn)) (by rw [star_of hn]; rfl)) fun σ H Q q => ?_
  obtain ⟨ρ, F, T, n, R, q⟩ := q
  refine ⟨ρ, F, T, n, R, q.bnd.bnd.mono fun d n1 H1 F1 e1 t1 q1 v p1 => ?_⟩
  obtain ⟨l, el, k, _⟩ := (q1 H1 F1 Ev.refl t1).lft t1
  cases d <;> simp only [rngD, reduceCtorEq] at el
  rename_i j
  split at el
  · rename_i hc
    injection el with el
    subst el
    refine ⟨j, by rw [RpS.int p1], hc.1, by omega, ?_⟩
    have w := rgV_walk 0 j
    rw [Int.sub_zero] at w
    refine k _ ⟨rgV 0 j, fun _ => True, w, rngL_rps 0 j, ?_, fun _ _ _ => trivial, fun _ _ _ _ => trivial⟩
    rw [rgV_length, sizeLine_eq]
    omega
  · cases el
theorem si_rng2 (G : Gud g X W sc fb N L) {tg a b : Expr} {fa fb' : Ss.Env → M D} {p pos : Pos} {st : Bool} (ha : PE X a (tI g B W .shal fa)) (hb : PE X b (tI g B W .shal fb')) (hn : nst a = true) (hn2 : nst b = true) (hr : glB sc "range" = true) :
    PI X tg (.Call (.Name "range" p) [a, b] [] pos) (iI g B W st fun ρ => bnd (bnd (fa ρ) fun d => bnd (bnd (fb' ρ) fun d => bnd (ret []) fun ds => ret (d :: ds)) fun ds => ret (d :: ds)) fun ds => lft (rngD ds)) := by
  obtain rfl := G.gd
  refine pi_wk (pi_range2 (G.gl hr).1 (G.bn (by decide +kernel)) (pa_cons ha (pa_cons hb pa_nil (star_of hn2)) (star_of hn)) (by rw [star_of hn, star_of hn2]; rfl) (by rw [star_of hn2]; rfl)) fun σ H Q q => ?_
  obtain ⟨ρ, F, T, n, R, q⟩ := q
  refine ⟨ρ, F, T, n, R, q.bnd.bnd.mono fun d n1 H1 F1 e1 t1 q1 v p1 => ?_⟩
  have R1 := R.step e1 t1
  refine ⟨ρ, F1, T, n1, R1, q1.bnd.bnd.mono fun d2 n2 H2 F2 e2 t2 q2 v2 p2 => ?_⟩
  have q3 := q2 H2 F2 Ev.refl t2 H2 F2 Ev.refl t2
  obtain ⟨l, el, k, _⟩ := Fin.lft q3 t2
  clear q2 q3 q1
  cases d <;> cases d2 <;> simp only [rngD, reduceCtorEq] at el
  case int.int i j =>
  split at el
  · rename_i hc
    injection el with el
    subst el
    refine ⟨i, j, by rw [RpS.int p1, RpS.int p2], ⟨hc.1, by omega, by omega, by omega⟩, ?_⟩
    have w := rgV_walk i j
    refine k _ ⟨rgV i j, fun _ => True, w, rngL_rps i j, ?_, fun _ _ _ => trivial, fun _ _ _ _ => trivial⟩
    rw [rgV_length, sizeLine_eq]
    omega
  · cases el

/-! ### list comprehensions -/
abbrev W0 : WX := fun _ _ _ _ => False
theorem wipe_wipe (σ : L2.St) (vs : List Nat) : L2.wipe (L2.wipe σ vs) vs = L2.wipe σ vs := by
  have gen : ∀ (ws : List Nat), (∀ w ∈ ws, w ∈ vs) → L2.wipe (L2.wipe σ ws) vs = L2.wipe σ vs := by
    intro ws
    induction ws with
    | nil => intro _; rfl
    | cons w ws ih =>
      intro h
      show L2.wipe ((L2.wipe σ ws).set w none) vs = _
      rw [wipe_set (h w List.mem_cons_self), ih fun x hx => h x (List.mem_cons_of_mem _ hx)]
  exact gen vs fun _ h => h
theorem Ev.writeNew {T : Option Addr} {H H' : Hp} {F F' : FS} {p : Addr} {o : HO} (e : Ev T H F H' F') (h : H p = none) : Ev T H F (upd H' p o) F' :=
  ⟨fun a u q t => by rw [upd_ne (ne_of_none q h)]; exact e.same a u q t, e.sub, e.new, fun d => dom_upd (e.dom d)⟩
def lcF (tg : Tg) (fts fe : Ss.Env → M D) (ρ : Ss.Env) (d : D) : M (Option D) := bnd (lft (tg.put d ρ)) fun ρ2 => bnd (fts ρ2) fun c => bnd (lft (tru c)) fun k => if k then bnd (fe ρ2) fun x => ret (some x) else ret none
theorem comp_read {tg : Tg} {fi : Ss.Env → M (List D)} {fts fe : Ss.Env → M D} {vs : List Nat} (hsl : ∀ i ∈ tg.sl, i ∈ vs) (σ : L2.St) (H : Hp) (Q : VK)
    (q : tI g B W .new (fun ρ => bnd (fi ρ) fun ds => bnd (lcs (lcF tg fts fe (wip ρ vs)) ds) fun xs => ret (.lst xs)) σ H Q) :
    tLc (iI g B W false fi) (gT g.K tg) (tT g B W0 fun ρ => truM (fts ρ)) (tI g B W0 .full fe) vs σ H Q := by
  obtain ⟨ρ, F, T, n, R, q⟩ := q
  refine ⟨ρ, F, T, n, R, q.bnd.mono fun ds n1 H1 F1 e1 t1 q1 J wk => ?_⟩
  intro D hD
  obtain ⟨us, P, w, r, hl, pE, _⟩ := wk
  have R1 := R.step e1 t1
  have TD : T ≠ some D := fun z => by rw [t1 D z] at hD; cases hD
  have FD : ∀ {Hc : Hp} {Fc : FS}, Ev T H1 F1 Hc Fc → Hc D ≠ none → True := fun _ _ => trivial
  refine lc_it w (fun i Hc => ∃ (Fc : FS) (nc : Nat) (done : List Ss.D) (acc : List V), Ev T H1 F1 Hc Fc ∧ Tw T Hc nc ∧ ¬ Fc D ∧ Hc D = some (.lst acc) ∧ acc.length ≤ i ∧ Rps g Hc Fc T done acc ∧
    Fin g W σ T H1 F1 (lcs (lcF tg fts fe (wip ρ vs)) (ds.drop i) nc) fun r n' H' F' => ∀ v, Post g T H H' F' .new (.lst (done ++ r)) v → Q v H') ?h0 ?hG ?hs ?hd
  case h0 =>
    refine ⟨F1, n1, [], [], Ev.alloc hD, t1.alloc hD, fun f => ?_, upd_same, Nat.le_refl _, .nil, ?_⟩
    · obtain ⟨o, z⟩ := R1.dm D f
      rw [hD] at z; cases z
    · exact q1.bnd.mono fun xs n2 H2 F2 e2 t2 q2 => q2 H2 F2 Ev.refl t2
  case hG =>
    rintro i Hc _ ⟨Fc, nc, done, acc, ev, _⟩
    exact pE Hc Fc ev
  case hd =>
    rintro Hc ⟨Fc, nc, done, acc, ev, tw, nf, hc, hlen, rp, fin⟩
    rw [List.drop_length] at fin
    have z := fin Hc Fc ev tw (.ref D)
    rw [List.append_nil] at z
    refine z ⟨D, acc, done, rfl, rfl, none_back e1 t1 hD, hc, nf, ?_, rp⟩
    have := r.len
    omega
  case hs =>
    rintro i x Hc Hc' hi ⟨Fc, nc, done, acc, ev, tw, nf, hc, hlen, rp, fin⟩ ⟨rfl, hx⟩
    obtain ⟨d, hd, rd⟩ := r.get' hx
    have Rc := R1.step ev tw
    have rdc := R1.rp ev rd
    rw [List.drop_eq_getElem_cons hi] at fin
    have ed : ds[i] = d := by
      have z := List.getElem?_eq_getElem hi
      rw [hd] at z; exact (Option.some.inj z).symm
    rw [ed] at fin
    simp only [lcs] at fin
    have fin := (fin.bnd').later ev tw
    have Rw := Rc.wipe vs
    have fin : Fin g W0 (L2.wipe σ vs) T Hc' Fc (lcF tg fts fe (wip ρ vs) d nc) _ := fin.sup
    unfold lcF at fin
    cases ep : tg.put d (wip ρ vs) with
    | none => rw [ep] at fin; exact False.elim fin
    | some ρ2 =>
      rw [ep] at fin
      refine gT_read ep rdc Rw fun σ' R' wp => ⟨by rw [wp vs hsl, wipe_wipe], ?_⟩
      have fin : Fin g W0 (L2.wipe σ vs) T Hc' Fc (bnd (fts ρ2) (fun c => bnd (lft (tru c)) fun k => if k then bnd (fe ρ2) fun x => ret (some x) else ret none) nc) _ := fin
      rw [← bnd_assoc] at fin
      have fin := fin.bnd
      have keep : ∀ {H3 : Hp} {F3 : FS} {n3 : Nat}, Ev T Hc' Fc H3 F3 → Tw T H3 n3 → Ev T H1 F1 H3 F3 ∧ ¬ F3 D ∧ H3 D = some (.lst acc) ∧ Rps g H3 F3 T done acc := fun {H3 F3 n3} e3 t3 => by
        refine ⟨ev.trans tw e3, fun f => ?_, e3.same D _ hc TD, Rc.rps e3 rp⟩
        rcases e3.new D f with z | z
        · exact nf z
        · rw [hc] at z; cases z
      refine ⟨ρ2, Fc, T, nc, R', fin.any.mono fun k n3 H3 F3 e3 t3 q3 => ?_⟩
      cases k with
      | false =>
        simp only [Bool.false_eq_true, if_false] at q3 ⊢
        have q3 := q3 H3 F3 Ev.refl t3
        obtain ⟨k1, k2, k3, k4⟩ := keep e3 t3
        refine ⟨F3, n3, done, acc, k1, t3, k2, k3, by omega, k4, ?_⟩
        exact q3.bnd'.mono fun r n' H' F' e t k => k H' F' e t
      | true =>
        simp only [if_true] at q3 ⊢
        refine ⟨ρ2, F3, T, n3, R'.step e3 t3, q3.bnd.any.mono fun y n4 H4 F4 e4 t4 q4 v p4 => ?_⟩
        have q4 := q4 H4 F4 Ev.refl t4
        obtain ⟨k1, k2, k3, k4⟩ := keep (e3.trans t3 e4) t4
        have lz := r.len
        refine ⟨acc, k3, by omega, F4, n4, done ++ [y], acc ++ [v], k1.writeNew hD, fun a z => ?_, k2, upd_same, by rw [List.length_append]; simp; omega, ?_, ?_⟩
        · have ne : a ≠ D := fun e => TD (by rw [← e]; exact z)
          rw [upd_ne ne]; exact t4 a z
        · have kk : Kp H4 F4 (upd H4 D (.lst (acc ++ [v]))) F4 := Kp.write k3 k2
          exact (Rps.kp kk (fun _ z => z) _ _ k4).app (.one (Rp.kp kk (fun _ z => z) _ _ p4))
        · refine q4.bnd'.mono fun r n' H' F' e t k => ?_
          have z := k H' F' e t
          rw [List.append_assoc]
          exact z
/-- the block's own place -/
theorem Gud.blk (G : Gud g X W sc fb N L) (s : Shared) (H : Hp) (scope : Scope) (cl : List (Str × Addr)) (C : Addr) (fp : List Addr) :
    Gud g (X.blk s H scope (compEnvC scope cl C X.env) fp) W0 (relS scope sc) (fun x => scope.names.lookup x == some .cell) N L := by
  refine ⟨G.gd, G.ok, ?_, G.nm, G.nd, G.calm, G.room, takes0, fun x h => h, PassesOwn.never⟩
  show (compEnvC scope cl C X.env).scope = _
  rw [← G.es]
  rfl
theorem se_comp (G : Gud g X W sc fb N L) {tg : Tg} {elt tgE iter : Expr} {ifs : List Expr} {scope : Scope} {own : List (Str × Nat)} {pos : Pos} {fi : Ss.Env → M (List D)} {fts fe : Ss.Env → M D} (hi : PI X tgE iter (iI g B W false fi)) (ok : BlkOk N sc scope own)
    (hg : ∀ X', Gud g X' W0 (relS scope sc) (fun x => scope.names.lookup x == some .cell) N L → PG X' tgE (gT g.K tg)) (ht : ∀ X', Gud g X' W0 (relS scope sc) (fun x => scope.names.lookup x == some .cell) N L → PTs X' ifs (tT g B W0 fun ρ => truM (fts ρ)))
    (he : ∀ X', Gud g X' W0 (relS scope sc) (fun x => scope.names.lookup x == some .cell) N L → PE X' elt (tI g B W0 .full fe)) (hsl : ∀ i ∈ tg.sl, i ∈ own.map (·.2)) (hs : ∀ env x, foldedSetIterable iter env x = pure x) :
    PE X (.ListComp elt [⟨tgE, iter, ifs, 0⟩] scope pos) (tI g B W .new fun ρ => bnd (fi ρ) fun ds => bnd (lcs (lcF tg fts fe (wip ρ (own.map (·.2)))) ds) fun xs => ret (.lst xs)) := by
  refine pe_wk (pe_lc G.calm (by rw [G.nm]; exact G.nd) hi (by rw [G.nm, G.es]; exact ok) (fun s H C cl fp => hg _ (G.blk s H scope cl C fp)) (fun s H C cl fp => ht _ (G.blk s H scope cl C fp)) (fun s H C cl fp => he _ (G.blk s H scope cl C fp)) (hs X.env)) fun σ H Q q => comp_read hsl σ H Q q
/-- y = [..]: stored within the comprehension's frame -/
theorem ss_comp (G : Gud g X W sc fb N L) {tg : Tg} {i : Nat} {y : Str} {py : Pos} {elt tgE iter : Expr} {ifs : List Expr} {scope : Scope} {own : List (Str × Nat)} {pos spos : Pos} {fi : Ss.Env → M (List D)} {fts fe : Ss.Env → M D} (hi : PI X tgE iter (iI g B W false fi)) (ok : BlkOk N sc scope own)
    (hg : ∀ X', Gud g X' W0 (relS scope sc) (fun x => scope.names.lookup x == some .cell) N L → PG X' tgE (gT g.K tg)) (ht : ∀ X', Gud g X' W0 (relS scope sc) (fun x => scope.names.lookup x == some .cell) N L → PTs X' ifs (tT g B W0 fun ρ => truM (fts ρ)))
    (he : ∀ X', Gud g X' W0 (relS scope sc) (fun x => scope.names.lookup x == some .cell) N L → PE X' elt (tI g B W0 .full fe)) (hsl : ∀ i ∈ tg.sl, i ∈ own.map (·.2)) (hs : ∀ env x, foldedSetIterable iter env x = pure x)
    (hy : N[i]? = some y) (hyl : sc.names.lookup y = some .local) (hk : sc.kind = .function) (hl : (py.line == pos.line) = true) (ha : (scope.names.any fun (n, k) => n == y && (k == .local || k == .cell)) = false) :
    PS X (.Assign [.Name y py] (.ListComp elt [⟨tgE, iter, ifs, 0⟩] scope pos) spos) (tAsg (tI g B W .new fun ρ => bnd (fi ρ) fun ds => bnd (lcs (lcF tg fts fe (wip ρ (own.map (·.2)))) ds) fun xs => ret (.lst xs)) (gName i)) := by
  refine ps_wk (ps_setLc (i := i) G.calm (by rw [G.nm]; exact G.nd) (by rw [G.nm]; exact hy) (by rw [G.es]; exact hyl) (sw_true (by rw [G.es]; exact hk) (by rw [G.es]; exact hyl) hl ha) hi (by rw [G.nm, G.es]; exact ok)
    (fun s H C cl fp => hg _ (G.blk s H scope cl C fp)) (fun s H C cl fp => ht _ (G.blk s H scope cl C fp)) (fun s H C cl fp => he _ (G.blk s H scope cl C fp)) (hs X.env)) fun D σ H q => comp_read hsl σ H _ q
end
end Ss
/-! Ss, part S: set(a list of numbers, texts, truths, None): how many unlike ones. -/
namespace Ss
open PySem PySem.Spec PyProof.Rows
/-- met among the first i -/
def met (xs : List Leaf) (i : Nat) (k : Leaf) : Bool := (xs.take i).any fun z => decide (z = k)
theorem met_succ {xs : List Leaf} {i : Nat} (h : i < xs.length) (k : Leaf) : met xs (i + 1) k = (met xs i k || decide (k = xs.getD i .none)) := by
  unfold met
  have e : xs.take (i + 1) = xs.take i ++ [xs[i]] := by
    rw [List.take_add_one, List.getElem?_eq_getElem h]; rfl
  have e2 : xs.getD i Leaf.none = xs[i] := by
    rw [List.getD_eq_getElem?_getD, List.getElem?_eq_getElem h]; rfl
  rw [e, List.any_append, e2]
  congr 1
  simp only [List.any_cons, List.any_nil, Bool.or_false]
  by_cases z : xs[i] = k
  · rw [decide_eq_true z, decide_eq_true z.symm]
  · rw [decide_eq_false z, decide_eq_false fun q => z q.symm]
theorem dcn_le (xs : List Leaf) : ∀ i, dcn xs i ≤ i
  | 0 => Nat.le_refl _
  | i + 1 => by
    have := dcn_le xs i
    simp only [dcn]
    split <;> omega
theorem dcn_succ (xs : List Leaf) (i : Nat) : dcn xs (i + 1) = if met xs i (xs.getD i .none) = true then dcn xs i else dcn xs i + 1 := rfl
section
variable {prog : Program} {w : World} {A : Around} {R : Result → Shared → Prop} {I : Addr} {fp wr : List Addr} {G : Array GenState → Array GenState → Prop} {n : Nat} {P : Nat → Value → Prop} {St : Nat → Shared → Prop}
theorem setLoop (W : WalksS prog w A.in1 I fp wr G n P St) (S : Addr) (out : S ∉ fp) (xs : List Leaf) (hn : xs.length = n) (hb : n + 1 < scanBound)
    (hv : ∀ i v, P i v → Leaf.isOf (xs.getD i .none) v = true ∧ v.scannable = true) : ∀ (k i : Nat) (s : Shared), n - i = k → i ≤ n → St i s → s.heap.SetOf (leafKind prog w) S (met xs i) (dcn xs i) →
      (∀ s', Moved (S :: wr) G s s' → s'.heap.SetOf (leafKind prog w) S (met xs n) (dcn xs n) → R (.ok (.ret .none)) s') → codeAny (model prog w) A (.builtin "set.update.loop" ⟨[.ref S, .ref I], []⟩) R s := by
  have outw : S ∉ wr := fun h => out (W.sub _ h)
  have more : ∀ b ∈ wr, b ∈ S :: wr := fun b hb => List.mem_cons_of_mem _ hb
  have stays : ∀ {s s' : Shared} {p : Leaf → Bool} {m : Nat}, Moved wr G s s' → s.heap.SetOf (leafKind prog w) S p m → s'.heap.SetOf (leafKind prog w) S p m := fun hm hS => by
    obtain ⟨o, es, ep, t, ho, q⟩ := hS
    exact ⟨o, es, ep, t, hm.heap S _ outw ho, q⟩
  intro k
  induction k with
  | zero =>
    intro i s hk hi st hS hR
    obtain rfl : i = n := by omega
    refine codeAny_builtin PyProof.Rows.F.entry_set_update_loop ?_
    rw [Around.under_plainId PyProof.Rows.F.plain_set_update_loop _]
    show wpAny _ A.in1 (pyNext (.ref I) >>= _) _ _ s
    refine wpAny_bind (W.done s _ _ st fun s' hm => ?_)
    show wpAny _ A.in1 (PySem.ret Value.none) _ _ s'
    exact wpAny_pure (hR s' (hm.mono more) (stays hm hS))
  | succ k ih =>
    intro i s hk hi st hS hR
    have lt : i < n := by omega
    refine codeAny_builtin PyProof.Rows.F.entry_set_update_loop ?_
    rw [Around.under_plainId PyProof.Rows.F.plain_set_update_loop _]
    show wpAny _ A.in1 (pyNext (.ref I) >>= _) _ _ s
    refine wpAny_bind (W.item i s _ _ lt st fun v s' hP st' hm => ?_)
    obtain ⟨v1, v2⟩ := hv i v hP
    show wpAny _ A.in1 (holding [v] (setAdd S v) >>= _) _ _ s'
    refine wpAny_bind (wpAny_holding ?_)
    unfold setAdd
    refine wpAny_holding (wpAny_bind ((leafKind prog w).pyHash (k := xs.getD i .none) v1 ?_))
    have hS' := stays hm hS
    have dl := dcn_le xs i
    refine wpAny_setAddHashed_of (knd := leafKind prog w) (s := { s' with toks := s'.toks + 1 }) v1 v2 hS' (by omega) fun h' sb hS2 => ?_
    have hS3 : h'.SetOf (leafKind prog w) S (met xs (i + 1)) (dcn xs (i + 1)) := by
      have e1 : (fun k' => met xs i k' || decide (k' = xs.getD i .none)) = met xs (i + 1) := funext fun k' => (met_succ (by omega) k').symm
      rw [dcn_succ, ← e1]
      exact hS2
    refine wpAny_pure ⟨plainId_quiet PyProof.Rows.F.plain_set_update_loop _, ih (i + 1) _ (by omega) lt (W.frame _ s' _ _ st' (Nat.le_succ _) fun b hb o e => ?_) hS3 fun s2 hm2 hS4 => ?_⟩
    · have ne : b ≠ S := fun z => out (z ▸ hb)
      rw [sb.2 b ne]; exact e
    · refine hR s2 (Moved.trans W.gtrans ((hm.mono more).then_heap (Nat.le_succ _) fun b o hb e => ?_) hm2) hS4
      have ne : b ≠ S := fun z => hb (z ▸ List.mem_cons_self)
      rw [sb.2 b ne]; exact e
end
section
variable {prog : Program} {w : World} {A : Around} {E : Value → Shared → Prop} {s : Shared}
abbrev newSet (led : Bool) : Obj := { cls := .type "set", dict := none, data := .set #[] 0 (.fresh 0 0 led) }
set_option maxHeartbeats 8000000 in
theorem call_setL {l : Addr} {items : Array Value} {xs : List Leaf} {Q : Value → Shared → Prop} (hh : A.handled = none) (hl : s.heap.IsList l items) (hn : xs.length = items.size) (hb : items.size + 1 < scanBound)
    (hv : ∀ (i : Nat) (v : Value), items[i]? = some v → Leaf.isOf (xs.getD i .none) v = true ∧ v.scannable = true)
    (h : ∀ (h' : Heap) (tk : Nat), h'.SetOf (leafKind prog w) s.heap.objs.size (met xs items.size) (dcn xs items.size) → (∀ b o, b < s.heap.objs.size → s.heap.get? b = some o → h'.get? b = some o) → Q (.ref s.heap.objs.size) { s with heap := h', toks := tk }) :
    wpAny (model prog w) A (call (.type "set") [.ref l]) Q E s := by
  obtain ⟨c, tl, hmro⟩ := PySem.F.called_set.mro
  have m1 := PySem.F.called_set.made
  have m2 := PySem.F.called_set.sub
  refine wpAny_call (codeAny_of_tree ?_)
  show wpAny _ _ (callAny (.type "set") _) _ _ _
  refine wpAny_pure ⟨Code.quiet_builtin _ (by decide +kernel), codeAny_builtin PySem.F.entry_type_call ?_⟩
  rw [Around.under_plain (weight_type_call_type "set" [.ref l] []) rfl]
  have m3 := PySem.F.called_set.notType
  have m4 := PySem.F.called_set.canCreate
  have m5 := PySem.F.typeCall_set_1 (.ref l)
  repeat (any_goals (first | assumption | wp_step))
  refine codeAny_mono (code_set_new_1 (.ref l) (E := E) (Q₁ := fun obj s₁ => ∃ led : Bool, obj = .ref s.heap.objs.size ∧ s₁ = { s with heap := s.heap.push (newSet led) }) fun led => ⟨led, rfl, rfl⟩) fun r s₁ hr => ?_
  cases r with
  | error e => exact hr
  | ok fl =>
    cases fl with
    | ret obj =>
      obtain ⟨led, rfl, rfl⟩ := hr
      have new : (s.heap.push (newSet led)).get? s.heap.objs.size = some (newSet led) := Heap.get?_push_size _ rfl
      have ty : Shared.TypeIs { s with heap := s.heap.push (newSet led) } (.ref s.heap.objs.size) "set" := ⟨_, new, rfl⟩
      have i1 := PySem.F.called_set.init.lookup
      have i2 := PySem.F.called_set.init.bind (.ref s.heap.objs.size)
      repeat (any_goals (first | assumption | wp_step))
      refine codeAny_mono (codeAny_call_builtin (R := wants (fun r s₂ => r = .none ∧ ∃ h' tk, s₂ = { s with heap := h', toks := tk } ∧ h'.SetOf (leafKind prog w) s.heap.objs.size (met xs items.size) (dcn xs items.size) ∧
          ∀ b o, b < s.heap.objs.size → s.heap.get? b = some o → h'.get? b = some o) E) PySem.F.called_set.init.plain PySem.F.entry_set_init (check_set_init_1 ty ?_)) fun r₂ s₂ hr₂ => ?_
      · obtain ⟨ol, hol, hcl, nl, hdl⟩ := hl
        obtain ⟨ocls, odict, odata, oslots⟩ := ol
        simp only at hcl hdl
        subst hcl; subst hdl
        have old := Heap.get?_push_of_some (newSet led) hol
        have k1 := PySem.F.sub_list_set
        have k2 := PySem.F.sub_list_frozenset
        have k3 : (Value.type "list" == Value.type "dict") = false := by decide
        have hl1 : (s.heap.push (newSet led)).IsList l items := ⟨_, old, rfl, nl, rfl⟩
        unfold Builtin.«set.__init__» noKeywords Builtin.Frozenset.updateFrom
        generalize hPI : pyIter = PI
        wp_walk
        subst hPI
        refine wpAny_pyIter_list hl1 (wpAny_bind (wpAny_runValue ?_))
        have lt : l < s.heap.objs.size := Heap.lt_size hol
        have hh3 : A.in1.in1.in1.handled = none := by simp [hh]
        have sz : (s.heap.push (newSet led)).objs.size = s.heap.objs.size + 1 := Heap.size_push ..
        have ne1 : l ≠ (s.heap.push (newSet led)).objs.size := by rw [sz]; exact Nat.ne_of_lt (Nat.lt_succ_of_lt lt)
        have ne2 : s.heap.objs.size ∉ [(s.heap.push (newSet led)).objs.size, l] := by
          rw [sz]
          simp only [List.mem_cons, List.not_mem_nil, or_false, not_or]
          exact ⟨Nat.ne_of_lt (Nat.lt_succ_self _), Nat.ne_of_gt lt⟩
        refine setLoop ((Walks.list hh3 _ l ne1 items).toS) s.heap.objs.size ne2 xs hn hb hv (items.size - 0) 0 _ (by omega) (Nat.zero_le _) ⟨⟨_, Heap.get?_push_size _ rfl, rfl, rfl⟩, hl1.push _⟩ ?setA ?setB
        case setA => exact PyProof.Rows.SetOf_congr ((PyProof.Rows.setObjOf_fresh (knd := leafKind prog w) led).setOf (Heap.get?_push_of_some _ new) (by unfold scanBound; omega)) (fun _ => rfl) rfl
        case setB =>
          intro s' hm hS'
          obtain ⟨h', g', d', tk', os'⟩ := s'
          obtain rfl : g' = s.gens := hm.gens
          obtain rfl : d' = s.drawn := hm.drawn
          obtain rfl : os' = s.os := hm.os
          show wpAny _ _ _ _ _ _
          refine wpAny_pure ?_
          show wpAny _ _ (PySem.ret Value.none) _ _ _
          refine wpAny_pure ⟨rfl, h', tk', rfl, hS', fun b o hb e => ?_⟩
          refine hm.heap b o ?_ (Heap.get?_push_of_some _ (Heap.get?_push_of_some _ e))
          simp only [List.mem_cons, List.not_mem_nil, or_false, not_or]
          exact ⟨Nat.ne_of_lt hb, by rw [sz]; exact Nat.ne_of_lt (Nat.lt_succ_of_lt hb)⟩
      · cases r₂ with
        | error e => exact hr₂
        | ok fl₂ =>
          cases fl₂ with
          | ret r =>
            obtain ⟨rfl, h', tk, rfl, hS', hk'⟩ := hr₂
            repeat (any_goals (first | assumption | wp_step))
            exact h _ _ hS' hk'
          | _ => exact hr₂.elim
    | _ => exact hr.elim
end
end Ss
/-! Ss, part H: the IR against the written text; every expression. -/
namespace Ss
open PySem PySem.Spec PyProof.Rows L2

/-! ### len(set(..)) -/
section
variable {g : Gd} {X : Cx} {W : WX} {sc : Scope} {fb : Str → Bool} {N : List Str} {L : Nat} {B : Bs}
theorem leaf_is {T : Option Addr} {H : Hp} {F : FS} {d : D} {v : V} {u : Value} {x : Leaf} (h : Rp g H F T d v) (e : leaf d = some x) (r : RelV v u) : Leaf.isOf x u = true ∧ u.scannable = true := by
  cases d <;> simp only [leaf, reduceCtorEq] at e
  · simp only [Rp] at h; subst h; cases e; cases r; exact ⟨rfl, rfl⟩
  · simp only [Rp] at h; subst h; cases e; cases r; exact ⟨decide_eq_true rfl, rfl⟩
  · simp only [Rp] at h; subst h; cases e; obtain ⟨t, rfl⟩ := r; exact ⟨decide_eq_true rfl, rfl⟩
  · simp only [Rp] at h; subst h; cases e; obtain ⟨t, rfl⟩ := r; exact ⟨by simp [Leaf.isOf, Value.isStrOf], rfl⟩
theorem leaves_get {T : Option Addr} {H : Hp} {F : FS} : ∀ {ds : List D} {vs : List V} {us : List Value} {xs : List Leaf} {i : Nat} {u : Value}, Rps g H F T ds vs → leaves ds = some xs → Vals vs us → us[i]? = some u → Leaf.isOf (xs.getD i .none) u = true ∧ u.scannable = true
  | [], vs, us, xs, i, u, h, e, r, q => by
    simp only [Rps] at h
    subst h
    cases r
    simp at q
  | d :: ds, vs, us, xs, i, u, h, e, r, q => by
    simp only [Rps] at h
    obtain ⟨v, vr, rfl, h1, h2⟩ := h
    simp only [leaves] at e
    cases el : leaf d with
    | none => rw [el] at e; cases e
    | some x =>
      rw [el] at e
      cases es : leaves ds with
      | none => rw [es] at e; cases e
      | some ys =>
        rw [es] at e
        cases e
        cases r with
        | cons r1 r2 =>
          cases i with
          | zero =>
            simp only [List.getElem?_cons_zero, Option.some.injEq] at q
            subst q
            exact leaf_is h1 el r1
          | succ i => exact leaves_get (i := i) h2 es r2 q
theorem leaves_len : ∀ {ds : List D} {xs : List Leaf}, leaves ds = some xs → xs.length = ds.length
  | [], xs, e => by cases e; rfl
  | d :: ds, xs, e => by
    simp only [leaves] at e
    cases el : leaf d with
    | none => rw [el] at e; cases e
    | some x =>
      rw [el] at e
      cases es : leaves ds with
      | none => rw [es] at e; cases e
      | some ys =>
        rw [es] at e
        cases e
        simp [leaves_len es]
def tLens (K : PySem.W.Frag) (ta : TE) (g : Gd) : TE := fun σ H Q => ta σ H fun x H1 => ∃ F T ds xs, RpS g T H1 F (.lst ds) x ∧ leaves ds = some xs ∧ xs.length ≤ 4000 ∧ Q (.int (dcn xs xs.length)) H1
theorem pe_lens {a : Expr} {ta : TE} {p p2 q pos : Pos} (hc : X.calm = true) (hg : Gl X "len") (hm : X.mg "len" = none) (hg2 : Gl X "set") (hm2 : X.mg "set" = none) (ha : PE X a ta) (na : nst a = true) :
    PE X (.Call (.Name "len" p) [.Call (.Name "set" p2) [a] [] q] [] pos) (tLens X.K ta (gdOf X)) := by
  constructor
  intro pins s σ H Q I h
  have st : starEach [a] X.env = (false, eval a X.env) :: starEach [] X.env := star_of na
  refine Call_ (ld_blt I hg hm boot_len (PyProof.Rows.callWith_builtin1 (PyProof.Rows.args_cons ?_ rfl) rfl rfl))
  refine Call_ (ld_blt I hg2 hm2 boot_set (PyProof.Rows.callWith_type1 (PyProof.Rows.args_cons (thn (ha.run pins s σ H _ I h) ?_) st) st rfl))
  rintro v s1 ⟨x, H1, I1, r1, F, T, ds, xs, hr, hx, hl, k⟩
  refine PyProof.Rows.args_nil ?_
  obtain ⟨l, vs, rfl, h1, _, h2⟩ := hr.lst
  cases r1
  obtain ⟨its, r, pl, hz⟩ := I1.list (SqL.of h1)
  have e1 := leaves_len hx
  have e2 := h2.len
  have e3 := r.length
  have sz : its.toArray.size = xs.length := by rw [List.size_toArray]; omega
  refine call_setL (I1.ok.hd hc) pl.isList sz.symm (by rw [sz]; unfold scanBound; omega) (fun i u hu => leaves_get h2 hx r (by simpa using hu)) fun h' tk hS hk => ?_
  refine PyProof.Rows.args_nil ?_
  rw [sz] at hS
  obtain ⟨o, es, ep, t, ho, hex, hd, _, _, _, hf, hn⟩ := hS
  have I2 : L2.Inv X pins σ H1 { s1 with heap := h', toks := tk } := I1.kept fun b o e => hk b o (Heap.lt_size e) e
  have dl := dcn_le xs xs.length
  exact call_len_set ho hex hd hf (by rw [hn]; omega) ⟨.int (dcn xs xs.length), H1, I2.tok _, ⟨_, by rw [hn]⟩, k⟩
theorem se_lens (G : Gud g X W sc fb N L) {a : Expr} {fa : Ss.Env → M D} {p p2 q pos : Pos} (ha : PE X a (tI g B W .shal fa)) (na : nst a = true) (hg : glB sc "len" = true) (hs : glB sc "set" = true) :
    PE X (.Call (.Name "len" p) [.Call (.Name "set" p2) [a] [] q] [] pos) (tI g B W .full fun ρ => bnd (fa ρ) fun x => match x with
    | .lst ds => lft ((leaves ds).bind fun xs => if xs.length ≤ 4000 then some (D.int (dcn xs xs.length)) else none)
    | _ => bad) := by
  obtain rfl := G.gd
  refine pe_wk (pe_lens G.calm (G.gl hg).1 (G.bn (by decide +kernel)) (G.gl hs).1 (G.bn (by decide +kernel)) ha na) fun σ H Q q => ?_
  obtain ⟨ρ, F, T, n, R, q⟩ := q
  refine ⟨ρ, F, T, n, R, q.bnd.mono fun d n1 H1 F1 e1 t1 q1 v p1 => ?_⟩
  cases d with
  | lst ds =>
    obtain ⟨z, ez, k, _⟩ := q1.lft t1
    cases el : leaves ds with
    | none => rw [el] at ez; cases ez
    | some xs =>
      rw [el] at ez
      have ez : (if xs.length ≤ 4000 then some (D.int (dcn xs xs.length)) else none) = some z := ez
      split at ez
      · rename_i hc
        cases ez
        exact ⟨F1, T, ds, xs, p1, el, hc, k _ (pf rp_int)⟩
      · cases ez
  | _ => exact False.elim q1
end

/-! ### the check -/
mutual
def IR.fl : IR → Bool
  | .own _ => false
  | .bop _ es => fls es
  | .ite _ a b => a.fl && b.fl
  | _ => true
def fls : List IR → Bool
  | [] => true
  | e :: es => e.fl && fls es
end
def IR.isNew : IR → Bool
  | .lst _ => true
  | .comp .. => true
  | .lrng _ => true
  | .bi .list _ => true
  | _ => false
def IR.kd (e : IR) : Kd := if e.isNew then .new else if e.fl then .full else .shal
def blkB (N : List Str) (sc scope : Scope) (vs : List Nat) : Bool := decide (scope.kind = .function) && scope.names.all (fun y => scope.names.lookup y.1 == some y.2) && vs.all (fun i => (N[i]?).isSome) &&
  scope.names.all (fun y => match y.2 with
    | .free => (sc.names.lookup y.1 == some .cell) || (sc.names.lookup y.1 == some .free)
    | .local => vs.any (fun i => N[i]? == some y.1) || !N.contains y.1
    | .cell => vs.any (fun i => N[i]? == some y.1) || !N.contains y.1
    | _ => true)
def ownOf (N : List Str) (vs : List Nat) : List (Str × Nat) := vs.map fun i => (N.getD i Str.empty, i)
theorem ownOf_snd (N : List Str) (vs : List Nat) : (ownOf N vs).map (·.2) = vs := by
  unfold ownOf
  rw [List.map_map]
  exact List.map_id _
theorem blkB_ok {N : List Str} {sc scope : Scope} {vs : List Nat} (h : blkB N sc scope vs = true) : BlkOk N sc scope (ownOf N vs) := by
  unfold blkB at h
  simp only [Bool.and_eq_true, decide_eq_true_eq, List.all_eq_true, beq_iff_eq] at h
  obtain ⟨⟨⟨h1, h2⟩, h3⟩, h4⟩ := h
  have own : ∀ y ∈ scope.names, (vs.any (fun i => N[i]? == some y.1) || !N.contains y.1) = true → y.1 ∈ (ownOf N vs).map (·.1) ∨ y.1 ∉ N := fun y hy q => by
    simp only [Bool.or_eq_true, List.any_eq_true, beq_iff_eq, Bool.not_eq_true', List.contains_eq_mem, decide_eq_false_iff_not] at q
    rcases q with ⟨i, hi, e⟩ | q
    · refine .inl (List.mem_map.mpr ⟨(N.getD i Str.empty, i), List.mem_map.mpr ⟨i, hi, rfl⟩, ?_⟩)
      show N.getD i Str.empty = y.1
      rw [List.getD_eq_getElem?_getD, e]; rfl
    · exact .inr q
  refine ⟨h1, h2, fun p hp => ?_, fun y hy e => ?_, fun y hy e => ?_⟩
  · obtain ⟨i, hi, rfl⟩ := List.mem_map.mp hp
    show N[i]? = some (N.getD i Str.empty)
    have := h3 i hi
    rw [List.getD_eq_getElem?_getD]
    cases q : N[i]? with
    | none => rw [q] at this; cases this
    | some x => rfl
  · have := h4 y hy
    rw [e] at this
    simp only [Bool.or_eq_true, beq_iff_eq] at this
    exact this
  · have := h4 y hy
    rcases e with e | e
    · rw [e] at this; exact own y hy this
    · rw [e] at this; exact own y hy this
def noSet : Expr → Bool
  | .Set _ _ _ => false
  | _ => true
theorem noSet_fold {e : Expr} (h : noSet e = true) (env : PySem.Env) (x : Value) : foldedSetIterable e env x = pure x := by
  cases e <;> first | rfl | (simp only [noSet, Bool.false_eq_true] at h)

/-! ### the text taken apart -/
def dName : Expr → Option Str
  | .Name x _ => some x
  | _ => none
def dConst : Expr → Option Const
  | .Constant c _ _ => some c
  | _ => none
def dTup : Expr → Option (List Expr)
  | .Tuple es _ _ => some es
  | _ => none
def dLst : Expr → Option (List Expr)
  | .List es _ => some es
  | _ => none
def dBin : Expr → Option (Expr × Operator × Expr)
  | .BinOp a o b _ => some (a, o, b)
  | _ => none
def dCmp : Expr → Option (Expr × List CmpOp × List Expr)
  | .Compare a os bs _ => some (a, os, bs)
  | _ => none
def dBool : Expr → Option (BoolOp × List Expr)
  | .BoolOp o es _ => some (o, es)
  | _ => none
def dUn : Expr → Option (UnaryOp × Expr)
  | .UnaryOp o e _ => some (o, e)
  | _ => none
def dIf : Expr → Option (Expr × Expr × Expr)
  | .IfExp c a b _ => some (c, a, b)
  | _ => none
def dSub : Expr → Option (Expr × Expr)
  | .Subscript a b _ => some (a, b)
  | _ => none
def dSlc : Expr → Option (Option Expr × Option Expr)
  | .Slice l h s _ => (match s with
    | none => some (l, h)
    | some _ => none)
  | _ => none
/-- f(..), f a name -/
def dCall : Expr → Option (Str × List Expr)
  | .Call f es ks _ => (match dName f, ks with
    | some x, [] => some (x, es)
    | _, _ => none)
  | _ => none
/-- o.m(..), on one line -/
def dMeth : Expr → Option (Expr × Str × List Expr)
  | .Call f es ks pos => (match f, ks with
    | .Attribute o m ap, [] => if ap.endLine == pos.line then some (o, m, es) else none
    | _, _ => none)
  | _ => none
def dComp : Expr → Option (Expr × Expr × Expr × List Expr × Scope)
  | .ListComp f gs scope _ => (match gs with
    | [⟨t, it, fs, k⟩] => if k = 0 then some (f, t, it, fs, scope) else none
    | _ => none)
  | _ => none
theorem dName_eq {e : Expr} {x : Str} (h : dName e = some x) : ∃ p, e = .Name x p := by
  cases e <;> simp only [dName, reduceCtorEq] at h
  cases h; exact ⟨_, rfl⟩
theorem dConst_eq {e : Expr} {x : Const} (h : dConst e = some x) : ∃ k p, e = .Constant x k p := by
  cases e <;> simp only [dConst, reduceCtorEq] at h
  cases h; exact ⟨_, _, rfl⟩
theorem dTup_eq {e : Expr} {x : List Expr} (h : dTup e = some x) : ∃ k p, e = .Tuple x k p := by
  cases e <;> simp only [dTup, reduceCtorEq] at h
  cases h; exact ⟨_, _, rfl⟩
theorem dLst_eq {e : Expr} {x : List Expr} (h : dLst e = some x) : ∃ p, e = .List x p := by
  cases e <;> simp only [dLst, reduceCtorEq] at h
  cases h; exact ⟨_, rfl⟩
theorem dBin_eq {e a b : Expr} {o : Operator} (h : dBin e = some (a, o, b)) : ∃ p, e = .BinOp a o b p := by
  cases e <;> simp only [dBin, reduceCtorEq] at h
  cases h; exact ⟨_, rfl⟩
theorem dCmp_eq {e a : Expr} {o : List CmpOp} {b : List Expr} (h : dCmp e = some (a, o, b)) : ∃ p, e = .Compare a o b p := by
  cases e <;> simp only [dCmp, reduceCtorEq] at h
  cases h; exact ⟨_, rfl⟩
theorem dBool_eq {e : Expr} {o : BoolOp} {b : List Expr} (h : dBool e = some (o, b)) : ∃ p, e = .BoolOp o b p := by
  cases e <;> simp only [dBool, reduceCtorEq] at h
  cases h; exact ⟨_, rfl⟩
theorem dUn_eq {e a : Expr} {o : UnaryOp} (h : dUn e = some (o, a)) : ∃ p, e = .UnaryOp o a p := by
  cases e <;> simp only [dUn, reduceCtorEq] at h
  cases h; exact ⟨_, rfl⟩
theorem dIf_eq {e a b c : Expr} (h : dIf e = some (a, b, c)) : ∃ p, e = .IfExp a b c p := by
  cases e <;> simp only [dIf, reduceCtorEq] at h
  cases h; exact ⟨_, rfl⟩
theorem dSub_eq {e a b : Expr} (h : dSub e = some (a, b)) : ∃ p, e = .Subscript a b p := by
  cases e <;> simp only [dSub, reduceCtorEq] at h
  cases h; exact ⟨_, rfl⟩
theorem dSlc_eq {e : Expr} {a b : Option Expr} (h : dSlc e = some (a, b)) : ∃ p, e = .Slice a b none p := by
  cases e <;> simp only [dSlc, reduceCtorEq] at h
  split at h
  · cases h; exact ⟨_, rfl⟩
  · cases h
theorem dCall_eq {e : Expr} {x : Str} {b : List Expr} (h : dCall e = some (x, b)) : ∃ p q, e = .Call (.Name x p) b [] q := by
  cases e <;> simp only [dCall, reduceCtorEq] at h
  split at h
  · rename_i e2
    cases h
    obtain ⟨p, rfl⟩ := dName_eq e2
    exact ⟨_, _, rfl⟩
  · cases h
theorem dMeth_eq {e o : Expr} {x : Str} {b : List Expr} (h : dMeth e = some (o, x, b)) : ∃ ap q, e = .Call (.Attribute o x ap) b [] q ∧ (ap.endLine == q.line) = true := by
  cases e <;> simp only [dMeth, reduceCtorEq] at h
  split at h
  · split at h
    · rename_i hl
      cases h
      exact ⟨_, _, rfl, hl⟩
    · cases h
  · cases h
theorem dComp_eq {e f t it : Expr} {fs : List Expr} {scope : Scope} (h : dComp e = some (f, t, it, fs, scope)) : ∃ q, e = .ListComp f [⟨t, it, fs, 0⟩] scope q := by
  cases e <;> simp only [dComp, reduceCtorEq] at h
  split at h
  · split at h
    · rename_i hk
      cases h
      rw [hk]
      exact ⟨_, rfl⟩
    · cases h
  · cases h
def dCall1 (x : Str) (e : Expr) : Option Expr := match dCall e with
  | some (y, [a]) => if y = x then some a else none
  | _ => none
def dCall2 (x : Str) (e : Expr) : Option (Expr × Expr) := match dCall e with
  | some (y, [a, b]) => if y = x then some (a, b) else none
  | _ => none
/-- f(g(..)) -/
def dNest (x y : Str) (e : Expr) : Option (List Expr) := match dCall1 x e with
  | some a => (match dCall a with
    | some (z, es) => if z = y then some es else none
    | none => none)
  | none => none
theorem dCall1_eq {x : Str} {e a : Expr} (h : dCall1 x e = some a) : ∃ p q, e = .Call (.Name x p) [a] [] q := by
  unfold dCall1 at h
  split at h
  · rename_i y b hc
    split at h
    · rename_i hy
      cases h
      subst hy
      exact dCall_eq hc
    · cases h
  · cases h
theorem dCall2_eq {x : Str} {e a b : Expr} (h : dCall2 x e = some (a, b)) : ∃ p q, e = .Call (.Name x p) [a, b] [] q := by
  unfold dCall2 at h
  split at h
  · rename_i y c d hc
    split at h
    · rename_i hy
      cases h
      subst hy
      exact dCall_eq hc
    · cases h
  · cases h
theorem dNest_eq {x y : Str} {e : Expr} {es : List Expr} (h : dNest x y e = some es) : ∃ p q p' q', e = .Call (.Name x p) [.Call (.Name y p') es [] q'] [] q := by
  unfold dNest at h
  split at h
  · rename_i a ha
    split at h
    · rename_i z fs hc
      split at h
      · rename_i hy
        cases h
        subst hy
        obtain ⟨p, q, rfl⟩ := dCall1_eq ha
        obtain ⟨p', q', rfl⟩ := dCall_eq hc
        exact ⟨_, _, _, _, rfl⟩
      · cases h
    · cases h
  · cases h
def dNest1 (x y : Str) (e : Expr) : Option Expr := match dNest x y e with
  | some [z] => some z
  | _ => none
theorem dNest1_eq {x y : Str} {e z : Expr} (h : dNest1 x y e = some z) : ∃ p q p' q', e = .Call (.Name x p) [.Call (.Name y p') [z] [] q'] [] q := by
  unfold dNest1 at h
  split at h
  · rename_i w hw
    cases h
    exact dNest_eq hw
  · cases h
mutual
def chk (N : List Str) : IR → Scope → Expr → Bool
  | .var i, sc, e => (match dName e with | some x => nmB sc N i x | none => false)
  | .own i, sc, e => (match dName e with | some x => nmB sc N i x | none => false)
  | .lit d, _, e => (match dConst e with | some c => litB d c | none => false)
  | .glob x _, sc, e => (match dName e with | some y => decide (x = y) && glB sc x | none => false)
  | .tup es, sc, e => (match dTup e with | some fs => chks N es sc fs && fls es | none => false)
  | .lst es, sc, e => (match dLst e with | some fs => chks N es sc fs && fls es | none => false)
  | .op o a b, sc, e => (match dBin e with | some (x, p, y) => decide (p = o.ast) && chk N a sc x && chk N b sc y | none => false)
  | .cmp o a b, sc, e => (match dCmp e with | some (x, ps, ys) => (match ps, ys with | [p], [y] => decide (p = o.ast) && chk N a sc x && chk N b sc y && noSet y | _, _ => false) | none => false)
  | .chain a b c, sc, e => (match dCmp e with | some (x, ps, ys) => (match ps, ys with | [p, p'], [y, z] => decide (p = .LtE) && decide (p' = .LtE) && chk N a sc x && chk N b sc y && chk N c sc z && noSet z | _, _ => false) | none => false)
  | .isn neg a, sc, e => (match dCmp e with | some (x, ps, ys) => (match ps, ys with | [p], [y] => decide (p = if neg then .IsNot else .Is) && decide (dConst y = some .none) && chk N a sc x | _, _ => false) | none => false)
  | .bop an es, sc, e => (match dBool e with | some (p, fs) => decide (p = bopA an) && chks N es sc fs && !fs.isEmpty | none => false)
  | .nt a, sc, e => (match dUn e with | some (o, x) => decide (o = .Not) && chk N a sc x | none => false)
  | .ite c a b, sc, e => (match dIf e with | some (x, y, z) => chk N c sc x && chk N a sc y && chk N b sc z | none => false)
  | .idx a b, sc, e => (match dSub e with | some (x, y) => chk N a sc x && chk N b sc y && ixB y | none => false)
  | .slc a lo hi, sc, e => (match dSub e with | some (x, y) => (match dSlc y with | some (l, h) => chk N a sc x && chko N lo sc l && chko N hi sc h | none => false) | none => false)
  | .call g es, sc, e => (match dCall e with | some (x, fs) => decide (x = g.name) && glB sc x && chks N es sc fs && fls es && !fs.isEmpty | none => false)
  | .callv i _ es, sc, e => (match dCall e with | some (x, fs) => nmB sc N i x && chks N es sc fs && fls es && !fs.isEmpty | none => false)
  | .bi b es, sc, e => (match dCall e with | some (x, fs) => decide (x = b.name) && glB sc x && chks N es sc fs && !fs.isEmpty | none => false)
  | .isi t a, sc, e => (match dCall2 "isinstance" e with | some (y, z) => decide (dName z = some t.name) && glB sc "isinstance" && glB sc t.name && chk N a sc y && nst y | none => false)
  | .lens a, sc, e => (match dNest1 "len" "set" e with | some z => chk N a sc z && nst z && glB sc "len" && glB sc "set" | none => false)
  | .join z a, sc, e => (match dMeth e with | some (o, m, fs) => (match fs with | [y] => decide (m = "join") && chk N z sc o && chk N a sc y && nst y && baseB o | _ => false) | none => false)
  | .rng _, _, _ => false
  | .lrng es, sc, e => (match dNest "list" "range" e with | some gs => chks N es sc gs && glB sc "list" && glB sc "range" && decide (gs.length = 1) | none => false)
  | .tlen i, sc, e => (match dCall1 "len" e with | some y => (match dName y with | some z => glB sc "len" && nmB sc N i z | none => false) | none => false)
  | .comp elt tg it ifs vs, sc, e => (match dComp e with
    | some (f, t, iter, fs, scope) => blkB N sc scope vs && chkT (relS scope sc) (fun x => scope.names.lookup x == some .cell) N tg t && tg.sl.all (fun i => vs.contains i) && chks N ifs (relS scope sc) fs && decide (ifs.length ≤ 1) && chk N elt (relS scope sc) f && elt.fl && noSet iter &&
      (match it with
      | .rng es => (match dCall iter with | some (y, zs) => decide (y = "range") && glB sc y && chks N es sc zs && decide (zs.length = 1 ∨ zs.length = 2) | none => false)
      | it => chk N it sc iter)
    | none => false)
def chks (N : List Str) : List IR → Scope → List Expr → Bool
  | [], _, es => es.isEmpty
  | a :: as, sc, es => (match es with | e :: es => chk N a sc e && nst e && chks N as sc es | [] => false)
def chko (N : List Str) : Option IR → Scope → Option Expr → Bool
  | none, _, e => e.isNone
  | some a, sc, e => (match e with | some e => chk N a sc e | none => false)
end
def chki (N : List Str) (it : IR) (sc : Scope) (iter : Expr) : Bool := noSet iter && (match it with
  | .rng es => (match dCall iter with | some (y, zs) => decide (y = "range") && glB sc y && chks N es sc zs && decide (zs.length = 1 ∨ zs.length = 2) | none => false)
  | it => chk N it sc iter)
end Ss
/-! Ss, part I: every expression does what the evaluator says. -/
namespace Ss
open PySem PySem.Spec PyProof.Rows L2
mutual
/-- all defs and constants that are named in it are good -/
def IR.ok (g : Gd) (L : Nat) : IR → Prop
  | .var _ => True
  | .own _ => True
  | .lit _ => True
  | .glob x d => GlG g x d
  | .tup es => oks g L es
  | .lst es => oks g L es
  | .op _ a b => a.ok g L ∧ b.ok g L
  | .cmp _ a b => a.ok g L ∧ b.ok g L
  | .chain a b c => a.ok g L ∧ b.ok g L ∧ c.ok g L
  | .isn _ a => a.ok g L
  | .bop _ es => oks g L es
  | .nt a => a.ok g L
  | .ite c a b => c.ok g L ∧ a.ok g L ∧ b.ok g L
  | .idx a b => a.ok g L ∧ b.ok g L
  | .slc a lo hi => a.ok g L ∧ oko g L lo ∧ oko g L hi
  | .call f es => FnG g L f ∧ oks g L es
  | .callv _ gs es => (∀ f ∈ gs, FnG g L f) ∧ oks g L es
  | .bi _ es => oks g L es
  | .isi _ a => a.ok g L
  | .lens a => a.ok g L
  | .join z a => z.ok g L ∧ a.ok g L
  | .rng es => oks g L es
  | .lrng es => oks g L es
  | .tlen _ => True
  | .comp elt _ it ifs _ => elt.ok g L ∧ it.ok g L ∧ oks g L ifs
def oks (g : Gd) (L : Nat) : List IR → Prop
  | [] => True
  | a :: as => a.ok g L ∧ oks g L as
def oko (g : Gd) (L : Nat) : Option IR → Prop
  | none => True
  | some a => a.ok g L
end
def OkE (g : Gd) (L : Nat) (a : IR) : Prop := ∀ (X : Cx) (W : WX) (sc : Scope) (fb : Str → Bool) (N : List Str) (B : Bs) (e : Expr), Gud g X W sc fb N L → chk N a sc e = true →
  PE X e (tI g B W a.kd fun ρ => ev a ρ) ∧ PT X e (tT g B W fun ρ => truM (ev a ρ))
def OkEs (g : Gd) (L : Nat) (as : List IR) : Prop := ∀ (X : Cx) (W : WX) (sc : Scope) (fb : Str → Bool) (N : List Str) (B : Bs) (es : List Expr), Gud g X W sc fb N L → chks N as sc es = true →
  nsts es = true ∧ es.length = as.length ∧ PA X es (tIs g B W .shal fun ρ => evs as ρ) ∧ (fls as = true → PA X es (tIs g B W .full fun ρ => evs as ρ)) ∧
  (es ≠ [] → ∀ an pos, PE X (.BoolOp (bopA an) es pos) (tI g B W .shal fun ρ => evb an as ρ) ∧ (fls as = true → PE X (.BoolOp (bopA an) es pos) (tI g B W .full fun ρ => evb an as ρ)) ∧ PW X (.BoolOp (bopA an) es pos) (tT g B W fun ρ => truM (evb an as ρ)))
def OkO (g : Gd) (L : Nat) (a : Option IR) : Prop := ∀ (X : Cx) (W : WX) (sc : Scope) (fb : Str → Bool) (N : List Str) (B : Bs) (e : Option Expr), Gud g X W sc fb N L → chko N a sc e = true → PO X e (tO g B W fun ρ => evo a ρ)
section
variable {g : Gd} {X : Cx} {W : WX} {sc : Scope} {fb : Str → Bool} {N : List Str} {L : Nat} {B : Bs}
theorem kd_fl {a : IR} (h : a.fl = true) : a.kd ≠ .shal := by
  unfold IR.kd
  rw [h]
  split
  · intro z; cases z
  · intro z; cases z
theorem kd_full {a : IR} (h : a.fl = true) (n : a.isNew = false) : a.kd = .full := by
  unfold IR.kd
  rw [h, n]; rfl
theorem OkE.s {a : IR} (h : OkE g L a) {e : Expr} (G : Gud g X W sc fb N L) (c : chk N a sc e = true) : PE X e (tI g B W .shal fun ρ => ev a ρ) := pe_shal (h X W sc fb N B e G c).1
theorem OkE.f {a : IR} (h : OkE g L a) {e : Expr} (G : Gud g X W sc fb N L) (c : chk N a sc e = true) (f : a.fl = true) : PE X e (tI g B W .full fun ρ => ev a ρ) := pe_full (h X W sc fb N B e G c).1 (kd_fl f)
theorem OkE.t {a : IR} (h : OkE g L a) {e : Expr} (G : Gud g X W sc fb N L) (c : chk N a sc e = true) : PT X e (tT g B W fun ρ => truM (ev a ρ)) := (h X W sc fb N B e G c).2
theorem Gud.pt (G : Gud g X W sc fb N L) {e : Expr} {kd : Kd} {f : Ss.Env → M D} (h : PE X e (tI g B W kd f)) (he : ∀ whole, isTrue e X.env whole = (do let v ← whole; standAt e.pos; holding [v] (truthy v))) : PT X e (tT g B W fun ρ => truM (f ρ)) := by
  obtain rfl := G.gd
  exact pt_of h he
theorem ba2 {a b : Bool} (h : (a && b) = true) : a = true ∧ b = true := Bool.and_eq_true_iff.mp h

theorem ok_var {i : Nat} : OkE g L (.var i) := fun X W sc fb N B e G c => by
  simp only [chk] at c
  cases hd : dName e with
  | none => rw [hd] at c; cases c
  | some x =>
    rw [hd] at c
    obtain ⟨p, rfl⟩ := dName_eq hd
    simp only [ev]
    exact ⟨se_var G c, G.pt (se_var G c) fun _ => rfl⟩
theorem ok_own {i : Nat} : OkE g L (.own i) := fun X W sc fb N B e G c => by
  simp only [chk] at c
  cases hd : dName e with
  | none => rw [hd] at c; cases c
  | some x =>
    rw [hd] at c
    obtain ⟨p, rfl⟩ := dName_eq hd
    simp only [ev]
    exact ⟨se_own G c, G.pt (se_own G c) fun _ => rfl⟩
theorem ok_lit {d : D} : OkE g L (.lit d) := fun X W sc fb N B e G c => by
  simp only [chk] at c
  cases hd : dConst e with
  | none => rw [hd] at c; cases c
  | some x =>
    rw [hd] at c
    obtain ⟨k, p, rfl⟩ := dConst_eq hd
    simp only [ev]
    exact ⟨se_lit c, G.pt (se_lit c) fun _ => rfl⟩
theorem ok_glob {x : Str} {d : D} (h : GlG g x d) : OkE g L (.glob x d) := fun X W sc fb N B e G c => by
  simp only [chk] at c
  cases hd : dName e with
  | none => rw [hd] at c; cases c
  | some y =>
    rw [hd] at c
    obtain ⟨c1, c2⟩ := ba2 c
    have := of_decide_eq_true c1
    subst this
    obtain ⟨p, rfl⟩ := dName_eq hd
    simp only [ev]
    exact ⟨se_glob G h c2, G.pt (se_glob G h c2) fun _ => rfl⟩
theorem ok_tup {es : List IR} (h : OkEs g L es) : OkE g L (.tup es) := fun X W sc fb N B e G c => by
  simp only [chk] at c
  cases hd : dTup e with
  | none => rw [hd] at c; cases c
  | some fs =>
    rw [hd] at c
    obtain ⟨c1, c2⟩ := ba2 c
    obtain ⟨k, p, rfl⟩ := dTup_eq hd
    simp only [ev]
    have q := se_tup (j := k) (pos := p) ((h X W sc fb N B fs G c1).2.2.2.1 c2)
    exact ⟨q, G.pt q fun _ => rfl⟩
theorem ok_lst {es : List IR} (h : OkEs g L es) : OkE g L (.lst es) := fun X W sc fb N B e G c => by
  simp only [chk] at c
  cases hd : dLst e with
  | none => rw [hd] at c; cases c
  | some fs =>
    rw [hd] at c
    obtain ⟨c1, c2⟩ := ba2 c
    obtain ⟨p, rfl⟩ := dLst_eq hd
    simp only [ev]
    have q := se_lst (pos := p) ((h X W sc fb N B fs G c1).2.2.2.1 c2)
    exact ⟨q, G.pt q fun _ => rfl⟩
theorem ok_op {o : Op} {a b : IR} (ha : OkE g L a) (hb : OkE g L b) : OkE g L (.op o a b) := fun X W sc fb N B e G c => by
  simp only [chk] at c
  cases hd : dBin e with
  | none => rw [hd] at c; cases c
  | some t =>
    obtain ⟨x, p, y⟩ := t
    rw [hd] at c
    obtain ⟨c12, c3⟩ := ba2 c
    obtain ⟨c1, c2⟩ := ba2 c12
    have := of_decide_eq_true c1
    subst this
    obtain ⟨pos, rfl⟩ := dBin_eq hd
    simp only [ev]
    have q := se_op (B := B) (o := o) (pos := pos) G (ha.s G c2) (hb.s G c3)
    exact ⟨q, G.pt q fun _ => rfl⟩
theorem noSet_in {o : CmpOp} {b : Expr} (h : noSet b = true) : behindInMarks o b = false := by
  cases b <;> first | rfl | (simp only [noSet, Bool.false_eq_true] at h)
theorem ok_cmp {o : Cm} {a b : IR} (ha : OkE g L a) (hb : OkE g L b) : OkE g L (.cmp o a b) := fun X W sc fb N B e G c => by
  simp only [chk] at c
  cases hd : dCmp e with
  | none => rw [hd] at c; cases c
  | some t =>
    obtain ⟨x, ps, ys⟩ := t
    rw [hd] at c
    match ps, ys, hd, c with
    | [p], [y], hd, c =>
      obtain ⟨c123, c4⟩ := ba2 c
      obtain ⟨c12, c3⟩ := ba2 c123
      obtain ⟨c1, c2⟩ := ba2 c12
      have := of_decide_eq_true c1
      subst this
      obtain ⟨pos, rfl⟩ := dCmp_eq hd
      simp only [ev]
      exact se_cmp G (ha.s G c2) (hb.s G c3) (noSet_in c4)
theorem ok_chain {a b c : IR} (ha : OkE g L a) (hb : OkE g L b) (hc : OkE g L c) : OkE g L (.chain a b c) := fun X W sc fb N B e G k => by
  simp only [chk] at k
  cases hd : dCmp e with
  | none => rw [hd] at k; cases k
  | some t =>
    obtain ⟨x, ps, ys⟩ := t
    rw [hd] at k
    match ps, ys, hd, k with
    | [p, p'], [y, z], hd, k =>
      obtain ⟨k, k6⟩ := ba2 k
      obtain ⟨k, k5⟩ := ba2 k
      obtain ⟨k, k4⟩ := ba2 k
      obtain ⟨k, k3⟩ := ba2 k
      obtain ⟨k1, k2⟩ := ba2 k
      have := of_decide_eq_true k1
      subst this
      have := of_decide_eq_true k2
      subst this
      obtain ⟨pos, rfl⟩ := dCmp_eq hd
      simp only [ev]
      refine se_chain G (ha.s G k3) (hb.s G k4) (hc.s G k5) ?_
      show behindInMarks _ z = false
      exact noSet_in k6
theorem ok_isn {neg : Bool} {a : IR} (ha : OkE g L a) : OkE g L (.isn neg a) := fun X W sc fb N B e G k => by
  simp only [chk] at k
  cases hd : dCmp e with
  | none => rw [hd] at k; cases k
  | some t =>
    obtain ⟨x, ps, ys⟩ := t
    rw [hd] at k
    match ps, ys, hd, k with
    | [p], [y], hd, k =>
      obtain ⟨k, k3⟩ := ba2 k
      obtain ⟨k1, k2⟩ := ba2 k
      have := of_decide_eq_true k1
      subst this
      obtain ⟨j, p', rfl⟩ := dConst_eq (of_decide_eq_true k2)
      obtain ⟨pos, rfl⟩ := dCmp_eq hd
      simp only [ev]
      exact se_isn G (ha.s G k3)
theorem ok_bop {an : Bool} {es : List IR} (h : OkEs g L es) : OkE g L (.bop an es) := fun X W sc fb N B e G k => by
  simp only [chk] at k
  cases hd : dBool e with
  | none => rw [hd] at k; cases k
  | some t =>
    obtain ⟨p, fs⟩ := t
    rw [hd] at k
    obtain ⟨k, k3⟩ := ba2 k
    obtain ⟨k1, k2⟩ := ba2 k
    have := of_decide_eq_true k1
    subst this
    obtain ⟨pos, rfl⟩ := dBool_eq hd
    simp only [ev]
    obtain ⟨q1, q2, q3⟩ := (h X W sc fb N B fs G k2).2.2.2.2 (by intro z; rw [z] at k3; cases k3) an pos
    refine ⟨?_, q3.pt⟩
    cases hf : fls es with
    | true =>
      have : (IR.bop an es).kd = .full := kd_full (by simp only [IR.fl]; exact hf) rfl
      rw [this]
      exact q2 hf
    | false =>
      have : (IR.bop an es).kd = .shal := by
        unfold IR.kd
        simp only [IR.fl, IR.isNew, hf]
        rfl
      rw [this]
      exact q1
theorem ok_nt {a : IR} (ha : OkE g L a) : OkE g L (.nt a) := fun X W sc fb N B e G k => by
  simp only [chk] at k
  cases hd : dUn e with
  | none => rw [hd] at k; cases k
  | some t =>
    obtain ⟨o, x⟩ := t
    rw [hd] at k
    obtain ⟨k1, k2⟩ := ba2 k
    have := of_decide_eq_true k1
    subst this
    obtain ⟨pos, rfl⟩ := dUn_eq hd
    simp only [ev]
    exact se_not G (ha.s G k2) (ha.t G k2)
theorem pt_ite {c a b : Expr} {fc fa fb' : Ss.Env → M D} {pos : Pos} (hc : PT X c (tT g B W fun ρ => truM (fc ρ))) (ha : PT X a (tT g B W fun ρ => truM (fa ρ))) (hb : PT X b (tT g B W fun ρ => truM (fb' ρ))) :
    PT X (.IfExp c a b pos) (tT g B W fun ρ => truM (bnd (fc ρ) fun x => bnd (lft (tru x)) fun k => if k then fa ρ else fb' ρ)) := by
  refine ⟨fun pins s σ H Q I q => ?_⟩
  obtain ⟨ρ, F, T, n, R, q⟩ := q
  have e : truM (bnd (fc ρ) fun x => bnd (lft (tru x)) fun k => if k then fa ρ else fb' ρ) = bnd (truM (fc ρ)) fun k => if k then truM (fa ρ) else truM (fb' ρ) := by
    unfold truM
    rw [bnd_assoc, bnd_assoc]
    congr 1
    funext x
    rw [bnd_assoc]
    congr 1
    funext k
    cases k <;> rfl
  dsimp only at q
  rw [e] at q
  have h : tT g B W (fun ρ => truM (fc ρ)) σ H (fun k H1 => if k = true then tT g B W (fun ρ => truM (fa ρ)) σ H1 Q else tT g B W (fun ρ => truM (fb' ρ)) σ H1 Q) := by
    refine ⟨ρ, F, T, n, R, q.bnd.mono fun k n1 H1 F1 e1 t1 q1 => ?_⟩
    have R1 := R.step e1 t1
    cases k with
    | true => exact ⟨ρ, F1, T, n1, R1, q1⟩
    | false => exact ⟨ρ, F1, T, n1, R1, q1⟩
  refine PyProof.Rows.isTrue_IfExp (thn (hc.run pins s σ H _ I h) fun k s1 ⟨H1, I1, q1⟩ => ?_)
  cases k with
  | true => exact ha.run pins s1 σ H1 Q I1 q1
  | false => exact hb.run pins s1 σ H1 Q I1 q1
theorem ok_ite {c a b : IR} (hc : OkE g L c) (ha : OkE g L a) (hb : OkE g L b) : OkE g L (.ite c a b) := fun X W sc fb N B e G k => by
  simp only [chk] at k
  cases hd : dIf e with
  | none => rw [hd] at k; cases k
  | some t =>
    obtain ⟨x, y, z⟩ := t
    rw [hd] at k
    obtain ⟨k, k3⟩ := ba2 k
    obtain ⟨k1, k2⟩ := ba2 k
    obtain ⟨pos, rfl⟩ := dIf_eq hd
    simp only [ev]
    have main : ∀ kd, (kd = .full ∨ kd = .shal) → PE X y (tI g B W kd fun ρ => ev a ρ) → PE X z (tI g B W kd fun ρ => ev b ρ) →
        PE X (.IfExp x y z pos) (tI g B W kd fun ρ => bnd (ev c ρ) fun x => bnd (lft (tru x)) fun k => if k then ev a ρ else ev b ρ) := fun kd hk h1 h2 => se_ite hk (hc.t G k1) h1 h2
    cases hf : (a.fl && b.fl) with
    | true =>
      obtain ⟨f1, f2⟩ := ba2 hf
      have : (IR.ite c a b).kd = .full := kd_full (by simp only [IR.fl]; exact hf) rfl
      rw [this]
      exact ⟨main .full (.inl rfl) (ha.f G k2 f1) (hb.f G k3 f2), pt_ite (hc.t G k1) (ha.t G k2) (hb.t G k3)⟩
    | false =>
      have : (IR.ite c a b).kd = .shal := by
        unfold IR.kd
        simp only [IR.fl, IR.isNew, hf]
        rfl
      rw [this]
      exact ⟨main .shal (.inr rfl) (ha.s G k2) (hb.s G k3), pt_ite (hc.t G k1) (ha.t G k2) (hb.t G k3)⟩
theorem ok_idx {a b : IR} (ha : OkE g L a) (hb : OkE g L b) : OkE g L (.idx a b) := fun X W sc fb N B e G k => by
  simp only [chk] at k
  cases hd : dSub e with
  | none => rw [hd] at k; cases k
  | some t =>
    obtain ⟨x, y⟩ := t
    rw [hd] at k
    obtain ⟨k, k3⟩ := ba2 k
    obtain ⟨k1, k2⟩ := ba2 k
    obtain ⟨pos, rfl⟩ := dSub_eq hd
    simp only [ev]
    have q := se_idx (B := B) (pos := pos) G (ha.s G k1) (hb.s G k2) k3
    exact ⟨q, G.pt q fun _ => rfl⟩
theorem ok_slc {a : IR} {lo hi : Option IR} (ha : OkE g L a) (hl : OkO g L lo) (hh : OkO g L hi) : OkE g L (.slc a lo hi) := fun X W sc fb N B e G k => by
  simp only [chk] at k
  cases hd : dSub e with
  | none => rw [hd] at k; cases k
  | some t =>
    obtain ⟨x, y⟩ := t
    rw [hd] at k
    dsimp only at k
    cases hs : dSlc y with
    | none => rw [hs] at k; cases k
    | some t =>
      obtain ⟨l, h⟩ := t
      rw [hs] at k
      obtain ⟨k, k3⟩ := ba2 k
      obtain ⟨k1, k2⟩ := ba2 k
      obtain ⟨pos, rfl⟩ := dSub_eq hd
      obtain ⟨p2, rfl⟩ := dSlc_eq hs
      simp only [ev]
      have q := se_slc (B := B) (pos := pos) (p2 := p2) G (ha.s G k1) (hl X W sc fb N B l G k2) (hh X W sc fb N B h G k3)
      exact ⟨q, G.pt q fun _ => rfl⟩
theorem ok_call {f : Fn} (hf : FnG g L f) {es : List IR} (h : OkEs g L es) : OkE g L (.call f es) := fun X W sc fb N B e G k => by
  simp only [chk] at k
  cases hd : dCall e with
  | none => rw [hd] at k; cases k
  | some t =>
    obtain ⟨x, fs⟩ := t
    rw [hd] at k
    obtain ⟨k, k5⟩ := ba2 k
    obtain ⟨k, k4⟩ := ba2 k
    obtain ⟨k, k3⟩ := ba2 k
    obtain ⟨k1, k2⟩ := ba2 k
    have := of_decide_eq_true k1
    subst this
    obtain ⟨p, pos, rfl⟩ := dCall_eq hd
    simp only [ev]
    obtain ⟨h1, _, _, h4, _⟩ := h X W sc fb N B fs G k3
    cases fs with
    | nil => cases k5
    | cons a r =>
      have q := se_call (B := B) (p := p) (pos := pos) G hf (h4 k4) h1 k2
      exact ⟨q, G.pt q fun _ => rfl⟩
theorem ok_callv {i : Nat} {gs : List Fn} (hf : ∀ f ∈ gs, FnG g L f) {es : List IR} (h : OkEs g L es) : OkE g L (.callv i gs es) := fun X W sc fb N B e G k => by
  simp only [chk] at k
  cases hd : dCall e with
  | none => rw [hd] at k; cases k
  | some t =>
    obtain ⟨x, fs⟩ := t
    rw [hd] at k
    obtain ⟨k, k5⟩ := ba2 k
    obtain ⟨k, k4⟩ := ba2 k
    obtain ⟨k1, k3⟩ := ba2 k
    obtain ⟨p, pos, rfl⟩ := dCall_eq hd
    simp only [ev]
    obtain ⟨h1, _, _, h4, _⟩ := h X W sc fb N B fs G k3
    cases fs with
    | nil => cases k5
    | cons a r =>
      have q := se_callv (B := B) (p := p) (pos := pos) G hf (h4 k4) h1 k1
      exact ⟨q, G.pt q fun _ => rfl⟩
theorem ok_bi {b : Bi} {es : List IR} (h : OkEs g L es) : OkE g L (.bi b es) := fun X W sc fb N B e G k => by
  simp only [chk] at k
  cases hd : dCall e with
  | none => rw [hd] at k; cases k
  | some t =>
    obtain ⟨x, fs⟩ := t
    rw [hd] at k
    obtain ⟨k, k5⟩ := ba2 k
    obtain ⟨k, k3⟩ := ba2 k
    obtain ⟨k1, k2⟩ := ba2 k
    have := of_decide_eq_true k1
    subst this
    obtain ⟨p, pos, rfl⟩ := dCall_eq hd
    simp only [ev]
    obtain ⟨h1, _, h3, _, _⟩ := h X W sc fb N B fs G k3
    cases fs with
    | nil => cases k5
    | cons a r =>
      have q := se_bi (B := B) (b := b) (p := p) (pos := pos) G h3 h1 k2
      have e : (IR.bi b es).kd = b.kd := by cases b <;> rfl
      rw [e]
      exact ⟨q, G.pt q fun _ => rfl⟩
theorem ok_isi {t : Ty} {a : IR} (ha : OkE g L a) : OkE g L (.isi t a) := fun X W sc fb N B e G k => by
  simp only [chk] at k
  cases hd : dCall2 "isinstance" e with
  | none => rw [hd] at k; cases k
  | some p =>
    obtain ⟨y, z⟩ := p
    rw [hd] at k
    obtain ⟨k, k5⟩ := ba2 k
    obtain ⟨k, k4⟩ := ba2 k
    obtain ⟨k, k3⟩ := ba2 k
    obtain ⟨k1, k2⟩ := ba2 k
    obtain ⟨p2, rfl⟩ := dName_eq (of_decide_eq_true k1)
    obtain ⟨p, pos, rfl⟩ := dCall2_eq hd
    simp only [ev]
    have q := se_isi (B := B) (t := t) (p := p) (p2 := p2) (pos := pos) G (ha.s G k4) k5 k2 k3
    exact ⟨q, G.pt q fun _ => rfl⟩
theorem ok_lens {a : IR} (ha : OkE g L a) : OkE g L (.lens a) := fun X W sc fb N B e G k => by
  simp only [chk] at k
  cases hd : dNest1 "len" "set" e with
  | none => rw [hd] at k; cases k
  | some z =>
    rw [hd] at k
    obtain ⟨k, k4⟩ := ba2 k
    obtain ⟨k, k3⟩ := ba2 k
    obtain ⟨k1, k2⟩ := ba2 k
    obtain ⟨p, pos, p2, q2, rfl⟩ := dNest1_eq hd
    simp only [ev]
    have q := se_lens (B := B) (p := p) (p2 := p2) (q := q2) (pos := pos) G (ha.s G k1) k2 k3 k4
    exact ⟨q, G.pt q fun _ => rfl⟩
theorem ok_join {z a : IR} (hz : OkE g L z) (ha : OkE g L a) : OkE g L (.join z a) := fun X W sc fb N B e G k => by
  simp only [chk] at k
  cases hd : dMeth e with
  | none => rw [hd] at k; cases k
  | some t =>
    obtain ⟨o, m, fs⟩ := t
    rw [hd] at k
    match fs, hd, k with
    | [y], hd, k =>
      obtain ⟨k, k5⟩ := ba2 k
      obtain ⟨k, k4⟩ := ba2 k
      obtain ⟨k, k3⟩ := ba2 k
      obtain ⟨k1, k2⟩ := ba2 k
      have := of_decide_eq_true k1
      subst this
      obtain ⟨ap, pos, rfl, hl⟩ := dMeth_eq hd
      simp only [ev]
      have q := se_join (B := B) (apos := ap) (pos := pos) (hz.s G k2) (ha.s G k3) k4 k5 hl
      exact ⟨q, G.pt q fun _ => rfl⟩
theorem ok_tlen {i : Nat} : OkE g L (.tlen i) := fun X W sc fb N B e G k => by
  simp only [chk] at k
  cases hd : dCall1 "len" e with
  | none => rw [hd] at k; cases k
  | some y =>
    rw [hd] at k
    dsimp only at k
    cases hn : dName y with
    | none => rw [hn] at k; cases k
    | some z =>
      rw [hn] at k
      obtain ⟨k1, k2⟩ := ba2 k
      obtain ⟨p2, rfl⟩ := dName_eq hn
      obtain ⟨p, pos, rfl⟩ := dCall1_eq hd
      simp only [ev]
      have q := se_tlen (B := B) (p := p) (p2 := p2) (pos := pos) G k2 k1
      exact ⟨q, G.pt q fun _ => rfl⟩
theorem ok_nil : OkEs g L [] := fun X W sc fb N B es G k => by
  simp only [chks] at k
  cases es with
  | nil =>
    simp only [evs]
    exact ⟨rfl, rfl, sa_nil, fun _ => sa_nil, fun z => absurd rfl z⟩
  | cons _ _ => cases k
theorem ok_cons {a : IR} {as : List IR} (ha : OkE g L a) (has : OkEs g L as) : OkEs g L (a :: as) := fun X W sc fb N B es G k => by
  simp only [chks] at k
  cases es with
  | nil => cases k
  | cons e es =>
    obtain ⟨k, k3⟩ := ba2 k
    obtain ⟨k1, k2⟩ := ba2 k
    obtain ⟨h1, h2, h3, h4, h5⟩ := has X W sc fb N B es G k3
    refine ⟨?_, by simp [h2], ?_, ?_, ?_⟩
    · simp only [nsts, List.all_cons, Bool.and_eq_true]; exact ⟨k2, h1⟩
    · simp only [evs]
      exact sa_cons (ha.s G k1) (.inr rfl) h3 k2
    · intro f
      simp only [fls] at f
      obtain ⟨f1, f2⟩ := ba2 f
      simp only [evs]
      exact sa_cons (ha.f G k1 f1) (.inl rfl) (h4 f2) k2
    · intro _ an pos
      cases as with
      | nil =>
        have : es = [] := by cases es with
          | nil => rfl
          | cons _ _ => simp at h2
        subst this
        simp only [evb]
        refine ⟨se_bop1 (ha.s G k1), fun f => ?_, sw_bop1 (ha.t G k1)⟩
        simp only [fls] at f
        exact se_bop1 (ha.f G k1 (ba2 f).1)
      | cons b bs =>
        cases es with
        | nil => simp at h2
        | cons e2 es2 =>
          obtain ⟨q1, q2, q3⟩ := h5 (by simp) an pos
          simp only [evb]
          refine ⟨se_bop G (.inr rfl) (ha.s G k1) q1, fun f => ?_, sw_bop (ha.t G k1) q3⟩
          simp only [fls] at f
          obtain ⟨f1, f2⟩ := ba2 f
          exact se_bop G (.inl rfl) (ha.f G k1 f1) (q2 (by simp only [fls]; exact f2))
theorem ok_lrng {es : List IR} (h : oks g L es) (all : ∀ a ∈ es, OkE g L a) : OkE g L (.lrng es) := fun X W sc fb N B e G k => by
  simp only [chk] at k
  cases hd : dNest "list" "range" e with
  | none => rw [hd] at k; cases k
  | some gs =>
    rw [hd] at k
    obtain ⟨k, k4⟩ := ba2 k
    obtain ⟨k, k3⟩ := ba2 k
    obtain ⟨k1, k2⟩ := ba2 k
    obtain ⟨p, pos, p2, q2, rfl⟩ := dNest_eq hd
    have l := of_decide_eq_true k4
    match gs, l, k1 with
    | [z], l, k1 =>
      cases es with
      | nil => simp [chks] at k1
      | cons a as =>
        simp only [chks] at k1
        obtain ⟨k5, k6⟩ := ba2 k1
        obtain ⟨k7, k8⟩ := ba2 k5
        cases as with
        | cons b bs => simp [chks] at k6
        | nil =>
          simp only [ev, evs]
          have q := se_lrng1 (B := B) (p := p) (p2 := p2) (q := q2) (pos := pos) G ((all a (by simp)).s G k7) k8 k2 k3
          exact ⟨q, G.pt q fun _ => rfl⟩
theorem ok_none : OkO g L none := fun X W sc fb N B e G k => by
  simp only [chko] at k
  cases e with
  | none => simp only [evo]; exact so_none
  | some _ => cases k
theorem ok_some {a : IR} (ha : OkE g L a) : OkO g L (some a) := fun X W sc fb N B e G k => by
  simp only [chko] at k
  cases e with
  | none => cases k
  | some e => simp only [evo]; exact so_some (ha.s G k)
/-- what is walked -/
theorem ok_it {it : IR} (hi : OkE g L it) (hes : ∀ es, it = .rng es → ∀ a ∈ es, OkE g L a) {st : Bool} (hst : st = true → it.fl = true) {tgE iter : Expr} (G : Gud g X W sc fb N L) (k : chki N it sc iter = true) :
    PI X tgE iter (iI g B W st fun ρ => evi it ρ) := by
  unfold chki at k
  obtain ⟨_, k⟩ := ba2 k
  have plain : chk N it sc iter = true → PI X tgE iter (iI g B W st fun ρ => bnd (ev it ρ) fun x => lft (items x)) := fun k => by
    cases st with
    | false => exact si_seq G (hi.s G k) false (fun z => nomatch z)
    | true => exact si_seq G (hi.f G k (hst rfl)) true (fun _ => rfl)
  cases it with
  | rng es =>
    dsimp only at k
    cases hd : dCall iter with
    | none => rw [hd] at k; cases k
    | some t =>
      obtain ⟨y, zs⟩ := t
      rw [hd] at k
      obtain ⟨k, k4⟩ := ba2 k
      obtain ⟨k, k3⟩ := ba2 k
      obtain ⟨k1, k2⟩ := ba2 k
      have := of_decide_eq_true k1
      subst this
      obtain ⟨p, pos, rfl⟩ := dCall_eq hd
      have l := of_decide_eq_true k4
      have hes := hes es rfl
      simp only [evi]
      match zs, l, k3 with
      | [z], _, k3 =>
        cases es with
        | nil => simp [chks] at k3
        | cons a as =>
          simp only [chks] at k3
          obtain ⟨k5, k6⟩ := ba2 k3
          obtain ⟨k7, k8⟩ := ba2 k5
          cases as with
          | cons b bs => simp [chks] at k6
          | nil =>
            simp only [evs]
            exact si_rng1 G ((hes a (by simp)).s G k7) k8 k2
      | [z, z'], _, k3 =>
        cases es with
        | nil => simp [chks] at k3
        | cons a as =>
          simp only [chks] at k3
          obtain ⟨k5, k6⟩ := ba2 k3
          obtain ⟨k7, k8⟩ := ba2 k5
          cases as with
          | nil => simp [chks] at k6
          | cons b bs =>
            simp only [chks] at k6
            obtain ⟨k9, k10⟩ := ba2 k6
            obtain ⟨k11, k12⟩ := ba2 k9
            cases bs with
            | cons b bs => simp [chks] at k10
            | nil =>
              simp only [evs]
              exact si_rng2 G ((hes a (by simp)).s G k7) ((hes b (by simp)).s G k11) k8 k12 k2
      | [], l, _ => simp at l
      | _ :: _ :: _ :: _, l, _ => simp at l
  | _ => exact plain k
theorem pts_of {ifs : List IR} {fs : List Expr} (h : OkEs g L ifs) (hl : ifs.length ≤ 1) (all : ∀ a ∈ ifs, OkE g L a) (G : Gud g X W sc fb N L) (k : chks N ifs sc fs = true) : PTs X fs (tT g B W fun ρ => truM (evb true ifs ρ)) := by
  cases ifs with
  | nil =>
    simp only [chks] at k
    cases fs with
    | cons _ _ => cases k
    | nil =>
      refine ⟨fun pins s σ H Q I q => ?_⟩
      refine pts_nil.run pins s σ H Q I ?_
      obtain ⟨ρ, F, T, n, R, q⟩ := q
      simp only [evb] at q
      exact q H F Ev.refl R.tw
  | cons a as =>
    cases as with
    | cons _ _ => simp at hl
    | nil =>
      simp only [chks] at k
      cases fs with
      | nil => cases k
      | cons f fs =>
        obtain ⟨k1, k2⟩ := ba2 k
        cases fs with
        | cons _ _ => simp [chks] at k2
        | nil =>
          simp only [evb]
          exact pts_one ((all a (by simp)).t G (ba2 k1).1)
/-- the parts of a comprehension -/
structure CmpOk (g : Gd) (L : Nat) (elt it : IR) (ifs : List IR) : Prop where
  e : OkE g L elt
  i : OkE g L it
  r : ∀ es, it = .rng es → ∀ a ∈ es, OkE g L a
  f : OkEs g L ifs
  fa : ∀ a ∈ ifs, OkE g L a
theorem lcF_eq {elt : IR} {tg : Tg} {it : IR} {ifs : List IR} {vs : List Nat} {ρ : Ss.Env} : ev (.comp elt tg it ifs vs) ρ = bnd (evi it ρ) fun ds => bnd (lcs (lcF tg (fun ρ => evb true ifs ρ) (fun ρ => ev elt ρ) (wip ρ vs)) ds) fun xs => ret (.lst xs) := by
  cases it <;> simp only [ev, evi] <;> rfl
theorem ok_comp {elt : IR} {tg : Tg} {it : IR} {ifs : List IR} {vs : List Nat} (h : CmpOk g L elt it ifs) : OkE g L (.comp elt tg it ifs vs) := fun X W sc fb N B e G k => by
  simp only [chk] at k
  cases hd : dComp e with
  | none => rw [hd] at k; cases k
  | some t =>
    obtain ⟨f, t, iter, fs, scope⟩ := t
    rw [hd] at k
    obtain ⟨k, k9⟩ := ba2 k
    obtain ⟨k, k8⟩ := ba2 k
    obtain ⟨k, k7⟩ := ba2 k
    obtain ⟨k, k6⟩ := ba2 k
    obtain ⟨k, k5⟩ := ba2 k
    obtain ⟨k, k4⟩ := ba2 k
    obtain ⟨k, k3⟩ := ba2 k
    obtain ⟨k1, k2⟩ := ba2 k
    obtain ⟨pos, rfl⟩ := dComp_eq hd
    have hi : PI X t iter (iI g B W false fun ρ => evi it ρ) := ok_it (st := false) h.i h.r (by intro z; cases z) G (by unfold chki; rw [k8]; exact k9)
    have q := se_comp (B := B) (tg := tg) (own := ownOf N vs) (pos := pos) (ifs := fs) (elt := f) (fts := fun ρ => evb true ifs ρ) (fe := fun ρ => ev elt ρ) G hi (blkB_ok k1) (fun X' G' => sg G' k2) (fun X' G' => pts_of h.f (of_decide_eq_true k5) h.fa G' k4) (fun X' G' => h.e.f G' k6 k7)
      (fun i hi => by
        rw [ownOf_snd]
        have := List.all_eq_true.mp k3 i hi
        simpa using this) (noSet_fold k8)
    rw [ownOf_snd] at q
    have e1 : (fun ρ => ev (.comp elt tg it ifs vs) ρ) = fun ρ => bnd (evi it ρ) fun ds => bnd (lcs (lcF tg (fun ρ => evb true ifs ρ) (fun ρ => ev elt ρ) (wip ρ vs)) ds) fun xs => ret (.lst xs) := funext fun ρ => lcF_eq
    have q' : PE X (.ListComp f [⟨t, iter, fs, 0⟩] scope pos) (tI g B W .new fun ρ => ev (.comp elt tg it ifs vs) ρ) := by rw [e1]; exact q
    exact ⟨q', G.pt q' fun _ => rfl⟩
end
/-! ### every expression -/
structure Ok2 (g : Gd) (L : Nat) (a : IR) : Prop where
  e : OkE g L a
  r : ∀ es, a = .rng es → ∀ b ∈ es, OkE g L b
structure Oks2 (g : Gd) (L : Nat) (as : List IR) : Prop where
  e : OkEs g L as
  a : ∀ b ∈ as, OkE g L b
theorem Ok2.of {g : Gd} {L : Nat} {a : IR} (h : OkE g L a) (n : ∀ es, a ≠ .rng es) : Ok2 g L a := ⟨h, fun es e => absurd e (n es)⟩
mutual
theorem okE (g : Gd) (L : Nat) : ∀ a : IR, a.ok g L → Ok2 g L a
  | .var _, _ => .of ok_var (by intro _ e; cases e)
  | .own _, _ => .of ok_own (by intro _ e; cases e)
  | .lit _, _ => .of ok_lit (by intro _ e; cases e)
  | .glob _ _, h => .of (ok_glob (by simpa only [IR.ok] using h)) (by intro _ e; cases e)
  | .tup es, h => .of (ok_tup (okEs g L es (by simpa only [IR.ok] using h)).e) (by intro _ e; cases e)
  | .lst es, h => .of (ok_lst (okEs g L es (by simpa only [IR.ok] using h)).e) (by intro _ e; cases e)
  | .op _ a b, h => .of (ok_op (okE g L a (by simp only [IR.ok] at h; exact h.1)).e (okE g L b (by simp only [IR.ok] at h; exact h.2)).e) (by intro _ e; cases e)
  | .cmp _ a b, h => .of (ok_cmp (okE g L a (by simp only [IR.ok] at h; exact h.1)).e (okE g L b (by simp only [IR.ok] at h; exact h.2)).e) (by intro _ e; cases e)
  | .chain a b c, h => .of (ok_chain (okE g L a (by simp only [IR.ok] at h; exact h.1)).e (okE g L b (by simp only [IR.ok] at h; exact h.2.1)).e (okE g L c (by simp only [IR.ok] at h; exact h.2.2)).e) (by intro _ e; cases e)
  | .isn _ a, h => .of (ok_isn (okE g L a (by simpa only [IR.ok] using h)).e) (by intro _ e; cases e)
  | .bop _ es, h => .of (ok_bop (okEs g L es (by simpa only [IR.ok] using h)).e) (by intro _ e; cases e)
  | .nt a, h => .of (ok_nt (okE g L a (by simpa only [IR.ok] using h)).e) (by intro _ e; cases e)
  | .ite c a b, h => .of (ok_ite (okE g L c (by simp only [IR.ok] at h; exact h.1)).e (okE g L a (by simp only [IR.ok] at h; exact h.2.1)).e (okE g L b (by simp only [IR.ok] at h; exact h.2.2)).e) (by intro _ e; cases e)
  | .idx a b, h => .of (ok_idx (okE g L a (by simp only [IR.ok] at h; exact h.1)).e (okE g L b (by simp only [IR.ok] at h; exact h.2)).e) (by intro _ e; cases e)
  | .slc a lo hi, h => .of (ok_slc (okE g L a (by simp only [IR.ok] at h; exact h.1)).e (okO g L lo (by simp only [IR.ok] at h; exact h.2.1)) (okO g L hi (by simp only [IR.ok] at h; exact h.2.2))) (by intro _ e; cases e)
  | .call f es, h => .of (ok_call (by simp only [IR.ok] at h; exact h.1) (okEs g L es (by simp only [IR.ok] at h; exact h.2)).e) (by intro _ e; cases e)
  | .callv _ gs es, h => .of (ok_callv (by simp only [IR.ok] at h; exact h.1) (okEs g L es (by simp only [IR.ok] at h; exact h.2)).e) (by intro _ e; cases e)
  | .bi _ es, h => .of (ok_bi (okEs g L es (by simpa only [IR.ok] using h)).e) (by intro _ e; cases e)
  | .isi _ a, h => .of (ok_isi (okE g L a (by simpa only [IR.ok] using h)).e) (by intro _ e; cases e)
  | .lens a, h => .of (ok_lens (okE g L a (by simpa only [IR.ok] using h)).e) (by intro _ e; cases e)
  | .join z a, h => .of (ok_join (okE g L z (by simp only [IR.ok] at h; exact h.1)).e (okE g L a (by simp only [IR.ok] at h; exact h.2)).e) (by intro _ e; cases e)
  | .rng es, h => ⟨fun X W sc fb N B e G k => (by simp [chk] at k), fun es' e b hb => (okEs g L es (by simpa only [IR.ok] using h)).a b (by cases e; exact hb)⟩
  | .lrng es, h => .of (ok_lrng (by simpa only [IR.ok] using h) (okEs g L es (by simpa only [IR.ok] using h)).a) (by intro _ e; cases e)
  | .tlen _, _ => .of ok_tlen (by intro _ e; cases e)
  | .comp elt tg it ifs vs, h =>
    .of (ok_comp ⟨(okE g L elt (by simp only [IR.ok] at h; exact h.1)).e, (okE g L it (by simp only [IR.ok] at h; exact h.2.1)).e, (okE g L it (by simp only [IR.ok] at h; exact h.2.1)).r, (okEs g L ifs (by simp only [IR.ok] at h; exact h.2.2)).e, (okEs g L ifs (by simp only [IR.ok] at h; exact h.2.2)).a⟩) (by intro _ e; cases e)
theorem okEs (g : Gd) (L : Nat) : ∀ as : List IR, oks g L as → Oks2 g L as
  | [], _ => ⟨ok_nil, fun _ z => nomatch z⟩
  | a :: as, h => ⟨ok_cons (okE g L a (by simp only [oks] at h; exact h.1)).e (okEs g L as (by simp only [oks] at h; exact h.2)).e, fun b hb =>
    (List.mem_cons.mp hb).elim (fun e => by rw [e]; exact (okE g L a (by simp only [oks] at h; exact h.1)).e) ((okEs g L as (by simp only [oks] at h; exact h.2)).a b)⟩
theorem okO (g : Gd) (L : Nat) : ∀ a : Option IR, oko g L a → OkO g L a
  | none, _ => ok_none
  | some a, h => ok_some (okE g L a (by simpa only [oko] using h)).e
end
end Ss
/-! Ss, part K: statements of the small language, and what they come to. -/
namespace Ss
open PySem L2
inductive Stm where
  | set (tg : Tg) (e : IR) | seto (i : Nat) (e : IR)
  | app (i : Nat) (e : IR) | rem (i : Nat) (e : IR) | tapp (i : Nat)
  | exp (e : IR) | ifs (c : IR) (a b : List Stm) | for (tg : Tg) (it : IR) (body : List Stm)
  | ret (e : IR) | rai (c : Str) | pas | frz (i : Nat)

/-! ### statements -/
inductive Fl where
  | nx (ρ : Env) | rt (d : D) | ex (c : Str) (ρ : Env)
/-- an expression's end, in a statement that goes on with it -/
def stp {α : Type} (ρ : Env) (m : M α) (k : α → M Fl) : M Fl := fun n => match m n with
  | .ok a n' => k a n'
  | .exc c n' => .ok (.ex c ρ) n'
  | .bad => .bad
def sq (m : M Fl) (k : Env → M Fl) : M Fl := bnd m fun f => match f with
  | .nx ρ => k ρ
  | f => ret f
def fors (f : D → Env → M Fl) : List D → Env → M Fl
  | [], ρ => ret (.nx ρ)
  | d :: ds, ρ => sq (f d ρ) fun ρ' => fors f ds ρ'
mutual
def ex : Stm → Env → M Fl
  | .set tg e, ρ => stp ρ (ev e ρ) fun d => bnd (lft (tg.put d ρ)) fun ρ' => ret (.nx ρ')
  | .seto i e, ρ => stp ρ (ev e ρ) fun d => match d with
    | .lst xs => ret (.nx (ρ.set i (.own xs)))
    | _ => bad
  | .app i e, ρ => bnd (lft (getO ρ i)) fun xs => stp ρ (ev e ρ) fun d => if xs.length < sizeLine then ret (.nx (ρ.set i (.own (xs ++ [d])))) else bad
  | .rem i e, ρ => bnd (lft (getO ρ i)) fun xs => bnd (lft (nums xs)) fun ns => stp ρ (ev e ρ) fun d => match d with
    | .int k => if ns.contains k then ret (.nx (ρ.set i (.own ((ns.erase k).map D.int)))) else bad
    | _ => bad
  | .tapp i, ρ => fun n => match getD ρ i with
    | some .town => if n < sizeLine then .ok (.nx ρ) (n + 1) else .bad
    | _ => .bad
  | .exp e, ρ => stp ρ (ev e ρ) fun _ => ret (.nx ρ)
  | .ifs c a b, ρ => stp ρ (truM (ev c ρ)) fun k => if k then exs a ρ else exs b ρ
  | .for tg it body, ρ => stp ρ (evi it ρ) fun ds => fors (fun d ρ => bnd (lft (tg.put d ρ)) fun ρ' => exs body ρ') ds ρ
  | .ret e, ρ => stp ρ (ev e ρ) fun d => ret (.rt d)
  | .rai c, ρ => ret (.ex c ρ)
  | .pas, ρ => ret (.nx ρ)
  | .frz i, ρ => bnd (lft (getO ρ i)) fun xs => ret (.nx (ρ.set i (.dat (.lst xs))))
def exs : List Stm → Env → M Fl
  | [], ρ => ret (.nx ρ)
  | s :: ss, ρ => sq (ex s ρ) fun ρ' => exs ss ρ'
end
/-- a def: its slots, the parameters first -/
def runF (slots : Nat) (body : List Stm) (ds : List D) : M D := fun n => match exs body (ds.map Sl.dat ++ List.replicate (slots - ds.length) Sl.emp) n with
  | .ok (.nx _) n' => .ok .non n'
  | .ok (.rt d) n' => .ok d n'
  | .ok (.ex c _) n' => .exc c n'
  | _ => .bad
end Ss
/-! Ss, part J: statements. -/
namespace Ss
open PySem PySem.Spec PyProof.Rows L2
/-- what is wanted of a statement's end -/
def Sf (g : Gd) (B : Bs) (W : WX) (D : Ends) (T : Option Addr) (H : Hp) (F : FS) (r : Res Fl) : Prop := match r with
  | .ok (.nx ρ') n' => ∀ σ' H' F', Rel g B ρ' σ' H' F' T n' → Kp H F H' F' → D.nx σ' H'
  | .ok (.rt d) n' => ∀ v H' F', Ev B.T B.H B.F H' F' → Tw T H' n' → Rp g H' F' T d v → D.rt v H'
  | .ok (.ex c ρ') n' => ∀ σ' H' F', Rel g B ρ' σ' H' F' T n' → ∀ C, g.mg c = some (.ref C) → W (.ref C) none σ' H'
  | .exc _ _ => False
  | .bad => False
def tS (g : Gd) (B : Bs) (W : WX) (f : Ss.Env → M Fl) : TS := fun D σ H => ∃ ρ F T n, Rel g B ρ σ H F T n ∧ Sf g B W D T H F (f ρ n)
section
variable {g : Gd} {X : Cx} {W : WX} {sc : Scope} {fb : Str → Bool} {N : List Str} {L : Nat} {B : Bs} {D : Ends} {T : Option Addr} {H H1 : Hp} {F F1 : FS} {n : Nat} {σ : L2.St} {ρ : Ss.Env}
theorem Sf.later {r : Res Fl} (h : Sf g B W D T H F r) (k : Kp H F H1 F1) : Sf g B W D T H1 F1 r := by
  cases r with
  | ok f n' =>
    cases f with
    | nx ρ' => exact fun σ' H' F' R kk => h σ' H' F' R (k.trans kk)
    | rt d => exact h
    | ex c ρ' => exact h
  | exc c n' => exact h
  | bad => exact h
theorem Sf.stp {α : Type} {m : M α} {k : α → M Fl} (R : Rel g B ρ σ H F T n) (h : Sf g B W D T H F (stp ρ m k n)) : Fin g W σ T H F (m n) fun a n1 H1 F1 => Sf g B W D T H1 F1 (k a n1) := by
  unfold Ss.stp at h
  cases e : m n with
  | ok a n1 => rw [e] at h; exact fun H1 F1 e1 t1 => h.later (e1.kp R.tw R.nf)
  | exc c n1 => rw [e] at h; exact fun H1 F1 e1 t1 C hC => h σ H1 F1 (R.step e1 t1) C hC
  | bad => rw [e] at h; exact h

/-! ### assignment -/
theorem asg_read {tg : Tg} {f : Ss.Env → M Ss.D} (h : tS g B W (fun ρ => stp ρ (f ρ) fun d => bnd (lft (tg.put d ρ)) fun ρ' => ret (.nx ρ')) D σ H) : tAsg (tI g B W .full f) (gT g.K tg) D σ H := by
  obtain ⟨ρ, F, T, n, R, h⟩ := h
  refine ⟨ρ, F, T, n, R, (h.stp R).mono fun d n1 H1 F1 e1 t1 q v p => ?_⟩
  have R1 := R.step e1 t1
  cases ep : tg.put d ρ with
  | none => rw [ep] at q; exact False.elim q
  | some ρ' =>
    rw [ep] at q
    exact gT_read ep p R1 fun σ' R' _ => q σ' H1 F1 R' Kp.refl
theorem own_read {i : Nat} {f : Ss.Env → M Ss.D} (h : tS g B W (fun ρ => stp ρ (f ρ) fun d => match d with
    | .lst xs => ret (.nx (ρ.set i (.own xs)))
    | _ => bad) D σ H) : tAsg (tI g B W .new f) (gName i) D σ H := by
  obtain ⟨ρ, F, T, n, R, h⟩ := h
  refine ⟨ρ, F, T, n, R, (h.stp R).mono fun d n1 H1 F1 e1 t1 q v p => ?_⟩
  have R1 := R.step e1 t1
  obtain ⟨a, vs, xs, rfl, rfl, h1, h2, h3, h4, h5⟩ := p
  have ta : T ≠ some a := fun z => by rw [R.tw a z] at h1; cases h1
  refine q _ H1 F1 (R1.putO i h2 h3 ta ?_ h4 h5 ?_) Kp.refl
  · cases e : B.H a with
    | none => rfl
    | some o =>
      by_cases z : B.T = some a
      · rcases R.tt with y | ⟨y, _⟩
        · exact absurd (y.symm.trans z) ta
        · rw [y] at z; cases z
      · rw [R.ev.same a o e z] at h1; cases h1
  · rintro j ⟨⟨ys, e⟩, ej⟩
    obtain ⟨b, us, q1, q2, _⟩ := R.sl j _ e
    rw [q1] at ej
    cases ej
    rw [h1] at q2; cases q2
def noComp : Expr → Bool
  | .ListComp _ _ _ _ => false
  | .SetComp _ _ _ _ => false
  | .DictComp _ _ _ _ _ => false
  | _ => true
theorem sw_plain {e : Expr} {t : Option Expr} {l : Nat} {env : PySem.Env} (h : noComp e = true) : swapsWith e t l env = pure false := by
  cases e <;> first | rfl | (simp only [noComp, Bool.false_eq_true] at h)
def swB (sc : Scope) (y : Str) (l1 l2 : Nat) (scope : Scope) : Bool := (sc.names.lookup y == some .local) && (l1 == l2) && !(scope.names.any fun (n, k) => n == y && (k == .local || k == .cell))
theorem sw_false {sc : Scope} {elt : Expr} {gs : List Comprehension} {scope : Scope} {pos py : Pos} {y : Str} {l : Nat} {env : PySem.Env} (es : env.scope = sc) (h : swB sc y py.line pos.line scope = false) : swapsWith (.ListComp elt gs scope pos) (some (.Name y py)) l env = pure false := by
  unfold swapsWith
  have e : (env.blockKind == ScopeKind.function && env.kindOf y == some .local && py.line == pos.line && !(scope.names.any fun (n, k) => n == y && (k == .local || k == .cell))) = false := by
    unfold swB at h
    have k : env.kindOf y = sc.names.lookup y := by rw [← es]; rfl
    rw [k]
    cases h1 : (sc.names.lookup y == some NameKind.local)
    · simp
    · cases h2 : (py.line == pos.line)
      · simp
      · rw [h1, h2] at h
        simp only [Bool.true_and] at h
        rw [h]
        simp
  show (do return (env.blockKind == ScopeKind.function && env.kindOf y == some .local && py.line == (Expr.ListComp elt gs scope pos).pos.line && !(scope.names.any fun (n, k) => n == y && (k == .local || k == .cell))) : Sem Bool) = pure false
  show (pure (env.blockKind == ScopeKind.function && env.kindOf y == some .local && py.line == pos.line && !(scope.names.any fun (n, k) => n == y && (k == .local || k == .cell))) : Sem Bool) = pure false
  rw [e]
/-- name = e -/
def asgB (sc : Scope) (N : List Str) (i : Nat) (y : Str) (py : Pos) (e : Expr) : Bool := match e with
  | .ListComp _ _ scope pos => decide (sc.kind = .function) && (swB sc y py.line pos.line scope || true)
  | e => noComp e
theorem ok_asg1 {a : IR} (ha : Ok2 g L a) (hc : ∀ elt tg it ifs vs, a = .comp elt tg it ifs vs → CmpOk g L elt it ifs) (G : Gud g X W sc fb N L) {i : Nat} {y : Str} {py pos : Pos} {e : Expr} (k1 : tgB sc fb N i y = true) (k2 : chk N a sc e = true) (k3 : asgB sc N i y py e = true) :
    PS X (.Assign [.Name y py] e pos) (tAsg (tI g B W a.kd fun ρ => ev a ρ) (gName i)) := by
  obtain ⟨l1, l2, l3⟩ := G.loc k1
  have nd : X.N.Nodup := by rw [G.nm]; exact G.nd
  cases hn : noComp e with
  | true => exact ps_set nd l1 l2 (ha.e X W sc fb N B e G k2).1 (sw_plain hn) l3
  | false =>
    cases hd : dComp e with
    | none =>
      -- a comprehension of another form is no IR's
      exfalso
      cases e <;> simp only [noComp, Bool.true_eq_false] at hn
      all_goals (cases a <;> simp [chk, dName, dConst, dTup, dLst, dBin, dCmp, dBool, dUn, dIf, dSub, dCall, dCall1, dCall2, dNest, dNest1, dMeth, hd] at k2)
      all_goals (first | (simp [dComp] at k2) | (simp [dComp] at hd; simp [dComp, hd] at k2))
    | some t =>
      obtain ⟨f, t, iter, fs, scope⟩ := t
      obtain ⟨cp, rfl⟩ := dComp_eq hd
      cases sw : swB sc y py.line cp.line scope with
      | false => exact ps_set nd l1 l2 (ha.e X W sc fb N B _ G k2).1 (sw_false G.es sw) l3
      | true =>
        cases a with
        | comp elt tg it ifs vs =>
          have h := hc _ _ _ _ _ rfl
          have k := k2
          simp only [chk] at k
          rw [hd] at k
          obtain ⟨k, k9⟩ := ba2 k
          obtain ⟨k, k8⟩ := ba2 k
          obtain ⟨k, k7⟩ := ba2 k
          obtain ⟨k, k6⟩ := ba2 k
          obtain ⟨k, k5⟩ := ba2 k
          obtain ⟨k, k4⟩ := ba2 k
          obtain ⟨k, k3'⟩ := ba2 k
          obtain ⟨k1', k2'⟩ := ba2 k
          have hi : PI X t iter (iI g B W false fun ρ => evi it ρ) := ok_it (st := false) h.i h.r (by intro z; cases z) G (by unfold chki; rw [k8]; exact k9)
          unfold swB at sw
          obtain ⟨sw, s3⟩ := ba2 sw
          obtain ⟨s1, s2⟩ := ba2 sw
          have hy : N[i]? = some y := by rw [← G.nm]; exact l1
          have q := ss_comp (B := B) (tg := tg) (i := i) (y := y) (py := py) (own := ownOf N vs) (pos := cp) (spos := pos) (ifs := fs) (elt := f) (fts := fun ρ => evb true ifs ρ) (fe := fun ρ => ev elt ρ) G hi (blkB_ok k1') (fun X' G' => sg G' k2') (fun X' G' => pts_of h.f (of_decide_eq_true k5) h.fa G' k4) (fun X' G' => h.e.f G' k6 k7)
            (fun i hi => by
              rw [ownOf_snd]
              have := List.all_eq_true.mp k3' i hi
              simpa using this) (noSet_fold k8) hy (eq_of_beq s1) (of_decide_eq_true (ba2 k3).1) s2 (by simpa using s3)
          rw [ownOf_snd] at q
          have e1 : (fun ρ => ev (.comp elt tg it ifs vs) ρ) = fun ρ => bnd (evi it ρ) fun ds => bnd (lcs (lcF tg (fun ρ => evb true ifs ρ) (fun ρ => ev elt ρ) (wip ρ vs)) ds) fun xs => ret (.lst xs) := funext fun ρ => lcF_eq
          show PS X _ (tAsg (tI g B W .new fun ρ => ev (.comp elt tg it ifs vs) ρ) (gName i))
          rw [e1]
          exact q
        | _ => simp [chk, dName, dConst, dTup, dLst, dBin, dCmp, dBool, dUn, dIf, dSub, dCall, dCall1, dCall2, dNest, dNest1, dMeth] at k2
end
end Ss
/-! Ss, part L: statements, further; blocks; the check; every block. -/
namespace Ss
open PySem PySem.Spec PyProof.Rows L2
section
variable {g : Gd} {X : Cx} {W : WX} {sc : Scope} {fb : Str → Bool} {N : List Str} {L : Nat} {B : Bs} {D : Ends} {T : Option Addr} {H H1 : Hp} {F F1 : FS} {n : Nat} {σ : L2.St} {ρ : Ss.Env}
/-! ### a list of this frame's own grows, is changed -/
theorem set_self {σ : L2.St} {i : Nat} {v : V} (h : σ[i]? = some (some v)) : σ.set i (some v) = σ := by
  apply List.ext_getElem?
  intro j
  by_cases e : i = j
  · subst e
    have hl : i < σ.length := by
      rcases Nat.lt_or_ge i σ.length with z | z
      · exact z
      · rw [List.getElem?_eq_none z] at h; cases h
    rw [List.getElem?_set_self hl, h]
  · rw [List.getElem?_set_ne e]
/-- the own list in slot i is written -/
theorem Rel.writeO (R : Rel g B ρ σ H F T n) {i : Nat} {xs ys : List Ss.D} {vs us : List V} {a : Addr} (ei : ρ[i]? = some (.own xs)) (es : σ[i]? = some (some (.ref a))) (ha : H a = some (.lst vs)) (f : ¬ F a) (t : T ≠ some a) (b : B.H a = none) (l : us.length ≤ sizeLine) (r : Rps g H F T ys us) :
    Rel g B (ρ.set i (.own ys)) σ (upd H a (.lst us)) F T n := by
  have hn : ∀ j, ¬ OwnAt (ρ.set i .emp) (σ.set i none) j a := fun j ⟨⟨zs, e1⟩, e2⟩ => by
    by_cases e : i = j
    · subst e
      by_cases hl : i < ρ.length
      · rw [List.getElem?_set_self hl] at e1; cases e1
      · rw [List.getElem?_eq_none (by rw [List.length_set]; omega)] at e1; cases e1
    · rw [List.getElem?_set_ne e] at e1 e2
      exact e (R.dj i j a ⟨⟨xs, ei⟩, es⟩ ⟨⟨zs, e1⟩, e2⟩)
  have R1 := (R.forget i none).write (o := .lst us) ha f t b hn
  have kk : Kp H F (upd H a (.lst us)) F := Kp.write ha f
  have R2 := R1.putO i (a := a) (vs := us) (xs := ys) upd_same f t b l (Rps.kp kk (fun _ z => z) _ _ r) fun j hj => absurd hj (hn j)
  rw [List.set_set, List.set_set, set_self es] at R2
  exact R2
theorem kpO (ha : H a = some (.lst vs)) (f : ¬ F a) : Kp H F (upd H a (.lst us)) F := Kp.write ha f
theorem app_read {i : Nat} {f : Ss.Env → M Ss.D} (h : tS g B W (fun ρ => bnd (lft (getO ρ i)) fun xs => stp ρ (f ρ) fun d => if xs.length < sizeLine then ret (.nx (ρ.set i (.own (xs ++ [d])))) else bad) D σ H) :
    ∃ v, σ[i]? = some (some v) ∧ tyV g.K "list" v H ∧ tI g B W .full f σ H fun y H2 => rAppend v [y] H2 fun _ H3 => D.nx σ H3 := by
  obtain ⟨ρ, F, T, n, R, h⟩ := h
  cases eo : getO ρ i with
  | none => simp only [eo] at h; exact False.elim h
  | some xs =>
    simp only [eo] at h
    obtain ⟨ei, a, vs, e1, e2, e3, e4, e5, e6, e7⟩ := R.owd eo
    refine ⟨.ref a, e1, .inl ⟨rfl, vs, SqL.of e2⟩, ρ, F, T, n, R, (Sf.stp R h).mono fun d n1 H1 F1 ev1 t1 q v p => ?_⟩
    have R1 := R.step ev1 t1
    have e2' := ev1.same a _ e2 e4
    have f' : ¬ F1 a := fun z => by
      rcases ev1.new a z with z | z
      · exact e3 z
      · rw [e2] at z; cases z
    have r' := R.rps ev1 e7
    by_cases hl : xs.length < sizeLine
    · rw [if_pos hl] at q
      have hl' : vs.length < sizeLine := by rw [e7.len]; exact hl
      exact ⟨a, vs, v, rfl, rfl, e2', hl', q σ _ F1 (R1.writeO ei e1 e2' f' e4 e5 (by rw [List.length_append]; exact hl') (r'.app (.one p))) (Kp.write e2' f')⟩
    · rw [if_neg hl] at q; exact False.elim q
theorem ahead : ∀ (ns : List Int) (k : Int) (m : Nat), m < ns.idxOf k → ns[m]? ≠ some k
  | [], _, _, h => by simp at h
  | z :: zs, k, m, h => by
    rw [List.idxOf_cons] at h
    by_cases e : z = k
    · subst e; simp at h
    · have e' : (z == k) = false := by simpa using e
      rw [e'] at h
      simp only [cond_false] at h
      cases m with
      | zero => simpa using e
      | succ m => simpa using ahead zs k m (by omega)
theorem rem_read {i : Nat} {f : Ss.Env → M Ss.D} (h : tS g B W (fun ρ => bnd (lft (getO ρ i)) fun xs => bnd (lft (nums xs)) fun ns => stp ρ (f ρ) fun d => match d with
    | .int k => if ns.contains k then ret (.nx (ρ.set i (.own ((ns.erase k).map Ss.D.int)))) else bad
    | _ => bad) D σ H) :
    ∃ v, σ[i]? = some (some v) ∧ tyV g.K "list" v H ∧ tI g B W .full f σ H fun y H2 => rRemI v [y] H2 fun _ H3 => D.nx σ H3 := by
  obtain ⟨ρ, F, T, n, R, h⟩ := h
  cases eo : getO ρ i with
  | none => simp only [eo] at h; exact False.elim h
  | some xs =>
    simp only [eo] at h
    obtain ⟨ei, a, vs, e1, e2, e3, e4, e5, e6, e7⟩ := R.owd eo
    cases en : nums xs with
    | none =>
      have h : Sf g B W D T H F ((bnd (lft (nums xs)) fun ns => stp ρ (f ρ) fun d => match d with
        | .int k => if ns.contains k then ret (.nx (ρ.set i (.own ((ns.erase k).map Ss.D.int)))) else bad
        | _ => bad) n) := h
      rw [en] at h; exact False.elim h
    | some ns =>
      have h : Sf g B W D T H F ((bnd (lft (nums xs)) fun ns => stp ρ (f ρ) fun d => match d with
        | .int k => if ns.contains k then ret (.nx (ρ.set i (.own ((ns.erase k).map Ss.D.int)))) else bad
        | _ => bad) n) := h
      rw [en] at h
      have evs := nums_rps e7 en
      refine ⟨.ref a, e1, .inl ⟨rfl, vs, SqL.of e2⟩, ρ, F, T, n, R, (Sf.stp R h).mono fun d n1 H1 F1 ev1 t1 q v p => ?_⟩
      have R1 := R.step ev1 t1
      have e2' := ev1.same a _ e2 e4
      have f' : ¬ F1 a := fun z => by
        rcases ev1.new a z with z | z
        · exact e3 z
        · rw [e2] at z; cases z
      cases d with
      | int k =>
        dsimp only at q
        by_cases hc : ns.contains k = true
        · rw [if_pos hc] at q
          have hm : k ∈ ns := by simpa using hc
          have ej : ns.erase k = ns.eraseIdx (ns.idxOf k) := List.erase_eq_eraseIdx_of_idxOf rfl
          have hj : ns.idxOf k < ns.length := List.idxOf_lt_length_of_mem hm
          have rr : ∀ l : List Int, Rps g H1 F1 T (l.map Ss.D.int) (l.map V.int) := fun l => by
            induction l with
            | nil => exact .nil
            | cons z zs ih => exact .cons rp_int ih
          have p : Rp g H1 F1 T (.int k) v := p
          simp only [Rp] at p
          subst p
          rw [evs] at e2'
          refine ⟨a, ns, k, ns.idxOf k, rfl, rfl, e2', ?_, fun m hm' z => ?_, q σ _ F1 (R1.writeO ei e1 e2' f' e4 e5 ?_ ?_) (Kp.write e2' f')⟩
          · rw [List.getElem?_eq_getElem hj, List.getElem_idxOf]
          · exact ahead ns k m hm' z
          · rw [List.length_map]
            have := List.length_eraseIdx_le ns (ns.idxOf k)
            have h3 : vs.length = ns.length := by rw [evs, List.length_map]
            omega
          · rw [ej]; exact rr _
        · rw [if_neg hc] at q; exact False.elim q
      | _ => exact False.elim q

/-! ### the town, a list frozen -/
theorem Rel.town (R : Rel g B ρ σ H F T n) {a : Addr} (t : T = some a) : Rel g B ρ σ (upd H a (.lst (List.replicate (n + 1) (.int 0)))) F T (n + 1) := by
  have ha := R.tw a t
  have f := R.nf a t
  have kk : Kp H F (upd H a (.lst (List.replicate (n + 1) (.int 0)))) F := Kp.write ha f
  refine ⟨⟨fun b o q z => ?_, R.ev.sub, R.ev.new, fun d => dom_upd (R.ev.dom d)⟩, fun b z => ?_, R.nf, dom_upd R.dm, R.tt, R.len, fun i s e => ?_, R.dj⟩
  · have ne : b ≠ a := fun e => by
      subst e
      exact R.bnT q z t
    rw [upd_ne ne]
    exact R.ev.same b o q z
  · rw [t] at z
    cases z
    exact upd_same
  · have q := R.sl i s e
    cases s with
    | emp => trivial
    | dat d =>
      obtain ⟨v, e1, e2⟩ := q
      exact ⟨v, e1, Rp.kp kk (fun _ z => z) d v e2⟩
    | own xs =>
      obtain ⟨b, vs, e1, e2, e3, e4, e5, e6, e7⟩ := q
      have ne : b ≠ a := fun e => e4 (by rw [e]; exact t)
      exact ⟨b, vs, e1, by rw [upd_ne ne]; exact e2, e3, e4, e5, e6, Rps.kp kk (fun _ z => z) xs vs e7⟩
theorem tapp_read {i : Nat} (h : tS g B W (fun ρ n => match getD ρ i with
    | some .town => if n < sizeLine then .ok (.nx ρ) (n + 1) else .bad
    | _ => .bad) D σ H) : ∃ v, σ[i]? = some (some v) ∧ tyV g.K "list" v H ∧ rAppend v [.int 0] H fun _ H3 => D.nx σ H3 := by
  obtain ⟨ρ, F, T, n, R, h⟩ := h
  dsimp only at h
  cases eg : getD ρ i with
  | none => rw [eg] at h; exact False.elim h
  | some d =>
    rw [eg] at h
    obtain ⟨v, e1, e2⟩ := R.dat eg
    cases d with
    | town =>
      simp only [Rp] at e2
      obtain ⟨a, rfl, t⟩ := e2
      dsimp only at h
      by_cases hl : n < sizeLine
      · rw [if_pos hl] at h
        have ha := R.tw a t
        refine ⟨.ref a, e1, .inl ⟨rfl, _, SqL.of ha⟩, a, _, .int 0, rfl, rfl, ha, by rw [List.length_replicate]; exact hl, ?_⟩
        have e : List.replicate n (V.int 0) ++ [V.int 0] = List.replicate (n + 1) (V.int 0) := List.replicate_succ'.symm
        rw [e]
        exact h σ _ F (R.town t) (Kp.write ha (R.nf a t))
      · rw [if_neg hl] at h; exact False.elim h
    | _ => exact False.elim h
theorem Rel.freeze (R : Rel g B ρ σ H F T n) {i : Nat} {xs : List Ss.D} (e : getO ρ i = some xs) : ∃ F', Rel g B (ρ.set i (.dat (.lst xs))) σ H F' T n ∧ Kp H F H F' := by
  obtain ⟨ei, a, vs, e1, e2, e3, e4, e5, e6, e7⟩ := R.owd e
  have kk : Kp H F H (fun b => F b ∨ b = a) := Kp.freeze fun _ f => .inl f
  refine ⟨fun b => F b ∨ b = a, ?_, kk⟩
  have R1 : Rel g B (ρ.set i .emp) σ H (fun b => F b ∨ b = a) T n := by
    refine ⟨⟨R.ev.same, fun b f => .inl (R.ev.sub b f), fun b f => ?_, fun d b f => ?_⟩, R.tw, fun b z f => ?_, fun b f => ?_, R.tt, by rw [List.length_set]; exact R.len, fun j s ej => ?_, fun j k b h1 h2 => ?_⟩
    · rcases f with f | rfl
      · exact R.ev.new b f
      · exact .inr e5
    · rcases f with f | rfl
      · exact R.ev.dom d b f
      · exact ⟨_, e2⟩
    · rcases f with f | rfl
      · exact R.nf b z f
      · exact e4 z
    · rcases f with f | rfl
      · exact R.dm b f
      · exact ⟨_, e2⟩
    · by_cases hj : i = j
      · subst hj
        by_cases hl : i < ρ.length
        · rw [List.getElem?_set_self hl] at ej; cases ej; trivial
        · rw [List.getElem?_eq_none (by rw [List.length_set]; omega)] at ej; cases ej
      · rw [List.getElem?_set_ne hj] at ej
        have q := R.sl j s ej
        cases s with
        | emp => trivial
        | dat d =>
          obtain ⟨v, q1, q2⟩ := q
          exact ⟨v, q1, Rp.kp kk (fun _ z => z) d v q2⟩
        | own ys =>
          obtain ⟨b, us, q1, q2, q3, q4, q5, q6, q7⟩ := q
          refine ⟨b, us, q1, q2, fun f => ?_, q4, q5, q6, Rps.kp kk (fun _ z => z) ys us q7⟩
          rcases f with f | rfl
          · exact q3 f
          · exact hj (R.dj i j b ⟨⟨xs, ei⟩, e1⟩ ⟨⟨ys, ej⟩, q1⟩)
    · have hn : ∀ m, OwnAt (ρ.set i .emp) σ m b → OwnAt ρ σ m b := fun m ⟨⟨ys, q1⟩, q2⟩ => by
        have hm : i ≠ m := fun z => by
          subst z
          by_cases hl : i < ρ.length
          · rw [List.getElem?_set_self hl] at q1; cases q1
          · rw [List.getElem?_eq_none (by rw [List.length_set]; omega)] at q1; cases q1
        rw [List.getElem?_set_ne hm] at q1
        exact ⟨⟨ys, q1⟩, q2⟩
      exact R.dj j k b (hn j h1) (hn k h2)
  have R2 := R1.put i (rp_lst e2 (.inr rfl) e6 (Rps.kp kk (fun _ z => z) _ _ e7))
  rw [List.set_set, set_self e1] at R2
  exact R2

/-! ### the rules -/
/-- x.m(e): a method of a list by its name -/
theorem ps_meth {id : String} {name : Str} {r : V → List V → Hp → VK → Prop} (slot : Slot "list" name id) (hty : typeOf (.builtin id) = pure (.type "method_descriptor")) (hm : MtR X id r) (G : Gud g X W sc fb N L) {i : Nat} {x : Str} {e : Expr} {te : TE} {p ap pos pos2 : Pos}
    (hx : nmB sc N i x = true) (he : PE X e te) (hn : nst e = true) (hl : (ap.endLine == pos.line) = true) : PS X (.Expr (.Call (.Attribute (.Name x p) name ap) [e] [] pos) pos2) (fun D σ H => ∃ v, σ[i]? = some (some v) ∧ tyV g.K "list" v H ∧ te σ H fun y H2 => r v [y] H2 fun _ H3 => D.nx σ H3) := by
  obtain rfl := G.gd
  obtain ⟨h1, h2, h3, h4⟩ := G.vis hx
  refine ps_wk (ps_expr (pe_bm PySem.F.plainAttrs_list slot hty hm (pe_var h1 h2 h3 h4) (pa_cons he pa_nil (star_of hn)) rfl ?_ hl (star_of hn) rfl) rfl) fun D σ H q => ?_
  · rw [star_of hn]; rfl
  · exact q
theorem ss_app (G : Gud g X W sc fb N L) {i : Nat} {x : Str} {e : Expr} {f : Ss.Env → M Ss.D} {p ap pos pos2 : Pos} (hx : nmB sc N i x = true) (he : PE X e (tI g B W .full f)) (hn : nst e = true) (hl : (ap.endLine == pos.line) = true) :
    PS X (.Expr (.Call (.Attribute (.Name x p) "append" ap) [e] [] pos) pos2) (tS g B W fun ρ => bnd (lft (getO ρ i)) fun xs => stp ρ (f ρ) fun d => if xs.length < sizeLine then ret (.nx (ρ.set i (.own (xs ++ [d])))) else bad) :=
  ps_wk (ps_meth PySem.F.slot_list_append PySem.F.type_list_append mt_append G hx he hn hl) fun _ _ _ q => app_read q
theorem ss_rem (G : Gud g X W sc fb N L) {i : Nat} {x : Str} {e : Expr} {f : Ss.Env → M Ss.D} {p ap pos pos2 : Pos} (hx : nmB sc N i x = true) (he : PE X e (tI g B W .full f)) (hn : nst e = true) (hl : (ap.endLine == pos.line) = true) :
    PS X (.Expr (.Call (.Attribute (.Name x p) "remove" ap) [e] [] pos) pos2) (tS g B W fun ρ => bnd (lft (getO ρ i)) fun xs => bnd (lft (nums xs)) fun ns => stp ρ (f ρ) fun d => match d with
    | .int k => if ns.contains k then ret (.nx (ρ.set i (.own ((ns.erase k).map Ss.D.int)))) else bad
    | _ => bad) :=
  ps_wk (ps_meth PySem.F.slot_list_remove PySem.F.type_list_remove mt_remove G hx he hn hl) fun _ _ _ q => rem_read q
theorem ss_tapp (G : Gud g X W sc fb N L) {i : Nat} {x : Str} {j : Nat} {p p2 ap pos pos2 : Pos} (hx : nmB sc N i x = true) (hl : (ap.endLine == pos.line) = true) :
    PS X (.Expr (.Call (.Attribute (.Name x p) "append" ap) [.Constant (.int 0) j p2] [] pos) pos2) (tS g B W fun ρ n => match getD ρ i with
    | some .town => if n < sizeLine then .ok (.nx ρ) (n + 1) else .bad
    | _ => .bad) := by
  refine ps_wk (ps_meth PySem.F.slot_list_append PySem.F.type_list_append mt_append G hx pe_int rfl hl) fun D σ H q => ?_
  obtain ⟨v, e1, e2, k⟩ := tapp_read q
  exact ⟨v, e1, e2, k⟩
theorem ss_exp {e : Expr} {f : Ss.Env → M Ss.D} {kd : Kd} {pos : Pos} (he : PE X e (tI g B W kd f)) (hn : noComp e = true) : PS X (.Expr e pos) (tS g B W fun ρ => stp ρ (f ρ) fun _ => ret (.nx ρ)) := by
  refine ps_wk (ps_expr he (sw_plain hn)) fun D σ H q => ?_
  obtain ⟨ρ, F, T, n, R, q⟩ := q
  exact ⟨ρ, F, T, n, R, (Sf.stp R q).mono fun d n1 H1 F1 e1 t1 k v _ => k σ H1 F1 (R.step e1 t1) Kp.refl⟩
theorem ss_if {c : Expr} {a b : List Stmt} {fc : Ss.Env → M Bool} {fa fb' : Ss.Env → M Fl} {pos : Pos} (hc : PT X c (tT g B W fc)) (ha : PSs X a (tS g B W fa)) (hb : PSs X b (tS g B W fb')) : PS X (.If c a b pos) (tS g B W fun ρ => stp ρ (fc ρ) fun k => if k then fa ρ else fb' ρ) := by
  refine ps_wk (ps_if hc ha hb) fun D σ H q => ?_
  obtain ⟨ρ, F, T, n, R, q⟩ := q
  refine ⟨ρ, F, T, n, R, (Sf.stp R q).mono fun k n1 H1 F1 e1 t1 q1 => ?_⟩
  have R1 := R.step e1 t1
  cases k with
  | true => exact ⟨ρ, F1, T, n1, R1, q1⟩
  | false => exact ⟨ρ, F1, T, n1, R1, q1⟩
theorem ss_ret {e : Expr} {f : Ss.Env → M Ss.D} {pos : Pos} (he : PE X e (tI g B W .full f)) : PS X (.Return (some e) pos) (tS g B W fun ρ => stp ρ (f ρ) fun d => ret (.rt d)) := by
  refine ps_wk (ps_ret he) fun D σ H q => ?_
  obtain ⟨ρ, F, T, n, R, q⟩ := q
  exact ⟨ρ, F, T, n, R, (Sf.stp R q).mono fun d n1 H1 F1 e1 t1 k v p => k v H1 F1 (R.step e1 t1).ev t1 p⟩
theorem ss_pas {pos : Pos} : PS X (.Pass pos) (tS g B W fun ρ => ret (.nx ρ)) := by
  refine ps_wk ps_pass fun D σ H q => ?_
  obtain ⟨ρ, F, T, n, R, q⟩ := q
  exact q σ H F R Kp.refl
/-- an own error, ready to be raised -/
structure ClG (g : Gd) (c : Str) : Prop where
  ex : ∃ C, g.mg c = some (.ref C) ∧ PySem.W.excIn g.K C He.veBase "ValueError.__new__" = true ∧ PySem.W.keepIn g.K (.ref C) = true ∧ PySem.W.subIn g.K (.ref C) (.type "BaseException") = some true ∧ PySem.W.typeIn g.K (.ref C) = some (.type "type")
theorem ss_rai (G : Gud g X W sc fb N L) {c m : Str} {j : Nat} {p p2 pos pos2 : Pos} (hc : ClG g c) (hg : glB sc c = true) : PS X (.Raise (some (.Call (.Name c p) [.Constant (.str m) j p2] [] pos)) none pos2) (tS g B W fun ρ => ret (.ex c ρ)) := by
  obtain rfl := G.gd
  obtain ⟨C, h1, h2, h3, h4, h5⟩ := hc.ex
  obtain ⟨g1, g2⟩ := G.gl hg
  refine ps_wk (ps_raise G.calm G.tk (pmk_own PySem.F.excBase_ValueError h2 h1 h3 (raises_own h4 h5) g1 g2)) fun D σ H q => ?_
  obtain ⟨ρ, F, T, n, R, q⟩ := q
  exact q σ H F R C h1
theorem ss_for (G : Gud g X W sc fb N L) {tg : Tg} {tgE iter : Expr} {body : List Stmt} {fi : Ss.Env → M (List Ss.D)} {f : Ss.Env → M Fl} {pos : Pos} (hi : PI X tgE iter (iI g B W true fi)) (hg : PG X tgE (gT g.K tg)) (hb : PSs X body (tS g B W f)) (hs : noSet iter = true) :
    PS X (.For tgE iter body [] pos) (tS g B W fun ρ => stp ρ (fi ρ) fun ds => fors (fun d ρ => bnd (lft (tg.put d ρ)) fun ρ' => f ρ') ds ρ) := by
  refine ps_wk (ps_for G.own G.calm hi hg hb (noSet_fold hs X.env)) fun D σ H q => ?_
  obtain ⟨ρ, F, T, n, R, q⟩ := q
  refine ⟨ρ, F, T, n, R, (Sf.stp R q).mono fun ds n1 H1 F1 e1 t1 q1 J wk => ?_⟩
  have R1 := R.step e1 t1
  obtain ⟨us, P, w, r, hl, _, pK⟩ := wk
  refine for_it w (fun i σc Hc => ∃ ρc Fc nc, Rel g B ρc σc Hc Fc T nc ∧ Kp H1 F1 Hc Fc ∧ Sf g B W D T H1 F1 (fors (fun d ρ => bnd (lft (tg.put d ρ)) fun ρ' => f ρ') (ds.drop i) ρc nc)) ⟨ρ, F1, n1, R1, Kp.refl, q1⟩ ?hG ?hs ?hd
  case hG =>
    rintro i σc Hc _ ⟨ρc, Fc, nc, Rc, kc, _⟩
    exact pK rfl Hc Fc kc
  case hd =>
    rintro σc Hc ⟨ρc, Fc, nc, Rc, kc, s⟩
    rw [List.drop_length] at s
    exact s σc Hc Fc Rc kc
  case hs =>
    rintro i x σc Hc Hc' hi ⟨ρc, Fc, nc, Rc, kc, s⟩ ⟨rfl, hx⟩
    obtain ⟨d, hd, rd⟩ := r.get' hx
    rw [List.drop_eq_getElem_cons hi] at s
    have ed : ds[i] = d := by
      have z := List.getElem?_eq_getElem hi
      rw [hd] at z; exact (Option.some.inj z).symm
    rw [ed] at s
    have rdc := Rp.kp kc (fun _ z => z) _ _ rd
    simp only [fors, sq, bnd] at s
    cases ep : tg.put d ρc with
    | none => rw [ep] at s; exact False.elim s
    | some ρ2 =>
      rw [ep] at s
      refine gT_read ep rdc Rc fun σ' R' _ => ⟨ρ2, Fc, T, nc, R', ?_⟩
      simp only [lft, ret] at s
      cases ef : f ρ2 nc with
      | bad => rw [ef] at s; exact s
      | exc c n2 => rw [ef] at s; exact s
      | ok fl n2 =>
        rw [ef] at s
        cases fl with
        | nx ρ3 => exact fun σ2 H2 F2 R2 k2 => ⟨ρ3, F2, n2, R2, kc.trans k2, s⟩
        | rt v => exact s
        | ex c ρ3 => exact s
end
end Ss
/-! Ss, part M: blocks against the written text; a def keeps its promise. -/
namespace Ss
open PySem PySem.Spec PyProof.Rows L2
mutual
def Stm.ok (g : Gd) (L : Nat) : Stm → Prop
  | .set _ e => e.ok g L
  | .seto _ e => e.ok g L
  | .app _ e => e.ok g L
  | .rem _ e => e.ok g L
  | .tapp _ => True
  | .exp e => e.ok g L
  | .ifs c a b => c.ok g L ∧ okss g L a ∧ okss g L b
  | .for _ it b => it.ok g L ∧ okss g L b
  | .ret e => e.ok g L
  | .rai c => ClG g c
  | .pas => True
  | .frz _ => True
def okss (g : Gd) (L : Nat) : List Stm → Prop
  | [] => True
  | s :: ss => s.ok g L ∧ okss g L ss
end
/-! ### the text taken apart -/
def dAsg : Stmt → Option (Expr × Expr)
  | .Assign ts e _ => (match ts with
    | [t] => some (t, e)
    | _ => none)
  | _ => none
def dExp : Stmt → Option Expr
  | .Expr e _ => some e
  | _ => none
def dIfS : Stmt → Option (Expr × List Stmt × List Stmt)
  | .If c a b _ => some (c, a, b)
  | _ => none
def dFor : Stmt → Option (Expr × Expr × List Stmt)
  | .For t i b e _ => (match e with
    | [] => some (t, i, b)
    | _ => none)
  | _ => none
def dRet : Stmt → Option Expr
  | .Return e _ => e
  | _ => none
def dRai : Stmt → Option Expr
  | .Raise e c _ => (match c with
    | none => e
    | some _ => none)
  | _ => none
def isPas : Stmt → Bool
  | .Pass _ => true
  | _ => false
theorem dAsg_eq {s : Stmt} {t e : Expr} (h : dAsg s = some (t, e)) : ∃ p, s = .Assign [t] e p := by
  cases s <;> simp only [dAsg, reduceCtorEq] at h
  split at h
  · cases h; exact ⟨_, rfl⟩
  · cases h
theorem dExp_eq {s : Stmt} {e : Expr} (h : dExp s = some e) : ∃ p, s = .Expr e p := by
  cases s <;> simp only [dExp, reduceCtorEq] at h
  cases h; exact ⟨_, rfl⟩
theorem dIfS_eq {s : Stmt} {c : Expr} {a b : List Stmt} (h : dIfS s = some (c, a, b)) : ∃ p, s = .If c a b p := by
  cases s <;> simp only [dIfS, reduceCtorEq] at h
  cases h; exact ⟨_, rfl⟩
theorem dFor_eq {s : Stmt} {t i : Expr} {b : List Stmt} (h : dFor s = some (t, i, b)) : ∃ p, s = .For t i b [] p := by
  cases s <;> simp only [dFor, reduceCtorEq] at h
  split at h
  · cases h; exact ⟨_, rfl⟩
  · cases h
theorem dRet_eq {s : Stmt} {e : Expr} (h : dRet s = some e) : ∃ p, s = .Return (some e) p := by
  cases s <;> simp only [dRet, reduceCtorEq] at h
  subst h; exact ⟨_, rfl⟩
theorem dRai_eq {s : Stmt} {e : Expr} (h : dRai s = some e) : ∃ p, s = .Raise (some e) none p := by
  cases s <;> simp only [dRai, reduceCtorEq] at h
  split at h
  · subst h; exact ⟨_, rfl⟩
  · cases h
theorem isPas_eq {s : Stmt} (h : isPas s = true) : ∃ p, s = .Pass p := by
  cases s <;> simp only [isPas, Bool.false_eq_true] at h
  exact ⟨_, rfl⟩
/-- what stands behind the target: no second reading of the store -/
def asgT (sc : Scope) (N : List Str) (tg : Tg) (t e : Expr) : Bool := match tg, t with
  | .one i, .Name y py => asgB sc N i y py e
  | .many _, _ => noComp e && (match e with
    | .Tuple _ _ _ => false
    | _ => true)
  | _, _ => false
/-- x.m(e), x in slot i -/
def methB (N : List Str) (sc : Scope) (i : Nat) (m : Str) (e : Expr) : Option Expr := match dMeth e with
  | some (.Name x _, m', [a]) => if nmB sc N i x && decide (m' = m) && nst a then some a else none
  | _ => none
theorem methB_eq {N : List Str} {sc : Scope} {i : Nat} {m : Str} {e a : Expr} (h : methB N sc i m e = some a) : ∃ x p ap pos, e = .Call (.Attribute (.Name x p) m ap) [a] [] pos ∧ nmB sc N i x = true ∧ nst a = true ∧ (ap.endLine == pos.line) = true := by
  unfold methB at h
  split at h
  · rename_i x p m' b hd
    split at h
    · rename_i hc
      cases h
      obtain ⟨hc, h3⟩ := ba2 hc
      obtain ⟨h1, h2⟩ := ba2 hc
      have := of_decide_eq_true h2
      subst this
      obtain ⟨ap, pos, rfl, hl⟩ := dMeth_eq hd
      exact ⟨x, p, ap, pos, rfl, h1, h3, hl⟩
    · cases h
  · cases h
mutual
def chkS (N : List Str) (sc : Scope) (fb : Str → Bool) : Stm → Stmt → Bool
  | .set tg e, s => (match dAsg s with | some (t, v) => chkT sc fb N tg t && chk N e sc v && e.fl && asgT sc N tg t v | none => false)
  | .seto i e, s => (match dAsg s with | some (t, v) => chkT sc fb N (.one i) t && chk N e sc v && e.isNew && asgT sc N (.one i) t v | none => false)
  | .app i e, s => (match dExp s with | some x => (match methB N sc i "append" x with | some a => chk N e sc a && e.fl | none => false) | none => false)
  | .rem i e, s => (match dExp s with | some x => (match methB N sc i "remove" x with | some a => chk N e sc a && e.fl | none => false) | none => false)
  | .tapp i, s => (match dExp s with | some x => (match methB N sc i "append" x with | some a => decide (dConst a = some (.int 0)) | none => false) | none => false)
  | .exp e, s => (match dExp s with | some x => chk N e sc x && noComp x | none => false)
  | .ifs c a b, s => (match dIfS s with | some (x, y, z) => chk N c sc x && chkSs N sc fb a y && chkSs N sc fb b z | none => false)
  | .for tg it b, s => (match dFor s with | some (t, i, y) => chkT sc fb N tg t && chki N it sc i && it.fl && chkSs N sc fb b y | none => false)
  | .ret e, s => (match dRet s with | some x => chk N e sc x && e.fl | none => false)
  | .rai c, s => (match dRai s with | some x => (match dCall1 c x with | some a => (match dConst a with | some (.str _) => glB sc c | _ => false) | none => false) | none => false)
  | .pas, s => isPas s
  | .frz _, _ => false
def chkSs (N : List Str) (sc : Scope) (fb : Str → Bool) : List Stm → List Stmt → Bool
  | [], ss => ss.isEmpty
  | s :: r, ss => (match s with
    | .frz _ => chkSs N sc fb r ss
    | s => (match ss with
      | t :: ts => chkS N sc fb s t && chkSs N sc fb r ts
      | [] => false))
end
def OkS (g : Gd) (L : Nat) (s : Stm) : Prop := ∀ (X : Cx) (W : WX) (sc : Scope) (fb : Str → Bool) (N : List Str) (B : Bs) (t : Stmt), Gud g X W sc fb N L → chkS N sc fb s t = true → PS X t (tS g B W fun ρ => ex s ρ)
def OkSs (g : Gd) (L : Nat) (s : List Stm) : Prop := ∀ (X : Cx) (W : WX) (sc : Scope) (fb : Str → Bool) (N : List Str) (B : Bs) (t : List Stmt), Gud g X W sc fb N L → chkSs N sc fb s t = true → PSs X t (tS g B W fun ρ => exs s ρ)
section
variable {g : Gd} {L : Nat}
theorem cmp_of {a : IR} (h : a.ok g L) : ∀ elt tg it ifs vs, a = .comp elt tg it ifs vs → CmpOk g L elt it ifs := fun elt tg it ifs vs e => by
  subst e
  simp only [IR.ok] at h
  exact ⟨(okE g L elt h.1).e, (okE g L it h.2.1).e, (okE g L it h.2.1).r, (okEs g L ifs h.2.2).e, (okEs g L ifs h.2.2).a⟩
theorem oks_set {tg : Tg} {e : IR} (h : e.ok g L) : OkS g L (.set tg e) := fun X W sc fb N B s G k => by
  simp only [chkS] at k
  cases hd : dAsg s with
  | none => rw [hd] at k; cases k
  | some t =>
    obtain ⟨t, v⟩ := t
    rw [hd] at k
    obtain ⟨k, k4⟩ := ba2 k
    obtain ⟨k, k3⟩ := ba2 k
    obtain ⟨k1, k2⟩ := ba2 k
    obtain ⟨pos, rfl⟩ := dAsg_eq hd
    simp only [ex]
    cases tg with
    | one i =>
      cases t <;> simp only [chkT, Bool.false_eq_true] at k1
      rename_i y py
      refine ps_wk (ok_asg1 (B := B) (okE g L e h) (cmp_of h) G k1 k2 (by simpa only [asgT] using k4)) fun D σ H q => ?_
      have q := asg_read q
      exact tI.full (kd_fl k3) q
    | many is =>
      simp only [asgT] at k4
      obtain ⟨k5, k6⟩ := ba2 k4
      have hq : PE X v (tI g B W .full fun ρ => ev e ρ) := (okE g L e h).e.f G k2 k3
      have hg := sg G k1
      cases t <;> simp only [chkT, Bool.false_eq_true] at k1
      rename_i es j p
      refine ps_wk (ps_asg hq hg (by simp only [swapsWithSole]; exact sw_plain k5) ?_ rfl) fun D σ H q => asg_read q
      unfold swappedStores
      cases v <;> first | rfl | (simp at k6)
theorem oks_seto {i : Nat} {e : IR} (h : e.ok g L) : OkS g L (.seto i e) := fun X W sc fb N B s G k => by
  simp only [chkS] at k
  cases hd : dAsg s with
  | none => rw [hd] at k; cases k
  | some t =>
    obtain ⟨t, v⟩ := t
    rw [hd] at k
    obtain ⟨k, k4⟩ := ba2 k
    obtain ⟨k, k3⟩ := ba2 k
    obtain ⟨k1, k2⟩ := ba2 k
    obtain ⟨pos, rfl⟩ := dAsg_eq hd
    simp only [ex]
    cases t <;> simp only [chkT, Bool.false_eq_true] at k1
    rename_i y py
    refine ps_wk (ok_asg1 (B := B) (okE g L e h) (cmp_of h) G k1 k2 (by simpa only [asgT] using k4)) fun D σ H q => ?_
    have ek : e.kd = .new := by unfold IR.kd; rw [k3]; rfl
    rw [ek]
    exact own_read q
theorem oks_app {i : Nat} {e : IR} (h : e.ok g L) : OkS g L (.app i e) := fun X W sc fb N B s G k => by
  simp only [chkS] at k
  cases hd : dExp s with
  | none => rw [hd] at k; cases k
  | some x =>
    rw [hd] at k
    dsimp only at k
    cases hm : methB N sc i "append" x with
    | none => rw [hm] at k; cases k
    | some a =>
      rw [hm] at k
      obtain ⟨k1, k2⟩ := ba2 k
      obtain ⟨pos2, rfl⟩ := dExp_eq hd
      obtain ⟨x, p, ap, pos, rfl, h1, h2, h3⟩ := methB_eq hm
      simp only [ex]
      exact ss_app G h1 ((okE g L e h).e.f G k1 k2) h2 h3
theorem oks_rem {i : Nat} {e : IR} (h : e.ok g L) : OkS g L (.rem i e) := fun X W sc fb N B s G k => by
  simp only [chkS] at k
  cases hd : dExp s with
  | none => rw [hd] at k; cases k
  | some x =>
    rw [hd] at k
    dsimp only at k
    cases hm : methB N sc i "remove" x with
    | none => rw [hm] at k; cases k
    | some a =>
      rw [hm] at k
      obtain ⟨k1, k2⟩ := ba2 k
      obtain ⟨pos2, rfl⟩ := dExp_eq hd
      obtain ⟨x, p, ap, pos, rfl, h1, h2, h3⟩ := methB_eq hm
      simp only [ex]
      exact ss_rem G h1 ((okE g L e h).e.f G k1 k2) h2 h3
theorem oks_tapp {i : Nat} : OkS g L (.tapp i) := fun X W sc fb N B s G k => by
  simp only [chkS] at k
  cases hd : dExp s with
  | none => rw [hd] at k; cases k
  | some x =>
    rw [hd] at k
    dsimp only at k
    cases hm : methB N sc i "append" x with
    | none => rw [hm] at k; cases k
    | some a =>
      rw [hm] at k
      obtain ⟨j, p2, rfl⟩ := dConst_eq (of_decide_eq_true k)
      obtain ⟨pos2, rfl⟩ := dExp_eq hd
      obtain ⟨x, p, ap, pos, rfl, h1, h2, h3⟩ := methB_eq hm
      simp only [ex]
      exact ss_tapp G h1 h3
theorem oks_exp {e : IR} (h : e.ok g L) : OkS g L (.exp e) := fun X W sc fb N B s G k => by
  simp only [chkS] at k
  cases hd : dExp s with
  | none => rw [hd] at k; cases k
  | some x =>
    rw [hd] at k
    obtain ⟨k1, k2⟩ := ba2 k
    obtain ⟨pos2, rfl⟩ := dExp_eq hd
    simp only [ex]
    exact ss_exp ((okE g L e h).e X W sc fb N B x G k1).1 k2
theorem oks_ifs {c : IR} {a b : List Stm} (h : c.ok g L) (ha : OkSs g L a) (hb : OkSs g L b) : OkS g L (.ifs c a b) := fun X W sc fb N B s G k => by
  simp only [chkS] at k
  cases hd : dIfS s with
  | none => rw [hd] at k; cases k
  | some t =>
    obtain ⟨x, y, z⟩ := t
    rw [hd] at k
    obtain ⟨k, k3⟩ := ba2 k
    obtain ⟨k1, k2⟩ := ba2 k
    obtain ⟨pos2, rfl⟩ := dIfS_eq hd
    simp only [ex]
    exact ss_if ((okE g L c h).e.t G k1) (ha X W sc fb N B y G k2) (hb X W sc fb N B z G k3)
theorem oks_for {tg : Tg} {it : IR} {b : List Stm} (h : it.ok g L) (hb : OkSs g L b) : OkS g L (.for tg it b) := fun X W sc fb N B s G k => by
  simp only [chkS] at k
  cases hd : dFor s with
  | none => rw [hd] at k; cases k
  | some t =>
    obtain ⟨t, i, y⟩ := t
    rw [hd] at k
    obtain ⟨k, k4⟩ := ba2 k
    obtain ⟨k, k3⟩ := ba2 k
    obtain ⟨k1, k2⟩ := ba2 k
    obtain ⟨pos2, rfl⟩ := dFor_eq hd
    simp only [ex]
    have hi : PI X t i (iI g B W true fun ρ => evi it ρ) := ok_it (okE g L it h).e (okE g L it h).r (fun _ => k3) G k2
    have hs : noSet i = true := by unfold chki at k2; exact (ba2 k2).1
    exact ss_for G hi (sg G k1) (hb X W sc fb N B y G k4) hs
theorem oks_ret {e : IR} (h : e.ok g L) : OkS g L (.ret e) := fun X W sc fb N B s G k => by
  simp only [chkS] at k
  cases hd : dRet s with
  | none => rw [hd] at k; cases k
  | some x =>
    rw [hd] at k
    obtain ⟨k1, k2⟩ := ba2 k
    obtain ⟨pos2, rfl⟩ := dRet_eq hd
    simp only [ex]
    exact ss_ret ((okE g L e h).e.f G k1 k2)
theorem oks_rai {c : Str} (h : ClG g c) : OkS g L (.rai c) := fun X W sc fb N B s G k => by
  simp only [chkS] at k
  cases hd : dRai s with
  | none => rw [hd] at k; cases k
  | some x =>
    rw [hd] at k
    dsimp only at k
    cases hc : dCall1 c x with
    | none => rw [hc] at k; cases k
    | some a =>
      rw [hc] at k
      dsimp only at k
      cases hk : dConst a with
      | none => rw [hk] at k; cases k
      | some y =>
        rw [hk] at k
        cases y with
        | str m =>
          obtain ⟨j, p2, rfl⟩ := dConst_eq hk
          obtain ⟨p, pos, rfl⟩ := dCall1_eq hc
          obtain ⟨pos2, rfl⟩ := dRai_eq hd
          simp only [ex]
          exact ss_rai G h k
        | _ => cases k
theorem oks_pas : OkS g L .pas := fun X W sc fb N B s G k => by
  simp only [chkS] at k
  obtain ⟨p, rfl⟩ := isPas_eq k
  simp only [ex]
  exact ss_pas
theorem oks_frz {i : Nat} : OkS g L (.frz i) := fun X W sc fb N B s G k => by simp [chkS] at k
theorem okss_nil : OkSs g L [] := fun X W sc fb N B s G k => by
  simp only [chkSs] at k
  cases s with
  | cons _ _ => cases k
  | nil =>
    simp only [exs]
    refine pss_wk pss_nil fun D σ H q => ?_
    obtain ⟨ρ, F, T, n, R, q⟩ := q
    exact q σ H F R Kp.refl
theorem Sf.sq {B : Bs} {W : WX} {D : Ends} {T : Option Addr} {H : Hp} {F : FS} {n : Nat} {m : M Fl} {k : Ss.Env → M Fl} (h : Sf g B W D T H F (sq m k n)) (D' : Ends) (hr : D'.rt = D.rt)
    (hx : ∀ ρ' n' σ' H' F', m n = .ok (.nx ρ') n' → Rel g B ρ' σ' H' F' T n' → Kp H F H' F' → Sf g B W D T H' F' (k ρ' n') → D'.nx σ' H') : Sf g B W D' T H F (m n) := by
  unfold Ss.sq bnd at h
  cases e : m n with
  | bad => rw [e] at h; exact h
  | exc c n' => rw [e] at h; exact h
  | ok f n' =>
    rw [e] at h
    cases f with
    | nx ρ' => exact fun σ' H' F' R kk => hx ρ' n' σ' H' F' e R kk (h.later kk)
    | rt d => intro v H' F' a b c; rw [hr]; exact h v H' F' a b c
    | ex c ρ' => exact h
theorem okss_cons {s : Stm} {ss : List Stm} (h1 : OkS g L s) (h2 : OkSs g L ss) : OkSs g L (s :: ss) := fun X W sc fb N B t G k => by
  have plain : (∀ i, s ≠ .frz i) → ∀ t ts, chkS N sc fb s t = true → chkSs N sc fb ss ts = true → PSs X (t :: ts) (tS g B W fun ρ => exs (s :: ss) ρ) := fun _ t ts k1 k2 => by
    simp only [exs]
    refine pss_wk (pss_cons (h1 X W sc fb N B t G k1) (h2 X W sc fb N B ts G k2)) fun D σ H q => ?_
    obtain ⟨ρ, F, T, n, R, q⟩ := q
    refine ⟨ρ, F, T, n, R, q.sq { D with nx := tS g B W (fun ρ => exs ss ρ) D } rfl fun ρ' n' σ' H' F' _ R' _ s' => ⟨ρ', F', T, n', R', s'⟩⟩
  have go : (∀ i, s ≠ .frz i) → ∀ t' : List Stmt, (match t' with | t :: ts => chkS N sc fb s t && chkSs N sc fb ss ts | [] => false) = true → PSs X t' (tS g B W fun ρ => exs (s :: ss) ρ) := fun hn t' k => by
    cases t' with
    | nil => cases k
    | cons t ts => exact plain hn t ts (ba2 k).1 (ba2 k).2
  cases s with
  | frz i =>
    simp only [chkSs] at k
    refine pss_wk (h2 X W sc fb N B t G k) fun D σ H q => ?_
    obtain ⟨ρ, F, T, n, R, q⟩ := q
    simp only [exs, ex] at q
    cases eo : getO ρ i with
    | none =>
      rw [eo] at q
      exact False.elim q
    | some xs =>
      rw [eo] at q
      obtain ⟨F', R', kk⟩ := R.freeze eo
      exact ⟨_, F', T, n, R', (show Sf g B W D T H F (exs ss (ρ.set i (.dat (.lst xs))) n) from q).later kk⟩
  | set _ _ => simp only [chkSs] at k; exact go (by intro _ e; cases e) t k
  | seto _ _ => simp only [chkSs] at k; exact go (by intro _ e; cases e) t k
  | app _ _ => simp only [chkSs] at k; exact go (by intro _ e; cases e) t k
  | rem _ _ => simp only [chkSs] at k; exact go (by intro _ e; cases e) t k
  | tapp _ => simp only [chkSs] at k; exact go (by intro _ e; cases e) t k
  | exp _ => simp only [chkSs] at k; exact go (by intro _ e; cases e) t k
  | ifs _ _ _ => simp only [chkSs] at k; exact go (by intro _ e; cases e) t k
  | «for» _ _ _ => simp only [chkSs] at k; exact go (by intro _ e; cases e) t k
  | ret _ => simp only [chkSs] at k; exact go (by intro _ e; cases e) t k
  | rai _ => simp only [chkSs] at k; exact go (by intro _ e; cases e) t k
  | pas => simp only [chkSs] at k; exact go (by intro _ e; cases e) t k
end
mutual
theorem okS (g : Gd) (L : Nat) : ∀ s : Stm, s.ok g L → OkS g L s
  | .set _ e, h => oks_set (by simpa only [Stm.ok] using h)
  | .seto _ e, h => oks_seto (by simpa only [Stm.ok] using h)
  | .app _ e, h => oks_app (by simpa only [Stm.ok] using h)
  | .rem _ e, h => oks_rem (by simpa only [Stm.ok] using h)
  | .tapp _, _ => oks_tapp
  | .exp e, h => oks_exp (by simpa only [Stm.ok] using h)
  | .ifs c a b, h => oks_ifs (by simp only [Stm.ok] at h; exact h.1) (okSs g L a (by simp only [Stm.ok] at h; exact h.2.1)) (okSs g L b (by simp only [Stm.ok] at h; exact h.2.2))
  | .for _ it b, h => oks_for (by simp only [Stm.ok] at h; exact h.1) (okSs g L b (by simp only [Stm.ok] at h; exact h.2))
  | .ret e, h => oks_ret (by simpa only [Stm.ok] using h)
  | .rai c, h => oks_rai (by simpa only [Stm.ok] using h)
  | .pas, _ => oks_pas
  | .frz _, _ => oks_frz
theorem okSs (g : Gd) (L : Nat) : ∀ s : List Stm, okss g L s → OkSs g L s
  | [], _ => okss_nil
  | s :: ss, h => okss_cons (okS g L s (by simp only [okss] at h; exact h.1)) (okSs g L ss (by simp only [okss] at h; exact h.2))
end
end Ss
/-! Ss, part N: a def keeps its promise; the law itself. -/
namespace Ss
open PySem PySem.Spec PyProof.Rows L2
theorem start_get {N : List Str} {vs : List V} {i : Nat} {v : V} (h : vs[i]? = some v) : (L2.start N vs)[i]? = some (some v) := by
  unfold L2.start
  have hl : i < vs.length := by
    rcases Nat.lt_or_ge i vs.length with z | z
    · exact z
    · rw [List.getElem?_eq_none z] at h; cases h
  rw [List.getElem?_append_left (by simpa using hl), List.getElem?_map, h]; rfl
def slots0 (m : Nat) (ds : List D) : Ss.Env := ds.map Sl.dat ++ List.replicate (m - ds.length) Sl.emp
theorem slots0_get {m : Nat} {ds : List D} {i : Nat} {s : Sl} (h : (slots0 m ds)[i]? = some s) : s = .emp ∨ ∃ d, ds[i]? = some d ∧ s = .dat d := by
  unfold slots0 at h
  by_cases hi : i < ds.length
  · rw [List.getElem?_append_left (by simpa using hi), List.getElem?_map] at h
    cases e : ds[i]? with
    | none => rw [e] at h; cases h
    | some d => rw [e] at h; cases h; exact .inr ⟨d, rfl, rfl⟩
  · rw [List.getElem?_append_right (by simpa using hi), List.getElem?_replicate] at h
    split at h
    · cases h; exact .inl rfl
    · cases h
theorem rel0 {g : Gd} {N : List Str} {T : Option Addr} {H : Hp} {F : FS} {n : Nat} {ds : List D} {vs : List V} (tw : Tw T H n) (nf : ∀ a, T = some a → ¬ F a) (dm : ∀ a, F a → ∃ o, H a = some o) (r : Rps g H F T ds vs) :
    Rel g ⟨T, H, F⟩ (slots0 N.length ds) (L2.start N vs) H F T n := by
  refine ⟨Ev.refl, tw, nf, dm, .inl rfl, ?_, fun i s e => ?_, fun i j a h1 _ => ?_⟩
  · unfold slots0 L2.start
    simp only [List.length_append, List.length_map, List.length_replicate, r.len]
  · rcases slots0_get e with rfl | ⟨d, hd, rfl⟩
    · trivial
    · obtain ⟨v, hv, rv⟩ := r.get hd
      exact ⟨v, start_get hv, rv⟩
  · obtain ⟨⟨xs, e⟩, _⟩ := h1
    rcases slots0_get e with z | ⟨d, _, z⟩ <;> cases z
/-- from what a def comes to, to what its body is wanted to reach -/
theorem sf_of {g : Gd} {T : Option Addr} {H : Hp} {F : FS} {n : Nat} {irs : List Stm} {m : Nat} {ds : List D} {Q : VK} {E : XK}
    (h : Fin g (fun c d _ H' => E c d H') [] T H F (runF m irs ds n) fun d _ H' F' => ∀ v, Rp g H' F' T d v → Q v H') :
    Sf g ⟨T, H, F⟩ (fun c d _ H' => E c d H') { nx := fun _ H' => Q .non H', rt := Q } T H F (exs irs (slots0 m ds) n) := by
  unfold runF at h
  have e0 : ds.map Sl.dat ++ List.replicate (m - ds.length) Sl.emp = slots0 m ds := rfl
  rw [e0] at h
  cases e : exs irs (slots0 m ds) n with
  | bad => rw [e] at h; exact h
  | exc c n' => rw [e] at h; exact h
  | ok f n' =>
    rw [e] at h
    cases f with
    | nx ρ' => exact fun σ' H' F' R _ => h H' F' R.ev R.tw .non (by simp only [Rp])
    | rt d => exact fun v H' F' ev tw r => h H' F' ev tw v r
    | ex c ρ' => exact fun σ' H' F' R C hC => h H' F' R.ev R.tw C hC
section
variable {P : Program} {w : World} {K : PySem.W.Frag} {mg : Str → Option Value} {base : Heap}
/-- a def of the text -/
structure FnTxt (K : PySem.W.Frag) (mg : Str → Option Value) (name qual : Str) (params : Arguments) (body : List Stmt) (scope : Scope) (ps : List Str) : Prop where
  ex : ∃ a fd, mg name = some (.ref a) ∧ FunD K name qual params body scope [] [] a fd ∧ Binds K fd ps []
theorem gud_of {N ps : List Str} {qual : Str} {scope : Scope} {f : Addr} {cdv : Value} {A : Around} {outer : List PySem.Env} {s : Shared} {H : Hp} {E : XK} {L : Nat} (S : FnScope N ps scope) (ok : GdOk ⟨P, w, K, mg, base⟩) (hr : Room L (A.deeper (envOfC qual scope s.heap.objs.size f cdv))) :
    Gud ⟨P, w, K, mg, base⟩ (cxOf (L2.CX P w) P w K mg base N qual scope f cdv A outer s H E) (fun c d _ H' => E c d H') scope (fun _ => true) N L :=
  ⟨rfl, ok, rfl, rfl, S.nd, rfl, hr, takes_of rfl rfl rfl rfl, fun _ _ => rfl, passes_of rfl⟩
theorem fnG_of {f : Fn} {qual : Str} {params : Arguments} {body : List Stmt} {scope : Scope} {N ps : List Str} {irs : List Stm} {L : Nat} (T : FnTxt K mg f.name qual params body scope ps) (S : FnScope N ps scope) (hl : ps.length = f.ar) (hs : f.sem = runF N.length irs)
    (ok : GdOk ⟨P, w, K, mg, base⟩) (hok : okss ⟨P, w, K, mg, base⟩ L irs) (hc : chkSs N scope (fun _ => true) irs body = true) : FnG ⟨P, w, K, mg, base⟩ (L + 1) f := by
  obtain ⟨a, fd, hm, F, hb⟩ := T.ex
  refine ⟨a, fd, ps, hm, F.kp, hb, hl, F.ok S (fun vs H Q E h => ?_) fun cdv A outer s H vs Q E hr h => ?_⟩
  · obtain ⟨_, _, _, ds, _, _, _, r, e, _⟩ := h
    rw [r.len, e, hl]
  · obtain ⟨Fz, Tn, n, ds, tw, nf, dm, r, e, fin⟩ := h
    have G := gud_of (P := P) (w := w) (K := K) (mg := mg) (base := base) (outer := outer) (s := s) (H := H) (E := E) S ok hr
    refine ⟨_, okSs _ L irs hok _ _ scope (fun _ => true) N ⟨Tn, H, Fz⟩ body G hc, slots0 N.length ds, Fz, Tn, n, rel0 tw nf dm r, ?_⟩
    rw [hs] at fin
    exact sf_of fin
/-- the law: slot 0 the script, slot i the town, which its first statement lays -/
def lawRun (m i : Nat) (irs : List Stm) (ns : List Int) : Res Fl := exs irs ((slots0 m [.scr ns]).set i (.dat .town)) 0
def spLaw (K : PySem.W.Frag) : Sp := fun vs H Q _ => ∃ (a : Addr) (ns : List Int), vs = [.ref a] ∧ ns.length ≤ 63 ∧ ((∃ o, H a = some (.frz o (.lst (ns.map V.int)))) ∨ ∀ H', SqL K H' a (ns.map V.int)) ∧ ∀ H', Q (.bl true) H'
def isNilE (e : Expr) : Bool := match dLst e with
  | some [] => true
  | _ => false
theorem isNilE_eq {e : Expr} (h : isNilE e = true) : dLst e = some [] := by
  unfold isNilE at h
  split at h
  · assumption
  · cases h
def tnewB (N : List Str) (sc : Scope) (i : Nat) (s : Stmt) : Bool := match dAsg s with
  | some (t, e) => chkT sc (fun _ => true) N (.one i) t && isNilE e
  | none => false
theorem law_fn {qual name : Str} {params : Arguments} {s0 : Stmt} {body : List Stmt} {scope : Scope} {N : List Str} {irs : List Stm} {L i : Nat} {a : Addr} {fd : FuncData} (F : FunD K name qual params (s0 :: body) scope [] [] a fd) (S : FnScope N ["script"] scope)
    (ok : GdOk ⟨P, w, K, mg, base⟩) (hok : okss ⟨P, w, K, mg, base⟩ L irs) (h0 : tnewB N scope i s0 = true) (hi : 0 < i ∧ i < N.length) (hc : chkSs N scope (fun _ => true) irs body = true)
    (law : ∀ ns : List Int, ns.length ≤ 63 → ∃ n', lawRun N.length i irs ns = .ok (.rt (.bl true)) n') : FnOk P w K mg base CX0 (L + 1) a fd ["script"] (spLaw K) := by
  refine F.ok S (fun vs H Q E h => ?_) fun cdv A outer s H vs Q E hr h => ?_
  · obtain ⟨_, _, rfl, _⟩ := h
    rfl
  · obtain ⟨sa, ns, rfl, hl, hs, hq⟩ := h
    obtain ⟨n', hn⟩ := law ns hl
    have G : Gud ⟨P, w, K, mg, base⟩ (cxOf CX0 P w K mg base N qual scope a cdv A outer s H E).nox (fun _ _ _ _ => False) scope (fun _ => true) N L :=
      ⟨rfl, ok, rfl, rfl, S.nd, rfl, hr, takes0, fun _ _ => rfl, PassesOwn.never⟩
    unfold tnewB at h0
    cases hd : dAsg s0 with
    | none => rw [hd] at h0; cases h0
    | some t =>
      obtain ⟨t, e⟩ := t
      rw [hd] at h0
      obtain ⟨k1, k2⟩ := ba2 h0
      obtain ⟨pos, rfl⟩ := dAsg_eq hd
      obtain ⟨p, rfl⟩ := dLst_eq (isNilE_eq k2)
      cases t <;> simp only [chkT, Bool.false_eq_true] at k1
      rename_i x px
      obtain ⟨l1, l2, l3⟩ := G.loc k1
      refine ⟨_, PSs.nox (pss_cons (ps_set (i := i) S.nd l1 l2 (pe_lst pa_nil) rfl l3) (okSs _ L irs hok _ _ scope (fun _ => true) N ⟨none, H, fun _ => False⟩ body G hc)), ?_⟩
      refine ⟨Nat.zero_le _, fun q hq0 => ?_⟩
      have R0 : Rel ⟨P, w, K, mg, base⟩ ⟨none, H, fun _ => False⟩ (slots0 N.length [.scr ns]) (L2.start N [.ref sa]) H (fun _ => False) none 0 :=
        rel0 (fun _ z => nomatch z) (fun _ z => nomatch z) (fun _ z => z.elim) (.one (by simp only [Rp]; exact ⟨sa, rfl, hs⟩))
      have kk : Kp H (fun _ => False) (upd H q (.lst [])) (fun _ => False) := Kp.alloc hq0 fun _ z => z
      have R1 : Rel ⟨P, w, K, mg, base⟩ ⟨none, H, fun _ => False⟩ ((slots0 N.length [.scr ns]).set i .emp) (L2.start N [.ref sa]) (upd H q (.lst [])) (fun _ => False) (some q) 0 := by
        have eo : ∀ {j : Nat} {s : Sl}, ((slots0 N.length [.scr ns]).set i .emp)[j]? = some s → s = .emp ∨ (slots0 N.length [.scr ns])[j]? = some s := fun {j s} e => by
          by_cases hj : i = j
          · subst hj
            by_cases hl : i < (slots0 N.length [.scr ns]).length
            · rw [List.getElem?_set_self hl] at e; cases e; exact .inl rfl
            · rw [List.getElem?_eq_none (by rw [List.length_set]; omega)] at e; cases e
          · rw [List.getElem?_set_ne hj] at e; exact .inr e
        refine ⟨Ev.alloc hq0, fun b z => ?_, fun b _ f => f, fun b f => f.elim, .inr ⟨rfl, fun b z => ?_⟩, by rw [List.length_set]; exact R0.len, fun j s e => ?_, fun j k b h1 _ => ?_⟩
        · cases z; exact upd_same
        · cases z; exact hq0
        · rcases eo e with rfl | e
          · trivial
          · have z := R0.sl j s e
            rcases slots0_get e with rfl | ⟨d, hd, rfl⟩
            · trivial
            · obtain ⟨v, z1, z2⟩ := z
              exact ⟨v, z1, Rp.kp kk (fun _ (y : (none : Option Addr) = some _) => by cases y) _ _ z2⟩
        · obtain ⟨⟨xs, e⟩, _⟩ := h1
          rcases eo e with z | e
          · cases z
          · rcases slots0_get e with z | ⟨d, _, z⟩ <;> cases z
      have R2 := R1.put i (d := .town) (v := .ref q) (by simp only [Rp]; exact ⟨q, rfl, rfl⟩)
      rw [List.set_set] at R2
      refine ⟨_, _, _, _, R2, ?_⟩
      show Sf _ _ _ _ _ _ _ (lawRun N.length i irs ns)
      rw [hn]
      intro v H' F' _ _ r
      simp only [Rp] at r
      rw [r]
      exact hq H'
end
end Ss
/-! Ss, part O: what the head tells, as the layer wants it. -/
namespace Ss
open PySem PySem.Spec PyProof.Rows L2
/-- a Hook: facts, defs, one Bool more -/
def obsS (fa : List He.Fa) (fn : List He.DefD) (ex : PySem.W.Frag → Bool) (K : PySem.W.Frag) : He.AlD × Bool := (He.obsD fa fn K, ex K)
def obsSG (n : Nat) (fa : List He.Fa) (fn : List He.DefD) (ex : PySem.W.Frag → Bool) (g : Addr → Option Obj) : He.AlD × Bool := obsS fa fn ex (He.frG g (He.asD g n))
def hookS (n : Nat) (fa : List He.Fa) (fn : List He.DefD) (ex : PySem.W.Frag → Bool) : PySem.W.Hook where
  α := He.AlD × Bool
  obs := fun s => obsSG n fa fn ex s.heap.get?
  val := fun _ => (He.valD fn, true)
  says := fun _ h => ∃ K : PySem.W.Frag, K.In h ∧ He.SaysD fa fn K ∧ ex K = true
  of := fun _ _ e => ⟨_, He.frG_in, congrArg (fun z : He.AlD × Bool => z.1) e, congrArg (fun z : He.AlD × Bool => z.2) e⟩
  keeps := fun _ _ _ ⟨K, hK, c⟩ k => ⟨K, PySem.W.Frag.In.keeps hK k, c⟩
theorem obsSG_eq {n : Nat} {fa : List He.Fa} {fn : List He.DefD} {ex : PySem.W.Frag → Bool} {g : Addr → Option Obj} {s : Shared} (h : ∀ a, g a = s.heap.get? a) : obsSG n fa fn ex g = (hookS n fa fn ex).obs s := by
  have e : g = s.heap.get? := funext h
  rw [e] <;> rfl
section
variable {fa : List He.Fa} {fn : List He.DefD} {P : Program} {w : World} {K : PySem.W.Frag} {mg : Str → Option Value} {base : Heap} {h : Heap}
theorem FnG.mono {g : Gd} {L L' : Nat} {f : Fn} (x : FnG g L f) (h : L ≤ L') : FnG g L' f := by
  obtain ⟨a, fd, ps, h1, h2, h3, h4, h5⟩ := x.ex
  exact ⟨a, fd, ps, h1, h2, h3, h4, h5.mono h⟩
theorem fa_mem (c : He.SaysD fa fn K) {f : He.Fa} (h : f ∈ fa) : f.ok K = true := by
  obtain ⟨i, hi, e⟩ := List.mem_iff_getElem.mp h
  exact c.fact i (f := f) (by rw [List.getElem?_eq_getElem hi, e])
theorem gdOk_of (X : K.In h) (G : h.Ns mainGlobals mg) (c : He.SaysD fa fn K) (hf : ∀ x ∈ bns, He.Fa.free x ∈ fa) : GdOk ⟨P, w, K, mg, base⟩ := ⟨fun x hx => He.free_ok X G (fa_mem c (hf x hx))⟩
theorem gl_int (X : K.In h) (G : h.Ns mainGlobals mg) (c : He.SaysD fa fn K) {x : Str} {i : Int} (n : Nat) (hf : fa[n]? = some (.int x i)) : GlG ⟨P, w, K, mg, base⟩ x (.int i) := by
  obtain ⟨t, e⟩ := He.int_ok X G (c.fact n hf)
  exact ⟨.int i, _, e, ⟨t, rfl⟩, fun _ _ _ => by simp only [Rp]⟩
theorem gl_str (X : K.In h) (G : h.Ns mainGlobals mg) (c : He.SaysD fa fn K) {x z : Str} (n : Nat) (hf : fa[n]? = some (.str x z)) : GlG ⟨P, w, K, mg, base⟩ x (.str z) := by
  obtain ⟨t, e⟩ := He.str_ok X G (c.fact n hf)
  exact ⟨.str z, _, e, ⟨t, rfl⟩, fun _ _ _ => by simp only [Rp]⟩
theorem rps_str {g : Gd} {H : Hp} {F : FS} {T : Option Addr} : ∀ xs : List Str, Rps g H F T (xs.map D.str) (xs.map V.str)
  | [] => by simp only [List.map_nil, Rps]
  | x :: xs => by
    simp only [List.map_cons, Rps]
    exact ⟨_, _, rfl, by simp only [Rp], rps_str xs⟩
theorem gl_tupS (X : K.In h) (G : h.Ns mainGlobals mg) (c : He.SaysD fa fn K) {x : Str} (xs : List Str) (n : Nat) (hf : fa[n]? = some (.glo x)) (ht : He.tupB K x (xs.map He.Dv.str) = true) (hl : xs.length ≤ sizeLine) : GlG ⟨P, w, K, mg, base⟩ x (.tup (xs.map D.str)) := by
  refine ⟨.ref (He.ga K x), _, He.glo_ok X G (c.fact n hf), rfl, fun H F T => ?_⟩
  simp only [Rp]
  refine ⟨_, xs.map V.str, rfl, ?_, by simpa using hl, rps_str xs⟩
  have z := He.tupB_ok ht H
  have e : (xs.map He.Dv.str).map (He.Dv.v K) = xs.map V.str := by rw [List.map_map]; rfl
  rw [e] at z
  exact z
theorem cl_exc (X : K.In h) (G : h.Ns mainGlobals mg) (c : He.SaysD fa fn K) {x : Str} (n m : Nat) (hf : fa[n]? = some (.exc x)) (hg : fa[m]? = some (.glo x)) : ClG ⟨P, w, K, mg, base⟩ x := by
  obtain ⟨h1, h2, h3, h4⟩ := He.exc_ok (c.fact n hf)
  exact ⟨_, He.glo_ok X G (c.fact m hg), h1, h2, h3, h4⟩
/-- a def of the top, from its facts -/
theorem fnTxt_of (X : K.In h) (G : h.Ns mainGlobals mg) (c : He.SaysD fa fn K) {x : Str} {params : Arguments} {body : List Stmt} {scope : Scope} {ps : List Str} (i n : Nat) (hd : fn[i]? = some ⟨(x, none), x, x, params, body, scope, [], []⟩) (hg : fa[n]? = some (.glo x))
    (hb : ∀ (kV doc pm : Value) (an : Option Addr) (cdv ct : Value) (us : List Value), us.length = ps.length → bindArgs (PySem.W.fnOf x x params body scope .none kV doc pm an cdv ct) ⟨us, []⟩ = pure (ps.zip us)) : FnTxt K mg x x params body scope ps := by
  obtain ⟨fd, F⟩ := c.def_ i hd
  exact ⟨_, fd, He.glo_ok X G (c.fact n hg), F, F.bindsN hb⟩
theorem sp_law {H : Hp} {a : Addr} {ns : List Int} (hl : ns.length ≤ 63) (ho : Only H) (hS : SqL K H a (ns.map V.int)) : spLaw K [.ref a] H (fun v _ => v = .bl true) fun _ _ _ => False := by
  refine ⟨a, ns, rfl, hl, ?_, fun _ => rfl⟩
  rcases hS with z | z
  · rcases z with z | z
    · rcases ho a with q | ⟨o, xs, q⟩
      · rw [q] at z; cases z
      · rw [q] at z; cases z
    · exact .inl z
  · exact .inr fun H' => .inr z
end
end Ss
/-! Ss, part T: how to reckon with the small language's evaluator. -/
namespace Ss
open PySem L2
/-! ### expressions -/
section
variable {ρ : Ss.Env} {i : Nat} {d : D} {x : Str} {es : List IR} {a b c e : IR}
@[simp] theorem ev_var : ev (.var i) ρ = lft (getD ρ i) := by simp only [ev]
@[simp] theorem ev_own : ev (.own i) ρ = lft ((getO ρ i).map D.lst) := by simp only [ev]
@[simp] theorem ev_lit : ev (.lit d) ρ = ret d := by simp only [ev]
@[simp] theorem ev_glob : ev (.glob x d) ρ = ret d := by simp only [ev]
@[simp] theorem ev_tup : ev (.tup es) ρ = bnd (evs es ρ) fun ds => if ds.length ≤ sizeLine then ret (.tup ds) else bad := by simp only [ev]
@[simp] theorem ev_lst : ev (.lst es) ρ = bnd (evs es ρ) fun ds => if ds.length ≤ sizeLine then ret (.lst ds) else bad := by simp only [ev]
@[simp] theorem ev_op {o : Op} : ev (.op o a b) ρ = bnd (ev a ρ) fun x => bnd (ev b ρ) fun y => lft (o.f x y) := by simp only [ev]
@[simp] theorem ev_cmp {o : Cm} : ev (.cmp o a b) ρ = bnd (ev a ρ) fun x => bnd (ev b ρ) fun y => lft ((o.f x y).map D.bl) := by simp only [ev]
@[simp] theorem ev_chain : ev (.chain a b c) ρ = bnd (ev a ρ) fun x => bnd (ev b ρ) fun y => bnd (lft (Cm.f .le x y)) fun k => if k then bnd (ev c ρ) fun z => lft ((Cm.f .le y z).map D.bl) else ret (.bl false) := by simp only [ev]
def isN : D → Bool
  | .non => true
  | _ => false
@[simp] theorem ev_isn {neg : Bool} : ev (.isn neg a) ρ = bnd (ev a ρ) fun x => ret (.bl (if isN x then !neg else neg)) := by
  simp only [ev]
  congr 1
  funext x
  cases x <;> simp [isN]
@[simp] theorem ev_bop {an : Bool} : ev (.bop an es) ρ = evb an es ρ := by simp only [ev]
@[simp] theorem ev_nt : ev (.nt a) ρ = bnd (ev a ρ) fun x => lft ((tru x).map fun b => D.bl (!b)) := by simp only [ev]
@[simp] theorem ev_ite : ev (.ite c a b) ρ = bnd (ev c ρ) fun x => bnd (lft (tru x)) fun k => if k then ev a ρ else ev b ρ := by simp only [ev]
@[simp] theorem ev_idx : ev (.idx a b) ρ = bnd (ev a ρ) fun x => bnd (ev b ρ) fun y => lft (idxD x y) := by simp only [ev]
@[simp] theorem ev_slc {lo hi : Option IR} : ev (.slc a lo hi) ρ = bnd (ev a ρ) fun x => bnd (evo lo ρ) fun l => bnd (evo hi ρ) fun h => lft (cutD x l h) := by simp only [ev]
@[simp] theorem ev_call {g : Fn} : ev (.call g es) ρ = bnd (evs es ρ) fun ds => if ds.length = g.ar then g.sem ds else bad := by simp only [ev]
@[simp] theorem ev_bi {b : Bi} : ev (.bi b es) ρ = bnd (evs es ρ) fun ds => lft (b.f ds) := by simp only [ev]
@[simp] theorem ev_isi {t : Ty} : ev (.isi t a) ρ = bnd (ev a ρ) fun x => lft ((t.f x).map D.bl) := by simp only [ev]
def setN (x : D) : M D := match x with
    | .lst ds => lft ((leaves ds).bind fun xs => if xs.length ≤ 4000 then some (D.int (dcn xs xs.length)) else none)
    | _ => bad
@[simp] theorem ev_lens : ev (.lens a) ρ = bnd (ev a ρ) setN := by
  simp only [ev]; congr 1
def joinM (z x : D) : M D := match z, x with
  | .str z, .lst ds => lft (joinS z ds)
  | _, _ => bad
theorem joinM_bad {z : D} (h : ∀ s, z ≠ .str s) (x : D) : joinM z x = bad := by
  cases z <;> first | rfl | (exact absurd rfl (h _))
@[simp] theorem ev_join {z : Str} : ev (.join (.lit (.str z)) a) ρ = bnd (ev a ρ) fun x => joinM (.str z) x := by
  simp only [ev, ret_bnd]
  congr 1
  funext x
  cases x <;> rfl
@[simp] theorem ev_lrng : ev (.lrng es) ρ = bnd (evs es ρ) fun ds => lft ((rngD ds).map D.lst) := by simp only [ev]
def tlenM (x : D) : M D := match x with
  | .town => fun n => .ok (.int n) n
  | _ => bad
@[simp] theorem ev_tlen : ev (.tlen i) ρ = bnd (lft (getD ρ i)) tlenM := by
  simp only [ev]; congr 1
def cb (elt : IR) (tg : Tg) (ifs : List IR) (vs : List Nat) (ρ : Ss.Env) (d : D) : M (Option D) := bnd (lft (tg.put d (wip ρ vs))) fun ρ2 => bnd (evb true ifs ρ2) fun c => bnd (lft (tru c)) fun k => if k then bnd (ev elt ρ2) fun x => ret (some x) else ret none
@[simp] theorem ev_comp {elt it : IR} {tg : Tg} {ifs : List IR} {vs : List Nat} : ev (.comp elt tg it ifs vs) ρ = bnd (evi it ρ) fun ds => bnd (lcs (cb elt tg ifs vs ρ) ds) fun xs => ret (.lst xs) := by
  cases it <;> (simp only [ev, evi]; rfl)
@[simp] theorem evs_nil : evs [] ρ = ret [] := by simp only [evs]
@[simp] theorem evs_cons : evs (e :: es) ρ = bnd (ev e ρ) fun d => bnd (evs es ρ) fun ds => ret (d :: ds) := by simp only [evs]
@[simp] theorem evo_none : evo none ρ = ret none := by simp only [evo]
@[simp] theorem evo_some : evo (some e) ρ = bnd (ev e ρ) fun x => lft (part x) := by simp only [evo]
@[simp] theorem evb_nil {an : Bool} : evb an [] ρ = ret (.bl an) := by simp only [evb]
@[simp] theorem evb_one {an : Bool} : evb an [e] ρ = ev e ρ := by simp only [evb]
@[simp] theorem evb_cons {an : Bool} {f : IR} : evb an (e :: f :: es) ρ = bnd (ev e ρ) fun x => bnd (lft (tru x)) fun k => if k == an then evb an (f :: es) ρ else ret x := by simp only [evb]
@[simp] theorem evi_rng : evi (.rng es) ρ = bnd (evs es ρ) fun ds => lft (rngD ds) := Eq.trans rfl rfl
@[simp] theorem evi_var : evi (.var i) ρ = bnd (ev (.var i) ρ) fun x => lft (items x) := Eq.trans rfl rfl
@[simp] theorem evi_own : evi (.own i) ρ = bnd (ev (.own i) ρ) fun x => lft (items x) := Eq.trans rfl rfl
@[simp] theorem evi_idx : evi (.idx a b) ρ = bnd (ev (.idx a b) ρ) fun x => lft (items x) := Eq.trans rfl rfl
@[simp] theorem evi_op {o : Op} : evi (.op o a b) ρ = bnd (ev (.op o a b) ρ) fun x => lft (items x) := Eq.trans rfl rfl
@[simp] theorem evi_lst : evi (.lst es) ρ = bnd (ev (.lst es) ρ) fun x => lft (items x) := Eq.trans rfl rfl
@[simp] theorem evi_tup : evi (.tup es) ρ = bnd (ev (.tup es) ρ) fun x => lft (items x) := Eq.trans rfl rfl
@[simp] theorem evi_lit : evi (.lit d) ρ = bnd (ev (.lit d) ρ) fun x => lft (items x) := Eq.trans rfl rfl
@[simp] theorem evi_glob : evi (.glob x d) ρ = bnd (ev (.glob x d) ρ) fun x => lft (items x) := Eq.trans rfl rfl
@[simp] theorem evi_call {g : Fn} : evi (.call g es) ρ = bnd (ev (.call g es) ρ) fun x => lft (items x) := Eq.trans rfl rfl
@[simp] theorem evi_slc {lo hi : Option IR} : evi (.slc a lo hi) ρ = bnd (ev (.slc a lo hi) ρ) fun x => lft (items x) := Eq.trans rfl rfl
@[simp] theorem evi_bi {b : Bi} : evi (.bi b es) ρ = bnd (ev (.bi b es) ρ) fun x => lft (items x) := Eq.trans rfl rfl
@[simp] theorem evi_comp {elt it : IR} {tg : Tg} {ifs : List IR} {vs : List Nat} : evi (.comp elt tg it ifs vs) ρ = bnd (ev (.comp elt tg it ifs vs) ρ) fun x => lft (items x) := Eq.trans rfl rfl
/-! ### statements -/
@[simp] theorem stp_ret {α : Type} (v : α) (k : α → M Fl) : stp ρ (ret v) k = k v := Eq.trans rfl rfl
@[simp] theorem stp_raz {α : Type} (c : Str) (k : α → M Fl) : stp ρ (raz c : M α) k = ret (.ex c ρ) := Eq.trans rfl rfl
@[simp] theorem sq_nx {ρ' : Ss.Env} {k : Ss.Env → M Fl} : sq (ret (.nx ρ')) k = k ρ' := Eq.trans rfl rfl
@[simp] theorem sq_rt {k : Ss.Env → M Fl} : sq (ret (.rt d)) k = ret (.rt d) := Eq.trans rfl rfl
@[simp] theorem sq_ex {ρ' : Ss.Env} {k : Ss.Env → M Fl} : sq (ret (.ex x ρ')) k = ret (.ex x ρ') := Eq.trans rfl rfl
@[simp] theorem sq_stp {α : Type} {m : M α} {k : α → M Fl} {l : Ss.Env → M Fl} : sq (stp ρ m k) l = stp ρ m fun v => sq (k v) l := by
  funext n; simp only [sq, stp, bnd]
  cases m n <;> rfl
@[simp] theorem sq_bnd {α : Type} {m : M α} {k : α → M Fl} {l : Ss.Env → M Fl} : sq (bnd m k) l = bnd m fun v => sq (k v) l := by
  funext n; simp only [sq, bnd]
  cases m n <;> rfl
@[simp] theorem sq_sq {m : M Fl} {k l : Ss.Env → M Fl} : sq (sq m k) l = sq m fun ρ => sq (k ρ) l := by
  funext n; simp only [sq, bnd]
  cases m n with
  | ok f n' => cases f <;> rfl
  | exc _ _ => rfl
  | bad => rfl
@[simp] theorem sq_ite {p : Prop} [Decidable p] {m m' : M Fl} {l : Ss.Env → M Fl} : sq (if p then m else m') l = if p then sq m l else sq m' l := by split <;> rfl
@[simp] theorem stp_bnd {α β : Type} {m : M α} {k : α → M β} {l : β → M Fl} : stp ρ (bnd m k) l = stp ρ m fun v => stp ρ (k v) l := by
  funext n; simp only [stp, bnd]
  cases m n <;> rfl
@[simp] theorem stp_ite {α : Type} {p : Prop} [Decidable p] {m m' : M α} {l : α → M Fl} : stp ρ (if p then m else m') l = if p then stp ρ m l else stp ρ m' l := by split <;> rfl
@[simp] theorem bnd_bnd {α β γ : Type} (m : M α) (k : α → M β) (l : β → M γ) : bnd (bnd m k) l = bnd m fun a => bnd (k a) l := bnd_assoc m k l
@[simp] theorem bnd_ite {α β : Type} {p : Prop} [Decidable p] {m m' : M α} {l : α → M β} : bnd (if p then m else m') l = if p then bnd m l else bnd m' l := by split <;> rfl
theorem sq_id (m : M Fl) : sq m (fun ρ => ret (.nx ρ)) = m := by
  funext n
  simp only [sq, bnd]
  cases m n with
  | ok f n' => cases f <;> rfl
  | exc _ _ => rfl
  | bad => rfl
@[simp] theorem exs_nil : exs [] ρ = ret (.nx ρ) := by simp only [exs]
theorem exs_cons {s : Stm} {ss : List Stm} : exs (s :: ss) ρ = sq (ex s ρ) fun ρ' => exs ss ρ' := by simp only [exs]
@[simp] theorem exs_one {s : Stm} : exs [s] ρ = ex s ρ := by
  rw [exs_cons]
  have e : (fun ρ' => exs [] ρ') = fun ρ' : Ss.Env => ret (.nx ρ') := funext fun ρ' => exs_nil
  rw [e, sq_id]
@[simp] theorem exs_cons2 {s t : Stm} {ss : List Stm} : exs (s :: t :: ss) ρ = sq (ex s ρ) fun ρ' => exs (t :: ss) ρ' := exs_cons
@[simp] theorem ex_set {tg : Tg} : ex (.set tg e) ρ = stp ρ (ev e ρ) fun d => bnd (lft (tg.put d ρ)) fun ρ' => ret (.nx ρ') := by simp only [ex]
def setoM (ρ : Ss.Env) (i : Nat) (d : D) : M Fl := match d with
    | .lst xs => ret (.nx (ρ.set i (.own xs)))
    | _ => bad
@[simp] theorem setoM_lst {xs : List D} : setoM ρ i (.lst xs) = ret (.nx (ρ.set i (.own xs))) := Eq.trans rfl rfl
@[simp] theorem ex_seto : ex (.seto i e) ρ = stp ρ (ev e ρ) (setoM ρ i) := by simp only [ex]; rfl
@[simp] theorem ex_app : ex (.app i e) ρ = bnd (lft (getO ρ i)) fun xs => stp ρ (ev e ρ) fun d => if xs.length < sizeLine then ret (.nx (ρ.set i (.own (xs ++ [d])))) else bad := by simp only [ex]
def remM (ρ : Ss.Env) (i : Nat) (ns : List Int) (d : D) : M Fl := match d with
    | .int k => if ns.contains k then ret (.nx (ρ.set i (.own ((ns.erase k).map D.int)))) else bad
    | _ => bad
theorem remM_int {ns : List Int} {k : Int} : remM ρ i ns (.int k) = if ns.contains k then ret (.nx (ρ.set i (.own ((ns.erase k).map D.int)))) else bad := rfl
@[simp] theorem ex_rem : ex (.rem i e) ρ = bnd (lft (getO ρ i)) fun xs => bnd (lft (nums xs)) fun ns => stp ρ (ev e ρ) (remM ρ i ns) := by simp only [ex]; rfl
@[simp] theorem ex_exp : ex (.exp e) ρ = stp ρ (ev e ρ) fun _ => ret (.nx ρ) := by simp only [ex]
@[simp] theorem ex_ifs {p q : List Stm} : ex (.ifs c p q) ρ = stp ρ (truM (ev c ρ)) fun k => if k then exs p ρ else exs q ρ := by simp only [ex]
@[simp] theorem truM_bnd {α : Type} {m : M α} {k : α → M D} : truM (bnd m k) = bnd m fun v => truM (k v) := by
  unfold truM; rw [bnd_assoc]
@[simp] theorem truM_ret : truM (ret d) = lft (tru d) := Eq.trans rfl rfl
@[simp] theorem truM_raz : truM (raz x) = raz x := Eq.trans rfl rfl
@[simp] theorem truM_lft {o : Option D} : truM (lft o) = lft (o.bind tru) := by cases o <;> rfl
theorem truM_ite {p : Prop} [Decidable p] {m m' : M D} : truM (if p then m else m') = if p then truM m else truM m' := by split <;> rfl
def forB (tg : Tg) (body : List Stm) (ds : List D) (ρ : Ss.Env) : M Fl := fors (fun d ρ => bnd (lft (tg.put d ρ)) fun ρ' => exs body ρ') ds ρ
@[simp] theorem ex_for {tg : Tg} {body : List Stm} : ex (.for tg e body) ρ = stp ρ (evi e ρ) fun ds => forB tg body ds ρ := by simp only [ex]; rfl
@[simp] theorem ex_ret : ex (.ret e) ρ = stp ρ (ev e ρ) fun d => ret (.rt d) := by simp only [ex]
@[simp] theorem ex_rai : ex (.rai x) ρ = ret (.ex x ρ) := by simp only [ex]
@[simp] theorem ex_pas : ex .pas ρ = ret (.nx ρ) := by simp only [ex]
@[simp] theorem ex_frz : ex (.frz i) ρ = bnd (lft (getO ρ i)) fun xs => ret (.nx (ρ.set i (.dat (.lst xs)))) := by simp only [ex]
@[simp] theorem fors_nil {f : D → Ss.Env → M Fl} : fors f [] ρ = ret (.nx ρ) := Eq.trans rfl rfl
@[simp] theorem fors_cons {f : D → Ss.Env → M Fl} {ds : List D} : fors f (d :: ds) ρ = sq (f d ρ) fun ρ' => fors f ds ρ' := Eq.trans rfl rfl
end
/-! ### slots -/
@[simp] theorem getD_zero {d : D} {ρ : Ss.Env} : getD (.dat d :: ρ) 0 = some d := Eq.trans rfl rfl
@[simp] theorem getD_succ {s : Sl} {ρ : Ss.Env} {i : Nat} : getD (s :: ρ) (i + 1) = getD ρ i := Eq.trans rfl rfl
@[simp] theorem getO_zero {ds : List D} {ρ : Ss.Env} : getO (.own ds :: ρ) 0 = some ds := Eq.trans rfl rfl
@[simp] theorem getO_succ {s : Sl} {ρ : Ss.Env} {i : Nat} : getO (s :: ρ) (i + 1) = getO ρ i := Eq.trans rfl rfl
@[simp] theorem put_one {i : Nat} {d : D} {ρ : Ss.Env} : Tg.put (.one i) d ρ = some (ρ.set i (.dat d)) := Eq.trans rfl rfl
@[simp] theorem put_many {is : List Nat} {ds : List D} {ρ : Ss.Env} : Tg.put (.many is) (.tup ds) ρ = puts ρ is ds := Eq.trans rfl rfl
@[simp] theorem puts_nil {ρ : Ss.Env} : puts ρ [] [] = some ρ := Eq.trans rfl rfl
@[simp] theorem puts_cons {ρ : Ss.Env} {i : Nat} {is : List Nat} {d : D} {ds : List D} : puts ρ (i :: is) (d :: ds) = puts (ρ.set i (.dat d)) is ds := Eq.trans rfl rfl
@[simp] theorem wip_nil {ρ : Ss.Env} : wip ρ [] = ρ := Eq.trans rfl rfl
@[simp] theorem wip_cons {ρ : Ss.Env} {v : Nat} {vs : List Nat} : wip ρ (v :: vs) = (wip ρ vs).set v .emp := Eq.trans rfl rfl
/-! ### data -/
@[simp] theorem sizeLine_eq : sizeLine = 16777216 := Eq.trans rfl rfl
@[simp] theorem op_addI {i j : Int} : Op.f .add (.int i) (.int j) = some (.int (i + j)) := Eq.trans rfl rfl
@[simp] theorem op_subI {i j : Int} : Op.f .sub (.int i) (.int j) = some (.int (i - j)) := Eq.trans rfl rfl
theorem op_addL {xs ys : List D} (h : xs.length + ys.length ≤ sizeLine) : Op.f .add (.lst xs) (.lst ys) = some (.lst (xs ++ ys)) := by simp only [Op.f, if_pos h]
theorem op_addT {xs ys : List D} (h : xs.length + ys.length ≤ sizeLine) : Op.f .add (.tup xs) (.tup ys) = some (.tup (xs ++ ys)) := by simp only [Op.f, if_pos h]
@[simp] theorem cm_lt {i j : Int} : Cm.f .lt (.int i) (.int j) = some (decide (i < j)) := Eq.trans rfl rfl
@[simp] theorem cm_le {i j : Int} : Cm.f .le (.int i) (.int j) = some (decide (i ≤ j)) := Eq.trans rfl rfl
@[simp] theorem cm_gt {i j : Int} : Cm.f .gt (.int i) (.int j) = some (decide (j < i)) := Eq.trans rfl rfl
@[simp] theorem cm_ge {i j : Int} : Cm.f .ge (.int i) (.int j) = some (decide (j ≤ i)) := Eq.trans rfl rfl
theorem cm_eq {d e : D} (h : d.okE = true) (h' : e.okE = true) : Cm.f .eq d e = some (D.eqv d e) := by simp only [Cm.f, h, h', Bool.and_self, if_true]
theorem cm_ne {d e : D} (h : d.okE = true) (h' : e.okE = true) : Cm.f .ne d e = some (!D.eqv d e) := by simp only [Cm.f, h, h', Bool.and_self, if_true]
@[simp] theorem cm_inn {d e : D} : Cm.f .inn d e = inD d e := Eq.trans rfl rfl
@[simp] theorem cm_nin {d e : D} : Cm.f .nin d e = (inD d e).map fun b => !b := Eq.trans rfl rfl
@[simp] theorem tru_bl {b : Bool} : tru (.bl b) = some b := Eq.trans rfl rfl
@[simp] theorem tru_lst {xs : List D} : tru (.lst xs) = some (!xs.isEmpty) := Eq.trans rfl rfl
@[simp] theorem tru_tup {xs : List D} : tru (.tup xs) = some (!xs.isEmpty) := Eq.trans rfl rfl
@[simp] theorem tru_scr {xs : List Int} : tru (.scr xs) = some (!xs.isEmpty) := Eq.trans rfl rfl
@[simp] theorem items_lst {xs : List D} : items (.lst xs) = some xs := Eq.trans rfl rfl
@[simp] theorem items_tup {xs : List D} : items (.tup xs) = some xs := Eq.trans rfl rfl
@[simp] theorem len_lst {xs : List D} : Bi.f .len [.lst xs] = some (.int xs.length) := Eq.trans rfl rfl
@[simp] theorem len_tup {xs : List D} : Bi.f .len [.tup xs] = some (.int xs.length) := Eq.trans rfl rfl
@[simp] theorem len_scr {xs : List Int} : Bi.f .len [.scr xs] = some (.int xs.length) := Eq.trans rfl rfl
@[simp] theorem bi_list {xs : List D} : Bi.f .list [.lst xs] = some (.lst xs) := Eq.trans rfl rfl
@[simp] theorem bi_tuple {xs : List D} : Bi.f .tuple [.lst xs] = some (.tup xs) := Eq.trans rfl rfl
@[simp] theorem bi_intB {b : Bool} : Bi.f .int [.bl b] = some (.int (if b then 1 else 0)) := Eq.trans rfl rfl
@[simp] theorem bi_max2 {i j : Int} : Bi.f .max2 [.int i, .int j] = some (.int (if j > i then j else i)) := Eq.trans rfl rfl
@[simp] theorem part_int {i : Int} : part (.int i) = some (some i) := Eq.trans rfl rfl
@[simp] theorem cut_lst {xs : List D} {lo hi : Option Int} : cutD (.lst xs) lo hi = some (.lst (cutL xs lo hi)) := Eq.trans rfl rfl
@[simp] theorem cut_tup {xs : List D} {lo hi : Option Int} : cutD (.tup xs) lo hi = some (.tup (cutL xs lo hi)) := Eq.trans rfl rfl
@[simp] theorem idx_lst {xs : List D} {i : Int} : idxD (.lst xs) (.int i) = atI xs i := Eq.trans rfl rfl
@[simp] theorem idx_tup {xs : List D} {i : Int} : idxD (.tup xs) (.int i) = atI xs i := Eq.trans rfl rfl
@[simp] theorem idx_scr {xs : List Int} {i : Int} : idxD (.scr xs) (.int i) = (atI xs i).map D.int := Eq.trans rfl rfl
theorem atI_nat {α : Type} (xs : List α) (k : Nat) : atI xs (k : Int) = xs[k]? := by
  unfold atI
  by_cases h : k < xs.length
  · have e : ixN xs.length (k : Int) = some k := by
      unfold ixN
      simp
      omega
    rw [e]; rfl
  · rw [List.getElem?_eq_none (by omega)]
    cases q : ixN xs.length (k : Int) with
    | none => rfl
    | some j =>
      exfalso
      revert q
      unfold ixN
      simp
      omega
@[simp] theorem atI_zero {α : Type} (x : α) (xs : List α) : atI (x :: xs) 0 = some x := atI_nat (x :: xs) 0
@[simp] theorem atI_one {α : Type} (x y : α) (xs : List α) : atI (x :: y :: xs) 1 = some y := atI_nat (x :: y :: xs) 1
@[simp] theorem atI_two {α : Type} (x y z : α) (xs : List α) : atI (x :: y :: z :: xs) 2 = some z := atI_nat (x :: y :: z :: xs) 2
theorem rngD_nat (n : Nat) (h : n ≤ 16777216) : rngD [.int (n : Int)] = some ((List.range n).map fun (k : Nat) => D.int k) := by
  have e : (-(2 ^ 62) ≤ (n : Int)) ∧ (n : Int) ≤ 16777216 := ⟨by omega, by omega⟩
  simp only [rngD, if_pos e, rngL]
  simp
/-! ### comprehensions -/
@[simp] theorem lcs_nil {f : D → M (Option D)} : lcs f [] = ret [] := Eq.trans rfl rfl
theorem lcs_ret {α : Type} {f : D → M (Option D)} {em : α → D} {g : α → Option D} : ∀ {xs : List α}, (∀ x ∈ xs, f (em x) = ret (g x)) → lcs f (xs.map em) = ret (xs.filterMap g)
  | [], _ => rfl
  | x :: xs, h => by
    simp only [List.map_cons, lcs]
    rw [h x (List.mem_cons_self), lcs_ret fun y hy => h y (List.mem_cons_of_mem _ hy)]
    simp only [sup_ret, ret_bnd]
    rw [List.filterMap_cons]
    cases g x <;> rfl
theorem lcs_map {α : Type} {f : D → M (Option D)} {em : α → D} {g : α → D} {xs : List α} (h : ∀ x ∈ xs, f (em x) = ret (some (g x))) : lcs f (xs.map em) = ret (xs.map g) := by
  rw [lcs_ret (g := fun x => some (g x)) h]
  congr 1
  induction xs with
  | nil => rfl
  | cons x xs ih => rw [List.filterMap_cons]; simp only [List.map_cons]; rw [ih fun y hy => h y (List.mem_cons_of_mem _ hy)]
theorem lcs_filter {α : Type} {f : D → M (Option D)} {em : α → D} {p : α → Bool} {g : α → D} {xs : List α} (h : ∀ x ∈ xs, f (em x) = ret (if p x then some (g x) else none)) : lcs f (xs.map em) = ret ((xs.filter p).map g) := by
  rw [lcs_ret h]
  congr 1
  clear h
  induction xs with
  | nil => rfl
  | cons x xs ih =>
    rw [List.filterMap_cons, List.filter_cons, ih]
    cases p x <;> rfl
/-! ### loops without draws -/
theorem fors_ret {α : Type} {f : D → Ss.Env → M Fl} {em : α → D} {σ : Type} {en : σ → Ss.Env} {st : σ → α → σ} : ∀ {xs : List α} {s : σ}, (∀ s, ∀ x ∈ xs, f (em x) (en s) = ret (.nx (en (st s x)))) → fors f (xs.map em) (en s) = ret (.nx (en (xs.foldl st s)))
  | [], _, _ => rfl
  | x :: xs, s, h => by
    simp only [List.map_cons, fors_cons, List.foldl_cons]
    rw [h s x List.mem_cons_self, sq_nx]
    exact fors_ret fun s y hy => h s y (List.mem_cons_of_mem _ hy)
theorem forB_ret {α : Type} {tg : Tg} {body : List Stm} {em : α → D} {σ : Type} {en : σ → Ss.Env} {st : σ → α → σ} {xs : List α} {s : σ} (h : ∀ s, ∀ x ∈ xs, (bnd (lft (tg.put (em x) (en s))) fun ρ' => exs body ρ') = ret (.nx (en (st s x)))) : forB tg body (xs.map em) (en s) = ret (.nx (en (xs.foldl st s))) := fors_ret h
/-- the same, with what holds at every turn -/
theorem forB_inv {α : Type} {tg : Tg} {body : List Stm} {em : α → D} {σ : Type} {en : σ → Ss.Env} {st : σ → α → σ} {I : σ → Prop} : ∀ {xs : List α} {s : σ}, I s → (∀ s, I s → ∀ x ∈ xs, I (st s x) ∧ (bnd (lft (tg.put (em x) (en s))) fun ρ' => exs body ρ') = ret (.nx (en (st s x)))) → forB tg body (xs.map em) (en s) = ret (.nx (en (xs.foldl st s))) ∧ I (xs.foldl st s)
  | [], _, i, _ => ⟨rfl, i⟩
  | x :: xs, s, i, h => by
    obtain ⟨j, e⟩ := h s i x List.mem_cons_self
    obtain ⟨f, k⟩ := forB_inv (xs := xs) j fun s i y hy => h s i y (List.mem_cons_of_mem _ hy)
    refine ⟨?_, k⟩
    unfold forB at f ⊢
    simp only [List.map_cons, fors_cons, List.foldl_cons]
    rw [e, sq_nx]
    exact f
/-- the same, by the turn's number -/
theorem forB_ix {α : Type} {tg : Tg} {body : List Stm} {em : α → D} {σ : Type} {en : σ → Ss.Env} {st : σ → α → σ} {I : Nat → σ → Prop} : ∀ {xs : List α} {n : Nat} {s : σ}, I n s → (∀ (i : Nat) (s : σ) (x : α), xs[i]? = some x → I (n + i) s → I (n + i + 1) (st s x) ∧ (bnd (lft (tg.put (em x) (en s))) fun ρ' => exs body ρ') = ret (.nx (en (st s x)))) → forB tg body (xs.map em) (en s) = ret (.nx (en (xs.foldl st s))) ∧ I (n + xs.length) (xs.foldl st s)
  | [], _, _, i, _ => ⟨rfl, i⟩
  | x :: xs, n, s, i, h => by
    obtain ⟨j, e⟩ := h 0 s x rfl i
    obtain ⟨f, k⟩ := forB_ix (xs := xs) (n := n + 1) j fun i s y hy q => by
      have z := h (i + 1) s y hy (by rw [show n + (i + 1) = n + 1 + i by omega]; exact q)
      rw [show n + (i + 1) + 1 = n + 1 + i + 1 by omega] at z
      exact z
    rw [show n + (x :: xs).length = n + 1 + xs.length by simp only [List.length_cons]; omega]
    refine ⟨?_, k⟩
    unfold forB at f ⊢
    simp only [List.map_cons, fors_cons, List.foldl_cons]
    rw [e, sq_nx]
    exact f
/-! ### defs -/
theorem runF_rt {m : Nat} {b : List Stm} {ds : List D} {d : D} (h : exs b (ds.map Sl.dat ++ List.replicate (m - ds.length) Sl.emp) = ret (.rt d)) : runF m b ds = ret d := by
  funext n; unfold runF; rw [h]; rfl
theorem runF_nx {m : Nat} {b : List Stm} {ds : List D} {ρ : Ss.Env} (h : exs b (ds.map Sl.dat ++ List.replicate (m - ds.length) Sl.emp) = ret (.nx ρ)) : runF m b ds = ret .non := by
  funext n; unfold runF; rw [h]; rfl
theorem runF_ex {m : Nat} {b : List Stm} {ds : List D} {ρ : Ss.Env} {c : Str} (h : exs b (ds.map Sl.dat ++ List.replicate (m - ds.length) Sl.emp) = ret (.ex c ρ)) : runF m b ds = raz c := by
  funext n; unfold runF; rw [h]; rfl
inductive All2 {α β : Type} (P : α → β → Prop) : List α → List β → Prop where
  | nil : All2 P [] []
  | cons {x : α} {y : β} {xs : List α} {ys : List β} : P x y → All2 P xs ys → All2 P (x :: xs) (y :: ys)
theorem All2.len {α β : Type} {P : α → β → Prop} {xs : List α} {ys : List β} (h : All2 P xs ys) : ys.length = xs.length := by
  induction h with
  | nil => rfl
  | cons _ _ ih => simp only [List.length_cons, ih]
theorem All2.get {α β : Type} {P : α → β → Prop} {xs : List α} {ys : List β} (h : All2 P xs ys) {y : β} (hy : y ∈ ys) : ∃ x ∈ xs, P x y := by
  induction h with
  | nil => cases hy
  | cons p _ ih =>
    rcases List.mem_cons.mp hy with rfl | z
    · exact ⟨_, List.mem_cons_self, p⟩
    · obtain ⟨x, hx, q⟩ := ih z
      exact ⟨x, List.mem_cons_of_mem _ hx, q⟩
theorem All2.nth {α β : Type} {P : α → β → Prop} {xs : List α} {ys : List β} (h : All2 P xs ys) : ∀ (k : Nat) (h1 : k < xs.length) (h2 : k < ys.length), P xs[k] ys[k] := by
  induction h with
  | nil => intro k h1; exact absurd h1 (Nat.not_lt_zero _)
  | cons p _ ih =>
    intro k h1 h2
    cases k with
    | zero => exact p
    | succ k => exact ih k (by simpa using h1) (by simpa using h2)
/-- the things come from values of a type of one's own -/
theorem All2.back {α β γ : Type} {em : γ → β} {P : α → γ → Prop} {xs : List α} {ys : List β} (h : All2 (fun x y => ∃ z, y = em z ∧ P x z) xs ys) : ∃ zs, ys = zs.map em ∧ All2 P xs zs := by
  induction h with
  | nil => exact ⟨[], rfl, .nil⟩
  | cons p _ ih =>
    obtain ⟨z, rfl, q⟩ := p
    obtain ⟨zs, rfl, r⟩ := ih
    exact ⟨z :: zs, rfl, .cons q r⟩
/-! ### with draws: at most c more, and what comes is P -/
def Hs {α : Type} (m : M α) (c : Nat) (P : α → Prop) : Prop := ∀ n, n + c ≤ 16777216 → ∃ a n', m n = .ok a n' ∧ n' ≤ n + c ∧ P a
section
variable {α β : Type} {m : M α} {k : α → M β} {c c1 c2 : Nat} {P : α → Prop} {Q : β → Prop}
theorem Hs.ret {a : α} (h : P a) : Hs (ret a) c P := fun n _ => ⟨a, n, rfl, by omega, h⟩
theorem Hs.of {a : α} (e : m = Ss.ret a) (h : P a) : Hs m c P := by rw [e]; exact Hs.ret h
theorem Hs.imp {P' : α → Prop} (x : Hs m c P) (hc : c ≤ c1) (h : ∀ a, P a → P' a) : Hs m c1 P' := fun n hn => by
  obtain ⟨a, n', e, l, p⟩ := x n (by omega)
  exact ⟨a, n', e, by omega, h a p⟩
theorem Hs.bnd (x : Hs m c1 P) (y : ∀ a, P a → Hs (k a) c2 Q) (hc : c1 + c2 ≤ c := by omega) : Hs (Ss.bnd m k) c Q := fun n hn => by
  obtain ⟨a, n', e, l, p⟩ := x n (by omega)
  obtain ⟨b, n'', e', l', q⟩ := y a p n' (by omega)
  exact ⟨b, n'', by rw [bnd_ok e, e'], by omega, q⟩
theorem Hs.stp {ρ : Ss.Env} {k : α → M Fl} {Q : Fl → Prop} (x : Hs m c1 P) (y : ∀ a, P a → Hs (k a) c2 Q) (hc : c1 + c2 ≤ c := by omega) : Hs (Ss.stp ρ m k) c Q := fun n hn => by
  obtain ⟨a, n', e, l, p⟩ := x n (by omega)
  obtain ⟨b, n'', e', l', q⟩ := y a p n' (by omega)
  exact ⟨b, n'', by simp only [Ss.stp, e, e'], by omega, q⟩
theorem Hs.sq {m : M Fl} {k : Ss.Env → M Fl} {P : Ss.Env → Prop} {Q : Fl → Prop} (x : Hs m c1 fun f => ∃ ρ, f = .nx ρ ∧ P ρ) (y : ∀ ρ, P ρ → Hs (k ρ) c2 Q) (hc : c1 + c2 ≤ c := by omega) : Hs (Ss.sq m k) c Q := fun n hn => by
  obtain ⟨a, n', e, l, ρ, rfl, p⟩ := x n (by omega)
  obtain ⟨b, n'', e', l', q⟩ := y ρ p n' (by omega)
  exact ⟨b, n'', by simp only [Ss.sq, Ss.bnd, e, e'], by omega, q⟩
theorem Hs.runF {s : Nat} {b : List Stm} {ds : List D} {P : D → Prop} (x : Hs (exs b (ds.map Sl.dat ++ List.replicate (s - ds.length) Sl.emp)) c fun f => ∃ d, f = .rt d ∧ P d) : Hs (Ss.runF s b ds) c P := fun n hn => by
  obtain ⟨a, n', e, l, d, rfl, p⟩ := x n hn
  exact ⟨d, n', by simp only [Ss.runF, e], l, p⟩
theorem Hs.sup {m : M α} (x : Hs m c P) : Hs (Ss.sup m) c P := fun n hn => by
  obtain ⟨a, n', e, l, p⟩ := x n hn
  exact ⟨a, n', by simp only [Ss.sup, e], l, p⟩
/-- a comprehension that keeps every turn -/
theorem Hs.lcs {γ : Type} {em : γ → D} {f : D → M (Option D)} {P : γ → D → Prop} : ∀ {xs : List γ} {c : Nat}, (∀ x ∈ xs, Hs (f (em x)) c1 fun o => ∃ d, o = some d ∧ P x d) → xs.length * c1 ≤ c → Hs (Ss.lcs f (xs.map em)) c fun ds => All2 P xs ds
  | [], c, _, _ => Hs.ret .nil
  | x :: xs, c, h, hc => by
    have hc' : xs.length * c1 + c1 ≤ c := by
      rw [List.length_cons, Nat.add_mul] at hc; omega
    simp only [List.map_cons, Ss.lcs]
    refine Hs.bnd (c2 := xs.length * c1) (h x List.mem_cons_self).sup (fun o ho => ?_) (by omega)
    obtain ⟨d, rfl, p⟩ := ho
    refine Hs.bnd (c2 := 0) (Hs.lcs (c := xs.length * c1) (fun y hy => h y (List.mem_cons_of_mem _ hy)) (Nat.le_refl _)) (fun ds q => ?_) (by omega)
    exact Hs.ret (.cons p q)
end
end Ss
/-! Ss, part V: values, rows, columns, tables: the law's world in types of our own. -/
namespace Ss
open PySem L2
inductive Val where
  | non | int (i : Int) | str (x : Str)
  deriving DecidableEq
def Val.d : Val → D
  | .non => .non
  | .int i => .int i
  | .str x => .str x
abbrev Row := List Val
def rowD (r : Row) : D := .tup (r.map Val.d)
def Val.wf : Val → Bool
  | .str x => PyData.strOk x
  | _ => true
def rowW (r : Row) : Bool := r.all Val.wf
theorem val_pl {v : Val} (h : v.wf = true) : v.d.pl = true := by
  cases v <;> simp only [Val.d, D.pl]
  exact h
theorem val_dep (v : Val) : v.d.dep = 0 := by cases v <;> rfl
theorem val_eqv (v w : Val) : D.eqv v.d w.d = decide (v = w) := by
  cases v <;> cases w <;> simp [Val.d, D.eqv, Bool.beq_eq_decide_eq]
theorem pls_all {α : Type} {f : α → D} {xs : List α} (h : ∀ x ∈ xs, (f x).pl = true) : D.pls (xs.map f) = true := by
  induction xs with
  | nil => simp only [List.map_nil, D.pls]
  | cons x xs ih =>
    simp only [List.map_cons, D.pls, h x List.mem_cons_self, ih fun y hy => h y (List.mem_cons_of_mem _ hy), Bool.and_self]
theorem deps_all {α : Type} {f : α → D} {xs : List α} {n : Nat} (h : ∀ x ∈ xs, (f x).dep ≤ n) : D.deps (xs.map f) ≤ n := by
  induction xs with
  | nil => simp only [List.map_nil, D.deps]; omega
  | cons x xs ih =>
    simp only [List.map_cons, D.deps]
    have h1 := h x List.mem_cons_self
    have h2 := ih fun y hy => h y (List.mem_cons_of_mem _ hy)
    omega
theorem eqvs_map {α : Type} [DecidableEq α] {f : α → D} (h : ∀ x y, D.eqv (f x) (f y) = decide (x = y)) : ∀ xs ys : List α, D.eqvs (xs.map f) (ys.map f) = decide (xs = ys)
  | [], [] => by simp [D.eqvs]
  | [], _ :: _ => by simp [D.eqvs]
  | _ :: _, [] => by simp [D.eqvs]
  | x :: xs, y :: ys => by
    simp only [List.map_cons, D.eqvs, h, eqvs_map h xs ys]
    by_cases a : x = y <;> by_cases b : xs = ys <;> simp [a, b]
theorem row_eqv (r s : Row) : D.eqv (rowD r) (rowD s) = decide (r = s) := by
  simp only [rowD, D.eqv]
  exact eqvs_map val_eqv r s
theorem row_dep (r : Row) : (rowD r).dep ≤ 1 := by
  simp only [rowD, D.dep]
  have h : D.deps (r.map Val.d) ≤ 0 := deps_all fun x _ => by rw [val_dep]; omega
  omega
theorem row_pl {r : Row} (h : rowW r = true) : (rowD r).pl = true := by
  simp only [rowD, D.pl]
  exact pls_all fun v hv => val_pl (List.all_eq_true.mp h v hv)
theorem okE_of {d : D} (h : d.pl = true) (h' : d.dep ≤ 60) : d.okE = true := by
  simp only [D.okE, h, Bool.true_and]
  exact decide_eq_true h'
theorem row_okE {r : Row} (h : rowW r = true) : (rowD r).okE = true := okE_of (row_pl h) (by have := row_dep r; omega)
def rowsD (rs : List Row) : D := .lst (rs.map rowD)
theorem rows_okE {rs : List Row} (h : ∀ r ∈ rs, rowW r = true) : (rowsD rs).okE = true := by
  refine okE_of ?_ ?_
  · simp only [rowsD, D.pl]; exact pls_all fun r hr => row_pl (h r hr)
  · simp only [rowsD, D.dep]
    have h : D.deps (rs.map rowD) ≤ 1 := deps_all fun r _ => row_dep r
    omega
/-! numbers -/
def natD (k : Nat) : D := .int k
def natsD (ks : List Nat) : D := .lst (ks.map natD)
theorem nat_eqv (j k : Nat) : D.eqv (natD j) (natD k) = decide (j = k) := by
  simp only [natD, D.eqv, Bool.beq_eq_decide_eq, Int.natCast_inj]
theorem nats_eqv (js ks : List Nat) : D.eqv (natsD js) (natsD ks) = decide (js = ks) := by
  simp only [natsD, D.eqv]
  exact eqvs_map nat_eqv js ks
theorem nats_pl (ks : List Nat) : (natsD ks).pl = true := by
  simp only [natsD, D.pl]; exact pls_all fun k _ => by simp only [natD, D.pl]
theorem nats_dep (ks : List Nat) : (natsD ks).dep ≤ 1 := by
  simp only [natsD, D.dep]
  have h : D.deps (ks.map natD) ≤ 0 := deps_all fun k _ => by simp only [natD, D.dep]; omega
  omega
theorem nats_okE (ks : List Nat) : (natsD ks).okE = true := okE_of (nats_pl ks) (by have := nats_dep ks; omega)
theorem nat_okE (k : Nat) : (natD k).okE = true := okE_of (by simp only [natD, D.pl]) (by simp only [natD, D.dep]; omega)
theorem int_okE (k : Int) : (D.int k).okE = true := okE_of (by simp only [D.pl]) (by simp only [D.dep]; omega)
theorem any_eqv {α : Type} [DecidableEq α] {f : α → D} (h : ∀ x y, D.eqv (f x) (f y) = decide (x = y)) (x : α) (xs : List α) : ((xs.map f).any fun z => D.eqv z (f x)) = decide (x ∈ xs) := by
  induction xs with
  | nil => simp
  | cons y ys ih =>
    simp only [List.map_cons, List.any_cons, h, ih, List.mem_cons]
    by_cases a : y = x
    · simp [a]
    · have b : ¬ x = y := fun z => a z.symm
      simp [a, b]
theorem in_nats (j : Nat) (ks : List Nat) : inD (natD j) (natsD ks) = some (decide (j ∈ ks)) := by
  have h := any_eqv nat_eqv j ks
  have e : inD (natD j) (natsD ks) = if (natD j).okE && (natsD ks).okE then some ((ks.map natD).any fun z => D.eqv z (natD j)) else none := rfl
  rw [e, nat_okE, nats_okE, h]; exact if_pos rfl
theorem in_rows {r : Row} {rs : List Row} (h : rowW r = true) (h' : ∀ r ∈ rs, rowW r = true) : inD (rowD r) (rowsD rs) = some (decide (r ∈ rs)) := by
  have q := any_eqv row_eqv r rs
  have e : inD (rowD r) (rowsD rs) = if (rowD r).okE && (rowsD rs).okE then some ((rs.map rowD).any fun z => D.eqv z (rowD r)) else none := rfl
  rw [e, row_okE h, rows_okE h', q, Bool.and_self, if_pos rfl]; exact congrArg some (decide_eq_decide.mpr Iff.rfl)
theorem cutL_take {α : Type} (xs : List α) (k : Nat) : cutL xs none (some (k : Int)) = xs.take k := by
  unfold cutL
  rw [HT.sIx_none, HT.sIx_nat, List.drop_zero, Nat.sub_zero]
  rcases Nat.le_total k xs.length with h | h
  · rw [Nat.min_eq_left h]
  · rw [Nat.min_eq_right h, List.take_of_length_le (Nat.le_refl _), List.take_of_length_le h]
theorem cutL_drop {α : Type} (xs : List α) (k : Nat) : cutL xs (some (k : Int)) none = xs.drop k := by
  unfold cutL
  rw [HT.sIx_none, HT.sIx_nat]
  rcases Nat.le_total k xs.length with h | h
  · rw [Nat.min_eq_left h]
    exact List.take_of_length_le (by rw [List.length_drop]; omega)
  · rw [Nat.min_eq_right h, Nat.sub_self, List.take_zero, List.drop_eq_nil_of_le h]
theorem op_mul0 (xs : List D) : Op.f .mul (.lst xs) (.int 0) = some (.lst []) := by
  have h : (0 : Int) ≤ 0 ∧ (0 : Int) < 2 ^ 62 ∧ xs.length * (0 : Int).toNat ≤ sizeLine := ⟨by omega, by omega, by simp⟩
  simp only [Op.f, if_pos h]; rfl
theorem op_mul1 (xs : List D) (h : xs.length ≤ 16777216) : Op.f .mul (.lst xs) (.int 1) = some (.lst xs) := by
  have h : (0 : Int) ≤ 1 ∧ (1 : Int) < 2 ^ 62 ∧ xs.length * (1 : Int).toNat ≤ sizeLine := ⟨by omega, by omega, by simpa using h⟩
  simp only [Op.f, if_pos h]; simp
/-- xs * int(b) -/
theorem op_mulB (xs : List D) (b : Bool) (h : xs.length ≤ 16777216) : Op.f .mul (.lst xs) (.int (if b then 1 else 0)) = some (.lst (if b then xs else [])) := by
  cases b
  · exact op_mul0 xs
  · exact op_mul1 xs h
theorem nats_nil : natsD [] = .lst [] := rfl
/-! words -/
def small : Str := "abcdefghijklmnopqrstuvwxyz"
def isW (x : Str) : Bool := decide (1 ≤ x.length) && decide (x.length ≤ 8) && x.cps.toList.all fun c => decide (c ∈ small.cps.toList)
theorem small_lt : ∀ c ∈ small.cps.toList, c < 0x110000 := by decide +kernel
theorem isW_strOk {x : Str} (h : isW x = true) : PyData.strOk x = true := by
  unfold PyData.strOk
  simp only [isW, Bool.and_eq_true] at h
  rw [← Array.all_toList]
  refine List.all_eq_true.mpr fun c hc => ?_
  have z := List.all_eq_true.mp h.2 c hc
  exact decide_eq_true (small_lt c (of_decide_eq_true z))
theorem isW_len {x : Str} (h : isW x = true) : 1 ≤ x.length ∧ x.length ≤ 8 := by
  simp only [isW, Bool.and_eq_true, decide_eq_true_eq] at h
  exact h.1
theorem isW_all {x : Str} (h : isW x = true) : ∀ c ∈ x.cps.toList, c ∈ small.cps.toList := fun c hc => by
  simp only [isW, Bool.and_eq_true, decide_eq_true_eq] at h
  exact of_decide_eq_true (List.all_eq_true.mp h.2 c hc)
/-! columns: a name, and whether it is of words -/
structure Col where
  nm : Str
  wd : Bool
  deriving DecidableEq
def kindS (b : Bool) : Str := if b then "word" else "number"
def Col.d (c : Col) : D := .tup [.str c.nm, .str (kindS c.wd)]
def colsD (cs : List Col) : D := .tup (cs.map Col.d)
def tabD (cs : List Col) (rs : List Row) : D := .tup [colsD cs, rowsD rs]
structure ColsOk (cs : List Col) : Prop where
  one : 1 ≤ cs.length
  six : cs.length ≤ 6
  nms : ∀ c ∈ cs, isW c.nm = true
  nd : (cs.map Col.nm).Nodup
def fits (c : Col) : Val → Bool
  | .non => true
  | .int i => !c.wd && decide (-1000000 ≤ i) && decide (i ≤ 1000000)
  | .str x => c.wd && isW x
def RowOk (cs : List Col) (r : Row) : Prop := All2 (fun c v => fits c v = true) cs r
theorem fits_wf {c : Col} {v : Val} (h : fits c v = true) : v.wf = true := by
  cases v <;> simp only [Val.wf]
  simp only [fits, Bool.and_eq_true] at h
  exact isW_strOk h.2
theorem RowOk.wf {cs : List Col} {r : Row} (h : RowOk cs r) : rowW r = true := by
  refine List.all_eq_true.mpr fun v hv => ?_
  obtain ⟨c, _, q⟩ := All2.get h hv
  exact fits_wf q
theorem kindS_ok (b : Bool) : PyData.strOk (kindS b) = true := by cases b <;> decide +kernel
theorem col_pl {c : Col} (h : isW c.nm = true) : c.d.pl = true := by
  simp only [Col.d, D.pl, D.pls, isW_strOk h, kindS_ok, Bool.and_self]
theorem col_dep (c : Col) : c.d.dep ≤ 1 := by simp only [Col.d, D.dep, D.deps]; omega
theorem cols_okE {cs : List Col} (h : ColsOk cs) : (colsD cs).okE = true := by
  refine okE_of ?_ ?_
  · simp only [colsD, D.pl]; exact pls_all fun c hc => col_pl (h.nms c hc)
  · simp only [colsD, D.dep]
    have h : D.deps (cs.map Col.d) ≤ 1 := deps_all fun c _ => col_dep c
    omega
theorem kindS_inj {a b : Bool} (h : kindS a = kindS b) : a = b := by
  cases a <;> cases b <;> first | rfl | (exfalso; revert h; decide +kernel)
theorem col_eqv (a b : Col) : D.eqv a.d b.d = decide (a = b) := by
  obtain ⟨x, p⟩ := a
  obtain ⟨y, q⟩ := b
  simp only [Col.d, D.eqv, D.eqvs, Bool.beq_eq_decide_eq, Bool.and_true]
  by_cases h : x = y
  · by_cases h2 : p = q
    · simp [h, h2]
    · have : kindS p ≠ kindS q := fun z => h2 (kindS_inj z)
      simp [h, h2, this]
  · simp [h]
theorem cols_eqv (as bs : List Col) : D.eqv (colsD as) (colsD bs) = decide (as = bs) := by
  simp only [colsD, D.eqv]
  exact eqvs_map col_eqv as bs
end Ss
/-! The defs of the text in the small language; printed by gen.py. -/
namespace K80
open PySem Ss
def I_is_whole : List Stm := [.ret (.bop true [(.isi .int (.var 0)), (.nt (.isi .bool (.var 0))), (.chain (.var 1) (.var 0) (.var 2))])]
def F_is_whole : Fn := ⟨"is_whole", 3, runF 3 I_is_whole⟩
def I_is_word : List Stm := [.ret (.bop true [(.isi .str (.var 0)), (.chain (.lit (.int 1)) (.bi .len [(.var 0)]) (.glob "MOST_WORD" (.int 8))), (.bi .all [(.comp (.cmp .inn (.var 1) (.glob "SMALL" (.str "abcdefghijklmnopqrstuvwxyz"))) (.one 1) (.var 0) [] [1])])])]
def F_is_word : Fn := ⟨"is_word", 1, runF 2 I_is_word⟩
def I_is_value : List Stm := [.ifs (.isn false (.var 1)) [.ret (.lit (.bl true))] [],
  .ret (.ite (.cmp .eq (.var 0) (.lit (.str "word"))) (.call F_is_word [(.var 1)]) (.call F_is_whole [(.var 1), (.op .sub (.lit (.int 0)) (.glob "MOST_NUMBER" (.int 1000000))), (.glob "MOST_NUMBER" (.int 1000000))]))]
def F_is_value : Fn := ⟨"is_value", 2, runF 2 I_is_value⟩
def I_are_columns : List Stm := [.ifs (.bop false [(.nt (.isi .tuple (.var 0))), (.nt (.chain (.lit (.int 1)) (.bi .len [(.var 0)]) (.glob "MOST_COLUMNS" (.int 6))))]) [.ret (.lit (.bl false))] [],
  .ifs (.nt (.bi .all [(.comp (.bop true [(.isi .tuple (.var 1)), (.cmp .eq (.bi .len [(.var 1)]) (.lit (.int 2))), (.call F_is_word [(.idx (.var 1) (.lit (.int 0)))])]) (.one 1) (.var 0) [] [1])])) [.ret (.lit (.bl false))] [],
  .ifs (.nt (.bi .all [(.comp (.bop true [(.isi .str (.idx (.var 1) (.lit (.int 1)))), (.cmp .inn (.idx (.var 1) (.lit (.int 1))) (.glob "KINDS" (.tup [.str "word", .str "number"])))]) (.one 1) (.var 0) [] [1])])) [.ret (.lit (.bl false))] [],
  .ret (.cmp .eq (.lens (.comp (.idx (.var 1) (.lit (.int 0))) (.one 1) (.var 0) [] [1])) (.bi .len [(.var 0)]))]
def F_are_columns : Fn := ⟨"are_columns", 1, runF 2 I_are_columns⟩
def I_look_columns : List Stm := [.ifs (.nt (.call F_are_columns [(.var 0)])) [.rai "BadTable"] []]
def F_look_columns : Fn := ⟨"look_columns", 1, runF 1 I_look_columns⟩
def I_look_row : List Stm := [.ifs (.bop false [(.nt (.isi .tuple (.var 1))), (.cmp .ne (.bi .len [(.var 1)]) (.bi .len [(.var 0)]))]) [.rai "BadRow"] [],
  .ifs (.nt (.bi .all [(.comp (.call F_is_value [(.idx (.idx (.var 0) (.var 2)) (.lit (.int 1))), (.idx (.var 1) (.var 2))]) (.one 2) (.rng [(.bi .len [(.var 1)])]) [] [2])])) [.rai "BadRow"] []]
def F_look_row : Fn := ⟨"look_row", 2, runF 3 I_look_row⟩
def I_look_table : List Stm := [.ifs (.bop false [(.nt (.isi .tuple (.var 0))), (.cmp .ne (.bi .len [(.var 0)]) (.lit (.int 2)))]) [.rai "BadTable"] [],
  .exp (.call F_look_columns [(.idx (.var 0) (.lit (.int 0)))]),
  .ifs (.bop false [(.nt (.isi .list (.idx (.var 0) (.lit (.int 1))))), (.cmp .gt (.bi .len [(.idx (.var 0) (.lit (.int 1)))]) (.glob "MOST_ROWS" (.int 24)))]) [.rai "BadTable"] [],
  .for (.one 1) (.idx (.var 0) (.lit (.int 1))) [.exp (.call F_look_row [(.idx (.var 0) (.lit (.int 0))), (.var 1)])]]
def F_look_table : Fn := ⟨"look_table", 1, runF 2 I_look_table⟩
def I_look_two : List Stm := [.exp (.call F_look_table [(.var 0)]),
  .exp (.call F_look_table [(.var 1)]),
  .ifs (.cmp .ne (.idx (.var 0) (.lit (.int 0))) (.idx (.var 1) (.lit (.int 0)))) [.rai "BadTable"] []]
def F_look_two : Fn := ⟨"look_two", 2, runF 2 I_look_two⟩
def I_changes : List Stm := [.exp (.call F_look_two [(.var 0), (.var 1)]),
  .seto 2 (.lrng [(.bi .len [(.idx (.var 1) (.lit (.int 1)))])]),
  .seto 3 (.lst []),
  .for (.one 4) (.rng [(.bi .len [(.idx (.var 0) (.lit (.int 1)))])]) [.set (.one 5) (.comp (.var 6) (.one 6) (.own 2) [(.cmp .eq (.idx (.idx (.var 1) (.lit (.int 1))) (.var 6)) (.idx (.idx (.var 0) (.lit (.int 1))) (.var 4)))] [6]),
  .ifs (.var 5) [.rem 2 (.idx (.var 5) (.lit (.int 0)))] [.app 3 (.var 4)]],
  .frz 2,
  .frz 3,
  .ret (.tup [(.var 3), (.var 2)])]
def F_changes : Fn := ⟨"changes", 2, runF 7 I_changes⟩
def I__law_cell : List Stm := [.ifs (.var 0) [.ret (.idx (.var 0) (.op .mod (.var 1) (.bi .len [(.var 0)])))] [],
  .ret (.lit (.int 0))]
def F__law_cell : Fn := ⟨"_law_cell", 2, runF 2 I__law_cell⟩
def I__law_mix : List Stm := [.set (.one 2) (.op .mod (.op .add (.call F__law_cell [(.var 0), (.var 1)]) (.op .mul (.lit (.int 104729)) (.op .add (.var 1) (.lit (.int 1))))) (.lit (.int 4294967291))),
  .set (.one 2) (.op .mod (.op .pow (.var 2) (.lit (.int 5))) (.lit (.int 4294967279))),
  .ret (.op .mod (.op .add (.op .mul (.op .fdiv (.var 2) (.lit (.int 64))) (.lit (.int 69621))) (.var 2)) (.lit (.int 4294967231)))]
def F__law_mix : Fn := ⟨"_law_mix", 2, runF 3 I__law_mix⟩
def I__law_draw : List Stm := [.tapp 1,
  .ret (.op .mod (.op .fdiv (.call F__law_mix [(.var 0), (.tlen 1)]) (.lit (.int 8))) (.var 2))]
def F__law_draw : Fn := ⟨"_law_draw", 3, runF 3 I__law_draw⟩
def I__law_pick : List Stm := [.ret (.idx (.var 2) (.call F__law_draw [(.var 0), (.var 1), (.bi .len [(.var 2)])]))]
def F__law_pick : Fn := ⟨"_law_pick", 3, runF 3 I__law_pick⟩
def I__law_word : List Stm := [.set (.one 2) (.lit (.str "abcdefghijklmnopqrstuvwxyz")),
  .ifs (.cmp .gt (.call F__law_draw [(.var 0), (.var 1), (.lit (.int 8))]) (.lit (.int 0))) [.ret (.call F__law_pick [(.var 0), (.var 1), (.lst [(.lit (.str "a")), (.lit (.str "ab")), (.lit (.str "abc")), (.lit (.str "b")), (.lit (.str "ba")), (.lit (.str "count")), (.lit (.str "band"))])])] [],
  .ret (.join (.lit (.str "")) (.comp (.idx (.var 2) (.call F__law_draw [(.var 0), (.var 1), (.lit (.int 26))])) (.one 3) (.rng [(.op .add (.lit (.int 1)) (.call F__law_draw [(.var 0), (.var 1), (.lit (.int 8))]))]) [] [3]))]
def F__law_word : Fn := ⟨"_law_word", 2, runF 4 I__law_word⟩
def I__law_value : List Stm := [.ifs (.cmp .eq (.call F__law_draw [(.var 0), (.var 1), (.lit (.int 6))]) (.lit (.int 0))) [.ret (.lit (.non))] [],
  .ifs (.cmp .eq (.var 2) (.lit (.str "word"))) [.ret (.call F__law_word [(.var 0), (.var 1)])] [],
  .set (.one 3) (.lst [(.lit (.int 0)), (.lit (.int 1)), (.lit (.int 1)), (.lit (.int 2)), (.lit (.int 7)), (.op .sub (.lit (.int 0)) (.lit (.int 1))), (.op .sub (.lit (.int 0)) (.lit (.int 7))), (.lit (.int 1000000)), (.op .sub (.lit (.int 0)) (.lit (.int 1000000))), (.op .sub (.call F__law_draw [(.var 0), (.var 1), (.lit (.int 100))]) (.lit (.int 50)))]),
  .ret (.call F__law_pick [(.var 0), (.var 1), (.var 3)])]
def F__law_value : Fn := ⟨"_law_value", 3, runF 4 I__law_value⟩
def I__law_columns : List Stm := [.set (.one 2) (.lst [(.lit (.str "w")), (.lit (.str "n")), (.lit (.str "word")), (.lit (.str "size")), (.lit (.str "of")), (.lit (.str "abcdefgh"))]),
  .set (.one 3) (.call F__law_draw [(.var 0), (.var 1), (.lit (.int 6))]),
  .set (.one 2) (.op .add (.slc (.var 2) (some (.var 3)) none) (.slc (.var 2) none (some (.var 3)))),
  .set (.one 4) (.op .add (.lst [(.lit (.str "word")), (.lit (.str "number"))]) (.comp (.call F__law_pick [(.var 0), (.var 1), (.lst [(.lit (.str "word")), (.lit (.str "number"))])]) (.one 6) (.rng [(.lit (.int 4))]) [] [6])),
  .set (.one 5) (.comp (.tup [(.idx (.var 2) (.var 6)), (.idx (.var 4) (.var 6))]) (.one 6) (.rng [(.op .add (.lit (.int 2)) (.call F__law_draw [(.var 0), (.var 1), (.lit (.int 5))]))]) [] [6]),
  .set (.one 3) (.call F__law_draw [(.var 0), (.var 1), (.bi .len [(.var 5)])]),
  .ret (.bi .tuple [(.op .add (.slc (.var 5) (some (.var 3)) none) (.slc (.var 5) none (some (.var 3))))])]
def F__law_columns : Fn := ⟨"_law_columns", 2, runF 7 I__law_columns⟩
def I__law_row : List Stm := [.ret (.bi .tuple [(.comp (.call F__law_value [(.var 0), (.var 1), (.var 4)]) (.many [3, 4]) (.var 2) [] [3, 4])])]
def F__law_row : Fn := ⟨"_law_row", 3, runF 5 I__law_row⟩
def I__law_table : List Stm := [.set (.one 3) (.call F__law_columns [(.var 0), (.var 1)]),
  .set (.one 4) (.comp (.call F__law_row [(.var 0), (.var 1), (.var 3)]) (.one 5) (.rng [(.call F__law_draw [(.var 0), (.var 1), (.op .add (.var 2) (.lit (.int 1)))])]) [] [5]),
  .ret (.tup [(.var 3), (.var 4)])]
def F__law_table : Fn := ⟨"_law_table", 3, runF 6 I__law_table⟩
def I__law_two : List Stm := [.set (.one 3) (.call F__law_table [(.var 0), (.var 1), (.var 2)]),
  .set (.many [6, 7]) (.var 3),
  .set (.one 4) (.op .add (.slc (.var 7) (some (.call F__law_draw [(.var 0), (.var 1), (.op .add (.bi .len [(.var 7)]) (.lit (.int 1)))])) none) (.slc (.var 7) none (some (.call F__law_draw [(.var 0), (.var 1), (.lit (.int 3))])))),
  .set (.one 5) (.comp (.call F__law_row [(.var 0), (.var 1), (.var 6)]) (.one 8) (.rng [(.call F__law_draw [(.var 0), (.var 1), (.lit (.int 4))])]) [] [8]),
  .ret (.tup [(.var 3), (.tup [(.var 6), (.op .add (.var 4) (.var 5))])])]
def F__law_two : Fn := ⟨"_law_two", 3, runF 9 I__law_two⟩
def I__law_due : List Stm := [.set (.one 2) (.lrng [(.bi .len [(.var 1)])]),
  .set (.one 3) (.lst []),
  .for (.one 4) (.rng [(.bi .len [(.var 0)])]) [.set (.one 5) (.comp (.var 6) (.one 6) (.var 2) [(.cmp .eq (.idx (.var 1) (.var 6)) (.idx (.var 0) (.var 4)))] [6]),
  .set (.one 2) (.comp (.var 6) (.one 6) (.var 2) [(.cmp .nin (.var 6) (.slc (.var 5) none (some (.lit (.int 1)))))] [6]),
  .set (.one 3) (.op .add (.var 3) (.op .mul (.lst [(.var 4)]) (.bi .int [(.cmp .eq (.var 5) (.lst []))])))],
  .ret (.tup [(.var 3), (.var 2)])]
def F__law_due : Fn := ⟨"_law_due", 2, runF 7 I__law_due⟩
def I_law : List Stm := [.set (.many [6, 7]) (.call F__law_two [(.var 0), (.var 1), (.lit (.int 10))]),
  .ifs (.cmp .eq (.call F__law_draw [(.var 0), (.var 1), (.lit (.int 2))]) (.lit (.int 0))) [.set (.one 6) (.tup [(.idx (.var 6) (.lit (.int 0))), (.op .add (.idx (.var 6) (.lit (.int 1))) (.slc (.idx (.var 7) (.lit (.int 1))) none (some (.lit (.int 2)))))])] [],
  .set (.one 2) (.call F_changes [(.var 6), (.var 7)]),
  .ifs (.bop false [(.cmp .ne (.var 2) (.call F__law_due [(.idx (.var 6) (.lit (.int 1))), (.idx (.var 7) (.lit (.int 1)))])), (.cmp .ne (.call F_changes [(.var 6), (.var 6)]) (.tup [(.lst []), (.lst [])]))]) [.ret (.lit (.bl false))] [],
  .set (.many [8, 9]) (.var 2),
  .set (.one 3) (.lst []),
  .for (.one 4) (.op .add (.idx (.var 6) (.lit (.int 1))) (.idx (.var 7) (.lit (.int 1)))) [.set (.one 3) (.op .add (.var 3) (.op .mul (.lst [(.var 4)]) (.bi .int [(.cmp .nin (.var 4) (.var 3))])))],
  .for (.one 4) (.var 3) [.set (.one 10) (.bi .len [(.comp (.var 12) (.one 12) (.rng [(.bi .len [(.idx (.var 6) (.lit (.int 1)))])]) [(.cmp .eq (.idx (.idx (.var 6) (.lit (.int 1))) (.var 12)) (.var 4))] [12])]),
  .set (.one 10) (.op .sub (.var 10) (.bi .len [(.comp (.var 12) (.one 12) (.rng [(.bi .len [(.idx (.var 7) (.lit (.int 1)))])]) [(.cmp .eq (.idx (.idx (.var 7) (.lit (.int 1))) (.var 12)) (.var 4))] [12])])),
  .set (.one 11) (.lst [(.bi .len [(.comp (.var 12) (.one 12) (.var 8) [(.cmp .eq (.idx (.idx (.var 6) (.lit (.int 1))) (.var 12)) (.var 4))] [12])]), (.bi .len [(.comp (.var 12) (.one 12) (.var 9) [(.cmp .eq (.idx (.idx (.var 7) (.lit (.int 1))) (.var 12)) (.var 4))] [12])])]),
  .ifs (.cmp .ne (.var 11) (.lst [(.bi .max2 [(.lit (.int 0)), (.var 10)]), (.bi .max2 [(.lit (.int 0)), (.op .sub (.lit (.int 0)) (.var 10))])])) [.ret (.lit (.bl false))] []],
  .set (.one 5) (.op .add (.comp (.idx (.idx (.var 6) (.lit (.int 1))) (.var 12)) (.one 12) (.rng [(.bi .len [(.idx (.var 6) (.lit (.int 1)))])]) [(.cmp .nin (.var 12) (.var 8))] [12]) (.comp (.idx (.idx (.var 7) (.lit (.int 1))) (.var 12)) (.one 12) (.var 9) [] [12])),
  .ifs (.cmp .ne (.call F_changes [(.tup [(.idx (.var 6) (.lit (.int 0))), (.var 5)]), (.var 7)]) (.tup [(.lst []), (.lst [])])) [.ret (.lit (.bl false))] [],
  .ret (.cmp .eq (.call F_changes [(.tup [(.idx (.var 6) (.lit (.int 0))), (.lst [])]), (.var 7)]) (.tup [(.lst []), (.lrng [(.bi .len [(.idx (.var 7) (.lit (.int 1)))])])]))]
end K80
/-! What the lookers of tables come to. -/
namespace K80
open PySem Ss L2
theorem is_word_ok {x : Str} (h : isW x = true) : F_is_word.sem [.str x] = ret (.bl true) := by
  obtain ⟨h1, h2⟩ := isW_len h
  have h3 : x.length ≤ sizeLine := by unfold sizeLine; omega
  refine runF_rt ?_
  have hl : lenD (.str x) = some (x.length : Int) := by simp only [lenD, if_pos h3]
  have hi : items (.str x) = some (x.cps.toList.map sgn) := by simp only [items, if_pos h3]
  have hc : lcs (cb (.cmp .inn (.var 1) (.glob "SMALL" (.str small))) (.one 1) [] [1] [.dat (.str x), .emp]) (x.cps.toList.map sgn) = ret (x.cps.toList.map fun _ => D.bl true) := by
    refine lcs_map fun c hc => ?_
    have z : c ∈ small.cps := by simpa using isW_all h c hc
    simp [cb, sgn, inD, sgnOf, z]
  have hb : ∀ l : List Nat, bools (l.map fun _ => D.bl true) = some (l.map fun _ => true) := fun l => by
    induction l with
    | nil => rfl
    | cons a l ih => simp only [List.map_cons, bools, ih, Option.map_some]
  have e1 : (1 : Int) ≤ x.length := by omega
  have e2 : (x.length : Int) ≤ 8 := by omega
  have ha : ∀ l : List Nat, (l.map fun _ => true).all id = true := fun l => by
    induction l with
    | nil => rfl
    | cons a l ih => simp
  unfold small at hc
  simp [I_is_word, Ty.f, Bi.f, hl, hi, hc, hb, ha, e1, e2]
theorem is_whole_ok {i lo hi : Int} (h1 : lo ≤ i) (h2 : i ≤ hi) : F_is_whole.sem [.int i, .int lo, .int hi] = ret (.bl true) := by
  refine runF_rt ?_
  simp [I_is_whole, Ty.f, h1, h2]
theorem kw_eq (b : Bool) : Cm.f .eq (.str (kindS b)) (.str "word") = some b := by cases b <;> decide +kernel
theorem is_value_ok {c : Col} {v : Val} (h : fits c v = true) : F_is_value.sem [.str (kindS c.wd), v.d] = ret (.bl true) := by
  refine runF_rt ?_
  cases v with
  | non => simp [I_is_value, Val.d, isN]
  | int i =>
    simp only [fits, Bool.and_eq_true, Bool.not_eq_true', decide_eq_true_eq] at h
    obtain ⟨⟨h0, h1⟩, h2⟩ := h
    have a : F_is_whole.ar = 3 := rfl
    simp [I_is_value, Val.d, isN, kw_eq, h0, a, is_whole_ok h1 h2]
  | str x =>
    simp only [fits, Bool.and_eq_true] at h
    obtain ⟨h0, h1⟩ := h
    have a : F_is_word.ar = 1 := rfl
    simp [I_is_value, Val.d, isN, kw_eq, h0, a, is_word_ok h1]
theorem all_true {α : Type} (l : List α) : Bi.f .all [.lst (l.map fun _ => D.bl true)] = some (.bl true) := by
  have h : bools (l.map fun _ => D.bl true) = some (l.map fun _ => true) := by
    induction l with
    | nil => rfl
    | cons a l ih => simp only [List.map_cons, bools, ih, Option.map_some]
  simp [Bi.f, h]
theorem dcn_nd {xs : List Leaf} (h : xs.Nodup) : ∀ i, i ≤ xs.length → dcn xs i = i
  | 0, _ => rfl
  | i + 1, hi => by
    have hn : ((xs.take i).any fun z => decide (z = xs.getD i .none)) = false := by
      rw [List.any_eq_false]
      intro z hz q
      have q := of_decide_eq_true q
      have e : xs.getD i .none = xs[i] := by simp [List.getD_eq_getElem?_getD, List.getElem?_eq_getElem (show i < xs.length by omega)]
      rw [e] at q
      obtain ⟨j, hj, ej⟩ := List.mem_iff_getElem.mp hz
      rw [List.getElem_take] at ej
      rw [List.length_take] at hj
      have := (List.getElem_inj h (i := j) (j := i) (h₀ := by omega) (h₁ := by omega)).mp (ej.trans q)
      omega
    simp only [dcn, hn, Bool.false_eq_true, if_false, dcn_nd h i (by omega)]
theorem leaves_str (xs : List Str) : leaves (xs.map D.str) = some (xs.map Leaf.text) := by
  induction xs with
  | nil => rfl
  | cons x xs ih => simp only [List.map_cons, leaves, leaf, ih, Option.bind_some, Option.map_some]
theorem kind_in (b : Bool) : inD (.str (kindS b)) (.tup [.str "word", .str "number"]) = some true := by cases b <;> decide +kernel
theorem are_columns_ok {cs : List Col} (h : ColsOk cs) : F_are_columns.sem [colsD cs] = ret (.bl true) := by
  refine runF_rt ?_
  have e1 : (1 : Int) ≤ cs.length := by have := h.one; omega
  have e2 : (cs.length : Int) ≤ 6 := by have := h.six; omega
  have a : F_is_word.ar = 1 := rfl
  have c1 : ∀ ρ, lcs (cb (.bop true [(.isi .tuple (.var 1)), (.cmp .eq (.bi .len [(.var 1)]) (.lit (.int 2))), (.call F_is_word [(.idx (.var 1) (.lit (.int 0)))])]) (.one 1) [] [1] [ρ, .emp]) (cs.map Col.d) = ret (cs.map fun _ => D.bl true) := fun ρ => by
    refine lcs_map fun c hc => ?_
    have z : Cm.f .eq (.int 2) (.int 2) = some true := by decide +kernel
    simp [cb, Col.d, Ty.f, z, a, is_word_ok (h.nms c hc)]
  have c2 : ∀ ρ, lcs (cb (.bop true [(.isi .str (.idx (.var 1) (.lit (.int 1)))), (.cmp .inn (.idx (.var 1) (.lit (.int 1))) (.glob "KINDS" (.tup [.str "word", .str "number"])))]) (.one 1) [] [1] [ρ, .emp]) (cs.map Col.d) = ret (cs.map fun _ => D.bl true) := fun ρ => by
    refine lcs_map fun c hc => ?_
    simp [cb, Col.d, Ty.f, kind_in]
  have c3 : ∀ ρ, lcs (cb (.idx (.var 1) (.lit (.int 0))) (.one 1) [] [1] [ρ, .emp]) (cs.map Col.d) = ret ((cs.map Col.nm).map D.str) := fun ρ => by
    rw [lcs_map (g := fun c : Col => D.str c.nm) fun c hc => ?_]
    · rw [List.map_map]; rfl
    · simp [cb, Col.d]
  have c4 : setN (.lst ((cs.map Col.nm).map D.str)) = ret (.int cs.length) := by
    have n : ((cs.map Col.nm).map Leaf.text).Nodup := by
      refine List.Pairwise.map _ (fun x y hxy q => hxy (by cases q; rfl)) h.nd
    have l : ((cs.map Col.nm).map Leaf.text).length = cs.length := by simp
    have l2 : cs.length ≤ 4000 := by have := h.six; omega
    simp only [setN, leaves_str, Option.bind_some, dcn_nd n _ (Nat.le_refl _)]
    simp [l2]
  have z : Cm.f .eq (.int cs.length) (.int cs.length) = some true := by
    rw [cm_eq (int_okE _) (int_okE _)]; simp [D.eqv]
  simp only [List.map_map] at c3 c4
  simp [I_are_columns, colsD, Ty.f, e1, e2, c1, c2, c3, c4, all_true, z]
theorem look_columns_ok {cs : List Col} (h : ColsOk cs) : F_look_columns.sem [colsD cs] = ret .non := by
  refine runF_nx (ρ := [.dat (colsD cs)]) ?_
  have a : F_are_columns.ar = 1 := rfl
  simp [I_look_columns, a, are_columns_ok h]
theorem ne_self {i : Int} : Cm.f .ne (.int i) (.int i) = some false := by
  rw [cm_ne (int_okE _) (int_okE _)]; simp [D.eqv]
theorem look_row_ok {cs : List Col} {r : Row} (h : RowOk cs r) (hl : cs.length ≤ 6) : F_look_row.sem [colsD cs, rowD r] = ret .non := by
  have e := h.len
  refine runF_nx (ρ := [.dat (colsD cs), .dat (rowD r), .emp]) ?_
  have a : F_is_value.ar = 2 := rfl
  have c1 : lcs (cb (.call F_is_value [(.idx (.idx (.var 0) (.var 2)) (.lit (.int 1))), (.idx (.var 1) (.var 2))]) (.one 2) [] [2] [.dat (colsD cs), .dat (rowD r), .emp]) ((List.range r.length).map fun (k : Nat) => D.int k) = ret ((List.range r.length).map fun _ => D.bl true) := by
    refine lcs_map fun k hk => ?_
    have hk : k < r.length := List.mem_range.mp hk
    have g1 : (cs.map Col.d)[k]? = some (cs[k].d) := by simp [List.getElem?_eq_getElem (show k < cs.length by omega)]
    have g2 : (r.map Val.d)[k]? = some (r[k].d) := by simp [List.getElem?_eq_getElem hk]
    have f := h.nth k (by omega) hk
    have v := is_value_ok f
    simp only [cb, colsD, rowD]
    simp [Ss.atI_nat, g1, g2, a]
    simp [Col.d, v]
  have z : Cm.f .ne (.int r.length) (.int cs.length) = some false := by rw [e]; exact ne_self
  have hr := rngD_nat r.length (by omega)
  simp only [I_look_row, colsD, rowD] at *
  simp [Ty.f, z, hr, c1, all_true]
theorem look_table_ok {cs : List Col} {rs : List Row} (h : ColsOk cs) (hr : ∀ r ∈ rs, RowOk cs r) (hl : rs.length ≤ 24) : F_look_table.sem [tabD cs rs] = ret .non := by
  have z := ne_self (i := 2)
  have a1 : F_look_columns.ar = 1 := rfl
  have a2 : F_look_row.ar = 2 := rfl
  have lf : ∀ s, forB (.one 1) [.exp (.call F_look_row [(.idx (.var 0) (.lit (.int 0))), (.var 1)])] (rs.map rowD) [.dat (.tup [colsD cs, .lst (rs.map rowD)]), s] = ret (.nx [.dat (.tup [colsD cs, .lst (rs.map rowD)]), rs.foldl (fun _ r => .dat (rowD r)) s]) := fun s => by
    refine forB_ret (en := fun s => [.dat (.tup [colsD cs, .lst (rs.map rowD)]), s]) (st := fun _ r => .dat (rowD r)) fun s r hr' => ?_
    simp [a2, look_row_ok (hr r hr') h.six]
  have hg : ¬ ((24 : Int) < rs.length) := by omega
  refine runF_nx (ρ := [.dat (tabD cs rs), rs.foldl (fun _ r => .dat (rowD r)) .emp]) ?_
  simp only [I_look_table, tabD, rowsD] at *
  simp [Ty.f, z, a1, look_columns_ok h, hg, lf]
theorem look_two_ok {cs : List Col} {rs ss : List Row} (h : ColsOk cs) (hr : ∀ r ∈ rs, RowOk cs r) (hl : rs.length ≤ 24) (hr' : ∀ r ∈ ss, RowOk cs r) (hl' : ss.length ≤ 24) : F_look_two.sem [tabD cs rs, tabD cs ss] = ret .non := by
  have a1 : F_look_table.ar = 1 := rfl
  have z : Cm.f .ne (colsD cs) (colsD cs) = some false := by rw [cm_ne (cols_okE h) (cols_okE h), cols_eqv]; simp
  have l1 := look_table_ok h hr hl
  have l2 := look_table_ok h hr' hl'
  refine runF_nx (ρ := [.dat (tabD cs rs), .dat (tabD cs ss)]) ?_
  simp only [I_look_two, tabD, rowsD] at *
  simp [a1, l1, l2, z]
end K80
/-! What changes comes to, and the law's own reckoning. -/
namespace K80
open PySem Ss L2
abbrev S2 := List Nat × List Nat
def chStep (rs ss : List Row) (s : S2) (k : Nat) : S2 :=
  match s.1.filter fun j => decide (ss[j]? = rs[k]?) with
  | [] => (s.1, s.2 ++ [k])
  | j :: _ => (s.1.erase j, s.2)
def chg (rs ss : List Row) : S2 := (List.range rs.length).foldl (chStep rs ss) (List.range ss.length, [])
theorem nums_nat (ks : List Nat) : nums (ks.map natD) = some (ks.map fun (k : Nat) => (k : Int)) := by
  induction ks with
  | nil => rfl
  | cons k ks ih => simp only [List.map_cons, natD, nums] at ih ⊢; rw [ih]; rfl
theorem erase_nat (j : Nat) : ∀ ks : List Nat, ((ks.map fun (k : Nat) => (k : Int)).erase (j : Int)).map D.int = (ks.erase j).map natD
  | [] => rfl
  | k :: ks => by
    simp only [List.map_cons, List.erase_cons]
    by_cases h : k = j
    · subst h
      simp only [beq_self_eq_true, if_true, List.map_map]; rfl
    · have h' : ¬ ((k : Int) = (j : Int)) := by omega
      have e1 : (k == j) = false := by simpa using h
      have e2 : ((k : Int) == (j : Int)) = false := by simpa using h'
      simp only [e1, e2, Bool.false_eq_true, if_false, List.map_cons, erase_nat j ks]; rfl
theorem rem_nat (ρ : Ss.Env) (i : Nat) {j : Nat} {ks : List Nat} (h : j ∈ ks) : remM ρ i (ks.map fun (k : Nat) => (k : Int)) (natD j) = ret (.nx (ρ.set i (.own ((ks.erase j).map natD)))) := by
  have z : ((ks.map fun (k : Nat) => (k : Int)).contains (j : Int)) = true := List.contains_iff_mem.mpr (List.mem_map.mpr ⟨j, h, rfl⟩)
  rw [natD, remM_int, if_pos z, erase_nat]
structure ChI (rs ss : List Row) (n : Nat) (s : S2) : Prop where
  lt : ∀ j ∈ s.1, j < ss.length
  nd : s.1.Nodup
  le : s.2.length ≤ n
  gl : ∀ k ∈ s.2, k < rs.length
theorem ChI.step {rs ss : List Row} {n k : Nat} {s : S2} (h : ChI rs ss n s) (hk : k < rs.length) : ChI rs ss (n + 1) (chStep rs ss s k) := by
  unfold chStep
  split
  · refine ⟨h.lt, h.nd, ?_, fun j hj => ?_⟩
    · have := h.le; simp only [List.length_append, List.length_cons, List.length_nil]; omega
    · rcases List.mem_append.mp hj with z | z
      · exact h.gl j z
      · simp at z; omega
  · exact ⟨fun j hj => h.lt j (List.mem_of_mem_erase hj), h.nd.erase _, Nat.le_succ_of_le h.le, h.gl⟩
theorem cmp_rows {a b : Row} (ha : rowW a = true) (hb : rowW b = true) : Cm.f .eq (rowD a) (rowD b) = some (decide (a = b)) := by rw [cm_eq (row_okE ha) (row_okE hb), row_eqv]
theorem changes_ok {cs : List Col} {rs ss : List Row} (h : ColsOk cs) (hr : ∀ r ∈ rs, RowOk cs r) (hl : rs.length ≤ 24) (hr' : ∀ r ∈ ss, RowOk cs r) (hl' : ss.length ≤ 24) :
    F_changes.sem [tabD cs rs, tabD cs ss] = ret (.tup [natsD (chg rs ss).2, natsD (chg rs ss).1]) ∧ ChI rs ss rs.length (chg rs ss) := by
  have a1 : F_look_two.ar = 2 := rfl
  have l1 := look_two_ok h hr hl hr' hl'
  have r1 := rngD_nat rs.length (by omega)
  have r2 := rngD_nat ss.length (by omega)
  let en : S2 × Sl × Sl → Ss.Env := fun s => [.dat (tabD cs rs), .dat (tabD cs ss), .own (s.1.1.map natD), .own (s.1.2.map natD), s.2.1, s.2.2, .emp]
  let st : S2 × Sl × Sl → Nat → S2 × Sl × Sl := fun s k => (chStep rs ss s.1 k, .dat (natD k), .dat (natsD (s.1.1.filter fun j => decide (ss[j]? = rs[k]?))))
  obtain ⟨lf, inv⟩ := forB_ix (tg := .one 4) (body := [.set (.one 5) (.comp (.var 6) (.one 6) (.own 2) [(.cmp .eq (.idx (.idx (.var 1) (.lit (.int 1))) (.var 6)) (.idx (.idx (.var 0) (.lit (.int 1))) (.var 4)))] [6]),
    .ifs (.var 5) [.rem 2 (.idx (.var 5) (.lit (.int 0)))] [.app 3 (.var 4)]]) (em := natD) (en := en) (st := st) (I := fun n s => ChI rs ss n s.1) (xs := List.range rs.length) (n := 0) (s := ((List.range ss.length, []), .emp, .emp))
    ⟨fun j hj => List.mem_range.mp hj, List.nodup_range, Nat.le_refl _, fun _ z => nomatch z⟩ (fun i s k hk0 I => by
      have hk := List.mem_range.mp (List.mem_of_getElem? hk0)
      have hi : i < rs.length := by
        have z : i < (List.range rs.length).length := (List.getElem?_eq_some_iff.mp hk0).1
        simpa using z
      refine ⟨I.step hk, ?_⟩
      have gk : (rs.map rowD)[k]? = some (rowD rs[k]) := by simp [List.getElem?_eq_getElem hk]
      have c1 : lcs (cb (.var 6) (.one 6) [(.cmp .eq (.idx (.idx (.var 1) (.lit (.int 1))) (.var 6)) (.idx (.idx (.var 0) (.lit (.int 1))) (.var 4)))] [6] [.dat (tabD cs rs), .dat (tabD cs ss), .own (s.1.1.map natD), .own (s.1.2.map natD), .dat (natD k), s.2.2, .emp]) (s.1.1.map natD) = ret ((s.1.1.filter fun j => decide (ss[j]? = rs[k]?)).map natD) := by
        refine lcs_filter fun j hj => ?_
        have hj := I.lt j hj
        have gj : (ss.map rowD)[j]? = some (rowD ss[j]) := by simp [List.getElem?_eq_getElem hj]
        have z := cmp_rows (hr' _ (List.getElem_mem hj)).wf (hr _ (List.getElem_mem hk)).wf
        have e : decide (ss[j]? = rs[k]?) = decide (ss[j] = rs[k]) := by simp [List.getElem?_eq_getElem hj, List.getElem?_eq_getElem hk]
        rw [e]
        simp only [cb, tabD, rowsD, natD]
        simp [Ss.atI_nat, gj, gk, z]
        split <;> rfl
      simp only [en, st, chStep]
      cases hf : s.1.1.filter fun j => decide (ss[j]? = rs[k]?) with
      | nil =>
        rw [hf] at c1
        have le := I.le
        have hs : s.1.2.length < 16777216 := by omega
        simp [c1, natsD, hs]
      | cons j js =>
        rw [hf] at c1
        have hm : j ∈ s.1.1 := (List.mem_filter.mp (by rw [hf]; exact List.mem_cons_self)).1
        have hx := fun ρ => rem_nat ρ 2 hm
        simp [c1, natsD, nums_nat, hx])
  refine ⟨runF_rt ?_, ?_⟩
  · have e0 : (fun (k : Nat) => D.int k) = natD := rfl
    rw [e0] at r1 r2
    simp only [en] at lf
    have e1 : chg rs ss = ((List.range rs.length).foldl st ((List.range ss.length, []), .emp, .emp)).1 := by
      unfold chg
      generalize (List.range ss.length, ([] : List Nat)) = s0
      have q : ∀ (l : List Nat) (s0 : S2) (a b : Sl), l.foldl (chStep rs ss) s0 = (l.foldl st (s0, a, b)).1 := fun l => by
        induction l with
        | nil => intro _ _ _; rfl
        | cons k l ih => intro s0 a b; exact ih _ _ _
      exact q _ _ _ _
    simp only [List.map_nil] at lf
    rw [e1]
    simp only [I_changes]
    simp [a1, l1]
    simp only [tabD, rowsD] at *
    simp [r1, r2, lf, natsD]
  · have e1 : chg rs ss = ((List.range rs.length).foldl st ((List.range ss.length, []), .emp, .emp)).1 := by
      unfold chg
      have q : ∀ (l : List Nat) (s0 : S2) (a b : Sl), l.foldl (chStep rs ss) s0 = (l.foldl st (s0, a, b)).1 := fun l => by
        induction l with
        | nil => intro _ _ _; rfl
        | cons k l ih => intro s0 a b; exact ih _ _ _
      exact q _ _ _ _
    rw [e1]
    simpa using inv
theorem chg_fold (rs ss : List Row) {τ : Type} {st : S2 × τ → Nat → S2 × τ} (h : ∀ s k, (st s k).1 = chStep rs ss s.1 k) : ∀ (l : List Nat) (s : S2 × τ), (l.foldl st s).1 = l.foldl (chStep rs ss) s.1
  | [], _ => rfl
  | k :: l, s => by
    simp only [List.foldl_cons]
    rw [chg_fold rs ss h l, h]
theorem due_ok {rs ss : List Row} (hr : ∀ r ∈ rs, rowW r = true) (hl : rs.length ≤ 24) (hr' : ∀ r ∈ ss, rowW r = true) (hl' : ss.length ≤ 24) :
    F__law_due.sem [rowsD rs, rowsD ss] = ret (.tup [natsD (chg rs ss).2, natsD (chg rs ss).1]) := by
  have r1 := rngD_nat rs.length (by omega)
  have r2 := rngD_nat ss.length (by omega)
  let en : S2 × Sl × Sl → Ss.Env := fun s => [.dat (rowsD rs), .dat (rowsD ss), .dat (natsD s.1.1), .dat (natsD s.1.2), s.2.1, s.2.2, .emp]
  let st : S2 × Sl × Sl → Nat → S2 × Sl × Sl := fun s k => (chStep rs ss s.1 k, .dat (natD k), .dat (natsD (s.1.1.filter fun j => decide (ss[j]? = rs[k]?))))
  obtain ⟨lf, inv⟩ := forB_ix (tg := .one 4) (body := [.set (.one 5) (.comp (.var 6) (.one 6) (.var 2) [(.cmp .eq (.idx (.var 1) (.var 6)) (.idx (.var 0) (.var 4)))] [6]),
  .set (.one 2) (.comp (.var 6) (.one 6) (.var 2) [(.cmp .nin (.var 6) (.slc (.var 5) none (some (.lit (.int 1)))))] [6]),
  .set (.one 3) (.op .add (.var 3) (.op .mul (.lst [(.var 4)]) (.bi .int [(.cmp .eq (.var 5) (.lst []))])))]) (em := natD) (en := en) (st := st) (I := fun n s => ChI rs ss n s.1) (xs := List.range rs.length) (n := 0) (s := ((List.range ss.length, []), .emp, .emp))
    ⟨fun j hj => List.mem_range.mp hj, List.nodup_range, Nat.le_refl _, fun _ z => nomatch z⟩ (fun i s k hk0 I => by
      have hk := List.mem_range.mp (List.mem_of_getElem? hk0)
      have hi : i < rs.length := by
        have z : i < (List.range rs.length).length := (List.getElem?_eq_some_iff.mp hk0).1
        simpa using z
      refine ⟨I.step hk, ?_⟩
      have gk : (rs.map rowD)[k]? = some (rowD rs[k]) := by simp [List.getElem?_eq_getElem hk]
      have c1 : ∀ a b, lcs (cb (.var 6) (.one 6) [(.cmp .eq (.idx (.var 1) (.var 6)) (.idx (.var 0) (.var 4)))] [6] [.dat (rowsD rs), .dat (rowsD ss), a, b, .dat (natD k), s.2.2, .emp]) (s.1.1.map natD) = ret ((s.1.1.filter fun j => decide (ss[j]? = rs[k]?)).map natD) := fun a b => by
        refine lcs_filter fun j hj => ?_
        have hj := I.lt j hj
        have gj : (ss.map rowD)[j]? = some (rowD ss[j]) := by simp [List.getElem?_eq_getElem hj]
        have z := cmp_rows (hr' _ (List.getElem_mem hj)) (hr _ (List.getElem_mem hk))
        have e : decide (ss[j]? = rs[k]?) = decide (ss[j] = rs[k]) := by simp [List.getElem?_eq_getElem hj, List.getElem?_eq_getElem hk]
        rw [e]
        simp only [cb, rowsD, natD]
        simp [Ss.atI_nat, gj, gk, z]
        split <;> rfl
      have c2 : ∀ a b (same : List Nat), lcs (cb (.var 6) (.one 6) [(.cmp .nin (.var 6) (.slc (.var 5) none (some (.lit (.int 1)))))] [6] [.dat (rowsD rs), .dat (rowsD ss), a, b, .dat (natD k), .dat (.lst (same.map natD)), .emp]) (s.1.1.map natD) = ret ((s.1.1.filter fun j => !decide (j ∈ same.take 1)).map natD) := fun a b same => by
        refine lcs_filter fun j hj => ?_
        have z := in_nats j (same.take 1)
        have q := cutL_take (same.map natD) 1
        simp only [natsD] at z
        simp only [List.map_take] at z
        have q : cutL (same.map natD) none (some 1) = (same.map natD).take 1 := q
        simp only [cb]
        simp [q, z]
        by_cases h : j ∈ same.take 1 <;> simp [h]
      have le := I.le
      simp only [en, st, chStep]
      have z0 := nats_okE []
      cases hf : s.1.1.filter fun j => decide (ss[j]? = rs[k]?) with
      | nil =>
        simp only [hf] at c1
        have z := cm_eq (nats_okE []) (nats_okE [])
        have z : Cm.f .eq (.lst []) (.lst []) = some true := by decide +kernel
        have m1 := op_mul1 [natD k] (by simp)
        have ft : s.1.1.filter (fun _ => true) = s.1.1 := List.filter_eq_self.mpr fun _ _ => rfl
        have ad : Op.f .add (.lst (s.1.2.map natD)) (.lst [natD k]) = some (.lst ((s.1.2 ++ [k]).map natD)) := by
          rw [op_addL (by simp; omega)]; simp
        have c2 := fun a b => c2 a b []
        simp at c2
        simp [c1, c2, natsD, z, m1, ad, ft]
      | cons j js =>
        simp only [hf] at c1
        have hm : j ∈ s.1.1 := (List.mem_filter.mp (by rw [hf]; exact List.mem_cons_self)).1
        have z : Cm.f .eq (.lst (natD j :: js.map natD)) (.lst []) = some false := by
          have z := cm_eq (nats_okE (j :: js)) (nats_okE [])
          rw [nats_eqv] at z
          simpa [natsD] using z
        have m1 := op_mul0 [natD k]
        have ad : Op.f .add (.lst (s.1.2.map natD)) (.lst []) = some (.lst (s.1.2.map natD)) := by
          rw [op_addL (by simp; omega)]; simp
        have c2 := fun a b => c2 a b (j :: js)
        have fe : s.1.1.filter (fun i => !decide (i ∈ (j :: js).take 1)) = s.1.1.erase j := by
          rw [I.nd.erase_eq_filter]
          congr 1
          funext i
          by_cases h : i = j <;> simp [h]
        rw [fe] at c2
        simp at c2
        simp [c1, c2, natsD, z, m1, ad])
  have e1 : chg rs ss = ((List.range rs.length).foldl st ((List.range ss.length, []), .emp, .emp)).1 := (chg_fold rs ss (st := st) (fun _ _ => rfl) (List.range rs.length) ((List.range ss.length, []), .emp, .emp)).symm
  have e0 : (fun (k : Nat) => D.int k) = natD := rfl
  rw [e0] at r1 r2
  simp only [en, natsD, List.map_nil, rowsD] at lf
  refine runF_rt ?_
  rw [e1]
  simp only [I__law_due, rowsD]
  simp [r1, r2, lf, natsD]
end K80
/-! How many of each row are left: plain counting. -/
namespace K80
open PySem Ss L2
/-- how many of these places hold x -/
def at_ (ss : List Row) (x : Row) (l : List Nat) : Nat := l.countP fun j => decide (ss[j]? = some x)
theorem at_range (ss : List Row) (x : Row) : at_ ss x (List.range ss.length) = ss.countP fun r => decide (r = x) := by
  unfold at_
  have e : (List.range ss.length).map (fun j => ss[j]?) = ss.map some := by
    apply List.ext_getElem?
    intro i
    by_cases h : i < ss.length
    · simp [List.getElem?_eq_getElem h, List.getElem?_range h]
    · simp [List.getElem?_eq_none (Nat.le_of_not_lt h)]
      omega
  have q : (List.range ss.length).countP (fun j => decide (ss[j]? = some x)) = ((List.range ss.length).map (fun j => ss[j]?)).countP fun o => decide (o = some x) := by
    rw [List.countP_map]; rfl
  rw [q, e, List.countP_map]
  congr 1
  funext r
  simp
structure CI (rs ss : List Row) (i : Nat) (s : S2) : Prop where
  lt : ∀ j ∈ s.1, j < ss.length
  nd : s.1.Nodup
  gl : ∀ k ∈ s.2, k < i
  gn : s.2.Nodup
  lc : ∀ x, at_ ss x s.1 = (ss.countP fun r => decide (r = x)) - ((rs.take i).countP fun r => decide (r = x))
  gc : ∀ x, at_ rs x s.2 = ((rs.take i).countP fun r => decide (r = x)) - (ss.countP fun r => decide (r = x))
theorem ci_step {rs ss : List Row} {i : Nat} {s : S2} (h : CI rs ss i s) (hi : i < rs.length) : CI rs ss (i + 1) (chStep rs ss s i) := by
  have ei : rs[i]? = some rs[i] := List.getElem?_eq_getElem hi
  have et : ∀ x, ((rs.take (i + 1)).countP fun r => decide (r = x)) = ((rs.take i).countP fun r => decide (r = x)) + if rs[i] = x then 1 else 0 := fun x => by
    rw [List.take_succ, ei, List.countP_append]
    simp [List.countP_cons]
  unfold chStep
  cases hf : s.1.filter fun j => decide (ss[j]? = rs[i]?) with
  | nil =>
    have h0 : at_ ss rs[i] s.1 = 0 := by
      unfold at_
      rw [List.countP_eq_length_filter]
      rw [ei] at hf
      rw [hf]; rfl
    have hc := h.lc rs[i]
    rw [h0] at hc
    refine ⟨h.lt, h.nd, fun k hk => ?_, ?_, fun x => ?_, fun x => ?_⟩
    · rcases List.mem_append.mp hk with z | z
      · have := h.gl k z; omega
      · simp at z; omega
    · refine List.nodup_append.mpr ⟨h.gn, by simp, fun a ha b hb => ?_⟩
      have := h.gl a ha
      simp at hb; omega
    · rw [et, h.lc x]
      by_cases q : rs[i] = x
      · subst q; rw [if_pos rfl]; omega
      · rw [if_neg q]; omega
    · have e : at_ rs x (s.2 ++ [i]) = at_ rs x s.2 + if rs[i] = x then 1 else 0 := by
        unfold at_
        rw [List.countP_append]
        simp [List.countP_cons, ei]
      show at_ rs x (s.2 ++ [i]) = _
      rw [e, et, h.gc x]
      by_cases q : rs[i] = x
      · subst q; rw [if_pos rfl]; omega
      · rw [if_neg q]; omega
  | cons j js =>
    have hj := List.mem_filter.mp (show j ∈ s.1.filter fun j => decide (ss[j]? = rs[i]?) by rw [hf]; exact List.mem_cons_self)
    have ej : ss[j]? = some rs[i] := by
      have := of_decide_eq_true hj.2
      rw [this, ei]
    have pe : ∀ x, at_ ss x s.1 = at_ ss x (s.1.erase j) + if rs[i] = x then 1 else 0 := fun x => by
      unfold at_
      rw [(List.perm_cons_erase hj.1).countP_eq, List.countP_cons, ej]
      simp
    have p0 := pe rs[i]
    rw [if_pos rfl, h.lc] at p0
    refine ⟨fun k hk => h.lt k (List.mem_of_mem_erase hk), h.nd.erase _, fun k hk => Nat.lt_succ_of_lt (h.gl k hk), h.gn, fun x => ?_, fun x => ?_⟩
    · have p := pe x
      rw [h.lc] at p
      show at_ ss x (s.1.erase j) = _
      rw [et]
      by_cases q : rs[i] = x
      · subst q; rw [if_pos rfl] at p ⊢; omega
      · rw [if_neg q] at p ⊢; omega
    · show at_ rs x s.2 = _
      rw [et, h.gc x]
      by_cases q : rs[i] = x
      · subst q; rw [if_pos rfl]; omega
      · rw [if_neg q]; omega
theorem ci_fold (rs ss : List Row) : ∀ i, i ≤ rs.length → CI rs ss i ((List.range i).foldl (chStep rs ss) (List.range ss.length, []))
  | 0, _ => ⟨fun j hj => List.mem_range.mp hj, List.nodup_range, (fun _ z => by cases z), List.nodup_nil, fun x => by
      show at_ ss x (List.range ss.length) = _
      rw [at_range]; simp, fun x => by simp [at_]⟩
  | i + 1, hi => by
    rw [List.range_succ, List.foldl_append]
    exact ci_step (ci_fold rs ss i (by omega)) (by omega)
theorem ci (rs ss : List Row) : CI rs ss rs.length (chg rs ss) := ci_fold rs ss rs.length (Nat.le_refl _)
def cnt (rs : List Row) (x : Row) : Nat := rs.countP fun r => decide (r = x)
theorem left_cnt (rs ss : List Row) (x : Row) : at_ ss x (chg rs ss).1 = cnt ss x - cnt rs x := by
  have z := (ci rs ss).lc x
  rw [List.take_length] at z
  exact z
theorem gone_cnt (rs ss : List Row) (x : Row) : at_ rs x (chg rs ss).2 = cnt rs x - cnt ss x := by
  have z := (ci rs ss).gc x
  rw [List.take_length] at z
  exact z
theorem at_pos {ss : List Row} {l : List Nat} {j : Nat} (hj : j ∈ l) (h : j < ss.length) : 0 < at_ ss ss[j] l := by
  unfold at_
  rw [List.countP_pos_iff]
  exact ⟨j, hj, by simp [List.getElem?_eq_getElem h]⟩
theorem chg_same {rs ss : List Row} (h : ∀ x, cnt rs x = cnt ss x) : chg rs ss = ([], []) := by
  have c := ci rs ss
  have e1 : (chg rs ss).1 = [] := by
    cases q : (chg rs ss).1 with
    | nil => rfl
    | cons j js =>
      exfalso
      have hj : j ∈ (chg rs ss).1 := by rw [q]; exact List.mem_cons_self
      have p := at_pos hj (c.lt j hj)
      rw [left_cnt, h] at p
      omega
  have e2 : (chg rs ss).2 = [] := by
    cases q : (chg rs ss).2 with
    | nil => rfl
    | cons j js =>
      exfalso
      have hj : j ∈ (chg rs ss).2 := by rw [q]; exact List.mem_cons_self
      have p := at_pos hj (c.gl j hj)
      rw [gone_cnt, h] at p
      omega
  exact Prod.ext e1 e2
/-- the rows that stay, the other's alone -/
def staysL (rs ss : List Row) : List Row := (((List.range rs.length).filter fun k => !decide (k ∈ (chg rs ss).2)).map fun k => rs.getD k []) ++ (chg rs ss).1.map fun k => ss.getD k []
theorem cnt_map (rs : List Row) (x : Row) : ∀ l : List Nat, (∀ k ∈ l, k < rs.length) → cnt (l.map fun k => rs.getD k []) x = at_ rs x l
  | [], _ => rfl
  | k :: l, h => by
    have hk := h k List.mem_cons_self
    have e := cnt_map rs x l fun j hj => h j (List.mem_cons_of_mem _ hj)
    unfold cnt at_ at e ⊢
    simp only [List.map_cons, List.countP_cons, e]
    congr 1
    simp [List.getElem?_eq_getElem hk]
theorem stays_cnt (rs ss : List Row) (x : Row) : cnt (staysL rs ss) x = cnt ss x := by
  have c := ci rs ss
  have e1 : cnt (staysL rs ss) x = at_ rs x ((List.range rs.length).filter fun k => !decide (k ∈ (chg rs ss).2)) + at_ ss x (chg rs ss).1 := by
    unfold staysL
    have a : ∀ l l' : List Row, cnt (l ++ l') x = cnt l x + cnt l' x := fun l l' => by unfold cnt; rw [List.countP_append]
    rw [a, cnt_map, cnt_map]
    · exact c.lt
    · intro k hk; exact List.mem_range.mp (List.mem_filter.mp hk).1
  have e2 : at_ rs x ((List.range rs.length).filter fun k => !decide (k ∈ (chg rs ss).2)) + at_ rs x (chg rs ss).2 = cnt rs x := by
    have p1 : ((List.range rs.length).filter fun k => decide (k ∈ (chg rs ss).2)).Perm (chg rs ss).2 := by
      refine (List.perm_ext_iff_of_nodup (List.nodup_range.filter _) c.gn).mpr fun k => ?_
      rw [List.mem_filter, List.mem_range, decide_eq_true_eq]
      exact ⟨fun z => z.2, fun z => ⟨c.gl k z, z⟩⟩
    have p2 := List.filter_append_perm (fun k => decide (k ∈ (chg rs ss).2)) (List.range rs.length)
    have q := at_range rs x
    unfold at_ at q ⊢
    rw [← p1.countP_eq, Nat.add_comm, ← List.countP_append, p2.countP_eq]
    exact q
  rw [e1, left_cnt]
  rw [gone_cnt] at e2
  omega
theorem chg_stays (rs ss : List Row) : chg (staysL rs ss) ss = ([], []) := chg_same (stays_cnt rs ss)
theorem chg_self (rs : List Row) : chg rs rs = ([], []) := chg_same fun _ => rfl
theorem chg_nil (ss : List Row) : chg [] ss = (List.range ss.length, []) := rfl
theorem stays_mem {rs ss : List Row} {r : Row} (h : r ∈ staysL rs ss) : r ∈ rs ∨ r ∈ ss := by
  have c := ci rs ss
  unfold staysL at h
  rcases List.mem_append.mp h with z | z
  · obtain ⟨k, hk, rfl⟩ := List.mem_map.mp z
    have := List.mem_range.mp (List.mem_filter.mp hk).1
    left
    simp [List.getD_eq_getElem?_getD, List.getElem?_eq_getElem this]
  · obtain ⟨k, hk, rfl⟩ := List.mem_map.mp z
    have := c.lt k hk
    right
    simp [List.getD_eq_getElem?_getD, List.getElem?_eq_getElem this]
theorem stays_len (rs ss : List Row) : (staysL rs ss).length = ss.length := by
  refine List.Perm.length_eq (List.perm_iff_count.mpr fun x => ?_)
  have z := stays_cnt rs ss x
  unfold cnt at z
  have e : ∀ l : List Row, l.count x = l.countP fun r => decide (r = x) := fun l => by
    unfold List.count
    congr 1
    funext r
    exact Bool.beq_eq_decide_eq r x
  rw [e, e, z]
end K80
/-! What the law's drawers come to. -/
namespace K80
open PySem Ss L2
theorem atI_int {α : Type} (xs : List α) {i : Int} (h0 : 0 ≤ i) (h1 : i < xs.length) : ∃ x, x ∈ xs ∧ atI xs i = some x := by
  obtain ⟨k, rfl⟩ := Int.eq_ofNat_of_zero_le h0
  have hk : k < xs.length := by omega
  exact ⟨xs[k], List.getElem_mem hk, by rw [Ss.atI_nat, List.getElem?_eq_getElem hk]⟩
theorem op_mod {i j : Int} (h : 0 < j) : Op.f .mod (.int i) (.int j) = some (.int (i % j)) := by simp only [Op.f, if_pos h]
theorem op_fdiv {i j : Int} (h : 0 < j) (h' : j < 1073741824) : Op.f .fdiv (.int i) (.int j) = some (.int (i / j)) := by simp only [Op.f, if_pos (And.intro h h')]
theorem op_mulL {i j : Int} (h : w64 i = true) : Op.f .mul (.int i) (.int j) = some (.int (i * j)) := by simp only [Op.f, h, Bool.true_or, if_true]
theorem op_mulR {i j : Int} (h : w64 j = true) : Op.f .mul (.int i) (.int j) = some (.int (i * j)) := by simp only [Op.f, h, Bool.or_true, if_true]
theorem cell_ok (ns : List Int) (k : Int) : ∃ c : Int, F__law_cell.sem [.scr ns, .int k] = ret (.int c) := by
  cases ns with
  | nil =>
    refine ⟨0, ?_⟩
    show runF 2 I__law_cell [.scr [], .int k] = _
    refine runF_rt ?_
    simp [I__law_cell]
  | cons a r =>
    have hp : (0 : Int) < ((a :: r).length : Int) := by simp only [List.length_cons]; omega
    obtain ⟨x, _, hx⟩ := atI_int (a :: r) (i := k % ((a :: r).length : Int)) (Int.emod_nonneg _ (by omega)) (Int.emod_lt_of_pos _ hp)
    refine ⟨x, ?_⟩
    refine runF_rt ?_
    have m := op_mod (i := k) hp
    have el : ((a :: r).length : Int) = (r.length : Int) + 1 := by simp
    rw [el] at m hx
    simp only [I__law_cell]
    simp [m, hx]
theorem mix_ok (ns : List Int) (k : Int) : ∃ c : Int, F__law_mix.sem [.scr ns, .int k] = ret (.int c) := by
  obtain ⟨c, hc⟩ := cell_ok ns k
  have a : F__law_cell.ar = 2 := rfl
  have m1 := op_mulL (i := 104729) (j := k + 1) (by decide)
  have m2 := op_mod (i := c + 104729 * (k + 1)) (j := 4294967291) (by decide)
  have b0 := Int.emod_nonneg (c + 104729 * (k + 1)) (show (4294967291 : Int) ≠ 0 by decide)
  have b1 := Int.emod_lt_of_pos (c + 104729 * (k + 1)) (show (0 : Int) < 4294967291 by decide)
  generalize (c + 104729 * (k + 1)) % 4294967291 = x at m2 b0 b1
  have m3 : Op.f .pow (.int x) (.int 5) = some (.int (x ^ 5)) := by
    have h : (0 : Int) ≤ 5 ∧ (5 : Int) ≤ 1000000 ∧ x.natAbs < 2 ^ 64 := ⟨by decide, by decide, by omega⟩
    simp only [Op.f, if_pos h]; rfl
  have m4 := op_mod (i := x ^ 5) (j := 4294967279) (by decide)
  generalize x ^ 5 % 4294967279 = y at m4
  have m5 := op_fdiv (i := y) (j := 64) (by decide) (by decide)
  have m6 := op_mulR (i := y / 64) (j := 69621) (by decide)
  have m7 := op_mod (i := y / 64 * 69621 + y) (j := 4294967231) (by decide)
  refine ⟨(y / 64 * 69621 + y) % 4294967231, ?_⟩
  refine runF_rt ?_
  simp only [I__law_mix]
  simp [a, hc, m1, m2, m3, m4, m5, m6, m7]
theorem draw_ok (ns : List Int) {m : Nat} (hm : 0 < m) : Hs (F__law_draw.sem [.scr ns, .town, .int m]) 1 fun d => ∃ k, d = natD k ∧ k < m := by
  refine Hs.runF fun n hn => ?_
  obtain ⟨c, hc⟩ := mix_ok ns ((n + 1 : Nat) : Int)
  have m1 := op_fdiv (i := c) (j := 8) (by decide) (by decide)
  have m2 := op_mod (i := c / 8) (j := (m : Int)) (by omega)
  have b0 := Int.emod_nonneg (c / 8) (show (m : Int) ≠ 0 by omega)
  have b1 := Int.emod_lt_of_pos (c / 8) (show (0 : Int) < m by omega)
  have a : F__law_mix.ar = 2 := rfl
  obtain ⟨k, hk⟩ := Int.eq_ofNat_of_zero_le b0
  refine ⟨.rt (natD k), n + 1, ?_, by omega, _, rfl, k, rfl, by omega⟩
  have e : ev (.op .mod (.op .fdiv (.call F__law_mix [(.var 0), (.tlen 1)]) (.lit (.int 8))) (.var 2)) [.dat (.scr ns), .dat .town, .dat (.int m)] (n + 1) = .ok (natD k) (n + 1) := by
    simp only [ev_op, ev_call, evs_cons, ev_var, ev_tlen, evs_nil, ev_lit]
    simp only [getD_zero, getD_succ, lft_some, ret_bnd]
    simp only [bnd, tlenM, Ss.ret, List.length_cons, List.length_nil, a, if_true]
    have hc' := congrFun hc (n + 1)
    simp only [Ss.ret] at hc'
    simp only [show (0 + 1 + 1 : Nat) = 2 by rfl, if_true, hc', m1, m2, lft_some, Ss.ret, hk]
    rfl
  have hn' : n < sizeLine := by simp; omega
  simp only [I__law_draw, List.map_cons, List.map_nil, List.length_cons, List.length_nil, List.replicate, List.append_nil]
  rw [exs_cons]
  have e2 : ex (.tapp 1) [.dat (.scr ns), .dat .town, .dat (.int m)] n = .ok (.nx [.dat (.scr ns), .dat .town, .dat (.int m)]) (n + 1) := by
    simp only [ex, getD_zero, getD_succ, if_pos hn']
  simp only [Nat.reduceAdd, Nat.sub_self, List.replicate, List.append_nil] at *
  simp only [sq, bnd, e2, exs_one, ex_ret, stp, e]
  rfl
theorem pick_ok (ns : List Int) {xs : List D} (h : xs ≠ []) : Hs (F__law_pick.sem [.scr ns, .town, .lst xs]) 1 fun d => d ∈ xs := by
  refine Hs.runF ?_
  have a : F__law_draw.ar = 3 := rfl
  have hp : 0 < xs.length := List.length_pos_iff.mpr h
  simp [I__law_pick, a]
  refine Hs.stp (c1 := 1) (c2 := 0) (draw_ok ns hp) fun d hd => ?_
  obtain ⟨k, rfl, hk⟩ := hd
  simp [natD, Ss.atI_nat, List.getElem?_eq_getElem hk]
  exact Hs.ret ⟨_, rfl, List.getElem_mem hk⟩
theorem names_ok (ns : List Int) : ∀ w ∈ ([D.str "a", D.str "ab", D.str "abc", D.str "b", D.str "ba", D.str "count", D.str "band"] : List D), ∃ x, w = .str x ∧ isW x = true := fun w hw => by
  simp only [List.mem_cons, List.not_mem_nil, or_false] at hw
  rcases hw with rfl | rfl | rfl | rfl | rfl | rfl | rfl <;> exact ⟨_, rfl, by decide +kernel⟩
theorem txts_sgn (cs : List Nat) : txts (cs.map sgn) = some (cs.map fun c => (⟨#[c]⟩ : Str)) := by
  induction cs with
  | nil => rfl
  | cons c cs ih => simp only [List.map_cons, sgn, txts] at ih ⊢; rw [ih]; rfl
theorem join_sgn : ∀ cs : List Nat, Str.join Str.empty (cs.map fun c => (⟨#[c]⟩ : Str)) = ⟨cs.toArray⟩
  | [] => rfl
  | [c] => rfl
  | c :: d :: cs => by
    have e := join_sgn (d :: cs)
    simp only [List.map_cons] at e ⊢
    simp only [Str.join]
    rw [e]
    show (⟨(#[c] ++ #[]) ++ (d :: cs).toArray⟩ : Str) = ⟨(c :: d :: cs).toArray⟩
    simp
theorem joinS_sgn {cs : List Nat} (h : cs.length ≤ 8) : joinS (Str.ofString "") (cs.map sgn) = some (.str ⟨cs.toArray⟩) := by
  have e0 : Str.ofString "" = Str.empty := by decide +kernel
  have l : ((cs.map fun c => (⟨#[c]⟩ : Str)).map (·.length)).sum = cs.length := by
    clear h
    induction cs with
    | nil => rfl
    | cons c cs ih => simp only [List.map_cons, List.sum_cons, ih, List.length_cons]; show 1 + _ = _; omega
  have z : Str.empty.length = 0 := rfl
  unfold joinS
  rw [txts_sgn, e0]
  simp only [Option.bind_some, l, z, Nat.mul_zero, Nat.add_zero]
  rw [if_pos (by omega)]
  have j : Txt.join Str.empty (cs.map fun c => (⟨#[c]⟩ : Str)) = ⟨cs.toArray⟩ := by
    unfold Txt.join
    rw [StrLaws.glued_eq_join, join_sgn]
  rw [j]
theorem isW_mk {cs : List Nat} (h1 : 1 ≤ cs.length) (h2 : cs.length ≤ 8) (h : ∀ c ∈ cs, c ∈ small.cps.toList) : isW ⟨cs.toArray⟩ = true := by
  have l : (⟨cs.toArray⟩ : Str).length = cs.length := by simp [Str.length]
  simp only [isW, l, Bool.and_eq_true, decide_eq_true_eq]
  exact ⟨⟨h1, h2⟩, List.all_eq_true.mpr fun c hc => decide_eq_true (h c hc)⟩
theorem word_ok (ns : List Int) : Hs (F__law_word.sem [.scr ns, .town]) 10 fun d => ∃ x, d = .str x ∧ isW x = true := by
  refine Hs.runF ?_
  have a : F__law_draw.ar = 3 := rfl
  have a2 : F__law_pick.ar = 3 := rfl
  simp [I__law_word, a, a2, truM_bnd]
  refine Hs.stp (c1 := 1) (c2 := 9) (draw_ok ns (m := 8) (by decide)) fun d hd => ?_
  obtain ⟨k, rfl, hk⟩ := hd
  simp [natD]
  split
  · refine Hs.stp (c1 := 1) (c2 := 0) (pick_ok ns (by simp)) fun d hd => Hs.ret ⟨d, rfl, names_ok ns d hd⟩
  · refine Hs.stp (c1 := 1) (c2 := 8) (draw_ok ns (m := 8) (by decide)) fun d hd => ?_
    obtain ⟨j, rfl, hj⟩ := hd
    have r := rngD_nat (1 + j) (by omega)
    have e : (((1 + j : Nat)) : Int) = 1 + (j : Int) := by omega
    rw [e] at r
    simp [natD, r]
    refine Hs.stp (c1 := 8) (c2 := 0) (P := fun ds => All2 (fun _ d => ∃ c, d = sgn c ∧ c ∈ small.cps.toList) (List.range (1 + j)) ds) ?_ fun ds hd => ?_
    · refine Hs.lcs (c1 := 1) (fun i _ => ?_) (by simp; omega)
      simp [cb, a]
      refine Hs.bnd (c1 := 1) (c2 := 0) (draw_ok ns (m := 26) (by decide)) fun d hd => ?_
      obtain ⟨q, rfl, hq⟩ := hd
      have l : small.cps.toList.length = 26 := by decide +kernel
      have g : idxD (.str small) (natD q) = some (sgn (small.cps.toList[q]'(by omega))) := by
        have ls : small.length ≤ sizeLine := by decide +kernel
        simp only [natD, idxD, if_pos ls, Ss.atI_nat, List.getElem?_eq_getElem (show q < small.cps.toList.length by omega), Option.map_some]
      unfold small at g
      simp [g]
      exact Hs.ret ⟨_, rfl, _, rfl, by unfold small; exact Array.getElem_mem _⟩
    · obtain ⟨cs, rfl, h2⟩ := hd.back
      have l := h2.len
      rw [List.length_range] at l
      have hj := joinS_sgn (cs := cs) (by omega)
      simp [joinM, hj]
      refine Hs.ret ⟨_, rfl, _, rfl, isW_mk (by omega) (by omega) fun c hc => ?_⟩
      obtain ⟨_, _, q⟩ := h2.get hc
      exact q
theorem value_ok (ns : List Int) (c : Col) : Hs (F__law_value.sem [.scr ns, .town, .str (kindS c.wd)]) 11 fun d => ∃ v : Val, d = v.d ∧ fits c v = true := by
  refine Hs.runF ?_
  have a : F__law_draw.ar = 3 := rfl
  have a2 : F__law_pick.ar = 3 := rfl
  have a3 : F__law_word.ar = 2 := rfl
  simp [I__law_value, a, a2, a3, kw_eq]
  refine Hs.stp (c1 := 1) (c2 := 10) (draw_ok ns (m := 6) (by decide)) fun d hd => ?_
  obtain ⟨k, rfl, hk⟩ := hd
  have z : Cm.f .eq (natD k) (.int 0) = some (decide (k = 0)) := by
    have z := cm_eq (nat_okE k) (nat_okE 0)
    rw [nat_eqv] at z
    exact z
  simp [z]
  split
  · exact Hs.ret ⟨_, rfl, .non, rfl, rfl⟩
  · split
    · rename_i hw
      refine Hs.stp (c1 := 10) (c2 := 0) (word_ok ns) fun d hd => ?_
      obtain ⟨x, rfl, hx⟩ := hd
      exact Hs.ret ⟨_, rfl, .str x, rfl, by simp only [fits, hw, hx, Bool.and_self]⟩
    · rename_i hw
      have hw : c.wd = false := by simpa using hw
      refine Hs.stp (c1 := 1) (c2 := 1) (draw_ok ns (m := 100) (by decide)) fun d hd => ?_
      obtain ⟨j, rfl, hj⟩ := hd
      simp [natD]
      refine Hs.stp (c1 := 1) (c2 := 0) (pick_ok ns (by simp)) fun d hd => Hs.ret ⟨d, rfl, ?_⟩
      simp only [List.mem_cons, List.not_mem_nil, or_false] at hd
      have f : ∀ i : Int, -1000000 ≤ i → i ≤ 1000000 → fits c (.int i) = true := fun i h1 h2 => by
        simp only [fits, hw, decide_eq_true h1, decide_eq_true h2]; rfl
      rcases hd with rfl | rfl | rfl | rfl | rfl | rfl | rfl | rfl | rfl | rfl
      all_goals exact ⟨.int _, rfl, f _ (by omega) (by omega)⟩
theorem row_ok (ns : List Int) {cs : List Col} (h : cs.length ≤ 6) : Hs (F__law_row.sem [.scr ns, .town, colsD cs]) 66 fun d => ∃ r, d = rowD r ∧ RowOk cs r := by
  refine Hs.runF ?_
  have a : F__law_value.ar = 3 := rfl
  simp [I__law_row, colsD]
  refine Hs.stp (c1 := 66) (c2 := 0) (P := fun ds => All2 (fun c d => ∃ v : Val, d = v.d ∧ fits c v = true) cs ds) ?_ fun ds hd => ?_
  · refine Hs.lcs (c1 := 11) (fun c hc => ?_) (by omega)
    simp [cb, Col.d, a]
    refine Hs.bnd (c1 := 11) (c2 := 0) (value_ok ns c) fun d hd => Hs.ret ⟨d, rfl, hd⟩
  · obtain ⟨r, rfl, h2⟩ := hd.back
    exact Hs.ret ⟨_, rfl, r, rfl, h2⟩
/-! columns -/
theorem cols_perm {cs ds : List Col} (h : ColsOk cs) (p : ds.Perm cs) : ColsOk ds :=
  ⟨by rw [p.length_eq]; exact h.one, by rw [p.length_eq]; exact h.six, fun c hc => h.nms c (p.mem_iff.mp hc), ((p.map Col.nm).nodup_iff).mpr h.nd⟩
theorem rot_perm {α : Type} (xs : List α) (k : Nat) : (xs.drop k ++ xs.take k).Perm xs := by
  have h := List.perm_append_comm (l₁ := xs.drop k) (l₂ := xs.take k)
  rwa [List.take_append_drop] at h
theorem columns_ok (ns : List Int) : Hs (F__law_columns.sem [.scr ns, .town]) 7 fun d => ∃ cs, d = colsD cs ∧ ColsOk cs ∧ 2 ≤ cs.length := by
  refine Hs.runF ?_
  have a : F__law_draw.ar = 3 := rfl
  have a2 : F__law_pick.ar = 3 := rfl
  simp [I__law_columns, a, a2]
  refine Hs.stp (c1 := 1) (c2 := 6) (draw_ok ns (m := 6) (by decide)) fun d hd => ?_
  obtain ⟨t, rfl, ht⟩ := hd
  let nm0 : List Str := ["w", "n", "word", "size", "of", "abcdefgh"]
  let nm : List Str := nm0.drop t ++ nm0.take t
  have pn : nm.Perm nm0 := rot_perm nm0 t
  have hn : Op.f .add (.lst (cutL (nm0.map D.str) (some (t : Int)) none)) (.lst (cutL (nm0.map D.str) none (some (t : Int)))) = some (.lst (nm.map D.str)) := by
    rw [cutL_drop, cutL_take, op_addL (by simp [nm0]; omega)]
    simp [nm, List.map_drop, List.map_take]
  have e0 : nm0.map D.str = [D.str "w", D.str "n", D.str "word", D.str "size", D.str "of", D.str "abcdefgh"] := rfl
  rw [e0] at hn
  simp [natD, hn]
  have r4 : rngD [.int 4] = some ((List.range 4).map natD) := rngD_nat 4 (by decide)
  simp [r4]
  refine Hs.stp (c1 := 4) (c2 := 2) (P := fun ds => All2 (fun _ d => ∃ b, d = D.str (kindS b) ∧ True) (List.range 4) ds) ?_ fun ds hd => ?_
  · refine Hs.lcs (c1 := 1) (fun i _ => ?_) (by simp)
    simp [cb, a2]
    refine Hs.bnd (c1 := 1) (c2 := 0) (pick_ok ns (by simp)) fun d hd => Hs.ret ⟨d, rfl, ?_⟩
    simp only [List.mem_cons, List.not_mem_nil, or_false] at hd
    rcases hd with rfl | rfl
    · exact .inr rfl
    · exact .inl rfl
  obtain ⟨bs, rfl, h2⟩ := All2.back (em := fun b => D.str (kindS b)) (P := fun _ _ => True) hd
  have lb : bs.length = 4 := by rw [h2.len]; rfl
  let kb : List Bool := true :: false :: bs
  have lk : kb.length = 6 := by simp [kb, lb]
  have hk : Op.f .add (.lst [D.str "word", D.str "number"]) (.lst (bs.map fun b => D.str (kindS b))) = some (.lst (kb.map fun b => D.str (kindS b))) := by
    rw [op_addL (by simp; omega)]; rfl
  simp [hk]
  refine Hs.stp (c1 := 1) (c2 := 1) (draw_ok ns (m := 5) (by decide)) fun d hd => ?_
  obtain ⟨q, rfl, hq⟩ := hd
  have r5 := rngD_nat (2 + q) (by omega)
  have e5 : (((2 + q : Nat)) : Int) = 2 + (q : Int) := by omega
  rw [e5] at r5
  simp [natD, r5]
  let cs0 : List Col := (List.range (2 + q)).map fun k => ⟨nm.getD k Str.empty, kb.getD k false⟩
  have ln : nm.length = 6 := by rw [pn.length_eq]; rfl
  have lc : lcs (cb (.tup [(.idx (.var 2) (.var 6)), (.idx (.var 4) (.var 6))]) (.one 6) [] [6] [.dat (.scr ns), .dat .town, .dat (.lst (nm.map D.str)), .dat (.int t), .dat (.lst (kb.map fun b => D.str (kindS b))), .emp, .emp]) ((List.range (2 + q)).map fun (k : Nat) => D.int k) = ret ((List.range (2 + q)).map fun k => Col.d ⟨nm.getD k Str.empty, kb.getD k false⟩) := by
    refine lcs_map fun k hk => ?_
    have hk := List.mem_range.mp hk
    have g1 : (nm.map D.str)[k]? = some (.str (nm.getD k Str.empty)) := by
      simp [List.getElem?_eq_getElem (show k < nm.length by omega), List.getD_eq_getElem?_getD]
    have g2 : (kb.map fun b => D.str (kindS b))[k]? = some (.str (kindS (kb.getD k false))) := by
      simp [List.getElem?_eq_getElem (show k < kb.length by omega), List.getD_eq_getElem?_getD]
    simp only [cb]
    simp [Ss.atI_nat, g1, g2, Col.d]
  have lc2 : (List.range (2 + q)).map (fun k => Col.d ⟨nm.getD k Str.empty, kb.getD k false⟩) = cs0.map Col.d := by
    rw [List.map_map]; rfl
  rw [lc2] at lc
  have l0 : cs0.length = 2 + q := by simp [cs0]
  have nms : cs0.map Col.nm = nm.take (2 + q) := by
    apply List.ext_getElem?
    intro i
    by_cases hi : i < 2 + q
    · simp [cs0, List.getElem?_range hi, List.getElem?_take_of_lt hi, List.getElem?_eq_getElem (show i < nm.length by omega)]
    · simp [cs0, hi]
      omega
  have nm0w : ∀ x ∈ nm0, isW x = true := by decide +kernel
  have nm0n : nm0.Nodup := by decide +kernel
  have ok0 : ColsOk cs0 := by
    refine ⟨by omega, by omega, fun c hc => ?_, ?_⟩
    · have hm : c.nm ∈ cs0.map Col.nm := List.mem_map.mpr ⟨c, hc, rfl⟩
      rw [nms] at hm
      exact nm0w _ (pn.mem_iff.mp (List.mem_of_mem_take hm))
    · rw [nms]
      exact ((pn.nodup_iff).mpr nm0n).sublist (List.take_sublist _ _)
  simp [lc]
  refine Hs.stp (c1 := 1) (c2 := 0) (draw_ok ns (m := cs0.length) (by omega)) fun d hd => ?_
  obtain ⟨u, rfl, hu⟩ := hd
  have hc : Op.f .add (.lst (cutL (cs0.map Col.d) (some (u : Int)) none)) (.lst (cutL (cs0.map Col.d) none (some (u : Int)))) = some (.lst ((cs0.drop u ++ cs0.take u).map Col.d)) := by
    rw [cutL_drop, cutL_take, op_addL (by simp; omega)]
    simp [List.map_drop, List.map_take]
  simp [natD, hc]
  refine Hs.ret ⟨_, rfl, cs0.drop u ++ cs0.take u, ?_, cols_perm ok0 (rot_perm cs0 u), ?_⟩
  · simp [colsD]
  · rw [(rot_perm cs0 u).length_eq]; omega
theorem table_ok (ns : List Int) {m : Nat} (hm : m ≤ 24) : Hs (F__law_table.sem [.scr ns, .town, .int m]) 1592 fun d => ∃ cs rs, d = tabD cs rs ∧ ColsOk cs ∧ (∀ r ∈ rs, RowOk cs r) ∧ rs.length ≤ m := by
  refine Hs.runF ?_
  have a : F__law_draw.ar = 3 := rfl
  have a2 : F__law_columns.ar = 2 := rfl
  have a3 : F__law_row.ar = 3 := rfl
  simp [I__law_table, a, a2]
  refine Hs.stp (c1 := 7) (c2 := 1585) (columns_ok ns) fun d hd => ?_
  obtain ⟨cs, rfl, hcs, _⟩ := hd
  have e : ((m : Int) + 1) = ((m + 1 : Nat) : Int) := by omega
  rw [e]
  refine Hs.stp (c1 := 1) (c2 := 1584) (draw_ok ns (m := m + 1) (by omega)) fun d hd => ?_
  obtain ⟨k, rfl, hk⟩ := hd
  have r := rngD_nat k (by omega)
  simp [natD, r]
  refine Hs.stp (c1 := 1584) (c2 := 0) (P := fun ds => All2 (fun _ d => ∃ r, d = rowD r ∧ RowOk cs r) (List.range k) ds) ?_ fun ds hd => ?_
  · refine Hs.lcs (c1 := 66) (fun i _ => ?_) (by simp; omega)
    simp [cb, a3]
    exact Hs.bnd (c1 := 66) (c2 := 0) (row_ok ns hcs.six) fun d hd => Hs.ret ⟨d, rfl, hd⟩
  · obtain ⟨rs, rfl, h2⟩ := hd.back
    have l := h2.len
    rw [List.length_range] at l
    refine Hs.ret ⟨_, rfl, cs, rs, rfl, hcs, fun r hr => ?_, by omega⟩
    obtain ⟨_, _, q⟩ := h2.get hr
    exact q
theorem two_ok (ns : List Int) {m : Nat} (hm : m ≤ 12) : Hs (F__law_two.sem [.scr ns, .town, .int m]) 2000 fun d => ∃ cs rs ss, d = .tup [tabD cs rs, tabD cs ss] ∧ ColsOk cs ∧ (∀ r ∈ rs, RowOk cs r) ∧ (∀ r ∈ ss, RowOk cs r) ∧ rs.length ≤ m ∧ ss.length ≤ m + 5 := by
  refine Hs.runF ?_
  have a : F__law_draw.ar = 3 := rfl
  have a2 : F__law_table.ar = 3 := rfl
  have a3 : F__law_row.ar = 3 := rfl
  simp [I__law_two, a, a2]
  refine Hs.stp (c1 := 1592) (c2 := 400) (table_ok ns (m := m) (by omega)) fun d hd => ?_
  obtain ⟨cs, rs, rfl, hcs, hrs, hl⟩ := hd
  simp only [tabD, rowsD]
  simp
  have e : ((rs.length : Int) + 1) = ((rs.length + 1 : Nat) : Int) := by omega
  rw [e]
  refine Hs.stp (c1 := 1) (c2 := 399) (draw_ok ns (m := rs.length + 1) (by omega)) fun d hd => ?_
  obtain ⟨t, rfl, ht⟩ := hd
  simp [natD]
  refine Hs.stp (c1 := 1) (c2 := 398) (draw_ok ns (m := 3) (by decide)) fun d hd => ?_
  obtain ⟨u, rfl, hu⟩ := hd
  have hc : Op.f .add (.lst (cutL (rs.map rowD) (some (t : Int)) none)) (.lst (cutL (rs.map rowD) none (some (u : Int)))) = some (.lst ((rs.drop t ++ rs.take u).map rowD)) := by
    rw [cutL_drop, cutL_take, op_addL (by simp; omega)]
    simp [List.map_drop, List.map_take]
  simp [natD, hc]
  refine Hs.stp (c1 := 1) (c2 := 397) (draw_ok ns (m := 4) (by decide)) fun d hd => ?_
  obtain ⟨k, rfl, hk⟩ := hd
  have r := rngD_nat k (by omega)
  simp [natD, r]
  refine Hs.stp (c1 := 198) (c2 := 0) (P := fun ds => All2 (fun _ d => ∃ r, d = rowD r ∧ RowOk cs r) (List.range k) ds) ?_ fun ds hd => ?_
  · refine Hs.lcs (c1 := 66) (fun i _ => ?_) (by simp; omega)
    simp [cb, a3]
    exact Hs.bnd (c1 := 66) (c2 := 0) (row_ok ns hcs.six) fun d hd => Hs.ret ⟨d, rfl, hd⟩
  · obtain ⟨ms, rfl, h2⟩ := hd.back
    have l := h2.len
    rw [List.length_range] at l
    have had : Op.f .add (.lst ((rs.drop t ++ rs.take u).map rowD)) (.lst (ms.map rowD)) = some (.lst ((rs.drop t ++ rs.take u ++ ms).map rowD)) := by
      rw [op_addL (by simp; omega)]; simp
    simp at had
    simp [had]
    refine Hs.ret ⟨_, rfl, cs, rs, rs.drop t ++ rs.take u ++ ms, by simp [tabD, rowsD], hcs, hrs, fun r hr => ?_, hl, by simp; omega⟩
    rcases List.mem_append.mp hr with z | z
    · rcases List.mem_append.mp z with z | z
      · exact hrs r (List.mem_of_mem_drop z)
      · exact hrs r (List.mem_of_mem_take z)
    · obtain ⟨_, _, q⟩ := h2.get z
      exact q
end K80
/-! The law. -/
namespace K80
open PySem Ss L2
theorem pair_okE (g l : List Nat) : (D.tup [natsD g, natsD l]).okE = true := by
  refine okE_of ?_ ?_
  · simp only [D.pl, D.pls, nats_pl, Bool.and_self]
  · have h1 := nats_dep g
    have h2 := nats_dep l
    simp only [D.dep, D.deps]; omega
theorem pair_eqv (g l g' l' : List Nat) : D.eqv (.tup [natsD g, natsD l]) (.tup [natsD g', natsD l']) = (decide (g = g') && decide (l = l')) := by
  simp only [D.eqv, D.eqvs, nats_eqv, Bool.and_true]
theorem pair_ne (g l : List Nat) : Cm.f .ne (.tup [natsD g, natsD l]) (.tup [natsD g, natsD l]) = some false := by
  rw [cm_ne (pair_okE _ _) (pair_okE _ _), pair_eqv]; simp
theorem pair_eq (g l : List Nat) : Cm.f .eq (.tup [natsD g, natsD l]) (.tup [natsD g, natsD l]) = some true := by
  rw [cm_eq (pair_okE _ _) (pair_okE _ _), pair_eqv]; simp
theorem two_ne (a b : Int) : Cm.f .ne (.lst [.int a, .int b]) (.lst [.int a, .int b]) = some false := by
  have h : (D.lst [.int a, .int b]).okE = true := okE_of (by simp [D.pl, D.pls]) (by simp [D.dep, D.deps])
  rw [cm_ne h h]; simp [D.eqv, D.eqvs]
/-- the rows' kinds, each once -/
def kStep (ks : List Row) (r : Row) : List Row := ks ++ if decide (r ∈ ks) then [] else [r]
theorem kStep_mem {ks : List Row} {r x : Row} (h : x ∈ kStep ks r) : x ∈ ks ∨ x = r := by
  unfold kStep at h
  rcases List.mem_append.mp h with z | z
  · exact .inl z
  · split at z
    · cases z
    · exact .inr (by simpa using z)
theorem at_len (ss : List Row) (x : Row) (l : List Nat) : (l.filter fun k => decide (ss[k]? = some x)).length = at_ ss x l := by
  rw [at_, List.countP_eq_length_filter]
theorem max_gt (a b : Nat) : (if ((a : Int) - (b : Int)) > 0 then ((a : Int) - (b : Int)) else 0) = ((a - b : Nat) : Int) := by
  split <;> omega
theorem max_lt (a b : Nat) : (if (0 - ((a : Int) - (b : Int))) > 0 then (0 - ((a : Int) - (b : Int))) else 0) = ((b - a : Nat) : Int) := by
  split <;> omega
def I_rest : List Stm := I_law.drop 2
theorem rest_ok (a0 a1 : D) {cs : List Col} {rs ss : List Row} (h : ColsOk cs) (hr : ∀ r ∈ rs, RowOk cs r) (hl : rs.length ≤ 24) (hr' : ∀ r ∈ ss, RowOk cs r) (hl' : ss.length ≤ 24) :
    exs I_rest [.dat a0, .dat a1, .emp, .emp, .emp, .emp, .dat (tabD cs rs), .dat (tabD cs ss), .emp, .emp, .emp, .emp, .emp] = ret (.rt (.bl true)) := by
  have wr : ∀ r ∈ rs, rowW r = true := fun r h => (hr r h).wf
  have ws : ∀ r ∈ ss, rowW r = true := fun r h => (hr' r h).wf
  have ac : F_changes.ar = 2 := rfl
  have ad : F__law_due.ar = 2 := rfl
  obtain ⟨e1, I1⟩ := changes_ok h hr hl hr' hl'
  obtain ⟨e2, _⟩ := changes_ok h hr hl hr hl
  have e3 := due_ok wr hl ws hl'
  have hst : ∀ r ∈ staysL rs ss, RowOk cs r := fun r q => (stays_mem q).elim (hr r) (hr' r)
  obtain ⟨e4, _⟩ := changes_ok h hst (by rw [stays_len]; exact hl') hr' hl'
  obtain ⟨e5, _⟩ := changes_ok (rs := []) h (fun _ z => by cases z) (by simp) hr' hl'
  rw [chg_self] at e2
  rw [chg_stays] at e4
  rw [chg_nil] at e5
  have n1 := pair_ne (chg rs ss).2 (chg rs ss).1
  have n2 := pair_ne [] []
  have n3 := pair_eq [] (List.range ss.length)
  -- the kinds
  have k1 := forB_ix (tg := .one 4) (body := [.set (.one 3) (.op .add (.var 3) (.op .mul (.lst [(.var 4)]) (.bi .int [(.cmp .nin (.var 4) (.var 3))])))]) (em := rowD)
    (en := fun s : List Row × Sl => [.dat a0, .dat a1, .dat (.tup [natsD (chg rs ss).2, natsD (chg rs ss).1]), .dat (.lst (s.1.map rowD)), s.2, .emp, .dat (tabD cs rs), .dat (tabD cs ss), .dat (natsD (chg rs ss).2), .dat (natsD (chg rs ss).1), .emp, .emp, .emp]) (st := fun s r => (kStep s.1 r, .dat (rowD r)))
    (I := fun n s => s.1.length ≤ n ∧ ∀ r ∈ s.1, rowW r = true) (xs := rs ++ ss) (n := 0) (s := ([], .emp)) ⟨Nat.le_refl _, fun _ z => by cases z⟩ (fun i s r hx I => by
      have hi : i < (rs ++ ss).length := (List.getElem?_eq_some_iff.mp hx).1
      rw [List.length_append] at hi
      have hm : rowW r = true := by
        rcases List.mem_append.mp (List.mem_of_getElem? hx) with z | z
        · exact wr r z
        · exact ws r z
      have hn := in_rows hm I.2
      unfold rowsD at hn
      have lI := I.1
      have hb := op_mulB [rowD r] (!decide (r ∈ s.1)) (by simp)
      have lk : (kStep s.1 r).length ≤ s.1.length + 1 := by
        unfold kStep; rw [List.length_append]; split <;> simp
      refine ⟨⟨by show (kStep s.1 r).length ≤ _; omega, fun x hx => ?_⟩, ?_⟩
      · rcases kStep_mem hx with z | rfl
        · exact I.2 x z
        · exact hm
      · have ha : Op.f .add (.lst (s.1.map rowD)) (.lst (if (!decide (r ∈ s.1)) = true then [rowD r] else [])) = some (.lst ((kStep s.1 r).map rowD)) := by
          rw [op_addL (by simp; split <;> simp <;> omega)]
          unfold kStep
          by_cases q : r ∈ s.1 <;> simp [q]
        simp only [exs_one, ex_set, ev_op, ev_var, ev_lst, ev_bi, ev_cmp, evs_cons, evs_nil]
        simp only [put_one, lft_some, ret_bnd, List.set_cons_succ, List.set_cons_zero, getD_zero, getD_succ, cm_nin, hn, Option.map_some, List.length_cons, List.length_nil]
        simp only [Ss.sizeLine_eq, Nat.reduceAdd, Nat.reduceLeDiff, if_true, ret_bnd, bi_intB, lft_some, hb, ha, stp_ret, put_one, List.set_cons_succ, List.set_cons_zero])
  obtain ⟨k1, k2⟩ := k1
  simp only at k1 k2
  generalize hks : (rs ++ ss).foldl (fun s r => (kStep s.1 r, Sl.dat (rowD r))) (([] : List Row), Sl.emp) = fin at k1 k2
  obtain ⟨ks, s4⟩ := fin
  simp only at k1 k2
  -- each kind
  have r1 := rngD_nat rs.length (by omega)
  have r2 := rngD_nat ss.length (by omega)
  have e0 : (fun (k : Nat) => D.int k) = natD := rfl
  rw [e0] at r1 r2
  have cf : ∀ (b : Nat) (ts : List Row) (ρ : Ss.Env) (x : Row) (l : List Nat), (∀ k ∈ l, k < ts.length) → (∀ r ∈ ts, rowW r = true) → rowW x = true →
      (∀ d, getD (ρ.set 12 (.dat d)) b = some (tabD cs ts)) → (∀ d, getD (ρ.set 12 (.dat d)) 4 = some (rowD x)) → (∀ d, getD (ρ.set 12 (.dat d)) 12 = some d) →
      lcs (cb (.var 12) (.one 12) [(.cmp .eq (.idx (.idx (.var b) (.lit (.int 1))) (.var 12)) (.var 4))] [12] ρ) (l.map natD) = ret ((l.filter fun k => decide (ts[k]? = some x)).map natD) := by
    intro b ts ρ x l hlt hw hx g1 g2 g3
    refine lcs_filter fun k hk => ?_
    have hk := hlt k hk
    have gk : (ts.map rowD)[k]? = some (rowD ts[k]) := by simp [List.getElem?_eq_getElem hk]
    have z := cmp_rows (hw _ (List.getElem_mem hk)) hx
    have e : decide (ts[k]? = some x) = decide (ts[k] = x) := by simp [List.getElem?_eq_getElem hk]
    rw [e]
    simp only [cb, put_one, wip_cons, wip_nil, lft_some, ret_bnd, List.set_set, evb_one, ev_cmp, ev_idx, ev_var, ev_lit, g1, g2, g3, tabD, rowsD]
    simp [natD, Ss.atI_nat, gk, z]
    split <;> rfl
  have l1 := forB_ret (tg := .one 4) (body := [.set (.one 10) (.bi .len [(.comp (.var 12) (.one 12) (.rng [(.bi .len [(.idx (.var 6) (.lit (.int 1)))])]) [(.cmp .eq (.idx (.idx (.var 6) (.lit (.int 1))) (.var 12)) (.var 4))] [12])]),
  .set (.one 10) (.op .sub (.var 10) (.bi .len [(.comp (.var 12) (.one 12) (.rng [(.bi .len [(.idx (.var 7) (.lit (.int 1)))])]) [(.cmp .eq (.idx (.idx (.var 7) (.lit (.int 1))) (.var 12)) (.var 4))] [12])])),
  .set (.one 11) (.lst [(.bi .len [(.comp (.var 12) (.one 12) (.var 8) [(.cmp .eq (.idx (.idx (.var 6) (.lit (.int 1))) (.var 12)) (.var 4))] [12])]), (.bi .len [(.comp (.var 12) (.one 12) (.var 9) [(.cmp .eq (.idx (.idx (.var 7) (.lit (.int 1))) (.var 12)) (.var 4))] [12])])]),
  .ifs (.cmp .ne (.var 11) (.lst [(.bi .max2 [(.lit (.int 0)), (.var 10)]), (.bi .max2 [(.lit (.int 0)), (.op .sub (.lit (.int 0)) (.var 10))])])) [.ret (.lit (.bl false))] []]) (em := rowD)
    (en := fun s : Sl × Sl × Sl => [.dat a0, .dat a1, .dat (.tup [natsD (chg rs ss).2, natsD (chg rs ss).1]), .dat (.lst (ks.map rowD)), s.1, .emp, .dat (tabD cs rs), .dat (tabD cs ss), .dat (natsD (chg rs ss).2), .dat (natsD (chg rs ss).1), s.2.1, s.2.2, .emp]) (st := fun s r => (.dat (rowD r), .dat (.int ((cnt rs r : Int) - (cnt ss r : Int))), .dat (.lst [.int ((cnt rs r - cnt ss r : Nat) : Int), .int ((cnt ss r - cnt rs r : Nat) : Int)])))
    (xs := ks) (s := (s4, .emp, .emp)) (fun s x hx => by
      have hw := k2.2 x hx
      have c1 := fun u v => cf 6 rs [.dat a0, .dat a1, .dat (.tup [natsD (chg rs ss).2, natsD (chg rs ss).1]), .dat (.lst (ks.map rowD)), .dat (rowD x), .emp, .dat (tabD cs rs), .dat (tabD cs ss), .dat (natsD (chg rs ss).2), .dat (natsD (chg rs ss).1), u, v, .emp] x (List.range rs.length) (fun k hk => List.mem_range.mp hk) wr hw (fun _ => rfl) (fun _ => rfl) (fun _ => rfl)
      have c2 := fun u v => cf 7 ss [.dat a0, .dat a1, .dat (.tup [natsD (chg rs ss).2, natsD (chg rs ss).1]), .dat (.lst (ks.map rowD)), .dat (rowD x), .emp, .dat (tabD cs rs), .dat (tabD cs ss), .dat (natsD (chg rs ss).2), .dat (natsD (chg rs ss).1), u, v, .emp] x (List.range ss.length) (fun k hk => List.mem_range.mp hk) ws hw (fun _ => rfl) (fun _ => rfl) (fun _ => rfl)
      have c3 := fun u v => cf 6 rs [.dat a0, .dat a1, .dat (.tup [natsD (chg rs ss).2, natsD (chg rs ss).1]), .dat (.lst (ks.map rowD)), .dat (rowD x), .emp, .dat (tabD cs rs), .dat (tabD cs ss), .dat (natsD (chg rs ss).2), .dat (natsD (chg rs ss).1), u, v, .emp] x (chg rs ss).2 (ci rs ss).gl wr hw (fun _ => rfl) (fun _ => rfl) (fun _ => rfl)
      have c4 := fun u v => cf 7 ss [.dat a0, .dat a1, .dat (.tup [natsD (chg rs ss).2, natsD (chg rs ss).1]), .dat (.lst (ks.map rowD)), .dat (rowD x), .emp, .dat (tabD cs rs), .dat (tabD cs ss), .dat (natsD (chg rs ss).2), .dat (natsD (chg rs ss).1), u, v, .emp] x (chg rs ss).1 (ci rs ss).lt ws hw (fun _ => rfl) (fun _ => rfl) (fun _ => rfl)
      have m1 := at_len rs x (List.range rs.length)
      have m2 := at_len ss x (List.range ss.length)
      have m3 := at_len rs x (chg rs ss).2
      have m4 := at_len ss x (chg rs ss).1
      rw [at_range] at m1 m2
      rw [gone_cnt] at m3
      rw [left_cnt] at m4
      have q1 := max_gt (cnt rs x) (cnt ss x)
      have q2 := max_lt (cnt rs x) (cnt ss x)
      have z := two_ne ((cnt rs x - cnt ss x : Nat) : Int) ((cnt ss x - cnt rs x : Nat) : Int)
      have i1 : idxD (tabD cs rs) (.int 1) = some (rowsD rs) := rfl
      have i2 : idxD (tabD cs ss) (.int 1) = some (rowsD ss) := rfl
      have i3 : Bi.f .len [rowsD rs] = some (.int rs.length) := by simp [rowsD]
      have i4 : Bi.f .len [rowsD ss] = some (.int ss.length) := by simp [rowsD]
      have i5 : items (natsD (chg rs ss).2) = some ((chg rs ss).2.map natD) := rfl
      have i6 : items (natsD (chg rs ss).1) = some ((chg rs ss).1.map natD) := rfl
      have m1 : (List.filter (fun k => decide (rs[k]? = some x)) (List.range rs.length)).length = cnt rs x := m1
      have m2 : (List.filter (fun k => decide (ss[k]? = some x)) (List.range ss.length)).length = cnt ss x := m2
      simp only [exs_cons2, exs_one, ex_set, ex_ifs, ex_ret, ev_op, ev_var, ev_lst, ev_bi, ev_cmp, ev_idx, ev_lit, ev_comp, evi_rng, evi_var, evs_cons, evs_nil, put_one, lft_some, ret_bnd, List.set_cons_succ, List.set_cons_zero, getD_zero, getD_succ,
        bnd_bnd, stp_bnd, i1, i2, i3, i4, i5, i6, r1, r2, c1, c2, c3, c4, len_lst, List.length_map, m1, m2, m3, m4, sq_nx, stp_ret, op_subI, bi_max2, q1, q2, List.length_cons, List.length_nil, Nat.reduceAdd, Nat.reduceLeDiff, Ss.sizeLine_eq, if_true, z, truM_bnd, truM_ret, truM_lft, Option.map_some, Option.bind_some, tru_bl, exs_nil, Bool.false_eq_true, if_false])
  simp only at l1
  generalize hfin : ks.foldl (fun (s : Sl × Sl × Sl) r => (Sl.dat (rowD r), Sl.dat (D.int ((cnt rs r : Int) - (cnt ss r : Int))), Sl.dat (D.lst [.int ((cnt rs r - cnt ss r : Nat) : Int), .int ((cnt ss r - cnt rs r : Nat) : Int)]))) (s4, .emp, .emp) = fin2 at l1
  obtain ⟨t4, t10, t11⟩ := fin2
  simp only at l1
  have i1 : idxD (tabD cs rs) (.int 1) = some (rowsD rs) := rfl
  have i2 : idxD (tabD cs ss) (.int 1) = some (rowsD ss) := rfl
  have i0 : idxD (tabD cs rs) (.int 0) = some (colsD cs) := rfl
  have i3 : Bi.f .len [rowsD rs] = some (.int rs.length) := by simp [rowsD]
  have i4 : Bi.f .len [rowsD ss] = some (.int ss.length) := by simp [rowsD]
  have i6 : items (natsD (chg rs ss).1) = some ((chg rs ss).1.map natD) := rfl
  have ad1 : Op.f .add (rowsD rs) (rowsD ss) = some (.lst ((rs ++ ss).map rowD)) := by
    unfold rowsD; rw [op_addL (by simp; omega)]; simp
  have s1 : ∀ e : Ss.Env, e = [.dat a0, .dat a1, .dat (.tup [natsD (chg rs ss).2, natsD (chg rs ss).1]), .dat (.lst (ks.map rowD)), t4, .emp, .dat (tabD cs rs), .dat (tabD cs ss), .dat (natsD (chg rs ss).2), .dat (natsD (chg rs ss).1), t10, t11, .emp] →
      lcs (cb (.idx (.idx (.var 6) (.lit (.int 1))) (.var 12)) (.one 12) [(.cmp .nin (.var 12) (.var 8))] [12] e) ((List.range rs.length).map natD) = ret (((List.range rs.length).filter fun k => !decide (k ∈ (chg rs ss).2)).map fun k => rowD (rs.getD k [])) := fun e he => by
    subst he
    refine lcs_filter fun k hk => ?_
    have hk := List.mem_range.mp hk
    have gk : (rs.map rowD)[k]? = some (rowD (rs.getD k [])) := by simp [List.getElem?_eq_getElem hk]
    have z := in_nats k (chg rs ss).2
    simp only [cb, tabD, rowsD]
    simp [z]
    simp [natD, Ss.atI_nat, gk]
    by_cases q : k ∈ (chg rs ss).2 <;> simp [q]
  have s2 : ∀ e : Ss.Env, e = [.dat a0, .dat a1, .dat (.tup [natsD (chg rs ss).2, natsD (chg rs ss).1]), .dat (.lst (ks.map rowD)), t4, .emp, .dat (tabD cs rs), .dat (tabD cs ss), .dat (natsD (chg rs ss).2), .dat (natsD (chg rs ss).1), t10, t11, .emp] →
      lcs (cb (.idx (.idx (.var 7) (.lit (.int 1))) (.var 12)) (.one 12) [] [12] e) ((chg rs ss).1.map natD) = ret ((chg rs ss).1.map fun k => rowD (ss.getD k [])) := fun e he => by
    subst he
    refine lcs_map fun k hk => ?_
    have hk := (ci rs ss).lt k hk
    have gk : (ss.map rowD)[k]? = some (rowD (ss.getD k [])) := by simp [List.getElem?_eq_getElem hk]
    simp only [cb, tabD, rowsD]
    simp [natD, Ss.atI_nat, gk]
  have s3 : Op.f .add (.lst (((List.range rs.length).filter fun k => !decide (k ∈ (chg rs ss).2)).map fun k => rowD (rs.getD k []))) (.lst ((chg rs ss).1.map fun k => rowD (ss.getD k []))) = some (rowsD (staysL rs ss)) := by
    have l := stays_len rs ss
    have e : rowsD (staysL rs ss) = .lst ((((List.range rs.length).filter fun k => !decide (k ∈ (chg rs ss).2)).map fun k => rowD (rs.getD k [])) ++ (chg rs ss).1.map fun k => rowD (ss.getD k [])) := by
      simp [rowsD, staysL]
      rfl
    rw [e, op_addL]
    unfold staysL at l
    rw [List.length_append, List.length_map, List.length_map] at l
    rw [List.length_map, List.length_map]
    simp; omega
  have s1 := s1 _ rfl
  have s2 := s2 _ rfl
  have tb : ∀ d, D.tup [colsD cs, rowsD d] = tabD cs d := fun _ => rfl
  have tn : D.tup [colsD cs, D.lst []] = tabD cs [] := rfl
  have nn : D.tup [D.lst [], D.lst []] = D.tup [natsD [], natsD []] := rfl
  have nr : D.tup [D.lst [], D.lst ((List.range ss.length).map natD)] = D.tup [natsD [], natsD (List.range ss.length)] := rfl
  simp only [List.map_nil] at k1
  simp only at e2 e4 e5
  simp only [I_rest, I_law, List.drop_succ_cons, List.drop_zero]
  simp only [exs_cons2, exs_one, ex_set, ex_ifs, ex_ret, ex_for, ev_op, ev_var, ev_lst, ev_tup, ev_bi, ev_cmp, ev_bop, evb_cons, evb_one, ev_idx, ev_lit, ev_comp, ev_call, ev_lrng, evi_rng, evi_var, evi_op, evs_cons, evs_nil, put_one, put_many, puts_cons, puts_nil, lft_some, ret_bnd, List.set_cons_succ, List.set_cons_zero, getD_zero, getD_succ,
        bnd_bnd, stp_bnd, sq_stp, List.length_cons, List.length_nil, Nat.reduceAdd, ac, ad, if_true, e1, e2, e3, n1, n2, stp_ret, sq_nx, Option.map_some, Option.bind_some, tru_bl, i0, i1, i2, Nat.reduceLeDiff, Ss.sizeLine_eq, nn, Bool.false_eq_true, if_false, truM_bnd, truM_ret, truM_lft, exs_nil, BEq.rfl, beq_self_eq_true, ad1, items_lst, k1, l1, r1, r2, i3, i4, i6, s1, s2, s3, tb, tn, e4, e5, nr, n3]
end K80
set_option maxHeartbeats 0
/-! The text is what P says; the head. Printed by gen.py. -/
namespace K80
open PySem PySem.Spec PyProof.Rows L2 Ss
abbrev prg : Program := PySem.Challenge.pw_sumsheets_k80_whole_changes
def top (i : Nat) : Stmt := prg.main.body.getD i (.Pass ⟨0, 0, 0, 0⟩)
abbrev s_is_whole : Stmt := top 11
abbrev s_is_word : Stmt := top 12
abbrev s_is_value : Stmt := top 13
abbrev s_are_columns : Stmt := top 14
abbrev s_look_columns : Stmt := top 15
abbrev s_look_row : Stmt := top 16
abbrev s_look_table : Stmt := top 17
abbrev s_look_two : Stmt := top 19
abbrev s_changes : Stmt := top 20
abbrev s__law_cell : Stmt := top 22
abbrev s__law_mix : Stmt := top 23
abbrev s__law_draw : Stmt := top 24
abbrev s__law_pick : Stmt := top 25
abbrev s__law_word : Stmt := top 26
abbrev s__law_value : Stmt := top 27
abbrev s__law_columns : Stmt := top 28
abbrev s__law_row : Stmt := top 29
abbrev s__law_table : Stmt := top 30
abbrev s__law_two : Stmt := top 31
abbrev s__law_due : Stmt := top 32
abbrev s_law : Stmt := top 33
def d_is_whole : He.DefD := ⟨("is_whole", none), "is_whole", "is_whole", defArgs s_is_whole, defBody s_is_whole, defScope s_is_whole, [], []⟩
def d_is_word : He.DefD := ⟨("is_word", none), "is_word", "is_word", defArgs s_is_word, defBody s_is_word, defScope s_is_word, [], []⟩
def d_is_value : He.DefD := ⟨("is_value", none), "is_value", "is_value", defArgs s_is_value, defBody s_is_value, defScope s_is_value, [], []⟩
def d_are_columns : He.DefD := ⟨("are_columns", none), "are_columns", "are_columns", defArgs s_are_columns, defBody s_are_columns, defScope s_are_columns, [], []⟩
def d_look_columns : He.DefD := ⟨("look_columns", none), "look_columns", "look_columns", defArgs s_look_columns, defBody s_look_columns, defScope s_look_columns, [], []⟩
def d_look_row : He.DefD := ⟨("look_row", none), "look_row", "look_row", defArgs s_look_row, defBody s_look_row, defScope s_look_row, [], []⟩
def d_look_table : He.DefD := ⟨("look_table", none), "look_table", "look_table", defArgs s_look_table, defBody s_look_table, defScope s_look_table, [], []⟩
def d_look_two : He.DefD := ⟨("look_two", none), "look_two", "look_two", defArgs s_look_two, defBody s_look_two, defScope s_look_two, [], []⟩
def d_changes : He.DefD := ⟨("changes", none), "changes", "changes", defArgs s_changes, defBody s_changes, defScope s_changes, [], []⟩
def d__law_cell : He.DefD := ⟨("_law_cell", none), "_law_cell", "_law_cell", defArgs s__law_cell, defBody s__law_cell, defScope s__law_cell, [], []⟩
def d__law_mix : He.DefD := ⟨("_law_mix", none), "_law_mix", "_law_mix", defArgs s__law_mix, defBody s__law_mix, defScope s__law_mix, [], []⟩
def d__law_draw : He.DefD := ⟨("_law_draw", none), "_law_draw", "_law_draw", defArgs s__law_draw, defBody s__law_draw, defScope s__law_draw, [], []⟩
def d__law_pick : He.DefD := ⟨("_law_pick", none), "_law_pick", "_law_pick", defArgs s__law_pick, defBody s__law_pick, defScope s__law_pick, [], []⟩
def d__law_word : He.DefD := ⟨("_law_word", none), "_law_word", "_law_word", defArgs s__law_word, defBody s__law_word, defScope s__law_word, [], []⟩
def d__law_value : He.DefD := ⟨("_law_value", none), "_law_value", "_law_value", defArgs s__law_value, defBody s__law_value, defScope s__law_value, [], []⟩
def d__law_columns : He.DefD := ⟨("_law_columns", none), "_law_columns", "_law_columns", defArgs s__law_columns, defBody s__law_columns, defScope s__law_columns, [], []⟩
def d__law_row : He.DefD := ⟨("_law_row", none), "_law_row", "_law_row", defArgs s__law_row, defBody s__law_row, defScope s__law_row, [], []⟩
def d__law_table : He.DefD := ⟨("_law_table", none), "_law_table", "_law_table", defArgs s__law_table, defBody s__law_table, defScope s__law_table, [], []⟩
def d__law_two : He.DefD := ⟨("_law_two", none), "_law_two", "_law_two", defArgs s__law_two, defBody s__law_two, defScope s__law_two, [], []⟩
def d__law_due : He.DefD := ⟨("_law_due", none), "_law_due", "_law_due", defArgs s__law_due, defBody s__law_due, defScope s__law_due, [], []⟩
def d_law : He.DefD := ⟨("law", none), "law", "law", defArgs s_law, defBody s_law, defScope s_law, [], []⟩
def fns : List He.DefD := [d_is_whole, d_is_word, d_is_value, d_are_columns, d_look_columns, d_look_row, d_look_table, d_look_two, d_changes, d__law_cell, d__law_mix, d__law_draw, d__law_pick, d__law_word, d__law_value, d__law_columns, d__law_row, d__law_table, d__law_two, d__law_due, d_law]
def fas : List He.Fa := [.glo "SheetError", .glo "BadTable", .glo "BadRow", .glo "KINDS", .glo "is_whole", .glo "is_word", .glo "is_value", .glo "are_columns", .glo "look_columns", .glo "look_row", .glo "look_table", .glo "look_two", .glo "changes", .glo "_law_cell", .glo "_law_mix", .glo "_law_draw", .glo "_law_pick", .glo "_law_word", .glo "_law_value", .glo "_law_columns", .glo "_law_row", .glo "_law_table", .glo "_law_two", .glo "_law_due", .glo "law", .str "SMALL" "abcdefghijklmnopqrstuvwxyz", .int "MOST_COLUMNS" 6, .int "MOST_ROWS" 24, .int "MOST_WORD" 8, .int "MOST_NUMBER" 1000000, .exc "SheetError", .exc "BadTable", .exc "BadRow", .free "len", .free "all", .free "max", .free "int", .free "list", .free "tuple", .free "isinstance", .free "set", .free "range", .free "bool", .free "str"]
def exs_ (K : PySem.W.Frag) : Bool := He.tupB K "KINDS" ((["word", "number"] : List Str).map He.Dv.str)
abbrev R : PySem.W.OpenRow := PySem.W.OpenLaw.row PySem.Challenge.rw_sumsheets_k80_whole_changes
abbrev hk : PySem.W.Hook := hookS 4 fas fns exs_
def ob (s : PySem.W.SharedT) : He.AlD × Bool := obsSG 4 fas fns exs_ (HandSHeadRun.getT s)
theorem ob_eq (s : PySem.W.SharedT) : ob s = hk.obs s.abs := obsSG_eq (HandSHeadRun.getT_eq s)
def loose : List Str := ["__name__", "SheetError", "BadTable", "BadRow", "SMALL", "MOST_COLUMNS", "MOST_ROWS", "MOST_WORD", "MOST_NUMBER", "KINDS", "is_whole", "is_word", "is_value", "are_columns", "look_columns", "look_row", "look_table", "look_two", "changes", "_law_cell", "_law_mix", "_law_draw", "_law_pick", "_law_word", "_law_value", "_law_columns", "_law_row", "_law_table", "_law_two", "_law_due"]
theorem run (w : World) : HandSHeadRun.RunEq R (PySem.W.view R.prog [33]) hk ob 2000 loose w := by
  intro os
  kernel_rfl
def N_is_whole : List Str := ["thing", "low", "most"]
theorem sc_is_whole : FnScope N_is_whole ["thing", "low", "most"] (defScope s_is_whole) := ⟨rfl, rfl, rfl, by decide +kernel, rfl, by decide +kernel, by decide +kernel⟩
theorem ck_is_whole : chkSs N_is_whole (defScope s_is_whole) (fun _ => true) I_is_whole (defBody s_is_whole) = true := by decide +kernel
def N_is_word : List Str := ["thing", "sign"]
theorem sc_is_word : FnScope N_is_word ["thing"] (defScope s_is_word) := ⟨rfl, rfl, rfl, by decide +kernel, rfl, by decide +kernel, by decide +kernel⟩
theorem ck_is_word : chkSs N_is_word (defScope s_is_word) (fun _ => true) I_is_word (defBody s_is_word) = true := by decide +kernel
def N_is_value : List Str := ["kind", "thing"]
theorem sc_is_value : FnScope N_is_value ["kind", "thing"] (defScope s_is_value) := ⟨rfl, rfl, rfl, by decide +kernel, rfl, by decide +kernel, by decide +kernel⟩
theorem ck_is_value : chkSs N_is_value (defScope s_is_value) (fun _ => true) I_is_value (defBody s_is_value) = true := by decide +kernel
def N_are_columns : List Str := ["thing", "one"]
theorem sc_are_columns : FnScope N_are_columns ["thing"] (defScope s_are_columns) := ⟨rfl, rfl, rfl, by decide +kernel, rfl, by decide +kernel, by decide +kernel⟩
theorem ck_are_columns : chkSs N_are_columns (defScope s_are_columns) (fun _ => true) I_are_columns (defBody s_are_columns) = true := by decide +kernel
def N_look_columns : List Str := ["columns"]
theorem sc_look_columns : FnScope N_look_columns ["columns"] (defScope s_look_columns) := ⟨rfl, rfl, rfl, by decide +kernel, rfl, by decide +kernel, by decide +kernel⟩
theorem ck_look_columns : chkSs N_look_columns (defScope s_look_columns) (fun _ => true) I_look_columns (defBody s_look_columns) = true := by decide +kernel
def N_look_row : List Str := ["columns", "row", "k"]
theorem sc_look_row : FnScope N_look_row ["columns", "row"] (defScope s_look_row) := ⟨rfl, rfl, rfl, by decide +kernel, rfl, by decide +kernel, by decide +kernel⟩
theorem ck_look_row : chkSs N_look_row (defScope s_look_row) (fun _ => true) I_look_row (defBody s_look_row) = true := by decide +kernel
def N_look_table : List Str := ["table", "row"]
theorem sc_look_table : FnScope N_look_table ["table"] (defScope s_look_table) := ⟨rfl, rfl, rfl, by decide +kernel, rfl, by decide +kernel, by decide +kernel⟩
theorem ck_look_table : chkSs N_look_table (defScope s_look_table) (fun _ => true) I_look_table (defBody s_look_table) = true := by decide +kernel
def N_look_two : List Str := ["one", "other"]
theorem sc_look_two : FnScope N_look_two ["one", "other"] (defScope s_look_two) := ⟨rfl, rfl, rfl, by decide +kernel, rfl, by decide +kernel, by decide +kernel⟩
theorem ck_look_two : chkSs N_look_two (defScope s_look_two) (fun _ => true) I_look_two (defBody s_look_two) = true := by decide +kernel
def N_changes : List Str := ["one", "other", "left", "gone", "k", "some", "j"]
theorem sc_changes : FnScope N_changes ["one", "other"] (defScope s_changes) := ⟨rfl, rfl, rfl, by decide +kernel, rfl, by decide +kernel, by decide +kernel⟩
theorem ck_changes : chkSs N_changes (defScope s_changes) (fun _ => true) I_changes (defBody s_changes) = true := by decide +kernel
def N__law_cell : List Str := ["script", "k"]
theorem sc__law_cell : FnScope N__law_cell ["script", "k"] (defScope s__law_cell) := ⟨rfl, rfl, rfl, by decide +kernel, rfl, by decide +kernel, by decide +kernel⟩
theorem ck__law_cell : chkSs N__law_cell (defScope s__law_cell) (fun _ => true) I__law_cell (defBody s__law_cell) = true := by decide +kernel
def N__law_mix : List Str := ["script", "k", "number"]
theorem sc__law_mix : FnScope N__law_mix ["script", "k"] (defScope s__law_mix) := ⟨rfl, rfl, rfl, by decide +kernel, rfl, by decide +kernel, by decide +kernel⟩
theorem ck__law_mix : chkSs N__law_mix (defScope s__law_mix) (fun _ => true) I__law_mix (defBody s__law_mix) = true := by decide +kernel
def N__law_draw : List Str := ["script", "town", "many"]
theorem sc__law_draw : FnScope N__law_draw ["script", "town", "many"] (defScope s__law_draw) := ⟨rfl, rfl, rfl, by decide +kernel, rfl, by decide +kernel, by decide +kernel⟩
theorem ck__law_draw : chkSs N__law_draw (defScope s__law_draw) (fun _ => true) I__law_draw (defBody s__law_draw) = true := by decide +kernel
def N__law_pick : List Str := ["script", "town", "some"]
theorem sc__law_pick : FnScope N__law_pick ["script", "town", "some"] (defScope s__law_pick) := ⟨rfl, rfl, rfl, by decide +kernel, rfl, by decide +kernel, by decide +kernel⟩
theorem ck__law_pick : chkSs N__law_pick (defScope s__law_pick) (fun _ => true) I__law_pick (defBody s__law_pick) = true := by decide +kernel
def N__law_word : List Str := ["script", "town", "signs", "k"]
theorem sc__law_word : FnScope N__law_word ["script", "town"] (defScope s__law_word) := ⟨rfl, rfl, rfl, by decide +kernel, rfl, by decide +kernel, by decide +kernel⟩
theorem ck__law_word : chkSs N__law_word (defScope s__law_word) (fun _ => true) I__law_word (defBody s__law_word) = true := by decide +kernel
def N__law_value : List Str := ["script", "town", "kind", "some"]
theorem sc__law_value : FnScope N__law_value ["script", "town", "kind"] (defScope s__law_value) := ⟨rfl, rfl, rfl, by decide +kernel, rfl, by decide +kernel, by decide +kernel⟩
theorem ck__law_value : chkSs N__law_value (defScope s__law_value) (fun _ => true) I__law_value (defBody s__law_value) = true := by decide +kernel
def N__law_columns : List Str := ["script", "town", "names", "turn", "kinds", "found", "k"]
theorem sc__law_columns : FnScope N__law_columns ["script", "town"] (defScope s__law_columns) := ⟨rfl, rfl, rfl, by decide +kernel, rfl, by decide +kernel, by decide +kernel⟩
theorem ck__law_columns : chkSs N__law_columns (defScope s__law_columns) (fun _ => true) I__law_columns (defBody s__law_columns) = true := by decide +kernel
def N__law_row : List Str := ["script", "town", "columns", "name", "kind"]
theorem sc__law_row : FnScope N__law_row ["script", "town", "columns"] (defScope s__law_row) := ⟨rfl, rfl, rfl, by decide +kernel, rfl, by decide +kernel, by decide +kernel⟩
theorem ck__law_row : chkSs N__law_row (defScope s__law_row) (fun _ => true) I__law_row (defBody s__law_row) = true := by decide +kernel
def N__law_table : List Str := ["script", "town", "most", "columns", "rows", "k"]
theorem sc__law_table : FnScope N__law_table ["script", "town", "most"] (defScope s__law_table) := ⟨rfl, rfl, rfl, by decide +kernel, rfl, by decide +kernel, by decide +kernel⟩
theorem ck__law_table : chkSs N__law_table (defScope s__law_table) (fun _ => true) I__law_table (defBody s__law_table) = true := by decide +kernel
def N__law_two : List Str := ["script", "town", "most", "table", "some", "more", "columns", "rows", "k"]
theorem sc__law_two : FnScope N__law_two ["script", "town", "most"] (defScope s__law_two) := ⟨rfl, rfl, rfl, by decide +kernel, rfl, by decide +kernel, by decide +kernel⟩
theorem ck__law_two : chkSs N__law_two (defScope s__law_two) (fun _ => true) I__law_two (defBody s__law_two) = true := by decide +kernel
def N__law_due : List Str := ["rows", "others", "left", "gone", "k", "same", "j"]
theorem sc__law_due : FnScope N__law_due ["rows", "others"] (defScope s__law_due) := ⟨rfl, rfl, rfl, by decide +kernel, rfl, by decide +kernel, by decide +kernel⟩
theorem ck__law_due : chkSs N__law_due (defScope s__law_due) (fun _ => true) I__law_due (defBody s__law_due) = true := by decide +kernel
def N_law : List Str := ["script", "town", "told", "kinds", "row", "stays", "one", "other", "gone", "come", "many", "alone", "k"]
theorem sc_law : FnScope N_law ["script"] (defScope s_law) := ⟨rfl, rfl, rfl, by decide +kernel, rfl, by decide +kernel, by decide +kernel⟩
theorem bd_law : defBody s_law = (defBody s_law).headD (.Pass ⟨0, 0, 0, 0⟩) :: (defBody s_law).tail := by kernel_rfl
theorem ck_law : chkSs N_law (defScope s_law) (fun _ => true) I_law (defBody s_law).tail = true := by decide +kernel
theorem t0_law : tnewB N_law (defScope s_law) 1 ((defBody s_law).headD (.Pass ⟨0, 0, 0, 0⟩)) = true := by decide +kernel
section
variable {P : Program} {w : World} {K : PySem.W.Frag} {mg : Str → Option Value} {base : Heap} {h : Heap}
structure Fs (P : Program) (w : World) (K : PySem.W.Frag) (mg : Str → Option Value) (base : Heap) : Prop where
  ok : GdOk ⟨P, w, K, mg, base⟩
  g_KINDS : GlG ⟨P, w, K, mg, base⟩ "KINDS" (.tup [.str "word", .str "number"])
  g_MOST_COLUMNS : GlG ⟨P, w, K, mg, base⟩ "MOST_COLUMNS" (.int 6)
  g_MOST_NUMBER : GlG ⟨P, w, K, mg, base⟩ "MOST_NUMBER" (.int 1000000)
  g_MOST_ROWS : GlG ⟨P, w, K, mg, base⟩ "MOST_ROWS" (.int 24)
  g_MOST_WORD : GlG ⟨P, w, K, mg, base⟩ "MOST_WORD" (.int 8)
  g_SMALL : GlG ⟨P, w, K, mg, base⟩ "SMALL" (.str "abcdefghijklmnopqrstuvwxyz")
  e_BadRow : ClG ⟨P, w, K, mg, base⟩ "BadRow"
  e_BadTable : ClG ⟨P, w, K, mg, base⟩ "BadTable"
  t_is_whole : FnTxt K mg "is_whole" "is_whole" (defArgs s_is_whole) (defBody s_is_whole) (defScope s_is_whole) ["thing", "low", "most"]
  t_is_word : FnTxt K mg "is_word" "is_word" (defArgs s_is_word) (defBody s_is_word) (defScope s_is_word) ["thing"]
  t_is_value : FnTxt K mg "is_value" "is_value" (defArgs s_is_value) (defBody s_is_value) (defScope s_is_value) ["kind", "thing"]
  t_are_columns : FnTxt K mg "are_columns" "are_columns" (defArgs s_are_columns) (defBody s_are_columns) (defScope s_are_columns) ["thing"]
  t_look_columns : FnTxt K mg "look_columns" "look_columns" (defArgs s_look_columns) (defBody s_look_columns) (defScope s_look_columns) ["columns"]
  t_look_row : FnTxt K mg "look_row" "look_row" (defArgs s_look_row) (defBody s_look_row) (defScope s_look_row) ["columns", "row"]
  t_look_table : FnTxt K mg "look_table" "look_table" (defArgs s_look_table) (defBody s_look_table) (defScope s_look_table) ["table"]
  t_look_two : FnTxt K mg "look_two" "look_two" (defArgs s_look_two) (defBody s_look_two) (defScope s_look_two) ["one", "other"]
  t_changes : FnTxt K mg "changes" "changes" (defArgs s_changes) (defBody s_changes) (defScope s_changes) ["one", "other"]
  t__law_cell : FnTxt K mg "_law_cell" "_law_cell" (defArgs s__law_cell) (defBody s__law_cell) (defScope s__law_cell) ["script", "k"]
  t__law_mix : FnTxt K mg "_law_mix" "_law_mix" (defArgs s__law_mix) (defBody s__law_mix) (defScope s__law_mix) ["script", "k"]
  t__law_draw : FnTxt K mg "_law_draw" "_law_draw" (defArgs s__law_draw) (defBody s__law_draw) (defScope s__law_draw) ["script", "town", "many"]
  t__law_pick : FnTxt K mg "_law_pick" "_law_pick" (defArgs s__law_pick) (defBody s__law_pick) (defScope s__law_pick) ["script", "town", "some"]
  t__law_word : FnTxt K mg "_law_word" "_law_word" (defArgs s__law_word) (defBody s__law_word) (defScope s__law_word) ["script", "town"]
  t__law_value : FnTxt K mg "_law_value" "_law_value" (defArgs s__law_value) (defBody s__law_value) (defScope s__law_value) ["script", "town", "kind"]
  t__law_columns : FnTxt K mg "_law_columns" "_law_columns" (defArgs s__law_columns) (defBody s__law_columns) (defScope s__law_columns) ["script", "town"]
  t__law_row : FnTxt K mg "_law_row" "_law_row" (defArgs s__law_row) (defBody s__law_row) (defScope s__law_row) ["script", "town", "columns"]
  t__law_table : FnTxt K mg "_law_table" "_law_table" (defArgs s__law_table) (defBody s__law_table) (defScope s__law_table) ["script", "town", "most"]
  t__law_two : FnTxt K mg "_law_two" "_law_two" (defArgs s__law_two) (defBody s__law_two) (defScope s__law_two) ["script", "town", "most"]
  t__law_due : FnTxt K mg "_law_due" "_law_due" (defArgs s__law_due) (defBody s__law_due) (defScope s__law_due) ["rows", "others"]
theorem fs (X : K.In h) (G : h.Ns mainGlobals mg) (c : He.SaysD fas fns K) (e : exs_ K = true) : Fs P w K mg base := by
  exact ⟨gdOk_of X G c (fun x hx => by simp only [bns, List.mem_cons, List.not_mem_nil, or_false] at hx; rcases hx with rfl | rfl | rfl | rfl | rfl | rfl | rfl | rfl | rfl | rfl | rfl <;> simp [fas]),
    gl_tupS X G c ["word", "number"] 3 rfl e (by decide),
    gl_int X G c 26 rfl,
    gl_int X G c 29 rfl,
    gl_int X G c 27 rfl,
    gl_int X G c 28 rfl,
    gl_str X G c 25 rfl,
    cl_exc X G c 32 2 rfl rfl,
    cl_exc X G c 31 1 rfl rfl,
    fnTxt_of X G c 0 4 rfl rfl (fun _ _ _ _ _ _ us hl => match us, hl with | [_, _, _], _ => rfl),
    fnTxt_of X G c 1 5 rfl rfl (fun _ _ _ _ _ _ us hl => match us, hl with | [_], _ => rfl),
    fnTxt_of X G c 2 6 rfl rfl (fun _ _ _ _ _ _ us hl => match us, hl with | [_, _], _ => rfl),
    fnTxt_of X G c 3 7 rfl rfl (fun _ _ _ _ _ _ us hl => match us, hl with | [_], _ => rfl),
    fnTxt_of X G c 4 8 rfl rfl (fun _ _ _ _ _ _ us hl => match us, hl with | [_], _ => rfl),
    fnTxt_of X G c 5 9 rfl rfl (fun _ _ _ _ _ _ us hl => match us, hl with | [_, _], _ => rfl),
    fnTxt_of X G c 6 10 rfl rfl (fun _ _ _ _ _ _ us hl => match us, hl with | [_], _ => rfl),
    fnTxt_of X G c 7 11 rfl rfl (fun _ _ _ _ _ _ us hl => match us, hl with | [_, _], _ => rfl),
    fnTxt_of X G c 8 12 rfl rfl (fun _ _ _ _ _ _ us hl => match us, hl with | [_, _], _ => rfl),
    fnTxt_of X G c 9 13 rfl rfl (fun _ _ _ _ _ _ us hl => match us, hl with | [_, _], _ => rfl),
    fnTxt_of X G c 10 14 rfl rfl (fun _ _ _ _ _ _ us hl => match us, hl with | [_, _], _ => rfl),
    fnTxt_of X G c 11 15 rfl rfl (fun _ _ _ _ _ _ us hl => match us, hl with | [_, _, _], _ => rfl),
    fnTxt_of X G c 12 16 rfl rfl (fun _ _ _ _ _ _ us hl => match us, hl with | [_, _, _], _ => rfl),
    fnTxt_of X G c 13 17 rfl rfl (fun _ _ _ _ _ _ us hl => match us, hl with | [_, _], _ => rfl),
    fnTxt_of X G c 14 18 rfl rfl (fun _ _ _ _ _ _ us hl => match us, hl with | [_, _, _], _ => rfl),
    fnTxt_of X G c 15 19 rfl rfl (fun _ _ _ _ _ _ us hl => match us, hl with | [_, _], _ => rfl),
    fnTxt_of X G c 16 20 rfl rfl (fun _ _ _ _ _ _ us hl => match us, hl with | [_, _, _], _ => rfl),
    fnTxt_of X G c 17 21 rfl rfl (fun _ _ _ _ _ _ us hl => match us, hl with | [_, _, _], _ => rfl),
    fnTxt_of X G c 18 22 rfl rfl (fun _ _ _ _ _ _ us hl => match us, hl with | [_, _, _], _ => rfl),
    fnTxt_of X G c 19 23 rfl rfl (fun _ _ _ _ _ _ us hl => match us, hl with | [_, _], _ => rfl)⟩
theorem k_is_whole (S : Fs P w K mg base) : okss ⟨P, w, K, mg, base⟩ 0 I_is_whole := by
  simp only [I_is_whole, okss, Stm.ok, IR.ok, oks, oko, and_true, true_and]
theorem h_is_whole (S : Fs P w K mg base) : FnG ⟨P, w, K, mg, base⟩ 1 F_is_whole := fnG_of S.t_is_whole sc_is_whole rfl rfl S.ok (k_is_whole S) ck_is_whole
theorem k_is_word (S : Fs P w K mg base) : okss ⟨P, w, K, mg, base⟩ 0 I_is_word := by
  have g_MOST_WORD := S.g_MOST_WORD
  have g_SMALL := S.g_SMALL
  simp only [I_is_word, okss, Stm.ok, IR.ok, oks, oko, and_true, true_and, g_MOST_WORD, g_SMALL]
theorem h_is_word (S : Fs P w K mg base) : FnG ⟨P, w, K, mg, base⟩ 1 F_is_word := fnG_of S.t_is_word sc_is_word rfl rfl S.ok (k_is_word S) ck_is_word
theorem k_is_value (S : Fs P w K mg base) : okss ⟨P, w, K, mg, base⟩ 1 I_is_value := by
  have c_is_word := (h_is_word S).mono (show 1 ≤ 1 by decide)
  have c_is_whole := (h_is_whole S).mono (show 1 ≤ 1 by decide)
  have g_MOST_NUMBER := S.g_MOST_NUMBER
  simp only [I_is_value, okss, Stm.ok, IR.ok, oks, oko, and_true, true_and, c_is_word, c_is_whole, g_MOST_NUMBER]
theorem h_is_value (S : Fs P w K mg base) : FnG ⟨P, w, K, mg, base⟩ 2 F_is_value := fnG_of S.t_is_value sc_is_value rfl rfl S.ok (k_is_value S) ck_is_value
theorem k_are_columns (S : Fs P w K mg base) : okss ⟨P, w, K, mg, base⟩ 1 I_are_columns := by
  have c_is_word := (h_is_word S).mono (show 1 ≤ 1 by decide)
  have g_MOST_COLUMNS := S.g_MOST_COLUMNS
  have g_KINDS := S.g_KINDS
  simp only [I_are_columns, okss, Stm.ok, IR.ok, oks, oko, and_true, true_and, c_is_word, g_MOST_COLUMNS, g_KINDS]
theorem h_are_columns (S : Fs P w K mg base) : FnG ⟨P, w, K, mg, base⟩ 2 F_are_columns := fnG_of S.t_are_columns sc_are_columns rfl rfl S.ok (k_are_columns S) ck_are_columns
theorem k_look_columns (S : Fs P w K mg base) : okss ⟨P, w, K, mg, base⟩ 2 I_look_columns := by
  have c_are_columns := (h_are_columns S).mono (show 2 ≤ 2 by decide)
  have e_BadTable := S.e_BadTable
  simp only [I_look_columns, okss, Stm.ok, IR.ok, oks, oko, and_true, true_and, c_are_columns, e_BadTable]
theorem h_look_columns (S : Fs P w K mg base) : FnG ⟨P, w, K, mg, base⟩ 3 F_look_columns := fnG_of S.t_look_columns sc_look_columns rfl rfl S.ok (k_look_columns S) ck_look_columns
theorem k_look_row (S : Fs P w K mg base) : okss ⟨P, w, K, mg, base⟩ 2 I_look_row := by
  have c_is_value := (h_is_value S).mono (show 2 ≤ 2 by decide)
  have e_BadRow := S.e_BadRow
  simp only [I_look_row, okss, Stm.ok, IR.ok, oks, oko, and_true, true_and, c_is_value, e_BadRow]
theorem h_look_row (S : Fs P w K mg base) : FnG ⟨P, w, K, mg, base⟩ 3 F_look_row := fnG_of S.t_look_row sc_look_row rfl rfl S.ok (k_look_row S) ck_look_row
theorem k_look_table (S : Fs P w K mg base) : okss ⟨P, w, K, mg, base⟩ 3 I_look_table := by
  have c_look_columns := (h_look_columns S).mono (show 3 ≤ 3 by decide)
  have c_look_row := (h_look_row S).mono (show 3 ≤ 3 by decide)
  have g_MOST_ROWS := S.g_MOST_ROWS
  have e_BadTable := S.e_BadTable
  simp only [I_look_table, okss, Stm.ok, IR.ok, oks, oko, and_true, true_and, c_look_columns, c_look_row, g_MOST_ROWS, e_BadTable]
theorem h_look_table (S : Fs P w K mg base) : FnG ⟨P, w, K, mg, base⟩ 4 F_look_table := fnG_of S.t_look_table sc_look_table rfl rfl S.ok (k_look_table S) ck_look_table
theorem k_look_two (S : Fs P w K mg base) : okss ⟨P, w, K, mg, base⟩ 4 I_look_two := by
  have c_look_table := (h_look_table S).mono (show 4 ≤ 4 by decide)
  have e_BadTable := S.e_BadTable
  simp only [I_look_two, okss, Stm.ok, IR.ok, oks, oko, and_true, true_and, c_look_table, e_BadTable]
theorem h_look_two (S : Fs P w K mg base) : FnG ⟨P, w, K, mg, base⟩ 5 F_look_two := fnG_of S.t_look_two sc_look_two rfl rfl S.ok (k_look_two S) ck_look_two
theorem k_changes (S : Fs P w K mg base) : okss ⟨P, w, K, mg, base⟩ 5 I_changes := by
  have c_look_two := (h_look_two S).mono (show 5 ≤ 5 by decide)
  simp only [I_changes, okss, Stm.ok, IR.ok, oks, oko, and_true, true_and, c_look_two]
theorem h_changes (S : Fs P w K mg base) : FnG ⟨P, w, K, mg, base⟩ 6 F_changes := fnG_of S.t_changes sc_changes rfl rfl S.ok (k_changes S) ck_changes
theorem k__law_cell (S : Fs P w K mg base) : okss ⟨P, w, K, mg, base⟩ 0 I__law_cell := by
  simp only [I__law_cell, okss, Stm.ok, IR.ok, oks, oko, and_true, true_and]
theorem h__law_cell (S : Fs P w K mg base) : FnG ⟨P, w, K, mg, base⟩ 1 F__law_cell := fnG_of S.t__law_cell sc__law_cell rfl rfl S.ok (k__law_cell S) ck__law_cell
theorem k__law_mix (S : Fs P w K mg base) : okss ⟨P, w, K, mg, base⟩ 1 I__law_mix := by
  have c__law_cell := (h__law_cell S).mono (show 1 ≤ 1 by decide)
  simp only [I__law_mix, okss, Stm.ok, IR.ok, oks, oko, and_true, true_and, c__law_cell]
theorem h__law_mix (S : Fs P w K mg base) : FnG ⟨P, w, K, mg, base⟩ 2 F__law_mix := fnG_of S.t__law_mix sc__law_mix rfl rfl S.ok (k__law_mix S) ck__law_mix
theorem k__law_draw (S : Fs P w K mg base) : okss ⟨P, w, K, mg, base⟩ 2 I__law_draw := by
  have c__law_mix := (h__law_mix S).mono (show 2 ≤ 2 by decide)
  simp only [I__law_draw, okss, Stm.ok, IR.ok, oks, oko, and_true, true_and, c__law_mix]
theorem h__law_draw (S : Fs P w K mg base) : FnG ⟨P, w, K, mg, base⟩ 3 F__law_draw := fnG_of S.t__law_draw sc__law_draw rfl rfl S.ok (k__law_draw S) ck__law_draw
theorem k__law_pick (S : Fs P w K mg base) : okss ⟨P, w, K, mg, base⟩ 3 I__law_pick := by
  have c__law_draw := (h__law_draw S).mono (show 3 ≤ 3 by decide)
  simp only [I__law_pick, okss, Stm.ok, IR.ok, oks, oko, and_true, true_and, c__law_draw]
theorem h__law_pick (S : Fs P w K mg base) : FnG ⟨P, w, K, mg, base⟩ 4 F__law_pick := fnG_of S.t__law_pick sc__law_pick rfl rfl S.ok (k__law_pick S) ck__law_pick
theorem k__law_word (S : Fs P w K mg base) : okss ⟨P, w, K, mg, base⟩ 4 I__law_word := by
  have c__law_draw := (h__law_draw S).mono (show 3 ≤ 4 by decide)
  have c__law_pick := (h__law_pick S).mono (show 4 ≤ 4 by decide)
  simp only [I__law_word, okss, Stm.ok, IR.ok, oks, oko, and_true, true_and, c__law_draw, c__law_pick]
theorem h__law_word (S : Fs P w K mg base) : FnG ⟨P, w, K, mg, base⟩ 5 F__law_word := fnG_of S.t__law_word sc__law_word rfl rfl S.ok (k__law_word S) ck__law_word
theorem k__law_value (S : Fs P w K mg base) : okss ⟨P, w, K, mg, base⟩ 5 I__law_value := by
  have c__law_draw := (h__law_draw S).mono (show 3 ≤ 5 by decide)
  have c__law_word := (h__law_word S).mono (show 5 ≤ 5 by decide)
  have c__law_pick := (h__law_pick S).mono (show 4 ≤ 5 by decide)
  simp only [I__law_value, okss, Stm.ok, IR.ok, oks, oko, and_true, true_and, c__law_draw, c__law_word, c__law_pick]
theorem h__law_value (S : Fs P w K mg base) : FnG ⟨P, w, K, mg, base⟩ 6 F__law_value := fnG_of S.t__law_value sc__law_value rfl rfl S.ok (k__law_value S) ck__law_value
theorem k__law_columns (S : Fs P w K mg base) : okss ⟨P, w, K, mg, base⟩ 4 I__law_columns := by
  have c__law_draw := (h__law_draw S).mono (show 3 ≤ 4 by decide)
  have c__law_pick := (h__law_pick S).mono (show 4 ≤ 4 by decide)
  simp only [I__law_columns, okss, Stm.ok, IR.ok, oks, oko, and_true, true_and, c__law_draw, c__law_pick]
theorem h__law_columns (S : Fs P w K mg base) : FnG ⟨P, w, K, mg, base⟩ 5 F__law_columns := fnG_of S.t__law_columns sc__law_columns rfl rfl S.ok (k__law_columns S) ck__law_columns
theorem k__law_row (S : Fs P w K mg base) : okss ⟨P, w, K, mg, base⟩ 6 I__law_row := by
  have c__law_value := (h__law_value S).mono (show 6 ≤ 6 by decide)
  simp only [I__law_row, okss, Stm.ok, IR.ok, oks, oko, and_true, true_and, c__law_value]
theorem h__law_row (S : Fs P w K mg base) : FnG ⟨P, w, K, mg, base⟩ 7 F__law_row := fnG_of S.t__law_row sc__law_row rfl rfl S.ok (k__law_row S) ck__law_row
theorem k__law_table (S : Fs P w K mg base) : okss ⟨P, w, K, mg, base⟩ 7 I__law_table := by
  have c__law_columns := (h__law_columns S).mono (show 5 ≤ 7 by decide)
  have c__law_draw := (h__law_draw S).mono (show 3 ≤ 7 by decide)
  have c__law_row := (h__law_row S).mono (show 7 ≤ 7 by decide)
  simp only [I__law_table, okss, Stm.ok, IR.ok, oks, oko, and_true, true_and, c__law_columns, c__law_draw, c__law_row]
theorem h__law_table (S : Fs P w K mg base) : FnG ⟨P, w, K, mg, base⟩ 8 F__law_table := fnG_of S.t__law_table sc__law_table rfl rfl S.ok (k__law_table S) ck__law_table
theorem k__law_two (S : Fs P w K mg base) : okss ⟨P, w, K, mg, base⟩ 8 I__law_two := by
  have c__law_table := (h__law_table S).mono (show 8 ≤ 8 by decide)
  have c__law_draw := (h__law_draw S).mono (show 3 ≤ 8 by decide)
  have c__law_row := (h__law_row S).mono (show 7 ≤ 8 by decide)
  simp only [I__law_two, okss, Stm.ok, IR.ok, oks, oko, and_true, true_and, c__law_table, c__law_draw, c__law_row]
theorem h__law_two (S : Fs P w K mg base) : FnG ⟨P, w, K, mg, base⟩ 9 F__law_two := fnG_of S.t__law_two sc__law_two rfl rfl S.ok (k__law_two S) ck__law_two
theorem k__law_due (S : Fs P w K mg base) : okss ⟨P, w, K, mg, base⟩ 0 I__law_due := by
  simp only [I__law_due, okss, Stm.ok, IR.ok, oks, oko, and_true, true_and]
theorem h__law_due (S : Fs P w K mg base) : FnG ⟨P, w, K, mg, base⟩ 1 F__law_due := fnG_of S.t__law_due sc__law_due rfl rfl S.ok (k__law_due S) ck__law_due
theorem k_law (S : Fs P w K mg base) : okss ⟨P, w, K, mg, base⟩ 9 I_law := by
  have c__law_two := (h__law_two S).mono (show 9 ≤ 9 by decide)
  have c__law_draw := (h__law_draw S).mono (show 3 ≤ 9 by decide)
  have c_changes := (h_changes S).mono (show 6 ≤ 9 by decide)
  have c__law_due := (h__law_due S).mono (show 1 ≤ 9 by decide)
  simp only [I_law, okss, Stm.ok, IR.ok, oks, oko, and_true, true_and, c__law_two, c__law_draw, c_changes, c__law_due]
end
/-- the whole: from what the small language's law comes to -/
theorem holds (law : ∀ ns : List Int, ns.length ≤ 63 → ∃ n', lawRun 13 1 I_law ns = .ok (.rt (.bl true)) n') : PySem.Challenge.rw_sumsheets_k80_whole_changes.Holds := by
  w_on; o_law
  refine HandSHeadRun.head_any (r := PySem.W.OpenLaw.row PySem.Challenge.rw_sumsheets_k80_whole_changes) (q := PySem.W.view (PySem.W.OpenLaw.row PySem.Challenge.rw_sumsheets_k80_whole_changes).prog [33]) (H := hk) (ob := ob) (M := 2000) (loose := loose) (d := HandSHeadRun.topDef (PySem.W.OpenLaw.row PySem.Challenge.rw_sumsheets_k80_whole_changes).prog 33) (kwd := []) ob_eq
    (by kernel_rfl) (fun s => by kernel_rfl) run (by kernel_rfl) (by kernel_rfl) (by kernel_rfl) (by rfl) (by first | assumption | decide +kernel) (by decide +kernel) ⟨rfl, rfl, rfl, rfl, rfl, by decide +kernel⟩ ?hw ?hc
  case hw => w_witness2
  case hc =>
    refine L2.walk_ofE (l := PySem.Challenge.rw_sumsheets_k80_whole_changes) (n := 63) (k := 10) (x := "script") (CX := L2.CX0) rfl (by decide) (by kernel_rfl) ⟨rfl, by decide, by decide⟩ ?F (fun _ _ _ _ z => z)
    intro w mg fa h Y G hmg0
    obtain ⟨K, KX, c, e⟩ := Y
    have hmg : mg ("law" : PySem.Str) = some (.ref fa) := by
      have e : (HandSHeadRun.topDef (PySem.W.OpenLaw.row PySem.Challenge.rw_sumsheets_k80_whole_changes).prog 33).name = ("law" : PySem.Str) := by kernel_rfl
      rw [← e]
      exact hmg0
    obtain ⟨fd, F⟩ := c.def_ 20 (d := d_law) rfl
    have ea := hmg.symm.trans (He.glo_ok KX G (c.fact 24 (f := .glo "law") rfl))
    cases ea
    have b := FunD.bindsA (ps := ["script"]) F fun _ _ _ _ _ _ us hl => match us, hl with | [_], _ => rfl
    refine ⟨K, fd, spLaw K, KX, fun s v => b s [v] rfl, fun H a ns hl ho hS => sp_law hl ho hS, fun base hK hN => ?_⟩
    have S : Fs PySem.Challenge.pw_sumsheets_k80_whole_changes w K mg base := fs KX G c e
    have F2 := F
    unfold d_law at F2
    dsimp only at F2
    rw [bd_law] at F2
    exact law_fn F2 sc_law S.ok (k_law S) t0_law ⟨by decide, by decide⟩ ck_law law
end K80
set_option maxHeartbeats 4000000
/-! The law, whole. -/
namespace K80
open PySem Ss L2
theorem law_gen (ns : List Int) (R : List Stm)
    (hR : ∀ (cs : List Col) (rs ss : List Row), ColsOk cs → (∀ r ∈ rs, RowOk cs r) → rs.length ≤ 24 → (∀ r ∈ ss, RowOk cs r) → ss.length ≤ 24 →
      exs R [.dat (.scr ns), .dat .town, .emp, .emp, .emp, .emp, .dat (tabD cs rs), .dat (tabD cs ss), .emp, .emp, .emp, .emp, .emp] = ret (.rt (.bl true))) :
    Hs (exs (.set (.many [6, 7]) (.call F__law_two [(.var 0), (.var 1), (.lit (.int 10))]) :: .ifs (.cmp .eq (.call F__law_draw [(.var 0), (.var 1), (.lit (.int 2))]) (.lit (.int 0))) [.set (.one 6) (.tup [(.idx (.var 6) (.lit (.int 0))), (.op .add (.idx (.var 6) (.lit (.int 1))) (.slc (.idx (.var 7) (.lit (.int 1))) none (some (.lit (.int 2)))))])] [] :: R) [.dat (.scr ns), .dat .town, .emp, .emp, .emp, .emp, .emp, .emp, .emp, .emp, .emp, .emp, .emp]) 2100 fun f => f = .rt (.bl true) := by
  have a : F__law_draw.ar = 3 := rfl
  have a2 : F__law_two.ar = 3 := rfl
  rw [exs_cons]
  simp [a2]
  have t2 := two_ok ns (m := 10) (by decide)
  have h10 : ((10 : Nat) : Int) = 10 := rfl
  rw [h10] at t2
  refine Hs.stp (c1 := 2000) (c2 := 100) t2 fun d hd => ?_
  obtain ⟨cs, rs, ss, rfl, hcs, hr, hs, l1, l2⟩ := hd
  simp
  rw [exs_cons]
  simp [a]
  refine Hs.stp (c1 := 1) (c2 := 99) (draw_ok ns (m := 2) (by decide)) fun d hd => ?_
  obtain ⟨k, rfl, hk⟩ := hd
  have z : Cm.f .eq (natD k) (.int 0) = some (decide (k = 0)) := by
    have z := cm_eq (nat_okE k) (nat_okE 0)
    rw [nat_eqv] at z
    exact z
  simp [z]
  split
  · have i0 : idxD (tabD cs rs) (.int 0) = some (colsD cs) := rfl
    have i1 : idxD (tabD cs rs) (.int 1) = some (rowsD rs) := rfl
    have i2 : idxD (tabD cs ss) (.int 1) = some (rowsD ss) := rfl
    have c : cutD (rowsD ss) none (some 2) = some (rowsD (ss.take 2)) := by
      have q := cutL_take (ss.map rowD) 2
      have q : cutL (ss.map rowD) none (some 2) = (ss.map rowD).take 2 := q
      simp only [rowsD, cut_lst, q, List.map_take]
    have ad : Op.f .add (rowsD rs) (rowsD (ss.take 2)) = some (rowsD (rs ++ ss.take 2)) := by
      unfold rowsD
      rw [op_addL (by simp; omega)]; simp
    have t : D.tup [colsD cs, rowsD (rs ++ ss.take 2)] = tabD cs (rs ++ ss.take 2) := rfl
    have q := hR cs (rs ++ ss.take 2) ss hcs (fun r h => by
      rcases List.mem_append.mp h with z | z
      · exact hr r z
      · exact hs r (List.mem_of_mem_take z)) (by simp; omega) hs (by omega)
    simp [i0, i1, i2, c, ad, t]
    rw [q]
    exact Hs.ret rfl
  · have q := hR cs rs ss hcs hr (by omega) hs (by omega)
    rw [q]
    exact Hs.ret rfl
theorem law_hs (ns : List Int) : Hs (exs I_law [.dat (.scr ns), .dat .town, .emp, .emp, .emp, .emp, .emp, .emp, .emp, .emp, .emp, .emp, .emp]) 2100 fun f => f = .rt (.bl true) := by
  have e : I_law = .set (.many [6, 7]) (.call F__law_two [(.var 0), (.var 1), (.lit (.int 10))]) :: .ifs (.cmp .eq (.call F__law_draw [(.var 0), (.var 1), (.lit (.int 2))]) (.lit (.int 0))) [.set (.one 6) (.tup [(.idx (.var 6) (.lit (.int 0))), (.op .add (.idx (.var 6) (.lit (.int 1))) (.slc (.idx (.var 7) (.lit (.int 1))) none (some (.lit (.int 2)))))])] [] :: I_rest := rfl
  rw [e]
  exact law_gen ns I_rest fun cs rs ss h1 h2 h3 h4 h5 => rest_ok (.scr ns) .town h1 h2 h3 h4 h5
end K80
theorem PySem.Challenge.cw_sumsheets_k80_whole_changes_holds : PySem.Challenge.rw_sumsheets_k80_whole_changes.Holds := by
  refine K80.holds fun ns _ => ?_
  obtain ⟨f, n', e, _, rfl⟩ := K80.law_hs ns 0 (by decide)
  exact ⟨n', e⟩
