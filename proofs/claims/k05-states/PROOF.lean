import PyProof.Rows.All
import HandS.ForExc
import HandS.Comp
import HandS.Iter
import HandS.Walk
import HandS.Zip
import HandS.TupAny
import HandS.Text
import HandS.More
import HandS.SortInts
import HandS.IsInst
import HandS.DictTup
import HandS.SetKeys
import PyProof.Rows.TupTab
import KE.SortData
import KE.DataEq
import KE.DataFind
import KE.DataIsa
import KE.DataAny
import KE.KDictKeyed
import KE.KeyNested
import HandS.ReCall
import KE.KDictCopyH
import HandS.SetBool
import HandS.Strs
import HandS.DictComp
import HandS.TryMany
import HandS.Defaults
import HandS.Head0
import HandS.Head1
import HandS.Head2
import HandS.HeadEnd
import HandS.HeadHook1
import HandS.HeadHook2
import KE.KStateDown
import Lean
import HandS.HeadHook3
import HandS.HeadHook4
import PySem.Challenge.RW_graftmill_k05_states_by_hand
section
set_option Elab.async false
set_option linter.all false
/-! A small Python of my own: data `D`, expressions `E`, statements `S`, an evaluator. Plain Lean. -/
namespace GM
open PySem

/-- pure data; `ref`: a live object; `fn`: a def as a value; `clo`: a closure (code, what it holds) -/
inductive D where
  | non | bl (b : Bool) | int (i : Int) | str (s : Str)
  | tup (ds : List D) | lst (ds : List D) | dic (ks vs : List D) | set (ds : List D)
  | ref (n : Nat) | fn (f : Nat) | clo (f : Nat) (caps : List D)
  deriving Inhabited

mutual
def D.beq : D → D → Bool
  | .non, .non => true
  | .bl a, .bl b => decide (a = b)
  | .int a, .int b => decide (a = b)
  | .str a, .str b => decide (a = b)
  | .tup a, .tup b => D.beqs a b
  | .lst a, .lst b => D.beqs a b
  | .dic a c, .dic b d => D.beqs a b && D.beqs c d
  | .set a, .set b => D.beqs a b
  | .ref a, .ref b => decide (a = b)
  | .fn a, .fn b => decide (a = b)
  | .clo a c, .clo b d => decide (a = b) && D.beqs c d
  | _, _ => false
def D.beqs : List D → List D → Bool
  | [], [] => true
  | a :: as, b :: bs => D.beq a b && D.beqs as bs
  | _, _ => false
end
mutual
theorem D.beq_self : ∀ a : D, D.beq a a = true
  | .non => rfl
  | .bl _ => by simp [D.beq]
  | .int _ => by simp [D.beq]
  | .str _ => by simp [D.beq]
  | .tup a => by rw [D.beq]; exact D.beqs_self a
  | .lst a => by rw [D.beq]; exact D.beqs_self a
  | .set a => by rw [D.beq]; exact D.beqs_self a
  | .dic a b => by rw [D.beq, D.beqs_self a, D.beqs_self b]; rfl
  | .ref _ => by simp [D.beq]
  | .fn _ => by simp [D.beq]
  | .clo _ c => by rw [D.beq, D.beqs_self c]; simp
theorem D.beqs_self : ∀ a : List D, D.beqs a a = true
  | [] => rfl
  | a :: as => by rw [D.beqs, D.beq_self a, D.beqs_self as]; rfl
end
mutual
theorem D.eq_of_beq : ∀ a b : D, D.beq a b = true → a = b
  | .non, b, h => by cases b <;> simp [D.beq] at h ⊢
  | .bl a, b, h => by cases b <;> simp [D.beq] at h ⊢; exact h
  | .int a, b, h => by cases b <;> simp [D.beq] at h ⊢; exact h
  | .str a, b, h => by cases b <;> simp [D.beq] at h ⊢; exact h
  | .tup a, b, h => by
    cases b <;> simp [D.beq] at h ⊢
    exact D.eq_of_beqs a _ h
  | .lst a, b, h => by
    cases b <;> simp [D.beq] at h ⊢
    exact D.eq_of_beqs a _ h
  | .set a, b, h => by
    cases b <;> simp [D.beq] at h ⊢
    exact D.eq_of_beqs a _ h
  | .dic a c, b, h => by
    cases b <;> simp [D.beq] at h ⊢
    exact ⟨D.eq_of_beqs a _ h.1, D.eq_of_beqs c _ h.2⟩
  | .ref a, b, h => by cases b <;> simp [D.beq] at h ⊢; exact h
  | .fn a, b, h => by cases b <;> simp [D.beq] at h ⊢; exact h
  | .clo a c, b, h => by
    cases b <;> simp [D.beq] at h ⊢
    exact ⟨h.1, D.eq_of_beqs c _ h.2⟩
theorem D.eq_of_beqs : ∀ a b : List D, D.beqs a b = true → a = b
  | [], b, h => by cases b <;> simp [D.beqs] at h ⊢
  | a :: as, b, h => by
    cases b with
    | nil => simp [D.beqs] at h
    | cons b bs =>
      simp only [D.beqs, Bool.and_eq_true] at h
      rw [D.eq_of_beq a b h.1, D.eq_of_beqs as bs h.2]
end
instance : DecidableEq D := fun a b => if h : D.beq a b = true then .isTrue (D.eq_of_beq a b h) else .isFalse fun e => h (e ▸ D.beq_self a)

mutual
def D.py : D → PyData
  | .non => .none
  | .bl b => .bool b
  | .int i => .int i
  | .str s => .str s
  | .tup ds => .tuple (D.pys ds)
  | .lst ds => .list (D.pys ds)
  | _ => .dict []
def D.pys : List D → List PyData
  | [] => []
  | d :: ds => D.py d :: D.pys ds
end
theorem D.pys_map : ∀ ds : List D, D.pys ds = ds.map D.py
  | [] => rfl
  | d :: ds => by rw [D.pys, D.pys_map ds]; rfl
mutual
/-- made of None, bools, ints, texts, tuples, lists alone -/
def D.pl : D → Bool
  | .non | .bl _ | .int _ | .str _ => true
  | .tup ds | .lst ds => D.pls ds
  | _ => false
def D.pls : List D → Bool
  | [] => true
  | d :: ds => D.pl d && D.pls ds
end
mutual
/-- every live object in it stands below n -/
def D.nr (n : Nat) : D → Bool
  | .non | .bl _ | .int _ | .str _ | .fn _ => true
  | .tup ds | .lst ds | .set ds => D.nrs n ds
  | .dic ks vs => D.nrs n ks && D.nrs n vs
  | .ref m => decide (m < n)
  | .clo _ cs => D.nrs n cs
def D.nrs (n : Nat) : List D → Bool
  | [] => true
  | d :: ds => D.nr n d && D.nrs n ds
end
mutual
def D.dep : D → Nat
  | .tup ds | .lst ds => D.deps ds + 1
  | _ => 0
def D.deps : List D → Nat
  | [] => 0
  | d :: ds => max (D.dep d) (D.deps ds)
end
mutual
/-- a key of a dict: ints, texts, None, tuples of such -/
def D.isKey : D → Bool
  | .non | .int _ | .str _ => true
  | .tup ds => D.areKeys ds
  | _ => false
def D.areKeys : List D → Bool
  | [] => true
  | d :: ds => D.isKey d && D.areKeys ds
end
def D.isTup : D → Bool
  | .tup _ => true
  | _ => false
def kOk (d : D) : Bool := d.isKey && decide (d.dep ≤ 8)
/-- ints and texts alone, or tuples alone -/
def keyFits (ks : List D) (k : D) : Bool := kOk k && k != .non && ks.all fun q => q.isTup == k.isTup

/-- a live object -/
inductive LO where
  | lst (ds : List D) | dic (kvs : List (D × D)) | ins (c : Nat) (fs : List (Nat × D)) | dead
  deriving Inhabited, DecidableEq
abbrev MH := List LO

/-- what an evaluation ends in -/
inductive R (α : Type) where
  | ok (a : α) (h : MH) | exc (c : Nat) (pl : List D) (h : MH) | bad
def R.bind {α β : Type} (r : R α) (f : α → MH → R β) : R β := match r with
  | .ok a h => f a h
  | .exc c pl h => .exc c pl h
  | .bad => .bad
@[simp] theorem R.bind_ok {α β : Type} (a : α) (h : MH) (f : α → MH → R β) : (R.ok a h).bind f = f a h := Eq.trans rfl rfl
@[simp] theorem R.bind_exc {α β : Type} (c pl h) (f : α → MH → R β) : (R.exc c pl h).bind f = .exc c pl h := Eq.trans rfl rfl
@[simp] theorem R.bind_bad {α β : Type} (f : α → MH → R β) : (R.bad : R α).bind f = .bad := Eq.trans rfl rfl
def R.ofO {α : Type} (o : Option α) (h : MH) : R α := match o with
  | some a => .ok a h
  | none => .bad
@[simp] theorem R.ofO_some {α : Type} (a : α) (h : MH) : R.ofO (some a) h = .ok a h := Eq.trans rfl rfl
@[simp] theorem R.ofO_none {α : Type} (h : MH) : R.ofO (none : Option α) h = .bad := Eq.trans rfl rfl

abbrev Cal := Nat → List D → MH → R D
abbrev Env := List (Option D)

/-- what stands behind a live list or dict, to be read -/
def vw (h : MH) : D → D
  | .ref n => match h[n]? with
    | some (.lst xs) => .lst xs
    | some (.dic kvs) => .dic (kvs.map (·.1)) (kvs.map (·.2))
    | _ => .ref n
  | d => d

inductive Bop where
  | add | sub | mul | fdiv | mod | pow
  deriving DecidableEq
inductive Cm where
  | eq | ne | lt | le | gt | ge | isIn | notIn | isN | isNotN
  deriving DecidableEq
inductive Ty where
  | int | bool | str | tuple | list
  deriving DecidableEq
/-- built-ins of values -/
inductive Bi where
  | len | all | any | sum | int | tuple | max2 | min2 | bool
  deriving DecidableEq

mutual
inductive E where
  | var (i : Nat) | non | bl (b : Bool) | int (i : Int) | str (s : Str)
  | gc (x : Str) (d : D) | gf (f : Nat)
  | tup (es : Es) | lst (l : L) | live (l : L) | dct (l : DL)
  | neg (a : E) | not (a : E)
  | bin (o : Bop) (a b : E)
  | and (es : Es) | or (es : Es)
  | cmp (o : Cm) (a b : E) | cmp2 (o p : Cm) (a b c : E)
  | ite (c a b : E)
  | idx (a i : E) | slc (a : E) (lo hi : Eo)
  | call (f : Nat) (es : Es)
  | isa (t : Ty) (a : E) | bi (f : Bi) (es : Es)
  | append (o e : E) | extend (o e : E) | pop (o : E) | popAt (o i : E) | insert (o i e : E)
  | get (o k d : E) | setdefault (o k d : E) | update (o e : E)
inductive Eo where
  | no | so (e : E)
inductive Es where
  | nil | cons (e : E) (es : Es)
/-- what makes a new list -/
inductive L where
  | disp (es : Es) | ofs (e : E) | sorted (e : E) | comp (elt : E) (cls : Cls) (own : List Nat) | rep (a n : E) | cat (a b : E)
  | ssort (elt : E) (cls : Cls) (own : List Nat)   -- sorted({elt for ..}), ints
/-- what makes a new dict -/
inductive DL where
  | nil | ofs (e : E) | comp (k v : E) (cls : Cls) (own : List Nat)
inductive Tg where
  | v (i : Nat) | t (ts : Tgs)
inductive Tgs where
  | nil | cons (t : Tg) (ts : Tgs)
/-- what a loop walks -/
inductive It where
  | seq (e : E) | range1 (e : E) | range2 (a b : E) | enum (e : E) | zip (a b : E)
inductive Cls where
  | one (t : Tg) (i : It) (ifs : Es)
  | two (t : Tg) (i : It) (ifs : Es) (t2 : Tg) (i2 : It) (ifs2 : Es)
end

mutual
inductive S where
  | asg (t : Tg) (e : E)
  | asg2 (i j : Nat) (a b : E)       -- x, y = a, b
  | setI (o i e : E)                 -- o[i] = e
  | setSl (o a b e : E)              -- o[a:b] = e
  | aug (i : Nat) (o : Bop) (e : E)
  | augI (x i : E) (o : Bop) (e : E)
  | ex (e : E)
  | ret (e : E) | retN
  | ite (c : E) (a b : Ss)
  | wh (c : E) (b : Ss)
  | fr (t : Tg) (i : It) (b : Ss)
  | raise (c : Nat)
  | tr (b : Ss) (hs : Hs)
  | pass | brk | cont
  | freeze (i : Nat)
  | wipe (is : List Nat)
inductive Ss where
  | nil | cons (s : S) (ss : Ss)
inductive Hs where
  | nil | cons (c : Nat) (b : Ss) (hs : Hs)
end

/-- an item's place -/
def ixO (n : Nat) (i : Int) : Option Nat := if 0 ≤ i then (if i < n then some i.toNat else none) else if -(n : Int) ≤ i then some (i + n).toNat else none
def atO {α : Type} (xs : List α) (i : Int) : Option α := (ixO xs.length i).bind fun j => xs[j]?
/-- a slice's end: clipped -/
def sIx (n : Nat) (dflt : Nat) : Option Int → Nat
  | none => dflt
  | some i => if 0 ≤ i then min i.toNat n else (i + n).toNat
def cut {α : Type} (xs : List α) (lo hi : Option Int) : List α := (xs.drop (sIx xs.length 0 lo)).take (sIx xs.length xs.length hi - sIx xs.length 0 lo)

def intBig : Int := 2 ^ 64
def smallI (i : Int) : Bool := decide (-(2 ^ 64) < i) && decide (i < 2 ^ 64)

def opBin : Bop → D → D → Option D
  | .add, .int i, .int j => some (.int (i + j))
  | .add, .str a, .str b => if a.length + b.length ≤ 10000 then some (.str (a ++ b)) else none
  | .add, .tup a, .tup b => if a.length + b.length ≤ 1000000 then some (.tup (a ++ b)) else none
  | .add, .lst a, .lst b => if a.length + b.length ≤ 1000000 then some (.lst (a ++ b)) else none
  | .sub, .int i, .int j => some (.int (i - j))
  | .mul, .int i, .int j => if smallI i || smallI j then some (.int (i * j)) else none
  | .fdiv, .int i, .int j => if j ≠ 0 ∧ j.natAbs < 1073741824 then some (.int (i.fdiv j)) else none
  | .mod, .int i, .int j => if j ≠ 0 then some (.int (i.fmod j)) else none
  | .pow, .int i, .int j => if 0 ≤ j ∧ j ≤ 1000 ∧ smallI i = true then some (.int (i ^ j.toNat)) else none
  | _, _, _ => none

/-- Python's == of pure data -/
def D.eqv (a b : D) : Bool := PyData.eqv a.py b.py
/-- Python's < of pure data that are alike -/
def D.ltv (a b : D) : Bool := PySem.W.dataLt a.py b.py
def D.alk (a b : D) : Bool := PySem.W.alike a.py b.py
def cmpOk (a b : D) : Bool := a.pl && b.pl && decide (a.dep ≤ 150) && decide (b.dep ≤ 150)

def opCmp : Cm → D → D → Option Bool
  | .eq, a, b => if cmpOk a b = true then some (D.eqv a b) else none
  | .ne, a, b => if cmpOk a b = true then some (!D.eqv a b) else none
  | .lt, a, b => if cmpOk a b = true ∧ D.alk a b = true ∧ a ≠ .non then some (D.ltv a b) else none
  | .gt, a, b => if cmpOk a b = true ∧ D.alk a b = true ∧ a ≠ .non then some (D.ltv b a) else none
  | .le, a, b => if cmpOk a b = true ∧ D.alk a b = true ∧ a ≠ .non then some (!D.ltv b a) else none
  | .ge, a, b => if cmpOk a b = true ∧ D.alk a b = true ∧ a ≠ .non then some (!D.ltv a b) else none
  | .isIn, a, .lst xs => if cmpOk a (.lst xs) = true then some (xs.any fun x => D.eqv x a) else none
  | .isIn, a, .tup xs => if cmpOk a (.tup xs) = true then some (xs.any fun x => D.eqv x a) else none
  | .isIn, a, .dic ks _ => if keyFits ks a = true then some (decide (a ∈ ks)) else none
  | .isIn, .str a, .str b => if a.length = 1 then some (decide (a.cps.toList.headD 0 ∈ b.cps.toList)) else none
  | .notIn, a, .lst xs => if cmpOk a (.lst xs) = true then some (!xs.any fun x => D.eqv x a) else none
  | .notIn, a, .tup xs => if cmpOk a (.tup xs) = true then some (!xs.any fun x => D.eqv x a) else none
  | .notIn, a, .dic ks _ => if keyFits ks a = true then some (!decide (a ∈ ks)) else none
  | .notIn, .str a, .str b => if a.length = 1 then some (!decide (a.cps.toList.headD 0 ∈ b.cps.toList)) else none
  | .isN, a, .non => some (decide (a = .non))
  | .isNotN, a, .non => some (!decide (a = .non))
  | _, _, _ => none

def D.ints : List D → Option (List Int)
  | [] => some []
  | .int i :: ds => (D.ints ds).map (i :: ·)
  | _ :: _ => none
def D.bls : List D → Option (List Bool)
  | [] => some []
  | .bl i :: ds => (D.bls ds).map (i :: ·)
  | _ :: _ => none

def opBi : Bi → List D → Option D
  | .len, [.lst xs] => some (.int xs.length)
  | .len, [.tup xs] => some (.int xs.length)
  | .len, [.dic ks _] => some (.int ks.length)
  | .len, [.set ks] => some (.int ks.length)
  | .len, [.str s] => if s.length ≤ 10000 then some (.int s.length) else none
  | .all, [.lst xs] => (D.bls xs).map fun bs => .bl (bs.all id)
  | .any, [.lst xs] => (D.bls xs).map fun bs => .bl (bs.any id)
  | .sum, [.lst xs] => (D.ints xs).map fun bs => .int bs.sum
  | .int, [.int i] => some (.int i)
  | .int, [.bl b] => some (.int (if b then 1 else 0))
  | .tuple, [.lst xs] => some (.tup xs)
  | .tuple, [.tup xs] => some (.tup xs)
  | .max2, [.int i, .int j] => some (.int (if j > i then j else i))
  | .min2, [.int i, .int j] => some (.int (if j < i then j else i))
  | _, _ => none
def isaB : Ty → D → Bool
  | .int, .int _ => true
  | .int, .bl _ => true
  | .bool, .bl _ => true
  | .str, .str _ => true
  | .tuple, .tup _ => true
  | .list, .lst _ => true
  | _, _ => false
def opIsa (t : Ty) (d : D) : Option Bool := if d.pl = true then some (isaB t d) else none
def opIdx : D → D → Option D
  | .lst xs, .int i => atO xs i
  | .tup xs, .int i => atO xs i
  | .str s, .int i => if s.length ≤ 10000 then (atO s.cps.toList i).map fun c => .str ⟨#[c]⟩ else none
  | .dic ks vs, k => if keyFits ks k = true then ((ks.zip vs).find? fun p => decide (p.1 = k)).map (·.2) else none
  | _, _ => none
def opSlc : D → Option Int → Option Int → Option D
  | .lst xs, lo, hi => some (.lst (cut xs lo hi))
  | .tup xs, lo, hi => some (.tup (cut xs lo hi))
  | _, _, _ => none
def sorts (xs : List D) : List D := xs.mergeSort fun a b => !D.ltv b a
/-- sorted asks: alike all, pure; tuples that aren't empty, or no tuples, no None -/
def sortOk (xs : List D) : Bool := D.pls xs && decide (D.deps xs ≤ 150) && (xs.all fun a => xs.all fun b => D.alk a b) &&
  ((xs.all fun a => match a with | .tup (_ :: _) => true | _ => false) || (xs.all fun a => match a with | .tup _ => false | .non => false | _ => true)) && decide (xs.length ≤ 1000000)
def opSort : D → Option (List D)
  | .lst xs => if sortOk xs = true then some (sorts xs) else none
  | .set xs => if sortOk xs = true then some (sorts xs) else none
  | .dic xs _ => if sortOk xs = true then some (sorts xs) else none
  | _ => none
/-- the items of what is walked -/
def opItems : D → Option (List D)
  | .lst xs => some xs
  | .tup xs => some xs
  | .str s => some (s.cps.toList.map fun c => .str ⟨#[c]⟩)
  | .dic ks _ => some ks
  | _ => none

def tru : D → Option Bool
  | .bl b => some b
  | _ => none
mutual
def Tg.slots : Tg → List Nat
  | .v i => [i]
  | .t ts => ts.slots
def Tgs.slots : Tgs → List Nat
  | .nil => []
  | .cons t ts => t.slots ++ ts.slots
end
def asgT : Tg → D → Env → Option Env
  | .v i, d, ρ => if i < ρ.length then some (ρ.set i (some d)) else none
  | .t ts, .tup ds, ρ => asgTs ts ds ρ
  | .t _, _, _ => none
where asgTs : Tgs → List D → Env → Option Env
  | .nil, [], ρ => some ρ
  | .cons t ts, d :: ds, ρ => (asgT t d ρ).bind fun ρ' => asgTs ts ds ρ'
  | _, _, _ => none
def wipeE (ρ : Env) : List Nat → Env
  | [] => ρ
  | v :: vs => (wipeE ρ vs).set v none
end GM
end
section
set_option Elab.async false
set_option linter.all false
namespace GM
open PySem

def srcOk (src : Option (Nat × List D)) (h : MH) : Prop := match src with
  | none => True
  | some (n, xs) => h[n]? = some (.lst xs)
instance (src : Option (Nat × List D)) (h : MH) : Decidable (srcOk src h) := by
  unfold srcOk; split <;> infer_instance
@[simp] theorem srcOk_none (h : MH) : srcOk none h = True := Eq.trans rfl rfl

/-- a comprehension's turns: the items got -/
def goC {α : Type} (src : Option (Nat × List D)) (f : D → MH → R (List α)) : List D → MH → R (List α)
  | [], h => if srcOk src h then .ok [] h else .bad
  | x :: xs, h => if srcOk src h then
      match f x h with
      | .ok ys h => (goC src f xs h).bind fun zs h => .ok (ys ++ zs) h
      | _ => .bad
    else .bad

def dget (kvs : List (D × D)) (k : D) : Option D := (kvs.find? fun p => decide (p.1 = k)).map (·.2)
def dput (kvs : List (D × D)) (k v : D) : List (D × D) := if (dget kvs k).isSome then kvs.map fun p => if p.1 = k then (p.1, v) else p else kvs ++ [(k, v)]
def kf (kvs : List (D × D)) (k : D) : Bool := keyFits (kvs.map (·.1)) k
def dputs : List (D × D) → List (D × D) → Option (List (D × D))
  | acc, [] => some acc
  | acc, (k, v) :: r => if kf acc k = true ∧ k.isTup = false ∧ acc.length ≤ 1000000 then dputs (dput acc k v) r else none
def dedup : List D → List D → List D
  | acc, [] => acc
  | acc, x :: xs => if x ∈ acc then dedup acc xs else dedup (acc ++ [x]) xs

def dInt : D → Option (List Int)
  | .int n => some [n]
  | _ => none
def insI (n : Int) : List Int → List Int
  | [] => [n]
  | x :: xs => if n < x then n :: x :: xs else if n = x then x :: xs else x :: insI n xs
/-- the ints of a list, rising, each once -/
def isetI (ns : List Int) : List Int := ns.foldl (fun a n => insI n a) []

def leafs (ks : List D) : Bool := ks.all fun k => kOk k && k != .non && !k.isTup
def listMax : Nat := 1000000
def itemsOf (h : MH) (d : D) : Option (List D × Option (Nat × List D)) := match d with
  | .ref n => match h[n]? with
    | some (.lst xs) => some (xs, some (n, xs))
    | _ => none
  | d => (opItems d).map fun xs => (xs, none)

def seqO : D → Option (List D)
  | .lst xs => some xs
  | .tup xs => some xs
  | _ => none
def isLst (h : MH) (x : D) : Bool := match vw h x with
  | .lst _ => true
  | _ => false
/-- a live list's items -/
def vwL (h : MH) : D → Option (List D)
  | .ref n => match h[n]? with
    | some (.lst xs) => some xs
    | _ => none
  | _ => none
def isDic (h : MH) (x : D) : Bool := match vw h x with
  | .dic _ _ => true
  | _ => false
def need {α : Type} (b : Bool) (r : R α) : R α := if b = true then r else .bad
@[simp] theorem need_true {α : Type} (r : R α) : need true r = r := Eq.trans rfl rfl

mutual
def evE (C : Cal) : E → Env → MH → R D
  | .var i, ρ, h => match ρ[i]? with
    | some (some d) => .ok d h
    | _ => .bad
  | .non, _, h => .ok .non h
  | .bl b, _, h => .ok (.bl b) h
  | .int i, _, h => .ok (.int i) h
  | .str s, _, h => .ok (.str s) h
  | .gc _ d, _, h => .ok d h
  | .gf f, _, h => .ok (.fn f) h
  | .tup es, ρ, h => (evEs C es ρ h).bind fun ds h => .ok (.tup ds) h
  | .lst l, ρ, h => (evL C l ρ h).bind fun ds h => .ok (.lst ds) h
  | .live l, ρ, h => (evL C l ρ h).bind fun ds h => .ok (.ref h.length) (h ++ [.lst ds])
  | .dct l, ρ, h => (evDL C l ρ h).bind fun kvs h => .ok (.ref h.length) (h ++ [.dic kvs])
  | .neg a, ρ, h => (evE C a ρ h).bind fun d h => match d with
    | .int i => .ok (.int (-i)) h
    | _ => .bad
  | .not a, ρ, h => (evE C a ρ h).bind fun d h => (R.ofO (tru d) h).bind fun b h => .ok (.bl (!b)) h
  | .bin o a b, ρ, h => (evE C a ρ h).bind fun x h => (evE C b ρ h).bind fun y h => R.ofO (opBin o (vw h x) (vw h y)) h
  | .and es, ρ, h => evAnd C es ρ h
  | .or es, ρ, h => evOr C es ρ h
  | .cmp o a b, ρ, h => (evE C a ρ h).bind fun x h => (evE C b ρ h).bind fun y h => (R.ofO (opCmp o (vw h x) (vw h y)) h).bind fun k h => .ok (.bl k) h
  | .cmp2 o p a b c, ρ, h => (evE C a ρ h).bind fun x h => (evE C b ρ h).bind fun y h => (R.ofO (opCmp o (vw h x) (vw h y)) h).bind fun k h =>
      if k = true then (evE C c ρ h).bind fun z h => (R.ofO (opCmp p (vw h y) (vw h z)) h).bind fun k h => .ok (.bl k) h else .ok (.bl false) h
  | .ite c a b, ρ, h => (evE C c ρ h).bind fun d h => (R.ofO (tru d) h).bind fun k h => if k = true then evE C a ρ h else evE C b ρ h
  | .idx a i, ρ, h => (evE C a ρ h).bind fun x h => (evE C i ρ h).bind fun y h => R.ofO (opIdx (vw h x) y) h
  | .slc a lo hi, ρ, h => (evE C a ρ h).bind fun x h => (evEo C lo ρ h).bind fun l h => (evEo C hi ρ h).bind fun u h => R.ofO (opSlc (vw h x) l u) h
  | .call f es, ρ, h => (evEs C es ρ h).bind fun ds h => C f ds h
  | .isa t a, ρ, h => (evE C a ρ h).bind fun x h => (R.ofO (opIsa t (vw h x)) h).bind fun k h => .ok (.bl k) h
  | .bi f es, ρ, h => (evEs C es ρ h).bind fun ds h => R.ofO (opBi f (ds.map (vw h))) h
  | .append o e, ρ, h => (evE C o ρ h).bind fun x h => need (isLst h x) <| (evE C e ρ h).bind fun d h => match x with
    | .ref n => match h[n]? with
      | some (.lst xs) => if xs.length < listMax then .ok .non (h.set n (.lst (xs ++ [d]))) else .bad
      | _ => .bad
    | _ => .bad
  | .extend o e, ρ, h => (evE C o ρ h).bind fun x h => need (isLst h x) <| (evE C e ρ h).bind fun d h => match x, vwL h d with
    | .ref n, some ys => match h[n]? with
      | some (.lst xs) => if xs.length + ys.length < listMax then .ok .non (h.set n (.lst (xs ++ ys))) else .bad
      | _ => .bad
    | _, _ => .bad
  | .pop o, ρ, h => (evE C o ρ h).bind fun x h => match x with
    | .ref n => match h[n]? with
      | some (.lst xs) => match xs[xs.length - 1]? with
        | some y => .ok y (h.set n (.lst xs.dropLast))
        | none => .bad
      | _ => .bad
    | _ => .bad
  | .popAt o i, ρ, h => (evE C o ρ h).bind fun x h => need (isLst h x) <| (evE C i ρ h).bind fun d h => match x, d with
    | .ref n, .int i => match h[n]? with
      | some (.lst xs) => match (if xs.length ≤ listMax then ixO xs.length i else none) with
        | some j => match xs[j]? with
          | some y => .ok y (h.set n (.lst (xs.eraseIdx j)))
          | none => .bad
        | none => .bad
      | _ => .bad
    | _, _ => .bad
  | .insert o i e, ρ, h => (evE C o ρ h).bind fun x h => need (isLst h x) <| (evE C i ρ h).bind fun d h => (evE C e ρ h).bind fun y h => match x, d with
    | .ref n, .int i => match h[n]? with
      | some (.lst xs) => if 0 ≤ i ∧ i ≤ xs.length ∧ xs.length < listMax then .ok .non (h.set n (.lst (xs.take i.toNat ++ y :: xs.drop i.toNat))) else .bad
      | _ => .bad
    | _, _ => .bad
  | .get o k d, ρ, h => (evE C o ρ h).bind fun x h => need (isDic h x) <| (evE C k ρ h).bind fun y h => (evE C d ρ h).bind fun z h => match vw h x with
    | .dic ks vs => if keyFits ks y = true then .ok ((dget (ks.zip vs) y).getD z) h else .bad
    | _ => .bad
  | .setdefault o k d, ρ, h => (evE C o ρ h).bind fun x h => need (isDic h x) <| (evE C k ρ h).bind fun y h => (evE C d ρ h).bind fun z h => match x with
    | .ref n => match h[n]? with
      | some (.dic kvs) => if kf kvs y = true ∧ kvs.length < listMax then (match dget kvs y with
          | some v => .ok v h
          | none => .ok z (h.set n (.dic (kvs ++ [(y, z)])))) else .bad
      | _ => .bad
    | _ => .bad
  | .update o e, ρ, h => (evE C o ρ h).bind fun x h => need (isDic h x) <| (evE C e ρ h).bind fun d h => match x, vw h d with
    | .ref n, .dic ks vs => match h[n]? with
      | some (.dic kvs) => if d ≠ .ref n ∧ (ks.zip vs).length + kvs.length < listMax ∧ leafs ks = true ∧ leafs (kvs.map (·.1)) = true then (R.ofO (dputs kvs (ks.zip vs)) h).bind fun r h => .ok .non (h.set n (.dic r)) else .bad
      | _ => .bad
    | _, _ => .bad
def evEo (C : Cal) : Eo → Env → MH → R (Option Int)
  | .no, _, h => .ok none h
  | .so e, ρ, h => (evE C e ρ h).bind fun d h => match d with
    | .int i => .ok (some i) h
    | _ => .bad
def evEs (C : Cal) : Es → Env → MH → R (List D)
  | .nil, _, h => .ok [] h
  | .cons e es, ρ, h => (evE C e ρ h).bind fun d h => (evEs C es ρ h).bind fun ds h => .ok (d :: ds) h
def evAnd (C : Cal) : Es → Env → MH → R D
  | .nil, _, h => .bad
  | .cons e .nil, ρ, h => evE C e ρ h
  | .cons e (.cons e2 es), ρ, h => (evE C e ρ h).bind fun d h => (R.ofO (tru d) h).bind fun k h => if k = true then evAnd C (.cons e2 es) ρ h else .ok (.bl false) h
def evOr (C : Cal) : Es → Env → MH → R D
  | .nil, _, h => .bad
  | .cons e .nil, ρ, h => evE C e ρ h
  | .cons e (.cons e2 es), ρ, h => (evE C e ρ h).bind fun d h => (R.ofO (tru d) h).bind fun k h => if k = true then .ok (.bl true) h else evOr C (.cons e2 es) ρ h
/-- a clause's tests -/
def evIfs (C : Cal) : Es → Env → MH → R Bool
  | .nil, _, h => .ok true h
  | .cons e .nil, ρ, h => (evE C e ρ h).bind fun d h => R.ofO (tru d) h
  | .cons _ (.cons _ _), _, _ => .bad
def evL (C : Cal) : L → Env → MH → R (List D)
  | .disp es, ρ, h => evEs C es ρ h
  | .ofs e, ρ, h => (evE C e ρ h).bind fun d h => match vw h d with
    | .lst xs => .ok xs h
    | .tup xs => .ok xs h
    | .dic ks _ => .ok ks h
    | _ => .bad
  | .sorted e, ρ, h => (evE C e ρ h).bind fun d h => R.ofO (opSort (vw h d)) h
  | .comp elt cls own, ρ, h => evCls (fun ρ h => (evE C elt ρ h).bind fun d h => .ok [d] h) C cls (wipeE ρ own) ρ h
  | .rep a n, ρ, h => (evE C a ρ h).bind fun x h => (evE C n ρ h).bind fun y h => match vwL h x, y with
    | some xs, .int n => if xs.length * n.toNat ≤ listMax ∧ -(2 ^ 63) ≤ n ∧ n < 2 ^ 63 then .ok (List.replicate n.toNat xs).flatten h else .bad
    | _, _ => .bad
  | .cat a b, ρ, h => (evE C a ρ h).bind fun x h => (evE C b ρ h).bind fun y h => match vw h x, vw h y with
    | .lst xs, .lst ys => if xs.length + ys.length ≤ listMax then .ok (xs ++ ys) h else .bad
    | _, _ => .bad
  | .ssort elt cls own, ρ, h => (evCls (fun ρ h => (evE C elt ρ h).bind fun d h => R.ofO (dInt d) h) C cls (wipeE ρ own) ρ h).bind fun ns h => if (isetI ns).length < 64 then .ok ((isetI ns).map D.int) h else .bad
def evDL (C : Cal) : DL → Env → MH → R (List (D × D))
  | .nil, _, h => .ok [] h
  | .ofs e, ρ, h => (evE C e ρ h).bind fun d h => match vw h d with
    | .dic ks vs => if ks.all (fun k => kOk k && k != .non && !k.isTup) = true then .ok (ks.zip vs) h else .bad
    | _ => .bad
  | .comp k v cls own, ρ, h => (evCls (fun ρ h => (evE C k ρ h).bind fun d h => (evE C v ρ h).bind fun e h => .ok [(d, e)] h) C cls (wipeE ρ own) ρ h).bind fun kvs h => R.ofO (dputs [] kvs) h
/-- what a loop walks: its items, the live list that they stand in -/
def evIt (C : Cal) : It → Env → MH → R (List D × Option (Nat × List D))
  | .seq e, ρ, h => (evE C e ρ h).bind fun d h => R.ofO (itemsOf h d) h
  | .range1 e, ρ, h => (evE C e ρ h).bind fun d h => match d with
    | .int j => if j < 2 ^ 62 ∧ -(2 ^ 62) ≤ j then .ok ((List.range j.toNat).map fun (k : Nat) => D.int k, none) h else .bad
    | _ => .bad
  | .range2 a b, ρ, h => (evE C a ρ h).bind fun x h => (evE C b ρ h).bind fun y h => match x, y with
    | .int i, .int j => if (j < 2 ^ 62 ∧ -(2 ^ 62) ≤ j) ∧ (i < 2 ^ 62 ∧ -(2 ^ 62) ≤ i) then .ok ((List.range (j - i).toNat).map fun (k : Nat) => D.int (i + k), none) h else .bad
    | _, _ => .bad
  | .enum e, ρ, h => (evE C e ρ h).bind fun d h => match d with
    | .lst xs => .ok ((xs.zipIdx).map fun p => D.tup [.int p.2, p.1], none) h
    | _ => .bad
  | .zip a b, ρ, h => (evE C a ρ h).bind fun x h => (evE C b ρ h).bind fun y h => match seqO x, seqO y with
    | some xs, some ys => .ok ((xs.zip ys).map fun p => D.tup [p.1, p.2], none) h
    | _, _ => .bad
/-- the clauses of a comprehension: the first one's walked thing is found outside (ρ), all else within (from ρw on) -/
def evCls {α : Type} (k : Env → MH → R (List α)) (C : Cal) : Cls → Env → Env → MH → R (List α)
  | .one t i ifs, ρw, ρ, h => (evIt C i ρ h).bind fun p h => need (decide (p.1.length ≤ listMax)) <| goC p.2 (fun x h => match asgT t x ρw with
    | some ρ1 => (evIfs C ifs ρ1 h).bind fun b h => if b = true then k ρ1 h else .ok [] h
    | none => .bad) p.1 h
  | .two t i ifs t2 i2 ifs2, ρw, ρ, h => (evIt C i ρ h).bind fun p h => need (decide (p.1.length ≤ 3000)) <| goC p.2 (fun x h => match asgT t x ρw with
    | some ρ1 => (evIfs C ifs ρ1 h).bind fun b h => if b = true then
        (evIt C i2 ρ1 h).bind fun p2 h => need (decide (p2.1.length ≤ 3000)) <| goC p2.2 (fun x2 h => match asgT t2 x2 (wipeE ρ1 t2.slots) with
          | some ρ2 => (evIfs C ifs2 ρ2 h).bind fun b h => if b = true then k ρ2 h else .ok [] h
          | none => .bad) p2.1 h
      else .ok [] h
    | none => .bad) p.1 h
end
end GM
end
section
set_option Elab.async false
set_option linter.all false
namespace GM
open PySem

/-- what a statement ends in -/
inductive RS where
  | nx (ρ : Env) (h : MH) | ret (d : D) (h : MH) | bk (ρ : Env) (h : MH) | ct (ρ : Env) (h : MH)
  | exc (c : Nat) (pl : List D) (ρ : Env) (h : MH) | bad
def bindE {α : Type} (r : R α) (ρ : Env) (f : α → MH → RS) : RS := match r with
  | .ok a h => f a h
  | .exc c pl h => .exc c pl ρ h
  | .bad => .bad
@[simp] theorem bindE_ok {α : Type} (a : α) (h : MH) (ρ : Env) (f : α → MH → RS) : bindE (.ok a h) ρ f = f a h := Eq.trans rfl rfl
@[simp] theorem bindE_exc {α : Type} (c pl h) (ρ : Env) (f : α → MH → RS) : bindE (.exc c pl h) ρ f = .exc c pl ρ h := Eq.trans rfl rfl
@[simp] theorem bindE_bad {α : Type} (ρ : Env) (f : α → MH → RS) : bindE (.bad : R α) ρ f = .bad := Eq.trans rfl rfl
def RS.bind (r : RS) (f : Env → MH → RS) : RS := match r with
  | .nx ρ h => f ρ h
  | r => r
@[simp] theorem RS.bind_nx (ρ : Env) (h : MH) (f : Env → MH → RS) : (RS.nx ρ h).bind f = f ρ h := Eq.trans rfl rfl
@[simp] theorem RS.bind_ret (d : D) (h : MH) (f : Env → MH → RS) : (RS.ret d h).bind f = .ret d h := Eq.trans rfl rfl
@[simp] theorem RS.bind_bk (ρ : Env) (h : MH) (f : Env → MH → RS) : (RS.bk ρ h).bind f = .bk ρ h := Eq.trans rfl rfl
@[simp] theorem RS.bind_ct (ρ : Env) (h : MH) (f : Env → MH → RS) : (RS.ct ρ h).bind f = .ct ρ h := Eq.trans rfl rfl
@[simp] theorem RS.bind_exc (c pl ρ h) (f : Env → MH → RS) : (RS.exc c pl ρ h).bind f = .exc c pl ρ h := Eq.trans rfl rfl
@[simp] theorem RS.bind_bad (f : Env → MH → RS) : (RS.bad).bind f = .bad := Eq.trans rfl rfl
/-- behind a loop's turn -/
def turnOf (r : RS) (f : Env → MH → RS) : RS := match r with
  | .nx ρ h => f ρ h
  | .ct ρ h => f ρ h
  | .bk ρ h => .nx ρ h
  | r => r
@[simp] theorem turnOf_nx (ρ : Env) (h : MH) (f : Env → MH → RS) : turnOf (RS.nx ρ h) f = f ρ h := Eq.trans rfl rfl
@[simp] theorem turnOf_ct (ρ : Env) (h : MH) (f : Env → MH → RS) : turnOf (RS.ct ρ h) f = f ρ h := Eq.trans rfl rfl
@[simp] theorem turnOf_bk (ρ : Env) (h : MH) (f : Env → MH → RS) : turnOf (RS.bk ρ h) f = .nx ρ h := Eq.trans rfl rfl
@[simp] theorem turnOf_ret (d : D) (h : MH) (f : Env → MH → RS) : turnOf (RS.ret d h) f = .ret d h := Eq.trans rfl rfl
@[simp] theorem turnOf_exc (c pl ρ h) (f : Env → MH → RS) : turnOf (RS.exc c pl ρ h) f = .exc c pl ρ h := Eq.trans rfl rfl
@[simp] theorem turnOf_bad (f : Env → MH → RS) : turnOf (RS.bad) f = .bad := Eq.trans rfl rfl

def whF (c : Env → MH → R D) (b : Env → MH → RS) : Nat → Env → MH → RS
  | 0, _, _ => .bad
  | n + 1, ρ, h => bindE (c ρ h) ρ fun d h => match tru d with
    | some true => turnOf (b ρ h) fun ρ h => whF c b n ρ h
    | some false => .nx ρ h
    | none => .bad
theorem whF_mono {c : Env → MH → R D} {b : Env → MH → RS} : ∀ (n : Nat) (ρ : Env) (h : MH), whF c b n ρ h ≠ .bad → whF c b (n + 1) ρ h = whF c b n ρ h := by
  intro n
  induction n with
  | zero => intro ρ h q; exact absurd rfl q
  | succ n ih =>
    intro ρ h q
    rw [whF, whF]
    rw [whF] at q
    cases e : c ρ h with
    | ok d h1 =>
      rw [e] at q
      simp only [bindE_ok] at q ⊢
      cases e2 : tru d with
      | none => rfl
      | some k =>
        cases k with
        | false => rfl
        | true =>
          simp only [e2] at q ⊢
          cases e3 : b ρ h1 with
          | nx ρ2 h2 =>
            rw [e3] at q
            simp only [turnOf_nx] at q ⊢
            exact ih _ _ q
          | ct ρ2 h2 =>
            rw [e3] at q
            simp only [turnOf_ct] at q ⊢
            exact ih _ _ q
          | ret _ _ => rfl
          | bk _ _ => rfl
          | exc _ _ _ _ => rfl
          | bad => rfl
    | exc _ _ _ => rfl
    | bad => rfl
theorem whF_le {c : Env → MH → R D} {b : Env → MH → RS} {n m : Nat} (hm : n ≤ m) (ρ : Env) (h : MH) (q : whF c b n ρ h ≠ .bad) : whF c b m ρ h = whF c b n ρ h := by
  induction hm with
  | refl => rfl
  | step _ ih =>
    rw [whF_mono _ _ _ (by rw [ih]; exact q)]
    exact ih
open Classical in
noncomputable def whE (c : Env → MH → R D) (b : Env → MH → RS) (ρ : Env) (h : MH) : RS :=
  if p : ∃ n, whF c b n ρ h ≠ .bad then whF c b p.choose ρ h else .bad
theorem whE_of {c : Env → MH → R D} {b : Env → MH → RS} {ρ : Env} {h : MH} {n : Nat} (q : whF c b n ρ h ≠ .bad) : whE c b ρ h = whF c b n ρ h := by
  have p : ∃ n, whF c b n ρ h ≠ .bad := ⟨n, q⟩
  unfold whE
  rw [dif_pos p]
  rcases Nat.le_total n p.choose with le | le
  · exact whF_le le ρ h q
  · exact (whF_le le ρ h p.choose_spec).symm
theorem whE_some {c : Env → MH → R D} {b : Env → MH → RS} {ρ : Env} {h : MH} (q : whE c b ρ h ≠ .bad) : ∃ n, whE c b ρ h = whF c b n ρ h := by
  unfold whE at q ⊢
  by_cases p : ∃ n, whF c b n ρ h ≠ .bad
  · rw [dif_pos p]
    exact ⟨_, rfl⟩
  · rw [dif_neg p] at q
    exact absurd rfl q
/-- a while loop, one turn -/
theorem whE_eq (c : Env → MH → R D) (b : Env → MH → RS) (ρ : Env) (h : MH) : whE c b ρ h = bindE (c ρ h) ρ fun d h => match tru d with
    | some true => turnOf (b ρ h) fun ρ h => whE c b ρ h
    | some false => .nx ρ h
    | none => .bad := by
  by_cases p : ∃ n, whF c b n ρ h ≠ .bad
  · obtain ⟨n, q⟩ := p
    rw [whE_of q]
    cases n with
    | zero => exact absurd rfl q
    | succ n =>
      rw [whF]
      rw [whF] at q
      cases e : c ρ h with
      | ok d h1 =>
        rw [e] at q
        simp only [bindE_ok] at q ⊢
        cases e2 : tru d with
        | none => rfl
        | some k =>
          cases k with
          | false => rfl
          | true =>
            simp only [e2] at q ⊢
            cases e3 : b ρ h1 with
            | nx ρ2 h2 =>
              rw [e3] at q
              simp only [turnOf_nx] at q ⊢
              exact (whE_of q).symm
            | ct ρ2 h2 =>
              rw [e3] at q
              simp only [turnOf_ct] at q ⊢
              exact (whE_of q).symm
            | ret _ _ => rfl
            | bk _ _ => rfl
            | exc _ _ _ _ => rfl
            | bad => rfl
      | exc _ _ _ => rfl
      | bad => rfl
  · have all : ∀ n, whF c b n ρ h = .bad := fun n => Classical.byContradiction fun q => p ⟨n, q⟩
    have e0 : whE c b ρ h = .bad := by unfold whE; rw [dif_neg p]
    rw [e0]
    cases e : c ρ h with
    | ok d h1 =>
      have a1 := all
      simp only [bindE_ok]
      cases e2 : tru d with
      | none => rfl
      | some k =>
        cases k with
        | false =>
          have z := all 1
          rw [whF, e] at z
          simp only [bindE_ok, e2] at z
          cases z
        | true =>
          simp only
          cases e3 : b ρ h1 with
          | nx ρ2 h2 =>
            simp only [turnOf_nx]
            refine (Classical.byContradiction fun q => ?_)
            obtain ⟨n, en⟩ := whE_some (fun z => q z.symm)
            have z := all (n + 1)
            rw [whF, e] at z
            simp only [bindE_ok, e2, e3, turnOf_nx] at z
            exact q (by rw [en, z])
          | ct ρ2 h2 =>
            simp only [turnOf_ct]
            refine (Classical.byContradiction fun q => ?_)
            obtain ⟨n, en⟩ := whE_some (fun z => q z.symm)
            have z := all (n + 1)
            rw [whF, e] at z
            simp only [bindE_ok, e2, e3, turnOf_ct] at z
            exact q (by rw [en, z])
          | ret _ _ =>
            have z := all 1
            rw [whF, e] at z
            simp only [bindE_ok, e2, e3, turnOf_ret] at z
            cases z
          | bk _ _ =>
            have z := all 1
            rw [whF, e] at z
            simp only [bindE_ok, e2, e3, turnOf_bk] at z
            cases z
          | exc _ _ _ _ =>
            have z := all 1
            rw [whF, e] at z
            simp only [bindE_ok, e2, e3, turnOf_exc] at z
            cases z
          | bad => rfl
    | exc _ _ _ =>
      have z := all 1
      rw [whF, e] at z
      simp only [bindE_exc] at z
      cases z
    | bad => rfl
/-- a for loop -/
def frE (src : Option (Nat × List D)) (t : Tg) (b : Env → MH → RS) : List D → Env → MH → RS
  | [], ρ, h => if srcOk src h then .nx ρ h else .bad
  | x :: xs, ρ, h => if srcOk src h then
      match asgT t x ρ with
      | some ρ1 => turnOf (b ρ1 h) fun ρ h => frE src t b xs ρ h
      | none => .bad
    else .bad

def frzL (g : D → MH → Option (D × MH)) : List D → MH → Option (List D × MH)
  | [], h => some ([], h)
  | d :: ds, h => match g d h with
    | some (d', h') => (frzL g ds h').map fun p => (d' :: p.1, p.2)
    | none => none
/-- what is live from k on becomes pure data: deep; what was live there is dead -/
def frzD (k : Nat) : Nat → D → MH → Option (D × MH)
  | 0, _, _ => none
  | f + 1, .ref n, h => if n < k then some (.ref n, h) else match h[n]? with
    | some (.lst xs) => (frzL (frzD k f) xs (h.set n .dead)).map fun p => (.lst p.1, p.2)
    | some (.dic kvs) => if D.nrs k (kvs.map (·.1)) = true then (frzL (frzD k f) (kvs.map (·.2)) (h.set n .dead)).map fun p => (.dic (kvs.map (·.1)) p.1, p.2) else none
    | _ => none
  | _ + 1, d, h => if D.nr k d = true then some (d, h) else none
def frzN : Nat := 8

section
variable (sub : Nat → Nat → Bool) (C : Cal)
mutual
noncomputable def evS : S → Env → MH → RS
  | .asg t e, ρ, h => bindE (evE C e ρ h) ρ fun d h => match asgT t d ρ with
    | some ρ1 => .nx ρ1 h
    | none => .bad
  | .asg2 i j a b, ρ, h => bindE (evE C a ρ h) ρ fun x h => bindE (evE C b ρ h) ρ fun y h => if i < ρ.length ∧ j < ρ.length ∧ i ≠ j then .nx ((ρ.set i (some x)).set j (some y)) h else .bad
  | .setI o i e, ρ, h => bindE (evE C e ρ h) ρ fun d h => bindE (evE C o ρ h) ρ fun x h => bindE (evE C i ρ h) ρ fun y h => match x with
    | .ref n => match h[n]?, y with
      | some (.lst xs), .int k => match ixO xs.length k with
        | some j => .nx ρ (h.set n (.lst (xs.set j d)))
        | none => .bad
      | some (.dic kvs), y => if kf kvs y = true ∧ kvs.length < listMax then .nx ρ (h.set n (.dic (dput kvs y d))) else .bad
      | _, _ => .bad
    | _ => .bad
  | .setSl o a b e, ρ, h => .bad
  | .aug i o e, ρ, h => match ρ[i]? with
    | some (some x) => bindE (evE C e ρ h) ρ fun y h => match x, y with
      | .int p, .int q => match opBin o (.int p) (.int q) with
        | some z => if o = .add ∨ o = .sub then .nx (ρ.set i (some z)) h else .bad
        | none => .bad
      | _, _ => .bad
    | _ => .bad
  | .augI x i o e, ρ, h => .bad
  | .ex e, ρ, h => bindE (evE C e ρ h) ρ fun _ h => .nx ρ h
  | .ret e, ρ, h => bindE (evE C e ρ h) ρ fun d h => .ret d h
  | .retN, ρ, h => .ret .non h
  | .ite c a b, ρ, h => bindE (evE C c ρ h) ρ fun d h => match tru d with
    | some true => evSs a ρ h
    | some false => evSs b ρ h
    | none => .bad
  | .wh c b, ρ, h => whE (fun ρ h => evE C c ρ h) (fun ρ h => evSs b ρ h) ρ h
  | .fr t i b, ρ, h => bindE (evIt C i ρ h) ρ fun p h => frE p.2 t (fun ρ h => evSs b ρ h) p.1 ρ h
  | .raise c, ρ, h => .exc c [] ρ h
  | .tr b hs, ρ, h => match evSs b ρ h with
    | .exc c pl ρ1 h1 => evHs c pl hs ρ1 h1
    | r => r
  | .pass, ρ, h => .nx ρ h
  | .brk, ρ, h => .bk ρ h
  | .cont, ρ, h => .ct ρ h
  | .wipe is, ρ, h => .nx (wipeE ρ is) h
  | .freeze i, ρ, h => match ρ[i]? with
    | some (some d) => match frzD 0 frzN d h with
      | some (d', h') => .nx (ρ.set i (some d')) h'
      | none => .bad
    | _ => .bad
noncomputable def evSs : Ss → Env → MH → RS
  | .nil, ρ, h => .nx ρ h
  | .cons s ss, ρ, h => (evS s ρ h).bind fun ρ h => evSs ss ρ h
noncomputable def evHs (c : Nat) (pl : List D) : Hs → Env → MH → RS
  | .nil, ρ, h => .exc c pl ρ h
  | .cons c2 b hs, ρ, h => if sub c c2 = true then evSs b ρ h else evHs c pl hs ρ h
end
end

/-- a def: its parameters, its slots, its body; what it tells is live (not frozen); what it made stays (nothing is let go) -/
structure FD where
  np : Nat
  nl : Nat
  body : Ss
  live : Bool := false
  keep : Bool := false

def LO.nr (k : Nat) : LO → Bool
  | .lst ds => D.nrs k ds
  | .dic kvs => D.nrs k (kvs.map (·.1)) && D.nrs k (kvs.map (·.2))
  | .dead => true
  | .ins _ fs => D.nrs k (fs.map (·.2))
/-- no older object leans on a newer one -/
def cutOk (k : Nat) : MH → MH → Bool
  | [], _ => true
  | o :: os, p :: ps => (decide (p = o) || p.nr k) && cutOk k os ps
  | _ :: _, [] => false
/-- behind a def: what it made goes, but what it tells -/
def exit1 (live keep : Bool) (h0 : MH) (d : D) (h : MH) : R D :=
  if keep = true ∨ h.length = h0.length then .ok d h
  else if cutOk h0.length h0 h = true then
    (if live = true then match d with
      | .ref n => if n < h0.length then .ok d (h.take h0.length) else match h[n]? with
        | some (.lst xs) => if D.nrs h0.length xs = true then .ok (.ref h0.length) (h.take h0.length ++ [.lst xs]) else .bad
        | some (.dic kvs) => if D.nrs h0.length (kvs.map (·.1)) && D.nrs h0.length (kvs.map (·.2)) then .ok (.ref h0.length) (h.take h0.length ++ [.dic kvs]) else .bad
        | _ => .bad
      | d => if D.nr h0.length d = true then .ok d (h.take h0.length) else .bad
    else match frzD h0.length frzN d h with
      | some (d, _) => .ok d (h.take h0.length)
      | none => .bad)
  else .bad
def exitF (fd : FD) (h0 : MH) : RS → R D
  | .ret d h => exit1 fd.live fd.keep h0 d h
  | .nx _ h => exit1 fd.live fd.keep h0 .non h
  | .exc c pl _ h => if fd.keep = true ∨ h.length = h0.length then .exc c pl h else if cutOk h0.length h0 h = true then .exc c pl (h.take h0.length) else .bad
  | _ => .bad
noncomputable def run (sub : Nat → Nat → Bool) (prog : Nat → Option FD) : Nat → Cal
  | 0, _, _, _ => .bad
  | n + 1, f, as, h => match prog f with
    | some fd => if as.length = fd.np ∧ fd.np ≤ fd.nl then exitF fd h (evSs sub (run sub prog n) fd.body (as.map some ++ List.replicate (fd.nl - fd.np) none) h) else .bad
    | none => .bad
end GM
end
section
set_option Elab.async false
set_option linter.all false
set_option maxRecDepth 100000
namespace GM
open PySem PySem.Spec PyProof.Rows L2

mutual
/-- a key as the library has it -/
def D.nk : D → NestedKey
  | .int i => .num i
  | .str s => .text s
  | .tup ds => .tup (D.nks ds)
  | _ => .none
def D.nks : List D → List NestedKey
  | [] => []
  | d :: ds => D.nk d :: D.nks ds
end
def leafD : Key → D
  | .inl i => .int i
  | .inr s => .str s

structure Sys where
  P : Program
  w : World
  K : PySem.W.Frag
  fa : Nat → Addr
  ca : Nat → Addr

variable (S : Sys)
/-- a dict whose keys are tuples, at a -/
def DX (a : Addr) (xs : List (NestedKey × Addr × Value)) : HO := .ext fun h => (a == sysModules) = false ∧ xs.length ≤ sizeLine ∧
  ∃ o arr ep, h.get? a = some o ∧ o.ExactDict ∧ o.data = .dict arr ep ∧ arr.toList = xs.map (entryOfKey (nestedKind S.P S.w)) ∧ (xs.map (·.1)).Nodup

/-- a list that never changes again -/
def Fz (H : Hp) (a : Addr) (vs : List V) : Prop := (∃ o, H a = some (.frz o (.lst vs))) ∨
  ∃ (o : Obj) (its : Array Value) (n : Nat), S.K.lookup a = some o ∧ o.cls = .type "list" ∧ o.dict = none ∧ o.data = .seq its n ∧ its.size ≤ sizeLine ∧ Vals vs its.toList
theorem Fz.sq {S : Sys} {H : Hp} {a : Addr} {vs : List V} (h : Fz S H a vs) : SqL S.K H a vs := by
  rcases h with ⟨o, h⟩ | h
  · exact .inl (.inr ⟨o, h⟩)
  · exact .inr h

mutual
def RD (H : Hp) (μ : Nat → Addr) (L : Nat) : D → V → Prop
  | .non, v => v = .non
  | .bl b, v => v = .bl b
  | .int i, v => v = .int i
  | .str s, v => v = .str s
  | .tup ds, v => ∃ a vs, v = .ref a ∧ SqT S.K H a vs ∧ RDs H μ L ds vs
  | .lst ds, v => ∃ a vs, v = .ref a ∧ Fz S H a vs ∧ RDs H μ L ds vs
  | .dic ks ws, v => ∃ a o, v = .ref a ∧ ((∃ kvs : List (Key × V), H a = some (.frz o (.dK kvs)) ∧ ks = kvs.map (fun p => leafD p.1) ∧ RDs H μ L ws (kvs.map (·.2))) ∨
      ∃ (xs : List (NestedKey × Addr × Value)) (us : List V), H a = some (.frz o (DX S a xs)) ∧ ks.all kOk = true ∧ D.nks ks = xs.map (·.1) ∧ RDs H μ L ks (xs.map fun x => V.ref x.2.1) ∧ Vals us (xs.map (·.2.2)) ∧ RDs H μ L ws us)
  | .set _, _ => False
  | .ref n, v => n < L ∧ v = .ref (μ n)
  | .fn f, v => v = .ref (S.fa f)
  | .clo _ _, _ => False
def RDs (H : Hp) (μ : Nat → Addr) (L : Nat) : List D → List V → Prop
  | [], vs => vs = []
  | d :: ds, vs => ∃ v ws, vs = v :: ws ∧ RD H μ L d v ∧ RDs H μ L ds ws
end

structure HX (H H' : Hp) : Prop where
  tup : ∀ a xs, H a = some (.tup xs) → H' a = some (.tup xs)
  frz : ∀ a o u, H a = some (.frz o u) → H' a = some (.frz o u)
theorem HX.refl (H : Hp) : HX H H := ⟨fun _ _ h => h, fun _ _ _ h => h⟩
theorem HX.trans {H1 H2 H3 : Hp} (a : HX H1 H2) (b : HX H2 H3) : HX H1 H3 := ⟨fun _ _ h => b.tup _ _ (a.tup _ _ h), fun _ _ _ h => b.frz _ _ _ (a.frz _ _ _ h)⟩
theorem HX.of {H H' : Hp} (a : Same H H') : HX H H' := ⟨fun _ _ h => a _ _ h, fun _ _ _ h => a _ _ h⟩
variable {S}
theorem Fz.mono {H H' : Hp} {a : Addr} {vs : List V} (x : HX H H') (h : Fz S H a vs) : Fz S H' a vs := by
  rcases h with ⟨o, h⟩ | h
  · exact .inl ⟨o, x.frz _ _ _ h⟩
  · exact .inr h
theorem sqT_mono {H H' : Hp} {a : Addr} {vs : List V} (x : HX H H') (h : SqT S.K H a vs) : SqT S.K H' a vs := by
  rcases h with (h | ⟨o, h⟩) | h
  · exact .inl (.inl (x.tup _ _ h))
  · exact .inl (.inr ⟨o, x.frz _ _ _ h⟩)
  · exact .inr h
mutual
theorem RD.mono {H H' : Hp} {μ μ' : Nat → Addr} {L L' : Nat} (x : HX H H') (m : ∀ n, n < L → μ' n = μ n) (l : L ≤ L') : ∀ {d : D} {v : V}, RD S H μ L d v → RD S H' μ' L' d v
  | .non, _, h => h
  | .bl _, _, h => h
  | .int _, _, h => h
  | .str _, _, h => h
  | .tup ds, _, ⟨a, vs, e, h, r⟩ => ⟨a, vs, e, sqT_mono x h, RDs.mono x m l r⟩
  | .lst ds, _, ⟨a, vs, e, h, r⟩ => ⟨a, vs, e, h.mono x, RDs.mono x m l r⟩
  | .dic ks ws, _, h => by
    obtain ⟨a, o, e, h⟩ := h
    refine ⟨a, o, e, ?_⟩
    rcases h with ⟨kvs, h, e2, r⟩ | ⟨xs, us, h, e1, e2, r, r2, r3⟩
    · exact .inl ⟨kvs, x.frz _ _ _ h, e2, RDs.mono x m l r⟩
    · exact .inr ⟨xs, us, x.frz _ _ _ h, e1, e2, RDs.mono x m l r, r2, RDs.mono x m l r3⟩
  | .set _, _, h => h.elim
  | .ref n, _, ⟨h, e⟩ => ⟨Nat.lt_of_lt_of_le h l, by rw [e, m n h]⟩
  | .fn _, _, h => h
  | .clo _ _, _, h => h.elim
theorem RDs.mono {H H' : Hp} {μ μ' : Nat → Addr} {L L' : Nat} (x : HX H H') (m : ∀ n, n < L → μ' n = μ n) (l : L ≤ L') : ∀ {ds : List D} {vs : List V}, RDs S H μ L ds vs → RDs S H' μ' L' ds vs
  | [], _, h => h
  | _ :: _, _, ⟨v, ws, e, r, rs⟩ => ⟨v, ws, e, RD.mono x m l r, RDs.mono x m l rs⟩
end
theorem RDs.nil {H : Hp} {μ : Nat → Addr} {L : Nat} : RDs S H μ L [] [] := rfl
theorem RDs.cons {H : Hp} {μ : Nat → Addr} {L : Nat} {d : D} {v : V} {ds : List D} {vs : List V} (a : RD S H μ L d v) (b : RDs S H μ L ds vs) : RDs S H μ L (d :: ds) (v :: vs) := ⟨v, vs, rfl, a, b⟩
theorem RDs.length {H : Hp} {μ : Nat → Addr} {L : Nat} : ∀ {ds : List D} {vs : List V}, RDs S H μ L ds vs → ds.length = vs.length
  | [], _, h => by rw [show _ = [] from h]; rfl
  | _ :: _, _, ⟨v, ws, e, r, rs⟩ => by rw [e, List.length_cons, List.length_cons, RDs.length rs]
theorem RDs.get {H : Hp} {μ : Nat → Addr} {L : Nat} : ∀ {ds : List D} {vs : List V} {i : Nat} {d : D}, RDs S H μ L ds vs → ds[i]? = some d → ∃ v, vs[i]? = some v ∧ RD S H μ L d v
  | [], _, _, _, _, e => by simp at e
  | _ :: _, _, 0, _, ⟨v, ws, e, r, rs⟩, q => by
    subst e
    have q' := Option.some.inj (show some _ = some _ from q)
    subst q'
    exact ⟨v, rfl, r⟩
  | _ :: _, _, i + 1, _, ⟨v, ws, e, r, rs⟩, q => by
    subst e
    obtain ⟨u, a, b⟩ := RDs.get (i := i) rs (by simpa using q)
    exact ⟨u, by simpa using a, b⟩
theorem RDs.get' {H : Hp} {μ : Nat → Addr} {L : Nat} : ∀ {ds : List D} {vs : List V} {i : Nat} {v : V}, RDs S H μ L ds vs → vs[i]? = some v → ∃ d, ds[i]? = some d ∧ RD S H μ L d v
  | [], _, _, _, h, e => by rw [show _ = [] from h] at e; simp at e
  | d :: _, _, 0, _, ⟨v, ws, e, r, rs⟩, q => by
    subst e
    have q' := Option.some.inj (show some _ = some _ from q)
    subst q'
    exact ⟨d, rfl, r⟩
  | _ :: _, _, i + 1, _, ⟨v, ws, e, r, rs⟩, q => by
    subst e
    obtain ⟨u, a, b⟩ := RDs.get' (i := i) rs (by simpa using q)
    exact ⟨u, by simpa using a, b⟩
theorem RDs.append {H : Hp} {μ : Nat → Addr} {L : Nat} : ∀ {ds es : List D} {vs ws : List V}, RDs S H μ L ds vs → RDs S H μ L es ws → RDs S H μ L (ds ++ es) (vs ++ ws)
  | [], _, _, _, h, r => by rw [show _ = [] from h]; exact r
  | _ :: _, _, _, _, ⟨v, us, e, a, b⟩, r => by subst e; exact .cons a (RDs.append b r)
theorem RDs.take {H : Hp} {μ : Nat → Addr} {L : Nat} : ∀ {ds : List D} {vs : List V} (n : Nat), RDs S H μ L ds vs → RDs S H μ L (ds.take n) (vs.take n)
  | [], _, n, h => by rw [show _ = [] from h]; simp; exact .nil
  | _ :: _, _, 0, _ => by simp; exact .nil
  | _ :: _, _, n + 1, ⟨v, us, e, a, b⟩ => by subst e; exact .cons a (RDs.take n b)
theorem RDs.drop {H : Hp} {μ : Nat → Addr} {L : Nat} : ∀ {ds : List D} {vs : List V} (n : Nat), RDs S H μ L ds vs → RDs S H μ L (ds.drop n) (vs.drop n)
  | [], _, n, h => by rw [show _ = [] from h]; simp; exact .nil
  | _ :: _, _, 0, h => h
  | _ :: _, _, n + 1, ⟨v, us, e, a, b⟩ => by subst e; exact RDs.drop n b
theorem RDs.set {H : Hp} {μ : Nat → Addr} {L : Nat} {d : D} {v : V} (q : RD S H μ L d v) : ∀ {ds : List D} {vs : List V} (n : Nat), RDs S H μ L ds vs → RDs S H μ L (ds.set n d) (vs.set n v)
  | [], _, n, h => by rw [show _ = [] from h]; simp; exact .nil
  | _ :: _, _, 0, ⟨v, us, e, a, b⟩ => by subst e; exact .cons q b
  | _ :: _, _, n + 1, ⟨v, us, e, a, b⟩ => by subst e; exact .cons a (RDs.set q n b)
theorem RDs.eraseIdx {H : Hp} {μ : Nat → Addr} {L : Nat} : ∀ {ds : List D} {vs : List V} (n : Nat), RDs S H μ L ds vs → RDs S H μ L (ds.eraseIdx n) (vs.eraseIdx n)
  | [], _, n, h => by rw [show _ = [] from h]; simp; exact .nil
  | _ :: _, _, 0, ⟨v, us, e, a, b⟩ => by subst e; exact b
  | _ :: _, _, n + 1, ⟨v, us, e, a, b⟩ => by subst e; exact .cons a (RDs.eraseIdx n b)
theorem RDs.dropLast {H : Hp} {μ : Nat → Addr} {L : Nat} {ds : List D} {vs : List V} (h : RDs S H μ L ds vs) : RDs S H μ L ds.dropLast vs.dropLast := by
  rw [List.dropLast_eq_take, List.dropLast_eq_take, h.length]
  exact h.take _

/-- a live object of mine and what is tracked -/
def OS (S : Sys) (H : Hp) (μ : Nat → Addr) (L : Nat) : LO → Addr → Prop
  | .lst ds, a => ∃ vs, H a = some (.lst vs) ∧ RDs S H μ L ds vs
  | .dic kvs, a => (∃ ps : List (Key × V), H a = some (.dK ps) ∧ kvs.map (·.1) = ps.map (fun p => leafD p.1) ∧ RDs S H μ L (kvs.map (·.2)) (ps.map (·.2))) ∨
      ∃ (xs : List (NestedKey × Addr × Value)) (us : List V), H a = some (DX S a xs) ∧ (kvs.map (·.1)).all kOk = true ∧ D.nks (kvs.map (·.1)) = xs.map (·.1) ∧ RDs S H μ L (kvs.map (·.1)) (xs.map fun x => V.ref x.2.1) ∧ Vals us (xs.map (·.2.2)) ∧ RDs S H μ L (kvs.map (·.2)) us
  | .ins _ _, _ => False
  | .dead, a => ∃ o u, H a = some (.frz o u)
structure SimH (S : Sys) (μ : Nat → Addr) (h : MH) (H : Hp) : Prop where
  inj : ∀ i j o p, h[i]? = some o → h[j]? = some p → o ≠ .dead → p ≠ .dead → μ i = μ j → i = j
  obj : ∀ i o, h[i]? = some o → OS S H μ h.length o (μ i)
structure Ext (μ : Nat → Addr) (h : MH) (H : Hp) (μ' : Nat → Addr) (h' : MH) (H' : Hp) : Prop where
  hx : HX H H'
  mu : ∀ n, n < h.length → μ' n = μ n
  len : h.length ≤ h'.length
  fr : ∀ a o, H a = some o → (∀ i, i < h.length → μ i ≠ a) → H' a = some o
  nw : ∀ i, h.length ≤ i → i < h'.length → H (μ' i) = none
  kp : ∀ a, H a ≠ none → H' a ≠ none
theorem Ext.refl (μ : Nat → Addr) (h : MH) (H : Hp) : Ext μ h H μ h H := ⟨.refl H, fun _ _ => rfl, Nat.le_refl _, fun _ _ e _ => e, fun _ a b => absurd (Nat.lt_of_lt_of_le b a) (Nat.lt_irrefl _), fun _ e => e⟩
theorem Ext.trans {μ h H μ1 h1 H1 μ2 h2 H2} (a : Ext μ h H μ1 h1 H1) (b : Ext μ1 h1 H1 μ2 h2 H2) : Ext μ h H μ2 h2 H2 := by
  refine ⟨a.hx.trans b.hx, fun n q => (b.mu n (Nat.lt_of_lt_of_le q a.len)).trans (a.mu n q), Nat.le_trans a.len b.len, fun c o e n => ?_, fun i l1 l2 => ?_, fun c e => b.kp c (a.kp c e)⟩
  · refine b.fr c o (a.fr c o e n) fun i hi q => ?_
    by_cases hl : i < h.length
    · exact n i hl ((a.mu i hl).symm.trans q)
    · have z := a.nw i (Nat.le_of_not_lt hl) hi
      rw [q, e] at z; cases z
  · by_cases hl : i < h1.length
    · rw [b.mu i hl]; exact a.nw i l1 hl
    · refine Classical.byContradiction fun c => ?_
      exact a.kp _ c (b.nw i (Nat.le_of_not_lt hl) l2)
theorem Ext.sm {μ : Nat → Addr} {h : MH} {H H' : Hp} (x : Same H H') : Ext μ h H μ h H' :=
  ⟨.of x, fun _ _ => rfl, Nat.le_refl _, fun _ _ e _ => x _ _ e, fun _ a b => absurd (Nat.lt_of_lt_of_le b a) (Nat.lt_irrefl _), fun a e => by
    cases q : H a with
    | none => exact absurd q e
    | some o => rw [x _ _ q]; exact fun c => nomatch c⟩
theorem RD.ext {μ h H μ' h' H'} (e : Ext μ h H μ' h' H') {d : D} {v : V} (r : RD S H μ h.length d v) : RD S H' μ' h'.length d v := r.mono e.hx e.mu e.len
theorem RDs.ext {μ h H μ' h' H'} (e : Ext μ h H μ' h' H') {d : List D} {v : List V} (r : RDs S H μ h.length d v) : RDs S H' μ' h'.length d v := r.mono e.hx e.mu e.len

def SimE (S : Sys) (ρ : Env) (σ : L2.St) (H : Hp) (μ : Nat → Addr) (L : Nat) : Prop := ρ.length = σ.length ∧ ∀ (i : Nat) (d : D), ρ[i]? = some (some d) → ∃ v, σ[i]? = some (some v) ∧ RD S H μ L d v
theorem SimE.ext {μ h H μ' h' H'} (e : Ext μ h H μ' h' H') {ρ : Env} {σ : L2.St} (r : SimE S ρ σ H μ h.length) : SimE S ρ σ H' μ' h'.length :=
  ⟨r.1, fun i d q => let ⟨v, a, b⟩ := r.2 i d q; ⟨v, a, b.ext e⟩⟩
theorem SimE.set {ρ : Env} {σ : L2.St} {H : Hp} {μ : Nat → Addr} {L : Nat} (r : SimE S ρ σ H μ L) {d : D} {v : V} (q : RD S H μ L d v) (i : Nat) : SimE S (ρ.set i (some d)) (σ.set i (some v)) H μ L := by
  refine ⟨by rw [List.length_set, List.length_set, r.1], fun j e h => ?_⟩
  by_cases hj : i = j
  · subst hj
    by_cases hl : i < ρ.length
    · rw [List.getElem?_set_self hl] at h
      have h' := Option.some.inj (Option.some.inj h)
      subst h'
      exact ⟨v, List.getElem?_set_self (by rw [← r.1]; exact hl), q⟩
    · rw [List.getElem?_eq_none (by simpa using hl)] at h
      cases h
  · rw [List.getElem?_set_ne hj] at h
    obtain ⟨u, a, b⟩ := r.2 j e h
    exact ⟨u, by rw [List.getElem?_set_ne hj]; exact a, b⟩

/-- what an evaluation promises: σ the slots, W the wish of exceptions -/
def Post {α β : Type} (S : Sys) (Rl : Hp → (Nat → Addr) → Nat → α → β → Prop) (W : WX) (σ : L2.St) (μ : Nat → Addr) (h : MH) (H : Hp) (r : R α) (Q : β → Hp → Prop) : Prop := match r with
  | .ok a h' => ∀ μ' H' v, Ext μ h H μ' h' H' → SimH S μ' h' H' → Rl H' μ' h'.length a v → Q v H'
  | .exc c pl h' => ∀ μ' H', Ext μ h H μ' h' H' → SimH S μ' h' H' → W (.ref (S.ca c)) none σ H'
  | .bad => False
theorem Post.rebase {α β : Type} {Rl : Hp → (Nat → Addr) → Nat → α → β → Prop} {W : WX} {σ : L2.St} {μ h H μ1 h1 H1} {r : R α} {Q : β → Hp → Prop} (e : Ext μ h H μ1 h1 H1) (p : Post S Rl W σ μ h H r Q) : Post S Rl W σ μ1 h1 H1 r Q := by
  cases r with
  | ok a h' => exact fun μ' H' v e' => p μ' H' v (e.trans e')
  | exc c pl h' => exact fun μ' H' e' => p μ' H' (e.trans e')
  | bad => exact p
theorem Post.split {α β γ δ : Type} {Rl : Hp → (Nat → Addr) → Nat → α → β → Prop} {Rl' : Hp → (Nat → Addr) → Nat → γ → δ → Prop} {W : WX} {σ : L2.St} {μ h H} {r : R γ} {f : γ → MH → R α} {Q : β → Hp → Prop}
    (p : Post S Rl W σ μ h H (r.bind f) Q) : Post S Rl' W σ μ h H r fun v H1 => ∃ μ1 d h1, Ext μ h H μ1 h1 H1 ∧ SimH S μ1 h1 H1 ∧ Rl' H1 μ1 h1.length d v ∧ Post S Rl W σ μ1 h1 H1 (f d h1) Q := by
  cases r with
  | ok a h' => exact fun μ' H' v e s q => ⟨μ', a, h', e, s, q, p.rebase e⟩
  | exc c pl h' => exact p
  | bad => exact p
theorem OS.same {H H' : Hp} {μ : Nat → Addr} {L : Nat} (x : Same H H') {o : LO} {a : Addr} (h : OS S H μ L o a) : OS S H' μ L o a := by
  have m : ∀ {d : List D} {v : List V}, RDs S H μ L d v → RDs S H' μ L d v := fun r => r.mono (.of x) (fun _ _ => rfl) (Nat.le_refl _)
  cases o with
  | lst ds => exact let ⟨vs, a, b⟩ := h; ⟨vs, x _ _ a, m b⟩
  | dic kvs =>
    rcases h with ⟨ps, a, b, c⟩ | ⟨xs, us, a, b0, b, c, d, e⟩
    · exact .inl ⟨ps, x _ _ a, b, m c⟩
    · exact .inr ⟨xs, us, x _ _ a, b0, b, m c, d, m e⟩
  | ins _ _ => exact h
  | dead => exact let ⟨p, u, e⟩ := h; ⟨p, u, x _ _ e⟩
theorem SimH.same {μ h H H'} (s : SimH S μ h H) (x : Same H H') : SimH S μ h H' := ⟨s.inj, fun i o q => (s.obj i o q).same x⟩
theorem same_upd {H : Hp} {p : Addr} {o : HO} (n : H p = none) : Same H (upd H p o) := fun b u e => by rw [upd_ne (ne_of_none e n)]; exact e

/-- what a value reads as, through a live list or dict -/
def VD (S : Sys) (H : Hp) (μ : Nat → Addr) (L : Nat) : D → V → Prop
  | .lst ds, v => ∃ a vs, v = .ref a ∧ SqL S.K H a vs ∧ RDs S H μ L ds vs
  | .dic ks ws, v => ∃ a, v = .ref a ∧ ((∃ kvs : List (Key × V), Rd H a (.dK kvs) ∧ ks = kvs.map (fun p => leafD p.1) ∧ RDs S H μ L ws (kvs.map (·.2))) ∨
      ∃ (xs : List (NestedKey × Addr × Value)) (us : List V), Rd H a (DX S a xs) ∧ ks.all kOk = true ∧ D.nks ks = xs.map (·.1) ∧ RDs S H μ L ks (xs.map fun x => V.ref x.2.1) ∧ Vals us (xs.map (·.2.2)) ∧ RDs S H μ L ws us)
  | d, v => RD S H μ L d v
theorem RD.vd {H : Hp} {μ : Nat → Addr} {L : Nat} {d : D} {v : V} (r : RD S H μ L d v) : VD S H μ L d v := by
  cases d with
  | lst ds => exact let ⟨a, vs, e, f, q⟩ := r; ⟨a, vs, e, f.sq, q⟩
  | dic ks ws =>
    obtain ⟨a, o, e, q⟩ := r
    refine ⟨a, e, ?_⟩
    rcases q with ⟨kvs, h, q⟩ | ⟨xs, us, h, q⟩
    · exact .inl ⟨kvs, .inr ⟨o, h⟩, q⟩
    · exact .inr ⟨xs, us, .inr ⟨o, h⟩, q⟩
  | _ => exact r
theorem vw_ok {μ h H} (s : SimH S μ h H) {d : D} {v : V} (r : RD S H μ h.length d v) : VD S H μ h.length (vw h d) v := by
  cases d with
  | ref n =>
    obtain ⟨hn, e⟩ := r
    subst e
    cases q : h[n]? with
    | none => rw [show vw h (.ref n) = .ref n by simp only [vw, q]]; exact ⟨hn, rfl⟩
    | some o =>
      have z := s.obj n o q
      cases o with
      | lst ds => rw [show vw h (.ref n) = .lst ds by simp only [vw, q]]; exact let ⟨vs, a, b⟩ := z; ⟨_, vs, rfl, .of a, b⟩
      | dic kvs =>
        rw [show vw h (.ref n) = .dic (kvs.map (·.1)) (kvs.map (·.2)) by simp only [vw, q]]
        refine ⟨_, rfl, ?_⟩
        rcases z with ⟨ps, a, b⟩ | ⟨xs, us, a, b⟩
        · exact .inl ⟨ps, .inl a, b⟩
        · exact .inr ⟨xs, us, .inl a, b⟩
      | ins _ _ => rw [show vw h (.ref n) = .ref n by simp only [vw, q]]; exact ⟨hn, rfl⟩
      | dead => rw [show vw h (.ref n) = .ref n by simp only [vw, q]]; exact ⟨hn, rfl⟩
  | _ => exact r.vd
end GM
end
section
set_option Elab.async false
set_option linter.all false
set_option maxRecDepth 100000
namespace GM
open PySem PySem.Spec PyProof.Rows L2

/-- where the defs and the exceptions' classes stand -/
structure Tab where
  fa : Nat → Addr
  ca : Nat → Addr
abbrev sysOf (X : Cx) (T : Tab) : Sys := ⟨X.prog, X.w, X.K, T.fa, T.ca⟩

section
variable {X : Cx} {T : Tab} {pins : List (Addr × Obj)} {σ : L2.St} {H : Hp} {s : Shared} {μ : Nat → Addr} {L : Nat}
mutual
theorem reads_of (I : Inv X pins σ H s) : ∀ {d : D} {v : V} {u : Value}, d.pl = true → RD (sysOf X T) H μ L d v → RelV v u → ∃ as, Reads s.heap u d.py as
  | .non, _, _, _, h, r => by subst h; cases r; exact ⟨_, .none⟩
  | .bl b, _, _, _, h, r => by subst h; cases r; exact ⟨_, .bool b⟩
  | .int i, _, _, _, h, r => by subst h; obtain ⟨t, rfl⟩ := r; exact ⟨_, .int i t⟩
  | .str x, _, _, _, h, r => by subst h; obtain ⟨t, rfl⟩ := r; exact ⟨_, .str x t⟩
  | .tup ds, _, u, hp, h, r => by
    obtain ⟨a, vs, e, q, rs⟩ := h
    subst e
    obtain rfl : u = Value.ref a := r
    obtain ⟨its, rv, ⟨o, ho, hc, n, hd⟩, _⟩ := I.tuple q
    obtain ⟨as, ra⟩ := readsAll_of I (by simpa [D.pl] using hp) rs rv
    exact ⟨as, .tuple ho hc hd (by simpa using ra)⟩
  | .lst ds, _, u, hp, h, r => by
    obtain ⟨a, vs, e, q, rs⟩ := h
    subst e
    obtain rfl : u = Value.ref a := r
    obtain ⟨its, rv, ⟨o, n, ho, hc, _, hd⟩, _⟩ := I.list q.sq
    obtain ⟨as, ra⟩ := readsAll_of I (by simpa [D.pl] using hp) rs rv
    exact ⟨_, .list ho hc hd (by simpa using ra)⟩
  | .dic _ _, _, _, hp, _, _ => by simp [D.pl] at hp
  | .set _, _, _, hp, _, _ => by simp [D.pl] at hp
  | .ref _, _, _, hp, _, _ => by simp [D.pl] at hp
  | .fn _, _, _, hp, _, _ => by simp [D.pl] at hp
  | .clo _ _, _, _, hp, _, _ => by simp [D.pl] at hp
theorem readsAll_of (I : Inv X pins σ H s) : ∀ {ds : List D} {vs : List V} {us : List Value}, D.pls ds = true → RDs (sysOf X T) H μ L ds vs → Vals vs us → ∃ as, ReadsAll s.heap us (D.pys ds) as
  | [], _, us, _, h, r => by
    obtain rfl : _ = [] := h
    cases r
    exact ⟨_, .nil⟩
  | d :: ds, _, us, hp, h, r => by
    obtain ⟨v, ws, e, r1, r2⟩ := h
    subst e
    simp only [D.pls, Bool.and_eq_true] at hp
    cases r with
    | cons a b =>
      obtain ⟨as, q⟩ := reads_of I hp.1 r1 a
      obtain ⟨bs, qs⟩ := readsAll_of I hp.2 r2 b
      exact ⟨_, .cons q qs⟩
end
theorem reads_vd (I : Inv X pins σ H s) {d : D} {v : V} {u : Value} (hp : d.pl = true) (h : VD (sysOf X T) H μ L d v) (r : RelV v u) : ∃ as, Reads s.heap u d.py as := by
  cases d with
  | lst ds =>
    obtain ⟨a, vs, e, q, rs⟩ := h
    subst e
    obtain rfl : u = Value.ref a := r
    obtain ⟨its, rv, ⟨o, n, ho, hc, _, hd⟩, _⟩ := I.list q
    obtain ⟨as, ra⟩ := readsAll_of I (by simpa [D.pl] using hp) rs rv
    exact ⟨_, .list ho hc hd (by simpa using ra)⟩
  | dic _ _ => simp [D.pl] at hp
  | _ => exact reads_of (T := T) (μ := μ) (L := L) I hp h r
end
mutual
theorem plain_py : ∀ d : D, d.pl = true → d.py.plain = true
  | .non, _ => rfl
  | .bl _, _ => rfl
  | .int _, _ => rfl
  | .str _, _ => rfl
  | .tup ds, h => by rw [D.py, PyData.plain]; exact plains_py ds (by simpa [D.pl] using h)
  | .lst ds, h => by rw [D.py, PyData.plain]; exact plains_py ds (by simpa [D.pl] using h)
  | .dic _ _, h => by simp [D.pl] at h
  | .set _, h => by simp [D.pl] at h
  | .ref _, h => by simp [D.pl] at h
  | .fn _, h => by simp [D.pl] at h
  | .clo _ _, h => by simp [D.pl] at h
theorem plains_py : ∀ ds : List D, D.pls ds = true → PyData.plainAll (D.pys ds) = true
  | [], _ => rfl
  | d :: ds, h => by
    simp only [D.pls, Bool.and_eq_true] at h
    rw [D.pys, PyData.plainAll, plain_py d h.1, plains_py ds h.2]
    rfl
end
mutual
theorem dep_py : ∀ d : D, d.pl = true → d.py.depth = d.dep
  | .non, _ => by simp [D.py, PyData.depth, D.dep]
  | .bl _, _ => by simp [D.py, PyData.depth, D.dep]
  | .int _, _ => by simp [D.py, PyData.depth, D.dep]
  | .str _, _ => by simp [D.py, PyData.depth, D.dep]
  | .tup ds, h => by rw [D.py, PyData.depth, D.dep, deps_py ds (by simpa [D.pl] using h)]
  | .lst ds, h => by rw [D.py, PyData.depth, D.dep, deps_py ds (by simpa [D.pl] using h)]
  | .dic _ _, h => by simp [D.pl] at h
  | .set _, h => by simp [D.pl] at h
  | .ref _, h => by simp [D.pl] at h
  | .fn _, h => by simp [D.pl] at h
  | .clo _ _, h => by simp [D.pl] at h
theorem deps_py : ∀ ds : List D, D.pls ds = true → PyData.depthAll (D.pys ds) = D.deps ds
  | [], _ => rfl
  | d :: ds, h => by
    simp only [D.pls, Bool.and_eq_true] at h
    rw [D.pys, PyData.depthAll, D.deps, dep_py d h.1, deps_py ds h.2]
end

end GM
end
section
set_option Elab.async false
set_option linter.all false
set_option maxRecDepth 100000
namespace GM
open PySem PySem.Spec PyProof.Rows L2

/-- room on the stack for values' own work -/
def Big (X : Cx) : Prop := X.A.units + 200 < cLine
def rP2 (S : Sys) (f : D → D → Option D) : R2 := fun x y H Q => ∃ (μ : Nat → Addr) (L : Nat) (d e z : D), VD S H μ L d x ∧ VD S H μ L e y ∧ f d e = some z ∧ ∀ H' v, Same H H' → RD S H' μ L z v → Q v H'
def rP1 (S : Sys) (f : D → Option D) : V → Hp → VK → Prop := fun x H Q => ∃ (μ : Nat → Addr) (L : Nat) (d z : D), VD S H μ L d x ∧ f d = some z ∧ ∀ H' v, Same H H' → RD S H' μ L z v → Q v H'

theorem same_refl (H : Hp) : Same H H := fun _ _ h => h
theorem sq_iff (xs : List V) (lo hi : Option Int) : cutV xs lo hi = (xs.drop (HT.sIx xs.length 0 lo)).take (HT.sIx xs.length xs.length hi - HT.sIx xs.length 0 lo) := rfl
theorem six_eq (n d : Nat) (o : Option Int) : HT.sIx n d o = sIx n d o := by
  cases o with
  | none => rfl
  | some i =>
    show (if i < 0 then (i + n).toNat else min i.toNat n) = if 0 ≤ i then min i.toNat n else (i + n).toNat
    by_cases h : i < 0
    · rw [if_pos h, if_neg (by omega)]
    · rw [if_neg h, if_pos (by omega)]
theorem ixN_eq (n : Nat) (i : Int) : ixN n i = ixO n i := rfl
theorem atI_eq {α : Type} (xs : List α) (i : Int) : atI xs i = atO xs i := rfl
theorem RDs.cut {S : Sys} {H : Hp} {μ : Nat → Addr} {L : Nat} {ds : List D} {vs : List V} (r : RDs S H μ L ds vs) (lo hi : Option Int) : RDs S H μ L (GM.cut ds lo hi) (cutV vs lo hi) := by
  rw [sq_iff, six_eq, six_eq]
  unfold GM.cut
  rw [r.length]
  exact (r.drop _).take _

section
variable {X : Cx} {T : Tab}
theorem Inv.newFz {pins : List (Addr × Obj)} {σ : L2.St} {H : Hp} {s : Shared} {t' : Nat} (I : Inv X pins σ H s) {its : List Value} {vs : List V} (r : Vals vs its) (hz : vs.length ≤ sizeLine) :
    Inv X pins σ (upd H s.heap.objs.size (.frz { cls := .type "list", data := .seq its.toArray } (.lst vs))) { s with heap := s.heap.push { cls := .type "list", data := .seq its.toArray }, toks := t' } := by
  refine I.laid (fun b u e => Heap.get?_push_of_some _ e) (Nat.le_refl _) ?_
  exact ⟨Heap.get?_push_size _ rfl, hz, its, 0, r, Heap.get?_push_size _ rfl⟩

/-! ### two-place operations -/
theorem intMul_ok {i j : Int} (h : (smallI i || smallI j) = true) : CMul i j := by
  simp only [Bool.or_eq_true, smallI, Bool.and_eq_true, decide_eq_true_eq] at h
  rcases h with h | h
  · exact .inl h
  · exact .inr h
theorem o_add : OpR X (binaryOp .Add) (rP2 (sysOf X T) (opBin .add)) := by
  intro pins s σ H x y v u Q I rx ry h
  obtain ⟨μ, L, d, e, z, hd, he, hf, q⟩ := h
  cases d with
  | int i =>
    cases e with
    | int j =>
      obtain rfl : x = .int i := hd
      obtain rfl : y = .int j := he
      obtain rfl : D.int (i + j) = z := by simpa [opBin] using hf
      exact op_add pins s σ H _ _ v u Q I rx ry ⟨i, j, rfl, rfl, q H _ (same_refl H) rfl⟩
    | _ => simp [opBin] at hf
  | str a =>
    cases e with
    | str b =>
      obtain rfl : x = .str a := hd
      obtain rfl : y = .str b := he
      simp only [opBin] at hf
      split at hf
      · rename_i hz
        obtain rfl := Option.some.inj hf
        exact op_add_str pins s σ H _ _ v u Q I rx ry ⟨a, b, rfl, rfl, Nat.le_trans hz (by rw [sizeLine_eq]; decide), q H _ (same_refl H) rfl⟩
      · cases hf
    | _ => simp [opBin] at hf
  | tup a =>
    cases e with
    | tup b =>
      obtain ⟨p, vs, e1, hq, r1⟩ := hd
      obtain ⟨p2, ws, e2, hq2, r2⟩ := he
      subst e1 e2
      simp only [opBin] at hf
      split at hf
      · rename_i hz
        obtain rfl := Option.some.inj hf
        have hz' : vs.length + ws.length ≤ sizeLine := by rw [← r1.length, ← r2.length]; exact Nat.le_trans hz (by rw [sizeLine_eq]; decide)
        refine op_catA pins s σ H _ _ v u Q I rx ry ⟨p, p2, vs, ws, rfl, rfl, hq, hq2, hz', fun e0 => ?_, fun _ e0 => ?_, fun _ _ c hc => ?_⟩
        · refine q H _ (same_refl H) ⟨p2, ws, rfl, hq2, ?_⟩
          subst e0
          have z0 := r1.length
          have : a = [] := List.length_eq_zero_iff.mp (by simpa using z0)
          subst this
          exact r2
        · refine q H _ (same_refl H) ⟨p, vs, rfl, hq, ?_⟩
          subst e0
          have z0 := r2.length
          have : b = [] := List.length_eq_zero_iff.mp (by simpa using z0)
          subst this
          rw [List.append_nil]
          exact r1
        · have sm := same_upd (o := .tup (vs ++ ws)) hc
          have mm : ∀ {ds : List D} {us : List V}, RDs (sysOf X T) H μ L ds us → RDs (sysOf X T) (upd H c (.tup (vs ++ ws))) μ L ds us := fun r => r.mono (.of sm) (fun _ _ => rfl) (Nat.le_refl _)
          exact q _ _ sm ⟨c, _, rfl, .of upd_same, (mm r1).append (mm r2)⟩
      · cases hf
    | _ => simp [opBin] at hf
  | lst a =>
    cases e with
    | lst b =>
      obtain ⟨p, vs, e1, hq, r1⟩ := hd
      obtain ⟨p2, ws, e2, hq2, r2⟩ := he
      subst e1 e2
      simp only [opBin] at hf
      split at hf
      · rename_i hz
        obtain rfl := Option.some.inj hf
        have hz' : vs.length + ws.length ≤ sizeLine := by rw [← r1.length, ← r2.length]; exact Nat.le_trans hz (by rw [sizeLine_eq]; decide)
        obtain rfl : v = Value.ref p := rx
        obtain rfl : u = Value.ref p2 := ry
        obtain ⟨its, rv, ⟨⟨cls, dd, data, sl⟩, n, ho, hc, hdn, hdd⟩, _⟩ := I.list hq
        obtain ⟨its2, rv2, ⟨⟨cls2, dd2, data2, sl2⟩, n2, ho2, hc2, hdn2, hdd2⟩, _⟩ := I.list hq2
        simp only at hc hdd hc2 hdd2
        subst hc hdd hc2 hdd2
        have e : its.toArray ++ its2.toArray = (its ++ its2).toArray := by simp
        refine concat_meets ⟨_, ho, rfl⟩ ⟨_, ho2, rfl⟩ noFill_list_add seq_list_add PySem.F.slot_list_add PySem.F.entry_list_add (PySem.F.args_list_add_2 _ _) (list_addW p p2 its.toArray its2.toArray n n2 dd dd2 sl sl2 (by rw [List.size_toArray, List.size_toArray, ← rv.length, ← rv2.length]; exact hz')) ⟨ho, ho2, ?_⟩
        rw [e]
        have hc := I.hok.fresh (Nat.le_refl _)
        have sm := same_upd (o := .frz { cls := .type "list", data := .seq (its ++ its2).toArray } (.lst (vs ++ ws))) hc
        have mm : ∀ {ds : List D} {us : List V}, RDs (sysOf X T) H μ L ds us → RDs (sysOf X T) (upd H s.heap.objs.size (.frz { cls := .type "list", data := .seq (its ++ its2).toArray } (.lst (vs ++ ws)))) μ L ds us := fun r => r.mono (.of sm) (fun _ _ => rfl) (Nat.le_refl _)
        refine ⟨.ref s.heap.objs.size, _, Inv.newFz I (rv.append rv2) (by rw [List.length_append]; exact hz'), rfl, q _ _ sm ⟨_, _, rfl, .inl ⟨_, upd_same⟩, (mm r1).append (mm r2)⟩⟩
      · cases hf
    | _ => simp [opBin] at hf
  | _ => cases e <;> simp [opBin] at hf
theorem o_int {op : Operator} {o : Bop} {C : Int → Int → Prop} {g : Int → Int → Int} (ho : OpR X (binaryOp op) (rI C fun i j => .int (g i j))) (hc : ∀ d e z, opBin o d e = some z → ∃ i j, d = .int i ∧ e = .int j ∧ C i j ∧ z = .int (g i j)) :
    OpR X (binaryOp op) (rP2 (sysOf X T) (opBin o)) := by
  intro pins s σ H x y v u Q I rx ry h
  obtain ⟨μ, L, d, e, z, hd, he, hf, q⟩ := h
  obtain ⟨i, j, rfl, rfl, c, rfl⟩ := hc d e z hf
  obtain rfl : x = .int i := hd
  obtain rfl : y = .int j := he
  exact ho pins s σ H _ _ v u Q I rx ry ⟨i, j, rfl, rfl, c, q H _ (same_refl H) rfl⟩
theorem o_sub : OpR X (binaryOp .Sub) (rP2 (sysOf X T) (opBin .sub)) := by
  refine o_int (C := fun _ _ => True) (g := fun i j => i - j) (fun pins s σ H x y v u Q I rx ry ⟨i, j, a, b, _, q⟩ => op_sub pins s σ H x y v u Q I rx ry ⟨i, j, a, b, q⟩) fun d e z hf => ?_
  cases d <;> cases e <;> simp [opBin] at hf
  exact ⟨_, _, rfl, rfl, trivial, hf.symm⟩
theorem o_mul : OpR X (binaryOp .Mult) (rP2 (sysOf X T) (opBin .mul)) := by
  refine o_int op_mul fun d e z hf => ?_
  cases d with
  | int i =>
    cases e with
    | int j =>
      simp only [opBin] at hf
      split at hf
      · rename_i c
        exact ⟨i, j, rfl, rfl, intMul_ok c, (Option.some.inj hf).symm⟩
      · cases hf
    | _ => simp [opBin] at hf
  | _ => cases e <;> simp [opBin] at hf
theorem o_fdiv : OpR X (binaryOp .FloorDiv) (rP2 (sysOf X T) (opBin .fdiv)) := by
  refine o_int op_fdivN fun d e z hf => ?_
  cases d with
  | int i =>
    cases e with
    | int j =>
      simp only [opBin] at hf
      split at hf
      · rename_i c
        exact ⟨i, j, rfl, rfl, c, (Option.some.inj hf).symm⟩
      · cases hf
    | _ => simp [opBin] at hf
  | _ => cases e <;> simp [opBin] at hf
theorem o_mod : OpR X (binaryOp .Mod) (rP2 (sysOf X T) (opBin .mod)) := by
  refine o_int op_modN fun d e z hf => ?_
  cases d with
  | int i =>
    cases e with
    | int j =>
      simp only [opBin] at hf
      split at hf
      · rename_i c
        exact ⟨i, j, rfl, rfl, c, (Option.some.inj hf).symm⟩
      · cases hf
    | _ => simp [opBin] at hf
  | _ => cases e <;> simp [opBin] at hf
theorem o_pow : OpR X (binaryOp .Pow) (rP2 (sysOf X T) (opBin .pow)) := by
  refine o_int op_pow fun d e z hf => ?_
  cases d with
  | int i =>
    cases e with
    | int j =>
      simp only [opBin] at hf
      split at hf
      · rename_i c
        obtain ⟨c1, c2, c3⟩ := c
        simp only [smallI, Bool.and_eq_true, decide_eq_true_eq] at c3
        refine ⟨i, j, rfl, rfl, ⟨c1, by omega, ?_⟩, (Option.some.inj hf).symm⟩
        omega
      · cases hf
    | _ => simp [opBin] at hf
  | _ => cases e <;> simp [opBin] at hf

/-! ### comparisons -/
theorem cmp_pre {pins : List (Addr × Obj)} {σ : L2.St} {H : Hp} {s : Shared} {μ : Nat → Addr} {L : Nat} (I : Inv X pins σ H s) (hb : Big X) {d e : D} {x y : V} {u v : Value} (c : cmpOk d e = true) (hd : VD (sysOf X T) H μ L d x) (he : VD (sysOf X T) H μ L e y)
    (rx : RelV x u) (ry : RelV y v) : (∃ as bs, Reads s.heap u d.py as ∧ Reads s.heap v e.py bs) ∧ d.py.plain = true ∧ e.py.plain = true ∧ X.A.units + min d.py.depth e.py.depth + 40 < cLine ∧ X.A.units + max d.py.depth e.py.depth + 40 < cLine := by
  simp only [cmpOk, Bool.and_eq_true, decide_eq_true_eq] at c
  obtain ⟨⟨⟨c1, c2⟩, c3⟩, c4⟩ := c
  obtain ⟨as, a⟩ := reads_vd I c1 hd rx
  obtain ⟨bs, b⟩ := reads_vd I c2 he ry
  have hb' : X.A.units + 200 < cLine := hb
  rw [dep_py d c1, dep_py e c2]
  exact ⟨⟨as, bs, a, b⟩, plain_py d c1, plain_py e c2, by omega, by omega⟩
abbrev fCmp (o : Cm) : D → D → Option D := fun a b => (opCmp o a b).map .bl
theorem fCmp_some {o : Cm} {a b z : D} (h : fCmp o a b = some z) : ∃ k, opCmp o a b = some k ∧ z = .bl k := by
  unfold fCmp at h
  cases e : opCmp o a b with
  | none => rw [e] at h; cases h
  | some k => rw [e] at h; exact ⟨k, rfl, (Option.some.inj h).symm⟩
theorem non_py {d : D} (h : d.pl = true) (n : d ≠ .non) : d.py ≠ .none := by
  cases d <;> simp [D.py, D.pl] at h n ⊢
theorem c_eq (hb : Big X) : OpR X (compareOp .Eq) (rP2 (sysOf X T) (fCmp .eq)) := by
  intro pins s σ H x y v u Q I rx ry h
  obtain ⟨μ, L, d, e, z, hd, he, hf, q⟩ := h
  obtain ⟨k, hk, rfl⟩ := fCmp_some hf
  simp only [opCmp] at hk
  split at hk
  · rename_i c
    obtain ⟨⟨as, bs, ra, rb⟩, p1, p2, u1, u2⟩ := cmp_pre I hb c hd he rx ry
    refine SeqAt.eq_plain ra rb p1 p2 (by omega) ⟨.bl k, H, I, ?_, q H _ (same_refl H) rfl⟩
    rw [← Option.some.inj hk] <;> rfl
  · cases hk
theorem c_ne (hb : Big X) : OpR X (compareOp .NotEq) (rP2 (sysOf X T) (fCmp .ne)) := by
  intro pins s σ H x y v u Q I rx ry h
  obtain ⟨μ, L, d, e, z, hd, he, hf, q⟩ := h
  obtain ⟨k, hk, rfl⟩ := fCmp_some hf
  simp only [opCmp] at hk
  split at hk
  · rename_i c
    obtain ⟨⟨as, bs, ra, rb⟩, p1, p2, u1, u2⟩ := cmp_pre I hb c hd he rx ry
    refine SeqAt.ne_plain ra rb p1 p2 (by omega) ⟨.bl k, H, I, ?_, q H _ (same_refl H) rfl⟩
    rw [← Option.some.inj hk] <;> rfl
  · cases hk
theorem c_lt (hb : Big X) : OpR X (compareOp .Lt) (rP2 (sysOf X T) (fCmp .lt)) := by
  intro pins s σ H x y v u Q I rx ry h
  obtain ⟨μ, L, d, e, z, hd, he, hf, q⟩ := h
  obtain ⟨k, hk, rfl⟩ := fCmp_some hf
  simp only [opCmp] at hk
  split at hk
  · rename_i c
    obtain ⟨⟨as, bs, ra, rb⟩, p1, p2, u1, u2⟩ := cmp_pre I hb c.1 hd he rx ry
    refine PySem.W.lt_data ra rb c.2.1 (non_py (by have := c.1; simp only [cmpOk, Bool.and_eq_true] at this; exact this.1.1.1) c.2.2) (by omega) ⟨.bl k, H, I, ?_, q H _ (same_refl H) rfl⟩
    rw [← Option.some.inj hk] <;> rfl
  · cases hk
theorem c_gt (hb : Big X) : OpR X (compareOp .Gt) (rP2 (sysOf X T) (fCmp .gt)) := by
  intro pins s σ H x y v u Q I rx ry h
  obtain ⟨μ, L, d, e, z, hd, he, hf, q⟩ := h
  obtain ⟨k, hk, rfl⟩ := fCmp_some hf
  simp only [opCmp] at hk
  split at hk
  · rename_i c
    obtain ⟨⟨as, bs, ra, rb⟩, p1, p2, u1, u2⟩ := cmp_pre I hb c.1 hd he rx ry
    refine PySem.W.gt_data ra rb c.2.1 (non_py (by have := c.1; simp only [cmpOk, Bool.and_eq_true] at this; exact this.1.1.1) c.2.2) (by omega) ⟨.bl k, H, I, ?_, q H _ (same_refl H) rfl⟩
    rw [← Option.some.inj hk] <;> rfl
  · cases hk
theorem c_le (hb : Big X) : OpR X (compareOp .LtE) (rP2 (sysOf X T) (fCmp .le)) := by
  intro pins s σ H x y v u Q I rx ry h
  obtain ⟨μ, L, d, e, z, hd, he, hf, q⟩ := h
  obtain ⟨k, hk, rfl⟩ := fCmp_some hf
  simp only [opCmp] at hk
  split at hk
  · rename_i c
    obtain ⟨⟨as, bs, ra, rb⟩, p1, p2, u1, u2⟩ := cmp_pre I hb c.1 hd he rx ry
    refine PySem.W.le_data ra rb c.2.1 (non_py (by have := c.1; simp only [cmpOk, Bool.and_eq_true] at this; exact this.1.1.1) c.2.2) (by omega) ⟨.bl k, H, I, ?_, q H _ (same_refl H) rfl⟩
    rw [← Option.some.inj hk] <;> rfl
  · cases hk
theorem c_ge (hb : Big X) : OpR X (compareOp .GtE) (rP2 (sysOf X T) (fCmp .ge)) := by
  intro pins s σ H x y v u Q I rx ry h
  obtain ⟨μ, L, d, e, z, hd, he, hf, q⟩ := h
  obtain ⟨k, hk, rfl⟩ := fCmp_some hf
  simp only [opCmp] at hk
  split at hk
  · rename_i c
    obtain ⟨⟨as, bs, ra, rb⟩, p1, p2, u1, u2⟩ := cmp_pre I hb c.1 hd he rx ry
    refine PySem.W.ge_data ra rb c.2.1 (non_py (by have := c.1; simp only [cmpOk, Bool.and_eq_true] at this; exact this.1.1.1) c.2.2) (by omega) ⟨.bl k, H, I, ?_, q H _ (same_refl H) rfl⟩
    rw [← Option.some.inj hk] <;> rfl
  · cases hk
theorem any_pys (xs : List D) (a : D) : ((D.pys xs).any fun y => PyData.eqv y a.py) = xs.any fun x => D.eqv x a := by
  rw [D.pys_map, List.any_map]
  rfl
theorem c_in (hb : Big X) : OpR X (compareOp .In) (fun x y H Q => ∃ (μ : Nat → Addr) (L : Nat) (d e z : D), VD (sysOf X T) H μ L d x ∧ VD (sysOf X T) H μ L e y ∧ (∀ ks vs, e ≠ .dic ks vs) ∧ fCmp .isIn d e = some z ∧ ∀ H' v, Same H H' → RD (sysOf X T) H' μ L z v → Q v H') := by
  intro pins s σ H x y v u Q I rx ry h
  obtain ⟨μ, L, d, e, z, hd, he, hn, hf, q⟩ := h
  obtain ⟨k, hk, rfl⟩ := fCmp_some hf
  cases e with
  | lst xs =>
    simp only [opCmp] at hk
    split at hk
    · rename_i c
      obtain ⟨⟨as, bs, ra, rb⟩, p1, p2, u1, u2⟩ := cmp_pre I hb c hd he rx ry
      rw [D.py] at rb p2 u1 u2
      rw [PyData.depth] at u2
      refine SeqAt.in_list_data rb ra (by simpa [PyData.plain] using p2) p1 (by omega) ⟨.bl k, H, I, ?_, q H _ (same_refl H) rfl⟩
      rw [any_pys, ← Option.some.inj hk] <;> rfl
    · cases hk
  | tup xs =>
    simp only [opCmp] at hk
    split at hk
    · rename_i c
      obtain ⟨⟨as, bs, ra, rb⟩, p1, p2, u1, u2⟩ := cmp_pre I hb c hd he rx ry
      rw [D.py] at rb p2 u1 u2
      rw [PyData.depth] at u2
      refine SeqAt.in_tuple_data rb ra (by simpa [PyData.plain] using p2) p1 (by omega) ⟨.bl k, H, I, ?_, q H _ (same_refl H) rfl⟩
      rw [any_pys, ← Option.some.inj hk] <;> rfl
    · cases hk
  | str b =>
    cases d with
    | str a =>
      simp only [opCmp] at hk
      split at hk
      · rename_i c
        obtain rfl : x = .str a := hd
        obtain rfl : y = .str b := he
        obtain ⟨⟨l⟩⟩ := a
        have hl : ∃ c0, l = [c0] := by
          have c' : l.length = 1 := by simpa [Str.length] using c
          exact List.length_eq_one_iff.mp c'
        obtain ⟨c0, rfl⟩ := hl
        refine op_in_sign pins s σ H _ _ v u Q I rx ry ⟨c0, b, rfl, rfl, q H _ (same_refl H) ?_⟩
        rw [← Option.some.inj hk] <;> rfl
      · cases hk
    | _ => simp [opCmp] at hk
  | dic ks vs => exact absurd rfl (hn ks vs)
  | _ => cases d <;> simp [opCmp] at hk
theorem c_notIn (hb : Big X) : OpR X (compareOp .NotIn) (fun x y H Q => ∃ (μ : Nat → Addr) (L : Nat) (d e z : D), VD (sysOf X T) H μ L d x ∧ VD (sysOf X T) H μ L e y ∧ (∀ ks vs, e ≠ .dic ks vs) ∧ fCmp .notIn d e = some z ∧ ∀ H' v, Same H H' → RD (sysOf X T) H' μ L z v → Q v H') := by
  intro pins s σ H x y v u Q I rx ry h
  obtain ⟨μ, L, d, e, z, hd, he, hn, hf, q⟩ := h
  obtain ⟨k, hk, rfl⟩ := fCmp_some hf
  cases e with
  | lst xs =>
    simp only [opCmp] at hk
    split at hk
    · rename_i c
      obtain ⟨⟨as, bs, ra, rb⟩, p1, p2, u1, u2⟩ := cmp_pre I hb c hd he rx ry
      rw [D.py] at rb p2 u1 u2
      rw [PyData.depth] at u2
      refine SeqAt.notIn_list_data rb ra (by simpa [PyData.plain] using p2) p1 (by omega) ⟨.bl k, H, I, ?_, q H _ (same_refl H) rfl⟩
      rw [any_pys, ← Option.some.inj hk] <;> rfl
    · cases hk
  | tup xs =>
    simp only [opCmp] at hk
    split at hk
    · rename_i c
      obtain ⟨⟨as, bs, ra, rb⟩, p1, p2, u1, u2⟩ := cmp_pre I hb c hd he rx ry
      rw [D.py] at rb p2 u1 u2
      rw [PyData.depth] at u2
      refine SeqAt.notIn_tuple_data rb ra (by simpa [PyData.plain] using p2) p1 (by omega) ⟨.bl k, H, I, ?_, q H _ (same_refl H) rfl⟩
      rw [any_pys, ← Option.some.inj hk] <;> rfl
    · cases hk
  | str b =>
    cases d with
    | str a =>
      simp only [opCmp] at hk
      split at hk
      · rename_i c
        obtain rfl : x = .str a := hd
        obtain rfl : y = .str b := he
        obtain ⟨⟨l⟩⟩ := a
        have hl : ∃ c0, l = [c0] := by
          have c' : l.length = 1 := by simpa [Str.length] using c
          exact List.length_eq_one_iff.mp c'
        obtain ⟨c0, rfl⟩ := hl
        refine op_notIn_sign pins s σ H _ _ v u Q I rx ry ⟨c0, b, rfl, rfl, q H _ (same_refl H) ?_⟩
        rw [← Option.some.inj hk] <;> rfl
      · cases hk
    | _ => simp [opCmp] at hk
  | dic ks vs => exact absurd rfl (hn ks vs)
  | _ => cases d <;> simp [opCmp] at hk
end
end GM
end
section
set_option Elab.async false
set_option linter.all false
set_option maxRecDepth 100000
namespace GM
open PySem PySem.Spec PyProof.Rows L2

section
variable {X : Cx} {T : Tab}
theorem mono_upd {S : Sys} {H : Hp} {μ : Nat → Addr} {L : Nat} {c : Addr} {o : HO} (hc : H c = none) {ds : List D} {us : List V} (r : RDs S H μ L ds us) : RDs S (upd H c o) μ L ds us :=
  r.mono (.of (same_upd hc)) (fun _ _ => rfl) (Nat.le_refl _)
theorem rdAt {S : Sys} {H : Hp} {μ : Nat → Addr} {L : Nat} {ds : List D} {vs : List V} {i : Int} {z : D} (r : RDs S H μ L ds vs) (h : atO ds i = some z) : ∃ v, atI vs i = some v ∧ RD S H μ L z v := by
  rw [atI_eq]
  unfold atO at h ⊢
  rw [← r.length]
  cases e : ixO ds.length i with
  | none => rw [e] at h; cases h
  | some j =>
    rw [e] at h
    obtain ⟨v, a, b⟩ := r.get (i := j) h
    exact ⟨v, a, b⟩
/-- o[i], no dict -/
theorem x_seq : IxR X (fun x y H Q => ∃ (μ : Nat → Addr) (L : Nat) (d e z : D), VD (sysOf X T) H μ L d x ∧ VD (sysOf X T) H μ L e y ∧ (∀ ks vs, d ≠ .dic ks vs) ∧ opIdx d e = some z ∧ ∀ H' v, Same H H' → RD (sysOf X T) H' μ L z v → Q v H') := by
  intro value slice pins s σ H x y v u Q I rx ry h hs
  obtain ⟨μ, L, d, e, z, hd, he, hn, hf, q⟩ := h
  cases d with
  | dic ks vs => exact absurd rfl (hn ks vs)
  | lst xs =>
    cases e with
    | int i =>
      obtain ⟨p, vs, e1, hq, r1⟩ := hd
      obtain rfl : y = .int i := he
      obtain ⟨w, hw, rw'⟩ := rdAt r1 hf
      exact ix_list value slice pins s σ H x _ v u Q I rx ry ⟨p, vs, i, w, e1, rfl, hq, hw, q H w (same_refl H) rw'⟩ hs
    | _ => simp [opIdx] at hf
  | tup xs =>
    cases e with
    | int i =>
      obtain ⟨p, vs, e1, hq, r1⟩ := hd
      obtain rfl : y = .int i := he
      obtain ⟨w, hw, rw'⟩ := rdAt r1 hf
      exact ix_tup value slice pins s σ H x _ v u Q I rx ry ⟨p, vs, i, w, e1, rfl, hq, hw, q H w (same_refl H) rw'⟩ hs
    | _ => simp [opIdx] at hf
  | str a =>
    cases e with
    | int i =>
      obtain rfl : x = .str a := hd
      obtain rfl : y = .int i := he
      simp only [opIdx] at hf
      split at hf
      · rename_i hz
        cases e2 : atO a.cps.toList i with
        | none => rw [e2] at hf; cases hf
        | some c =>
          rw [e2] at hf
          obtain rfl := Option.some.inj hf
          exact ix_str value slice pins s σ H _ _ v u Q I rx ry ⟨a, i, c, rfl, rfl, Nat.le_trans hz (by rw [sizeLine_eq]; decide), by rw [atI_eq]; exact e2, q H _ (same_refl H) rfl⟩ hs
      · cases hf
    | _ => simp [opIdx] at hf
  | _ => cases e <;> simp [opIdx] at hf
/-- o[lo:hi] -/
def rSlc (S : Sys) : V → Option Int → Option Int → Hp → VK → Prop := fun x lo hi H Q => ∃ (μ : Nat → Addr) (L : Nat) (d z : D), VD S H μ L d x ∧ opSlc d lo hi = some z ∧ ∀ H' v, Same H H' → RD S H' μ L z v → Q v H'
theorem x_slc : SlR X (rSlc (sysOf X T)) := by
  intro pins s σ H x v vl vu lo hi sl Q I rx hs pl pu h
  obtain ⟨μ, L, d, z, hd, hf, q⟩ := h
  cases d with
  | tup xs =>
    obtain ⟨p, vs, e1, hq, r1⟩ := hd
    obtain rfl := Option.some.inj (show some (D.tup (cut xs lo hi)) = some z from hf)
    refine sl_tupA pins s σ H x v vl vu lo hi sl Q I rx hs pl pu ⟨p, vs, e1, hq, fun hw => ?_, fun _ c hc => ?_⟩
    · refine q H _ (same_refl H) ⟨p, vs, rfl, hq, ?_⟩
      have e : cutV vs lo hi = vs := by
        rw [sq_iff, hw.1, hw.2, List.drop_zero, Nat.sub_zero, List.take_length]
      have z := r1.cut lo hi
      rw [e] at z
      exact z
    · exact q _ _ (same_upd hc) ⟨c, _, rfl, .of upd_same, mono_upd hc (r1.cut lo hi)⟩
  | lst xs =>
    obtain ⟨p, vs, e1, hq, r1⟩ := hd
    obtain rfl := Option.some.inj (show some (D.lst (cut xs lo hi)) = some z from hf)
    subst e1
    obtain rfl : v = Value.ref p := rx
    obtain ⟨its, r, ht, hz⟩ := I.list hq
    have hlen := r.length
    refine ⟨"list", _, slot_list_getitem.lookup, ht.isList.typeIs, ?_⟩
    refine wpAny_getItem_list_slice ht.isList hs pl pu .none (by simp) ?_ (by rw [List.size_toArray] <;> omega)
    rw [slicePick_cut, ← hlen]
    have rr : Vals (cutV vs lo hi) ((its.drop (HT.sIx vs.length 0 lo)).take (HT.sIx vs.length vs.length hi - HT.sIx vs.length 0 lo)) := (r.drop (HT.sIx vs.length 0 lo)).take (HT.sIx vs.length vs.length hi - HT.sIx vs.length 0 lo)
    have hc := I.hok.fresh (Nat.le_refl s.heap.objs.size)
    exact ⟨.ref s.heap.objs.size, _, Inv.newFz (t' := s.toks) I rr (Nat.le_trans (cutV_length vs lo hi) hz), rfl, q _ _ (same_upd hc) ⟨_, _, rfl, .inl ⟨_, upd_same⟩, mono_upd hc (r1.cut lo hi)⟩⟩
  | _ => simp [opSlc] at hf

/-! ### built-ins of values -/
def VDs (S : Sys) (H : Hp) (μ : Nat → Addr) (L : Nat) : List D → List V → Prop
  | [], vs => vs = []
  | d :: ds, vs => ∃ v ws, vs = v :: ws ∧ VD S H μ L d v ∧ VDs S H μ L ds ws
def rBi (S : Sys) (f : List D → Option D) : List V → Hp → VK → Prop := fun vs H Q => ∃ (μ : Nat → Addr) (L : Nat) (ds : List D) (z : D), VDs S H μ L ds vs ∧ f ds = some z ∧ ∀ H' v, Same H H' → RD S H' μ L z v → Q v H'
theorem VDs.one {S : Sys} {H : Hp} {μ : Nat → Addr} {L : Nat} {d : D} {vs : List V} (h : VDs S H μ L [d] vs) : ∃ v, vs = [v] ∧ VD S H μ L d v := by
  obtain ⟨v, ws, e, r, rs⟩ := h
  obtain rfl : ws = [] := rs
  exact ⟨v, e, r⟩
theorem VDs.two {S : Sys} {H : Hp} {μ : Nat → Addr} {L : Nat} {d e : D} {vs : List V} (h : VDs S H μ L [d, e] vs) : ∃ v w, vs = [v, w] ∧ VD S H μ L d v ∧ VD S H μ L e w := by
  obtain ⟨v, ws, e, r, rs⟩ := h
  obtain ⟨w, e2, r2⟩ := rs.one
  subst e2
  exact ⟨v, w, e, r, r2⟩
theorem one_of {o : Bi} {ds : List D} {z : D} (h : opBi o ds = some z) (h1 : o ≠ .max2) (h2 : o ≠ .min2) : ∃ d, ds = [d] := by
  cases ds with
  | nil => cases o <;> simp [opBi] at h
  | cons d r =>
    cases r with
    | nil => exact ⟨d, rfl⟩
    | cons e t =>
      cases o <;> simp [opBi] at h
      · exact absurd rfl h1
      · exact absurd rfl h2
theorem rds_ints {S : Sys} {H : Hp} {μ : Nat → Addr} {L : Nat} : ∀ {xs : List D} {vs : List V} {ns : List Int}, D.ints xs = some ns → RDs S H μ L xs vs → vs = ns.map V.int
  | [], vs, ns, h, r => by
    obtain rfl : [] = ns := Option.some.inj h
    exact r
  | d :: xs, vs, ns, h, r => by
    obtain ⟨v, ws, e, r1, r2⟩ := r
    cases d with
    | int i =>
      rw [D.ints] at h
      obtain ⟨ms, hm, e2⟩ := Option.map_eq_some_iff.mp h
      obtain rfl : v = .int i := r1
      subst e e2
      rw [List.map_cons, rds_ints hm r2]
    | _ => simp [D.ints] at h
theorem rds_bls {S : Sys} {H : Hp} {μ : Nat → Addr} {L : Nat} : ∀ {xs : List D} {vs : List V} {ns : List Bool}, D.bls xs = some ns → RDs S H μ L xs vs → vs = ns.map V.bl
  | [], vs, ns, h, r => by
    obtain rfl : [] = ns := Option.some.inj h
    exact r
  | d :: xs, vs, ns, h, r => by
    obtain ⟨v, ws, e, r1, r2⟩ := r
    cases d with
    | bl i =>
      rw [D.bls] at h
      obtain ⟨ms, hm, e2⟩ := Option.map_eq_some_iff.mp h
      obtain rfl : v = .bl i := r1
      subst e e2
      rw [List.map_cons, rds_bls hm r2]
    | _ => simp [D.bls] at h
theorem b_all (hc : X.calm = true) : CallR X (.builtin "all") (rBi (sysOf X T) (opBi .all)) := by
  intro pins s σ H xs us Q I r h
  obtain ⟨μ, L, ds, z, hd, hf, q⟩ := h
  obtain ⟨d, rfl⟩ := one_of hf (by decide) (by decide)
  obtain ⟨v, e, hv⟩ := hd.one
  cases d with
  | lst ys =>
    obtain ⟨bs, hb, e2⟩ := Option.map_eq_some_iff.mp (show (D.bls ys).map (fun bs => D.bl (bs.all id)) = some z from hf)
    obtain ⟨a, vs, e3, hq, rs⟩ := hv
    have e4 := rds_bls hb rs
    subst e e2 e3 e4
    exact cr_all hc pins s σ H _ us Q I r ⟨a, bs, rfl, hq, q H _ (same_refl H) rfl⟩
  | _ => simp [opBi] at hf
theorem b_any (hc : X.calm = true) : CallR X (.builtin "any") (rBi (sysOf X T) (opBi .any)) := by
  intro pins s σ H xs us Q I r h
  obtain ⟨μ, L, ds, z, hd, hf, q⟩ := h
  obtain ⟨d, rfl⟩ := one_of hf (by decide) (by decide)
  obtain ⟨v, e, hv⟩ := hd.one
  cases d with
  | lst ys =>
    obtain ⟨bs, hb, e2⟩ := Option.map_eq_some_iff.mp (show (D.bls ys).map (fun bs => D.bl (bs.any id)) = some z from hf)
    obtain ⟨a, vs, e3, hq, rs⟩ := hv
    have e4 := rds_bls hb rs
    subst e e2 e3 e4
    exact cr_any hc pins s σ H _ us Q I r ⟨a, bs, rfl, hq, q H _ (same_refl H) rfl⟩
  | _ => simp [opBi] at hf
theorem b_sum (hc : X.calm = true) : CallR X (.builtin "sum") (rBi (sysOf X T) (opBi .sum)) := by
  intro pins s σ H xs us Q I r h
  obtain ⟨μ, L, ds, z, hd, hf, q⟩ := h
  obtain ⟨d, rfl⟩ := one_of hf (by decide) (by decide)
  obtain ⟨v, e, hv⟩ := hd.one
  cases d with
  | lst ys =>
    obtain ⟨bs, hb, e2⟩ := Option.map_eq_some_iff.mp (show (D.ints ys).map (fun bs => D.int bs.sum) = some z from hf)
    obtain ⟨a, vs, e3, hq, rs⟩ := hv
    have e4 := rds_ints hb rs
    subst e e2 e3 e4
    exact cr_sum hc pins s σ H _ us Q I r ⟨a, bs, rfl, hq, q H _ (same_refl H) rfl⟩
  | _ => simp [opBi] at hf
theorem b_int : CallR X (.type "int") (rBi (sysOf X T) (opBi .int)) := by
  intro pins s σ H xs us Q I r h
  obtain ⟨μ, L, ds, z, hd, hf, q⟩ := h
  obtain ⟨d, rfl⟩ := one_of hf (by decide) (by decide)
  obtain ⟨v, e, hv⟩ := hd.one
  cases d with
  | int i =>
    obtain rfl := Option.some.inj (show some (D.int i) = some z from hf)
    obtain rfl : v = .int i := hv
    exact call_int1 pins s σ H _ us Q I r (.inl ⟨i, e, q H _ (same_refl H) rfl⟩)
  | bl b =>
    obtain rfl := Option.some.inj (show some (D.int (if b then 1 else 0)) = some z from hf)
    obtain rfl : v = .bl b := hv
    exact call_int1 pins s σ H _ us Q I r (.inr ⟨b, e, q H _ (same_refl H) rfl⟩)
  | _ => simp [opBi] at hf
theorem two_max2 {ds : List D} {z : D} (h : opBi .max2 ds = some z) : ∃ i j, ds = [.int i, .int j] ∧ z = .int (if j > i then j else i) := by
  cases ds with
  | nil => simp [opBi] at h
  | cons a r =>
    cases r with
    | nil => simp [opBi] at h
    | cons b t =>
      cases t with
      | cons _ _ => cases a <;> simp [opBi] at h
      | nil =>
        cases a with
        | int i =>
          cases b with
          | int j =>
            simp only [opBi, Option.some.injEq] at h
            exact ⟨i, j, rfl, h.symm⟩
          | _ => simp [opBi] at h
        | _ => cases b <;> simp [opBi] at h
theorem b_max (hc : X.calm = true) : CallR X (.builtin "max") (rBi (sysOf X T) (opBi .max2)) := by
  intro pins s σ H xs us Q I r h
  obtain ⟨μ, L, ds, z, hd, hf, q⟩ := h
  obtain ⟨i, j, rfl, hz⟩ := two_max2 hf
  obtain ⟨v, w, e, hv, hw⟩ := hd.two
  obtain rfl : v = .int i := hv
  obtain rfl : w = .int j := hw
  have qq : Q (.int (if j > i then j else i)) H := q H _ (same_refl H) (by rw [hz, RD])
  exact call_max2 hc pins s σ H _ us Q I r ⟨i, j, e, qq⟩
theorem two_min2 {ds : List D} {z : D} (h : opBi .min2 ds = some z) : ∃ i j, ds = [.int i, .int j] ∧ z = .int (if j < i then j else i) := by
  cases ds with
  | nil => simp [opBi] at h
  | cons a r =>
    cases r with
    | nil => simp [opBi] at h
    | cons b t =>
      cases t with
      | cons _ _ => cases a <;> simp [opBi] at h
      | nil =>
        cases a with
        | int i =>
          cases b with
          | int j =>
            simp only [opBi, Option.some.injEq] at h
            exact ⟨i, j, rfl, h.symm⟩
          | _ => simp [opBi] at h
        | _ => cases b <;> simp [opBi] at h
theorem b_min (hc : X.calm = true) : CallR X (.builtin "min") (rBi (sysOf X T) (opBi .min2)) := by
  intro pins s σ H xs us Q I r h
  obtain ⟨μ, L, ds, z, hd, hf, q⟩ := h
  obtain ⟨i, j, rfl, hz⟩ := two_min2 hf
  obtain ⟨v, w, e, hv, hw⟩ := hd.two
  obtain rfl : v = .int i := hv
  obtain rfl : w = .int j := hw
  have qq : Q (.int (if j < i then j else i)) H := q H _ (same_refl H) (by rw [hz, RD])
  exact call_min2 hc pins s σ H _ us Q I r ⟨i, j, e, qq⟩
theorem b_tuple : CallR X (.type "tuple") (rBi (sysOf X T) (opBi .tuple)) := by
  intro pins s σ H xs us Q I r h
  obtain ⟨μ, L, ds, z, hd, hf, q⟩ := h
  obtain ⟨d, rfl⟩ := one_of hf (by decide) (by decide)
  obtain ⟨v, e, hv⟩ := hd.one
  cases d with
  | lst ys =>
    obtain rfl := Option.some.inj (show some (D.tup ys) = some z from hf)
    obtain ⟨a, vs, e3, hq, rs⟩ := hv
    subst e e3
    exact call_tuple_of pins s σ H _ us Q I r ⟨a, vs, rfl, .inl ⟨hq, fun l hl => q _ _ (same_upd hl) ⟨l, vs, rfl, .of upd_same, mono_upd hl rs⟩⟩⟩
  | tup ys =>
    obtain rfl := Option.some.inj (show some (D.tup ys) = some z from hf)
    obtain ⟨a, vs, e3, hq, rs⟩ := hv
    subst e e3
    exact call_tuple_of pins s σ H _ us Q I r ⟨a, vs, rfl, .inr ⟨hq, q H _ (same_refl H) ⟨a, vs, rfl, hq, rs⟩⟩⟩
  | _ => simp [opBi] at hf

/-! ### dicts: what they are to the library -/
theorem dx_rd {pins : List (Addr × Obj)} {σ : L2.St} {H : Hp} {s : Shared} (I : Inv X pins σ H s) {a : Addr} {xs : List (NestedKey × Addr × Value)} (h : Rd H a (DX (sysOf X T) a xs)) :
    (a == sysModules) = false ∧ xs.length ≤ sizeLine ∧ ∃ o arr ep, s.heap.get? a = some o ∧ o.ExactDict ∧ o.data = .dict arr ep ∧ arr.toList = xs.map (entryOfKey (nestedKind X.prog X.w)) ∧ (xs.map (·.1)).Nodup := by
  have z := h.ok I.hok
  exact z.1
mutual
theorem nested_of {pins : List (Addr × Obj)} {σ : L2.St} {H : Hp} {s : Shared} {μ : Nat → Addr} {L : Nat} (I : Inv X pins σ H s) : ∀ {d : D} {v : V} {u : Value}, d.isKey = true → RD (sysOf X T) H μ L d v → RelV v u → NestedIs s.heap d.nk u
  | .non, _, _, _, h, r => by subst h; cases r; exact .none
  | .int i, _, _, _, h, r => by subst h; obtain ⟨t, rfl⟩ := r; exact .int i t
  | .str x, _, _, _, h, r => by subst h; obtain ⟨t, rfl⟩ := r; exact .text x t
  | .tup ds, _, u, hp, h, r => by
    obtain ⟨a, vs, e, q, rs⟩ := h
    subst e
    obtain rfl : u = Value.ref a := r
    obtain ⟨its, rv, ⟨o, ho, hc, n, hd⟩, _⟩ := I.tuple q
    exact .tup ho hc hd (by simpa using nestedAll_of I (by simpa [D.isKey] using hp) rs rv)
  | .bl _, _, _, hp, _, _ => by simp [D.isKey] at hp
  | .lst _, _, _, hp, _, _ => by simp [D.isKey] at hp
  | .dic _ _, _, _, hp, _, _ => by simp [D.isKey] at hp
  | .set _, _, _, hp, _, _ => by simp [D.isKey] at hp
  | .ref _, _, _, hp, _, _ => by simp [D.isKey] at hp
  | .fn _, _, _, hp, _, _ => by simp [D.isKey] at hp
  | .clo _ _, _, _, hp, _, _ => by simp [D.isKey] at hp
theorem nestedAll_of {pins : List (Addr × Obj)} {σ : L2.St} {H : Hp} {s : Shared} {μ : Nat → Addr} {L : Nat} (I : Inv X pins σ H s) : ∀ {ds : List D} {vs : List V} {us : List Value}, D.areKeys ds = true → RDs (sysOf X T) H μ L ds vs → Vals vs us → NestedAll s.heap (D.nks ds) us
  | [], _, us, _, h, r => by
    obtain rfl : _ = [] := h
    cases r
    exact .nil
  | d :: ds, _, us, hp, h, r => by
    obtain ⟨v, ws, e, r1, r2⟩ := h
    subst e
    simp only [D.areKeys, Bool.and_eq_true] at hp
    cases r with
    | cons a b => exact .cons (nested_of I hp.1 r1 a) (nestedAll_of I hp.2 r2 b)
end
mutual
theorem nk_depth : ∀ d : D, d.isKey = true → d.nk.depth = d.dep
  | .non, _ => by simp [D.nk, NestedKey.depth, D.dep]
  | .int _, _ => by simp [D.nk, NestedKey.depth, D.dep]
  | .str _, _ => by simp [D.nk, NestedKey.depth, D.dep]
  | .tup ds, h => by rw [D.nk, NestedKey.depth, D.dep, nks_depth ds (by simpa [D.isKey] using h)]
  | .bl _, h => by simp [D.isKey] at h
  | .lst _, h => by simp [D.isKey] at h
  | .dic _ _, h => by simp [D.isKey] at h
  | .set _, h => by simp [D.isKey] at h
  | .ref _, h => by simp [D.isKey] at h
  | .fn _, h => by simp [D.isKey] at h
  | .clo _ _, h => by simp [D.isKey] at h
theorem nks_depth : ∀ ds : List D, D.areKeys ds = true → NestedKey.depthAll (D.nks ds) = D.deps ds
  | [], _ => by simp [D.nks, NestedKey.depthAll, D.deps]
  | d :: ds, h => by
    simp only [D.areKeys, Bool.and_eq_true] at h
    rw [D.nks, NestedKey.depthAll, D.deps, nk_depth d h.1, nks_depth ds h.2]
end
mutual
theorem nk_inj : ∀ {a b : D}, a.isKey = true → b.isKey = true → a.nk = b.nk → a = b
  | .non, b, _, hb, h => by cases b <;> simp [D.nk, D.isKey] at h hb ⊢
  | .int _, b, _, hb, h => by cases b <;> simp [D.nk, D.isKey] at h hb ⊢; exact h
  | .str _, b, _, hb, h => by cases b <;> simp [D.nk, D.isKey] at h hb ⊢; exact h
  | .tup ds, b, ha, hb, h => by
    cases b with
    | tup es =>
      simp only [D.nk, NestedKey.tup.injEq] at h
      rw [nks_inj (by simpa [D.isKey] using ha) (by simpa [D.isKey] using hb) h]
    | _ => simp [D.nk, D.isKey] at h hb
  | .bl _, _, ha, _, _ => by simp [D.isKey] at ha
  | .lst _, _, ha, _, _ => by simp [D.isKey] at ha
  | .dic _ _, _, ha, _, _ => by simp [D.isKey] at ha
  | .set _, _, ha, _, _ => by simp [D.isKey] at ha
  | .ref _, _, ha, _, _ => by simp [D.isKey] at ha
  | .fn _, _, ha, _, _ => by simp [D.isKey] at ha
  | .clo _ _, _, ha, _, _ => by simp [D.isKey] at ha
theorem nks_inj : ∀ {a b : List D}, D.areKeys a = true → D.areKeys b = true → D.nks a = D.nks b → a = b
  | [], [], _, _, _ => rfl
  | [], _ :: _, _, _, h => by simp [D.nks] at h
  | _ :: _, [], _, _, h => by simp [D.nks] at h
  | x :: xs, y :: ys, ha, hb, h => by
    simp only [D.areKeys, Bool.and_eq_true] at ha hb
    simp only [D.nks, List.cons.injEq] at h
    rw [nk_inj ha.1 hb.1 h.1, nks_inj ha.2 hb.2 h.2]
end
theorem nks_map : ∀ ds : List D, D.nks ds = ds.map D.nk
  | [] => rfl
  | d :: ds => by rw [D.nks, nks_map ds]; rfl
end
end GM
end
section
set_option Elab.async false
set_option linter.all false
set_option maxRecDepth 100000
namespace GM
open PySem PySem.Spec PyProof.Rows L2

/-! ### dicts -/
section
variable {S : Sys} {H : Hp} {μ : Nat → Addr} {L : Nat}
def VR (S : Sys) (H : Hp) (μ : Nat → Addr) (L : Nat) (d : D) (u : Value) : Prop := ∃ v, RelV v u ∧ RD S H μ L d v
abbrev PL (S : Sys) (H : Hp) (μ : Nat → Addr) (L : Nat) : List (D × D) → List (Key × Value) → Prop := Paired fun p q => p.1 = leafD q.1 ∧ VR S H μ L p.2 q.2
abbrev PT (S : Sys) (H : Hp) (μ : Nat → Addr) (L : Nat) : List (D × D) → List (NestedKey × Addr × Value) → Prop := Paired fun p q => p.1.nk = q.1 ∧ kOk p.1 = true ∧ RD S H μ L p.1 (.ref q.2.1) ∧ VR S H μ L p.2 q.2.2
theorem toPL : ∀ {kvs : List (Key × V)} {vs : List (Key × Value)} {ks ws : List D}, KV kvs vs → ks = kvs.map (fun p => leafD p.1) → RDs S H μ L ws (kvs.map (·.2)) → PL S H μ L (ks.zip ws) vs
  | [], _, _, _, .nil, e, _ => by subst e; exact .nil
  | p :: ps, _, _, [], .cons _ _, _, r => by
    have z : List.map (·.2) (p :: ps) = [] := r
    simp at z
  | p :: ps, _, _, w :: ws, .cons h t, e, r => by
    obtain ⟨v, us, e2, r1, r2⟩ := r
    rw [List.map_cons] at e2
    injection e2 with e3 e4
    subst e e4 e3
    exact .cons ⟨by rw [← h.1], ⟨_, h.2, r1⟩⟩ (toPL t rfl r2)
theorem ofPL : ∀ {kvs : List (D × D)} {vs : List (Key × Value)}, PL S H μ L kvs vs → ∃ ps : List (Key × V), KV ps vs ∧ kvs.map (·.1) = ps.map (fun p => leafD p.1) ∧ RDs S H μ L (kvs.map (·.2)) (ps.map (·.2))
  | _, _, .nil => ⟨[], .nil, rfl, .nil⟩
  | _, _, .cons (a := p) (b := q) ⟨h1, v, h2, h3⟩ t => by
    obtain ⟨ps, a, b, c⟩ := ofPL t
    exact ⟨(q.1, v) :: ps, .cons ⟨rfl, h2⟩ a, by rw [List.map_cons, List.map_cons, b, h1], .cons h3 c⟩
theorem toPT : ∀ {xs : List (NestedKey × Addr × Value)} {us : List V} {ks ws : List D}, ks.all kOk = true → D.nks ks = xs.map (·.1) → RDs S H μ L ks (xs.map fun x => V.ref x.2.1) → Vals us (xs.map (·.2.2)) → RDs S H μ L ws us → PT S H μ L (ks.zip ws) xs
  | [], us, [], _, _, _, _, _, _ => .nil
  | [], us, k :: ks, _, _, e, _, _, _ => by simp [D.nks] at e
  | x :: xs, us, [], _, _, e, _, _, _ => by simp [D.nks] at e
  | x :: xs, us, k :: ks, [], _, _, _, v, r => by
    obtain rfl : us = [] := r
    cases v
  | x :: xs, us, k :: ks, w :: ws, hk, e, r, v, q => by
    obtain ⟨w1, us1, e1, q1, q2⟩ := q
    subst e1
    rw [List.map_cons] at r v e
    obtain ⟨w2, us2, e2, r1, r2⟩ := r
    injection e2 with e3 e4
    subst e3 e4
    simp only [List.all_cons, Bool.and_eq_true] at hk
    simp only [D.nks, List.cons.injEq] at e
    cases v with
    | cons v1 v2 => exact .cons ⟨e.1, hk.1, r1, ⟨_, v1, q1⟩⟩ (toPT hk.2 e.2 r2 v2 q2)
theorem ofPT : ∀ {kvs : List (D × D)} {xs : List (NestedKey × Addr × Value)}, PT S H μ L kvs xs → ∃ us : List V, (kvs.map (·.1)).all kOk = true ∧ D.nks (kvs.map (·.1)) = xs.map (·.1) ∧ RDs S H μ L (kvs.map (·.1)) (xs.map fun x => V.ref x.2.1) ∧ Vals us (xs.map (·.2.2)) ∧ RDs S H μ L (kvs.map (·.2)) us
  | _, _, .nil => ⟨[], rfl, rfl, .nil, .nil, .nil⟩
  | _, _, .cons ⟨h1, h2, h3, v, h4, h5⟩ t => by
    obtain ⟨us, a, b, c, d, e⟩ := ofPT t
    refine ⟨v :: us, ?_, ?_, .cons h3 c, .cons h4 d, .cons h5 e⟩
    · rw [List.map_cons, List.all_cons, h2, a]; rfl
    · rw [List.map_cons, List.map_cons, D.nks, b, h1]
theorem kOk_key {d : D} (h : kOk d = true) : d.isKey = true := by simp only [kOk, Bool.and_eq_true] at h; exact h.1
theorem kOk_dep {d : D} (h : kOk d = true) : d.dep ≤ 8 := by simp only [kOk, Bool.and_eq_true, decide_eq_true_eq] at h; exact h.2
/-- an item there, or not -/
def RO (S : Sys) (H : Hp) (μ : Nat → Addr) (L : Nat) : Option D → Option Value → Prop
  | some d, some u => VR S H μ L d u
  | none, none => True
  | _, _ => False
theorem leaf_inj : ∀ {a b : Key}, leafD a = leafD b → a = b
  | .inl _, .inl _, h => by simp [leafD] at h; rw [h]
  | .inr _, .inr _, h => by simp [leafD] at h; rw [h]
  | .inl _, .inr _, h => by simp [leafD] at h
  | .inr _, .inl _, h => by simp [leafD] at h
theorem dget_cons (p : D × D) (r : List (D × D)) (k : D) : dget (p :: r) k = if p.1 = k then some p.2 else dget r k := by
  unfold dget
  rw [List.find?_cons]
  by_cases h : p.1 = k
  · rw [if_pos h]; simp [h]
  · rw [if_neg h]; simp [h]
theorem valueAt_cons (p : Key × Value) (r : List (Key × Value)) (k : Key) : valueAt (p :: r) k = if p.1 = k then some p.2 else valueAt r k := by
  unfold valueAt
  rw [List.find?_cons]
  by_cases h : p.1 = k
  · rw [if_pos h]; simp [h]
  · rw [if_neg h]; simp [h]
theorem atKey_cons (p : NestedKey × Addr × Value) (r : List (NestedKey × Addr × Value)) (k : NestedKey) : atKey (p :: r) k = if p.1 = k then some p.2 else atKey r k := by
  unfold atKey
  rw [List.find?_cons]
  by_cases h : p.1 = k
  · rw [if_pos h]; simp [h]
  · rw [if_neg h]; simp [h]
theorem PL.get {kvs : List (D × D)} {vs : List (Key × Value)} (h : PL S H μ L kvs vs) (k : Key) : RO S H μ L (dget kvs (leafD k)) (valueAt vs k) := by
  induction h with
  | nil => exact True.intro
  | @cons p q ps qs h t ih =>
    rw [dget_cons, valueAt_cons]
    by_cases e : q.1 = k
    · rw [if_pos e, if_pos (by rw [h.1, e])]; exact h.2
    · rw [if_neg e, if_neg (fun z => e (leaf_inj (h.1.symm.trans z)))]; exact ih
theorem PT.get {kvs : List (D × D)} {xs : List (NestedKey × Addr × Value)} (h : PT S H μ L kvs xs) {k : D} (hk : kOk k = true) : RO S H μ L (dget kvs k) ((atKey xs k.nk).map (·.2)) := by
  induction h with
  | nil => exact True.intro
  | @cons p q ps qs h t ih =>
    rw [dget_cons, atKey_cons]
    by_cases e : p.1 = k
    · rw [if_pos e, if_pos (by rw [← h.1, e])]; exact h.2.2.2
    · rw [if_neg e, if_neg (fun z => e (nk_inj (kOk_key h.2.1) (kOk_key hk) (h.1.trans z)))]; exact ih
theorem RO.none {o : Option D} {u : Option Value} (h : RO S H μ L o u) : o = Option.none ↔ u = Option.none := by
  cases o <;> cases u <;> simp [RO] at h ⊢
theorem RO.isSome {o : Option D} {u : Option Value} (h : RO S H μ L o u) : o.isSome = u.isSome := by
  cases o <;> cases u <;> simp [RO] at h ⊢
theorem VR.mono {H' : Hp} {d : D} {u : Value} (x : HX H H') (h : VR S H μ L d u) : VR S H' μ L d u := let ⟨v, a, b⟩ := h; ⟨v, a, b.mono x (fun _ _ => rfl) (Nat.le_refl _)⟩
theorem PL.put {kvs : List (D × D)} {vs : List (Key × Value)} (h : PL S H μ L kvs vs) (k : Key) {d : D} {u : Value} (r : VR S H μ L d u) : PL S H μ L (dput kvs (leafD k) d) (stored vs k u) := by
  have e : (vs.any fun kv => decide (kv.1 = k)) = (dget kvs (leafD k)).isSome := by
    rw [(h.get k).isSome]
    clear r d u
    induction h with
    | nil => rfl
    | @cons p q ps qs h t ih =>
      rw [List.any_cons, valueAt_cons, ih]
      by_cases e : q.1 = k <;> simp [e]
  unfold dput stored
  rw [e]
  by_cases c : (dget kvs (leafD k)).isSome = true
  · rw [if_pos c, if_pos c]
    clear c e
    induction h with
    | nil => exact .nil
    | @cons p q ps qs h t ih =>
      rw [List.map_cons, List.map_cons]
      refine .cons ?_ ih
      by_cases e : q.1 = k
      · rw [if_pos e, if_pos (by rw [h.1, e])]; exact ⟨h.1, r⟩
      · rw [if_neg e, if_neg (fun z => e (leaf_inj (h.1.symm.trans z)))]; exact h
  · rw [if_neg c, if_neg c]
    exact Paired.snoc h ⟨rfl, r⟩
theorem PT.put {kvs : List (D × D)} {xs : List (NestedKey × Addr × Value)} (h : PT S H μ L kvs xs) {k d : D} {a : Addr} {u : Value} (hk : kOk k = true) (ra : RD S H μ L k (.ref a)) (r : VR S H μ L d u) : PT S H μ L (dput kvs k d) (storedH xs k.nk a u) := by
  have e : (atKey xs k.nk).isSome = (dget kvs k).isSome := by
    rw [(h.get hk).isSome, Option.isSome_map]
  unfold dput storedH
  rw [e]
  by_cases c : (dget kvs k).isSome = true
  · rw [if_pos c, if_pos c]
    clear c e
    induction h with
    | nil => exact .nil
    | @cons p q ps qs h t ih =>
      rw [List.map_cons, List.map_cons]
      refine .cons ?_ ih
      unfold putAt
      by_cases e : p.1 = k
      · rw [if_pos e, if_pos (by rw [← h.1, e])]; exact ⟨h.1, h.2.1, h.2.2.1, r⟩
      · rw [if_neg e, if_neg (fun z => e (nk_inj (kOk_key h.2.1) (kOk_key hk) (h.1.trans z)))]; exact h
  · rw [if_neg c, if_neg c]
    exact Paired.snoc h ⟨rfl, hk, ra, r⟩
theorem dput_len (kvs : List (D × D)) (k d : D) : (dput kvs k d).length ≤ kvs.length + 1 := by
  unfold dput
  split
  · rw [List.length_map]; omega
  · rw [List.length_append]; exact Nat.le_refl _
theorem PL.mono {H' : Hp} (x : HX H H') {kvs : List (D × D)} {vs : List (Key × Value)} (h : PL S H μ L kvs vs) : PL S H' μ L kvs vs := Paired.mapP h fun _ _ z => ⟨z.1, z.2.mono x⟩
theorem PT.mono {H' : Hp} (x : HX H H') {kvs : List (D × D)} {xs : List (NestedKey × Addr × Value)} (h : PT S H μ L kvs xs) : PT S H' μ L kvs xs := Paired.mapP h fun _ _ z => ⟨z.1, z.2.1, z.2.2.1.mono x (fun _ _ => rfl) (Nat.le_refl _), z.2.2.2.mono x⟩
end

section
variable {X : Cx} {T : Tab} {pins : List (Addr × Obj)} {σ : L2.St} {H : Hp} {s : Shared} {μ : Nat → Addr} {L : Nat} {a : Addr}
/-- a dict's place: what stands there -/
inductive DA (S : Sys) (H : Hp) (μ : Nat → Addr) (L : Nat) (a : Addr) (kvs : List (D × D)) (rd : HO → Prop) : Prop where
  | leaf (ps : List (Key × V)) (h : rd (.dK ps)) (e : kvs.map (·.1) = ps.map (fun p => leafD p.1)) (r : RDs S H μ L (kvs.map (·.2)) (ps.map (·.2)))
  | tup (xs : List (NestedKey × Addr × Value)) (us : List V) (h : rd (DX S a xs)) (e0 : (kvs.map (·.1)).all kOk = true) (e : D.nks (kvs.map (·.1)) = xs.map (·.1)) (r : RDs S H μ L (kvs.map (·.1)) (xs.map fun x => V.ref x.2.1)) (r2 : Vals us (xs.map (·.2.2))) (r3 : RDs S H μ L (kvs.map (·.2)) us)
theorem unzip_l {α β : Type} : ∀ (xs : List α) (ys : List β), xs.length = ys.length → ((xs.zip ys).map (·.1)) = xs ∧ ((xs.zip ys).map (·.2)) = ys
  | [], [], _ => ⟨rfl, rfl⟩
  | _ :: _, [], h => by simp at h
  | [], _ :: _, h => by simp at h
  | x :: xs, y :: ys, h => by
    have z := unzip_l xs ys (by simpa using h)
    exact ⟨by rw [List.zip_cons_cons, List.map_cons, z.1], by rw [List.zip_cons_cons, List.map_cons, z.2]⟩
theorem zip_unzip {α β : Type} : ∀ xs : List (α × β), (xs.map (·.1)).zip (xs.map (·.2)) = xs
  | [] => rfl
  | x :: xs => by rw [List.map_cons, List.map_cons, List.zip_cons_cons, zip_unzip xs]
theorem da_of_vd {S : Sys} {ks ws : List D} {v : V} (h : VD S H μ L (.dic ks ws) v) : ∃ a, v = .ref a ∧ ks.length = ws.length ∧ DA S H μ L a (ks.zip ws) (Rd H a) := by
  obtain ⟨a, e, h⟩ := h
  rcases h with ⟨kvs, h, e1, r⟩ | ⟨xs, us, h, e0, e1, r, r2, r3⟩
  · have l : ks.length = ws.length := by rw [e1, r.length]; simp
    obtain ⟨z1, z2⟩ := unzip_l ks ws l
    exact ⟨a, e, l, .leaf kvs h (by rw [z1]; exact e1) (by rw [z2]; exact r)⟩
  · have l : ks.length = ws.length := by
      have l1 := r.length
      have l2 := r3.length
      have l3 := r2.length
      simp only [List.length_map] at l1 l3
      omega
    obtain ⟨z1, z2⟩ := unzip_l ks ws l
    exact ⟨a, e, l, .tup xs us h (by rw [z1]; exact e0) (by rw [z1]; exact e1) (by rw [z1]; exact r) r2 (by rw [z2]; exact r3)⟩
/-- a dict with a key's kind: as the library tells it -/
theorem da_leaf (I : Inv X pins σ H s) {kvs : List (D × D)} {rd : HO → Prop} (hr : ∀ o, rd o → Rd H a o) (h : DA (sysOf X T) H μ L a kvs rd) {k : Key} (hk : kf kvs (leafD k) = true) :
    (a == sysModules) = false ∧ ∃ vs, s.heap.DictOf (mixKind X.prog X.w) a vs ∧ PL (sysOf X T) H μ L kvs vs ∧ vs.length ≤ sizeLine := by
  cases h with
  | leaf ps h e r =>
    obtain ⟨z, hd, vs, rel, dd⟩ := dk_rd I.hok (hr _ h)
    refine ⟨hd, vs, dd, ?_, by rw [← rel.length]; exact z⟩
    have q := toPL (S := sysOf X T) (μ := μ) (L := L) (H := H) rel e r
    rw [zip_unzip] at q
    exact q
  | tup xs us h e0 e r r2 r3 =>
    obtain ⟨hd, hz, o, arr, ep, ho, hx, hdat, harr, hn⟩ := dx_rd I (hr _ h)
    have hnil : kvs = [] := by
      cases kvs with
      | nil => rfl
      | cons p t =>
        exfalso
        simp only [kf, keyFits, List.map_cons, List.all_cons, Bool.and_eq_true] at hk
        obtain ⟨_, hk2, _⟩ := hk
        obtain ⟨v, ws, e1, r1, _⟩ := (show RDs (sysOf X T) H μ L (p.1 :: t.map (·.1)) _ from r)
        cases xs with
        | nil => simp at e1
        | cons x xs =>
          rw [List.map_cons] at e1
          injection e1 with e2 _
          subst e2
          simp only [List.map_cons, List.all_cons, Bool.and_eq_true] at e0
          have k1 := kOk_key e0.1
          have tl : (leafD k).isTup = false := by cases k <;> rfl
          rw [tl] at hk2
          cases hp : p.1 with
          | tup _ => rw [hp] at hk2; simp [D.isTup] at hk2
          | non => rw [hp] at r1; cases (show V.ref _ = V.non from r1)
          | int _ => rw [hp] at r1; cases (show V.ref _ = V.int _ from r1)
          | str _ => rw [hp] at r1; cases (show V.ref _ = V.str _ from r1)
          | _ => rw [hp] at k1; simp [D.isKey] at k1
    subst hnil
    have hx0 : xs = [] := by
      have l := congrArg List.length e
      simp [D.nks] at l
      exact List.length_eq_zero_iff.mp l.symm
    subst hx0
    have ha : arr = #[] := by
      have : arr.toList = [] := by rw [harr]; rfl
      exact Array.toList_eq_nil_iff.mp this
    subst ha
    exact ⟨hd, [], ⟨o, _, ep, ho, hx, hdat, fun e he => by simp at he, .nil, List.nodup_nil⟩, .nil, Nat.zero_le _⟩
theorem da_tup (I : Inv X pins σ H s) {kvs : List (D × D)} {rd : HO → Prop} (hr : ∀ o, rd o → Rd H a o) (h : DA (sysOf X T) H μ L a kvs rd) {k : D} (hk : kf kvs k = true) (ht : k.isTup = true) :
    (a == sysModules) = false ∧ ∃ xs, s.heap.DictOfH (nestedKind X.prog X.w) a xs ∧ PT (sysOf X T) H μ L kvs xs ∧ xs.length ≤ sizeLine := by
  cases h with
  | leaf ps h e r =>
    obtain ⟨z, hd, vs, rel, o, es, ep, ho, hx, hdat, _, hp, _⟩ := dk_rd I.hok (hr _ h)
    have hnil : kvs = [] := by
      cases kvs with
      | nil => rfl
      | cons p t =>
        exfalso
        simp only [kf, keyFits, List.map_cons, List.all_cons, Bool.and_eq_true] at hk
        obtain ⟨_, hk2, _⟩ := hk
        rw [ht] at hk2
        cases ps with
        | nil => simp at e
        | cons q ps =>
          rw [List.map_cons, List.map_cons] at e
          injection e with e1 _
          rw [e1] at hk2
          cases hq : q.1 <;> rw [hq] at hk2 <;> simp [leafD, D.isTup] at hk2
    subst hnil
    have hp0 : ps = [] := by
      have l := congrArg List.length e
      simp at l
      exact List.length_eq_zero_iff.mp l.symm
    subst hp0
    cases rel
    have ha : es = #[] := by
      have : es.toList = [] := by cases q : es.toList with
        | nil => rfl
        | cons e t => rw [q] at hp; cases hp
      exact Array.toList_eq_nil_iff.mp this
    subst ha
    exact ⟨hd, [], ⟨o, _, ep, ho, hx, hdat, rfl, (fun x hx => nomatch hx), List.nodup_nil⟩, .nil, Nat.zero_le _⟩
  | tup xs us h e0 e r r2 r3 =>
    obtain ⟨hd, hz, o, arr, ep, ho, hx, hdat, harr, hn⟩ := dx_rd I (hr _ h)
    have q := toPT (S := sysOf X T) e0 e r r2 r3
    rw [zip_unzip] at q
    refine ⟨hd, xs, ⟨o, arr, ep, ho, hx, hdat, harr, fun x hxm => ?_, hn⟩, q, hz⟩
    have all : ∀ {l : List (D × D)} {m : List (NestedKey × Addr × Value)}, PT (sysOf X T) H μ L l m → ∀ x ∈ m, NestedIs s.heap x.1 (.ref x.2.1) ∧ x.1.depth ≤ 8 := by
      intro l m q
      induction q with
      | nil => intro x hx; exact nomatch hx
      | @cons p q ps qs hq t ih =>
        intro x hx
        rcases List.mem_cons.mp hx with e | hx
        · subst e
          rw [← hq.1]
          exact ⟨nested_of I (kOk_key hq.2.1) hq.2.2.1 rfl, by rw [nk_depth _ (kOk_key hq.2.1)]; exact kOk_dep hq.2.1⟩
        · exact ih x hx
    exact all q x hxm
end
end GM
end
section
set_option Elab.async false
set_option linter.all false
set_option maxRecDepth 100000
namespace GM
open PySem PySem.Spec PyProof.Rows L2

section
variable {X : Cx} {T : Tab} {pins : List (Addr × Obj)} {σ : L2.St} {H : Hp} {s : Shared} {μ : Nat → Addr} {L : Nat} {a : Addr} {kvs : List (D × D)} {rd : HO → Prop} {k : D} {y : V} {u : Value} {E : Value → Shared → Prop}
theorem key_cases (h : kf kvs k = true) : (∃ κ, k = leafD κ) ∨ (k.isTup = true ∧ kOk k = true) := by
  simp only [kf, keyFits, Bool.and_eq_true] at h
  obtain ⟨⟨h1, h2⟩, _⟩ := h
  have h3 := kOk_key h1
  cases k with
  | int i => exact .inl ⟨.inl i, rfl⟩
  | str x => exact .inl ⟨.inr x, rfl⟩
  | tup ds => exact .inr ⟨rfl, h1⟩
  | non => simp at h2
  | _ => simp [D.isKey] at h3
theorem leaf_rel {S : Sys} {κ : Key} (r : RD S H μ L (leafD κ) y) (q : RelV y u) : RelV (kV κ) u := by
  cases κ with
  | inl i => obtain rfl : y = .int i := r; exact q
  | inr x => obtain rfl : y = .str x := r; exact q
theorem tup_ref {S : Sys} (ht : k.isTup = true) (r : RD S H μ L k y) (q : RelV y u) : ∃ b, y = .ref b ∧ u = .ref b := by
  cases k with
  | tup ds =>
    obtain ⟨b, vs, e, _, _⟩ := r
    subst e
    exact ⟨b, rfl, q⟩
  | _ => simp [D.isTup] at ht
theorem room8 (hb : Big X) : (nestedKind X.prog X.w).room X.A.in1 := by
  have h : X.A.units + 200 < cLine := hb
  show X.A.units + 1 + 8 < cLine
  omega
theorem is_of (I : Inv X pins σ H s) {b : Addr} (hk : kOk k = true) (r : RD (sysOf X T) H μ L k (.ref b)) : (nestedKind X.prog X.w).is s.heap k.nk b :=
  ⟨nested_of I (kOk_key hk) r rfl, by rw [nk_depth _ (kOk_key hk)]; exact kOk_dep hk⟩
theorem dict_ty (I : Inv X pins σ H s) (hr : ∀ o, rd o → Rd H a o) (h : DA (sysOf X T) H μ L a kvs rd) : s.TypeIs (.ref a) "dict" ∧ ∀ b, Value.ref a = .ref b → ∃ ob, s.heap.get? b = some ob ∧ ob.dict = none := by
  cases h with
  | leaf ps h e r =>
    obtain ⟨z, hd, vs, rel, o, es, ep, ho, hx, _⟩ := dk_rd I.hok (hr _ h)
    exact ⟨⟨o, ho, hx.1⟩, fun b e => by cases e; exact ⟨o, ho, hx.2.1⟩⟩
  | tup xs us h e0 e r r2 r3 =>
    obtain ⟨hd, hz, o, arr, ep, ho, hx, _⟩ := dx_rd I (hr _ h)
    exact ⟨⟨o, ho, hx.1⟩, fun b e => by cases e; exact ⟨o, ho, hx.2.1⟩⟩

/-- k in d -/
theorem da_in (hb : Big X) (I : Inv X pins σ H s) (hr : ∀ o, rd o → Rd H a o) (h : DA (sysOf X T) H μ L a kvs rd) (hk : kf kvs k = true) (r : RD (sysOf X T) H μ L k y) (q : RelV y u) {Q : Value → Shared → Prop}
    (hq : ∀ s', Inv X pins σ H s' → Q (.bool (dget kvs k).isSome) s') : wpAny (model X.prog X.w) X.A (compareOp .In u (.ref a)) Q E s := by
  rcases key_cases hk with ⟨κ, rfl⟩ | ⟨ht, ho⟩
  · obtain ⟨hd, vs, dd, pl, _⟩ := da_leaf I hr h hk
    refine wpAny_in_of (kV_is (leaf_rel r q)) hd dd.mapOf ?_
    rw [← (pl.get κ).isSome]
    exact hq _ (I.tok _)
  · obtain ⟨hd, xs, dd, pt, _⟩ := da_tup I hr h hk ht
    obtain ⟨b, rfl, rfl⟩ := tup_ref ht r q
    refine wpAny_in_heap (room8 hb) (is_of I ho r) hd dd ?_
    have z := (pt.get ho).isSome
    rw [Option.isSome_map] at z
    rw [← z]
    exact hq _ (I.tok _)
theorem da_notIn (hb : Big X) (I : Inv X pins σ H s) (hr : ∀ o, rd o → Rd H a o) (h : DA (sysOf X T) H μ L a kvs rd) (hk : kf kvs k = true) (r : RD (sysOf X T) H μ L k y) (q : RelV y u) {Q : Value → Shared → Prop}
    (hq : ∀ s', Inv X pins σ H s' → Q (.bool (!(dget kvs k).isSome)) s') : wpAny (model X.prog X.w) X.A (compareOp .NotIn u (.ref a)) Q E s := by
  rcases key_cases hk with ⟨κ, rfl⟩ | ⟨ht, ho⟩
  · obtain ⟨hd, vs, dd, pl, _⟩ := da_leaf I hr h hk
    refine wpAny_notIn_of (kV_is (leaf_rel r q)) hd dd.mapOf ?_
    rw [← (pl.get κ).isSome]
    exact hq _ (I.tok _)
  · obtain ⟨hd, xs, dd, pt, _⟩ := da_tup I hr h hk ht
    obtain ⟨b, rfl, rfl⟩ := tup_ref ht r q
    refine wpAny_notIn_heap (room8 hb) (is_of I ho r) hd dd ?_
    have z := (pt.get ho).isSome
    rw [Option.isSome_map] at z
    rw [← z]
    exact hq _ (I.tok _)
theorem ro_some {S : Sys} {o : Option D} {z : D} {w : Option Value} (h : RO S H μ L o w) (e : o = some z) : ∃ u, w = some u ∧ VR S H μ L z u := by
  subst e
  cases w with
  | none => exact h.elim
  | some u => exact ⟨u, rfl, h⟩
/-- d[k], there -/
theorem da_get (hb : Big X) (I : Inv X pins σ H s) (hr : ∀ o, rd o → Rd H a o) (h : DA (sysOf X T) H μ L a kvs rd) (hk : kf kvs k = true) (r : RD (sysOf X T) H μ L k y) (q : RelV y u) {z : D} (hz : dget kvs k = some z) {Q : Value → Shared → Prop}
    (hq : ∀ w s', Inv X pins σ H s' → VR (sysOf X T) H μ L z w → Q w s') : wpAny (model X.prog X.w) X.A (getItem (.ref a) u) Q E s := by
  rcases key_cases hk with ⟨κ, rfl⟩ | ⟨ht, ho⟩
  · obtain ⟨hd, vs, dd, pl, _⟩ := da_leaf I hr h hk
    obtain ⟨w, hw, vr⟩ := ro_some (pl.get κ) hz
    exact wpAny_getItem_of (kV_is (leaf_rel r q)) dd.mapOf hw (hq w _ (I.tok _) vr)
  · obtain ⟨hd, xs, dd, pt, _⟩ := da_tup I hr h hk ht
    obtain ⟨b, rfl, rfl⟩ := tup_ref ht r q
    obtain ⟨w, hw, vr⟩ := ro_some (pt.get ho) hz
    obtain ⟨p, hp, hp2⟩ := Option.map_eq_some_iff.mp hw
    refine wpAny_getItem_heap (room8 hb) (is_of I ho r) dd hp ?_
    rw [hp2]
    exact hq w _ (I.tok _) vr
/-- d.get(k, x) -/
theorem da_getOr (hb : Big X) (I : Inv X pins σ H s) (hr : ∀ o, rd o → Rd H a o) (h : DA (sysOf X T) H μ L a kvs rd) (hk : kf kvs k = true) (r : RD (sysOf X T) H μ L k y) (q : RelV y u) {x : D} {c : Value} (hx : VR (sysOf X T) H μ L x c) {Q : Value → Shared → Prop}
    (hq : ∀ w s', Inv X pins σ H s' → VR (sysOf X T) H μ L ((dget kvs k).getD x) w → Q w s') : wpAny (model X.prog X.w) X.A (call (.builtin "dict.get") [.ref a, u, c]) Q E s := by
  rcases key_cases hk with ⟨κ, rfl⟩ | ⟨ht, ho⟩
  · obtain ⟨hd, vs, dd, pl, _⟩ := da_leaf I hr h hk
    refine call_meetsIn PySem.F.slot_dict_get dd.typeIs PySem.F.entry_dict_get (PySem.F.args_dict_get_3 _ _ _) (meets_dict_get_default (mixKind X.prog X.w) a (kV_is (leaf_rel r q)) hd c) ⟨valueAt vs, dd.mapOf, ?_⟩
    refine hq _ _ (I.tok _) ?_
    have z := pl.get κ
    cases e : dget kvs (leafD κ) with
    | none => rw [e] at z; rw [z.none.mp rfl]; exact hx
    | some w =>
      obtain ⟨w', hw, vr⟩ := ro_some z e
      rw [hw]
      exact vr
  · obtain ⟨hd, xs, dd, pt, _⟩ := da_tup I hr h hk ht
    obtain ⟨b, rfl, rfl⟩ := tup_ref ht r q
    refine call_meetsIn PySem.F.slot_dict_get dd.typeIs PySem.F.entry_dict_get (PySem.F.args_dict_get_3 _ _ _) (meetsH_dict_get_default (nestedKind X.prog X.w) a b hd c) ⟨room8 hb, k.nk, xs, is_of I ho r, dd, ?_⟩
    refine hq _ _ (I.tok _) ?_
    have z := pt.get ho
    cases e : dget kvs k with
    | none => rw [e] at z; rw [z.none.mp rfl]; exact hx
    | some w =>
      obtain ⟨w', hw, vr⟩ := ro_some z e
      rw [hw]
      exact vr
/-- the dict's place behind a store -/
theorem da_new (hr : ∀ o, rd o → H a = some o ∧ Mut (some o)) (h : DA (sysOf X T) H μ L a kvs rd) : Mut (H a) ∧ ∃ o, H a = some o := by
  cases h with
  | leaf ps h e r => exact ⟨by rw [(hr _ h).1]; exact (hr _ h).2, _, (hr _ h).1⟩
  | tup xs us h e0 e r r2 r3 => exact ⟨by rw [(hr _ h).1]; exact (hr _ h).2, _, (hr _ h).1⟩
theorem hx_upd {o o' : HO} (h : H a = some o) (n1 : ∀ xs, o ≠ .tup xs) (n2 : ∀ q u, o ≠ .frz q u) : HX H (upd H a o') :=
  ⟨fun b xs e => by rw [upd_ne (ne_of e h (fun z => n1 xs z.symm))]; exact e, fun b q u e => by rw [upd_ne (ne_of e h (fun z => n2 q u z.symm))]; exact e⟩
abbrev Live (H : Hp) (a : Addr) : HO → Prop := fun o => H a = some o
theorem live_rd : ∀ o, Live H a o → Rd H a o := fun _ h => .inl h
/-- what a live dict's place is -/
theorem da_live (h : DA (sysOf X T) H μ L a kvs (Live H a)) : Mut (H a) ∧ ∀ o', HX H (upd H a o') := by
  cases h with
  | leaf ps h e r => exact ⟨by rw [show H a = _ from h]; exact True.intro, fun o' => hx_upd h (fun _ z => nomatch z) (fun _ _ z => nomatch z)⟩
  | tup xs us h e0 e r r2 r3 => exact ⟨by rw [show H a = _ from h]; exact True.intro, fun o' => hx_upd h (fun _ z => nomatch z) (fun _ _ z => nomatch z)⟩
theorem stored_len {K : Type} [DecidableEq K] (vs : List (K × Value)) (k : K) (v : Value) : (stored vs k v).length ≤ vs.length + 1 := by
  unfold stored
  split
  · rw [List.length_map]; omega
  · rw [List.length_append]; exact Nat.le_refl _
theorem storedH_len {K : Type} [DecidableEq K] (vs : List (K × Addr × Value)) (k : K) (b : Addr) (v : Value) : (storedH vs k b v).length ≤ vs.length + 1 := by
  unfold storedH
  split
  · rw [List.length_map]; omega
  · rw [List.length_append]; exact Nat.le_refl _
theorem da_write_leaf {kvs' : List (D × D)} {vs' : List (Key × Value)} {h' : Heap} {t' : Nat} (I : Inv X pins σ H s) (lv : Mut (H a) ∧ ∀ o', HX H (upd H a o')) (pl : PL (sysOf X T) H μ L kvs' vs') (dd : h'.DictOf (mixKind X.prog X.w) a vs') (hs : Heap.SameBut a s.heap h') (hd : (a == sysModules) = false) (hl : vs'.length ≤ sizeLine) :
    ∃ o', Inv X pins σ (upd H a o') { s with heap := h', toks := t' } ∧ DA (sysOf X T) (upd H a o') μ L a kvs' (Live (upd H a o') a) := by
  obtain ⟨ps, kv, e, r⟩ := ofPL (pl.mono (lv.2 (.dK [])))
  have he : ∃ q, h'.get? a = some q := let ⟨q, _, _, hq, _⟩ := dd; ⟨q, hq⟩
  refine ⟨.dK ps, d_write I lv.1 hs he (dk_new (by rw [kv.length]; exact hl) hd kv dd), .leaf ps upd_same e (r.mono ⟨fun b xs q => ?_, fun b o' u' q => ?_⟩ (fun _ _ => rfl) (Nat.le_refl _))⟩
  · by_cases hb : b = a
    · subst hb; rw [upd_same] at q; cases q
    · rw [upd_ne hb] at q ⊢; exact q
  · by_cases hb : b = a
    · subst hb; rw [upd_same] at q; cases q
    · rw [upd_ne hb] at q ⊢; exact q
theorem da_write_tup {kvs' : List (D × D)} {xs' : List (NestedKey × Addr × Value)} {h' : Heap} {t' : Nat} (I : Inv X pins σ H s) (lv : Mut (H a) ∧ ∀ o', HX H (upd H a o')) (pt : PT (sysOf X T) H μ L kvs' xs') (dd : h'.DictOfH (nestedKind X.prog X.w) a xs') (hs : Heap.SameBut a s.heap h') (hd : (a == sysModules) = false) (hl : xs'.length ≤ sizeLine) :
    ∃ o', Inv X pins σ (upd H a o') { s with heap := h', toks := t' } ∧ DA (sysOf X T) (upd H a o') μ L a kvs' (Live (upd H a o') a) := by
  obtain ⟨us, e0, e, r, r2, r3⟩ := ofPT (pt.mono (lv.2 (DX (sysOf X T) a xs')))
  obtain ⟨q, es, ep, hq, h2, h3, h4, _, h5⟩ := dd
  refine ⟨DX (sysOf X T) a xs', d_write I lv.1 hs ⟨q, hq⟩ ?_, .tup xs' us upd_same e0 e r r2 r3⟩
  refine ⟨⟨hd, hl, q, es, ep, hq, h2, h3, h4, h5⟩, ⟨q, hq⟩, fun g1 g2 ⟨y1, y2, o, arr, ep, y3, y4⟩ st => ⟨y1, y2, o, arr, ep, st _ y3, y4⟩⟩
/-- d[k] = v -/
theorem da_set (hb : Big X) (I : Inv X pins σ H s) (h : DA (sysOf X T) H μ L a kvs (Live H a)) (hk : kf kvs k = true) (r : RD (sysOf X T) H μ L k y) (q : RelV y u) {x : D} {c : Value} (hx : VR (sysOf X T) H μ L x c) (hz : kvs.length < listMax) {Q : Unit → Shared → Prop}
    (hq : ∀ o' s', Inv X pins σ (upd H a o') s' → DA (sysOf X T) (upd H a o') μ L a (dput kvs k x) (Live (upd H a o') a) → Q () s') : wpAny (model X.prog X.w) X.A (setItem (.ref a) u c) Q E s := by
  have big : listMax < sizeLine := by rw [sizeLine_eq]; decide
  rcases key_cases hk with ⟨κ, rfl⟩ | ⟨ht, ho⟩
  · obtain ⟨hd, vs, dd, pl, hl⟩ := da_leaf I live_rd h hk
    have lz : vs.length = kvs.length := (Paired.length pl).symm
    refine wpAny_setItem_pairs (hsz := hl) (kV_is (leaf_rel r q)) dd fun h' dd' hs => ?_
    obtain ⟨o', I', D'⟩ := da_write_leaf (t' := s.toks + 1) I (da_live h) (pl.put κ hx) dd' hs hd (by have := stored_len vs κ c; omega)
    exact hq o' _ I' D'
  · obtain ⟨hd, xs, dd, pt, hl⟩ := da_tup I live_rd h hk ht
    have lz : xs.length = kvs.length := (Paired.length pt).symm
    obtain ⟨b, rfl, rfl⟩ := tup_ref ht r q
    refine wpAny_setItem_heap (hsz := hl) (room8 hb) (is_of I ho r) dd fun h' dd' hs => ?_
    obtain ⟨o', I', D'⟩ := da_write_tup (t' := s.toks + (nestedKind X.prog X.w).draws k.nk) I (da_live h) (pt.put ho r hx) dd' hs hd (by have := storedH_len xs k.nk b c; omega)
    exact hq o' _ I' D'
/-- d.setdefault(k, v) -/
theorem da_setd (hb : Big X) (I : Inv X pins σ H s) (h : DA (sysOf X T) H μ L a kvs (Live H a)) (hk : kf kvs k = true) (r : RD (sysOf X T) H μ L k y) (q : RelV y u) {x : D} {c : Value} (hx : VR (sysOf X T) H μ L x c) (hz : kvs.length < listMax) {Q : Value → Shared → Prop}
    (h1 : ∀ z w s', dget kvs k = some z → Inv X pins σ H s' → VR (sysOf X T) H μ L z w → Q w s')
    (h2 : dget kvs k = none → ∀ o' s', Inv X pins σ (upd H a o') s' → DA (sysOf X T) (upd H a o') μ L a (kvs ++ [(k, x)]) (Live (upd H a o') a) → Q c s') : wpAny (model X.prog X.w) X.A (call (.builtin "dict.setdefault") [.ref a, u, c]) Q E s := by
  have big : listMax < sizeLine := by rw [sizeLine_eq]; decide
  have dp : dget kvs k = none → dput kvs k x = kvs ++ [(k, x)] := fun e => by unfold dput; rw [e]; rfl
  rcases key_cases hk with ⟨κ, rfl⟩ | ⟨ht, ho⟩
  · obtain ⟨hd, vs, dd, pl, hl⟩ := da_leaf I live_rd h hk
    have lz : vs.length = kvs.length := (Paired.length pl).symm
    refine call_meetsIn PySem.F.slot_dict_setdefault dd.typeIs PySem.F.entry_dict_setdefault (PySem.F.args_dict_setdefault_3 _ _ _) (kt_meets_setdefault (mixKind X.prog X.w) a (kV_is (leaf_rel r q)) hd c) ⟨vs, dd, hl, fun v hv => ?_, fun hn h' dd' hs => ?_⟩
    · have z := pl.get κ
      rw [hv] at z
      cases e : dget kvs (leafD κ) with
      | none => rw [e] at z; exact z.elim
      | some w => rw [e] at z; exact h1 w v _ e (I.tok _) z
    · have z := pl.get κ
      rw [hn] at z
      have e := z.none.mpr rfl
      obtain ⟨o', I', D'⟩ := da_write_leaf (t' := s.toks + 1) I (da_live h) (pl.put κ hx) dd' hs hd (by have := stored_len vs κ c; omega)
      rw [dp e] at D'
      exact h2 e o' _ I' D'
  · obtain ⟨hd, xs, dd, pt, hl⟩ := da_tup I live_rd h hk ht
    have lz : xs.length = kvs.length := (Paired.length pt).symm
    obtain ⟨b, rfl, rfl⟩ := tup_ref ht r q
    refine call_setdefault_heap (hsz := hl) (room8 hb) (is_of I ho r) hd dd (fun p hp => ?_) fun hn h' dd' hs => ?_
    · have z := pt.get ho
      rw [hp] at z
      cases e : dget kvs k with
      | none => rw [e] at z; exact z.elim
      | some w => rw [e] at z; exact h1 w p.2 _ e (I.tok _) z
    · have z := pt.get ho
      rw [hn] at z
      have e := z.none.mpr rfl
      obtain ⟨o', I', D'⟩ := da_write_tup (t' := s.toks + (nestedKind X.prog X.w).draws k.nk) I (da_live h) (pt.put ho r hx) dd' hs hd (by have := storedH_len xs k.nk b c; omega)
      rw [dp e] at D'
      exact h2 e o' _ I' D'
/-- len(d) -/
theorem da_len (I : Inv X pins σ H s) (hr : ∀ o, rd o → Rd H a o) (h : DA (sysOf X T) H μ L a kvs rd) {Q : Value → Shared → Prop}
    (hq : ∀ t s', Inv X pins σ H s' → Q (.int kvs.length t) s') : wpAny (model X.prog X.w) X.A (call (.builtin "len") [.ref a]) Q E s := by
  cases h with
  | leaf ps h e r =>
    have l : kvs.length = ps.length := by have := congrArg List.length e; simpa using this
    rw [l] at hq
    exact d_len I (hr _ h) hq
  | tup xs us h e0 e r r2 r3 =>
    obtain ⟨hd, hz, o, arr, ep, ho, hx, hdat, harr, hn⟩ := dx_rd I (hr _ h)
    have l : kvs.length = xs.length := by have := r.length; simpa using this
    have l2 : arr.size = xs.length := by rw [← Array.length_toList, harr, List.length_map]
    have z : sizeLine = 16777216 := sizeLine_eq
    refine PyProof.Rows.call_len_slot (n := arr.size) ⟨o, ho, hx.1⟩ PySem.F.slot_dict_len (fun Q' hq' => call_len_raw hd ⟨o, ho, hx, hdat⟩ hq') (by omega) (by omega) ?_
    rw [l2, ← l]
    exact hq _ _ (I.tok _)
end
end GM
end
section
set_option Elab.async false
set_option linter.all false
set_option maxRecDepth 100000
namespace GM
open PySem PySem.Spec PyProof.Rows L2

section
variable {X : Cx} {T : Tab}
theorem mem_dget {ks ws : List D} (l : ks.length = ws.length) (k : D) : (dget (ks.zip ws) k).isSome = decide (k ∈ ks) := by
  induction ks generalizing ws with
  | nil => rfl
  | cons a ks ih =>
    cases ws with
    | nil => simp at l
    | cons b ws =>
      rw [List.zip_cons_cons, dget_cons]
      by_cases e : a = k
      · subst e; simp
      · rw [if_neg e, ih (by simpa using l)]
        have : ¬ k = a := fun z => e z.symm
        simp [this]
theorem kf_zip {ks ws : List D} (l : ks.length = ws.length) (k : D) : kf (ks.zip ws) k = keyFits ks k := by
  unfold kf
  rw [(unzip_l ks ws l).1]
theorem rd_of_vd_key {S : Sys} {H : Hp} {μ : Nat → Addr} {L : Nat} {d : D} {v : V} (hk : kOk d = true) (h : VD S H μ L d v) : RD S H μ L d v := by
  have k := kOk_key hk
  cases d with
  | lst _ => simp [D.isKey] at k
  | dic _ _ => simp [D.isKey] at k
  | _ => exact h
theorem fits_ok {ks : List D} {k : D} (h : keyFits ks k = true) : kOk k = true := by
  simp only [keyFits, Bool.and_eq_true] at h
  exact h.1.1
theorem c_isIn (hb : Big X) : OpR X (compareOp .In) (rP2 (sysOf X T) (fCmp .isIn)) := by
  intro pins s σ H x y v u Q I rx ry h
  obtain ⟨μ, L, d, e, z, hd, he, hf, q⟩ := h
  by_cases hn : ∀ ks vs, e ≠ .dic ks vs
  · exact c_in hb pins s σ H x y v u Q I rx ry ⟨μ, L, d, e, z, hd, he, hn, hf, q⟩
  · have hn' : ∃ ks vs, e = .dic ks vs := Classical.byContradiction fun c => hn fun ks vs z => c ⟨ks, vs, z⟩
    obtain ⟨ks, ws, rfl⟩ := hn'
    obtain ⟨k, hk, rfl⟩ := fCmp_some hf
    have hk2 : (if keyFits ks d = true then some (decide (d ∈ ks)) else none) = some k := by
      cases d <;> exact hk
    split at hk2
    · rename_i c
      obtain ⟨a, e1, l, da⟩ := da_of_vd he
      subst e1
      obtain rfl : u = Value.ref a := ry
      refine da_in hb I (fun _ h => h) da (by rw [kf_zip l]; exact c) (rd_of_vd_key (fits_ok c) hd) rx fun s' I' => ⟨.bl k, H, I', ?_, q H _ (same_refl H) rfl⟩
      rw [mem_dget l, ← Option.some.inj hk2] <;> rfl
    · cases hk2
theorem c_isNotIn (hb : Big X) : OpR X (compareOp .NotIn) (rP2 (sysOf X T) (fCmp .notIn)) := by
  intro pins s σ H x y v u Q I rx ry h
  obtain ⟨μ, L, d, e, z, hd, he, hf, q⟩ := h
  by_cases hn : ∀ ks vs, e ≠ .dic ks vs
  · exact c_notIn hb pins s σ H x y v u Q I rx ry ⟨μ, L, d, e, z, hd, he, hn, hf, q⟩
  · have hn' : ∃ ks vs, e = .dic ks vs := Classical.byContradiction fun c => hn fun ks vs z => c ⟨ks, vs, z⟩
    obtain ⟨ks, ws, rfl⟩ := hn'
    obtain ⟨k, hk, rfl⟩ := fCmp_some hf
    have hk2 : (if keyFits ks d = true then some (!decide (d ∈ ks)) else none) = some k := by
      cases d <;> exact hk
    split at hk2
    · rename_i c
      obtain ⟨a, e1, l, da⟩ := da_of_vd he
      subst e1
      obtain rfl : u = Value.ref a := ry
      refine da_notIn hb I (fun _ h => h) da (by rw [kf_zip l]; exact c) (rd_of_vd_key (fits_ok c) hd) rx fun s' I' => ⟨.bl k, H, I', ?_, q H _ (same_refl H) rfl⟩
      rw [mem_dget l, ← Option.some.inj hk2] <;> rfl
    · cases hk2
/-- o[i] -/
theorem x_idx (hb : Big X) : IxR X (rP2 (sysOf X T) opIdx) := by
  intro value slice pins s σ H x y v u Q I rx ry h hs
  obtain ⟨μ, L, d, e, z, hd, he, hf, q⟩ := h
  by_cases hn : ∀ ks vs, d ≠ .dic ks vs
  · exact x_seq value slice pins s σ H x y v u Q I rx ry ⟨μ, L, d, e, z, hd, he, hn, hf, q⟩ hs
  · have hn' : ∃ ks vs, d = .dic ks vs := Classical.byContradiction fun c => hn fun ks vs z => c ⟨ks, vs, z⟩
    obtain ⟨ks, ws, rfl⟩ := hn'
    have hk2 : (if keyFits ks e = true then dget (ks.zip ws) e else none) = some z := by
      cases e <;> exact hf
    split at hk2
    · rename_i c
      obtain ⟨a, e1, l, da⟩ := da_of_vd hd
      subst e1
      obtain rfl : v = Value.ref a := rx
      obtain ⟨t1, t2⟩ := dict_ty I (fun _ h => h) da
      have fin : wpAny (model X.prog X.w) X.A (subscripted slice false (.ref a) u) (fun r s₃ => wpAny (model X.prog X.w) X.A (letTemporaryGo value (.ref a) r >>= fun _ => pure r) (EP X pins σ Q) X.xe s₃) X.xe s := by
        rw [hs]
        refine wpAny_operating ?_
        exact da_get hb I (fun _ h => h) da (by rw [kf_zip l]; exact c) (rd_of_vd_key (fits_ok c) he) ry hk2 fun w s' I' ⟨v', r1, r2⟩ => wpAny_bind (wpAny_letTemporaryGo (wpAny_pure ⟨v', H, I', r1, q H _ (same_refl H) r2⟩))
      unfold subscriptTail
      refine wpAny_bind ?_
      rw [getitemInPython_of_ne t1.not_modules]
      refine wpAny_bind (wpAny_specialOf t1 PySem.F.slot_dict_getitem.lookup ?_)
      first
        | exact wpAny_pure (wpAny_bind fin)
        | exact wpAny_bind (wpAny_pure (wpAny_bind fin))
        | exact wpAny_bind fin
    · cases hk2
theorem b_len : CallR X (.builtin "len") (rBi (sysOf X T) (opBi .len)) := by
  intro pins s σ H xs us Q I r h
  obtain ⟨μ, L, ds, z, hd, hf, q⟩ := h
  obtain ⟨d, rfl⟩ := one_of hf (by decide) (by decide)
  obtain ⟨v, e, hv⟩ := hd.one
  cases d with
  | lst ys =>
    obtain rfl := Option.some.inj (show some (D.int ys.length) = some z from hf)
    obtain ⟨a, vs, e3, hq, rs⟩ := hv
    subst e e3
    exact call_len_seq pins s σ H _ us Q I r ⟨a, vs, rfl, .inl hq, q H _ (same_refl H) (by rw [RD, rs.length])⟩
  | tup ys =>
    obtain rfl := Option.some.inj (show some (D.int ys.length) = some z from hf)
    obtain ⟨a, vs, e3, hq, rs⟩ := hv
    subst e e3
    exact call_len_seq pins s σ H _ us Q I r ⟨a, vs, rfl, .inr hq, q H _ (same_refl H) (by rw [RD, rs.length])⟩
  | str a =>
    obtain rfl : v = .str a := hv
    subst e
    have hf' : (if a.length ≤ 10000 then some (D.int a.length) else none) = some z := hf
    split at hf'
    · rename_i c
      obtain rfl := Option.some.inj hf'
      exact call_len_str pins s σ H _ us Q I r ⟨a, rfl, Nat.le_trans c (by rw [sizeLine_eq]; decide), q H _ (same_refl H) rfl⟩
    · cases hf'
  | dic ks ws =>
    obtain rfl := Option.some.inj (show some (D.int ks.length) = some z from hf)
    obtain ⟨a, e1, l, da⟩ := da_of_vd hv
    subst e e1
    rw [Vals.ref1 r]
    refine da_len I (fun _ h => h) da fun t s' I' => ⟨.int ks.length, H, I', ⟨t, ?_⟩, q H _ (same_refl H) rfl⟩
    rw [List.length_zip, ← l, Nat.min_self]
  | set ks => exact hv.elim
  | _ => simp [opBi] at hf
def tyName : Ty → String
  | .int => "int"
  | .bool => "bool"
  | .str => "str"
  | .tuple => "tuple"
  | .list => "list"
theorem b_isa (t : Ty) : CallR X (.builtin "isinstance") (fun vs H Q => ∃ (μ : Nat → Addr) (L : Nat) (d : D) (v : V) (k : Bool), vs = [v, .ty (tyName t)] ∧ VD (sysOf X T) H μ L d v ∧ opIsa t d = some k ∧ Q (.bl k) H) := by
  intro pins s σ H xs us Q I r h
  obtain ⟨μ, L, d, v, k, rfl, hd, hf, q⟩ := h
  obtain ⟨u1, u2, rfl, r1, r2⟩ := vals2 r
  obtain rfl : u2 = Value.type (tyName t) := r2
  unfold opIsa at hf
  split at hf
  · rename_i c
    obtain rfl := Option.some.inj hf
    obtain ⟨as, ra⟩ := reads_vd I c hd r1
    cases t with
    | int =>
      refine PySem.W.isinstance_int_data ra fun tk _ => ⟨.bl _, H, I.tok tk, ?_, q⟩
      cases d <;> first | rfl | simp [D.pl] at c
    | bool =>
      refine PySem.W.isinstance_bool_data ra fun tk _ => ⟨.bl _, H, I.tok tk, ?_, q⟩
      cases d <;> first | rfl | simp [D.pl] at c
    | str =>
      refine PySem.W.isinstance_str_data ra fun tk _ => ⟨.bl _, H, I.tok tk, ?_, q⟩
      cases d <;> first | rfl | simp [D.pl] at c
    | tuple =>
      refine PySem.W.isinstance_tuple_data ra fun tk _ => ⟨.bl _, H, I.tok tk, ?_, q⟩
      cases d <;> first | rfl | simp [D.pl] at c
    | list =>
      refine PySem.W.isinstance_list_data ra fun tk _ => ⟨.bl _, H, I.tok tk, ?_, q⟩
      cases d <;> first | rfl | simp [D.pl] at c
  · cases hf
/-! ### new lists -/
/-- a new list, live: its items -/
def rNew (S : Sys) (f : D → Option (List D)) : List V → Hp → VK → Prop := fun vs H Q => ∃ (μ : Nat → Addr) (L : Nat) (d : D) (zs : List D), (∃ v, vs = [v] ∧ VD S H μ L d v) ∧ f d = some zs ∧ ∀ p ws, H p = none → RDs S H μ L zs ws → ws.length ≤ sizeLine → Q (.ref p) (upd H p (.lst ws))
def opOfs : D → Option (List D)
  | .lst xs => some xs
  | .tup xs => some xs
  | _ => none
theorem sq_len {pins : List (Addr × Obj)} {σ : L2.St} {H : Hp} {s : Shared} (I : Inv X pins σ H s) {a : Addr} {vs : List V} (h : SqL X.K H a vs) : vs.length ≤ sizeLine := by
  obtain ⟨_, _, _, z⟩ := I.list h
  exact z
theorem b_list : CallR X (.type "list") (rNew (sysOf X T) opOfs) := by
  intro pins s σ H xs us Q I r h
  obtain ⟨μ, L, d, zs, ⟨v, rfl, hv⟩, hf, q⟩ := h
  cases d with
  | lst ys =>
    obtain rfl := Option.some.inj (show some ys = some zs from hf)
    obtain ⟨a, vs, e3, hq, rs⟩ := hv
    subst e3
    exact call_list_of pins s σ H _ us Q I r ⟨a, vs, rfl, .inl hq, fun l hl => q l vs hl rs (let ⟨_, _, _, z⟩ := I.list hq; z)⟩
  | tup ys =>
    obtain rfl := Option.some.inj (show some ys = some zs from hf)
    obtain ⟨a, vs, e3, hq, rs⟩ := hv
    subst e3
    exact call_list_of pins s σ H _ us Q I r ⟨a, vs, rfl, .inr hq, fun l hl => q l vs hl rs (let ⟨_, _, _, z⟩ := I.tuple hq; z)⟩
  | _ => simp [opOfs] at hf
end
end GM
end
section
set_option Elab.async false
set_option linter.all false
set_option maxRecDepth 100000
namespace GM
open PySem PySem.Spec PyProof.Rows L2

theorem PEimp {X : Cx} {e : Expr} {t t' : TE} (h : PE X e t) (i : ∀ σ H Q, t' σ H Q → t σ H Q) : PE X e t' := ⟨fun pins s σ H Q I q => h.run pins s σ H Q I (i σ H Q q)⟩
theorem PTimp {X : Cx} {e : Expr} {t t' : TT} (h : L2.PT X e t) (i : ∀ σ H Q, t' σ H Q → t σ H Q) : L2.PT X e t' := ⟨fun pins s σ H Q I q => h.run pins s σ H Q I (i σ H Q q)⟩
theorem PWimp {X : Cx} {e : Expr} {t t' : TT} (h : PW X e t) (i : ∀ σ H Q, t' σ H Q → t σ H Q) : PW X e t' := ⟨fun wh pins s σ H Q I q => h.run wh pins s σ H Q I (i σ H Q q)⟩
theorem PAimp {X : Cx} {e : List Expr} {t t' : TA} (h : PA X e t) (i : ∀ σ H Q, t' σ H Q → t σ H Q) : PA X e t' := ⟨fun pos pins s σ H Q I q => h.run pos pins s σ H Q I (i σ H Q q)⟩
theorem POimp {X : Cx} {e : Option Expr} {t t' : TO} (h : PO X e t) (i : ∀ σ H Q, t' σ H Q → t σ H Q) : PO X e t' := ⟨fun pins s σ H Q I q => h.run pins s σ H Q I (i σ H Q q)⟩
theorem PIimp {X : Cx} {tg e : Expr} {t t' : TI} (h : PI X tg e t) (i : ∀ σ H Q, t' σ H Q → t σ H Q) : PI X tg e t' := ⟨fun pins s σ H Q I q => h.run pins s σ H Q I (i σ H Q q)⟩
theorem PSimp {X : Cx} {e : Stmt} {t t' : TS} (h : PS X e t) (i : ∀ D σ H, t' D σ H → t D σ H) : PS X e t' := ⟨fun pins s σ H D I q => h.run pins s σ H D I (i D σ H q)⟩
theorem PSsimp {X : Cx} {e : List Stmt} {t t' : TS} (h : PSs X e t) (i : ∀ D σ H, t' D σ H → t D σ H) : PSs X e t' := ⟨fun pins s σ H D I q => h.run pins s σ H D I (i D σ H q)⟩

/-- my state at the real one -/
structure At (S : Sys) (σ : L2.St) (H : Hp) (μ : Nat → Addr) (h : MH) (ρ : Env) : Prop where
  hp : SimH S μ h H
  en : SimE S ρ σ H μ h.length
theorem At.ext {S : Sys} {σ : L2.St} {H H' : Hp} {μ μ' : Nat → Addr} {h h' : MH} {ρ : Env} (a : At S σ H μ h ρ) (e : Ext μ h H μ' h' H') (s : SimH S μ' h' H') : At S σ H' μ' h' ρ := ⟨s, a.en.ext e⟩
theorem At.same {S : Sys} {σ : L2.St} {H H' : Hp} {μ : Nat → Addr} {h : MH} {ρ : Env} (a : At S σ H μ h ρ) (e : Same H H') : At S σ H' μ h ρ := a.ext (.sm e) (a.hp.same e)

abbrev RlT (α β : Type) := Hp → (Nat → Addr) → Nat → α → β → Prop
def TM {α β : Type} (S : Sys) (Rl : RlT α β) (W : WX) (ev : Env → MH → R α) : L2.St → Hp → (β → Hp → Prop) → Prop := fun σ H Q => ∃ μ h ρ, At S σ H μ h ρ ∧ Post S Rl W σ μ h H (ev ρ h) Q
abbrev RB : RlT Bool Bool := fun _ _ _ a b => a = b
abbrev RI : RlT (Option Int) (Option Int) := fun _ _ _ a b => a = b
theorem Post.imp {α β : Type} {S : Sys} {Rl : RlT α β} {W : WX} {σ : L2.St} {μ : Nat → Addr} {h : MH} {H : Hp} {r : R α} {Q Q' : β → Hp → Prop} (p : Post S Rl W σ μ h H r Q) (i : ∀ v H', Q v H' → Q' v H') : Post S Rl W σ μ h H r Q' := by
  cases r with
  | ok a h' => exact fun μ' H' v e s r => i _ _ (p μ' H' v e s r)
  | exc c pl h' => exact p
  | bad => exact p
section
variable {α β γ δ : Type} {S : Sys} {Rl : RlT α β} {Rl1 : RlT γ δ} {W : WX} {σ : L2.St} {μ : Nat → Addr} {h : MH} {H : Hp} {ρ : Env}
theorem step (A : At S σ H μ h ρ) {ev : Env → MH → R γ} {f : γ → MH → R α} {Q : β → Hp → Prop} {Q1 : δ → Hp → Prop} (p : Post S Rl W σ μ h H ((ev ρ h).bind f) Q)
    (k : ∀ v H1 μ1 h1 d, Ext μ h H μ1 h1 H1 → At S σ H1 μ1 h1 ρ → Rl1 H1 μ1 h1.length d v → Post S Rl W σ μ1 h1 H1 (f d h1) Q → Q1 v H1) : TM S Rl1 W ev σ H Q1 :=
  ⟨μ, h, ρ, A, (Post.split p).imp fun v H1 ⟨μ1, d, h1, e, s, r, p⟩ => k v H1 μ1 h1 d e (A.ext e s) r p⟩
/-- the end of a rule whose heap grows at most -/
theorem Post.done {a : α} {v : β} {Q : β → Hp → Prop} (A : At S σ H μ h ρ) (p : Post S Rl W σ μ h H (.ok a h) Q) {H' : Hp} (x : Same H H') (r : Rl H' μ h.length a v) : Q v H' :=
  p μ H' v (.sm x) (A.hp.same x) r
end
section
variable {X : Cx} {T : Tab} {W : WX} {C : Cal}
abbrev tE (X : Cx) (T : Tab) (W : WX) (C : Cal) (e : E) : TE := TM (sysOf X T) (RD (sysOf X T)) W (evE C e)
abbrev tEs (X : Cx) (T : Tab) (W : WX) (C : Cal) (e : Es) : TA := TM (sysOf X T) (RDs (sysOf X T)) W (evEs C e)
abbrev tEo (X : Cx) (T : Tab) (W : WX) (C : Cal) (e : Eo) : TO := TM (sysOf X T) RI W (evEo C e)
/-- as a test -/
abbrev tT (X : Cx) (T : Tab) (W : WX) (C : Cal) (ev : Env → MH → R D) : TT := TM (sysOf X T) RB W fun ρ h => (ev ρ h).bind fun d h => R.ofO (tru d) h
theorem tru_bl {d : D} {b : Bool} (h : tru d = some b) : d = .bl b := by
  cases d <;> simp [tru] at h
  subst h; rfl
theorem w_tT {ev : Env → MH → R D} {σ : L2.St} {H : Hp} {Q : Bool → Hp → Prop} (h : tT X T W C ev σ H Q) : TM (sysOf X T) (RD (sysOf X T)) W ev σ H fun x H' => ∃ k, x = .bl k ∧ Q k H' := by
  obtain ⟨μ, h, ρ, A, p⟩ := h
  refine step A p fun x H1 μ1 h1 d e1 A1 r1 p1 => ?_
  cases q : tru d with
  | none => rw [q] at p1; exact p1.elim
  | some k =>
    rw [q] at p1
    obtain rfl := tru_bl q
    obtain rfl : x = .bl k := r1
    exact ⟨k, rfl, Post.done A1 p1 (same_refl H1) rfl⟩

def bopS : Bop → Operator
  | .add => .Add | .sub => .Sub | .mul => .Mult | .fdiv => .FloorDiv | .mod => .Mod | .pow => .Pow
def cmS : Cm → CmpOp
  | .eq => .Eq | .ne => .NotEq | .lt => .Lt | .le => .LtE | .gt => .Gt | .ge => .GtE | .isIn => .In | .notIn => .NotIn | .isN => .Is | .isNotN => .IsNot
theorem o_all (o : Bop) : OpR X (binaryOp (bopS o)) (rP2 (sysOf X T) (opBin o)) := by
  cases o
  case add => exact o_add
  case sub => exact o_sub
  case mul => exact o_mul
  case fdiv => exact o_fdiv
  case mod => exact o_mod
  case pow => exact o_pow
theorem vd_non {S : Sys} {H : Hp} {μ : Nat → Addr} {L : Nat} {d : D} {x : V} (h : VD S H μ L d x) : decide (x = .non) = decide (d = .non) := by
  cases d with
  | non => obtain rfl : x = .non := h; rfl
  | bl b => obtain rfl : x = .bl b := h; rfl
  | int b => obtain rfl : x = .int b := h; rfl
  | str b => obtain rfl : x = .str b := h; rfl
  | tup ds => obtain ⟨a, vs, rfl, _⟩ := h; rfl
  | lst ds => obtain ⟨a, vs, rfl, _⟩ := h; rfl
  | dic ks vs => obtain ⟨a, rfl, _⟩ := h; rfl
  | set ds => exact h.elim
  | ref n => obtain ⟨_, rfl⟩ := h; rfl
  | fn f => obtain rfl : x = .ref _ := h; rfl
  | clo f c => exact h.elim
theorem isN_non {o : Cm} (ho : o = .isN ∨ o = .isNotN) {d e : D} {k : Bool} (h : opCmp o d e = some k) : e = .non := by
  rcases ho with rfl | rfl <;> cases e <;> first | rfl | (exfalso; cases d <;> simp [opCmp] at h)
theorem c_all (hb : Big X) (o : Cm) : OpR X (compareOp (cmS o)) (rP2 (sysOf X T) (fCmp o)) := by
  cases o
  case eq => exact c_eq hb
  case ne => exact c_ne hb
  case lt => exact c_lt hb
  case le => exact c_le hb
  case gt => exact c_gt hb
  case ge => exact c_ge hb
  case isIn => exact c_isIn hb
  case notIn => exact c_isNotIn hb
  case isN =>
    intro pins s σ H x y v u Q I rx ry h
    obtain ⟨μ, L, d, e, z, hd, he, hf, q⟩ := h
    obtain ⟨k, hk, rfl⟩ := fCmp_some hf
    obtain rfl := isN_non (.inl rfl) hk
    obtain rfl : y = .non := he
    refine op_isN pins s σ H x .non v u Q I rx ry ⟨rfl, q H _ (same_refl H) ?_⟩
    have hk' : some (decide (d = .non)) = some k := by rw [← hk]; cases d <;> rfl
    rw [RD, ← Option.some.inj hk', vd_non hd]
  case isNotN =>
    intro pins s σ H x y v u Q I rx ry h
    obtain ⟨μ, L, d, e, z, hd, he, hf, q⟩ := h
    obtain ⟨k, hk, rfl⟩ := fCmp_some hf
    obtain rfl := isN_non (.inr rfl) hk
    obtain rfl : y = .non := he
    refine op_notN pins s σ H x .non v u Q I rx ry ⟨rfl, q H _ (same_refl H) ?_⟩
    have hk' : some (!decide (d = .non)) = some k := by rw [← hk]; cases d <;> rfl
    rw [RD, ← Option.some.inj hk', vd_non hd]
/-- two values under a rule -/
theorem w_two {ea eb : E} {f : D → D → Option D} {σ : L2.St} {H : Hp} {Q : VK} {μ : Nat → Addr} {h : MH} {ρ : Env} (A : At (sysOf X T) σ H μ h ρ)
    (p : Post (sysOf X T) (RD (sysOf X T)) W σ μ h H ((evE C ea ρ h).bind fun x h => (evE C eb ρ h).bind fun y h => R.ofO (f (vw h x) (vw h y)) h) Q) :
    tOp (rP2 (sysOf X T) f) (tE X T W C ea) (tE X T W C eb) σ H Q := by
  refine step A p fun x H1 μ1 h1 d e1 A1 r1 p1 => step A1 p1 fun y H2 μ2 h2 d2 e2 A2 r2 p2 => ?_
  cases q : f (vw h2 d) (vw h2 d2) with
  | none => rw [q] at p2; exact p2.elim
  | some z => rw [q] at p2; exact ⟨μ2, h2.length, _, _, z, vw_ok A2.hp (r1.ext e2), vw_ok A2.hp r2, q, fun H' v sm r => Post.done A2 p2 sm r⟩
theorem fCmp_ofO (o : Cm) (a b : D) (h : MH) : ((R.ofO (opCmp o a b) h).bind fun k h => R.ok (D.bl k) h) = R.ofO (fCmp o a b) h := by
  cases q : opCmp o a b with
  | none => simp [fCmp, q]
  | some k => simp [fCmp, q]
theorem w_cmp {o : Cm} {ea eb : E} {σ : L2.St} {H : Hp} {Q : VK} (hh : tE X T W C (.cmp o ea eb) σ H Q) : tOp (rP2 (sysOf X T) (fCmp o)) (tE X T W C ea) (tE X T W C eb) σ H Q := by
  obtain ⟨μ, h, ρ, A, p⟩ := hh
  rw [evE] at p
  refine w_two A ?_
  simpa only [fCmp_ofO] using p
theorem w_cmp2 {o o' : Cm} {ea eb ec : E} {σ : L2.St} {H : Hp} {Q : VK} (hh : tE X T W C (.cmp2 o o' ea eb ec) σ H Q) : tChain (rP2 (sysOf X T) (fCmp o)) (rP2 (sysOf X T) (fCmp o')) (tE X T W C ea) (tE X T W C eb) (tE X T W C ec) σ H Q := by
  obtain ⟨μ, h, ρ, A, p⟩ := hh
  rw [evE] at p
  refine step A p fun x H1 μ1 h1 d e1 A1 r1 p1 => step A1 p1 fun y H2 μ2 h2 d2 e2 A2 r2 p2 => ?_
  cases q : opCmp o (vw h2 d) (vw h2 d2) with
  | none => rw [q] at p2; exact p2.elim
  | some k =>
    rw [q] at p2
    refine ⟨μ2, h2.length, _, _, .bl k, vw_ok A2.hp (r1.ext e2), vw_ok A2.hp r2, by simp [fCmp, q], fun H' v sm r => ⟨k, r, ?_⟩⟩
    have A3 := A2.same sm
    have p3 := Post.rebase (.sm sm) p2
    simp only [R.ofO_some, R.bind_ok] at p3
    cases k with
    | false =>
      rw [if_neg Bool.false_ne_true] at p3 ⊢
      exact Post.done A3 p3 (same_refl H') rfl
    | true =>
      rw [if_pos rfl] at p3 ⊢
      refine step A3 p3 fun z H4 μ4 h4 d4 e4 A4 r4 p4 => ?_
      rw [fCmp_ofO] at p4
      cases q' : fCmp o' (vw h4 d2) (vw h4 d4) with
      | none =>
        -- y was viewed at h2, now at h4
        rw [q'] at p4; exact p4.elim
      | some z =>
        rw [q'] at p4
        exact ⟨μ4, h4.length, _, _, z, vw_ok A4.hp ((r2.ext (.sm sm)).ext e4), vw_ok A4.hp r4, q', fun H' v sm r => Post.done A4 p4 sm r⟩
theorem w_var {i : Nat} {σ : L2.St} {H : Hp} {Q : VK} (hh : tE X T W C (.var i) σ H Q) : tVar i σ H Q := by
  obtain ⟨μ, h, ρ, A, p⟩ := hh
  rw [evE] at p
  cases q : ρ[i]? with
  | none => rw [q] at p; exact p.elim
  | some o =>
    cases o with
    | none => rw [q] at p; exact p.elim
    | some d =>
      rw [q] at p
      obtain ⟨v, e, r⟩ := A.en.2 i d q
      exact ⟨v, e, Post.done A p (same_refl H) r⟩
theorem w_const {e : E} {d : D} {v : V} (hev : ∀ ρ h, evE C e ρ h = .ok d h) (r : ∀ H μ L, RD (sysOf X T) H μ L d v) {σ : L2.St} {H : Hp} {Q : VK} (hh : tE X T W C e σ H Q) : tC v σ H Q := by
  obtain ⟨μ, h, ρ, A, p⟩ := hh
  rw [hev] at p
  exact Post.done A p (same_refl H) (r _ _ _)
theorem w_tup {es : Es} {σ : L2.St} {H : Hp} {Q : VK} (hh : tE X T W C (.tup es) σ H Q) : TM (sysOf X T) (RDs (sysOf X T)) W (evEs C es) σ H fun xs H1 => ∀ p, H1 p = none → Q (.ref p) (upd H1 p (.tup xs)) := by
  obtain ⟨μ, h, ρ, A, p⟩ := hh
  rw [evE] at p
  refine step A p fun x H1 μ1 h1 d e1 A1 r1 p1 => fun p hp => ?_
  exact Post.done A1 p1 (same_upd hp) ⟨p, x, rfl, .of upd_same, mono_upd hp r1⟩
theorem w_neg {a : E} {σ : L2.St} {H : Hp} {Q : VK} (hh : tE X T W C (.neg a) σ H Q) : tUn (rU fun i => .int (-i)) (tE X T W C a) σ H Q := by
  obtain ⟨μ, h, ρ, A, p⟩ := hh
  rw [evE] at p
  refine step A p fun x H1 μ1 h1 d e1 A1 r1 p1 => ?_
  cases d with
  | int i =>
    obtain rfl : x = .int i := r1
    exact ⟨i, rfl, Post.done A1 p1 (same_refl H1) rfl⟩
  | _ => exact p1.elim
theorem w_not {a : E} {σ : L2.St} {H : Hp} {Q : VK} (hh : tE X T W C (.not a) σ H Q) : tNotV (tE X T W C a) σ H Q := by
  obtain ⟨μ, h, ρ, A, p⟩ := hh
  rw [evE] at p
  refine step A p fun x H1 μ1 h1 d e1 A1 r1 p1 => ?_
  cases q : tru d with
  | none => rw [q] at p1; exact p1.elim
  | some k =>
    rw [q] at p1
    obtain rfl := tru_bl q
    obtain rfl : x = .bl k := r1
    exact ⟨k, rfl, Post.done A1 p1 (same_refl H1) rfl⟩
theorem w_notT {a : E} {σ : L2.St} {H : Hp} {Q : Bool → Hp → Prop} (hh : tT X T W C (evE C (.not a)) σ H Q) : tNot (tT X T W C (evE C a)) σ H Q := by
  obtain ⟨μ, h, ρ, A, p⟩ := hh
  simp only [evE] at p
  have p' : Post (sysOf X T) RB W σ μ h H (((evE C a ρ h).bind fun d h => R.ofO (tru d) h).bind fun k h => R.ok (!k) h) Q := by
    cases q : evE C a ρ h with
    | ok d h1 =>
      simp only [q, R.bind_ok] at p ⊢
      cases q2 : tru d with
      | none => simp only [q2, R.ofO_none, R.bind_bad] at p ⊢; exact p
      | some k =>
        obtain rfl := tru_bl q2
        exact p
    | exc c pl h1 => simp only [q, R.bind_exc] at p ⊢; exact p
    | bad => simp only [q, R.bind_bad] at p ⊢; exact p
  exact step (ev := fun ρ h => (evE C a ρ h).bind fun d h => R.ofO (tru d) h) A p' fun x H1 μ1 h1 d e1 A1 r1 p1 => by subst r1; exact Post.done A1 p1 (same_refl H1) rfl
theorem w_and {e e2 : E} {es : Es} {σ : L2.St} {H : Hp} {Q : VK} (hh : TM (sysOf X T) (RD (sysOf X T)) W (evAnd C (.cons e (.cons e2 es))) σ H Q) : tAndV (tE X T W C e) (TM (sysOf X T) (RD (sysOf X T)) W (evAnd C (.cons e2 es))) σ H Q := by
  obtain ⟨μ, h, ρ, A, p⟩ := hh
  rw [evAnd] at p
  refine step A p fun x H1 μ1 h1 d e1 A1 r1 p1 => ?_
  cases q : tru d with
  | none => rw [q] at p1; exact p1.elim
  | some k =>
    rw [q] at p1
    obtain rfl := tru_bl q
    obtain rfl : x = .bl k := r1
    refine ⟨k, rfl, ?_⟩
    simp only [R.ofO_some, R.bind_ok] at p1
    cases k with
    | false => rw [if_neg Bool.false_ne_true] at p1 ⊢; exact Post.done A1 p1 (same_refl H1) rfl
    | true => rw [if_pos rfl] at p1 ⊢; exact ⟨μ1, h1, ρ, A1, p1⟩
theorem w_or {e e2 : E} {es : Es} {σ : L2.St} {H : Hp} {Q : VK} (hh : TM (sysOf X T) (RD (sysOf X T)) W (evOr C (.cons e (.cons e2 es))) σ H Q) : tOrV (tE X T W C e) (TM (sysOf X T) (RD (sysOf X T)) W (evOr C (.cons e2 es))) σ H Q := by
  obtain ⟨μ, h, ρ, A, p⟩ := hh
  rw [evOr] at p
  refine step A p fun x H1 μ1 h1 d e1 A1 r1 p1 => ?_
  cases q : tru d with
  | none => rw [q] at p1; exact p1.elim
  | some k =>
    rw [q] at p1
    obtain rfl := tru_bl q
    obtain rfl : x = .bl k := r1
    refine ⟨k, rfl, ?_⟩
    simp only [R.ofO_some, R.bind_ok] at p1
    cases k with
    | false => rw [if_neg Bool.false_ne_true] at p1 ⊢; exact ⟨μ1, h1, ρ, A1, p1⟩
    | true => rw [if_pos rfl] at p1 ⊢; exact Post.done A1 p1 (same_refl H1) rfl
theorem w_andT {e e2 : E} {es : Es} {σ : L2.St} {H : Hp} {Q : Bool → Hp → Prop} (hh : tT X T W C (evAnd C (.cons e (.cons e2 es))) σ H Q) : tAnd (tT X T W C (evE C e)) (tT X T W C (evAnd C (.cons e2 es))) σ H Q := by
  obtain ⟨μ, h, ρ, A, p⟩ := hh
  simp only [evAnd] at p
  have p' : Post (sysOf X T) RB W σ μ h H (((evE C e ρ h).bind fun d h => R.ofO (tru d) h).bind fun k h => if k = true then (evAnd C (.cons e2 es) ρ h).bind fun d h => R.ofO (tru d) h else R.ok false h) Q := by
    cases q : evE C e ρ h with
    | ok d h1 =>
      simp only [q, R.bind_ok] at p ⊢
      cases q2 : tru d with
      | none => simp only [q2, R.ofO_none, R.bind_bad] at p ⊢; exact p
      | some k =>
        simp only [q2, R.ofO_some, R.bind_ok] at p ⊢
        cases k <;> simpa [tru] using p
    | exc c pl h1 => simp only [q, R.bind_exc] at p ⊢; exact p
    | bad => simp only [q, R.bind_bad] at p ⊢; exact p
  refine step (ev := fun ρ h => (evE C e ρ h).bind fun d h => R.ofO (tru d) h) A p' fun k H1 μ1 h1 d e1 A1 r1 p1 => ?_
  subst r1
  cases d with
  | false => rw [if_neg Bool.false_ne_true] at p1 ⊢; exact Post.done A1 p1 (same_refl H1) rfl
  | true => rw [if_pos rfl] at p1 ⊢; exact ⟨μ1, h1, ρ, A1, p1⟩
theorem w_orT {e e2 : E} {es : Es} {σ : L2.St} {H : Hp} {Q : Bool → Hp → Prop} (hh : tT X T W C (evOr C (.cons e (.cons e2 es))) σ H Q) : tOr (tT X T W C (evE C e)) (tT X T W C (evOr C (.cons e2 es))) σ H Q := by
  obtain ⟨μ, h, ρ, A, p⟩ := hh
  simp only [evOr] at p
  have p' : Post (sysOf X T) RB W σ μ h H (((evE C e ρ h).bind fun d h => R.ofO (tru d) h).bind fun k h => if k = true then R.ok true h else (evOr C (.cons e2 es) ρ h).bind fun d h => R.ofO (tru d) h) Q := by
    cases q : evE C e ρ h with
    | ok d h1 =>
      simp only [q, R.bind_ok] at p ⊢
      cases q2 : tru d with
      | none => simp only [q2, R.ofO_none, R.bind_bad] at p ⊢; exact p
      | some k =>
        simp only [q2, R.ofO_some, R.bind_ok] at p ⊢
        cases k <;> simpa [tru] using p
    | exc c pl h1 => simp only [q, R.bind_exc] at p ⊢; exact p
    | bad => simp only [q, R.bind_bad] at p ⊢; exact p
  refine step (ev := fun ρ h => (evE C e ρ h).bind fun d h => R.ofO (tru d) h) A p' fun k H1 μ1 h1 d e1 A1 r1 p1 => ?_
  subst r1
  cases d with
  | false => rw [if_neg Bool.false_ne_true] at p1 ⊢; exact ⟨μ1, h1, ρ, A1, p1⟩
  | true => rw [if_pos rfl] at p1 ⊢; exact Post.done A1 p1 (same_refl H1) rfl
theorem w_ite {c a b : E} {σ : L2.St} {H : Hp} {Q : VK} (hh : tE X T W C (.ite c a b) σ H Q) : tIf (tT X T W C (evE C c)) (tE X T W C a) (tE X T W C b) σ H Q := by
  obtain ⟨μ, h, ρ, A, p⟩ := hh
  rw [evE] at p
  have p' : Post (sysOf X T) (RD (sysOf X T)) W σ μ h H (((evE C c ρ h).bind fun d h => R.ofO (tru d) h).bind fun k h => if k = true then evE C a ρ h else evE C b ρ h) Q := by
    cases q : evE C c ρ h with
    | ok d h1 => simp only [q, R.bind_ok] at p ⊢; exact p
    | exc c pl h1 => simp only [q, R.bind_exc] at p ⊢; exact p
    | bad => simp only [q, R.bind_bad] at p ⊢; exact p
  refine step (ev := fun ρ h => (evE C c ρ h).bind fun d h => R.ofO (tru d) h) A p' fun k H1 μ1 h1 d e1 A1 r1 p1 => ?_
  subst r1
  cases d with
  | false => rw [if_neg Bool.false_ne_true] at p1 ⊢; exact ⟨μ1, h1, ρ, A1, p1⟩
  | true => rw [if_pos rfl] at p1 ⊢; exact ⟨μ1, h1, ρ, A1, p1⟩
theorem w_es {e : E} {es : Es} {σ : L2.St} {H : Hp} {Q : List V → Hp → Prop} (hh : tEs X T W C (.cons e es) σ H Q) : tCons (tE X T W C e) (tEs X T W C es) σ H Q := by
  obtain ⟨μ, h, ρ, A, p⟩ := hh
  rw [evEs] at p
  exact step A p fun x H1 μ1 h1 d e1 A1 r1 p1 => step A1 p1 fun xs H2 μ2 h2 ds e2 A2 r2 p2 => Post.done A2 p2 (same_refl H2) (.cons (r1.ext e2) r2)
theorem w_nil {σ : L2.St} {H : Hp} {Q : List V → Hp → Prop} (hh : tEs X T W C .nil σ H Q) : tNil σ H Q := by
  obtain ⟨μ, h, ρ, A, p⟩ := hh
  rw [evEs] at p
  exact Post.done A p (same_refl H) RDs.nil
theorem w_so {e : E} {σ : L2.St} {H : Hp} {Q : Option Int → Hp → Prop} (hh : tEo X T W C (.so e) σ H Q) : tPart (tE X T W C e) σ H Q := by
  obtain ⟨μ, h, ρ, A, p⟩ := hh
  rw [evEo] at p
  refine step A p fun x H1 μ1 h1 d e1 A1 r1 p1 => ?_
  cases d with
  | int i =>
    obtain rfl : x = .int i := r1
    exact ⟨i, rfl, Post.done A1 p1 (same_refl H1) rfl⟩
  | _ => exact p1.elim
theorem w_no {σ : L2.St} {H : Hp} {Q : Option Int → Hp → Prop} (hh : tEo X T W C .no σ H Q) : tNoPart σ H Q := by
  obtain ⟨μ, h, ρ, A, p⟩ := hh
  rw [evEo] at p
  exact Post.done A p (same_refl H) rfl
theorem w_idx {a i : E} {σ : L2.St} {H : Hp} {Q : VK} (hh : tE X T W C (.idx a i) σ H Q) : tOp (rP2 (sysOf X T) opIdx) (tE X T W C a) (tE X T W C i) σ H Q := by
  obtain ⟨μ, h, ρ, A, p⟩ := hh
  rw [evE] at p
  refine step A p fun x H1 μ1 h1 d e1 A1 r1 p1 => step A1 p1 fun y H2 μ2 h2 d2 e2 A2 r2 p2 => ?_
  cases q : opIdx (vw h2 d) d2 with
  | none => rw [q] at p2; exact p2.elim
  | some z => rw [q] at p2; exact ⟨μ2, h2.length, _, _, z, vw_ok A2.hp (r1.ext e2), r2.vd, q, fun H' v sm r => Post.done A2 p2 sm r⟩
theorem w_slc {a : E} {lo hi : Eo} {σ : L2.St} {H : Hp} {Q : VK} (hh : tE X T W C (.slc a lo hi) σ H Q) : tSl (rSlc (sysOf X T)) (tE X T W C a) (tEo X T W C lo) (tEo X T W C hi) σ H Q := by
  obtain ⟨μ, h, ρ, A, p⟩ := hh
  rw [evE] at p
  refine step A p fun x H1 μ1 h1 d e1 A1 r1 p1 => step A1 p1 fun y H2 μ2 h2 d2 e2 A2 r2 p2 => step A2 p2 fun y H3 μ3 h3 d3 e3 A3 r3 p3 => ?_
  subst r2 r3
  cases q : opSlc (vw h3 d) d2 d3 with
  | none => rw [q] at p3; exact p3.elim
  | some z => rw [q] at p3; exact ⟨μ3, h3.length, _, z, vw_ok A3.hp ((r1.ext e2).ext e3), q, fun H' v sm r => Post.done A3 p3 sm r⟩
theorem vds_of {μ : Nat → Addr} {h : MH} {H : Hp} {S : Sys} (s : SimH S μ h H) : ∀ {ds : List D} {vs : List V}, RDs S H μ h.length ds vs → VDs S H μ h.length (ds.map (vw h)) vs
  | [], _, r => by obtain rfl : _ = [] := r; exact rfl
  | d :: ds, _, ⟨v, ws, e, r, rs⟩ => ⟨v, ws, e, vw_ok s r, vds_of s rs⟩
theorem w_bi {f : Bi} {es : Es} {σ : L2.St} {H : Hp} {Q : VK} (hh : tE X T W C (.bi f es) σ H Q) : tCB (rBi (sysOf X T) (opBi f)) (tEs X T W C es) σ H Q := by
  obtain ⟨μ, h, ρ, A, p⟩ := hh
  rw [evE] at p
  refine step A p fun x H1 μ1 h1 d e1 A1 r1 p1 => ?_
  cases q : opBi f (d.map (vw h1)) with
  | none => rw [q] at p1; exact p1.elim
  | some z => rw [q] at p1; exact ⟨μ1, h1.length, _, z, vds_of A1.hp r1, q, fun H' v sm r => Post.done A1 p1 sm r⟩
end
end GM
end
section
set_option Elab.async false
set_option linter.all false
set_option maxRecDepth 100000
set_option maxHeartbeats 4000000
/-! zip of a list or a tuple with a list or a tuple -/
namespace GM
open PySem PySem.Spec PyProof.Rows L2

/-- true: a list; false: a tuple -/
def iterK (b : Bool) (h : Heap) (i l : Addr) (n : Nat) : Prop := match b with
  | true => h.IsListIter i l n
  | false => h.IsTupleIter i l n
def seqK (b : Bool) (h : Heap) (l : Addr) (xs : Array Value) : Prop := match b with
  | true => h.IsList l xs
  | false => h.IsTuple l xs
def itObj (b : Bool) (l : Addr) : Obj := match b with
  | true => { cls := .type "list_iterator", data := .fields #[.ref l, .int 0 0] }
  | false => { cls := .type "tuple_iterator", data := .fields #[.ref l, .int 0 0] }
section
variable {b c : Bool} {h h' : Heap} {i l : Addr} {n : Nat} {xs : Array Value}
theorem iterK.at (x : iterK b h i l n) (e : ∀ o, h.get? i = some o → h'.get? i = some o) : iterK b h' i l n := by
  cases b
  · exact Heap.IsTupleIter.at x e
  · exact Heap.IsListIter.at x e
theorem iterK.ext (x : iterK b h i l n) {z : Addr} (hs : Heap.ExtBut z h h') (ne : i ≠ z) : iterK b h' i l n := x.at fun o e => hs _ _ ne e
theorem iterK.lt (x : iterK b h i l n) : i < h.objs.size := by
  cases b
  · obtain ⟨_, e, _⟩ := x; exact Heap.lt_size e
  · obtain ⟨_, e, _⟩ := x; exact Heap.lt_size e
theorem iterK.nc (x : iterK b h i l n) : ∃ o, h.get? i = some o ∧ ∀ v, o.data ≠ .cell v := by
  cases b
  · obtain ⟨o, e, _, d⟩ := x; exact ⟨o, e, fun v q => by rw [d] at q; cases q⟩
  · obtain ⟨o, e, _, d⟩ := x; exact ⟨o, e, fun v q => by rw [d] at q; cases q⟩
theorem seqK.ext (x : seqK b h l xs) {z : Addr} (hs : Heap.ExtBut z h h') (ne : l ≠ z) : seqK b h' l xs := by
  cases b
  · exact Heap.IsTuple.extBut x hs ne
  · exact Heap.IsList.extBut x hs ne
end
section
variable {P : Program} {w : World} {A : Around} {E : Value → Shared → Prop} {s : Shared} {b c : Bool}
theorem nextK_item {it l : Addr} {i : Nat} {items : Array Value} {x : Value} {Q : Value → Shared → Prop} (hit : iterK b s.heap it l i) (hl : seqK b s.heap l items) (hx : items[i]? = some x)
    (hQ : ∀ h', iterK b h' it l (i + 1) → Heap.SameBut it s.heap h' → Q x { s with heap := h' }) : wpAny (model P w) A (Builtin.SmallTypes.nextOf (.ref it)) Q E s := by
  cases b
  · exact RZ.nextOf_tuple_item hit hl hx hQ
  · exact wpAny_nextOf_list_item hit hl hx hQ
theorem nextK_end {it l : Addr} {i : Nat} {items : Array Value} {Q : Value → Shared → Prop} (hh : A.handled = none) (hit : iterK b s.heap it l i) (hl : seqK b s.heap l items) (hx : items[i]? = none)
    (hE : ∀ h' e, Heap.ExtBut it s.heap h' → (∃ o, h'.get? e = some o ∧ o.cls = .type "StopIteration") → E (.ref e) { s with heap := h' }) : wpAny (model P w) A (Builtin.SmallTypes.nextOf (.ref it)) Q E s := by
  cases b
  · exact RZ.nextOf_tuple_end hh hit hl hx hE
  · exact wpAny_nextOf_list_end hh hit hl hx hE

/-- all but the zip's own objects stay -/
abbrev ZKeep (z TO i1 i2 : Addr) (h h' : Heap) : Prop := ∀ a o, a ≠ z → a ≠ TO → a ≠ i1 → a ≠ i2 → h.get? a = some o → h'.get? a = some o
theorem zipK_item {z TI TO i1 i2 l1 l2 : Addr} {k1 k2 : Nat} {xs ys : Array Value} {x y p q : Value} {Q : Value → Shared → Prop} (D : ZipApart z TI TO i1 i2 l1 l2)
    (gz : IsZip s.heap z TI TO .none) (gI : IsPair s.heap TI (.ref i1) (.ref i2)) (gO : IsPair s.heap TO p q) (g1 : iterK b s.heap i1 l1 k1) (g2 : iterK c s.heap i2 l2 k2) (s1 : seqK b s.heap l1 xs) (s2 : seqK c s.heap l2 ys) (hx : xs[k1]? = some x) (hy : ys[k2]? = some y)
    (hQ : ∀ h', IsZip h' z TI TO (rawInt s.heap.objs.size) → IsPair h' TO x y → iterK b h' i1 l1 (k1 + 1) → iterK c h' i2 l2 (k2 + 1) → IsPair h' s.heap.objs.size x y → h'.objs.size = s.heap.objs.size + 1 → ZKeep z TO i1 i2 s.heap h' → Q (.ref s.heap.objs.size) { s with heap := h' }) :
    wpAny (model P w) A (Builtin.«zip.__next__» ⟨[.ref z], []⟩) (fun f s' => ∃ v, f = .done (.ret v) ∧ Q v s') E s := by
  show wpAny _ _ (field (.ref z) 2 >>= _) _ _ _
  refine wpAny_bind (wpAny_field gz rfl (x := .bool false) rfl ?_)
  show wpAny _ _ (field (.ref z) 3 >>= _) _ _ _
  refine wpAny_bind (wpAny_field gz rfl (x := .ref TI) rfl (wpAny_bind (wpAny_seqItems gI rfl ?_)))
  show wpAny _ _ (Builtin.SmallTypes.ownedTupleIsFree (.ref z) >>= _) _ _ _
  refine wpAny_bind ?_
  unfold Builtin.SmallTypes.ownedTupleIsFree
  refine wpAny_bind (wpAny_field gz rfl (x := .none) rfl (wpAny_pure ?_))
  simp only [if_true]
  refine wpAny_bind (wpAny_rule (wpAny_bind (wpAny_field gz rfl (x := .ref TO) rfl (wpAny_bind (wpAny_setField_rec gz (by simp) fun e1 z1 b1 => ?_)))))
  replace z1 : IsZip e1 z TI TO .ellipsis := z1
  refine wpAny_bind ?_
  simp only [List.zipIdx_cons, List.zipIdx_nil, List.forIn_cons, List.forIn_nil]
  have B1 := b1.extBut
  refine wpAny_bind (wpAny_bind (wpAny_onRaise ?_))
  show wpAny _ _ (Builtin.SmallTypes.nextOf (.ref i1) >>= _) _ _ _
  refine wpAny_bind (nextK_item (g1.ext B1 D.i1z) (s1.ext B1 D.l1z) hx fun e2 j1 b2 => wpAny_pure ?_)
  have B2 := b2.extBut
  have O2 : IsPair e2 TO p q := B2 _ _ D.TOi1 (B1 _ _ D.TOz gO)
  refine wpAny_bind (wpAny_seqItems O2 rfl (wpAny_bind (wpAny_updateSeq_pair O2 fun e3 O3 b3 => ?_)))
  replace O3 : IsPair e3 TO x q := O3
  have B3 := b3.extBut
  refine wpAny_bind (wpAny_letGo (wpAny_pure (wpAny_bind (wpAny_bind (wpAny_onRaise ?_)))))
  show wpAny _ _ (Builtin.SmallTypes.nextOf (.ref i2) >>= _) _ _ _
  refine wpAny_bind (nextK_item (((g2.ext B1 D.i2z).ext B2 D.i12.symm).ext B3 D.TOi2.symm) (((s2.ext B1 D.l2z).ext B2 D.l2i1).ext B3 D.l2TO) hy fun e4 j2 b4 => wpAny_pure ?_)
  have B4 := b4.extBut
  have O4 : IsPair e4 TO x q := B4 _ _ D.TOi2 O3
  refine wpAny_bind (wpAny_seqItems O4 rfl (wpAny_bind (wpAny_updateSeq_pair O4 fun e5 O5 b5 => ?_)))
  replace O5 : IsPair e5 TO x y := O5
  have B5 := b5.extBut
  refine wpAny_bind (wpAny_letGo (wpAny_pure (wpAny_pure (wpAny_bind (wpAny_seqItems O5 rfl (wpAny_bind (wpAny_newTuple ?_)))))))
  have sz : e5.objs.size = s.heap.objs.size := by rw [b5.1, b4.1, b3.1, b2.1, b1.1]
  have z5 : IsZip e5 z TI TO .ellipsis := B5 _ _ D.TOz.symm (B4 _ _ D.i2z.symm (B3 _ _ D.TOz.symm (B2 _ _ D.i1z.symm z1)))
  have k5 : ZKeep z TO i1 i2 s.heap e5 := fun a o c1 c2 c3 c4 e => B5 _ _ c2 (B4 _ _ c4 (B3 _ _ c2 (B2 _ _ c3 (B1 _ _ c1 e))))
  have f1 : iterK b e5 i1 l1 (k1 + 1) := ((j1.ext B3 D.TOi1.symm).ext B4 D.i12).ext B5 D.TOi1.symm
  have f2 : iterK c e5 i2 l2 (k2 + 1) := j2.ext B5 D.TOi2.symm
  have zl : z < e5.objs.size := Heap.lt_size z5
  show wpAny _ _ (Builtin.SmallTypes.ownedTupleHandOut (.ref z) (.ref e5.objs.size) >>= _) _ _ _
  refine wpAny_bind ?_
  unfold Builtin.SmallTypes.ownedTupleHandOut
  have z6 : IsZip (e5.push { cls := .type "tuple", data := .seq #[x, y] }) z TI TO .ellipsis := Heap.get?_push_of_some _ z5
  refine wpAny_bind (wpAny_setField_rec z6 (by simp) fun e7 z7 b7 => ?_)
  replace z7 : IsZip e7 z TI TO (rawInt e5.objs.size) := z7
  refine wpAny_setField_rec z7 (by simp) fun e8 z8 b8 => ?_
  replace z8 : IsZip e8 z TI TO (rawInt e5.objs.size) := z8
  have up : ∀ a o, a ≠ z → e5.get? a = some o → e8.get? a = some o := fun a o ne e => b8.extBut _ _ ne (b7.extBut _ _ ne (Heap.get?_push_of_some _ e))
  have T8 : IsPair e8 e5.objs.size x y := b8.extBut _ _ (Nat.ne_of_gt zl) (b7.extBut _ _ (Nat.ne_of_gt zl) (Heap.get?_push_size _ rfl))
  have n8 : e8.objs.size = e5.objs.size + 1 := by rw [b8.1, b7.1, Heap.size_push]
  rw [sz] at z8 T8 n8
  refine wpAny_pure ⟨_, rfl, ?_⟩
  show Q (.ref e5.objs.size) _
  rw [sz]
  exact hQ e8 z8 (up _ _ D.TOz O5) (f1.at fun o e => up _ o D.i1z e) (f2.at fun o e => up _ o D.i2z e) T8 n8 fun a o c1 c2 c3 c4 e => up a o c1 (k5 a o c1 c2 c3 c4 e)
theorem zipK_end {z TI TO i1 i2 l1 l2 : Addr} {k1 k2 : Nat} {xs ys : Array Value} {p q : Value} {Q : Fin → Shared → Prop} (hh : A.handled = none) (D : ZipApart z TI TO i1 i2 l1 l2)
    (gz : IsZip s.heap z TI TO .none) (gI : IsPair s.heap TI (.ref i1) (.ref i2)) (gO : IsPair s.heap TO p q) (g1 : iterK b s.heap i1 l1 k1) (g2 : iterK c s.heap i2 l2 k2) (s1 : seqK b s.heap l1 xs) (s2 : seqK c s.heap l2 ys) (hend : xs[k1]? = none ∨ ys[k2]? = none)
    (hE : ∀ h' e, ZKeep z TO i1 i2 s.heap h' → (∃ o, h'.get? e = some o ∧ o.cls = .type "StopIteration") → E (.ref e) { s with heap := h' }) : wpAny (model P w) A (Builtin.«zip.__next__» ⟨[.ref z], []⟩) Q E s := by
  show wpAny _ _ (field (.ref z) 2 >>= _) _ _ _
  refine wpAny_bind (wpAny_field gz rfl (x := .bool false) rfl ?_)
  show wpAny _ _ (field (.ref z) 3 >>= _) _ _ _
  refine wpAny_bind (wpAny_field gz rfl (x := .ref TI) rfl (wpAny_bind (wpAny_seqItems gI rfl ?_)))
  show wpAny _ _ (Builtin.SmallTypes.ownedTupleIsFree (.ref z) >>= _) _ _ _
  refine wpAny_bind ?_
  unfold Builtin.SmallTypes.ownedTupleIsFree
  refine wpAny_bind (wpAny_field gz rfl (x := .none) rfl (wpAny_pure ?_))
  simp only [if_true]
  refine wpAny_bind (wpAny_rule (wpAny_bind (wpAny_field gz rfl (x := .ref TO) rfl (wpAny_bind (wpAny_setField_rec gz (by simp) fun e1 z1 b1 => ?_)))))
  replace z1 : IsZip e1 z TI TO .ellipsis := z1
  refine wpAny_bind ?_
  simp only [List.zipIdx_cons, List.zipIdx_nil, List.forIn_cons, List.forIn_nil]
  have B1 := b1.extBut
  refine wpAny_bind (wpAny_bind (wpAny_onRaise ?_))
  show wpAny _ _ (Builtin.SmallTypes.nextOf (.ref i1) >>= _) _ _ _
  cases hx : xs[k1]? with
  | none =>
    refine wpAny_bind (nextK_end hh (g1.ext B1 D.i1z) (s1.ext B1 D.l1z) hx fun e2 e b2 he => ?_)
    obtain ⟨oe, ge, ce⟩ := he
    have z2 : IsZip e2 z TI TO .ellipsis := b2 _ _ D.i1z.symm z1
    have ne : e ≠ z := fun w => by subst w; rw [z2] at ge; cases ge; simp at ce
    exact wpAny_setField_rec z2 (by simp) fun e3 _ b3 => hE e3 e (fun a o c1 _ c3 _ w => b3.extBut _ _ c1 (b2 _ _ c3 (B1 _ _ c1 w))) ⟨oe, b3.extBut _ _ ne ge, ce⟩
  | some x =>
    have hy : ys[k2]? = none := by rcases hend with w | w; rw [hx] at w; cases w; exact w
    refine wpAny_bind (nextK_item (g1.ext B1 D.i1z) (s1.ext B1 D.l1z) hx fun e2 j1 b2 => wpAny_pure ?_)
    have B2 := b2.extBut
    have O2 : IsPair e2 TO p q := B2 _ _ D.TOi1 (B1 _ _ D.TOz gO)
    refine wpAny_bind (wpAny_seqItems O2 rfl (wpAny_bind (wpAny_updateSeq_pair O2 fun e3 O3 b3 => ?_)))
    have B3 := b3.extBut
    refine wpAny_bind (wpAny_letGo (wpAny_pure (wpAny_bind (wpAny_bind (wpAny_onRaise ?_)))))
    show wpAny _ _ (Builtin.SmallTypes.nextOf (.ref i2) >>= _) _ _ _
    refine wpAny_bind (nextK_end hh (((g2.ext B1 D.i2z).ext B2 D.i12.symm).ext B3 D.TOi2.symm) (((s2.ext B1 D.l2z).ext B2 D.l2i1).ext B3 D.l2TO) hy fun e4 e b4 he => ?_)
    obtain ⟨oe, ge, ce⟩ := he
    have z4 : IsZip e4 z TI TO .ellipsis := b4 _ _ D.i2z.symm (B3 _ _ D.TOz.symm (B2 _ _ D.i1z.symm z1))
    have ne : e ≠ z := fun w => by subst w; rw [z4] at ge; cases ge; simp at ce
    exact wpAny_setField_rec z4 (by simp) fun e5 _ b5 => hE e5 e (fun a o c1 c2 c3 c4 w => b5.extBut _ _ c1 (b4 _ _ c4 (B3 _ _ c2 (B2 _ _ c3 (B1 _ _ c1 w))))) ⟨oe, b5.extBut _ _ ne ge, ce⟩
theorem pyNextK_item {z TI TO i1 i2 l1 l2 : Addr} {k1 k2 : Nat} {xs ys : Array Value} {x y p q : Value} {Q : Option Value → Shared → Prop} (D : ZipApart z TI TO i1 i2 l1 l2)
    (gz : IsZip s.heap z TI TO .none) (gI : IsPair s.heap TI (.ref i1) (.ref i2)) (gO : IsPair s.heap TO p q) (g1 : iterK b s.heap i1 l1 k1) (g2 : iterK c s.heap i2 l2 k2) (s1 : seqK b s.heap l1 xs) (s2 : seqK c s.heap l2 ys) (hx : xs[k1]? = some x) (hy : ys[k2]? = some y)
    (hQ : ∀ h', IsZip h' z TI TO (rawInt s.heap.objs.size) → IsPair h' TO x y → iterK b h' i1 l1 (k1 + 1) → iterK c h' i2 l2 (k2 + 1) → IsPair h' s.heap.objs.size x y → h'.objs.size = s.heap.objs.size + 1 → ZKeep z TO i1 i2 s.heap h' → Q (some (.ref s.heap.objs.size)) { s with heap := h' }) :
    wpAny (model P w) A (pyNext (.ref z)) Q E s := by
  have hT : s.TypeIs (.ref z) "zip" := ⟨_, gz, rfl⟩
  unfold pyNext
  exact wpAny_bind (wpAny_attempt (wpAny_callSpecial?_slot (name := Str.ofString "__next__") hT F.slot_zip_next (wpAny_call_entry F.slot_zip_next hT F.entry_zip_next
      (zipK_item D gz gI gO g1 g2 s1 s2 hx hy fun h' a1 a2 a3 a4 a5 a6 a7 => wpAny_pure (hQ h' a1 a2 a3 a4 a5 a6 a7)) (F.args_zip_next_1 _))))
theorem pyNextK_end {z TI TO i1 i2 l1 l2 : Addr} {k1 k2 : Nat} {xs ys : Array Value} {p q : Value} {Q : Option Value → Shared → Prop} (hh : A.handled = none) (D : ZipApart z TI TO i1 i2 l1 l2)
    (gz : IsZip s.heap z TI TO .none) (gI : IsPair s.heap TI (.ref i1) (.ref i2)) (gO : IsPair s.heap TO p q) (g1 : iterK b s.heap i1 l1 k1) (g2 : iterK c s.heap i2 l2 k2) (s1 : seqK b s.heap l1 xs) (s2 : seqK c s.heap l2 ys) (hend : xs[k1]? = none ∨ ys[k2]? = none)
    (hQ : ∀ h', ZKeep z TO i1 i2 s.heap h' → Q none { s with heap := h' }) : wpAny (model P w) A (pyNext (.ref z)) Q E s := by
  have hT : s.TypeIs (.ref z) "zip" := ⟨_, gz, rfl⟩
  unfold pyNext
  refine wpAny_bind (wpAny_attempt (wpAny_callSpecial?_slot (name := Str.ofString "__next__") hT F.slot_zip_next (wpAny_call_entry F.slot_zip_next hT F.entry_zip_next (zipK_end hh D gz gI gO g1 g2 s1 s2 hend fun h' e hk he => ?_) (F.args_zip_next_1 _))))
  obtain ⟨o, ho, hc⟩ := he
  exact wpAny_bind (wpAny_isInstance (T := "StopIteration") (b := true) ⟨o, ho, hc⟩ isSubtype_stop (wpAny_pure (hQ _ hk)))
end
/-! ### a new zip -/
abbrev zk1 (b : Bool) (h : Heap) (l1 : Addr) : Heap := h.push (itObj b l1)
abbrev zk2 (b c : Bool) (h : Heap) (l1 l2 : Addr) : Heap := (zk1 b h l1).push (itObj c l2)
abbrev zk3 (b c : Bool) (h : Heap) (l1 l2 : Addr) : Heap := (zk2 b c h l1 l2).push { cls := .type "tuple", data := .seq #[.ref h.objs.size, .ref (zk1 b h l1).objs.size] }
abbrev zk4 (b c : Bool) (h : Heap) (l1 l2 : Addr) : Heap := (zk3 b c h l1 l2).push { cls := .type "tuple", data := .seq #[.none, .none] }
abbrev zk5 (b c : Bool) (h : Heap) (l1 l2 : Addr) : Heap := (zk4 b c h l1 l2).push { cls := .type "zip", data := .fields #[.none, .bool false, .bool false, .ref (zk2 b c h l1 l2).objs.size, .ref (zk3 b c h l1 l2).objs.size] }
theorem meetsK (b c : Bool) (l1 l2 : Addr) (xs ys : Array Value) :
    Meets (Builtin.«zip.__new__» ⟨[.type "zip", .ref l1, .ref l2], []⟩) (fun _ R s => seqK b s.heap l1 xs ∧ seqK c s.heap l2 ys ∧ R (.ok (.ret (.ref (zk4 b c s.heap l1 l2).objs.size))) { s with heap := zk5 b c s.heap l1 l2 }) :=
  .of_wp fun P w A R s k => by
    obtain ⟨hp, g, d, tk, os⟩ := s
    obtain ⟨a1, a2, k⟩ := k
    have hsub := sub_zip
    cases b <;> cases c
    · have q1 : Heap.IsTuple (Shared.heap ⟨hp, g, d, tk, os⟩) l1 xs := a1
      have q2 : Heap.IsTuple (Shared.heap ⟨hp.push { cls := .type "tuple_iterator", data := .fields #[.ref l1, .int 0 0] }, g, d, tk, os⟩) l2 ys := Heap.IsTuple.push a2 _
      wp_walk using wpAny_pyIter_tuple q1, wpAny_pyIter_tuple q2
      exact ⟨_, rfl, k⟩
    · have q1 : Heap.IsTuple (Shared.heap ⟨hp, g, d, tk, os⟩) l1 xs := a1
      have q2 : Heap.IsList (Shared.heap ⟨hp.push { cls := .type "tuple_iterator", data := .fields #[.ref l1, .int 0 0] }, g, d, tk, os⟩) l2 ys := Heap.IsList.push a2 _
      wp_walk using wpAny_pyIter_tuple q1, wpAny_pyIter_list q2
      exact ⟨_, rfl, k⟩
    · have q1 : Heap.IsList (Shared.heap ⟨hp, g, d, tk, os⟩) l1 xs := a1
      have q2 : Heap.IsTuple (Shared.heap ⟨hp.push { cls := .type "list_iterator", data := .fields #[.ref l1, .int 0 0] }, g, d, tk, os⟩) l2 ys := Heap.IsTuple.push a2 _
      wp_walk using wpAny_pyIter_list q1, wpAny_pyIter_tuple q2
      exact ⟨_, rfl, k⟩
    · have q1 : Heap.IsList (Shared.heap ⟨hp, g, d, tk, os⟩) l1 xs := a1
      have q2 : Heap.IsList (Shared.heap ⟨hp.push { cls := .type "list_iterator", data := .fields #[.ref l1, .int 0 0] }, g, d, tk, os⟩) l2 ys := Heap.IsList.push a2 _
      wp_walk using wpAny_pyIter_list q1, wpAny_pyIter_list q2
      exact ⟨_, rfl, k⟩
section
variable {P : Program} {w : World} {A : Around} {E : Value → Shared → Prop} {s : Shared} {b c : Bool}
theorem callK {l1 l2 : Addr} {xs ys : Array Value} {Q : Value → Shared → Prop} (a1 : seqK b s.heap l1 xs) (a2 : seqK c s.heap l2 ys)
    (k : ∀ h', IsZip h' (s.heap.objs.size + 4) (s.heap.objs.size + 2) (s.heap.objs.size + 3) .none → IsPair h' (s.heap.objs.size + 2) (.ref s.heap.objs.size) (.ref (s.heap.objs.size + 1)) → IsPair h' (s.heap.objs.size + 3) .none .none →
      iterK b h' s.heap.objs.size l1 0 → iterK c h' (s.heap.objs.size + 1) l2 0 → (∀ a o, s.heap.get? a = some o → h'.get? a = some o) → Q (.ref (s.heap.objs.size + 4)) { s with heap := h' }) :
    wpAny (model P w) A (call (.type "zip") [.ref l1, .ref l2]) Q E s := by
  refine callType_new F.called_zip (by decide) (F.typeCall_zip_2 _ _) (F.newCall_zip_2 _ _) (fun obj => F.args_object_init_3 obj _ _) F.entry_zip_new (meetsK b c l1 l2 xs ys) ⟨a1, a2, ?_⟩
  have n1 : (zk1 b s.heap l1).objs.size = s.heap.objs.size + 1 := Heap.size_push ..
  have n2 : (zk2 b c s.heap l1 l2).objs.size = s.heap.objs.size + 2 := by rw [Heap.size_push, n1]
  have n3 : (zk3 b c s.heap l1 l2).objs.size = s.heap.objs.size + 3 := by rw [Heap.size_push, n2]
  have n4 : (zk4 b c s.heap l1 l2).objs.size = s.heap.objs.size + 4 := by rw [Heap.size_push, n3]
  have nf : ∀ (b : Bool) (l : Addr), (itObj b l).isFreed = false := fun b l => by cases b <;> rfl
  have g5 : (zk5 b c s.heap l1 l2).get? (zk4 b c s.heap l1 l2).objs.size = some _ := Heap.get?_push_size _ rfl
  have g4 : (zk5 b c s.heap l1 l2).get? (zk3 b c s.heap l1 l2).objs.size = some _ := Heap.get?_push_of_some _ (Heap.get?_push_size _ rfl)
  have g3 : (zk5 b c s.heap l1 l2).get? (zk2 b c s.heap l1 l2).objs.size = some _ := Heap.get?_push_of_some _ (Heap.get?_push_of_some _ (Heap.get?_push_size _ rfl))
  have g2 : (zk5 b c s.heap l1 l2).get? (zk1 b s.heap l1).objs.size = some _ := Heap.get?_push_of_some _ (Heap.get?_push_of_some _ (Heap.get?_push_of_some _ (Heap.get?_push_size _ (nf c l2))))
  have g1 : (zk5 b c s.heap l1 l2).get? s.heap.objs.size = some _ := Heap.get?_push_of_some _ (Heap.get?_push_of_some _ (Heap.get?_push_of_some _ (Heap.get?_push_of_some _ (Heap.get?_push_size _ (nf b l1)))))
  show _ ∧ _
  rw [n2, n3, n4] at g5
  rw [n1, n2] at g3
  rw [n3] at g4
  rw [n1] at g2
  rw [n4]
  have mk : ∀ (b : Bool) (g : Heap) (a l : Addr), g.get? a = some (itObj b l) → iterK b g a l 0 := fun b g a l e => by
    cases b
    · exact ⟨_, e, rfl, rfl⟩
    · exact ⟨_, e, rfl, rfl⟩
  exact ⟨⟨_, g5, rfl⟩, k _ g5 g3 g4 (mk b _ _ _ g1) (mk c _ _ _ g2) fun a o e => Heap.get?_push_of_some _ (Heap.get?_push_of_some _ (Heap.get?_push_of_some _ (Heap.get?_push_of_some _ (Heap.get?_push_of_some _ e))))⟩
end
/-! ### as a walk -/
def SqK (b : Bool) (K : PySem.W.Frag) (H : Hp) (a : Addr) (xs : List V) : Prop := match b with
  | true => SqL K H a xs
  | false => SqT K H a xs
theorem sqK_get {X : Cx} {pins : List (Addr × Obj)} {σ : L2.St} {H : Hp} {s : Shared} {b : Bool} {a : Addr} {xs : List V} (I : L2.Inv X pins σ H s) (h : SqK b X.K H a xs) : ∃ its : List Value, Vals xs its ∧ seqK b s.heap a its.toArray ∧ a < s.heap.objs.size := by
  cases b
  · obtain ⟨its, rv, p, _⟩ := I.tuple h
    obtain ⟨o, ho, _⟩ := id p
    exact ⟨its, rv, p, Heap.lt_size ho⟩
  · obtain ⟨its, rv, p, _⟩ := I.list h
    exact ⟨its, rv, p.isList, p.lt⟩
theorem sqK_inj {X : Cx} {pins : List (Addr × Obj)} {σ : L2.St} {H : Hp} {s : Shared} {b : Bool} {a : Addr} {xs ys : List V} (I : L2.Inv X pins σ H s) (h1 : SqK b X.K H a xs) (h2 : SqK b X.K H a ys) : xs = ys := by
  cases b
  · exact I.tuple_inj h1 h2
  · exact I.list_inj h1 h2
def ItzK (b c : Bool) (K : PySem.W.Frag) (a1 a2 : Addr) : L2.It :=
  ⟨fun i H => ∃ (xs ys : List V) (x y : V), SqK b K H a1 xs ∧ SqK c K H a2 ys ∧ xs[i]? = some x ∧ ys[i]? = some y,
    fun i H v H' => ∃ T x y, v = .ref T ∧ H T = none ∧ H' = upd H T (.tup [x, y]) ∧ (∀ xs, SqK b K H a1 xs → xs[i]? = some x) ∧ ∀ ys, SqK c K H a2 ys → ys[i]? = some y,
    fun i H => ∃ xs ys : List V, SqK b K H a1 xs ∧ SqK c K H a2 ys ∧ (xs.length ≤ i ∨ ys.length ≤ i)⟩
theorem turnK {P : Program} {w : World} {K : PySem.W.Frag} {elts : List Expr} {kk : Nat} {tpos : Pos} {b c : Bool} {a1 a2 z TI TO i1 i2 : Addr} (D : ZipApart z TI TO i1 i2 a1 a2) :
    Turn P w K (.Tuple elts kk tpos) (ItzK b c K a1 a2) [z, TI, TO, i1, i2] z (fun i h => IsZip h z TI TO .none ∧ IsPair h TI (.ref i1) (.ref i2) ∧ (∃ x y, IsPair h TO x y) ∧ iterK b h i1 a1 i ∧ iterK c h i2 a2 i) where
  mem := by simp
  obj := fun i h st a ha => by
    obtain ⟨gz, gI, ⟨x, y, gO⟩, g1, g2⟩ := st
    simp only [List.mem_cons, List.not_mem_nil, or_false] at ha
    rcases ha with rfl | rfl | rfl | rfl | rfl
    · exact ⟨_, gz, fun v q => nomatch q⟩
    · exact ⟨_, gI, fun v q => nomatch q⟩
    · exact ⟨_, gO, fun v q => nomatch q⟩
    · exact g1.nc
    · exact g2.nc
  keep := fun i h h' st k => by
    obtain ⟨gz, gI, ⟨x, y, gO⟩, g1, g2⟩ := st
    exact ⟨k z (by simp) _ gz, k TI (by simp) _ gI, ⟨x, y, k TO (by simp) _ gO⟩, g1.at fun o q => k i1 (by simp) o q, g2.at fun o q => k i2 (by simp) o q⟩
  item := by
    intro X hP hw hK hc i pins s σ H E I hf st hg
    subst hP hw hK
    obtain ⟨gz, gI, ⟨x0, y0, gO⟩, g1, g2⟩ := st
    obtain ⟨xs, ys, x, y, qx, qy, hx, hy⟩ := hg
    obtain ⟨its, rv, p1, _⟩ := sqK_get I qx
    obtain ⟨its2, rv2, p2, _⟩ := sqK_get I qy
    obtain ⟨u, hu, ru⟩ := rv.get hx
    obtain ⟨u2, hu2, ru2⟩ := rv2.get hy
    have zl : z < s.heap.objs.size := Heap.lt_size gz
    refine pyNextK_item D gz gI gO g1 g2 p1 p2 (x := u) (y := u2) (by simpa using hu) (by simpa using hu2) fun e1 z1 O1 j1 j2 hT hn hk => ⟨_, rfl, wpAny_letOwnedTupleGo_zip (s := { s with heap := e1 }) z1 fun e2 z2 sb => ?_⟩
    have hT2 : e2.get? s.heap.objs.size = some { cls := .type "tuple", data := .seq #[u, u2] } := (sb.2 _ (Nat.ne_of_gt zl)).trans hT
    have new : ObjOk X.prog X.w (upd H s.heap.objs.size (.tup [x, y])) e2 s.heap.objs.size (.tup [x, y]) := ⟨by show 2 ≤ sizeLine; decide, [u, u2], .cons ru (.cons ru2 .nil), ⟨_, hT2, rfl, _, rfl⟩⟩
    have I1 := I.turnedNew (t' := s.toks) (ch := [z, TI, TO, i1, i2]) (fun a o hb q => by
      simp only [List.mem_cons, List.not_mem_nil, or_false, not_or] at hb
      exact (sb.2 a hb.1).trans (hk a o hb.1 hb.2.2.1 hb.2.2.2.1 hb.2.2.2.2 q)) hf (Nat.le_refl _) new
    refine ⟨.ref s.heap.objs.size, _, I1, rfl, ⟨_, x, y, rfl, I.hok.fresh (Nat.le_refl _), rfl, fun l hl => by rw [sqK_inj I hl qx]; exact hx, fun l hl => by rw [sqK_inj I hl qy]; exact hy⟩, ⟨z2, ?_, ⟨u, u2, ?_⟩, ?_, ?_⟩, fun a ha => ?_⟩
    · exact (sb.2 _ D.TIz).trans (hk _ _ D.TIz D.TITO D.TIi1 D.TIi2 gI)
    · exact (sb.2 _ D.TOz).trans O1
    · exact j1.at fun o q => (sb.2 _ D.i1z).trans q
    · exact j2.at fun o q => (sb.2 _ D.i2z).trans q
    · have lt : a < s.heap.objs.size := by
        simp only [List.mem_cons, List.not_mem_nil, or_false] at ha
        rcases ha with q | q | q | q | q
        · rw [q]; exact zl
        · rw [q]; exact Heap.lt_size gI
        · rw [q]; exact Heap.lt_size gO
        · rw [q]; exact g1.lt
        · rw [q]; exact g2.lt
      rw [upd_ne (Nat.ne_of_lt lt)]
      exact (hf a ha).1
  done := by
    intro X hP hw hK hc i pins s σ H E I hf st hg
    subst hP hw hK
    obtain ⟨gz, gI, ⟨x0, y0, gO⟩, g1, g2⟩ := st
    obtain ⟨xs, ys, qx, qy, hend⟩ := hg
    obtain ⟨its, rv, p1, _⟩ := sqK_get I qx
    obtain ⟨its2, rv2, p2, _⟩ := sqK_get I qy
    have l1 := rv.length
    have l2 := rv2.length
    have he : its.toArray[i]? = none ∨ its2.toArray[i]? = none := by
      rcases hend with q | q
      · exact .inl (by simp; omega)
      · exact .inr (by simp; omega)
    exact pyNextK_end (I.ok.hd hc) D gz gI gO g1 g2 p1 p2 he fun h' hk => ⟨rfl, I.turnedL (t' := s.toks) (ch := [z, TI, TO, i1, i2]) (fun a o hb q => by
      simp only [List.mem_cons, List.not_mem_nil, or_false, not_or] at hb
      exact hk a o hb.1 hb.2.2.1 hb.2.2.2.1 hb.2.2.2.2 q) hf⟩
  self := fun A i s Q E st h => wpAny_pyIter_zip st.1 h
def iZipK (K : PySem.W.Frag) (ta : TA) : TI := fun σ H R => ta σ H fun vs H1 => ∃ b c a1 a2 xs ys, vs = [.ref a1, .ref a2] ∧ SqK b K H1 a1 xs ∧ SqK c K H1 a2 ys ∧ R (ItzK b c K a1 a2) H1
theorem pi_zipK {X : Cx} {e e2 : Expr} {ta : TA} {p pos tpos : Pos} {elts : List Expr} {kk : Nat} (hg : Gl X "zip") (hm : X.mg "zip" = none) (ha : PA X [e, e2] ta)
    (hs : starEach [e, e2] X.env = (false, eval e X.env) :: starEach [e2] X.env) (hpl : (backTo pos (starEach [e2] X.env)).any (·.1) = false) : PI X (.Tuple elts kk tpos) (.Call (.Name "zip" p) [e, e2] [] pos) (iZipK X.K ta) := by
  refine ⟨fun pins s σ H R I h => Call_ (ld_blt I hg hm PyProof.Rows.boot_zip (PyProof.Rows.callWith_type1 (thn (ha.run pos pins s σ H _ I h) fun us s1 ⟨vs, H1, I1, r1, b, c, a1, a2, xs, ys, ex, qx, qy, q⟩ => ?_) hs hpl))⟩
  subst ex
  cases r1 with
  | cons r rr =>
    cases rr with
    | cons r' rr =>
      cases rr
      cases r
      cases r'
      obtain ⟨its, rv, p1, l1⟩ := sqK_get I1 qx
      obtain ⟨its2, rv2, p2, l2⟩ := sqK_get I1 qy
      refine callK p1 p2 fun h' gz gI gO g1 g2 hk => wpAny_pyIter_zip gz ⟨s1.heap.objs.size + 4, [s1.heap.objs.size + 4, s1.heap.objs.size + 2, s1.heap.objs.size + 3, s1.heap.objs.size, s1.heap.objs.size + 1], _, _, H1, rfl, I1.kept (t' := s1.toks) hk, turnK (PySem.W.ktu_apart s1.heap.objs.size a1 a2 l1 l2), ⟨gz, gI, ⟨_, _, gO⟩, g1, g2⟩, fun a ha => ?_, q⟩
      have le : s1.heap.objs.size ≤ a := by
        simp only [List.mem_cons, List.not_mem_nil, or_false] at ha
        rcases ha with z | z | z | z | z <;> rw [z] <;> first | exact Nat.le_add_right _ _ | exact Nat.le_refl _
      exact I1.fpOk le (I1.hok.fresh le)
end GM
end
section
set_option Elab.async false
set_option linter.all false
set_option maxRecDepth 100000
namespace GM
open PySem PySem.Spec PyProof.Rows L2

section
variable {S : Sys} {μ : Nat → Addr} {h : MH} {H H' : Hp}
theorem SimH.there (s : SimH S μ h H) {i : Nat} (hi : i < h.length) : H (μ i) ≠ none := by
  have z := s.obj i _ (List.getElem?_eq_getElem hi)
  cases q : h[i] with
  | lst ds => rw [q] at z; obtain ⟨vs, e, _⟩ := z; rw [e]; exact fun c => nomatch c
  | dic kvs =>
    rw [q] at z
    rcases z with ⟨ps, e, _⟩ | ⟨xs, us, e, _⟩
    · rw [e]; exact fun c => nomatch c
    · rw [e]; exact fun c => nomatch c
  | ins _ _ => rw [q] at z; exact z.elim
  | dead => rw [q] at z; obtain ⟨o, u, e⟩ := z; rw [e]; exact fun c => nomatch c
theorem OS.at {L : Nat} (x : HX H H') {o : LO} {a : Addr} (e : H' a = H a) (z : OS S H μ L o a) : OS S H' μ L o a := by
  have m : ∀ {d : List D} {v : List V}, RDs S H μ L d v → RDs S H' μ L d v := fun r => r.mono x (fun _ _ => rfl) (Nat.le_refl _)
  cases o with
  | lst ds => exact let ⟨vs, a, b⟩ := z; ⟨vs, e.trans a, m b⟩
  | dic kvs =>
    rcases z with ⟨ps, a, b, c⟩ | ⟨xs, us, a, b0, b, c, d, f⟩
    · exact .inl ⟨ps, e.trans a, b, m c⟩
    · exact .inr ⟨xs, us, e.trans a, b0, b, m c, d, m f⟩
  | ins _ _ => exact z
  | dead => exact let ⟨p, u, q⟩ := z; ⟨p, u, e.trans q⟩
theorem OS.frz {L : Nat} (x : HX H H') {a : Addr} (z : OS S H μ L .dead a) : OS S H' μ L .dead a := let ⟨p, u, q⟩ := z; ⟨p, u, x.frz _ _ _ q⟩
/-- a live object is written -/
theorem SimH.write (s : SimH S μ h H) {n : Nat} {o o' : LO} {x : HO} (hn : h[n]? = some o) (nd : o ≠ .dead) (hx : HX H (upd H (μ n) x)) (ho : OS S (upd H (μ n) x) μ h.length o' (μ n)) : SimH S μ (h.set n o') (upd H (μ n) x) := by
  have hl : n < h.length := (List.getElem?_eq_some_iff.mp hn).1
  have back : ∀ i p, i ≠ n → (h.set n o')[i]? = some p → h[i]? = some p := fun i p ne e => by rw [List.getElem?_set_ne (Ne.symm ne)] at e; exact e
  refine ⟨fun i j p q e1 e2 n1 n2 e => ?_, fun i p e => ?_⟩
  · by_cases hi : i = n
    · by_cases hj : j = n
      · rw [hi, hj]
      · subst hi
        exact s.inj _ _ _ _ hn (back j q hj e2) nd n2 e
    · by_cases hj : j = n
      · subst hj
        exact s.inj _ _ _ _ (back i p hi e1) hn n1 nd e
      · exact s.inj _ _ _ _ (back i p hi e1) (back j q hj e2) n1 n2 e
  · rw [List.length_set]
    by_cases hi : i = n
    · subst hi
      rw [List.getElem?_set_self hl] at e
      obtain rfl := Option.some.inj e
      exact ho
    · have e' := back i p hi e
      have z := s.obj i p e'
      by_cases hd : p = .dead
      · subst hd; exact z.frz hx
      · refine z.at hx (upd_ne fun c => hi (s.inj _ _ _ _ e' hn hd nd c))
/-- a fresh address of mine -/
def Fr (μ : Nat → Addr) (L : Nat) (p : Addr) : Prop := ∀ i, i < L → μ i ≠ p
theorem SimH.off (s : SimH S μ h H) {p : Addr} {x : HO} (hf : Fr μ h.length p) (hx : HX H (upd H p x)) : SimH S μ h (upd H p x) :=
  ⟨s.inj, fun i o e => (s.obj i o e).at hx (upd_ne (hf i (List.getElem?_eq_some_iff.mp e).1))⟩
theorem fr_of (s : SimH S μ h H) {p : Addr} (hp : H p = none) : Fr μ h.length p := fun i hi e => s.there hi (by rw [e]; exact hp)
def mu1 (μ : Nat → Addr) (n : Nat) (p : Addr) : Nat → Addr := fun i => if i = n then p else μ i
theorem mu1_old {n i : Nat} {p : Addr} (hi : i < n) : mu1 μ n p i = μ i := if_neg (Nat.ne_of_lt hi)
theorem mu1_new {n : Nat} {p : Addr} : mu1 μ n p n = p := if_pos rfl
/-- an object becomes one of mine -/
theorem SimH.adopt (s : SimH S μ h H) {p : Addr} {o : LO} (hf : Fr μ h.length p) (ho : OS S H (mu1 μ h.length p) (h.length + 1) o p) : SimH S (mu1 μ h.length p) (h ++ [o]) H := by
  have len : (h ++ [o]).length = h.length + 1 := by simp
  have cs : ∀ i q, (h ++ [o])[i]? = some q → (i < h.length ∧ h[i]? = some q) ∨ (i = h.length ∧ q = o) := fun i q hq => by
    by_cases hi : i < h.length
    · rw [List.getElem?_append_left hi] at hq; exact .inl ⟨hi, hq⟩
    · rw [List.getElem?_append_right (by omega)] at hq
      cases hk : i - h.length with
      | zero => rw [hk] at hq; exact .inr ⟨by omega, (Option.some.inj hq).symm⟩
      | succ k => rw [hk] at hq; simp at hq
  refine ⟨fun i j q r h1 h2 n1 n2 em => ?_, fun i q hq => ?_⟩
  · rcases cs i q h1 with ⟨a, b⟩ | ⟨a, b⟩ <;> rcases cs j r h2 with ⟨c, d⟩ | ⟨c, d⟩
    · rw [mu1_old a, mu1_old c] at em; exact s.inj i j q r b d n1 n2 em
    · subst c; rw [mu1_old a, mu1_new] at em; exact absurd em (hf i a)
    · subst a; rw [mu1_new, mu1_old c] at em; exact absurd em.symm (hf j c)
    · rw [a, c]
  · rw [len]
    rcases cs i q hq with ⟨a, b⟩ | ⟨a, b⟩
    · rw [mu1_old a]
      have z := s.obj i q b
      have m : ∀ {d : List D} {v : List V}, RDs S H μ h.length d v → RDs S H (mu1 μ h.length p) (h.length + 1) d v := fun r => r.mono (.refl H) (fun n hn => mu1_old hn) (Nat.le_succ _)
      cases q with
      | lst ds => exact let ⟨vs, a, b⟩ := z; ⟨vs, a, m b⟩
      | dic kvs =>
        rcases z with ⟨ps, a, b, c⟩ | ⟨xs, us, a, b0, b, c, d, f⟩
        · exact .inl ⟨ps, a, b, m c⟩
        · exact .inr ⟨xs, us, a, b0, b, m c, d, m f⟩
      | ins _ _ => exact z
      | dead => exact z
    · subst a b; rw [mu1_new]; exact ho
end

theorem Ext.adopt {μ μ1 : Nat → Addr} {h h1 : MH} {H H1 : Hp} (e : Ext μ h H μ1 h1 H1) {p : Addr} {o : LO} (hp : H p = none) : Ext μ h H (mu1 μ1 h1.length p) (h1 ++ [o]) H1 := by
  have len : (h1 ++ [o]).length = h1.length + 1 := by simp
  refine ⟨e.hx, fun n hn => (mu1_old (Nat.lt_of_lt_of_le hn e.len)).trans (e.mu n hn), by rw [len]; exact Nat.le_succ_of_le e.len, e.fr, fun i a b => ?_, e.kp⟩
  rw [len] at b
  by_cases hl : i < h1.length
  · rw [mu1_old hl]; exact e.nw i a hl
  · have : i = h1.length := by omega
    rw [this, mu1_new]; exact hp
theorem Ext.turn {μ μ1 : Nat → Addr} {h h1 : MH} {H H1 : Hp} (e : Ext μ h H μ1 h1 H1) {p : Addr} {x : HO} (hp : H p = none) (hx : HX H1 (upd H1 p x)) : Ext μ h H μ1 h1 (upd H1 p x) := by
  refine ⟨e.hx.trans hx, e.mu, e.len, fun a o q n => ?_, e.nw, fun a q => ?_⟩
  · rw [upd_ne (fun c => by rw [c, hp] at q; cases q)]; exact e.fr a o q n
  · by_cases c : a = p
    · rw [c, upd_same]; exact fun z => nomatch z
    · rw [upd_ne c]; exact e.kp a q
theorem Ext.write {μ : Nat → Addr} {h : MH} {H : Hp} {n : Nat} {o' : LO} {x : HO} (hl : n < h.length) (hx : HX H (upd H (μ n) x)) : Ext μ h H μ (h.set n o') (upd H (μ n) x) := by
  refine ⟨hx, fun _ _ => rfl, by rw [List.length_set]; exact Nat.le_refl _, fun a o e q => by rw [upd_ne (fun c => q n hl c.symm)]; exact e, fun i a b => ?_, fun a e => ?_⟩
  · rw [List.length_set] at b; exact absurd (Nat.lt_of_lt_of_le b a) (Nat.lt_irrefl _)
  · by_cases c : a = μ n
    · rw [c, upd_same]; exact fun z => nomatch z
    · rw [upd_ne c]; exact e
/-- a new list; a new dict -/
def RN (S : Sys) (H0 : Hp) : RlT (List D) V := fun H μ L ds v => ∃ p ws, v = .ref p ∧ H p = some (.lst ws) ∧ RDs S H μ L ds ws ∧ Fr μ L p ∧ H0 p = none
def RND (S : Sys) (H0 : Hp) : RlT (List (D × D)) V := fun H μ L kvs v => ∃ p, v = .ref p ∧ DA S H μ L p kvs (Live H p) ∧ Fr μ L p ∧ H0 p = none

section
variable {α β γ δ : Type} {S : Sys} {Rl : RlT α β} {Rl1 : RlT γ δ} {W : WX} {σ : L2.St} {μ : Nat → Addr} {h : MH} {H : Hp} {ρ : Env}
theorem Post.write {a : α} {v : β} {Q : β → Hp → Prop} {n : Nat} {o o' : LO} {x : HO} (A : At S σ H μ h ρ) (p : Post S Rl W σ μ h H (.ok a (h.set n o')) Q) (hn : h[n]? = some o) (nd : o ≠ .dead) (hx : HX H (upd H (μ n) x))
    (ho : OS S (upd H (μ n) x) μ h.length o' (μ n)) (r : Rl (upd H (μ n) x) μ h.length a v) : Q v (upd H (μ n) x) :=
  p μ _ v (.write (List.getElem?_eq_some_iff.mp hn).1 hx) (A.hp.write hn nd hx ho) (by rw [List.length_set]; exact r)
theorem step0 (A : At S σ H μ h ρ) {ev : Env → MH → R γ} {f : γ → MH → R α} {Q : β → Hp → Prop} {Q1 : δ → Hp → Prop} (p : Post S Rl W σ μ h H ((ev ρ h).bind f) Q)
    (k : ∀ v H1 μ1 h1 d, Ext μ h H μ1 h1 H1 → At S σ H1 μ1 h1 ρ → Rl1 H1 μ1 h1.length d v → Post S Rl W σ μ h H (f d h1) Q → Q1 v H1) : TM S Rl1 W ev σ H Q1 := by
  refine ⟨μ, h, ρ, A, ?_⟩
  cases q : ev ρ h with
  | ok a h' =>
    rw [q] at p
    exact fun μ' H' v e s r => k v H' μ' h' a e (A.ext e s) r p
  | exc c pl h' => rw [q] at p; exact p
  | bad => rw [q] at p; exact p
theorem step' (A : At S σ H μ h ρ) {ev : Env → MH → R γ} {f : γ → MH → R α} {Q : β → Hp → Prop} {Q1 : δ → Hp → Prop} (p : Post S Rl W σ μ h H ((ev ρ h).bind f) Q)
    (k : ∀ v H1 μ1 h1 d, ev ρ h = .ok d h1 → Ext μ h H μ1 h1 H1 → At S σ H1 μ1 h1 ρ → Rl1 H1 μ1 h1.length d v → Post S Rl W σ μ1 h1 H1 (f d h1) Q → Q1 v H1) : TM S Rl1 W ev σ H Q1 := by
  refine ⟨μ, h, ρ, A, ?_⟩
  cases q : ev ρ h with
  | ok a h' =>
    rw [q] at p
    exact fun μ' H' v e s r => k v H' μ' h' a q e (A.ext e s) r (p.rebase e)
  | exc c pl h' => rw [q] at p; exact p
  | bad => rw [q] at p; exact p
end

section
variable {X : Cx} {T : Tab} {W : WX} {C : Cal}
theorem hx_lst {H : Hp} {a : Addr} {ws : List V} (e : H a = some (.lst ws)) (o : HO) : HX H (upd H a o) := hx_upd e (fun _ z => nomatch z) (fun _ _ z => nomatch z)
theorem da_mono {S : Sys} {H H' : Hp} {μ μ' : Nat → Addr} {L L' : Nat} {a : Addr} {kvs : List (D × D)} {rd rd' : HO → Prop} (x : HX H H') (m : ∀ n, n < L → μ' n = μ n) (l : L ≤ L') (hr : ∀ o, rd o → rd' o) (h : DA S H μ L a kvs rd) : DA S H' μ' L' a kvs rd' := by
  cases h with
  | leaf ps h e r => exact .leaf ps (hr _ h) e (r.mono x m l)
  | tup xs us h e0 e r r2 r3 => exact .tup xs us (hr _ h) e0 e (r.mono x m l) r2 (r3.mono x m l)
theorem os_of_da {S : Sys} {H : Hp} {μ : Nat → Addr} {L : Nat} {a : Addr} {kvs : List (D × D)} (h : DA S H μ L a kvs (Live H a)) : OS S H μ L (.dic kvs) a := by
  cases h with
  | leaf ps h e r => exact .inl ⟨ps, h, e, r⟩
  | tup xs us h e0 e r r2 r3 => exact .inr ⟨xs, us, h, e0, e, r, r2, r3⟩
theorem da_of_os {S : Sys} {H : Hp} {μ : Nat → Addr} {L : Nat} {a : Addr} {kvs : List (D × D)} (h : OS S H μ L (.dic kvs) a) : DA S H μ L a kvs (Live H a) := by
  rcases h with ⟨ps, a, b, c⟩ | ⟨xs, us, a, b0, b, c, d, f⟩
  · exact .leaf ps a b c
  · exact .tup xs us a b0 b c d f
/-- frozen as it comes -/
theorem pe_frz {e : Expr} {t : TE} (h : PE X e t) : PE X e (fun σ H Q => t σ H fun v H' => ∃ a u, v = .ref a ∧ H' a = some u ∧ Mut (some u) ∧ ∀ od, Q v (upd H' a (.frz od u))) := by
  refine ⟨fun pins s σ H Q I q => thn (h.run pins s σ H _ I q) fun u s1 ⟨v, H1, I1, r, a, o, ev, ha, hm, q1⟩ => ?_⟩
  obtain ⟨od, I2⟩ := I1.lock ha hm
  exact ⟨v, _, I2, r, q1 od⟩
theorem w_live {l : L} {σ : L2.St} {H : Hp} {Q : VK} (hh : tE X T W C (.live l) σ H Q) : TM (sysOf X T) (RN (sysOf X T) H) W (evL C l) σ H Q := by
  obtain ⟨μ, h, ρ, A, p⟩ := hh
  rw [evE] at p
  refine step0 A p fun x H1 μ1 h1 ds e1 A1 r1 p1 => ?_
  obtain ⟨a, ws, rfl, ha, rs, hf, h0⟩ := r1
  have m := RDs.mono (.refl H1) (fun n hn => mu1_old (μ := μ1) (p := a) hn) (Nat.le_succ _) rs
  refine p1 _ _ _ (e1.adopt h0) (A1.hp.adopt (o := .lst ds) hf ⟨ws, ha, m⟩) ⟨by simp, ?_⟩
  rw [mu1_new]
theorem w_lst {l : L} {σ : L2.St} {H : Hp} {Q : VK} (hh : tE X T W C (.lst l) σ H Q) : TM (sysOf X T) (RN (sysOf X T) H) W (evL C l) σ H fun v H' => ∃ a u, v = .ref a ∧ H' a = some u ∧ Mut (some u) ∧ ∀ od, Q v (upd H' a (.frz od u)) := by
  obtain ⟨μ, h, ρ, A, p⟩ := hh
  rw [evE] at p
  refine step0 A p fun x H1 μ1 h1 ds e1 A1 r1 p1 => ?_
  obtain ⟨a, ws, rfl, ha, rs, hf, h0⟩ := r1
  refine ⟨a, _, rfl, ha, True.intro, fun od => ?_⟩
  have hx := hx_lst ha (.frz od (.lst ws))
  exact p1 μ1 _ _ (e1.turn h0 hx) (A1.hp.off hf hx) ⟨a, ws, rfl, .inl ⟨od, upd_same⟩, rs.mono hx (fun _ _ => rfl) (Nat.le_refl _)⟩
theorem w_dct {l : DL} {σ : L2.St} {H : Hp} {Q : VK} (hh : tE X T W C (.dct l) σ H Q) : TM (sysOf X T) (RND (sysOf X T) H) W (evDL C l) σ H Q := by
  obtain ⟨μ, h, ρ, A, p⟩ := hh
  rw [evE] at p
  refine step0 A p fun x H1 μ1 h1 ds e1 A1 r1 p1 => ?_
  obtain ⟨a, rfl, hd, hf, h0⟩ := r1
  refine p1 _ _ _ (e1.adopt h0) (A1.hp.adopt (o := .dic ds) hf (os_of_da (da_mono (.refl H1) (fun n hn => mu1_old (μ := μ1) (p := a) hn) (Nat.le_succ _) (fun _ h => h) hd))) ⟨by simp, ?_⟩
  rw [mu1_new]
abbrev tL (X : Cx) (T : Tab) (W : WX) (C : Cal) (l : L) : TE := fun σ H Q => TM (sysOf X T) (RN (sysOf X T) H) W (evL C l) σ H Q
abbrev tDL (X : Cx) (T : Tab) (W : WX) (C : Cal) (l : DL) : TE := fun σ H Q => TM (sysOf X T) (RND (sysOf X T) H) W (evDL C l) σ H Q
/-- a new list at a -/
theorem Post.newL {μ : Nat → Addr} {h : MH} {H H0 : Hp} {ρ : Env} {σ : L2.St} {ds : List D} {ws : List V} {Q : VK} (A : At (sysOf X T) σ H μ h ρ) (p : Post (sysOf X T) (RN (sysOf X T) H0) W σ μ h H (.ok ds h) Q) (kp : ∀ a, H0 a ≠ none → H a ≠ none) {a : Addr} (ha : H a = none) (rs : RDs (sysOf X T) H μ h.length ds ws) : Q (.ref a) (upd H a (.lst ws)) :=
  Post.done A p (same_upd ha) ⟨a, ws, rfl, upd_same, mono_upd ha rs, fr_of A.hp ha, Classical.byContradiction fun c => kp a c ha⟩
def Es.len : Es → Nat
  | .nil => 0
  | .cons _ es => es.len + 1
theorem evEs_len : ∀ {es : Es} {ρ : Env} {h h' : MH} {ds : List D}, evEs C es ρ h = .ok ds h' → ds.length = es.len
  | .nil, _, _, _, _, e => by rw [evEs] at e; injection e with e1 _; rw [← e1]; rfl
  | .cons a es, ρ, h, h', ds, e => by
    rw [evEs] at e
    cases q : evE C a ρ h with
    | ok d h1 =>
      rw [q, R.bind_ok] at e
      cases q2 : evEs C es ρ h1 with
      | ok ds2 h2 =>
        rw [q2, R.bind_ok] at e
        injection e with e1 _
        rw [← e1, List.length_cons, evEs_len q2]; rfl
      | exc _ _ _ => rw [q2] at e; cases e
      | bad => rw [q2] at e; cases e
    | exc _ _ _ => rw [q] at e; cases e
    | bad => rw [q] at e; cases e
theorem w_disp {es : Es} (hl : es.len ≤ 1000) {σ : L2.St} {H : Hp} {Q : VK} (hh : tL X T W C (.disp es) σ H Q) : tLst (tEs X T W C es) σ H Q := by
  obtain ⟨μ, h, ρ, A, p⟩ := hh
  rw [evL] at p
  refine ⟨μ, h, ρ, A, ?_⟩
  cases q : evEs C es ρ h with
  | ok ds h' =>
    rw [q] at p
    refine fun μ' H' v e s r => ⟨?_, fun a ha => ?_⟩
    · have := evEs_len q
      rw [← r.length, this, sizeLine_eq]; omega
    · exact Post.newL (ρ := ρ) (σ := σ) (A.ext e s) (Post.rebase e p) e.kp ha r
  | exc c pl h' => rw [q] at p; exact p
  | bad => rw [q] at p; exact p
theorem w_tup' {es : Es} (hl : es.len ≤ 1000) {σ : L2.St} {H : Hp} {Q : VK} (hh : tE X T W C (.tup es) σ H Q) : tTup (tEs X T W C es) σ H Q := by
  obtain ⟨μ, h, ρ, A, p⟩ := hh
  rw [evE] at p
  refine step' A p fun x H1 μ1 h1 d q e1 A1 r1 p1 => ⟨?_, fun p hp => ?_⟩
  · have := evEs_len q
    rw [← r1.length, this, sizeLine_eq]; omega
  · exact Post.done A1 p1 (same_upd hp) ⟨p, x, rfl, .of upd_same, mono_upd hp r1⟩
end
end GM
end
section
set_option Elab.async false
set_option linter.all false
set_option maxRecDepth 100000
namespace GM
open PySem PySem.Spec PyProof.Rows L2

section
variable {X : Cx} {T : Tab} {W : WX} {C : Cal}
/-- lists, exactly -/
theorem rdM {pins : List (Addr × Obj)} {σ : L2.St} {H : Hp} {s : Shared} {l : Addr} {xs : List V} (I : Inv X pins σ H s) (h : Rd H l (.lst xs)) : xs.length ≤ sizeLine ∧ ∃ (its : List Value) (n : Nat), Vals xs its ∧ xs.length = its.length ∧ s.heap.get? l = some { cls := .type "list", data := .seq its.toArray n } := by
  obtain ⟨z, its, n, r, e⟩ := h.ok I.hok
  exact ⟨z, its, n, r, r.length, e⟩
/-- as a list: exactly -/
def VL (S : Sys) (H : Hp) (μ : Nat → Addr) (L : Nat) (ds : List D) (v : V) : Prop := ∃ a vs, v = .ref a ∧ Rd H a (.lst vs) ∧ RDs S H μ L ds vs
theorem vl_of {S : Sys} {μ : Nat → Addr} {h : MH} {H : Hp} (s : SimH S μ h H) {d : D} {v : V} {ds : List D} (r : RD S H μ h.length d v) (e : vwL h d = some ds) : VL S H μ h.length ds v := by
  cases d with
  | ref n =>
    obtain ⟨hn, rfl⟩ := r
    simp only [vwL] at e
    cases q : h[n]? with
    | none => rw [q] at e; cases e
    | some o =>
      rw [q] at e
      cases o with
      | lst xs =>
        injection e with e
        subst e
        obtain ⟨vs, a, b⟩ := s.obj n _ q
        exact ⟨_, vs, rfl, .inl a, b⟩
      | dic kvs => cases e
      | ins _ _ => cases e
      | dead => cases e
  | _ => cases e
theorem leaf_kv {S : Sys} {H : Hp} {μ : Nat → Addr} {L : Nat} : ∀ k : Key, RD S H μ L (leafD k) (kV k)
  | .inl _ => rfl
  | .inr _ => rfl
/-- a dict's keys in a row -/
theorem da_raw {pins : List (Addr × Obj)} {σ : L2.St} {H : Hp} {s : Shared} {μ : Nat → Addr} {L : Nat} {a : Addr} {kvs : List (D × D)} {rd : HO → Prop} (I : Inv X pins σ H s) (hr : ∀ o, rd o → Rd H a o) (h : DA (sysOf X T) H μ L a kvs rd) :
    (a == sysModules) = false ∧ ∃ (es : Array DictEntry) (ep : Nat) (vs : List V), s.heap.DictRaw a es ep ∧ es.size ≤ sizeLine ∧ RDs (sysOf X T) H μ L (kvs.map (·.1)) vs ∧ Vals vs (es.toList.map (·.key)) := by
  cases h with
  | leaf ps h e r =>
    obtain ⟨z, hd, vs, rel, o, es, ep, ho, hx, hdat, _, hp, _⟩ := dk_rd I.hok (hr _ h)
    have len : es.size = ps.length := by rw [← Array.length_toList, hp.length, rel.length]
    refine ⟨hd, es, ep, ps.map fun p => kV p.1, ⟨o, ho, hx, hdat⟩, by rw [len]; exact z, ?_, ?_⟩
    · rw [e]
      clear h e r rel hp len z
      induction ps with
      | nil => exact .nil
      | cons p ps ih => exact .cons (leaf_kv p.1) ih
    · have key : ∀ {l : List DictEntry} {m : List (Key × Value)} {q : List (Key × V)}, Pairs (mixKind X.prog X.w) l m → KV q m → Vals (q.map fun p => kV p.1) (l.map (·.key)) := by
        intro l m q hp
        induction hp generalizing q with
        | nil => intro k; cases k; exact .nil
        | cons h1 h2 _ ih =>
          intro k
          cases k with
          | cons k1 k2 => exact .cons (by show RelV (kV _) _; rw [k1.1]; exact relV_key h1) (ih k2)
      exact key hp rel
  | tup xs us h e0 e r r2 r3 =>
    obtain ⟨hd, hz, o, arr, ep, ho, hx, hdat, harr, hn⟩ := dx_rd I (hr _ h)
    have len : arr.size = xs.length := by rw [← Array.length_toList, harr, List.length_map]
    refine ⟨hd, arr, ep, xs.map fun x => V.ref x.2.1, ⟨o, ho, hx, hdat⟩, by rw [len]; exact hz, r, ?_⟩
    rw [harr, List.map_map]
    clear h e0 e r r2 r3 hz hn harr len
    induction xs with
    | nil => exact .nil
    | cons x xs ih => exact .cons rfl ih
theorem vals_items {es : Array DictEntry} {vs : List V} {acc : Array Value} (r : Vals vs (es.toList.map (·.key))) (i : ItemsOf (fun i v => ∃ hi : i < es.size, v = es[i].key) acc es.size) : Vals vs acc.toList := by
  have e : acc.toList = es.toList.map (·.key) := by
    apply List.ext_getElem?
    intro j
    rw [Array.getElem?_toList, List.getElem?_map, Array.getElem?_toList]
    cases q : acc[j]? with
    | none =>
      have h1 : acc.size ≤ j := Array.getElem?_eq_none_iff.mp q
      rw [i.1] at h1
      rw [Array.getElem?_eq_none_iff.mpr h1]; rfl
    | some v =>
      obtain ⟨hi, ev⟩ := i.2 j v q
      rw [Array.getElem?_eq_getElem hi, ev]; rfl
  rw [e]; exact r

def opOfs' : D → Option (List D)
  | .lst xs => some xs
  | .tup xs => some xs
  | .dic ks _ => some ks
  | _ => none
theorem b_list' (hc : X.calm = true) : CallR X (.type "list") (rNew (sysOf X T) opOfs') := by
  intro pins s σ H xs us Q I r h
  obtain ⟨μ, L, d, zs, ⟨v, rfl, hv⟩, hf, q⟩ := h
  cases d with
  | lst ys => exact b_list pins s σ H _ us Q I r ⟨μ, L, .lst ys, zs, ⟨v, rfl, hv⟩, hf, q⟩
  | tup ys => exact b_list pins s σ H _ us Q I r ⟨μ, L, .tup ys, zs, ⟨v, rfl, hv⟩, hf, q⟩
  | dic ks ws =>
    obtain rfl := Option.some.inj (show some ks = some zs from hf)
    obtain ⟨a, rfl, l, da⟩ := da_of_vd hv
    rw [Vals.ref1 r]
    obtain ⟨hd, es, ep, vs, hraw, hz, rs, rv⟩ := da_raw I (fun _ h => h) da
    rw [(unzip_l ks ws l).1] at rs
    refine PySem.W.kdl_call (KdlSrc.rawDict (es := es) (ep := ep) hd) (I.ok.hd hc) hraw hz fun h' tk acc' c' kp e it => ?_
    have rv' := vals_items rv it
    have lz : vs.length ≤ sizeLine := by rw [rv.length, List.length_map, Array.length_toList]; exact hz
    refine ⟨.ref s.heap.objs.size, _, I.laid (t' := tk) kp (Nat.le_refl _) (show ObjOk X.prog X.w _ h' _ (.lst vs) from ⟨lz, acc'.toList, c', rv', by rw [e]⟩), rfl, q _ vs (I.hok.fresh (Nat.le_refl _)) rs lz⟩
  | _ => simp [opOfs'] at hf

theorem each_of {S : Sys} {H : Hp} {μ : Nat → Addr} {L : Nat} : ∀ {ds : List D} {vs : List V} {us : List Value}, RDs S H μ L ds vs → Vals vs us → PySem.W.EachIs (fun u d => VR S H μ L d u) us ds
  | [], _, _, h, r => by obtain rfl : _ = [] := h; cases r; exact .nil
  | _ :: _, _, _, ⟨v, ws, e, a, b⟩, r => by
    subst e
    cases r with
    | cons x y => exact .cons ⟨v, x, a⟩ (each_of b y)
theorem of_each {S : Sys} {H : Hp} {μ : Nat → Addr} {L : Nat} {us : List Value} {ds : List D} (h : PySem.W.EachIs (fun u d => VR S H μ L d u) us ds) : ∃ vs, RDs S H μ L ds vs ∧ Vals vs us := by
  induction h with
  | nil => exact ⟨[], .nil, .nil⟩
  | cons a _ ih =>
    obtain ⟨v, x, y⟩ := a
    obtain ⟨vs, r, q⟩ := ih
    exact ⟨v :: vs, .cons y r, .cons x q⟩
theorem reads_each {pins : List (Addr × Obj)} {σ : L2.St} {H : Hp} {s : Shared} {μ : Nat → Addr} {L : Nat} (I : Inv X pins σ H s) : ∀ {ds : List D} {vs : List V} {us : List Value}, D.pls ds = true → RDs (sysOf X T) H μ L ds vs → Vals vs us → PySem.W.EachIs (fun u d => ∃ as, Reads s.heap u d.py as) us ds
  | [], _, _, _, h, r => by obtain rfl : _ = [] := h; cases r; exact .nil
  | d :: ds, _, _, hp, ⟨v, ws, e, a, b⟩, r => by
    subst e
    simp only [D.pls, Bool.and_eq_true] at hp
    cases r with
    | cons x y => exact .cons (reads_of I hp.1 a x) (reads_each I hp.2 b y)
theorem pls_mem : ∀ {ds : List D}, D.pls ds = true → ∀ d ∈ ds, d.pl = true ∧ d.dep ≤ D.deps ds
  | [], _, _, h => nomatch h
  | e :: ds, hp, d, h => by
    simp only [D.pls, Bool.and_eq_true] at hp
    rcases List.mem_cons.mp h with rfl | h
    · exact ⟨hp.1, by rw [D.deps]; exact Nat.le_max_left _ _⟩
    · obtain ⟨a, b⟩ := pls_mem hp.2 d h
      exact ⟨a, by rw [D.deps]; exact Nat.le_trans b (Nat.le_max_right _ _)⟩
/-- what sorted asks, as the library has it -/
theorem sortOk_of {xs : List D} (h : sortOk xs = true) : D.pls xs = true ∧ D.deps xs ≤ 150 ∧ PySem.W.AllAlike (xs.map D.py) ∧ PySem.W.Sortable (xs.map D.py) ∧ xs.length ≤ 1000000 := by
  simp only [sortOk, Bool.and_eq_true, Bool.or_eq_true, decide_eq_true_eq, List.all_eq_true] at h
  obtain ⟨⟨⟨⟨h1, h2⟩, h3⟩, h4⟩, h5⟩ := h
  refine ⟨h1, h2, fun d hd d' hd' => ?_, ?_, h5⟩
  · obtain ⟨a, ha, rfl⟩ := List.mem_map.mp hd
    obtain ⟨b, hb, rfl⟩ := List.mem_map.mp hd'
    exact h3 a ha b hb
  · rcases h4 with h4 | h4
    · refine .inl fun d hd => ?_
      obtain ⟨a, ha, rfl⟩ := List.mem_map.mp hd
      have z := h4 a ha
      cases a with
      | tup ds =>
        cases ds with
        | nil => cases z
        | cons x r => exact ⟨_, _, by rw [D.py, D.pys]⟩
      | _ => cases z
    · refine .inr fun d hd => ?_
      obtain ⟨a, ha, rfl⟩ := List.mem_map.mp hd
      have z := h4 a ha
      have p := (pls_mem h1 a ha).1
      cases a with
      | tup _ => cases z
      | non => cases z
      | bl _ => exact ⟨by simp [D.py], fun xs => by simp [D.py]⟩
      | int _ => exact ⟨by simp [D.py], fun xs => by simp [D.py]⟩
      | str _ => exact ⟨by simp [D.py], fun xs => by simp [D.py]⟩
      | lst _ => exact ⟨by simp [D.py], fun xs => by simp [D.py]⟩
      | _ => simp [D.pl] at p
theorem sorts_eq (xs : List D) : sorts xs = xs.mergeSort (PySem.W.dataLe false D.py) := rfl
theorem sorts_len (xs : List D) : (sorts xs).length = xs.length := List.length_mergeSort ..
theorem depU (hb : Big X) {xs : List D} (h : sortOk xs = true) {d : D} (hd : d ∈ xs) : X.A.units + 2 + d.py.depth < cLine := by
  obtain ⟨h1, h2, _⟩ := sortOk_of h
  obtain ⟨a, b⟩ := pls_mem h1 d hd
  have : X.A.units + 200 < cLine := hb
  rw [dep_py d a]; omega
theorem b_sorted (hb : Big X) (hc : X.calm = true) : CallR X (.builtin "sorted") (rNew (sysOf X T) opSort) := by
  intro pins s σ H xs us Q I r h
  obtain ⟨μ, L, d, zs, ⟨v, rfl, hv⟩, hf, q⟩ := h
  cases d with
  | lst ys =>
    have hf' : (if sortOk ys = true then some (sorts ys) else none) = some zs := hf
    split at hf'
    · rename_i c
      obtain rfl := Option.some.inj hf'
      obtain ⟨a, vs, rfl, hq, rs⟩ := hv
      rw [Vals.ref1 r]
      obtain ⟨its, rv, hl, hz⟩ := I.list hq
      obtain ⟨h1, h2, h3, h4, h5⟩ := sortOk_of c
      refine PySem.W.sorted_data (enc := D.py) hl.isList (each_of rs rv) (reads_each I h1 rs rv) h3 h4 (by rw [rs.length]; exact hz) (fun d hd => depU hb c hd) fun out ho eo => ?_
      rw [← sorts_eq] at eo
      obtain ⟨ws, r1, r2⟩ := of_each eo
      obtain ⟨ep, he'⟩ := PyProof.Rows.sortedAll_at s.heap its out.toArray
      have hlen : ws.length ≤ sizeLine := by rw [← r1.length, sorts_len, rs.length]; exact hz
      exact ⟨.ref _, upd H (s.heap.objs.size + 1) (.lst ws), I.laid (t' := s.toks) (fun _ _ => PyProof.Rows.sortedAll_old) (Nat.le_succ _) ⟨hlen, out, ep, r2, he'⟩, rfl, q _ ws (I.hok.fresh (Nat.le_succ _)) r1 hlen⟩
    · cases hf'
  | dic ks ws =>
    have hf' : (if sortOk ks = true then some (sorts ks) else none) = some zs := hf
    split at hf'
    · rename_i c
      obtain rfl := Option.some.inj hf'
      obtain ⟨a, rfl, l, da⟩ := da_of_vd hv
      rw [Vals.ref1 r]
      obtain ⟨hd, es, ep, vs, hraw, hz, rs, rv⟩ := da_raw I (fun _ h => h) da
      rw [(unzip_l ks ws l).1] at rs
      obtain ⟨h1, h2, h3, h4, h5⟩ := sortOk_of c
      refine Calls.call_function_entry PyProof.Rows.kind_sorted PyProof.Rows.plain_sorted PyProof.Rows.entry_sorted (PyProof.Rows.args_sorted1 _) ?_
      unfold Builtin.«sorted»
      refine wpAny_bind (m := checkCount "sorted" 1 1 _) (wpAny_pure ?_)
      refine wpAny_bind (PySem.W.kdu_collect (A := X.A.in1) (KdlSrc.rawDict (es := es) (ep := ep) hd) (I.ok.hd hc) hraw hz fun h' tk acc hk hacc => ?_)
      have rv' := vals_items rv hacc
      have lacc : acc.toList.length = vs.length := rv'.length.symm
      have lz : vs.length ≤ sizeLine := by rw [rv.length, List.length_map, Array.length_toList]; exact hz
      have I1 : Inv X pins σ H { s with heap := h', toks := tk } := I.kept hk
      refine wpAny_bind (wpAny_newList ?_ (by rw [lacc]; exact lz))
      have hoL : (h'.push (seqObj "list" acc.toList.toArray 0)).get? h'.objs.size = some (seqObj "list" acc.toList.toArray 0) := Heap.get?_push_size _ rfl
      have hold : ∀ b o, h'.get? b = some o → (PySem.W.sortingHeap (h'.push (seqObj "list" acc.toList.toArray 0)) h'.objs.size acc.toList).get? b = some o := fun b o e => PySem.W.sortingHeap_old (Nat.ne_of_lt (Heap.lt_size e)) (Heap.get?_push_of_some _ e)
      have er := reads_each (T := T) (μ := μ) (L := L) I1 h1 rs rv'
      have er' : PySem.W.EachIs (fun u d => ∃ as, Reads (PySem.W.sortingHeap (h'.push (seqObj "list" acc.toList.toArray 0)) h'.objs.size acc.toList) u (D.py d) as) acc.toList ks := er.mono fun _ _ ⟨as, z⟩ => ⟨as, PyProof.Rows.Reads.keeps hold z⟩
      show wpAny _ _ _ _ _ { s with heap := h'.push (seqObj "list" acc.toList.toArray 0), toks := tk }
      refine wpAny_bind (wpAny_holding (wpAny_call_entry PyProof.Rows.slot_list_sort ⟨_, hoL, rfl⟩ PyProof.Rows.entry_list_sort
        (PySem.W.list_sort_vals (s := { s with heap := h'.push (seqObj "list" acc.toList.toArray 0), toks := tk }) (κ := PySem.W.dataKind _ (ks.map D.py)) hoL
          (PySem.W.SortsAt.data (s := { s with heap := PySem.W.sortingHeap (h'.push (seqObj "list" acc.toList.toArray 0)) h'.objs.size acc.toList, toks := tk }) (PySem.W.each_map (R := fun v d => ∃ as, Reads (PySem.W.sortingHeap (h'.push (seqObj "list" acc.toList.toArray 0)) h'.objs.size acc.toList) v d as) D.py er') h3 h4 (PySem.W.bound_map fun d hd => depU hb c hd)) (by rw [lacc]; exact lz) ⟨_, rfl, ?_⟩) (PyProof.Rows.args_list_sort _)))
      have eo := PySem.W.sortVals_data false (each_of rs rv') er' h3
      rw [← sorts_eq] at eo
      obtain ⟨zs, r1, r2⟩ := of_each eo
      obtain ⟨e', he'⟩ := PyProof.Rows.sortedHeap_at (vs := acc.toList) (out := (PySem.W.sortVals (PySem.W.dataKind (PySem.W.sortingHeap (h'.push (seqObj "list" acc.toList.toArray 0)) h'.objs.size acc.toList) (ks.map D.py)) false acc.toList acc.toList).toArray) hoL
      have hlen : zs.length ≤ sizeLine := by rw [← r1.length, sorts_len, rs.length]; exact lz
      refine wpAny_pure ⟨_, rfl, .ref h'.objs.size, upd H h'.objs.size (.lst zs), I1.laid (t' := tk) (fun b u e => ?_) (Nat.le_refl _) ⟨hlen, _, e', r2, he'⟩, rfl, q _ zs (I1.hok.fresh (Nat.le_refl _)) r1 hlen⟩
      rw [PyProof.Rows.sortedHeap_old (Nat.ne_of_lt (Heap.lt_size e)) (by rw [Heap.size_push]; exact Nat.lt_succ_of_lt (Heap.lt_size e))]
      exact Heap.get?_push_of_some _ e
    · cases hf'
  | set ks => exact hv.elim
  | _ => simp [opSort] at hf
end
end GM
end
section
set_option Elab.async false
set_option linter.all false
set_option maxRecDepth 100000
namespace GM
open PySem PySem.Spec PyProof.Rows L2

section
variable {X : Cx} {T : Tab} {W : WX} {C : Cal}
theorem w_new1 {e : E} {f : D → Option (List D)} {l : L} (hev : ∀ ρ h, evL C l ρ h = (evE C e ρ h).bind fun d h => R.ofO (f (vw h d)) h) {σ : L2.St} {H : Hp} {Q : VK} (hh : tL X T W C l σ H Q) : tCB (rNew (sysOf X T) f) (tCons (tE X T W C e) tNil) σ H Q := by
  obtain ⟨μ, h, ρ, A, p⟩ := hh
  rw [hev] at p
  refine step A p fun x H1 μ1 h1 d e1 A1 r1 p1 => ?_
  cases q : f (vw h1 d) with
  | none => rw [q] at p1; exact p1.elim
  | some zs => rw [q] at p1; exact ⟨μ1, h1.length, _, zs, ⟨x, rfl, vw_ok A1.hp r1⟩, q, fun a ws ha rs _ => Post.newL A1 p1 e1.kp ha rs⟩
theorem w_ofs {e : E} {σ : L2.St} {H : Hp} {Q : VK} (hh : tL X T W C (.ofs e) σ H Q) : tCB (rNew (sysOf X T) opOfs') (tCons (tE X T W C e) tNil) σ H Q := by
  refine w_new1 (fun ρ h => ?_) hh
  rw [evL]
  congr 1
  funext d h
  cases vw h d <;> rfl
theorem w_sorted {e : E} {σ : L2.St} {H : Hp} {Q : VK} (hh : tL X T W C (.sorted e) σ H Q) : tCB (rNew (sysOf X T) opSort) (tCons (tE X T W C e) tNil) σ H Q :=
  w_new1 (fun ρ h => by rw [evL]) hh
/-- list * int -/
def rRep' : R2 := fun x y H Q => ∃ l k xs, x = .ref l ∧ y = .int k ∧ Rd H l (.lst xs) ∧ -(2 ^ 63) ≤ k ∧ k < 2 ^ 63 ∧ xs.length * k.toNat ≤ sizeLine ∧
  ∀ p, H p = none → Q (.ref p) (upd H p (.lst (List.replicate k.toNat xs).flatten))
theorem op_rep' : OpR X (binaryOp .Mult) rRep' := by
  intro pins s σ H x y v u Q I rx ry h
  obtain ⟨l, k, xs, rfl, rfl, hH, h1, h2, hz, q⟩ := h
  cases rx
  obtain ⟨t, rfl⟩ := ry
  obtain ⟨z, its, n, r, hl, e⟩ := rdM I hH
  have hlen : its.toArray.size * k.toNat ≤ sizeLine := by rw [List.size_toArray, ← hl]; exact hz
  have hcap : ¬ its.toArray.size * k.toNat > (2 ^ 63 - 1) / 8 := by
    have : (sizeLine : Nat) ≤ (2 ^ 63 - 1) / 8 := by decide
    omega
  have hfit : ¬ (!Builtin.List.listFitsIndex k) = true := by
    rw [fitsIndex_both h1 h2]
    exact Bool.false_ne_true
  have hlong : ¬ Builtin.List.listTooLong (its.toArray.size * k.toNat) = true := by
    rw [notLongL hlen]
    exact Bool.false_ne_true
  have hnew : List.foldl (fun x1 x2 => x1 ++ x2) #[] (List.replicate (if its.toArray.isEmpty = true then 0 else k.toNat) its.toArray) = (List.replicate k.toNat its).flatten.toArray := by
    have f0 : ∀ m : Nat, List.foldl (fun x1 x2 => x1 ++ x2) #[] (List.replicate m its.toArray) = (List.replicate m its).flatten.toArray := fun m => by
      have := foldl_rep its m []
      rw [List.nil_append] at this
      exact this
    rw [f0]
    cases its with
    | nil => simp
    | cons a r' => rw [if_neg (by simp)]
  refine wpAny_binaryOp_repeat_ref (T := "list") (U := "int") (by decide) ⟨_, e, rfl⟩ (fun s' => typeIs_int s' k t) noFill_list_mul PySem.F.fills_int_mul PySem.F.slot_int_rmul repeat_list PySem.F.slot_int_index.lookup
    (call_meets PySem.F.slot_int_rmul (typeIs_int s k t) PySem.F.entry_int_rmul (PySem.F.args_int_rmul_2 _ _) (int___rmul___int_list k t l its.toArray n)
      ⟨e, rfl, ⟨_, e, rfl⟩, call_meets PySem.F.slot_list_mul ⟨_, e, rfl⟩ PySem.F.entry_list_mul (PySem.F.args_list_mul_2 _ _) (AutoListH.list___mul___list_int_3 l its.toArray n k t hfit hcap hlong) ⟨e, ?_⟩⟩)
  rw [hnew]
  exact ⟨.ref _, _, I.lnew (t' := s.toks) (r.rep k.toNat) (by rw [PyProof.Rows.lm_len_rep_flat, Nat.mul_comm]; exact hz), rfl, q _ I.fresh⟩
theorem RDs.rep {S : Sys} {H : Hp} {μ : Nat → Addr} {L : Nat} {ds : List D} {vs : List V} (r : RDs S H μ L ds vs) : ∀ k : Nat, RDs S H μ L (List.replicate k ds).flatten (List.replicate k vs).flatten
  | 0 => RDs.nil
  | k + 1 => by
    rw [List.replicate_succ, List.replicate_succ, List.flatten_cons, List.flatten_cons]
    exact RDs.append r (RDs.rep r k)
theorem w_rep {a n : E} {σ : L2.St} {H : Hp} {Q : VK} (hh : tL X T W C (.rep a n) σ H Q) : tOp rRep' (tE X T W C a) (tE X T W C n) σ H Q := by
  obtain ⟨μ, h, ρ, A, p⟩ := hh
  rw [evL] at p
  refine step A p fun x H1 μ1 h1 d e1 A1 r1 p1 => step A1 p1 fun y H2 μ2 h2 d2 e2 A2 r2 p2 => ?_
  have kp : ∀ a, H a ≠ none → H2 a ≠ none := (e1.trans e2).kp
  cases q : vwL h2 d with
  | some xs =>
    rw [q] at p2
    cases d2 with
    | int n =>
      dsimp only at p2
      split at p2
      · rename_i c
        obtain ⟨a, vs, rfl, hr, rs⟩ := vl_of A2.hp (r1.ext e2) q
        obtain rfl : y = .int n := r2
        exact ⟨a, n, vs, rfl, rfl, hr, c.2.1, c.2.2, by rw [← rs.length, sizeLine_eq]; exact Nat.le_trans c.1 (by decide), fun p hp => Post.newL A2 p2 kp hp (rs.rep _)⟩
      · exact p2.elim
    | _ => exact p2.elim
  | none => rw [q] at p2; exact p2.elim

/-! ### receivers -/
def tyL (X : Cx) : V → Hp → Prop := fun x H => ∃ a xs, x = .ref a ∧ SqL X.K H a xs
theorem ty_l : TyOk X "list" (tyL X) := by
  intro pins σ H s x v I r ty
  obtain ⟨a, xs, rfl, hq⟩ := ty
  cases r
  obtain ⟨its, _, pl, _⟩ := I.list hq
  refine ⟨pl.isList.typeIs, fun a e => ?_⟩
  cases e
  obtain ⟨o, n, e, c, hd, _⟩ := pl
  exact ⟨o, e, hd⟩
def tyD (S : Sys) : V → Hp → Prop := fun x H => ∃ μ L a kvs, x = .ref a ∧ DA S H μ L a kvs (Rd H a)
theorem ty_d : TyOk X "dict" (tyD (sysOf X T)) := by
  intro pins σ H s x v I r ty
  obtain ⟨μ, L, a, kvs, rfl, da⟩ := ty
  cases r
  exact dict_ty I (fun _ h => h) da
theorem isLst_ty {S : Sys} {μ : Nat → Addr} {h : MH} {H : Hp} (s : SimH S μ h H) {d : D} {v : V} (r : RD S H μ h.length d v) (e : isLst h d = true) : ∃ a xs, v = .ref a ∧ SqL S.K H a xs := by
  have z := vw_ok s r
  unfold isLst at e
  cases q : vw h d with
  | lst xs => rw [q] at z; obtain ⟨a, vs, e, hq, _⟩ := z; exact ⟨a, vs, e, hq⟩
  | _ => rw [q] at e; cases e
theorem isDic_ty {S : Sys} {μ : Nat → Addr} {h : MH} {H : Hp} (s : SimH S μ h H) {d : D} {v : V} (r : RD S H μ h.length d v) (e : isDic h d = true) : tyD S v H := by
  have z := vw_ok s r
  unfold isDic at e
  cases q : vw h d with
  | dic ks vs => rw [q] at z; obtain ⟨a, e, _, da⟩ := da_of_vd z; exact ⟨μ, h.length, a, _, e, da⟩
  | _ => rw [q] at e; cases e
/-- a live list of mine -/
theorem live_l {S : Sys} {μ : Nat → Addr} {h : MH} {H : Hp} (s : SimH S μ h H) {n : Nat} {xs : List D} (q : h[n]? = some (.lst xs)) : ∃ vs, H (μ n) = some (.lst vs) ∧ RDs S H μ h.length xs vs := s.obj n _ q
theorem big_lt : listMax < sizeLine := by rw [sizeLine_eq]; decide
theorem need_tt {α : Type} {b : Bool} {r : R α} {β : Type} {S : Sys} {Rl : RlT α β} {W : WX} {σ : L2.St} {μ : Nat → Addr} {h : MH} {H : Hp} {Q : β → Hp → Prop} (p : Post S Rl W σ μ h H (need b r) Q) : b = true ∧ Post S Rl W σ μ h H r Q := by
  cases b with
  | true => exact ⟨rfl, p⟩
  | false => exact p.elim
theorem w_append {o e : E} {σ : L2.St} {H : Hp} {Q : VK} (hh : tE X T W C (.append o e) σ H Q) : tMG (tyL X) rAppend (tE X T W C o) (tCons (tE X T W C e) tNil) σ H Q := by
  obtain ⟨μ, h, ρ, A, p⟩ := hh
  rw [evE] at p
  refine step A p fun x H1 μ1 h1 d e1 A1 r1 p1 => ?_
  obtain ⟨hb, p1⟩ := need_tt p1
  refine ⟨isLst_ty A1.hp r1 hb, step A1 p1 fun y H2 μ2 h2 d2 e2 A2 r2 p2 => ?_⟩
  have r1' := r1.ext e2
  cases d with
  | ref n =>
    obtain ⟨hn, rfl⟩ := r1'
    dsimp only at p2
    cases q : h2[n]? with
    | none => rw [q] at p2; exact p2.elim
    | some o =>
      rw [q] at p2
      cases o with
      | lst xs =>
        dsimp only at p2
        split at p2
        · rename_i c
          obtain ⟨vs, ha, rs⟩ := live_l A2.hp q
          have hx := hx_lst ha (.lst (vs ++ [y]))
          exact ⟨_, vs, y, rfl, rfl, ha, by rw [← rs.length]; exact Nat.lt_trans c big_lt, Post.write A2 p2 q (fun z => nomatch z) hx ⟨_, upd_same, (rs.append (.cons r2 .nil)).mono hx (fun _ _ => rfl) (Nat.le_refl _)⟩ rfl⟩
        · exact p2.elim
      | _ => exact p2.elim
  | _ => exact p2.elim
def rExt : V → List V → Hp → VK → Prop := fun x vs H Q => ∃ l b xs zs, x = .ref l ∧ vs = [.ref b] ∧ H l = some (.lst xs) ∧ Rd H b (.lst zs) ∧ xs.length + zs.length ≤ sizeLine ∧ Q .non (upd H l (.lst (xs ++ zs)))
theorem mt_ext : MtR X "list.extend" rExt := by
  intro pins s σ H x vs v us Q I rx rv h
  obtain ⟨l, b, xs, zs, rfl, rfl, hH, hB, hz, q⟩ := h
  cases rx
  obtain ⟨u, rfl, ru⟩ := rv.one
  cases ru
  obtain ⟨z, its, n, r, hl, e⟩ := I.lstM hH
  obtain ⟨z2, its2, n2, r2, hl2, e2⟩ := rdM I hB
  have hsz : its.toArray.size + its2.toArray.size ≤ sizeLine := by rw [List.size_toArray, List.size_toArray]; omega
  have hlong : ¬ (!its.toArray.isEmpty && Builtin.List.listTooLong (its.toArray.size + its2.toArray.size)) = true := by
    rw [notLongL hsz, Bool.and_false]
    exact Bool.false_ne_true
  refine call_meets PySem.F.slot_list_extend ⟨_, e, rfl⟩ PySem.F.entry_list_extend (PySem.F.args_list_extend_2 _ _)
    (AutoSeq1.list_extend_list_list_0 l its.toArray n b its2.toArray n2 hlong (by rw [List.size_toArray]; omega) (by omega)) ⟨e, e2, ?_⟩
  refine ⟨.non, _, I.lset (its' := its ++ its2) hH e (by simp) (r.append r2) ?_, rfl, q⟩
  rw [List.length_append]
  omega
theorem w_extend {o e : E} {σ : L2.St} {H : Hp} {Q : VK} (hh : tE X T W C (.extend o e) σ H Q) : tMG (tyL X) rExt (tE X T W C o) (tCons (tE X T W C e) tNil) σ H Q := by
  obtain ⟨μ, h, ρ, A, p⟩ := hh
  rw [evE] at p
  refine step A p fun x H1 μ1 h1 d e1 A1 r1 p1 => ?_
  obtain ⟨hb, p1⟩ := need_tt p1
  refine ⟨isLst_ty A1.hp r1 hb, step A1 p1 fun y H2 μ2 h2 d2 e2 A2 r2 p2 => ?_⟩
  have r1' := r1.ext e2
  cases d with
  | ref n =>
    obtain ⟨hn, rfl⟩ := r1'
    cases q2 : vwL h2 d2 with
    | some ys =>
      rw [q2] at p2
      dsimp only at p2
      cases q : h2[n]? with
      | none => rw [q] at p2; exact p2.elim
      | some o =>
        rw [q] at p2
        cases o with
        | lst xs =>
          dsimp only at p2
          split at p2
          · rename_i c
            obtain ⟨vs, ha, rs⟩ := live_l A2.hp q
            obtain ⟨b, ws, rfl, hr, rs2⟩ := vl_of A2.hp r2 q2
            have hx := hx_lst ha (.lst (vs ++ ws))
            exact ⟨_, b, vs, ws, rfl, rfl, ha, hr, by rw [← rs.length, ← rs2.length]; exact Nat.le_of_lt (Nat.lt_trans c big_lt), Post.write A2 p2 q (fun z => nomatch z) hx ⟨_, upd_same, (rs.append rs2).mono hx (fun _ _ => rfl) (Nat.le_refl _)⟩ rfl⟩
          · exact p2.elim
        | _ => exact p2.elim
    | none => rw [q2] at p2; exact p2.elim
  | _ => exact p2.elim
theorem w_pop {o : E} {σ : L2.St} {H : Hp} {Q : VK} (hh : tE X T W C (.pop o) σ H Q) : tMG0 (tyL X) rPop (tE X T W C o) σ H Q := by
  obtain ⟨μ, h, ρ, A, p⟩ := hh
  rw [evE] at p
  refine step A p fun x H1 μ1 h1 d e1 A1 r1 p1 => ?_
  cases d with
  | ref n =>
    obtain ⟨hn, rfl⟩ := r1
    dsimp only at p1
    cases q : h1[n]? with
    | none => rw [q] at p1; exact p1.elim
    | some o =>
      rw [q] at p1
      cases o with
      | lst xs =>
        dsimp only at p1
        cases q2 : xs[xs.length - 1]? with
        | none => rw [q2] at p1; exact p1.elim
        | some y =>
          rw [q2] at p1
          obtain ⟨vs, ha, rs⟩ := live_l A1.hp q
          obtain ⟨w, hw, rw'⟩ := rs.get q2
          have hx := hx_lst ha (.lst vs.dropLast)
          refine ⟨⟨_, vs, rfl, .of ha⟩, _, vs, w, rfl, rfl, ha, by rw [← rs.length]; exact hw, Post.write A1 p1 q (fun z => nomatch z) hx ⟨_, upd_same, rs.dropLast.mono hx (fun _ _ => rfl) (Nat.le_refl _)⟩ (rw'.mono hx (fun _ _ => rfl) (Nat.le_refl _))⟩
      | _ => exact p1.elim
  | _ => exact p1.elim
theorem ixO_seq {n : Nat} {i : Int} {j : Nat} (h : ixO n i = some j) : seqIndex? i n = some j ∧ j < n ∧ -(n : Int) ≤ i ∧ i < n := ixN_seq h
end
end GM
end
section
set_option Elab.async false
set_option linter.all false
set_option maxRecDepth 100000
namespace GM
open PySem PySem.Spec PyProof.Rows L2

section
variable {X : Cx} {T : Tab} {W : WX} {C : Cal}
theorem w_popAt {o i : E} {σ : L2.St} {H : Hp} {Q : VK} (hh : tE X T W C (.popAt o i) σ H Q) : tMG (tyL X) rPopAt (tE X T W C o) (tCons (tE X T W C i) tNil) σ H Q := by
  obtain ⟨μ, h, ρ, A, p⟩ := hh
  rw [evE] at p
  refine step A p fun x H1 μ1 h1 d e1 A1 r1 p1 => ?_
  obtain ⟨hb, p1⟩ := need_tt p1
  refine ⟨isLst_ty A1.hp r1 hb, step A1 p1 fun y H2 μ2 h2 d2 e2 A2 r2 p2 => ?_⟩
  have r1' := r1.ext e2
  cases d with
  | ref n =>
    obtain ⟨hn, rfl⟩ := r1'
    cases d2 with
    | int i =>
      obtain rfl : y = .int i := r2
      dsimp only at p2
      cases q : h2[n]? with
      | none => rw [q] at p2; exact p2.elim
      | some o =>
        rw [q] at p2
        cases o with
        | lst xs =>
          dsimp only at p2
          by_cases hl : xs.length ≤ listMax
          · rw [if_pos hl] at p2
            cases q2 : ixO xs.length i with
            | none => rw [q2] at p2; exact p2.elim
            | some j =>
              rw [q2] at p2
              dsimp only at p2
              cases q3 : xs[j]? with
              | none => rw [q3] at p2; exact p2.elim
              | some z =>
                rw [q3] at p2
                obtain ⟨vs, ha, rs⟩ := live_l A2.hp q
                obtain ⟨w, hw, rw'⟩ := rs.get q3
                obtain ⟨s1, s2, s3, s4⟩ := ixO_seq q2
                have hL : listMax < 2 ^ 62 := by decide
                have hx := hx_lst ha (.lst (vs.eraseIdx j))
                exact ⟨_, vs, i, j, w, rfl, rfl, ha, by omega, by omega, by rw [← rs.length]; exact s1, hw, Post.write A2 p2 q (fun z => nomatch z) hx ⟨_, upd_same, (rs.eraseIdx j).mono hx (fun _ _ => rfl) (Nat.le_refl _)⟩ (rw'.mono hx (fun _ _ => rfl) (Nat.le_refl _))⟩
          · rw [if_neg hl] at p2; exact p2.elim
        | _ => exact p2.elim
    | _ => exact p2.elim
  | _ => exact p2.elim
def rIns : V → List V → Hp → VK → Prop := fun x vs H Q => ∃ (l : Addr) (xs : List V) (i : Int) (y : V), x = .ref l ∧ vs = [.int i, y] ∧ H l = some (.lst xs) ∧ xs.length < sizeLine ∧ 0 ≤ i ∧ i < 2 ^ 63 ∧
    Q .non (upd H l (.lst (xs.take i.toNat ++ [y] ++ xs.drop i.toNat)))
theorem w_insert {o i e : E} {σ : L2.St} {H : Hp} {Q : VK} (hh : tE X T W C (.insert o i e) σ H Q) : tMG (tyL X) rIns (tE X T W C o) (tCons (tE X T W C i) (tCons (tE X T W C e) tNil)) σ H Q := by
  obtain ⟨μ, h, ρ, A, p⟩ := hh
  rw [evE] at p
  refine step A p fun x H1 μ1 h1 d e1 A1 r1 p1 => ?_
  obtain ⟨hb, p1⟩ := need_tt p1
  refine ⟨isLst_ty A1.hp r1 hb, step A1 p1 fun y H2 μ2 h2 d2 e2 A2 r2 p2 => step A2 p2 fun z H3 μ3 h3 d3 e3 A3 r3 p3 => ?_⟩
  have r1' := (r1.ext e2).ext e3
  cases d with
  | ref n =>
    obtain ⟨hn, rfl⟩ := r1'
    cases d2 with
    | int i =>
      obtain rfl : y = .int i := r2
      dsimp only at p3
      cases q : h3[n]? with
      | none => rw [q] at p3; exact p3.elim
      | some o =>
        rw [q] at p3
        cases o with
        | lst xs =>
          dsimp only at p3
          split at p3
          · rename_i c
            obtain ⟨vs, ha, rs⟩ := live_l A3.hp q
            have hL : listMax < 2 ^ 62 := by decide
            have hx := hx_lst ha (.lst (vs.take i.toNat ++ [z] ++ vs.drop i.toNat))
            refine ⟨_, vs, i, z, rfl, rfl, ha, by rw [← rs.length]; exact Nat.lt_trans c.2.2 big_lt, c.1, by omega, Post.write A3 p3 q (fun z => nomatch z) hx ⟨_, upd_same, ?_⟩ rfl⟩
            have e4 : xs.take i.toNat ++ d3 :: xs.drop i.toNat = xs.take i.toNat ++ [d3] ++ xs.drop i.toNat := by simp
            rw [e4]
            exact (((rs.take _).append (.cons r3 .nil)).append (rs.drop _)).mono hx (fun _ _ => rfl) (Nat.le_refl _)
          · exact p3.elim
        | _ => exact p3.elim
    | _ => exact p3.elim
  | _ => exact p3.elim
/-! ### dict methods, by values -/
def rDGet (S : Sys) : V → List V → Hp → VK → Prop := fun x vs H Q => ∃ μ L ks ws y z k d, vs = [y, z] ∧ VD S H μ L (.dic ks ws) x ∧ keyFits ks k = true ∧ RD S H μ L k y ∧ RD S H μ L d z ∧
  ∀ H' v, Same H H' → RD S H' μ L ((dget (ks.zip ws) k).getD d) v → Q v H'
theorem mt_dget (hb : Big X) : MtR X "dict.get" (rDGet (sysOf X T)) := by
  intro pins s σ H x xs v us Q I rx rxs h
  obtain ⟨μ, L, ks, ws, y, z, k, d, rfl, hv, hk, ry, rz, q⟩ := h
  obtain ⟨a, rfl, l, da⟩ := da_of_vd hv
  obtain ⟨u1, u2, rfl, r1, r2⟩ := rxs.two
  obtain rfl : v = Value.ref a := rx
  exact da_getOr hb I (fun _ h => h) da (by rw [kf_zip l]; exact hk) ry r1 ⟨z, r2, rz⟩ fun w s' I' ⟨v', e1, e2⟩ => ⟨v', H, I', e1, q H v' (same_refl H) e2⟩
theorem w_get {o k d : E} {σ : L2.St} {H : Hp} {Q : VK} (hh : tE X T W C (.get o k d) σ H Q) : tMG (tyD (sysOf X T)) (rDGet (sysOf X T)) (tE X T W C o) (tCons (tE X T W C k) (tCons (tE X T W C d) tNil)) σ H Q := by
  obtain ⟨μ, h, ρ, A, p⟩ := hh
  rw [evE] at p
  refine step A p fun x H1 μ1 h1 dd e1 A1 r1 p1 => ?_
  obtain ⟨hb, p1⟩ := need_tt p1
  refine ⟨isDic_ty A1.hp r1 hb, step A1 p1 fun y H2 μ2 h2 d2 e2 A2 r2 p2 => step A2 p2 fun z H3 μ3 h3 d3 e3 A3 r3 p3 => ?_⟩
  have vd := vw_ok A3.hp ((r1.ext e2).ext e3)
  cases q : vw h3 dd with
  | dic ks vs =>
    rw [q] at p3 vd
    dsimp only at p3
    split at p3
    · rename_i c
      exact ⟨μ3, h3.length, ks, vs, y, z, d2, d3, rfl, vd, c, r2.ext e3, r3, fun H' v sm r => Post.done A3 p3 sm r⟩
    · exact p3.elim
  | _ => rw [q] at p3; exact p3.elim
/-- a live dict of mine -/
theorem live_d {S : Sys} {μ : Nat → Addr} {h : MH} {H : Hp} (s : SimH S μ h H) {n : Nat} {kvs : List (D × D)} (q : h[n]? = some (.dic kvs)) : DA S H μ h.length (μ n) kvs (Live H (μ n)) := da_of_os (s.obj n _ q)
/-- what a write at a dict asks -/
def rDPut (S : Sys) (x : V) (y z : V) (H : Hp) (Q : V → Hp → Prop) : Prop := ∃ μ L a kvs k d, x = .ref a ∧ DA S H μ L a kvs (Live H a) ∧ kf kvs k = true ∧ RD S H μ L k y ∧ RD S H μ L d z ∧ kvs.length < listMax ∧
  (∀ o', DA S (upd H a o') μ L a (dput kvs k d) (Live (upd H a o') a) → Q .non (upd H a o'))
theorem put_dict (hb : Big X) : PSet X (fun o i v H Q => rDPut (sysOf X T) o i v H fun _ H' => Q H') := by
  intro pins s σ H o i v ov iv u Q I ro ri rv h
  obtain ⟨μ, L, a, kvs, k, d, rfl, da, hk, ry, rz, hz, q⟩ := h
  obtain rfl : ov = Value.ref a := ro
  exact da_set hb I da hk ry ri ⟨v, rv, rz⟩ hz fun o' s' I' da' => ⟨_, I', q o' da'⟩
def rDSetd (S : Sys) : V → List V → Hp → VK → Prop := fun x vs H Q => ∃ μ L a kvs k d y z, vs = [y, z] ∧ x = .ref a ∧ DA S H μ L a kvs (Live H a) ∧ kf kvs k = true ∧ RD S H μ L k y ∧ RD S H μ L d z ∧ kvs.length < listMax ∧
  (∀ w v, dget kvs k = some w → RD S H μ L w v → Q v H) ∧ (dget kvs k = none → ∀ o', DA S (upd H a o') μ L a (kvs ++ [(k, d)]) (Live (upd H a o') a) → Q z (upd H a o'))
theorem mt_dsetd (hb : Big X) : MtR X "dict.setdefault" (rDSetd (sysOf X T)) := by
  intro pins s σ H x xs v us Q I rx rxs h
  obtain ⟨μ, L, a, kvs, k, d, y, z, rfl, rfl, da, hk, ry, rz, hz, q1, q2⟩ := h
  obtain ⟨u1, u2, rfl, r1, r2⟩ := rxs.two
  obtain rfl : v = Value.ref a := rx
  exact da_setd hb I da hk ry r1 ⟨z, r2, rz⟩ hz (fun w u s' e I' ⟨v', e1, e2⟩ => ⟨v', H, I', e1, q1 w v' e e2⟩) fun e o' s' I' da' => ⟨z, _, I', r2, q2 e o' da'⟩
theorem w_setd {o k d : E} {σ : L2.St} {H : Hp} {Q : VK} (hh : tE X T W C (.setdefault o k d) σ H Q) : tMG (tyD (sysOf X T)) (rDSetd (sysOf X T)) (tE X T W C o) (tCons (tE X T W C k) (tCons (tE X T W C d) tNil)) σ H Q := by
  obtain ⟨μ, h, ρ, A, p⟩ := hh
  rw [evE] at p
  refine step A p fun x H1 μ1 h1 dd e1 A1 r1 p1 => ?_
  obtain ⟨hb, p1⟩ := need_tt p1
  refine ⟨isDic_ty A1.hp r1 hb, step A1 p1 fun y H2 μ2 h2 d2 e2 A2 r2 p2 => step A2 p2 fun z H3 μ3 h3 d3 e3 A3 r3 p3 => ?_⟩
  have r1' := (r1.ext e2).ext e3
  cases dd with
  | ref n =>
    obtain ⟨hn, rfl⟩ := r1'
    dsimp only at p3
    cases q : h3[n]? with
    | none => rw [q] at p3; exact p3.elim
    | some o =>
      rw [q] at p3
      cases o with
      | dic kvs =>
        dsimp only at p3
        split at p3
        · rename_i c
          have da := live_d A3.hp q
          have lv := da_live (T := T) da
          refine ⟨μ3, h3.length, _, kvs, d2, d3, y, z, rfl, rfl, da, c.1, r2.ext e3, r3, c.2, fun w v e r => ?_, fun e o' da' => ?_⟩
          · rw [e] at p3; exact Post.done A3 p3 (same_refl H3) r
          · rw [e] at p3
            exact Post.write A3 p3 q (fun z => nomatch z) (lv.2 o') (os_of_da da') (r3.mono (lv.2 o') (fun _ _ => rfl) (Nat.le_refl _))
        · exact p3.elim
      | _ => exact p3.elim
  | _ => exact p3.elim
/-! ### isinstance, calls -/
theorem w_isa {t : Ty} {a : E} {σ : L2.St} {H : Hp} {Q : VK} (hh : tE X T W C (.isa t a) σ H Q) :
    tCB (fun vs H Q => ∃ (μ : Nat → Addr) (L : Nat) (d : D) (v : V) (k : Bool), vs = [v, .ty (tyName t)] ∧ VD (sysOf X T) H μ L d v ∧ opIsa t d = some k ∧ Q (.bl k) H) (tCons (tE X T W C a) (tCons (tC (.ty (tyName t))) tNil)) σ H Q := by
  obtain ⟨μ, h, ρ, A, p⟩ := hh
  rw [evE] at p
  refine step A p fun x H1 μ1 h1 d e1 A1 r1 p1 => ?_
  cases q : opIsa t (vw h1 d) with
  | none => rw [q] at p1; exact p1.elim
  | some k => rw [q] at p1; exact ⟨μ1, h1.length, _, x, k, rfl, vw_ok A1.hp r1, q, Post.done A1 p1 (same_refl H1) rfl⟩
/-- what a call promises -/
def spC (S : Sys) (C : Cal) (f : Nat) : Sp := fun vs H Q E => ∃ μ h ds, SimH S μ h H ∧ RDs S H μ h.length ds vs ∧ Post S (RD S) (fun c d _ H => E c d H) [] μ h H (C f ds h) Q
theorem w_call {f : Nat} {es : Es} {σ : L2.St} {H : Hp} {Q : VK} (hh : tE X T W C (.call f es) σ H Q) : tCallS (spC (sysOf X T) C f) (WE W) (tEs X T W C es) σ H Q := by
  obtain ⟨μ, h, ρ, A, p⟩ := hh
  rw [evE] at p
  refine step A p fun xs H1 μ1 h1 ds e1 A1 r1 p1 => ⟨μ1, h1, ds, A1.hp, r1, ?_⟩
  cases q : C f ds h1 with
  | ok a h' => rw [q] at p1; exact p1
  | exc c pl h' => rw [q] at p1; exact p1
  | bad => rw [q] at p1; exact p1
/-! ### new dicts -/
theorem w_dnil {σ : L2.St} {H : Hp} {Q : VK} (hh : tDL X T W C .nil σ H Q) : tDNewK σ H Q := by
  obtain ⟨μ, h, ρ, A, p⟩ := hh
  rw [evDL] at p
  intro a ha
  refine Post.done A p (same_upd ha) ⟨a, rfl, .leaf [] upd_same rfl RDs.nil, fr_of A.hp ha, ha⟩
theorem da_leafs {S : Sys} {H : Hp} {μ : Nat → Addr} {L : Nat} {a : Addr} {kvs : List (D × D)} {rd : HO → Prop} (h : DA S H μ L a kvs rd) (hk : (kvs.map (·.1)).all (fun k => !k.isTup) = true) (ne : kvs ≠ []) : ∃ ps : List (Key × V), rd (.dK ps) ∧ kvs.map (·.1) = ps.map (fun p => leafD p.1) ∧ RDs S H μ L (kvs.map (·.2)) (ps.map (·.2)) := by
  cases h with
  | leaf ps h e r => exact ⟨ps, h, e, r⟩
  | tup xs us h e0 e r r2 r3 =>
    exfalso
    cases kvs with
    | nil => exact ne rfl
    | cons p t =>
      obtain ⟨v, ws, e1, r1, _⟩ := (show RDs S H μ L (p.1 :: t.map (·.1)) _ from r)
      cases xs with
      | nil => simp at e1
      | cons x xs =>
        rw [List.map_cons] at e1
        injection e1 with e2 _
        subst e2
        simp only [List.map_cons, List.all_cons, Bool.and_eq_true] at e0 hk
        have k1 := kOk_key e0.1
        cases hp : p.1 with
        | tup _ => rw [hp] at hk; simp [D.isTup] at hk
        | non => rw [hp] at r1; cases (show V.ref _ = V.non from r1)
        | int _ => rw [hp] at r1; cases (show V.ref _ = V.int _ from r1)
        | str _ => rw [hp] at r1; cases (show V.ref _ = V.str _ from r1)
        | _ => rw [hp] at k1; simp [D.isKey] at k1
end
end GM
end
section
set_option Elab.async false
set_option linter.all false
set_option maxRecDepth 100000
namespace GM
open PySem PySem.Spec PyProof.Rows L2

section
variable {X : Cx} {T : Tab} {W : WX} {C : Cal}
/-! ### dict(d) -/
def rDOf (S : Sys) : List V → Hp → VK → Prop := fun vs H Q => ∃ μ L ks ws v, vs = [v] ∧ VD S H μ L (.dic ks ws) v ∧ ks.all (fun k => kOk k && k != .non && !k.isTup) = true ∧ ∀ p o', H p = none → DA S (upd H p o') μ L p (ks.zip ws) (Live (upd H p o') p) → Q (.ref p) (upd H p o')
theorem leaf_fits {ks : List D} (h : ks.all (fun k => kOk k && k != .non && !k.isTup) = true) : keyFits ks (leafD (.inl 0)) = true := by
  have e : kOk (leafD (.inl 0)) = true := by decide
  have e2 : (leafD (.inl 0) != D.non) = true := by decide
  unfold keyFits
  rw [e, e2]
  simp only [Bool.true_and, List.all_eq_true] at h ⊢
  intro k hk
  have z := h k hk
  simp only [Bool.and_eq_true] at z
  have : k.isTup = false := by simpa using z.2
  rw [this]; rfl
theorem b_dict : CallR X (.type "dict") (rDOf (sysOf X T)) := by
  intro pins s σ H xs us Q I r h
  obtain ⟨μ, L, ks, ws, v, rfl, hv, hk, q⟩ := h
  obtain ⟨a, rfl, l, da⟩ := da_of_vd hv
  rw [Vals.ref1 r]
  obtain ⟨hd, vs, dd, pl, hl⟩ := da_leaf I (fun _ h => h) da (k := .inl 0) (by rw [kf_zip l]; exact leaf_fits hk)
  refine kt_call_dict hd dd hl fun h' dd' hs => ?_
  obtain ⟨ps, kv, e1, e2⟩ := ofPL pl
  have hp : H s.heap.objs.size = none := I.hok.fresh (Nat.le_refl _)
  refine ⟨.ref s.heap.objs.size, upd H s.heap.objs.size (.dK ps), I.laid (a := s.heap.objs.size) (o := .dK ps) (t' := s.toks) (fun b q hq => ?_) (Nat.le_refl _) (dk_new (by rw [kv.length]; exact hl) (beq_eq_false_iff_ne.mpr (Ne.symm (Nat.ne_of_lt I.big))) kv dd'), rfl, q _ _ hp (.leaf ps upd_same e1 (mono_upd hp e2))⟩
  exact (hs.2 b (Nat.ne_of_lt (Heap.lt_size hq))).trans (Heap.get?_push_of_some _ hq)
theorem w_dof {e : E} {σ : L2.St} {H : Hp} {Q : VK} (hh : tDL X T W C (.ofs e) σ H Q) : tCB (rDOf (sysOf X T)) (tCons (tE X T W C e) tNil) σ H Q := by
  obtain ⟨μ, h, ρ, A, p⟩ := hh
  rw [evDL] at p
  refine step A p fun x H1 μ1 h1 d e1 A1 r1 p1 => ?_
  have vd := vw_ok A1.hp r1
  cases q : vw h1 d with
  | dic ks ws =>
    rw [q] at p1 vd
    dsimp only at p1
    split at p1
    · rename_i c
      refine ⟨μ1, h1.length, ks, ws, x, rfl, vd, c, fun a o' ha da => Post.done A1 p1 (same_upd ha) ⟨a, rfl, da, fr_of A1.hp ha, Classical.byContradiction fun c => e1.kp a c ha⟩⟩
    · exact p1.elim
  | _ => rw [q] at p1; exact p1.elim

/-! ### what a loop walks -/
def RIt (S : Sys) : RlT (List D × Option (Nat × List D)) L2.It := fun H μ L p J => ∀ μ2 h2 H2, HX H H2 → (∀ n, n < L → μ2 n = μ n) → L ≤ h2.length → SimH S μ2 h2 H2 → srcOk p.2 h2 →
  ∀ i, (∀ d, p.1[i]? = some d → J.go i H2 ∧ ∀ x H3, J.yld i H2 x H3 → Same H2 H3 ∧ RD S H3 μ2 h2.length d x) ∧ (p.1.length ≤ i → J.stop i H2)
abbrev tIt (X : Cx) (T : Tab) (W : WX) (C : Cal) (i : It) : TI := TM (sysOf X T) (RIt (sysOf X T)) W (evIt C i)
def CI (X : Cx) (tg : Expr) (r : V → (L2.It → Hp → Prop) → Hp → Prop) : Prop := ∀ (pins : List (Addr × Obj)) (s : Shared) (σ : L2.St) (H : Hp) (x : V) (u : Value) (R : L2.It → Hp → Prop), Inv X pins σ H s → RelV x u → r x R H →
  wpAny (model X.prog X.w) X.A (pyIter u) (PIE X pins σ tg R) X.xe s
theorem pi_ci {tg e : Expr} {te : TE} {r : V → (L2.It → Hp → Prop) → Hp → Prop} (h : CI X tg r) (he : PE X e te) : PI X tg e (fun σ H R => te σ H fun x H1 => r x R H1) :=
  ⟨fun pins s σ H R I q => thn (he.run pins s σ H _ I q) fun u s1 ⟨x, H1, I1, rx, q1⟩ => h pins s1 σ H1 x u R I1 rx q1⟩
/-- a dict's keys as they stand -/
def Itx (d : Addr) (o : Obj) (xs : List V) : L2.It := ⟨fun i H => (∃ u, H d = some (.frz o u)) ∧ i < xs.length, fun i H x H' => H' = H ∧ xs[i]? = some x, fun i H => (∃ u, H d = some (.frz o u)) ∧ xs.length ≤ i⟩
theorem turn_raw {P : Program} {w : World} {K : PySem.W.Frag} {tg : Expr} {d : Addr} {o : Obj} {es : Array DictEntry} {ep : Nat} {xs : List V} (it : Addr) (hod : o.data = .dict es ep) (rv : Vals xs (es.toList.map (·.key))) : Turn P w K tg (Itx d o xs) [it] it (fun i h => h.IsKeyIter it d i es.size ep) where
  mem := by simp
  obj := fun i h st b hb => by
    have e : b = it := by simpa using hb
    subst e
    obtain ⟨oi, e, c, dd⟩ := st
    exact ⟨oi, e, fun v z => by rw [dd] at z; cases z⟩
  keep := fun i h h' st k => st.at fun oi e => k it (by simp) oi e
  item := by
    intro X hP hw hK hc i pins s σ H E I hf st hg
    subst hP hw hK
    obtain ⟨⟨u, hd⟩, hi⟩ := hg
    obtain ⟨f0, f1, f2, f3, f4, f5⟩ := hf it (by simp)
    obtain ⟨hgd, _⟩ := (show ObjOk X.prog X.w H s.heap d (.frz o u) from I.hok d _ hd)
    have hx : xs[i]? = some xs[i] := List.getElem?_eq_getElem hi
    obtain ⟨k, hk, rk⟩ := rv.get hx
    rw [List.getElem?_map, Array.getElem?_toList] at hk
    obtain ⟨en, hen, rfl⟩ := Option.map_eq_some_iff.mp hk
    refine next_key_item st hgd hod rfl hen fun h' st' sb => ?_
    have I1 : Inv X pins σ H { s with heap := h' } := I.turned (t' := s.toks) (fun b ob hb e => (sb.2 b hb).trans e) f0 f1 f3 f4 f5
    obtain ⟨oi, e, c, dd⟩ := id st'
    exact ⟨en.key, rfl, go_of (s := { s with heap := h' }) e c dd (by decide) ⟨xs[i], H, I1, rk, ⟨rfl, hx⟩, st', fun b hb => (hf b hb).1⟩⟩
  done := by
    intro X hP hw hK hc i pins s σ H E I hf st hg
    subst hP hw hK
    obtain ⟨⟨u, hd⟩, hi⟩ := hg
    obtain ⟨f0, f1, f2, f3, f4, f5⟩ := hf it (by simp)
    obtain ⟨hgd, _⟩ := (show ObjOk X.prog X.w H s.heap d (.frz o u) from I.hok d _ hd)
    have l : xs.length = es.size := by rw [rv.length, List.length_map, Array.length_toList]
    exact next_key_end (I.ok.hd hc) st hgd hod rfl (by omega) fun h' eb => ⟨rfl, I.turned (t' := s.toks) (fun b ob hb e => eb b ob hb e) f0 f1 f3 f4 f5⟩
  self := fun A i s Q E st h => by
    refine wpAny_pyIter_slot st.typeIs PySem.F.slot_dict_keyiterator_iter (wpAny_call_entry PySem.F.slot_dict_keyiterator_iter st.typeIs PySem.F.entry_dict_keyiterator_iter ?_ (PySem.F.args_dict_keyiterator_iter_1 _))
    show wpAny _ _ (ret (.ref it)) _ _ s
    exact wpAny_pure ⟨_, rfl, "dict_keyiterator", _, st.typeIs, PySem.F.slot_dict_keyiterator_next.lookup, h⟩
/-- the value is walked -/
def rWalk (S : Sys) : V → (L2.It → Hp → Prop) → Hp → Prop := fun x R H => ∃ μ h d p, SimH S μ h H ∧ RD S H μ h.length d x ∧ itemsOf h d = some p ∧ ∀ J, RIt S H μ h.length p J → R J H
theorem ci_walk {tg : Expr} : CI X tg (rWalk (sysOf X T)) := by
  intro pins s σ H x u R I rx h
  obtain ⟨μ, h, d, p, sm, rd, hp, q⟩ := h
  have isl : ∀ {a : Addr} {xs : List V} {R : L2.It → Hp → Prop}, SqL X.K H a xs → R (Itl X.K a) H → wpAny (model X.prog X.w) X.A (pyIter (.ref a)) (PIE X pins σ tg R) X.xe s := fun {a xs R} hq q => by
    obtain ⟨its, rv, p, hz⟩ := I.list hq
    refine wpAny_pyIter_list p.isList ?_
    refine ⟨s.heap.objs.size, [s.heap.objs.size], _, _, H, rfl, I.kept (t' := s.toks) fun b o e => Heap.get?_push_of_some _ e, turn_list a _, ⟨_, Heap.get?_push_size _ rfl, rfl, rfl⟩, fun b hb => ?_, q⟩
    have e : b = s.heap.objs.size := by simpa using hb
    subst e
    exact I.fpOk (Nat.le_refl _) (I.hok.fresh (Nat.le_refl _))
  cases d with
  | lst ds =>
    obtain rfl := Option.some.inj (show some (ds, none) = some p from hp)
    obtain ⟨a, vs, rfl, fz, rs⟩ := rd
    obtain rfl : u = Value.ref a := rx
    refine isl fz.sq (q _ fun μ2 h2 H2 hx hm hl s2 _ i => ⟨fun d hd => ?_, fun hi => ⟨vs, (fz.mono hx).sq, by rw [← rs.length]; exact hi⟩⟩)
    obtain ⟨v, hv, r⟩ := rs.get hd
    refine ⟨⟨vs, v, (fz.mono hx).sq, hv⟩, fun x H3 y => ?_⟩
    obtain ⟨rfl, y⟩ := y
    have := y vs (fz.mono hx).sq
    rw [hv] at this
    obtain rfl := Option.some.inj this
    exact ⟨same_refl _, r.mono hx hm hl⟩
  | tup ds =>
    obtain rfl := Option.some.inj (show some (ds, none) = some p from hp)
    obtain ⟨a, vs, rfl, hq, rs⟩ := rd
    obtain rfl : u = Value.ref a := rx
    obtain ⟨its, rv, pp, hz⟩ := I.tuple hq
    refine wpAny_pyIter_tuple (show s.heap.IsTuple a its.toArray from pp) ?_
    refine ⟨s.heap.objs.size, [s.heap.objs.size], _, _, H, rfl, I.kept (t' := s.toks) fun b o e => Heap.get?_push_of_some _ e, turn_tuple a _, ⟨_, Heap.get?_push_size _ rfl, rfl, rfl⟩, fun b hb => ?_, q _ fun μ2 h2 H2 hx hm hl s2 _ i => ⟨fun d hd => ?_, fun hi => ⟨vs, sqT_mono hx hq, by rw [← rs.length]; exact hi⟩⟩⟩
    · have e : b = s.heap.objs.size := by simpa using hb
      subst e
      exact I.fpOk (Nat.le_refl _) (I.hok.fresh (Nat.le_refl _))
    · obtain ⟨v, hv, r⟩ := rs.get hd
      refine ⟨⟨vs, v, sqT_mono hx hq, hv⟩, fun x H3 y => ?_⟩
      obtain ⟨rfl, y⟩ := y
      have := y vs (sqT_mono hx hq)
      rw [hv] at this
      obtain rfl := Option.some.inj this
      exact ⟨same_refl _, r.mono hx hm hl⟩
  | str z =>
    obtain rfl := Option.some.inj (show some (z.cps.toList.map (fun c => D.str ⟨#[c]⟩), none) = some p from hp)
    obtain rfl : x = .str z := rd
    obtain ⟨t, rfl⟩ := rx
    have key : RIt (sysOf X T) H μ h.length (z.cps.toList.map (fun c => D.str ⟨#[c]⟩), none) (Its z) := fun μ2 h2 H2 hx hm hl s2 _ i => by
      refine ⟨fun d hd => ?_, fun hi => by rw [List.length_map, Array.length_toList] at hi; exact hi⟩
      rw [List.getElem?_map, Array.getElem?_toList] at hd
      obtain ⟨c, hc, rfl⟩ := Option.map_eq_some_iff.mp hd
      refine ⟨(Array.getElem?_eq_some_iff.mp hc).1, fun x H3 y => ?_⟩
      obtain ⟨rfl, c', hc', rfl⟩ := y
      rw [hc] at hc'
      obtain rfl := Option.some.inj hc'
      exact ⟨same_refl _, rfl⟩
    cases ha : z.cps.all (· < 128)
    · exact wpAny_pyIter_wide ha (pi_one (tk := s.toks) I _ (turn_str _ z t "str_iterator" (.inr rfl)) ⟨_, Heap.get?_push_size _ rfl, rfl, rfl⟩ (q _ key))
    · exact wpAny_pyIter_ascii ha (pi_one (tk := s.toks) I _ (turn_str _ z t "str_ascii_iterator" (.inl rfl)) ⟨_, Heap.get?_push_size _ rfl, rfl, rfl⟩ (q _ key))
  | dic ks ws =>
    obtain rfl := Option.some.inj (show some (ks, none) = some p from hp)
    obtain ⟨a, rfl, l, da⟩ := da_of_vd (RD.vd rd)
    obtain rfl : u = Value.ref a := rx
    have fz : ∃ o u', H a = some (.frz o u') := by
      obtain ⟨a', o, e, h⟩ := rd
      cases e
      rcases h with ⟨kvs, h, _⟩ | ⟨xs, us, h, _⟩
      · exact ⟨o, _, h⟩
      · exact ⟨o, _, h⟩
    obtain ⟨o, u', hf⟩ := fz
    obtain ⟨hd, es, ep, vs, ⟨o', ho', hx', hdat⟩, hz, rs, rv⟩ := da_raw I (fun _ h => h) da
    rw [(unzip_l ks ws l).1] at rs
    obtain ⟨hgd, _⟩ := (show ObjOk X.prog X.w H s.heap a (.frz o u') from I.hok a _ hf)
    rw [hgd] at ho'
    obtain rfl := Option.some.inj ho'
    refine iter_keys hd hgd hx' hdat (pi_one (tk := s.toks) I _ (turn_raw _ hdat rv) ⟨_, Heap.get?_push_size _ rfl, rfl, rfl⟩ (q _ fun μ2 h2 H2 hx hm hl s2 _ i => ⟨fun d hd => ?_, fun hi => ⟨⟨u', hx.frz _ _ _ hf⟩, by rw [← rs.length]; exact hi⟩⟩))
    obtain ⟨v, hv, r⟩ := rs.get hd
    refine ⟨⟨⟨u', hx.frz _ _ _ hf⟩, (List.getElem?_eq_some_iff.mp hv).1⟩, fun x H3 y => ?_⟩
    obtain ⟨rfl, y⟩ := y
    rw [hv] at y
    obtain rfl := Option.some.inj y
    exact ⟨same_refl _, r.mono hx hm hl⟩
  | ref n =>
    obtain ⟨hn, rfl⟩ := rd
    obtain rfl : u = Value.ref (μ n) := rx
    have hp' : (match h[n]? with | some (.lst xs) => some (xs, some (n, xs)) | _ => none) = some p := hp
    cases hq : h[n]? with
    | none => rw [hq] at hp'; cases hp'
    | some o =>
      rw [hq] at hp'
      cases o with
      | lst xs =>
        obtain rfl := Option.some.inj hp'
        obtain ⟨vs, ha, rs⟩ := live_l sm hq
        refine isl (.of ha) (q _ fun μ2 h2 H2 hx hm hl s2 so i => ?_)
        obtain ⟨vs2, ha2, rs2⟩ := live_l s2 (show h2[n]? = some (.lst xs) from so)
        rw [hm n hn] at ha2
        refine ⟨fun d hd => ?_, fun hi => ⟨vs2, .of ha2, by rw [← rs2.length]; exact hi⟩⟩
        obtain ⟨v, hv, r⟩ := rs2.get hd
        refine ⟨⟨vs2, v, .of ha2, hv⟩, fun x H3 y => ?_⟩
        obtain ⟨rfl, y⟩ := y
        have := y vs2 (.of ha2)
        rw [hv] at this
        obtain rfl := Option.some.inj this
        exact ⟨same_refl _, r⟩
      | _ => cases hp'
  | _ => cases hp
theorem w_seq {e : E} {σ : L2.St} {H : Hp} {R : L2.It → Hp → Prop} (hh : tIt X T W C (.seq e) σ H R) : tE X T W C e σ H fun x H1 => rWalk (sysOf X T) x R H1 := by
  obtain ⟨μ, h, ρ, A, p⟩ := hh
  rw [evIt] at p
  refine step A p fun x H1 μ1 h1 d e1 A1 r1 p1 => ?_
  cases q : itemsOf h1 d with
  | none => rw [q] at p1; exact p1.elim
  | some z => rw [q] at p1; exact ⟨μ1, h1, d, z, A1.hp, r1, q, fun J rj => Post.done A1 p1 (same_refl H1) rj⟩
theorem rit_range {S : Sys} {H : Hp} {μ : Nat → Addr} {L : Nat} (lo : Int) (n : Nat) : RIt S H μ L ((List.range n).map fun (k : Nat) => D.int (lo + k), none) (Itr lo n) := fun μ2 h2 H2 hx hm hl s2 _ i => by
  refine ⟨fun d hd => ?_, fun hi => by rw [List.length_map, List.length_range] at hi; exact hi⟩
  rw [List.getElem?_map] at hd
  obtain ⟨k, hk, rfl⟩ := Option.map_eq_some_iff.mp hd
  obtain ⟨hlt, e⟩ := List.getElem?_eq_some_iff.mp hk
  rw [List.length_range] at hlt
  rw [List.getElem_range] at e
  subst e
  refine ⟨hlt, fun x H3 y => ?_⟩
  obtain ⟨rfl, rfl⟩ := y
  exact ⟨same_refl _, rfl⟩
theorem w_range1 {e : E} {σ : L2.St} {H : Hp} {R : L2.It → Hp → Prop} (hh : tIt X T W C (.range1 e) σ H R) : iRng1 (tCons (tE X T W C e) tNil) σ H R := by
  obtain ⟨μ, h, ρ, A, p⟩ := hh
  rw [evIt] at p
  refine step A p fun x H1 μ1 h1 d e1 A1 r1 p1 => ?_
  cases d with
  | int j =>
    obtain rfl : x = .int j := r1
    dsimp only at p1
    split at p1
    · rename_i c
      refine ⟨j, rfl, c.2, c.1, Post.done A1 p1 (same_refl H1) ?_⟩
      have := rit_range (S := sysOf X T) (H := H1) (μ := μ1) (L := h1.length) 0 j.toNat
      simpa using this
    · exact p1.elim
  | _ => exact p1.elim
theorem w_range2 {a b : E} {σ : L2.St} {H : Hp} {R : L2.It → Hp → Prop} (hh : tIt X T W C (.range2 a b) σ H R) : iRng2 (tCons (tE X T W C a) (tCons (tE X T W C b) tNil)) σ H R := by
  obtain ⟨μ, h, ρ, A, p⟩ := hh
  rw [evIt] at p
  refine step A p fun x H1 μ1 h1 d e1 A1 r1 p1 => step A1 p1 fun y H2 μ2 h2 d2 e2 A2 r2 p2 => ?_
  cases d with
  | int i =>
    cases d2 with
    | int j =>
      obtain rfl : x = .int i := r1
      obtain rfl : y = .int j := r2
      dsimp only at p2
      split at p2
      · rename_i c
        exact ⟨i, j, rfl, ⟨c.2.2, c.2.1, c.1.2, c.1.1⟩, Post.done A2 p2 (same_refl H2) (rit_range i _)⟩
      · exact p2.elim
    | _ => exact p2.elim
  | _ => exact p2.elim
theorem w_enum {e : E} {σ : L2.St} {H : Hp} {R : L2.It → Hp → Prop} (hh : tIt X T W C (.enum e) σ H R) : iEnum X.K (tCons (tE X T W C e) tNil) σ H R := by
  obtain ⟨μ, h, ρ, A, p⟩ := hh
  rw [evIt] at p
  refine step A p fun x H1 μ1 h1 d e1 A1 r1 p1 => ?_
  cases d with
  | lst xs =>
    obtain ⟨a, vs, rfl, fz, rs⟩ := r1
    refine ⟨a, vs, rfl, fz.sq, Post.done A1 p1 (same_refl H1) fun μ2 h2 H2 hx hm hl s2 _ i => ⟨fun d hd => ?_, fun hi => ⟨vs, (fz.mono hx).sq, by rw [List.length_map, List.length_zipIdx] at hi; rw [← rs.length]; exact hi⟩⟩⟩
    rw [List.getElem?_map] at hd
    obtain ⟨⟨y, j⟩, hj, rfl⟩ := Option.map_eq_some_iff.mp hd
    rw [List.getElem?_zipIdx] at hj
    obtain ⟨z, hz, ez⟩ := Option.map_eq_some_iff.mp hj
    injection ez with ez1 ez2
    subst ez1 ez2
    obtain ⟨v, hv, r⟩ := rs.get hz
    refine ⟨⟨vs, v, (fz.mono hx).sq, hv⟩, fun x H3 y => ?_⟩
    obtain ⟨T', w, rfl, hT, rfl, hw⟩ := y
    have := hw vs (fz.mono hx).sq
    rw [hv] at this
    obtain rfl := Option.some.inj this
    refine ⟨same_upd hT, T', _, rfl, .of upd_same, .cons ?_ (.cons ((r.mono hx hm hl).mono (.of (same_upd hT)) (fun _ _ => rfl) (Nat.le_refl _)) .nil)⟩
    show V.int _ = V.int _
    congr 1
    omega
  | _ => exact p1.elim
/-- what a walked sequence is, that never changes -/
def FzK (S : Sys) (b : Bool) (H : Hp) (a : Addr) (vs : List V) : Prop := match b with
  | true => Fz S H a vs
  | false => SqT S.K H a vs
theorem FzK.sq {S : Sys} {b : Bool} {H : Hp} {a : Addr} {vs : List V} (h : FzK S b H a vs) : SqK b S.K H a vs := by
  cases b
  · exact h
  · exact Fz.sq h
theorem FzK.mono {S : Sys} {b : Bool} {H H' : Hp} {a : Addr} {vs : List V} (h : FzK S b H a vs) (x : HX H H') : FzK S b H' a vs := by
  cases b
  · exact sqT_mono x h
  · exact Fz.mono x h
theorem fzK_of {S : Sys} {H : Hp} {μ : Nat → Addr} {L : Nat} {d : D} {v : V} {xs : List D} (r : RD S H μ L d v) (h : seqO d = some xs) : ∃ b a vs, v = .ref a ∧ FzK S b H a vs ∧ RDs S H μ L xs vs := by
  cases d with
  | lst ys =>
    obtain rfl := Option.some.inj h
    obtain ⟨a, vs, e, f, rs⟩ := r
    exact ⟨true, a, vs, e, f, rs⟩
  | tup ys =>
    obtain rfl := Option.some.inj h
    obtain ⟨a, vs, e, f, rs⟩ := r
    exact ⟨false, a, vs, e, f, rs⟩
  | _ => cases h
theorem w_zip {a b : E} {σ : L2.St} {H : Hp} {R : L2.It → Hp → Prop} (hh : tIt X T W C (.zip a b) σ H R) : iZipK X.K (tCons (tE X T W C a) (tCons (tE X T W C b) tNil)) σ H R := by
  obtain ⟨μ, h, ρ, A, p⟩ := hh
  rw [evIt] at p
  refine step A p fun x H1 μ1 h1 d e1 A1 r1 p1 => step A1 p1 fun y H2 μ2 h2 d2 e2 A2 r2 p2 => ?_
  have r1' := r1.ext e2
  have zz : ∀ {xs ys : List D} {d : D} {i : Nat}, ((xs.zip ys).map fun p => D.tup [p.1, p.2])[i]? = some d → ∃ p q, xs[i]? = some p ∧ ys[i]? = some q ∧ d = .tup [p, q] := fun {xs ys d i} hd => by
    rw [List.getElem?_map] at hd
    obtain ⟨⟨p, q⟩, hp, rfl⟩ := Option.map_eq_some_iff.mp hd
    rw [List.getElem?_zip_eq_some] at hp
    exact ⟨p, q, hp.1, hp.2, rfl⟩
  cases q1 : seqO d with
  | none => rw [q1] at p2; exact p2.elim
  | some xs =>
    cases q2 : seqO d2 with
    | none => rw [q1, q2] at p2; exact p2.elim
    | some ys =>
      rw [q1, q2] at p2
      obtain ⟨b1, a, vs, rfl, fz, rs⟩ := fzK_of r1' q1
      obtain ⟨b2, b, ws, rfl, fz2, rs2⟩ := fzK_of r2 q2
      refine ⟨b1, b2, a, b, vs, ws, rfl, fz.sq, fz2.sq, Post.done A2 p2 (same_refl H2) fun μ2 h2 H2 hx hm hl s2 _ i => ⟨fun d hd => ?_, fun hi => ⟨vs, ws, (fz.mono hx).sq, (fz2.mono hx).sq, ?_⟩⟩⟩
      · obtain ⟨p, q, hp, hq, rfl⟩ := zz hd
        obtain ⟨v, hv, r⟩ := rs.get hp
        obtain ⟨w, hw, r'⟩ := rs2.get hq
        refine ⟨⟨vs, ws, v, w, (fz.mono hx).sq, (fz2.mono hx).sq, hv, hw⟩, fun x H3 y => ?_⟩
        obtain ⟨T', v', w', rfl, hT, rfl, hy1, hy2⟩ := y
        have e1 := hy1 vs (fz.mono hx).sq
        have e2 := hy2 ws (fz2.mono hx).sq
        rw [hv] at e1
        rw [hw] at e2
        obtain rfl := Option.some.inj e1
        obtain rfl := Option.some.inj e2
        exact ⟨same_upd hT, T', _, rfl, .of upd_same, .cons ((r.mono hx hm hl).mono (.of (same_upd hT)) (fun _ _ => rfl) (Nat.le_refl _)) (.cons ((r'.mono hx hm hl).mono (.of (same_upd hT)) (fun _ _ => rfl) (Nat.le_refl _)) .nil)⟩
      · rw [List.length_map, List.length_zip, rs.length, rs2.length] at hi
        omega
end
end GM
end
section
set_option Elab.async false
set_option linter.all false
set_option maxRecDepth 100000
namespace GM
open PySem PySem.Spec PyProof.Rows L2

section
variable {X : Cx} {T : Tab} {W : WX} {C : Cal}
theorem pl_merged {S : Sys} {H : Hp} {μ : Nat → Addr} {L : Nat} {more : List (D × D)} {rs : List (Key × Value)} (h : PL S H μ L more rs) : ∀ {kvs r : List (D × D)} {vs : List (Key × Value)}, PL S H μ L kvs vs → dputs kvs more = some r → PL S H μ L r (merged vs rs) := by
  induction h with
  | nil =>
    intro kvs r vs p e
    rw [dputs] at e
    obtain rfl := Option.some.inj e
    exact p
  | @cons p q ps qs a t ih =>
    intro kvs r vs pl e
    obtain ⟨k, v⟩ := p
    obtain ⟨κ, u⟩ := q
    obtain ⟨rfl, vr⟩ := a
    rw [dputs] at e
    split at e
    · exact ih (pl.put κ vr) e
    · cases e
theorem merged_len : ∀ (rs vs : List (Key × Value)), (merged vs rs).length ≤ vs.length + rs.length
  | [], vs => Nat.le_refl _
  | q :: rs, vs => by
    have h1 := merged_len rs (stored vs q.1 q.2)
    have h2 := stored_len vs q.1 q.2
    show (merged (stored vs q.1 q.2) rs).length ≤ _
    rw [List.length_cons]; omega
def rDUpd (S : Sys) : V → List V → Hp → VK → Prop := fun x vs H Q => ∃ μ L a kvs b ks ws r, x = .ref a ∧ vs = [.ref b] ∧ DA S H μ L a kvs (Live H a) ∧ DA S H μ L b (ks.zip ws) (Rd H b) ∧ ks.length = ws.length ∧ a ≠ b ∧ leafs ks = true ∧ leafs (kvs.map (·.1)) = true ∧
  (ks.zip ws).length + kvs.length < listMax ∧ dputs kvs (ks.zip ws) = some r ∧ ∀ o', DA S (upd H a o') μ L a r (Live (upd H a o') a) → Q .non (upd H a o')
theorem mt_dupd : MtR X "dict.update" (rDUpd (sysOf X T)) := by
  intro pins s σ H x xs v us Q I rx rxs h
  obtain ⟨μ, L, a, kvs, b, ks, ws, r, rfl, rfl, da, db, l, ne, lk, lk2, hz, hr, q⟩ := h
  obtain ⟨u1, rfl, r1⟩ := rxs.one
  obtain rfl : v = Value.ref a := rx
  obtain rfl : u1 = Value.ref b := r1
  obtain ⟨hd, vs, dd, pl, hl⟩ := da_leaf I live_rd da (k := .inl 0) (leaf_fits lk2)
  obtain ⟨hd2, vs2, dd2, pl2, hl2⟩ := da_leaf I (fun _ h => h) db (k := .inl 0) (by rw [kf_zip l]; exact leaf_fits lk)
  have z1 : kvs.length = vs.length := Paired.length pl
  have z2 : (ks.zip ws).length = vs2.length := Paired.length pl2
  have big : listMax < sizeLine := big_lt
  refine call_meetsIn PySem.F.slot_dict_update dd.typeIs PySem.F.entry_dict_update (PySem.F.args_dict_update_2 _ _) (meets_dict_update (mixKind X.prog X.w) a b ne hd2) ⟨vs, vs2, dd, dd2, by omega, fun h' dd' _ hs => ?_⟩
  have ml := merged_len vs2 vs
  obtain ⟨o', I', D'⟩ := da_write_leaf (t' := s.toks) I (da_live da) (pl_merged pl2 pl hr) dd' hs hd (by omega)
  exact ⟨.non, _, I', rfl, q o' D'⟩
theorem w_upd {o e : E} {σ : L2.St} {H : Hp} {Q : VK} (hh : tE X T W C (.update o e) σ H Q) : tMG (tyD (sysOf X T)) (rDUpd (sysOf X T)) (tE X T W C o) (tCons (tE X T W C e) tNil) σ H Q := by
  obtain ⟨μ, h, ρ, A, p⟩ := hh
  rw [evE] at p
  refine step A p fun x H1 μ1 h1 d e1 A1 r1 p1 => ?_
  obtain ⟨hb, p1⟩ := need_tt p1
  refine ⟨isDic_ty A1.hp r1 hb, step A1 p1 fun y H2 μ2 h2 d2 e2 A2 r2 p2 => ?_⟩
  have r1' := r1.ext e2
  have vd := vw_ok A2.hp r2
  cases d with
  | ref n =>
    obtain ⟨hn, rfl⟩ := r1'
    cases q2 : vw h2 d2 with
    | dic ks ws =>
      rw [q2] at p2 vd
      dsimp only at p2
      cases q : h2[n]? with
      | none => rw [q] at p2; exact p2.elim
      | some o =>
        rw [q] at p2
        cases o with
        | dic kvs =>
          dsimp only at p2
          split at p2
          · rename_i c
            cases q3 : dputs kvs (ks.zip ws) with
            | none => rw [q3] at p2; exact p2.elim
            | some r =>
              rw [q3] at p2
              have da := live_d A2.hp q
              have lv := da_live (T := T) da
              obtain ⟨b, rfl, l, db⟩ := da_of_vd vd
              have ne : μ2 n ≠ b := by
                intro e
                cases d2 with
                | ref m =>
                  obtain ⟨hm, em⟩ := r2
                  have em' : b = μ2 m := V.ref.inj em
                  cases q4 : h2[m]? with
                  | none => simp only [vw, q4] at q2; cases q2
                  | some o =>
                    cases o with
                    | dic kk => exact c.1 (by rw [A2.hp.inj m n _ _ q4 q (fun z => nomatch z) (fun z => nomatch z) (em'.symm.trans e.symm)])
                    | lst _ => simp only [vw, q4] at q2; cases q2
                    | ins _ _ => simp only [vw, q4] at q2; cases q2
                    | dead => simp only [vw, q4] at q2; cases q2
                | dic ks' ws' =>
                  obtain ⟨a', o, ea, hh⟩ := r2
                  have ea' : b = a' := V.ref.inj ea
                  subst ea' e
                  have fz : ∃ u, H2 (μ2 n) = some (.frz o u) := by
                    rcases hh with ⟨kvs, h, _⟩ | ⟨xs, us, h, _⟩
                    · exact ⟨_, h⟩
                    · exact ⟨_, h⟩
                  obtain ⟨u, fz⟩ := fz
                  rcases da with ⟨ps, h, _, _⟩ | ⟨xs, us, h, _, _, _, _, _⟩
                  · rw [show H2 (μ2 n) = _ from h] at fz; cases fz
                  · rw [show H2 (μ2 n) = _ from h] at fz; cases fz
                | _ => cases q2
              exact ⟨μ2, h2.length, _, kvs, b, ks, ws, r, rfl, rfl, da, db, l, ne, c.2.2.1, c.2.2.2, c.2.1, q3, fun o' da' => Post.write A2 p2 q (fun z => nomatch z) (lv.2 o') (os_of_da da') rfl⟩
          · exact p2.elim
        | _ => exact p2.elim
    | _ => rw [q2] at p2; exact p2.elim
  | _ => exact p2.elim
end
end GM
end
section
set_option Elab.async false
set_option linter.all false
set_option maxRecDepth 100000
namespace GM
open PySem PySem.Spec PyProof.Rows L2

section
variable {S : Sys} {H : Hp} {μ : Nat → Addr} {L : Nat}
theorem wipe_set {σ : L2.St} {i : Nat} {x : Option V} : ∀ {vs : List Nat}, i ∈ vs → wipe (σ.set i x) vs = wipe σ vs
  | [], h => nomatch h
  | v :: vs, h => by
    unfold wipe
    by_cases hv : i ∈ vs
    · rw [wipe_set hv]
    · rcases List.mem_cons.mp h with rfl | h
      · have key : ∀ (vs : List Nat) (σ : L2.St), i ∉ vs → wipe (σ.set i x) vs = (wipe σ vs).set i x := by
          intro vs
          induction vs with
          | nil => intro σ _; rfl
          | cons w ws ih =>
            intro σ hn
            unfold wipe
            rw [ih σ fun m => hn (List.mem_cons_of_mem _ m), List.set_comm _ _ (fun e => hn (by rw [e]; exact List.mem_cons_self))]
        rw [key vs σ hv, List.set_set]
      · exact absurd h hv
theorem wipe_wipe {σ : L2.St} : ∀ {vs ws : List Nat}, (∀ i ∈ vs, i ∈ ws) → wipe (wipe σ vs) ws = wipe σ ws
  | [], _, _ => rfl
  | v :: vs, ws, h => by
    rw [show wipe σ (v :: vs) = (wipe σ vs).set v none from rfl, wipe_set (h v List.mem_cons_self)]
    exact wipe_wipe fun i m => h i (List.mem_cons_of_mem _ m)
theorem wipeE_len (ρ : Env) : ∀ vs, (wipeE ρ vs).length = ρ.length
  | [] => rfl
  | v :: vs => by unfold wipeE; rw [List.length_set, wipeE_len ρ vs]
theorem wipeE_some {ρ : Env} {i : Nat} {x : D} : ∀ {vs : List Nat}, (wipeE ρ vs)[i]? = some (some x) → ρ[i]? = some (some x) ∧ i ∉ vs
  | [], h => ⟨h, by simp⟩
  | v :: vs, h => by
    unfold wipeE at h
    by_cases hi : v = i
    · subst hi
      by_cases hv : v < (wipeE ρ vs).length
      · rw [List.getElem?_set_self hv] at h; cases h
      · rw [List.getElem?_eq_none (by simpa using hv)] at h; cases h
    · rw [List.getElem?_set_ne hi] at h
      obtain ⟨h1, h2⟩ := wipeE_some h
      exact ⟨h1, by simp only [List.mem_cons, not_or]; exact ⟨fun e => hi e.symm, h2⟩⟩
theorem SimE.wipe {ρ : Env} {σ : L2.St} (r : SimE S ρ σ H μ L) (vs : List Nat) : SimE S (wipeE ρ vs) (L2.wipe σ vs) H μ L := by
  refine ⟨by rw [wipeE_len, wipe_length, r.1], fun i d h => ?_⟩
  obtain ⟨h1, h2⟩ := wipeE_some h
  obtain ⟨v, e, q⟩ := r.2 i d h1
  exact ⟨v, by rw [wipe_out h2]; exact e, q⟩
end

/-- a target's reading -/
def gT (S : Sys) (t : Tg) : TG := fun v σ H Q => ∃ μ L ρ d ρ1, SimE S ρ σ H μ L ∧ RD S H μ L d v ∧ asgT t d ρ = some ρ1 ∧ ∀ σ1, SimE S ρ1 σ1 H μ L → (∀ vs, (∀ i ∈ t.slots, i ∈ vs) → wipe σ1 vs = wipe σ vs) → Q σ1 H
def gTs (S : Sys) (ts : Tgs) : TGs := fun vs σ H Q => ∃ μ L ρ ds ρ1, SimE S ρ σ H μ L ∧ RDs S H μ L ds vs ∧ asgT.asgTs ts ds ρ = some ρ1 ∧ ∀ σ1, SimE S ρ1 σ1 H μ L → (∀ vs, (∀ i ∈ ts.slots, i ∈ vs) → wipe σ1 vs = wipe σ vs) → Q σ1 H
def Tgs.len : Tgs → Nat
  | .nil => 0
  | .cons _ ts => ts.len + 1
theorem asgTs_len : ∀ {ts : Tgs} {ds : List D} {ρ ρ1 : Env}, asgT.asgTs ts ds ρ = some ρ1 → ds.length = ts.len
  | .nil, [], _, _, _ => rfl
  | .nil, _ :: _, _, _, h => by simp [asgT.asgTs] at h
  | .cons _ _, [], _, _, h => by simp [asgT.asgTs] at h
  | .cons t ts, d :: ds, ρ, ρ1, h => by
    rw [asgT.asgTs] at h
    cases q : asgT t d ρ with
    | none => rw [q] at h; cases h
    | some ρ' => rw [q] at h; rw [List.length_cons, asgTs_len (ts := ts) (ds := ds) h]; rfl
section
variable {X : Cx} {T : Tab} {W : WX} {C : Cal}
theorem pg_var {i : Nat} {x : Str} {pos : Pos} (hN : X.N.Nodup) (hi : X.N[i]? = some x) (hx : Loc X.env.scope x) (hf : X.fn x = true ∨ X.env.scope.names.lookup x = some .local) : PG X (.Name x pos) (gT (sysOf X T) (.v i)) := by
  refine ⟨fun pins s σ H v u Q I r ⟨μ, L, ρ, d, ρ1, se, rd, ha, q⟩ => (pg_name hN hi hx hf).run pins s σ H v u Q I r ?_⟩
  rw [asgT] at ha
  split at ha
  · obtain rfl := Option.some.inj ha
    exact q _ (se.set rd i) fun vs h => wipe_set (h i (by simp [Tg.slots]))
  · cases ha
theorem pg_tt {ts : Tgs} {es : List Expr} {k : Nat} {pos : Pos} (hc : X.calm = true) (h : PGs X es (gTs (sysOf X T) ts)) (hn : (assignEach es X.env).length = ts.len) (hst : (assignEach es X.env).findIdx? (·.1) = none) : PG X (.Tuple es k pos) (gT (sysOf X T) (.t ts)) := by
  refine ⟨fun pins s σ H v u Q I r ⟨μ, L, ρ, d, ρ1, se, rd, ha, q⟩ => (pg_tup hc h hn hst).run pins s σ H v u Q I r ?_⟩
  cases d with
  | tup ds =>
    rw [asgT] at ha
    obtain ⟨a, vs, rfl, hq, rs⟩ := rd
    exact ⟨a, vs, rfl, hq, by rw [← rs.length]; exact asgTs_len ha, μ, L, ρ, ds, ρ1, se, rs, ha, fun σ1 h1 h2 => q σ1 h1 fun vs hv => h2 vs (by simpa [Tg.slots] using hv)⟩
  | _ => simp [asgT] at ha
theorem pgs_n : PGs X [] (gTs (sysOf X T) .nil) := by
  refine ⟨fun pins s σ H vs us Q I r ⟨μ, L, ρ, ds, ρ1, se, rs, ha, q⟩ => pgs_nil.run pins s σ H vs us Q I r ?_⟩
  cases ds with
  | nil =>
    obtain rfl := Option.some.inj (show some ρ = some ρ1 by rw [← ha]; simp [asgT.asgTs])
    exact ⟨rs, q σ se fun _ _ => rfl⟩
  | cons _ _ => simp [asgT.asgTs] at ha
theorem pgs_c {t : Tg} {ts : Tgs} {e : Expr} {es : List Expr} (h1 : PG X e (gT (sysOf X T) t)) (h2 : PGs X es (gTs (sysOf X T) ts)) (hs : (assignEach (e :: es) X.env).map (·.2) = assign e X.env :: (assignEach es X.env).map (·.2)) : PGs X (e :: es) (gTs (sysOf X T) (.cons t ts)) := by
  refine ⟨fun pins s σ H vs us Q I r ⟨μ, L, ρ, ds, ρ1, se, rs, ha, q⟩ => (pgs_cons h1 h2 hs).run pins s σ H vs us Q I r ?_⟩
  cases ds with
  | nil => simp [asgT.asgTs] at ha
  | cons d ds =>
    obtain ⟨v, ws, rfl, r1, r2⟩ := rs
    rw [asgT.asgTs] at ha
    cases q1 : asgT t d ρ with
    | none => rw [q1] at ha; cases ha
    | some ρ' =>
      rw [q1] at ha
      refine ⟨v, ws, rfl, μ, L, ρ, d, ρ', se, r1, q1, fun σ1 se1 w1 => ⟨μ, L, ρ', ds, ρ1, se1, r2, ha, fun σ2 se2 w2 => q σ2 se2 fun vs hv => ?_⟩⟩
      rw [w2 vs fun i hi => hv i (by rw [Tgs.slots]; exact List.mem_append_right _ hi), w1 vs fun i hi => hv i (by rw [Tgs.slots]; exact List.mem_append_left _ hi)]

/-! ### list comprehensions -/
abbrev W0 : WX := fun _ _ _ _ => False
abbrev tIfs (X : Cx) (T : Tab) (C : Cal) (ifs : Es) : TT := TM (sysOf X T) RB W0 (evIfs C ifs)
theorem ok_of {α β : Type} {r : R α} {f : α → MH → R β} {b : β} {h : MH} (e : r.bind f = .ok b h) : ∃ a h1, r = .ok a h1 ∧ f a h1 = .ok b h := by
  cases r with
  | ok a h1 => exact ⟨a, h1, rfl, e⟩
  | exc c pl h1 => cases e
  | bad => cases e
theorem post_ok {α β : Type} {S : Sys} {Rl : RlT α β} {W : WX} {σ : L2.St} {μ : Nat → Addr} {h : MH} {H : Hp} {r : R α} {a : α} {h1 : MH} {Q : β → Hp → Prop} (e : r = .ok a h1) (k : ∀ μ' H' v, Ext μ h H μ' h1 H' → SimH S μ' h1 H' → Rl H' μ' h1.length a v → Q v H') : Post S Rl W σ μ h H r Q := by
  subst e; exact k
theorem fr_ext {μ μ' : Nat → Addr} {h h' : MH} {H H' : Hp} (e : Ext μ h H μ' h' H') {D : Addr} {o : HO} (hd : H D = some o) (f : Fr μ h.length D) : Fr μ' h'.length D ∧ H' D = some o := by
  refine ⟨fun i hi q => ?_, e.fr D o hd f⟩
  by_cases hl : i < h.length
  · exact f i hl ((e.mu i hl).symm.trans q)
  · have z := e.nw i (Nat.le_of_not_lt hl) hi
    rw [q, hd] at z; cases z
theorem w_comp1 {elt : E} {t : Tg} {i : It} {ifs : Es} {own : List Nat} (hs : ∀ j ∈ t.slots, j ∈ own) {σ : L2.St} {H : Hp} {Q : VK} (hh : tL X T W C (.comp elt (.one t i ifs) own) σ H Q) :
    tLc (tIt X T W C i) (gT (sysOf X T) t) (tIfs X T C ifs) (tE X T W0 C elt) own σ H Q := by
  obtain ⟨μ, h, ρ, A, p⟩ := hh
  rw [evL, evCls] at p
  refine step A p fun J H1 μ1 h1 pi e1 A1 rit p1 => ?_
  obtain ⟨hlen, p1⟩ := need_tt p1
  have hlen : pi.1.length ≤ listMax := of_decide_eq_true hlen
  intro D hD
  generalize hf : (fun (x : GM.D) (h : MH) => match asgT t x (wipeE ρ own) with
    | some ρ1 => (evIfs C ifs ρ1 h).bind fun b h => if b = true then (evE C elt ρ1 h).bind fun d h => R.ok [d] h else R.ok [] h
    | none => R.bad) = f at p1
  have hf' : ∀ x h, f x h = match asgT t x (wipeE ρ own) with
    | some ρ1 => (evIfs C ifs ρ1 h).bind fun b h => if b = true then (evE C elt ρ1 h).bind fun d h => R.ok [d] h else R.ok [] h
    | none => R.bad := fun x h => by rw [← hf]
  have h0 : H D = none := Classical.byContradiction fun c => e1.kp D c hD
  refine ⟨fun i m Hn => m = pi.1.length - i ∧ i ≤ pi.1.length ∧ ∃ μn hn acc ds, Ext μ1 h1 H1 μn hn Hn ∧ SimH (sysOf X T) μn hn Hn ∧ Fr μn hn.length D ∧ Hn D = some (.lst acc) ∧ acc.length ≤ i ∧ RDs (sysOf X T) Hn μn hn.length ds acc ∧
    Post (sysOf X T) (RN (sysOf X T) H) W σ μ1 h1 H1 ((goC pi.2 f (pi.1.drop i) hn).bind fun zs h => R.ok (ds ++ zs) h) Q, ⟨pi.1.length, by simp, Nat.zero_le _, μ1, h1, [], [], (Ext.refl μ1 h1 H1).turn hD (.of (same_upd hD)), A1.hp.off (fr_of A1.hp hD) (.of (same_upd hD)), fr_of A1.hp hD, upd_same, Nat.le_refl _, RDs.nil, ?_⟩, ?_⟩
  · rw [List.drop_zero]
    cases q : goC pi.2 f pi.1 h1 with
    | ok zs h' => rw [q] at p1; exact p1
    | exc c pl h' => rw [q] at p1; exact p1
    | bad => rw [q] at p1; exact p1
  · rintro i m Hn ⟨rfl, hi, μn, hn, acc, ds, en, sn, fn, hDn, hacc, rs, pn⟩
    have rt := rit μn hn Hn en.hx en.mu en.len sn
    by_cases hlt : i < pi.1.length
    · have ex : pi.1[i]? = some pi.1[i] := List.getElem?_eq_getElem hlt
      rw [List.drop_eq_getElem_cons hlt, goC] at pn
      by_cases so : srcOk pi.2 hn
      · rw [if_pos so] at pn
        obtain ⟨go, yl⟩ := (rt so i).1 _ ex
        refine .inr ⟨go, fun H' => ∃ m', m' < pi.1.length - i ∧ (m' = pi.1.length - (i + 1) ∧ i + 1 ≤ pi.1.length ∧ ∃ μn hn acc ds, Ext μ1 h1 H1 μn hn H' ∧ SimH (sysOf X T) μn hn H' ∧ Fr μn hn.length D ∧ H' D = some (.lst acc) ∧ acc.length ≤ i + 1 ∧ RDs (sysOf X T) H' μn hn.length ds acc ∧
          Post (sysOf X T) (RN (sysOf X T) H) W σ μ1 h1 H1 ((goC pi.2 f (pi.1.drop (i + 1)) hn).bind fun zs h => R.ok (ds ++ zs) h) Q), fun H' h => h, fun x H2 y => ?_⟩
        obtain ⟨sm, rx⟩ := yl x H2 y
        generalize pi.1[i] = xd at pn rx
        have e2 : Ext μn hn Hn μn hn H2 := .sm sm
        have s2 := sn.same sm
        have se : SimE (sysOf X T) (wipeE ρ own) (wipe σ own) H2 μn hn.length := ((A1.en.ext en).ext e2).wipe own
        cases qf : f xd hn with
        | ok ys h5 =>
          rw [qf] at pn
          dsimp only at pn
          rw [hf'] at qf
          cases qa : asgT t xd (wipeE ρ own) with
          | none => rw [qa] at qf; cases qf
          | some ρ1 =>
            rw [qa] at qf
            obtain ⟨b, h3, q3, qf⟩ := ok_of qf
            refine ⟨μn, hn.length, _, xd, ρ1, se, rx, qa, fun σ2 se2 w2 => ⟨by rw [w2 own hs, wipe_wipe fun _ h => h], μn, hn, ρ1, ⟨s2, se2⟩, post_ok q3 fun μ3 H3 b' e3 s3 eb => ?_⟩⟩
            subst eb
            have e23 := e2.trans e3
            cases b with
            | false =>
              rw [if_neg Bool.false_ne_true] at qf ⊢
              injection qf with qy qh
              subst qy qh
              obtain ⟨f3, d3⟩ := fr_ext e23 hDn fn
              refine ⟨pi.1.length - (i + 1), by omega, rfl, hlt, μ3, h3, acc, ds, en.trans e23, s3, f3, d3, by omega, rs.ext e23, ?_⟩
              cases qg : goC pi.2 f (pi.1.drop (i + 1)) h3 with
              | ok zs h' => rw [qg] at pn; exact pn
              | exc c pl h' => rw [qg] at pn; exact pn
              | bad => rw [qg] at pn; exact pn
            | true =>
              rw [if_pos rfl] at qf ⊢
              obtain ⟨d4, h4, q4, qf⟩ := ok_of qf
              injection qf with qy qh
              subst qy qh
              refine ⟨μ3, h3, ρ1, ⟨s3, se2.ext e3⟩, post_ok q4 fun μ4 H4 v e4 s4 r4 => ?_⟩
              have e24 := e23.trans e4
              obtain ⟨f4, d4'⟩ := fr_ext e24 hDn fn
              have hx := hx_lst d4' (.lst (acc ++ [v]))
              refine ⟨acc, d4', Nat.lt_of_le_of_lt hacc (Nat.lt_of_lt_of_le hlt (Nat.le_trans hlen (Nat.le_of_lt big_lt))), pi.1.length - (i + 1), by omega, rfl, hlt, μ4, h4, acc ++ [v], ds ++ [d4], (en.trans e24).turn hD hx, s4.off f4 hx, f4, upd_same, by rw [List.length_append, List.length_singleton]; omega, (((rs.ext e24).append (.cons r4 .nil)).mono hx (fun _ _ => rfl) (Nat.le_refl _)), ?_⟩
              cases qg : goC pi.2 f (pi.1.drop (i + 1)) h4 with
              | ok zs h' => rw [qg] at pn; simpa using pn
              | exc c pl h' => rw [qg] at pn; exact pn
              | bad => rw [qg] at pn; exact pn
        | exc c pl h5 => rw [qf] at pn; exact pn.elim
        | bad => rw [qf] at pn; exact pn.elim
      · rw [if_neg so] at pn; exact pn.elim
    · have ei : i = pi.1.length := by omega
      rw [List.drop_eq_nil_of_le (by omega), goC] at pn
      by_cases so : srcOk pi.2 hn
      · rw [if_pos so] at pn
        refine .inl ⟨(rt so i).2 (by omega), ?_⟩
        have pn' : Post (sysOf X T) (RN (sysOf X T) H) W σ μ1 h1 H1 (.ok ds hn) Q := by simpa using pn
        exact pn' μn Hn (.ref D) en sn ⟨D, acc, rfl, hDn, rs, fn, h0⟩
      · rw [if_neg so] at pn; exact pn.elim
theorem SimE.mono {S : Sys} {μ μ' : Nat → Addr} {L L' : Nat} {H H' : Hp} {ρ : Env} {σ : L2.St} (r : SimE S ρ σ H μ L) (x : HX H H') (m : ∀ n, n < L → μ' n = μ n) (l : L ≤ L') : SimE S ρ σ H' μ' L' :=
  ⟨r.1, fun i d q => let ⟨v, a, b⟩ := r.2 i d q; ⟨v, a, b.mono x m l⟩⟩
/-- one turn of a clause's inner walk -/
def inF {α : Type} (k : Env → MH → R (List α)) (C : Cal) (t2 : Tg) (ifs2 : Es) (ρ1 : Env) : GM.D → MH → R (List α) := fun x2 h => match asgT t2 x2 (wipeE ρ1 t2.slots) with
  | some ρ2 => (evIfs C ifs2 ρ2 h).bind fun b h => if b = true then k ρ2 h else .ok [] h
  | none => .bad
theorem w_comp2 {elt : E} {t t2 : Tg} {i i2 : It} {ifs ifs2 : Es} {own : List Nat} (hs : ∀ j ∈ t.slots, j ∈ own) {σ : L2.St} {H : Hp} {Q : VK} (hh : tL X T W C (.comp elt (.two t i ifs t2 i2 ifs2) own) σ H Q) :
    tLc2 (tIt X T W C i) (gT (sysOf X T) t) (tIfs X T C ifs) (tIt X T W0 C i2) (gT (sysOf X T) t2) (tIfs X T C ifs2) (tE X T W0 C elt) own t2.slots σ H Q := by
  obtain ⟨μ, h, ρ, A, p⟩ := hh
  rw [evL, evCls] at p
  refine step A p fun J H1 μ1 h1 pi e1 A1 rit p1 => ?_
  obtain ⟨hlen, p1⟩ := need_tt p1
  have hlen : pi.1.length ≤ 3000 := of_decide_eq_true hlen
  intro D hD
  generalize hf : (fun (x : GM.D) (h : MH) => match asgT t x (wipeE ρ own) with
    | some ρ1 => (evIfs C ifs ρ1 h).bind fun b h => if b = true then (evIt C i2 ρ1 h).bind fun p2 h => need (decide (p2.1.length ≤ 3000)) <| goC p2.2 (fun x2 h => match asgT t2 x2 (wipeE ρ1 t2.slots) with
          | some ρ2 => (evIfs C ifs2 ρ2 h).bind fun b h => if b = true then (evE C elt ρ2 h).bind fun d h => R.ok [d] h else R.ok [] h
          | none => R.bad) p2.1 h else R.ok [] h
    | none => R.bad) = f at p1
  have hf' : ∀ x h, f x h = match asgT t x (wipeE ρ own) with
    | some ρ1 => (evIfs C ifs ρ1 h).bind fun b h => if b = true then (evIt C i2 ρ1 h).bind fun p2 h => need (decide (p2.1.length ≤ 3000)) <| goC p2.2 (inF (fun ρ h => (evE C elt ρ h).bind fun d h => R.ok [d] h) C t2 ifs2 ρ1) p2.1 h else R.ok [] h
    | none => R.bad := fun x h => by rw [← hf]; rfl
  have h0 : H D = none := Classical.byContradiction fun c => e1.kp D c hD
  refine ⟨fun i m Hn => m = pi.1.length - i ∧ i ≤ pi.1.length ∧ ∃ μn hn acc ds, Ext μ1 h1 H1 μn hn Hn ∧ SimH (sysOf X T) μn hn Hn ∧ Fr μn hn.length D ∧ Hn D = some (.lst acc) ∧ acc.length ≤ i * 3000 ∧ RDs (sysOf X T) Hn μn hn.length ds acc ∧
    Post (sysOf X T) (RN (sysOf X T) H) W σ μ1 h1 H1 ((goC pi.2 f (pi.1.drop i) hn).bind fun zs h => R.ok (ds ++ zs) h) Q, ⟨pi.1.length, by simp, Nat.zero_le _, μ1, h1, [], [], (Ext.refl μ1 h1 H1).turn hD (.of (same_upd hD)), A1.hp.off (fr_of A1.hp hD) (.of (same_upd hD)), fr_of A1.hp hD, upd_same, Nat.zero_le _, RDs.nil, ?_⟩, ?_⟩
  · rw [List.drop_zero]
    cases q : goC pi.2 f pi.1 h1 with
    | ok zs h' => rw [q] at p1; exact p1
    | exc c pl h' => rw [q] at p1; exact p1
    | bad => rw [q] at p1; exact p1
  · rintro i m Hn ⟨rfl, hi, μn, hn, acc, ds, en, sn, fn, hDn, hacc, rs, pn⟩
    have rt := rit μn hn Hn en.hx en.mu en.len sn
    by_cases hlt : i < pi.1.length
    · have ex : pi.1[i]? = some pi.1[i] := List.getElem?_eq_getElem hlt
      rw [List.drop_eq_getElem_cons hlt, goC] at pn
      by_cases so : srcOk pi.2 hn
      · rw [if_pos so] at pn
        obtain ⟨go, yl⟩ := (rt so i).1 _ ex
        refine .inr ⟨go, fun H' => ∃ m', m' < pi.1.length - i ∧ (m' = pi.1.length - (i + 1) ∧ i + 1 ≤ pi.1.length ∧ ∃ μn hn acc ds, Ext μ1 h1 H1 μn hn H' ∧ SimH (sysOf X T) μn hn H' ∧ Fr μn hn.length D ∧ H' D = some (.lst acc) ∧ acc.length ≤ (i + 1) * 3000 ∧ RDs (sysOf X T) H' μn hn.length ds acc ∧
          Post (sysOf X T) (RN (sysOf X T) H) W σ μ1 h1 H1 ((goC pi.2 f (pi.1.drop (i + 1)) hn).bind fun zs h => R.ok (ds ++ zs) h) Q), fun H' h => h, fun x H2 y => ?_⟩
        obtain ⟨sm, rx⟩ := yl x H2 y
        generalize pi.1[i] = xd at pn rx
        have e2 : Ext μn hn Hn μn hn H2 := .sm sm
        have s2 := sn.same sm
        have se : SimE (sysOf X T) (wipeE ρ own) (wipe σ own) H2 μn hn.length := ((A1.en.ext en).ext e2).wipe own
        cases qf : f xd hn with
        | ok ys h5 =>
          rw [qf] at pn
          dsimp only at pn
          rw [hf'] at qf
          cases qa : asgT t xd (wipeE ρ own) with
          | none => rw [qa] at qf; cases qf
          | some ρ1 =>
            rw [qa] at qf
            obtain ⟨b, h3, q3, qf⟩ := ok_of qf
            refine ⟨μn, hn.length, _, xd, ρ1, se, rx, qa, fun σ2 se2 w2 => ⟨by rw [w2 own hs, wipe_wipe fun _ h => h], μn, hn, ρ1, ⟨s2, se2⟩, post_ok q3 fun μ3 H3 b' e3 s3 eb => ?_⟩⟩
            subst eb
            have e23 := e2.trans e3
            cases b with
            | false =>
              rw [if_neg Bool.false_ne_true] at qf ⊢
              injection qf with qy qh
              subst qy qh
              obtain ⟨f3, d3⟩ := fr_ext e23 hDn fn
              refine ⟨pi.1.length - (i + 1), by omega, rfl, hlt, μ3, h3, acc, ds, en.trans e23, s3, f3, d3, by omega, rs.ext e23, ?_⟩
              cases qg : goC pi.2 f (pi.1.drop (i + 1)) h3 with
              | ok zs h' => rw [qg] at pn; exact pn
              | exc c pl h' => rw [qg] at pn; exact pn
              | bad => rw [qg] at pn; exact pn
            | true =>
              rw [if_pos rfl] at qf ⊢
              obtain ⟨p2, h4, q4, qf⟩ := ok_of qf
              by_cases hl2 : p2.1.length ≤ 3000
              case neg => rw [need, if_neg (by simpa using hl2)] at qf; cases qf
              rw [need, if_pos (by simpa using hl2)] at qf
              refine ⟨μ3, h3, ρ1, ⟨s3, se2.ext e3⟩, post_ok q4 fun μ4 H4 J1 e4 s4 rit1 => ?_⟩
              have e24 := e23.trans e4
              obtain ⟨f4, d4⟩ := fr_ext e24 hDn fn
              have se4 : SimE (sysOf X T) ρ1 σ2 H4 μ4 h4.length := (se2.ext e3).ext e4
              refine ⟨fun j k Hm => k = p2.1.length - j ∧ j ≤ p2.1.length ∧ ∃ μm hm acc' ds' zs', Ext μ1 h1 H1 μm hm Hm ∧ HX H4 Hm ∧ (∀ n, n < h4.length → μm n = μ4 n) ∧ h4.length ≤ hm.length ∧ SimH (sysOf X T) μm hm Hm ∧ Fr μm hm.length D ∧ Hm D = some (.lst acc') ∧ acc'.length ≤ i * 3000 + j ∧
                RDs (sysOf X T) Hm μm hm.length (ds ++ ds') acc' ∧ goC p2.2 (inF (fun ρ h => (evE C elt ρ h).bind fun d h => R.ok [d] h) C t2 ifs2 ρ1) (p2.1.drop j) hm = .ok zs' h5 ∧ ds' ++ zs' = ys,
                ⟨p2.1.length, by simp, Nat.zero_le _, μ4, h4, acc, [], ys, en.trans e24, .refl H4, fun _ _ => rfl, Nat.le_refl _, s4, f4, d4, by omega, by rw [List.append_nil]; exact rs.ext e24, by rw [List.drop_zero]; exact qf, rfl⟩, ?_⟩
              rintro j k Hm ⟨rfl, hj, μm, hm, acc', ds', zs', em, hxm, mum, lenm, sm', fm, dm, hacc', rs', qm, hys⟩
              have rt1 := rit1 μm hm Hm hxm mum lenm sm'
              by_cases hjl : j < p2.1.length
              · have ex1 : p2.1[j]? = some p2.1[j] := List.getElem?_eq_getElem hjl
                rw [List.drop_eq_getElem_cons hjl, goC] at qm
                by_cases so1 : srcOk p2.2 hm
                case neg => rw [if_neg so1] at qm; cases qm
                rw [if_pos so1] at qm
                obtain ⟨go1, yl1⟩ := (rt1 so1 j).1 _ ex1
                refine .inr ⟨go1, fun H' => ∃ k', k' < p2.1.length - j ∧ (k' = p2.1.length - (j + 1) ∧ j + 1 ≤ p2.1.length ∧ ∃ μm hm acc' ds' zs', Ext μ1 h1 H1 μm hm H' ∧ HX H4 H' ∧ (∀ n, n < h4.length → μm n = μ4 n) ∧ h4.length ≤ hm.length ∧ SimH (sysOf X T) μm hm H' ∧ Fr μm hm.length D ∧ H' D = some (.lst acc') ∧ acc'.length ≤ i * 3000 + (j + 1) ∧
                  RDs (sysOf X T) H' μm hm.length (ds ++ ds') acc' ∧ goC p2.2 (inF (fun ρ h => (evE C elt ρ h).bind fun d h => R.ok [d] h) C t2 ifs2 ρ1) (p2.1.drop (j + 1)) hm = .ok zs' h5 ∧ ds' ++ zs' = ys), fun H' h => h, fun x1 H5 y1 => ?_⟩
                obtain ⟨sm1, rx1⟩ := yl1 x1 H5 y1
                generalize p2.1[j] = xd1 at qm rx1
                have em5 : Ext μm hm Hm μm hm H5 := .sm sm1
                have s5 := sm'.same sm1
                have se5 : SimE (sysOf X T) (wipeE ρ1 t2.slots) (wipe σ2 t2.slots) H5 μm hm.length := ((se4.mono hxm mum lenm).ext em5).wipe _
                cases qf1 : inF (fun ρ h => (evE C elt ρ h).bind fun d h => R.ok [d] h) C t2 ifs2 ρ1 xd1 hm with
                | exc c pl h6 => rw [qf1] at qm; cases qm
                | bad => rw [qf1] at qm; cases qm
                | ok ys1 h6 =>
                  rw [qf1] at qm
                  dsimp only at qm
                  obtain ⟨zs1, h7, qg, qm⟩ := ok_of qm
                  injection qm with qz qh
                  subst qh
                  rw [inF] at qf1
                  cases qa1 : asgT t2 xd1 (wipeE ρ1 t2.slots) with
                  | none => rw [qa1] at qf1; cases qf1
                  | some ρ2 =>
                    rw [qa1] at qf1
                    dsimp only at qf1
                    obtain ⟨b1, h8, q8, qf1⟩ := ok_of qf1
                    refine ⟨μm, hm.length, _, xd1, ρ2, se5, rx1, qa1, fun σ3 se3 w3 => ⟨by rw [w3 _ fun _ h => h, wipe_wipe fun _ h => h], μm, hm, ρ2, ⟨s5, se3⟩, post_ok q8 fun μ8 H8 b' e8 s8 eb => ?_⟩⟩
                    subst eb
                    have e58 := em5.trans e8
                    cases b1 with
                    | false =>
                      rw [if_neg Bool.false_ne_true] at qf1 ⊢
                      injection qf1 with qy qh
                      subst qy qh
                      obtain ⟨f8, d8⟩ := fr_ext e58 dm fm
                      exact ⟨p2.1.length - (j + 1), by omega, rfl, hjl, μ8, h8, acc', ds', zs1, em.trans e58, hxm.trans e58.hx, fun n hn => (e58.mu n (Nat.lt_of_lt_of_le hn lenm)).trans (mum n hn), Nat.le_trans lenm e58.len, s8, f8, d8, by omega, rs'.ext e58, qg, by rw [← hys, ← qz]; rfl⟩
                    | true =>
                      rw [if_pos rfl] at qf1 ⊢
                      obtain ⟨d9, h9, q9, qf1⟩ := ok_of qf1
                      injection qf1 with qy qh
                      subst qy qh
                      refine ⟨μ8, h8, ρ2, ⟨s8, se3.ext e8⟩, post_ok q9 fun μ9 H9 v e9 s9 r9 => ?_⟩
                      have e59 := e58.trans e9
                      obtain ⟨f9, d9'⟩ := fr_ext e59 dm fm
                      have hx := hx_lst d9' (.lst (acc' ++ [v]))
                      refine ⟨acc', d9', Nat.lt_of_le_of_lt hacc' (by rw [sizeLine_eq]; omega), p2.1.length - (j + 1), by omega, rfl, hjl, μ9, h9, acc' ++ [v], ds' ++ [d9], zs1, (em.trans e59).turn hD hx, (hxm.trans e59.hx).trans hx, fun n hn => (e59.mu n (Nat.lt_of_lt_of_le hn lenm)).trans (mum n hn), Nat.le_trans lenm e59.len, s9.off f9 hx, f9, upd_same, by rw [List.length_append, List.length_singleton]; omega,
                        by rw [← List.append_assoc]; exact ((rs'.ext e59).append (.cons r9 .nil)).mono hx (fun _ _ => rfl) (Nat.le_refl _), qg, by rw [← hys, ← qz, List.append_assoc]⟩
              · have ei : j = p2.1.length := by omega
                rw [List.drop_eq_nil_of_le (by omega), goC] at qm
                by_cases so1 : srcOk p2.2 hm
                case neg => rw [if_neg so1] at qm; cases qm
                rw [if_pos so1] at qm
                injection qm with qz qh
                subst qz qh
                rw [List.append_nil] at hys
                subst hys
                refine .inl ⟨(rt1 so1 j).2 (by omega), pi.1.length - (i + 1), by omega, rfl, hlt, μm, hm, acc', ds ++ ds', em, sm', fm, dm, by omega, rs', ?_⟩
                cases qg : goC pi.2 f (pi.1.drop (i + 1)) hm with
                | ok zs h' => rw [qg] at pn; simpa using pn
                | exc c pl h' => rw [qg] at pn; exact pn
                | bad => rw [qg] at pn; exact pn
        | exc c pl h5 => rw [qf] at pn; exact pn.elim
        | bad => rw [qf] at pn; exact pn.elim
      · rw [if_neg so] at pn; exact pn.elim
    · have ei : i = pi.1.length := by omega
      rw [List.drop_eq_nil_of_le (by omega), goC] at pn
      by_cases so : srcOk pi.2 hn
      · rw [if_pos so] at pn
        refine .inl ⟨(rt so i).2 (by omega), ?_⟩
        have pn' : Post (sysOf X T) (RN (sysOf X T) H) W σ μ1 h1 H1 (.ok ds hn) Q := by simpa using pn
        exact pn' μn Hn (.ref D) en sn ⟨D, acc, rfl, hDn, rs, fn, h0⟩
      · rw [if_neg so] at pn; exact pn.elim
end
end GM
end
section
set_option Elab.async false
set_option linter.all false
set_option maxRecDepth 100000
namespace GM
open PySem PySem.Spec PyProof.Rows L2

section
variable {X : Cx} {T : Tab} {pins : List (Addr × Obj)} {σ : L2.St} {s : Shared}
theorem OS.no_nil {S : Sys} {H : Hp} {μ : Nat → Addr} {L : Nat} {o : LO} {a : Addr} (z : OS S H μ L o a) : H a ≠ none := by
  cases o with
  | lst ds => obtain ⟨vs, e, _⟩ := z; rw [e]; exact fun c => nomatch c
  | dic kvs =>
    rcases z with ⟨ps, e, _⟩ | ⟨xs, us, e, _⟩
    · rw [e]; exact fun c => nomatch c
    · rw [e]; exact fun c => nomatch c
  | ins _ _ => exact z.elim
  | dead => obtain ⟨o, u, e⟩ := z; rw [e]; exact fun c => nomatch c
/-- what freezing promises -/
structure FZ (X : Cx) (T : Tab) (pins : List (Addr × Obj)) (σ : L2.St) (s : Shared) (k : Nat) (μ : Nat → Addr) (h : MH) (H : Hp) (h' : MH) (H' : Hp) : Prop where
  inv : Inv X pins σ H' s
  sim : SimH (sysOf X T) μ h' H'
  len : h'.length = h.length
  ext : Ext μ h H μ h' H'
  low : ∀ i, i < k → h'[i]? = h[i]?
theorem FZ.trans {k : Nat} {μ : Nat → Addr} {h h1 h2 : MH} {H H1 H2 : Hp} (a : FZ X T pins σ s k μ h H h1 H1) (b : FZ X T pins σ s k μ h1 H1 h2 H2) : FZ X T pins σ s k μ h H h2 H2 :=
  ⟨b.inv, b.sim, b.len.trans a.len, a.ext.trans b.ext, fun i hi => (b.low i hi).trans (a.low i hi)⟩
/-- one object is locked -/
theorem fz_one (I : Inv X pins σ H s) {k : Nat} {μ : Nat → Addr} {h : MH} (sm : SimH (sysOf X T) μ h H) {n : Nat} {o : LO} (hn : h[n]? = some o) (nd : o ≠ .dead) (hk : k ≤ n) {u : HO} (hu : H (μ n) = some u) (hm : Mut (some u)) (n1 : ∀ xs, u ≠ .tup xs) (n2 : ∀ q v, u ≠ .frz q v) :
    ∃ od, FZ X T pins σ s k μ h H (h.set n .dead) (upd H (μ n) (.frz od u)) := by
  obtain ⟨od, I2⟩ := I.lock hu hm
  have hx : HX H (upd H (μ n) (.frz od u)) := hx_upd hu n1 n2
  have hl := (List.getElem?_eq_some_iff.mp hn).1
  exact ⟨od, I2, sm.write hn nd hx ⟨od, u, upd_same⟩, by rw [List.length_set], .write hl hx, fun i hi => by rw [List.getElem?_set_ne (by omega)]⟩
mutual
theorem nr_rd {S : Sys} {H : Hp} {μ μ' : Nat → Addr} {k L : Nat} (m : ∀ n, n < k → μ' n = μ n) : ∀ {d : D} {v : V}, D.nr k d = true → RD S H μ L d v → RD S H μ' k d v
  | .non, _, _, h => h
  | .bl _, _, _, h => h
  | .int _, _, _, h => h
  | .str _, _, _, h => h
  | .tup ds, _, n, ⟨a, vs, e, h, r⟩ => ⟨a, vs, e, h, nrs_rd m (by simpa [D.nr] using n) r⟩
  | .lst ds, _, n, ⟨a, vs, e, h, r⟩ => ⟨a, vs, e, h, nrs_rd m (by simpa [D.nr] using n) r⟩
  | .dic ks ws, _, n, h => by
    simp only [D.nr, Bool.and_eq_true] at n
    obtain ⟨a, o, e, h⟩ := h
    refine ⟨a, o, e, ?_⟩
    rcases h with ⟨kvs, h, e2, r⟩ | ⟨xs, us, h, e1, e2, r, r2, r3⟩
    · exact .inl ⟨kvs, h, e2, nrs_rd m n.2 r⟩
    · exact .inr ⟨xs, us, h, e1, e2, nrs_rd m n.1 r, r2, nrs_rd m n.2 r3⟩
  | .set _, _, _, h => h.elim
  | .ref i, _, n, ⟨h, e⟩ => by
    have hi : i < k := by simpa [D.nr] using n
    exact ⟨hi, by rw [e, m i hi]⟩
  | .fn _, _, _, h => h
  | .clo _ _, _, _, h => h.elim
theorem nrs_rd {S : Sys} {H : Hp} {μ μ' : Nat → Addr} {k L : Nat} (m : ∀ n, n < k → μ' n = μ n) : ∀ {ds : List D} {vs : List V}, D.nrs k ds = true → RDs S H μ L ds vs → RDs S H μ' k ds vs
  | [], _, _, h => h
  | d :: ds, _, n, ⟨v, ws, e, r, rs⟩ => by
    simp only [D.nrs, Bool.and_eq_true] at n
    exact ⟨v, ws, e, nr_rd m n.1 r, nrs_rd m n.2 rs⟩
end
theorem fz_list {k : Nat} {μ : Nat → Addr} {g : D → MH → Option (D × MH)}
    (hg : ∀ {d d' : D} {h h' : MH} {H : Hp} {v : V}, Inv X pins σ H s → SimH (sysOf X T) μ h H → RD (sysOf X T) H μ h.length d v → g d h = some (d', h') → ∃ H', FZ X T pins σ s k μ h H h' H' ∧ RD (sysOf X T) H' μ h.length d' v ∧ D.nr k d' = true) :
    ∀ {ds ds' : List D} {h h' : MH} {H : Hp} {vs : List V}, Inv X pins σ H s → SimH (sysOf X T) μ h H → RDs (sysOf X T) H μ h.length ds vs → frzL g ds h = some (ds', h') → ∃ H', FZ X T pins σ s k μ h H h' H' ∧ RDs (sysOf X T) H' μ h.length ds' vs ∧ D.nrs k ds' = true := by
  intro ds
  induction ds with
  | nil =>
    intro ds' h h' H vs I sm rs e
    rw [frzL] at e
    injection e with e
    injection e with e1 e2
    subst e1 e2
    exact ⟨H, ⟨I, sm, rfl, .refl _ _ _, fun _ _ => rfl⟩, rs, rfl⟩
  | cons d ds ih =>
    intro ds' h h' H vs I sm rs e
    obtain ⟨v, ws, rfl, r, rs⟩ := rs
    rw [frzL] at e
    cases q : g d h with
    | none => rw [q] at e; cases e
    | some p =>
      obtain ⟨d1, h1⟩ := p
      rw [q] at e
      obtain ⟨p2, e2, e3⟩ := Option.map_eq_some_iff.mp e
      injection e3 with e3 e4
      subst e3 e4
      obtain ⟨H1, f1, r1, n1⟩ := hg I sm r q
      have rs1 := rs.mono f1.ext.hx (fun _ _ => rfl) (Nat.le_refl _)
      rw [← f1.len] at rs1
      obtain ⟨H2, f2, r2, n2⟩ := ih f1.inv f1.sim rs1 e2
      rw [f1.len] at r2
      exact ⟨H2, f1.trans f2, .cons (r1.mono f2.ext.hx (fun _ _ => rfl) (Nat.le_refl _)) r2, by rw [D.nrs, n1, n2]; rfl⟩
theorem fz_one_d (k : Nat) {μ : Nat → Addr} : ∀ (f : Nat) {d d' : D} {h h' : MH} {H : Hp} {v : V}, Inv X pins σ H s → SimH (sysOf X T) μ h H → RD (sysOf X T) H μ h.length d v → frzD k f d h = some (d', h') →
    ∃ H', FZ X T pins σ s k μ h H h' H' ∧ RD (sysOf X T) H' μ h.length d' v ∧ D.nr k d' = true := by
  intro f
  induction f with
  | zero => intro d d' h h' H v I sm r e; rw [frzD] at e; cases e
  | succ f ih =>
    intro d d' h h' H v I sm r e
    have plain : ∀ {d : D}, RD (sysOf X T) H μ h.length d v → (if D.nr k d = true then some (d, h) else none) = some (d', h') → ∃ H', FZ X T pins σ s k μ h H h' H' ∧ RD (sysOf X T) H' μ h.length d' v ∧ D.nr k d' = true := by
      intro d r e
      split at e
      · rename_i c
        injection e with e
        injection e with e1 e2
        subst e1 e2
        exact ⟨H, ⟨I, sm, rfl, .refl _ _ _, fun _ _ => rfl⟩, r, c⟩
      · cases e
    cases d with
    | ref n =>
      rw [frzD] at e
      by_cases hn : n < k
      · rw [if_pos hn] at e
        injection e with e
        injection e with e1 e2
        subst e1 e2
        exact ⟨H, ⟨I, sm, rfl, .refl _ _ _, fun _ _ => rfl⟩, r, by simpa [D.nr] using hn⟩
      · rw [if_neg hn] at e
        obtain ⟨hl, rfl⟩ := r
        cases q : h[n]? with
        | none => rw [q] at e; cases e
        | some o =>
          rw [q] at e
          cases o with
          | lst xs =>
            obtain ⟨p, e2, e3⟩ := Option.map_eq_some_iff.mp e
            injection e3 with e3 e4
            subst e3 e4
            obtain ⟨vs, ha, rs⟩ := live_l sm q
            obtain ⟨od, f1⟩ := fz_one (T := T) I sm q (fun z => nomatch z) (Nat.le_of_not_lt hn) ha True.intro (fun _ z => nomatch z) (fun _ _ z => nomatch z)
            have rs1 := rs.mono f1.ext.hx (fun _ _ => rfl) (Nat.le_refl _)
            rw [← f1.len] at rs1
            obtain ⟨H2, f2, r2, n2⟩ := fz_list (k := k) (g := frzD k f) (fun I sm r e => ih I sm r e) f1.inv f1.sim rs1 e2
            rw [f1.len] at r2
            exact ⟨H2, f1.trans f2, ⟨μ n, vs, rfl, .inl ⟨od, f2.ext.hx.frz _ _ _ upd_same⟩, r2⟩, by simpa [D.nr] using n2⟩
          | dic kvs =>
            dsimp only at e
            split at e
            · rename_i c
              obtain ⟨p, e2, e3⟩ := Option.map_eq_some_iff.mp e
              injection e3 with e3 e4
              subst e3 e4
              have z := sm.obj n _ q
              rcases z with ⟨ps, ha, ek, rs⟩ | ⟨xs, us, ha, e0, ek, rk, rv, rs⟩
              · obtain ⟨od, f1⟩ := fz_one (T := T) I sm q (fun z => nomatch z) (Nat.le_of_not_lt hn) ha True.intro (fun _ z => nomatch z) (fun _ _ z => nomatch z)
                have rs1 := rs.mono f1.ext.hx (fun _ _ => rfl) (Nat.le_refl _)
                rw [← f1.len] at rs1
                obtain ⟨H2, f2, r2, n2⟩ := fz_list (k := k) (g := frzD k f) (fun I sm r e => ih I sm r e) f1.inv f1.sim rs1 e2
                rw [f1.len] at r2
                exact ⟨H2, f1.trans f2, ⟨μ n, od, rfl, .inl ⟨ps, f2.ext.hx.frz _ _ _ upd_same, ek, r2⟩⟩, by rw [D.nr, c, n2]; rfl⟩
              · obtain ⟨od, f1⟩ := fz_one (T := T) I sm q (fun z => nomatch z) (Nat.le_of_not_lt hn) ha True.intro (fun _ z => nomatch z) (fun _ _ z => nomatch z)
                have rs1 := rs.mono f1.ext.hx (fun _ _ => rfl) (Nat.le_refl _)
                rw [← f1.len] at rs1
                obtain ⟨H2, f2, r2, n2⟩ := fz_list (k := k) (g := frzD k f) (fun I sm r e => ih I sm r e) f1.inv f1.sim rs1 e2
                rw [f1.len] at r2
                have hxx := (f1.trans f2).ext.hx
                exact ⟨H2, f1.trans f2, ⟨μ n, od, rfl, .inr ⟨xs, us, f2.ext.hx.frz _ _ _ upd_same, e0, ek, rk.mono hxx (fun _ _ => rfl) (Nat.le_refl _), rv, r2⟩⟩, by rw [D.nr, c, n2]; rfl⟩
            · cases e
          | _ => cases e
    | _ => exact plain r e
end
end GM
end
section
set_option Elab.async false
set_option linter.all false
set_option maxRecDepth 100000
set_option maxHeartbeats 4000000
namespace GM
open PySem PySem.Spec PyProof.Rows L2

/-- a kind of sets: what stands for one, how one more gets in -/
structure SK (P : Program) (w : World) where
  T : Type
  ho : Addr → T → HO
  z : T
  nw : ∀ (H : Hp) (h : Heap), ObjOk P w H (h.push { cls := .type "set", dict := none, data := .set #[] 0 (.fresh 0 0 (!w.params.followText "set-order")) }) h.objs.size (ho h.objs.size z)
  add : T → V → T → Prop
  ok : ∀ (Y : Cx) (e1 : Y.prog = P) (e2 : Y.w = w) (pins : List (Addr × Obj)) (σ : L2.St) (H : Hp) (s : Shared) (E : Value → Shared → Prop) (D : Addr) (t t' : T) (y : V) (v : Value) (Q : Value → Shared → Prop), Inv Y pins σ H s → H D = some (ho D t) → add t y t' → RelV y v →
    (∀ s', Inv Y pins σ (upd H D (ho D t')) s' → Q .none s') → wpAny (model P w) Y.A (call (.builtin "set.add") [.ref D, v]) Q E s

/-- sets of ints -/
def skI (P : Program) (w : World) : SK P w where
  T := (Int → Bool) × Nat
  ho := fun a t => SetO w a t.1 t.2
  z := (fun _ => false, 0)
  nw := fun H h => setO_new (setR_fresh w)
  add := fun t y t' => ∃ k, y = .int k ∧ t.2 + 1 < scanBound ∧ t' = (fun j => t.1 j || decide (j = k), if t.1 k = true then t.2 else t.2 + 1)
  ok := fun Y e1 e2 pins σ H s E D t t' y v Q I hD ha rv hQ => by
    subst e1 e2
    obtain ⟨k, rfl, room, rfl⟩ := ha
    obtain ⟨tk, rfl⟩ := rv
    refine setR_add (setO_get I hD) room fun g sb new => ?_
    have hu : ∃ u, g.get? D = some u := by
      have ⟨o, _, _, _, ho, _⟩ := new
      exact ⟨o, ho⟩
    exact hQ _ (I.write (e := D) (t' := s.toks + 1) (by rw [hD]; trivial) (.inl rfl) (fun b u hb q => (sb.2 b hb).trans q) hu (setO_new new))

abbrev sc1 (e t i : Expr) (f : List Expr) (sc : Scope) (p : Pos) : Expr := .SetComp e [⟨t, i, f, 0⟩] sc p
abbrev sc2 (e t i u j : Expr) (f g : List Expr) (sc : Scope) (p : Pos) : Expr := .SetComp e [⟨t, i, f, 0⟩, ⟨u, j, g, 0⟩] sc p

/-! ### two clauses: the code's turns -/
theorem turnA (e t i u j : Expr) (f g : List Expr) (sc : Scope) (p : Pos) (it acc : Value) (env : PySem.Env) :
    compTurn (sc2 e t i u j f g sc p) 0 it acc env = (do
      standAt i.pos
      match ← pyNext it with
      | none => pure (.done .next)
      | some v => letOwnedTupleGo t it v
                  assign t env v
                  let mut ok := true
                  for c in f do
                    if ok then ok ← isTrue c env (eval c env)
                  if ok then
                    let x ← eval j env
                    standAt j.pos
                    let x ← foldedSetIterable j env x
                    let _ ← runOwn (.compStart (sc2 e t i u j f g sc p) 1 (← holding [x] (pyIter x)) acc env) env
                  again (.compLoop (sc2 e t i u j f g sc p) 0 it acc env)) := by rfl
theorem turnB (e t i u j : Expr) (f g : List Expr) (sc : Scope) (p : Pos) (it acc : Value) (env : PySem.Env) :
    compTurn (sc2 e t i u j f g sc p) 1 it acc env = (do
      standAt j.pos
      match ← pyNext it with
      | none => pure (.done .next)
      | some v => letOwnedTupleGo u it v
                  assign u env v
                  let mut ok := true
                  for c in g do
                    if ok then ok ← isTrue c env (eval c env)
                  if ok then
                    (do let v ← eval e env; standAt e.pos; let _ ← call (.builtin "set.add") [acc, v])
                  again (.compLoop (sc2 e t i u j f g sc p) 1 it acc env)) := by rfl
section
variable {P : Program} {w : World} {A : Around} {R : Result → Shared → Prop} {s : Shared} {e t i u j : Expr} {f g : List Expr} {sc : Scope} {p : Pos} {it acc : Value} {env : PySem.Env}
abbrev nE (P : Program) (w : World) (A : Around) (env : PySem.Env) (R : Result → Shared → Prop) : Value → Shared → Prop := notedBy (model P w) A env fun x s' => R (.error x) s'
abbrev ifsG (f : List Expr) (env : PySem.Env) : Sem Bool := forIn f true fun c r => if r = true then do let ok ← isTrue c env (eval c env); pure (ForInStep.yield ok) else pure (ForInStep.yield r)
theorem loopA (hs : ∀ x, foldedSetIterable j env x = pure x) (I : Nat → Shared → Prop)
    (turn : ∀ n s, I n s → wpAny (model P w) A (pyNext it) (fun r s1 => match r with
      | none => R (.ok .next) s1
      | some v => wpAny (model P w) A (letOwnedTupleGo t it v) (fun _ s2 => wpAny (model P w) A (assign t env v) (fun _ s3 => wpAny (model P w) A (ifsG f env) (fun ok s4 =>
            if ok = true then wpAny (model P w) A (eval j env) (fun x s5 => wpAny (model P w) A (pyIter x) (fun it1 s6 =>
              codeAny (model P w) A (.compStart (sc2 e t i u j f g sc p) 1 it1 acc env) (fun r s' => match r with
                | .ok _ => ∃ m, m < n ∧ I m s'
                | .error _ => False) s6) (nE P w A env R) s5) (nE P w A env R) s4
            else ∃ m, m < n ∧ I m s4) (nE P w A env R) s3) (nE P w A env R) s2) (nE P w A env R) s1) (nE P w A env R) s)
    (n : Nat) (h : I n s) : codeAny (model P w) A (.compLoop (sc2 e t i u j f g sc p) 0 it acc env) R s := by
  refine codeAny_loop rfl I (fun n s hI => ?_) n h
  show wpAny _ A ((compTurn (sc2 e t i u j f g sc p) 0 it acc env).onRaise (fun x => do noteFrame x env; theTreesLotGoes x)) _ _ s
  refine wpAny_noted ?_
  rw [turnA]
  refine wpAny_bind (wpAny_standAt (wpAny_bind (wpAny_mono (turn n s hI) (fun r s1 k1 => ?_) fun _ _ z => z)))
  cases r with
  | none => exact wpAny_pure k1
  | some v =>
    refine wpAny_bind (wpAny_mono k1 (fun _ s2 k2 => ?_) fun _ _ z => z)
    refine wpAny_bind (wpAny_mono k2 (fun _ s3 k3 => wpAny_bind (wpAny_mono k3 (fun ok s4 k4 => ?_) fun _ _ z => z)) fun _ _ z => z)
    cases ok with
    | false => exact wpAny_pure ⟨rfl, k4⟩
    | true =>
      refine wpAny_bind (wpAny_mono k4 (fun x s5 k5 => ?_) fun _ _ z => z)
      refine wpAny_bind (wpAny_standAt (wpAny_bind (wpAny_of_eq (hs x) (wpAny_bind (wpAny_holding (wpAny_mono k5 (fun it1 s6 k6 => ?_) fun _ _ z => z))))))
      refine wpAny_bind (wpAny_runOwn ?_)
      rw [Around.mark_none]
      refine codeAny_mono k6 fun r s' hr => ?_
      cases r with
      | ok f =>
        first
          | exact wpAny_pure (And.intro rfl hr)
          | exact wpAny_bind (wpAny_pure (wpAny_pure (And.intro rfl hr)))
      | error x => exact hr.elim
theorem loopB (I : Nat → Shared → Prop)
    (turn : ∀ n s, I n s → wpAny (model P w) A (pyNext it) (fun r s1 => match r with
      | none => R (.ok .next) s1
      | some v => wpAny (model P w) A (letOwnedTupleGo u it v) (fun _ s2 => wpAny (model P w) A (assign u env v) (fun _ s3 => wpAny (model P w) A (ifsG g env) (fun ok s4 =>
            if ok = true then wpAny (model P w) A (eval e env) (fun x s5 => wpAny (model P w) A (call (.builtin "set.add") [acc, x]) (fun _ s6 => ∃ m, m < n ∧ I m s6) (nE P w A env R) s5) (nE P w A env R) s4
            else ∃ m, m < n ∧ I m s4) (nE P w A env R) s3) (nE P w A env R) s2) (nE P w A env R) s1) (nE P w A env R) s)
    (n : Nat) (h : I n s) : codeAny (model P w) A (.compLoop (sc2 e t i u j f g sc p) 1 it acc env) R s := by
  refine codeAny_loop rfl I (fun n s hI => ?_) n h
  show wpAny _ A ((compTurn (sc2 e t i u j f g sc p) 1 it acc env).onRaise (fun x => do noteFrame x env; theTreesLotGoes x)) _ _ s
  refine wpAny_noted ?_
  rw [turnB]
  refine wpAny_bind (wpAny_standAt (wpAny_bind (wpAny_mono (turn n s hI) (fun r s1 k1 => ?_) fun _ _ z => z)))
  cases r with
  | none => exact wpAny_pure k1
  | some v =>
    refine wpAny_bind (wpAny_mono k1 (fun _ s2 k2 => ?_) fun _ _ z => z)
    refine wpAny_bind (wpAny_mono k2 (fun _ s3 k3 => wpAny_bind (wpAny_mono k3 (fun ok s4 k4 => ?_) fun _ _ z => z)) fun _ _ z => z)
    cases ok with
    | false => exact wpAny_pure ⟨rfl, k4⟩
    | true =>
      exact wpAny_bind (wpAny_bind (wpAny_mono k4 (fun x s5 k5 => wpAny_bind (wpAny_standAt (wpAny_bind (wpAny_mono k5 (fun _ s6 k6 => wpAny_pure (wpAny_pure ⟨rfl, k6⟩)) fun _ _ z => z)))) fun _ _ z => z))
theorem startB (h0 : codeAny (model P w) A (.compLoop (sc2 e t i u j f g sc p) 1 it acc env) R s)
    (h : wpAny (model P w) A (pyIter it) (fun it' s' => codeAny (model P w) A (.compLoop (sc2 e t i u j f g sc p) 1 it' acc env) R s') (nE P w A env R) s) :
    codeAny (model P w) A (.compStart (sc2 e t i u j f g sc p) 1 it acc env) R s := by
  refine codeAny_of_tree ?_
  show wpAny _ _ ((compStart (sc2 e t i u j f g sc p) 1 it acc env).onRaise (fun x => do noteFrame x env; standAt theWindowsPlace)) _ _ s
  refine wpAny_notedAt ?_
  unfold compStart
  show wpAny _ _ (ask >>= _) _ _ s
  refine wpAny_bind (wpAny_askSetting (wpAny_ite ?_))
  split
  · first
      | exact wpAny_bind (wpAny_pure (wpAny_pure ⟨rfl, h0⟩))
      | exact wpAny_pure ⟨rfl, h0⟩
  · first
      | exact wpAny_bind (wpAny_rule (wpAny_bind (wpAny_standAt (wpAny_bind (wpAny_mono h (fun it' s' q => wpAny_pure ⟨rfl, q⟩) fun _ _ z => z)))))
      | (refine wpAny_bind (wpAny_rule ?_); show wpAny _ _ (standAt j.pos >>= _) _ _ s; exact wpAny_bind (wpAny_standAt (wpAny_bind (wpAny_mono h (fun it' s' q => wpAny_pure ⟨rfl, q⟩) fun _ _ z => z))))
end

section
variable {X : Cx}
abbrev newS (w : World) : Obj := { cls := .type "set", dict := none, data := .set #[] 0 (.fresh 0 0 (!w.params.followText "set-order")) }
/-- what is known where a set comprehension's loop begins, at C its locals, D the new set -/
structure SOpen (X : Cx) (K : SK X.prog X.w) (pins : List (Addr × Obj)) (σ0 : L2.St) (tg : Expr) (scope : Scope) (D it C : Addr) (fp : List Addr) (tn : Nat → Heap → Prop) (J : L2.It) (H2 : Hp) (s3 s4 : Shared) (cl : List (PySem.Str × Addr)) : Prop where
  new : H2 D = none
  trn : Turn X.prog X.w X.K tg J fp it tn
  inv : L2.Inv (X.blk s3 (upd H2 D (K.ho D K.z)) scope (compEnvC scope cl C X.env) fp) [] σ0 (upd H2 D (K.ho D K.z)) s4
  st : tn 0 s4.heap
  no : ∀ b ∈ fp, (upd H2 D (K.ho D K.z)) b = none
theorem SOpen.fp {K : SK X.prog X.w} {pins σ0 tg scope D it C fp tn J H2 s3 s4 cl} (_ : SOpen X K pins σ0 tg scope D it C fp tn J H2 s3 s4 cl) {σ' : L2.St} {H' : Hp} {s' : Shared}
    (I' : L2.Inv (X.blk s3 (upd H2 D (K.ho D K.z)) scope (compEnvC scope cl C X.env) fp) [] σ' H' s') (hn : ∀ b ∈ fp, H' b = none) : ∀ b ∈ fp, FpOk (X.blk s3 (upd H2 D (K.ho D K.z)) scope (compEnvC scope cl C X.env) fp) [] H' b := fun b hb =>
  ⟨hn b hb, (I'.ok.exf b hb).1, I'.ok.exfs b hb, .inl hb, fun x c z => (I'.ok.exf b hb).2 x c z, fun q hq => absurd (show q ∈ ([] : List (Addr × Obj)) ++ [] from hq) (by simp)⟩
theorem set_open {K : SK X.prog X.w} {pins : List (Addr × Obj)} {s : Shared} {σ : L2.St} {H : Hp} {Q : VK} {e t i : Expr} {f : List Expr} {rest : List Comprehension} {sc : Scope} {own : List (PySem.Str × Nat)} {p p' : Pos} {wi : TI} {Rw : L2.It → Hp → Prop} {Qf : Value → Shared → Prop}
    (hN : X.N.Nodup) (I : L2.Inv X pins σ H s) (hi : PI X t i wi) (ok : BlkOk X.N X.env.scope sc own) (hs : ∀ x, foldedSetIterable i X.env x = pure x) (h : wi σ H Rw)
    (hRR : ∀ D C s' m H', L2.Inv X pins σ H' s' → Q (.ref D) H' → s'.heap.Ns C m → FpOk X pins H' C → compPost (model X.prog X.w) X.A X.xe none Qf (.ref D) C (.ok .next) s')
    (k : ∀ D it C fp tn J H2 s3 s4 cl, SOpen X K pins (wipe σ (own.map (·.2))) t sc D it C fp tn J H2 s3 s4 cl → Rw J H2 →
      (∀ H5 s6, L2.Inv (X.blk s3 (upd H2 D (K.ho D K.z)) sc (compEnvC sc cl C X.env) fp) [] (wipe σ (own.map (·.2))) H5 s6 → Q (.ref D) H5 → compPost (model X.prog X.w) X.A X.xe none Qf (.ref D) C (.ok .next) s6) →
      codeAny (model X.prog X.w) X.A (.compLoop (.SetComp e (⟨t, i, f, 0⟩ :: rest) sc p) 0 (.ref it) (.ref D) (compEnvC sc cl C X.env)) (compPost (model X.prog X.w) X.A X.xe none Qf (.ref D) C) s4) :
    wpAny (model X.prog X.w) X.A (comprehension (.SetComp e (⟨t, i, f, 0⟩ :: rest) sc p) sc X.env p' (newSet (.type "set")) false (eval i X.env) none) Qf X.xe s := by
  have free : ∀ y ∈ sc.names, y.2 = .free → ∃ c, X.env.cells.lookup y.1 = some c := fun y hy q => (ok.free y hy q).elim (fun z => I.ok.has _ (.inl z)) fun z => I.ok.has _ (.inr z)
  refine wpAny_comprehension_free (use := none) rfl hs (closure_ok free) ok.kind (fun y hy q => by rw [ok.uniq y hy, q]) (thn (hi.run pins s σ H _ I h) fun xv s1 hx => thn hx fun itv s2 ⟨it, fp, tn, J, H2, q, I2, T, st2, f2, rw2⟩ => ?_)
  subst q
  refine PpSet.newSet_ok (newEnv_comp ?_)
  have hDn : H2 s2.heap.objs.size = none := I2.hok.fresh (Nat.le_refl _)
  have h3 : ∀ b o, s2.heap.get? b = some o → (s2.heap.push (newS X.w)).get? b = some o := fun b o q => Heap.get?_push_of_some _ q
  generalize hs3 : ({ s2 with heap := s2.heap.push { cls := .type "set", dict := none, data := .set #[] 0 (.fresh 0 0 (!X.w.params.followText "set-order")) } } : Shared) = s3
  have I3 : L2.Inv X pins σ (upd H2 s2.heap.objs.size (K.ho s2.heap.objs.size K.z)) s3 := by
    rw [← hs3]
    exact I2.laid (t' := s2.toks) h3 (Nat.le_refl _) (K.nw _ s2.heap)
  have sz : ∀ b ∈ fp, b < s2.heap.objs.size := fun b hb => by
    obtain ⟨o, q, _⟩ := T.obj _ _ st2 b hb
    exact Heap.lt_size q
  have h3' : s3.heap = s2.heap.push (newS X.w) := by rw [← hs3]
  have f3 : ∀ b ∈ fp, FpOk X pins (upd H2 s2.heap.objs.size (K.ho s2.heap.objs.size K.z)) b ∧ b < s3.heap.objs.size := fun b hb => by
    have lt := sz b hb
    refine ⟨⟨?_, (f2 b hb).2⟩, by rw [h3', Heap.size_push]; exact Nat.lt_succ_of_lt lt⟩
    rw [upd_ne (Nat.ne_of_lt lt)]
    exact (f2 b hb).1
  have I4 := block_start I3 ok hN f3
  have st4 : tn 0 (pushCells (s3.heap.push { cls := .type "dict", data := .dict #[] }) sc.names) := T.keep _ _ _ st2 fun b _ o q => pushCells_keeps _ _ _ _ (Heap.get?_push_of_some _ (by rw [h3']; exact h3 b o q))
  have loop := k _ it s3.heap.objs.size fp tn J H2 s3 _ (cellsFrom (s3.heap.objs.size + 1) sc.names (cloFrom X.env.cells sc.names [])) ⟨hDn, T, I4, st4, fun b hb => (f3 b hb).1.1⟩ rw2 fun H5 s6 I6 qq => by
    have I7 : L2.Inv X pins σ H5 s6 := I3.call' (ch := fp) I6.os I6.base I6.hok I6.bare fun b hb => ⟨(f3 b hb).1.2.2.2.1, (f3 b hb).1.2.1, (f3 b hb).1.2.2.2.2.1, (f3 b hb).1.2.2.2.2.2⟩
    have nC : H5 s3.heap.objs.size = none := I6.free
    obtain ⟨m, hn, _⟩ := I6.loc
    exact hRR _ s3.heap.objs.size s6 m H5 I7 qq hn (I3.fpOk (Nat.le_refl _) nC)
  show codeAny _ _ (.compStart (.SetComp e (⟨t, i, f, 0⟩ :: rest) sc p) 0 (.ref it) (.ref _) (compEnvC sc (cellsFrom (s3.heap.objs.size + 1) sc.names (cloFrom X.env.cells sc.names [])) s3.heap.objs.size X.env)) (compPost (model X.prog X.w) X.A X.xe none Qf (.ref _) s3.heap.objs.size) { s3 with heap := pushCells (s3.heap.push { cls := .type "dict", data := .dict #[] }) sc.names }
  exact PpSet.codeAny_compStart_set loop (T.self X.A 0 _ _ _ st4 loop)

abbrev PGb (X : Cx) (sc : Scope) (t : Expr) (g : TG) : Prop := ∀ (s : Shared) (H : Hp) (C : Addr) (cl : List (PySem.Str × Addr)) (fp : List Addr), PG (X.blk s H sc (compEnvC sc cl C X.env) fp) t g
abbrev PTb (X : Cx) (sc : Scope) (f : List Expr) (g : TT) : Prop := ∀ (s : Shared) (H : Hp) (C : Addr) (cl : List (PySem.Str × Addr)) (fp : List Addr), PTs (X.blk s H sc (compEnvC sc cl C X.env) fp) f g
abbrev PEb (X : Cx) (sc : Scope) (e : Expr) (g : TE) : Prop := ∀ (s : Shared) (H : Hp) (C : Addr) (cl : List (PySem.Str × Addr)) (fp : List Addr), PE (X.blk s H sc (compEnvC sc cl C X.env) fp) e g
abbrev PIb (X : Cx) (sc : Scope) (t e : Expr) (g : TI) : Prop := ∀ (s : Shared) (H : Hp) (C : Addr) (cl : List (PySem.Str × Addr)) (fp : List Addr), PI (X.blk s H sc (compEnvC sc cl C X.env) fp) t e g
/-- one turn's end: a new member -/
def kAdd {P : Program} {w : World} (K : SK P w) (te : TE) (D : Addr) (Nx : Hp → Prop) (b : Bool) (σ : L2.St) (H : Hp) : Prop :=
  if b = true then te σ H fun y H' => ∃ t t', H' D = some (K.ho D t) ∧ K.add t y t' ∧ Nx (upd H' D (K.ho D t')) else Nx H
/-- a walk by turns: W the state, tk a turn's wish -/
def tWalk (J : L2.It) (H0 : Hp) (fin : Hp → Prop) (tk : (Hp → Prop) → V → Hp → Prop) : Prop := ∃ W : Nat → Nat → Hp → Prop, (∃ m, W 0 m H0) ∧ ∀ i m H, W i m H →
  (J.stop i H ∧ fin H) ∨ (J.go i H ∧ ∃ Nx : Hp → Prop, (∀ H', Nx H' → ∃ m', m' < m ∧ W (i + 1) m' H') ∧ ∀ x H', J.yld i H x H' → tk Nx x H')
def tSet1 {P : Program} {w : World} (K : SK P w) (wi : TI) (g : TG) (tt : TT) (te : TE) (vs : List Nat) : TE := fun σ H Q => wi σ H fun J H1 => ∀ D, H1 D = none → tWalk J (upd H1 D (K.ho D K.z)) (fun H' => Q (.ref D) H') fun Nx x H' =>
  g x (wipe σ vs) H' fun σ2 H2 => wipe σ2 vs = wipe σ vs ∧ tt σ2 H2 fun b H3 => kAdd K te D Nx b σ2 H3
def tSet2 {P : Program} {w : World} (K : SK P w) (wi : TI) (g : TG) (tt : TT) (wj : TI) (g2 : TG) (tt2 : TT) (te : TE) (vs us : List Nat) : TE := fun σ H Q => wi σ H fun J H1 => ∀ D, H1 D = none → tWalk J (upd H1 D (K.ho D K.z)) (fun H' => Q (.ref D) H') fun Nx x H' =>
  g x (wipe σ vs) H' fun σ2 H2 => wipe σ2 vs = wipe σ vs ∧ tt σ2 H2 fun b H3 => if b = true then wj σ2 H3 fun J2 H4 => tWalk J2 H4 Nx fun Nx2 x2 H5 =>
    g2 x2 (wipe σ2 us) H5 fun σ3 H6 => wipe σ3 us = wipe σ2 us ∧ tt2 σ3 H6 fun b H7 => kAdd K te D Nx2 b σ3 H7 else Nx H3
theorem mem_pins {fp : List Addr} {h : Heap} {pins : List (Addr × Obj)} {Y : Cx} {σ : L2.St} {H : Hp} {s : Shared} (I : L2.Inv Y (pins ++ pinsAt fp h) σ H s) : ∀ b ∈ fp, ∀ o, h.get? b = some o → s.heap.get? b = some o ∧ H b = none := fun b hb o q =>
  let z := I.pin (b, o) (List.mem_append_right _ (List.mem_append_right _ (mem_pinsAt hb q)))
  ⟨z.1, z.2.1⟩
theorem pe_set1 {K : SK X.prog X.w} {e t i : Expr} {f : List Expr} {sc : Scope} {own : List (PySem.Str × Nat)} {p : Pos} {wi : TI} {g : TG} {tt : TT} {te : TE} (hc : X.calm = true) (hN : X.N.Nodup) (hi : PI X t i wi) (ok : BlkOk X.N X.env.scope sc own)
    (hg : PGb X sc t g) (ht : PTb X sc f tt) (he : PEb X sc e te) (hs : ∀ x, foldedSetIterable i X.env x = pure x) : PE X (sc1 e t i f sc p) (tSet1 K wi g tt te (own.map (·.2))) := by
  refine ⟨fun pins s σ H Q I h => ?_⟩
  rw [PpSet.eval_SetComp]
  refine set_open (K := K) hN I hi ok hs h (Q := Q) (fun D C s' m H' I' q hn F => ⟨m, hn, fun h'' sb => ?_⟩) fun D it C fp tn J H2 s3 s4 cl o rw2 leave => ?_
  · obtain ⟨f0, f1, f2, f3, f4, f5⟩ := F
    exact ⟨.ref D, H', I'.turned (t' := s'.toks) (fun b o hb q => (sb.2 b hb).trans q) f0 f1 f3 f4 f5, rfl, q⟩
  · obtain ⟨W, ⟨m0, w0⟩, turn⟩ := rw2 D o.new
    have T := o.trn
    refine PpSet.compLoopS_any (fun n s' => ∃ i H', L2.Inv (X.blk s3 (upd H2 D (K.ho D K.z)) sc (compEnvC sc cl C X.env) fp) [] (wipe σ (own.map (·.2))) H' s' ∧ tn i s'.heap ∧ (∀ b ∈ fp, H' b = none) ∧ W i n H') ?_ m0 ⟨0, _, o.inv, o.st, o.no, w0⟩
    rintro n s5 ⟨i, H5, I5, st5, n5, w5⟩
    rcases turn i n H5 w5 with ⟨stop, qq⟩ | ⟨go, Nx, hNx, step⟩
    · refine thnF (T.done (X.blk s3 _ sc _ fp) rfl rfl rfl hc i [] s5 _ H5 (fun _ _ => False) I5 (o.fp I5 n5) st5 stop) fun r s6 ⟨hr, I6⟩ => ?_
      subst hr
      exact leave H5 s6 I6 qq
    · refine thnF (T.item (X.blk s3 _ sc _ fp) rfl rfl rfl hc i [] s5 _ H5 (fun _ _ => False) I5 (o.fp I5 n5) st5 go) fun r s6 ⟨u, hr, h6⟩ => ?_
      subst hr
      refine thnF h6 fun _ s7 ⟨x, H7, I7, r7, y7, st7, n7⟩ => ?_
      refine thnF ((hg _ _ _ _ _).run _ s7 _ H7 x u _ (I7.pinned (o.fp I7 n7) (T.obj _ _ st7)) r7 (step x H7 y7)) fun _ s8 ⟨σ8, H8, I8, hw8, q8⟩ => thnF ((ht _ _ _ _ _).run _ s8 σ8 H8 _ I8 q8) fun b s9 ⟨H9, I9, q9⟩ => ?_
      have fin : ∀ {s' : Shared} {H' : Hp}, L2.Inv (X.blk s3 (upd H2 D (K.ho D K.z)) sc (compEnvC sc cl C X.env) fp) ([] ++ pinsAt fp s7.heap) σ8 H' s' → Nx H' → ∃ m, m < n ∧ ∃ i H', L2.Inv (X.blk s3 (upd H2 D (K.ho D K.z)) sc (compEnvC sc cl C X.env) fp) [] (wipe σ (own.map (·.2))) H' s' ∧ tn i s'.heap ∧ (∀ b ∈ fp, H' b = none) ∧ W i m H' := fun {s' H'} I' nx => by
        obtain ⟨m', hm, w'⟩ := hNx H' nx
        have pn := mem_pins I'
        refine ⟨m', hm, i + 1, H', I'.unpinned.weak (by rw [← hw8, wipe_length]) (fun j v q => by rw [← hw8] at q; exact (wipe_some q).1), T.keep _ _ _ st7 fun b hb o q => (pn b hb o q).1, fun b hb => ?_, w'⟩
        obtain ⟨o, q, _⟩ := T.obj _ _ st7 b hb
        exact (pn b hb o q).2
      cases b with
      | false => exact fin I9 q9
      | true =>
        rw [kAdd, if_pos rfl] at q9
        rw [if_pos rfl]
        exact thnF ((he _ _ _ _ _).run _ s9 σ8 H9 _ I9 q9) fun z s10 ⟨yv, H10, I10, r10, t0, t1, hD10, ad, nx⟩ => K.ok (X.blk s3 _ sc _ fp) rfl rfl _ _ _ _ _ D t0 t1 yv z _ I10 hD10 ad r10 fun s11 I11 => fin I11 nx
theorem pe_set2 {K : SK X.prog X.w} {e t i u j : Expr} {f f2 : List Expr} {sc : Scope} {own : List (PySem.Str × Nat)} {us : List Nat} {p : Pos} {wi wj : TI} {g g2 : TG} {tt tt2 : TT} {te : TE} (hc : X.calm = true) (hN : X.N.Nodup) (hi : PI X t i wi) (ok : BlkOk X.N X.env.scope sc own) (hv : ∀ i ∈ us, i ∈ own.map (·.2))
    (hg : PGb X sc t g) (ht : PTb X sc f tt) (hj : PIb X sc u j wj) (hg2 : PGb X sc u g2) (ht2 : PTb X sc f2 tt2) (he : PEb X sc e te) (hs : ∀ x, foldedSetIterable i X.env x = pure x) (hs2 : ∀ env x, foldedSetIterable j env x = pure x) :
    PE X (sc2 e t i u j f f2 sc p) (tSet2 K wi g tt wj g2 tt2 te (own.map (·.2)) us) := by
  refine ⟨fun pins s σ H Q I h => ?_⟩
  rw [PpSet.eval_SetComp]
  refine set_open (K := K) hN I hi ok hs h (Q := Q) (fun D C s' m H' I' q hn F => ⟨m, hn, fun h'' sb => ?_⟩) fun D it C fp tn J H2 s3 s4 cl o rw2 leave => ?_
  · obtain ⟨f0, f1, f2, f3, f4, f5⟩ := F
    exact ⟨.ref D, H', I'.turned (t' := s'.toks) (fun b o hb q => (sb.2 b hb).trans q) f0 f1 f3 f4 f5, rfl, q⟩
  · obtain ⟨W, ⟨m0, w0⟩, turn⟩ := rw2 D o.new
    have T := o.trn
    refine loopA (hs2 _) (fun n s' => ∃ i H', L2.Inv (X.blk s3 (upd H2 D (K.ho D K.z)) sc (compEnvC sc cl C X.env) fp) [] (wipe σ (own.map (·.2))) H' s' ∧ tn i s'.heap ∧ (∀ b ∈ fp, H' b = none) ∧ W i n H') ?_ m0 ⟨0, _, o.inv, o.st, o.no, w0⟩
    rintro n s5 ⟨iv, H5, I5, st5, n5, w5⟩
    rcases turn iv n H5 w5 with ⟨stop, qq⟩ | ⟨go, Nx, hNx, step⟩
    · refine thnF (T.done (X.blk s3 _ sc _ fp) rfl rfl rfl hc iv [] s5 _ H5 (fun _ _ => False) I5 (o.fp I5 n5) st5 stop) fun r s6 ⟨hr, I6⟩ => ?_
      subst hr
      exact leave H5 s6 I6 qq
    · refine thnF (T.item (X.blk s3 _ sc _ fp) rfl rfl rfl hc iv [] s5 _ H5 (fun _ _ => False) I5 (o.fp I5 n5) st5 go) fun r s6 ⟨uv, hr, h6⟩ => ?_
      subst hr
      refine thnF h6 fun _ s7 ⟨x, H7, I7, r7, y7, st7, n7⟩ => ?_
      refine thnF ((hg _ _ _ _ _).run _ s7 _ H7 x uv _ (I7.pinned (o.fp I7 n7) (T.obj _ _ st7)) r7 (step x H7 y7)) fun _ s8 ⟨σ8, H8, I8, hw8, q8⟩ => thnF ((ht _ _ _ _ _).run _ s8 σ8 H8 _ I8 q8) fun b s9 ⟨H9, I9, q9⟩ => ?_
      have fin : ∀ {σ9 : L2.St} {s' : Shared} {H' : Hp}, L2.Inv (X.blk s3 (upd H2 D (K.ho D K.z)) sc (compEnvC sc cl C X.env) fp) ([] ++ pinsAt fp s7.heap) σ9 H' s' → (wipe σ (own.map (·.2))).length = σ9.length → (∀ (j : Nat) v, (wipe σ (own.map (·.2)))[j]? = some (some v) → σ9[j]? = some (some v)) → Nx H' →
          ∃ m, m < n ∧ ∃ i H', L2.Inv (X.blk s3 (upd H2 D (K.ho D K.z)) sc (compEnvC sc cl C X.env) fp) [] (wipe σ (own.map (·.2))) H' s' ∧ tn i s'.heap ∧ (∀ b ∈ fp, H' b = none) ∧ W i m H' := fun {σ9 s' H'} I' hl hk nx => by
        obtain ⟨m', hm, w'⟩ := hNx H' nx
        have pn := mem_pins I'
        refine ⟨m', hm, iv + 1, H', I'.unpinned.weak hl hk, T.keep _ _ _ st7 fun b hb o q => (pn b hb o q).1, fun b hb => ?_, w'⟩
        obtain ⟨o, q, _⟩ := T.obj _ _ st7 b hb
        exact (pn b hb o q).2
      have hl8 : (wipe σ (own.map (·.2))).length = σ8.length := by rw [← hw8, wipe_length]
      have hk8 : ∀ (j : Nat) v, (wipe σ (own.map (·.2)))[j]? = some (some v) → σ8[j]? = some (some v) ∧ j ∉ own.map (·.2) := fun j v q => by
        rw [← hw8] at q
        exact wipe_some q
      cases b with
      | false => exact fin I9 hl8 (fun j v q => (hk8 j v q).1) q9
      | true =>
        rw [if_pos rfl] at q9 ⊢
        refine thnF ((hj _ _ _ _ _).run _ s9 σ8 H9 _ I9 q9) fun xv s10 hx => thnF hx fun itv s11 ⟨it1, fp1, tn1, J1, H11, e1, I11, T1, st11, f11, W1, ⟨m1, w1⟩, turn1⟩ => ?_
        subst e1
        have stat1 : ∀ {H' : Hp}, (∀ b ∈ fp1, H' b = none) → ∀ b ∈ fp1, FpOk (X.blk s3 (upd H2 D (K.ho D K.z)) sc (compEnvC sc cl C X.env) fp) ([] ++ pinsAt fp s7.heap) H' b := fun hn b hb => ⟨hn b hb, (f11 b hb).2⟩
        have loop1 : codeAny (model X.prog X.w) X.A (.compLoop (sc2 e t i u j f f2 sc p) 1 (.ref it1) (.ref D) (compEnvC sc cl C X.env)) (fun r s' => match r with
              | .ok _ => ∃ m, m < n ∧ ∃ i H', L2.Inv (X.blk s3 (upd H2 D (K.ho D K.z)) sc (compEnvC sc cl C X.env) fp) [] (wipe σ (own.map (·.2))) H' s' ∧ tn i s'.heap ∧ (∀ b ∈ fp, H' b = none) ∧ W i m H'
              | .error _ => False) s11 := by
          refine loopB (fun k s' => ∃ j H', L2.Inv (X.blk s3 (upd H2 D (K.ho D K.z)) sc (compEnvC sc cl C X.env) fp) ([] ++ pinsAt fp s7.heap) (wipe σ8 us) H' s' ∧ tn1 j s'.heap ∧ (∀ b ∈ fp1, H' b = none) ∧ W1 j k H') ?_ m1 ⟨0, H11, I11.weak (wipe_length _ _) (fun j v q => (wipe_some q).1), st11, fun b hb => (f11 b hb).1, w1⟩
          rintro k s12 ⟨jv, H12, I12, st12, n12, w12⟩
          rcases turn1 jv k H12 w12 with ⟨stop1, nx1⟩ | ⟨go1, Nx1, hNx1, step1⟩
          · refine thnF (T1.done (X.blk s3 _ sc _ fp) rfl rfl rfl hc jv _ s12 (wipe σ8 us) H12 (fun _ _ => False) I12 (stat1 n12) st12 stop1) fun r s13 ⟨hr, I13⟩ => ?_
            subst hr
            exact fin I13 (hl8.trans (wipe_length σ8 us).symm) (fun j v q => (wipe_out fun z => (hk8 j v q).2 (hv j z)).trans (hk8 j v q).1) nx1
          · refine thnF (T1.item (X.blk s3 _ sc _ fp) rfl rfl rfl hc jv _ s12 (wipe σ8 us) H12 (fun _ _ => False) I12 (stat1 n12) st12 go1) fun r s13 ⟨u1, hr, h13⟩ => ?_
            subst hr
            refine thnF h13 fun _ s14 ⟨x1, H14, I14, r14, y14, st14, n14⟩ => ?_
            refine thnF ((hg2 _ _ _ _ _).run _ s14 (wipe σ8 us) H14 x1 u1 _ (I14.pinned (stat1 n14) (T1.obj _ _ st14)) r14 (step1 x1 H14 y14)) fun _ s15 ⟨σ15, H15, I15, hw15, q15⟩ => thnF ((ht2 _ _ _ _ _).run _ s15 σ15 H15 _ I15 q15) fun b1 s16 ⟨H16, I16, q16⟩ => ?_
            have fin1 : ∀ {s' : Shared} {H' : Hp}, L2.Inv (X.blk s3 (upd H2 D (K.ho D K.z)) sc (compEnvC sc cl C X.env) fp) (([] ++ pinsAt fp s7.heap) ++ pinsAt fp1 s14.heap) σ15 H' s' → Nx1 H' →
                ∃ m, m < k ∧ ∃ j H', L2.Inv (X.blk s3 (upd H2 D (K.ho D K.z)) sc (compEnvC sc cl C X.env) fp) ([] ++ pinsAt fp s7.heap) (wipe σ8 us) H' s' ∧ tn1 j s'.heap ∧ (∀ b ∈ fp1, H' b = none) ∧ W1 j m H' := fun {s' H'} I' nx => by
              obtain ⟨m', hm, w'⟩ := hNx1 H' nx
              have pn := mem_pins I'
              refine ⟨m', hm, jv + 1, H', I'.unpinned.weak (by rw [← hw15, wipe_length]) (fun j v q => by rw [← hw15] at q; exact (wipe_some q).1), T1.keep _ _ _ st14 fun b hb o q => (pn b hb o q).1, fun b hb => ?_, w'⟩
              obtain ⟨o, q, _⟩ := T1.obj _ _ st14 b hb
              exact (pn b hb o q).2
            cases b1 with
            | false => exact fin1 I16 q16
            | true =>
              rw [kAdd, if_pos rfl] at q16
              rw [if_pos rfl]
              exact thnF ((he _ _ _ _ _).run _ s16 σ15 H16 _ I16 q16) fun z s17 ⟨yv, H17, I17, r17, t0, t1, hD17, ad, nx⟩ => K.ok (X.blk s3 _ sc _ fp) rfl rfl _ _ _ _ _ D t0 t1 yv z _ I17 hD17 ad r17 fun s18 I18 => fin1 I18 nx
        exact startB loop1 (T1.self X.A 0 _ _ _ st11 loop1)
end
end GM
end
section
set_option Elab.async false
set_option linter.all false
set_option maxRecDepth 100000
set_option maxHeartbeats 4000000
namespace GM
open PySem PySem.Spec PyProof.Rows L2

/-! ### ints in a row, each once -/
theorem insI_mem {n k : Int} : ∀ {l : List Int}, k ∈ insI n l ↔ k = n ∨ k ∈ l
  | [] => by simp [insI]
  | x :: xs => by
    unfold insI
    split
    · simp
    · split
      · rename_i h; subst h; simp
      · simp only [List.mem_cons, insI_mem]
        constructor
        · rintro (h | h | h)
          · exact .inr (.inl h)
          · exact .inl h
          · exact .inr (.inr h)
        · rintro (h | h | h)
          · exact .inr (.inl h)
          · exact .inl h
          · exact .inr (.inr h)
theorem insI_pw {n : Int} : ∀ {l : List Int}, l.Pairwise (· < ·) → (insI n l).Pairwise (· < ·)
  | [], _ => by simp [insI]
  | x :: xs, h => by
    obtain ⟨h1, h2⟩ := List.pairwise_cons.mp h
    unfold insI
    split
    · rename_i q
      exact List.pairwise_cons.mpr ⟨fun a ha => (List.mem_cons.mp ha).elim (fun e => e ▸ q) fun m => Int.lt_trans q (h1 a m), h⟩
    · split
      · exact h
      · refine List.pairwise_cons.mpr ⟨fun a ha => ?_, insI_pw h2⟩
        rcases insI_mem.mp ha with e | m
        · omega
        · exact h1 a m
theorem insI_len {n : Int} : ∀ {l : List Int}, l.Pairwise (· < ·) → (insI n l).length = if n ∈ l then l.length else l.length + 1
  | [], _ => by simp [insI]
  | x :: xs, h => by
    obtain ⟨h1, h2⟩ := List.pairwise_cons.mp h
    unfold insI
    split
    · rename_i q
      have hn : n ∉ x :: xs := fun m => (List.mem_cons.mp m).elim (fun e => by omega) fun m => by have := h1 n m; omega
      rw [if_neg hn]; simp
    · split
      · rename_i e; subst e; simp
      · rename_i a b
        rw [List.length_cons, insI_len h2]
        by_cases m : n ∈ xs
        · rw [if_pos m, if_pos (List.mem_cons_of_mem _ m), List.length_cons]
        · rw [if_neg m, if_neg (by simp [m, b]), List.length_cons]
theorem isetI_app (a : List Int) (n : Int) : isetI (a ++ [n]) = insI n (isetI a) := by simp [isetI]
theorem fold_pw : ∀ (ns a : List Int), a.Pairwise (· < ·) → (ns.foldl (fun a n => insI n a) a).Pairwise (· < ·)
  | [], _, h => h
  | n :: ns, a, h => fold_pw ns _ (insI_pw h)
theorem fold_mem {k : Int} : ∀ (ns a : List Int), k ∈ ns.foldl (fun a n => insI n a) a ↔ k ∈ a ∨ k ∈ ns
  | [], _ => by simp
  | n :: ns, a => by
    rw [List.foldl_cons, fold_mem ns, insI_mem, List.mem_cons]
    constructor
    · rintro ((h | h) | h)
      · exact .inr (.inl h)
      · exact .inl h
      · exact .inr (.inr h)
    · rintro (h | h | h)
      · exact .inl (.inr h)
      · exact .inl (.inl h)
      · exact .inr h
theorem fold_len : ∀ (ns a : List Int), a.Pairwise (· < ·) → a.length ≤ (ns.foldl (fun a n => insI n a) a).length
  | [], _, _ => Nat.le_refl _
  | n :: ns, a, h => by
    rw [List.foldl_cons]
    refine Nat.le_trans ?_ (fold_len ns _ (insI_pw h))
    rw [insI_len h]; split <;> omega
theorem isetI_pw (ns : List Int) : (isetI ns).Pairwise (· < ·) := fold_pw ns [] .nil
theorem isetI_mem {ns : List Int} {k : Int} : k ∈ isetI ns ↔ k ∈ ns := by rw [isetI, fold_mem]; simp
theorem isetI_len (a b : List Int) : (isetI a).length ≤ (isetI (a ++ b)).length := by
  rw [isetI, isetI, List.foldl_append]
  exact fold_len b _ (isetI_pw a)
theorem pw_uniq : ∀ {a b : List Int}, a.Pairwise (· < ·) → b.Pairwise (· < ·) → (∀ k, k ∈ a ↔ k ∈ b) → a = b
  | [], [], _, _, _ => rfl
  | [], y :: ys, _, _, h => absurd ((h y).mpr List.mem_cons_self) (by simp)
  | x :: xs, [], _, _, h => absurd ((h x).mp List.mem_cons_self) (by simp)
  | x :: xs, y :: ys, h1, h2, h => by
    obtain ⟨a1, a2⟩ := List.pairwise_cons.mp h1
    obtain ⟨b1, b2⟩ := List.pairwise_cons.mp h2
    have e : x = y := by
      rcases List.mem_cons.mp ((h x).mp List.mem_cons_self) with e | m
      · exact e
      · rcases List.mem_cons.mp ((h y).mpr List.mem_cons_self) with e | m2
        · exact e.symm
        · have := a1 y m2; have := b1 x m; omega
    subst e
    rw [pw_uniq a2 b2 fun k => ?_]
    constructor
    · intro m
      rcases List.mem_cons.mp ((h k).mp (List.mem_cons_of_mem _ m)) with e | m2
      · have := a1 k m; omega
      · exact m2
    · intro m
      rcases List.mem_cons.mp ((h k).mpr (List.mem_cons_of_mem _ m)) with e | m2
      · have := b1 k m; omega
      · exact m2

theorem R.bind_bind {α β γ : Type} (r : R α) (f : α → MH → R β) (g : β → MH → R γ) : (r.bind f).bind g = r.bind fun a h => (f a h).bind g := by cases r <;> rfl
section
variable {X : Cx} {T : Tab} {W : WX} {C : Cal}
/-- a walk of the evaluator is a walk of the code: B what holds at each turn, St by what is got so far -/
theorem tWalk_of {α : Type} {S : Sys} {H1 H0 : Hp} {μ1 : Nat → Addr} {h1 h5 : MH} {p : List GM.D × Option (Nat × List GM.D)} {J : L2.It} {f : GM.D → MH → R (List α)} {zs : List α} {B : (Nat → Addr) → MH → Hp → Prop} {St : List α → Hp → Prop} {fin : Hp → Prop} {tk : (Hp → Prop) → V → Hp → Prop}
    (rit : RIt S H1 μ1 h1.length p J) (hB : ∀ μ h H, B μ h H → HX H1 H ∧ (∀ n, n < h1.length → μ n = μ1 n) ∧ h1.length ≤ h.length ∧ SimH S μ h H)
    (q : goC p.2 f p.1 h1 = .ok zs h5) (b0 : B μ1 h1 H0) (s0 : St [] H0) (hf : ∀ μ H, B μ h5 H → St zs H → fin H)
    (step : ∀ x v μ h H H' ys h' acc zs' (Nx : Hp → Prop), B μ h H → St acc H → Same H H' → RD S H' μ h.length x v → f x h = .ok ys h' → acc ++ ys ++ zs' = zs → (∀ μ2 H2, B μ2 h' H2 → St (acc ++ ys) H2 → Nx H2) → tk Nx v H') : tWalk J H0 fin tk := by
  refine ⟨fun i m Hn => m = p.1.length - i ∧ i ≤ p.1.length ∧ ∃ μn hn acc zs', B μn hn Hn ∧ St acc Hn ∧ goC p.2 f (p.1.drop i) hn = .ok zs' h5 ∧ acc ++ zs' = zs, ⟨p.1.length, by simp, Nat.zero_le _, μ1, h1, [], zs, b0, s0, by rw [List.drop_zero]; exact q, rfl⟩, ?_⟩
  rintro i m Hn ⟨rfl, hi, μn, hn, acc, zs', bn, sn, qn, ez⟩
  obtain ⟨x1, x2, x3, x4⟩ := hB _ _ _ bn
  have rt := rit μn hn Hn x1 x2 x3 x4
  by_cases hlt : i < p.1.length
  · have ex : p.1[i]? = some p.1[i] := List.getElem?_eq_getElem hlt
    rw [List.drop_eq_getElem_cons hlt, goC] at qn
    by_cases so : srcOk p.2 hn
    case neg => rw [if_neg so] at qn; cases qn
    rw [if_pos so] at qn
    obtain ⟨go, yl⟩ := (rt so i).1 _ ex
    refine .inr ⟨go, _, fun H' z => z, fun v H2 y => ?_⟩
    obtain ⟨sm, rx⟩ := yl v H2 y
    generalize p.1[i] = xd at qn rx
    cases qf : f xd hn with
    | exc c pl h6 => rw [qf] at qn; cases qn
    | bad => rw [qf] at qn; cases qn
    | ok ys h6 =>
      rw [qf] at qn
      dsimp only at qn
      obtain ⟨zs1, h7, qg, qn⟩ := ok_of qn
      injection qn with qz qh
      subst qh
      refine step xd v μn hn Hn H2 ys h6 acc zs1 _ bn sn sm rx qf (by rw [← ez, ← qz, List.append_assoc]) fun μ2 H3 b2 s2 => ?_
      exact ⟨p.1.length - (i + 1), by omega, rfl, hlt, μ2, h6, acc ++ ys, zs1, b2, s2, qg, by rw [← ez, ← qz, List.append_assoc]⟩
  · rw [List.drop_eq_nil_of_le (by omega), goC] at qn
    by_cases so : srcOk p.2 hn
    case neg => rw [if_neg so] at qn; cases qn
    rw [if_pos so] at qn
    injection qn with qz qh
    subst qz qh
    rw [List.append_nil] at ez
    subst ez
    exact .inl ⟨(rt so i).2 (by omega), hf μn Hn bn sn⟩

/-- one turn of a clause -/
def outF {α : Type} (k : Env → MH → R (List α)) (C : Cal) (t : Tg) (ifs : Es) (ρw : Env) : GM.D → MH → R (List α) := fun x h => match asgT t x ρw with
  | some ρ1 => (evIfs C ifs ρ1 h).bind fun b h => if b = true then k ρ1 h else .ok [] h
  | none => .bad
def kIn {α : Type} (k : Env → MH → R (List α)) (C : Cal) (t2 : Tg) (i2 : It) (ifs2 : Es) : Env → MH → R (List α) := fun ρ1 h => (evIt C i2 ρ1 h).bind fun p2 h => need (decide (p2.1.length ≤ 3000)) (goC p2.2 (outF k C t2 ifs2 (wipeE ρ1 t2.slots)) p2.1 h)
theorem evCls_one {α : Type} {k : Env → MH → R (List α)} {t : Tg} {i : It} {ifs : Es} {ρw ρ : Env} {h : MH} : evCls k C (.one t i ifs) ρw ρ h = (evIt C i ρ h).bind fun p h => need (decide (p.1.length ≤ listMax)) (goC p.2 (outF k C t ifs ρw) p.1 h) := by rw [evCls]; rfl
theorem evCls_two {α : Type} {k : Env → MH → R (List α)} {t t2 : Tg} {i i2 : It} {ifs ifs2 : Es} {ρw ρ : Env} {h : MH} : evCls k C (.two t i ifs t2 i2 ifs2) ρw ρ h = (evIt C i ρ h).bind fun p h => need (decide (p.1.length ≤ 3000)) (goC p.2 (outF (kIn k C t2 i2 ifs2) C t ifs ρw) p.1 h) := by rw [evCls]; rfl
abbrev kI (C : Cal) (elt : E) : Env → MH → R (List Int) := fun ρ h => (evE C elt ρ h).bind fun d h => R.ofO (dInt d) h
/-- the set at D has the ints got -/
def SI (X : Cx) (D : Addr) (acc : List Int) (H : Hp) : Prop := H D = some (SetO X.w D (fun j => decide (j ∈ acc)) (isetI acc).length)
theorem hx_set {H : Hp} {D : Addr} {w : World} {S : Int → Bool} {n : Nat} (e : H D = some (SetO w D S n)) (o : HO) : HX H (upd H D o) := hx_upd e (fun _ z => nomatch z) (fun _ _ z => nomatch z)
theorem si_add {D : Addr} {acc : List Int} {H : Hp} {k : Int} (h : SI X D acc H) : SI X D (acc ++ [k]) (upd H D (SetO X.w D (fun j => (fun j => decide (j ∈ acc)) j || decide (j = k)) (if (fun j => decide (j ∈ acc)) k = true then (isetI acc).length else (isetI acc).length + 1))) := by
  have e1 : (fun j => (fun j => decide (j ∈ acc)) j || decide (j = k)) = fun j => decide (j ∈ acc ++ [k]) := by
    funext j
    simp
  have e2 : (if (fun j => decide (j ∈ acc)) k = true then (isetI acc).length else (isetI acc).length + 1) = (isetI (acc ++ [k])).length := by
    rw [isetI_app, insI_len (isetI_pw acc)]
    by_cases m : k ∈ acc
    · rw [if_pos (by simpa using m), if_pos (isetI_mem.mpr m)]
    · rw [if_neg (by simpa using m), if_neg fun z => m (isetI_mem.mp z)]
  unfold SI
  rw [e1, e2, upd_same]
/-- what holds at each turn -/
structure SB (S : Sys) (D : Addr) (μ1 : Nat → Addr) (h1 : MH) (H1 : Hp) (μ : Nat → Addr) (h : MH) (H : Hp) : Prop where
  ex : Ext μ1 h1 H1 μ h H
  sm : SimH S μ h H
  fr : Fr μ h.length D
theorem SB.next {S : Sys} {D : Addr} {μ1 : Nat → Addr} {h1 : MH} {H1 : Hp} {μ : Nat → Addr} {h : MH} {H : Hp} (b : SB S D μ1 h1 H1 μ h H) {o : HO} (hd : H D = some o) {μ2 : Nat → Addr} {h2 : MH} {H2 : Hp} (e : Ext μ h H μ2 h2 H2) (s : SimH S μ2 h2 H2) : SB S D μ1 h1 H1 μ2 h2 H2 ∧ H2 D = some o :=
  let z := fr_ext e hd b.fr
  ⟨⟨b.ex.trans e, s, z.1⟩, z.2⟩
theorem goC_nx {α : Type} {src : Option (Nat × List GM.D)} {f : GM.D → MH → R (List α)} {c : Nat} {pl : List GM.D} {h' : MH} : ∀ (xs : List GM.D) (h : MH), goC src f xs h ≠ .exc c pl h'
  | [], h => by unfold goC; split <;> exact fun z => nomatch z
  | x :: xs, h => by
    unfold goC
    split
    · split
      · rename_i ys h1 _
        have ih := goC_nx (src := src) (f := f) (c := c) (pl := pl) (h' := h') xs h1
        cases q : goC src f xs h1 with
        | ok zs h2 => exact fun z => nomatch z
        | exc c2 pl2 h2 => intro z; rw [q] at ih; exact ih z
        | bad => exact fun z => nomatch z
      · exact fun z => nomatch z
    · exact fun z => nomatch z
/-- a turn's end -/
theorem ssort_end {D : Addr} {μ1 : Nat → Addr} {h1 : MH} {H1 : Hp} (hD : H1 D = none) {elt : E} {ρ2 : Env} {σ2 : L2.St} {b : Bool} {μ3 : Nat → Addr} {h3 : MH} {H3 : Hp} {acc ys zs' : List Int} {h' : MH} {Nx : Hp → Prop} (b3 : SB (sysOf X T) D μ1 h1 H1 μ3 h3 H3) (d3 : SI X D acc H3) (se : SimE (sysOf X T) ρ2 σ2 H3 μ3 h3.length)
    (qf : (if b = true then (evE C elt ρ2 h3).bind fun d h => R.ofO (dInt d) h else R.ok [] h3) = .ok ys h') (hz : (isetI (acc ++ ys ++ zs')).length < 64) (hN : ∀ μ2 H2, SB (sysOf X T) D μ1 h1 H1 μ2 h' H2 → SI X D (acc ++ ys) H2 → HX H3 H2 → (∀ n, n < h3.length → μ2 n = μ3 n) → h3.length ≤ h'.length → Nx H2) : kAdd (skI X.prog X.w) (tE X T W0 C elt) D Nx b σ2 H3 := by
  unfold kAdd
  cases b with
  | false =>
    rw [if_neg Bool.false_ne_true] at qf ⊢
    injection qf with qy qh
    subst qy qh
    exact hN μ3 H3 b3 (by rw [List.append_nil]; exact d3) (.refl H3) (fun _ _ => rfl) (Nat.le_refl _)
  | true =>
    rw [if_pos rfl] at qf ⊢
    obtain ⟨d4, h4, q4, qf⟩ := ok_of qf
    cases d4 with
    | int k =>
      injection (show R.ok [k] h4 = .ok ys h' from qf) with qy qh
      subst qy qh
      refine ⟨μ3, h3, ρ2, ⟨b3.sm, se⟩, post_ok q4 fun μ4 H4 v e4 s4 r4 => ?_⟩
      obtain ⟨b4, d4⟩ := b3.next d3 e4 s4
      obtain rfl : v = .int k := r4
      have hl := isetI_len acc ([k] ++ zs')
      rw [← List.append_assoc] at hl
      have hx := hx_set d4 (SetO X.w D (fun j => (fun j => decide (j ∈ acc)) j || decide (j = k)) (if (fun j => decide (j ∈ acc)) k = true then (isetI acc).length else (isetI acc).length + 1))
      exact ⟨(fun j => decide (j ∈ acc), (isetI acc).length), _, d4, ⟨k, rfl, by show (isetI acc).length + 1 < 4096; omega, rfl⟩, hN μ4 _ ⟨b4.ex.turn hD hx, s4.off b4.fr hx, b4.fr⟩ (si_add d4) (e4.hx.trans hx) e4.mu e4.len⟩
    | _ => cases qf
/-- the whole's end -/
theorem ssort_fin {D : Addr} {μ1 : Nat → Addr} {h1 h5 : MH} {H H1 : Hp} {σ : L2.St} {zs : List Int} {Q : VK} {μ5 : Nat → Addr} {H5 : Hp} (hk : ∀ a, H a ≠ none → H1 a ≠ none) (b5 : SB (sysOf X T) D μ1 h1 H1 μ5 h5 H5) (d5 : SI X D zs H5) (hz : (isetI zs).length < 64)
    (p : Post (sysOf X T) (RN (sysOf X T) H) W σ μ1 h1 H1 (.ok ((isetI zs).map GM.D.int) h5) Q) : rSortedSet X.w [.ref D] H5 Q := by
  refine ⟨D, _, _, rfl, d5, hz, fun ns a pw hm hl ha => ?_⟩
  obtain rfl : ns = isetI zs := pw_uniq pw (isetI_pw zs) fun k => (hm k).trans (by rw [isetI_mem]; simp)
  have sm := same_upd (o := .lst ((isetI zs).map V.int)) ha
  have rs : ∀ l : List Int, RDs (sysOf X T) (upd H5 a (.lst ((isetI zs).map V.int))) μ5 h5.length (l.map GM.D.int) (l.map V.int) := by
    intro l
    induction l with
    | nil => exact .nil
    | cons n l ih => exact .cons rfl ih
  have h0 : H a = none := Classical.byContradiction fun c => b5.ex.kp a (hk a c) ha
  exact p μ5 _ (.ref a) (b5.ex.trans (.sm sm)) (b5.sm.off (fr_of b5.sm ha) (.of sm)) ⟨a, _, rfl, upd_same, rs _, fr_of b5.sm ha, h0⟩
theorem w_ssort1 {elt : E} {t : Tg} {i : It} {ifs : Es} {own : List Nat} (hs : ∀ j ∈ t.slots, j ∈ own) {σ : L2.St} {H : Hp} {Q : VK} (hh : tL X T W C (.ssort elt (.one t i ifs) own) σ H Q) :
    tCB (rSortedSet X.w) (tCons (tSet1 (skI X.prog X.w) (tIt X T W C i) (gT (sysOf X T) t) (tIfs X T C ifs) (tE X T W0 C elt) own) tNil) σ H Q := by
  obtain ⟨μ, h, ρ, A, p⟩ := hh
  rw [evL, evCls_one] at p
  rw [R.bind_bind] at p
  refine step A p fun J H1 μ1 h1 pi e1 A1 rit p1 => ?_
  by_cases hlen : pi.1.length ≤ listMax
  case neg => rw [need, if_neg (by simpa using hlen)] at p1; exact p1.elim
  rw [need, if_pos (by simpa using hlen)] at p1
  cases q : goC pi.2 (outF (kI C elt) C t ifs (wipeE ρ own)) pi.1 h1 with
  | exc c pl h' => exact absurd q (goC_nx _ _)
  | bad => rw [q] at p1; exact p1.elim
  | ok zs h5 =>
    rw [q] at p1
    by_cases hz : (isetI zs).length < 64
    case neg => rw [R.bind, if_neg hz] at p1; exact p1.elim
    rw [R.bind, if_pos hz] at p1
    intro D hD
    refine tWalk_of rit (B := SB (sysOf X T) D μ1 h1 H1) (St := SI X D) (fun μ h H b => ⟨b.ex.hx, b.ex.mu, b.ex.len, b.sm⟩) q ⟨(Ext.refl μ1 h1 H1).turn hD (.of (same_upd hD)), A1.hp.off (fr_of A1.hp hD) (.of (same_upd hD)), fr_of A1.hp hD⟩ (by unfold SI; rw [upd_same]; rfl) (fun μ5 H5 b5 d5 => ssort_fin e1.kp b5 d5 hz p1) ?_
    intro x v μn hn Hn H2 ys h' acc zs' Nx bn dn sm rx qf ez hN
    have e2 : Ext μn hn Hn μn hn H2 := .sm sm
    obtain ⟨b2, d2⟩ := bn.next dn e2 (bn.sm.same sm)
    have se : SimE (sysOf X T) (wipeE ρ own) (wipe σ own) H2 μn hn.length := (A1.en.ext b2.ex).wipe own
    rw [outF] at qf
    cases qa : asgT t x (wipeE ρ own) with
    | none => rw [qa] at qf; cases qf
    | some ρ1 =>
      rw [qa] at qf
      obtain ⟨b, h3, q3, qf⟩ := ok_of qf
      refine ⟨μn, hn.length, _, x, ρ1, se, rx, qa, fun σ2 se2 w2 => ⟨by rw [w2 own hs, wipe_wipe fun _ h => h], μn, hn, ρ1, ⟨b2.sm, se2⟩, post_ok q3 fun μ3 H3 b' e3 s3 eb => ?_⟩⟩
      subst eb
      obtain ⟨b3, d3⟩ := b2.next d2 e3 s3
      exact ssort_end hD b3 d3 (se2.ext e3) qf (by rw [ez]; exact hz) fun μ2 H2 b d _ _ _ => hN μ2 H2 b d
theorem w_ssort2 {elt : E} {t t2 : Tg} {i i2 : It} {ifs ifs2 : Es} {own : List Nat} (hs : ∀ j ∈ t.slots, j ∈ own) {σ : L2.St} {H : Hp} {Q : VK} (hh : tL X T W C (.ssort elt (.two t i ifs t2 i2 ifs2) own) σ H Q) :
    tCB (rSortedSet X.w) (tCons (tSet2 (skI X.prog X.w) (tIt X T W C i) (gT (sysOf X T) t) (tIfs X T C ifs) (tIt X T W0 C i2) (gT (sysOf X T) t2) (tIfs X T C ifs2) (tE X T W0 C elt) own t2.slots) tNil) σ H Q := by
  obtain ⟨μ, h, ρ, A, p⟩ := hh
  rw [evL, evCls_two] at p
  rw [R.bind_bind] at p
  refine step A p fun J H1 μ1 h1 pi e1 A1 rit p1 => ?_
  by_cases hlen : pi.1.length ≤ 3000
  case neg => rw [need, if_neg (by simpa using hlen)] at p1; exact p1.elim
  rw [need, if_pos (by simpa using hlen)] at p1
  cases q : goC pi.2 (outF (kIn (kI C elt) C t2 i2 ifs2) C t ifs (wipeE ρ own)) pi.1 h1 with
  | exc c pl h' => exact absurd q (goC_nx _ _)
  | bad => rw [q] at p1; exact p1.elim
  | ok zs h5 =>
    rw [q] at p1
    by_cases hz : (isetI zs).length < 64
    case neg => rw [R.bind, if_neg hz] at p1; exact p1.elim
    rw [R.bind, if_pos hz] at p1
    intro D hD
    refine tWalk_of rit (B := SB (sysOf X T) D μ1 h1 H1) (St := SI X D) (fun μ h H b => ⟨b.ex.hx, b.ex.mu, b.ex.len, b.sm⟩) q ⟨(Ext.refl μ1 h1 H1).turn hD (.of (same_upd hD)), A1.hp.off (fr_of A1.hp hD) (.of (same_upd hD)), fr_of A1.hp hD⟩ (by unfold SI; rw [upd_same]; rfl) (fun μ5 H5 b5 d5 => ssort_fin e1.kp b5 d5 hz p1) ?_
    intro x v μn hn Hn H2 ys h' acc zs' Nx bn dn sm rx qf ez hN
    have e2 : Ext μn hn Hn μn hn H2 := .sm sm
    obtain ⟨b2, d2⟩ := bn.next dn e2 (bn.sm.same sm)
    have se : SimE (sysOf X T) (wipeE ρ own) (wipe σ own) H2 μn hn.length := (A1.en.ext b2.ex).wipe own
    rw [outF] at qf
    cases qa : asgT t x (wipeE ρ own) with
    | none => rw [qa] at qf; cases qf
    | some ρ1 =>
      rw [qa] at qf
      obtain ⟨b, h3, q3, qf⟩ := ok_of qf
      refine ⟨μn, hn.length, _, x, ρ1, se, rx, qa, fun σ2 se2 w2 => ⟨by rw [w2 own hs, wipe_wipe fun _ h => h], μn, hn, ρ1, ⟨b2.sm, se2⟩, post_ok q3 fun μ3 H3 b' e3 s3 eb => ?_⟩⟩
      subst eb
      obtain ⟨b3, d3⟩ := b2.next d2 e3 s3
      cases b with
      | false =>
        rw [if_neg Bool.false_ne_true] at qf ⊢
        injection qf with qy qh
        subst qy qh
        exact hN μ3 H3 b3 (by rw [List.append_nil]; exact d3)
      | true =>
        rw [if_pos rfl] at qf ⊢
        dsimp only [kIn] at qf
        obtain ⟨p2, h4, q4, qf⟩ := ok_of qf
        by_cases hl2 : p2.1.length ≤ 3000
        case neg => rw [need, if_neg (by simpa using hl2)] at qf; cases qf
        rw [need, if_pos (by simpa using hl2)] at qf
        refine ⟨μ3, h3, ρ1, ⟨b3.sm, se2.ext e3⟩, post_ok q4 fun μ4 H4 J1 e4 s4 rit1 => ?_⟩
        obtain ⟨b4, d4⟩ := b3.next d3 e4 s4
        have se4 : SimE (sysOf X T) ρ1 σ2 H4 μ4 h4.length := (se2.ext e3).ext e4
        refine tWalk_of rit1 (B := fun μ h H => SB (sysOf X T) D μ1 h1 H1 μ h H ∧ HX H4 H ∧ (∀ n, n < h4.length → μ n = μ4 n) ∧ h4.length ≤ h.length) (St := fun ys1 H => SI X D (acc ++ ys1) H) (fun μ h H b => ⟨b.2.1, b.2.2.1, b.2.2.2, b.1.sm⟩) qf ⟨b4, .refl H4, fun _ _ => rfl, Nat.le_refl _⟩ (by rw [List.append_nil]; exact d4) (fun μ5 H5 b5 d5 => hN μ5 H5 b5.1 d5) ?_
        intro x1 v1 μm hm Hm H6 ys1 h6 acc1 zs1 Nx1 bm dm sm1 rx1 qf1 ez1 hN1
        obtain ⟨bm, hxm, mum, lem⟩ := bm
        have e6 : Ext μm hm Hm μm hm H6 := .sm sm1
        obtain ⟨b6, d6⟩ := bm.next dm e6 (bm.sm.same sm1)
        have se6 : SimE (sysOf X T) (wipeE ρ1 t2.slots) (wipe σ2 t2.slots) H6 μm hm.length := ((se4.mono hxm mum lem).ext e6).wipe _
        rw [outF] at qf1
        cases qa1 : asgT t2 x1 (wipeE ρ1 t2.slots) with
        | none => rw [qa1] at qf1; cases qf1
        | some ρ2 =>
          rw [qa1] at qf1
          obtain ⟨b1, h8, q8, qf1⟩ := ok_of qf1
          refine ⟨μm, hm.length, _, x1, ρ2, se6, rx1, qa1, fun σ3 se3 w3 => ⟨by rw [w3 _ fun _ h => h, wipe_wipe fun _ h => h], μm, hm, ρ2, ⟨b6.sm, se3⟩, post_ok q8 fun μ8 H8 b' e8 s8 eb => ?_⟩⟩
          subst eb
          obtain ⟨b8, d8⟩ := b6.next d6 e8 s8
          have e68 := e6.trans e8
          refine ssort_end hD b8 d8 (se3.ext e8) qf1 (zs' := zs1 ++ zs') (by rw [← ez, ← ez1] at hz; simpa only [List.append_assoc] using hz) fun μ9 H9 b9 d9 x9 m9 l9 => hN1 μ9 H9 ⟨b9, (hxm.trans e68.hx).trans x9, fun n hn => ?_, Nat.le_trans lem (Nat.le_trans e68.len l9)⟩ (by rw [← List.append_assoc]; exact d9)
          have l1 := Nat.lt_of_lt_of_le hn lem
          rw [m9 n (Nat.lt_of_lt_of_le l1 e68.len), e68.mu n l1, mum n hn]
end
end GM
end
section
set_option Elab.async false
set_option linter.all false
set_option maxRecDepth 100000
namespace GM
open PySem PySem.Spec PyProof.Rows L2

/-! ### statements -/
def PostS (S : Sys) (W : WX) (D : Ends) (μ : Nat → Addr) (h : MH) (H : Hp) : RS → Prop
  | .nx ρ h' => ∀ μ' H' σ', Ext μ h H μ' h' H' → At S σ' H' μ' h' ρ → D.nx σ' H'
  | .bk ρ h' => ∀ μ' H' σ', Ext μ h H μ' h' H' → At S σ' H' μ' h' ρ → D.bk σ' H'
  | .ct ρ h' => ∀ μ' H' σ', Ext μ h H μ' h' H' → At S σ' H' μ' h' ρ → D.ct σ' H'
  | .ret d h' => ∀ μ' H' v, Ext μ h H μ' h' H' → SimH S μ' h' H' → RD S H' μ' h'.length d v → D.rt v H'
  | .exc c _ ρ h' => ∀ μ' H' σ', Ext μ h H μ' h' H' → At S σ' H' μ' h' ρ → W (.ref (S.ca c)) none σ' H'
  | .bad => False
def TMS (S : Sys) (W : WX) (ev : Env → MH → RS) : TS := fun D σ H => ∃ μ h ρ, At S σ H μ h ρ ∧ PostS S W D μ h H (ev ρ h)
section
variable {γ δ : Type} {S : Sys} {Rl1 : RlT γ δ} {W : WX} {D D' : Ends} {σ : L2.St} {μ μ1 : Nat → Addr} {h h1 : MH} {H H1 : Hp} {ρ : Env}
theorem PostS.rebase {r : RS} (e : Ext μ h H μ1 h1 H1) (p : PostS S W D μ h H r) : PostS S W D μ1 h1 H1 r := by
  cases r with
  | nx ρ h' => exact fun μ' H' σ' e' => p μ' H' σ' (e.trans e')
  | bk ρ h' => exact fun μ' H' σ' e' => p μ' H' σ' (e.trans e')
  | ct ρ h' => exact fun μ' H' σ' e' => p μ' H' σ' (e.trans e')
  | ret d h' => exact fun μ' H' v e' => p μ' H' v (e.trans e')
  | exc c pl ρ h' => exact fun μ' H' σ' e' => p μ' H' σ' (e.trans e')
  | bad => exact p
/-- an expression, then the rest -/
theorem stepS (A : At S σ H μ h ρ) {ev : Env → MH → R γ} {f : γ → MH → RS} {Q1 : δ → Hp → Prop} (p : PostS S W D μ h H (bindE (ev ρ h) ρ f))
    (k : ∀ v H1 μ1 h1 d, Ext μ h H μ1 h1 H1 → At S σ H1 μ1 h1 ρ → Rl1 H1 μ1 h1.length d v → PostS S W D μ h H (f d h1) → Q1 v H1) : TM S Rl1 W ev σ H Q1 := by
  refine ⟨μ, h, ρ, A, ?_⟩
  cases q : ev ρ h with
  | ok a h' =>
    rw [q] at p
    exact fun μ' H' v e s r => k v H' μ' h' a e (A.ext e s) r p
  | exc c pl h' =>
    rw [q] at p
    exact fun μ' H' e s => p μ' H' σ e (A.ext e s)
  | bad => rw [q] at p; exact p
theorem PostS.seq {r : RS} {f : Env → MH → RS} (p : PostS S W D μ h H (r.bind f)) : PostS S W { D with nx := fun σ' H' => ∃ μ' h' ρ', Ext μ h H μ' h' H' ∧ At S σ' H' μ' h' ρ' ∧ PostS S W D μ h H (f ρ' h') } μ h H r := by
  cases r with
  | nx ρ h' => exact fun μ' H' σ' e a => ⟨μ', h', ρ, e, a, p⟩
  | bk ρ h' => exact p
  | ct ρ h' => exact p
  | ret d h' => exact p
  | exc c pl ρ h' => exact p
  | bad => exact p
/-- behind a loop's turn -/
theorem PostS.turn {r : RS} {f : Env → MH → RS} {N : L2.St → Hp → Prop} (p : PostS S W D μ h H (turnOf r f)) (k : ∀ μ' h' ρ' σ' H', Ext μ h H μ' h' H' → At S σ' H' μ' h' ρ' → PostS S W D μ h H (f ρ' h') → N σ' H') :
    PostS S W { D with nx := N, ct := N, bk := D.nx } μ h H r := by
  cases r with
  | nx ρ h' => exact fun μ' H' σ' e a => k μ' h' ρ σ' H' e a p
  | ct ρ h' => exact fun μ' H' σ' e a => k μ' h' ρ σ' H' e a p
  | bk ρ h' => exact p
  | ret d h' => exact p
  | exc c pl ρ h' => exact p
  | bad => exact p
/-- unrebase: from a later place -/
theorem PostS.up {r : RS} (e : Ext μ h H μ1 h1 H1) (p : PostS S W D μ h H r) : PostS S W D μ1 h1 H1 r := p.rebase e
end

section
variable {X : Cx} {T : Tab} {W : WX} {C : Cal} {sub : Nat → Nat → Bool}
abbrev tS (X : Cx) (T : Tab) (W : WX) (sub : Nat → Nat → Bool) (C : Cal) (s : S) : TS := TMS (sysOf X T) W (evS sub C s)
abbrev tSs (X : Cx) (T : Tab) (W : WX) (sub : Nat → Nat → Bool) (C : Cal) (s : Ss) : TS := TMS (sysOf X T) W (evSs sub C s)
theorem w_asg {t : Tg} {e : E} {D : Ends} {σ : L2.St} {H : Hp} (hh : tS X T W sub C (.asg t e) D σ H) : tAsg (tE X T W C e) (gT (sysOf X T) t) D σ H := by
  obtain ⟨μ, h, ρ, A, p⟩ := hh
  rw [evS] at p
  refine stepS A p fun v H1 μ1 h1 d e1 A1 r1 p1 => ?_
  cases q : asgT t d ρ with
  | none => rw [q] at p1; exact p1.elim
  | some ρ1 => rw [q] at p1; exact ⟨μ1, h1.length, ρ, d, ρ1, A1.en, r1, q, fun σ1 se _ => p1 μ1 H1 σ1 e1 ⟨A1.hp, se⟩⟩
theorem w_asg2 {i j : Nat} {a b : E} {D : Ends} {σ : L2.St} {H : Hp} (hh : tS X T W sub C (.asg2 i j a b) D σ H) : tPar i j (tCons (tE X T W C a) (tCons (tE X T W C b) tNil)) D σ H := by
  obtain ⟨μ, h, ρ, A, p⟩ := hh
  rw [evS] at p
  refine stepS A p fun v H1 μ1 h1 d e1 A1 r1 p1 => stepS A1 (p1.rebase e1) fun w H2 μ2 h2 d2 e2 A2 r2 p2 => ?_
  split at p2
  · exact ⟨v, w, rfl, p2 μ2 H2 _ e2 ⟨A2.hp, (A2.en.set (r1.ext e2) i).set r2 j⟩⟩
  · exact p2.elim
def rSet (S : Sys) : TSet := fun o i v H Q => rSetL o i v H Q ∨ rDPut S o i v H fun _ H' => Q H'
theorem set_any (hb : Big X) : PSet X (rSet (sysOf X T)) := by
  intro pins s σ H o i v ov iv u Q I ro ri rv h
  rcases h with h | h
  · exact set_list pins s σ H o i v ov iv u Q I ro ri rv h
  · exact put_dict hb pins s σ H o i v ov iv u Q I ro ri rv h
theorem w_setI {o i e : E} {D : Ends} {σ : L2.St} {H : Hp} (hh : tS X T W sub C (.setI o i e) D σ H) : tAsg (tE X T W C e) (gSub (tE X T W C o) (tE X T W C i) (rSet (sysOf X T))) D σ H := by
  obtain ⟨μ, h, ρ, A, p⟩ := hh
  rw [evS] at p
  refine stepS A p fun v H1 μ1 h1 d e1 A1 r1 p1 => stepS A1 (p1.rebase e1) fun x H2 μ2 h2 d2 e2 A2 r2 p2 => stepS A2 (p2.rebase e2) fun y H3 μ3 h3 d3 e3 A3 r3 p3 => ?_
  have r1' := (r1.ext e2).ext e3
  have r2' := r2.ext e3
  have p3 := p3.rebase e3
  cases d2 with
  | ref n =>
    obtain ⟨hn, rfl⟩ := r2'
    dsimp only at p3
    cases q : h3[n]? with
    | none => rw [q] at p3; exact p3.elim
    | some o =>
      rw [q] at p3
      cases o with
      | lst xs =>
        cases d3 with
        | int k =>
          obtain rfl : y = .int k := r3
          dsimp only at p3
          cases q2 : ixO xs.length k with
          | none => rw [q2] at p3; exact p3.elim
          | some j =>
            rw [q2] at p3
            obtain ⟨vs, ha, rs⟩ := live_l A3.hp q
            have hx := hx_lst ha (.lst (vs.set j v))
            have ee : Ext μ3 h3 H3 μ3 (h3.set n (.lst (xs.set j d))) (upd H3 (μ3 n) (.lst (vs.set j v))) := .write (List.getElem?_eq_some_iff.mp q).1 hx
            exact .inl ⟨_, vs, k, j, rfl, rfl, ha, by rw [← rs.length]; exact q2, p3 μ3 _ _ ee (A3.ext ee (A3.hp.write q (fun z => nomatch z) hx ⟨_, upd_same, (rs.set r1' j).mono hx (fun _ _ => rfl) (Nat.le_refl _)⟩))⟩
        | _ => exact p3.elim
      | dic kvs =>
        have p3' : PostS (sysOf X T) W D μ3 h3 H3 (if kf kvs d3 = true ∧ kvs.length < listMax then .nx ρ (h3.set n (.dic (dput kvs d3 d))) else .bad) := by
          cases d3 <;> exact p3
        split at p3'
        · rename_i c
          have da := live_d A3.hp q
          have lv := da_live (T := T) da
          refine .inr ⟨μ3, h3.length, _, kvs, d3, d, rfl, da, c.1, r3, r1', c.2, fun o' da' => ?_⟩
          have ee : Ext μ3 h3 H3 μ3 (h3.set n (.dic (dput kvs d3 d))) (upd H3 (μ3 n) o') := .write (List.getElem?_eq_some_iff.mp q).1 (lv.2 o')
          exact p3' μ3 _ _ ee (A3.ext ee (A3.hp.write q (fun z => nomatch z) (lv.2 o') (os_of_da da')))
        · exact p3'.elim
      | _ => exact p3.elim
  | _ => exact p3.elim
def augF : Bop → Int → Int → Int
  | .add, i, j => i + j
  | _, i, j => i - j
theorem w_aug {i : Nat} {o : Bop} {e : E} {D : Ends} {σ : L2.St} {H : Hp} (ho : o = .add ∨ o = .sub) (hh : tS X T W sub C (.aug i o e) D σ H) : tAug i (tE X T W C e) (ipI (augF o)) D σ H := by
  obtain ⟨μ, h, ρ, A, p⟩ := hh
  rw [evS] at p
  cases q : ρ[i]? with
  | none => rw [q] at p; exact p.elim
  | some od =>
    cases od with
    | none => rw [q] at p; exact p.elim
    | some d =>
      rw [q] at p
      obtain ⟨v, ev, rv⟩ := A.en.2 i d q
      refine ⟨v, ev, stepS A p fun y H1 μ1 h1 d2 e1 A1 r1 p1 => ?_⟩
      cases d with
      | int x =>
        cases d2 with
        | int z =>
          obtain rfl : v = .int x := rv
          obtain rfl : y = .int z := r1
          refine ⟨x, z, rfl, rfl, ?_⟩
          have e2 : opBin o (.int x) (.int z) = some (.int (augF o x z)) := by
            rcases ho with rfl | rfl <;> rfl
          dsimp only at p1
          rw [e2] at p1
          dsimp only at p1
          rw [if_pos ho] at p1
          exact p1 μ1 H1 _ e1 ⟨A1.hp, A1.en.set (d := .int (augF o x z)) rfl i⟩
        | _ => exact p1.elim
      | _ => exact p1.elim
theorem w_ex {e : E} {D : Ends} {σ : L2.St} {H : Hp} (hh : tS X T W sub C (.ex e) D σ H) : tDrop (tE X T W C e) D σ H := by
  obtain ⟨μ, h, ρ, A, p⟩ := hh
  rw [evS] at p
  exact stepS A p fun v H1 μ1 h1 d e1 A1 r1 p1 => p1 μ1 H1 σ e1 A1
theorem w_ret {e : E} {D : Ends} {σ : L2.St} {H : Hp} (hh : tS X T W sub C (.ret e) D σ H) : tRet (tE X T W C e) D σ H := by
  obtain ⟨μ, h, ρ, A, p⟩ := hh
  rw [evS] at p
  exact stepS A p fun v H1 μ1 h1 d e1 A1 r1 p1 => p1 μ1 H1 v e1 A1.hp r1
theorem w_retN {D : Ends} {σ : L2.St} {H : Hp} (hh : tS X T W sub C .retN D σ H) : tRetN D σ H := by
  obtain ⟨μ, h, ρ, A, p⟩ := hh
  rw [evS] at p
  exact p μ H .non (.refl _ _ _) A.hp rfl
theorem w_pass {D : Ends} {σ : L2.St} {H : Hp} (hh : tS X T W sub C .pass D σ H) : tNext D σ H := by
  obtain ⟨μ, h, ρ, A, p⟩ := hh
  rw [evS] at p
  exact p μ H σ (.refl _ _ _) A
theorem w_brk {D : Ends} {σ : L2.St} {H : Hp} (hh : tS X T W sub C .brk D σ H) : tBreak D σ H := by
  obtain ⟨μ, h, ρ, A, p⟩ := hh
  rw [evS] at p
  exact p μ H σ (.refl _ _ _) A
theorem w_cont {D : Ends} {σ : L2.St} {H : Hp} (hh : tS X T W sub C .cont D σ H) : tCont D σ H := by
  obtain ⟨μ, h, ρ, A, p⟩ := hh
  rw [evS] at p
  exact p μ H σ (.refl _ _ _) A
theorem w_raise {c : Nat} {D : Ends} {σ : L2.St} {H : Hp} (hh : tS X T W sub C (.raise c) D σ H) : W (.ref (T.ca c)) none σ H := by
  obtain ⟨μ, h, ρ, A, p⟩ := hh
  rw [evS] at p
  exact p μ H σ (.refl _ _ _) A
theorem w_if {c : E} {a b : Ss} {D : Ends} {σ : L2.St} {H : Hp} (hh : tS X T W sub C (.ite c a b) D σ H) : tIfS (tT X T W C (evE C c)) (tSs X T W sub C a) (tSs X T W sub C b) D σ H := by
  obtain ⟨μ, h, ρ, A, p⟩ := hh
  rw [evS] at p
  have p' : PostS (sysOf X T) W D μ h H (bindE ((evE C c ρ h).bind fun d h => R.ofO (tru d) h) ρ fun k h => if k = true then evSs sub C a ρ h else evSs sub C b ρ h) := by
    cases q : evE C c ρ h with
    | ok d h1 =>
      simp only [q, bindE_ok, R.bind_ok] at p ⊢
      cases q2 : tru d with
      | none => rw [q2] at p; exact p
      | some k => rw [q2] at p; cases k <;> exact p
    | exc c pl h1 => simp only [q, bindE_exc, R.bind_exc] at p ⊢; exact p
    | bad => simp only [q, bindE_bad, R.bind_bad] at p ⊢; exact p
  refine stepS (ev := fun ρ h => (evE C c ρ h).bind fun d h => R.ofO (tru d) h) A p' fun k H1 μ1 h1 d e1 A1 r1 p1 => ?_
  subst r1
  cases d with
  | false => rw [if_neg Bool.false_ne_true] at p1 ⊢; exact ⟨μ1, h1, ρ, A1, p1.rebase e1⟩
  | true => rw [if_pos rfl] at p1 ⊢; exact ⟨μ1, h1, ρ, A1, p1.rebase e1⟩
theorem w_nil_s {D : Ends} {σ : L2.St} {H : Hp} (hh : tSs X T W sub C .nil D σ H) : tNext D σ H := by
  obtain ⟨μ, h, ρ, A, p⟩ := hh
  rw [evSs] at p
  exact p μ H σ (.refl _ _ _) A
theorem w_cons {s : S} {ss : Ss} {D : Ends} {σ : L2.St} {H : Hp} (hh : tSs X T W sub C (.cons s ss) D σ H) : tSeq (tS X T W sub C s) (tSs X T W sub C ss) D σ H := by
  obtain ⟨μ, h, ρ, A, p⟩ := hh
  rw [evSs] at p
  refine ⟨μ, h, ρ, A, ?_⟩
  have q := p.seq
  cases r : evS sub C s ρ h with
  | nx ρ1 h1 =>
    rw [r] at q
    intro μ' H' σ' e a
    obtain ⟨μ2, h2, ρ2, e2, a2, p2⟩ := q μ' H' σ' e a
    exact ⟨μ2, h2, ρ2, a2, p2.rebase e2⟩
  | bk _ _ => rw [r] at q; exact q
  | ct _ _ => rw [r] at q; exact q
  | ret _ _ => rw [r] at q; exact q
  | exc _ _ _ _ => rw [r] at q; exact q
  | bad => rw [r] at q; exact q
theorem w_while {c : E} {b : Ss} {D : Ends} {σ : L2.St} {H : Hp} (hh : tS X T W sub C (.wh c b) D σ H) : tWhile (tT X T W C (evE C c)) (tSs X T W sub C b) D σ H := by
  obtain ⟨μ, h, ρ, A, p⟩ := hh
  rw [evS] at p
  have nb : whE (fun ρ h => evE C c ρ h) (fun ρ h => evSs sub C b ρ h) ρ h ≠ .bad := fun z => by rw [z] at p; exact p
  obtain ⟨n, en⟩ := whE_some nb
  rw [en] at p
  refine ⟨fun m σ H => ∃ μm hm ρm, At (sysOf X T) σ H μm hm ρm ∧ PostS (sysOf X T) W D μm hm H (whF (fun ρ h => evE C c ρ h) (fun ρ h => evSs sub C b ρ h) m ρm hm), ⟨n, μ, h, ρ, A, p⟩, ?_⟩
  intro m σ H hw
  obtain ⟨μ, h, ρ, A, p⟩ := hw
  cases m with
  | zero => exact p.elim
  | succ m =>
    rw [whF] at p
    have p' : PostS (sysOf X T) W D μ h H (bindE ((evE C c ρ h).bind fun d h => R.ofO (tru d) h) ρ fun k h => if k = true then turnOf (evSs sub C b ρ h) (fun ρ h => whF (fun ρ h => evE C c ρ h) (fun ρ h => evSs sub C b ρ h) m ρ h) else .nx ρ h) := by
      cases q : evE C c ρ h with
      | ok d h1 =>
        simp only [q, bindE_ok, R.bind_ok] at p ⊢
        cases q2 : tru d with
        | none => rw [q2] at p; exact p
        | some k => rw [q2] at p; cases k <;> exact p
      | exc c pl h1 => simp only [q, bindE_exc, R.bind_exc] at p ⊢; exact p
      | bad => simp only [q, bindE_bad, R.bind_bad] at p ⊢; exact p
    refine stepS (ev := fun ρ h => (evE C c ρ h).bind fun d h => R.ofO (tru d) h) A p' fun k H1 μ1 h1 d e1 A1 r1 p1 => ?_
    subst r1
    have p1 := p1.rebase e1
    cases d with
    | false => rw [if_neg Bool.false_ne_true] at p1 ⊢; exact p1 μ1 H1 σ (.refl _ _ _) A1
    | true =>
      rw [if_pos rfl] at p1 ⊢
      exact ⟨fun σ' H' => ∃ m', m' < m + 1 ∧ ∃ μm hm ρm, At (sysOf X T) σ' H' μm hm ρm ∧ PostS (sysOf X T) W D μm hm H' (whF (fun ρ h => evE C c ρ h) (fun ρ h => evSs sub C b ρ h) m' ρm hm), fun _ _ h => h, μ1, h1, ρ, A1,
        p1.turn fun μ' h' ρ' σ' H' e a q => ⟨m, Nat.lt_succ_self m, μ', h', ρ', a, q.rebase e⟩⟩
theorem w_for {t : Tg} {i : It} {b : Ss} {D : Ends} {σ : L2.St} {H : Hp} (hh : tS X T W sub C (.fr t i b) D σ H) : tFor (tIt X T W C i) (gT (sysOf X T) t) (tSs X T W sub C b) D σ H := by
  obtain ⟨μ, h, ρ, A, p⟩ := hh
  rw [evS] at p
  refine stepS A p fun J H1 μ1 h1 pi e1 A1 rit p1 => ?_
  have p1 := p1.rebase e1
  refine ⟨fun i m σn Hn => m = pi.1.length - i ∧ i ≤ pi.1.length ∧ ∃ μn hn ρn, Ext μ1 h1 H1 μn hn Hn ∧ At (sysOf X T) σn Hn μn hn ρn ∧ PostS (sysOf X T) W D μn hn Hn (frE pi.2 t (fun ρ h => evSs sub C b ρ h) (pi.1.drop i) ρn hn),
    ⟨pi.1.length, by simp, Nat.zero_le _, μ1, h1, ρ, .refl _ _ _, A1, by rw [List.drop_zero]; exact p1⟩, ?_⟩
  rintro i m σn Hn ⟨rfl, hi, μn, hn, ρn, en, An, pn⟩
  have rt := rit μn hn Hn en.hx en.mu en.len An.hp
  by_cases hlt : i < pi.1.length
  · have ex : pi.1[i]? = some pi.1[i] := List.getElem?_eq_getElem hlt
    rw [List.drop_eq_getElem_cons hlt, frE] at pn
    by_cases so : srcOk pi.2 hn
    · rw [if_pos so] at pn
      obtain ⟨go, yl⟩ := (rt so i).1 _ ex
      refine .inr ⟨go, fun σ' H' => ∃ m', m' < pi.1.length - i ∧ (m' = pi.1.length - (i + 1) ∧ i + 1 ≤ pi.1.length ∧ ∃ μn hn ρn, Ext μ1 h1 H1 μn hn H' ∧ At (sysOf X T) σ' H' μn hn ρn ∧ PostS (sysOf X T) W D μn hn H' (frE pi.2 t (fun ρ h => evSs sub C b ρ h) (pi.1.drop (i + 1)) ρn hn)), fun _ _ h => h, fun x H2 y => ?_⟩
      obtain ⟨sm, rx⟩ := yl x H2 y
      generalize pi.1[i] = xd at pn rx
      cases qa : asgT t xd ρn with
      | none => rw [qa] at pn; exact pn.elim
      | some ρ1 =>
        rw [qa] at pn
        have e2 : Ext μn hn Hn μn hn H2 := .sm sm
        have s2 := An.hp.same sm
        refine ⟨μn, hn.length, ρn, xd, ρ1, An.en.ext e2, rx, qa, fun σ2 se2 _ => ⟨μn, hn, ρ1, ⟨s2, se2⟩, (pn.rebase e2).turn fun μ' h' ρ' σ' H' e a q => ?_⟩⟩
        exact ⟨pi.1.length - (i + 1), by omega, rfl, hlt, μ', h', ρ', (en.trans e2).trans e, a, q.rebase e⟩
    · rw [if_neg so] at pn; exact pn.elim
  · have ei : i = pi.1.length := by omega
    rw [List.drop_eq_nil_of_le (by omega), frE] at pn
    by_cases so : srcOk pi.2 hn
    · rw [if_pos so] at pn
      exact .inl ⟨(rt so i).2 (by omega), pn μn Hn σn (.refl _ _ _) An⟩
    · rw [if_neg so] at pn; exact pn.elim
/-- the ghost: slot i is frozen -/
theorem pss_freeze {rest : List Stmt} {i : Nat} {ss : Ss} (h : PSs X rest (tSs X T W sub C ss)) : PSs X rest (tSs X T W sub C (.cons (.freeze i) ss)) := by
  refine ⟨fun pins s σ H D I hh => ?_⟩
  obtain ⟨μ, h0, ρ, A, p⟩ := hh
  rw [evSs, evS] at p
  cases q : ρ[i]? with
  | none => rw [q] at p; exact p.elim
  | some o =>
    cases o with
    | none => rw [q] at p; exact p.elim
    | some d =>
      rw [q] at p
      dsimp only at p
      cases q2 : frzD 0 frzN d h0 with
      | none => rw [q2] at p; exact p.elim
      | some z =>
        obtain ⟨d', h'⟩ := z
        rw [q2] at p
        obtain ⟨v, ev, rv⟩ := A.en.2 i d q
        obtain ⟨H', f, r, _⟩ := fz_one_d (T := T) 0 frzN I A.hp rv q2
        have se := A.en.ext f.ext
        rw [← f.len] at r
        have se' := se.set r i
        have es : σ.set i (some v) = σ := by
          apply List.ext_getElem?
          intro j
          by_cases hj : i = j
          · subst hj
            rw [List.getElem?_set_self (List.getElem?_eq_some_iff.mp ev).1, ev]
          · rw [List.getElem?_set_ne hj]
        rw [es] at se'
        exact h.run pins s σ H' D f.inv ⟨μ, h', ρ.set i (some d'), ⟨f.sim, se'⟩, p.rebase f.ext⟩
/-- the ghost: slots that nothing reads any more are forgotten -/
theorem pss_wipe {rest : List Stmt} {is : List Nat} {ss : Ss} (h : PSs X rest (tSs X T W sub C ss)) : PSs X rest (tSs X T W sub C (.cons (.wipe is) ss)) := by
  refine ⟨fun pins s σ H D I hh => h.run pins s σ H D I ?_⟩
  obtain ⟨μ, h0, ρ, A, p⟩ := hh
  rw [evSs, evS] at p
  refine ⟨μ, h0, wipeE ρ is, ⟨A.hp, by rw [wipeE_len, A.en.1], fun i d e => ?_⟩, p⟩
  exact A.en.2 i d (wipeE_some e).1
end
end GM
end
section
set_option Elab.async false
set_option linter.all false
set_option maxRecDepth 100000
namespace GM
open PySem PySem.Spec PyProof.Rows L2

section
variable {X : Cx} {T : Tab} {W : WX} {C : Cal}
/-- keys and values as they stand -/
abbrev PV (S : Sys) (H : Hp) (μ : Nat → Addr) (L : Nat) : List (D × D) → List (Key × V) → Prop := Paired fun p q => p.1 = leafD q.1 ∧ RD S H μ L p.2 q.2
theorem PV.keys {S : Sys} {H : Hp} {μ : Nat → Addr} {L : Nat} {kvs : List (D × D)} {ps : List (Key × V)} (h : PV S H μ L kvs ps) : kvs.map (·.1) = ps.map (fun p => leafD p.1) ∧ RDs S H μ L (kvs.map (·.2)) (ps.map (·.2)) := by
  induction h with
  | nil => exact ⟨rfl, RDs.nil⟩
  | cons a _ ih => exact ⟨by rw [List.map_cons, List.map_cons, ih.1, a.1], .cons a.2 ih.2⟩
theorem PV.mono {S : Sys} {H H' : Hp} {μ μ' : Nat → Addr} {L L' : Nat} (x : HX H H') (m : ∀ n, n < L → μ' n = μ n) (l : L ≤ L') {kvs : List (D × D)} {ps : List (Key × V)} (h : PV S H μ L kvs ps) : PV S H' μ' L' kvs ps := Paired.mapP h fun _ _ z => ⟨z.1, z.2.mono x m l⟩
theorem PV.put {S : Sys} {H : Hp} {μ : Nat → Addr} {L : Nat} {kvs : List (D × D)} {ps : List (Key × V)} (h : PV S H μ L kvs ps) (k : Key) {d : D} {v : V} (r : RD S H μ L d v) : PV S H μ L (dput kvs (leafD k) d) (putK ps k v) := by
  have e : (ps.any fun kv => decide (kv.1 = k)) = (dget kvs (leafD k)).isSome := by
    clear r d v
    induction h with
    | nil => rfl
    | @cons p q ks qs h t ih =>
      rw [List.any_cons, dget_cons, ih]
      by_cases e : q.1 = k
      · rw [if_pos (by rw [h.1, e])]; simp [e]
      · rw [if_neg (fun z => e (leaf_inj (h.1.symm.trans z)))]; simp [e]
  unfold dput putK
  rw [e]
  by_cases c : (dget kvs (leafD k)).isSome = true
  · rw [if_pos c, if_pos c]
    clear c e
    induction h with
    | nil => exact .nil
    | @cons p q ks qs h t ih =>
      rw [List.map_cons, List.map_cons]
      refine .cons ?_ ih
      by_cases e : q.1 = k
      · rw [if_pos e, if_pos (by rw [h.1, e])]; exact ⟨h.1, r⟩
      · rw [if_neg e, if_neg (fun z => e (leaf_inj (h.1.symm.trans z)))]; exact h
  · rw [if_neg c, if_neg c]
    exact Paired.snoc h ⟨rfl, r⟩
theorem leaf_v {S : Sys} {H : Hp} {μ : Nat → Addr} {L : Nat} {κ : Key} {y : V} (r : RD S H μ L (leafD κ) y) : y = kV κ := by
  cases κ with
  | inl i => exact r
  | inr s => exact r
theorem key_leaf {kvs : List (D × D)} {k : D} (h : kf kvs k = true) (t : k.isTup = false) : ∃ κ, k = leafD κ := by
  rcases key_cases h with h | ⟨h, _⟩
  · exact h
  · rw [t] at h; cases h
theorem dput_ln (kvs : List (D × D)) (k d : D) : (dput kvs k d).length ≤ kvs.length + 1 := dput_len kvs k d
theorem goC_exc {α : Type} {src : Option (Nat × List D)} {f : D → MH → R (List α)} : ∀ (xs : List D) (h : MH) (c : Nat) (pl : List D) (h' : MH), goC src f xs h ≠ .exc c pl h'
  | [], h, c, pl, h' => by
    rw [goC]
    split <;> exact fun e => nomatch e
  | x :: xs, h, c, pl, h' => by
    rw [goC]
    split
    · cases f x h with
      | ok ys h1 =>
        dsimp only
        cases q : goC src f xs h1 with
        | ok zs h2 => exact fun e => nomatch e
        | exc c2 pl2 h2 => exact absurd q (goC_exc xs h1 c2 pl2 h2)
        | bad => exact fun e => nomatch e
      | exc _ _ _ => exact fun e => nomatch e
      | bad => exact fun e => nomatch e
    · exact fun e => nomatch e
/-- {k: v for ..} -/
theorem w_dcomp1 {kx vx : E} {t : Tg} {i : It} {ifs : Es} {own : List Nat} (hs : ∀ j ∈ t.slots, j ∈ own) {σ : L2.St} {H : Hp} {Q : VK} (hh : tDL X T W C (.comp kx vx (.one t i ifs) own) σ H Q) :
    tDc (tIt X T W C i) (gT (sysOf X T) t) (tIfs X T C ifs) (tE X T W0 C kx) (tE X T W0 C vx) own σ H Q := by
  obtain ⟨μ, h, ρ, A, p⟩ := hh
  rw [evDL, evCls] at p
  have p : Post (sysOf X T) (RND (sysOf X T) H) W σ μ h H ((evIt C i ρ h).bind fun p h => (need (decide (p.1.length ≤ listMax)) <| goC p.2 (fun x h => match asgT t x (wipeE ρ own) with
    | some ρ1 => (evIfs C ifs ρ1 h).bind fun b h => if b = true then (evE C kx ρ1 h).bind fun d h => (evE C vx ρ1 h).bind fun e h => R.ok [(d, e)] h else R.ok [] h
    | none => R.bad) p.1 h).bind fun kvs h => R.ofO (dputs [] kvs) h) Q := by
    cases q : evIt C i ρ h with
    | ok a h1 => rw [q] at p; exact p
    | exc c pl h1 => rw [q] at p; exact p
    | bad => rw [q] at p; exact p
  refine step A p fun J H1 μ1 h1 pi e1 A1 rit p1 => ?_
  have hlen : pi.1.length ≤ listMax := by
    by_cases c : pi.1.length ≤ listMax
    · exact c
    · rw [decide_eq_false c] at p1; exact p1.elim
  rw [decide_eq_true hlen, need_true] at p1
  intro D hD
  generalize hf : (fun (x : GM.D) (h : MH) => match asgT t x (wipeE ρ own) with
    | some ρ1 => (evIfs C ifs ρ1 h).bind fun b h => if b = true then (evE C kx ρ1 h).bind fun d h => (evE C vx ρ1 h).bind fun e h => R.ok [(d, e)] h else R.ok [] h
    | none => R.bad) = f at p1
  have hf' : ∀ x h, f x h = match asgT t x (wipeE ρ own) with
    | some ρ1 => (evIfs C ifs ρ1 h).bind fun b h => if b = true then (evE C kx ρ1 h).bind fun d h => (evE C vx ρ1 h).bind fun e h => R.ok [(d, e)] h else R.ok [] h
    | none => R.bad := fun x h => by rw [← hf]
  have h0 : H D = none := Classical.byContradiction fun c => e1.kp D c hD
  have hxD : ∀ {Hn : Hp} {ps : List (Key × V)} (o : HO), Hn D = some (.dK ps) → HX Hn (upd Hn D o) := fun o e => hx_upd e (fun _ z => nomatch z) (fun _ _ z => nomatch z)
  refine ⟨fun i m Hn => m = pi.1.length - i ∧ i ≤ pi.1.length ∧ ∃ μn hn ps ds, Ext μ1 h1 H1 μn hn Hn ∧ SimH (sysOf X T) μn hn Hn ∧ Fr μn hn.length D ∧ Hn D = some (.dK ps) ∧ ps.length ≤ i ∧ PV (sysOf X T) Hn μn hn.length ds ps ∧
    Post (sysOf X T) (RND (sysOf X T) H) W σ μ1 h1 H1 ((goC pi.2 f (pi.1.drop i) hn).bind fun zs h => R.ofO (dputs ds zs) h) Q, ⟨pi.1.length, by simp, Nat.zero_le _, μ1, h1, [], [], (Ext.refl μ1 h1 H1).turn hD (.of (same_upd hD)), A1.hp.off (fr_of A1.hp hD) (.of (same_upd hD)), fr_of A1.hp hD, upd_same, Nat.le_refl _, .nil, by rw [List.drop_zero]; exact p1⟩, ?_⟩
  rintro i m Hn ⟨rfl, hi, μn, hn, ps, ds, en, sn, fn, hDn, hacc, rs, pn⟩
  have rt := rit μn hn Hn en.hx en.mu en.len sn
  by_cases hlt : i < pi.1.length
  · have ex : pi.1[i]? = some pi.1[i] := List.getElem?_eq_getElem hlt
    rw [List.drop_eq_getElem_cons hlt, goC] at pn
    by_cases so : srcOk pi.2 hn
    · rw [if_pos so] at pn
      obtain ⟨go, yl⟩ := (rt so i).1 _ ex
      refine .inr ⟨go, fun H' => ∃ m', m' < pi.1.length - i ∧ (m' = pi.1.length - (i + 1) ∧ i + 1 ≤ pi.1.length ∧ ∃ μn hn ps ds, Ext μ1 h1 H1 μn hn H' ∧ SimH (sysOf X T) μn hn H' ∧ Fr μn hn.length D ∧ H' D = some (.dK ps) ∧ ps.length ≤ i + 1 ∧ PV (sysOf X T) H' μn hn.length ds ps ∧
        Post (sysOf X T) (RND (sysOf X T) H) W σ μ1 h1 H1 ((goC pi.2 f (pi.1.drop (i + 1)) hn).bind fun zs h => R.ofO (dputs ds zs) h) Q), fun H' h => h, fun x H2 y => ?_⟩
      obtain ⟨sm, rx⟩ := yl x H2 y
      generalize pi.1[i] = xd at pn rx
      have e2 : Ext μn hn Hn μn hn H2 := .sm sm
      have s2 := sn.same sm
      have se : SimE (sysOf X T) (wipeE ρ own) (wipe σ own) H2 μn hn.length := ((A1.en.ext en).ext e2).wipe own
      cases qf : f xd hn with
      | ok ys h5 =>
        rw [qf] at pn
        dsimp only at pn
        rw [hf'] at qf
        cases qa : asgT t xd (wipeE ρ own) with
        | none => rw [qa] at qf; cases qf
        | some ρ1 =>
          rw [qa] at qf
          obtain ⟨b, h3, q3, qf⟩ := ok_of qf
          refine ⟨μn, hn.length, _, xd, ρ1, se, rx, qa, fun σ2 se2 w2 => ⟨by rw [w2 own hs, wipe_wipe fun _ h => h], μn, hn, ρ1, ⟨s2, se2⟩, post_ok q3 fun μ3 H3 b' e3 s3 eb => ?_⟩⟩
          subst eb
          have e23 := e2.trans e3
          cases b with
          | false =>
            rw [if_neg Bool.false_ne_true] at qf ⊢
            injection qf with qy qh
            subst qy qh
            obtain ⟨f3, d3⟩ := fr_ext e23 hDn fn
            refine ⟨pi.1.length - (i + 1), by omega, rfl, hlt, μ3, h3, ps, ds, en.trans e23, s3, f3, d3, by omega, rs.mono e23.hx e23.mu e23.len, ?_⟩
            cases qg : goC pi.2 f (pi.1.drop (i + 1)) h3 with
            | ok zs h' => rw [qg] at pn; exact pn
            | exc c pl h' => rw [qg] at pn; exact pn
            | bad => rw [qg] at pn; exact pn
          | true =>
            rw [if_pos rfl] at qf ⊢
            obtain ⟨d4, h4, q4, qf⟩ := ok_of qf
            obtain ⟨d5, h5', q5, qf⟩ := ok_of qf
            injection qf with qy qh
            subst qy qh
            refine ⟨μ3, h3, ρ1, ⟨s3, se2.ext e3⟩, post_ok q4 fun μ4 H4 y e4 s4 r4 => ⟨μ4, h4, ρ1, ⟨s4, (se2.ext e3).ext e4⟩, post_ok q5 fun μ5 H5 z e5 s5 r5 => ?_⟩⟩
            have e25 := (e23.trans e4).trans e5
            obtain ⟨f5, d5'⟩ := fr_ext e25 hDn fn
            have r4' := r4.ext e5
            have rs5 := rs.mono (e25.hx) e25.mu e25.len
            have key : ∃ κ, d4 = leafD κ ∧ Post (sysOf X T) (RND (sysOf X T) H) W σ μ1 h1 H1 ((goC pi.2 f (pi.1.drop (i + 1)) h5').bind fun zs h => R.ofO (dputs (dput ds d4 d5) zs) h) Q := by
              cases qg : goC pi.2 f (pi.1.drop (i + 1)) h5' with
              | ok zs h' =>
                rw [qg] at pn
                have pn' : Post (sysOf X T) (RND (sysOf X T) H) W σ μ1 h1 H1 (R.ofO (dputs ds ((d4, d5) :: zs)) h') Q := pn
                rw [dputs] at pn'
                by_cases c : kf ds d4 = true ∧ d4.isTup = false ∧ ds.length ≤ 1000000
                · rw [if_pos c] at pn'
                  obtain ⟨κ, e⟩ := key_leaf c.1 c.2.1
                  exact ⟨κ, e, pn'⟩
                · rw [if_neg c] at pn'; exact pn'.elim
              | exc c pl h' =>
                rw [qg] at pn
                have hx := goC_exc (f := f) (src := pi.2) (pi.1.drop (i + 1)) h5'
                exact absurd qg (hx c pl h')
              | bad => rw [qg] at pn; exact pn.elim
            obtain ⟨κ, rfl, pk⟩ := key
            have hx := hxD (.dK (putK ps κ z)) d5'
            refine ⟨ps, κ, leaf_v r4', d5', Nat.lt_of_le_of_lt hacc (Nat.lt_of_lt_of_le hlt (Nat.le_trans hlen (Nat.le_of_lt big_lt))), pi.1.length - (i + 1), by omega, rfl, hlt, μ5, h5', putK ps κ z, dput ds (leafD κ) d5, (en.trans e25).turn hD hx, s5.off f5 hx, f5, upd_same, Nat.le_trans (length_putK ps κ z) (by omega), (rs5.put κ r5).mono hx (fun _ _ => rfl) (Nat.le_refl _), pk⟩
      | exc c pl h5 => rw [qf] at pn; exact pn.elim
      | bad => rw [qf] at pn; exact pn.elim
    · rw [if_neg so] at pn; exact pn.elim
  · have ei : i = pi.1.length := by omega
    rw [List.drop_eq_nil_of_le (by omega), goC] at pn
    by_cases so : srcOk pi.2 hn
    · rw [if_pos so] at pn
      refine .inl ⟨(rt so i).2 (by omega), ?_⟩
      have pn' : Post (sysOf X T) (RND (sysOf X T) H) W σ μ1 h1 H1 (.ok ds hn) Q := pn
      obtain ⟨k1, k2⟩ := rs.keys
      exact pn' μn Hn (.ref D) en sn ⟨D, rfl, .leaf ps hDn k1 k2, fn, h0⟩
    · rw [if_neg so] at pn; exact pn.elim
end
end GM
end
section
set_option Elab.async false
set_option linter.all false
set_option maxRecDepth 100000
namespace GM
open PySem PySem.Spec PyProof.Rows L2

/-! ### what is seen of the text -/
structure Nm where
  fn : List (Nat × Str)
  cl : List (Nat × Str)
  gc : List (Str × D)
def sEq (a b : Str) : Bool := a.cps.toList == b.cps.toList
theorem sEq_eq {a b : Str} (h : sEq a b = true) : a = b := by
  have h' : a.cps.toList = b.cps.toList := by simpa [sEq] using h
  cases a; cases b
  congr 1
  exact Array.toList_inj.mp h'
def kindIn : List (Str × NameKind) → Str → Option NameKind
  | [], _ => none
  | (n, k) :: r, x => if sEq x n = true then some k else kindIn r x
theorem kindIn_eq : ∀ (l : List (Str × NameKind)) (x : Str), kindIn l x = l.lookup x
  | [], _ => rfl
  | (n, k) :: r, x => by
    rw [kindIn, List.lookup_cons, kindIn_eq r x]
    by_cases e : sEq x n = true
    · have e' := sEq_eq e
      subst e'
      rw [if_pos e]; simp
    · rw [if_neg e]
      have : (x == n) = false := by
        refine beq_eq_false_iff_ne.mpr fun c => e ?_
        subst c; simp [sEq]
      rw [this]
def nmOk (x : Str) : Bool := !sEq x "__debug__" && !sEq x "__classdict__" && !sEq x "__name__"
theorem sEq_self (x : Str) : sEq x x = true := by simp [sEq]
theorem nmOk_d {x : Str} (h : nmOk x = true) : (x == ("__debug__" : Str)) = false ∧ (x == ("__classdict__" : Str)) = false ∧ x ≠ "__name__" := by
  simp only [nmOk, Bool.and_eq_true, Bool.not_eq_true'] at h
  obtain ⟨⟨h1, h2⟩, h3⟩ := h
  refine ⟨beq_eq_false_iff_ne.mpr fun e => ?_, beq_eq_false_iff_ne.mpr fun e => ?_, fun e => ?_⟩
  · rw [e, sEq_self] at h1; cases h1
  · rw [e, sEq_self] at h2; cases h2
  · rw [e, sEq_self] at h3; cases h3
def isVis (sc : Scope) (x : Str) : Bool := match kindIn sc.names x with
  | some .local | some .cell | some .free => true
  | _ => false
def isLoc (sc : Scope) (x : Str) : Bool := match kindIn sc.names x with
  | some .local => true
  | _ => false
def isGl (sc : Scope) (x : Str) : Bool := match kindIn sc.names x with
  | some .globalImplicit => true
  | _ => false
/-- may be stored: c: cells too -/
def isSt (c : Bool) (sc : Scope) (x : Str) : Bool := match kindIn sc.names x with
  | some .local => true
  | some .cell => c
  | _ => false
theorem isSt_ok {c : Bool} {sc : Scope} {x : Str} (h : isSt c sc x = true) : Loc sc x ∧ (c = true ∨ sc.names.lookup x = some .local) := by
  unfold isSt at h
  rw [kindIn_eq] at h
  split at h
  · rename_i e; exact ⟨.inl e, .inr e⟩
  · rename_i e; exact ⟨.inr e, .inl h⟩
  · cases h
theorem isVis_ok {sc : Scope} {x : Str} (h : isVis sc x = true) : Vis sc x := by
  unfold isVis at h
  rw [kindIn_eq] at h
  split at h
  · rename_i e; exact .inl e
  · rename_i e; exact .inr (.inl e)
  · rename_i e; exact .inr (.inr e)
  · cases h
theorem isLoc_ok {sc : Scope} {x : Str} (h : isLoc sc x = true) : sc.names.lookup x = some .local := by
  unfold isLoc at h
  rw [kindIn_eq] at h
  split at h
  · rename_i e; exact e
  · cases h
theorem isGl_ok {X : Cx} {x : Str} (h : isGl X.env.scope x = true) : Gl X x := by
  unfold isGl at h
  rw [kindIn_eq] at h
  split at h
  · rename_i e; exact e
  · cases h
def atN (N : List Str) (i : Nat) (x : Str) : Bool := match N[i]? with
  | some y => sEq y x
  | none => false
theorem atN_ok {N : List Str} {i : Nat} {x : Str} (h : atN N i x = true) : N[i]? = some x := by
  unfold atN at h
  split at h
  · rename_i e; rw [e, sEq_eq h]
  · cases h
def nst : Expr → Bool
  | .Starred .. => false
  | _ => true
theorem star_cons {e : Expr} {es : List Expr} {env : PySem.Env} (h : nst e = true) : starEach (e :: es) env = (false, eval e env) :: starEach es env := by
  cases e <;> first | rfl | cases h
def nsts : List Expr → Bool
  | [] => true
  | e :: es => nst e && nsts es
theorem star_any {pos : Pos} {env : PySem.Env} : ∀ {es : List Expr}, nsts es = true → (backTo pos (starEach es env)).any (·.1) = false
  | [], _ => rfl
  | e :: es, h => by
    simp only [nsts, Bool.and_eq_true] at h
    rw [star_cons h.1]
    show (false || (backTo pos (starEach es env)).any (·.1)) = false
    rw [star_any h.2]; rfl
def plainIx : Expr → Bool
  | .Slice .. => false
  | _ => true
theorem plainIx_ok {b : Expr} (h : plainIx b = true) : PlainIx b := by
  intro o i
  cases b <;> first | rfl | cases h
def noCall : Expr → Bool
  | .Call (.Name _ _) [] [] _ => false
  | _ => true
theorem noCall_ok {o : Expr} {m : Str} {env : PySem.Env} (h : noCall o = true) : attributeBase o m env (eval o env) = eval o env := by
  cases o with
  | Call f xs kw p =>
    cases f <;> rcases xs with _ | ⟨_, _⟩ <;> rcases kw with _ | ⟨_, _⟩ <;> first | rfl | cases h
  | _ => first | rfl | cases h
def noSet : Expr → Bool
  | .Set .. => false
  | _ => true
theorem noSet_ok {o : Expr} {env : PySem.Env} (h : noSet o = true) : ∀ x, foldedSetIterable o env x = pure x := by
  intro x
  cases o <;> first | rfl | cases h
/-- its test is its value -/
def plainT : Expr → Bool
  | .UnaryOp .Not _ _ => false
  | .BoolOp .. => false
  | .IfExp .. => false
  | .Compare .. => false
  | _ => true
theorem plainT_ok {e : Expr} {env : PySem.Env} (h : plainT e = true) : ∀ whole, PySem.isTrue e env whole = (do let v ← whole; standAt e.pos; holding [v] (truthy v)) := by
  intro whole
  cases e <;> first | rfl | cases h | skip
  rename_i op x p
  cases op <;> first | rfl | cases h
def eqOp (a b : Operator) : Bool := decide (a = b)
def eqCm (a b : CmpOp) : Bool := decide (a = b)
def biName : Bi → Str
  | .len => "len" | .all => "all" | .any => "any" | .sum => "sum" | .int => "int" | .tuple => "tuple" | .max2 => "max" | .min2 => "min" | .bool => "bool"
def bnames : List Str := ["len", "all", "any", "sum", "int", "tuple", "max", "min", "isinstance", "list", "dict", "sorted", "range", "enumerate", "zip", "str", "bool"]
def tyStr : Ty → Str
  | .int => "int" | .bool => "bool" | .str => "str" | .tuple => "tuple" | .list => "list"
mutual
def E.tok : E → Bool
  | .ite _ _ _ => false
  | .not a => a.tok
  | .and es => es.tok
  | .or es => es.tok
  | _ => true
def Es.tok : Es → Bool
  | .nil => true
  | .cons e es => e.tok && es.tok
end
mutual
def chkT (N : List Str) (c : Bool) (sc : Scope) : Tg → Expr → Bool
  | .v i, .Name x _ => atN N i x && isSt c sc x
  | .t ts, .Tuple es _ _ => chkTs N c sc ts es
  | _, _ => false
def chkTs (N : List Str) (c : Bool) (sc : Scope) : Tgs → List Expr → Bool
  | .nil, [] => true
  | .cons t ts, e :: es => nst e && chkT N c sc t e && chkTs N c sc ts es
  | _, _ => false
end
def ownN (N : List Str) (own : List Nat) : List (Str × Nat) := own.map fun i => (N.getD i "", i)
theorem ownN_snd (N : List Str) (own : List Nat) : (ownN N own).map (·.2) = own := by
  unfold ownN
  rw [List.map_map]
  exact List.map_id _
/-- a block's names -/
def blkB (N : List Str) (sc scope : Scope) (own : List Nat) : Bool := blkC N sc scope (ownN N own)

mutual
def chkE (G : Nm) (N : List Str) : Scope → E → Expr → Bool
  | sc, .var i, .Name x _ => atN N i x && isVis sc x && nmOk x
  | _, .non, .Constant .none _ _ => true
  | _, .bl b, .Constant (.bool c) _ _ => b == c
  | _, .int i, .Constant (.int j) _ _ => decide (i = j)
  | _, .str s, .Constant (.str t) _ _ => sEq s t
  | sc, .gc x d, .Name y _ => sEq x y && isGl sc y && nmOk y && G.gc.any fun p => sEq p.1 x && decide (p.2 = d)
  | sc, .tup es, .Tuple xs _ _ => chkEs G N sc es xs && decide (es.len ≤ 1000)
  | sc, .lst l, e => chkL G N sc l e
  | sc, .live l, e => chkL G N sc l e
  | sc, .dct l, e => chkDL G N sc l e
  | sc, .neg a, .UnaryOp .USub x _ => chkE G N sc a x
  | sc, .not a, .UnaryOp .Not x _ => chkE G N sc a x
  | sc, .bin o a b, .BinOp x op y _ => eqOp (bopS o) op && chkE G N sc a x && chkE G N sc b y
  | sc, .and es, .BoolOp .And xs _ => chkEs G N sc es xs && decide (0 < es.len)
  | sc, .or es, .BoolOp .Or xs _ => chkEs G N sc es xs && decide (0 < es.len)
  | sc, .cmp o a b, .Compare x [op] [y] _ => eqCm (cmS o) op && !behindInMarks op y && chkE G N sc a x && chkE G N sc b y
  | sc, .cmp2 o p a b c, .Compare x [op, op'] [y, z] _ => eqCm (cmS o) op && eqCm (cmS p) op' && !lastMarks [op, op'] [y, z] && chkE G N sc a x && chkE G N sc b y && chkE G N sc c z
  | sc, .ite c a b, .IfExp x y z _ => c.tok && chkE G N sc c x && chkE G N sc a y && chkE G N sc b z
  | sc, .idx a i, .Subscript x y _ => plainIx y && chkE G N sc a x && chkE G N sc i y
  | sc, .slc a lo hi, .Subscript x (.Slice l u none _) _ => chkE G N sc a x && chkEo G N sc lo l && chkEo G N sc hi u
  | sc, .call f es, .Call (.Name x _) xs [] _ => (G.fn.any fun p => p.1 == f && sEq p.2 x) && isGl sc x && nmOk x && decide (0 < es.len) && chkEs G N sc es xs
  | sc, .isa t a, .Call (.Name x _) [y, .Name z _] [] _ => sEq x "isinstance" && isGl sc x && sEq z (tyStr t) && isGl sc z && nst y && chkE G N sc a y
  | sc, .bi f es, .Call (.Name x _) xs [] _ => sEq x (biName f) && isGl sc x && decide (0 < es.len) && decide (f ≠ .bool) && chkEs G N sc es xs
  | sc, .append o e, .Call (.Attribute x m p) [y] [] q => sEq m "append" && (p.endLine == q.line) && noCall x && nst y && chkE G N sc o x && chkE G N sc e y
  | sc, .extend o e, .Call (.Attribute x m p) [y] [] q => sEq m "extend" && (p.endLine == q.line) && noCall x && nst y && chkE G N sc o x && chkE G N sc e y
  | sc, .pop o, .Call (.Attribute x m p) [] [] q => sEq m "pop" && (p.endLine == q.line) && noCall x && chkE G N sc o x
  | sc, .popAt o e, .Call (.Attribute x m p) [y] [] q => sEq m "pop" && (p.endLine == q.line) && noCall x && nst y && chkE G N sc o x && chkE G N sc e y
  | sc, .insert o i e, .Call (.Attribute x m p) [y, z] [] q => sEq m "insert" && (p.endLine == q.line) && noCall x && nst y && nst z && chkE G N sc o x && chkE G N sc i y && chkE G N sc e z
  | sc, .get o i e, .Call (.Attribute x m p) [y, z] [] q => sEq m "get" && (p.endLine == q.line) && noCall x && nst y && nst z && chkE G N sc o x && chkE G N sc i y && chkE G N sc e z
  | sc, .setdefault o i e, .Call (.Attribute x m p) [y, z] [] q => sEq m "setdefault" && (p.endLine == q.line) && noCall x && nst y && nst z && chkE G N sc o x && chkE G N sc i y && chkE G N sc e z
  | sc, .update o e, .Call (.Attribute x m p) [y] [] q => sEq m "update" && (p.endLine == q.line) && noCall x && nst y && chkE G N sc o x && chkE G N sc e y
  | _, _, _ => false
def chkEo (G : Nm) (N : List Str) : Scope → Eo → Option Expr → Bool
  | _, .no, none => true
  | sc, .so e, some x => chkE G N sc e x
  | _, _, _ => false
def chkEs (G : Nm) (N : List Str) : Scope → Es → List Expr → Bool
  | _, .nil, [] => true
  | sc, .cons e es, x :: xs => nst x && chkE G N sc e x && chkEs G N sc es xs
  | _, _, _ => false
def chkIfs (G : Nm) (N : List Str) : Scope → Es → List Expr → Bool
  | _, .nil, [] => true
  | sc, .cons e .nil, [x] => e.tok && chkE G N sc e x
  | _, _, _ => false
def chkL (G : Nm) (N : List Str) : Scope → L → Expr → Bool
  | sc, .disp es, .List xs _ => chkEs G N sc es xs && decide (es.len ≤ 1000)
  | sc, .ofs e, .Call (.Name x _) [y] [] _ => sEq x "list" && isGl sc x && nst y && chkE G N sc e y
  | sc, .sorted e, .Call (.Name x _) [y] [] _ => sEq x "sorted" && isGl sc x && nst y && chkE G N sc e y
  | sc, .rep a n, .BinOp x op y _ => eqOp .Mult op && chkE G N sc a x && chkE G N sc n y
  | sc, .comp elt cls own, .ListComp x [⟨tg, it, ifs, as⟩] scope _ => decide (as = 0) && blkB N sc scope own && noSet it && chkCls G N sc (relS scope sc) own cls tg it ifs && chkE G N (relS scope sc) elt x
  | sc, .comp elt cls own, .ListComp x [⟨tg, it, ifs, as⟩, ⟨tg1, it1, ifs1, as1⟩] scope _ => decide (as = 0) && decide (as1 = 0) && blkB N sc scope own && noSet it && noSet it1 && chkCls2 G N sc (relS scope sc) own cls tg it ifs tg1 it1 ifs1 && chkE G N (relS scope sc) elt x
  | sc, .ssort elt cls own, .Call (.Name n _) [.SetComp x [⟨tg, it, ifs, as⟩] scope _] [] _ => sEq n "sorted" && isGl sc n && decide (as = 0) && blkB N sc scope own && noSet it && chkCls G N sc (relS scope sc) own cls tg it ifs && chkE G N (relS scope sc) elt x
  | sc, .ssort elt cls own, .Call (.Name n _) [.SetComp x [⟨tg, it, ifs, as⟩, ⟨tg1, it1, ifs1, as1⟩] scope _] [] _ => sEq n "sorted" && isGl sc n && decide (as = 0) && decide (as1 = 0) && blkB N sc scope own && noSet it && noSet it1 && chkCls2 G N sc (relS scope sc) own cls tg it ifs tg1 it1 ifs1 && chkE G N (relS scope sc) elt x
  | _, _, _ => false
def chkDL (G : Nm) (N : List Str) : Scope → DL → Expr → Bool
  | _, .nil, .Dict [] [] _ => true
  | sc, .ofs e, .Call (.Name x _) [y] [] _ => sEq x "dict" && isGl sc x && nst y && chkE G N sc e y
  | sc, .comp k v cls own, .DictComp x y [⟨tg, it, ifs, as⟩] scope _ => decide (as = 0) && blkB N sc scope own && noSet it && chkCls G N sc (relS scope sc) own cls tg it ifs && chkE G N (relS scope sc) k x && chkE G N (relS scope sc) v y
  | _, _, _ => false
def chkCls (G : Nm) (N : List Str) : Scope → Scope → List Nat → Cls → Expr → Expr → List Expr → Bool
  | sc, sc2, own, .one t i ifs, tg, it, xs => (t.slots.all fun j => own.contains j) && chkT N false sc2 t tg && chkIt G N sc i tg it && chkIfs G N sc2 ifs xs
  | _, _, _, .two _ _ _ _ _ _, _, _, _ => false
def chkCls2 (G : Nm) (N : List Str) : Scope → Scope → List Nat → Cls → Expr → Expr → List Expr → Expr → Expr → List Expr → Bool
  | sc, sc2, own, .two t i ifs t2 i2 ifs2, tg, it, xs, tg1, it1, xs1 => (t.slots.all fun j => own.contains j) && (t2.slots.all fun j => own.contains j) && chkT N false sc2 t tg && chkT N false sc2 t2 tg1 && chkIt G N sc i tg it && chkIt G N sc2 i2 tg1 it1 && chkIfs G N sc2 ifs xs && chkIfs G N sc2 ifs2 xs1
  | _, _, _, .one _ _ _, _, _, _, _, _, _ => false
def chkIt (G : Nm) (N : List Str) : Scope → It → Expr → Expr → Bool
  | sc, .seq e, _, x => chkE G N sc e x
  | sc, .range1 e, _, .Call (.Name x _) [y] [] _ => sEq x "range" && isGl sc x && nst y && chkE G N sc e y
  | sc, .range2 a b, _, .Call (.Name x _) [y, z] [] _ => sEq x "range" && isGl sc x && nst y && nst z && chkE G N sc a y && chkE G N sc b z
  | sc, .enum e, .Tuple _ _ _, .Call (.Name x _) [y] [] _ => sEq x "enumerate" && isGl sc x && nst y && chkE G N sc e y
  | sc, .zip a b, .Tuple _ _ _, .Call (.Name x _) [y, z] [] _ => sEq x "zip" && isGl sc x && nst y && nst z && chkE G N sc a y && chkE G N sc b z
  | _, _, _, _ => false
end
end GM
end
section
set_option Elab.async false
set_option linter.all false
set_option maxRecDepth 100000
namespace GM
open PySem PySem.Spec PyProof.Rows L2

structure Good (X : Cx) (T : Tab) (G : Nm) (W : WX) (C : Cal) : Prop where
  big : Big X
  calm : X.calm = true
  nd : X.N.Nodup
  tk : Takes X W
  fn : ∀ f x, (f, x) ∈ G.fn → ∃ (k : Nat) (fd : FuncData) (ps : List Str), FnOk X.prog X.w X.K X.mg X.base (L2.CX X.prog X.w) k (T.fa f) fd ps (spC (sysOf X T) C f) ∧ Room k X.A ∧ X.mg x = some (.ref (T.fa f)) ∧ PySem.W.keepIn X.K (.ref (T.fa f)) = true ∧ Binds X.K fd ps []
  gc : ∀ x d, (x, d) ∈ G.gc → ∃ (u : Value) (v : V), X.mg x = some u ∧ RelV v u ∧ ∀ H μ L, RD (sysOf X T) H μ L d v
  bl : ∀ x ∈ bnames, X.mg x = none
/-- within a comprehension's block -/
theorem Good.blk {X : Cx} {T : Tab} {G : Nm} {W : WX} {C : Cal} (g : Good X T G W C) (s : Shared) (H : Hp) (scope : Scope) (cenv : PySem.Env) (fp : List Addr) : Good (X.blk s H scope cenv fp) T G W0 C :=
  ⟨g.big, g.calm, g.nd, takes0, g.fn, g.gc, g.bl⟩
theorem bmem {x : Str} (h : bnames.contains x = true) : x ∈ bnames := by simpa using h

section
variable {T : Tab} {G : Nm} {C : Cal}
/-- an expression's promise -/
def EOk (T : Tab) (G : Nm) (C : Cal) (e : E) : Prop := ∀ (X : Cx) (W : WX), Good X T G W C → ∀ e', chkE G X.N X.env.scope e e' = true → PE X e' (tE X T W C e) ∧ (e.tok = true → L2.PT X e' (tT X T W C (evE C e)))
theorem pt_of {X : Cx} {W : WX} {ev : Env → MH → R D} {e' : Expr} (h : PE X e' (TM (sysOf X T) (RD (sysOf X T)) W ev)) (p : plainT e' = true) : L2.PT X e' (tT X T W C ev) :=
  PTimp (pt_val h (plainT_ok p)) fun σ H Q q => w_tT (C := C) q
def EsOk (T : Tab) (G : Nm) (C : Cal) (es : Es) : Prop := ∀ (X : Cx) (W : WX), Good X T G W C → ∀ xs, chkEs G X.N X.env.scope es xs = true →
  PA X xs (tEs X T W C es) ∧ nsts xs = true ∧ (0 < es.len → ∃ y ys, xs = y :: ys ∧ nst y = true) ∧
  (0 < es.len → ∀ pos, PE X (.BoolOp .And xs pos) (TM (sysOf X T) (RD (sysOf X T)) W (evAnd C es)) ∧ PE X (.BoolOp .Or xs pos) (TM (sysOf X T) (RD (sysOf X T)) W (evOr C es)) ∧
    (es.tok = true → PW X (.BoolOp .And xs pos) (tT X T W C (evAnd C es)) ∧ PW X (.BoolOp .Or xs pos) (tT X T W C (evOr C es))))
def EoOk (T : Tab) (G : Nm) (C : Cal) (e : Eo) : Prop := ∀ (X : Cx) (W : WX), Good X T G W C → ∀ e', chkEo G X.N X.env.scope e e' = true → PO X e' (tEo X T W C e)
def IfsOk (T : Tab) (G : Nm) (C : Cal) (es : Es) : Prop := ∀ (X : Cx), Good X T G W0 C → ∀ xs, chkIfs G X.N X.env.scope es xs = true → PTs X xs (tIfs X T C es)
def LOk (T : Tab) (G : Nm) (C : Cal) (l : L) : Prop := ∀ (X : Cx) (W : WX), Good X T G W C → ∀ e', chkL G X.N X.env.scope l e' = true → PE X e' (tL X T W C l) ∧ plainT e' = true
def DLOk (T : Tab) (G : Nm) (C : Cal) (l : DL) : Prop := ∀ (X : Cx) (W : WX), Good X T G W C → ∀ e', chkDL G X.N X.env.scope l e' = true → PE X e' (tDL X T W C l) ∧ plainT e' = true
def ItOk (T : Tab) (G : Nm) (C : Cal) (i : It) : Prop := ∀ (X : Cx) (W : WX), Good X T G W C → ∀ tg e', chkIt G X.N X.env.scope i tg e' = true → PI X tg e' (tIt X T W C i)

theorem bi_ok {X : Cx} {W : WX} (g : Good X T G W C) {f : Bi} (hf : f ≠ .bool) {y : Expr} {ys : List Expr} {es : Es} {p pos : Pos} (hg : Gl X (biName f)) (ha : PA X (y :: ys) (tEs X T W C es)) (h1 : nst y = true) (h2 : nsts ys = true) :
    PE X (.Call (.Name (biName f) p) (y :: ys) [] pos) (tE X T W C (.bi f es)) := by
  have he : starEach (y :: ys) X.env = (false, eval y X.env) :: starEach ys X.env := star_cons h1
  have hpl : ∀ pos, (backTo pos (starEach ys X.env)).any (·.1) = false := fun pos => star_any h2
  have fin : ∀ {t : TE}, PE X (.Call (.Name (biName f) p) (y :: ys) [] pos) (tCB (rBi (sysOf X T) (opBi f)) (tEs X T W C es)) → PE X (.Call (.Name (biName f) p) (y :: ys) [] pos) (tE X T W C (.bi f es)) := fun h => PEimp h fun σ H Q q => w_bi q
  cases f with
  | len => exact fin (t := tCB (rBi (sysOf X T) (opBi .len)) (tEs X T W C es)) (pe_callB b_len hg (g.bl _ (bmem (by decide))) boot_len ha (by decide) (by decide) he (hpl _))
  | all => exact fin (t := tCB (rBi (sysOf X T) (opBi .all)) (tEs X T W C es)) (pe_callB (b_all g.calm) hg (g.bl _ (bmem (by decide))) boot_all ha (by decide) (by decide) he (hpl _))
  | any => exact fin (t := tCB (rBi (sysOf X T) (opBi .any)) (tEs X T W C es)) (pe_callB (b_any g.calm) hg (g.bl _ (bmem (by decide))) boot_any ha (by decide) (by decide) he (hpl _))
  | sum => exact fin (t := tCB (rBi (sysOf X T) (opBi .sum)) (tEs X T W C es)) (pe_callB (b_sum g.calm) hg (g.bl _ (bmem (by decide))) boot_sum ha (by decide) (by decide) he (hpl _))
  | int => exact fin (t := tCB (rBi (sysOf X T) (opBi .int)) (tEs X T W C es)) (pe_callTy b_int hg (g.bl _ (bmem (by decide))) boot_int ha (by decide) (by decide) he (hpl _))
  | tuple => exact fin (t := tCB (rBi (sysOf X T) (opBi .tuple)) (tEs X T W C es)) (pe_callTy b_tuple hg (g.bl _ (bmem (by decide))) boot_tuple ha (by decide) (by decide) he (hpl _))
  | max2 => exact fin (t := tCB (rBi (sysOf X T) (opBi .max2)) (tEs X T W C es)) (pe_callB (b_max g.calm) hg (g.bl _ (bmem (by decide))) boot_max ha (by decide) (by decide) he (hpl _))
  | min2 => exact fin (t := tCB (rBi (sysOf X T) (opBi .min2)) (tEs X T W C es)) (pe_callB (b_min g.calm) hg (g.bl _ (bmem (by decide))) boot_min ha (by decide) (by decide) he (hpl _))
  | bool => exact absurd rfl hf
/-- a method's text, one argument, two -/
theorem few1 {y : Expr} {env : PySem.Env} {cpos : Pos} (h : nst y = true) : ((backTo cpos (starEach [y] env)).all (fun x => !x.1) && (backToKw cpos (keywordEach [] env)).all (fun x => x.1.isSome)
      && decide (([y] : List Expr).length + ([] : List Keyword).length + (if ([] : List Keyword).isEmpty then 0 else 1) < 30)) = true := by
  rw [star_cons h]; rfl
theorem few2 {y z : Expr} {env : PySem.Env} {cpos : Pos} (h : nst y = true) (h2 : nst z = true) : ((backTo cpos (starEach [y, z] env)).all (fun x => !x.1) && (backToKw cpos (keywordEach [] env)).all (fun x => x.1.isSome)
      && decide (([y, z] : List Expr).length + ([] : List Keyword).length + (if ([] : List Keyword).isEmpty then 0 else 1) < 30)) = true := by
  rw [star_cons h, star_cons h2]; rfl
theorem pa1 {X : Cx} {y : Expr} {t : TE} (h : PE X y t) (n : nst y = true) : PA X [y] (tCons t tNil) := pa_cons h pa_nil (star_cons n)
theorem pa2 {X : Cx} {y z : Expr} {t u : TE} (h : PE X y t) (h2 : PE X z u) (n : nst y = true) (n2 : nst z = true) : PA X [y, z] (tCons t (tCons u tNil)) := pa_cons h (pa1 h2 n2) (star_cons n)
theorem any1 {z : Expr} {env : PySem.Env} {pos : Pos} (n : nst z = true) : (backTo pos (starEach [z] env)).any (·.1) = false := star_any (by simp [nsts, n])
mutual
theorem tg_ok : ∀ (t : Tg) {X : Cx} {W : WX} (c : Bool), Good X T G W C → (c = true → ∀ x, X.fn x = true) → ∀ (e' : Expr), chkT X.N c X.env.scope t e' = true → PG X e' (gT (sysOf X T) t)
  | .v i, X, W, c, g, hc, e', h => by
    cases e' with
    | Name x p =>
      simp only [chkT, Bool.and_eq_true] at h
      obtain ⟨h1, h2⟩ := isSt_ok h.2
      exact pg_var g.nd (atN_ok h.1) h1 (h2.imp (fun e => hc e x) id)
    | _ => cases h
  | .t ts, X, W, c, g, hc, e', h => by
    cases e' with
    | Tuple es k p =>
      obtain ⟨h1, h2, h3⟩ := tgs_ok ts c g hc es h
      exact pg_tt g.calm h1 h2 h3
    | _ => cases h
theorem tgs_ok : ∀ (t : Tgs) {X : Cx} {W : WX} (c : Bool), Good X T G W C → (c = true → ∀ x, X.fn x = true) → ∀ (es : List Expr), chkTs X.N c X.env.scope t es = true → PGs X es (gTs (sysOf X T) t) ∧ (assignEach es X.env).length = t.len ∧ (assignEach es X.env).findIdx? (·.1) = none
  | .nil, X, W, c, g, hc, es, h => by
    cases es with
    | nil => exact ⟨pgs_n, rfl, rfl⟩
    | cons _ _ => cases h
  | .cons t ts, X, W, c, g, hc, es, h => by
    cases es with
    | nil => cases h
    | cons e es =>
      simp only [chkTs, Bool.and_eq_true] at h
      obtain ⟨⟨h0, h1⟩, h2⟩ := h
      obtain ⟨a, b, c'⟩ := tgs_ok ts c g hc es h2
      have e1 : assignEach (e :: es) X.env = (false, assign e X.env) :: assignEach es X.env := by
        cases e <;> first | rfl | cases h0
      refine ⟨pgs_c (tg_ok t c g hc e h1) a (by rw [e1]; rfl), by rw [e1, List.length_cons, b]; rfl, ?_⟩
      rw [e1, List.findIdx?_cons]
      simp only [Bool.false_eq_true, if_false]
      rw [c']; rfl
end
end
end GM
end
section
set_option Elab.async false
set_option linter.all false
set_option maxRecDepth 100000
set_option maxHeartbeats 4000000
namespace GM
open PySem PySem.Spec PyProof.Rows L2

section
variable {T : Tab} {G : Nm} {C : Cal}
theorem ff {p : Prop} {b : Bool} (h : b = true) (e : b = false) : p := by rw [e] at h; cases h
mutual
theorem e_ok : ∀ e : E, EOk T G C e
  | .var i => fun X W g e' h => by
    cases e' with
    | Name x p =>
      simp only [chkE, Bool.and_eq_true] at h
      obtain ⟨⟨h1, h2⟩, h3⟩ := h
      have k := nmOk_d h3
      have pe := PEimp (pe_var (pos := p) (atN_ok h1) (isVis_ok h2) k.1 k.2.1) fun σ H Q q => w_var (X := X) (T := T) (W := W) (C := C) q
      exact ⟨pe, fun _ => pt_of pe rfl⟩
    | _ => exact ff h rfl
  | .non => fun X W g e' h => by
    cases e' with
    | Constant c k p =>
      cases c with
      | none =>
        have pe := PEimp (pe_non (X := X) (j := k) (pos := p)) fun σ H Q q => w_const (X := X) (T := T) (W := W) (C := C) (e := .non) (d := .non) (v := .non) (fun ρ h => by rw [evE]) (fun _ _ _ => rfl) q
        exact ⟨pe, fun _ => pt_of pe rfl⟩
      | _ => exact ff h rfl
    | _ => exact ff h rfl
  | .bl b => fun X W g e' h => by
    cases e' with
    | Constant c k p =>
      cases c with
      | bool d =>
        simp only [chkE, beq_iff_eq] at h
        subst h
        have pe := PEimp (pe_bl (X := X) (j := k) (pos := p)) fun σ H Q q => w_const (X := X) (T := T) (W := W) (C := C) (e := .bl b) (d := .bl b) (v := .bl b) (fun ρ h => by rw [evE]) (fun _ _ _ => rfl) q
        exact ⟨pe, fun _ => pt_of pe rfl⟩
      | _ => exact ff h rfl
    | _ => exact ff h rfl
  | .int i => fun X W g e' h => by
    cases e' with
    | Constant c k p =>
      cases c with
      | int d =>
        simp only [chkE, decide_eq_true_eq] at h
        subst h
        have pe := PEimp (pe_int (X := X) (j := k) (pos := p)) fun σ H Q q => w_const (X := X) (T := T) (W := W) (C := C) (e := .int i) (d := .int i) (v := .int i) (fun ρ h => by rw [evE]) (fun _ _ _ => rfl) q
        exact ⟨pe, fun _ => pt_of pe rfl⟩
      | _ => exact ff h rfl
    | _ => exact ff h rfl
  | .str s => fun X W g e' h => by
    cases e' with
    | Constant c k p =>
      cases c with
      | str d =>
        simp only [chkE] at h
        obtain rfl := sEq_eq h
        have pe := PEimp (pe_str (X := X) (j := k) (pos := p)) fun σ H Q q => w_const (X := X) (T := T) (W := W) (C := C) (e := .str s) (d := .str s) (v := .str s) (fun ρ h => by rw [evE]) (fun _ _ _ => rfl) q
        exact ⟨pe, fun _ => pt_of pe rfl⟩
      | _ => exact ff h rfl
    | _ => exact ff h rfl
  | .gc x d => fun X W g e' h => by
    cases e' with
    | Name y p =>
      simp only [chkE, Bool.and_eq_true, List.any_eq_true, decide_eq_true_eq] at h
      obtain ⟨⟨⟨h1, h2⟩, h3⟩, ⟨z, w⟩, hz, h4, h5⟩ := h
      obtain rfl := sEq_eq h1
      obtain rfl := sEq_eq h4
      obtain rfl : w = d := h5
      obtain ⟨u, v, e1, e2, e3⟩ := g.gc _ _ hz
      have pe := PEimp (pe_glob (pos := p) (isGl_ok h2) e1 e2 (nmOk_d h3).1) fun σ H Q q => w_const (X := X) (T := T) (W := W) (C := C) (e := .gc z w) (d := w) (v := v) (fun ρ h => by rw [evE]) e3 q
      exact ⟨pe, fun _ => pt_of pe rfl⟩
    | _ => exact ff h rfl
  | .gf f => fun X W g e' h => by
    cases e' <;> exact ff h rfl
  | .tup es => fun X W g e' h => by
    cases e' with
    | Tuple xs k p =>
      simp only [chkE, Bool.and_eq_true, decide_eq_true_eq] at h
      have pe := PEimp (pe_tup (pos := p) (x1 := k) (es_ok es X W g xs h.1).1) fun σ H Q q => w_tup' h.2 q
      exact ⟨pe, fun _ => pt_of pe rfl⟩
    | _ => exact ff h rfl
  | .lst l => fun X W g e' h => by
    have z := l_ok l X W g e' (by cases e' <;> exact h)
    have pe := PEimp (pe_frz z.1) fun σ H Q q => w_lst q
    exact ⟨pe, fun _ => pt_of pe z.2⟩
  | .live l => fun X W g e' h => by
    have z := l_ok l X W g e' (by cases e' <;> exact h)
    have pe := PEimp z.1 fun σ H Q q => w_live q
    exact ⟨pe, fun _ => pt_of pe z.2⟩
  | .dct l => fun X W g e' h => by
    have z := dl_ok l X W g e' (by cases e' <;> exact h)
    have pe := PEimp z.1 fun σ H Q q => w_dct q
    exact ⟨pe, fun _ => pt_of pe z.2⟩
  | .neg a => fun X W g e' h => by
    cases e' with
    | UnaryOp op x p =>
      cases op with
      | USub =>
        have pe := PEimp (pe_un un_neg (pos := p) (e_ok a X W g x h).1) fun σ H Q q => w_neg q
        exact ⟨pe, fun _ => pt_of pe rfl⟩
      | _ => exact ff h rfl
    | _ => exact ff h rfl
  | .not a => fun X W g e' h => by
    cases e' with
    | UnaryOp op x p =>
      cases op with
      | Not =>
        have z := e_ok a X W g x h
        exact ⟨PEimp (pe_not z.1) fun σ H Q q => w_not q, fun t => PTimp (pt_not (z.2 t)) fun σ H Q q => w_notT q⟩
      | _ => exact ff h rfl
    | _ => exact ff h rfl
  | .bin o a b => fun X W g e' h => by
    cases e' with
    | BinOp x op y p =>
      simp only [chkE, Bool.and_eq_true] at h
      obtain ⟨⟨h1, h2⟩, h3⟩ := h
      obtain rfl : bopS o = op := of_decide_eq_true h1
      have pe := PEimp (pe_op (pos := p) (o_all (T := T) o) (e_ok a X W g x h2).1 (e_ok b X W g y h3).1) fun σ H Q q => (show tOp (rP2 (sysOf X T) (opBin o)) (tE X T W C a) (tE X T W C b) σ H Q from by
        obtain ⟨μ, h, ρ, A, p⟩ := (show tE X T W C (.bin o a b) σ H Q from q)
        rw [evE] at p
        exact w_two A p)
      exact ⟨pe, fun _ => pt_of pe rfl⟩
    | _ => exact ff h rfl
  | .and es => fun X W g e' h => by
    cases e' with
    | BoolOp op xs p =>
      cases op with
      | And =>
        simp only [chkE, Bool.and_eq_true, decide_eq_true_eq] at h
        have z := (es_ok es X W g xs h.1).2.2.2 h.2 p
        refine ⟨PEimp z.1 fun σ H Q q => ?_, fun t => (PWimp (z.2.2 t).1 fun σ H Q q => ?_).pt⟩
        · obtain ⟨μ, h, ρ, A, p⟩ := q; rw [evE] at p; exact ⟨μ, h, ρ, A, p⟩
        · obtain ⟨μ, h, ρ, A, p⟩ := q; simp only [evE] at p; exact ⟨μ, h, ρ, A, p⟩
      | Or => exact ff h rfl
    | _ => exact ff h rfl
  | .or es => fun X W g e' h => by
    cases e' with
    | BoolOp op xs p =>
      cases op with
      | Or =>
        simp only [chkE, Bool.and_eq_true, decide_eq_true_eq] at h
        have z := (es_ok es X W g xs h.1).2.2.2 h.2 p
        refine ⟨PEimp z.2.1 fun σ H Q q => ?_, fun t => (PWimp (z.2.2 t).2 fun σ H Q q => ?_).pt⟩
        · obtain ⟨μ, h, ρ, A, p⟩ := q; rw [evE] at p; exact ⟨μ, h, ρ, A, p⟩
        · obtain ⟨μ, h, ρ, A, p⟩ := q; simp only [evE] at p; exact ⟨μ, h, ρ, A, p⟩
      | And => exact ff h rfl
    | _ => exact ff h rfl
  | .cmp o a b => fun X W g e' h => by
    cases e' with
    | Compare x ops ys p =>
      rcases ops with _ | ⟨op, _ | ⟨_, _⟩⟩ <;> rcases ys with _ | ⟨y, _ | ⟨_, _⟩⟩ <;> first | exact ff h rfl | skip
      simp only [chkE, Bool.and_eq_true, Bool.not_eq_true'] at h
      obtain ⟨⟨⟨h1, h2⟩, h3⟩, h4⟩ := h
      obtain rfl : cmS o = op := of_decide_eq_true h1
      have pa := (e_ok a X W g x h3).1
      have pb := (e_ok b X W g y h4).1
      exact ⟨PEimp (pe_cmpR (c_all (T := T) g.big o) pa pb h2) fun σ H Q q => w_cmp q, fun _ => PTimp (pt_cmpR (c_all (T := T) g.big o) pa pb h2) fun σ H Q q => w_cmp (w_tT q)⟩
    | _ => exact ff h rfl
  | .cmp2 o o2 a b c => fun X W g e' h => by
    cases e' with
    | Compare x ops ys p =>
      rcases ops with _ | ⟨op, _ | ⟨op2, _ | ⟨_, _⟩⟩⟩ <;> rcases ys with _ | ⟨y, _ | ⟨z, _ | ⟨_, _⟩⟩⟩ <;> first | exact ff h rfl | skip
      simp only [chkE, Bool.and_eq_true, Bool.not_eq_true'] at h
      obtain ⟨⟨⟨⟨⟨h1, h1'⟩, h2⟩, h3⟩, h4⟩, h5⟩ := h
      obtain rfl : cmS o = op := of_decide_eq_true h1
      obtain rfl : cmS o2 = op2 := of_decide_eq_true h1'
      have pa := (e_ok a X W g x h3).1
      have pb := (e_ok b X W g y h4).1
      have pc := (e_ok c X W g z h5).1
      exact ⟨PEimp (pe_chain (c_all (T := T) g.big o) (c_all (T := T) g.big o2) pa pb pc h2) fun σ H Q q => w_cmp2 q, fun _ => PTimp (pt_chain (c_all (T := T) g.big o) (c_all (T := T) g.big o2) pa pb pc h2) fun σ H Q q => w_cmp2 (w_tT q)⟩
    | _ => exact ff h rfl
  | .ite c a b => fun X W g e' h => by
    cases e' with
    | IfExp x y z p =>
      simp only [chkE, Bool.and_eq_true] at h
      obtain ⟨⟨⟨h1, h2⟩, h3⟩, h4⟩ := h
      exact ⟨PEimp (pe_ifExp ((e_ok c X W g x h2).2 h1) (e_ok a X W g y h3).1 (e_ok b X W g z h4).1) fun σ H Q q => w_ite q, fun t => ff t rfl⟩
    | _ => exact ff h rfl
  | .idx a i => fun X W g e' h => by
    cases e' with
    | Subscript x y p =>
      simp only [chkE, Bool.and_eq_true] at h
      obtain ⟨⟨h1, h2⟩, h3⟩ := h
      have pe := PEimp (pe_ix (x_idx (T := T) g.big) (pos := p) (e_ok a X W g x h2).1 (e_ok i X W g y h3).1 (plainIx_ok h1)) fun σ H Q q => w_idx q
      exact ⟨pe, fun _ => pt_of pe rfl⟩
    | _ => exact ff h rfl
  | .slc a lo hi => fun X W g e' h => by
    cases e' with
    | Subscript x y p =>
      cases y with
      | Slice l u st p2 =>
        cases st with
        | none =>
          simp only [chkE, Bool.and_eq_true] at h
          obtain ⟨⟨h1, h2⟩, h3⟩ := h
          have pe := PEimp (pe_slice (x_slc (T := T)) (pos := p) (p2 := p2) (e_ok a X W g x h1).1 (eo_ok lo X W g l h2) (eo_ok hi X W g u h3)) fun σ H Q q => w_slc q
          exact ⟨pe, fun _ => pt_of pe rfl⟩
        | some _ => exact ff h rfl
      | _ => exact ff h rfl
    | _ => exact ff h rfl
  | .call f es => fun X W g e' h => by
    cases e' with
    | Call fn xs kw p =>
      cases fn with
      | Name x p1 =>
        cases kw with
        | nil =>
          simp only [chkE, Bool.and_eq_true, List.any_eq_true, decide_eq_true_eq, beq_iff_eq] at h
          obtain ⟨⟨⟨⟨⟨⟨z, w⟩, hz, h4, h5⟩, h2⟩, h3⟩, hl⟩, h6⟩ := h
          obtain rfl := sEq_eq h5
          obtain rfl : z = f := h4
          obtain ⟨k, fd, ps, F, hr, hm, hk, hb⟩ := g.fn _ _ hz
          obtain ⟨pa, ns, hne, _⟩ := es_ok es X W g xs h6
          obtain ⟨y, ys, rfl, hy⟩ := hne hl
          simp only [nsts, Bool.and_eq_true] at ns
          have pe := PEimp (pe_callS (E := WE W) (pos := p) (p := p1) F hr (isGl_ok h2) hm hk hb (fun σ => passAt g.tk σ) pa (nmOk_d h3).1 (star_cons hy) (star_any ns.2)) fun σ H Q q => w_call q
          exact ⟨pe, fun _ => pt_of pe rfl⟩
        | cons _ _ => exact ff h rfl
      | _ => exact ff h rfl
    | _ => exact ff h rfl
  | .isa t a => fun X W g e' h => by
    cases e' with
    | Call fn xs kw p =>
      cases fn with
      | Name x p1 =>
        rcases xs with _ | ⟨y, _ | ⟨z, _ | ⟨_, _⟩⟩⟩ <;> first | exact ff h rfl | (cases z <;> exact ff h rfl) | skip
        cases z with
        | Name zn p2 =>
          cases kw with
          | nil =>
            simp only [chkE, Bool.and_eq_true] at h
            obtain ⟨⟨⟨⟨⟨h1, h2⟩, h3⟩, h4⟩, h5⟩, h6⟩ := h
            obtain rfl := sEq_eq h1
            obtain rfl := sEq_eq h3
            have pt2 : PE X (.Name (tyStr t) p2) (tC (.ty (tyName t))) := by
              cases t
              · exact pe_bltn (isGl_ok h4) (g.bl _ (bmem (by decide))) boot_int rfl (by decide) (by decide)
              · exact pe_bltn (isGl_ok h4) (g.bl _ (bmem (by decide))) boot_bool rfl (by decide) (by decide)
              · exact pe_bltn (isGl_ok h4) (g.bl _ (bmem (by decide))) boot_str rfl (by decide) (by decide)
              · exact pe_bltn (isGl_ok h4) (g.bl _ (bmem (by decide))) boot_tuple rfl (by decide) (by decide)
              · exact pe_bltn (isGl_ok h4) (g.bl _ (bmem (by decide))) boot_list rfl (by decide) (by decide)
            have pe := PEimp (pe_callB (pos := p) (p := p1) (b_isa (T := T) t) (isGl_ok h2) (g.bl _ (bmem (by decide))) boot_isinstance (pa2 (e_ok a X W g y h6).1 pt2 h5 rfl) (by decide) (by decide) (star_cons h5) (any1 rfl)) fun σ H Q q => w_isa q
            exact ⟨pe, fun _ => pt_of pe rfl⟩
          | cons _ _ => exact ff h rfl
        | _ => exact ff h rfl
      | _ => exact ff h rfl
    | _ => exact ff h rfl
  | .bi f es => fun X W g e' h => by
    cases e' with
    | Call fn xs kw p =>
      cases fn with
      | Name x p1 =>
        cases kw with
        | nil =>
          simp only [chkE, Bool.and_eq_true, decide_eq_true_eq] at h
          obtain ⟨⟨⟨⟨h1, h2⟩, h3⟩, h4⟩, h5⟩ := h
          obtain rfl := sEq_eq h1
          obtain ⟨pa, ns, hne, _⟩ := es_ok es X W g xs h5
          obtain ⟨y, ys, rfl, hy⟩ := hne h3
          simp only [nsts, Bool.and_eq_true] at ns
          have pe := bi_ok (p := p1) (pos := p) g h4 (isGl_ok h2) pa hy ns.2
          exact ⟨pe, fun _ => pt_of pe rfl⟩
        | cons _ _ => exact ff h rfl
      | _ => exact ff h rfl
    | _ => exact ff h rfl
  | .append o e => fun X W g e' h => by
    cases e' with
    | Call fn xs kw p =>
      cases fn with
      | Attribute x m q =>
        rcases xs with _ | ⟨y, _ | ⟨_, _⟩⟩ <;> rcases kw with _ | ⟨_, _⟩ <;> first | exact ff h rfl | skip
        simp only [chkE, Bool.and_eq_true] at h
        obtain ⟨⟨⟨⟨⟨h1, h2⟩, h3⟩, h4⟩, h5⟩, h6⟩ := h
        obtain rfl := sEq_eq h1
        have pe := PEimp (pe_mG (X := X) (ty := tyL X) (r := rAppend) (apos := q) (cpos := p) ty_l PySem.F.plainAttrs_list PySem.F.slot_list_append PySem.F.type_list_append mt_append (e_ok o X W g x h5).1 (pa1 (e_ok e X W g y h6).1 h4) (noCall_ok h3) (few1 h4) h2 (star_cons h4) rfl) fun σ H Q q => w_append q
        exact ⟨pe, fun _ => pt_of pe rfl⟩
      | _ => exact ff h rfl
    | _ => exact ff h rfl
  | .extend o e => fun X W g e' h => by
    cases e' with
    | Call fn xs kw p =>
      cases fn with
      | Attribute x m q =>
        rcases xs with _ | ⟨y, _ | ⟨_, _⟩⟩ <;> rcases kw with _ | ⟨_, _⟩ <;> first | exact ff h rfl | skip
        simp only [chkE, Bool.and_eq_true] at h
        obtain ⟨⟨⟨⟨⟨h1, h2⟩, h3⟩, h4⟩, h5⟩, h6⟩ := h
        obtain rfl := sEq_eq h1
        have pe := PEimp (pe_mG (X := X) (ty := tyL X) (r := rExt) (apos := q) (cpos := p) ty_l PySem.F.plainAttrs_list PySem.F.slot_list_extend PySem.F.type_list_extend mt_ext (e_ok o X W g x h5).1 (pa1 (e_ok e X W g y h6).1 h4) (noCall_ok h3) (few1 h4) h2 (star_cons h4) rfl) fun σ H Q q => w_extend q
        exact ⟨pe, fun _ => pt_of pe rfl⟩
      | _ => exact ff h rfl
    | _ => exact ff h rfl
  | .pop o => fun X W g e' h => by
    cases e' with
    | Call fn xs kw p =>
      cases fn with
      | Attribute x m q =>
        rcases xs with _ | ⟨y, _⟩ <;> rcases kw with _ | ⟨_, _⟩ <;> first | exact ff h rfl | skip
        simp only [chkE, Bool.and_eq_true] at h
        obtain ⟨⟨⟨h1, h2⟩, h3⟩, h5⟩ := h
        obtain rfl := sEq_eq h1
        have pe := PEimp (pe_mG0 (X := X) (ty := tyL X) (r := rPop) (apos := q) (cpos := p) ty_l PySem.F.plainAttrs_list PySem.F.slot_list_pop PySem.F.type_list_pop mt_pop (e_ok o X W g x h5).1 (noCall_ok h3) h2) fun σ H Q q => w_pop q
        exact ⟨pe, fun _ => pt_of pe rfl⟩
      | _ => exact ff h rfl
    | _ => exact ff h rfl
  | .popAt o e => fun X W g e' h => by
    cases e' with
    | Call fn xs kw p =>
      cases fn with
      | Attribute x m q =>
        rcases xs with _ | ⟨y, _ | ⟨_, _⟩⟩ <;> rcases kw with _ | ⟨_, _⟩ <;> first | exact ff h rfl | skip
        simp only [chkE, Bool.and_eq_true] at h
        obtain ⟨⟨⟨⟨⟨h1, h2⟩, h3⟩, h4⟩, h5⟩, h6⟩ := h
        obtain rfl := sEq_eq h1
        have pe := PEimp (pe_mG (X := X) (ty := tyL X) (r := rPopAt) (apos := q) (cpos := p) ty_l PySem.F.plainAttrs_list PySem.F.slot_list_pop PySem.F.type_list_pop mt_popAt (e_ok o X W g x h5).1 (pa1 (e_ok e X W g y h6).1 h4) (noCall_ok h3) (few1 h4) h2 (star_cons h4) rfl) fun σ H Q q => w_popAt q
        exact ⟨pe, fun _ => pt_of pe rfl⟩
      | _ => exact ff h rfl
    | _ => exact ff h rfl
  | .insert o i e => fun X W g e' h => by
    cases e' with
    | Call fn xs kw p =>
      cases fn with
      | Attribute x m q =>
        rcases xs with _ | ⟨y, _ | ⟨z, _ | ⟨_, _⟩⟩⟩ <;> rcases kw with _ | ⟨_, _⟩ <;> first | exact ff h rfl | skip
        simp only [chkE, Bool.and_eq_true] at h
        obtain ⟨⟨⟨⟨⟨⟨⟨h1, h2⟩, h3⟩, h4⟩, h4'⟩, h5⟩, h6⟩, h7⟩ := h
        obtain rfl := sEq_eq h1
        have pe := PEimp (pe_mG (X := X) (ty := tyL X) (r := rIns) (apos := q) (cpos := p) ty_l PySem.F.plainAttrs_list PySem.F.slot_list_insert PySem.F.type_list_insert mt_insert (e_ok o X W g x h5).1 (pa2 (e_ok i X W g y h6).1 (e_ok e X W g z h7).1 h4 h4') (noCall_ok h3) (few2 h4 h4') h2 (star_cons h4) (any1 h4')) fun σ H Q q => w_insert q
        exact ⟨pe, fun _ => pt_of pe rfl⟩
      | _ => exact ff h rfl
    | _ => exact ff h rfl
  | .get o i e => fun X W g e' h => by
    cases e' with
    | Call fn xs kw p =>
      cases fn with
      | Attribute x m q =>
        rcases xs with _ | ⟨y, _ | ⟨z, _ | ⟨_, _⟩⟩⟩ <;> rcases kw with _ | ⟨_, _⟩ <;> first | exact ff h rfl | skip
        simp only [chkE, Bool.and_eq_true] at h
        obtain ⟨⟨⟨⟨⟨⟨⟨h1, h2⟩, h3⟩, h4⟩, h4'⟩, h5⟩, h6⟩, h7⟩ := h
        obtain rfl := sEq_eq h1
        have pe := PEimp (pe_mG (X := X) (ty := tyD (sysOf X T)) (r := rDGet (sysOf X T)) (apos := q) (cpos := p) ty_d PySem.F.plainAttrs_dict PySem.F.slot_dict_get PySem.F.type_dict_get (mt_dget g.big) (e_ok o X W g x h5).1 (pa2 (e_ok i X W g y h6).1 (e_ok e X W g z h7).1 h4 h4') (noCall_ok h3) (few2 h4 h4') h2 (star_cons h4) (any1 h4')) fun σ H Q q => w_get q
        exact ⟨pe, fun _ => pt_of pe rfl⟩
      | _ => exact ff h rfl
    | _ => exact ff h rfl
  | .setdefault o i e => fun X W g e' h => by
    cases e' with
    | Call fn xs kw p =>
      cases fn with
      | Attribute x m q =>
        rcases xs with _ | ⟨y, _ | ⟨z, _ | ⟨_, _⟩⟩⟩ <;> rcases kw with _ | ⟨_, _⟩ <;> first | exact ff h rfl | skip
        simp only [chkE, Bool.and_eq_true] at h
        obtain ⟨⟨⟨⟨⟨⟨⟨h1, h2⟩, h3⟩, h4⟩, h4'⟩, h5⟩, h6⟩, h7⟩ := h
        obtain rfl := sEq_eq h1
        have pe := PEimp (pe_mG (X := X) (ty := tyD (sysOf X T)) (r := rDSetd (sysOf X T)) (apos := q) (cpos := p) ty_d PySem.F.plainAttrs_dict PySem.F.slot_dict_setdefault PySem.F.type_dict_setdefault (mt_dsetd g.big) (e_ok o X W g x h5).1 (pa2 (e_ok i X W g y h6).1 (e_ok e X W g z h7).1 h4 h4') (noCall_ok h3) (few2 h4 h4') h2 (star_cons h4) (any1 h4')) fun σ H Q q => w_setd q
        exact ⟨pe, fun _ => pt_of pe rfl⟩
      | _ => exact ff h rfl
    | _ => exact ff h rfl
  | .update o e => fun X W g e' h => by
    cases e' with
    | Call fn xs kw p =>
      cases fn with
      | Attribute x m q =>
        rcases xs with _ | ⟨y, _ | ⟨_, _⟩⟩ <;> rcases kw with _ | ⟨_, _⟩ <;> first | exact ff h rfl | skip
        simp only [chkE, Bool.and_eq_true] at h
        obtain ⟨⟨⟨⟨⟨h1, h2⟩, h3⟩, h4⟩, h5⟩, h6⟩ := h
        obtain rfl := sEq_eq h1
        have pe := PEimp (pe_mG (X := X) (ty := tyD (sysOf X T)) (r := rDUpd (sysOf X T)) (apos := q) (cpos := p) ty_d PySem.F.plainAttrs_dict PySem.F.slot_dict_update PySem.F.type_dict_update mt_dupd (e_ok o X W g x h5).1 (pa1 (e_ok e X W g y h6).1 h4) (noCall_ok h3) (few1 h4) h2 (star_cons h4) rfl) fun σ H Q q => w_upd q
        exact ⟨pe, fun _ => pt_of pe rfl⟩
      | _ => exact ff h rfl
    | _ => exact ff h rfl
theorem eo_ok : ∀ e : Eo, EoOk T G C e
  | .no => fun X W g e' h => by
    cases e' with
    | none => exact POimp po_none fun σ H Q q => w_no q
    | some _ => exact ff h rfl
  | .so e => fun X W g e' h => by
    cases e' with
    | none => exact ff h rfl
    | some x => exact POimp (po_some (e_ok e X W g x h).1) fun σ H Q q => w_so q
theorem es_ok : ∀ es : Es, EsOk T G C es
  | .nil => fun X W g xs h => by
    cases xs with
    | nil => exact ⟨PAimp pa_nil fun σ H Q q => w_nil q, rfl, fun z => absurd z (Nat.lt_irrefl _), fun z => absurd z (Nat.lt_irrefl _)⟩
    | cons _ _ => exact ff h rfl
  | .cons e es => fun X W g xs h => by
    cases xs with
    | nil => exact ff h rfl
    | cons x xs =>
      simp only [chkEs, Bool.and_eq_true] at h
      obtain ⟨⟨h1, h2⟩, h3⟩ := h
      have z := e_ok e X W g x h2
      have zs := es_ok es X W g xs h3
      refine ⟨PAimp (pa_cons z.1 zs.1 (star_cons h1)) fun σ H Q q => w_es q, by rw [nsts, h1, zs.2.1]; rfl, fun _ => ⟨x, xs, rfl, h1⟩, fun _ pos => ?_⟩
      cases es with
      | nil =>
        cases xs with
        | nil =>
          refine ⟨PEimp (pe_one z.1) fun σ H Q q => ?_, PEimp (pe_one z.1) fun σ H Q q => ?_, fun t => ?_⟩
          · obtain ⟨μ, h, ρ, A, p⟩ := q; rw [evAnd] at p; exact ⟨μ, h, ρ, A, p⟩
          · obtain ⟨μ, h, ρ, A, p⟩ := q; rw [evOr] at p; exact ⟨μ, h, ρ, A, p⟩
          · simp only [Es.tok, Bool.and_eq_true] at t
            refine ⟨PWimp (pw_and1 (z.2 t.1)) fun σ H Q q => ?_, PWimp (pw_or1 (z.2 t.1)) fun σ H Q q => ?_⟩
            · obtain ⟨μ, h, ρ, A, p⟩ := q; simp only [evAnd] at p; exact ⟨μ, h, ρ, A, p⟩
            · obtain ⟨μ, h, ρ, A, p⟩ := q; simp only [evOr] at p; exact ⟨μ, h, ρ, A, p⟩
        | cons _ _ => exact ff h3 rfl
      | cons e2 es2 =>
        cases xs with
        | nil => exact ff h3 rfl
        | cons x2 xs2 =>
          obtain ⟨a1, a2, a3⟩ := zs.2.2.2 (Nat.succ_pos _) pos
          refine ⟨PEimp (pe_and z.1 a1) fun σ H Q q => w_and q, PEimp (pe_or z.1 a2) fun σ H Q q => w_or q, fun t => ?_⟩
          rw [Es.tok, Bool.and_eq_true] at t
          have b := a3 t.2
          exact ⟨PWimp (pw_and (z.2 t.1) b.1) fun σ H Q q => w_andT q, PWimp (pw_or (z.2 t.1) b.2) fun σ H Q q => w_orT q⟩
theorem ifs_ok : ∀ es : Es, IfsOk T G C es
  | .nil => fun X g xs h => by
    cases xs with
    | nil =>
      refine ⟨fun pins s σ H Q I q => pts_nil.run pins s σ H Q I ?_⟩
      obtain ⟨μ, h, ρ, A, p⟩ := q
      rw [evIfs] at p
      exact Post.done A p (same_refl H) rfl
    | cons _ _ => exact ff h rfl
  | .cons e .nil => fun X g xs h => by
    rcases xs with _ | ⟨x, _ | ⟨_, _⟩⟩ <;> first | exact ff h rfl | skip
    simp only [chkIfs, Bool.and_eq_true] at h
    have z := pts_one ((e_ok e X W0 g x h.2).2 h.1)
    refine ⟨fun pins s σ H Q I q => z.run pins s σ H Q I ?_⟩
    obtain ⟨μ, h, ρ, A, p⟩ := q
    rw [evIfs] at p
    exact ⟨μ, h, ρ, A, p⟩
  | .cons e (.cons _ _) => fun X g xs h => by
    rcases xs with _ | ⟨x, _ | ⟨_, _⟩⟩ <;> exact ff h rfl
theorem l_ok : ∀ l : L, LOk T G C l
  | .disp es => fun X W g e' h => by
    cases e' with
    | List xs p =>
      simp only [chkL, Bool.and_eq_true, decide_eq_true_eq] at h
      exact ⟨PEimp (pe_lst (pos := p) (es_ok es X W g xs h.1).1) fun σ H Q q => w_disp h.2 q, rfl⟩
    | _ => exact ff h rfl
  | .ofs e => fun X W g e' h => by
    cases e' with
    | Call fn xs kw p =>
      cases fn with
      | Name x p1 =>
        rcases xs with _ | ⟨y, _ | ⟨_, _⟩⟩ <;> rcases kw with _ | ⟨_, _⟩ <;> first | exact ff h rfl | skip
        simp only [chkL, Bool.and_eq_true] at h
        obtain ⟨⟨⟨h1, h2⟩, h3⟩, h4⟩ := h
        obtain rfl := sEq_eq h1
        exact ⟨PEimp (pe_callTy (pos := p) (p := p1) (b_list' (T := T) g.calm) (isGl_ok h2) (g.bl _ (bmem (by decide))) boot_list (pa1 (e_ok e X W g y h4).1 h3) (by decide) (by decide) (star_cons h3) rfl) fun σ H Q q => w_ofs q, rfl⟩
      | _ => exact ff h rfl
    | _ => exact ff h rfl
  | .sorted e => fun X W g e' h => by
    cases e' with
    | Call fn xs kw p =>
      cases fn with
      | Name x p1 =>
        rcases xs with _ | ⟨y, _ | ⟨_, _⟩⟩ <;> rcases kw with _ | ⟨_, _⟩ <;> first | exact ff h rfl | skip
        simp only [chkL, Bool.and_eq_true] at h
        obtain ⟨⟨⟨h1, h2⟩, h3⟩, h4⟩ := h
        obtain rfl := sEq_eq h1
        exact ⟨PEimp (pe_callB (pos := p) (p := p1) (b_sorted (T := T) g.big g.calm) (isGl_ok h2) (g.bl _ (bmem (by decide))) boot_sorted (pa1 (e_ok e X W g y h4).1 h3) (by decide) (by decide) (star_cons h3) rfl) fun σ H Q q => w_sorted q, rfl⟩
      | _ => exact ff h rfl
    | _ => exact ff h rfl
  | .rep a n => fun X W g e' h => by
    cases e' with
    | BinOp x op y p =>
      simp only [chkL, Bool.and_eq_true] at h
      obtain ⟨⟨h1, h2⟩, h3⟩ := h
      obtain rfl : Operator.Mult = op := of_decide_eq_true h1
      exact ⟨PEimp (pe_op (pos := p) op_rep' (e_ok a X W g x h2).1 (e_ok n X W g y h3).1) fun σ H Q q => w_rep q, rfl⟩
    | _ => exact ff h rfl
  | .comp elt cls own => fun X W g e' h => by
    cases e' with
    | ListComp x gs scope p =>
      rcases gs with _ | ⟨⟨tg, it, ifs, as⟩, _ | ⟨⟨tg1, it1, ifs1, as1⟩, _ | ⟨_, _⟩⟩⟩ <;> first | exact ff h rfl | skip
      · cases cls with
        | one t i ifs2 =>
          simp only [chkL, chkCls, Bool.and_eq_true, List.all_eq_true, List.contains_iff_mem, decide_eq_true_eq] at h
          obtain ⟨⟨⟨⟨h0, h1⟩, h2⟩, ⟨⟨h3, h4⟩, h5⟩, h6⟩, h7⟩ := h
          subst h0
          have z := pe_lc (pos := p) (elt := x) (g := gT (sysOf X T) t) (tt := tIfs X T C ifs2) (te := tE X T W0 C elt) g.calm g.nd (it_ok i X W g tg it h5) (blkOk_by (own := ownN X.N own) h1)
            (fun s H C' cl fp => tg_ok t false (g.blk s H scope (compEnvC scope cl C' X.env) fp) (fun z => nomatch z) tg h4) (fun s H C' cl fp => ifs_ok ifs2 _ (g.blk s H scope (compEnvC scope cl C' X.env) fp) ifs h6)
            (fun s H C' cl fp => (e_ok elt _ W0 (g.blk s H scope (compEnvC scope cl C' X.env) fp) x h7).1) (noSet_ok h2)
          rw [ownN_snd] at z
          exact ⟨PEimp z fun σ H Q q => w_comp1 h3 q, rfl⟩
        | two _ _ _ _ _ _ =>
          simp only [chkL, chkCls, Bool.and_eq_true] at h
          exact ff h.1.2 rfl
      · cases cls with
        | two t i ifs2 t2 i2 ifs3 =>
          simp only [chkL, chkCls2, Bool.and_eq_true, List.all_eq_true, List.contains_iff_mem, decide_eq_true_eq] at h
          obtain ⟨⟨⟨⟨⟨⟨h0, h00⟩, h1⟩, h2⟩, h2'⟩, ⟨⟨⟨⟨⟨⟨⟨h3, h3'⟩, h4⟩, h4'⟩, h5⟩, h5'⟩, h6⟩, h6'⟩⟩, h7⟩ := h
          subst h0 h00
          have z := pe_lc2 (pos := p) (elt := x) (g := gT (sysOf X T) t) (tt := tIfs X T C ifs2) (g1 := gT (sysOf X T) t2) (tt1 := tIfs X T C ifs3) (wi1 := tIt X T W0 C i2) (te := tE X T W0 C elt) (vs1 := t2.slots) g.calm g.nd (it_ok i X W g tg it h5) (blkOk_by (own := ownN X.N own) h1)
            (fun j hj => by rw [ownN_snd]; exact h3' j hj)
            (fun s H C' cl fp => tg_ok t false (g.blk s H scope (compEnvC scope cl C' X.env) fp) (fun z => nomatch z) tg h4) (fun s H C' cl fp => ifs_ok ifs2 _ (g.blk s H scope (compEnvC scope cl C' X.env) fp) ifs h6)
            (fun s H C' cl fp => it_ok i2 _ W0 (g.blk s H scope (compEnvC scope cl C' X.env) fp) tg1 it1 h5')
            (fun s H C' cl fp => tg_ok t2 false (g.blk s H scope (compEnvC scope cl C' X.env) fp) (fun z => nomatch z) tg1 h4') (fun s H C' cl fp => ifs_ok ifs3 _ (g.blk s H scope (compEnvC scope cl C' X.env) fp) ifs1 h6')
            (fun s H C' cl fp => (e_ok elt _ W0 (g.blk s H scope (compEnvC scope cl C' X.env) fp) x h7).1) (noSet_ok h2) (fun _ => noSet_ok h2')
          rw [ownN_snd] at z
          exact ⟨PEimp z fun σ H Q q => w_comp2 h3 q, rfl⟩
        | one _ _ _ =>
          simp only [chkL, chkCls2, Bool.and_eq_true] at h
          exact ff h.1.2 rfl
    | _ => exact ff h rfl
  | .cat a b => fun X W g e' h => by
    cases e' <;> exact ff h rfl
  | .ssort elt cls own => fun X W g e' h => by
    cases e' with
    | Call fn xs kw p =>
      cases fn with
      | Name n p1 =>
        rcases xs with _ | ⟨y, ys⟩
        · exact ff h rfl
        cases y with
        | SetComp x gs scope p2 =>
          rcases ys with _ | ⟨_, _⟩ <;> rcases kw with _ | ⟨_, _⟩ <;> rcases gs with _ | ⟨⟨tg, it, ifs, as⟩, _ | ⟨⟨tg1, it1, ifs1, as1⟩, _ | ⟨_, _⟩⟩⟩ <;> first | exact ff h rfl | skip
          · cases cls with
            | one t i ifs2 =>
              simp only [chkL, chkCls, Bool.and_eq_true, List.all_eq_true, List.contains_iff_mem, decide_eq_true_eq] at h
              obtain ⟨⟨⟨⟨⟨⟨hn, hg⟩, h0⟩, h1⟩, h2⟩, ⟨⟨h3, h4⟩, h5⟩, h6⟩, h7⟩ := h
              subst h0
              obtain rfl := sEq_eq hn
              have z := pe_set1 (K := skI X.prog X.w) (p := p2) (e := x) (g := gT (sysOf X T) t) (tt := tIfs X T C ifs2) (te := tE X T W0 C elt) g.calm g.nd (it_ok i X W g tg it h5) (blkOk_by (own := ownN X.N own) h1)
                (fun s H C' cl fp => tg_ok t false (g.blk s H scope (compEnvC scope cl C' X.env) fp) (fun z => nomatch z) tg h4) (fun s H C' cl fp => ifs_ok ifs2 _ (g.blk s H scope (compEnvC scope cl C' X.env) fp) ifs h6)
                (fun s H C' cl fp => (e_ok elt _ W0 (g.blk s H scope (compEnvC scope cl C' X.env) fp) x h7).1) (noSet_ok h2)
              rw [ownN_snd] at z
              exact ⟨PEimp (pe_callB (pos := p) (p := p1) (cr_sortedSet g.calm) (isGl_ok hg) (g.bl _ (bmem (by decide))) boot_sorted (pa1 z rfl) (by decide) (by decide) rfl rfl) fun σ H Q q => w_ssort1 h3 q, rfl⟩
            | two _ _ _ _ _ _ =>
              simp only [chkL, chkCls, Bool.and_eq_true] at h
              exact ff h.1.2 rfl
          · cases cls with
            | two t i ifs2 t2 i2 ifs3 =>
              simp only [chkL, chkCls2, Bool.and_eq_true, List.all_eq_true, List.contains_iff_mem, decide_eq_true_eq] at h
              obtain ⟨⟨⟨⟨⟨⟨⟨⟨hn, hg⟩, h0⟩, h00⟩, h1⟩, h2⟩, h2'⟩, ⟨⟨⟨⟨⟨⟨⟨h3, h3'⟩, h4⟩, h4'⟩, h5⟩, h5'⟩, h6⟩, h6'⟩⟩, h7⟩ := h
              subst h0 h00
              obtain rfl := sEq_eq hn
              have z := pe_set2 (K := skI X.prog X.w) (p := p2) (e := x) (g := gT (sysOf X T) t) (tt := tIfs X T C ifs2) (g2 := gT (sysOf X T) t2) (tt2 := tIfs X T C ifs3) (wj := tIt X T W0 C i2) (te := tE X T W0 C elt) (us := t2.slots) g.calm g.nd (it_ok i X W g tg it h5) (blkOk_by (own := ownN X.N own) h1)
                (fun j hj => by rw [ownN_snd]; exact h3' j hj)
                (fun s H C' cl fp => tg_ok t false (g.blk s H scope (compEnvC scope cl C' X.env) fp) (fun z => nomatch z) tg h4) (fun s H C' cl fp => ifs_ok ifs2 _ (g.blk s H scope (compEnvC scope cl C' X.env) fp) ifs h6)
                (fun s H C' cl fp => it_ok i2 _ W0 (g.blk s H scope (compEnvC scope cl C' X.env) fp) tg1 it1 h5')
                (fun s H C' cl fp => tg_ok t2 false (g.blk s H scope (compEnvC scope cl C' X.env) fp) (fun z => nomatch z) tg1 h4') (fun s H C' cl fp => ifs_ok ifs3 _ (g.blk s H scope (compEnvC scope cl C' X.env) fp) ifs1 h6')
                (fun s H C' cl fp => (e_ok elt _ W0 (g.blk s H scope (compEnvC scope cl C' X.env) fp) x h7).1) (noSet_ok h2) (fun _ => noSet_ok h2')
              rw [ownN_snd] at z
              exact ⟨PEimp (pe_callB (pos := p) (p := p1) (cr_sortedSet g.calm) (isGl_ok hg) (g.bl _ (bmem (by decide))) boot_sorted (pa1 z rfl) (by decide) (by decide) rfl rfl) fun σ H Q q => w_ssort2 h3 q, rfl⟩
            | one _ _ _ =>
              simp only [chkL, chkCls2, Bool.and_eq_true] at h
              exact ff h.1.2 rfl
        | _ => exact ff h rfl
      | _ => exact ff h rfl
    | _ => exact ff h rfl
theorem dl_ok : ∀ l : DL, DLOk T G C l
  | .nil => fun X W g e' h => by
    cases e' with
    | Dict ks vs p =>
      rcases ks with _ | ⟨_, _⟩ <;> rcases vs with _ | ⟨_, _⟩ <;> first | exact ff h rfl | skip
      exact ⟨PEimp pe_dnewK fun σ H Q q => w_dnil q, rfl⟩
    | _ => exact ff h rfl
  | .ofs e => fun X W g e' h => by
    cases e' with
    | Call fn xs kw p =>
      cases fn with
      | Name x p1 =>
        rcases xs with _ | ⟨y, _ | ⟨_, _⟩⟩ <;> rcases kw with _ | ⟨_, _⟩ <;> first | exact ff h rfl | skip
        simp only [chkDL, Bool.and_eq_true] at h
        obtain ⟨⟨⟨h1, h2⟩, h3⟩, h4⟩ := h
        obtain rfl := sEq_eq h1
        exact ⟨PEimp (pe_callTy (pos := p) (p := p1) (b_dict (T := T)) (isGl_ok h2) (g.bl _ (bmem (by decide))) boot_dict (pa1 (e_ok e X W g y h4).1 h3) (by decide) (by decide) (star_cons h3) rfl) fun σ H Q q => w_dof q, rfl⟩
      | _ => exact ff h rfl
    | _ => exact ff h rfl
  | .comp kx vx cls own => fun X W g e' h => by
    cases e' with
    | DictComp x y gs scope p =>
      rcases gs with _ | ⟨⟨tg, it, ifs, as⟩, _ | ⟨_, _⟩⟩ <;> first | exact ff h rfl | skip
      · cases cls with
        | one t i ifs2 =>
          simp only [chkDL, chkCls, Bool.and_eq_true, List.all_eq_true, List.contains_iff_mem, decide_eq_true_eq] at h
          obtain ⟨⟨⟨⟨⟨h0, h1⟩, h2⟩, ⟨⟨h3, h4⟩, h5⟩, h6⟩, h7⟩, h8⟩ := h
          subst h0
          have z := pe_dc (pos := p) (kx := x) (vx := y) (g := gT (sysOf X T) t) (tt := tIfs X T C ifs2) (tk := tE X T W0 C kx) (tv := tE X T W0 C vx) g.calm g.nd (it_ok i X W g tg it h5) (blkOk_by (own := ownN X.N own) h1)
            (fun s H C' cl fp => tg_ok t false (g.blk s H scope (compEnvC scope cl C' X.env) fp) (fun z => nomatch z) tg h4) (fun s H C' cl fp => ifs_ok ifs2 _ (g.blk s H scope (compEnvC scope cl C' X.env) fp) ifs h6)
            (fun s H C' cl fp => (e_ok kx _ W0 (g.blk s H scope (compEnvC scope cl C' X.env) fp) x h7).1) (fun s H C' cl fp => (e_ok vx _ W0 (g.blk s H scope (compEnvC scope cl C' X.env) fp) y h8).1) (noSet_ok h2)
          rw [ownN_snd] at z
          exact ⟨PEimp z fun σ H Q q => w_dcomp1 h3 q, rfl⟩
        | two _ _ _ _ _ _ =>
          simp only [chkDL, chkCls, Bool.and_eq_true] at h
          exact ff h.1.1.2 rfl
    | _ => exact ff h rfl
theorem it_ok : ∀ i : It, ItOk T G C i
  | .seq e => fun X W g tg e' h => PIimp (pi_ci (ci_walk (T := T)) (e_ok e X W g e' (by cases tg <;> cases e' <;> exact h)).1) fun σ H R q => w_seq q
  | .range1 e => fun X W g tg e' h => by
    cases e' with
    | Call fn xs kw p =>
      cases fn with
      | Name x p1 =>
        rcases xs with _ | ⟨y, _ | ⟨_, _⟩⟩ <;> rcases kw with _ | ⟨_, _⟩ <;> first | (cases tg <;> exact ff h rfl) | skip
        have h : (sEq x "range" && isGl X.env.scope x && nst y && chkE G X.N X.env.scope e y) = true := by cases tg <;> exact h
        simp only [Bool.and_eq_true] at h
        obtain ⟨⟨⟨h1, h2⟩, h3⟩, h4⟩ := h
        obtain rfl := sEq_eq h1
        exact PIimp (pi_range1 (isGl_ok h2) (g.bl _ (bmem (by decide))) (pa1 (e_ok e X W g y h4).1 h3) (star_cons h3)) fun σ H R q => w_range1 q
      | _ => cases tg <;> exact ff h rfl
    | _ => cases tg <;> exact ff h rfl
  | .range2 a b => fun X W g tg e' h => by
    cases e' with
    | Call fn xs kw p =>
      cases fn with
      | Name x p1 =>
        rcases xs with _ | ⟨y, _ | ⟨z, _ | ⟨_, _⟩⟩⟩ <;> rcases kw with _ | ⟨_, _⟩ <;> first | (cases tg <;> exact ff h rfl) | skip
        have h : (sEq x "range" && isGl X.env.scope x && nst y && nst z && chkE G X.N X.env.scope a y && chkE G X.N X.env.scope b z) = true := by cases tg <;> exact h
        simp only [Bool.and_eq_true] at h
        obtain ⟨⟨⟨⟨⟨h1, h2⟩, h3⟩, h3'⟩, h4⟩, h5⟩ := h
        obtain rfl := sEq_eq h1
        exact PIimp (pi_range2 (isGl_ok h2) (g.bl _ (bmem (by decide))) (pa2 (e_ok a X W g y h4).1 (e_ok b X W g z h5).1 h3 h3') (by rw [star_cons h3, star_cons h3']; rfl) (star_cons h3')) fun σ H R q => w_range2 q
      | _ => cases tg <;> exact ff h rfl
    | _ => cases tg <;> exact ff h rfl
  | .enum e => fun X W g tg e' h => by
    cases tg with
    | Tuple ts k tp =>
      cases e' with
      | Call fn xs kw p =>
        cases fn with
        | Name x p1 =>
          rcases xs with _ | ⟨y, _ | ⟨_, _⟩⟩ <;> rcases kw with _ | ⟨_, _⟩ <;> first | exact ff h rfl | skip
          simp only [chkIt, Bool.and_eq_true] at h
          obtain ⟨⟨⟨h1, h2⟩, h3⟩, h4⟩ := h
          obtain rfl := sEq_eq h1
          exact PIimp (pi_enum (isGl_ok h2) (g.bl _ (bmem (by decide))) (pa1 (e_ok e X W g y h4).1 h3) (star_cons h3)) fun σ H R q => w_enum q
        | _ => exact ff h rfl
      | _ => exact ff h rfl
    | _ => exact ff h rfl
  | .zip a b => fun X W g tg e' h => by
    cases tg with
    | Tuple ts k tp =>
      cases e' with
      | Call fn xs kw p =>
        cases fn with
        | Name x p1 =>
          rcases xs with _ | ⟨y, _ | ⟨z, _ | ⟨_, _⟩⟩⟩ <;> rcases kw with _ | ⟨_, _⟩ <;> first | exact ff h rfl | skip
          simp only [chkIt, Bool.and_eq_true] at h
          obtain ⟨⟨⟨⟨⟨h1, h2⟩, h3⟩, h3'⟩, h4⟩, h5⟩ := h
          obtain rfl := sEq_eq h1
          exact PIimp (pi_zipK (isGl_ok h2) (g.bl _ (bmem (by decide))) (pa2 (e_ok a X W g y h4).1 (e_ok b X W g z h5).1 h3 h3') (star_cons h3) (any1 h3')) fun σ H R q => w_zip q
        | _ => exact ff h rfl
      | _ => exact ff h rfl
    | _ => exact ff h rfl
end
end
end GM
end
section
set_option Elab.async false
set_option linter.all false
set_option maxRecDepth 100000
set_option maxHeartbeats 4000000
namespace GM
open PySem PySem.Spec PyProof.Rows L2

/-! ### statements: what is seen of the text -/
/-- the swap of a comprehension's value into a name -/
def swB (sc : Scope) : Expr → Expr → Bool
  | .Name t pos, .ListComp _ _ s p => isLoc sc t && pos.line == p.line && !(s.names.any fun (n, k) => n == t && (k == .local || k == .cell))
  | .Name t pos, .SetComp _ _ s p => isLoc sc t && pos.line == p.line && !(s.names.any fun (n, k) => n == t && (k == .local || k == .cell))
  | .Name t pos, .DictComp _ _ _ s p => isLoc sc t && pos.line == p.line && !(s.names.any fun (n, k) => n == t && (k == .local || k == .cell))
  | _, _ => false
def isComp : Expr → Bool
  | .ListComp .. => true
  | .SetComp .. => true
  | .DictComp .. => true
  | _ => false
/-- the stores are not swapped -/
def notLoc (sc : Scope) : Expr → Bool
  | .Name x _ => !isLoc sc x
  | _ => true
def noSw (sc : Scope) : Expr → Expr → Bool
  | .Tuple ts _ _, .Tuple vs _ _ => vs.all (foldedForSure 8) || ts.any (notLoc sc)
  | .List _ _, .Tuple _ _ _ => false
  | _, _ => true
def nmP : Expr → Option (Str × Pos)
  | .Name x p => some (x, p)
  | _ => none
/-- two names as the one target -/
def twoN : List Expr → Option (Str × Pos × Str × Pos)
  | [.Tuple [a, b] _ _] => match nmP a, nmP b with
    | some (x, px), some (y, py) => some (x, px, y, py)
    | _, _ => none
  | _ => none
def pairN : Expr → Option (Expr × Expr)
  | .Tuple [u, v] _ _ => some (u, v)
  | _ => none
theorem nmP_eq {a : Expr} {x : Str} {p : Pos} (h : nmP a = some (x, p)) : a = .Name x p := by
  cases a <;> first | (cases h; rfl) | cases h
theorem twoN_eq {l : List Expr} {x y : Str} {px py : Pos} (h : twoN l = some (x, px, y, py)) : ∃ k p, l = [.Tuple [.Name x px, .Name y py] k p] := by
  unfold twoN at h
  split at h
  · split at h
    · rename_i a b k p _ _ _ _ _ _ q1 q2
      injection h with h
      injection h with e1 h
      injection h with e2 h
      injection h with e3 e4
      subst e1 e2 e3 e4
      exact ⟨_, _, by rw [nmP_eq q1, nmP_eq q2]⟩
    · cases h
  · cases h
theorem pairN_eq {w u v : Expr} (h : pairN w = some (u, v)) : ∃ k p, w = .Tuple [u, v] k p := by
  unfold pairN at h
  split at h
  · injection h with h
    injection h with e1 e2
    subst e1 e2
    exact ⟨_, _, rfl⟩
  · cases h
def isSub : Expr → Bool
  | .Subscript .. => true
  | _ => false
mutual
def chkQE (N : List Str) (sc : Scope) : E → Expr → Bool
  | .var i, .Name x _ => atN N i x && isVis sc x && nmOk x
  | .non, .Constant .none _ _ => true
  | .bl b, .Constant (.bool c) _ _ => b == c
  | .int i, .Constant (.int j) _ _ => decide (i = j)
  | .str s, .Constant (.str t) _ _ => sEq s t
  | .tup es, .Tuple xs _ _ => chkQEs N sc es xs && decide (es.len ≤ 1000)
  | _, _ => false
def chkQEs (N : List Str) (sc : Scope) : Es → List Expr → Bool
  | .nil, [] => true
  | .cons e es, x :: xs => nst x && chkQE N sc e x && chkQEs N sc es xs
  | _, _ => false
end
def chkQ (N : List Str) (sc : Scope) : S → Stmt → Bool
  | .ret e, .Return (some x) _ => chkQE N sc e x
  | .retN, .Return none _ => true
  | .pass, .Pass _ => true
  | .brk, .Break _ => true
  | .cont, .Continue _ => true
  | .asg (.v i) e, .Assign [.Name x _] y _ => atN N i x && isLoc sc x && !isComp y && chkQE N sc e y
  | _, _ => false
def chkQs (N : List Str) (sc : Scope) : Ss → List Stmt → Bool
  | .nil, [] => true
  | .cons s ss, x :: xs => chkQ N sc s x && chkQs N sc ss xs
  | _, _ => false
mutual
def chkS (G : Nm) (N : List Str) (sc : Scope) : S → Stmt → Bool
  | .asg t e, .Assign [tg] v _ => chkT N true sc t tg && chkE G N sc e v && noSw sc tg v && (!swB sc tg v || (match e with | .live _ => true | .dct _ => true | _ => false))
  | .asg2 i j a b, .Assign tgs w _ => match twoN tgs, pairN w with
    | some (x, px, y, py), some (u, v) => atN N i x && atN N j y && decide (i ≠ j) && isLoc sc x && isLoc sc y && nst u && nst v && decide (px.line = py.line) && !(foldedForSure 8 u && foldedForSure 8 v) && !(constantsAlone 8 u && constantsAlone 8 v) && !sEq x y && chkE G N sc a u && chkE G N sc b v
    | _, _ => false
  | .setI o i e, .Assign [.Subscript x y _] v _ => plainIx y && chkE G N sc o x && chkE G N sc i y && chkE G N sc e v
  | .aug i o e, .AugAssign (.Name x _) op v _ => atN N i x && isSt true sc x && eqOp (bopS o) op && (decide (o = .add) || decide (o = .sub)) && chkE G N sc e v
  | .ex e, .Expr v _ => !isComp v && chkE G N sc e v
  | .ret e, .Return (some v) _ => chkE G N sc e v
  | .retN, .Return none _ => true
  | .ite c a b, .If x y z _ => c.tok && chkE G N sc c x && chkSs G N sc a y && chkSs G N sc b z
  | .wh c b, .While x y [] _ => c.tok && chkE G N sc c x && chkSs G N sc b y
  | .fr t i b, .For tg it y [] _ => chkT N true sc t tg && chkIt G N sc i tg it && noSet it && chkSs G N sc b y
  | .raise c, .Raise (some (.Call (.Name x _) [.Constant (.str _) _ _] [] _)) none _ => (G.cl.any fun p => p.1 == c && sEq p.2 x) && isGl sc x && nmOk x
  | .tr b hs, .Try y (h :: hds) [] [] _ => chkSs G N sc b y && chkHs G N sc hs (h :: hds)
  | .pass, .Pass _ => true
  | .brk, .Break _ => true
  | .cont, .Continue _ => true
  | _, _ => false
def chkSs (G : Nm) (N : List Str) (sc : Scope) : Ss → List Stmt → Bool
  | .nil, [] => true
  | .cons (.freeze _) ss, xs => chkSs G N sc ss xs
  | .cons (.wipe _) ss, xs => chkSs G N sc ss xs
  | .cons s ss, x :: xs => chkS G N sc s x && chkSs G N sc ss xs
  | _, _ => false
def chkHs (G : Nm) (N : List Str) (sc : Scope) : Hs → List ExceptHandler → Bool
  | .nil, [] => true
  | .cons c b hs, .ExceptHandler (some (.Name x _)) none (s :: ss) _ :: hds => (G.cl.any fun p => p.1 == c && sEq p.2 x) && isGl sc x && nmOk x && chkQs N sc b (s :: ss) && chkHs G N sc hs hds
  | _, _ => false
end

structure GoodS (X : Cx) (T : Tab) (G : Nm) (W : WX) (C : Cal) (sub : Nat → Nat → Bool) : Prop where
  good : Good X T G W C
  kind : X.env.scope.kind = .function
  fnall : ∀ x, X.fn x = true
  stk : X.stack = X.env :: X.outer
  frm : X.env.frame = some X.env.locals
  pass : PassesOwn (model X.prog X.w) X.A X.env X.xe
  cls : ∀ c x, (c, x) ∈ G.cl → X.mg x = some (.ref (T.ca c)) ∧ PySem.W.keepIn X.K (.ref (T.ca c)) = true ∧ Raises X (.ref (T.ca c)) ∧ ∃ (bmB : List Value) (B newId initId : String), ExcBaseFacts B newId initId bmB ∧ PySem.W.excIn X.K (T.ca c) bmB newId = true
  exm : ∀ c c2 x, (c2, x) ∈ G.cl → PySem.W.exmOne X.K (.ref (T.ca c)) (.ref (T.ca c2)) = some (sub c c2)

section
variable {T : Tab} {G : Nm} {C : Cal} {sub : Nat → Nat → Bool}
/-! quiet suites -/
mutual
theorem qe_ok : ∀ (e : E) (X : Cx) (W : WX) (e' : Expr), chkQE X.N X.env.scope e e' = true → PE X e' (tE X T W C e)
  | .var i, X, W, e', h => by
    cases e' with
    | Name x p =>
      simp only [chkQE, Bool.and_eq_true] at h
      obtain ⟨⟨h1, h2⟩, h3⟩ := h
      have k := nmOk_d h3
      exact PEimp (pe_var (pos := p) (atN_ok h1) (isVis_ok h2) k.1 k.2.1) fun σ H Q q => w_var (X := X) (T := T) (W := W) (C := C) q
    | _ => exact ff h rfl
  | .non, X, W, e', h => by
    cases e' with
    | Constant c k p =>
      cases c with
      | none => exact PEimp (pe_non (X := X) (j := k) (pos := p)) fun σ H Q q => w_const (X := X) (T := T) (W := W) (C := C) (e := .non) (d := .non) (v := .non) (fun ρ h => by rw [evE]) (fun _ _ _ => rfl) q
      | _ => exact ff h rfl
    | _ => exact ff h rfl
  | .bl b, X, W, e', h => by
    cases e' with
    | Constant c k p =>
      cases c with
      | bool d =>
        simp only [chkQE, beq_iff_eq] at h
        subst h
        exact PEimp (pe_bl (X := X) (j := k) (pos := p)) fun σ H Q q => w_const (X := X) (T := T) (W := W) (C := C) (e := .bl b) (d := .bl b) (v := .bl b) (fun ρ h => by rw [evE]) (fun _ _ _ => rfl) q
      | _ => exact ff h rfl
    | _ => exact ff h rfl
  | .int i, X, W, e', h => by
    cases e' with
    | Constant c k p =>
      cases c with
      | int d =>
        simp only [chkQE, decide_eq_true_eq] at h
        subst h
        exact PEimp (pe_int (X := X) (j := k) (pos := p)) fun σ H Q q => w_const (X := X) (T := T) (W := W) (C := C) (e := .int i) (d := .int i) (v := .int i) (fun ρ h => by rw [evE]) (fun _ _ _ => rfl) q
      | _ => exact ff h rfl
    | _ => exact ff h rfl
  | .str s, X, W, e', h => by
    cases e' with
    | Constant c k p =>
      cases c with
      | str d =>
        simp only [chkQE] at h
        obtain rfl := sEq_eq h
        exact PEimp (pe_str (X := X) (j := k) (pos := p)) fun σ H Q q => w_const (X := X) (T := T) (W := W) (C := C) (e := .str s) (d := .str s) (v := .str s) (fun ρ h => by rw [evE]) (fun _ _ _ => rfl) q
      | _ => exact ff h rfl
    | _ => exact ff h rfl
  | .tup es, X, W, e', h => by
    cases e' with
    | Tuple xs k p =>
      simp only [chkQE, Bool.and_eq_true, decide_eq_true_eq] at h
      exact PEimp (pe_tup (pos := p) (x1 := k) (qes_ok es X W xs h.1)) fun σ H Q q => w_tup' h.2 q
    | _ => exact ff h rfl
  | .gc _ _, X, W, e', h => by cases e' <;> exact ff h rfl
  | .gf _, X, W, e', h => by cases e' <;> exact ff h rfl
  | .lst _, X, W, e', h => by cases e' <;> exact ff h rfl
  | .live _, X, W, e', h => by cases e' <;> exact ff h rfl
  | .dct _, X, W, e', h => by cases e' <;> exact ff h rfl
  | .neg _, X, W, e', h => by cases e' <;> exact ff h rfl
  | .not _, X, W, e', h => by cases e' <;> exact ff h rfl
  | .bin _ _ _, X, W, e', h => by cases e' <;> exact ff h rfl
  | .and _, X, W, e', h => by cases e' <;> exact ff h rfl
  | .or _, X, W, e', h => by cases e' <;> exact ff h rfl
  | .cmp _ _ _, X, W, e', h => by cases e' <;> exact ff h rfl
  | .cmp2 _ _ _ _ _, X, W, e', h => by cases e' <;> exact ff h rfl
  | .ite _ _ _, X, W, e', h => by cases e' <;> exact ff h rfl
  | .idx _ _, X, W, e', h => by cases e' <;> exact ff h rfl
  | .slc _ _ _, X, W, e', h => by cases e' <;> exact ff h rfl
  | .call _ _, X, W, e', h => by cases e' <;> exact ff h rfl
  | .isa _ _, X, W, e', h => by cases e' <;> exact ff h rfl
  | .bi _ _, X, W, e', h => by cases e' <;> exact ff h rfl
  | .append _ _, X, W, e', h => by cases e' <;> exact ff h rfl
  | .extend _ _, X, W, e', h => by cases e' <;> exact ff h rfl
  | .pop _, X, W, e', h => by cases e' <;> exact ff h rfl
  | .popAt _ _, X, W, e', h => by cases e' <;> exact ff h rfl
  | .insert _ _ _, X, W, e', h => by cases e' <;> exact ff h rfl
  | .get _ _ _, X, W, e', h => by cases e' <;> exact ff h rfl
  | .setdefault _ _ _, X, W, e', h => by cases e' <;> exact ff h rfl
  | .update _ _, X, W, e', h => by cases e' <;> exact ff h rfl
theorem qes_ok : ∀ (es : Es) (X : Cx) (W : WX) (xs : List Expr), chkQEs X.N X.env.scope es xs = true → PA X xs (tEs X T W C es)
  | .nil, X, W, xs, h => by
    cases xs with
    | nil => exact PAimp pa_nil fun σ H Q q => w_nil q
    | cons _ _ => exact ff h rfl
  | .cons e es, X, W, xs, h => by
    cases xs with
    | nil => exact ff h rfl
    | cons x xs =>
      simp only [chkQEs, Bool.and_eq_true] at h
      obtain ⟨⟨h1, h2⟩, h3⟩ := h
      exact PAimp (pa_cons (qe_ok e X W x h2) (qes_ok es X W xs h3) (star_cons h1)) fun σ H Q q => w_es q
end
theorem notComp_sw {v : Expr} {tg : Option Expr} {l : Nat} {env : PySem.Env} (h : isComp v = false) : swapsWith v tg l env = pure false := by
  cases v <;> first | rfl | cases h
theorem q_ok (s : S) (X : Cx) (hN : X.N.Nodup) (W : WX) (st : Stmt) (h : chkQ X.N X.env.scope s st = true) : PS X st (tS X T W sub C s) := by
  cases s with
  | ret e =>
    cases st with
    | Return v p =>
      cases v with
      | none => exact ff h rfl
      | some x => exact PSimp (ps_ret (qe_ok e X W x h)) fun D σ H q => w_ret q
    | _ => exact ff h rfl
  | retN =>
    cases st with
    | Return v p =>
      cases v with
      | none => exact PSimp ps_retN fun D σ H q => w_retN q
      | some x => exact ff h rfl
    | _ => exact ff h rfl
  | pass =>
    cases st with
    | Pass p => exact PSimp ps_pass fun D σ H q => w_pass q
    | _ => exact ff h rfl
  | brk =>
    cases st with
    | Break p => exact PSimp ps_break fun D σ H q => w_brk q
    | _ => exact ff h rfl
  | cont =>
    cases st with
    | Continue p => exact PSimp ps_continue fun D σ H q => w_cont q
    | _ => exact ff h rfl
  | asg t e =>
    cases t with
    | v i =>
      cases st with
      | Assign ts v p =>
        rcases ts with _ | ⟨tg, _ | ⟨_, _⟩⟩ <;> first | exact ff h rfl | (cases tg <;> exact ff h rfl) | skip
        cases tg with
        | Name x px =>
          simp only [chkQ, Bool.and_eq_true, Bool.not_eq_true'] at h
          obtain ⟨⟨⟨h1, h2⟩, h3⟩, h4⟩ := h
          have hx := isLoc_ok h2
          refine PSimp (ps_set (pos := p) (pos' := px) hN (atN_ok h1) (.inl hx) (qe_ok (T := T) (C := C) e X W v h4) (notComp_sw h3) (.inr hx)) fun D σ H q => ?_
          obtain ⟨μ, h, ρ, A, p⟩ := q
          rw [evS] at p
          refine stepS A p fun v H1 μ1 h1 d e1 A1 r1 p1 => ?_
          cases q : asgT (.v i) d ρ with
          | none => rw [q] at p1; exact p1.elim
          | some ρ1 =>
            rw [q] at p1
            rw [asgT] at q
            split at q
            · obtain rfl := Option.some.inj q
              exact p1 μ1 H1 _ e1 ⟨A1.hp, A1.en.set r1 i⟩
            · cases q
        | _ => exact ff h rfl
      | _ => exact ff h rfl
    | t ts =>
      cases st with
      | Assign ts v p => rcases ts with _ | ⟨tg, _ | ⟨_, _⟩⟩ <;> first | exact ff h rfl | (cases tg <;> exact ff h rfl)
      | _ => exact ff h rfl
  | _ => cases st <;> exact ff h rfl
theorem qs_ok : ∀ (ss : Ss) (X : Cx), X.N.Nodup → ∀ (W : WX) (xs : List Stmt), chkQs X.N X.env.scope ss xs = true → PSs X xs (tSs X T W sub C ss)
  | .nil, X, hN, W, xs, h => by
    cases xs with
    | nil => exact PSsimp pss_nil fun D σ H q => w_nil_s q
    | cons _ _ => exact ff h rfl
  | .cons s ss, X, hN, W, xs, h => by
    cases xs with
    | nil => exact ff h rfl
    | cons x xs =>
      simp only [chkQs, Bool.and_eq_true] at h
      exact PSsimp (pss_cons (q_ok s X hN W x h.1) (qs_ok ss X hN W xs h.2)) fun D σ H q => w_cons q
/-! assignments -/
theorem fm_lt {α β : Type} {f : α → Option β} : ∀ {l : List α}, (∃ x ∈ l, f x = none) → (l.filterMap f).length < l.length
  | [], h => by obtain ⟨x, hx, _⟩ := h; cases hx
  | y :: l, h => by
    rw [List.filterMap_cons]
    cases q : f y with
    | none => exact Nat.lt_succ_of_le (List.length_filterMap_le f l)
    | some z =>
      have : ∃ x ∈ l, f x = none := by
        obtain ⟨x, hx, e⟩ := h
        rcases List.mem_cons.mp hx with rfl | hx
        · rw [q] at e; cases e
        · exact ⟨x, hx, e⟩
      exact Nat.succ_lt_succ (fm_lt this)
theorem kindOf_nloc {env : PySem.Env} {x : Str} (h : isLoc env.scope x = false) : (env.kindOf x == some .local) = false := by
  unfold isLoc at h
  rw [kindIn_eq] at h
  show (env.scope.names.lookup x == _) = _
  cases q : env.scope.names.lookup x with
  | none => rfl
  | some k => rw [q] at h; cases k <;> first | rfl | cases h
theorem noSw_ok {tg v : Expr} {env : PySem.Env} (h : noSw env.scope tg v = true) : swappedStores [tg] v env = pure none := by
  unfold swappedStores
  cases tg <;> first | rfl | skip
  · cases v <;> first | rfl | cases h
  · rename_i ts k p
    cases v <;> first | rfl | skip
    rename_i vs k2 p2
    have h' : (vs.all (foldedForSure 8) || ts.any (notLoc env.scope)) = true := h
    dsimp only
    split
    · rfl
    · split
      · rfl
      · split
        · rfl
        · rename_i c1 c2 c3
          rcases Bool.or_eq_true _ _ ▸ h' with h' | h'
          · first
              | rw [if_pos h']; rfl
              | simp [h']
          · exfalso
            apply c3
            rw [Bool.or_eq_true]
            left
            rw [bne_iff_ne]
            obtain ⟨x, hx, q⟩ := List.any_eq_true.mp h'
            refine Nat.ne_of_lt (fm_lt ⟨x, hx, ?_⟩)
            cases x <;> first | rfl | skip
            simp only [notLoc, Bool.not_eq_true'] at q
            simp [kindOf_nloc q]
theorem kindOf_loc {env : PySem.Env} {x : Str} (h : isLoc env.scope x = true) : env.kindOf x = some .local := by
  unfold isLoc at h
  rw [kindIn_eq] at h
  show env.scope.names.lookup x = _
  cases q : env.scope.names.lookup x with
  | none => rw [q] at h; cases h
  | some k => rw [q] at h; cases k <;> first | rfl | cases h
theorem sw_pair {x y : Str} {u v : Expr} {px py pt pv : Pos} {kt kv : Nat} {env : PySem.Env} (hk : env.scope.kind = .function) (hx : isLoc env.scope x = true) (hy : isLoc env.scope y = true) (h1 : nst u = true) (h2 : nst v = true) (hl : px.line = py.line) (hxy : x ≠ y)
    (h3 : (foldedForSure 8 u && foldedForSure 8 v) = false) (h4 : (constantsAlone 8 u && constantsAlone 8 v) = false) : swappedStores [.Tuple [.Name x px, .Name y py] kt pt] (.Tuple [u, v] kv pv) env = pure (some [x, y]) := by
  have hb : env.blockKind = .function := by unfold PySem.Env.blockKind; rw [hk]; rfl
  have kx := kindOf_loc hx
  have ky := kindOf_loc hy
  have ne : (y == x) = false := by simpa using fun e => hxy e.symm
  have h3' : ([u, v].all (foldedForSure 8)) = false := by simpa using h3
  have h4' : ([u, v].all (constantsAlone 8)) = false := by simpa using h4
  unfold swappedStores
  simp only [List.length_cons, List.length_nil, hb, kx, ky, Expr.pos, hl, List.head?_cons, Option.map_some, Option.getD_some, List.filterMap_cons, List.filterMap_nil, beq_self_eq_true, Bool.and_self, if_true, h3', h4', List.any_cons, List.any_nil]
  simp [List.eraseDups_cons, ne, hxy, Ne.symm hxy]
  intro hh
  exfalso
  rcases hh with hh | hh
  · cases u <;> first | (cases hh; done) | (cases h1; done)
  · cases v <;> first | (cases hh; done) | (cases h2; done)
theorem swB_ok {tg v : Expr} {l : Nat} {env : PySem.Env} (hk : env.scope.kind = .function) : swapsWithSole [tg] v l env = pure (swB env.scope tg v) := by
  show swapsWith v (some tg) l env = _
  have hb : env.blockKind = .function := by unfold PySem.Env.blockKind; rw [hk]; rfl
  have kl : ∀ x, (env.kindOf x == some .local) = isLoc env.scope x := fun x => by
    unfold isLoc
    rw [kindIn_eq]
    show (env.scope.names.lookup x == some .local) = _
    cases q : env.scope.names.lookup x with
    | none => rfl
    | some k => cases k <;> rfl
  cases v <;> first | (cases tg <;> rfl) | skip
  all_goals
    cases tg <;> first | rfl | skip
    rename_i x px
    unfold swapsWith
    simp only [hb, kl, Expr.pos, swB]
    simp
theorem asgEach {tg : Expr} {env : PySem.Env} (h : nst tg = true) : (assignEach [tg] env).map (·.2) = [assign tg env] := by
  cases tg <;> first | rfl | cases h
theorem chkT_nst {N : List Str} {c : Bool} {sc : Scope} {t : Tg} {e : Expr} (h : chkT N c sc t e = true) : nst e = true := by
  cases t <;> cases e <;> first | rfl | cases h
theorem chkT_loc {N : List Str} {c : Bool} {sc : Scope} {t : Tg} {x : Str} {p : Pos} (h : chkT N c sc t (.Name x p) = true) : ∃ i, t = .v i ∧ atN N i x = true := by
  cases t with
  | v i =>
    simp only [chkT, Bool.and_eq_true] at h
    exact ⟨i, rfl, h.1⟩
  | t ts => cases h
/-- the wish of x = a list that is swapped in -/
theorem w_asgV {i : Nat} {e : E} {W : WX} {X : Cx} {D : Ends} {σ : L2.St} {H : Hp} (hh : tS X T W sub C (.asg (.v i) e) D σ H) : tE X T W C e σ H fun v H1 => D.nx (σ.set i (some v)) H1 := by
  obtain ⟨μ, h, ρ, A, p⟩ := hh
  rw [evS] at p
  refine stepS A p fun v H1 μ1 h1 d e1 A1 r1 p1 => ?_
  cases q : asgT (.v i) d ρ with
  | none => rw [q] at p1; exact p1.elim
  | some ρ1 =>
    rw [q] at p1
    rw [asgT] at q
    split at q
    · obtain rfl := Option.some.inj q
      exact p1 μ1 H1 _ e1 ⟨A1.hp, A1.en.set r1 i⟩
    · cases q
end
end GM
end
section
set_option Elab.async false
set_option linter.all false
set_option maxRecDepth 100000
set_option maxHeartbeats 4000000
namespace GM
open PySem PySem.Spec PyProof.Rows L2

theorem ps_setDc {X : Cx} {i : Nat} {y : Str} {py : Pos} {kx vx tg iter : Expr} {ifs : List Expr} {scope : Scope} {own : List (Str × Nat)} {pos spos : Pos} {wi : TI} {g : TG} {tt : TT} {tk tv : TE} (hc : X.calm = true) (hN : X.N.Nodup) (hy : X.N[i]? = some y) (hyl : X.env.scope.names.lookup y = some .local)
    (hsw : swapsWith (.DictComp kx vx [⟨tg, iter, ifs, 0⟩] scope pos) (some (.Name y py)) spos.line X.env = pure true) (hi : PI X tg iter wi) (ok : BlkOk X.N X.env.scope scope own)
    (hg : ∀ (s : Shared) (H : Hp) (C : Addr) (cl : List (Str × Addr)) (fp : List Addr), PG (X.blk s H scope (compEnvC scope cl C X.env) fp) tg g) (ht : ∀ (s : Shared) (H : Hp) (C : Addr) (cl : List (Str × Addr)) (fp : List Addr), PTs (X.blk s H scope (compEnvC scope cl C X.env) fp) ifs tt)
    (hk : ∀ (s : Shared) (H : Hp) (C : Addr) (cl : List (Str × Addr)) (fp : List Addr), PE (X.blk s H scope (compEnvC scope cl C X.env) fp) kx tk)
    (he : ∀ (s : Shared) (H : Hp) (C : Addr) (cl : List (Str × Addr)) (fp : List Addr), PE (X.blk s H scope (compEnvC scope cl C X.env) fp) vx tv) (hs : ∀ x, foldedSetIterable iter X.env x = pure x) :
    PS X (.Assign [.Name y py] (.DictComp kx vx [⟨tg, iter, ifs, 0⟩] scope pos) spos) (tAsg (tDc wi g tt tk tv (own.map (·.2))) (gName i)) := by
  refine ⟨fun pins s σ H D I h => ?_⟩
  rw [exec_Assign_Name_used _ _ _ _ hsw]
  refine wpAny_bind (wpAny_standAt (wpAny_bind ?_))
  show wpAny _ X.A (do let _ ← comprehension (.DictComp kx vx [⟨tg, iter, ifs, 0⟩] scope pos) scope X.env (firstIterPos [⟨tg, iter, ifs, 0⟩] pos) newDict false (eval iter X.env) (some (assign (.Name y py) X.env))) _ _ s
  have h : tDc wi g tt tk tv (own.map (·.2)) σ H (fun x H1 => gName i x σ H1 D.nx) := h
  refine wpAny_bind (thn (dc_core (Qf := fun _ s' => SP X pins D .next s') hc hN I hi ok hg ht hk he hs h fun L C s' m H' I' q hn f => ?_) fun _ s' hq => wpAny_pure (wpAny_pure hq))
  show wpAny _ _ (assign (.Name y py) X.env (.ref L)) _ _ _
  refine wpAny_assign_Name (store_ok2 (v := V.ref L) I' hN hy (.inl hyl) rfl (fun s2 I2 ⟨a, sb, ha⟩ => ?_) (.inr hyl))
  obtain ⟨f0, f1, f2, f3, f4, f5⟩ := f
  have haC : C ≠ a := by
    rcases ha with z | z
    · rw [z]; exact f1
    · exact fun e => f4 y a z e.symm
  refine ⟨m, hn.sameBut sb haC, fun h3 sb3 => ?_⟩
  exact ⟨_, H', I2.turned (t' := s2.toks) (fun b o hb e => (sb3.2 b hb).trans e) f0 f1 f3 f4 f5, q⟩

section
variable {T : Tab} {G : Nm} {C : Cal} {sub : Nat → Nat → Bool}
def SOk (T : Tab) (G : Nm) (C : Cal) (sub : Nat → Nat → Bool) (s : S) : Prop := ∀ (X : Cx) (W : WX), GoodS X T G W C sub → ∀ st, chkS G X.N X.env.scope s st = true → PS X st (tS X T W sub C s)
def SsOk (T : Tab) (G : Nm) (C : Cal) (sub : Nat → Nat → Bool) (ss : Ss) : Prop := ∀ (X : Cx) (W : WX), GoodS X T G W C sub → ∀ xs, chkSs G X.N X.env.scope ss xs = true → PSs X xs (tSs X T W sub C ss)
/-- assignments -/
theorem asg_ok (t : Tg) (e : E) : SOk T G C sub (.asg t e) := fun X W g st h => by
  cases st with
  | Assign ts v p =>
    rcases ts with _ | ⟨tg, _ | ⟨_, _⟩⟩
    · exact ff h rfl
    · simp only [chkS, Bool.and_eq_true] at h
      obtain ⟨⟨⟨h1, h2⟩, h3⟩, h4⟩ := h
      have sw := swB_ok (tg := tg) (v := v) (l := p.line) g.kind
      cases hb : swB X.env.scope tg v with
      | false =>
        rw [hb] at sw
        exact PSimp (ps_asg (e_ok e X W g.good v h2).1 (tg_ok t true g.good (fun _ => g.fnall) tg h1) sw (noSw_ok h3) (asgEach (chkT_nst h1))) fun D σ H q => w_asg q
      | true =>
        rw [hb] at sw h4
        have hn : ∃ y py, tg = .Name y py := by
          cases tg with
          | Name y py => exact ⟨y, py, rfl⟩
          | _ => cases v <;> cases hb
        obtain ⟨y, py, rfl⟩ := hn
        obtain ⟨i, rfl, hi⟩ := chkT_loc h1
        have hy : isLoc X.env.scope y = true := by
          cases v <;> first | (exfalso; cases hb; done) | (simp only [swB, Bool.and_eq_true] at hb; exact hb.1.1)
        have sw' : swapsWith v (some (.Name y py)) p.line X.env = pure true := sw
        cases e with
        | live l =>
          cases v with
          | ListComp x gs scope pos =>
            have h2' : chkL G X.N X.env.scope l (.ListComp x gs scope pos) = true := h2
            cases l with
            | comp elt cls own =>
              rcases gs with _ | ⟨⟨tg2, it, ifs, as⟩, _ | ⟨⟨tg3, it3, ifs3, as3⟩, _ | ⟨_, _⟩⟩⟩
              · exact ff h2' rfl
              · cases cls with
                | one t i2 ifs2 =>
                  simp only [chkL, chkCls, Bool.and_eq_true, List.all_eq_true, List.contains_iff_mem, decide_eq_true_eq] at h2'
                  obtain ⟨⟨⟨⟨k0, k1⟩, k2⟩, ⟨⟨k3, k4⟩, k5⟩, k6⟩, k7⟩ := h2'
                  subst k0
                  have gg := g.good
                  have z := ps_setLc (pos := pos) (spos := p) (elt := x) (g := gT (sysOf X T) t) (tt := tIfs X T C ifs2) (te := tE X T W0 C elt) gg.calm gg.nd (atN_ok hi) (isLoc_ok hy) sw' (it_ok i2 X W gg tg2 it k5) (blkOk_by (own := ownN X.N own) k1)
                    (fun s H C' cl fp => tg_ok t false (gg.blk s H scope (compEnvC scope cl C' X.env) fp) (fun z => nomatch z) tg2 k4) (fun s H C' cl fp => ifs_ok ifs2 _ (gg.blk s H scope (compEnvC scope cl C' X.env) fp) ifs k6)
                    (fun s H C' cl fp => (e_ok elt _ W0 (gg.blk s H scope (compEnvC scope cl C' X.env) fp) x k7).1) (noSet_ok k2)
                  rw [ownN_snd] at z
                  exact PSimp z fun D σ H q => w_comp1 k3 (w_live (w_asgV q))
                | two _ _ _ _ _ _ =>
                  simp only [chkL, chkCls, Bool.and_eq_true] at h2'
                  exact ff h2'.1.2 rfl
              · cases cls with
                | two t i2 ifs2 t4 i4 ifs4 =>
                  simp only [chkL, chkCls2, Bool.and_eq_true, List.all_eq_true, List.contains_iff_mem, decide_eq_true_eq] at h2'
                  obtain ⟨⟨⟨⟨⟨⟨k0, k00⟩, k1⟩, k2⟩, k2'⟩, ⟨⟨⟨⟨⟨⟨⟨k3, k3'⟩, k4⟩, k4'⟩, k5⟩, k5'⟩, k6⟩, k6'⟩⟩, k7⟩ := h2'
                  subst k0 k00
                  have gg := g.good
                  have z := ps_setLc2 (pos := pos) (spos := p) (elt := x) (g := gT (sysOf X T) t) (tt := tIfs X T C ifs2) (g1 := gT (sysOf X T) t4) (tt1 := tIfs X T C ifs4) (wi1 := tIt X T W0 C i4) (te := tE X T W0 C elt) (vs1 := t4.slots) gg.calm gg.nd (atN_ok hi) (isLoc_ok hy) sw' (it_ok i2 X W gg tg2 it k5) (blkOk_by (own := ownN X.N own) k1)
                    (fun j hj => by rw [ownN_snd]; exact k3' j hj)
                    (fun s H C' cl fp => tg_ok t false (gg.blk s H scope (compEnvC scope cl C' X.env) fp) (fun z => nomatch z) tg2 k4) (fun s H C' cl fp => ifs_ok ifs2 _ (gg.blk s H scope (compEnvC scope cl C' X.env) fp) ifs k6)
                    (fun s H C' cl fp => it_ok i4 _ W0 (gg.blk s H scope (compEnvC scope cl C' X.env) fp) tg3 it3 k5')
                    (fun s H C' cl fp => tg_ok t4 false (gg.blk s H scope (compEnvC scope cl C' X.env) fp) (fun z => nomatch z) tg3 k4') (fun s H C' cl fp => ifs_ok ifs4 _ (gg.blk s H scope (compEnvC scope cl C' X.env) fp) ifs3 k6')
                    (fun s H C' cl fp => (e_ok elt _ W0 (gg.blk s H scope (compEnvC scope cl C' X.env) fp) x k7).1) (noSet_ok k2) (fun _ => noSet_ok k2')
                  rw [ownN_snd] at z
                  exact PSimp z fun D σ H q => w_comp2 k3 (w_live (w_asgV q))
                | one _ _ _ =>
                  simp only [chkL, chkCls2, Bool.and_eq_true] at h2'
                  exact ff h2'.1.2 rfl
              · exact ff h2' rfl
            | _ => exact ff h2' rfl
          | DictComp x y2 gs scope pos =>
            have h2' : chkL G X.N X.env.scope l (.DictComp x y2 gs scope pos) = true := h2
            cases l <;> exact ff h2' rfl
          | SetComp x gs scope pos =>
            have h2' : chkL G X.N X.env.scope l (.SetComp x gs scope pos) = true := h2
            cases l <;> exact ff h2' rfl
          | _ => cases hb
        | dct l =>
          cases v with
          | DictComp x y2 gs scope pos =>
            have h2' : chkDL G X.N X.env.scope l (.DictComp x y2 gs scope pos) = true := h2
            cases l with
            | comp kx vx cls own =>
              rcases gs with _ | ⟨⟨tg2, it, ifs, as⟩, _ | ⟨_, _⟩⟩
              · exact ff h2' rfl
              · cases cls with
                | one t i2 ifs2 =>
                  simp only [chkDL, chkCls, Bool.and_eq_true, List.all_eq_true, List.contains_iff_mem, decide_eq_true_eq] at h2'
                  obtain ⟨⟨⟨⟨⟨k0, k1⟩, k2⟩, ⟨⟨k3, k4⟩, k5⟩, k6⟩, k7⟩, k8⟩ := h2'
                  subst k0
                  have gg := g.good
                  have z := ps_setDc (pos := pos) (spos := p) (kx := x) (vx := y2) (g := gT (sysOf X T) t) (tt := tIfs X T C ifs2) (tk := tE X T W0 C kx) (tv := tE X T W0 C vx) gg.calm gg.nd (atN_ok hi) (isLoc_ok hy) sw' (it_ok i2 X W gg tg2 it k5) (blkOk_by (own := ownN X.N own) k1)
                    (fun s H C' cl fp => tg_ok t false (gg.blk s H scope (compEnvC scope cl C' X.env) fp) (fun z => nomatch z) tg2 k4) (fun s H C' cl fp => ifs_ok ifs2 _ (gg.blk s H scope (compEnvC scope cl C' X.env) fp) ifs k6)
                    (fun s H C' cl fp => (e_ok kx _ W0 (gg.blk s H scope (compEnvC scope cl C' X.env) fp) x k7).1) (fun s H C' cl fp => (e_ok vx _ W0 (gg.blk s H scope (compEnvC scope cl C' X.env) fp) y2 k8).1) (noSet_ok k2)
                  rw [ownN_snd] at z
                  exact PSimp z fun D σ H q => w_dcomp1 k3 (w_dct (w_asgV q))
                | two _ _ _ _ _ _ =>
                  simp only [chkDL, chkCls, Bool.and_eq_true] at h2'
                  exact ff h2'.1.1.2 rfl
              · exact ff h2' rfl
            | _ => exact ff h2' rfl
          | ListComp x gs scope pos =>
            have h2' : chkDL G X.N X.env.scope l (.ListComp x gs scope pos) = true := h2
            cases l <;> exact ff h2' rfl
          | SetComp x gs scope pos =>
            have h2' : chkDL G X.N X.env.scope l (.SetComp x gs scope pos) = true := h2
            cases l <;> exact ff h2' rfl
          | _ => cases hb
        | _ => cases h4
    · cases tg <;> exact ff h rfl
  | _ => exact ff h rfl
/-- the clauses of a try -/
theorem hs_ok {X : Cx} {W : WX} (g : GoodS X T G W C sub) : ∀ (hs : Hs) (hds : List ExceptHandler), chkHs G X.N X.env.scope hs hds = true →
    ∃ l, HdsOk X hds l ∧ ∀ (D : Ends) (c : Nat) (pl : List GM.D) (μ : Nat → Addr) (h : MH) (H : Hp) (σ : L2.St) (ρ : Env), At (sysOf X T) σ H μ h ρ → PostS (sysOf X T) W D μ h H (evHs sub C c pl hs ρ h) → wMany X.K W D l (.ref (T.ca c)) none σ H
  | .nil, hds, h => by
    cases hds with
    | nil =>
      refine ⟨[], .nil, fun D c pl μ h H σ ρ A p => ?_⟩
      rw [evHs] at p
      exact p μ H σ (.refl _ _ _) A
    | cons _ _ => exact ff h rfl
  | .cons c2 b hs, hds, h => by
    cases hds with
    | nil => exact ff h rfl
    | cons hd hds =>
      obtain ⟨ty, nm, body, pos'⟩ := hd
      rcases ty with _ | ty
      · exact ff h rfl
      · cases ty with
        | Name x np =>
          rcases nm with _ | nm
          · rcases body with _ | ⟨b0, suite⟩
            · exact ff h rfl
            · simp only [chkHs, Bool.and_eq_true, List.any_eq_true, beq_iff_eq] at h
              obtain ⟨⟨⟨⟨⟨z, w⟩, hz, h4, h5⟩, h2⟩, h3⟩, hq⟩ := h.1
              obtain rfl := sEq_eq h5
              obtain rfl : z = c2 := h4
              obtain ⟨l, hl, fl⟩ := hs_ok g hs hds h.2
              have gc := g.cls _ _ hz
              refine ⟨(.ref (T.ca z), fun _ _ _ => tSs X T W sub C b) :: l, .cons ⟨isGl_ok h2, (nmOk_d h3).1, .inl gc.1⟩ (fun a oe cls d pn _ _ => qs_ok b (X.suite a ((a, oe) :: pn)) g.good.nd W (b0 :: suite) hq) hl, fun D c pl μ h H σ ρ A p => ?_⟩
              refine ⟨sub c z, g.exm c z _ hz, fun e a _ => ?_, fun e => ?_⟩
              · rw [evHs, if_pos e] at p
                exact ⟨μ, h, ρ, A, p⟩
              · rw [evHs, if_neg (by rw [e]; exact Bool.false_ne_true)] at p
                exact fl D c pl μ h H σ ρ A p
          · exact ff h rfl
        | _ => exact ff h rfl
/-- within a try -/
theorem GoodS.try {X : Cx} {W W' : WX} (g : GoodS X T G W C sub) (pn : List (Addr × Obj)) (xe : Value → Shared → Prop) (tk : Takes (X.tr pn xe) W') (pass : PassesOwn (model X.prog X.w) X.A X.env xe) : GoodS (X.tr pn xe) T G W' C sub :=
  ⟨⟨g.good.big, g.good.calm, g.good.nd, tk, g.good.fn, g.good.gc, g.good.bl⟩, g.kind, g.fnall, g.stk, g.frm, pass, g.cls, g.exm⟩
mutual
theorem s_ok : ∀ s : S, SOk T G C sub s
  | .asg t e => asg_ok t e
  | .asg2 i j a b => fun X W g st h => by
    cases st with
    | Assign tgs val p =>
      simp only [chkS] at h
      split at h
      · rename_i x px y py u v q1 q2
        obtain ⟨kt, pt, rfl⟩ := twoN_eq q1
        obtain ⟨kv, pv, rfl⟩ := pairN_eq q2
        simp only [Bool.and_eq_true, decide_eq_true_eq, Bool.not_eq_true'] at h
        obtain ⟨⟨⟨⟨⟨⟨⟨⟨⟨⟨⟨⟨h1, h2⟩, h3⟩, h4⟩, h5⟩, h6⟩, h7⟩, h8⟩, h9⟩, h10⟩, h11⟩, h12⟩, h13⟩ := h
        have gg := g.good
        have hxy : x ≠ y := fun e => by rw [e, sEq_self] at h11; cases h11
        exact PSimp (ps_par gg.calm gg.nd (atN_ok h1) (atN_ok h2) h3 (kindOf_loc h4) (kindOf_loc h5) (pa2 (e_ok a X W gg u h12).1 (e_ok b X W gg v h13).1 h6 h7) (sw_pair g.kind h4 h5 h6 h7 h8 hxy h9 h10) rfl) fun D σ H q => w_asg2 q
      · cases h
    | _ => exact ff h rfl
  | .setI o i e => fun X W g st h => by
    cases st with
    | Assign ts v p =>
      rcases ts with _ | ⟨tg, _ | ⟨_, _⟩⟩
      · exact ff h rfl
      · cases tg with
        | Subscript x y q =>
          simp only [chkS, Bool.and_eq_true] at h
          obtain ⟨⟨⟨h0, h1⟩, h2⟩, h3⟩ := h
          have gg := g.good
          exact PSimp (ps_asg (e_ok e X W gg v h3).1 (pg_sub (pos := q) (e_ok o X W gg x h1).1 (e_ok i X W gg y h2).1 (set_any (T := T) gg.big) (by intro _; cases y <;> first | rfl | cases h0)) (by cases v <;> rfl) (noSw_ok rfl) rfl) fun D σ H q => w_setI q
        | _ => exact ff h rfl
      · cases tg <;> exact ff h rfl
    | _ => exact ff h rfl
  | .setSl _ _ _ _ => fun X W g st h => by cases st <;> exact ff h rfl
  | .aug i o e => fun X W g st h => by
    cases st with
    | AugAssign tg op v p =>
      cases tg with
      | Name x q =>
        simp only [chkS, Bool.and_eq_true, Bool.or_eq_true, decide_eq_true_eq] at h
        obtain ⟨⟨⟨⟨h1, h2⟩, h3⟩, h4⟩, h5⟩ := h
        obtain rfl : bopS o = op := of_decide_eq_true h3
        have gg := g.good
        obtain ⟨hx, _⟩ := isSt_ok h2
        have hip : PIp X (bopS o) (ipI (augF o)) := by
          rcases h4 with rfl | rfl
          · exact ip_add
          · exact ip_sub
        exact PSimp (ps_aug gg.nd (atN_ok h1) hx (e_ok e X W gg v h5).1 hip (.inl (g.fnall _))) fun D σ H q => w_aug h4 q
      | _ => exact ff h rfl
    | _ => exact ff h rfl
  | .augI _ _ _ _ => fun X W g st h => by cases st <;> exact ff h rfl
  | .ex e => fun X W g st h => by
    cases st with
    | Expr v p =>
      simp only [chkS, Bool.and_eq_true, Bool.not_eq_true'] at h
      exact PSimp (ps_expr (e_ok e X W g.good v h.2).1 (notComp_sw h.1)) fun D σ H q => w_ex q
    | _ => exact ff h rfl
  | .ret e => fun X W g st h => by
    cases st with
    | Return v p =>
      cases v with
      | none => exact ff h rfl
      | some x => exact PSimp (ps_ret (e_ok e X W g.good x h).1) fun D σ H q => w_ret q
    | _ => exact ff h rfl
  | .retN => fun X W g st h => by
    cases st with
    | Return v p =>
      cases v with
      | none => exact PSimp ps_retN fun D σ H q => w_retN q
      | some x => exact ff h rfl
    | _ => exact ff h rfl
  | .ite c a b => fun X W g st h => by
    cases st with
    | If x y z p =>
      simp only [chkS, Bool.and_eq_true] at h
      obtain ⟨⟨⟨h1, h2⟩, h3⟩, h4⟩ := h
      exact PSimp (ps_if ((e_ok c X W g.good x h2).2 h1) (ss_ok a X W g y h3) (ss_ok b X W g z h4)) fun D σ H q => w_if q
    | _ => exact ff h rfl
  | .wh c b => fun X W g st h => by
    cases st with
    | While x y z p =>
      cases z with
      | nil =>
        simp only [chkS, Bool.and_eq_true] at h
        obtain ⟨⟨h1, h2⟩, h3⟩ := h
        exact PSimp (ps_while g.pass ((e_ok c X W g.good x h2).2 h1) (ss_ok b X W g y h3)) fun D σ H q => w_while q
      | cons _ _ => exact ff h rfl
    | _ => exact ff h rfl
  | .fr t i b => fun X W g st h => by
    cases st with
    | For tg it y z p =>
      cases z with
      | nil =>
        simp only [chkS, Bool.and_eq_true] at h
        obtain ⟨⟨⟨h1, h2⟩, h3⟩, h4⟩ := h
        exact PSimp (ps_for g.pass g.good.calm (it_ok i X W g.good tg it h2) (tg_ok t true g.good (fun _ => g.fnall) tg h1) (ss_ok b X W g y h4) (noSet_ok h3)) fun D σ H q => w_for q
      | cons _ _ => exact ff h rfl
    | _ => exact ff h rfl
  | .raise c => fun X W g st h => by
    cases st with
    | Raise e f p =>
      rcases e with _ | e
      · exact ff h rfl
      · cases e with
        | Call fn xs kw q =>
          cases fn with
          | Name x p1 =>
            rcases xs with _ | ⟨y, _ | ⟨_, _⟩⟩
            · exact ff h rfl
            · cases y with
              | Constant k j p2 =>
                cases k with
                | str m =>
                  rcases kw with _ | ⟨_, _⟩
                  · rcases f with _ | f
                    · simp only [chkS, Bool.and_eq_true, List.any_eq_true, beq_iff_eq] at h
                      obtain ⟨⟨⟨⟨z, w⟩, hz, h4, h5⟩, h2⟩, h3⟩ := h
                      obtain rfl := sEq_eq h5
                      obtain rfl : z = c := h4
                      obtain ⟨c1, c2, c3, bmB, B, n1, n2, F, c4⟩ := g.cls _ _ hz
                      exact PSimp (ps_raise g.good.calm g.good.tk (pmk_own F c4 c1 c2 c3 (isGl_ok h2) (nmOk_d h3).1)) fun D σ H q => w_raise q
                    · exact ff h rfl
                  · exact ff h rfl
                | _ => exact ff h rfl
              | _ => exact ff h rfl
            · cases y with
              | Constant k j p2 => cases k <;> exact ff h rfl
              | _ => exact ff h rfl
          | _ => exact ff h rfl
        | _ => exact ff h rfl
    | _ => exact ff h rfl
  | .tr b hs => fun X W g st h => by
    cases st with
    | Try y hds els fin p =>
      rcases hds with _ | ⟨hd, hds⟩
      · exact ff h rfl
      · rcases els with _ | ⟨_, _⟩
        · rcases fin with _ | ⟨_, _⟩
          · simp only [chkS, Bool.and_eq_true] at h
            obtain ⟨l, hl, fl⟩ := hs_ok g hs (hd :: hds) h.2
            refine PSimp (ps_try_many g.stk g.frm g.good.tk (tb := fun W' => tSs X T W' sub C b) (fun W' pn xe tk pass => ss_ok b (X.tr pn xe) W' (g.try pn xe tk pass) y h.1) hl) fun D σ H q => ?_
            obtain ⟨μ, h, ρ, A, p⟩ := q
            rw [evS] at p
            refine ⟨μ, h, ρ, A, ?_⟩
            cases r : evSs sub C b ρ h with
            | exc c pl ρ1 h1 =>
              rw [r] at p
              exact fun μ' H' σ' e a => fl D c pl μ' h1 H' σ' ρ1 a (p.rebase e)
            | nx _ _ => rw [r] at p; exact p
            | bk _ _ => rw [r] at p; exact p
            | ct _ _ => rw [r] at p; exact p
            | ret _ _ => rw [r] at p; exact p
            | bad => rw [r] at p; exact p
          · exact ff h rfl
        · exact ff h rfl
    | _ => exact ff h rfl
  | .pass => fun X W g st h => by
    cases st with
    | Pass p => exact PSimp ps_pass fun D σ H q => w_pass q
    | _ => exact ff h rfl
  | .brk => fun X W g st h => by
    cases st with
    | Break p => exact PSimp ps_break fun D σ H q => w_brk q
    | _ => exact ff h rfl
  | .cont => fun X W g st h => by
    cases st with
    | Continue p => exact PSimp ps_continue fun D σ H q => w_cont q
    | _ => exact ff h rfl
  | .freeze _ => fun X W g st h => by cases st <;> exact ff h rfl
  | .wipe _ => fun X W g st h => by cases st <;> exact ff h rfl
theorem ss_ok : ∀ ss : Ss, SsOk T G C sub ss
  | .nil => fun X W g xs h => by
    cases xs with
    | nil => exact PSsimp pss_nil fun D σ H q => w_nil_s q
    | cons _ _ => exact ff h rfl
  | .cons s ss => fun X W g xs h => by
    by_cases fz : ∃ i, s = .freeze i
    · obtain ⟨i, rfl⟩ := fz
      exact pss_freeze (ss_ok ss X W g xs (by cases xs <;> exact h))
    by_cases wz : ∃ is, s = .wipe is
    · obtain ⟨is, rfl⟩ := wz
      exact pss_wipe (ss_ok ss X W g xs (by cases xs <;> exact h))
    · cases xs with
      | nil => exact ff h (by cases s <;> first | rfl | exact absurd ⟨_, rfl⟩ fz | exact absurd ⟨_, rfl⟩ wz)
      | cons x xs =>
        have h' : (chkS G X.N X.env.scope s x && chkSs G X.N X.env.scope ss xs) = true := by
          cases s <;> first | exact h | exact absurd ⟨_, rfl⟩ fz | exact absurd ⟨_, rfl⟩ wz
        rw [Bool.and_eq_true] at h'
        exact PSsimp (pss_cons (s_ok s X W g x h'.1) (ss_ok ss X W g xs h'.2)) fun D σ H q => w_cons q
end
end
end GM
end
section
set_option Elab.async false
set_option linter.all false
set_option maxRecDepth 100000
namespace GM
open PySem PySem.Spec PyProof.Rows L2

theorem cutOk_at {k : Nat} : ∀ {h h' : MH}, cutOk k h h' = true → ∀ (i : Nat) (o : LO), i < h.length → h'[i]? = some o → h[i]? = some o ∨ o.nr k = true
  | [], _, _, i, o, hi, _ => absurd hi (Nat.not_lt_zero _)
  | _ :: _, [], c, _, _, _, _ => by cases c
  | o1 :: h, p :: h', c, 0, o, _, e => by
    simp only [cutOk, Bool.and_eq_true, Bool.or_eq_true, decide_eq_true_eq] at c
    have e' : p = o := Option.some.inj e
    subst e'
    rcases c.1 with c | c
    · exact .inl (by rw [c]; rfl)
    · exact .inr c
  | o1 :: h, p :: h', c, i + 1, o, hi, e => by
    simp only [cutOk, Bool.and_eq_true] at c
    exact cutOk_at c.2 i o (Nat.lt_of_succ_lt_succ hi) (by simpa using e)
mutual
theorem rd_nr {S : Sys} {H : Hp} {μ : Nat → Addr} {L : Nat} : ∀ {d : D} {v : V}, RD S H μ L d v → D.nr L d = true
  | .non, _, _ => rfl
  | .bl _, _, _ => rfl
  | .int _, _, _ => rfl
  | .str _, _, _ => rfl
  | .tup ds, _, ⟨a, vs, e, h, r⟩ => by rw [D.nr]; exact rds_nr r
  | .lst ds, _, ⟨a, vs, e, h, r⟩ => by rw [D.nr]; exact rds_nr r
  | .dic ks ws, _, h => by
    obtain ⟨a, o, e, h⟩ := h
    rw [D.nr, Bool.and_eq_true]
    rcases h with ⟨kvs, h, e2, r⟩ | ⟨xs, us, h, e1, e2, r, r2, r3⟩
    · refine ⟨?_, rds_nr r⟩
      rw [e2]
      clear h e2 r
      induction kvs with
      | nil => rfl
      | cons p t ih =>
        rw [List.map_cons, D.nrs, ih]
        cases p.1 <;> rfl
    · exact ⟨rds_nr r, rds_nr r3⟩
  | .set _, _, h => h.elim
  | .ref i, _, ⟨h, _⟩ => by simpa [D.nr] using h
  | .fn _, _, _ => rfl
  | .clo _ _, _, h => h.elim
theorem rds_nr {S : Sys} {H : Hp} {μ : Nat → Addr} {L : Nat} : ∀ {ds : List D} {vs : List V}, RDs S H μ L ds vs → D.nrs L ds = true
  | [], _, _ => rfl
  | d :: ds, _, ⟨v, ws, e, r, rs⟩ => by rw [D.nrs, rd_nr r, rds_nr rs]; rfl
end
section
variable {S : Sys} {μ μ' : Nat → Addr} {h h' : MH} {H H' : Hp}
theorem os_nr {L : Nat} {o : LO} {a : Addr} (z : OS S H μ L o a) : o.nr L = true := by
  cases o with
  | lst ds => obtain ⟨vs, _, r⟩ := z; exact rds_nr r
  | dic kvs =>
    rw [LO.nr, Bool.and_eq_true]
    rcases z with ⟨ps, a, b, c⟩ | ⟨xs, us, a, b0, b, c, d, f⟩
    · refine ⟨?_, rds_nr c⟩
      rw [b]
      clear a b c
      induction ps with
      | nil => rfl
      | cons p t ih =>
        rw [List.map_cons, D.nrs, ih]
        cases p.1 <;> rfl
    · exact ⟨rds_nr c, rds_nr f⟩
  | ins _ _ => exact z.elim
  | dead => rfl
theorem os_cut {L k : Nat} {o : LO} {a : Addr} (n : o.nr k = true) (z : OS S H μ L o a) : OS S H μ k o a := by
  cases o with
  | lst ds => obtain ⟨vs, e, r⟩ := z; exact ⟨vs, e, nrs_rd (fun _ _ => rfl) n r⟩
  | dic kvs =>
    rw [LO.nr, Bool.and_eq_true] at n
    rcases z with ⟨ps, a, b, c⟩ | ⟨xs, us, a, b0, b, c, d, f⟩
    · exact .inl ⟨ps, a, b, nrs_rd (fun _ _ => rfl) n.2 c⟩
    · exact .inr ⟨xs, us, a, b0, b, nrs_rd (fun _ _ => rfl) n.1 c, d, nrs_rd (fun _ _ => rfl) n.2 f⟩
  | ins _ _ => exact z
  | dead => exact z
theorem take_get {i k : Nat} {o : LO} (e : (h'.take k)[i]? = some o) : i < k ∧ h'[i]? = some o := by
  rw [List.getElem?_take] at e
  split at e
  · rename_i c; exact ⟨c, e⟩
  · cases e
theorem SimH.cut (s0 : SimH S μ h H) (s1 : SimH S μ' h' H') (e : Ext μ h H μ' h' H') (c : ∀ (i : Nat) (o : LO), i < h.length → h'[i]? = some o → h[i]? = some o ∨ o.nr h.length = true) : SimH S μ' (h'.take h.length) H' ∧ (h'.take h.length).length = h.length := by
  have len : (h'.take h.length).length = h.length := by rw [List.length_take]; exact Nat.min_eq_left e.len
  refine ⟨⟨fun i j o p h1 h2 => s1.inj i j o p (take_get h1).2 (take_get h2).2, fun i o q => ?_⟩, len⟩
  obtain ⟨hi, q'⟩ := take_get q
  rw [len]
  refine os_cut ?_ (s1.obj i o q')
  rcases c i o hi q' with z | z
  · exact os_nr (s0.obj i o z)
  · exact z
theorem Ext.cut (e : Ext μ h H μ' h' H') : Ext μ h H μ' (h'.take h.length) H' := by
  have len : (h'.take h.length).length = h.length := by rw [List.length_take]; exact Nat.min_eq_left e.len
  exact ⟨e.hx, e.mu, by rw [len]; exact Nat.le_refl _, e.fr, fun i a b => absurd (Nat.lt_of_lt_of_le (by rw [len] at b; exact b) a) (Nat.lt_irrefl _), e.kp⟩
end

section
variable {X : Cx} {T : Tab} {C : Cal} {sub : Nat → Nat → Bool}
/-- a def's end -/
def WfX (E : XK) : WX := fun c d _ H => E c d H
theorem exit_ok {pins : List (Addr × Obj)} {σ : L2.St} {s : Shared} {W : WX} {live keep : Bool} {μ μ' : Nat → Addr} {h h' : MH} {H H' : Hp} {d : D} {v : V} {Q : VK} (I : Inv X pins σ H' s) (s0 : SimH (sysOf X T) μ h H) (e : Ext μ h H μ' h' H') (s1 : SimH (sysOf X T) μ' h' H') (r : RD (sysOf X T) H' μ' h'.length d v)
    (p : Post (sysOf X T) (RD (sysOf X T)) W [] μ h H (exit1 live keep h d h') Q) : ∃ H2, Inv X pins σ H2 s ∧ Q v H2 := by
  unfold exit1 at p
  split at p
  · exact ⟨H', I, p μ' H' v e s1 r⟩
  · split at p
    · rename_i _ hc
      obtain ⟨sc, len⟩ := s0.cut s1 e (cutOk_at hc)
      have plain : ∀ {d : D}, RD (sysOf X T) H' μ' h'.length d v → Post (sysOf X T) (RD (sysOf X T)) W [] μ h H (if D.nr h.length d = true then .ok d (h'.take h.length) else .bad) Q → ∃ H2, Inv X pins σ H2 s ∧ Q v H2 := by
        intro d r p
        split at p
        · rename_i c
          exact ⟨H', I, p μ' H' v e.cut sc (by rw [len]; exact nr_rd (fun _ _ => rfl) c r)⟩
        · exact p.elim
      split at p
      · cases d with
        | ref n =>
          dsimp only at p
          obtain ⟨hn, rfl⟩ := r
          split at p
          · rename_i c
            exact ⟨H', I, p μ' H' _ e.cut sc ⟨by rw [len]; exact c, rfl⟩⟩
          · rename_i c
            have h0 : H (μ' n) = none := e.nw n (Nat.le_of_not_lt c) hn
            have hf : Fr μ' (h'.take h.length).length (μ' n) := fun i hi q => by
              rw [len] at hi
              have := s0.there hi
              rw [← e.mu i hi, q] at this
              exact this h0
            cases q : h'[n]? with
            | none => rw [q] at p; exact p.elim
            | some o =>
              rw [q] at p
              have z := s1.obj n o q
              have ad : ∀ {o : LO}, OS (sysOf X T) H' μ' h'.length o (μ' n) → o.nr h.length = true → Post (sysOf X T) (RD (sysOf X T)) W [] μ h H (.ok (.ref h.length) (h'.take h.length ++ [o])) Q → ∃ H2, Inv X pins σ H2 s ∧ Q (.ref (μ' n)) H2 := by
                intro o z c p
                have z2 := os_cut c z
                have z3 : OS (sysOf X T) H' (mu1 μ' (h'.take h.length).length (μ' n)) ((h'.take h.length).length + 1) o (μ' n) := by
                  rw [len]
                  have m : ∀ {d : List D} {v : List V}, RDs (sysOf X T) H' μ' h.length d v → RDs (sysOf X T) H' (mu1 μ' h.length (μ' n)) (h.length + 1) d v := fun r => r.mono (.refl H') (fun n hn => mu1_old hn) (Nat.le_succ _)
                  cases o with
                  | lst ds => exact let ⟨vs, a, b⟩ := z2; ⟨vs, a, m b⟩
                  | dic kvs =>
                    rcases z2 with ⟨ps, a, b, c⟩ | ⟨xs, us, a, b0, b, c, d, f⟩
                    · exact .inl ⟨ps, a, b, m c⟩
                    · exact .inr ⟨xs, us, a, b0, b, m c, d, m f⟩
                  | ins _ _ => exact z2
                  | dead => exact z2
                have s3 := sc.adopt hf z3
                have e3 := e.cut.adopt (o := o) h0
                refine ⟨H', I, p _ H' _ e3 s3 ⟨by simp [len], ?_⟩⟩
                rw [len, mu1_new]
              cases o with
              | lst xs =>
                dsimp only at p
                split at p
                · rename_i c; exact ad z c p
                · exact p.elim
              | dic kvs =>
                dsimp only at p
                split at p
                · rename_i c; exact ad z c p
                · exact p.elim
              | _ => exact p.elim
        | _ => exact plain r p
      · cases q : frzD h.length frzN d h' with
        | none => rw [q] at p; exact p.elim
        | some z =>
          obtain ⟨d', h2⟩ := z
          rw [q] at p
          obtain ⟨H2, f, r2, n2⟩ := fz_one_d (T := T) h.length frzN I s1 r q
          have e2 := e.trans f.ext
          have tk : h2.take h.length = h'.take h.length := by
            apply List.ext_getElem?
            intro i
            rw [List.getElem?_take, List.getElem?_take]
            split
            · rename_i hi; exact f.low i hi
            · rfl
          obtain ⟨sc2, len2⟩ := s0.cut f.sim e2 (fun i o hi eo => by rw [f.low i hi] at eo; exact cutOk_at hc i o hi eo)
          refine ⟨H2, f.inv, p μ' H2 v ?_ ?_ ?_⟩
          · rw [← tk]; exact e2.cut
          · rw [← tk]; exact sc2
          · rw [len]; exact nr_rd (fun _ _ => rfl) n2 r2
    · exact p.elim
theorem body_ok {body : List Stmt} {ss : Ss} {E : XK} {fd : FD} (h : PSs X body (tSs X T (WfX E) sub C ss)) :
    PSs X body (fun D σ H => ∃ μ h ρ, At (sysOf X T) σ H μ h ρ ∧ Post (sysOf X T) (RD (sysOf X T)) (WfX E) [] μ h H (exitF fd h (evSs sub C ss ρ h)) D.rt ∧ ∀ H' σ', D.rt .non H' → D.nx σ' H') := by
  refine ⟨fun pins s σ H D I ⟨μ, h0, ρ, A, p, hn⟩ => ?_⟩
  let N : L2.St → Hp → Prop := fun σ' H' => ∃ μ' h', Ext μ h0 H μ' h' H' ∧ SimH (sysOf X T) μ' h' H' ∧ Post (sysOf X T) (RD (sysOf X T)) (WfX E) [] μ h0 H (exit1 fd.live fd.keep h0 .non h') D.rt
  let Rt : VK := fun v H' => ∃ μ' h' d, Ext μ h0 H μ' h' H' ∧ SimH (sysOf X T) μ' h' H' ∧ RD (sysOf X T) H' μ' h'.length d v ∧ Post (sysOf X T) (RD (sysOf X T)) (WfX E) [] μ h0 H (exit1 fd.live fd.keep h0 d h') D.rt
  have q : tSs X T (WfX E) sub C ss ⟨N, Rt, fun _ _ => False, fun _ _ => False⟩ σ H := by
    refine ⟨μ, h0, ρ, A, ?_⟩
    cases r : evSs sub C ss ρ h0 with
    | nx ρ h' => rw [r] at p; exact fun μ' H' σ' e a => ⟨μ', h', e, a.hp, p⟩
    | ret d h' => rw [r] at p; exact fun μ' H' v e s rd => ⟨μ', h', d, e, s, rd, p⟩
    | exc c pl ρ h' =>
      rw [r] at p
      intro μ' H' σ' e a
      simp only [exitF] at p
      split at p
      · exact p μ' H' e a.hp
      · split at p
        · rename_i _ hc
          exact p μ' H' e.cut (A.hp.cut a.hp e (cutOk_at hc)).1
        · exact p.elim
    | bk _ _ => rw [r] at p; exact p.elim
    | ct _ _ => rw [r] at p; exact p.elim
    | bad => rw [r] at p; exact p.elim
  refine thn (h.run pins s σ H _ I q) fun f s' hsp => ?_
  cases f with
  | next =>
    obtain ⟨σ', H', J, μ', h', e, sm, p'⟩ := hsp
    obtain ⟨H2, J2, q2⟩ := exit_ok (v := .non) J A.hp e sm (d := .non) rfl p'
    exact ⟨σ', H2, J2, hn H2 σ' q2⟩
  | ret u =>
    obtain ⟨v, σ', H', J, rv, μ', h', d, e, sm, rd, p'⟩ := hsp
    obtain ⟨H2, J2, q2⟩ := exit_ok J A.hp e sm rd p'
    exact ⟨v, σ', H2, J2, rv, q2⟩
  | brk => obtain ⟨_, _, _, z⟩ := hsp; exact z.elim
  | cont => obtain ⟨_, _, _, z⟩ := hsp; exact z.elim
end
end GM
end
section
set_option Elab.async false
set_option linter.all false
set_option maxRecDepth 100000
namespace GM
open PySem PySem.Spec PyProof.Rows L2

/-- what is known of the module -/
structure Env1 (P : Program) (w : World) (K : PySem.W.Frag) (mg : Str → Option Value) (T : Tab) (G : Nm) (sub : Nat → Nat → Bool) : Prop where
  gc : ∀ x d, (x, d) ∈ G.gc → ∃ (u : Value) (v : V), mg x = some u ∧ RelV v u ∧ ∀ H μ L, RD ⟨P, w, K, T.fa, T.ca⟩ H μ L d v
  bl : ∀ x ∈ bnames, mg x = none
  cls : ∀ c x, (c, x) ∈ G.cl → mg x = some (.ref (T.ca c)) ∧ PySem.W.keepIn K (.ref (T.ca c)) = true ∧ PySem.W.subIn K (.ref (T.ca c)) (.type "BaseException") = some true ∧ PySem.W.typeIn K (.ref (T.ca c)) = some (.type "type") ∧
    ∃ (bmB : List Value) (B newId initId : String), ExcBaseFacts B newId initId bmB ∧ PySem.W.excIn K (T.ca c) bmB newId = true
  exm : ∀ c c2 x, (c2, x) ∈ G.cl → PySem.W.exmOne K (.ref (T.ca c)) (.ref (T.ca c2)) = some (sub c c2)
/-- a def's promise at a depth -/
def FOk (P : Program) (w : World) (K : PySem.W.Frag) (mg : Str → Option Value) (base : Heap) (T : Tab) (G : Nm) (C : Cal) (k : Nat) : Prop :=
  ∀ f x, (f, x) ∈ G.fn → ∃ (fd : FuncData) (ps : List Str), FnOk P w K mg base (L2.CX P w) k (T.fa f) fd ps (spC ⟨P, w, K, T.fa, T.ca⟩ C f) ∧ mg x = some (.ref (T.fa f)) ∧ PySem.W.keepIn K (.ref (T.fa f)) = true ∧ Binds K fd ps []
/-- one def -/
structure D1 (K : PySem.W.Frag) (mg : Str → Option Value) (T : Tab) (G : Nm) (prog : Nat → Option FD) (f : Nat) (x : Str) (fd : FuncData) (ps : List Str) : Prop where
  ex : ∃ (name qual : Str) (params : Arguments) (body : List Stmt) (scope : Scope) (N : List Str) (fdm : FD), FunD K name qual params body scope [] [] (T.fa f) fd ∧ FnScope N ps scope ∧ prog f = some fdm ∧ fdm.np = ps.length ∧ fdm.nl = N.length ∧ chkSs G N scope fdm.body body = true
  mg : mg x = some (.ref (T.fa f))
  kp : PySem.W.keepIn K (.ref (T.fa f)) = true
  bd : Binds K fd ps []

section
variable {P : Program} {w : World} {K : PySem.W.Frag} {mg : Str → Option Value} {base : Heap} {T : Tab} {G : Nm} {sub : Nat → Nat → Bool} {prog : Nat → Option FD}
theorem spC_len {n f : Nat} {fdm : FD} {ps : List Str} (hp : prog f = some fdm) (hn : fdm.np = ps.length) {vs : List V} {H : Hp} {Q : VK} {E : XK} (h : spC ⟨P, w, K, T.fa, T.ca⟩ (run sub prog (n + 1)) f vs H Q E) : vs.length = ps.length := by
  obtain ⟨μ, h, ds, sm, rs, p⟩ := h
  simp only [run, hp] at p
  split at p
  · rename_i c
    rw [← rs.length, c.1, hn]
  · exact p.elim
theorem def_ok (e1 : Env1 P w K mg T G sub) {n k f : Nat} {x : Str} {fd : FuncData} {ps : List Str} (F : FOk P w K mg base T G (run sub prog n) k) (d : D1 K mg T G prog f x fd ps) : FnOk P w K mg base (L2.CX P w) (k + 1) (T.fa f) fd ps (spC ⟨P, w, K, T.fa, T.ca⟩ (run sub prog (n + 1)) f) := by
  obtain ⟨name, qual, params, body, scope, N, fdm, FD, S, hp, hn, hl, hc⟩ := d.ex
  refine FD.ok S (fun vs H Q E h => spC_len hp hn h) fun cdv A outer s H vs Q E hr hsp => ?_
  have g : GoodS (cxOf (L2.CX P w) P w K mg base N qual scope (T.fa f) cdv A outer s H E) T G (WfX E) (run sub prog n) sub := by
    refine ⟨⟨?_, rfl, S.nd, ?_, ?_, e1.gc, e1.bl⟩, S.kind, fun _ => rfl, rfl, rfl, ?_, ?_, e1.exm⟩
    · have := hr.un
      show (A.deeper (envOfC qual scope s.heap.objs.size (T.fa f) cdv)).units + 200 < cLine
      omega
    · exact takes_of rfl rfl rfl rfl
    · intro f' x' hm
      obtain ⟨fd', ps', a, b, c, d'⟩ := F f' x' hm
      exact ⟨k, fd', ps', a, hr, b, c, d'⟩
    · exact passes_of rfl
    · intro c x' hm
      obtain ⟨a, b, c1, c2, d'⟩ := e1.cls c x' hm
      exact ⟨a, b, raises_own c1 c2, d'⟩
  refine ⟨_, body_ok (fd := fdm) (ss_ok fdm.body _ (WfX E) g body hc), ?_⟩
  obtain ⟨μ, h, ds, sm, rs, p⟩ := hsp
  simp only [run, hp] at p
  split at p
  · rename_i c
    refine ⟨μ, h, _, ⟨sm, ?_⟩, p, fun _ _ z => z⟩
    have lv : vs.length = ds.length := rs.length.symm
    refine ⟨by simp [L2.start, c.1, hl, lv, hn], fun i dd hi => ?_⟩
    by_cases hlt : i < ds.length
    · rw [List.getElem?_append_left (by simpa using hlt), List.getElem?_map] at hi
      obtain ⟨d', hd, ed⟩ := Option.map_eq_some_iff.mp hi
      have ed' : d' = dd := Option.some.inj ed
      subst ed'
      obtain ⟨v, hv, r⟩ := rs.get hd
      refine ⟨v, ?_, r⟩
      unfold L2.start
      rw [List.getElem?_append_left (by rw [List.length_map, lv]; exact hlt), List.getElem?_map, hv]; rfl
    · rw [List.getElem?_append_right (by simpa using Nat.le_of_not_lt hlt), List.getElem?_replicate] at hi
      split at hi
      · cases hi
      · cases hi
  · exact p.elim
/-- all defs, at every depth -/
theorem prog_ok (e1 : Env1 P w K mg T G sub) (ds : ∀ f x, (f, x) ∈ G.fn → ∃ fd ps, D1 K mg T G prog f x fd ps) : ∀ n, FOk P w K mg base T G (run sub prog n) n := by
  intro n
  induction n with
  | zero =>
    intro f x hm
    obtain ⟨fd, ps, d⟩ := ds f x hm
    have no : ∀ vs H Q E, ¬ spC ⟨P, w, K, T.fa, T.ca⟩ (run sub prog 0) f vs H Q E := fun vs H Q E ⟨μ, h, ds, _, _, p⟩ => by
      rw [run] at p; exact p
    exact ⟨fd, ps, ⟨fun vs H Q E h => (no _ _ _ _ h).elim, fun A outer s H args us vs Q E _ _ _ _ h => (no _ _ _ _ h).elim⟩, d.mg, d.kp, d.bd⟩
  | succ n ih =>
    intro f x hm
    obtain ⟨fd, ps, d⟩ := ds f x hm
    exact ⟨fd, ps, def_ok e1 ih d, d.mg, d.kp, d.bd⟩
/-- the law's def: its run says True -/
theorem law_sp {n f : Nat} (hr : ∀ ns : List Int, ns.length ≤ 63 → ∃ h', run sub prog n f [.lst (ns.map D.int)] [] = .ok (.bl true) h') (H : Hp) (a : Addr) (ns : List Int) (hl : ns.length ≤ 63) (ho : Only H) (hs : SqL K H a (ns.map V.int)) :
    spC ⟨P, w, K, T.fa, T.ca⟩ (run sub prog n) f [.ref a] H (fun v _ => v = .bl true) fun _ _ _ => False := by
  obtain ⟨h', e⟩ := hr ns hl
  have fz : Fz ⟨P, w, K, T.fa, T.ca⟩ H a (ns.map V.int) := by
    rcases hs with (hs | hs) | hs
    · rcases ho a with z | ⟨o, xs, z⟩
      · rw [z] at hs; cases hs
      · rw [z] at hs; cases hs
    · exact .inl hs
    · exact .inr hs
  have intsR : ∀ ns : List Int, RDs ⟨P, w, K, T.fa, T.ca⟩ H (fun _ => 0) 0 (ns.map D.int) (ns.map V.int) := fun ns => by
    induction ns with
    | nil => exact .nil
    | cons n ns ih => exact .cons rfl ih
  refine ⟨fun _ => 0, [], [.lst (ns.map D.int)], ⟨fun i j o p h => by simp at h, fun i o h => by simp at h⟩, .cons ⟨a, _, rfl, fz, intsR ns⟩ .nil, ?_⟩
  rw [e]
  intro μ' H' v _ _ r
  exact r
end
end GM
end
section
set_option Elab.async false
set_option linter.all false
set_option maxRecDepth 100000
set_option maxHeartbeats 2000000
namespace GM
open PySem PySem.Spec PyProof.Rows L2
theorem walk_ofX {l : PySem.W.OpenLaw} {n k : Nat} {q : Program} {loose : List Str} {XP : (Str → Option Value) → Heap → Prop} {YP : World → Heap → Prop} {d : DefRec} {CX : World → CXT} {x : Str}
    (hn : l.most = some n) (hn2 : n ≤ sizeLine) (hdf : d.params.defaults = []) (hr : Room k callerA)
    (F : ∀ (w : World) (mg : Str → Option Value) (fa : Addr) (h : Heap), YP w h → h.Ns mainGlobals mg → mg d.name = some (.ref fa) →
      ∃ (K : PySem.W.Frag) (fd : FuncData) (sp : Sp), K.In h ∧ (∀ (s : Shared) (u : Value), BindsTo s fd ⟨[u], []⟩ [(x, u)]) ∧
        (∀ (H : Hp) (a : Addr) (ns : List Int), ns.length ≤ n → Only H → SqL K H a (ns.map V.int) → sp [.ref a] H (fun v _ => v = .bl true) fun _ _ _ => False) ∧
        ∀ base : Heap, K.In base → base.Ns mainGlobals mg → FnOk l.prog w K mg base (CX w) k fa fd [x] sp)
    (hCX : ∀ (w : World) (H : Hp) (s : Shared) (e : Value) (s' : Shared), CX w [] H s (fun _ _ _ => False) e s' → False) :
    PySem.W.WalkO q loose XP YP l.row.toRowW d [] (fun f vs => PySem.call f vs) := by
  refine Att.attach_call hn hdf fun w s₀ s₁ mg mb fa o pm cd doc a vs ns G Y ho hd hcd hmg hobj hints hlen hg => ?_
  obtain ⟨K, fd, sp, KX, hb, hsp, hF⟩ := F w mg fa _ Y G.T.g hmg
  exact law_call KX G.T.g G.T.b G.T.builtins G.T.nolimit hg hobj hints (Nat.le_trans hlen hn2) hr hF hb (fun H hO hS => hsp H a ns hlen hO hS) fun H e s' => hCX w H s₁ e s'
theorem cx_no {P : Program} : ∀ (w : World) (H : Hp) (s : Shared) (e : Value) (s' : Shared), L2.CX P w [] H s (fun _ _ _ => False) e s' → False := fun w H s e s' h => by
  obtain ⟨_, _, _, _, _, _, _, _, _, _, _, _, z⟩ := h
  exact z.elim
/-- a name by its number -/
def nmOf (l : List (Nat × Str)) (i : Nat) : Str := match l with
  | [] => ⟨#[]⟩
  | (j, x) :: r => if j = i then x else nmOf r i
theorem mem_of {α : Type} {p : α → Prop} {l : List α} (h : ∀ a, a ∈ l → p a) : ∀ a, a ∈ l → p a := h
end GM
end
section
set_option Elab.async false
set_option linter.all false
set_option maxRecDepth 100000
set_option maxHeartbeats 0
namespace GM
open PySem PySem.Spec PyProof.Rows L2
def top (i : Nat) : Stmt := PySem.Challenge.pw_graftmill_k05_states_by_hand.main.body.getD i (.Pass ⟨0, 0, 0, 0⟩)
def b_is_name_l1 : L := .comp (.cmp .isIn (.var 1) (.gc ⟨#[83, 77, 65, 76, 76]⟩ (.str ⟨#[97, 98, 99, 100, 101, 102, 103, 104, 105, 106, 107, 108, 109, 110, 111, 112, 113, 114, 115, 116, 117, 118, 119, 120, 121, 122]⟩))) (.one (.v 1) (.seq (.var 0)) (.nil)) [1]
def b_is_name : FD := ⟨1, 2, .cons (.ret (.and (.cons (.isa .str (.var 0)) (.cons (.cmp2 .le .le (.int 1) (.bi .len (.cons (.var 0) .nil)) (.gc ⟨#[77, 79, 83, 84, 95, 78, 65, 77, 69]⟩ (.int 8))) (.cons (.bi .all (.cons (.lst (b_is_name_l1)) .nil)) .nil))))) .nil, false, false⟩
def b_is_whole : FD := ⟨3, 3, .cons (.ret (.and (.cons (.isa .int (.var 0)) (.cons (.not (.isa .bool (.var 0))) (.cons (.cmp2 .le .le (.var 1) (.var 0) (.var 2)) .nil))))) .nil, false, false⟩
def b_is_sign : FD := ⟨1, 1, .cons (.ret (.and (.cons (.isa .tuple (.var 0)) (.cons (.cmp .eq (.bi .len (.cons (.var 0) .nil)) (.int 2)) (.cons (.call 0 (.cons (.idx (.var 0) (.int 0)) .nil)) (.cons (.call 1 (.cons (.idx (.var 0) (.int 1)) (.cons (.int 0) (.cons (.gc ⟨#[77, 79, 83, 84, 95, 82, 65, 78, 75]⟩ (.int 2)) .nil)))) .nil)))))) .nil, false, false⟩
def b_is_signs_l1 : L := .comp (.call 2 (.cons (.var 4) .nil)) (.one (.v 4) (.seq (.var 0)) (.nil)) [4]
def b_is_signs_l2 : L := .comp (.cmp .lt (.idx (.idx (.var 0) (.var 1)) (.int 0)) (.idx (.idx (.var 0) (.bin .add (.var 1) (.int 1))) (.int 0))) (.one (.v 1) (.range1 (.bin .sub (.bi .len (.cons (.var 0) .nil)) (.int 1))) (.nil)) [1]
def b_is_signs_l3 : L := .comp (.cmp .eq (.var 3) (.int 0)) (.one (.t (.cons (.v 2) (.cons (.v 3) (.nil)))) (.seq (.var 0)) (.nil)) [2, 3]
def b_is_signs : FD := ⟨1, 5, .cons (.ite (.or (.cons (.not (.isa .tuple (.var 0))) (.cons (.not (.cmp2 .le .le (.int 1) (.bi .len (.cons (.var 0) .nil)) (.gc ⟨#[77, 79, 83, 84, 95, 83, 73, 71, 78, 83]⟩ (.int 5)))) (.cons (.not (.bi .all (.cons (.lst (b_is_signs_l1)) .nil))) .nil)))) (.cons (.ret (.bl false)) .nil) (.nil)) (.cons (.ite (.not (.bi .all (.cons (.lst (b_is_signs_l2)) .nil))) (.cons (.ret (.bl false)) .nil) (.nil)) (.cons (.ret (.bi .any (.cons (.lst (b_is_signs_l3)) .nil))) .nil)), false, false⟩
def b_rank_of_s1 : S := .fr (.t (.cons (.v 2) (.cons (.v 3) (.nil)))) (.seq (.var 0)) (.cons (.ite (.cmp .eq (.var 2) (.var 1)) (.cons (.ret (.var 3)) .nil) (.nil)) (.cons (.wipe [2, 3]) .nil))
def b_rank_of : FD := ⟨2, 4, .cons (b_rank_of_s1) (.cons (.ret (.non)) .nil), false, false⟩
def b_nodes_of_s1 : S := .fr (.v 4) (.seq (.slc (.var 1) (.so (.int 1)) .no)) (.cons (.aug 3 .add (.call 23 (.cons (.var 0) (.cons (.var 4) (.cons (.bin .sub (.var 2) (.int 1)) .nil))))) (.cons (.ite (.cmp .gt (.var 3) (.gc ⟨#[77, 79, 83, 84, 95, 78, 79, 68, 69, 83]⟩ (.int 200))) (.cons (.ret (.bin .add (.gc ⟨#[77, 79, 83, 84, 95, 78, 79, 68, 69, 83]⟩ (.int 200)) (.int 1))) .nil) (.nil)) (.cons (.wipe [4]) .nil)))
def b_nodes_of : FD := ⟨3, 5, .cons (.ite (.or (.cons (.cmp .eq (.var 2) (.int 0)) (.cons (.not (.isa .tuple (.var 1))) (.cons (.cmp .eq (.bi .len (.cons (.var 1) .nil)) (.int 0)) (.cons (.not (.isa .str (.idx (.var 1) (.int 0)))) .nil))))) (.cons (.ret (.bin .add (.gc ⟨#[77, 79, 83, 84, 95, 78, 79, 68, 69, 83]⟩ (.int 200)) (.int 1))) .nil) (.nil)) (.cons (.ite (.cmp .ne (.call 4 (.cons (.var 0) (.cons (.idx (.var 1) (.int 0)) .nil))) (.bin .sub (.bi .len (.cons (.var 1) .nil)) (.int 1))) (.cons (.ret (.bin .add (.gc ⟨#[77, 79, 83, 84, 95, 78, 79, 68, 69, 83]⟩ (.int 200)) (.int 1))) .nil) (.nil)) (.cons (.asg (.v 3) (.int 1)) (.cons (b_nodes_of_s1) (.cons (.ret (.var 3)) .nil)))), false, false⟩
def b_is_tree_of : FD := ⟨2, 2, .cons (.ret (.cmp .le (.call 23 (.cons (.var 0) (.cons (.var 1) (.cons (.gc ⟨#[77, 79, 83, 84, 95, 76, 69, 86, 69, 76, 83]⟩ (.int 20)) .nil)))) (.gc ⟨#[77, 79, 83, 84, 95, 78, 79, 68, 69, 83]⟩ (.int 200)))) .nil, false, false⟩
def b_need_tree : FD := ⟨2, 2, .cons (.ite (.not (.call 24 (.cons (.var 0) (.cons (.var 1) .nil)))) (.cons (.raise 3) .nil) (.nil)) .nil, false, false⟩
def b_is_row_l1 : L := .comp (.call 1 (.cons (.var 3) (.cons (.int 0) (.cons (.bin .sub (.var 1) (.int 1)) .nil)))) (.one (.v 3) (.seq (.bin .add (.idx (.var 2) (.int 1)) (.tup (.cons (.idx (.var 2) (.int 2)) .nil)))) (.nil)) [3]
def b_is_row : FD := ⟨3, 4, .cons (.ite (.or (.cons (.not (.isa .tuple (.var 2))) (.cons (.cmp .ne (.bi .len (.cons (.var 2) .nil)) (.int 3)) (.cons (.not (.isa .str (.idx (.var 2) (.int 0)))) .nil)))) (.cons (.ret (.bl false)) .nil) (.nil)) (.cons (.ite (.or (.cons (.not (.isa .tuple (.idx (.var 2) (.int 1)))) (.cons (.cmp .ne (.call 4 (.cons (.var 0) (.cons (.idx (.var 2) (.int 0)) .nil))) (.bi .len (.cons (.idx (.var 2) (.int 1)) .nil))) .nil))) (.cons (.ret (.bl false)) .nil) (.nil)) (.cons (.ret (.bi .all (.cons (.lst (b_is_row_l1)) .nil))) .nil)), false, false⟩
def b_are_states_l1 : L := .comp (.call 1 (.cons (.var 3) (.cons (.int 0) (.cons (.bin .sub (.var 0) (.int 1)) .nil)))) (.one (.v 3) (.seq (.var 1)) (.nil)) [3]
def b_are_states_l2 : L := .comp (.cmp .lt (.idx (.var 1) (.var 2)) (.idx (.var 1) (.bin .add (.var 2) (.int 1)))) (.one (.v 2) (.range1 (.bin .sub (.bi .len (.cons (.var 1) .nil)) (.int 1))) (.nil)) [2]
def b_are_states : FD := ⟨2, 4, .cons (.ite (.or (.cons (.not (.isa .tuple (.var 1))) (.cons (.not (.bi .all (.cons (.lst (b_are_states_l1)) .nil))) .nil))) (.cons (.ret (.bl false)) .nil) (.nil)) (.cons (.ret (.bi .all (.cons (.lst (b_are_states_l2)) .nil))) .nil), false, false⟩
def b_is_guard_l1 : L := .comp (.call 5 (.cons (.var 1) (.cons (.var 2) (.cons (.var 6) .nil)))) (.one (.v 6) (.seq (.var 3)) (.nil)) [6]
def b_is_guard_l2 : L := .comp (.cmp .lt (.idx (.var 3) (.var 5)) (.idx (.var 3) (.bin .add (.var 5) (.int 1)))) (.one (.v 5) (.range1 (.bin .sub (.bi .len (.cons (.var 3) .nil)) (.int 1))) (.nil)) [5]
def b_is_guard : FD := ⟨1, 7, .cons (.ite (.or (.cons (.not (.isa .tuple (.var 0))) (.cons (.cmp .ne (.bi .len (.cons (.var 0) .nil)) (.int 4)) .nil))) (.cons (.ret (.bl false)) .nil) (.nil)) (.cons (.asg (.t (.cons (.v 1) (.cons (.v 2) (.cons (.v 3) (.cons (.v 4) (.nil)))))) (.var 0)) (.cons (.ite (.or (.cons (.not (.call 3 (.cons (.var 1) .nil))) (.cons (.not (.call 1 (.cons (.var 2) (.cons (.int 1) (.cons (.gc ⟨#[77, 79, 83, 84, 95, 83, 84, 65, 84, 69, 83]⟩ (.int 24)) .nil))))) (.cons (.not (.call 6 (.cons (.var 2) (.cons (.var 4) .nil)))) .nil)))) (.cons (.ret (.bl false)) .nil) (.nil)) (.cons (.ite (.or (.cons (.not (.isa .tuple (.var 3))) (.cons (.cmp .gt (.bi .len (.cons (.var 3) .nil)) (.gc ⟨#[77, 79, 83, 84, 95, 82, 79, 87, 83]⟩ (.int 3000))) (.cons (.not (.bi .all (.cons (.lst (b_is_guard_l1)) .nil))) .nil)))) (.cons (.ret (.bl false)) .nil) (.nil)) (.cons (.ret (.bi .all (.cons (.lst (b_is_guard_l2)) .nil))) .nil)))), false, false⟩
def b_need_guard : FD := ⟨1, 1, .cons (.ite (.not (.call 7 (.cons (.var 0) .nil))) (.cons (.raise 2) .nil) (.nil)) .nil, false, false⟩
def b_table_of_s1 : S := .fr (.t (.cons (.v 2) (.cons (.v 3) (.cons (.v 4) (.nil))))) (.seq (.idx (.var 0) (.int 2))) (.cons (.ex (.append (.setdefault (.var 1) (.tup (.cons (.var 2) (.cons (.var 3) .nil))) (.live (.disp (.nil)))) (.var 4))) (.cons (.wipe [2, 3, 4]) .nil))
def b_table_of : FD := ⟨1, 5, .cons (.asg (.v 1) (.dct .nil)) (.cons (b_table_of_s1) (.cons (.ret (.var 1)) .nil)), false, false⟩
def b_below_all_l1 : L := .comp (.bin .add (.var 3) (.tup (.cons (.var 4) .nil))) (.two (.v 3) (.seq (.var 1)) (.nil) (.v 4) (.seq (.var 2)) (.nil)) [3, 4]
def b_below_all_s1 : S := .fr (.v 2) (.seq (.var 0)) (.cons (.asg (.v 1) (.live (b_below_all_l1))) (.cons (.freeze 1) (.cons (.wipe [2]) .nil)))
def b_below_all : FD := ⟨1, 5, .cons (.asg (.v 1) (.lst (.disp (.cons (.tup .nil) .nil)))) (.cons (b_below_all_s1) (.cons (.ret (.var 1)) .nil)), false, false⟩
def b_up_l1 : L := .ssort (.var 4) (.two (.v 3) (.seq (.call 27 (.cons (.var 2) .nil))) (.nil) (.v 4) (.seq (.get (.var 0) (.tup (.cons (.var 1) (.cons (.var 3) .nil))) (.lst (.disp (.nil))))) (.nil)) [3, 4]
def b_up : FD := ⟨3, 5, .cons (.ret (.bi .tuple (.cons (.lst (b_up_l1)) .nil))) .nil, false, false⟩
def b_states_in_l1 : L := .comp (.call 29 (.cons (.var 0) (.cons (.var 2) .nil))) (.one (.v 2) (.seq (.slc (.var 1) (.so (.int 1)) .no)) (.nil)) [2]
def b_states_in : FD := ⟨2, 3, .cons (.ret (.call 28 (.cons (.var 0) (.cons (.idx (.var 1) (.int 0)) (.cons (.lst (b_states_in_l1)) .nil))))) .nil, false, false⟩
def b_states_of : FD := ⟨2, 2, .cons (.ex (.call 8 (.cons (.var 0) .nil))) (.cons (.ex (.call 25 (.cons (.idx (.var 0) (.int 0)) (.cons (.var 1) .nil)))) (.cons (.ret (.live (.ofs (.call 29 (.cons (.call 26 (.cons (.var 0) .nil)) (.cons (.var 1) .nil)))))) .nil)), true, false⟩
def b_ends_in_l1 : L := .comp (.cmp .isIn (.var 2) (.idx (.var 0) (.int 3))) (.one (.v 2) (.seq (.var 1)) (.nil)) [2]
def b_ends_in : FD := ⟨2, 3, .cons (.ret (.bi .any (.cons (.lst (b_ends_in_l1)) .nil))) .nil, false, false⟩
def b_holds : FD := ⟨2, 2, .cons (.ex (.call 8 (.cons (.var 0) .nil))) (.cons (.ex (.call 25 (.cons (.idx (.var 0) (.int 0)) (.cons (.var 1) .nil)))) (.cons (.ret (.call 31 (.cons (.var 0) (.cons (.call 29 (.cons (.call 26 (.cons (.var 0) .nil)) (.cons (.var 1) .nil))) .nil)))) .nil)), false, false⟩
def b__law_well : FD := ⟨2, 5, .cons (.asg (.v 2) (.int 0)) (.cons (.ite (.cmp .lt (.var 1) (.bi .len (.cons (.var 0) .nil))) (.cons (.asg (.v 2) (.idx (.var 0) (.var 1))) .nil) (.nil)) (.cons (.asg (.v 3) (.lst (.disp (.cons (.int 2147483647) (.cons (.int 2147483629) (.cons (.int 2147483587) (.cons (.int 2147483579) (.cons (.int 2147483563) (.cons (.int 2147483549) (.cons (.int 2147483543) (.cons (.int 2147483497) .nil))))))))))) (.cons (.asg (.v 4) (.bin .mod (.bin .mul (.bin .add (.bin .mod (.var 2) (.int 2147483489)) (.int 1)) (.bin .add (.int 48271) (.bin .mul (.int 2) (.var 1)))) (.int 2147483489))) (.cons (.asg (.v 4) (.bin .add (.bin .add (.bin .mod (.bin .mul (.var 4) (.var 4)) (.int 2147483477)) (.var 1)) (.int 1))) (.cons (.ite (.cmp .ge (.var 2) (.bin .pow (.int 10) (.int 18))) (.cons (.ret (.live (.disp (.cons (.var 2) (.cons (.var 4) (.cons (.idx (.var 3) (.bin .mod (.var 1) (.int 8))) .nil)))))) .nil) (.nil)) (.cons (.ret (.live (.disp (.cons (.int 0) (.cons (.var 4) (.cons (.idx (.var 3) (.bin .mod (.var 1) (.int 8))) .nil)))))) .nil)))))), true, false⟩
def b__law_take : FD := ⟨2, 3, .cons (.ite (.cmp .gt (.idx (.var 0) (.int 0)) (.int 0)) (.cons (.asg (.v 2) (.bin .mod (.idx (.var 0) (.int 0)) (.var 1))) (.cons (.setI (.var 0) (.int 0) (.bin .fdiv (.idx (.var 0) (.int 0)) (.var 1))) (.cons (.ret (.var 2)) .nil))) (.nil)) (.cons (.setI (.var 0) (.int 1) (.bin .add (.bin .mod (.bin .mul (.idx (.var 0) (.int 1)) (.int 48271)) (.idx (.var 0) (.int 2))) (.int 1))) (.cons (.ret (.bin .mod (.bin .fdiv (.bin .mod (.bin .mul (.idx (.var 0) (.int 1)) (.idx (.var 0) (.int 1))) (.int 2147483423)) (.int 7)) (.var 1))) .nil)), false, false⟩
def b__law_names_s1 : S := .fr (.v 6) (.range1 (.idx (.lst (.disp (.cons (.int 1) (.cons (.int 1) (.cons (.int 2) (.cons (.int 8) .nil)))))) (.call 13 (.cons (.var 0) (.cons (.int 4) .nil))))) (.cons (.asg (.v 5) (.bin .add (.var 5) (.idx (.var 2) (.call 13 (.cons (.var 0) (.cons (.int 26) .nil)))))) (.cons (.wipe [6]) .nil))
def b__law_names_s2 : S := .fr (.v 4) (.range1 (.var 1)) (.cons (.asg (.v 5) (.str ⟨#[]⟩)) (.cons (b__law_names_s1) (.cons (.setI (.var 3) (.var 5) (.bl true)) (.cons (.wipe [4, 5, 6]) .nil))))
def b__law_names : FD := ⟨2, 7, .cons (.asg (.v 2) (.str ⟨#[97, 98, 99, 100, 101, 102, 103, 104, 105, 106, 107, 108, 109, 110, 111, 112, 113, 114, 115, 116, 117, 118, 119, 120, 121, 122]⟩)) (.cons (.asg (.v 3) (.dct .nil)) (.cons (b__law_names_s2) (.cons (.ret (.live (.sorted (.var 3)))) .nil))), true, false⟩
def b__law_signs_l1 : L := .comp (.idx (.lst (.disp (.cons (.int 0) (.cons (.int 1) (.cons (.int 2) (.cons (.int 2) .nil)))))) (.call 13 (.cons (.var 0) (.cons (.int 4) .nil)))) (.one (.v 3) (.seq (.var 1)) (.nil)) [3]
def b__law_signs_l2 : L := .comp (.tup (.cons (.var 3) (.cons (.var 4) .nil))) (.one (.t (.cons (.v 3) (.cons (.v 4) (.nil)))) (.zip (.var 1) (.var 2)) (.nil)) [3, 4]
def b__law_signs : FD := ⟨1, 5, .cons (.asg (.v 1) (.call 14 (.cons (.var 0) (.cons (.bin .add (.int 1) (.idx (.lst (.disp (.cons (.int 2) (.cons (.int 3) (.cons (.int 2) (.cons (.call 13 (.cons (.var 0) (.cons (.int 5) .nil))) .nil)))))) (.call 13 (.cons (.var 0) (.cons (.int 4) .nil))))) .nil)))) (.cons (.freeze 1) (.cons (.asg (.v 2) (.live (b__law_signs_l1))) (.cons (.setI (.var 2) (.call 13 (.cons (.var 0) (.cons (.bi .len (.cons (.var 1) .nil)) .nil))) (.int 0)) (.cons (.freeze 2) (.cons (.ret (.bi .tuple (.cons (.lst (b__law_signs_l2)) .nil))) .nil))))), false, false⟩
def b__law_full_s1 : S := .fr (.v 2) (.seq (.lst (.disp (.cons (.str ⟨#[117]⟩) (.cons (.str ⟨#[117, 118]⟩) (.cons (.str ⟨#[117, 118, 119]⟩) .nil)))))) (.cons (.ite (.and (.cons (.cmp .lt (.bi .len (.cons (.var 1) .nil)) (.int 3)) (.cons (.cmp .notIn (.var 2) (.var 1)) .nil))) (.cons (.ex (.append (.var 1) (.var 2))) .nil) (.nil)) (.cons (.wipe [2]) .nil))
def b__law_full_l1 : L := .comp (.call 13 (.cons (.var 0) (.cons (.int 3) .nil))) (.one (.v 6) (.seq (.var 1)) (.nil)) [6]
def b__law_full_s2 : S := .fr (.v 5) (.seq (.idx (.lst (.disp (.cons (.lst (.disp (.cons (.int 0) (.cons (.int 1) (.cons (.int 2) .nil))))) (.cons (.lst (.disp (.cons (.int 0) (.cons (.int 2) (.cons (.int 1) .nil))))) .nil)))) (.call 13 (.cons (.var 0) (.cons (.int 2) .nil))))) (.cons (.setI (.var 3) (.var 4) (.var 5)) (.cons (.asg (.v 4) (.bin .mod (.bin .add (.var 4) (.int 1)) (.bi .len (.cons (.var 1) .nil)))) (.cons (.wipe [5]) .nil)))
def b__law_full_l2 : L := .comp (.tup (.cons (.var 6) (.cons (.var 5) .nil))) (.one (.t (.cons (.v 6) (.cons (.v 5) (.nil)))) (.zip (.var 1) (.var 3)) (.nil)) [6, 5]
def b__law_full : FD := ⟨1, 7, .cons (.asg (.v 1) (.call 14 (.cons (.var 0) (.cons (.bin .add (.int 3) (.idx (.lst (.disp (.cons (.int 0) (.cons (.int 0) (.cons (.call 13 (.cons (.var 0) (.cons (.int 3) .nil))) .nil))))) (.call 13 (.cons (.var 0) (.cons (.int 3) .nil))))) .nil)))) (.cons (b__law_full_s1) (.cons (.asg (.v 1) (.live (.sorted (.var 1)))) (.cons (.asg (.v 3) (.live (b__law_full_l1))) (.cons (.asg (.v 4) (.call 13 (.cons (.var 0) (.cons (.bi .len (.cons (.var 1) .nil)) .nil)))) (.cons (b__law_full_s2) (.cons (.freeze 1) (.cons (.freeze 3) (.cons (.ret (.bi .tuple (.cons (.lst (b__law_full_l2)) .nil))) .nil)))))))), false, false⟩
def b__law_tree_l1 : L := .comp (.tup (.cons (.var 8) (.cons (.var 9) .nil))) (.one (.t (.cons (.v 8) (.cons (.v 9) (.nil)))) (.seq (.var 1)) (.cons (.and (.cons (.cmp .lt (.var 9) (.var 2)) (.cons (.or (.cons (.cmp .eq (.var 9) (.int 0)) (.cons (.cmp .gt (.var 3) (.int 1)) .nil))) .nil))) .nil)) [8, 9]
def b__law_tree_l2 : L := .comp (.tup (.cons (.var 8) (.cons (.var 9) .nil))) (.one (.t (.cons (.v 8) (.cons (.v 9) (.nil)))) (.seq (.var 4)) (.cons (.cmp .gt (.var 9) (.int 0)) .nil)) [8, 9]
def b__law_tree : FD := ⟨4, 10, .cons (.asg (.v 4) (.live (b__law_tree_l1))) (.cons (.freeze 4) (.cons (.asg (.v 5) (.live (b__law_tree_l2))) (.cons (.freeze 5) (.cons (.ite (.and (.cons (.cmp .ne (.var 5) (.lst (.disp (.nil)))) (.cons (.cmp .gt (.call 13 (.cons (.var 0) (.cons (.int 5) .nil))) (.int 0)) .nil))) (.cons (.asg (.v 4) (.var 5)) .nil) (.nil)) (.cons (.asg (.t (.cons (.v 8) (.cons (.v 9) (.nil)))) (.idx (.var 4) (.call 13 (.cons (.var 0) (.cons (.bi .len (.cons (.var 4) .nil)) .nil))))) (.cons (.ite (.cmp .eq (.var 9) (.int 0)) (.cons (.ret (.tup (.cons (.var 8) .nil))) .nil) (.nil)) (.cons (.ite (.cmp .eq (.var 9) (.int 1)) (.cons (.ret (.tup (.cons (.var 8) (.cons (.call 33 (.cons (.var 0) (.cons (.var 1) (.cons (.bin .sub (.var 2) (.int 1)) (.cons (.bin .sub (.var 3) (.int 1)) .nil))))) .nil)))) .nil) (.nil)) (.cons (.asg (.v 6) (.bin .add (.int 1) (.call 13 (.cons (.var 0) (.cons (.bin .sub (.var 2) (.int 2)) .nil))))) (.cons (.asg (.v 7) (.call 33 (.cons (.var 0) (.cons (.var 1) (.cons (.var 6) (.cons (.bin .sub (.var 3) (.int 1)) .nil)))))) (.cons (.ret (.tup (.cons (.var 8) (.cons (.var 7) (.cons (.call 33 (.cons (.var 0) (.cons (.var 1) (.cons (.bin .sub (.bin .sub (.var 2) (.int 1)) (.var 6)) (.cons (.bin .sub (.var 3) (.int 1)) .nil))))) .nil))))) .nil)))))))))), false, false⟩
def b__law_tuples_l1 : L := .comp (.tup (.cons (.var 3) .nil)) (.one (.v 3) (.range1 (.var 0)) (.nil)) [3]
def b__law_tuples_l2 : L := .comp (.tup (.cons (.var 3) (.cons (.var 4) .nil))) (.one (.v 4) (.range1 (.var 0)) (.nil)) [4]
def b__law_tuples_s1 : S := .fr (.v 3) (.range1 (.var 0)) (.cons (.ex (.extend (.var 2) (.live (b__law_tuples_l2)))) (.cons (.wipe [3]) .nil))
def b__law_tuples : FD := ⟨2, 5, .cons (.ite (.cmp .eq (.var 1) (.int 0)) (.cons (.ret (.lst (.disp (.cons (.tup .nil) .nil)))) .nil) (.nil)) (.cons (.ite (.cmp .eq (.var 1) (.int 1)) (.cons (.ret (.lst (b__law_tuples_l1))) .nil) (.nil)) (.cons (.asg (.v 2) (.live (.disp (.nil)))) (.cons (b__law_tuples_s1) (.cons (.ret (.var 2)) .nil)))), false, false⟩
def b__law_guard_l1 : L := .comp (.tup (.cons (.var 7) (.cons (.var 9) (.cons (.var 10) .nil)))) (.one (.v 10) (.range1 (.var 3)) (.cons (.cmp .eq (.call 13 (.cons (.var 0) (.cons (.var 4) .nil))) (.int 0)) .nil)) [10]
def b__law_guard_s1 : S := .fr (.v 9) (.seq (.call 17 (.cons (.var 3) (.cons (.var 8) .nil)))) (.cons (.ite (.cmp .eq (.var 4) (.int 0)) (.cons (.ex (.append (.var 5) (.tup (.cons (.var 7) (.cons (.var 9) (.cons (.call 13 (.cons (.var 0) (.cons (.var 3) .nil))) .nil)))))) .nil) (.cons (.ex (.extend (.var 5) (.live (b__law_guard_l1)))) .nil)) (.cons (.wipe [9]) .nil))
def b__law_guard_s2 : S := .fr (.t (.cons (.v 7) (.cons (.v 8) (.nil)))) (.seq (.var 1)) (.cons (b__law_guard_s1) (.cons (.wipe [7, 8, 9]) .nil))
def b__law_guard_l2 : L := .comp (.var 10) (.one (.v 10) (.range1 (.var 3)) (.cons (.cmp .eq (.call 13 (.cons (.var 0) (.cons (.int 2) .nil))) (.int 0)) .nil)) [10]
def b__law_guard : FD := ⟨3, 11, .cons (.asg (.v 3) (.bin .add (.int 1) (.call 13 (.cons (.var 0) (.cons (.var 2) .nil))))) (.cons (.asg (.v 4) (.idx (.lst (.disp (.cons (.int 2) (.cons (.int 3) (.cons (.int 4) (.cons (.int 0) .nil)))))) (.call 13 (.cons (.var 0) (.cons (.int 4) .nil))))) (.cons (.asg (.v 5) (.live (.disp (.nil)))) (.cons (b__law_guard_s2) (.cons (.asg (.v 6) (.live (b__law_guard_l2))) (.cons (.freeze 6) (.cons (.ret (.tup (.cons (.var 1) (.cons (.var 3) (.cons (.bi .tuple (.cons (.var 5) .nil)) (.cons (.bi .tuple (.cons (.var 6) .nil)) .nil)))))) .nil)))))), false, false⟩
def b__law_above_l1 : L := .comp (.cmp .isIn (.var 5) (.var 6)) (.one (.t (.cons (.v 5) (.cons (.v 6) (.nil)))) (.zip (.idx (.var 4) (.int 1)) (.var 2)) (.nil)) [5, 6]
def b__law_above_s1 : S := .fr (.v 4) (.seq (.var 0)) (.cons (.ite (.and (.cons (.cmp .eq (.idx (.var 4) (.int 0)) (.var 1)) (.cons (.bi .all (.cons (.lst (b__law_above_l1)) .nil)) .nil))) (.cons (.setI (.var 3) (.idx (.var 4) (.int 2)) (.bl true)) .nil) (.nil)) (.cons (.wipe [4]) .nil))
def b__law_above : FD := ⟨3, 7, .cons (.asg (.v 3) (.dct .nil)) (.cons (b__law_above_s1) (.cons (.ret (.bi .tuple (.cons (.lst (.sorted (.var 3))) .nil))) .nil)), false, false⟩
def b__law_states_l1 : L := .comp (.call 35 (.cons (.var 0) (.cons (.var 2) .nil))) (.one (.v 2) (.seq (.slc (.var 1) (.so (.int 1)) .no)) (.nil)) [2]
def b__law_states : FD := ⟨2, 3, .cons (.ret (.call 34 (.cons (.var 0) (.cons (.idx (.var 1) (.int 0)) (.cons (.lst (b__law_states_l1)) .nil))))) .nil, false, false⟩
def b__law_says : FD := ⟨2, 2, .cons (.ret (.and (.cons (.isa .bool (.var 0)) (.cons (.cmp .eq (.var 0) (.var 1)) .nil)))) .nil, false, false⟩
def b_law_l1 : L := .comp (.var 11) (.one (.v 11) (.seq (.var 8)) (.cons (.cmp .isIn (.var 11) (.idx (.var 9) (.int 3))) .nil)) [11]
def b_law_s1 : S := .fr (.v 6) (.range1 (.int 8)) (.cons (.asg (.t (.cons (.v 9) (.cons (.v 10) (.nil)))) (.tup (.cons (.idx (.var 4) (.bin .mod (.var 6) (.int 2))) (.cons (.idx (.var 5) (.bin .mod (.bin .fdiv (.var 6) (.int 2)) (.int 2))) .nil)))) (.cons (.asg (.v 7) (.call 30 (.cons (.var 9) (.cons (.var 10) .nil)))) (.cons (.asg (.v 8) (.lst (.ofs (.call 35 (.cons (.idx (.var 9) (.int 2)) (.cons (.var 10) .nil)))))) (.cons (.ite (.or (.cons (.not (.isa .list (.var 7))) (.cons (.cmp .ne (.var 7) (.var 8)) .nil))) (.cons (.ret (.bl false)) .nil) (.nil)) (.cons (.ex (.append (.var 7) (.int 7))) (.cons (.ite (.not (.call 19 (.cons (.call 32 (.cons (.var 9) (.cons (.var 10) .nil))) (.cons (.cmp .ne (.lst (b_law_l1)) (.lst (.disp (.nil)))) .nil)))) (.cons (.ret (.bl false)) .nil) (.nil)) (.cons (.wipe [6, 7, 8, 9, 10]) .nil)))))))
def b_law_s2 : S := .fr (.v 1) (.range1 (.bi .max2 (.cons (.int 2) (.cons (.bi .min2 (.cons (.int 30) (.cons (.bi .len (.cons (.var 0) .nil)) .nil))) .nil)))) (.cons (.asg (.v 2) (.call 12 (.cons (.var 0) (.cons (.var 1) .nil)))) (.cons (.asg (.v 3) (.idx (.lst (.disp (.cons (.call 15 (.cons (.var 2) .nil)) (.cons (.call 16 (.cons (.var 2) .nil)) .nil)))) (.call 13 (.cons (.var 2) (.cons (.int 2) .nil))))) (.cons (.asg (.v 4) (.lst (.disp (.cons (.call 18 (.cons (.var 2) (.cons (.var 3) (.cons (.int 4) .nil)))) (.cons (.call 18 (.cons (.var 2) (.cons (.var 3) (.cons (.int 4) .nil)))) .nil))))) (.cons (.asg (.v 5) (.lst (.disp (.cons (.call 33 (.cons (.var 2) (.cons (.var 3) (.cons (.bin .add (.int 1) (.call 13 (.cons (.var 2) (.cons (.int 24) .nil)))) (.cons (.int 12) .nil))))) (.cons (.call 33 (.cons (.var 2) (.cons (.var 3) (.cons (.bin .add (.int 1) (.call 13 (.cons (.var 2) (.cons (.int 9) .nil)))) (.cons (.int 5) .nil))))) .nil))))) (.cons (b_law_s1) (.cons (.wipe [1, 2, 3, 4, 5, 6, 7, 8, 9, 10]) .nil))))))
def b_law : FD := ⟨1, 12, .cons (b_law_s2) (.cons (.ret (.bl true)) .nil), false, false⟩
def gNm : Nm := ⟨[(0, ⟨#[105, 115, 95, 110, 97, 109, 101]⟩), (1, ⟨#[105, 115, 95, 119, 104, 111, 108, 101]⟩), (2, ⟨#[105, 115, 95, 115, 105, 103, 110]⟩), (3, ⟨#[105, 115, 95, 115, 105, 103, 110, 115]⟩), (4, ⟨#[114, 97, 110, 107, 95, 111, 102]⟩), (23, ⟨#[110, 111, 100, 101, 115, 95, 111, 102]⟩), (24, ⟨#[105, 115, 95, 116, 114, 101, 101, 95, 111, 102]⟩), (25, ⟨#[110, 101, 101, 100, 95, 116, 114, 101, 101]⟩), (5, ⟨#[105, 115, 95, 114, 111, 119]⟩), (6, ⟨#[97, 114, 101, 95, 115, 116, 97, 116, 101, 115]⟩), (7, ⟨#[105, 115, 95, 103, 117, 97, 114, 100]⟩), (8, ⟨#[110, 101, 101, 100, 95, 103, 117, 97, 114, 100]⟩), (26, ⟨#[116, 97, 98, 108, 101, 95, 111, 102]⟩), (27, ⟨#[98, 101, 108, 111, 119, 95, 97, 108, 108]⟩), (28, ⟨#[117, 112]⟩), (29, ⟨#[115, 116, 97, 116, 101, 115, 95, 105, 110]⟩), (30, ⟨#[115, 116, 97, 116, 101, 115, 95, 111, 102]⟩), (31, ⟨#[101, 110, 100, 115, 95, 105, 110]⟩), (32, ⟨#[104, 111, 108, 100, 115]⟩), (12, ⟨#[95, 108, 97, 119, 95, 119, 101, 108, 108]⟩), (13, ⟨#[95, 108, 97, 119, 95, 116, 97, 107, 101]⟩), (14, ⟨#[95, 108, 97, 119, 95, 110, 97, 109, 101, 115]⟩), (15, ⟨#[95, 108, 97, 119, 95, 115, 105, 103, 110, 115]⟩), (16, ⟨#[95, 108, 97, 119, 95, 102, 117, 108, 108]⟩), (33, ⟨#[95, 108, 97, 119, 95, 116, 114, 101, 101]⟩), (17, ⟨#[95, 108, 97, 119, 95, 116, 117, 112, 108, 101, 115]⟩), (18, ⟨#[95, 108, 97, 119, 95, 103, 117, 97, 114, 100]⟩), (34, ⟨#[95, 108, 97, 119, 95, 97, 98, 111, 118, 101]⟩), (35, ⟨#[95, 108, 97, 119, 95, 115, 116, 97, 116, 101, 115]⟩), (19, ⟨#[95, 108, 97, 119, 95, 115, 97, 121, 115]⟩), (22, ⟨#[108, 97, 119]⟩)], [(0, ⟨#[77, 105, 108, 108, 69, 114, 114, 111, 114]⟩), (1, ⟨#[70, 111, 114, 109, 69, 114, 114, 111, 114]⟩), (3, ⟨#[78, 111, 84, 114, 101, 101]⟩), (2, ⟨#[78, 111, 71, 117, 97, 114, 100]⟩)], [(⟨#[83, 77, 65, 76, 76]⟩, .str ⟨#[97, 98, 99, 100, 101, 102, 103, 104, 105, 106, 107, 108, 109, 110, 111, 112, 113, 114, 115, 116, 117, 118, 119, 120, 121, 122]⟩), (⟨#[77, 79, 83, 84, 95, 78, 65, 77, 69]⟩, .int 8), (⟨#[77, 79, 83, 84, 95, 83, 73, 71, 78, 83]⟩, .int 5), (⟨#[77, 79, 83, 84, 95, 82, 65, 78, 75]⟩, .int 2), (⟨#[77, 79, 83, 84, 95, 78, 79, 68, 69, 83]⟩, .int 200), (⟨#[77, 79, 83, 84, 95, 76, 69, 86, 69, 76, 83]⟩, .int 20), (⟨#[77, 79, 83, 84, 95, 83, 84, 65, 84, 69, 83]⟩, .int 24), (⟨#[77, 79, 83, 84, 95, 82, 79, 87, 83]⟩, .int 3000)]⟩
def progT : Nat → Option FD
  | 0 => some b_is_name
  | 1 => some b_is_whole
  | 2 => some b_is_sign
  | 3 => some b_is_signs
  | 4 => some b_rank_of
  | 5 => some b_is_row
  | 6 => some b_are_states
  | 7 => some b_is_guard
  | 8 => some b_need_guard
  | 12 => some b__law_well
  | 13 => some b__law_take
  | 14 => some b__law_names
  | 15 => some b__law_signs
  | 16 => some b__law_full
  | 17 => some b__law_tuples
  | 18 => some b__law_guard
  | 19 => some b__law_says
  | 22 => some b_law
  | 23 => some b_nodes_of
  | 24 => some b_is_tree_of
  | 25 => some b_need_tree
  | 26 => some b_table_of
  | 27 => some b_below_all
  | 28 => some b_up
  | 29 => some b_states_in
  | 30 => some b_states_of
  | 31 => some b_ends_in
  | 32 => some b_holds
  | 33 => some b__law_tree
  | 34 => some b__law_above
  | 35 => some b__law_states
  | _ => none
def n_is_name : List Str := [⟨#[116, 104, 105, 110, 103]⟩, ⟨#[115, 105, 103, 110]⟩]
theorem c_is_name : chkSs gNm n_is_name (defScope (top 12)) b_is_name.body (defBody (top 12)) = true := by kernel_rfl
def n_is_whole : List Str := [⟨#[116, 104, 105, 110, 103]⟩, ⟨#[108, 111, 119]⟩, ⟨#[104, 105, 103, 104]⟩]
theorem c_is_whole : chkSs gNm n_is_whole (defScope (top 13)) b_is_whole.body (defBody (top 13)) = true := by kernel_rfl
def n_is_sign : List Str := [⟨#[116, 104, 105, 110, 103]⟩]
theorem c_is_sign : chkSs gNm n_is_sign (defScope (top 14)) b_is_sign.body (defBody (top 14)) = true := by kernel_rfl
def n_is_signs : List Str := [⟨#[116, 104, 105, 110, 103]⟩, ⟨#[107]⟩, ⟨#[110, 97, 109, 101]⟩, ⟨#[114, 97, 110, 107]⟩, ⟨#[111, 110, 101]⟩]
theorem c_is_signs : chkSs gNm n_is_signs (defScope (top 15)) b_is_signs.body (defBody (top 15)) = true := by kernel_rfl
def n_rank_of : List Str := [⟨#[115, 105, 103, 110, 115]⟩, ⟨#[110, 97, 109, 101]⟩, ⟨#[111, 110, 101]⟩, ⟨#[114, 97, 110, 107]⟩]
theorem c_rank_of : chkSs gNm n_rank_of (defScope (top 16)) b_rank_of.body (defBody (top 16)) = true := by kernel_rfl
def n_nodes_of : List Str := [⟨#[115, 105, 103, 110, 115]⟩, ⟨#[116, 104, 105, 110, 103]⟩, ⟨#[108, 101, 118, 101, 108, 115]⟩, ⟨#[102, 111, 117, 110, 100]⟩, ⟨#[99, 104, 105, 108, 100]⟩]
theorem c_nodes_of : chkSs gNm n_nodes_of (defScope (top 17)) b_nodes_of.body (defBody (top 17)) = true := by kernel_rfl
def n_is_tree_of : List Str := [⟨#[115, 105, 103, 110, 115]⟩, ⟨#[116, 104, 105, 110, 103]⟩]
theorem c_is_tree_of : chkSs gNm n_is_tree_of (defScope (top 18)) b_is_tree_of.body (defBody (top 18)) = true := by kernel_rfl
def n_need_tree : List Str := [⟨#[115, 105, 103, 110, 115]⟩, ⟨#[116, 104, 105, 110, 103]⟩]
theorem c_need_tree : chkSs gNm n_need_tree (defScope (top 19)) b_need_tree.body (defBody (top 19)) = true := by kernel_rfl
def n_is_row : List Str := [⟨#[115, 105, 103, 110, 115]⟩, ⟨#[109, 97, 110, 121]⟩, ⟨#[116, 104, 105, 110, 103]⟩, ⟨#[115, 116, 97, 116, 101]⟩]
theorem c_is_row : chkSs gNm n_is_row (defScope (top 23)) b_is_row.body (defBody (top 23)) = true := by kernel_rfl
def n_are_states : List Str := [⟨#[109, 97, 110, 121]⟩, ⟨#[116, 104, 105, 110, 103]⟩, ⟨#[107]⟩, ⟨#[115, 116, 97, 116, 101]⟩]
theorem c_are_states : chkSs gNm n_are_states (defScope (top 24)) b_are_states.body (defBody (top 24)) = true := by kernel_rfl
def n_is_guard : List Str := [⟨#[116, 104, 105, 110, 103]⟩, ⟨#[115, 105, 103, 110, 115]⟩, ⟨#[109, 97, 110, 121]⟩, ⟨#[114, 111, 119, 115]⟩, ⟨#[101, 110, 100, 115]⟩, ⟨#[107]⟩, ⟨#[114, 111, 119]⟩]
theorem c_is_guard : chkSs gNm n_is_guard (defScope (top 25)) b_is_guard.body (defBody (top 25)) = true := by kernel_rfl
def n_need_guard : List Str := [⟨#[116, 104, 105, 110, 103]⟩]
theorem c_need_guard : chkSs gNm n_need_guard (defScope (top 26)) b_need_guard.body (defBody (top 26)) = true := by kernel_rfl
def n_table_of : List Str := [⟨#[103, 117, 97, 114, 100]⟩, ⟨#[102, 111, 117, 110, 100]⟩, ⟨#[110, 97, 109, 101]⟩, ⟨#[98, 101, 108, 111, 119]⟩, ⟨#[115, 116, 97, 116, 101]⟩]
theorem c_table_of : chkSs gNm n_table_of (defScope (top 27)) b_table_of.body (defBody (top 27)) = true := by kernel_rfl
def n_below_all : List Str := [⟨#[108, 111, 116, 115]⟩, ⟨#[102, 111, 117, 110, 100]⟩, ⟨#[108, 111, 116]⟩, ⟨#[111, 110, 101]⟩, ⟨#[115, 116, 97, 116, 101]⟩]
theorem c_below_all : chkSs gNm n_below_all (defScope (top 28)) b_below_all.body (defBody (top 28)) = true := by kernel_rfl
def n_up : List Str := [⟨#[116, 97, 98, 108, 101]⟩, ⟨#[110, 97, 109, 101]⟩, ⟨#[108, 111, 116, 115]⟩, ⟨#[98, 101, 108, 111, 119]⟩, ⟨#[115, 116, 97, 116, 101]⟩]
theorem c_up : chkSs gNm n_up (defScope (top 29)) b_up.body (defBody (top 29)) = true := by kernel_rfl
def n_states_in : List Str := [⟨#[116, 97, 98, 108, 101]⟩, ⟨#[116, 114, 101, 101]⟩, ⟨#[99, 104, 105, 108, 100]⟩]
theorem c_states_in : chkSs gNm n_states_in (defScope (top 30)) b_states_in.body (defBody (top 30)) = true := by kernel_rfl
def n_states_of : List Str := [⟨#[103, 117, 97, 114, 100]⟩, ⟨#[116, 114, 101, 101]⟩]
theorem c_states_of : chkSs gNm n_states_of (defScope (top 31)) b_states_of.body (defBody (top 31)) = true := by kernel_rfl
def n_ends_in : List Str := [⟨#[103, 117, 97, 114, 100]⟩, ⟨#[115, 116, 97, 116, 101, 115]⟩, ⟨#[115, 116, 97, 116, 101]⟩]
theorem c_ends_in : chkSs gNm n_ends_in (defScope (top 32)) b_ends_in.body (defBody (top 32)) = true := by kernel_rfl
def n_holds : List Str := [⟨#[103, 117, 97, 114, 100]⟩, ⟨#[116, 114, 101, 101]⟩]
theorem c_holds : chkSs gNm n_holds (defScope (top 33)) b_holds.body (defBody (top 33)) = true := by kernel_rfl
def n__law_well : List Str := [⟨#[115, 99, 114, 105, 112, 116]⟩, ⟨#[107]⟩, ⟨#[99, 101, 108, 108]⟩, ⟨#[112, 114, 105, 109, 101, 115]⟩, ⟨#[115, 101, 101, 100]⟩]
theorem c__law_well : chkSs gNm n__law_well (defScope (top 35)) b__law_well.body (defBody (top 35)) = true := by kernel_rfl
def n__law_take : List Str := [⟨#[119, 101, 108, 108]⟩, ⟨#[109, 97, 110, 121]⟩, ⟨#[103, 111, 116]⟩]
theorem c__law_take : chkSs gNm n__law_take (defScope (top 36)) b__law_take.body (defBody (top 36)) = true := by kernel_rfl
def n__law_names : List Str := [⟨#[119, 101, 108, 108]⟩, ⟨#[109, 97, 110, 121]⟩, ⟨#[108, 101, 116, 116, 101, 114, 115]⟩, ⟨#[102, 111, 117, 110, 100]⟩, ⟨#[107]⟩, ⟨#[110, 97, 109, 101]⟩, ⟨#[106]⟩]
theorem c__law_names : chkSs gNm n__law_names (defScope (top 37)) b__law_names.body (defBody (top 37)) = true := by kernel_rfl
def n__law_signs : List Str := [⟨#[119, 101, 108, 108]⟩, ⟨#[110, 97, 109, 101, 115]⟩, ⟨#[114, 97, 110, 107, 115]⟩, ⟨#[110, 97, 109, 101]⟩, ⟨#[114, 97, 110, 107]⟩]
theorem c__law_signs : chkSs gNm n__law_signs (defScope (top 38)) b__law_signs.body (defBody (top 38)) = true := by kernel_rfl
def n__law_full : List Str := [⟨#[119, 101, 108, 108]⟩, ⟨#[110, 97, 109, 101, 115]⟩, ⟨#[115, 112, 97, 114, 101]⟩, ⟨#[114, 97, 110, 107, 115]⟩, ⟨#[97, 116]⟩, ⟨#[114, 97, 110, 107]⟩, ⟨#[110, 97, 109, 101]⟩]
theorem c__law_full : chkSs gNm n__law_full (defScope (top 39)) b__law_full.body (defBody (top 39)) = true := by kernel_rfl
def n__law_tree : List Str := [⟨#[119, 101, 108, 108]⟩, ⟨#[115, 105, 103, 110, 115]⟩, ⟨#[109, 111, 115, 116]⟩, ⟨#[108, 101, 118, 101, 108, 115]⟩, ⟨#[102, 105, 116, 115]⟩, ⟨#[103, 114, 111, 119]⟩, ⟨#[111, 110, 101]⟩, ⟨#[102, 105, 114, 115, 116]⟩, ⟨#[110, 97, 109, 101]⟩, ⟨#[114, 97, 110, 107]⟩]
theorem c__law_tree : chkSs gNm n__law_tree (defScope (top 40)) b__law_tree.body (defBody (top 40)) = true := by kernel_rfl
def n__law_tuples : List Str := [⟨#[109, 97, 110, 121]⟩, ⟨#[114, 97, 110, 107]⟩, ⟨#[102, 111, 117, 110, 100]⟩, ⟨#[107]⟩, ⟨#[106]⟩]
theorem c__law_tuples : chkSs gNm n__law_tuples (defScope (top 41)) b__law_tuples.body (defBody (top 41)) = true := by kernel_rfl
def n__law_guard : List Str := [⟨#[119, 101, 108, 108]⟩, ⟨#[115, 105, 103, 110, 115]⟩, ⟨#[109, 111, 115, 116]⟩, ⟨#[109, 97, 110, 121]⟩, ⟨#[116, 104, 105, 110]⟩, ⟨#[114, 111, 119, 115]⟩, ⟨#[101, 110, 100, 115]⟩, ⟨#[110, 97, 109, 101]⟩, ⟨#[114, 97, 110, 107]⟩, ⟨#[98, 101, 108, 111, 119]⟩, ⟨#[115, 116, 97, 116, 101]⟩]
theorem c__law_guard : chkSs gNm n__law_guard (defScope (top 42)) b__law_guard.body (defBody (top 42)) = true := by kernel_rfl
def n__law_above : List Str := [⟨#[114, 111, 119, 115]⟩, ⟨#[110, 97, 109, 101]⟩, ⟨#[108, 111, 116, 115]⟩, ⟨#[102, 111, 117, 110, 100]⟩, ⟨#[114, 111, 119]⟩, ⟨#[115, 116, 97, 116, 101]⟩, ⟨#[108, 111, 116]⟩]
theorem c__law_above : chkSs gNm n__law_above (defScope (top 43)) b__law_above.body (defBody (top 43)) = true := by kernel_rfl
def n__law_states : List Str := [⟨#[114, 111, 119, 115]⟩, ⟨#[116, 114, 101, 101]⟩, ⟨#[99, 104, 105, 108, 100]⟩]
theorem c__law_states : chkSs gNm n__law_states (defScope (top 44)) b__law_states.body (defBody (top 44)) = true := by kernel_rfl
def n__law_says : List Str := [⟨#[102, 111, 117, 110, 100]⟩, ⟨#[100, 117, 101]⟩]
theorem c__law_says : chkSs gNm n__law_says (defScope (top 45)) b__law_says.body (defBody (top 45)) = true := by kernel_rfl
def n_law : List Str := [⟨#[115, 99, 114, 105, 112, 116]⟩, ⟨#[107]⟩, ⟨#[119, 101, 108, 108]⟩, ⟨#[115, 105, 103, 110, 115]⟩, ⟨#[103, 117, 97, 114, 100, 115]⟩, ⟨#[116, 114, 101, 101, 115]⟩, ⟨#[116, 117, 114, 110]⟩, ⟨#[116, 111, 108, 100]⟩, ⟨#[100, 117, 101]⟩, ⟨#[103, 117, 97, 114, 100]⟩, ⟨#[116, 114, 101, 101]⟩, ⟨#[115, 116, 97, 116, 101]⟩]
theorem c_law : chkSs gNm n_law (defScope (top 46)) b_law.body (defBody (top 46)) = true := by kernel_rfl
end GM
end
section
set_option Elab.async false
set_option linter.all false
set_option maxRecDepth 100000
set_option maxHeartbeats 0
namespace GM
open PySem PySem.Spec PyProof.Rows L2
def dd (x : Str) (i : Nat) : He.DefD := ⟨(x, none), x, x, defArgs (top i), defBody (top i), defScope (top i), [], []⟩
def fnD : List He.DefD := [dd ⟨#[105, 115, 95, 110, 97, 109, 101]⟩ 12, dd ⟨#[105, 115, 95, 119, 104, 111, 108, 101]⟩ 13, dd ⟨#[105, 115, 95, 115, 105, 103, 110]⟩ 14, dd ⟨#[105, 115, 95, 115, 105, 103, 110, 115]⟩ 15, dd ⟨#[114, 97, 110, 107, 95, 111, 102]⟩ 16, dd ⟨#[110, 111, 100, 101, 115, 95, 111, 102]⟩ 17, dd ⟨#[105, 115, 95, 116, 114, 101, 101, 95, 111, 102]⟩ 18, dd ⟨#[110, 101, 101, 100, 95, 116, 114, 101, 101]⟩ 19, dd ⟨#[105, 115, 95, 114, 111, 119]⟩ 23, dd ⟨#[97, 114, 101, 95, 115, 116, 97, 116, 101, 115]⟩ 24, dd ⟨#[105, 115, 95, 103, 117, 97, 114, 100]⟩ 25, dd ⟨#[110, 101, 101, 100, 95, 103, 117, 97, 114, 100]⟩ 26, dd ⟨#[116, 97, 98, 108, 101, 95, 111, 102]⟩ 27, dd ⟨#[98, 101, 108, 111, 119, 95, 97, 108, 108]⟩ 28, dd ⟨#[117, 112]⟩ 29, dd ⟨#[115, 116, 97, 116, 101, 115, 95, 105, 110]⟩ 30, dd ⟨#[115, 116, 97, 116, 101, 115, 95, 111, 102]⟩ 31, dd ⟨#[101, 110, 100, 115, 95, 105, 110]⟩ 32, dd ⟨#[104, 111, 108, 100, 115]⟩ 33, dd ⟨#[95, 108, 97, 119, 95, 119, 101, 108, 108]⟩ 35, dd ⟨#[95, 108, 97, 119, 95, 116, 97, 107, 101]⟩ 36, dd ⟨#[95, 108, 97, 119, 95, 110, 97, 109, 101, 115]⟩ 37, dd ⟨#[95, 108, 97, 119, 95, 115, 105, 103, 110, 115]⟩ 38, dd ⟨#[95, 108, 97, 119, 95, 102, 117, 108, 108]⟩ 39, dd ⟨#[95, 108, 97, 119, 95, 116, 114, 101, 101]⟩ 40, dd ⟨#[95, 108, 97, 119, 95, 116, 117, 112, 108, 101, 115]⟩ 41, dd ⟨#[95, 108, 97, 119, 95, 103, 117, 97, 114, 100]⟩ 42, dd ⟨#[95, 108, 97, 119, 95, 97, 98, 111, 118, 101]⟩ 43, dd ⟨#[95, 108, 97, 119, 95, 115, 116, 97, 116, 101, 115]⟩ 44, dd ⟨#[95, 108, 97, 119, 95, 115, 97, 121, 115]⟩ 45, dd ⟨#[108, 97, 119]⟩ 46]
def faD : List He.Fa := [.glo ⟨#[105, 115, 95, 110, 97, 109, 101]⟩, .glo ⟨#[105, 115, 95, 119, 104, 111, 108, 101]⟩, .glo ⟨#[105, 115, 95, 115, 105, 103, 110]⟩, .glo ⟨#[105, 115, 95, 115, 105, 103, 110, 115]⟩, .glo ⟨#[114, 97, 110, 107, 95, 111, 102]⟩, .glo ⟨#[110, 111, 100, 101, 115, 95, 111, 102]⟩, .glo ⟨#[105, 115, 95, 116, 114, 101, 101, 95, 111, 102]⟩, .glo ⟨#[110, 101, 101, 100, 95, 116, 114, 101, 101]⟩, .glo ⟨#[105, 115, 95, 114, 111, 119]⟩, .glo ⟨#[97, 114, 101, 95, 115, 116, 97, 116, 101, 115]⟩, .glo ⟨#[105, 115, 95, 103, 117, 97, 114, 100]⟩, .glo ⟨#[110, 101, 101, 100, 95, 103, 117, 97, 114, 100]⟩, .glo ⟨#[116, 97, 98, 108, 101, 95, 111, 102]⟩, .glo ⟨#[98, 101, 108, 111, 119, 95, 97, 108, 108]⟩, .glo ⟨#[117, 112]⟩, .glo ⟨#[115, 116, 97, 116, 101, 115, 95, 105, 110]⟩, .glo ⟨#[115, 116, 97, 116, 101, 115, 95, 111, 102]⟩, .glo ⟨#[101, 110, 100, 115, 95, 105, 110]⟩, .glo ⟨#[104, 111, 108, 100, 115]⟩, .glo ⟨#[95, 108, 97, 119, 95, 119, 101, 108, 108]⟩, .glo ⟨#[95, 108, 97, 119, 95, 116, 97, 107, 101]⟩, .glo ⟨#[95, 108, 97, 119, 95, 110, 97, 109, 101, 115]⟩, .glo ⟨#[95, 108, 97, 119, 95, 115, 105, 103, 110, 115]⟩, .glo ⟨#[95, 108, 97, 119, 95, 102, 117, 108, 108]⟩, .glo ⟨#[95, 108, 97, 119, 95, 116, 114, 101, 101]⟩, .glo ⟨#[95, 108, 97, 119, 95, 116, 117, 112, 108, 101, 115]⟩, .glo ⟨#[95, 108, 97, 119, 95, 103, 117, 97, 114, 100]⟩, .glo ⟨#[95, 108, 97, 119, 95, 97, 98, 111, 118, 101]⟩, .glo ⟨#[95, 108, 97, 119, 95, 115, 116, 97, 116, 101, 115]⟩, .glo ⟨#[95, 108, 97, 119, 95, 115, 97, 121, 115]⟩, .glo ⟨#[108, 97, 119]⟩, .free ⟨#[108, 101, 110]⟩, .free ⟨#[97, 108, 108]⟩, .free ⟨#[97, 110, 121]⟩, .free ⟨#[115, 117, 109]⟩, .free ⟨#[105, 110, 116]⟩, .free ⟨#[116, 117, 112, 108, 101]⟩, .free ⟨#[109, 97, 120]⟩, .free ⟨#[109, 105, 110]⟩, .free ⟨#[105, 115, 105, 110, 115, 116, 97, 110, 99, 101]⟩, .free ⟨#[108, 105, 115, 116]⟩, .free ⟨#[100, 105, 99, 116]⟩, .free ⟨#[115, 111, 114, 116, 101, 100]⟩, .free ⟨#[114, 97, 110, 103, 101]⟩, .free ⟨#[101, 110, 117, 109, 101, 114, 97, 116, 101]⟩, .free ⟨#[122, 105, 112]⟩, .free ⟨#[115, 116, 114]⟩, .free ⟨#[98, 111, 111, 108]⟩, .str ⟨#[83, 77, 65, 76, 76]⟩ ⟨#[97, 98, 99, 100, 101, 102, 103, 104, 105, 106, 107, 108, 109, 110, 111, 112, 113, 114, 115, 116, 117, 118, 119, 120, 121, 122]⟩, .int ⟨#[77, 79, 83, 84, 95, 78, 65, 77, 69]⟩ 8, .int ⟨#[77, 79, 83, 84, 95, 83, 73, 71, 78, 83]⟩ 5, .int ⟨#[77, 79, 83, 84, 95, 82, 65, 78, 75]⟩ 2, .int ⟨#[77, 79, 83, 84, 95, 78, 79, 68, 69, 83]⟩ 200, .int ⟨#[77, 79, 83, 84, 95, 76, 69, 86, 69, 76, 83]⟩ 20, .int ⟨#[77, 79, 83, 84, 95, 83, 84, 65, 84, 69, 83]⟩ 24, .int ⟨#[77, 79, 83, 84, 95, 82, 79, 87, 83]⟩ 3000, .glo ⟨#[77, 105, 108, 108, 69, 114, 114, 111, 114]⟩, .glo ⟨#[70, 111, 114, 109, 69, 114, 114, 111, 114]⟩, .glo ⟨#[78, 111, 84, 114, 101, 101]⟩, .glo ⟨#[78, 111, 71, 117, 97, 114, 100]⟩, .exc ⟨#[77, 105, 108, 108, 69, 114, 114, 111, 114]⟩, .exc ⟨#[70, 111, 114, 109, 69, 114, 114, 111, 114]⟩, .exc ⟨#[78, 111, 84, 114, 101, 101]⟩, .exc ⟨#[78, 111, 71, 117, 97, 114, 100]⟩, .exm ⟨#[77, 105, 108, 108, 69, 114, 114, 111, 114]⟩ ⟨#[77, 105, 108, 108, 69, 114, 114, 111, 114]⟩ true, .exm ⟨#[77, 105, 108, 108, 69, 114, 114, 111, 114]⟩ ⟨#[70, 111, 114, 109, 69, 114, 114, 111, 114]⟩ false, .exm ⟨#[77, 105, 108, 108, 69, 114, 114, 111, 114]⟩ ⟨#[78, 111, 84, 114, 101, 101]⟩ false, .exm ⟨#[77, 105, 108, 108, 69, 114, 114, 111, 114]⟩ ⟨#[78, 111, 71, 117, 97, 114, 100]⟩ false, .exm ⟨#[70, 111, 114, 109, 69, 114, 114, 111, 114]⟩ ⟨#[77, 105, 108, 108, 69, 114, 114, 111, 114]⟩ true, .exm ⟨#[70, 111, 114, 109, 69, 114, 114, 111, 114]⟩ ⟨#[70, 111, 114, 109, 69, 114, 114, 111, 114]⟩ true, .exm ⟨#[70, 111, 114, 109, 69, 114, 114, 111, 114]⟩ ⟨#[78, 111, 84, 114, 101, 101]⟩ false, .exm ⟨#[70, 111, 114, 109, 69, 114, 114, 111, 114]⟩ ⟨#[78, 111, 71, 117, 97, 114, 100]⟩ false, .exm ⟨#[78, 111, 84, 114, 101, 101]⟩ ⟨#[77, 105, 108, 108, 69, 114, 114, 111, 114]⟩ true, .exm ⟨#[78, 111, 84, 114, 101, 101]⟩ ⟨#[70, 111, 114, 109, 69, 114, 114, 111, 114]⟩ true, .exm ⟨#[78, 111, 84, 114, 101, 101]⟩ ⟨#[78, 111, 84, 114, 101, 101]⟩ true, .exm ⟨#[78, 111, 84, 114, 101, 101]⟩ ⟨#[78, 111, 71, 117, 97, 114, 100]⟩ false, .exm ⟨#[78, 111, 71, 117, 97, 114, 100]⟩ ⟨#[77, 105, 108, 108, 69, 114, 114, 111, 114]⟩ true, .exm ⟨#[78, 111, 71, 117, 97, 114, 100]⟩ ⟨#[70, 111, 114, 109, 69, 114, 114, 111, 114]⟩ true, .exm ⟨#[78, 111, 71, 117, 97, 114, 100]⟩ ⟨#[78, 111, 84, 114, 101, 101]⟩ false, .exm ⟨#[78, 111, 71, 117, 97, 114, 100]⟩ ⟨#[78, 111, 71, 117, 97, 114, 100]⟩ true]
abbrev R1 : PySem.W.OpenRow := PySem.W.OpenLaw.row PySem.Challenge.rw_graftmill_k05_states_by_hand
abbrev hkD : PySem.W.Hook := He.hookD 4 faD fnD
def obD (s : PySem.W.SharedT) : He.AlD := He.obsDG 4 faD fnD (HandSHeadRun.getT s)
theorem obD_eq (s : PySem.W.SharedT) : obD s = hkD.obs s.abs := He.obsDG_eq (HandSHeadRun.getT_eq s)
def looseD : List Str := [⟨#[77, 105, 108, 108, 69, 114, 114, 111, 114]⟩, ⟨#[70, 111, 114, 109, 69, 114, 114, 111, 114]⟩, ⟨#[78, 111, 84, 114, 101, 101]⟩, ⟨#[78, 111, 71, 117, 97, 114, 100]⟩, ⟨#[83, 77, 65, 76, 76]⟩, ⟨#[77, 79, 83, 84, 95, 78, 65, 77, 69]⟩, ⟨#[77, 79, 83, 84, 95, 83, 73, 71, 78, 83]⟩, ⟨#[77, 79, 83, 84, 95, 82, 65, 78, 75]⟩, ⟨#[77, 79, 83, 84, 95, 78, 79, 68, 69, 83]⟩, ⟨#[77, 79, 83, 84, 95, 76, 69, 86, 69, 76, 83]⟩, ⟨#[105, 115, 95, 110, 97, 109, 101]⟩, ⟨#[105, 115, 95, 119, 104, 111, 108, 101]⟩, ⟨#[105, 115, 95, 115, 105, 103, 110]⟩, ⟨#[105, 115, 95, 115, 105, 103, 110, 115]⟩, ⟨#[114, 97, 110, 107, 95, 111, 102]⟩, ⟨#[110, 111, 100, 101, 115, 95, 111, 102]⟩, ⟨#[105, 115, 95, 116, 114, 101, 101, 95, 111, 102]⟩, ⟨#[110, 101, 101, 100, 95, 116, 114, 101, 101]⟩, ⟨#[77, 79, 83, 84, 95, 83, 84, 65, 84, 69, 83]⟩, ⟨#[77, 79, 83, 84, 95, 82, 79, 87, 83]⟩, ⟨#[105, 115, 95, 114, 111, 119]⟩, ⟨#[97, 114, 101, 95, 115, 116, 97, 116, 101, 115]⟩, ⟨#[105, 115, 95, 103, 117, 97, 114, 100]⟩, ⟨#[110, 101, 101, 100, 95, 103, 117, 97, 114, 100]⟩, ⟨#[116, 97, 98, 108, 101, 95, 111, 102]⟩, ⟨#[98, 101, 108, 111, 119, 95, 97, 108, 108]⟩, ⟨#[117, 112]⟩, ⟨#[115, 116, 97, 116, 101, 115, 95, 105, 110]⟩, ⟨#[115, 116, 97, 116, 101, 115, 95, 111, 102]⟩, ⟨#[101, 110, 100, 115, 95, 105, 110]⟩, ⟨#[104, 111, 108, 100, 115]⟩, ⟨#[95, 108, 97, 119, 95, 119, 101, 108, 108]⟩, ⟨#[95, 108, 97, 119, 95, 116, 97, 107, 101]⟩, ⟨#[95, 108, 97, 119, 95, 110, 97, 109, 101, 115]⟩, ⟨#[95, 108, 97, 119, 95, 115, 105, 103, 110, 115]⟩, ⟨#[95, 108, 97, 119, 95, 102, 117, 108, 108]⟩, ⟨#[95, 108, 97, 119, 95, 116, 114, 101, 101]⟩, ⟨#[95, 108, 97, 119, 95, 116, 117, 112, 108, 101, 115]⟩, ⟨#[95, 108, 97, 119, 95, 103, 117, 97, 114, 100]⟩, ⟨#[95, 108, 97, 119, 95, 97, 98, 111, 118, 101]⟩, ⟨#[95, 108, 97, 119, 95, 115, 116, 97, 116, 101, 115]⟩, ⟨#[95, 108, 97, 119, 95, 115, 97, 121, 115]⟩]
theorem runD (w : World) : HandSHeadRun.RunEq R1 (PySem.W.view R1.prog [46]) hkD obD 4000 looseD w := by
  intro os
  kernel_rfl
end GM
end
section
set_option Elab.async false
set_option linter.all false
set_option maxRecDepth 100000
set_option maxHeartbeats 0
namespace GM
open PySem PySem.Spec PyProof.Rows L2
def subT (a b : Nat) : Bool := match (if gNm.cl.any (fun p => p.1 == a) then a else 0), b with
  | 0, 0 => true
  | 1, 0 => true
  | 1, 1 => true
  | 3, 0 => true
  | 3, 1 => true
  | 3, 3 => true
  | 2, 0 => true
  | 2, 1 => true
  | 2, 2 => true
  | _, _ => false
def clOf (c : Nat) : Str := nmOf gNm.cl (if gNm.cl.any (fun p => p.1 == c) then c else 0)
def tabT (K : PySem.W.Frag) : GM.Tab := ⟨fun f => He.ga K (nmOf gNm.fn f), fun c => He.ga K (clOf c)⟩
section
variable {P : Program} {w : World} {K : PySem.W.Frag} {h : Heap} {mg : Str → Option Value}
theorem sc_is_name : FnScope n_is_name [⟨#[116, 104, 105, 110, 103]⟩] (defScope (top 12)) := ⟨rfl, rfl, rfl, by decide +kernel, by decide +kernel, by decide +kernel, by decide +kernel⟩
theorem d1_is_name (X : K.In h) (g : h.Ns mainGlobals mg) (c : He.SaysD faD fnD K) : ∃ fd ps, D1 K mg (tabT K) gNm progT 0 ⟨#[105, 115, 95, 110, 97, 109, 101]⟩ fd ps := by
  obtain ⟨fd, F⟩ := c.def_ 0 (d := dd ⟨#[105, 115, 95, 110, 97, 109, 101]⟩ 12) rfl
  exact ⟨fd, [⟨#[116, 104, 105, 110, 103]⟩], ⟨⟨_, _, _, _, _, n_is_name, b_is_name, F, sc_is_name, rfl, rfl, rfl, c_is_name⟩, He.glo_ok X g (c.fact 0 rfl), F.kp, FunD.bindsN (ps := [⟨#[116, 104, 105, 110, 103]⟩]) F fun _ _ _ _ _ _ us hl => match us, hl with | [_], _ => rfl⟩⟩
theorem sc_is_whole : FnScope n_is_whole [⟨#[116, 104, 105, 110, 103]⟩, ⟨#[108, 111, 119]⟩, ⟨#[104, 105, 103, 104]⟩] (defScope (top 13)) := ⟨rfl, rfl, rfl, by decide +kernel, by decide +kernel, by decide +kernel, by decide +kernel⟩
theorem d1_is_whole (X : K.In h) (g : h.Ns mainGlobals mg) (c : He.SaysD faD fnD K) : ∃ fd ps, D1 K mg (tabT K) gNm progT 1 ⟨#[105, 115, 95, 119, 104, 111, 108, 101]⟩ fd ps := by
  obtain ⟨fd, F⟩ := c.def_ 1 (d := dd ⟨#[105, 115, 95, 119, 104, 111, 108, 101]⟩ 13) rfl
  exact ⟨fd, [⟨#[116, 104, 105, 110, 103]⟩, ⟨#[108, 111, 119]⟩, ⟨#[104, 105, 103, 104]⟩], ⟨⟨_, _, _, _, _, n_is_whole, b_is_whole, F, sc_is_whole, rfl, rfl, rfl, c_is_whole⟩, He.glo_ok X g (c.fact 1 rfl), F.kp, FunD.bindsN (ps := [⟨#[116, 104, 105, 110, 103]⟩, ⟨#[108, 111, 119]⟩, ⟨#[104, 105, 103, 104]⟩]) F fun _ _ _ _ _ _ us hl => match us, hl with | [_, _, _], _ => rfl⟩⟩
theorem sc_is_sign : FnScope n_is_sign [⟨#[116, 104, 105, 110, 103]⟩] (defScope (top 14)) := ⟨rfl, rfl, rfl, by decide +kernel, by decide +kernel, by decide +kernel, by decide +kernel⟩
theorem d1_is_sign (X : K.In h) (g : h.Ns mainGlobals mg) (c : He.SaysD faD fnD K) : ∃ fd ps, D1 K mg (tabT K) gNm progT 2 ⟨#[105, 115, 95, 115, 105, 103, 110]⟩ fd ps := by
  obtain ⟨fd, F⟩ := c.def_ 2 (d := dd ⟨#[105, 115, 95, 115, 105, 103, 110]⟩ 14) rfl
  exact ⟨fd, [⟨#[116, 104, 105, 110, 103]⟩], ⟨⟨_, _, _, _, _, n_is_sign, b_is_sign, F, sc_is_sign, rfl, rfl, rfl, c_is_sign⟩, He.glo_ok X g (c.fact 2 rfl), F.kp, FunD.bindsN (ps := [⟨#[116, 104, 105, 110, 103]⟩]) F fun _ _ _ _ _ _ us hl => match us, hl with | [_], _ => rfl⟩⟩
theorem sc_is_signs : FnScope n_is_signs [⟨#[116, 104, 105, 110, 103]⟩] (defScope (top 15)) := ⟨rfl, rfl, rfl, by decide +kernel, by decide +kernel, by decide +kernel, by decide +kernel⟩
theorem d1_is_signs (X : K.In h) (g : h.Ns mainGlobals mg) (c : He.SaysD faD fnD K) : ∃ fd ps, D1 K mg (tabT K) gNm progT 3 ⟨#[105, 115, 95, 115, 105, 103, 110, 115]⟩ fd ps := by
  obtain ⟨fd, F⟩ := c.def_ 3 (d := dd ⟨#[105, 115, 95, 115, 105, 103, 110, 115]⟩ 15) rfl
  exact ⟨fd, [⟨#[116, 104, 105, 110, 103]⟩], ⟨⟨_, _, _, _, _, n_is_signs, b_is_signs, F, sc_is_signs, rfl, rfl, rfl, c_is_signs⟩, He.glo_ok X g (c.fact 3 rfl), F.kp, FunD.bindsN (ps := [⟨#[116, 104, 105, 110, 103]⟩]) F fun _ _ _ _ _ _ us hl => match us, hl with | [_], _ => rfl⟩⟩
theorem sc_rank_of : FnScope n_rank_of [⟨#[115, 105, 103, 110, 115]⟩, ⟨#[110, 97, 109, 101]⟩] (defScope (top 16)) := ⟨rfl, rfl, rfl, by decide +kernel, by decide +kernel, by decide +kernel, by decide +kernel⟩
theorem d1_rank_of (X : K.In h) (g : h.Ns mainGlobals mg) (c : He.SaysD faD fnD K) : ∃ fd ps, D1 K mg (tabT K) gNm progT 4 ⟨#[114, 97, 110, 107, 95, 111, 102]⟩ fd ps := by
  obtain ⟨fd, F⟩ := c.def_ 4 (d := dd ⟨#[114, 97, 110, 107, 95, 111, 102]⟩ 16) rfl
  exact ⟨fd, [⟨#[115, 105, 103, 110, 115]⟩, ⟨#[110, 97, 109, 101]⟩], ⟨⟨_, _, _, _, _, n_rank_of, b_rank_of, F, sc_rank_of, rfl, rfl, rfl, c_rank_of⟩, He.glo_ok X g (c.fact 4 rfl), F.kp, FunD.bindsN (ps := [⟨#[115, 105, 103, 110, 115]⟩, ⟨#[110, 97, 109, 101]⟩]) F fun _ _ _ _ _ _ us hl => match us, hl with | [_, _], _ => rfl⟩⟩
theorem sc_nodes_of : FnScope n_nodes_of [⟨#[115, 105, 103, 110, 115]⟩, ⟨#[116, 104, 105, 110, 103]⟩, ⟨#[108, 101, 118, 101, 108, 115]⟩] (defScope (top 17)) := ⟨rfl, rfl, rfl, by decide +kernel, by decide +kernel, by decide +kernel, by decide +kernel⟩
theorem d1_nodes_of (X : K.In h) (g : h.Ns mainGlobals mg) (c : He.SaysD faD fnD K) : ∃ fd ps, D1 K mg (tabT K) gNm progT 23 ⟨#[110, 111, 100, 101, 115, 95, 111, 102]⟩ fd ps := by
  obtain ⟨fd, F⟩ := c.def_ 5 (d := dd ⟨#[110, 111, 100, 101, 115, 95, 111, 102]⟩ 17) rfl
  exact ⟨fd, [⟨#[115, 105, 103, 110, 115]⟩, ⟨#[116, 104, 105, 110, 103]⟩, ⟨#[108, 101, 118, 101, 108, 115]⟩], ⟨⟨_, _, _, _, _, n_nodes_of, b_nodes_of, F, sc_nodes_of, rfl, rfl, rfl, c_nodes_of⟩, He.glo_ok X g (c.fact 5 rfl), F.kp, FunD.bindsN (ps := [⟨#[115, 105, 103, 110, 115]⟩, ⟨#[116, 104, 105, 110, 103]⟩, ⟨#[108, 101, 118, 101, 108, 115]⟩]) F fun _ _ _ _ _ _ us hl => match us, hl with | [_, _, _], _ => rfl⟩⟩
theorem sc_is_tree_of : FnScope n_is_tree_of [⟨#[115, 105, 103, 110, 115]⟩, ⟨#[116, 104, 105, 110, 103]⟩] (defScope (top 18)) := ⟨rfl, rfl, rfl, by decide +kernel, by decide +kernel, by decide +kernel, by decide +kernel⟩
theorem d1_is_tree_of (X : K.In h) (g : h.Ns mainGlobals mg) (c : He.SaysD faD fnD K) : ∃ fd ps, D1 K mg (tabT K) gNm progT 24 ⟨#[105, 115, 95, 116, 114, 101, 101, 95, 111, 102]⟩ fd ps := by
  obtain ⟨fd, F⟩ := c.def_ 6 (d := dd ⟨#[105, 115, 95, 116, 114, 101, 101, 95, 111, 102]⟩ 18) rfl
  exact ⟨fd, [⟨#[115, 105, 103, 110, 115]⟩, ⟨#[116, 104, 105, 110, 103]⟩], ⟨⟨_, _, _, _, _, n_is_tree_of, b_is_tree_of, F, sc_is_tree_of, rfl, rfl, rfl, c_is_tree_of⟩, He.glo_ok X g (c.fact 6 rfl), F.kp, FunD.bindsN (ps := [⟨#[115, 105, 103, 110, 115]⟩, ⟨#[116, 104, 105, 110, 103]⟩]) F fun _ _ _ _ _ _ us hl => match us, hl with | [_, _], _ => rfl⟩⟩
theorem sc_need_tree : FnScope n_need_tree [⟨#[115, 105, 103, 110, 115]⟩, ⟨#[116, 104, 105, 110, 103]⟩] (defScope (top 19)) := ⟨rfl, rfl, rfl, by decide +kernel, by decide +kernel, by decide +kernel, by decide +kernel⟩
theorem d1_need_tree (X : K.In h) (g : h.Ns mainGlobals mg) (c : He.SaysD faD fnD K) : ∃ fd ps, D1 K mg (tabT K) gNm progT 25 ⟨#[110, 101, 101, 100, 95, 116, 114, 101, 101]⟩ fd ps := by
  obtain ⟨fd, F⟩ := c.def_ 7 (d := dd ⟨#[110, 101, 101, 100, 95, 116, 114, 101, 101]⟩ 19) rfl
  exact ⟨fd, [⟨#[115, 105, 103, 110, 115]⟩, ⟨#[116, 104, 105, 110, 103]⟩], ⟨⟨_, _, _, _, _, n_need_tree, b_need_tree, F, sc_need_tree, rfl, rfl, rfl, c_need_tree⟩, He.glo_ok X g (c.fact 7 rfl), F.kp, FunD.bindsN (ps := [⟨#[115, 105, 103, 110, 115]⟩, ⟨#[116, 104, 105, 110, 103]⟩]) F fun _ _ _ _ _ _ us hl => match us, hl with | [_, _], _ => rfl⟩⟩
theorem sc_is_row : FnScope n_is_row [⟨#[115, 105, 103, 110, 115]⟩, ⟨#[109, 97, 110, 121]⟩, ⟨#[116, 104, 105, 110, 103]⟩] (defScope (top 23)) := ⟨rfl, rfl, rfl, by decide +kernel, by decide +kernel, by decide +kernel, by decide +kernel⟩
theorem d1_is_row (X : K.In h) (g : h.Ns mainGlobals mg) (c : He.SaysD faD fnD K) : ∃ fd ps, D1 K mg (tabT K) gNm progT 5 ⟨#[105, 115, 95, 114, 111, 119]⟩ fd ps := by
  obtain ⟨fd, F⟩ := c.def_ 8 (d := dd ⟨#[105, 115, 95, 114, 111, 119]⟩ 23) rfl
  exact ⟨fd, [⟨#[115, 105, 103, 110, 115]⟩, ⟨#[109, 97, 110, 121]⟩, ⟨#[116, 104, 105, 110, 103]⟩], ⟨⟨_, _, _, _, _, n_is_row, b_is_row, F, sc_is_row, rfl, rfl, rfl, c_is_row⟩, He.glo_ok X g (c.fact 8 rfl), F.kp, FunD.bindsN (ps := [⟨#[115, 105, 103, 110, 115]⟩, ⟨#[109, 97, 110, 121]⟩, ⟨#[116, 104, 105, 110, 103]⟩]) F fun _ _ _ _ _ _ us hl => match us, hl with | [_, _, _], _ => rfl⟩⟩
theorem sc_are_states : FnScope n_are_states [⟨#[109, 97, 110, 121]⟩, ⟨#[116, 104, 105, 110, 103]⟩] (defScope (top 24)) := ⟨rfl, rfl, rfl, by decide +kernel, by decide +kernel, by decide +kernel, by decide +kernel⟩
theorem d1_are_states (X : K.In h) (g : h.Ns mainGlobals mg) (c : He.SaysD faD fnD K) : ∃ fd ps, D1 K mg (tabT K) gNm progT 6 ⟨#[97, 114, 101, 95, 115, 116, 97, 116, 101, 115]⟩ fd ps := by
  obtain ⟨fd, F⟩ := c.def_ 9 (d := dd ⟨#[97, 114, 101, 95, 115, 116, 97, 116, 101, 115]⟩ 24) rfl
  exact ⟨fd, [⟨#[109, 97, 110, 121]⟩, ⟨#[116, 104, 105, 110, 103]⟩], ⟨⟨_, _, _, _, _, n_are_states, b_are_states, F, sc_are_states, rfl, rfl, rfl, c_are_states⟩, He.glo_ok X g (c.fact 9 rfl), F.kp, FunD.bindsN (ps := [⟨#[109, 97, 110, 121]⟩, ⟨#[116, 104, 105, 110, 103]⟩]) F fun _ _ _ _ _ _ us hl => match us, hl with | [_, _], _ => rfl⟩⟩
theorem sc_is_guard : FnScope n_is_guard [⟨#[116, 104, 105, 110, 103]⟩] (defScope (top 25)) := ⟨rfl, rfl, rfl, by decide +kernel, by decide +kernel, by decide +kernel, by decide +kernel⟩
theorem d1_is_guard (X : K.In h) (g : h.Ns mainGlobals mg) (c : He.SaysD faD fnD K) : ∃ fd ps, D1 K mg (tabT K) gNm progT 7 ⟨#[105, 115, 95, 103, 117, 97, 114, 100]⟩ fd ps := by
  obtain ⟨fd, F⟩ := c.def_ 10 (d := dd ⟨#[105, 115, 95, 103, 117, 97, 114, 100]⟩ 25) rfl
  exact ⟨fd, [⟨#[116, 104, 105, 110, 103]⟩], ⟨⟨_, _, _, _, _, n_is_guard, b_is_guard, F, sc_is_guard, rfl, rfl, rfl, c_is_guard⟩, He.glo_ok X g (c.fact 10 rfl), F.kp, FunD.bindsN (ps := [⟨#[116, 104, 105, 110, 103]⟩]) F fun _ _ _ _ _ _ us hl => match us, hl with | [_], _ => rfl⟩⟩
theorem sc_need_guard : FnScope n_need_guard [⟨#[116, 104, 105, 110, 103]⟩] (defScope (top 26)) := ⟨rfl, rfl, rfl, by decide +kernel, by decide +kernel, by decide +kernel, by decide +kernel⟩
theorem d1_need_guard (X : K.In h) (g : h.Ns mainGlobals mg) (c : He.SaysD faD fnD K) : ∃ fd ps, D1 K mg (tabT K) gNm progT 8 ⟨#[110, 101, 101, 100, 95, 103, 117, 97, 114, 100]⟩ fd ps := by
  obtain ⟨fd, F⟩ := c.def_ 11 (d := dd ⟨#[110, 101, 101, 100, 95, 103, 117, 97, 114, 100]⟩ 26) rfl
  exact ⟨fd, [⟨#[116, 104, 105, 110, 103]⟩], ⟨⟨_, _, _, _, _, n_need_guard, b_need_guard, F, sc_need_guard, rfl, rfl, rfl, c_need_guard⟩, He.glo_ok X g (c.fact 11 rfl), F.kp, FunD.bindsN (ps := [⟨#[116, 104, 105, 110, 103]⟩]) F fun _ _ _ _ _ _ us hl => match us, hl with | [_], _ => rfl⟩⟩
theorem sc_table_of : FnScope n_table_of [⟨#[103, 117, 97, 114, 100]⟩] (defScope (top 27)) := ⟨rfl, rfl, rfl, by decide +kernel, by decide +kernel, by decide +kernel, by decide +kernel⟩
theorem d1_table_of (X : K.In h) (g : h.Ns mainGlobals mg) (c : He.SaysD faD fnD K) : ∃ fd ps, D1 K mg (tabT K) gNm progT 26 ⟨#[116, 97, 98, 108, 101, 95, 111, 102]⟩ fd ps := by
  obtain ⟨fd, F⟩ := c.def_ 12 (d := dd ⟨#[116, 97, 98, 108, 101, 95, 111, 102]⟩ 27) rfl
  exact ⟨fd, [⟨#[103, 117, 97, 114, 100]⟩], ⟨⟨_, _, _, _, _, n_table_of, b_table_of, F, sc_table_of, rfl, rfl, rfl, c_table_of⟩, He.glo_ok X g (c.fact 12 rfl), F.kp, FunD.bindsN (ps := [⟨#[103, 117, 97, 114, 100]⟩]) F fun _ _ _ _ _ _ us hl => match us, hl with | [_], _ => rfl⟩⟩
theorem sc_below_all : FnScope n_below_all [⟨#[108, 111, 116, 115]⟩] (defScope (top 28)) := ⟨rfl, rfl, rfl, by decide +kernel, by decide +kernel, by decide +kernel, by decide +kernel⟩
theorem d1_below_all (X : K.In h) (g : h.Ns mainGlobals mg) (c : He.SaysD faD fnD K) : ∃ fd ps, D1 K mg (tabT K) gNm progT 27 ⟨#[98, 101, 108, 111, 119, 95, 97, 108, 108]⟩ fd ps := by
  obtain ⟨fd, F⟩ := c.def_ 13 (d := dd ⟨#[98, 101, 108, 111, 119, 95, 97, 108, 108]⟩ 28) rfl
  exact ⟨fd, [⟨#[108, 111, 116, 115]⟩], ⟨⟨_, _, _, _, _, n_below_all, b_below_all, F, sc_below_all, rfl, rfl, rfl, c_below_all⟩, He.glo_ok X g (c.fact 13 rfl), F.kp, FunD.bindsN (ps := [⟨#[108, 111, 116, 115]⟩]) F fun _ _ _ _ _ _ us hl => match us, hl with | [_], _ => rfl⟩⟩
theorem sc_up : FnScope n_up [⟨#[116, 97, 98, 108, 101]⟩, ⟨#[110, 97, 109, 101]⟩, ⟨#[108, 111, 116, 115]⟩] (defScope (top 29)) := ⟨rfl, rfl, rfl, by decide +kernel, by decide +kernel, by decide +kernel, by decide +kernel⟩
theorem d1_up (X : K.In h) (g : h.Ns mainGlobals mg) (c : He.SaysD faD fnD K) : ∃ fd ps, D1 K mg (tabT K) gNm progT 28 ⟨#[117, 112]⟩ fd ps := by
  obtain ⟨fd, F⟩ := c.def_ 14 (d := dd ⟨#[117, 112]⟩ 29) rfl
  exact ⟨fd, [⟨#[116, 97, 98, 108, 101]⟩, ⟨#[110, 97, 109, 101]⟩, ⟨#[108, 111, 116, 115]⟩], ⟨⟨_, _, _, _, _, n_up, b_up, F, sc_up, rfl, rfl, rfl, c_up⟩, He.glo_ok X g (c.fact 14 rfl), F.kp, FunD.bindsN (ps := [⟨#[116, 97, 98, 108, 101]⟩, ⟨#[110, 97, 109, 101]⟩, ⟨#[108, 111, 116, 115]⟩]) F fun _ _ _ _ _ _ us hl => match us, hl with | [_, _, _], _ => rfl⟩⟩
theorem sc_states_in : FnScope n_states_in [⟨#[116, 97, 98, 108, 101]⟩, ⟨#[116, 114, 101, 101]⟩] (defScope (top 30)) := ⟨rfl, rfl, rfl, by decide +kernel, by decide +kernel, by decide +kernel, by decide +kernel⟩
theorem d1_states_in (X : K.In h) (g : h.Ns mainGlobals mg) (c : He.SaysD faD fnD K) : ∃ fd ps, D1 K mg (tabT K) gNm progT 29 ⟨#[115, 116, 97, 116, 101, 115, 95, 105, 110]⟩ fd ps := by
  obtain ⟨fd, F⟩ := c.def_ 15 (d := dd ⟨#[115, 116, 97, 116, 101, 115, 95, 105, 110]⟩ 30) rfl
  exact ⟨fd, [⟨#[116, 97, 98, 108, 101]⟩, ⟨#[116, 114, 101, 101]⟩], ⟨⟨_, _, _, _, _, n_states_in, b_states_in, F, sc_states_in, rfl, rfl, rfl, c_states_in⟩, He.glo_ok X g (c.fact 15 rfl), F.kp, FunD.bindsN (ps := [⟨#[116, 97, 98, 108, 101]⟩, ⟨#[116, 114, 101, 101]⟩]) F fun _ _ _ _ _ _ us hl => match us, hl with | [_, _], _ => rfl⟩⟩
theorem sc_states_of : FnScope n_states_of [⟨#[103, 117, 97, 114, 100]⟩, ⟨#[116, 114, 101, 101]⟩] (defScope (top 31)) := ⟨rfl, rfl, rfl, by decide +kernel, by decide +kernel, by decide +kernel, by decide +kernel⟩
theorem d1_states_of (X : K.In h) (g : h.Ns mainGlobals mg) (c : He.SaysD faD fnD K) : ∃ fd ps, D1 K mg (tabT K) gNm progT 30 ⟨#[115, 116, 97, 116, 101, 115, 95, 111, 102]⟩ fd ps := by
  obtain ⟨fd, F⟩ := c.def_ 16 (d := dd ⟨#[115, 116, 97, 116, 101, 115, 95, 111, 102]⟩ 31) rfl
  exact ⟨fd, [⟨#[103, 117, 97, 114, 100]⟩, ⟨#[116, 114, 101, 101]⟩], ⟨⟨_, _, _, _, _, n_states_of, b_states_of, F, sc_states_of, rfl, rfl, rfl, c_states_of⟩, He.glo_ok X g (c.fact 16 rfl), F.kp, FunD.bindsN (ps := [⟨#[103, 117, 97, 114, 100]⟩, ⟨#[116, 114, 101, 101]⟩]) F fun _ _ _ _ _ _ us hl => match us, hl with | [_, _], _ => rfl⟩⟩
theorem sc_ends_in : FnScope n_ends_in [⟨#[103, 117, 97, 114, 100]⟩, ⟨#[115, 116, 97, 116, 101, 115]⟩] (defScope (top 32)) := ⟨rfl, rfl, rfl, by decide +kernel, by decide +kernel, by decide +kernel, by decide +kernel⟩
theorem d1_ends_in (X : K.In h) (g : h.Ns mainGlobals mg) (c : He.SaysD faD fnD K) : ∃ fd ps, D1 K mg (tabT K) gNm progT 31 ⟨#[101, 110, 100, 115, 95, 105, 110]⟩ fd ps := by
  obtain ⟨fd, F⟩ := c.def_ 17 (d := dd ⟨#[101, 110, 100, 115, 95, 105, 110]⟩ 32) rfl
  exact ⟨fd, [⟨#[103, 117, 97, 114, 100]⟩, ⟨#[115, 116, 97, 116, 101, 115]⟩], ⟨⟨_, _, _, _, _, n_ends_in, b_ends_in, F, sc_ends_in, rfl, rfl, rfl, c_ends_in⟩, He.glo_ok X g (c.fact 17 rfl), F.kp, FunD.bindsN (ps := [⟨#[103, 117, 97, 114, 100]⟩, ⟨#[115, 116, 97, 116, 101, 115]⟩]) F fun _ _ _ _ _ _ us hl => match us, hl with | [_, _], _ => rfl⟩⟩
theorem sc_holds : FnScope n_holds [⟨#[103, 117, 97, 114, 100]⟩, ⟨#[116, 114, 101, 101]⟩] (defScope (top 33)) := ⟨rfl, rfl, rfl, by decide +kernel, by decide +kernel, by decide +kernel, by decide +kernel⟩
theorem d1_holds (X : K.In h) (g : h.Ns mainGlobals mg) (c : He.SaysD faD fnD K) : ∃ fd ps, D1 K mg (tabT K) gNm progT 32 ⟨#[104, 111, 108, 100, 115]⟩ fd ps := by
  obtain ⟨fd, F⟩ := c.def_ 18 (d := dd ⟨#[104, 111, 108, 100, 115]⟩ 33) rfl
  exact ⟨fd, [⟨#[103, 117, 97, 114, 100]⟩, ⟨#[116, 114, 101, 101]⟩], ⟨⟨_, _, _, _, _, n_holds, b_holds, F, sc_holds, rfl, rfl, rfl, c_holds⟩, He.glo_ok X g (c.fact 18 rfl), F.kp, FunD.bindsN (ps := [⟨#[103, 117, 97, 114, 100]⟩, ⟨#[116, 114, 101, 101]⟩]) F fun _ _ _ _ _ _ us hl => match us, hl with | [_, _], _ => rfl⟩⟩
theorem sc__law_well : FnScope n__law_well [⟨#[115, 99, 114, 105, 112, 116]⟩, ⟨#[107]⟩] (defScope (top 35)) := ⟨rfl, rfl, rfl, by decide +kernel, by decide +kernel, by decide +kernel, by decide +kernel⟩
theorem d1__law_well (X : K.In h) (g : h.Ns mainGlobals mg) (c : He.SaysD faD fnD K) : ∃ fd ps, D1 K mg (tabT K) gNm progT 12 ⟨#[95, 108, 97, 119, 95, 119, 101, 108, 108]⟩ fd ps := by
  obtain ⟨fd, F⟩ := c.def_ 19 (d := dd ⟨#[95, 108, 97, 119, 95, 119, 101, 108, 108]⟩ 35) rfl
  exact ⟨fd, [⟨#[115, 99, 114, 105, 112, 116]⟩, ⟨#[107]⟩], ⟨⟨_, _, _, _, _, n__law_well, b__law_well, F, sc__law_well, rfl, rfl, rfl, c__law_well⟩, He.glo_ok X g (c.fact 19 rfl), F.kp, FunD.bindsN (ps := [⟨#[115, 99, 114, 105, 112, 116]⟩, ⟨#[107]⟩]) F fun _ _ _ _ _ _ us hl => match us, hl with | [_, _], _ => rfl⟩⟩
theorem sc__law_take : FnScope n__law_take [⟨#[119, 101, 108, 108]⟩, ⟨#[109, 97, 110, 121]⟩] (defScope (top 36)) := ⟨rfl, rfl, rfl, by decide +kernel, by decide +kernel, by decide +kernel, by decide +kernel⟩
theorem d1__law_take (X : K.In h) (g : h.Ns mainGlobals mg) (c : He.SaysD faD fnD K) : ∃ fd ps, D1 K mg (tabT K) gNm progT 13 ⟨#[95, 108, 97, 119, 95, 116, 97, 107, 101]⟩ fd ps := by
  obtain ⟨fd, F⟩ := c.def_ 20 (d := dd ⟨#[95, 108, 97, 119, 95, 116, 97, 107, 101]⟩ 36) rfl
  exact ⟨fd, [⟨#[119, 101, 108, 108]⟩, ⟨#[109, 97, 110, 121]⟩], ⟨⟨_, _, _, _, _, n__law_take, b__law_take, F, sc__law_take, rfl, rfl, rfl, c__law_take⟩, He.glo_ok X g (c.fact 20 rfl), F.kp, FunD.bindsN (ps := [⟨#[119, 101, 108, 108]⟩, ⟨#[109, 97, 110, 121]⟩]) F fun _ _ _ _ _ _ us hl => match us, hl with | [_, _], _ => rfl⟩⟩
theorem sc__law_names : FnScope n__law_names [⟨#[119, 101, 108, 108]⟩, ⟨#[109, 97, 110, 121]⟩] (defScope (top 37)) := ⟨rfl, rfl, rfl, by decide +kernel, by decide +kernel, by decide +kernel, by decide +kernel⟩
theorem d1__law_names (X : K.In h) (g : h.Ns mainGlobals mg) (c : He.SaysD faD fnD K) : ∃ fd ps, D1 K mg (tabT K) gNm progT 14 ⟨#[95, 108, 97, 119, 95, 110, 97, 109, 101, 115]⟩ fd ps := by
  obtain ⟨fd, F⟩ := c.def_ 21 (d := dd ⟨#[95, 108, 97, 119, 95, 110, 97, 109, 101, 115]⟩ 37) rfl
  exact ⟨fd, [⟨#[119, 101, 108, 108]⟩, ⟨#[109, 97, 110, 121]⟩], ⟨⟨_, _, _, _, _, n__law_names, b__law_names, F, sc__law_names, rfl, rfl, rfl, c__law_names⟩, He.glo_ok X g (c.fact 21 rfl), F.kp, FunD.bindsN (ps := [⟨#[119, 101, 108, 108]⟩, ⟨#[109, 97, 110, 121]⟩]) F fun _ _ _ _ _ _ us hl => match us, hl with | [_, _], _ => rfl⟩⟩
theorem sc__law_signs : FnScope n__law_signs [⟨#[119, 101, 108, 108]⟩] (defScope (top 38)) := ⟨rfl, rfl, rfl, by decide +kernel, by decide +kernel, by decide +kernel, by decide +kernel⟩
theorem d1__law_signs (X : K.In h) (g : h.Ns mainGlobals mg) (c : He.SaysD faD fnD K) : ∃ fd ps, D1 K mg (tabT K) gNm progT 15 ⟨#[95, 108, 97, 119, 95, 115, 105, 103, 110, 115]⟩ fd ps := by
  obtain ⟨fd, F⟩ := c.def_ 22 (d := dd ⟨#[95, 108, 97, 119, 95, 115, 105, 103, 110, 115]⟩ 38) rfl
  exact ⟨fd, [⟨#[119, 101, 108, 108]⟩], ⟨⟨_, _, _, _, _, n__law_signs, b__law_signs, F, sc__law_signs, rfl, rfl, rfl, c__law_signs⟩, He.glo_ok X g (c.fact 22 rfl), F.kp, FunD.bindsN (ps := [⟨#[119, 101, 108, 108]⟩]) F fun _ _ _ _ _ _ us hl => match us, hl with | [_], _ => rfl⟩⟩
theorem sc__law_full : FnScope n__law_full [⟨#[119, 101, 108, 108]⟩] (defScope (top 39)) := ⟨rfl, rfl, rfl, by decide +kernel, by decide +kernel, by decide +kernel, by decide +kernel⟩
theorem d1__law_full (X : K.In h) (g : h.Ns mainGlobals mg) (c : He.SaysD faD fnD K) : ∃ fd ps, D1 K mg (tabT K) gNm progT 16 ⟨#[95, 108, 97, 119, 95, 102, 117, 108, 108]⟩ fd ps := by
  obtain ⟨fd, F⟩ := c.def_ 23 (d := dd ⟨#[95, 108, 97, 119, 95, 102, 117, 108, 108]⟩ 39) rfl
  exact ⟨fd, [⟨#[119, 101, 108, 108]⟩], ⟨⟨_, _, _, _, _, n__law_full, b__law_full, F, sc__law_full, rfl, rfl, rfl, c__law_full⟩, He.glo_ok X g (c.fact 23 rfl), F.kp, FunD.bindsN (ps := [⟨#[119, 101, 108, 108]⟩]) F fun _ _ _ _ _ _ us hl => match us, hl with | [_], _ => rfl⟩⟩
theorem sc__law_tree : FnScope n__law_tree [⟨#[119, 101, 108, 108]⟩, ⟨#[115, 105, 103, 110, 115]⟩, ⟨#[109, 111, 115, 116]⟩, ⟨#[108, 101, 118, 101, 108, 115]⟩] (defScope (top 40)) := ⟨rfl, rfl, rfl, by decide +kernel, by decide +kernel, by decide +kernel, by decide +kernel⟩
theorem d1__law_tree (X : K.In h) (g : h.Ns mainGlobals mg) (c : He.SaysD faD fnD K) : ∃ fd ps, D1 K mg (tabT K) gNm progT 33 ⟨#[95, 108, 97, 119, 95, 116, 114, 101, 101]⟩ fd ps := by
  obtain ⟨fd, F⟩ := c.def_ 24 (d := dd ⟨#[95, 108, 97, 119, 95, 116, 114, 101, 101]⟩ 40) rfl
  exact ⟨fd, [⟨#[119, 101, 108, 108]⟩, ⟨#[115, 105, 103, 110, 115]⟩, ⟨#[109, 111, 115, 116]⟩, ⟨#[108, 101, 118, 101, 108, 115]⟩], ⟨⟨_, _, _, _, _, n__law_tree, b__law_tree, F, sc__law_tree, rfl, rfl, rfl, c__law_tree⟩, He.glo_ok X g (c.fact 24 rfl), F.kp, FunD.bindsN (ps := [⟨#[119, 101, 108, 108]⟩, ⟨#[115, 105, 103, 110, 115]⟩, ⟨#[109, 111, 115, 116]⟩, ⟨#[108, 101, 118, 101, 108, 115]⟩]) F fun _ _ _ _ _ _ us hl => match us, hl with | [_, _, _, _], _ => rfl⟩⟩
theorem sc__law_tuples : FnScope n__law_tuples [⟨#[109, 97, 110, 121]⟩, ⟨#[114, 97, 110, 107]⟩] (defScope (top 41)) := ⟨rfl, rfl, rfl, by decide +kernel, by decide +kernel, by decide +kernel, by decide +kernel⟩
theorem d1__law_tuples (X : K.In h) (g : h.Ns mainGlobals mg) (c : He.SaysD faD fnD K) : ∃ fd ps, D1 K mg (tabT K) gNm progT 17 ⟨#[95, 108, 97, 119, 95, 116, 117, 112, 108, 101, 115]⟩ fd ps := by
  obtain ⟨fd, F⟩ := c.def_ 25 (d := dd ⟨#[95, 108, 97, 119, 95, 116, 117, 112, 108, 101, 115]⟩ 41) rfl
  exact ⟨fd, [⟨#[109, 97, 110, 121]⟩, ⟨#[114, 97, 110, 107]⟩], ⟨⟨_, _, _, _, _, n__law_tuples, b__law_tuples, F, sc__law_tuples, rfl, rfl, rfl, c__law_tuples⟩, He.glo_ok X g (c.fact 25 rfl), F.kp, FunD.bindsN (ps := [⟨#[109, 97, 110, 121]⟩, ⟨#[114, 97, 110, 107]⟩]) F fun _ _ _ _ _ _ us hl => match us, hl with | [_, _], _ => rfl⟩⟩
theorem sc__law_guard : FnScope n__law_guard [⟨#[119, 101, 108, 108]⟩, ⟨#[115, 105, 103, 110, 115]⟩, ⟨#[109, 111, 115, 116]⟩] (defScope (top 42)) := ⟨rfl, rfl, rfl, by decide +kernel, by decide +kernel, by decide +kernel, by decide +kernel⟩
theorem d1__law_guard (X : K.In h) (g : h.Ns mainGlobals mg) (c : He.SaysD faD fnD K) : ∃ fd ps, D1 K mg (tabT K) gNm progT 18 ⟨#[95, 108, 97, 119, 95, 103, 117, 97, 114, 100]⟩ fd ps := by
  obtain ⟨fd, F⟩ := c.def_ 26 (d := dd ⟨#[95, 108, 97, 119, 95, 103, 117, 97, 114, 100]⟩ 42) rfl
  exact ⟨fd, [⟨#[119, 101, 108, 108]⟩, ⟨#[115, 105, 103, 110, 115]⟩, ⟨#[109, 111, 115, 116]⟩], ⟨⟨_, _, _, _, _, n__law_guard, b__law_guard, F, sc__law_guard, rfl, rfl, rfl, c__law_guard⟩, He.glo_ok X g (c.fact 26 rfl), F.kp, FunD.bindsN (ps := [⟨#[119, 101, 108, 108]⟩, ⟨#[115, 105, 103, 110, 115]⟩, ⟨#[109, 111, 115, 116]⟩]) F fun _ _ _ _ _ _ us hl => match us, hl with | [_, _, _], _ => rfl⟩⟩
theorem sc__law_above : FnScope n__law_above [⟨#[114, 111, 119, 115]⟩, ⟨#[110, 97, 109, 101]⟩, ⟨#[108, 111, 116, 115]⟩] (defScope (top 43)) := ⟨rfl, rfl, rfl, by decide +kernel, by decide +kernel, by decide +kernel, by decide +kernel⟩
theorem d1__law_above (X : K.In h) (g : h.Ns mainGlobals mg) (c : He.SaysD faD fnD K) : ∃ fd ps, D1 K mg (tabT K) gNm progT 34 ⟨#[95, 108, 97, 119, 95, 97, 98, 111, 118, 101]⟩ fd ps := by
  obtain ⟨fd, F⟩ := c.def_ 27 (d := dd ⟨#[95, 108, 97, 119, 95, 97, 98, 111, 118, 101]⟩ 43) rfl
  exact ⟨fd, [⟨#[114, 111, 119, 115]⟩, ⟨#[110, 97, 109, 101]⟩, ⟨#[108, 111, 116, 115]⟩], ⟨⟨_, _, _, _, _, n__law_above, b__law_above, F, sc__law_above, rfl, rfl, rfl, c__law_above⟩, He.glo_ok X g (c.fact 27 rfl), F.kp, FunD.bindsN (ps := [⟨#[114, 111, 119, 115]⟩, ⟨#[110, 97, 109, 101]⟩, ⟨#[108, 111, 116, 115]⟩]) F fun _ _ _ _ _ _ us hl => match us, hl with | [_, _, _], _ => rfl⟩⟩
theorem sc__law_states : FnScope n__law_states [⟨#[114, 111, 119, 115]⟩, ⟨#[116, 114, 101, 101]⟩] (defScope (top 44)) := ⟨rfl, rfl, rfl, by decide +kernel, by decide +kernel, by decide +kernel, by decide +kernel⟩
theorem d1__law_states (X : K.In h) (g : h.Ns mainGlobals mg) (c : He.SaysD faD fnD K) : ∃ fd ps, D1 K mg (tabT K) gNm progT 35 ⟨#[95, 108, 97, 119, 95, 115, 116, 97, 116, 101, 115]⟩ fd ps := by
  obtain ⟨fd, F⟩ := c.def_ 28 (d := dd ⟨#[95, 108, 97, 119, 95, 115, 116, 97, 116, 101, 115]⟩ 44) rfl
  exact ⟨fd, [⟨#[114, 111, 119, 115]⟩, ⟨#[116, 114, 101, 101]⟩], ⟨⟨_, _, _, _, _, n__law_states, b__law_states, F, sc__law_states, rfl, rfl, rfl, c__law_states⟩, He.glo_ok X g (c.fact 28 rfl), F.kp, FunD.bindsN (ps := [⟨#[114, 111, 119, 115]⟩, ⟨#[116, 114, 101, 101]⟩]) F fun _ _ _ _ _ _ us hl => match us, hl with | [_, _], _ => rfl⟩⟩
theorem sc__law_says : FnScope n__law_says [⟨#[102, 111, 117, 110, 100]⟩, ⟨#[100, 117, 101]⟩] (defScope (top 45)) := ⟨rfl, rfl, rfl, by decide +kernel, by decide +kernel, by decide +kernel, by decide +kernel⟩
theorem d1__law_says (X : K.In h) (g : h.Ns mainGlobals mg) (c : He.SaysD faD fnD K) : ∃ fd ps, D1 K mg (tabT K) gNm progT 19 ⟨#[95, 108, 97, 119, 95, 115, 97, 121, 115]⟩ fd ps := by
  obtain ⟨fd, F⟩ := c.def_ 29 (d := dd ⟨#[95, 108, 97, 119, 95, 115, 97, 121, 115]⟩ 45) rfl
  exact ⟨fd, [⟨#[102, 111, 117, 110, 100]⟩, ⟨#[100, 117, 101]⟩], ⟨⟨_, _, _, _, _, n__law_says, b__law_says, F, sc__law_says, rfl, rfl, rfl, c__law_says⟩, He.glo_ok X g (c.fact 29 rfl), F.kp, FunD.bindsN (ps := [⟨#[102, 111, 117, 110, 100]⟩, ⟨#[100, 117, 101]⟩]) F fun _ _ _ _ _ _ us hl => match us, hl with | [_, _], _ => rfl⟩⟩
theorem sc_law : FnScope n_law [⟨#[115, 99, 114, 105, 112, 116]⟩] (defScope (top 46)) := ⟨rfl, rfl, rfl, by decide +kernel, by decide +kernel, by decide +kernel, by decide +kernel⟩
theorem d1_law (X : K.In h) (g : h.Ns mainGlobals mg) (c : He.SaysD faD fnD K) : ∃ fd ps, D1 K mg (tabT K) gNm progT 22 ⟨#[108, 97, 119]⟩ fd ps := by
  obtain ⟨fd, F⟩ := c.def_ 30 (d := dd ⟨#[108, 97, 119]⟩ 46) rfl
  exact ⟨fd, [⟨#[115, 99, 114, 105, 112, 116]⟩], ⟨⟨_, _, _, _, _, n_law, b_law, F, sc_law, rfl, rfl, rfl, c_law⟩, He.glo_ok X g (c.fact 30 rfl), F.kp, FunD.bindsN (ps := [⟨#[115, 99, 114, 105, 112, 116]⟩]) F fun _ _ _ _ _ _ us hl => match us, hl with | [_], _ => rfl⟩⟩
theorem e1_law (X : K.In h) (g : h.Ns mainGlobals mg) (c : He.SaysD faD fnD K) : Env1 P w K mg (tabT K) gNm subT := by
  refine ⟨fun x d hm => ?_, fun x hm => ?_, fun c2 x hm => ?_, fun a c2 x hm => ?_⟩
  · simp only [gNm, List.mem_cons, List.not_mem_nil, or_false, Prod.mk.injEq] at hm
    rcases hm with ⟨rfl, rfl⟩ | ⟨rfl, rfl⟩ | ⟨rfl, rfl⟩ | ⟨rfl, rfl⟩ | ⟨rfl, rfl⟩ | ⟨rfl, rfl⟩ | ⟨rfl, rfl⟩ | ⟨rfl, rfl⟩
    · obtain ⟨t, e⟩ := He.str_ok X g (c.fact 48 rfl)
      exact ⟨_, .str ⟨#[97, 98, 99, 100, 101, 102, 103, 104, 105, 106, 107, 108, 109, 110, 111, 112, 113, 114, 115, 116, 117, 118, 119, 120, 121, 122]⟩, e, ⟨t, rfl⟩, fun _ _ _ => rfl⟩
    · obtain ⟨t, e⟩ := He.int_ok X g (c.fact 49 rfl)
      exact ⟨_, .int 8, e, ⟨t, rfl⟩, fun _ _ _ => rfl⟩
    · obtain ⟨t, e⟩ := He.int_ok X g (c.fact 50 rfl)
      exact ⟨_, .int 5, e, ⟨t, rfl⟩, fun _ _ _ => rfl⟩
    · obtain ⟨t, e⟩ := He.int_ok X g (c.fact 51 rfl)
      exact ⟨_, .int 2, e, ⟨t, rfl⟩, fun _ _ _ => rfl⟩
    · obtain ⟨t, e⟩ := He.int_ok X g (c.fact 52 rfl)
      exact ⟨_, .int 200, e, ⟨t, rfl⟩, fun _ _ _ => rfl⟩
    · obtain ⟨t, e⟩ := He.int_ok X g (c.fact 53 rfl)
      exact ⟨_, .int 20, e, ⟨t, rfl⟩, fun _ _ _ => rfl⟩
    · obtain ⟨t, e⟩ := He.int_ok X g (c.fact 54 rfl)
      exact ⟨_, .int 24, e, ⟨t, rfl⟩, fun _ _ _ => rfl⟩
    · obtain ⟨t, e⟩ := He.int_ok X g (c.fact 55 rfl)
      exact ⟨_, .int 3000, e, ⟨t, rfl⟩, fun _ _ _ => rfl⟩
  · simp only [bnames, List.mem_cons, List.not_mem_nil, or_false] at hm
    rcases hm with rfl | rfl | rfl | rfl | rfl | rfl | rfl | rfl | rfl | rfl | rfl | rfl | rfl | rfl | rfl | rfl | rfl
    · exact He.free_ok X g (c.fact 31 rfl)
    · exact He.free_ok X g (c.fact 32 rfl)
    · exact He.free_ok X g (c.fact 33 rfl)
    · exact He.free_ok X g (c.fact 34 rfl)
    · exact He.free_ok X g (c.fact 35 rfl)
    · exact He.free_ok X g (c.fact 36 rfl)
    · exact He.free_ok X g (c.fact 37 rfl)
    · exact He.free_ok X g (c.fact 38 rfl)
    · exact He.free_ok X g (c.fact 39 rfl)
    · exact He.free_ok X g (c.fact 40 rfl)
    · exact He.free_ok X g (c.fact 41 rfl)
    · exact He.free_ok X g (c.fact 42 rfl)
    · exact He.free_ok X g (c.fact 43 rfl)
    · exact He.free_ok X g (c.fact 44 rfl)
    · exact He.free_ok X g (c.fact 45 rfl)
    · exact He.free_ok X g (c.fact 46 rfl)
    · exact He.free_ok X g (c.fact 47 rfl)
  · simp only [gNm, List.mem_cons, List.not_mem_nil, or_false, Prod.mk.injEq] at hm
    rcases hm with ⟨rfl, rfl⟩ | ⟨rfl, rfl⟩ | ⟨rfl, rfl⟩ | ⟨rfl, rfl⟩
    · obtain ⟨a1, a2, a3, a4⟩ := He.exc_ok (c.fact 60 rfl)
      exact ⟨He.glo_ok X g (c.fact 56 rfl), a2, a3, a4, _, _, _, _, PySem.F.excBase_ValueError, a1⟩
    · obtain ⟨a1, a2, a3, a4⟩ := He.exc_ok (c.fact 61 rfl)
      exact ⟨He.glo_ok X g (c.fact 57 rfl), a2, a3, a4, _, _, _, _, PySem.F.excBase_ValueError, a1⟩
    · obtain ⟨a1, a2, a3, a4⟩ := He.exc_ok (c.fact 62 rfl)
      exact ⟨He.glo_ok X g (c.fact 58 rfl), a2, a3, a4, _, _, _, _, PySem.F.excBase_ValueError, a1⟩
    · obtain ⟨a1, a2, a3, a4⟩ := He.exc_ok (c.fact 63 rfl)
      exact ⟨He.glo_ok X g (c.fact 59 rfl), a2, a3, a4, _, _, _, _, PySem.F.excBase_ValueError, a1⟩
  · simp only [gNm, List.mem_cons, List.not_mem_nil, or_false, Prod.mk.injEq] at hm
    rcases hm with ⟨rfl, rfl⟩ | ⟨rfl, rfl⟩ | ⟨rfl, rfl⟩ | ⟨rfl, rfl⟩
    · by_cases q : gNm.cl.any (fun p => p.1 == a) = true
      · have q2 := q
        simp only [gNm, List.any_cons, List.any_nil, Bool.or_false, Bool.or_eq_true, beq_iff_eq] at q2
        rcases q2 with rfl | rfl | rfl | rfl
        · exact He.exm_ok (c.fact 64 rfl)
        · exact He.exm_ok (c.fact 68 rfl)
        · exact He.exm_ok (c.fact 72 rfl)
        · exact He.exm_ok (c.fact 76 rfl)
      · have e1 : clOf a = clOf 0 := by unfold clOf; rw [if_neg q]; rfl
        have e2 : subT a 0 = subT 0 0 := by unfold subT; rw [if_neg q]; rfl
        show PySem.W.exmOne K (.ref (He.ga K (clOf a))) _ = some (subT a 0)
        rw [e1, e2]
        exact He.exm_ok (c.fact 64 rfl)
    · by_cases q : gNm.cl.any (fun p => p.1 == a) = true
      · have q2 := q
        simp only [gNm, List.any_cons, List.any_nil, Bool.or_false, Bool.or_eq_true, beq_iff_eq] at q2
        rcases q2 with rfl | rfl | rfl | rfl
        · exact He.exm_ok (c.fact 65 rfl)
        · exact He.exm_ok (c.fact 69 rfl)
        · exact He.exm_ok (c.fact 73 rfl)
        · exact He.exm_ok (c.fact 77 rfl)
      · have e1 : clOf a = clOf 0 := by unfold clOf; rw [if_neg q]; rfl
        have e2 : subT a 1 = subT 0 1 := by unfold subT; rw [if_neg q]; rfl
        show PySem.W.exmOne K (.ref (He.ga K (clOf a))) _ = some (subT a 1)
        rw [e1, e2]
        exact He.exm_ok (c.fact 65 rfl)
    · by_cases q : gNm.cl.any (fun p => p.1 == a) = true
      · have q2 := q
        simp only [gNm, List.any_cons, List.any_nil, Bool.or_false, Bool.or_eq_true, beq_iff_eq] at q2
        rcases q2 with rfl | rfl | rfl | rfl
        · exact He.exm_ok (c.fact 66 rfl)
        · exact He.exm_ok (c.fact 70 rfl)
        · exact He.exm_ok (c.fact 74 rfl)
        · exact He.exm_ok (c.fact 78 rfl)
      · have e1 : clOf a = clOf 0 := by unfold clOf; rw [if_neg q]; rfl
        have e2 : subT a 3 = subT 0 3 := by unfold subT; rw [if_neg q]; rfl
        show PySem.W.exmOne K (.ref (He.ga K (clOf a))) _ = some (subT a 3)
        rw [e1, e2]
        exact He.exm_ok (c.fact 66 rfl)
    · by_cases q : gNm.cl.any (fun p => p.1 == a) = true
      · have q2 := q
        simp only [gNm, List.any_cons, List.any_nil, Bool.or_false, Bool.or_eq_true, beq_iff_eq] at q2
        rcases q2 with rfl | rfl | rfl | rfl
        · exact He.exm_ok (c.fact 67 rfl)
        · exact He.exm_ok (c.fact 71 rfl)
        · exact He.exm_ok (c.fact 75 rfl)
        · exact He.exm_ok (c.fact 79 rfl)
      · have e1 : clOf a = clOf 0 := by unfold clOf; rw [if_neg q]; rfl
        have e2 : subT a 2 = subT 0 2 := by unfold subT; rw [if_neg q]; rfl
        show PySem.W.exmOne K (.ref (He.ga K (clOf a))) _ = some (subT a 2)
        rw [e1, e2]
        exact He.exm_ok (c.fact 67 rfl)
theorem ds_law (X : K.In h) (g : h.Ns mainGlobals mg) (c : He.SaysD faD fnD K) : ∀ f x, (f, x) ∈ gNm.fn → ∃ fd ps, D1 K mg (tabT K) gNm progT f x fd ps := by
  intro f x hm
  simp only [gNm, List.mem_cons, List.not_mem_nil, or_false, Prod.mk.injEq] at hm
  rcases hm with ⟨rfl, rfl⟩ | ⟨rfl, rfl⟩ | ⟨rfl, rfl⟩ | ⟨rfl, rfl⟩ | ⟨rfl, rfl⟩ | ⟨rfl, rfl⟩ | ⟨rfl, rfl⟩ | ⟨rfl, rfl⟩ | ⟨rfl, rfl⟩ | ⟨rfl, rfl⟩ | ⟨rfl, rfl⟩ | ⟨rfl, rfl⟩ | ⟨rfl, rfl⟩ | ⟨rfl, rfl⟩ | ⟨rfl, rfl⟩ | ⟨rfl, rfl⟩ | ⟨rfl, rfl⟩ | ⟨rfl, rfl⟩ | ⟨rfl, rfl⟩ | ⟨rfl, rfl⟩ | ⟨rfl, rfl⟩ | ⟨rfl, rfl⟩ | ⟨rfl, rfl⟩ | ⟨rfl, rfl⟩ | ⟨rfl, rfl⟩ | ⟨rfl, rfl⟩ | ⟨rfl, rfl⟩ | ⟨rfl, rfl⟩ | ⟨rfl, rfl⟩ | ⟨rfl, rfl⟩ | ⟨rfl, rfl⟩
  · exact d1_is_name X g c
  · exact d1_is_whole X g c
  · exact d1_is_sign X g c
  · exact d1_is_signs X g c
  · exact d1_rank_of X g c
  · exact d1_nodes_of X g c
  · exact d1_is_tree_of X g c
  · exact d1_need_tree X g c
  · exact d1_is_row X g c
  · exact d1_are_states X g c
  · exact d1_is_guard X g c
  · exact d1_need_guard X g c
  · exact d1_table_of X g c
  · exact d1_below_all X g c
  · exact d1_up X g c
  · exact d1_states_in X g c
  · exact d1_states_of X g c
  · exact d1_ends_in X g c
  · exact d1_holds X g c
  · exact d1__law_well X g c
  · exact d1__law_take X g c
  · exact d1__law_names X g c
  · exact d1__law_signs X g c
  · exact d1__law_full X g c
  · exact d1__law_tree X g c
  · exact d1__law_tuples X g c
  · exact d1__law_guard X g c
  · exact d1__law_above X g c
  · exact d1__law_states X g c
  · exact d1__law_says X g c
  · exact d1_law X g c
theorem dl_law (X : K.In h) (g : h.Ns mainGlobals mg) (c : He.SaysD faD fnD K) : ∃ fd, D1 K mg (tabT K) gNm progT 22 ⟨#[108, 97, 119]⟩ fd [⟨#[115, 99, 114, 105, 112, 116]⟩] ∧ ∀ (s : Shared) (v : Value), BindsTo s fd ⟨[v], []⟩ [(⟨#[115, 99, 114, 105, 112, 116]⟩, v)] := by
  obtain ⟨fd, F⟩ := c.def_ 30 (d := dd ⟨#[108, 97, 119]⟩ 46) rfl
  exact ⟨fd, ⟨⟨_, _, _, _, _, n_law, b_law, F, sc_law, rfl, rfl, rfl, c_law⟩, He.glo_ok X g (c.fact 30 rfl), F.kp, FunD.bindsN (ps := [⟨#[115, 99, 114, 105, 112, 116]⟩]) F fun _ _ _ _ _ _ us hl => match us, hl with | [_], _ => rfl⟩, fun s v => FunD.bindsA (ps := [⟨#[115, 99, 114, 105, 112, 116]⟩]) F (fun _ _ _ _ _ _ us hl => match us, hl with | [_], _ => rfl) s [v] rfl⟩
end
def depthN : Nat := 40
end GM
open PySem PySem.W PySem.Calls PyProof.Rows
theorem GM.holds_of (hr : ∀ ns : List Int, ns.length ≤ 63 → ∃ h', GM.run GM.subT GM.progT (GM.depthN + 1) 22 [.lst (ns.map GM.D.int)] [] = .ok (.bl true) h') : PySem.Challenge.rw_graftmill_k05_states_by_hand.Holds := by
  w_on; o_law
  refine HandSHeadRun.head_any (r := OpenLaw.row PySem.Challenge.rw_graftmill_k05_states_by_hand) (q := view (OpenLaw.row PySem.Challenge.rw_graftmill_k05_states_by_hand).prog [46]) (H := GM.hkD) (ob := GM.obD) (M := 4000) (loose := GM.looseD) (d := HandSHeadRun.topDef (OpenLaw.row PySem.Challenge.rw_graftmill_k05_states_by_hand).prog 46) (kwd := []) GM.obD_eq
    (by kernel_rfl) (fun s => by kernel_rfl) GM.runD (by kernel_rfl) (by kernel_rfl) (by kernel_rfl) (by rfl) (by first | assumption | decide +kernel) (by decide +kernel) ⟨rfl, rfl, rfl, rfl, rfl, by decide +kernel⟩ ?hw ?hc
  case hw => w_witness2
  case hc =>
    refine GM.walk_ofX (l := PySem.Challenge.rw_graftmill_k05_states_by_hand) (n := 63) (k := GM.depthN + 1) (x := ⟨#[115, 99, 114, 105, 112, 116]⟩) (CX := fun w => L2.CX (PySem.Challenge.rw_graftmill_k05_states_by_hand).prog w) rfl (by decide) (by kernel_rfl) ⟨rfl, by decide, by decide⟩ ?F GM.cx_no
    intro w mg fa h Y G hmg0
    obtain ⟨K, KX, c⟩ := Y
    have hmg : mg (⟨#[108, 97, 119]⟩ : PySem.Str) = some (.ref fa) := by
      have e : (HandSHeadRun.topDef (OpenLaw.row PySem.Challenge.rw_graftmill_k05_states_by_hand).prog 46).name = (⟨#[108, 97, 119]⟩ : PySem.Str) := by kernel_rfl
      rw [← e]
      exact hmg0
    have e1 := GM.e1_law (P := (PySem.Challenge.rw_graftmill_k05_states_by_hand).prog) (w := w) KX G c
    have ds := GM.ds_law KX G c
    obtain ⟨fd, d, hb⟩ := GM.dl_law KX G c
    have ef : fa = (GM.tabT K).fa 22 := by
      have := hmg.symm.trans d.mg
      injection this with this
      injection this
    subst ef
    exact ⟨K, fd, GM.spC ⟨(PySem.Challenge.rw_graftmill_k05_states_by_hand).prog, w, K, (GM.tabT K).fa, (GM.tabT K).ca⟩ (GM.run GM.subT GM.progT (GM.depthN + 1)) 22, KX, hb, fun H a ns hl ho hs => GM.law_sp hr H a ns hl ho hs, fun base _ _ => GM.def_ok e1 (GM.prog_ok e1 ds GM.depthN) d⟩
end
section
set_option Elab.async false
set_option linter.all false
set_option maxRecDepth 100000
namespace GM
open PySem
/-! ### lazy evaluation by simp: every continuation has a name -/
def rv (o : Option (Option D)) (h : MH) : R D := match o with
  | some (some d) => .ok d h
  | _ => .bad
@[simp] theorem rv_s (d : D) (h : MH) : rv (some (some d)) h = .ok d h := Eq.trans rfl rfl
def cmpK (o : Option Bool) (h : MH) : R D := match o with
  | some k => .ok (.bl k) h
  | none => .bad
@[simp] theorem cmpK_s (k : Bool) (h : MH) : cmpK (some k) h = .ok (.bl k) h := Eq.trans rfl rfl
def asgK (o : Option Env) (h : MH) : RS := match o with
  | some ρ => .nx ρ h
  | none => .bad
@[simp] theorem asgK_s (ρ : Env) (h : MH) : asgK (some ρ) h = .nx ρ h := Eq.trans rfl rfl
@[simp] theorem R.ofO_ite_some {α : Type} (c : Prop) [Decidable c] (a : α) (h : MH) (q : c) : R.ofO (if c then some a else none) h = .ok a h := by rw [if_pos q]; rfl
@[simp] theorem listMax_eq : listMax = 1000000 := Eq.trans rfl rfl
@[simp] theorem tru_bl1 (b : Bool) : tru (.bl b) = some b := Eq.trans rfl rfl
def kTup (ds : List D) (h : MH) : R D := .ok (.tup ds) h
@[simp] theorem kTup_a (ds : List D) (h : MH) : kTup ds h = .ok (.tup ds) h := Eq.trans rfl rfl
def kLst (ds : List D) (h : MH) : R D := .ok (.lst ds) h
@[simp] theorem kLst_a (ds : List D) (h : MH) : kLst ds h = .ok (.lst ds) h := Eq.trans rfl rfl
def kLive (ds : List D) (h : MH) : R D := .ok (.ref h.length) (h ++ [.lst ds])
@[simp] theorem kLive_a (ds : List D) (h : MH) : kLive ds h = .ok (.ref h.length) (h ++ [.lst ds]) := Eq.trans rfl rfl
def kDct (ds : List (D × D)) (h : MH) : R D := .ok (.ref h.length) (h ++ [.dic ds])
@[simp] theorem kDct_a (ds : List (D × D)) (h : MH) : kDct ds h = .ok (.ref h.length) (h ++ [.dic ds]) := Eq.trans rfl rfl
def negK (d : D) (h : MH) : R D := match d with
  | .int i => .ok (.int (-i)) h
  | _ => .bad
@[simp] theorem negK_i (i : Int) (h : MH) : negK (.int i) h = .ok (.int (-i)) h := Eq.trans rfl rfl
def kNot (d : D) (h : MH) : R D := match tru d with
  | some b => .ok (.bl (!b)) h
  | none => .bad
@[simp] theorem kNot_b (b : Bool) (h : MH) : kNot (.bl b) h = .ok (.bl (!b)) h := Eq.trans rfl rfl
def kBin2 (o : Bop) (x : D) (y : D) (h : MH) : R D := R.ofO (opBin o (vw h x) (vw h y)) h
@[simp] theorem kBin2_a (o : Bop) (x y : D) (h : MH) : kBin2 o x y h = R.ofO (opBin o (vw h x) (vw h y)) h := Eq.trans rfl rfl
def kBin1 (C : Cal) (o : Bop) (b : E) (ρ : Env) (x : D) (h : MH) : R D := (evE C b ρ h).bind (kBin2 o x)
@[simp] theorem kBin1_a (C : Cal) (o : Bop) (b : E) (ρ : Env) (x : D) (h : MH) : kBin1 C o b ρ x h = (evE C b ρ h).bind (kBin2 o x) := Eq.trans rfl rfl
def kAnd (C : Cal) (e2 : E) (es : Es) (ρ : Env) (d : D) (h : MH) : R D := match d with
  | .bl true => evAnd C (.cons e2 es) ρ h
  | .bl false => .ok (.bl false) h
  | _ => .bad
@[simp] theorem kAnd_t (C : Cal) (e2 : E) (es : Es) (ρ : Env) (h : MH) : kAnd C e2 es ρ (.bl true) h = evAnd C (.cons e2 es) ρ h := Eq.trans rfl rfl
@[simp] theorem kAnd_f (C : Cal) (e2 : E) (es : Es) (ρ : Env) (h : MH) : kAnd C e2 es ρ (.bl false) h = .ok (.bl false) h := Eq.trans rfl rfl
def kOr (C : Cal) (e2 : E) (es : Es) (ρ : Env) (d : D) (h : MH) : R D := match d with
  | .bl true => .ok (.bl true) h
  | .bl false => evOr C (.cons e2 es) ρ h
  | _ => .bad
@[simp] theorem kOr_t (C : Cal) (e2 : E) (es : Es) (ρ : Env) (h : MH) : kOr C e2 es ρ (.bl true) h = .ok (.bl true) h := Eq.trans rfl rfl
@[simp] theorem kOr_f (C : Cal) (e2 : E) (es : Es) (ρ : Env) (h : MH) : kOr C e2 es ρ (.bl false) h = evOr C (.cons e2 es) ρ h := Eq.trans rfl rfl
def kCmp2 (o : Cm) (x : D) (y : D) (h : MH) : R D := cmpK (opCmp o (vw h x) (vw h y)) h
@[simp] theorem kCmp2_a (o : Cm) (x y : D) (h : MH) : kCmp2 o x y h = cmpK (opCmp o (vw h x) (vw h y)) h := Eq.trans rfl rfl
def kCmp1 (C : Cal) (o : Cm) (b : E) (ρ : Env) (x : D) (h : MH) : R D := (evE C b ρ h).bind (kCmp2 o x)
@[simp] theorem kCmp1_a (C : Cal) (o : Cm) (b : E) (ρ : Env) (x : D) (h : MH) : kCmp1 C o b ρ x h = (evE C b ρ h).bind (kCmp2 o x) := Eq.trans rfl rfl
def kCh3 (C : Cal) (p : Cm) (c : E) (ρ : Env) (y : D) (k : Option Bool) (h : MH) : R D := match k with
  | some true => (evE C c ρ h).bind (kCmp2 p y)
  | some false => .ok (.bl false) h
  | none => .bad
@[simp] theorem kCh3_t (C : Cal) (p : Cm) (c : E) (ρ : Env) (y : D) (h : MH) : kCh3 C p c ρ y (some true) h = (evE C c ρ h).bind (kCmp2 p y) := Eq.trans rfl rfl
@[simp] theorem kCh3_f (C : Cal) (p : Cm) (c : E) (ρ : Env) (y : D) (h : MH) : kCh3 C p c ρ y (some false) h = .ok (.bl false) h := Eq.trans rfl rfl
def kCh2 (C : Cal) (o p : Cm) (c : E) (ρ : Env) (x y : D) (h : MH) : R D := kCh3 C p c ρ y (opCmp o (vw h x) (vw h y)) h
@[simp] theorem kCh2_a (C : Cal) (o p : Cm) (c : E) (ρ : Env) (x y : D) (h : MH) : kCh2 C o p c ρ x y h = kCh3 C p c ρ y (opCmp o (vw h x) (vw h y)) h := Eq.trans rfl rfl
def kCh1 (C : Cal) (o p : Cm) (b c : E) (ρ : Env) (x : D) (h : MH) : R D := (evE C b ρ h).bind (kCh2 C o p c ρ x)
@[simp] theorem kCh1_a (C : Cal) (o p : Cm) (b c : E) (ρ : Env) (x : D) (h : MH) : kCh1 C o p b c ρ x h = (evE C b ρ h).bind (kCh2 C o p c ρ x) := Eq.trans rfl rfl
def kIte (C : Cal) (a b : E) (ρ : Env) (d : D) (h : MH) : R D := match d with
  | .bl true => evE C a ρ h
  | .bl false => evE C b ρ h
  | _ => .bad
@[simp] theorem kIte_t (C : Cal) (a b : E) (ρ : Env) (h : MH) : kIte C a b ρ (.bl true) h = evE C a ρ h := Eq.trans rfl rfl
@[simp] theorem kIte_f (C : Cal) (a b : E) (ρ : Env) (h : MH) : kIte C a b ρ (.bl false) h = evE C b ρ h := Eq.trans rfl rfl
def kIdx2 (x : D) (y : D) (h : MH) : R D := R.ofO (opIdx (vw h x) y) h
@[simp] theorem kIdx2_a (x y : D) (h : MH) : kIdx2 x y h = R.ofO (opIdx (vw h x) y) h := Eq.trans rfl rfl
def kIdx1 (C : Cal) (i : E) (ρ : Env) (x : D) (h : MH) : R D := (evE C i ρ h).bind (kIdx2 x)
@[simp] theorem kIdx1_a (C : Cal) (i : E) (ρ : Env) (x : D) (h : MH) : kIdx1 C i ρ x h = (evE C i ρ h).bind (kIdx2 x) := Eq.trans rfl rfl
def kSlc3 (x : D) (l u : Option Int) (h : MH) : R D := R.ofO (opSlc (vw h x) l u) h
@[simp] theorem kSlc3_a (x : D) (l u : Option Int) (h : MH) : kSlc3 x l u h = R.ofO (opSlc (vw h x) l u) h := Eq.trans rfl rfl
def kSlc2 (C : Cal) (hi : Eo) (ρ : Env) (x : D) (l : Option Int) (h : MH) : R D := (evEo C hi ρ h).bind (kSlc3 x l)
@[simp] theorem kSlc2_a (C : Cal) (hi : Eo) (ρ : Env) (x : D) (l : Option Int) (h : MH) : kSlc2 C hi ρ x l h = (evEo C hi ρ h).bind (kSlc3 x l) := Eq.trans rfl rfl
def kSlc1 (C : Cal) (lo hi : Eo) (ρ : Env) (x : D) (h : MH) : R D := (evEo C lo ρ h).bind (kSlc2 C hi ρ x)
@[simp] theorem kSlc1_a (C : Cal) (lo hi : Eo) (ρ : Env) (x : D) (h : MH) : kSlc1 C lo hi ρ x h = (evEo C lo ρ h).bind (kSlc2 C hi ρ x) := Eq.trans rfl rfl
def kIsa (t : Ty) (x : D) (h : MH) : R D := cmpK (opIsa t (vw h x)) h
@[simp] theorem kIsa_a (t : Ty) (x : D) (h : MH) : kIsa t x h = cmpK (opIsa t (vw h x)) h := Eq.trans rfl rfl
def kBi (f : Bi) (ds : List D) (h : MH) : R D := R.ofO (opBi f (ds.map (vw h))) h
@[simp] theorem kBi_a (f : Bi) (ds : List D) (h : MH) : kBi f ds h = R.ofO (opBi f (ds.map (vw h))) h := Eq.trans rfl rfl
def appK (x : D) (d : D) (h : MH) : R D := match x with
  | .ref n => match h[n]? with
    | some (.lst xs) => if xs.length < 1000000 then .ok .non (h.set n (.lst (xs ++ [d]))) else .bad
    | _ => .bad
  | _ => .bad
theorem appK_r {d : D} {n : Nat} {h : MH} {xs : List D} (e : h[n]? = some (.lst xs)) (l : xs.length < 1000000) : appK (.ref n) d h = .ok .non (h.set n (.lst (xs ++ [d]))) := by
  unfold appK; simp only [e, l, if_true]
def needL {α : Type} (o : Option LO) (r : R α) : R α := match o with
  | some (.lst _) => r
  | _ => .bad
def kApp (C : Cal) (e : E) (ρ : Env) (x : D) (h : MH) : R D := if isLst h x = true then (evE C e ρ h).bind (appK x) else .bad
theorem kApp_r {C : Cal} {e : E} {ρ : Env} {n : Nat} {h : MH} {xs : List D} (q : h[n]? = some (.lst xs)) : kApp C e ρ (.ref n) h = (evE C e ρ h).bind (appK (.ref n)) := by
  unfold kApp; rw [if_pos (by simp [isLst, vw, q])]
def extK (x : D) (d : D) (h : MH) : R D := match x, vwL h d with
  | .ref n, some ys => match h[n]? with
    | some (.lst xs) => if xs.length + ys.length < 1000000 then .ok .non (h.set n (.lst (xs ++ ys))) else .bad
    | _ => .bad
  | _, _ => .bad
theorem extK_r {d : D} {n : Nat} {h : MH} {xs ys : List D} (v : vwL h d = some ys) (e : h[n]? = some (.lst xs)) (l : xs.length + ys.length < 1000000) : extK (.ref n) d h = .ok .non (h.set n (.lst (xs ++ ys))) := by
  unfold extK; simp only [v, e, l, if_true]
theorem extK_rr {m n : Nat} {h : MH} {xs ys : List D} (v : h[m]? = some (.lst ys)) (e : h[n]? = some (.lst xs)) (l : xs.length + ys.length < 1000000) : extK (.ref n) (.ref m) h = .ok .non (h.set n (.lst (xs ++ ys))) :=
  extK_r (by simp [vwL, v]) e l
def kExt (C : Cal) (e : E) (ρ : Env) (x : D) (h : MH) : R D := if isLst h x = true then (evE C e ρ h).bind (extK x) else .bad
theorem kExt_r {C : Cal} {e : E} {ρ : Env} {n : Nat} {h : MH} {xs : List D} (q : h[n]? = some (.lst xs)) : kExt C e ρ (.ref n) h = (evE C e ρ h).bind (extK (.ref n)) := by
  unfold kExt; rw [if_pos (by simp [isLst, vw, q])]
def popK (x : D) (h : MH) : R D := match x with
  | .ref n => match h[n]? with
    | some (.lst xs) => match xs[xs.length - 1]? with
      | some y => .ok y (h.set n (.lst xs.dropLast))
      | none => .bad
    | _ => .bad
  | _ => .bad
theorem popK_r {n : Nat} {h : MH} {xs : List D} {y : D} (e : h[n]? = some (.lst (xs ++ [y]))) : popK (.ref n) h = .ok y (h.set n (.lst xs)) := by
  unfold popK; simp only [e]; simp
def popAtK (x d : D) (h : MH) : R D := match x, d with
  | .ref n, .int i => match h[n]? with
    | some (.lst xs) => match (if xs.length ≤ listMax then ixO xs.length i else none) with
      | some j => match xs[j]? with
        | some y => .ok y (h.set n (.lst (xs.eraseIdx j)))
        | none => .bad
      | none => .bad
    | _ => .bad
  | _, _ => .bad
def kPopAt (C : Cal) (e : E) (ρ : Env) (x : D) (h : MH) : R D := if isLst h x = true then (evE C e ρ h).bind (popAtK x) else .bad
theorem kPopAt_r {C : Cal} {e : E} {ρ : Env} {n : Nat} {h : MH} {xs : List D} (q : h[n]? = some (.lst xs)) : kPopAt C e ρ (.ref n) h = (evE C e ρ h).bind (popAtK (.ref n)) := by
  unfold kPopAt; rw [if_pos (by simp [isLst, vw, q])]
theorem popAtK_r {n j : Nat} {i : Int} {h : MH} {xs : List D} {y : D} (e : h[n]? = some (.lst xs)) (l : xs.length ≤ 1000000) (q : ixO xs.length i = some j) (g : xs[j]? = some y) : popAtK (.ref n) (.int i) h = .ok y (h.set n (.lst (xs.eraseIdx j))) := by
  unfold popAtK; simp [e, l, q, g]
def insK (x d y : D) (h : MH) : R D := match x, d with
  | .ref n, .int i => match h[n]? with
    | some (.lst xs) => if 0 ≤ i ∧ i ≤ xs.length ∧ xs.length < listMax then .ok .non (h.set n (.lst (xs.take i.toNat ++ y :: xs.drop i.toNat))) else .bad
    | _ => .bad
  | _, _ => .bad
def kIns2 (C : Cal) (e : E) (ρ : Env) (x d : D) (h : MH) : R D := (evE C e ρ h).bind (insK x d)
@[simp] theorem kIns2_a (C : Cal) (e : E) (ρ : Env) (x d : D) (h : MH) : kIns2 C e ρ x d h = (evE C e ρ h).bind (insK x d) := Eq.trans rfl rfl
def kIns (C : Cal) (i e : E) (ρ : Env) (x : D) (h : MH) : R D := if isLst h x = true then (evE C i ρ h).bind (kIns2 C e ρ x) else .bad
theorem kIns_r {C : Cal} {i e : E} {ρ : Env} {n : Nat} {h : MH} {xs : List D} (q : h[n]? = some (.lst xs)) : kIns C i e ρ (.ref n) h = (evE C i ρ h).bind (kIns2 C e ρ (.ref n)) := by
  unfold kIns; rw [if_pos (by simp [isLst, vw, q])]
theorem insK_r {n : Nat} {i : Nat} {h : MH} {xs : List D} {y : D} (e : h[n]? = some (.lst xs)) (l : xs.length < 1000000) (q : i ≤ xs.length) : insK (.ref n) (.int i) y h = .ok .non (h.set n (.lst (xs.take i ++ y :: xs.drop i))) := by
  unfold insK; simp [e, l, q]
def getK (x y z : D) (h : MH) : R D := match vw h x with
  | .dic ks vs => if keyFits ks y = true then .ok ((dget (ks.zip vs) y).getD z) h else .bad
  | _ => .bad
theorem getK_d {x y z : D} {h : MH} {ks vs : List D} (e : vw h x = .dic ks vs) (k : keyFits ks y = true) : getK x y z h = .ok ((dget (ks.zip vs) y).getD z) h := by
  unfold getK; simp only [e, k, if_true]
def kGet2 (C : Cal) (d : E) (ρ : Env) (x y : D) (h : MH) : R D := (evE C d ρ h).bind (getK x y)
@[simp] theorem kGet2_a (C : Cal) (d : E) (ρ : Env) (x y : D) (h : MH) : kGet2 C d ρ x y h = (evE C d ρ h).bind (getK x y) := Eq.trans rfl rfl
def kGet (C : Cal) (k d : E) (ρ : Env) (x : D) (h : MH) : R D := if isDic h x = true then (evE C k ρ h).bind (kGet2 C d ρ x) else .bad
theorem kGet_r {C : Cal} {k d : E} {ρ : Env} {x : D} {h : MH} {ks vs : List D} (q : vw h x = .dic ks vs) : kGet C k d ρ x h = (evE C k ρ h).bind (kGet2 C d ρ x) := by
  unfold kGet; rw [if_pos (by simp only [isDic, q])]
def setdK (x y z : D) (h : MH) : R D := match x with
  | .ref n => match h[n]? with
    | some (.dic kvs) => if kf kvs y = true ∧ kvs.length < listMax then (match dget kvs y with
        | some v => .ok v h
        | none => .ok z (h.set n (.dic (kvs ++ [(y, z)])))) else .bad
    | _ => .bad
  | _ => .bad
theorem setdK_some {y z v : D} {n : Nat} {h : MH} {kvs : List (D × D)} (e : h[n]? = some (.dic kvs)) (k : kf kvs y = true) (l : kvs.length < 1000000) (g : dget kvs y = some v) : setdK (.ref n) y z h = .ok v h := by
  unfold setdK; simp only [e, k, g]; simp [l]
theorem setdK_none {y z : D} {n : Nat} {h : MH} {kvs : List (D × D)} (e : h[n]? = some (.dic kvs)) (k : kf kvs y = true) (l : kvs.length < 1000000) (g : dget kvs y = none) : setdK (.ref n) y z h = .ok z (h.set n (.dic (kvs ++ [(y, z)]))) := by
  unfold setdK; simp only [e, k, g]; simp [l]
def kSetd2 (C : Cal) (d : E) (ρ : Env) (x y : D) (h : MH) : R D := (evE C d ρ h).bind (setdK x y)
@[simp] theorem kSetd2_a (C : Cal) (d : E) (ρ : Env) (x y : D) (h : MH) : kSetd2 C d ρ x y h = (evE C d ρ h).bind (setdK x y) := Eq.trans rfl rfl
def kSetd (C : Cal) (k d : E) (ρ : Env) (x : D) (h : MH) : R D := if isDic h x = true then (evE C k ρ h).bind (kSetd2 C d ρ x) else .bad
theorem kSetd_r {C : Cal} {k d : E} {ρ : Env} {n : Nat} {h : MH} {kvs : List (D × D)} (q : h[n]? = some (.dic kvs)) : kSetd C k d ρ (.ref n) h = (evE C k ρ h).bind (kSetd2 C d ρ (.ref n)) := by
  unfold kSetd; rw [if_pos (by simp only [isDic, vw, q])]
def updK (x d : D) (h : MH) : R D := match x, vw h d with
  | .ref n, .dic ks vs => match h[n]? with
    | some (.dic kvs) => if d ≠ .ref n ∧ (ks.zip vs).length + kvs.length < listMax ∧ leafs ks = true ∧ leafs (kvs.map (·.1)) = true then (R.ofO (dputs kvs (ks.zip vs)) h).bind fun r h => .ok .non (h.set n (.dic r)) else .bad
    | _ => .bad
  | _, _ => .bad
theorem updK_r {d : D} {n : Nat} {h : MH} {ks vs : List D} {kvs r : List (D × D)} (v : vw h d = .dic ks vs) (e : h[n]? = some (.dic kvs)) (a : d ≠ .ref n) (l : (ks.zip vs).length + kvs.length < 1000000) (b : leafs ks = true) (c : leafs (kvs.map (·.1)) = true) (q : dputs kvs (ks.zip vs) = some r) : updK (.ref n) d h = .ok .non (h.set n (.dic r)) := by
  unfold updK; simp only [v, e]; rw [if_pos ⟨a, l, b, c⟩, q]; rfl
def kUpd (C : Cal) (e : E) (ρ : Env) (x : D) (h : MH) : R D := if isDic h x = true then (evE C e ρ h).bind (updK x) else .bad
theorem kUpd_r {C : Cal} {e : E} {ρ : Env} {n : Nat} {h : MH} {kvs : List (D × D)} (q : h[n]? = some (.dic kvs)) : kUpd C e ρ (.ref n) h = (evE C e ρ h).bind (updK (.ref n)) := by
  unfold kUpd; rw [if_pos (by simp only [isDic, vw, q])]
def eoK (d : D) (h : MH) : R (Option Int) := match d with
  | .int i => .ok (some i) h
  | _ => .bad
@[simp] theorem eoK_i (i : Int) (h : MH) : eoK (.int i) h = .ok (some i) h := Eq.trans rfl rfl
def kEs2 (d : D) (ds : List D) (h : MH) : R (List D) := .ok (d :: ds) h
@[simp] theorem kEs2_a (d : D) (ds : List D) (h : MH) : kEs2 d ds h = .ok (d :: ds) h := Eq.trans rfl rfl
def kEs1 (C : Cal) (es : Es) (ρ : Env) (d : D) (h : MH) : R (List D) := (evEs C es ρ h).bind (kEs2 d)
@[simp] theorem kEs1_a (C : Cal) (es : Es) (ρ : Env) (d : D) (h : MH) : kEs1 C es ρ d h = (evEs C es ρ h).bind (kEs2 d) := Eq.trans rfl rfl
def truK (d : D) (h : MH) : R Bool := R.ofO (tru d) h
@[simp] theorem truK_b (b : Bool) (h : MH) : truK (.bl b) h = .ok b h := Eq.trans rfl rfl
def ofsK (v : D) (h : MH) : R (List D) := match v with
  | .lst xs => .ok xs h
  | .tup xs => .ok xs h
  | .dic ks _ => .ok ks h
  | _ => .bad
@[simp] theorem ofsK_l (xs : List D) (h : MH) : ofsK (.lst xs) h = .ok xs h := Eq.trans rfl rfl
@[simp] theorem ofsK_t (xs : List D) (h : MH) : ofsK (.tup xs) h = .ok xs h := Eq.trans rfl rfl
@[simp] theorem ofsK_d (xs vs : List D) (h : MH) : ofsK (.dic xs vs) h = .ok xs h := Eq.trans rfl rfl
def kOfs (d : D) (h : MH) : R (List D) := ofsK (vw h d) h
@[simp] theorem kOfs_a (d : D) (h : MH) : kOfs d h = ofsK (vw h d) h := Eq.trans rfl rfl
def kSort (d : D) (h : MH) : R (List D) := R.ofO (opSort (vw h d)) h
@[simp] theorem kSort_a (d : D) (h : MH) : kSort d h = R.ofO (opSort (vw h d)) h := Eq.trans rfl rfl
def kRep2 (x y : D) (h : MH) : R (List D) := match vwL h x, y with
    | some xs, .int n => if xs.length * n.toNat ≤ listMax ∧ -(2 ^ 63) ≤ n ∧ n < 2 ^ 63 then .ok (List.replicate n.toNat xs).flatten h else .bad
    | _, _ => .bad
def kRep1 (C : Cal) (n : E) (ρ : Env) (x : D) (h : MH) : R (List D) := (evE C n ρ h).bind (kRep2 x)
@[simp] theorem kRep1_a (C : Cal) (n : E) (ρ : Env) (x : D) (h : MH) : kRep1 C n ρ x h = (evE C n ρ h).bind (kRep2 x) := Eq.trans rfl rfl
def kItems (d : D) (h : MH) : R (List D × Option (Nat × List D)) := R.ofO (itemsOf h d) h
@[simp] theorem kItems_a (d : D) (h : MH) : kItems d h = R.ofO (itemsOf h d) h := Eq.trans rfl rfl
def rg1K (d : D) (h : MH) : R (List D × Option (Nat × List D)) := match d with
  | .int j => if j < 2 ^ 62 ∧ -(2 ^ 62) ≤ j then .ok ((List.range j.toNat).map fun (k : Nat) => D.int k, none) h else .bad
  | _ => .bad
theorem rg1K_i {h : MH} {j : Int} (a : -1000000000 ≤ j) (b : j < 1000000000) : rg1K (.int j) h = .ok ((List.range j.toNat).map fun (k : Nat) => D.int k, none) h := by
  show (if j < 2 ^ 62 ∧ -(2 ^ 62) ≤ j then _ else _) = _
  rw [if_pos (by omega)]
theorem rg1K_n {h : MH} {j : Nat} (b : j < 1000000000) : rg1K (.int j) h = .ok ((List.range j).map fun (k : Nat) => D.int k, none) h := by
  rw [rg1K_i (by omega) (by omega)]; simp
def rg2K (x y : D) (h : MH) : R (List D × Option (Nat × List D)) := match x, y with
  | .int i, .int j => if (j < 2 ^ 62 ∧ -(2 ^ 62) ≤ j) ∧ (i < 2 ^ 62 ∧ -(2 ^ 62) ≤ i) then .ok ((List.range (j - i).toNat).map fun (k : Nat) => D.int (i + k), none) h else .bad
  | _, _ => .bad
theorem rg2K_i {h : MH} {i j : Int} (a : -1000000000 ≤ j) (b : j < 1000000000) (c : -1000000000 ≤ i) (d : i < 1000000000) : rg2K (.int i) (.int j) h = .ok ((List.range (j - i).toNat).map fun (k : Nat) => D.int (i + k), none) h := by
  show (if (j < 2 ^ 62 ∧ -(2 ^ 62) ≤ j) ∧ (i < 2 ^ 62 ∧ -(2 ^ 62) ≤ i) then _ else _) = _
  rw [if_pos (by omega)]
def kRg2 (C : Cal) (b : E) (ρ : Env) (x : D) (h : MH) : R (List D × Option (Nat × List D)) := (evE C b ρ h).bind (rg2K x)
@[simp] theorem kRg2_a (C : Cal) (b : E) (ρ : Env) (x : D) (h : MH) : kRg2 C b ρ x h = (evE C b ρ h).bind (rg2K x) := Eq.trans rfl rfl
def enK (d : D) (h : MH) : R (List D × Option (Nat × List D)) := match d with
  | .lst xs => .ok ((xs.zipIdx).map fun p => D.tup [.int p.2, p.1], none) h
  | _ => .bad
@[simp] theorem enK_l (xs : List D) (h : MH) : enK (.lst xs) h = .ok ((xs.zipIdx).map fun p => D.tup [.int p.2, p.1], none) h := Eq.trans rfl rfl
def zipK (x y : D) (h : MH) : R (List D × Option (Nat × List D)) := match seqO x, seqO y with
  | some xs, some ys => .ok ((xs.zip ys).map fun p => D.tup [p.1, p.2], none) h
  | _, _ => .bad
@[simp] theorem zipK_l (xs ys : List D) (h : MH) : zipK (.lst xs) (.lst ys) h = .ok ((xs.zip ys).map fun p => D.tup [p.1, p.2], none) h := Eq.trans rfl rfl
@[simp] theorem zipK_lt (xs ys : List D) (h : MH) : zipK (.lst xs) (.tup ys) h = .ok ((xs.zip ys).map fun p => D.tup [p.1, p.2], none) h := Eq.trans rfl rfl
@[simp] theorem zipK_tl (xs ys : List D) (h : MH) : zipK (.tup xs) (.lst ys) h = .ok ((xs.zip ys).map fun p => D.tup [p.1, p.2], none) h := Eq.trans rfl rfl
@[simp] theorem zipK_t (xs ys : List D) (h : MH) : zipK (.tup xs) (.tup ys) h = .ok ((xs.zip ys).map fun p => D.tup [p.1, p.2], none) h := Eq.trans rfl rfl
def kZip (C : Cal) (b : E) (ρ : Env) (x : D) (h : MH) : R (List D × Option (Nat × List D)) := (evE C b ρ h).bind (zipK x)
@[simp] theorem kZip_a (C : Cal) (b : E) (ρ : Env) (x : D) (h : MH) : kZip C b ρ x h = (evE C b ρ h).bind (zipK x) := Eq.trans rfl rfl
/-! statements' continuations -/
def kAsg (t : Tg) (ρ : Env) (d : D) (h : MH) : RS := asgK (asgT t d ρ) h
@[simp] theorem kAsg_a (t : Tg) (ρ : Env) (d : D) (h : MH) : kAsg t ρ d h = asgK (asgT t d ρ) h := Eq.trans rfl rfl
def setK (d : D) (ρ : Env) (x y : D) (h : MH) : RS := match x with
  | .ref n => match h[n]?, y with
    | some (.lst xs), .int k => match ixO xs.length k with
      | some j => .nx ρ (h.set n (.lst (xs.set j d)))
      | none => .bad
    | some (.dic kvs), y => if kf kvs y = true ∧ kvs.length < listMax then .nx ρ (h.set n (.dic (dput kvs y d))) else .bad
    | _, _ => .bad
  | _ => .bad
theorem setK_l {d : D} {ρ : Env} {n : Nat} {k : Int} {h : MH} {xs : List D} {j : Nat} (e : h[n]? = some (.lst xs)) (i : ixO xs.length k = some j) : setK d ρ (.ref n) (.int k) h = .nx ρ (h.set n (.lst (xs.set j d))) := by
  unfold setK; simp only [e, i]
theorem setK_d {d : D} {ρ : Env} {n : Nat} {y : D} {h : MH} {kvs : List (D × D)} (e : h[n]? = some (.dic kvs)) (i : kf kvs y = true) (l : kvs.length < 1000000) : setK d ρ (.ref n) y h = .nx ρ (h.set n (.dic (dput kvs y d))) := by
  unfold setK; simp only [e]; rw [if_pos ⟨i, l⟩]
def kSet2 (C : Cal) (i : E) (ρ : Env) (d x : D) (h : MH) : RS := bindE (evE C i ρ h) ρ (setK d ρ x)
@[simp] theorem kSet2_a (C : Cal) (i : E) (ρ : Env) (d x : D) (h : MH) : kSet2 C i ρ d x h = bindE (evE C i ρ h) ρ (setK d ρ x) := Eq.trans rfl rfl
def kSet1 (C : Cal) (o i : E) (ρ : Env) (d : D) (h : MH) : RS := bindE (evE C o ρ h) ρ (kSet2 C i ρ d)
@[simp] theorem kSet1_a (C : Cal) (o i : E) (ρ : Env) (d : D) (h : MH) : kSet1 C o i ρ d h = bindE (evE C o ρ h) ρ (kSet2 C i ρ d) := Eq.trans rfl rfl
def augK (o : Bop) (i : Nat) (ρ : Env) (x y : D) (h : MH) : RS := match x, y with
  | .int p, .int q => match opBin o (.int p) (.int q) with
    | some z => if o = .add ∨ o = .sub then .nx (ρ.set i (some z)) h else .bad
    | none => .bad
  | _, _ => .bad
@[simp] theorem augK_add (i : Nat) (ρ : Env) (p q : Int) (h : MH) : augK .add i ρ (.int p) (.int q) h = .nx (ρ.set i (some (.int (p + q)))) h := by simp [augK, opBin]
@[simp] theorem augK_sub (i : Nat) (ρ : Env) (p q : Int) (h : MH) : augK .sub i ρ (.int p) (.int q) h = .nx (ρ.set i (some (.int (p - q)))) h := by simp [augK, opBin]
def kAug (C : Cal) (o : Bop) (i : Nat) (e : E) (ρ : Env) (x : D) (h : MH) : RS := bindE (evE C e ρ h) ρ (augK o i ρ x)
@[simp] theorem kAug_a (C : Cal) (o : Bop) (i : Nat) (e : E) (ρ : Env) (x : D) (h : MH) : kAug C o i e ρ x h = bindE (evE C e ρ h) ρ (augK o i ρ x) := Eq.trans rfl rfl
def kEx (ρ : Env) (d : D) (h : MH) : RS := .nx ρ h
@[simp] theorem kEx_a (ρ : Env) (d : D) (h : MH) : kEx ρ d h = .nx ρ h := Eq.trans rfl rfl
def kRet (d : D) (h : MH) : RS := .ret d h
@[simp] theorem kRet_a (d : D) (h : MH) : kRet d h = .ret d h := Eq.trans rfl rfl
noncomputable def kIf (sub : Nat → Nat → Bool) (C : Cal) (a b : Ss) (ρ : Env) (d : D) (h : MH) : RS := match d with
  | .bl true => evSs sub C a ρ h
  | .bl false => evSs sub C b ρ h
  | _ => .bad
@[simp] theorem kIf_t (sub : Nat → Nat → Bool) (C : Cal) (a b : Ss) (ρ : Env) (h : MH) : kIf sub C a b ρ (.bl true) h = evSs sub C a ρ h := Eq.trans rfl rfl
@[simp] theorem kIf_f (sub : Nat → Nat → Bool) (C : Cal) (a b : Ss) (ρ : Env) (h : MH) : kIf sub C a b ρ (.bl false) h = evSs sub C b ρ h := Eq.trans rfl rfl
def fzK (o : Option (Option D)) (i : Nat) (ρ : Env) (h : MH) : RS := match o with
  | some (some d) => match frzD 0 frzN d h with
    | some (d', h') => .nx (ρ.set i (some d')) h'
    | none => .bad
  | _ => .bad
noncomputable def trK (sub : Nat → Nat → Bool) (C : Cal) (hs : Hs) (r : RS) : RS := match r with
  | .exc c pl ρ1 h1 => evHs sub C c pl hs ρ1 h1
  | r => r
@[simp] theorem trK_nx (sub : Nat → Nat → Bool) (C : Cal) (ρ : Env) (h : MH) (hs : Hs) : trK sub C hs (.nx ρ h) = .nx ρ h := Eq.trans rfl rfl
@[simp] theorem trK_ret (sub : Nat → Nat → Bool) (C : Cal) (h : MH) (hs : Hs) (d : D) : trK sub C hs (.ret d h) = .ret d h := Eq.trans rfl rfl
@[simp] theorem trK_exc (sub : Nat → Nat → Bool) (C : Cal) (ρ : Env) (h : MH) (hs : Hs) (c : Nat) (pl : List D) : trK sub C hs (.exc c pl ρ h) = evHs sub C c pl hs ρ h := Eq.trans rfl rfl
section
variable (sub : Nat → Nat → Bool) (C : Cal) (ρ : Env) (h : MH)
@[simp] theorem ev_var (i : Nat) : evE C (.var i) ρ h = rv ρ[i]? h := by rw [evE]; rfl
@[simp] theorem ev_non : evE C .non ρ h = .ok .non h := by rw [evE]
@[simp] theorem ev_bl (b : Bool) : evE C (.bl b) ρ h = .ok (.bl b) h := by rw [evE]
@[simp] theorem ev_int (i : Int) : evE C (.int i) ρ h = .ok (.int i) h := by rw [evE]
@[simp] theorem ev_str (s : Str) : evE C (.str s) ρ h = .ok (.str s) h := by rw [evE]
@[simp] theorem ev_gc (x : Str) (d : D) : evE C (.gc x d) ρ h = .ok d h := by rw [evE]
@[simp] theorem ev_tup (es : Es) : evE C (.tup es) ρ h = (evEs C es ρ h).bind kTup := by rw [evE]; rfl
@[simp] theorem ev_lst (l : L) : evE C (.lst l) ρ h = (evL C l ρ h).bind kLst := by rw [evE]; rfl
@[simp] theorem ev_live (l : L) : evE C (.live l) ρ h = (evL C l ρ h).bind kLive := by rw [evE]; rfl
@[simp] theorem ev_dct (l : DL) : evE C (.dct l) ρ h = (evDL C l ρ h).bind kDct := by rw [evE]; rfl
@[simp] theorem ev_neg (a : E) : evE C (.neg a) ρ h = (evE C a ρ h).bind negK := by rw [evE]; rfl
@[simp] theorem ev_not (a : E) : evE C (.not a) ρ h = (evE C a ρ h).bind kNot := by
  rw [evE]; congr 1; funext d h; unfold kNot; cases tru d <;> rfl
@[simp] theorem ev_bin (o : Bop) (a b : E) : evE C (.bin o a b) ρ h = (evE C a ρ h).bind (kBin1 C o b ρ) := by rw [evE]; rfl
@[simp] theorem ev_and (es : Es) : evE C (.and es) ρ h = evAnd C es ρ h := by rw [evE]
@[simp] theorem ev_or (es : Es) : evE C (.or es) ρ h = evOr C es ρ h := by rw [evE]
@[simp] theorem evAnd_1 (e : E) : evAnd C (.cons e .nil) ρ h = evE C e ρ h := by rw [evAnd]
@[simp] theorem evOr_1 (e : E) : evOr C (.cons e .nil) ρ h = evE C e ρ h := by rw [evOr]
@[simp] theorem evAnd_2 (e e2 : E) (es : Es) : evAnd C (.cons e (.cons e2 es)) ρ h = (evE C e ρ h).bind (kAnd C e2 es ρ) := by
  rw [evAnd]; congr 1; funext d h; cases d <;> first | rfl | skip
  rename_i b; cases b <;> rfl
@[simp] theorem evOr_2 (e e2 : E) (es : Es) : evOr C (.cons e (.cons e2 es)) ρ h = (evE C e ρ h).bind (kOr C e2 es ρ) := by
  rw [evOr]; congr 1; funext d h; cases d <;> first | rfl | skip
  rename_i b; cases b <;> rfl
@[simp] theorem ev_cmp (o : Cm) (a b : E) : evE C (.cmp o a b) ρ h = (evE C a ρ h).bind (kCmp1 C o b ρ) := by
  rw [evE]; congr 1; funext x h; unfold kCmp1; congr 1; funext y h; unfold kCmp2; cases opCmp o (vw h x) (vw h y) <;> rfl
@[simp] theorem ev_cmp2 (o p : Cm) (a b c : E) : evE C (.cmp2 o p a b c) ρ h = (evE C a ρ h).bind (kCh1 C o p b c ρ) := by
  rw [evE]; congr 1; funext x h; unfold kCh1; congr 1; funext y h; unfold kCh2
  cases q : opCmp o (vw h x) (vw h y) with
  | none => rfl
  | some k =>
    cases k
    · rfl
    · show R.bind (evE C c ρ h) _ = R.bind (evE C c ρ h) (kCmp2 p y)
      refine congrArg _ ?_
      funext z h; unfold kCmp2; cases opCmp p (vw h y) (vw h z) <;> rfl
@[simp] theorem ev_ite (c a b : E) : evE C (.ite c a b) ρ h = (evE C c ρ h).bind (kIte C a b ρ) := by
  rw [evE]; congr 1; funext d h; cases d <;> first | rfl | skip
  rename_i b; cases b <;> rfl
@[simp] theorem ev_idx (a i : E) : evE C (.idx a i) ρ h = (evE C a ρ h).bind (kIdx1 C i ρ) := by rw [evE]; rfl
@[simp] theorem ev_slc (a : E) (lo hi : Eo) : evE C (.slc a lo hi) ρ h = (evE C a ρ h).bind (kSlc1 C lo hi ρ) := by rw [evE]; rfl
@[simp] theorem ev_call (f : Nat) (es : Es) : evE C (.call f es) ρ h = (evEs C es ρ h).bind (C f) := by rw [evE]
@[simp] theorem ev_isa (t : Ty) (a : E) : evE C (.isa t a) ρ h = (evE C a ρ h).bind (kIsa t) := by
  rw [evE]; congr 1; funext x h; unfold kIsa; cases opIsa t (vw h x) <;> rfl
@[simp] theorem ev_bi (f : Bi) (es : Es) : evE C (.bi f es) ρ h = (evEs C es ρ h).bind (kBi f) := by rw [evE]; rfl
@[simp] theorem ev_append (o e : E) : evE C (.append o e) ρ h = (evE C o ρ h).bind (kApp C e ρ) := by rw [evE]; rfl
@[simp] theorem ev_extend (o e : E) : evE C (.extend o e) ρ h = (evE C o ρ h).bind (kExt C e ρ) := by rw [evE]; rfl
@[simp] theorem ev_pop (o : E) : evE C (.pop o) ρ h = (evE C o ρ h).bind popK := by rw [evE]; rfl
@[simp] theorem ev_popAt (o i : E) : evE C (.popAt o i) ρ h = (evE C o ρ h).bind (kPopAt C i ρ) := by rw [evE]; rfl
@[simp] theorem ev_insert (o i e : E) : evE C (.insert o i e) ρ h = (evE C o ρ h).bind (kIns C i e ρ) := by rw [evE]; rfl
@[simp] theorem ev_get (o k d : E) : evE C (.get o k d) ρ h = (evE C o ρ h).bind (kGet C k d ρ) := by rw [evE]; rfl
@[simp] theorem ev_setdefault (o k d : E) : evE C (.setdefault o k d) ρ h = (evE C o ρ h).bind (kSetd C k d ρ) := by rw [evE]; rfl
@[simp] theorem ev_update (o e : E) : evE C (.update o e) ρ h = (evE C o ρ h).bind (kUpd C e ρ) := by rw [evE]; rfl
@[simp] theorem evEo_no : evEo C .no ρ h = .ok none h := by rw [evEo]
@[simp] theorem evEo_so (e : E) : evEo C (.so e) ρ h = (evE C e ρ h).bind eoK := by rw [evEo]; rfl
@[simp] theorem evEs_nil : evEs C .nil ρ h = .ok [] h := by rw [evEs]
@[simp] theorem evEs_cons (e : E) (es : Es) : evEs C (.cons e es) ρ h = (evE C e ρ h).bind (kEs1 C es ρ) := by rw [evEs]; rfl
@[simp] theorem evIfs_nil : evIfs C .nil ρ h = .ok true h := by rw [evIfs]
@[simp] theorem evIfs_one (e : E) : evIfs C (.cons e .nil) ρ h = (evE C e ρ h).bind truK := by rw [evIfs]; rfl
@[simp] theorem evL_disp (es : Es) : evL C (.disp es) ρ h = evEs C es ρ h := by rw [evL]
@[simp] theorem evL_ofs (e : E) : evL C (.ofs e) ρ h = (evE C e ρ h).bind kOfs := by rw [evL]; rfl
@[simp] theorem evL_sorted (e : E) : evL C (.sorted e) ρ h = (evE C e ρ h).bind kSort := by rw [evL]; rfl
@[simp] theorem evL_rep (a n : E) : evL C (.rep a n) ρ h = (evE C a ρ h).bind (kRep1 C n ρ) := by rw [evL]; rfl
@[simp] theorem evDL_nil : evDL C .nil ρ h = .ok [] h := by rw [evDL]
@[simp] theorem evIt_seq (e : E) : evIt C (.seq e) ρ h = (evE C e ρ h).bind kItems := by rw [evIt]; rfl
@[simp] theorem evIt_range1 (e : E) : evIt C (.range1 e) ρ h = (evE C e ρ h).bind rg1K := by rw [evIt]; rfl
@[simp] theorem evIt_range2 (a b : E) : evIt C (.range2 a b) ρ h = (evE C a ρ h).bind (kRg2 C b ρ) := by rw [evIt]; rfl
@[simp] theorem evIt_enum (e : E) : evIt C (.enum e) ρ h = (evE C e ρ h).bind enK := by rw [evIt]; rfl
@[simp] theorem evIt_zip (a b : E) : evIt C (.zip a b) ρ h = (evE C a ρ h).bind (kZip C b ρ) := by rw [evIt]; rfl
/-! statements -/
@[simp] theorem ss_nil : evSs sub C .nil ρ h = .nx ρ h := by rw [evSs]
@[simp] theorem ss_cons (s : S) (ss : Ss) : evSs sub C (.cons s ss) ρ h = (evS sub C s ρ h).bind (evSs sub C ss) := by rw [evSs]
@[simp] theorem s_asg (t : Tg) (e : E) : evS sub C (.asg t e) ρ h = bindE (evE C e ρ h) ρ (kAsg t ρ) := by rw [evS]; rfl
@[simp] theorem s_setI (o i e : E) : evS sub C (.setI o i e) ρ h = bindE (evE C e ρ h) ρ (kSet1 C o i ρ) := by rw [evS]; rfl
@[simp] theorem s_aug (i : Nat) (o : Bop) (e : E) : evS sub C (.aug i o e) ρ h = bindE (rv ρ[i]? h) ρ (kAug C o i e ρ) := by
  rw [evS]
  rcases ρ[i]? with _ | _ | x
  · rfl
  · rfl
  · rfl
@[simp] theorem s_ex (e : E) : evS sub C (.ex e) ρ h = bindE (evE C e ρ h) ρ (kEx ρ) := by rw [evS]; rfl
@[simp] theorem s_ret (e : E) : evS sub C (.ret e) ρ h = bindE (evE C e ρ h) ρ kRet := by rw [evS]; rfl
@[simp] theorem s_retN : evS sub C .retN ρ h = .ret .non h := by rw [evS]
@[simp] theorem s_ite (c : E) (a b : Ss) : evS sub C (.ite c a b) ρ h = bindE (evE C c ρ h) ρ (kIf sub C a b ρ) := by
  rw [evS]; congr 1; funext d h; cases d <;> first | rfl | skip
  rename_i b; cases b <;> rfl
@[simp] theorem s_raise (c : Nat) : evS sub C (.raise c) ρ h = .exc c [] ρ h := by rw [evS]
@[simp] theorem s_pass : evS sub C .pass ρ h = .nx ρ h := by rw [evS]
@[simp] theorem s_brk : evS sub C .brk ρ h = .bk ρ h := by rw [evS]
@[simp] theorem s_cont : evS sub C .cont ρ h = .ct ρ h := by rw [evS]
@[simp] theorem s_wipe (is : List Nat) : evS sub C (.wipe is) ρ h = .nx (wipeE ρ is) h := by rw [evS]
@[simp] theorem s_freeze (i : Nat) : evS sub C (.freeze i) ρ h = fzK ρ[i]? i ρ h := by rw [evS]; rfl
theorem s_wh (c : E) (b : Ss) : evS sub C (.wh c b) ρ h = whE (fun ρ h => evE C c ρ h) (fun ρ h => evSs sub C b ρ h) ρ h := by rw [evS]
theorem s_fr (t : Tg) (i : It) (b : Ss) : evS sub C (.fr t i b) ρ h = bindE (evIt C i ρ h) ρ fun p h => frE p.2 t (fun ρ h => evSs sub C b ρ h) p.1 ρ h := by rw [evS]
@[simp] theorem s_tr (b : Ss) (hs : Hs) : evS sub C (.tr b hs) ρ h = trK sub C hs (evSs sub C b ρ h) := by
  rw [evS]; unfold trK; cases evSs sub C b ρ h <;> rfl
@[simp] theorem hs_nil (c : Nat) (pl : List D) : evHs sub C c pl .nil ρ h = .exc c pl ρ h := by rw [evHs]
theorem hs_cons (c : Nat) (pl : List D) (c2 : Nat) (b : Ss) (hs : Hs) : evHs sub C c pl (.cons c2 b hs) ρ h = if sub c c2 = true then evSs sub C b ρ h else evHs sub C c pl hs ρ h := by rw [evHs]
end
@[simp] theorem asgT_v (i : Nat) (d : D) (ρ : Env) : asgT (.v i) d ρ = if i < ρ.length then some (ρ.set i (some d)) else none := by rw [asgT]
@[simp] theorem asgT_t (ts : Tgs) (ds : List D) (ρ : Env) : asgT (.t ts) (.tup ds) ρ = asgT.asgTs ts ds ρ := by rw [asgT]
@[simp] theorem asgTs_n (ρ : Env) : asgT.asgTs .nil [] ρ = some ρ := by rw [asgT.asgTs]
@[simp] theorem asgTs_c (t : Tg) (ts : Tgs) (d : D) (ds : List D) (ρ : Env) : asgT.asgTs (.cons t ts) (d :: ds) ρ = (asgT t d ρ).bind fun ρ' => asgT.asgTs ts ds ρ' := by rw [asgT.asgTs]
@[simp] theorem wipeE_n (ρ : Env) : wipeE ρ [] = ρ := Eq.trans rfl rfl
@[simp] theorem wipeE_c (ρ : Env) (v : Nat) (vs : List Nat) : wipeE ρ (v :: vs) = (wipeE ρ vs).set v none := Eq.trans rfl rfl
/-! views -/
def vwO (n : Nat) (o : Option LO) : D := match o with
  | some (.lst xs) => .lst xs
  | some (.dic kvs) => .dic (kvs.map (·.1)) (kvs.map (·.2))
  | _ => .ref n
@[simp] theorem vwO_l (n : Nat) (xs : List D) : vwO n (some (.lst xs)) = .lst xs := Eq.trans rfl rfl
@[simp] theorem vwO_d (n : Nat) (kvs : List (D × D)) : vwO n (some (.dic kvs)) = .dic (kvs.map (·.1)) (kvs.map (·.2)) := Eq.trans rfl rfl
section
variable (h : MH)
@[simp] theorem vw_ref (n : Nat) : vw h (.ref n) = vwO n h[n]? := by
  cases q : h[n]? with
  | none => simp only [vw, vwO, q]
  | some o => cases o <;> simp only [vw, vwO, q]
@[simp] theorem vw_int (i : Int) : vw h (.int i) = .int i := Eq.trans rfl rfl
@[simp] theorem vw_non : vw h .non = .non := Eq.trans rfl rfl
@[simp] theorem vw_bl (b : Bool) : vw h (.bl b) = .bl b := Eq.trans rfl rfl
@[simp] theorem vw_str (s : Str) : vw h (.str s) = .str s := Eq.trans rfl rfl
@[simp] theorem vw_tup (ds : List D) : vw h (.tup ds) = .tup ds := Eq.trans rfl rfl
@[simp] theorem vw_lst (ds : List D) : vw h (.lst ds) = .lst ds := Eq.trans rfl rfl
@[simp] theorem vw_dic (ks vs : List D) : vw h (.dic ks vs) = .dic ks vs := Eq.trans rfl rfl

end
end GM
end
section
set_option Elab.async false
set_option linter.all false
set_option maxRecDepth 100000
namespace GM
open PySem
/-! ### plain data -/
mutual
/-- None, ints, texts, tuples and lists of these -/
def D.sim : D → Bool
  | .non | .int _ | .str _ => true
  | .tup ds | .lst ds => D.sims ds
  | _ => false
def D.sims : List D → Bool
  | [] => true
  | d :: ds => D.sim d && D.sims ds
end
mutual
theorem sim_pl : ∀ d : D, d.sim = true → d.pl = true
  | .non, _ => rfl
  | .bl _, h => nomatch h
  | .int _, _ => rfl
  | .str _, _ => rfl
  | .tup ds, h => by rw [D.pl]; exact sims_pls ds (by simpa [D.sim] using h)
  | .lst ds, h => by rw [D.pl]; exact sims_pls ds (by simpa [D.sim] using h)
  | .dic _ _, h => nomatch h
  | .set _, h => nomatch h
  | .ref _, h => nomatch h
  | .fn _, h => nomatch h
  | .clo _ _, h => nomatch h
theorem sims_pls : ∀ ds : List D, D.sims ds = true → D.pls ds = true
  | [], _ => rfl
  | d :: ds, h => by
    rw [D.sims, Bool.and_eq_true] at h
    rw [D.pls, sim_pl d h.1, sims_pls ds h.2]; rfl
end
mutual
theorem pl_nr (k : Nat) : ∀ d : D, d.pl = true → D.nr k d = true
  | .non, _ => rfl
  | .bl _, h => rfl
  | .int _, _ => rfl
  | .str _, _ => rfl
  | .tup ds, h => by rw [D.nr]; exact pls_nrs k ds (by simpa [D.pl] using h)
  | .lst ds, h => by rw [D.nr]; exact pls_nrs k ds (by simpa [D.pl] using h)
  | .dic _ _, h => nomatch h
  | .set _, h => nomatch h
  | .ref _, h => nomatch h
  | .fn _, h => nomatch h
  | .clo _ _, h => nomatch h
theorem pls_nrs (k : Nat) : ∀ ds : List D, D.pls ds = true → D.nrs k ds = true
  | [], _ => rfl
  | d :: ds, h => by
    rw [D.pls, Bool.and_eq_true] at h
    rw [D.nrs, pl_nr k d h.1, pls_nrs k ds h.2]; rfl
end
mutual
theorem eqv_sim : ∀ a b : D, a.sim = true → b.sim = true → D.eqv a b = decide (a = b)
  | .non, b, _, hb => by cases b <;> simp_all [D.eqv, D.py, PyData.eqv, D.sim]
  | .int i, b, _, hb => by cases b <;> simp_all [D.eqv, D.py, PyData.eqv, D.sim, Bool.beq_eq_decide_eq]
  | .str s, b, _, hb => by cases b <;> simp_all [D.eqv, D.py, PyData.eqv, D.sim, Bool.beq_eq_decide_eq]
  | .tup ds, b, ha, hb => by
    cases b <;> simp_all [D.eqv, D.py, PyData.eqv, D.sim]
    exact eqvs_sim ds _ ha hb
  | .lst ds, b, ha, hb => by
    cases b <;> simp_all [D.eqv, D.py, PyData.eqv, D.sim]
    exact eqvs_sim ds _ ha hb
  | .bl _, _, h, _ => nomatch h
  | .dic _ _, _, h, _ => nomatch h
  | .set _, _, h, _ => nomatch h
  | .ref _, _, h, _ => nomatch h
  | .fn _, _, h, _ => nomatch h
  | .clo _ _, _, h, _ => nomatch h
theorem eqvs_sim : ∀ a b : List D, D.sims a = true → D.sims b = true → PyData.eqvAll (D.pys a) (D.pys b) = decide (a = b)
  | [], b, _, _ => by cases b <;> simp [D.pys, PyData.eqvAll]
  | a :: as, b, ha, hb => by
    cases b with
    | nil => simp [D.pys, PyData.eqvAll]
    | cons b bs =>
      rw [D.sims, Bool.and_eq_true] at ha hb
      have e1 := eqv_sim a b ha.1 hb.1
      have e2 := eqvs_sim as bs ha.2 hb.2
      unfold D.eqv at e1
      rw [D.pys, D.pys, PyData.eqvAll, e1, e2]
      simp
end
/-- plain and not deep -/
def PU (n : Nat) (d : D) : Prop := d.sim = true ∧ d.dep ≤ n
def PUs (n : Nat) (ds : List D) : Prop := D.sims ds = true ∧ D.deps ds ≤ n
section
variable (n : Nat)
@[simp] theorem PU_int (i : Int) : PU n (.int i) := ⟨rfl, Nat.zero_le _⟩
@[simp] theorem PU_str (s : Str) : PU n (.str s) := ⟨rfl, Nat.zero_le _⟩
@[simp] theorem PU_non : PU n .non := ⟨rfl, Nat.zero_le _⟩
@[simp] theorem PU_tup (ds : List D) : PU (n + 1) (.tup ds) ↔ PUs n ds := by simp [PU, PUs, D.sim, D.dep]
@[simp] theorem PU_lst (ds : List D) : PU (n + 1) (.lst ds) ↔ PUs n ds := by simp [PU, PUs, D.sim, D.dep]
@[simp] theorem PUs_nil : PUs n [] := ⟨rfl, Nat.zero_le _⟩
@[simp] theorem PUs_cons (d : D) (ds : List D) : PUs n (d :: ds) ↔ PU n d ∧ PUs n ds := by
  simp only [PU, PUs, D.sims, D.deps, Bool.and_eq_true]
  constructor
  · rintro ⟨⟨a, b⟩, c⟩; exact ⟨⟨a, by omega⟩, b, by omega⟩
  · rintro ⟨⟨a, b⟩, c, d⟩; exact ⟨⟨a, c⟩, by omega⟩
theorem PUs_all : ∀ ds : List D, PUs n ds ↔ ∀ d ∈ ds, PU n d
  | [] => by simp
  | d :: ds => by simp [PUs_all ds]
@[simp] theorem PUs_map {α : Type} (f : α → D) (xs : List α) : PUs n (xs.map f) ↔ ∀ x ∈ xs, PU n (f x) := by rw [PUs_all]; simp
@[simp] theorem PUs_app (as bs : List D) : PUs n (as ++ bs) ↔ PUs n as ∧ PUs n bs := by
  simp only [PUs_all, List.mem_append]
  exact ⟨fun h => ⟨fun d q => h d (.inl q), fun d q => h d (.inr q)⟩, fun h d q => q.elim (h.1 d) (h.2 d)⟩
end
theorem PU.mono {n m : Nat} {d : D} (h : PU n d) (l : n ≤ m) : PU m d := ⟨h.1, Nat.le_trans h.2 l⟩
theorem PU.pl {n : Nat} {d : D} (h : PU n d) : d.pl = true := sim_pl d h.1
theorem PUs.pls {n : Nat} {d : List D} (h : PUs n d) : D.pls d = true := sims_pls d h.1
theorem PU.nr {n k : Nat} {d : D} (h : PU n d) : D.nr k d = true := pl_nr k d h.pl
theorem PUs.nrs {n k : Nat} {d : List D} (h : PUs n d) : D.nrs k d = true := pls_nrs k d h.pls
theorem PU.cmp {a b : D} (ha : PU 100 a) (hb : PU 100 b) : cmpOk a b = true := by
  unfold cmpOk
  rw [ha.pl, hb.pl]
  simp only [Bool.true_and, Bool.and_eq_true, decide_eq_true_eq]
  exact ⟨Nat.le_trans ha.2 (by decide), Nat.le_trans hb.2 (by decide)⟩
@[simp] theorem cmp_eq {a b : D} (ha : PU 100 a) (hb : PU 100 b) : opCmp .eq a b = some (decide (a = b)) := by
  rw [opCmp, if_pos (ha.cmp hb), eqv_sim a b ha.1 hb.1]
@[simp] theorem cmp_ne {a b : D} (ha : PU 100 a) (hb : PU 100 b) : opCmp .ne a b = some (decide (a ≠ b)) := by
  rw [opCmp, if_pos (ha.cmp hb), eqv_sim a b ha.1 hb.1]; simp
theorem cmp_bl (a b : Bool) : opCmp .eq (.bl a) (.bl b) = some (decide (a = b)) := by
  rw [opCmp, if_pos (by simp [cmpOk, D.pl, D.dep])]; cases a <;> cases b <;> rfl
theorem any_eqv {a : D} {n : Nat} (ha : PU n a) : ∀ {xs : List D}, PUs n xs → (xs.any fun x => D.eqv x a) = decide (a ∈ xs)
  | [], _ => rfl
  | x :: xs, h => by
    rw [PUs_cons] at h
    rw [List.any_cons, any_eqv ha h.2, eqv_sim x a h.1.1 ha.1]
    simp only [List.mem_cons, eq_comm (a := x)]
    by_cases q : a = x <;> simp [q]
theorem PUs.cmpL {a : D} {xs : List D} (ha : PU 99 a) (hb : PUs 99 xs) : cmpOk a (.lst xs) = true := PU.cmp (ha.mono (by decide)) (by simpa using hb)
@[simp] theorem cmp_inL {a : D} {xs : List D} (ha : PU 99 a) (hb : PUs 99 xs) : opCmp .isIn a (.lst xs) = some (decide (a ∈ xs)) := by
  rw [opCmp, if_pos (PUs.cmpL ha hb), any_eqv ha hb]
@[simp] theorem cmp_niL {a : D} {xs : List D} (ha : PU 99 a) (hb : PUs 99 xs) : opCmp .notIn a (.lst xs) = some (decide (a ∉ xs)) := by
  rw [opCmp, if_pos (PUs.cmpL ha hb), any_eqv ha hb]; simp
@[simp] theorem cmp_inT {a : D} {xs : List D} (ha : PU 99 a) (hb : PUs 99 xs) : opCmp .isIn a (.tup xs) = some (decide (a ∈ xs)) := by
  rw [opCmp, if_pos (PU.cmp (ha.mono (by decide)) (by simpa using hb)), any_eqv ha hb]
@[simp] theorem cmp_niT {a : D} {xs : List D} (ha : PU 99 a) (hb : PUs 99 xs) : opCmp .notIn a (.tup xs) = some (decide (a ∉ xs)) := by
  rw [opCmp, if_pos (PU.cmp (ha.mono (by decide)) (by simpa using hb)), any_eqv ha hb]; simp
@[simp] theorem cmp_inD {a : D} {ks vs : List D} (k : keyFits ks a = true) : opCmp .isIn a (.dic ks vs) = some (decide (a ∈ ks)) := by rw [opCmp, if_pos k]
@[simp] theorem cmp_niD {a : D} {ks vs : List D} (k : keyFits ks a = true) : opCmp .notIn a (.dic ks vs) = some (decide (a ∉ ks)) := by rw [opCmp, if_pos k]; simp
@[simp] theorem cmp_isN (a : D) : opCmp .isN a .non = some (decide (a = .non)) := by cases a <;> rfl
@[simp] theorem cmp_isNN (a : D) : opCmp .isNotN a .non = some (decide (a ≠ .non)) := by cases a <;> first | rfl | (simp [opCmp])
theorem alk_int (a b : Int) : D.alk (.int a) (.int b) = true := by simp [D.alk, D.py, PySem.W.alike]
theorem ltv_int (a b : Int) : D.ltv (.int a) (.int b) = decide (a < b) := by simp [D.ltv, D.py, PySem.W.dataLt_int]
theorem alk_str (a b : Str) : D.alk (.str a) (.str b) = true := by simp [D.alk, D.py, PySem.W.alike]
theorem ltv_str (a b : Str) : D.ltv (.str a) (.str b) = decide (a.cps.toList < b.cps.toList) := by simp [D.ltv, D.py, PySem.W.dataLt_str]
@[simp] theorem lt_int (a b : Int) : opCmp .lt (.int a) (.int b) = some (decide (a < b)) := by
  rw [opCmp, if_pos ⟨PU.cmp (by simp) (by simp), alk_int a b, by simp⟩, ltv_int]
@[simp] theorem gt_int (a b : Int) : opCmp .gt (.int a) (.int b) = some (decide (b < a)) := by
  rw [opCmp, if_pos ⟨PU.cmp (by simp) (by simp), alk_int a b, by simp⟩, ltv_int]
@[simp] theorem le_int (a b : Int) : opCmp .le (.int a) (.int b) = some (decide (a ≤ b)) := by
  rw [opCmp, if_pos ⟨PU.cmp (by simp) (by simp), alk_int a b, by simp⟩, ltv_int]; simp [← decide_not]
@[simp] theorem ge_int (a b : Int) : opCmp .ge (.int a) (.int b) = some (decide (b ≤ a)) := by
  rw [opCmp, if_pos ⟨PU.cmp (by simp) (by simp), alk_int a b, by simp⟩, ltv_int]; simp [← decide_not]
@[simp] theorem lt_str (a b : Str) : opCmp .lt (.str a) (.str b) = some (decide (a.cps.toList < b.cps.toList)) := by
  rw [opCmp, if_pos ⟨PU.cmp (by simp) (by simp), alk_str a b, by simp⟩, ltv_str]
/-! ints -/
@[simp] theorem nc_inj (a b : Nat) : ((a : Int) = (b : Int)) ↔ a = b := by omega
@[simp] theorem nc_lt (a b : Nat) : ((a : Int) < (b : Int)) ↔ a < b := by omega
@[simp] theorem nc_le (a b : Nat) : ((a : Int) ≤ (b : Int)) ↔ a ≤ b := by omega
/-- a number as data -/
abbrev dN (n : Nat) : D := .int (n : Int)
@[simp] theorem dN_inj (a b : Nat) : (D.int (a : Int) = D.int (b : Int)) ↔ a = b := by rw [D.int.injEq]; omega
@[simp] theorem bin_add (i j : Int) : opBin .add (.int i) (.int j) = some (.int (i + j)) := Eq.trans rfl rfl
@[simp] theorem bin_sub (i j : Int) : opBin .sub (.int i) (.int j) = some (.int (i - j)) := Eq.trans rfl rfl
theorem bin_mul {i j : Int} (h : smallI i = true ∨ smallI j = true) : opBin .mul (.int i) (.int j) = some (.int (i * j)) := by rw [opBin, if_pos (by simpa using h)]
theorem bin_mod {i j : Int} (h : j ≠ 0) : opBin .mod (.int i) (.int j) = some (.int (i.fmod j)) := by rw [opBin, if_pos h]
theorem bin_fdiv {i j : Int} (h : j ≠ 0) (h2 : j.natAbs < 1073741824) : opBin .fdiv (.int i) (.int j) = some (.int (i.fdiv j)) := by rw [opBin, if_pos ⟨h, h2⟩]
theorem small_of {a : Int} (h1 : -(2 ^ 64) < a) (h2 : a < 2 ^ 64) : smallI a = true := by simp only [smallI, Bool.and_eq_true, decide_eq_true_eq]; exact ⟨h1, h2⟩
theorem bin_tup {a b : List D} (h : a.length + b.length ≤ 1000000) : opBin .add (.tup a) (.tup b) = some (.tup (a ++ b)) := by rw [opBin, if_pos h]
theorem bin_lst {a b : List D} (h : a.length + b.length ≤ 1000000) : opBin .add (.lst a) (.lst b) = some (.lst (a ++ b)) := by rw [opBin, if_pos h]
theorem bin_str {a b : Str} (h : a.length + b.length ≤ 10000) : opBin .add (.str a) (.str b) = some (.str (a ++ b)) := by rw [opBin, if_pos h]
/-! indices -/
@[simp] theorem idx_lst (xs : List D) (i : Int) : opIdx (.lst xs) (.int i) = atO xs i := Eq.trans rfl rfl
@[simp] theorem idx_tup (xs : List D) (i : Int) : opIdx (.tup xs) (.int i) = atO xs i := Eq.trans rfl rfl
@[simp] theorem atO_nat {α : Type} (xs : List α) (i : Nat) : atO xs (i : Int) = xs[i]? := by
  unfold atO ixO
  by_cases h : i < xs.length
  · simp [h]
  · simp [h, List.getElem?_eq_none (Nat.le_of_not_lt h)]
@[simp] theorem atO_natS {α : Type} (xs : List α) (i : Nat) : atO xs ((i : Int) + 1) = xs[i + 1]? := atO_nat xs (i + 1)
@[simp] theorem atO_0 {α : Type} (x : α) (xs : List α) : atO (x :: xs) 0 = some x := atO_nat (x :: xs) 0
@[simp] theorem atO_1 {α : Type} (x y : α) (xs : List α) : atO (x :: y :: xs) 1 = some y := atO_nat (x :: y :: xs) 1
@[simp] theorem atO_2 {α : Type} (x y z : α) (xs : List α) : atO (x :: y :: z :: xs) 2 = some z := atO_nat (x :: y :: z :: xs) 2
@[simp] theorem atO_3 {α : Type} (x y z u : α) (xs : List α) : atO (x :: y :: z :: u :: xs) 3 = some u := atO_nat (x :: y :: z :: u :: xs) 3
@[simp] theorem atO_4 {α : Type} (x y z u v : α) (xs : List α) : atO (x :: y :: z :: u :: v :: xs) 4 = some v := atO_nat (x :: y :: z :: u :: v :: xs) 4
@[simp] theorem ixO_nat {n i : Nat} (h : i < n) : ixO n (i : Int) = some i := by simp [ixO, h]
@[simp] theorem ixO_0 {n : Nat} : ixO (n + 1) 0 = some 0 := ixO_nat (i := 0) (Nat.succ_pos n)
@[simp] theorem ixO_1 {n : Nat} : ixO (n + 2) 1 = some 1 := ixO_nat (i := 1) (by omega)
@[simp] theorem ixO_2 {n : Nat} : ixO (n + 3) 2 = some 2 := ixO_nat (i := 2) (by omega)
theorem atO_of {α : Type} {xs : List α} {k : Int} (h0 : 0 ≤ k) (h1 : k < xs.length) : ∃ a ∈ xs, atO xs k = some a := by
  obtain ⟨n, rfl⟩ := Int.eq_ofNat_of_zero_le h0
  have h : n < xs.length := by omega
  exact ⟨xs[n], List.getElem_mem h, by rw [atO_nat, List.getElem?_eq_getElem h]⟩
@[simp] theorem slc_tail (x : D) (xs : List D) : opSlc (.tup (x :: xs)) (some 1) none = some (.tup xs) := by
  simp [opSlc, cut, sIx]
/-! built-ins -/
@[simp] theorem bi_lenL (xs : List D) : opBi .len [.lst xs] = some (.int xs.length) := Eq.trans rfl rfl
@[simp] theorem bi_lenT (xs : List D) : opBi .len [.tup xs] = some (.int xs.length) := Eq.trans rfl rfl
@[simp] theorem bi_lenD (ks vs : List D) : opBi .len [.dic ks vs] = some (.int ks.length) := Eq.trans rfl rfl
@[simp] theorem bi_tupL (xs : List D) : opBi .tuple [.lst xs] = some (.tup xs) := Eq.trans rfl rfl
@[simp] theorem bi_tupT (xs : List D) : opBi .tuple [.tup xs] = some (.tup xs) := Eq.trans rfl rfl
@[simp] theorem bi_intB (b : Bool) : opBi .int [.bl b] = some (.int (if b then 1 else 0)) := Eq.trans rfl rfl
@[simp] theorem bi_intI (i : Int) : opBi .int [.int i] = some (.int i) := Eq.trans rfl rfl
@[simp] theorem bi_max (i j : Int) : opBi .max2 [.int i, .int j] = some (.int (if j > i then j else i)) := Eq.trans rfl rfl
@[simp] theorem bi_min (i j : Int) : opBi .min2 [.int i, .int j] = some (.int (if j < i then j else i)) := Eq.trans rfl rfl
theorem bls_map {α : Type} (f : α → Bool) : ∀ xs : List α, D.bls (xs.map fun x => .bl (f x)) = some (xs.map f)
  | [] => rfl
  | x :: xs => by rw [List.map_cons, D.bls, bls_map f xs]; rfl
@[simp] theorem bi_all {α : Type} (f : α → Bool) (xs : List α) : opBi .all [.lst (xs.map fun x => .bl (f x))] = some (.bl (xs.all f)) := by
  rw [opBi, bls_map]; simp [List.all_map, Function.comp_def]
@[simp] theorem bi_any {α : Type} (f : α → Bool) (xs : List α) : opBi .any [.lst (xs.map fun x => .bl (f x))] = some (.bl (xs.any f)) := by
  rw [opBi, bls_map]; simp [List.any_map, Function.comp_def]
theorem ints_map {α : Type} (f : α → Int) : ∀ xs : List α, D.ints (xs.map fun x => .int (f x)) = some (xs.map f)
  | [] => rfl
  | x :: xs => by rw [List.map_cons, D.ints, ints_map f xs]; rfl
@[simp] theorem bi_sum {α : Type} (f : α → Int) (xs : List α) : opBi .sum [.lst (xs.map fun x => .int (f x))] = some (.int (xs.map f).sum) := by
  rw [opBi, ints_map]; rfl
@[simp] theorem items_l (h : MH) (xs : List D) : itemsOf h (.lst xs) = some (xs, none) := Eq.trans rfl rfl
@[simp] theorem items_t (h : MH) (xs : List D) : itemsOf h (.tup xs) = some (xs, none) := Eq.trans rfl rfl
@[simp] theorem items_d (h : MH) (ks vs : List D) : itemsOf h (.dic ks vs) = some (ks, none) := Eq.trans rfl rfl
@[simp] theorem items_s (h : MH) (s : Str) : itemsOf h (.str s) = some (s.cps.toList.map fun c => .str ⟨#[c]⟩, none) := Eq.trans rfl rfl
theorem items_r {h : MH} {n : Nat} {xs : List D} (e : h[n]? = some (.lst xs)) : itemsOf h (.ref n) = some (xs, some (n, xs)) := by simp only [itemsOf, e]
@[simp] theorem isa_tt (ds : List D) : isaB .tuple (.tup ds) = true := Eq.trans rfl rfl
@[simp] theorem isa_ii (i : Int) : isaB .int (.int i) = true := Eq.trans rfl rfl
@[simp] theorem isa_bi (i : Int) : isaB .bool (.int i) = false := Eq.trans rfl rfl
@[simp] theorem isa_ss (i : Str) : isaB .str (.str i) = true := Eq.trans rfl rfl
@[simp] theorem isa_bb (i : Bool) : isaB .bool (.bl i) = true := Eq.trans rfl rfl
@[simp] theorem isa_tl (ds : List D) : isaB .tuple (.lst ds) = false := Eq.trans rfl rfl
@[simp] theorem isa_ll (ds : List D) : isaB .list (.lst ds) = true := Eq.trans rfl rfl
@[simp] theorem isa_si (i : Int) : isaB .str (.int i) = false := Eq.trans rfl rfl
@[simp] theorem isa_st (i : List D) : isaB .str (.tup i) = false := Eq.trans rfl rfl
@[simp] theorem isa_it (i : List D) : isaB .int (.tup i) = false := Eq.trans rfl rfl
@[simp] theorem isa_is (i : Str) : isaB .int (.str i) = false := Eq.trans rfl rfl
@[simp] theorem op_isa {t : Ty} {d : D} (h : PU 100 d) : opIsa t d = some (isaB t d) := by rw [opIsa, if_pos h.pl]
theorem op_isa_bl (t : Ty) (b : Bool) : opIsa t (.bl b) = some (isaB t (.bl b)) := rfl
/-! heaps -/
section
variable (h : MH)
@[simp high] theorem hp_get (L : MH) (k : Nat) : (h ++ L)[h.length + k]? = L[k]? := by rw [List.getElem?_append_right (Nat.le_add_right _ _), Nat.add_sub_cancel_left]
@[simp high] theorem hp_get0 (L : MH) : (h ++ L)[h.length]? = L[0]? := hp_get h L 0
@[simp] theorem hp_set (L : MH) (k : Nat) (o : LO) : (h ++ L).set (h.length + k) o = h ++ L.set k o := by rw [List.set_append_right _ _ (Nat.le_add_right _ _), Nat.add_sub_cancel_left]
@[simp] theorem hp_set0 (L : MH) (o : LO) : (h ++ L).set h.length o = h ++ L.set 0 o := hp_set h L 0 o
theorem hp_cut : ∀ (h L : MH) (k : Nat), cutOk k h (h ++ L) = true
  | [], _, _ => rfl
  | o :: h, L, k => by rw [List.cons_append, cutOk, hp_cut h L k]; simp
def D.isRef : D → Bool
  | .ref _ => true
  | _ => false
theorem pl_ref {d : D} (p : d.pl = true) : d.isRef = false := by cases d <;> first | rfl | exact nomatch p
theorem frzD_val {k f : Nat} {d : D} {h : MH} (nr : D.nr k d = true) (hr : d.isRef = false) : frzD k (f + 1) d h = some (d, h) := by
  cases d <;> first | (simp [D.isRef] at hr; done) | (simp only [frzD, nr, if_true])
theorem frzL_pl {k f : Nat} {h : MH} : ∀ {ds : List D}, D.pls ds = true → frzL (frzD k (f + 1)) ds h = some (ds, h)
  | [], _ => rfl
  | d :: ds, n => by
    simp only [D.pls, Bool.and_eq_true] at n
    rw [frzL, frzD_val (pl_nr k d n.1) (pl_ref n.1)]
    simp only [frzL_pl n.2, Option.map_some]
theorem exit_p {h L : MH} {live : Bool} {d : D} (p : D.nr h.length d = true) (r : d.isRef = false) : exit1 live false h d (h ++ L) = .ok d h := by
  unfold exit1
  by_cases e : L = []
  · subst e; simp
  · rw [if_neg (by simp [e]), if_pos (hp_cut _ _ _), List.take_left]
    cases live
    · rw [if_neg (by simp), frzN, frzD_val p r]
    · rw [if_pos rfl]
      cases d <;> first | (simp [D.isRef] at r; done) | (simp only [p, if_true])
theorem exit_l {h L : MH} {k : Nat} {xs : List D} (e : L[k]? = some (.lst xs)) (p : D.pls xs = true) : exit1 false false h (.ref (h.length + k)) (h ++ L) = .ok (.lst xs) h := by
  unfold exit1
  have l : k < L.length := (List.getElem?_eq_some_iff.mp e).1
  rw [if_neg (by simp; intro q; subst q; simp at l), if_pos (hp_cut _ _ _), List.take_left, if_neg (by simp), frzN, frzD, if_neg (by omega), hp_get, e]
  simp only [frzL_pl p, Option.map_some]
theorem exit_d {h L : MH} {k : Nat} {kvs : List (D × D)} (e : L[k]? = some (.dic kvs)) (p : D.nrs h.length (kvs.map (·.1)) = true) (q : D.pls (kvs.map (·.2)) = true) : exit1 false false h (.ref (h.length + k)) (h ++ L) = .ok (.dic (kvs.map (·.1)) (kvs.map (·.2))) h := by
  unfold exit1
  have l : k < L.length := (List.getElem?_eq_some_iff.mp e).1
  rw [if_neg (by simp; intro q; subst q; simp at l), if_pos (hp_cut _ _ _), List.take_left, if_neg (by simp), frzN, frzD, if_neg (by omega), hp_get, e]
  simp only [p, frzL_pl q, Option.map_some, if_true]
theorem exit_live {h L : MH} {k : Nat} {xs : List D} (e : L[k]? = some (.lst xs)) (p : D.nrs h.length xs = true) : exit1 true false h (.ref (h.length + k)) (h ++ L) = .ok (.ref h.length) (h ++ [.lst xs]) := by
  unfold exit1
  have l : k < L.length := (List.getElem?_eq_some_iff.mp e).1
  rw [if_neg (by simp; intro q; subst q; simp at l), if_pos (hp_cut _ _ _), List.take_left, if_pos rfl]
  simp only [hp_get, e, p, if_true]
  rw [if_neg (by omega)]
end
end GM
end
section
set_option Elab.async false
set_option linter.all false
set_option maxRecDepth 100000
namespace GM
open PySem
theorem srcN (h : MH) : srcOk none h := trivial
/-! ### the well: one live list at i; the rest stands -/
def WOk (w : List D) : Prop := ∃ a b c : Int, w = [.int a, .int b, .int c] ∧ 0 < c ∧ c < 2 ^ 32 ∧ 0 ≤ b ∧ b < 2 ^ 63
/-- h with the well w at i, and new objects behind it -/
def HW (h : MH) (i : Nat) (w : List D) (L : MH) : MH := h.set i (.lst w) ++ L
section
variable {h : MH} {i : Nat} (w : List D) (L : MH)
theorem hw_len : (HW h i w L).length = h.length + L.length := by simp [HW]
@[simp high] theorem hw_i (hi : i < h.length) : (HW h i w L)[i]? = some (.lst w) := by
  unfold HW; rw [List.getElem?_append_left (by simpa using hi), List.getElem?_set_self hi]
@[simp high] theorem hw_get (k : Nat) : (HW h i w L)[h.length + k]? = L[k]? := by
  unfold HW
  have := hp_get (h.set i (.lst w)) L k
  rwa [List.length_set] at this
@[simp high] theorem hw_get0 : (HW h i w L)[h.length]? = L[0]? := hw_get w L 0
theorem hw_old {j : Nat} (hj : j < h.length) (hn : j ≠ i) : (HW h i w L)[j]? = h[j]? := by
  unfold HW; rw [List.getElem?_append_left (by simpa using hj), List.getElem?_set_ne hn.symm]
@[simp] theorem hw_app (M : MH) : HW h i w L ++ M = HW h i w (L ++ M) := by simp [HW]
@[simp] theorem hw_set_i (hi : i < h.length) (w' : List D) : (HW h i w L).set i (.lst w') = HW h i w' L := by
  unfold HW; rw [List.set_append_left _ _ (by simpa using hi), List.set_set]
@[simp] theorem hw_set (k : Nat) (o : LO) (hi : i < h.length) : (HW h i w L).set (h.length + k) o = HW h i w (L.set k o) := by
  unfold HW
  have := hp_set (h.set i (.lst w)) L k o
  rwa [List.length_set] at this
@[simp] theorem hw_set0 (o : LO) (hi : i < h.length) : (HW h i w L).set h.length o = HW h i w (L.set 0 o) := hw_set w L 0 o hi
@[simp] theorem hw_hw (hi : i < h.length) (w' : List D) (M : MH) : HW (HW h i w L) i w' M = HW h i w' (L ++ M) := by
  show (HW h i w L).set i (.lst w') ++ M = _
  rw [hw_set_i w L hi, hw_app]
@[simp] theorem hw_self {w : List D} (e : h[i]? = some (.lst w)) : HW h i w [] = h := by
  unfold HW
  rw [List.append_nil]
  apply List.ext_getElem?
  intro j
  by_cases q : i = j
  · subst q; rw [List.getElem?_set_self (List.getElem?_eq_some_iff.mp e).1, e]
  · rw [List.getElem?_set_ne q]
@[simp] theorem hw_take (L : MH) : (HW h i w L).take h.length = HW h i w [] := by
  unfold HW; rw [List.take_append_of_le_length (by simp), List.take_of_length_le (by simp), List.append_nil]
theorem hw_cut {w : List D} (p : D.pls w = true) (hi : i < h.length) : cutOk h.length h (HW h i w L) = true := by
  have key : ∀ (h : MH) (i k : Nat), cutOk k h (h.set i (.lst w) ++ L) = true := by
    intro h
    induction h with
    | nil => intro i k; rfl
    | cons o h ih =>
      intro i k
      cases i with
      | zero =>
        rw [List.set_cons_zero, List.cons_append, cutOk, hp_cut h L k]
        simp [LO.nr, pls_nrs k w p]
      | succ i =>
        rw [List.set_cons_succ, List.cons_append, cutOk, ih i k]
        simp
  exact key h i _
end
theorem WOk.pls {w : List D} (k : WOk w) : D.pls w = true := by obtain ⟨a, b, c, rfl, _⟩ := k; rfl
section
variable {h L : MH} {i : Nat} {w : List D} {live : Bool} {d : D}
theorem exitw_p (k : WOk w) (hi : i < h.length) (p : D.nr h.length d = true) (r : d.isRef = false) : exit1 live false h d (HW h i w L) = .ok d (HW h i w []) := by
  unfold exit1
  by_cases e : L = []
  · subst e; rw [if_pos (.inr (by simp [hw_len]))]
  · rw [if_neg (by simp [hw_len, e]), if_pos (hw_cut _ k.pls hi), hw_take]
    cases live
    · rw [if_neg (by simp), frzN, frzD_val p r]
    · rw [if_pos rfl]
      cases d <;> first | (simp [D.isRef] at r; done) | (simp only [p, if_true])
theorem exitw_l {k : Nat} {xs : List D} (kk : WOk w) (hi : i < h.length) (e : L[k]? = some (.lst xs)) (p : D.pls xs = true) : exit1 false false h (.ref (h.length + k)) (HW h i w L) = .ok (.lst xs) (HW h i w []) := by
  unfold exit1
  have l : k < L.length := (List.getElem?_eq_some_iff.mp e).1
  rw [if_neg (by simp [hw_len]; intro q; subst q; simp at l), if_pos (hw_cut _ kk.pls hi), hw_take, if_neg (by simp), frzN, frzD, if_neg (by omega), hw_get, e]
  simp only [frzL_pl p, Option.map_some]
theorem exitw_live {k : Nat} {xs : List D} (kk : WOk w) (hi : i < h.length) (e : L[k]? = some (.lst xs)) (p : D.nrs h.length xs = true) : exit1 true false h (.ref (h.length + k)) (HW h i w L) = .ok (.ref h.length) (HW h i w [.lst xs]) := by
  unfold exit1
  have l : k < L.length := (List.getElem?_eq_some_iff.mp e).1
  rw [if_neg (by simp [hw_len]; intro q; subst q; simp at l), if_pos (hw_cut _ kk.pls hi), hw_take, if_pos rfl]
  simp only [hw_get, e, p, if_true]
  rw [if_neg (by omega), hw_app]; rfl
end
/-! ### a def, from its body -/
section
variable {sub : Nat → Nat → Bool} {prog : Nat → Option FD} {n f : Nat} {fd : FD} {as : List D} {h L : MH}
theorem run_of (hp : prog f = some fd) (hl : as.length = fd.np) (hle : fd.np ≤ fd.nl) :
    run sub prog (n + 1) f as h = exitF fd h (evSs sub (run sub prog n) fd.body (as.map some ++ List.replicate (fd.nl - fd.np) none) h) := by
  simp only [run, hp]
  rw [if_pos ⟨hl, hle⟩]
theorem def_p (hp : prog f = some fd) (hl : as.length = fd.np) (hle : fd.np ≤ fd.nl) (hk : fd.keep = false) {d : D}
    (b : evSs sub (run sub prog n) fd.body (as.map some ++ List.replicate (fd.nl - fd.np) none) h = .ret d (h ++ L)) (p : d.pl = true) : run sub prog (n + 1) f as h = .ok d h := by
  rw [run_of hp hl hle, b]
  show exit1 fd.live fd.keep h d (h ++ L) = _
  rw [hk, exit_p (pl_nr _ d p) (pl_ref p)]
theorem def_n (hp : prog f = some fd) (hl : as.length = fd.np) (hle : fd.np ≤ fd.nl) (hk : fd.keep = false) {ρ : Env}
    (b : evSs sub (run sub prog n) fd.body (as.map some ++ List.replicate (fd.nl - fd.np) none) h = .nx ρ (h ++ L)) : run sub prog (n + 1) f as h = .ok .non h := by
  rw [run_of hp hl hle, b]
  show exit1 fd.live fd.keep h .non (h ++ L) = _
  rw [hk, exit_p rfl rfl]
theorem def_x (hp : prog f = some fd) (hl : as.length = fd.np) (hle : fd.np ≤ fd.nl) (hk : fd.keep = false) {c : Nat} {pl : List D} {ρ : Env}
    (b : evSs sub (run sub prog n) fd.body (as.map some ++ List.replicate (fd.nl - fd.np) none) h = .exc c pl ρ (h ++ L)) : run sub prog (n + 1) f as h = .exc c pl h := by
  rw [run_of hp hl hle, b]
  show (if fd.keep = true ∨ (h ++ L).length = h.length then R.exc c pl (h ++ L) else if cutOk h.length h (h ++ L) = true then R.exc c pl ((h ++ L).take h.length) else .bad) = _
  by_cases e : L = []
  · subst e; rw [if_pos (.inr (by simp)), List.append_nil]
  · rw [if_neg (by simp [e, hk]), if_pos (hp_cut _ _ _), List.take_left]
theorem def_l (hp : prog f = some fd) (hl : as.length = fd.np) (hle : fd.np ≤ fd.nl) (hk : fd.keep = false) (hv : fd.live = false) {k : Nat} {xs : List D}
    (b : evSs sub (run sub prog n) fd.body (as.map some ++ List.replicate (fd.nl - fd.np) none) h = .ret (.ref (h.length + k)) (h ++ L)) (e : L[k]? = some (.lst xs)) (p : D.pls xs = true) : run sub prog (n + 1) f as h = .ok (.lst xs) h := by
  rw [run_of hp hl hle, b]
  show exit1 fd.live fd.keep h _ (h ++ L) = _
  rw [hk, hv, exit_l e p]
theorem def_d (hp : prog f = some fd) (hl : as.length = fd.np) (hle : fd.np ≤ fd.nl) (hk : fd.keep = false) (hv : fd.live = false) {k : Nat} {kvs : List (D × D)}
    (b : evSs sub (run sub prog n) fd.body (as.map some ++ List.replicate (fd.nl - fd.np) none) h = .ret (.ref (h.length + k)) (h ++ L)) (e : L[k]? = some (.dic kvs)) (p : D.nrs h.length (kvs.map (·.1)) = true) (q : D.pls (kvs.map (·.2)) = true) :
    run sub prog (n + 1) f as h = .ok (.dic (kvs.map (·.1)) (kvs.map (·.2))) h := by
  rw [run_of hp hl hle, b]
  show exit1 fd.live fd.keep h _ (h ++ L) = _
  rw [hk, hv, exit_d e p q]
variable {i : Nat} {w w' : List D}
theorem defw_p (hp : prog f = some fd) (hl : as.length = fd.np) (hle : fd.np ≤ fd.nl) (hk : fd.keep = false) (kk : WOk w') (hi : i < h.length) {d : D}
    (b : evSs sub (run sub prog n) fd.body (as.map some ++ List.replicate (fd.nl - fd.np) none) h = .ret d (HW h i w' L)) (p : d.pl = true) : run sub prog (n + 1) f as h = .ok d (HW h i w' []) := by
  rw [run_of hp hl hle, b]
  show exit1 fd.live fd.keep h d _ = _
  rw [hk, exitw_p kk hi (pl_nr _ d p) (pl_ref p)]
theorem defw_l (hp : prog f = some fd) (hl : as.length = fd.np) (hle : fd.np ≤ fd.nl) (hk : fd.keep = false) (hv : fd.live = false) (kk : WOk w') (hi : i < h.length) {k : Nat} {xs : List D}
    (b : evSs sub (run sub prog n) fd.body (as.map some ++ List.replicate (fd.nl - fd.np) none) h = .ret (.ref (h.length + k)) (HW h i w' L)) (e : L[k]? = some (.lst xs)) (p : D.pls xs = true) : run sub prog (n + 1) f as h = .ok (.lst xs) (HW h i w' []) := by
  rw [run_of hp hl hle, b]
  show exit1 fd.live fd.keep h _ _ = _
  rw [hk, hv, exitw_l kk hi e p]
theorem defw_live (hp : prog f = some fd) (hl : as.length = fd.np) (hle : fd.np ≤ fd.nl) (hk : fd.keep = false) (hv : fd.live = true) (kk : WOk w') (hi : i < h.length) {k : Nat} {xs : List D}
    (b : evSs sub (run sub prog n) fd.body (as.map some ++ List.replicate (fd.nl - fd.np) none) h = .ret (.ref (h.length + k)) (HW h i w' L)) (e : L[k]? = some (.lst xs)) (p : D.pls xs = true) : run sub prog (n + 1) f as h = .ok (.ref h.length) (HW h i w' [.lst xs]) := by
  rw [run_of hp hl hle, b]
  show exit1 fd.live fd.keep h _ _ = _
  rw [hk, hv, exitw_live kk hi e (pls_nrs _ _ p)]
end
/-! ### comprehensions -/
def cK {α : Type} (k : Env → MH → R α) (h : MH) (o : Option Env) : R α := match o with
  | some ρ1 => k ρ1 h
  | none => .bad
@[simp] theorem cK_s {α : Type} (k : Env → MH → R α) (h : MH) (ρ : Env) : cK k h (some ρ) = k ρ h := Eq.trans rfl rfl
section
variable {C : Cal} {ρ : Env} {h : MH} {α : Type} {t : Tg} {it : It} {own : List Nat} {elt : E} {ys : List α} {enc : α → D}
theorem goC_map {β : Type} {f : D → MH → R (List β)} {g : α → List β} {src : Option (Nat × List D)} (hs : srcOk src h) (ys : List α) (st : ∀ y ∈ ys, f (enc y) h = .ok (g y) h) : goC src f (ys.map enc) h = .ok (ys.flatMap g) h := by
  induction ys with
  | nil => rw [List.map_nil, goC, if_pos hs]; rfl
  | cons y ys ih =>
    rw [List.map_cons, goC, if_pos hs, st y (by simp)]
    simp only [ih fun z hz => st z (List.mem_cons_of_mem _ hz), R.bind_ok, List.flatMap_cons]
theorem comp1s {out : α → D} {src : Option (Nat × List D)} (hi : evIt C it ρ h = .ok (ys.map enc, src) h) (hl : ys.length ≤ 1000000) (st : ∀ y ∈ ys, cK (evE C elt) h (asgT t (enc y) (wipeE ρ own)) = .ok (out y) h) (hs : srcOk src h := by exact srcN _) :
    evL C (.comp elt (.one t it .nil) own) ρ h = .ok (ys.map out) h := by
  rw [evL, evCls, hi, R.bind_ok]
  simp only [List.length_map]
  rw [show decide (ys.length ≤ listMax) = true from decide_eq_true hl, need_true]
  rw [goC_map hs (g := fun y => [out y]) ys]
  · congr 1
    clear hi hl st
    induction ys with
    | nil => rfl
    | cons y ys ih => rw [List.flatMap_cons, ih]; rfl
  · intro y hy
    have e := st y hy
    cases q : asgT t (enc y) (wipeE ρ own) with
    | none => rw [q] at e; cases e
    | some ρ1 =>
      rw [q] at e
      simp only [cK] at e
      simp only [evIfs_nil, R.bind_ok, if_true, e]
theorem comp1 {out : α → D} (hi : evIt C it ρ h = .ok (ys.map enc, none) h) (hl : ys.length ≤ 1000000) (st : ∀ y ∈ ys, cK (evE C elt) h (asgT t (enc y) (wipeE ρ own)) = .ok (out y) h) :
    evL C (.comp elt (.one t it .nil) own) ρ h = .ok (ys.map out) h :=
  comp1s hi hl st (srcN _)
theorem comp1fs {p : α → Bool} {out : α → D} {c : E} {src : Option (Nat × List D)} (hi : evIt C it ρ h = .ok (ys.map enc, src) h) (hl : ys.length ≤ 1000000) (sc : ∀ y ∈ ys, cK (evE C c) h (asgT t (enc y) (wipeE ρ own)) = .ok (.bl (p y)) h)
    (st : ∀ y ∈ ys, p y = true → cK (evE C elt) h (asgT t (enc y) (wipeE ρ own)) = .ok (out y) h) (hs : srcOk src h := by exact srcN _) :
    evL C (.comp elt (.one t it (.cons c .nil)) own) ρ h = .ok ((ys.filter p).map out) h := by
  rw [evL, evCls, hi, R.bind_ok]
  simp only [List.length_map]
  rw [show decide (ys.length ≤ listMax) = true from decide_eq_true hl, need_true]
  rw [goC_map hs (g := fun y => if p y = true then [out y] else []) ys]
  · congr 1
    clear hi hl sc st
    induction ys with
    | nil => rfl
    | cons y ys ih =>
      rw [List.flatMap_cons, ih, List.filter_cons]
      cases p y <;> simp
  · intro y hy
    have e1 := sc y hy
    have e2 := st y hy
    cases q : asgT t (enc y) (wipeE ρ own) with
    | none => rw [q] at e1; cases e1
    | some ρ1 =>
      rw [q] at e1 e2
      simp only [cK] at e1 e2
      simp only [evIfs_one, e1, R.bind_ok, truK_b]
      cases z : p y with
      | false => simp
      | true => simp [e2 z]
theorem comp1f {p : α → Bool} {out : α → D} {c : E} (hi : evIt C it ρ h = .ok (ys.map enc, none) h) (hl : ys.length ≤ 1000000) (sc : ∀ y ∈ ys, cK (evE C c) h (asgT t (enc y) (wipeE ρ own)) = .ok (.bl (p y)) h)
    (st : ∀ y ∈ ys, p y = true → cK (evE C elt) h (asgT t (enc y) (wipeE ρ own)) = .ok (out y) h) :
    evL C (.comp elt (.one t it (.cons c .nil)) own) ρ h = .ok ((ys.filter p).map out) h :=
  comp1fs hi hl sc st (srcN _)
end
section
variable {C : Cal} {ρ : Env} {α : Type} {t : Tg} {it : It} {own : List Nat} {elt : E} {enc : α → D}
/-- with a state: each turn makes zero or more things -/
theorem goC_inv {β : Type} {f : D → MH → R (List β)} {σ : Type} {hp : σ → MH} {src : Option (Nat × List D)} (hs : ∀ s, srcOk src (hp s)) (I : List α → List β → σ → Prop) (ys : List α)
    (st : ∀ dn y rest ac s, ys = dn ++ y :: rest → I dn ac s → ∃ zs s', f (enc y) (hp s) = .ok zs (hp s') ∧ I (dn ++ [y]) (ac ++ zs) s') :
    ∀ {s : σ}, I [] [] s → ∃ zs s', goC src f (ys.map enc) (hp s) = .ok zs (hp s') ∧ I ys zs s' := by
  have key : ∀ rest dn ac s, ys = dn ++ rest → I dn ac s → ∃ zs s', goC src f (rest.map enc) (hp s) = .ok zs (hp s') ∧ I ys (ac ++ zs) s' := by
    intro rest
    induction rest with
    | nil =>
      intro dn ac s e i
      rw [List.append_nil] at e
      exact ⟨[], s, by rw [List.map_nil, goC, if_pos (hs s)], by rw [List.append_nil, e]; exact i⟩
    | cons y rest ih =>
      intro dn ac s e i
      obtain ⟨zs, s1, e1, i1⟩ := st dn y rest ac s e i
      obtain ⟨us, s2, e2, i2⟩ := ih (dn ++ [y]) (ac ++ zs) s1 (by rw [e]; simp) i1
      refine ⟨zs ++ us, s2, ?_, by rw [← List.append_assoc]; exact i2⟩
      rw [List.map_cons, goC, if_pos (hs s), e1]
      simp only [e2, R.bind_ok]
  intro s i
  obtain ⟨zs, s', e, j⟩ := key ys [] [] s rfl i
  exact ⟨zs, s', e, by simpa using j⟩
/-- a comprehension by an invariant, no test -/
theorem comp_invs {σ : Type} {hp : σ → MH} {src : Option (Nat × List D)} (I : List α → List D → σ → Prop) (ys : List α) {s0 s : σ} (hi : evIt C it ρ (hp s0) = .ok (ys.map enc, src) (hp s)) (hl : ys.length ≤ 1000000)
    (st : ∀ dn y rest ac s, ys = dn ++ y :: rest → I dn ac s → ∃ d s', cK (evE C elt) (hp s) (asgT t (enc y) (wipeE ρ own)) = .ok d (hp s') ∧ I (dn ++ [y]) (ac ++ [d]) s') (i0 : I [] [] s) (hs : ∀ s, srcOk src (hp s) := by intro s; exact srcN _) :
    ∃ zs s', evL C (.comp elt (.one t it .nil) own) ρ (hp s0) = .ok zs (hp s') ∧ I ys zs s' := by
  rw [evL, evCls, hi, R.bind_ok]
  simp only [List.length_map]
  rw [show decide (ys.length ≤ listMax) = true from decide_eq_true hl, need_true]
  refine goC_inv hs I ys ?_ i0
  intro dn y rest ac s e i
  obtain ⟨d, s', e1, i1⟩ := st dn y rest ac s e i
  refine ⟨[d], s', ?_, i1⟩
  cases q : asgT t (enc y) (wipeE ρ own) with
  | none => rw [q] at e1; cases e1
  | some ρ1 =>
    rw [q] at e1
    simp only [cK] at e1
    simp only [evIfs_nil, R.bind_ok, if_true, e1]
theorem comp_inv {σ : Type} {hp : σ → MH} (I : List α → List D → σ → Prop) (ys : List α) {s0 s : σ} (hi : evIt C it ρ (hp s0) = .ok (ys.map enc, none) (hp s)) (hl : ys.length ≤ 1000000)
    (st : ∀ dn y rest ac s, ys = dn ++ y :: rest → I dn ac s → ∃ d s', cK (evE C elt) (hp s) (asgT t (enc y) (wipeE ρ own)) = .ok d (hp s') ∧ I (dn ++ [y]) (ac ++ [d]) s') (i0 : I [] [] s) :
    ∃ zs s', evL C (.comp elt (.one t it .nil) own) ρ (hp s0) = .ok zs (hp s') ∧ I ys zs s' :=
  comp_invs I ys hi hl st i0 (fun _ => srcN _)
theorem comp_invfs {σ : Type} {hp : σ → MH} {c : E} {src : Option (Nat × List D)} (I : List α → List D → σ → Prop) (ys : List α) {s0 s : σ} (hi : evIt C it ρ (hp s0) = .ok (ys.map enc, src) (hp s)) (hl : ys.length ≤ 1000000)
    (st : ∀ dn y rest ac s, ys = dn ++ y :: rest → I dn ac s → ∃ (b : Bool) (s1 : σ), cK (evE C c) (hp s) (asgT t (enc y) (wipeE ρ own)) = .ok (.bl b) (hp s1) ∧ (b = false → I (dn ++ [y]) ac s1) ∧ (b = true → ∃ d s', cK (evE C elt) (hp s1) (asgT t (enc y) (wipeE ρ own)) = .ok d (hp s') ∧ I (dn ++ [y]) (ac ++ [d]) s')) (i0 : I [] [] s) (hs : ∀ s, srcOk src (hp s) := by intro s; exact srcN _) :
    ∃ zs s', evL C (.comp elt (.one t it (.cons c .nil)) own) ρ (hp s0) = .ok zs (hp s') ∧ I ys zs s' := by
  rw [evL, evCls, hi, R.bind_ok]
  simp only [List.length_map]
  rw [show decide (ys.length ≤ listMax) = true from decide_eq_true hl, need_true]
  refine goC_inv hs I ys ?_ i0
  intro dn y rest ac s e i
  obtain ⟨b, s1, e1, ef, et⟩ := st dn y rest ac s e i
  cases b with
  | false =>
    refine ⟨[], s1, ?_, by rw [List.append_nil]; exact ef rfl⟩
    cases q : asgT t (enc y) (wipeE ρ own) with
    | none => rw [q] at e1; cases e1
    | some ρ1 =>
      rw [q] at e1
      simp only [cK] at e1
      simp [e1]
  | true =>
    obtain ⟨d, s', e2, i2⟩ := et rfl
    refine ⟨[d], s', ?_, i2⟩
    cases q : asgT t (enc y) (wipeE ρ own) with
    | none => rw [q] at e1; cases e1
    | some ρ1 =>
      rw [q] at e1 e2
      simp only [cK] at e1 e2
      simp [e1, e2]
theorem comp_invf {σ : Type} {hp : σ → MH} {c : E} (I : List α → List D → σ → Prop) (ys : List α) {s0 s : σ} (hi : evIt C it ρ (hp s0) = .ok (ys.map enc, none) (hp s)) (hl : ys.length ≤ 1000000)
    (st : ∀ dn y rest ac s, ys = dn ++ y :: rest → I dn ac s → ∃ (b : Bool) (s1 : σ), cK (evE C c) (hp s) (asgT t (enc y) (wipeE ρ own)) = .ok (.bl b) (hp s1) ∧ (b = false → I (dn ++ [y]) ac s1) ∧ (b = true → ∃ d s', cK (evE C elt) (hp s1) (asgT t (enc y) (wipeE ρ own)) = .ok d (hp s') ∧ I (dn ++ [y]) (ac ++ [d]) s')) (i0 : I [] [] s) :
    ∃ zs s', evL C (.comp elt (.one t it (.cons c .nil)) own) ρ (hp s0) = .ok zs (hp s') ∧ I ys zs s' :=
  comp_invfs I ys hi hl st i0 (fun _ => srcN _)
end
/-! ### loops: env and heap are functions of a state -/
def tnK (r : RS) : RS := match r with
  | .ct ρ h => .nx ρ h
  | r => r
@[simp] theorem tnK_nx (ρ : Env) (h : MH) : tnK (.nx ρ h) = .nx ρ h := Eq.trans rfl rfl
@[simp] theorem tnK_ct (ρ : Env) (h : MH) : tnK (.ct ρ h) = .nx ρ h := Eq.trans rfl rfl
@[simp] theorem tnK_ret (d : D) (h : MH) : tnK (.ret d h) = .ret d h := Eq.trans rfl rfl
@[simp] theorem tnK_exc (c : Nat) (pl : List D) (ρ : Env) (h : MH) : tnK (.exc c pl ρ h) = .exc c pl ρ h := Eq.trans rfl rfl
def fK (b : Env → MH → RS) (h : MH) (o : Option Env) : RS := match o with
  | some ρ1 => tnK (b ρ1 h)
  | none => .bad
@[simp] theorem fK_s (b : Env → MH → RS) (h : MH) (ρ : Env) : fK b h (some ρ) = tnK (b ρ h) := Eq.trans rfl rfl
section
variable {α σ : Type} {t : Tg} {b : Env → MH → RS} {enc : α → D} {ev : σ → Env} {hp : σ → MH} {src : Option (Nat × List D)}
theorem tn_nx {r : RS} {ρ : Env} {h : MH} (e : tnK r = .nx ρ h) (f : Env → MH → RS) : turnOf r f = f ρ h := by
  cases r <;> simp only [tnK] at e <;> first | (cases e; done) | (injection e with e1 e2; subst e1; subst e2; rfl)
theorem tn_ret {r : RS} {d : D} {h : MH} (e : tnK r = .ret d h) (f : Env → MH → RS) : turnOf r f = .ret d h := by
  cases r <;> simp only [tnK] at e <;> first | (cases e; done) | (injection e with e1 e2; subst e1; subst e2; rfl)
theorem tn_exc {r : RS} {c : Nat} {pl : List D} {ρ : Env} {h : MH} (e : tnK r = .exc c pl ρ h) (f : Env → MH → RS) : turnOf r f = .exc c pl ρ h := by
  cases r <;> simp only [tnK] at e <;> first | (cases e; done) | (injection e with e1 e2 e3 e4; subst e1; subst e2; subst e3; subst e4; rfl)
theorem fr_step {d : D} {ds : List D} {ρ ρ' : Env} {h h' : MH} (e : fK b h (asgT t d ρ) = .nx ρ' h') (hs : srcOk src h := by exact srcN _) : frE src t b (d :: ds) ρ h = frE src t b ds ρ' h' := by
  rw [frE, if_pos hs]
  cases q : asgT t d ρ with
  | none => rw [q] at e; cases e
  | some ρ1 => rw [q] at e; exact tn_nx e _
theorem fr_stop {d d' : D} {ds : List D} {ρ : Env} {h h' : MH} (e : fK b h (asgT t d ρ) = .ret d' h') (hs : srcOk src h := by exact srcN _) : frE src t b (d :: ds) ρ h = .ret d' h' := by
  rw [frE, if_pos hs]
  cases q : asgT t d ρ with
  | none => rw [q] at e; cases e
  | some ρ1 => rw [q] at e; exact tn_ret e _
theorem fr_exc {d : D} {ds : List D} {c : Nat} {pl : List D} {ρ ρ' : Env} {h h' : MH} (e : fK b h (asgT t d ρ) = .exc c pl ρ' h') (hs : srcOk src h := by exact srcN _) : frE src t b (d :: ds) ρ h = .exc c pl ρ' h' := by
  rw [frE, if_pos hs]
  cases q : asgT t d ρ with
  | none => rw [q] at e; cases e
  | some ρ1 => rw [q] at e; exact tn_exc e _
@[simp] theorem fr_nil {ρ : Env} {h : MH} : frE none t b [] ρ h = .nx ρ h := by rw [frE, if_pos (srcN _)]
theorem fr_nils {ρ : Env} {h : MH} (hs : srcOk src h) : frE src t b [] ρ h = .nx ρ h := by rw [frE, if_pos hs]
/-- a fold -/
theorem fr_fold (g : σ → α → σ) : ∀ (ys : List α) (s : σ), (∀ s, ∀ y ∈ ys, fK b (hp s) (asgT t (enc y) (ev s)) = .nx (ev (g s y)) (hp (g s y))) →
    frE none t b (ys.map enc) (ev s) (hp s) = .nx (ev (ys.foldl g s)) (hp (ys.foldl g s))
  | [], s, _ => by simp
  | y :: ys, s, st => by
    rw [List.map_cons, fr_step (st s y (by simp)), List.foldl_cons]
    exact fr_fold g ys (g s y) fun s y hy => st s y (List.mem_cons_of_mem _ hy)
/-- by an invariant -/
theorem fr_inv (I : List α → σ → Prop) (ys : List α) (st : ∀ dn y rest s, ys = dn ++ y :: rest → I dn s → ∃ s', fK b (hp s) (asgT t (enc y) (ev s)) = .nx (ev s') (hp s') ∧ I (dn ++ [y]) s') {s0 : σ} (i0 : I [] s0) (hs : ∀ s, srcOk src (hp s) := by intro s; exact srcN _) :
    ∃ s, frE src t b (ys.map enc) (ev s0) (hp s0) = .nx (ev s) (hp s) ∧ I ys s := by
  have key : ∀ rest dn s, ys = dn ++ rest → I dn s → ∃ s', frE src t b (rest.map enc) (ev s) (hp s) = .nx (ev s') (hp s') ∧ I ys s' := by
    intro rest
    induction rest with
    | nil =>
      intro dn s e i
      rw [List.append_nil] at e
      exact ⟨s, by rw [List.map_nil, fr_nils (hs s)], e ▸ i⟩
    | cons y rest ih =>
      intro dn s e i
      obtain ⟨s1, e1, i1⟩ := st dn y rest s e i
      obtain ⟨s2, e2, i2⟩ := ih (dn ++ [y]) s1 (by rw [e]; simp) i1
      exact ⟨s2, by rw [List.map_cons, fr_step e1 (hs s), e2], i2⟩
  exact key ys [] s0 rfl i0
/-- by an invariant; it may tell -/
theorem fr_invr (I : List α → σ → Prop) (K : D → MH → Prop) (ys : List α) (st : ∀ dn y rest s, ys = dn ++ y :: rest → I dn s → (∃ s', fK b (hp s) (asgT t (enc y) (ev s)) = .nx (ev s') (hp s') ∧ I (dn ++ [y]) s') ∨ ∃ d h', fK b (hp s) (asgT t (enc y) (ev s)) = .ret d h' ∧ K d h') {s0 : σ} (i0 : I [] s0) (hs : ∀ s, srcOk src (hp s) := by intro s; exact srcN _) :
    (∃ s, frE src t b (ys.map enc) (ev s0) (hp s0) = .nx (ev s) (hp s) ∧ I ys s) ∨ ∃ d h', frE src t b (ys.map enc) (ev s0) (hp s0) = .ret d h' ∧ K d h' := by
  have key : ∀ rest dn s, ys = dn ++ rest → I dn s → (∃ s', frE src t b (rest.map enc) (ev s) (hp s) = .nx (ev s') (hp s') ∧ I ys s') ∨ ∃ d h', frE src t b (rest.map enc) (ev s) (hp s) = .ret d h' ∧ K d h' := by
    intro rest
    induction rest with
    | nil =>
      intro dn s e i
      rw [List.append_nil] at e
      exact .inl ⟨s, by rw [List.map_nil, fr_nils (hs s)], e ▸ i⟩
    | cons y rest ih =>
      intro dn s e i
      rcases st dn y rest s e i with ⟨s1, e1, i1⟩ | ⟨d, h', e1, k⟩
      · rcases ih (dn ++ [y]) s1 (by rw [e]; simp) i1 with ⟨s2, e2, i2⟩ | ⟨d, h', e2, k⟩
        · exact .inl ⟨s2, by rw [List.map_cons, fr_step e1 (hs s), e2], i2⟩
        · exact .inr ⟨d, h', by rw [List.map_cons, fr_step e1 (hs s), e2], k⟩
      · exact .inr ⟨d, h', by rw [List.map_cons, fr_stop e1 (hs s)], k⟩
  exact key ys [] s0 rfl i0
/-- a while loop -/
theorem wh_inv {c : Env → MH → R D} (I : σ → Prop) (m : σ → Nat) (done : σ → Prop)
    (st : ∀ s, I s → (c (ev s) (hp s) = .ok (.bl false) (hp s) ∧ done s) ∨ (c (ev s) (hp s) = .ok (.bl true) (hp s) ∧ ∃ s', tnK (b (ev s) (hp s)) = .nx (ev s') (hp s') ∧ I s' ∧ m s' < m s)) {s0 : σ} (i0 : I s0) :
    ∃ s, whE c b (ev s0) (hp s0) = .nx (ev s) (hp s) ∧ I s ∧ done s := by
  have key : ∀ k s, m s = k → I s → ∃ s', whE c b (ev s) (hp s) = .nx (ev s') (hp s') ∧ I s' ∧ done s' := by
    intro k
    induction k using Nat.strongRecOn with
    | _ k ih =>
      intro s e i
      rcases st s i with ⟨e1, d⟩ | ⟨e1, s', e2, i2, l⟩
      · exact ⟨s, by rw [whE_eq, e1]; rfl, i, d⟩
      · obtain ⟨s2, e3, r⟩ := ih (m s') (by omega) s' rfl i2
        refine ⟨s2, ?_, r⟩
        rw [whE_eq, e1]
        show turnOf (b (ev s) (hp s)) _ = _
        rw [tn_nx e2, e3]
  exact key _ s0 rfl i0
end
end GM
end
section
set_option Elab.async false
set_option linter.all false
set_option maxRecDepth 100000
namespace GM
open PySem
/-! ### Python's order on plain data -/
def alks (as bs : List D) : Bool := PySem.W.alikeAll (D.pys as) (D.pys bs)
def ltvs (as bs : List D) : Bool := PyProof.Rows.lexLt PyProof.Rows.itemOrd (PySem.W.keyToksAll (D.pys as)) (PySem.W.keyToksAll (D.pys bs))
@[simp] theorem alk_int' (a b : Int) : D.alk (.int a) (.int b) = true := alk_int a b
@[simp] theorem alk_str' (a b : Str) : D.alk (.str a) (.str b) = true := alk_str a b
@[simp] theorem alk_tup (as bs : List D) : D.alk (.tup as) (.tup bs) = alks as bs := by simp [D.alk, D.py, PySem.W.alike, alks]
@[simp] theorem alk_lst (as bs : List D) : D.alk (.lst as) (.lst bs) = alks as bs := by simp [D.alk, D.py, PySem.W.alike, alks]
@[simp] theorem alks_nl (bs : List D) : alks [] bs = true := by simp [alks, D.pys, PySem.W.alikeAll]
@[simp] theorem alks_nr (as : List D) : alks as [] = true := by cases as <;> simp [alks, D.pys, PySem.W.alikeAll]
@[simp] theorem alks_cc (a b : D) (as bs : List D) : alks (a :: as) (b :: bs) = (D.alk a b && alks as bs) := by simp [alks, D.alk, D.pys, PySem.W.alikeAll]
theorem alks_map {α β : Type} (f : α → D) (g : β → D) : ∀ (xs : List α) (ys : List β), (∀ x ∈ xs, ∀ y ∈ ys, D.alk (f x) (g y) = true) → alks (xs.map f) (ys.map g) = true
  | [], _, _ => by simp
  | _ :: _, [], _ => by simp
  | x :: xs, y :: ys, h => by
    rw [List.map_cons, List.map_cons, alks_cc, h x (by simp) y (by simp), alks_map f g xs ys fun a ha b hb => h a (List.mem_cons_of_mem _ ha) b (List.mem_cons_of_mem _ hb)]
    rfl
@[simp] theorem ltv_int' (a b : Int) : D.ltv (.int a) (.int b) = decide (a < b) := ltv_int a b
@[simp] theorem ltv_str' (a b : Str) : D.ltv (.str a) (.str b) = decide (a.cps.toList < b.cps.toList) := ltv_str a b
@[simp] theorem ltv_tup (as bs : List D) : D.ltv (.tup as) (.tup bs) = ltvs as bs := by simp [D.ltv, D.py, PySem.W.dataLt_tuple, ltvs]
@[simp] theorem ltv_lst (as bs : List D) : D.ltv (.lst as) (.lst bs) = ltvs as bs := by simp [D.ltv, D.py, PySem.W.dataLt_list, ltvs]
@[simp] theorem ltvs_nn : ltvs [] [] = false := by
  unfold ltvs; exact PyProof.Rows.lex_irrefl _
@[simp] theorem ltvs_nc (b : D) (bs : List D) : ltvs [] (b :: bs) = true := by
  unfold ltvs
  rw [D.pys, D.pys, PySem.W.toks_all_cons]
  show PyProof.Rows.lexLt PyProof.Rows.itemOrd [Sum.inl 0] (Sum.inl 1 :: _) = true
  rw [PySem.W.lex_atom (by simp)]
  decide
@[simp] theorem ltvs_cn (a : D) (as : List D) : ltvs (a :: as) [] = false := by
  unfold ltvs
  rw [D.pys, D.pys, PySem.W.toks_all_cons]
  show PyProof.Rows.lexLt PyProof.Rows.itemOrd (Sum.inl 1 :: _) [Sum.inl 0] = false
  rw [PySem.W.lex_atom (by simp)]
  decide
theorem ltvs_cc {a b : D} {as bs : List D} (k : D.alk a b = true) (sa : a.sim = true) (sb : b.sim = true) : ltvs (a :: as) (b :: bs) = if a = b then ltvs as bs else D.ltv a b := by
  unfold ltvs D.ltv
  rw [D.pys, D.pys]
  have e := eqv_sim a b sa sb
  unfold D.eqv at e
  by_cases q : a = b
  · rw [if_pos q, PySem.W.dataLt_all_yes k (by rw [e]; simp [q])]
  · rw [if_neg q, PySem.W.dataLt_all_no k (by rw [e]; simp [q])]
theorem cmp_lt {a b : D} (ha : PU 100 a) (hb : PU 100 b) (k : D.alk a b = true) (n : a ≠ .non) : opCmp .lt a b = some (D.ltv a b) := by
  rw [opCmp, if_pos ⟨ha.cmp hb, k, n⟩]
/-- numbers, place by place -/
theorem ltvs_nat : ∀ as bs : List Nat, ltvs (as.map dN) (bs.map dN) = decide (as < bs)
  | [], [] => by simp
  | [], b :: bs => by simp
  | a :: as, [] => by simp
  | a :: as, b :: bs => by
    rw [List.map_cons, List.map_cons, ltvs_cc (by simp) rfl rfl, ltvs_nat as bs]
    by_cases q : a = b
    · subst q
      simp [List.cons_lt_cons_iff]
    · have : ¬ (D.int (a : Int) = D.int (b : Int)) := by rw [dN_inj]; exact q
      rw [if_neg this, ltv_int']
      simp [List.cons_lt_cons_iff, q]
/-! ### lists -/
def adjB {α : Type} (p : α → α → Bool) : List α → Bool
  | x :: y :: r => p x y && adjB p (y :: r)
  | _ => true
/-- an item, no simp lemma knows it -/
def gD {α : Type} (xs : List α) (k : Nat) (d : α) : α := xs.getD k d
theorem range_adj {α : Type} (p : α → α → Bool) (d : α) : ∀ xs : List α, (List.range (xs.length - 1)).all (fun k => p (gD xs k d) (gD xs (k + 1) d)) = adjB p xs
  | [] => rfl
  | [x] => rfl
  | x :: y :: r => by
    have ih := range_adj p d (y :: r)
    simp only [List.length_cons, Nat.add_sub_cancel] at ih ⊢
    rw [List.range_succ_eq_map, List.all_cons, List.all_map]
    unfold adjB
    rw [← ih]
    rfl
theorem adj_pw {α : Type} {p : α → α → Bool} {R : α → α → Prop} (hp : ∀ a b, p a b = true ↔ R a b) (tr : ∀ a b c, R a b → R b c → R a c) : ∀ xs : List α, adjB p xs = true ↔ xs.Pairwise R
  | [] => by simp [adjB]
  | [x] => by simp [adjB]
  | x :: y :: r => by
    have ih := adj_pw hp tr (y :: r)
    unfold adjB
    rw [Bool.and_eq_true, ih, hp, List.pairwise_cons (a := x)]
    constructor
    · rintro ⟨a, b⟩
      refine ⟨fun z hz => ?_, b⟩
      rcases List.mem_cons.mp hz with rfl | hz
      · exact a
      · exact tr _ _ _ a ((List.pairwise_cons.mp b).1 z hz)
    · rintro ⟨a, b⟩
      exact ⟨a y (by simp), b⟩
theorem getD_get {α : Type} {xs : List α} {k : Nat} (h : k < xs.length) (d : α) : xs[k]? = some (gD xs k d) := by
  rw [gD, List.getD_eq_getElem?_getD, List.getElem?_eq_getElem h]; rfl
theorem list_lt_trans {a b c : List Nat} (x : a < b) (y : b < c) : a < c := List.lt_trans x y
/-- a loop that tells at the first fit -/
def fsK (ρ : Env) (h : MH) (o : Option D) : RS := match o with
  | none => .nx ρ h
  | some d => .ret d h
@[simp] theorem fsK_n (ρ : Env) (h : MH) : fsK ρ h none = .nx ρ h := Eq.trans rfl rfl
@[simp] theorem fsK_s (ρ : Env) (h : MH) (d : D) : fsK ρ h (some d) = .ret d h := Eq.trans rfl rfl
theorem fr_find {α : Type} {t : Tg} {b : Env → MH → RS} {enc : α → D} {ρ : Env} {h : MH} (K : α → Option D) : ∀ (ys : List α), (∀ y ∈ ys, fK b h (asgT t (enc y) ρ) = fsK ρ h (K y)) → frE none t b (ys.map enc) ρ h = fsK ρ h (ys.findSome? K)
  | [], _ => by simp
  | y :: ys, st => by
    have e := st y (by simp)
    rw [List.map_cons, List.findSome?_cons]
    cases q : K y with
    | none => rw [q] at e; rw [fr_step e, fr_find K ys fun z hz => st z (List.mem_cons_of_mem _ hz)]
    | some d => rw [q] at e; rw [fr_stop e]; rfl
theorem adjD {α β : Type} (f : α → β) (p : β → β → Bool) : ∀ xs : List α, adjB p (xs.map f) = adjB (fun a b => p (f a) (f b)) xs
  | [] => rfl
  | [x] => rfl
  | x :: y :: r => by
    have := adjD f p (y :: r)
    simp only [List.map_cons, adjB] at this ⊢
    rw [this]
end GM
end
section
set_option Elab.async false
set_option linter.all false
set_option maxRecDepth 100000
namespace GM
open PySem
/-! ### dicts that are sets -/
def dks (ks : List D) : List (D × D) := ks.map fun k => (k, D.bl true)
def addK {α : Type} [DecidableEq α] (ks : List α) (k : α) : List α := if k ∈ ks then ks else ks ++ [k]
@[simp] theorem dks_keys (ks : List D) : (dks ks).map (·.1) = ks := by
  unfold dks
  rw [List.map_map]
  exact List.map_id' ks
@[simp] theorem dks_len (ks : List D) : (dks ks).length = ks.length := by simp [dks]
theorem dget_dks (ks : List D) (k : D) : dget (dks ks) k = if k ∈ ks then some (.bl true) else none := by
  induction ks with
  | nil => rfl
  | cons q ks ih =>
    have st : dget (dks (q :: ks)) k = if q = k then some (.bl true) else dget (dks ks) k := by
      unfold dget dks
      simp only [List.map_cons, List.find?_cons]
      by_cases e : q = k
      · simp only [e, decide_true, if_true, Option.map_some]
      · simp only [e, decide_false, if_false]
    rw [st, ih]
    by_cases e : q = k
    · simp [e]
    · have e' : ¬ k = q := fun z => e z.symm
      simp [e, e']
theorem dput_dks (ks : List D) (k : D) : dput (dks ks) k (.bl true) = dks (addK ks k) := by
  unfold dput addK
  rw [dget_dks]
  by_cases e : k ∈ ks
  · simp only [e, if_true, Option.isSome_some]
    have : ∀ p ∈ dks ks, (if p.1 = k then (p.1, D.bl true) else p) = p := by
      intro p hp
      unfold dks at hp
      obtain ⟨q, hq, rfl⟩ := List.mem_map.mp hp
      split <;> rfl
    rw [List.map_congr_left this, List.map_id']
  · simp [e, dks]
def leafK (d : D) : Bool := match d with
  | .int _ | .str _ => true
  | _ => false
theorem kOk_leaf {k : D} (h : leafK k = true) : kOk k = true := by
  cases k <;> first | (simp [leafK] at h; done) | (simp [kOk, D.isKey, D.dep])
theorem isTup_leaf {k : D} (h : leafK k = true) : k.isTup = false := by
  cases k <;> first | (simp [leafK] at h; done) | rfl
theorem keyFits_leaf {ks : List D} {k : D} (hs : ∀ q ∈ ks, leafK q = true) (h : leafK k = true) : keyFits ks k = true := by
  unfold keyFits
  rw [kOk_leaf h]
  have e : (k != .non) = true := by cases k <;> first | (simp [leafK] at h; done) | rfl
  rw [e]
  simp only [Bool.true_and]
  rw [List.all_eq_true]
  intro q hq
  rw [isTup_leaf (hs q hq), isTup_leaf h]
  rfl
@[simp] theorem kf_nat (ks : List Nat) (k : Nat) : keyFits (ks.map dN) (.int k) = true := keyFits_leaf (by intro q hq; obtain ⟨x, _, rfl⟩ := List.mem_map.mp hq; rfl) rfl
@[simp] theorem kf_str (ks : List Str) (k : Str) : keyFits (ks.map D.str) (.str k) = true := keyFits_leaf (by intro q hq; obtain ⟨x, _, rfl⟩ := List.mem_map.mp hq; rfl) rfl
theorem addK_map {α β : Type} [DecidableEq α] [DecidableEq β] {f : α → β} (hf : ∀ a b, f a = f b → a = b) (xs : List α) (x : α) : addK (xs.map f) (f x) = (addK xs x).map f := by
  unfold addK
  have : f x ∈ xs.map f ↔ x ∈ xs := ⟨fun h => by obtain ⟨y, hy, e⟩ := List.mem_map.mp h; exact hf _ _ e ▸ hy, fun h => List.mem_map.mpr ⟨x, h, rfl⟩⟩
  by_cases e : x ∈ xs
  · simp [e, this.mpr e]
  · have e2 : ¬ f x ∈ xs.map f := fun z => e (this.mp z)
    rw [if_neg e, if_neg e2]
    simp
@[simp] theorem addK_nat (ks : List Nat) (k : Nat) : addK (ks.map dN) (.int k) = (addK ks k).map dN := addK_map (fun a b h => by rwa [dN_inj] at h) ks k
@[simp] theorem addK_str (ks : List Str) (k : Str) : addK (ks.map D.str) (.str k) = (addK ks k).map D.str := addK_map (fun a b h => by injection h) ks k
theorem addK_nodup {α : Type} [DecidableEq α] {xs : List α} {x : α} (h : xs.Nodup) : (addK xs x).Nodup := by
  unfold addK
  split
  · exact h
  · rename_i e
    rw [List.nodup_append]
    refine ⟨h, by simp, fun a ha b hb => ?_⟩
    simp at hb
    rintro rfl
    exact e (hb ▸ ha)
theorem mem_addK {α : Type} [DecidableEq α] {xs : List α} {x y : α} : y ∈ addK xs x ↔ y ∈ xs ∨ y = x := by
  unfold addK
  split
  · rename_i e
    refine ⟨.inl, fun h => h.elim id fun z => z ▸ e⟩
  · simp
theorem addK_len {α : Type} [DecidableEq α] {xs : List α} {x : α} : (addK xs x).length ≤ xs.length + 1 := by
  unfold addK
  split <;> simp
theorem addK_ge {α : Type} [DecidableEq α] {xs : List α} {x : α} : xs.length ≤ (addK xs x).length := by
  unfold addK
  split <;> simp
/-- d[k] = True -/
theorem setK_k {ρ : Env} {n : Nat} {k : D} {h : MH} {ks : List D} (e : h[n]? = some (.dic (dks ks))) (i : keyFits ks k = true) (l : ks.length < 1000000) : setK (.bl true) ρ (.ref n) k h = .nx ρ (h.set n (.dic (dks (addK ks k)))) := by
  rw [setK_d e (by unfold kf; rw [dks_keys]; exact i) (by rw [dks_len]; exact l), dput_dks]
/-! sorted -/
def sLe (a b : Str) : Bool := decide (a.cps.toList ≤ b.cps.toList)
theorem sorts_str (ns : List Str) : sorts (ns.map D.str) = (ns.mergeSort sLe).map D.str := by
  unfold sorts
  rw [List.map_mergeSort]
  intro a _ b _
  rw [ltv_str]
  simp only [sLe]
  rw [← decide_not]
  exact decide_eq_decide.mpr (by rw [List.not_lt])
theorem sortOk_str {ns : List Str} (hl : ns.length ≤ 1000000) : sortOk (ns.map D.str) = true := by
  unfold sortOk
  rw [PUs.pls (n := 0) (by simp)]
  have : D.deps (ns.map D.str) ≤ 150 := Nat.le_trans (show PUs 0 (ns.map D.str) by simp).2 (by decide)
  simp [this, hl]
theorem sort_strL {ns : List Str} (hl : ns.length ≤ 1000000) : opSort (.lst (ns.map D.str)) = some ((ns.mergeSort sLe).map D.str) := by rw [opSort, if_pos (sortOk_str hl), sorts_str]
theorem sort_strD {ns : List Str} {vs : List D} (hl : ns.length ≤ 1000000) : opSort (.dic (ns.map D.str) vs) = some ((ns.mergeSort sLe).map D.str) := by rw [opSort, if_pos (sortOk_str hl), sorts_str]
def nLe (a b : Nat) : Bool := decide (a ≤ b)
theorem sorts_nat (ns : List Nat) : sorts (ns.map dN) = (ns.mergeSort nLe).map dN := by
  unfold sorts
  rw [List.map_mergeSort]
  intro a _ b _
  rw [ltv_int]
  simp only [nLe]
  rw [← decide_not]
  exact decide_eq_decide.mpr (by omega)
theorem sortOk_nat {ns : List Nat} (hl : ns.length ≤ 1000000) : sortOk (ns.map dN) = true := by
  unfold sortOk
  rw [PUs.pls (n := 0) (by simp)]
  have : D.deps (ns.map dN) ≤ 150 := Nat.le_trans (show PUs 0 (ns.map dN) by simp).2 (by decide)
  simp [this, hl]
theorem sort_natL {ns : List Nat} (hl : ns.length ≤ 1000000) : opSort (.lst (ns.map dN)) = some ((ns.mergeSort nLe).map dN) := by rw [opSort, if_pos (sortOk_nat hl), sorts_nat]
theorem sort_natD {ns : List Nat} {vs : List D} (hl : ns.length ≤ 1000000) : opSort (.dic (ns.map dN) vs) = some ((ns.mergeSort nLe).map dN) := by rw [opSort, if_pos (sortOk_nat hl), sorts_nat]
theorem sort_natS {ns : List Nat} (hl : ns.length ≤ 1000000) : opSort (.set (ns.map dN)) = some ((ns.mergeSort nLe).map dN) := by rw [opSort, if_pos (sortOk_nat hl), sorts_nat]
theorem sort_nat_pw {ns : List Nat} (hd : ns.Nodup) : (ns.mergeSort nLe).Pairwise (· < ·) := by
  have p := List.pairwise_mergeSort (le := nLe) (fun a b c x y => by
    simp only [nLe, decide_eq_true_eq] at *
    omega) (fun a b => by
    simp only [nLe, Bool.or_eq_true, decide_eq_true_eq]
    omega) ns
  have d : (ns.mergeSort nLe).Nodup := (List.mergeSort_perm ns nLe).nodup_iff.mpr hd
  refine (List.Pairwise.and p d).imp fun {a b} h => ?_
  have le : a ≤ b := by simpa [nLe] using h.1
  have ne : a ≠ b := h.2
  omega
theorem str_ext {a b : Str} (h : a.cps.toList = b.cps.toList) : a = b := PySem.W.str_of_cps h
theorem sort_str_pw {ns : List Str} (hd : ns.Nodup) : (ns.mergeSort sLe).Pairwise fun a b => a.cps.toList < b.cps.toList := by
  have p := List.pairwise_mergeSort (le := sLe) (fun a b c x y => by
    simp only [sLe, decide_eq_true_eq] at *
    exact List.le_trans x y) (fun a b => by
    simp only [sLe, Bool.or_eq_true, decide_eq_true_eq]
    exact List.le_total _ _) ns
  have d : (ns.mergeSort sLe).Nodup := (List.mergeSort_perm ns sLe).nodup_iff.mpr hd
  refine (List.Pairwise.and p d).imp fun {a b} h => ?_
  have le : a.cps.toList ≤ b.cps.toList := by simpa [sLe] using h.1
  have ne : a.cps.toList ≠ b.cps.toList := fun e => h.2 (str_ext e)
  rcases Classical.em (a.cps.toList < b.cps.toList) with q | q
  · exact q
  · exact absurd (List.le_antisymm le (List.not_lt.mp q)) ne
/-! freezing -/
theorem fz_l {n i : Nat} {ρ : Env} {h : MH} {xs : List D} (e : h[n]? = some (.lst xs)) (p : D.pls xs = true) : fzK (some (some (.ref n))) i ρ h = .nx (ρ.set i (some (.lst xs))) (h.set n .dead) := by
  unfold fzK
  simp only [frzN, frzD, Nat.not_lt_zero, if_false, e, frzL_pl p, Option.map_some]
theorem fz_v {d : D} {i : Nat} {ρ : Env} {h : MH} (p : d.pl = true) : fzK (some (some d)) i ρ h = .nx (ρ.set i (some d)) h := by
  unfold fzK
  simp only [frzN, frzD_val (pl_nr 0 d p) (pl_ref p)]
end GM
end
section
set_option Elab.async false
set_option linter.all false
set_option maxRecDepth 100000
namespace GM
open PySem
/-! ### dict comprehensions, dicts of dicts -/
def kKV2 (d : D) (e : D) (h : MH) : R (List (D × D)) := .ok [(d, e)] h
@[simp] theorem kKV2_a (d e : D) (h : MH) : kKV2 d e h = .ok [(d, e)] h := Eq.trans rfl rfl
def kKV (C : Cal) (v : E) (ρ : Env) (d : D) (h : MH) : R (List (D × D)) := (evE C v ρ h).bind (kKV2 d)
@[simp] theorem kKV_a (C : Cal) (v : E) (ρ : Env) (d : D) (h : MH) : kKV C v ρ d h = (evE C v ρ h).bind (kKV2 d) := Eq.trans rfl rfl
section
variable {C : Cal} {ρ : Env} {α : Type} {t : Tg} {it : It} {own : List Nat} {kx vx : E} {enc : α → D}
theorem dcomp_inv {σ : Type} {hp : σ → MH} (I : List α → List (D × D) → σ → Prop) (ys : List α) {s0 s : σ} (hi : evIt C it ρ (hp s0) = .ok (ys.map enc, none) (hp s)) (hl : ys.length ≤ 1000000)
    (st : ∀ dn y rest ac s, ys = dn ++ y :: rest → I dn ac s → ∃ kv s', cK (fun ρ h => (evE C kx ρ h).bind (kKV C vx ρ)) (hp s) (asgT t (enc y) (wipeE ρ own)) = .ok [kv] (hp s') ∧ I (dn ++ [y]) (ac ++ [kv]) s') (i0 : I [] [] s) :
    ∃ kvs s', I ys kvs s' ∧ evDL C (.comp kx vx (.one t it .nil) own) ρ (hp s0) = R.ofO (dputs [] kvs) (hp s') := by
  rw [evDL, evCls, hi, R.bind_ok]
  simp only [List.length_map]
  rw [show decide (ys.length ≤ listMax) = true from decide_eq_true hl, need_true]
  obtain ⟨kvs, s', e, i⟩ := goC_inv (enc := enc) (hp := hp) (src := none) (f := fun x h => match asgT t x (wipeE ρ own) with
    | some ρ1 => (evIfs C .nil ρ1 h).bind fun b h => if b = true then (evE C kx ρ1 h).bind fun d h => (evE C vx ρ1 h).bind fun e h => .ok [(d, e)] h else .ok [] h
    | none => .bad) (fun _ => srcN _) I ys (by
      intro dn y rest ac s e i
      obtain ⟨kv, s', e1, i1⟩ := st dn y rest ac s e i
      refine ⟨[kv], s', ?_, i1⟩
      cases q : asgT t (enc y) (wipeE ρ own) with
      | none => rw [q] at e1; cases e1
      | some ρ1 =>
        rw [q] at e1
        simp only [cK] at e1
        simp only [evIfs_nil, R.bind_ok, if_true]
        exact e1) i0
  refine ⟨kvs, s', i, ?_⟩
  exact congrArg (fun r => R.bind r fun kvs h => R.ofO (dputs [] kvs) h) e
end
theorem dget_none {kvs : List (D × D)} {k : D} (h : k ∉ kvs.map (·.1)) : dget kvs k = none := by
  unfold dget
  rw [List.find?_eq_none.mpr]
  · rfl
  · intro p hp
    simp only [decide_eq_true_eq]
    intro e
    exact h (e ▸ List.mem_map.mpr ⟨p, hp, rfl⟩)
theorem dputs_new : ∀ (kvs acc : List (D × D)), ((acc ++ kvs).map (·.1)).Nodup → (∀ p ∈ acc ++ kvs, leafK p.1 = true) → (acc ++ kvs).length ≤ 1000000 → dputs acc kvs = some (acc ++ kvs)
  | [], acc, _, _, _ => by simp [dputs]
  | (k, v) :: kvs, acc, hn, hl, hs => by
    have hk : k ∉ acc.map (·.1) := by
      rw [List.map_append, List.nodup_append] at hn
      intro q
      exact hn.2.2 k q k (by simp) rfl
    have kfk : kf acc k = true := keyFits_leaf (fun q hq => by
      obtain ⟨p, hp, rfl⟩ := List.mem_map.mp hq
      exact hl p (List.mem_append_left _ hp)) (hl (k, v) (by simp))
    have kt : k.isTup = false := isTup_leaf (hl (k, v) (by simp))
    have la : acc.length ≤ 1000000 := by simp at hs; omega
    rw [dputs, if_pos ⟨kfk, kt, la⟩]
    have e : dput acc k v = acc ++ [(k, v)] := by unfold dput; rw [dget_none hk]; rfl
    rw [e, dputs_new kvs (acc ++ [(k, v)]) (by simpa using hn) (by simpa using hl) (by simpa using hs)]
    simp
/-- what stands behind a number, in a dict of numbers -/
theorem dget_map {β : Type} (f : β → Nat) (g : β → D) : ∀ (E : List β) (x : β), (E.map f).Nodup → x ∈ E → dget (E.map fun e => (dN (f e), g e)) (dN (f x)) = some (g x)
  | [], _, _, h => by cases h
  | e :: E, x, hn, h => by
    rw [List.map_cons, List.nodup_cons] at hn
    unfold dget
    rw [List.map_cons, List.find?_cons]
    by_cases q : f e = f x
    · have : e = x := by
        rcases List.mem_cons.mp h with rfl | h
        · rfl
        · exact absurd (q ▸ List.mem_map.mpr ⟨x, h, rfl⟩) hn.1
      subst this
      simp
    · have h' : x ∈ E := by
        rcases List.mem_cons.mp h with rfl | h
        · exact absurd rfl q
        · exact h
      have ih := dget_map f g E x hn.2 h'
      unfold dget at ih
      simp only [dN_inj, q, decide_false]
      exact ih
theorem idx_dic {ks vs : List D} {k v : D} (kk : keyFits ks k = true) (g : dget (ks.zip vs) k = some v) : opIdx (.dic ks vs) k = some v := by
  cases k <;> (simp only [opIdx, kk, if_true]; exact g)
theorem zip_map2 {β : Type} (f g : β → D) (E : List β) : (E.map f).zip (E.map g) = E.map fun e => (f e, g e) := by
  induction E with
  | nil => rfl
  | cons e E ih => simp [ih]
def kDofs (d : D) (h : MH) : R (List (D × D)) := match vw h d with
  | .dic ks vs => if ks.all (fun k => kOk k && k != .non && !k.isTup) = true then .ok (ks.zip vs) h else .bad
  | _ => .bad
@[simp] theorem evDL_ofs (C : Cal) (e : E) (ρ : Env) (h : MH) : evDL C (.ofs e) ρ h = (evE C e ρ h).bind kDofs := by rw [evDL]; rfl
theorem kDofs_d {d : D} {h : MH} {ks vs : List D} (v : vw h d = .dic ks vs) (l : ∀ k ∈ ks, leafK k = true) : kDofs d h = .ok (ks.zip vs) h := by
  unfold kDofs
  simp only [v]
  rw [if_pos]
  rw [List.all_eq_true]
  intro k hk
  have a := l k hk
  rw [kOk_leaf a, isTup_leaf a]
  cases k <;> first | (simp [leafK] at a; done) | rfl
theorem dks_zip (ks : List Nat) : (ks.map dN).zip (ks.map fun _ => D.bl true) = dks (ks.map dN) := by
  rw [zip_map2]; simp [dks, Function.comp_def]
end GM
end
section
set_option Elab.async false
set_option linter.all false
set_option maxRecDepth 100000
namespace GM
open PySem
def as2K (i j : Nat) (ρ : Env) (x y : D) (h : MH) : RS := if i < ρ.length ∧ j < ρ.length ∧ i ≠ j then .nx ((ρ.set i (some x)).set j (some y)) h else .bad
@[simp] theorem as2K_a (i j : Nat) (ρ : Env) (x y : D) (h : MH) : as2K i j ρ x y h = if i < ρ.length ∧ j < ρ.length ∧ i ≠ j then .nx ((ρ.set i (some x)).set j (some y)) h else .bad := Eq.trans rfl rfl
def kAsg2 (C : Cal) (i j : Nat) (b : E) (ρ : Env) (x : D) (h : MH) : RS := bindE (evE C b ρ h) ρ (as2K i j ρ x)
@[simp] theorem kAsg2_a (C : Cal) (i j : Nat) (b : E) (ρ : Env) (x : D) (h : MH) : kAsg2 C i j b ρ x h = bindE (evE C b ρ h) ρ (as2K i j ρ x) := Eq.trans rfl rfl
@[simp] theorem s_asg2 (sub : Nat → Nat → Bool) (C : Cal) (i j : Nat) (a b : E) (ρ : Env) (h : MH) : evS sub C (.asg2 i j a b) ρ h = bindE (evE C a ρ h) ρ (kAsg2 C i j b ρ) := by rw [evS]; rfl
/-! ### two clauses, pure -/
section
variable {C : Cal} {ρ : Env} {h : MH} {α β γ : Type} {t t2 : Tg} {it i2 : It} {own : List Nat} {elt : E} {ys : List α} {enc : α → D} {zs : α → List β} {enc2 : β → D} {ρ1 : α → Env} {src : Option (Nat × List D)} {src2 : α → Option (Nat × List D)}
theorem cls2 {k : Env → MH → R (List γ)} {g : α → β → List γ} (hi : evIt C it ρ h = .ok (ys.map enc, src) h) (hl : ys.length ≤ 3000) (ha : ∀ y ∈ ys, asgT t (enc y) (wipeE ρ own) = some (ρ1 y))
    (h2 : ∀ y ∈ ys, evIt C i2 (ρ1 y) h = .ok ((zs y).map enc2, src2 y) h) (l2 : ∀ y ∈ ys, (zs y).length ≤ 3000) (st : ∀ y ∈ ys, ∀ z ∈ zs y, cK k h (asgT t2 (enc2 z) (wipeE (ρ1 y) t2.slots)) = .ok (g y z) h)
    (hs : srcOk src h := by exact srcN _) (hs2 : ∀ y ∈ ys, srcOk (src2 y) h := by intro y _; exact srcN _) : evCls k C (.two t it .nil t2 i2 .nil) (wipeE ρ own) ρ h = .ok (ys.flatMap fun y => (zs y).flatMap (g y)) h := by
  rw [evCls_two, hi, R.bind_ok]
  simp only [List.length_map]
  rw [show decide (ys.length ≤ 3000) = true from decide_eq_true hl, need_true]
  refine goC_map hs ys fun y hy => ?_
  simp only [outF, ha y hy, evIfs_nil, R.bind_ok, if_true, kIn, h2 y hy, List.length_map]
  rw [show decide ((zs y).length ≤ 3000) = true from decide_eq_true (l2 y hy), need_true]
  refine goC_map (hs2 y hy) (zs y) fun z hz => ?_
  have e := st y hy z hz
  unfold outF
  cases q : asgT t2 (enc2 z) (wipeE (ρ1 y) t2.slots) with
  | none => rw [q] at e; cases e
  | some ρ2 =>
    rw [q] at e
    simp only [cK] at e
    simp only [evIfs_nil, R.bind_ok, if_true, e]
theorem comp2 {out : α → β → D} (hi : evIt C it ρ h = .ok (ys.map enc, src) h) (hl : ys.length ≤ 3000) (ha : ∀ y ∈ ys, asgT t (enc y) (wipeE ρ own) = some (ρ1 y))
    (h2 : ∀ y ∈ ys, evIt C i2 (ρ1 y) h = .ok ((zs y).map enc2, src2 y) h) (l2 : ∀ y ∈ ys, (zs y).length ≤ 3000) (st : ∀ y ∈ ys, ∀ z ∈ zs y, cK (evE C elt) h (asgT t2 (enc2 z) (wipeE (ρ1 y) t2.slots)) = .ok (out y z) h)
    (hs : srcOk src h := by exact srcN _) (hs2 : ∀ y ∈ ys, srcOk (src2 y) h := by intro y _; exact srcN _) : evL C (.comp elt (.two t it .nil t2 i2 .nil) own) ρ h = .ok (ys.flatMap fun y => (zs y).map (out y)) h := by
  rw [evL]
  rw [cls2 (g := fun y z => [out y z]) hi hl ha h2 l2 (fun y hy z hz => ?_) hs hs2]
  · congr 2
    funext y
    induction zs y with
    | nil => rfl
    | cons z r ih2 => rw [List.flatMap_cons, ih2]; rfl
  · have e := st y hy z hz
    cases q : asgT t2 (enc2 z) (wipeE (ρ1 y) t2.slots) with
    | none => rw [q] at e; cases e
    | some ρ2 =>
      rw [q] at e
      simp only [cK] at e ⊢
      rw [e]; rfl
theorem ssort2 {out : α → β → Int} (hi : evIt C it ρ h = .ok (ys.map enc, src) h) (hl : ys.length ≤ 3000) (ha : ∀ y ∈ ys, asgT t (enc y) (wipeE ρ own) = some (ρ1 y))
    (h2 : ∀ y ∈ ys, evIt C i2 (ρ1 y) h = .ok ((zs y).map enc2, src2 y) h) (l2 : ∀ y ∈ ys, (zs y).length ≤ 3000) (st : ∀ y ∈ ys, ∀ z ∈ zs y, cK (evE C elt) h (asgT t2 (enc2 z) (wipeE (ρ1 y) t2.slots)) = .ok (.int (out y z)) h)
    (h64 : (isetI (ys.flatMap fun y => (zs y).map (out y))).length < 64)
    (hs : srcOk src h := by exact srcN _) (hs2 : ∀ y ∈ ys, srcOk (src2 y) h := by intro y _; exact srcN _) : evL C (.ssort elt (.two t it .nil t2 i2 .nil) own) ρ h = .ok ((isetI (ys.flatMap fun y => (zs y).map (out y))).map D.int) h := by
  rw [evL]
  rw [cls2 (g := fun y z => [out y z]) hi hl ha h2 l2 (fun y hy z hz => ?_) hs hs2]
  · have e : (ys.flatMap fun y => (zs y).flatMap fun z => [out y z]) = ys.flatMap fun y => (zs y).map (out y) := by
      congr 1
      funext y
      induction zs y with
      | nil => rfl
      | cons z r ih2 => rw [List.flatMap_cons, ih2]; rfl
    rw [R.bind_ok, e, if_pos h64]
  · have e := st y hy z hz
    cases q : asgT t2 (enc2 z) (wipeE (ρ1 y) t2.slots) with
    | none => rw [q] at e; cases e
    | some ρ2 =>
      rw [q] at e
      simp only [cK] at e ⊢
      rw [e]; rfl
end
/-! ### ints in a row, as naturals -/
theorem isetI_nat {ns : List Int} {xs : List Nat} (pw : xs.Pairwise (· < ·)) (hm : ∀ k : Int, k ∈ ns ↔ ∃ x ∈ xs, k = (x : Int)) : (isetI ns).map D.int = xs.map dN := by
  have e : isetI ns = xs.map fun x : Nat => (x : Int) := pw_uniq (isetI_pw ns) (List.pairwise_map.mpr (pw.imp fun h => by omega)) fun k => by
    rw [isetI_mem, hm, List.mem_map]
    exact ⟨fun ⟨x, hx, e⟩ => ⟨x, hx, e.symm⟩, fun ⟨x, hx, e⟩ => ⟨x, hx, e.symm⟩⟩
  rw [e, List.map_map]; rfl
theorem uniqT {α β : Type} (f : α → β) : ∀ {E : List α} {x y : α}, (E.map f).Nodup → x ∈ E → y ∈ E → f x = f y → x = y
  | [], _, _, _, h, _, _ => by cases h
  | e :: E, x, y, hn, hx, hy, q => by
    rw [List.map_cons, List.nodup_cons] at hn
    rcases List.mem_cons.mp hx with h1 | h1
    · rcases List.mem_cons.mp hy with h2 | h2
      · exact h1.trans h2.symm
      · exact absurd (List.mem_map.mpr ⟨y, h2, q.symm.trans (congrArg f h1)⟩) hn.1
    · rcases List.mem_cons.mp hy with h2 | h2
      · exact absurd (List.mem_map.mpr ⟨x, h1, q.trans (congrArg f h2)⟩) hn.1
      · exact uniqT f hn.2 h1 h2 q
/-! ### a dict of live lists becomes plain -/
theorem frzL_refs {k f : Nat} : ∀ (E : List (Nat × List D)) (h : MH), (E.map (·.1)).Nodup → (∀ e ∈ E, h[k + e.1]? = some (.lst e.2)) → (∀ e ∈ E, D.pls e.2 = true) → ∃ h', frzL (frzD k (f + 2)) (E.map fun e => .ref (k + e.1)) h = some (E.map fun e => .lst e.2, h')
  | [], h, _, _, _ => ⟨h, rfl⟩
  | e :: E, h, hn, he, hp => by
    rw [List.map_cons, List.nodup_cons] at hn
    obtain ⟨h', q⟩ := frzL_refs (f := f) E (h.set (k + e.1) .dead) hn.2 (fun x hx => by
      rw [List.getElem?_set_ne, he x (List.mem_cons_of_mem _ hx)]
      intro z
      exact hn.1 (List.mem_map.mpr ⟨x, hx, by omega⟩)) fun x hx => hp x (List.mem_cons_of_mem _ hx)
    refine ⟨h', ?_⟩
    rw [List.map_cons, frzL]
    have : frzD k (f + 2) (.ref (k + e.1)) h = some (.lst e.2, h.set (k + e.1) .dead) := by
      rw [frzD, if_neg (by omega), he e (by simp)]
      simp only [frzL_pl (hp e (by simp)), Option.map_some]
    rw [this]
    simp only [q, Option.map_some, List.map_cons]
theorem exit_dl {h L : MH} {k : Nat} {ks : List D} {E : List (Nat × List D)} (e : L[k]? = some (.dic (ks.zip (E.map fun e => .ref (h.length + e.1))))) (hl : ks.length = E.length) (p : D.nrs h.length ks = true) (hn : (E.map (·.1)).Nodup) (hk : ∀ e ∈ E, e.1 ≠ k)
    (he : ∀ e ∈ E, L[e.1]? = some (.lst e.2)) (hp : ∀ e ∈ E, D.pls e.2 = true) : exit1 false false h (.ref (h.length + k)) (h ++ L) = .ok (.dic ks (E.map fun e => .lst e.2)) h := by
  unfold exit1
  have l : k < L.length := (List.getElem?_eq_some_iff.mp e).1
  have f1 : (ks.zip (E.map fun e => D.ref (h.length + e.1))).map (·.1) = ks := List.map_fst_zip (by simp [hl])
  have f2 : (ks.zip (E.map fun e => D.ref (h.length + e.1))).map (·.2) = E.map fun e => D.ref (h.length + e.1) := List.map_snd_zip (by simp [hl])
  obtain ⟨h', q⟩ := frzL_refs (k := h.length) (f := 5) E ((h ++ L).set (h.length + k) .dead) hn (fun x hx => by
    rw [hp_set, hp_get, List.getElem?_set_ne (fun z => hk x hx z.symm), he x hx]) hp
  rw [if_neg (by simp; intro q; subst q; simp at l), if_pos (hp_cut _ _ _), List.take_left, if_neg (by simp), frzN, frzD, if_neg (by omega), hp_get, e]
  simp only [f1, f2, p, if_true]
  rw [show (7 : Nat) = 5 + 2 from rfl, q]
  rfl
end GM
end
section
set_option Elab.async false
set_option linter.all false
set_option maxRecDepth 100000
namespace GM
open PySem
variable {sub : Nat → Nat → Bool}
/-! ### names, numbers, signs -/
def IsNm (s : Str) : Prop := 1 ≤ s.cps.toList.length ∧ s.cps.toList.length ≤ 8 ∧ ∀ c ∈ s.cps.toList, 97 ≤ c ∧ c ≤ 122
instance (s : Str) : Decidable (IsNm s) := by unfold IsNm; infer_instance
def letS : Str := ⟨#[97, 98, 99, 100, 101, 102, 103, 104, 105, 106, 107, 108, 109, 110, 111, 112, 113, 114, 115, 116, 117, 118, 119, 120, 121, 122]⟩
mutual
/-- texts that are not long, in plain data -/
def D.fine : D → Bool
  | .non | .int _ | .bl _ => true
  | .str s => decide (s.length ≤ 10000)
  | .tup ds | .lst ds => D.fines ds && decide (ds.length ≤ 100000)
  | _ => false
def D.fines : List D → Bool
  | [] => true
  | d :: ds => D.fine d && D.fines ds
end
mutual
theorem fine_pl : ∀ d : D, d.fine = true → d.pl = true
  | .non, _ => rfl
  | .bl _, _ => rfl
  | .int _, _ => rfl
  | .str _, _ => rfl
  | .tup ds, h => by rw [D.pl]; rw [D.fine, Bool.and_eq_true] at h; exact fines_pls ds h.1
  | .lst ds, h => by rw [D.pl]; rw [D.fine, Bool.and_eq_true] at h; exact fines_pls ds h.1
  | .dic _ _, h => nomatch h
  | .set _, h => nomatch h
  | .ref _, h => nomatch h
  | .fn _, h => nomatch h
  | .clo _ _, h => nomatch h
theorem fines_pls : ∀ ds : List D, D.fines ds = true → D.pls ds = true
  | [], _ => rfl
  | d :: ds, h => by
    rw [D.fines, Bool.and_eq_true] at h
    rw [D.pls, fine_pl d h.1, fines_pls ds h.2]; rfl
end
theorem fines_mem : ∀ {ds : List D}, D.fines ds = true → ∀ d ∈ ds, d.fine = true
  | [], _, _, h => by cases h
  | d :: ds, h, e, m => by
    rw [D.fines, Bool.and_eq_true] at h
    rcases List.mem_cons.mp m with rfl | m
    · exact h.1
    · exact fines_mem h.2 e m
theorem isa_fine {t : Ty} {d : D} (h : d.fine = true) : opIsa t d = some (isaB t d) := by rw [opIsa, if_pos (fine_pl d h)]
theorem vw_fine {h : MH} {d : D} (p : d.fine = true) : vw h d = d := by cases d <;> first | rfl | exact nomatch p
def isName : D → Bool
  | .str s => decide (1 ≤ s.length) && decide (s.length ≤ 8) && s.cps.toList.all fun c => decide (97 ≤ c ∧ c ≤ 122)
  | _ => false
theorem len_str {s : Str} (h : s.length ≤ 10000) : opBi .len [.str s] = some (.int s.length) := by rw [opBi, if_pos h]
theorem len_cps (s : Str) : s.length = s.cps.toList.length := by
  show s.cps.size = _
  simp
theorem isName_iff {s : Str} : isName (.str s) = true ↔ IsNm s := by
  simp only [isName, IsNm, ← len_cps, Bool.and_eq_true, decide_eq_true_eq, List.all_eq_true, and_assoc]
theorem in_let (c : Nat) : opCmp .isIn (.str ⟨#[c]⟩) (.str letS) = some (decide (97 ≤ c ∧ c ≤ 122)) := by
  have e : opCmp .isIn (.str ⟨#[c]⟩) (.str letS) = some (decide (c ∈ letS.cps.toList)) := rfl
  rw [e]
  congr 1
  apply decide_eq_decide.mpr
  simp only [letS, List.mem_cons, List.not_mem_nil, or_false]
  omega
theorem isname_st (n : Nat) (h : MH) (d : D) (p : d.fine = true) : run sub progT (n + 1) 0 [d] h = .ok (.bl (isName d)) h := by
  refine def_p (fd := b_is_name) (L := []) rfl rfl (by decide) rfl ?_ rfl
  rw [List.append_nil]
  show evSs sub _ b_is_name.body [some d, none] h = _
  by_cases q : isaB .str d = true
  · cases d <;> first | (simp [isaB] at q; done) | skip
    rename_i s
    have hs : s.length ≤ 10000 := by simpa [D.fine] using p
    have cp : evL (run sub progT n) b_is_name_l1 [some (.str s), none] h = .ok (s.cps.toList.map fun c => .bl (decide (97 ≤ c ∧ c ≤ 122))) h := by
      refine comp1 (enc := fun c => .str ⟨#[c]⟩) (by simp) (by rw [← len_cps]; omega) fun c hc => ?_
      simp
      rw [show (⟨#[97, 98, 99, 100, 101, 102, 103, 104, 105, 106, 107, 108, 109, 110, 111, 112, 113, 114, 115, 116, 117, 118, 119, 120, 121, 122]⟩ : Str) = letS from rfl, in_let]
      simp
    by_cases a : 1 ≤ (s.length : Int)
    · have a' : 1 ≤ s.length := by omega
      by_cases b : (s.length : Int) ≤ 8
      · have b' : s.length ≤ 8 := by omega
        simp [b_is_name, len_str hs, a, b, cp, isName, a', b']
      · have b' : ¬ s.length ≤ 8 := by omega
        simp [b_is_name, len_str hs, a, b, isName, a', b']
    · have a' : ¬ 1 ≤ s.length := by omega
      simp [b_is_name, len_str hs, a, isName, a']
  · have e : isName d = false := by cases d <;> first | rfl | exact absurd (show isaB .str _ = true from rfl) q
    simp [b_is_name, vw_fine p, isa_fine p, q, e]
def isWhole (d : D) (lo hi : Int) : Bool := match d with
  | .int i => decide (lo ≤ i) && decide (i ≤ hi)
  | _ => false
theorem iswhole_st (n : Nat) (h : MH) (d : D) (lo hi : Int) (p : d.fine = true) : run sub progT (n + 1) 1 [d, .int lo, .int hi] h = .ok (.bl (isWhole d lo hi)) h := by
  refine def_p (fd := b_is_whole) (L := []) rfl rfl (by decide) rfl ?_ rfl
  rw [List.append_nil]
  show evSs sub _ b_is_whole.body [some d, some (.int lo), some (.int hi)] h = _
  by_cases q : isaB .int d = true
  · cases d <;> first | (simp [isaB] at q; done) | skip
    · rename_i b
      simp [b_is_whole, op_isa_bl, isaB, isWhole]
    · rename_i i
      by_cases a : lo ≤ i
      · simp [b_is_whole, a, isWhole]
      · simp [b_is_whole, a, isWhole]
  · have e : isWhole d lo hi = false := by cases d <;> first | rfl | exact absurd (show isaB .int _ = true from rfl) q
    simp [b_is_whole, vw_fine p, isa_fine p, q, e]
def isSign : D → Bool
  | .tup [a, b] => isName a && isWhole b 0 2
  | _ => false
theorem issign_st (n : Nat) (h : MH) (d : D) (p : d.fine = true) : run sub progT (n + 2) 2 [d] h = .ok (.bl (isSign d)) h := by
  refine def_p (fd := b_is_sign) (L := []) rfl rfl (by decide) rfl ?_ rfl
  rw [List.append_nil]
  show evSs sub _ b_is_sign.body [some d] h = _
  by_cases q : isaB .tuple d = true
  · cases d <;> first | (simp [isaB] at q; done) | skip
    rename_i ds
    have fs : ∀ d ∈ ds, d.fine = true := fines_mem (by rw [D.fine, Bool.and_eq_true] at p; exact p.1)
    by_cases l : ds.length = 2
    · rcases ds with _ | ⟨a, _ | ⟨b, _ | ⟨c, ds⟩⟩⟩ <;> first | (simp at l; done) | skip
      have e1 := isname_st (sub := sub) n h a (fs a (by simp))
      have e2 := iswhole_st (sub := sub) n h b 0 2 (fs b (by simp))
      cases z : isName a <;> simp [b_is_sign, isa_fine p, e1, e2, z, isSign]
    · have e : isSign (.tup ds) = false := by
        rcases ds with _ | ⟨a, _ | ⟨b, _ | ⟨c, ds⟩⟩⟩ <;> first | rfl | (simp at l; done)
      have l' : ¬ (ds.length : Int) = 2 := by omega
      simp [b_is_sign, isa_fine p, l', e]
  · have e : isSign d = false := by cases d <;> first | rfl | exact absurd (show isaB .tuple _ = true from rfl) q
    simp [b_is_sign, vw_fine p, isa_fine p, q, e]
/-! signs -/
abbrev Sg := List (Str × Nat)
abbrev encSig (p : Str × Nat) : D := .tup [.str p.1, dN p.2]
abbrev encS (sg : Sg) : D := .tup (sg.map encSig)
def nmLt (a b : Str) : Prop := a.cps.toList < b.cps.toList
instance (a b : Str) : Decidable (nmLt a b) := by unfold nmLt; infer_instance
structure SgOk (sg : Sg) : Prop where
  one : 1 ≤ sg.length
  five : sg.length ≤ 5
  nm : ∀ p ∈ sg, IsNm p.1
  rk : ∀ p ∈ sg, p.2 ≤ 2
  asc : sg.Pairwise fun a b => nmLt a.1 b.1
  leaf : ∃ p ∈ sg, p.2 = 0
theorem isSign_enc {d : D} : isSign d = true ↔ ∃ p : Str × Nat, d = encSig p ∧ IsNm p.1 ∧ p.2 ≤ 2 := by
  constructor
  · intro h
    cases d <;> first | (simp [isSign] at h; done) | skip
    rename_i ds
    rcases ds with _ | ⟨a, _ | ⟨b, _ | ⟨c, ds⟩⟩⟩ <;> first | (simp [isSign] at h; done) | skip
    rw [isSign, Bool.and_eq_true] at h
    cases a <;> first | (simp [isName] at h; done) | skip
    cases b <;> first | (simp [isWhole] at h; done) | skip
    rename_i s i
    have h2 := h.2
    simp only [isWhole, Bool.and_eq_true, decide_eq_true_eq] at h2
    refine ⟨(s, i.toNat), ?_, isName_iff.mp h.1, by show i.toNat ≤ 2; omega⟩
    show D.tup [.str s, .int i] = .tup [.str s, .int i.toNat]
    rw [Int.toNat_of_nonneg h2.1]
  · rintro ⟨p, rfl, a, b⟩
    rw [encSig, isSign, isName_iff.mpr a]
    simp [isWhole]; omega
theorem signs_enc : ∀ {ds : List D}, ds.all isSign = true → ∃ sg : Sg, ds = sg.map encSig ∧ ∀ p ∈ sg, IsNm p.1 ∧ p.2 ≤ 2
  | [], _ => ⟨[], rfl, by simp⟩
  | d :: ds, h => by
    rw [List.all_cons, Bool.and_eq_true] at h
    obtain ⟨p, rfl, a⟩ := isSign_enc.mp h.1
    obtain ⟨sg, rfl, b⟩ := signs_enc h.2
    exact ⟨p :: sg, rfl, by intro q hq; rcases List.mem_cons.mp hq with rfl | hq; exact a; exact b q hq⟩
def IsSg (d : D) : Prop := ∃ sg, SgOk sg ∧ d = encS sg
open Classical in
noncomputable def isSigns (d : D) : Bool := decide (IsSg d)
theorem isSigns_f {d : D} (h : ¬ IsSg d) : isSigns d = false := by simp [isSigns, h]
theorem isSigns_t {sg : Sg} (h : SgOk sg) : isSigns (encS sg) = true := by simp only [isSigns, decide_eq_true_eq]; exact ⟨sg, h, rfl⟩
theorem encS_tup {sg : Sg} {ds : List D} (h : D.tup ds = encS sg) : ds = sg.map encSig := by injection h
theorem encS_inj {a b : Sg} (h : encS a = encS b) : a = b := List.map_inj_right (fun a b h => by
  cases a; cases b
  simp only [encSig, D.tup.injEq, List.cons.injEq, D.str.injEq, dN_inj, and_true] at h
  rw [h.1, h.2]) |>.mp (encS_tup h)
@[simp] theorem pu_encSig (n : Nat) (p : Str × Nat) : PU (n + 1) (encSig p) := by simp
theorem pu_encS (n : Nat) (sg : Sg) : PU (n + 2) (encS sg) := by simp
theorem nmLt_tr (a b c : Str) : nmLt a b → nmLt b c → nmLt a c := List.lt_trans
theorem sig_lt_iff (a b : Str × Nat) : decide (nmLt a.1 b.1) = true ↔ nmLt a.1 b.1 := by simp
theorem issigns_st (n : Nat) (h : MH) (d : D) (p : d.fine = true) : run sub progT (n + 3) 3 [d] h = .ok (.bl (isSigns d)) h := by
  refine def_p (fd := b_is_signs) (L := []) rfl rfl (by decide) rfl ?_ rfl
  rw [List.append_nil]
  show evSs sub _ b_is_signs.body [some d, none, none, none, none] h = _
  by_cases q : isaB .tuple d = true
  case neg =>
    have e : isSigns d = false := isSigns_f fun ⟨sg, _, e⟩ => q (by rw [e]; rfl)
    simp [b_is_signs, vw_fine p, isa_fine p, q, e]
  cases d <;> first | (simp [isaB] at q; done) | skip
  rename_i ds
  have fp : (D.fines ds = true ∧ ds.length ≤ 100000) := by simpa [D.fine] using p
  have fs : ∀ d ∈ ds, d.fine = true := fines_mem fp.1
  by_cases l1 : 1 ≤ ds.length
  case neg =>
    have e : isSigns (.tup ds) = false := isSigns_f fun ⟨sg, k, e⟩ => l1 (by rw [encS_tup e, List.length_map]; exact k.one)
    have l1' : ¬ (1 : Int) ≤ (ds.length : Int) := by omega
    simp [b_is_signs, isa_fine p, l1', e]
  have l1' : (1 : Int) ≤ (ds.length : Int) := by omega
  by_cases l5 : ds.length ≤ 5
  case neg =>
    have e : isSigns (.tup ds) = false := isSigns_f fun ⟨sg, k, e⟩ => l5 (by rw [encS_tup e, List.length_map]; exact k.five)
    have l5' : ¬ (ds.length : Int) ≤ 5 := by omega
    simp [b_is_signs, isa_fine p, l1', l5', e]
  have l5' : (ds.length : Int) ≤ 5 := by omega
  have c1 : evL (run sub progT (n + 2)) b_is_signs_l1 [some (.tup ds), none, none, none, none] h = .ok (ds.map fun d => .bl (isSign d)) h := by
    refine comp1 (ys := ds) (enc := id) (by simp) (by omega) fun d hd => ?_
    simp [issign_st (sub := sub) n h d (fs d hd)]
  by_cases a1 : ds.all isSign = true
  case neg =>
    have e : isSigns (.tup ds) = false := isSigns_f fun ⟨sg, k, e⟩ => a1 (by
      rw [encS_tup e, List.all_eq_true]
      intro d hd
      obtain ⟨p, hp, rfl⟩ := List.mem_map.mp hd
      exact isSign_enc.mpr ⟨p, rfl, k.nm p hp, k.rk p hp⟩)
    simp only [Bool.not_eq_true] at a1
    simp [b_is_signs, isa_fine p, l1', l5', c1, a1, e]
  obtain ⟨sg, rfl, ok⟩ := signs_enc a1
  rw [List.length_map] at l1 l5 l1' l5'
  have a1' : (sg.all fun p => isSign (encSig p)) = true := by rw [List.all_map] at a1; exact a1
  have c2 : evL (run sub progT (n + 2)) b_is_signs_l2 [some (encS sg), none, none, none, none] h = .ok ((List.range (sg.length - 1)).map fun k => .bl (decide (nmLt (gD sg k default).1 (gD sg (k + 1) default).1))) h := by
    refine comp1 (ys := List.range (sg.length - 1)) (enc := fun (k : Nat) => .int k) ?_ (by simp; omega) fun k hk => ?_
    · simp only [evIt_range1, ev_bin, ev_bi, evEs_cons, ev_var, List.getElem?_cons_zero, rv_s, R.bind_ok, kEs1_a, evEs_nil, kEs2_a, kBi_a, List.map_cons, List.map_nil, vw_tup, bi_lenT, R.ofO_some, kBin1_a, ev_int, kBin2_a, vw_int, bin_sub, List.length_map]
      rw [show ((sg.length : Int) - 1) = ((sg.length - 1 : Nat) : Int) by omega, rg1K_n (by omega)]
    · have hk' : k < sg.length - 1 := by simpa using hk
      have g1 := getD_get (xs := sg) (k := k) (by omega) default
      have g2 := getD_get (xs := sg) (k := k + 1) (by omega) default
      simp [g1, g2, nmLt]
  have a2 : (List.range (sg.length - 1)).all (fun k => decide (nmLt (gD sg k default).1 (gD sg (k + 1) default).1)) = decide (sg.Pairwise fun a b => nmLt a.1 b.1) := by
    rw [Bool.eq_iff_iff, range_adj (fun a b : Str × Nat => decide (nmLt a.1 b.1)) default sg, decide_eq_true_eq]
    exact adj_pw (fun a b => sig_lt_iff a b) (fun a b c => nmLt_tr a.1 b.1 c.1) sg
  have c3 : evL (run sub progT (n + 2)) b_is_signs_l3 [some (encS sg), none, none, none, none] h = .ok (sg.map fun p => .bl (decide (p.2 = 0))) h := by
    refine comp1 (ys := sg) (enc := encSig) (by simp) (by omega) fun q hq => ?_
    simp
  by_cases a3 : sg.Pairwise fun a b => nmLt a.1 b.1
  case neg =>
    have e : isSigns (encS sg) = false := isSigns_f fun ⟨sg', k, e⟩ => a3 (by rw [encS_inj e]; exact k.asc)
    simp [b_is_signs, isa_fine p, l1', l5', c1, a1', c2, Function.comp_def, a2, a3, e]
  by_cases a4 : ∃ p ∈ sg, p.2 = 0
  · have e : isSigns (encS sg) = true := isSigns_t ⟨l1, l5, fun p hp => (ok p hp).1, fun p hp => (ok p hp).2, a3, a4⟩
    have e4 : (sg.any fun p => decide (p.2 = 0)) = true := by simpa using a4
    simp [b_is_signs, isa_fine p, l1', l5', c1, a1', c2, Function.comp_def, a2, a3, c3, e, e4]
  · have e : isSigns (encS sg) = false := isSigns_f fun ⟨sg', k, e⟩ => a4 (by rw [encS_inj e]; exact k.leaf)
    have e4 : (sg.any fun p => decide (p.2 = 0)) = false := by
      rw [← Bool.not_eq_true]; simpa using a4
    simp [b_is_signs, isa_fine p, l1', l5', c1, a1', c2, Function.comp_def, a2, a3, c3, e, e4]
end GM
end
section
set_option Elab.async false
set_option linter.all false
set_option maxRecDepth 100000
namespace GM
open PySem
variable {sub : Nat → Nat → Bool}
/-! ### ranks, rows, guards -/
def rkOf (sg : Sg) (nm : Str) : Option Nat := sg.findSome? fun p => if p.1 = nm then some p.2 else none
def rkD : Option Nat → D
  | none => .non
  | some r => dN r
theorem rankof_st (n : Nat) (h : MH) (sg : Sg) (nm : Str) : run sub progT (n + 1) 4 [encS sg, .str nm] h = .ok (rkD (rkOf sg nm)) h := by
  refine def_p (fd := b_rank_of) (L := []) rfl rfl (by decide) rfl ?_ (by cases rkOf sg nm <;> rfl)
  rw [List.append_nil]
  show evSs sub _ b_rank_of.body [some (encS sg), some (.str nm), none, none] h = _
  have lp : evS sub (run sub progT n) b_rank_of_s1 [some (encS sg), some (.str nm), none, none] h = fsK [some (encS sg), some (.str nm), none, none] h (sg.findSome? fun p => if p.1 = nm then some (dN p.2) else none) := by
    rw [b_rank_of_s1, s_fr]
    simp only [evIt_seq, ev_var, List.getElem?_cons_zero, rv_s, R.bind_ok, kItems_a, items_t, R.ofO_some, bindE_ok]
    refine fr_find (enc := encSig) _ sg fun p hp => ?_
    by_cases q : p.1 = nm
    · simp [q]
    · simp [q]
  have e : (sg.findSome? fun p => if p.1 = nm then some (dN p.2) else none) = (rkOf sg nm).map dN := by
    unfold rkOf
    clear lp
    induction sg with
    | nil => rfl
    | cons p sg ih' =>
      rw [List.findSome?_cons, List.findSome?_cons]
      by_cases q : p.1 = nm
      · simp [q]
      · rw [if_neg q, if_neg q]; exact ih'
  rw [e] at lp
  cases q : rkOf sg nm with
  | none => simp [b_rank_of, lp, q, rkD]
  | some r => simp [b_rank_of, lp, q, rkD]
/-! states -/
abbrev encB (b : List Nat) : D := .tup (b.map dN)
def IsSts (m : Nat) (d : D) : Prop := ∃ ss : List Nat, d = encB ss ∧ (∀ s ∈ ss, s < m) ∧ ss.Pairwise (· < ·)
open Classical in
noncomputable def isSts (m : Nat) (d : D) : Bool := decide (IsSts m d)
theorem encB_tup {b : List Nat} {ds : List D} (h : D.tup ds = encB b) : ds = b.map dN := by injection h
theorem mapN_inj {a b : List Nat} (h : a.map dN = b.map dN) : a = b := List.map_inj_right (fun a b h => by rwa [dN_inj] at h) |>.mp h
theorem encB_inj {a b : List Nat} (h : encB a = encB b) : a = b := mapN_inj (encB_tup h)
theorem isWhole_enc {d : D} {m : Nat} : isWhole d 0 ((m : Int) - 1) = true ↔ ∃ s : Nat, d = dN s ∧ s < m := by
  constructor
  · intro h
    cases d <;> first | (simp [isWhole] at h; done) | skip
    rename_i i
    simp only [isWhole, Bool.and_eq_true, decide_eq_true_eq] at h
    exact ⟨i.toNat, by rw [dN, Int.toNat_of_nonneg h.1], by omega⟩
  · rintro ⟨s, rfl, a⟩
    simp [isWhole]; omega
theorem wholes_enc {m : Nat} : ∀ {ds : List D}, (ds.all fun d => isWhole d 0 ((m : Int) - 1)) = true → ∃ ss : List Nat, ds = ss.map dN ∧ ∀ s ∈ ss, s < m
  | [], _ => ⟨[], rfl, by simp⟩
  | d :: ds, h => by
    rw [List.all_cons, Bool.and_eq_true] at h
    obtain ⟨p, rfl, a⟩ := isWhole_enc.mp h.1
    obtain ⟨sg, rfl, b⟩ := wholes_enc h.2
    exact ⟨p :: sg, rfl, by intro q hq; rcases List.mem_cons.mp hq with rfl | hq; exact a; exact b q hq⟩
theorem wholes_all {m : Nat} {ss : List Nat} (h : ∀ s ∈ ss, s < m) : ((ss.map dN).all fun d => isWhole d 0 ((m : Int) - 1)) = true := by
  rw [List.all_eq_true]
  intro d hd
  obtain ⟨s, hs, rfl⟩ := List.mem_map.mp hd
  exact isWhole_enc.mpr ⟨s, rfl, h s hs⟩
theorem isSts_f {m : Nat} {d : D} (h : ¬ IsSts m d) : isSts m d = false := by simp [isSts, h]
theorem isSts_t {m : Nat} {d : D} (h : IsSts m d) : isSts m d = true := by simp [isSts, h]
theorem arestates_st (n : Nat) (h : MH) (m : Nat) (d : D) (p : d.fine = true) : run sub progT (n + 2) 6 [dN m, d] h = .ok (.bl (isSts m d)) h := by
  refine def_p (fd := b_are_states) (L := []) rfl rfl (by decide) rfl ?_ rfl
  rw [List.append_nil]
  show evSs sub _ b_are_states.body [some (dN m), some d, none, none] h = _
  by_cases q : isaB .tuple d = true
  case neg =>
    have e : isSts m d = false := isSts_f fun ⟨sg, e, _⟩ => q (by rw [e]; rfl)
    simp [b_are_states, vw_fine p, isa_fine p, q, e]
  cases d <;> first | (simp [isaB] at q; done) | skip
  rename_i ds
  have fp : (D.fines ds = true ∧ ds.length ≤ 100000) := by simpa [D.fine] using p
  have fs : ∀ d ∈ ds, d.fine = true := fines_mem fp.1
  have c1 : evL (run sub progT (n + 1)) b_are_states_l1 [some (dN m), some (.tup ds), none, none] h = .ok (ds.map fun d => .bl (isWhole d 0 ((m : Int) - 1))) h := by
    refine comp1 (ys := ds) (enc := id) (by simp) (by omega) fun d hd => ?_
    simp [iswhole_st (sub := sub) n h d _ _ (fs d hd)]
  by_cases a1 : (ds.all fun d => isWhole d 0 ((m : Int) - 1)) = true
  case neg =>
    have e : isSts m (.tup ds) = false := isSts_f fun ⟨ss, e, k, _⟩ => a1 (by rw [encB_tup e]; exact wholes_all k)
    simp only [Bool.not_eq_true] at a1
    simp [b_are_states, isa_fine p, c1, a1, e]
  obtain ⟨ss, rfl, ok⟩ := wholes_enc a1
  have a1' : (ss.all fun s => isWhole (dN s) 0 ((m : Int) - 1)) = true := by rw [List.all_map] at a1; exact a1
  have l : ss.length ≤ 100000 := by simpa using fp.2
  have c2 : evL (run sub progT (n + 1)) b_are_states_l2 [some (dN m), some (encB ss), none, none] h = .ok ((List.range (ss.length - 1)).map fun k => .bl (decide (gD ss k 0 < gD ss (k + 1) 0))) h := by
    refine comp1 (ys := List.range (ss.length - 1)) (enc := fun (k : Nat) => .int k) ?_ (by simp; omega) fun k hk => ?_
    · simp only [evIt_range1, ev_bin, ev_bi, evEs_cons, ev_var, List.getElem?_cons_zero, List.getElem?_cons_succ, rv_s, R.bind_ok, kEs1_a, evEs_nil, kEs2_a, kBi_a, List.map_cons, List.map_nil, vw_tup, bi_lenT, R.ofO_some, kBin1_a, ev_int, kBin2_a, vw_int, bin_sub, List.length_map]
      by_cases z : ss.length = 0
      · rw [z]; exact rg1K_i (by decide) (by decide)
      · rw [show ((ss.length : Int) - 1) = ((ss.length - 1 : Nat) : Int) by omega, rg1K_n (by omega)]
    · have hk' : k < ss.length - 1 := by simpa using hk
      have g1 := getD_get (xs := ss) (k := k) (by omega) 0
      have g2 := getD_get (xs := ss) (k := k + 1) (by omega) 0
      simp [g1, g2]
  have a2 : (List.range (ss.length - 1)).all (fun k => decide (gD ss k 0 < gD ss (k + 1) 0)) = decide (ss.Pairwise (· < ·)) := by
    rw [Bool.eq_iff_iff, range_adj (fun a b : Nat => decide (a < b)) 0 ss, decide_eq_true_eq]
    exact adj_pw (R := fun a b : Nat => a < b) (fun a b => by simp) (fun a b c => Nat.lt_trans) ss
  have e : isSts m (encB ss) = decide (ss.Pairwise (· < ·)) := by
    by_cases z : ss.Pairwise (· < ·)
    · rw [decide_eq_true z]; exact isSts_t ⟨ss, rfl, ok, z⟩
    · rw [decide_eq_false z]; exact isSts_f fun ⟨s2, e2, _, z2⟩ => z (by rw [encB_inj e2]; exact z2)
  simp [b_are_states, isa_fine p, c1, a1', c2, a2, Function.comp_def, e]
/-! rows -/
abbrev Row := Str × List Nat × Nat
abbrev encRow (r : Row) : D := .tup [.str r.1, encB r.2.1, dN r.2.2]
def rowLt (a b : Row) : Prop := nmLt a.1 b.1 ∨ (a.1 = b.1 ∧ (a.2.1 < b.2.1 ∨ (a.2.1 = b.2.1 ∧ a.2.2 < b.2.2)))
instance (a b : Row) : Decidable (rowLt a b) := by unfold rowLt; infer_instance
def RowOk (sg : Sg) (m : Nat) (r : Row) : Prop := rkOf sg r.1 = some r.2.1.length ∧ (∀ s ∈ r.2.1, s < m) ∧ r.2.2 < m
def IsRow (sg : Sg) (m : Nat) (d : D) : Prop := ∃ r, RowOk sg m r ∧ d = encRow r
open Classical in
noncomputable def isRow (sg : Sg) (m : Nat) (d : D) : Bool := decide (IsRow sg m d)
theorem isRow_f {sg : Sg} {m : Nat} {d : D} (h : ¬ IsRow sg m d) : isRow sg m d = false := by simp [isRow, h]
theorem isRow_t {sg : Sg} {m : Nat} {d : D} (h : IsRow sg m d) : isRow sg m d = true := by simp [isRow, h]
theorem isrow_st (n : Nat) (h : MH) (sg : Sg) (m : Nat) (d : D) (p : d.fine = true) : run sub progT (n + 2) 5 [encS sg, dN m, d] h = .ok (.bl (isRow sg m d)) h := by
  refine def_p (fd := b_is_row) (L := []) rfl rfl (by decide) rfl ?_ rfl
  rw [List.append_nil]
  show evSs sub _ b_is_row.body [some (encS sg), some (dN m), some d, none] h = _
  by_cases q : isaB .tuple d = true
  case neg =>
    have e : isRow sg m d = false := isRow_f fun ⟨r, _, e⟩ => q (by rw [e]; rfl)
    simp [b_is_row, vw_fine p, isa_fine p, q, e]
  cases d <;> first | (simp [isaB] at q; done) | skip
  rename_i ds
  have fp : (D.fines ds = true ∧ ds.length ≤ 100000) := by simpa [D.fine] using p
  have fs : ∀ d ∈ ds, d.fine = true := fines_mem fp.1
  by_cases l : ds.length = 3
  case neg =>
    have e : isRow sg m (.tup ds) = false := isRow_f fun ⟨r, _, e⟩ => l (by injection e with e; rw [e]; rfl)
    have l' : ¬ (ds.length : Int) = 3 := by omega
    simp [b_is_row, isa_fine p, l', e]
  rcases ds with _ | ⟨a, _ | ⟨b, _ | ⟨c, _ | ⟨x, ds⟩⟩⟩⟩ <;> first | (simp at l; done) | skip
  have fa := fs a (by simp)
  have fb := fs b (by simp)
  have fc := fs c (by simp)
  by_cases qa : isaB .str a = true
  case neg =>
    have e : isRow sg m (.tup [a, b, c]) = false := isRow_f fun ⟨r, _, e⟩ => qa (by simp only [encRow, D.tup.injEq, List.cons.injEq] at e; rw [e.1]; rfl)
    simp [b_is_row, isa_fine p, isa_fine fa, vw_fine fa, qa, e]
  by_cases qb : isaB .tuple b = true
  case neg =>
    have e : isRow sg m (.tup [a, b, c]) = false := isRow_f fun ⟨r, _, e⟩ => qb (by simp only [encRow, D.tup.injEq, List.cons.injEq] at e; rw [e.2.1]; rfl)
    simp [b_is_row, isa_fine p, isa_fine fa, vw_fine fa, isa_fine fb, vw_fine fb, qa, qb, e]
  cases a <;> first | (simp [isaB] at qa; done) | skip
  rename_i nm
  cases b <;> first | (simp [isaB] at qb; done) | skip
  rename_i bs
  have fbs : (D.fines bs = true ∧ bs.length ≤ 100000) := by simpa [D.fine] using fb
  have er := rankof_st (sub := sub) n h sg nm
  have en : opCmp .ne (rkD (rkOf sg nm)) (.int bs.length) = some (decide (rkOf sg nm ≠ some bs.length)) := by
    cases z : rkOf sg nm with
    | none => rw [rkD, cmp_ne (by simp) (by simp)]; simp
    | some r => rw [rkD, cmp_ne (by simp) (by simp)]; simp
  have vr : vw h (rkD (rkOf sg nm)) = rkD (rkOf sg nm) := by cases rkOf sg nm <;> rfl
  by_cases z : rkOf sg nm = some bs.length
  case neg =>
    have e : isRow sg m (.tup [.str nm, .tup bs, c]) = false := isRow_f fun ⟨r, k, e⟩ => z (by
      simp only [encRow, D.tup.injEq, List.cons.injEq, D.str.injEq] at e
      rw [e.1, e.2.1, List.length_map]; exact k.1)
    simp [b_is_row, isa_fine p, isa_fine fa, isa_fine fb, er, en, vr, z, e]
  have ap : opBin .add (.tup bs) (.tup [c]) = some (.tup (bs ++ [c])) := bin_tup (by simp; omega)
  have c1 : evL (run sub progT (n + 1)) b_is_row_l1 [some (encS sg), some (dN m), some (.tup [.str nm, .tup bs, c]), none] h = .ok ((bs ++ [c]).map fun d => .bl (isWhole d 0 ((m : Int) - 1))) h := by
    refine comp1 (ys := bs ++ [c]) (enc := id) (by simp [ap]) (by simp; omega) fun d hd => ?_
    have fd : d.fine = true := by
      rcases List.mem_append.mp hd with z | z
      · exact fines_mem fbs.1 d z
      · simp at z; rw [z]; exact fc
    simp [iswhole_st (sub := sub) n h d _ _ fd]
  have ea := bi_all (fun d => isWhole d 0 ((m : Int) - 1)) (bs ++ [c])
  have e : isRow sg m (.tup [.str nm, .tup bs, c]) = (bs ++ [c]).all fun d => isWhole d 0 ((m : Int) - 1) := by
    by_cases w : ((bs ++ [c]).all fun d => isWhole d 0 ((m : Int) - 1)) = true
    · rw [w]
      obtain ⟨ss, e, k⟩ := wholes_enc w
      rw [List.all_append, Bool.and_eq_true] at w
      obtain ⟨s1, rfl, k1⟩ := wholes_enc w.1
      obtain ⟨s2, rfl, k2⟩ := isWhole_enc.mp (show isWhole c 0 ((m : Int) - 1) = true by simpa using w.2)
      exact isRow_t ⟨(nm, s1, s2), ⟨by simpa using z, k1, k2⟩, rfl⟩
    · have w' := w
      simp only [Bool.not_eq_true] at w'
      rw [w']
      refine isRow_f fun ⟨r, k, e⟩ => w ?_
      simp only [encRow, D.tup.injEq, List.cons.injEq, D.str.injEq, and_true] at e
      rw [e.2.1, e.2.2, List.all_append, wholes_all k.2.1]
      simp only [List.all_cons, List.all_nil, Bool.and_true, Bool.true_and]
      exact isWhole_enc.mpr ⟨_, rfl, k.2.2⟩
  rw [e]
  have en' : decide (rkOf sg nm ≠ some bs.length) = false := by simp [z]
  rw [en'] at en
  simp [b_is_row, isa_fine p, isa_fine fa, isa_fine fb, er, en, vr, c1, ea, -List.map_append, -List.all_append]
end GM
end
section
set_option Elab.async false
set_option linter.all false
set_option maxRecDepth 100000
namespace GM
open PySem
variable {sub : Nat → Nat → Bool}
/-! ### guards -/
structure Gd where
  sg : Sg
  many : Nat
  rows : List Row
  ends : List Nat
abbrev encG (g : Gd) : D := .tup [encS g.sg, dN g.many, .tup (g.rows.map encRow), encB g.ends]
structure GdOk (g : Gd) : Prop where
  sg : SgOk g.sg
  m1 : 1 ≤ g.many
  m24 : g.many ≤ 24
  rows : ∀ r ∈ g.rows, RowOk g.sg g.many r
  asc : g.rows.Pairwise rowLt
  len : g.rows.length ≤ 3000
  ends : ∀ s ∈ g.ends, s < g.many
  easc : g.ends.Pairwise (· < ·)
def IsGd (d : D) : Prop := ∃ g, GdOk g ∧ d = encG g
open Classical in
noncomputable def isGd (d : D) : Bool := decide (IsGd d)
theorem isGd_f {d : D} (h : ¬ IsGd d) : isGd d = false := by simp [isGd, h]
theorem isGd_t {g : Gd} (h : GdOk g) : isGd (encG g) = true := by simp only [isGd, decide_eq_true_eq]; exact ⟨g, h, rfl⟩
theorem encRow_inj {a b : Row} (h : encRow a = encRow b) : a = b := by
  obtain ⟨a1, a2, a3⟩ := a
  obtain ⟨b1, b2, b3⟩ := b
  simp only [encRow, D.tup.injEq, List.cons.injEq, D.str.injEq, dN_inj, and_true] at h
  obtain ⟨rfl, h2, rfl⟩ := h
  rw [mapN_inj h2]
theorem rows_inj {a b : List Row} (h : a.map encRow = b.map encRow) : a = b := List.map_inj_right (fun a b h => encRow_inj h) |>.mp h
theorem encG_inj {a b : Gd} (h : encG a = encG b) : a = b := by
  obtain ⟨a1, a2, a3, a4⟩ := a
  obtain ⟨b1, b2, b3, b4⟩ := b
  simp only [encG, D.tup.injEq, List.cons.injEq, dN_inj, and_true] at h
  obtain ⟨h1, rfl, h3, h4⟩ := h
  rw [encS_inj (a := a1) (b := b1) (by rw [encS, h1]), rows_inj h3, mapN_inj h4]
theorem rows_enc {sg : Sg} {m : Nat} : ∀ {ds : List D}, ds.all (isRow sg m) = true → ∃ rs : List Row, ds = rs.map encRow ∧ ∀ r ∈ rs, RowOk sg m r
  | [], _ => ⟨[], rfl, by simp⟩
  | d :: ds, h => by
    rw [List.all_cons, Bool.and_eq_true] at h
    obtain ⟨r, a, rfl⟩ : IsRow sg m d := by simpa [isRow] using h.1
    obtain ⟨rs, rfl, b⟩ := rows_enc h.2
    exact ⟨r :: rs, rfl, by intro q hq; rcases List.mem_cons.mp hq with rfl | hq; exact a; exact b q hq⟩
theorem rowLt_tr (a b c : Row) (x : rowLt a b) (y : rowLt b c) : rowLt a c := by
  unfold rowLt at *
  rcases x with x | ⟨x1, x⟩
  · rcases y with y | ⟨y1, _⟩
    · exact .inl (nmLt_tr _ _ _ x y)
    · exact .inl (y1 ▸ x)
  · rcases y with y | ⟨y1, y⟩
    · exact .inl (x1 ▸ y)
    · refine .inr ⟨x1.trans y1, ?_⟩
      rcases x with x | ⟨x2, x⟩
      · rcases y with y | ⟨y2, _⟩
        · exact .inl (List.lt_trans x y)
        · exact .inl (y2 ▸ x)
      · rcases y with y | ⟨y2, y⟩
        · exact .inl (x2 ▸ y)
        · exact .inr ⟨x2.trans y2, Nat.lt_trans x y⟩
theorem pu_encB (n : Nat) (b : List Nat) : PU (n + 1) (encB b) := by simp
theorem pu_encRow (n : Nat) (r : Row) : PU (n + 2) (encRow r) := by simp
theorem alk_encB (a b : List Nat) : alks (a.map dN) (b.map dN) = true := alks_map _ _ _ _ fun _ _ _ _ => by simp
theorem alk_encRow (a b : Row) : D.alk (encRow a) (encRow b) = true := by simp [alk_encB]
theorem ltv_encRow (a b : Row) : D.ltv (encRow a) (encRow b) = decide (rowLt a b) := by
  rw [encRow, encRow, ltv_tup, ltvs_cc (by simp) rfl rfl, ltvs_cc (by simp [alk_encB]) (pu_encB 0 _).1 (pu_encB 0 _).1, ltvs_cc (by simp) rfl rfl, ltvs_nn, ltv_tup, ltvs_nat, ltv_str', ltv_int']
  obtain ⟨a1, a2, a3⟩ := a
  obtain ⟨b1, b2, b3⟩ := b
  have e1 : D.str a1 = D.str b1 ↔ a1 = b1 := by simp
  have e2 : encB a2 = encB b2 ↔ a2 = b2 := ⟨encB_inj, fun h => by rw [h]⟩
  simp only [e1, e2, dN_inj, rowLt, nmLt]
  by_cases q1 : a1 = b1
  · subst q1
    have : ¬ a1.cps.toList < a1.cps.toList := List.lt_irrefl _
    by_cases q2 : a2 = b2
    · subst q2
      have : ¬ a2 < a2 := List.lt_irrefl _
      by_cases q3 : a3 = b3
      · subst q3; simp [*]
      · simp [*]
    · simp [*]
  · simp [q1]
theorem lt_encRow (a b : Row) : opCmp .lt (encRow a) (encRow b) = some (decide (rowLt a b)) := by
  rw [cmp_lt (pu_encRow _ _) (pu_encRow _ _) (alk_encRow a b) (by simp), ltv_encRow]
theorem isguard_st (n : Nat) (h : MH) (d : D) (p : d.fine = true) : run sub progT (n + 4) 7 [d] h = .ok (.bl (isGd d)) h := by
  refine def_p (fd := b_is_guard) (L := []) rfl rfl (by decide) rfl ?_ rfl
  rw [List.append_nil]
  show evSs sub _ b_is_guard.body [some d, none, none, none, none, none, none] h = _
  by_cases q : isaB .tuple d = true
  case neg =>
    have e : isGd d = false := isGd_f fun ⟨r, _, e⟩ => q (by rw [e]; rfl)
    simp [b_is_guard, vw_fine p, isa_fine p, q, e]
  cases d <;> first | (simp [isaB] at q; done) | skip
  rename_i ds
  have fp : (D.fines ds = true ∧ ds.length ≤ 100000) := by simpa [D.fine] using p
  have fs : ∀ d ∈ ds, d.fine = true := fines_mem fp.1
  by_cases l : ds.length = 4
  case neg =>
    have e : isGd (.tup ds) = false := isGd_f fun ⟨r, _, e⟩ => l (by injection e with e; rw [e]; rfl)
    have l' : ¬ (ds.length : Int) = 4 := by omega
    simp [b_is_guard, isa_fine p, l', e]
  rcases ds with _ | ⟨a, _ | ⟨b, _ | ⟨c, _ | ⟨x, _ | ⟨y, ds⟩⟩⟩⟩⟩ <;> first | (simp at l; done) | skip
  have fa := fs a (by simp)
  have fb := fs b (by simp)
  have fc := fs c (by simp)
  have fx := fs x (by simp)
  have ea := issigns_st (sub := sub) n h a fa
  by_cases qa : IsSg a
  case neg =>
    have e : isGd (.tup [a, b, c, x]) = false := isGd_f fun ⟨g, k, e⟩ => qa (by simp only [encG, D.tup.injEq, List.cons.injEq] at e; rw [e.1]; exact ⟨_, k.sg, rfl⟩)
    simp [b_is_guard, isa_fine p, ea, isSigns_f qa, e]
  obtain ⟨sg, so, rfl⟩ := qa
  have eb := iswhole_st (sub := sub) (n + 2) h b 1 24 fb
  by_cases qb : isWhole b 1 24 = true
  case neg =>
    have e : isGd (.tup [encS sg, b, c, x]) = false := isGd_f fun ⟨g, k, e⟩ => qb (by
      simp only [encG, D.tup.injEq, List.cons.injEq] at e; rw [e.2.1]
      have := k.m1
      have := k.m24
      simp only [isWhole, Bool.and_eq_true, decide_eq_true_eq]; omega)
    simp only [Bool.not_eq_true] at qb
    simp [b_is_guard, isa_fine p, ea, isSigns_t so, eb, qb, e]
  obtain ⟨m, rfl, m1, m24⟩ : ∃ m : Nat, b = dN m ∧ 1 ≤ m ∧ m ≤ 24 := by
    cases b <;> first | (simp [isWhole] at qb; done) | skip
    rename_i i
    simp only [isWhole, Bool.and_eq_true, decide_eq_true_eq] at qb
    exact ⟨i.toNat, by rw [dN, Int.toNat_of_nonneg (by omega)], by omega, by omega⟩
  have ex := arestates_st (sub := sub) (n + 1) h m x fx
  by_cases qx : IsSts m x
  case neg =>
    have e : isGd (.tup [encS sg, dN m, c, x]) = false := isGd_f fun ⟨g, k, e⟩ => qx (by
      simp only [encG, D.tup.injEq, List.cons.injEq, dN_inj, and_true] at e
      rw [e.2.2.2, e.2.1]; exact ⟨_, rfl, k.ends, k.easc⟩)
    simp [b_is_guard, isa_fine p, ea, isSigns_t so, eb, qb, ex, isSts_f qx, e]
  obtain ⟨es, rfl, es1, es2⟩ := qx
  have ex' := isSts_t (m := m) (d := encB es) ⟨es, rfl, es1, es2⟩
  by_cases qc : isaB .tuple c = true
  case neg =>
    have e : isGd (.tup [encS sg, dN m, c, encB es]) = false := isGd_f fun ⟨g, k, e⟩ => qc (by
      simp only [encG, D.tup.injEq, List.cons.injEq] at e; rw [e.2.2.1]; rfl)
    simp [b_is_guard, isa_fine p, ea, isSigns_t so, eb, qb, ex, ex', vw_fine fc, isa_fine fc, qc, e]
  cases c <;> first | (simp [isaB] at qc; done) | skip
  rename_i rs
  have fr : (D.fines rs = true ∧ rs.length ≤ 100000) := by simpa [D.fine] using fc
  by_cases l3 : rs.length ≤ 3000
  case neg =>
    have e : isGd (.tup [encS sg, dN m, .tup rs, encB es]) = false := isGd_f fun ⟨g, k, e⟩ => l3 (by
      simp only [encG, D.tup.injEq, List.cons.injEq] at e; rw [e.2.2.1, List.length_map]; exact k.len)
    have l3' : (3000 : Int) < (rs.length : Int) := by omega
    simp [b_is_guard, isa_fine p, ea, isSigns_t so, eb, qb, ex, ex', isa_fine fc, l3', e]
  have l3' : ¬ (3000 : Int) < (rs.length : Int) := by omega
  have c1 : evL (run sub progT (n + 3)) b_is_guard_l1 [some (.tup [encS sg, dN m, .tup rs, encB es]), some (encS sg), some (dN m), some (.tup rs), some (encB es), none, none] h = .ok (rs.map fun d => .bl (isRow sg m d)) h := by
    refine comp1 (ys := rs) (enc := id) (by simp) (by omega) fun d hd => ?_
    simp [isrow_st (sub := sub) (n + 1) h sg m d (fines_mem fr.1 d hd)]
  by_cases a1 : rs.all (isRow sg m) = true
  case neg =>
    have e : isGd (.tup [encS sg, dN m, .tup rs, encB es]) = false := isGd_f fun ⟨g, k, e⟩ => a1 (by
      simp only [encG, D.tup.injEq, List.cons.injEq, dN_inj, and_true] at e
      have es : sg = g.sg := encS_inj (by rw [encS, encS, e.1])
      rw [e.2.2.1, List.all_map, List.all_eq_true]
      intro r hr
      exact isRow_t ⟨r, by rw [es, e.2.1]; exact k.rows r hr, rfl⟩)
    simp only [Bool.not_eq_true] at a1
    simp [b_is_guard, isa_fine p, ea, isSigns_t so, eb, qb, ex, ex', isa_fine fc, l3', c1, a1, e]
  obtain ⟨rw, rfl, ok⟩ := rows_enc a1
  have a1' : (rw.all fun r => isRow sg m (encRow r)) = true := by rw [List.all_map] at a1; exact a1
  rw [List.length_map] at l3 l3'
  have c2 : evL (run sub progT (n + 3)) b_is_guard_l2 [some (.tup [encS sg, dN m, .tup (rw.map encRow), encB es]), some (encS sg), some (dN m), some (.tup (rw.map encRow)), some (encB es), none, none] h = .ok ((List.range (rw.length - 1)).map fun k => .bl (decide (rowLt (gD rw k default) (gD rw (k + 1) default)))) h := by
    refine comp1 (ys := List.range (rw.length - 1)) (enc := fun (k : Nat) => .int k) ?_ (by simp; omega) fun k hk => ?_
    · simp only [evIt_range1, ev_bin, ev_bi, evEs_cons, ev_var, List.getElem?_cons_zero, List.getElem?_cons_succ, rv_s, R.bind_ok, kEs1_a, evEs_nil, kEs2_a, kBi_a, List.map_cons, List.map_nil, vw_tup, bi_lenT, R.ofO_some, kBin1_a, ev_int, kBin2_a, vw_int, bin_sub, List.length_map]
      by_cases z : rw.length = 0
      · rw [z]; exact rg1K_i (by decide) (by decide)
      · rw [show ((rw.length : Int) - 1) = ((rw.length - 1 : Nat) : Int) by omega, rg1K_n (by omega)]
    · have hk' : k < rw.length - 1 := by simpa using hk
      have g1 := getD_get (xs := rw) (k := k) (by omega) default
      have g2 := getD_get (xs := rw) (k := k + 1) (by omega) default
      have lt := lt_encRow (gD rw k default) (gD rw (k + 1) default)
      simp [g1, g2, lt]
  have a2 : (List.range (rw.length - 1)).all (fun k => decide (rowLt (gD rw k default) (gD rw (k + 1) default))) = decide (rw.Pairwise rowLt) := by
    rw [Bool.eq_iff_iff, range_adj (fun a b : Row => decide (rowLt a b)) default rw, decide_eq_true_eq]
    exact adj_pw (R := rowLt) (fun a b => by simp) rowLt_tr rw
  have e : isGd (.tup [encS sg, dN m, .tup (rw.map encRow), encB es]) = decide (rw.Pairwise rowLt) := by
    by_cases z : rw.Pairwise rowLt
    · rw [decide_eq_true z]; exact isGd_t (g := ⟨sg, m, rw, es⟩) ⟨so, m1, m24, ok, z, l3, es1, es2⟩
    · rw [decide_eq_false z]; exact isGd_f fun ⟨g, k, e2⟩ => z (by
        simp only [encG, D.tup.injEq, List.cons.injEq] at e2
        rw [rows_inj e2.2.2.1]; exact k.asc)
  simp [b_is_guard, isa_fine p, ea, isSigns_t so, eb, qb, ex, ex', isa_fine fc, l3', c1, a1', c2, a2, Function.comp_def, e]
end GM
end
section
set_option Elab.async false
set_option linter.all false
set_option maxRecDepth 100000
namespace GM
open PySem
variable {sub : Nat → Nat → Bool}
theorem needguard_t (n : Nat) (h : MH) (g : Gd) (k : GdOk g) (p : (encG g).fine = true) : run sub progT (n + 5) 8 [encG g] h = .ok .non h := by
  refine def_n (fd := b_need_guard) (L := []) (ρ := [some (encG g)]) rfl rfl (by decide) rfl ?_
  rw [List.append_nil]
  show evSs sub _ b_need_guard.body [some (encG g)] h = _
  have e := isguard_st (sub := sub) n h (encG g) p
  rw [isGd_t k] at e
  simp [b_need_guard, e]
theorem needguard_f (n : Nat) (h : MH) (d : D) (p : d.fine = true) (k : ¬ IsGd d) : run sub progT (n + 5) 8 [d] h = .exc 2 [] h := by
  refine def_x (fd := b_need_guard) (L := []) (ρ := [some d]) rfl rfl (by decide) rfl ?_
  rw [List.append_nil]
  show evSs sub _ b_need_guard.body [some d] h = _
  have e := isguard_st (sub := sub) n h d p
  rw [isGd_f k] at e
  simp [b_need_guard, e]
/-! ### what is drawn: a call that writes the well at i alone -/
def GenR (call : MH → R D) (i : Nat) (P : D → Prop) : Prop := ∀ (h : MH) (w : List D) (L : MH), i < h.length → WOk w → ∃ d w', WOk w' ∧ P d ∧ call (HW h i w L) = .ok d (HW h i w' L)
def GenL (call : MH → R D) (i : Nat) (P : List D → Prop) : Prop := ∀ (h : MH) (w : List D) (L : MH), i < h.length → WOk w → ∃ xs w', WOk w' ∧ P xs ∧ call (HW h i w L) = .ok (.ref (h.length + L.length)) (HW h i w' (L ++ [.lst xs]))
section
variable {prog : Nat → Option FD} {n f i : Nat} {fd : FD} {as : List D}
theorem gen_p {P : D → Prop} (hp : prog f = some fd) (hl : as.length = fd.np) (hle : fd.np ≤ fd.nl) (hk : fd.keep = false)
    (b : ∀ h w, i < h.length → WOk w → ∃ d w' L', WOk w' ∧ P d ∧ d.pl = true ∧ evSs sub (run sub prog n) fd.body (as.map some ++ List.replicate (fd.nl - fd.np) none) (HW h i w []) = .ret d (HW h i w' L')) :
    GenR (run sub prog (n + 1) f as) i P := by
  intro h w L hi k
  have hi' : i < (HW h i w L).length := by rw [hw_len]; omega
  obtain ⟨d, w', L', k', p, pl, e⟩ := b (HW h i w L) w hi' k
  rw [hw_self (hw_i w L hi)] at e
  refine ⟨d, w', k', p, ?_⟩
  rw [defw_p hp hl hle hk k' hi' e pl, hw_hw w L hi, List.append_nil]
theorem gen_pl {P : List D → Prop} (hp : prog f = some fd) (hl : as.length = fd.np) (hle : fd.np ≤ fd.nl) (hk : fd.keep = false) (hv : fd.live = false)
    (b : ∀ h w, i < h.length → WOk w → ∃ xs w' L' q, WOk w' ∧ P xs ∧ D.pls xs = true ∧ L'[q]? = some (.lst xs) ∧ evSs sub (run sub prog n) fd.body (as.map some ++ List.replicate (fd.nl - fd.np) none) (HW h i w []) = .ret (.ref (h.length + q)) (HW h i w' L')) :
    GenR (run sub prog (n + 1) f as) i (fun d => ∃ xs, d = .lst xs ∧ P xs) := by
  intro h w L hi k
  have hi' : i < (HW h i w L).length := by rw [hw_len]; omega
  obtain ⟨xs, w', L', q, k', p, pl, eq, e⟩ := b (HW h i w L) w hi' k
  rw [hw_self (hw_i w L hi)] at e
  refine ⟨.lst xs, w', k', ⟨xs, rfl, p⟩, ?_⟩
  rw [defw_l hp hl hle hk hv k' hi' e eq pl, hw_hw w L hi, List.append_nil]
theorem gen_l {P : List D → Prop} (hp : prog f = some fd) (hl : as.length = fd.np) (hle : fd.np ≤ fd.nl) (hk : fd.keep = false) (hv : fd.live = true)
    (b : ∀ h w, i < h.length → WOk w → ∃ xs w' L' q, WOk w' ∧ P xs ∧ D.pls xs = true ∧ L'[q]? = some (.lst xs) ∧ evSs sub (run sub prog n) fd.body (as.map some ++ List.replicate (fd.nl - fd.np) none) (HW h i w []) = .ret (.ref (h.length + q)) (HW h i w' L')) :
    GenL (run sub prog (n + 1) f as) i P := by
  intro h w L hi k
  have hi' : i < (HW h i w L).length := by rw [hw_len]; omega
  obtain ⟨xs, w', L', q, k', p, pl, eq, e⟩ := b (HW h i w L) w hi' k
  rw [hw_self (hw_i w L hi)] at e
  refine ⟨xs, w', k', p, ?_⟩
  rw [defw_live hp hl hle hk hv k' hi' e eq pl, hw_hw w L hi, hw_len]
end
/-- a number below m -/
def Below (m : Int) (d : D) : Prop := ∃ r : Nat, d = dN r ∧ (r : Int) < m
theorem below_of {m x : Int} (a : 0 ≤ x) (b : x < m) : Below m (.int x) := ⟨x.toNat, by rw [dN, Int.toNat_of_nonneg a], by omega⟩
theorem take_st (n i : Nat) (m : Int) (m0 : 0 < m) (m1 : m < 1000000) : GenR (run sub progT (n + 1) 13 [.ref i, .int m]) i (Below m) := by
  refine gen_p (fd := b__law_take) rfl rfl (by decide) rfl fun h w hi k => ?_
  obtain ⟨a, b, c, rfl, hc, hc2, hb, hb2⟩ := k
  have hm0 : m ≠ 0 := by omega
  have hc0 : c ≠ 0 := by omega
  have md : ∀ x, opBin .mod (.int x) (.int m) = some (.int (x.fmod m)) := fun x => bin_mod hm0
  have dv : ∀ x, opBin .fdiv (.int x) (.int m) = some (.int (x.fdiv m)) := fun x => bin_fdiv hm0 (by omega)
  by_cases ha : 0 < a
  · refine ⟨_, _, [], ⟨a.fdiv m, b, c, rfl, hc, hc2, hb, hb2⟩, below_of (Int.fmod_nonneg_of_pos a m0) (Int.fmod_lt_of_pos a m0), rfl, ?_⟩
    have s0 : ∀ (ρ : Env) (y : Int), setK (.int y) ρ (.ref i) (.int 0) (HW h i [.int a, .int b, .int c] []) = .nx ρ (HW h i [.int y, .int b, .int c] []) := fun ρ y => by
      rw [show (0 : Int) = ((0 : Nat) : Int) from rfl, setK_l (hw_i _ _ hi) (ixO_nat (by simp)), hw_set_i _ _ hi]; rfl
    simp [b__law_take, hi, ha, md, dv, s0]
  · generalize hq : (b * 48271).fmod c = q
    have hq1 : 0 ≤ q := by rw [← hq]; exact Int.fmod_nonneg_of_pos _ hc
    have hq2 : q < c := by rw [← hq]; exact Int.fmod_lt_of_pos _ hc
    have s1 : opBin .mul (.int b) (.int 48271) = some (.int (b * 48271)) := bin_mul (.inl (small_of (by omega) (by omega)))
    have s2 : opBin .mul (.int (q + 1)) (.int (q + 1)) = some (.int ((q + 1) * (q + 1))) := bin_mul (.inl (small_of (by omega) (by omega)))
    have s3 : opBin .mod (.int (b * 48271)) (.int c) = some (.int q) := by rw [bin_mod hc0, hq]
    have s4 : ∀ x, opBin .mod (.int x) (.int 2147483423) = some (.int (x.fmod 2147483423)) := fun x => bin_mod (by decide)
    have s5 : ∀ x, opBin .fdiv (.int x) (.int 7) = some (.int (x.fdiv 7)) := fun x => bin_fdiv (by decide) (by decide)
    refine ⟨.int (((((q + 1) * (q + 1)).fmod 2147483423).fdiv 7).fmod m), _, [], ⟨a, q + 1, c, rfl, hc, hc2, by omega, by omega⟩, below_of (Int.fmod_nonneg_of_pos _ m0) (Int.fmod_lt_of_pos _ m0), rfl, ?_⟩
    have s0 : ∀ (ρ : Env) (y : Int), setK (.int y) ρ (.ref i) (.int 1) (HW h i [.int a, .int b, .int c] []) = .nx ρ (HW h i [.int a, .int y, .int c] []) := fun ρ y => by
      rw [show (1 : Int) = ((1 : Nat) : Int) from rfl, setK_l (hw_i _ _ hi) (ixO_nat (by simp)), hw_set_i _ _ hi]; rfl
    simp [b__law_take, hi, ha, md, s1, s2, s3, s4, s5, s0]
def wellTail : Ss := match b__law_well.body with
  | .cons _ (.cons _ r) => r
  | r => r
def wellIf : S := match b__law_well.body with
  | .cons _ (.cons r _) => r
  | _ => .pass
theorem wellBody : b__law_well.body = .cons (.asg (.v 2) (.int 0)) (.cons (.ite (.cmp .lt (.var 1) (.bi .len (.cons (.var 0) .nil))) (.cons (.asg (.v 2) (.idx (.var 0) (.var 1))) .nil) .nil) wellTail) := rfl
theorem welltail_st (n : Nat) (h : MH) (ns : List Int) (k : Nat) (k1 : k < 40) (cell seed : Int) (es : (((cell.fmod 2147483489 + 1) * (48271 + 2 * k)).fmod 2147483489 * ((cell.fmod 2147483489 + 1) * (48271 + 2 * k)).fmod 2147483489).fmod 2147483477 + k + 1 = seed) (sd : 0 ≤ seed ∧ seed < 2 ^ 63) : ∃ w, WOk w ∧ evSs sub (run sub progT n) wellTail [some (.lst (ns.map D.int)), some (dN k), some (.int cell), none, none] h = .ret (.ref (h.length + 0)) (h ++ [.lst w]) := by
  have m1 : ∀ x : Int, opBin .mod (.int x) (.int 2147483489) = some (.int (x.fmod 2147483489)) := fun x => bin_mod (by decide)
  have m2 : ∀ x : Int, opBin .mod (.int x) (.int 2147483477) = some (.int (x.fmod 2147483477)) := fun x => bin_mod (by decide)
  have m3 : ∀ x : Int, opBin .mod (.int x) (.int 8) = some (.int (x.fmod 8)) := fun x => bin_mod (by decide)
  have pw : opBin .pow (.int 10) (.int 18) = some (.int 1000000000000000000) := by rfl
  have u1 : opBin .mul (.int 2) (.int k) = some (.int (2 * k)) := bin_mul (.inl rfl)
  have lo : ∀ {a b : Int}, 0 < b → 0 ≤ a.fmod b := fun h => Int.fmod_nonneg_of_pos _ h
  have hi : ∀ {a b : Int}, 0 < b → a.fmod b < b := fun h => Int.fmod_lt_of_pos _ h
  have u2 : ∀ x : Int, opBin .mul (.int (x.fmod 2147483489 + 1)) (.int (48271 + 2 * k)) = some (.int ((x.fmod 2147483489 + 1) * (48271 + 2 * k))) := fun x => bin_mul (.inl (by
    have := lo (a := x) (b := 2147483489) (by decide)
    have := hi (a := x) (b := 2147483489) (by decide)
    exact small_of (by omega) (by omega)))
  have u3 : ∀ x : Int, opBin .mul (.int (x.fmod 2147483489)) (.int (x.fmod 2147483489)) = some (.int (x.fmod 2147483489 * x.fmod 2147483489)) := fun x => bin_mul (.inl (by
    have := lo (a := x) (b := 2147483489) (by decide)
    have := hi (a := x) (b := 2147483489) (by decide)
    exact small_of (by omega) (by omega)))
  have at8 : ∃ c : Int, atO [D.int 2147483647, D.int 2147483629, D.int 2147483587, D.int 2147483579, D.int 2147483563, D.int 2147483549, D.int 2147483543, D.int 2147483497] ((k : Int).fmod 8) = some (.int c) ∧ 0 < c ∧ c < 2 ^ 32 := by
    obtain ⟨d, hd, e⟩ := atO_of (xs := [D.int 2147483647, D.int 2147483629, D.int 2147483587, D.int 2147483579, D.int 2147483563, D.int 2147483549, D.int 2147483543, D.int 2147483497]) (k := (k : Int).fmod 8) (lo (by decide)) (hi (a := (k : Int)) (b := 8) (by decide))
    simp only [List.mem_cons, List.not_mem_nil, or_false] at hd
    rcases hd with rfl | rfl | rfl | rfl | rfl | rfl | rfl | rfl <;> exact ⟨_, e, by decide, by decide⟩
  obtain ⟨c, hc, c0, c1⟩ := at8
  by_cases hg : (1000000000000000000 : Int) ≤ cell
  · refine ⟨[.int cell, .int seed, .int c], ⟨_, _, _, rfl, c0, c1, sd.1, sd.2⟩, ?_⟩
    simp [wellTail, b__law_well, m1, m2, m3, pw, u1, u2, u3, hg, hc, es]
  · refine ⟨[.int 0, .int seed, .int c], ⟨_, _, _, rfl, c0, c1, sd.1, sd.2⟩, ?_⟩
    simp [wellTail, b__law_well, m1, m2, m3, pw, u1, u2, u3, hg, hc, es]
theorem welltail2_st (n : Nat) (h : MH) (ns : List Int) (k : Nat) (k1 : k < 40) (cell : Int) : ∃ w, WOk w ∧ evSs sub (run sub progT n) wellTail [some (.lst (ns.map D.int)), some (dN k), some (.int cell), none, none] h = .ret (.ref (h.length + 0)) (h ++ [.lst w]) := by
  have q0 : 0 ≤ (((cell.fmod 2147483489 + 1) * (48271 + 2 * k)).fmod 2147483489 * ((cell.fmod 2147483489 + 1) * (48271 + 2 * k)).fmod 2147483489).fmod 2147483477 := Int.fmod_nonneg_of_pos _ (by decide)
  have q1 : (((cell.fmod 2147483489 + 1) * (48271 + 2 * k)).fmod 2147483489 * ((cell.fmod 2147483489 + 1) * (48271 + 2 * k)).fmod 2147483489).fmod 2147483477 < 2147483477 := Int.fmod_lt_of_pos _ (by decide)
  exact welltail_st n h ns k k1 cell _ rfl (by omega)
theorem wellbody_st (n : Nat) (h : MH) (ns : List Int) (k : Nat) (k1 : k < 40) : ∃ w, WOk w ∧ evSs sub (run sub progT n) b__law_well.body [some (.lst (ns.map D.int)), some (dN k), none, none, none] h = .ret (.ref (h.length + 0)) (h ++ [.lst w]) := by
  rw [wellBody]
  by_cases hk : k < ns.length
  · obtain ⟨w, ok, e⟩ := welltail2_st (sub := sub) n h ns k k1 ns[k]
    refine ⟨w, ok, ?_⟩
    rw [← e]
    simp [hk]
  · obtain ⟨w, ok, e⟩ := welltail2_st (sub := sub) n h ns k k1 0
    refine ⟨w, ok, ?_⟩
    rw [← e]
    simp [hk]
theorem well_st (n : Nat) (h : MH) (ns : List Int) (k : Nat) (k1 : k < 40) : ∃ w, WOk w ∧ run sub progT (n + 1) 12 [.lst (ns.map D.int), dN k] h = .ok (.ref h.length) (h ++ [.lst w]) := by
  obtain ⟨w, ok, e2⟩ := wellbody_st (sub := sub) n h ns k k1
  refine ⟨w, ok, ?_⟩
  rw [run_of (fd := b__law_well) rfl rfl (by decide)]
  have e3 := congrArg (exitF b__law_well h) e2
  refine Eq.trans e3 ?_
  exact exit_live rfl (pls_nrs _ _ ok.pls)
end GM
end
section
set_option Elab.async false
set_option linter.all false
set_option maxRecDepth 100000
namespace GM
open PySem
variable {sub : Nat → Nat → Bool}
/-! ### names -/
def NmsOk (ns : List Str) : Prop := (∀ s ∈ ns, IsNm s) ∧ ns.Pairwise nmLt
theorem let_at {r : Nat} (h1 : (r : Int) < 26) : ∃ c, opIdx (.str letS) (.int r) = some (.str ⟨#[c]⟩) ∧ 97 ≤ c ∧ c ≤ 122 := by
  obtain ⟨c, hc, e⟩ := atO_of (xs := letS.cps.toList) (k := (r : Int)) (by omega) (by exact h1)
  refine ⟨c, ?_, ?_⟩
  · have l : letS.length ≤ 10000 := by decide
    simp only [opIdx, l, if_true, e, Option.map_some]
  · have all : ∀ c ∈ letS.cps.toList, 97 ≤ c ∧ c ≤ 122 := by decide
    exact all c hc
theorem app_cps (s t : Str) : (s ++ t).cps.toList = s.cps.toList ++ t.cps.toList := by
  show (s.cps ++ t.cps).toList = _
  simp
theorem app_len (s t : Str) : (s ++ t).length = s.length + t.length := by rw [len_cps, len_cps, len_cps, app_cps, List.length_append]
/-- one name is drawn -/
theorem names_s1 (n : Nat) {h : MH} {i : Nat} {w : List D} {L : MH} (hi : i < h.length) (k : WOk w) (a b c : Option D) :
    ∃ s w', WOk w' ∧ IsNm s ∧ evS sub (run sub progT (n + 1)) b__law_names_s1 [some (.ref i), a, some (.str letS), b, c, some (.str ⟨#[]⟩), none] (HW h i w L) = .nx [some (.ref i), a, some (.str letS), b, c, some (.str s), none] (HW h i w' L) := by
  obtain ⟨_, w1, k1, ⟨r, rfl, hr⟩, e1⟩ := take_st (sub := sub) n i 4 (by decide) (by decide) h w L hi k
  have hq : ∃ q : Nat, 1 ≤ q ∧ q ≤ 8 ∧ atO [D.int 1, D.int 1, D.int 2, D.int 8] (r : Int) = some (dN q) := by
    obtain ⟨d, hd, ed⟩ := atO_of (xs := [D.int 1, D.int 1, D.int 2, D.int 8]) (k := (r : Int)) (by omega) (by exact hr)
    simp only [List.mem_cons, List.not_mem_nil, or_false] at hd
    rcases hd with rfl | rfl | rfl | rfl
    · exact ⟨1, by decide, by decide, ed⟩
    · exact ⟨1, by decide, by decide, ed⟩
    · exact ⟨2, by decide, by decide, ed⟩
    · exact ⟨8, by decide, by decide, ed⟩
  obtain ⟨q, q0, q1, eq⟩ := hq
  have rg : rg1K (dN q) (HW h i w1 L) = .ok ((List.range q).map fun (k : Nat) => D.int k, none) (HW h i w1 L) := rg1K_n (by omega)
  obtain ⟨⟨s, w2⟩, e, k2, ln, ll⟩ := fr_inv (α := Nat) (σ := Str × List D) (t := .v 6) (b := fun ρ h => evSs sub (run sub progT (n + 1)) (.cons (.asg (.v 5) (.bin .add (.var 5) (.idx (.var 2) (.call 13 (.cons (.var 0) (.cons (.int 26) .nil)))))) (.cons (.wipe [6]) .nil)) ρ h) (enc := fun (k : Nat) => .int k)
    (ev := fun s => [some (.ref i), a, some (.str letS), b, c, some (.str s.1), none]) (hp := fun s => HW h i s.2 L)
    (fun dn s => WOk s.2 ∧ s.1.length = dn.length ∧ ∀ c ∈ s.1.cps.toList, 97 ≤ c ∧ c ≤ 122) (List.range q) (by
      rintro dn y rest ⟨s, w⟩ el ⟨k, ln, ll⟩
      obtain ⟨_, w1, k1, ⟨r, rfl, hr⟩, e1⟩ := take_st (sub := sub) n i 26 (by decide) (by decide) h w L hi k
      obtain ⟨c', ec, c0, c1⟩ := let_at hr
      have lb : dn.length < q := by
        have := congrArg List.length el
        simp at this
        omega
      have ad : opBin .add (.str s) (.str ⟨#[c']⟩) = some (.str (s ++ ⟨#[c']⟩)) := bin_str (by
        show s.length + 1 ≤ 10000
        have : s.length = dn.length := ln
        omega)
      refine ⟨(s ++ ⟨#[c']⟩, w1), ?_, k1, ?_, ?_⟩
      · simp [e1, ec, ad]
      · show (s ++ ⟨#[c']⟩ : Str).length = _
        rw [app_len, List.length_append]
        have : s.length = dn.length := ln
        rw [this]; rfl
      · intro c hc
        have hc : c ∈ (s ++ ⟨#[c']⟩ : Str).cps.toList := hc
        rw [app_cps, List.mem_append] at hc
        rcases hc with hc | hc
        · exact ll c hc
        · simp at hc; omega) (s0 := (⟨#[]⟩, w1)) ⟨k1, rfl, by simp⟩
  refine ⟨s, w2, k2, ?_, ?_⟩
  · have ln : s.length = q := by simpa using ln
    rw [len_cps] at ln
    exact ⟨by omega, by omega, ll⟩
  · rw [b__law_names_s1, s_fr]
    simp only [evIt_range1, ev_idx, ev_lst, evL_disp, evEs_cons, ev_int, R.bind_ok, kEs1_a, evEs_nil, kEs2_a, kLst_a, kIdx1_a, ev_call, ev_var, List.getElem?_cons_zero, rv_s, e1, kIdx2_a, vw_lst, idx_lst, eq, R.ofO_some, rg, bindE_ok]
    exact e
theorem names_st (n i : Nat) (m : Nat) (hm : m < 1000) : GenL (run sub progT (n + 2) 14 [.ref i, dN m]) i (fun xs => ∃ ns, xs = ns.map D.str ∧ NmsOk ns ∧ ns.length ≤ m ∧ (0 < m → ns ≠ [])) := by
  refine gen_l (fd := b__law_names) rfl rfl (by decide) rfl rfl fun h w hi k => ?_
  obtain ⟨⟨ns, w1⟩, e, k1, nd, nm, nl, ne⟩ := fr_inv (α := Nat) (σ := List Str × List D) (t := .v 4) (b := fun ρ h => evSs sub (run sub progT (n + 1)) (.cons (.asg (.v 5) (.str ⟨#[]⟩)) (.cons (b__law_names_s1) (.cons (.setI (.var 3) (.var 5) (.bl true)) (.cons (.wipe [4, 5, 6]) .nil)))) ρ h) (enc := fun (k : Nat) => .int k)
    (ev := fun s => [some (.ref i), some (dN m), some (.str letS), some (.ref h.length), none, none, none]) (hp := fun s => HW h i s.2 [.dic (dks (s.1.map D.str))])
    (fun dn s => WOk s.2 ∧ s.1.Nodup ∧ (∀ x ∈ s.1, IsNm x) ∧ s.1.length ≤ dn.length ∧ (dn ≠ [] → s.1 ≠ [])) (List.range m) (by
      rintro dn y rest ⟨ns, w⟩ el ⟨k, nd, nm, nl, ne⟩
      obtain ⟨s, w1, k1, is, e1⟩ := names_s1 (sub := sub) n hi k (L := [.dic (dks (ns.map D.str))]) (some (dN m)) (some (.ref h.length)) (some (.int y))
      have lb : dn.length < m := by
        have := congrArg List.length el
        simp at this
        omega
      have st := fun ρ => setK_k (ρ := ρ) (n := h.length) (h := HW h i w1 [.dic (dks (ns.map D.str))]) (k := .str s) (ks := ns.map D.str) (by simp) (by simp) (by
        rw [List.length_map]
        have : ns.length ≤ dn.length := nl
        omega)
      refine ⟨(addK ns s, w1), ?_, k1, addK_nodup nd, ?_, ?_, ?_⟩
      · simp [e1, st, hi]
      · intro x hx
        rcases mem_addK.mp hx with z | z
        · exact nm x z
        · exact z ▸ is
      · have := addK_len (xs := ns) (x := s)
        have : ns.length ≤ dn.length := nl
        simp only [List.length_append, List.length_singleton]
        omega
      · intro _ z
        have z : addK ns s = [] := z
        have : s ∈ addK ns s := mem_addK.mpr (.inr rfl)
        rw [z] at this
        cases this) (s0 := ([], w)) ⟨k, by simp, by simp, by simp, by simp⟩
  have lm : ns.length ≤ 1000000 := by
    have : ns.length ≤ (List.range m).length := nl
    simp at this; omega
  refine ⟨(ns.mergeSort sLe).map D.str, w1, [.dic (dks (ns.map D.str)), .lst ((ns.mergeSort sLe).map D.str)], 1, k1, ⟨ns.mergeSort sLe, rfl, ⟨fun s hs => nm s ((List.mergeSort_perm ns sLe).mem_iff.mp hs), sort_str_pw nd⟩, ?_, ?_⟩, (show PUs 0 _ by simp).pls, rfl, ?_⟩
  · rw [List.length_mergeSort]
    have : ns.length ≤ (List.range m).length := nl
    simpa using this
  · intro m0 z
    have := (List.mergeSort_perm ns sLe).length_eq
    rw [z] at this
    exact ne (by simp; omega) (List.eq_nil_of_length_eq_zero (by simpa using this.symm))
  · have s2 : evS sub (run sub progT (n + 1)) b__law_names_s2 [some (.ref i), some (dN m), some (.str letS), some (.ref h.length), none, none, none] (HW h i w [.dic []]) = .nx [some (.ref i), some (dN m), some (.str letS), some (.ref h.length), none, none, none] (HW h i w1 [.dic (dks (ns.map D.str))]) := by
      rw [b__law_names_s2, s_fr]
      simp only [evIt_range1, ev_var, List.getElem?_cons_succ, List.getElem?_cons_zero, rv_s, R.bind_ok, rg1K_n (show m < 1000000000 by omega), bindE_ok]
      exact e
    show evSs sub _ b__law_names.body [some (.ref i), some (dN m), none, none, none, none, none] _ = _
    have so := sort_strD (ns := ns) (vs := (dks (ns.map D.str)).map (·.2)) lm
    have lt : (⟨#[97, 98, 99, 100, 101, 102, 103, 104, 105, 106, 107, 108, 109, 110, 111, 112, 113, 114, 115, 116, 117, 118, 119, 120, 121, 122]⟩ : Str) = letS := rfl
    simp [b__law_names, lt, hw_len, s2, so]
end GM
end
section
set_option Elab.async false
set_option linter.all false
set_option maxRecDepth 100000
namespace GM
open PySem
variable {sub : Nat → Nat → Bool}
theorem zip_ok {ns : List Str} {rs : List Nat} (hn : NmsOk ns) (h1 : 1 ≤ ns.length) (h5 : ns.length ≤ 5) (hl : rs.length = ns.length) (hr : ∀ r ∈ rs, r ≤ 2) (h0 : 0 ∈ rs) : SgOk (ns.zip rs) := by
  have e1 : (ns.zip rs).map (·.1) = ns := List.map_fst_zip (by omega)
  refine ⟨by simp; omega, by simp; omega, fun p hp => hn.1 _ (List.of_mem_zip hp).1, fun p hp => hr _ (List.of_mem_zip hp).2, ?_, ?_⟩
  · have := hn.2
    rw [← e1, List.pairwise_map] at this
    exact this
  · obtain ⟨j, hj, e⟩ := List.getElem_of_mem h0
    have hj2 : j < (ns.zip rs).length := by simp; omega
    refine ⟨(ns.zip rs)[j], List.getElem_mem hj2, ?_⟩
    rw [List.getElem_zip]; exact e
theorem zip_enc (ns : List Str) (rs : List Nat) : ((ns.map D.str).zip (rs.map dN)).map (fun p => D.tup [p.1, p.2]) = (ns.zip rs).map encSig := by
  rw [List.zip_map, List.map_map]; rfl
theorem set_mapN (rs : List Nat) (j k : Nat) : (rs.map dN).set j (.int k) = (rs.set j k).map dN := by
  rw [List.map_set]
theorem mem_set_le {rs : List Nat} {j k m : Nat} (h : ∀ r ∈ rs, r ≤ m) (hk : k ≤ m) : ∀ r ∈ rs.set j k, r ≤ m := by
  intro r hr
  rcases List.mem_or_eq_of_mem_set hr with z | z
  · exact h r z
  · omega
/-- an item of a written list, by a drawn place -/
theorem pick4 {a b c d : D} {r : Nat} (h : (r : Int) < 4) (P : D → Prop) (ha : P a) (hb : P b) (hc : P c) (hd : P d) : ∃ x, atO [a, b, c, d] (r : Int) = some x ∧ P x := by
  obtain ⟨x, hx, e⟩ := atO_of (xs := [a, b, c, d]) (k := (r : Int)) (by omega) (by exact h)
  simp only [List.mem_cons, List.not_mem_nil, or_false] at hx
  rcases hx with rfl | rfl | rfl | rfl <;> exact ⟨_, e, by assumption⟩
theorem pick3 {a b c : D} {r : Nat} (h : (r : Int) < 3) (P : D → Prop) (ha : P a) (hb : P b) (hc : P c) : ∃ x, atO [a, b, c] (r : Int) = some x ∧ P x := by
  obtain ⟨x, hx, e⟩ := atO_of (xs := [a, b, c]) (k := (r : Int)) (by omega) (by exact h)
  simp only [List.mem_cons, List.not_mem_nil, or_false] at hx
  rcases hx with rfl | rfl | rfl <;> exact ⟨_, e, by assumption⟩
theorem pick2 {a b : D} {r : Nat} (h : (r : Int) < 2) (P : D → Prop) (ha : P a) (hb : P b) : ∃ x, atO [a, b] (r : Int) = some x ∧ P x := by
  obtain ⟨x, hx, e⟩ := atO_of (xs := [a, b]) (k := (r : Int)) (by omega) (by exact h)
  simp only [List.mem_cons, List.not_mem_nil, or_false] at hx
  rcases hx with rfl | rfl <;> exact ⟨_, e, by assumption⟩
def LeN (m : Nat) (d : D) : Prop := ∃ q : Nat, d = dN q ∧ q ≤ m
theorem signs_st (n i : Nat) : GenR (run sub progT (n + 3) 15 [.ref i]) i (fun d => ∃ sg, d = encS sg ∧ SgOk sg) := by
  refine gen_p (fd := b__law_signs) rfl rfl (by decide) rfl fun h w hi k => ?_
  obtain ⟨_, w1, k1, ⟨r5, rfl, h5⟩, e1⟩ := take_st (sub := sub) (n + 1) i 5 (by decide) (by decide) h w [] hi k
  obtain ⟨_, w2, k2, ⟨r4, rfl, h4⟩, e2⟩ := take_st (sub := sub) (n + 1) i 4 (by decide) (by decide) h w1 [] hi k1
  obtain ⟨_, eq, q, rfl, hq⟩ := pick4 (a := .int 2) (b := .int 3) (c := .int 2) (d := dN r5) h4 (LeN 4) ⟨2, rfl, by decide⟩ ⟨3, rfl, by decide⟩ ⟨2, rfl, by decide⟩ ⟨r5, rfl, by omega⟩
  obtain ⟨_, w3, k3, ⟨ns, rfl, nok, nl, ne⟩, e3⟩ := names_st (sub := sub) n i (1 + q) (by omega) h w2 [] hi k2
  have ne := ne (by omega)
  have n1 : 1 ≤ ns.length := by
    rcases ns with _ | ⟨a, ns⟩
    · exact absurd rfl ne
    · simp
  have e3' : run sub progT (n + 2) 14 [.ref i, .int (1 + (q : Int))] (HW h i w2 []) = .ok (.ref h.length) (HW h i w3 [.lst (ns.map D.str)]) := by
    rw [show D.int (1 + (q : Int)) = dN (1 + q) from by rw [dN]; congr 1]
    simpa using e3
  have pl : D.pls (ns.map D.str) = true := (show PUs 0 _ by simp).pls
  obtain ⟨_, w4, e4, k4, rs, rfl, rl, rm⟩ := comp_inv (C := run sub progT (n + 2)) (ρ := [some (.ref i), some (.lst (ns.map D.str)), none, none, none]) (t := .v 3) (it := .seq (.var 1)) (own := [3]) (elt := .idx (.lst (.disp (.cons (.int 0) (.cons (.int 1) (.cons (.int 2) (.cons (.int 2) .nil)))))) (.call 13 (.cons (.var 0) (.cons (.int 4) .nil)))) (enc := D.str) (hp := fun w => HW h i w [.dead]) (fun dn ac s => WOk s ∧ ∃ rs : List Nat, ac = rs.map dN ∧ rs.length = dn.length ∧ ∀ r ∈ rs, r ≤ 2) ns (s0 := w3) (s := w3) (by simp) (by omega) (by
      rintro dn y rest _ w el ⟨k, rs, rfl, rl, rm⟩
      obtain ⟨_, w1, k1, ⟨r, rfl, hr⟩, e⟩ := take_st (sub := sub) (n + 1) i 4 (by decide) (by decide) h w [.dead] hi k
      obtain ⟨_, eq, q, rfl, hq⟩ := pick4 (a := .int 0) (b := .int 1) (c := .int 2) (d := .int 2) hr (LeN 2) ⟨0, rfl, by decide⟩ ⟨1, rfl, by decide⟩ ⟨2, rfl, by decide⟩ ⟨2, rfl, by decide⟩
      refine ⟨dN q, w1, by simp [e, eq], k1, rs ++ [q], by simp, by simp [rl], ?_⟩
      intro r hr
      rcases List.mem_append.mp hr with z | z
      · exact rm r z
      · simp at z; omega) ⟨k3, [], rfl, rfl, by simp⟩
  obtain ⟨_, w5, k5, ⟨j, rfl, hj⟩, e5⟩ := take_st (sub := sub) (n + 1) i ns.length (by omega) (by omega) h w4 [.dead, .lst (rs.map dN)] hi k4
  have hj' : j < rs.length := by omega
  obtain ⟨rs2, hr2⟩ : ∃ r, r = rs.set j 0 := ⟨_, rfl⟩
  have z5 : ∀ ρ, setK (.int 0) ρ (.ref (h.length + 1)) (.int j) (HW h i w5 [.dead, .lst (rs.map dN)]) = .nx ρ (HW h i w5 [.dead, .lst (rs2.map dN)]) := fun ρ => by
    rw [setK_l (xs := rs.map dN) (j := j) (by simp) (ixO_nat (by simpa using hj')), hw_set _ _ _ _ hi, show ((rs.map dN).set j (.int 0)) = rs2.map dN from by rw [hr2]; exact set_mapN rs j 0]
    rfl
  have pl2 : D.pls (rs2.map dN) = true := (show PUs 0 _ by simp).pls
  have f1 := fun ρ => fz_l (n := h.length) (i := 1) (ρ := ρ) (h := HW h i w3 [.lst (ns.map D.str)]) (xs := ns.map D.str) (by simp) pl
  have f2 := fun ρ => fz_l (n := h.length + 1) (i := 2) (ρ := ρ) (h := HW h i w5 [.dead, .lst (rs2.map dN)]) (xs := rs2.map dN) (by simp) pl2
  have c2 : evL (run sub progT (n + 2)) b__law_signs_l2 [some (.ref i), some (.lst (ns.map D.str)), some (.lst (rs2.map dN)), none, none] (HW h i w5 [.dead, .dead]) = .ok ((ns.zip rs2).map encSig) (HW h i w5 [.dead, .dead]) := by
    refine comp1 (ys := ns.zip rs2) (enc := encSig) ?_ (by simp; omega) fun p hp => ?_
    · have := zip_enc ns rs2
      simp only [evIt_zip, ev_var, List.getElem?_cons_zero, List.getElem?_cons_succ, rv_s, R.bind_ok, kZip_a, zipK_l, this]
    · simp
  have e4' : evL (run sub progT (n + 2)) b__law_signs_l1 [some (.ref i), some (.lst (ns.map D.str)), none, none, none] (HW h i w3 [.dead]) = .ok (rs.map dN) (HW h i w4 [.dead]) := e4
  refine ⟨encS (ns.zip rs2), w5, [.dead, .dead], k5, ⟨_, rfl, zip_ok nok n1 (by omega) (by rw [hr2, List.length_set]; simpa using rl) (by rw [hr2]; exact mem_set_le rm (by decide)) ?_⟩, (pu_encS 0 _).pl, ?_⟩
  · rw [hr2, List.mem_iff_getElem]
    exact ⟨j, by simpa using hj', by simp⟩
  · show evSs sub _ b__law_signs.body [some (.ref i), none, none, none, none] _ = _
    simp [b__law_signs, e1, e2, eq, e3', f1, hi, e4', hw_len, e5, z5, f2, c2]
end GM
end
section
set_option Elab.async false
set_option linter.all false
set_option maxRecDepth 100000
namespace GM
open PySem
variable {sub : Nat → Nat → Bool}
theorem nodup_len {α : Type} [DecidableEq α] : ∀ {xs ys : List α}, xs.Nodup → (∀ x ∈ xs, x ∈ ys) → xs.length ≤ ys.length
  | [], _, _, _ => Nat.zero_le _
  | x :: xs, ys, hn, hs => by
    rw [List.nodup_cons] at hn
    have hx := hs x (by simp)
    have := nodup_len (xs := xs) (ys := ys.erase x) hn.2 fun z hz => by
      have hne : z ≠ x := fun e => hn.1 (e ▸ hz)
      exact (List.mem_erase_of_ne hne).mpr (hs z (List.mem_cons_of_mem _ hz))
    rw [List.length_erase_of_mem hx] at this
    have : 0 < ys.length := List.length_pos_of_mem hx
    simp only [List.length_cons]
    omega
def spU : Str := ⟨#[117]⟩
def spUV : Str := ⟨#[117, 118]⟩
def spUVW : Str := ⟨#[117, 118, 119]⟩
def spStep (ns : List Str) (s : Str) : List Str := if ns.length < 3 ∧ s ∉ ns then ns ++ [s] else ns
def spares (ns : List Str) : List Str := [spU, spUV, spUVW].foldl spStep ns
theorem spStep_ok {ns : List Str} {s : Str} (h1 : ∀ x ∈ ns, IsNm x) (h2 : ns.Nodup) (hs : IsNm s) : (∀ x ∈ spStep ns s, IsNm x) ∧ (spStep ns s).Nodup ∧ (∀ x ∈ ns, x ∈ spStep ns s) ∧ ns.length ≤ (spStep ns s).length ∧ (spStep ns s).length ≤ max 3 ns.length ∧ (3 ≤ (spStep ns s).length ∨ s ∈ spStep ns s) := by
  unfold spStep
  split
  · rename_i q
    refine ⟨?_, ?_, fun x hx => by simp [hx], by simp, by simp; omega, .inr (by simp)⟩
    · intro x hx
      rcases List.mem_append.mp hx with z | z
      · exact h1 x z
      · simp at z; rw [z]; exact hs
    · rw [List.nodup_append]
      exact ⟨h2, by simp, fun a ha b hb => by simp at hb; rintro rfl; exact q.2 (hb ▸ ha)⟩
  · rename_i q
    refine ⟨h1, h2, fun x hx => hx, Nat.le_refl _, by omega, ?_⟩
    by_cases l : ns.length < 3
    · exact .inr (Classical.byContradiction fun z => q ⟨l, z⟩)
    · exact .inl (by omega)
theorem spares_ok {ns : List Str} (h1 : ∀ x ∈ ns, IsNm x) (h2 : ns.Nodup) : (∀ x ∈ spares ns, IsNm x) ∧ (spares ns).Nodup ∧ 3 ≤ (spares ns).length ∧ (spares ns).length ≤ max 3 ns.length := by
  have a := spStep_ok h1 h2 (s := spU) (by decide)
  have b := spStep_ok a.1 a.2.1 (s := spUV) (by decide)
  have c := spStep_ok b.1 b.2.1 (s := spUVW) (by decide)
  show (∀ x ∈ spStep (spStep (spStep ns spU) spUV) spUVW, IsNm x) ∧ _
  refine ⟨c.1, c.2.1, ?_, ?_⟩
  · show 3 ≤ (spStep (spStep (spStep ns spU) spUV) spUVW).length
    rcases c.2.2.2.2.2 with z | z
    · exact z
    · rcases b.2.2.2.2.2 with y | y
      · exact Nat.le_trans y c.2.2.2.1
      · rcases a.2.2.2.2.2 with x | x
        · exact Nat.le_trans x (Nat.le_trans b.2.2.2.1 c.2.2.2.1)
        · have e1 := c.2.2.1 _ (b.2.2.1 _ x)
          have e2 := c.2.2.1 _ y
          exact nodup_len (xs := [spU, spUV, spUVW]) (by decide) (by
            intro q hq
            simp only [List.mem_cons, List.not_mem_nil, or_false] at hq
            rcases hq with rfl | rfl | rfl <;> assumption)
  · show (spStep (spStep (spStep ns spU) spUV) spUVW).length ≤ _
    have := a.2.2.2.2.1
    have := b.2.2.2.2.1
    have := c.2.2.2.2.1
    omega
theorem nms_nd {ns : List Str} (h : NmsOk ns) : ns.Nodup := by
  refine h.2.imp fun {a b} q => ?_
  rintro rfl
  exact List.lt_irrefl _ q
/-- each rank is there -/
def AllRk (sg : Sg) : Prop := ∀ r, r ≤ 2 → ∃ p ∈ sg, p.2 = r
theorem zip_all {ns : List Str} {rs : List Nat} (hl : rs.length = ns.length) (h : ∀ r, r ≤ 2 → r ∈ rs) : AllRk (ns.zip rs) := by
  intro r hr
  obtain ⟨j, hj, e⟩ := List.getElem_of_mem (h r hr)
  have hj2 : j < (ns.zip rs).length := by simp; omega
  refine ⟨(ns.zip rs)[j], List.getElem_mem hj2, ?_⟩
  rw [List.getElem_zip]; exact e
/-- three neighbours are written -/
theorem three_in {rs : List Nat} {a x y z : Nat} (hl : 3 ≤ rs.length) (ha : a < rs.length) (hp : ∀ r, r ≤ 2 → r = x ∨ r = y ∨ r = z) (r : Nat) (hr : r ≤ 2) :
    r ∈ ((rs.set a x).set ((a + 1) % rs.length) y).set (((a + 1) % rs.length + 1) % rs.length) z := by
  have l0 : 0 < rs.length := by omega
  have hb : (a + 1) % rs.length < rs.length := Nat.mod_lt _ l0
  have hc : ((a + 1) % rs.length + 1) % rs.length < rs.length := Nat.mod_lt _ l0
  have eb : (a + 1) % rs.length = if a + 1 < rs.length then a + 1 else 0 := by
    split
    · exact Nat.mod_eq_of_lt (by assumption)
    · rw [show a + 1 = rs.length by omega, Nat.mod_self]
  have ec : ((a + 1) % rs.length + 1) % rs.length = if (a + 1) % rs.length + 1 < rs.length then (a + 1) % rs.length + 1 else 0 := by
    split
    · exact Nat.mod_eq_of_lt (by assumption)
    · rw [show (a + 1) % rs.length + 1 = rs.length by omega, Nat.mod_self]
  generalize hB : (a + 1) % rs.length = b at *
  generalize hC : (b + 1) % rs.length = c at *
  have ab : a ≠ b := by split at eb <;> omega
  have bc : b ≠ c := by split at ec <;> omega
  have ac : a ≠ c := by split at eb <;> split at ec <;> omega
  rw [List.mem_iff_getElem?]
  rcases hp r hr with rfl | rfl | rfl
  · exact ⟨a, by rw [List.getElem?_set_ne ac.symm, List.getElem?_set_ne ab.symm, List.getElem?_set_self ha]⟩
  · exact ⟨b, by rw [List.getElem?_set_ne bc.symm, List.getElem?_set_self (by simpa using hb)]⟩
  · exact ⟨c, by rw [List.getElem?_set_self (by simpa using hc)]⟩
theorem full_st (n i : Nat) : GenR (run sub progT (n + 3) 16 [.ref i]) i (fun d => ∃ sg, d = encS sg ∧ SgOk sg ∧ AllRk sg ∧ 3 ≤ sg.length) := by
  refine gen_p (fd := b__law_full) rfl rfl (by decide) rfl fun h w hi k => ?_
  obtain ⟨_, w1, k1, ⟨r5, rfl, h5⟩, e1⟩ := take_st (sub := sub) (n + 1) i 3 (by decide) (by decide) h w [] hi k
  obtain ⟨_, w2, k2, ⟨r4, rfl, h4⟩, e2⟩ := take_st (sub := sub) (n + 1) i 3 (by decide) (by decide) h w1 [] hi k1
  obtain ⟨_, eq, q, rfl, hq⟩ := pick3 (a := .int 0) (b := .int 0) (c := dN r5) h4 (LeN 2) ⟨0, rfl, by decide⟩ ⟨0, rfl, by decide⟩ ⟨r5, rfl, by omega⟩
  obtain ⟨_, w3, k3, ⟨ns, rfl, nok, nl, ne⟩, e3⟩ := names_st (sub := sub) n i (3 + q) (by omega) h w2 [] hi k2
  have e3' : run sub progT (n + 2) 14 [.ref i, .int (3 + (q : Int))] (HW h i w2 []) = .ok (.ref h.length) (HW h i w3 [.lst (ns.map D.str)]) := by
    rw [show D.int (3 + (q : Int)) = dN (3 + q) from by rw [dN]; congr 1]
    simpa using e3
  have nd : ns.Nodup := nms_nd nok
  obtain ⟨s1, s2, s3, s4⟩ := spares_ok nok.1 nd
  have lp1 : evS sub (run sub progT (n + 2)) b__law_full_s1 [some (.ref i), some (.ref h.length), none, none, none, none, none] (HW h i w3 [.lst (ns.map D.str)]) = .nx [some (.ref i), some (.ref h.length), none, none, none, none, none] (HW h i w3 [.lst ((spares ns).map D.str)]) := by
    rw [b__law_full_s1, s_fr]
    simp only [evIt_seq, ev_lst, evL_disp, evEs_cons, ev_str, R.bind_ok, kEs1_a, evEs_nil, kEs2_a, kLst_a, kItems_a, items_l, R.ofO_some, bindE_ok]
    have := fr_inv (α := Str) (σ := List Str) (t := .v 2) (b := fun ρ h => evSs sub (run sub progT (n + 2)) (.cons (.ite (.and (.cons (.cmp .lt (.bi .len (.cons (.var 1) .nil)) (.int 3)) (.cons (.cmp .notIn (.var 2) (.var 1)) .nil))) (.cons (.ex (.append (.var 1) (.var 2))) .nil) .nil) (.cons (.wipe [2]) .nil)) ρ h) (enc := D.str)
      (ev := fun _ => [some (.ref i), some (.ref h.length), none, none, none, none, none]) (hp := fun s => HW h i w3 [.lst (s.map D.str)]) (fun dn s => s = dn.foldl spStep ns) [spU, spUV, spUVW] (by
        rintro dn y rest s el rfl
        refine ⟨spStep (dn.foldl spStep ns) y, ?_, by rw [List.foldl_append]; rfl⟩
        generalize dn.foldl spStep ns = s
        unfold spStep
        by_cases l : s.length < 3
        · have l' : (s.length : Int) < 3 := by omega
          by_cases m : y ∈ s
          · simp [l, l', m]
          · have a1 := fun C e ρ => kApp_r (C := C) (e := e) (ρ := ρ) (n := h.length) (h := HW h i w3 [.lst (s.map D.str)]) (xs := s.map D.str) (by simp)
            have a2 := appK_r (d := .str y) (n := h.length) (h := HW h i w3 [.lst (s.map D.str)]) (xs := s.map D.str) (by simp) (by simp; omega)
            simp [l, l', m, a1, a2, hi]
        · have l' : ¬ (s.length : Int) < 3 := by omega
          simp [l, l']) (s0 := ns) rfl
    obtain ⟨s, e, rfl⟩ := this
    exact e
  obtain ⟨ms, hms⟩ : ∃ ms, ms = (spares ns).mergeSort sLe := ⟨_, rfl⟩
  have so := sort_strL (ns := spares ns) (by omega)
  rw [← hms] at so
  have lm : ms.length = (spares ns).length := by rw [hms, List.length_mergeSort]
  have mok : NmsOk ms := by rw [hms]; exact ⟨fun s hs => s1 s ((List.mergeSort_perm _ sLe).mem_iff.mp hs), sort_str_pw s2⟩
  have pl : D.pls (ms.map D.str) = true := (show PUs 0 _ by simp).pls
  have l3 : 3 ≤ ms.length := by omega
  have l5 : ms.length ≤ 5 := by omega
  obtain ⟨_, w4, e4, k4, rs, rfl, rl, rm⟩ := comp_invs (C := run sub progT (n + 2)) (ρ := [some (.ref i), some (.ref (h.length + 1)), none, none, none, none, none]) (t := .v 6) (it := .seq (.var 1)) (own := [6]) (elt := .call 13 (.cons (.var 0) (.cons (.int 3) .nil))) (enc := D.str) (hp := fun w => HW h i w [.lst ((spares ns).map D.str), .lst (ms.map D.str)]) (src := some (h.length + 1, ms.map D.str)) (fun dn ac s => WOk s ∧ ∃ rs : List Nat, ac = rs.map dN ∧ rs.length = dn.length ∧ ∀ r ∈ rs, r ≤ 2) ms (s0 := w3) (s := w3) (by simp [items_r (n := h.length + 1) (h := HW h i w3 [.lst ((spares ns).map D.str), .lst (ms.map D.str)]) (xs := ms.map D.str) (by simp)]) (by omega) (by
      rintro dn y rest _ w el ⟨k, rs, rfl, rl, rm⟩
      obtain ⟨_, w1, k1, ⟨r, rfl, hr⟩, e⟩ := take_st (sub := sub) (n + 1) i 3 (by decide) (by decide) h w [.lst ((spares ns).map D.str), .lst (ms.map D.str)] hi k
      refine ⟨dN r, w1, by simp [e], k1, rs ++ [r], by simp, by simp [rl], ?_⟩
      intro r hr
      rcases List.mem_append.mp hr with z | z
      · exact rm r z
      · simp at z; omega) ⟨k3, [], rfl, rfl, by simp⟩ (fun s => by show (HW _ _ _ _)[h.length + 1]? = _; simp)
  have e4' : evL (run sub progT (n + 2)) b__law_full_l1 [some (.ref i), some (.ref (h.length + 1)), none, none, none, none, none] (HW h i w3 [.lst ((spares ns).map D.str), .lst (ms.map D.str)]) = .ok (rs.map dN) (HW h i w4 [.lst ((spares ns).map D.str), .lst (ms.map D.str)]) := e4
  obtain ⟨_, w5, k5, ⟨j, rfl, hj⟩, e5⟩ := take_st (sub := sub) (n + 1) i ms.length (by omega) (by omega) h w4 [.lst ((spares ns).map D.str), .lst (ms.map D.str), .lst (rs.map dN)] hi k4
  obtain ⟨_, w6, k6, ⟨r2, rfl, h2⟩, e6⟩ := take_st (sub := sub) (n + 1) i 2 (by decide) (by decide) h w5 [.lst ((spares ns).map D.str), .lst (ms.map D.str), .lst (rs.map dN)] hi k5
  obtain ⟨_, eq2, x, y, z, rfl, hp, hp2⟩ := pick2 (a := .lst [.int 0, .int 1, .int 2]) (b := .lst [.int 0, .int 2, .int 1]) h2 (fun d => ∃ x y z : Nat, d = .lst ([x, y, z].map dN) ∧ (∀ r, r ≤ 2 → r = x ∨ r = y ∨ r = z) ∧ x ≤ 2 ∧ y ≤ 2 ∧ z ≤ 2) ⟨0, 1, 2, rfl, by omega, by decide⟩ ⟨0, 2, 1, rfl, by omega, by decide⟩
  have rl : rs.length = ms.length := rl
  have hj' : j < rs.length := by omega
  have md : ∀ u : Nat, opBin .mod (.int (u : Int)) (.int ms.length) = some (.int ((u % ms.length : Nat) : Int)) := fun u => by
    rw [bin_mod (by omega), Int.fmod_eq_emod_of_nonneg _ (by omega)]; rfl
  have lp2 : evS sub (run sub progT (n + 2)) b__law_full_s2 [some (.ref i), some (.ref (h.length + 1)), none, some (.ref (h.length + 2)), some (dN j), none, none] (HW h i w5 [.lst ((spares ns).map D.str), .lst (ms.map D.str), .lst (rs.map dN)]) =
      .nx [some (.ref i), some (.ref (h.length + 1)), none, some (.ref (h.length + 2)), some (dN ((((j + 1) % rs.length + 1) % rs.length + 1) % rs.length)), none, none] (HW h i w6 [.lst ((spares ns).map D.str), .lst (ms.map D.str), .lst ((((rs.set j x).set ((j + 1) % rs.length) y).set (((j + 1) % rs.length + 1) % rs.length) z).map dN)]) := by
    rw [b__law_full_s2, s_fr]
    have it : evIt (run sub progT (n + 2)) (.seq (.idx (.lst (.disp (.cons (.lst (.disp (.cons (.int 0) (.cons (.int 1) (.cons (.int 2) .nil))))) (.cons (.lst (.disp (.cons (.int 0) (.cons (.int 2) (.cons (.int 1) .nil))))) .nil)))) (.call 13 (.cons (.var 0) (.cons (.int 2) .nil))))) [some (.ref i), some (.ref (h.length + 1)), none, some (.ref (h.length + 2)), some (dN j), none, none] (HW h i w5 [.lst ((spares ns).map D.str), .lst (ms.map D.str), .lst (rs.map dN)]) = .ok ([x, y, z].map dN, none) (HW h i w6 [.lst ((spares ns).map D.str), .lst (ms.map D.str), .lst (rs.map dN)]) := by
      simp only [evIt_seq, ev_idx, ev_lst, evL_disp, evEs_cons, ev_int, R.bind_ok, kEs1_a, evEs_nil, kEs2_a, kLst_a, kIdx1_a, ev_call, ev_var, List.getElem?_cons_zero, rv_s, e6, kIdx2_a, vw_lst, idx_lst, eq2, R.ofO_some, kItems_a, items_l]
    rw [it, bindE_ok]
    have := fr_inv (α := Nat) (σ := List Nat × Nat) (t := .v 5) (b := fun ρ h => evSs sub (run sub progT (n + 2)) (.cons (.setI (.var 3) (.var 4) (.var 5)) (.cons (.asg (.v 4) (.bin .mod (.bin .add (.var 4) (.int 1)) (.bi .len (.cons (.var 1) .nil)))) (.cons (.wipe [5]) .nil))) ρ h) (enc := dN)
      (ev := fun s => [some (.ref i), some (.ref (h.length + 1)), none, some (.ref (h.length + 2)), some (dN s.2), none, none]) (hp := fun s => HW h i w6 [.lst ((spares ns).map D.str), .lst (ms.map D.str), .lst (s.1.map dN)])
      (fun dn s => s = dn.foldl (fun s r => (s.1.set s.2 r, (s.2 + 1) % rs.length)) (rs, j) ∧ s.1.length = rs.length ∧ s.2 < rs.length) [x, y, z] (by
        rintro dn y rest ⟨s, a⟩ el ⟨es, ls, la⟩
        refine ⟨(s.set a y, (a + 1) % rs.length), ?_, by rw [List.foldl_append, ← es]; rfl, by simpa using ls, Nat.mod_lt _ (by omega)⟩
        have ls : s.length = rs.length := ls
        have la : a < rs.length := la
        obtain ⟨s', hs'⟩ : ∃ s', s' = s.set a y := ⟨_, rfl⟩
        have z1 : ∀ ρ, setK (.int y) ρ (.ref (h.length + 2)) (.int a) (HW h i w6 [.lst ((spares ns).map D.str), .lst (ms.map D.str), .lst (s.map dN)]) = .nx ρ (HW h i w6 [.lst ((spares ns).map D.str), .lst (ms.map D.str), .lst (s'.map dN)]) := fun ρ => by
          rw [setK_l (xs := s.map dN) (j := a) (by simp) (ixO_nat (by simp; omega)), hw_set _ _ _ _ hi, show ((s.map dN).set a (.int y)) = s'.map dN from by rw [hs']; exact set_mapN s a y]
          rfl
        have m1 := md (a + 1)
        rw [← hs']
        simp [z1, rl]
        simp at m1
        simp [m1]) (s0 := (rs, j)) ⟨rfl, rfl, hj'⟩
    obtain ⟨s, e, es, _⟩ := this
    rw [es] at e
    exact e
  obtain ⟨rs2, hr2⟩ : ∃ r, r = ((rs.set j x).set ((j + 1) % rs.length) y).set (((j + 1) % rs.length + 1) % rs.length) z := ⟨_, rfl⟩
  rw [← hr2] at lp2
  have pl2 : D.pls (rs2.map dN) = true := (show PUs 0 _ by simp).pls
  have f1 := fun ρ => fz_l (n := h.length + 1) (i := 1) (ρ := ρ) (h := HW h i w6 [.lst ((spares ns).map D.str), .lst (ms.map D.str), .lst (rs2.map dN)]) (xs := ms.map D.str) (by simp) pl
  have f2 := fun ρ => fz_l (n := h.length + 2) (i := 3) (ρ := ρ) (h := HW h i w6 [.lst ((spares ns).map D.str), .dead, .lst (rs2.map dN)]) (xs := rs2.map dN) (by simp) pl2
  have c2 : ∀ a, evL (run sub progT (n + 2)) b__law_full_l2 [some (.ref i), some (.lst (ms.map D.str)), none, some (.lst (rs2.map dN)), a, none, none] (HW h i w6 [.lst ((spares ns).map D.str), .dead, .dead]) = .ok ((ms.zip rs2).map encSig) (HW h i w6 [.lst ((spares ns).map D.str), .dead, .dead]) := fun a => by
    refine comp1 (ys := ms.zip rs2) (enc := encSig) ?_ (by simp; omega) fun p hp => ?_
    · have := zip_enc ms rs2
      simp only [evIt_zip, ev_var, List.getElem?_cons_zero, List.getElem?_cons_succ, rv_s, R.bind_ok, kZip_a, zipK_l, this]
    · simp
  have l2 : rs2.length = ms.length := by rw [hr2]; simpa using rl
  have all : ∀ r, r ≤ 2 → r ∈ rs2 := fun r hr => by rw [hr2]; exact three_in (by omega) hj' hp r hr
  have le2 : ∀ r ∈ rs2, r ≤ 2 := by rw [hr2]; exact mem_set_le (mem_set_le (mem_set_le rm hp2.1) hp2.2.1) hp2.2.2
  refine ⟨encS (ms.zip rs2), w6, [.lst ((spares ns).map D.str), .dead, .dead], k6, ⟨_, rfl, zip_ok mok (by omega) l5 l2 le2 (all 0 (by decide)), zip_all l2 all, by simp; omega⟩, (pu_encS 0 _).pl, ?_⟩
  show evSs sub _ b__law_full.body [some (.ref i), none, none, none, none, none, none] _ = _
  simp [b__law_full, e1, e2, eq, e3', lp1, so, hw_len, hi, e4', e5, lp2, f1, f2, c2]
end GM
end
section
set_option Elab.async false
set_option linter.all false
set_option maxRecDepth 100000
namespace GM
open PySem
variable {sub : Nat → Nat → Bool}
/-! ### tuples of numbers, guards drawn -/
def tuplesN (m : Nat) : Nat → List (List Nat)
  | 0 => [[]]
  | 1 => (List.range m).map fun k => [k]
  | _ => (List.range m).flatMap fun k => (List.range m).map fun j => [k, j]
theorem tuples_st (n : Nat) (h : MH) (m r : Nat) (hm : m ≤ 100) (hr : r ≤ 2) : run sub progT (n + 1) 17 [dN m, dN r] h = .ok (.lst ((tuplesN m r).map encB)) h := by
  rcases (by omega : r = 0 ∨ r = 1 ∨ r = 2) with rfl | rfl | rfl
  · refine def_p (fd := b__law_tuples) (L := []) rfl rfl (by decide) rfl ?_ rfl
    show evSs sub _ b__law_tuples.body [some (dN m), some (.int 0), none, none, none] h = _
    simp [b__law_tuples, tuplesN]
  · refine def_p (fd := b__law_tuples) (L := []) rfl rfl (by decide) rfl ?_ (show PU 2 (.lst ((tuplesN m 1).map encB)) by simp).pl
    show evSs sub _ b__law_tuples.body [some (dN m), some (.int 1), none, none, none] h = _
    have c1 : evL (run sub progT n) b__law_tuples_l1 [some (dN m), some (.int 1), none, none, none] h = .ok ((List.range m).map fun k => encB [k]) h := by
      refine comp1 (ys := List.range m) (enc := fun (k : Nat) => .int k) ?_ (by simp; omega) fun k hk => by simp
      simp [rg1K_n (show m < 1000000000 by omega)]
    simp [b__law_tuples, tuplesN, c1, Function.comp_def]
  · have lp : ∃ L, evS sub (run sub progT n) b__law_tuples_s1 [some (dN m), some (.int 2), some (.ref h.length), none, none] (h ++ [.lst []]) = .nx [some (dN m), some (.int 2), some (.ref h.length), none, none] (h ++ (.lst ((tuplesN m 2).map encB) :: L)) := by
      rw [b__law_tuples_s1, s_fr]
      simp only [evIt_range1, ev_var, List.getElem?_cons_succ, List.getElem?_cons_zero, rv_s, R.bind_ok, rg1K_n (show m < 1000000000 by omega), bindE_ok]
      have := fr_inv (α := Nat) (σ := List (List Nat) × MH) (t := .v 3) (b := fun ρ h => evSs sub (run sub progT n) (.cons (.ex (.extend (.var 2) (.live (b__law_tuples_l2)))) (.cons (.wipe [3]) .nil)) ρ h) (enc := fun (k : Nat) => .int k)
        (ev := fun _ => [some (dN m), some (.int 2), some (.ref h.length), none, none]) (hp := fun s => h ++ (.lst (s.1.map encB) :: s.2))
        (fun dn s => s.1 = dn.flatMap (fun k => (List.range m).map fun j => [k, j])) (List.range m) (by
          rintro dn y rest ⟨s, L⟩ el es
          have es : s = dn.flatMap (fun k => (List.range m).map fun j => [k, j]) := es
          have ls : s.length ≤ 10000 := by
            have l1 := congrArg List.length el
            simp at l1
            have : s.length = dn.length * m := by
              rw [es, List.length_flatMap]
              simp only [List.length_map, List.length_range]
              rw [List.map_const', List.sum_replicate_nat]
            rw [this]
            calc dn.length * m ≤ m * m := Nat.mul_le_mul_right m (by omega)
              _ ≤ 100 * 100 := Nat.mul_le_mul hm hm
          have c2 : evL (run sub progT n) b__law_tuples_l2 [some (dN m), some (.int 2), some (.ref h.length), some (.int y), none] (h ++ (.lst (s.map encB) :: L)) = .ok (((List.range m).map fun j => [y, j]).map encB) (h ++ (.lst (s.map encB) :: L)) := by
            rw [List.map_map]
            refine comp1 (ys := List.range m) (enc := fun (k : Nat) => .int k) ?_ (by simp; omega) fun k hk => by simp
            simp [rg1K_n (show m < 1000000000 by omega)]
          have a1 := fun C e ρ => kExt_r (C := C) (e := e) (ρ := ρ) (n := h.length) (h := h ++ (.lst (s.map encB) :: L)) (xs := s.map encB) (by simp)
          obtain ⟨new, hnew⟩ : ∃ nw, nw = (List.range m).map fun j => [y, j] := ⟨_, rfl⟩
          rw [← hnew] at c2
          have ln : new.length = m := by rw [hnew]; simp
          have a2 := extK_rr (m := h.length + (L.length + 1)) (n := h.length) (h := h ++ (.lst (s.map encB) :: (L ++ [.lst (new.map encB)]))) (xs := s.map encB) (ys := new.map encB) (by simp) (by simp) (by simp; omega)
          refine ⟨(s ++ new, L ++ [.lst (new.map encB)]), ?_, ?_⟩
          · simp [a1, c2, a2]
          · show s ++ new = _
            rw [List.flatMap_append, es, hnew]; simp) (s0 := ([], [])) rfl
      obtain ⟨⟨s, L⟩, e, es⟩ := this
      have es : s = tuplesN m 2 := es
      subst es
      exact ⟨L, e⟩
    obtain ⟨L, lp⟩ := lp
    refine def_l (fd := b__law_tuples) (L := .lst ((tuplesN m 2).map encB) :: L) (k := 0) (xs := (tuplesN m 2).map encB) rfl rfl (by decide) rfl rfl ?_ rfl (show PUs 1 _ by simp).pls
    show evSs sub _ b__law_tuples.body [some (dN m), some (.int 2), none, none, none] h = _
    simp [b__law_tuples, lp]
theorem tuplesN_ok (m : Nat) : ∀ r, r ≤ 2 → (∀ b ∈ tuplesN m r, b.length = r ∧ ∀ s ∈ b, s < m) ∧ (tuplesN m r).Pairwise (· < ·) ∧ (tuplesN m r).length = m ^ r := by
  intro r hr
  rcases (by omega : r = 0 ∨ r = 1 ∨ r = 2) with rfl | rfl | rfl
  · refine ⟨?_, ?_, rfl⟩
    · intro b hb
      simp [tuplesN] at hb
      subst hb
      simp
    · simp [tuplesN]
  · refine ⟨?_, ?_, by simp [tuplesN]⟩
    · intro b hb
      simp only [tuplesN, List.mem_map, List.mem_range] at hb
      obtain ⟨k, hk, rfl⟩ := hb
      simp [hk]
    · simp only [tuplesN, List.pairwise_map]
      refine List.pairwise_lt_range.imp fun {a b} h => ?_
      exact List.Lex.rel h
  · refine ⟨?_, ?_, ?_⟩
    · intro b hb
      simp only [tuplesN, List.mem_flatMap, List.mem_map, List.mem_range] at hb
      obtain ⟨k, hk, j, hj, rfl⟩ := hb
      simp [hk, hj]
    · simp only [tuplesN, List.pairwise_flatMap]
      refine ⟨fun k _ => ?_, ?_⟩
      · rw [List.pairwise_map]
        refine List.pairwise_lt_range.imp fun {a b} h => ?_
        exact List.Lex.cons (List.Lex.rel h)
      · refine List.pairwise_lt_range.imp fun {a b} h => ?_
        intro x hx y hy
        obtain ⟨j, _, rfl⟩ := List.mem_map.mp hx
        obtain ⟨i, _, rfl⟩ := List.mem_map.mp hy
        exact List.Lex.rel h
    · simp only [tuplesN, List.length_flatMap, List.length_map, List.length_range]
      rw [List.map_const', List.sum_replicate_nat, List.length_range, Nat.pow_two]
/-- states that are drawn: [s for s in range(m) if take(well, th) == 0], each made into something -/
theorem drawn_states (n i : Nat) {h : MH} (hi : i < h.length) {L : MH} {ρ : Env} {t : Nat} {own : List Nat} {elt thr mx : E} {m th : Nat} (out : Nat → D) (m1 : m < 1000) (th0 : 0 < th) (th1 : th < 1000) {w : List D} (k : WOk w)
    (hm : ∀ w, evE (run sub progT (n + 1)) mx ρ (HW h i w L) = .ok (dN m) (HW h i w L))
    (ht : ∀ s w, evE (run sub progT (n + 1)) (.var 0) ((wipeE ρ own).set t (some (dN s))) (HW h i w L) = .ok (.ref i) (HW h i w L))
    (hth : ∀ s w, evE (run sub progT (n + 1)) thr ((wipeE ρ own).set t (some (dN s))) (HW h i w L) = .ok (dN th) (HW h i w L))
    (he : ∀ s w, evE (run sub progT (n + 1)) elt ((wipeE ρ own).set t (some (dN s))) (HW h i w L) = .ok (out s) (HW h i w L)) (hlen : t < (wipeE ρ own).length) :
    ∃ (ss : List Nat) (w' : List D), WOk w' ∧ ss.Pairwise (· < ·) ∧ (∀ s ∈ ss, s < m) ∧ ss.length ≤ m ∧
      evL (run sub progT (n + 1)) (.comp elt (.one (.v t) (.range1 mx) (.cons (.cmp .eq (.call 13 (.cons (.var 0) (.cons thr .nil))) (.int 0)) .nil)) own) ρ (HW h i w L) = .ok (ss.map out) (HW h i w' L) := by
  obtain ⟨_, w', e, k', ss, rfl, pw, lt, ln⟩ := comp_invf (C := run sub progT (n + 1)) (ρ := ρ) (t := .v t) (it := .range1 mx) (own := own) (elt := elt) (c := .cmp .eq (.call 13 (.cons (.var 0) (.cons thr .nil))) (.int 0)) (enc := fun (k : Nat) => .int k) (hp := fun w => HW h i w L)
    (fun dn ac s => WOk s ∧ ∃ ss : List Nat, ac = ss.map out ∧ ss.Pairwise (· < ·) ∧ (∀ x ∈ ss, x < dn.length) ∧ ss.length ≤ dn.length) (List.range m) (s0 := w) (s := w) (by simp [hm, rg1K_n (show m < 1000000000 by omega)]) (by simp; omega) (by
      rintro dn y rest _ w el ⟨k, ss, rfl, pw, lt, ln⟩
      have hy : y = dn.length := by
        have l1 := congrArg (·[dn.length]?) el
        simp only [List.getElem?_append_right (Nat.le_refl _), Nat.sub_self, List.getElem?_cons_zero] at l1
        obtain ⟨_, e⟩ := List.getElem?_eq_some_iff.mp l1
        simpa using e.symm
      obtain ⟨_, w1, k1, ⟨r, rfl, hr⟩, e⟩ := take_st (sub := sub) n i th (by omega) (by omega) h w L hi k
      refine ⟨decide (r = 0), w1, ?_, ?_, ?_⟩
      · simp [hlen, ht, hth, e]
      · intro _
        exact ⟨k1, ss, rfl, pw, fun x hx => by have := lt x hx; simp; omega, by simp; omega⟩
      · intro _
        refine ⟨out y, w1, by simp [hlen, he], k1, ss ++ [y], by simp, ?_, ?_, by simp; omega⟩
        · rw [List.pairwise_append]
          refine ⟨pw, by simp, fun a ha b hb => ?_⟩
          simp at hb
          have := lt a ha
          omega
        · intro x hx
          rcases List.mem_append.mp hx with z | z
          · have := lt x z; simp; omega
          · simp at z; simp; omega) ⟨k, [], rfl, by simp, by simp, by simp⟩
  refine ⟨ss, w', k', pw, by simpa using lt, by simpa using ln, e⟩
/-- one below's rows go behind -/
theorem rows_app {nm : Str} {dn : List (List Nat)} {b : List Nat} {new : List Row} {ss : List Nat} (hb : ∀ c ∈ dn, c < b) (hn : ∀ r ∈ new, r.1 = nm ∧ r.2.1 ∈ dn) (ha : new.Pairwise rowLt) (hs : ss.Pairwise (· < ·)) :
    (new ++ ss.map fun s => ((nm, b, s) : Row)).Pairwise rowLt := by
  rw [List.pairwise_append]
  refine ⟨ha, ?_, ?_⟩
  · rw [List.pairwise_map]
    exact hs.imp fun {a b} h => .inr ⟨rfl, .inr ⟨rfl, h⟩⟩
  · intro r hr q hq
    obtain ⟨s, _, rfl⟩ := List.mem_map.mp hq
    exact .inr ⟨(hn r hr).1, .inl (hb _ (hn r hr).2)⟩
end GM
end
section
set_option Elab.async false
set_option linter.all false
set_option maxRecDepth 100000
namespace GM
open PySem
variable {sub : Nat → Nat → Bool}
def gdTurn : Ss := .cons (.ite (.cmp .eq (.var 4) (.int 0)) (.cons (.ex (.append (.var 5) (.tup (.cons (.var 7) (.cons (.var 9) (.cons (.call 13 (.cons (.var 0) (.cons (.var 3) .nil))) .nil)))))) .nil) (.cons (.ex (.extend (.var 5) (.live (b__law_guard_l1)))) .nil)) (.cons (.wipe [9]) .nil)
/-- one below: the new rows -/
theorem guard_turn (n i : Nat) {h : MH} (hi : i < h.length) {sgn mst x6 x8 : Option D} {nm : Str} {b : List Nat} {rows : List Row} {M : MH} {m th : Nat} (m1 : 1 ≤ m) (m2 : m < 1000) (th1 : th < 1000) (hl : rows.length ≤ 20000) {w : List D} (k : WOk w) :
    ∃ (ss : List Nat) (w' : List D) (M' : MH), WOk w' ∧ ss.Pairwise (· < ·) ∧ (∀ s ∈ ss, s < m) ∧ ss.length ≤ m ∧
      evSs sub (run sub progT (n + 1)) gdTurn [some (.ref i), sgn, mst, some (dN m), some (dN th), some (.ref h.length), x6, some (.str nm), x8, some (encB b), none] (HW h i w (.lst (rows.map encRow) :: M)) =
        .nx [some (.ref i), sgn, mst, some (dN m), some (dN th), some (.ref h.length), x6, some (.str nm), x8, none, none] (HW h i w' (.lst ((rows ++ ss.map fun s => ((nm, b, s) : Row)).map encRow) :: M')) := by
  by_cases t0 : th = 0
  · subst t0
    obtain ⟨_, w1, k1, ⟨r, rfl, hr⟩, e⟩ := take_st (sub := sub) n i m (by omega) (by omega) h w (.lst (rows.map encRow) :: M) hi k
    have a1 := fun C e ρ => kApp_r (C := C) (e := e) (ρ := ρ) (n := h.length) (h := HW h i w (.lst (rows.map encRow) :: M)) (xs := rows.map encRow) (by simp)
    have a2 := fun d => appK_r (d := d) (n := h.length) (h := HW h i w1 (.lst (rows.map encRow) :: M)) (xs := rows.map encRow) (by simp) (by simp; omega)
    refine ⟨[r], w1, M, k1, by simp, by simp; omega, by simp; omega, ?_⟩
    simp [gdTurn, a1, e, a2, hi]
  · obtain ⟨ss, w1, k1, pw, lt, ln, e⟩ := drawn_states (sub := sub) n i hi (L := .lst (rows.map encRow) :: M) (ρ := [some (.ref i), sgn, mst, some (dN m), some (dN th), some (.ref h.length), x6, some (.str nm), x8, some (encB b), none]) (t := 10) (own := [10]) (elt := .tup (.cons (.var 7) (.cons (.var 9) (.cons (.var 10) .nil)))) (thr := .var 4) (mx := .var 3) (m := m) (th := th) (fun s => encRow (nm, b, s)) m2 (by omega) th1 k (by simp) (by simp) (by simp) (by simp) (by simp)
    have a1 := fun C e ρ => kExt_r (C := C) (e := e) (ρ := ρ) (n := h.length) (h := HW h i w (.lst (rows.map encRow) :: M)) (xs := rows.map encRow) (by simp)
    obtain ⟨new, hnew⟩ : ∃ nw, nw = ss.map fun s => ((nm, b, s) : Row) := ⟨_, rfl⟩
    have e' : evL (run sub progT (n + 1)) b__law_guard_l1 [some (.ref i), sgn, mst, some (dN m), some (dN th), some (.ref h.length), x6, some (.str nm), x8, some (encB b), none] (HW h i w (.lst (rows.map encRow) :: M)) = .ok (new.map encRow) (HW h i w1 (.lst (rows.map encRow) :: M)) := by
      rw [hnew, List.map_map]; exact e
    have ln' : new.length ≤ m := by rw [hnew]; simpa using ln
    have a2 := extK_rr (m := h.length + (M.length + 1)) (n := h.length) (h := HW h i w1 (.lst (rows.map encRow) :: (M ++ [.lst (new.map encRow)]))) (xs := rows.map encRow) (ys := new.map encRow) (by simp) (by simp) (by simp; omega)
    refine ⟨ss, w1, M ++ [.lst (new.map encRow)], k1, pw, lt, ln, ?_⟩
    rw [← hnew]
    have t0' : ¬ ((th : Int) = 0) := by omega
    simp [gdTurn, t0, a1, e', a2, hi, hw_len]
/-- one sign: its rows -/
theorem guard_s1 (n i : Nat) {h : MH} (hi : i < h.length) {sgn mst x6 : Option D} {nm : Str} {r : Nat} {rows : List Row} {M : MH} {m th : Nat} (m1 : 1 ≤ m) (m8 : m ≤ 8) (hr : r ≤ 2) (th1 : th < 1000) (hl : rows.length ≤ 10000) {w : List D} (k : WOk w) :
    ∃ (new : List Row) (w' : List D) (M' : MH), WOk w' ∧ new.Pairwise rowLt ∧ (∀ q ∈ new, q.1 = nm ∧ q.2.1.length = r ∧ (∀ s ∈ q.2.1, s < m) ∧ q.2.2 < m) ∧ new.length ≤ 512 ∧
      evS sub (run sub progT (n + 1)) b__law_guard_s1 [some (.ref i), sgn, mst, some (dN m), some (dN th), some (.ref h.length), x6, some (.str nm), some (dN r), none, none] (HW h i w (.lst (rows.map encRow) :: M)) =
        .nx [some (.ref i), sgn, mst, some (dN m), some (dN th), some (.ref h.length), x6, some (.str nm), some (dN r), none, none] (HW h i w' (.lst ((rows ++ new).map encRow) :: M')) := by
  obtain ⟨tb, tpw, tl⟩ := tuplesN_ok m r hr
  have tl2 : (tuplesN m r).length ≤ 64 := by
    rw [tl]
    calc m ^ r ≤ 8 ^ r := Nat.pow_le_pow_left m8 r
      _ ≤ 8 ^ 2 := Nat.pow_le_pow_right (by decide) hr
      _ = 64 := rfl
  have := fr_inv (α := List Nat) (σ := List Row × List D × MH) (t := .v 9) (b := fun ρ h => evSs sub (run sub progT (n + 1)) gdTurn ρ h) (enc := encB)
    (ev := fun _ => [some (.ref i), sgn, mst, some (dN m), some (dN th), some (.ref h.length), x6, some (.str nm), some (dN r), none, none]) (hp := fun s => HW h i s.2.1 (.lst ((rows ++ s.1).map encRow) :: s.2.2))
    (fun dn s => WOk s.2.1 ∧ s.1.Pairwise rowLt ∧ (∀ q ∈ s.1, q.1 = nm ∧ q.2.1 ∈ dn ∧ q.2.2 < m) ∧ s.1.length ≤ dn.length * 8) (tuplesN m r) (by
      rintro dn b rest ⟨new, w, M⟩ el ⟨k, pw, al, ln⟩
      have ld : dn.length + 1 ≤ 64 := by
        have l1 := congrArg List.length el
        simp at l1; omega
      have ln : new.length ≤ dn.length * 8 := ln
      obtain ⟨ss, w1, M1, k1, pw1, lt1, ln1, e⟩ := guard_turn (sub := sub) n i hi (sgn := sgn) (mst := mst) (x6 := x6) (x8 := some (dN r)) (nm := nm) (b := b) (rows := rows ++ new) (M := M) (m := m) (th := th) m1 (by omega) th1 (by rw [List.length_append]; omega) k
      have bl : ∀ c ∈ dn, c < b := by
        intro c hc
        rw [el, List.pairwise_append] at tpw
        exact tpw.2.2 c hc b (by simp)
      refine ⟨(new ++ ss.map (fun s => ((nm, b, s) : Row)), w1, M1), ?_, k1, rows_app bl (fun q hq => ⟨(al q hq).1, (al q hq).2.1⟩) pw pw1, ?_, ?_⟩
      · simp only [asgT_v, List.length_cons, List.length_nil, Nat.reduceAdd, Nat.reduceLT, if_true, fK_s, List.set_cons_succ, List.set_cons_zero]
        rw [e]
        simp
      · intro q hq
        rcases List.mem_append.mp hq with z | z
        · exact ⟨(al q z).1, List.mem_append_left _ (al q z).2.1, (al q z).2.2⟩
        · obtain ⟨s, hs, rfl⟩ := List.mem_map.mp z
          exact ⟨rfl, by simp, lt1 s hs⟩
      · simp only [List.length_append, List.length_map, List.length_singleton]
        omega) (s0 := ([], w, M)) ⟨k, by simp, by simp, by simp⟩
  obtain ⟨⟨new, w', M'⟩, e, k', pw, al, ln⟩ := this
  refine ⟨new, w', M', k', pw, fun q hq => ?_, ?_, ?_⟩
  · have a := al q hq
    have b := tb q.2.1 a.2.1
    exact ⟨a.1, b.1, b.2, a.2.2⟩
  · have ln : new.length ≤ (tuplesN m r).length * 8 := ln
    omega
  · rw [b__law_guard_s1, s_fr]
    have tp := tuples_st (sub := sub) n (HW h i w (.lst (rows.map encRow) :: M)) m r (by omega) hr
    simp only [evIt_seq, ev_call, evEs_cons, ev_var, List.getElem?_cons_succ, List.getElem?_cons_zero, rv_s, R.bind_ok, kEs1_a, evEs_nil, kEs2_a, tp, kItems_a, items_l, R.ofO_some, bindE_ok]
    simp only [List.append_nil] at e
    exact e
theorem rk_mem {sg : Sg} (so : SgOk sg) {p : Str × Nat} (hp : p ∈ sg) : rkOf sg p.1 = some p.2 := by
  have as := so.asc
  clear so
  unfold rkOf
  induction sg with
  | nil => cases hp
  | cons q sg ih =>
    rw [List.findSome?_cons]
    rw [List.pairwise_cons] at as
    rcases List.mem_cons.mp hp with rfl | hp
    · simp
    · have : ¬ q.1 = p.1 := fun e => by
        have := as.1 p hp
        rw [e] at this
        exact List.lt_irrefl _ this
      rw [if_neg this]
      exact ih hp as.2
theorem guard_st (n i : Nat) (sg : Sg) (so : SgOk sg) (mo : Nat) (mo1 : 1 ≤ mo) (mo8 : mo ≤ 8) : GenR (run sub progT (n + 2) 18 [.ref i, encS sg, dN mo]) i (fun d => ∃ g, d = encG g ∧ GdOk g ∧ g.sg = sg ∧ g.many ≤ mo) := by
  refine gen_p (fd := b__law_guard) rfl rfl (by decide) rfl fun h w hi k => ?_
  obtain ⟨_, w1, k1, ⟨r1, rfl, h1⟩, e1⟩ := take_st (sub := sub) n i mo (by omega) (by omega) h w [] hi k
  obtain ⟨_, w2, k2, ⟨r4, rfl, h4⟩, e2⟩ := take_st (sub := sub) n i 4 (by decide) (by decide) h w1 [] hi k1
  obtain ⟨_, eq, th, rfl, hq⟩ := pick4 (a := .int 2) (b := .int 3) (c := .int 4) (d := .int 0) h4 (LeN 4) ⟨2, rfl, by decide⟩ ⟨3, rfl, by decide⟩ ⟨4, rfl, by decide⟩ ⟨0, rfl, by decide⟩
  obtain ⟨m, em, m1, m8⟩ : ∃ m : Nat, D.int (1 + (r1 : Int)) = dN m ∧ 1 ≤ m ∧ m ≤ mo := ⟨1 + r1, by rw [dN]; congr 1, by omega, by omega⟩
  have lp := fr_inv (α := Str × Nat) (σ := List Row × List D × MH) (t := .t (.cons (.v 7) (.cons (.v 8) .nil))) (b := fun ρ h => evSs sub (run sub progT (n + 1)) (.cons (b__law_guard_s1) (.cons (.wipe [7, 8, 9]) .nil)) ρ h) (enc := encSig)
    (ev := fun _ => [some (.ref i), some (encS sg), some (dN mo), some (dN m), some (dN th), some (.ref h.length), none, none, none, none, none]) (hp := fun s => HW h i s.2.1 (.lst (s.1.map encRow) :: s.2.2))
    (fun dn s => WOk s.2.1 ∧ s.1.Pairwise rowLt ∧ (∀ q ∈ s.1, (q.1, q.2.1.length) ∈ dn ∧ (∀ s ∈ q.2.1, s < m) ∧ q.2.2 < m) ∧ s.1.length ≤ dn.length * 512) sg (by
      rintro dn ⟨nm, r⟩ rest ⟨rows, w, M⟩ el ⟨k, pw, al, ln⟩
      have l5 := so.five
      have ld : dn.length + 1 ≤ 5 := by
        have l1 := congrArg List.length el
        simp at l1; omega
      have ln : rows.length ≤ dn.length * 512 := ln
      have rle : r ≤ 2 := so.rk (nm, r) (by rw [el]; simp)
      obtain ⟨new, w1, M1, k1, pw1, al1, ln1, e⟩ := guard_s1 (sub := sub) n i hi (sgn := some (encS sg)) (mst := some (dN mo)) (x6 := none) (nm := nm) (r := r) (rows := rows) (M := M) (m := m) (th := th) m1 (by omega) rle (by omega) (by omega) k
      refine ⟨(rows ++ new, w1, M1), ?_, k1, ?_, ?_, ?_⟩
      · simp [e]
      · have pw : rows.Pairwise rowLt := pw
        rw [List.pairwise_append]
        refine ⟨pw, pw1, fun a ha b hb => .inl ?_⟩
        have x1 := (al a ha).1
        have x2 := (al1 b hb).1
        have as := so.asc
        rw [el, List.pairwise_append] at as
        rw [x2]
        exact as.2.2 _ x1 (nm, r) (by simp)
      · intro q hq
        rcases List.mem_append.mp hq with z | z
        · exact ⟨List.mem_append_left _ (al q z).1, (al q z).2⟩
        · have a := al1 q z
          refine ⟨?_, a.2.2.1, a.2.2.2⟩
          rw [a.1, a.2.1]; simp
      · simp only [List.length_append, List.length_singleton]
        omega) (s0 := ([], w2, [])) ⟨k2, by simp, by simp, by simp⟩
  obtain ⟨⟨rows, w3, M3⟩, e3, k3, pw3, al3, ln3⟩ := lp
  have e3' : evS sub (run sub progT (n + 1)) b__law_guard_s2 [some (.ref i), some (encS sg), some (dN mo), some (dN m), some (dN th), some (.ref h.length), none, none, none, none, none] (HW h i w2 [.lst []]) = .nx [some (.ref i), some (encS sg), some (dN mo), some (dN m), some (dN th), some (.ref h.length), none, none, none, none, none] (HW h i w3 (.lst (rows.map encRow) :: M3)) := by
    rw [b__law_guard_s2, s_fr]
    simp only [evIt_seq, ev_var, List.getElem?_cons_succ, List.getElem?_cons_zero, rv_s, R.bind_ok, kItems_a, items_t, R.ofO_some, bindE_ok]
    exact e3
  obtain ⟨ss, w4, k4, pw4, lt4, ln4, e4⟩ := drawn_states (sub := sub) n i hi (L := .lst (rows.map encRow) :: M3) (ρ := [some (.ref i), some (encS sg), some (dN mo), some (dN m), some (dN th), some (.ref h.length), none, none, none, none, none]) (t := 10) (own := [10]) (elt := .var 10) (thr := .int 2) (mx := .var 3) (m := m) (th := 2) dN (by omega) (by decide) (by decide) k3 (by simp) (by simp) (by simp) (by simp) (by simp)
  have e4' : evL (run sub progT (n + 1)) b__law_guard_l2 [some (.ref i), some (encS sg), some (dN mo), some (dN m), some (dN th), some (.ref h.length), none, none, none, none, none] (HW h i w3 (.lst (rows.map encRow) :: M3)) = .ok (ss.map dN) (HW h i w4 (.lst (rows.map encRow) :: M3)) := e4
  have pl : D.pls (ss.map dN) = true := (show PUs 0 _ by simp).pls
  have f1 := fun ρ => fz_l (n := h.length + (M3.length + 1)) (i := 6) (ρ := ρ) (h := HW h i w4 (.lst (rows.map encRow) :: (M3 ++ [.lst (ss.map dN)]))) (xs := ss.map dN) (by simp) pl
  have ln3 : rows.length ≤ sg.length * 512 := ln3
  have l5 := so.five
  refine ⟨encG ⟨sg, m, rows, ss⟩, w4, .lst (rows.map encRow) :: (M3 ++ [.dead]), k4, ⟨_, rfl, ⟨so, m1, by show m ≤ 24; omega, fun q hq => ?_, pw3, by show rows.length ≤ 3000; omega, lt4, pw4⟩, rfl, m8⟩, (show PU 4 (encG _) by simp).pl, ?_⟩
  · have a := al3 q hq
    exact ⟨rk_mem so a.1, a.2.1, a.2.2⟩
  · show evSs sub _ b__law_guard.body [some (.ref i), some (encS sg), some (dN mo), none, none, none, none, none, none, none, none] _ = _
    simp [b__law_guard, e1, e2, eq, em, e3', e4', hw_len, hi, f1]
end GM
end
section
set_option Elab.async false
set_option linter.all false
set_option maxRecDepth 100000
namespace GM
open PySem
variable {sub : Nat → Nat → Bool}
/-! ### the table of a guard's rows -/
abbrev TK := Str × List Nat
abbrev encTK (k : TK) : D := .tup [.str k.1, encB k.2]
abbrev TE := TK × Nat × List Nat
def TE.ref (b : Nat) (e : TE) : D × D := (encTK e.1, D.ref (b + e.2.1))
def keysT (E : List TE) : List TK := E.map (·.1)
theorem encTK_inj {a b : TK} (h : encTK a = encTK b) : a = b := by
  obtain ⟨a1, a2⟩ := a
  obtain ⟨b1, b2⟩ := b
  injection h with h
  injection h with h1 h
  injection h1 with h1
  injection h with h2 h
  have := encB_inj h2
  simp_all
structure TOk (b F : Nat) (E : List TE) (L : MH) : Prop where
  dic : L[F]? = some (.dic (E.map (TE.ref b)))
  ins : ∀ e ∈ E, L[e.2.1]? = some (.lst (e.2.2.map dN))
  neF : ∀ e ∈ E, e.2.1 ≠ F
  off : (E.map (·.2.1)).Nodup
  key : (keysT E).Nodup
def addTE (E : List TE) (k : TK) (s : Nat) : List TE := E.map fun e => if e.1 = k then (e.1, e.2.1, e.2.2 ++ [s]) else e
theorem addTE_k (E : List TE) (k : TK) (s : Nat) : keysT (addTE E k s) = keysT E := by
  unfold keysT addTE
  rw [List.map_map]
  apply List.map_congr_left
  intro e _
  show (if e.1 = k then ((e.1, e.2.1, e.2.2 ++ [s]) : TE) else e).1 = e.1
  split <;> rfl
/-- what stands behind a key -/
def lkT (E : List TE) (k : TK) : List Nat := ((E.find? fun e => decide (e.1 = k)).map (·.2.2)).getD []
theorem lkT_add {E : List TE} {k : TK} {s : Nat} (hk : k ∈ keysT E) (k' : TK) : lkT (addTE E k s) k' = if k' = k then lkT E k' ++ [s] else lkT E k' := by
  induction E with
  | nil => simp [keysT] at hk
  | cons e E ih =>
    have fst : (if e.1 = k then ((e.1, e.2.1, e.2.2 ++ [s]) : TE) else e).1 = e.1 := by split <;> rfl
    unfold lkT addTE
    rw [List.map_cons, List.find?_cons, List.find?_cons, fst]
    by_cases q : e.1 = k'
    · simp only [q, decide_true, Option.map_some, Option.getD_some]
      by_cases z : k' = k
      · simp [z]
      · have : ¬ e.1 = k := fun w => z (by rw [← q, w])
        simp [z]
    · simp only [q, decide_false]
      by_cases z : k ∈ keysT E
      · exact ih z
      · have h1 : k = e.1 := by
          rcases List.mem_cons.mp (show k ∈ e.1 :: keysT E from hk) with h | h
          · exact h
          · exact absurd h z
        have h2 : ¬ k' = k := fun w => q (by rw [w, h1])
        rw [if_neg h2]
        have : addTE E k s = E := by
          unfold addTE
          conv => rhs; rw [← List.map_id E]
          apply List.map_congr_left
          intro x hx
          have : ¬ x.1 = k := fun w => z (w ▸ List.mem_map.mpr ⟨x, hx, rfl⟩)
          simp [this]
        unfold addTE at this
        rw [this]
theorem lkT_new {E : List TE} {k : TK} {o : Nat} {xs : List Nat} (hk : k ∉ keysT E) (k' : TK) : lkT (E ++ [(k, o, xs)]) k' = if k' = k then xs else lkT E k' := by
  unfold lkT
  rw [List.find?_append]
  by_cases q : k' = k
  · subst q
    rw [List.find?_eq_none.mpr (by
      intro e he
      simp only [decide_eq_true_eq]
      intro w
      exact hk (w ▸ List.mem_map.mpr ⟨e, he, rfl⟩))]
    simp
  · have : List.find? (fun e : TE => decide (e.1 = k')) [(k, o, xs)] = none := by simp; exact fun w => q w.symm
    rw [this, if_neg q]
    simp
theorem lkT_none {E : List TE} {k : TK} (hk : k ∉ keysT E) : lkT E k = [] := by
  unfold lkT
  rw [List.find?_eq_none.mpr]
  · rfl
  · intro e he
    simp only [decide_eq_true_eq]
    intro w
    exact hk (w ▸ List.mem_map.mpr ⟨e, he, rfl⟩)
theorem TOk.add {b F : Nat} {E : List TE} {L : MH} (k : TOk b F E L) {e : TE} (he : e ∈ E) (s : Nat) : TOk b F (addTE E e.1 s) (L.set e.2.1 (.lst ((e.2.2 ++ [s]).map dN))) := by
  have fst : ∀ (x : TE), (if x.1 = e.1 then ((x.1, x.2.1, x.2.2 ++ [s]) : TE) else x).1 = x.1 := fun x => by split <;> rfl
  have mid : ∀ (x : TE), (if x.1 = e.1 then ((x.1, x.2.1, x.2.2 ++ [s]) : TE) else x).2.1 = x.2.1 := fun x => by split <;> rfl
  have le : e.2.1 < L.length := (List.getElem?_eq_some_iff.mp (k.ins e he)).1
  refine ⟨?_, ?_, ?_, ?_, ?_⟩
  · rw [List.getElem?_set_ne (k.neF e he), k.dic]
    congr 2
    unfold addTE
    rw [List.map_map]
    apply List.map_congr_left
    intro x _
    show _ = TE.ref b (if x.1 = e.1 then ((x.1, x.2.1, x.2.2 ++ [s]) : TE) else x)
    unfold TE.ref
    rw [fst, mid]
  · intro x hx
    obtain ⟨x0, hx0, rfl⟩ := List.mem_map.mp hx
    rw [mid]
    by_cases q : x0.1 = e.1
    · have : x0 = e := uniqT (fun e : TE => e.1) k.key hx0 he q
      subst this
      rw [if_pos rfl, List.getElem?_set_self le]
    · rw [if_neg q, List.getElem?_set_ne, k.ins x0 hx0]
      intro z
      exact q (by rw [uniqT (fun e : TE => e.2.1) k.off hx0 he z.symm])
  · intro x hx
    obtain ⟨x0, hx0, rfl⟩ := List.mem_map.mp hx
    rw [mid]; exact k.neF x0 hx0
  · have : (addTE E e.1 s).map (·.2.1) = E.map (·.2.1) := by
      unfold addTE
      rw [List.map_map]
      exact List.map_congr_left fun x _ => mid x
    rw [this]; exact k.off
  · rw [addTE_k]; exact k.key
theorem TOk.app {b F : Nat} {E : List TE} {L : MH} (k : TOk b F E L) (M : MH) : TOk b F E (L ++ M) := by
  have up : ∀ {j : Nat} {o : LO}, L[j]? = some o → (L ++ M)[j]? = some o := fun {j o} e => by
    rw [List.getElem?_append_left (List.getElem?_eq_some_iff.mp e).1]; exact e
  exact ⟨up k.dic, fun e he => up (k.ins e he), k.neF, k.off, k.key⟩
theorem TOk.new {b F : Nat} {E : List TE} {L : MH} (k : TOk b F E L) {c : TK} (s : Nat) (hn : c ∉ keysT E) : TOk b F (E ++ [(c, L.length, [s])]) (((L ++ [LO.lst []]).set F (LO.dic (E.map (TE.ref b) ++ [(encTK c, D.ref (b + L.length))]))).set L.length (.lst [dN s])) := by
  have lF : F < L.length := (List.getElem?_eq_some_iff.mp k.dic).1
  have lE : ∀ e ∈ E, e.2.1 < L.length := fun e he => (List.getElem?_eq_some_iff.mp (k.ins e he)).1
  refine ⟨?_, ?_, ?_, ?_, ?_⟩
  · rw [List.getElem?_set_ne (by omega), List.getElem?_set_self (by simp; omega)]; simp [TE.ref]
  · intro x hx
    rcases List.mem_append.mp hx with h | h
    · have := lE x h
      rw [List.getElem?_set_ne (by omega), List.getElem?_set_ne (k.neF x h).symm, List.getElem?_append_left (lE x h), k.ins x h]
    · simp at h; subst h
      rw [List.getElem?_set_self (by simp)]; rfl
  · intro x hx
    rcases List.mem_append.mp hx with h | h
    · exact k.neF x h
    · simp at h; subst h; show L.length ≠ F; omega
  · rw [List.map_append, List.nodup_append]
    refine ⟨k.off, by simp, fun x hx y hy => ?_⟩
    obtain ⟨e, he, rfl⟩ := List.mem_map.mp hx
    simp at hy; subst hy
    have := lE e he
    show e.2.1 ≠ L.length
    omega
  · unfold keysT
    rw [List.map_append, List.nodup_append]
    refine ⟨k.key, by simp, fun x hx y hy => ?_⟩
    simp at hy; subst hy
    intro z
    exact hn (z ▸ hx)
theorem tk_ok (k : TK) (hl : k.2.length ≤ 100) : kOk (encTK k) = true := by
  have ar : ∀ xs : List Nat, D.areKeys (xs.map dN) = true := fun xs => by
    induction xs with
    | nil => rfl
    | cons x xs ih => rw [List.map_cons, D.areKeys, ih]; rfl
  have : D.dep (encTK k) ≤ 8 := Nat.le_trans (show PU 3 (encTK k) by simp [encTK]).2 (by decide)
  simp [kOk, D.isKey, D.areKeys, ar, this]
theorem kf_tk {E : List TE} {k : TK} (hl : k.2.length ≤ 100) (b : Nat) : kf (E.map (TE.ref b)) (encTK k) = true := by
  unfold kf keyFits
  rw [tk_ok k hl]
  simp [TE.ref, D.isTup]
theorem dget_tk {b : Nat} {E : List TE} {e : TE} (hn : (keysT E).Nodup) (he : e ∈ E) : dget (E.map (TE.ref b)) (encTK e.1) = some (.ref (b + e.2.1)) := by
  unfold dget
  induction E with
  | nil => cases he
  | cons x E ih =>
    rw [keysT, List.map_cons, List.nodup_cons] at hn
    rw [List.map_cons, List.find?_cons]
    by_cases q : x.1 = e.1
    · have : x = e := by
        rcases List.mem_cons.mp he with rfl | h
        · rfl
        · exact absurd (q ▸ List.mem_map.mpr ⟨e, h, rfl⟩) hn.1
      subst this
      simp [TE.ref]
    · have h' : e ∈ E := by
        rcases List.mem_cons.mp he with rfl | h
        · exact absurd rfl q
        · exact h
      have : ¬ encTK x.1 = encTK e.1 := fun w => q (encTK_inj w)
      simp only [TE.ref] at ih ⊢
      simp only [this, decide_false]
      exact ih hn.2 h'
theorem dget_tk0 {b : Nat} {E : List TE} {k : TK} (hk : k ∉ keysT E) : dget (E.map (TE.ref b)) (encTK k) = none := by
  refine dget_none fun z => hk ?_
  rw [List.map_map] at z
  obtain ⟨e, he, q⟩ := List.mem_map.mp z
  have : e.1 = k := encTK_inj q
  exact List.mem_map.mpr ⟨e, he, this⟩
def rkey (r : Row) : TK := (r.1, r.2.1)
theorem table_turn (n : Nat) {h L : MH} {F : Nat} {E : List TE} (k : TOk h.length F E L) (r : Row) (hl : r.2.1.length ≤ 100) (hE : E.length < 100000) (hs : ∀ e ∈ E, e.2.2.length < 100000) (a0 : Option D) :
    ∃ E' L', TOk h.length F E' L' ∧ (∀ k', lkT E' k' = if k' = rkey r then lkT E k' ++ [r.2.2] else lkT E k') ∧ E'.length ≤ E.length + 1 ∧ (∀ e ∈ E', e.2.2.length ≤ (lkT E' e.1).length) ∧
      fK (fun ρ h => evSs sub (run sub progT n) (.cons (.ex (.append (.setdefault (.var 1) (.tup (.cons (.var 2) (.cons (.var 3) .nil))) (.live (.disp (.nil)))) (.var 4))) (.cons (.wipe [2, 3, 4]) .nil)) ρ h) (h ++ L) (asgT (.t (.cons (.v 2) (.cons (.v 3) (.cons (.v 4) (.nil))))) (encRow r) [a0, some (.ref (h.length + F)), none, none, none]) = .nx [a0, some (.ref (h.length + F)), none, none, none] (h ++ L') := by
  have self : ∀ {E : List TE}, (keysT E).Nodup → ∀ e ∈ E, e.2.2.length ≤ (lkT E e.1).length := by
    intro E hn e he
    unfold lkT
    have : E.find? (fun x => decide (x.1 = e.1)) = some e := by
      rw [List.find?_eq_some_iff_append]
      obtain ⟨as, bs, rfl⟩ := List.append_of_mem he
      refine ⟨by simp, as, bs, rfl, fun a ha => ?_⟩
      simp only [Bool.not_eq_true', decide_eq_false_iff_not]
      intro z
      rw [keysT, List.map_append, List.nodup_append] at hn
      exact hn.2.2 a.1 (List.mem_map.mpr ⟨a, ha, rfl⟩) e.1 (by simp) z
    rw [this]; simp
  have sd := fun C d ρ => kSetd_r (C := C) (k := .tup (.cons (.var 2) (.cons (.var 3) .nil))) (d := d) (ρ := ρ) (n := h.length + F) (h := h ++ L) (by rw [hp_get]; exact k.dic)
  have kf : kf (E.map (TE.ref h.length)) (.tup [.str r.1, encB r.2.1]) = true := kf_tk (k := rkey r) hl _
  have dicM : (h ++ (L ++ [LO.lst []]))[h.length + F]? = some (.dic (E.map (TE.ref h.length))) := by
    rw [hp_get]; exact (k.app [.lst []]).dic
  by_cases q : rkey r ∈ keysT E
  · obtain ⟨e, he, ek⟩ := List.mem_map.mp q
    have dg : dget (E.map (TE.ref h.length)) (.tup [.str r.1, encB r.2.1]) = some (.ref (h.length + e.2.1)) := by
      have := dget_tk (b := h.length) k.key he
      rw [show encTK e.1 = .tup [.str r.1, encB r.2.1] by rw [show e.1 = rkey r from ek]; rfl] at this
      exact this
    have sk := setdK_some (z := .ref (h.length + L.length)) dicM kf (by rw [List.length_map]; omega) dg
    have i1 := (k.app [.lst []]).ins e he
    have a1 := fun C e' ρ => kApp_r (C := C) (e := e') (ρ := ρ) (n := h.length + e.2.1) (h := h ++ (L ++ [LO.lst []])) (xs := e.2.2.map dN) (by rw [hp_get]; exact i1)
    have a2 := appK_r (d := dN r.2.2) (n := h.length + e.2.1) (h := h ++ (L ++ [LO.lst []])) (xs := e.2.2.map dN) (by rw [hp_get]; exact i1) (by have := hs e he; simp; omega)
    have k2 := (k.app [.lst []]).add he r.2.2
    have ek' : e.1 = rkey r := ek
    rw [ek'] at k2
    refine ⟨addTE E (rkey r) r.2.2, _, k2, lkT_add q, by simp [addTE], self k2.key, ?_⟩
    simp [sd, sk, a1, a2]
  · have dg : dget (E.map (TE.ref h.length)) (.tup [.str r.1, encB r.2.1]) = none := dget_tk0 (k := rkey r) q
    have sk := setdK_none (z := .ref (h.length + L.length)) dicM kf (by rw [List.length_map]; omega) dg
    have k2 := k.new r.2.2 q
    have lF : F < L.length := (List.getElem?_eq_some_iff.mp k.dic).1
    obtain ⟨L2, hL2⟩ : ∃ L2, L2 = (L ++ [LO.lst []]).set F (LO.dic (E.map (TE.ref h.length) ++ [(encTK (rkey r), D.ref (h.length + L.length))])) := ⟨_, rfl⟩
    rw [← hL2] at k2
    have i1 : (h ++ L2)[h.length + L.length]? = some (.lst []) := by
      rw [hp_get, hL2, List.getElem?_set_ne (by omega)]; simp
    have sk' : setdK (.ref (h.length + F)) (.tup [.str r.1, encB r.2.1]) (.ref (h.length + L.length)) (h ++ (L ++ [LO.lst []])) = .ok (.ref (h.length + L.length)) (h ++ L2) := by
      rw [sk, hp_set, hL2]; rfl
    have a1 := fun C e' ρ => kApp_r (C := C) (e := e') (ρ := ρ) (n := h.length + L.length) (h := h ++ L2) (xs := []) i1
    have a2 := appK_r (d := dN r.2.2) (n := h.length + L.length) (h := h ++ L2) (xs := []) i1 (by simp)
    refine ⟨_, _, k2, ?_, by simp, self k2.key, ?_⟩
    · intro k'
      rw [lkT_new q]
      by_cases z : k' = rkey r
      · rw [if_pos z, if_pos z, z, lkT_none q]; rfl
      · rw [if_neg z, if_neg z]
    · simp [sd, sk', a1, a2]

theorem rkOf_le {sg : Sg} (k : SgOk sg) {nm : Str} {r : Nat} (h : rkOf sg nm = some r) : r ≤ 2 := by
  unfold rkOf at h
  obtain ⟨p, hp, e⟩ := List.exists_of_findSome?_eq_some h
  split at e
  · injection e with e
    exact e ▸ k.rk p hp
  · cases e
theorem GdOk.rl {g : Gd} (k : GdOk g) {r : Row} (hr : r ∈ g.rows) : r.2.1.length ≤ 2 := rkOf_le k.sg (k.rows r hr).1
/-- what a guard's table is, as pure data -/
def tabD (E : List TE) : D := .dic (E.map fun e => encTK e.1) (E.map fun e => D.lst (e.2.2.map dN))
/-- behind each key the states of its rows, in order -/
def stsOf (rows : List Row) (k : TK) : List Nat := (rows.filter fun r => decide (rkey r = k)).map (·.2.2)
structure IsTab (rows : List Row) (E : List TE) : Prop where
  key : (keysT E).Nodup
  lk : ∀ k, lkT E k = stsOf rows k
theorem table_st (n : Nat) (h : MH) (g : Gd) (k : GdOk g) : ∃ E, IsTab g.rows E ∧ run sub progT (n + 1) 26 [encG g] h = .ok (tabD E) h := by
  have lp := fr_inv (α := Row) (σ := List TE × MH) (t := .t (.cons (.v 2) (.cons (.v 3) (.cons (.v 4) (.nil))))) (b := fun ρ h => evSs sub (run sub progT n) (.cons (.ex (.append (.setdefault (.var 1) (.tup (.cons (.var 2) (.cons (.var 3) .nil))) (.live (.disp (.nil)))) (.var 4))) (.cons (.wipe [2, 3, 4]) .nil)) ρ h) (enc := encRow)
    (ev := fun _ => [some (encG g), some (.ref (h.length + 0)), none, none, none]) (hp := fun s => h ++ s.2)
    (fun dn s => TOk h.length 0 s.1 s.2 ∧ (∀ k, lkT s.1 k = stsOf dn k) ∧ s.1.length ≤ dn.length ∧ (∀ e ∈ s.1, e.2.2.length ≤ (lkT s.1 e.1).length)) g.rows (by
      rintro dn y rest ⟨E, L⟩ el ⟨t, lk, l1, l2⟩
      dsimp only at t lk l1 l2
      have yr : y ∈ g.rows := by rw [el]; simp
      have ld : dn.length < 3000 := by
        have l3 := congrArg List.length el
        have := k.len
        simp at l3; omega
      have rl := k.rl yr
      obtain ⟨E', L', t', lk', l', s', e⟩ := table_turn (sub := sub) n t y (by omega) (by omega) (fun e he => by
        have := l2 e he
        rw [lk, stsOf, List.length_map] at this
        have := List.length_filter_le (fun r => decide (rkey r = e.1)) dn
        omega) (some (encG g))
      refine ⟨(E', L'), e, t', fun k' => ?_, by simp; omega, s'⟩
      show lkT E' k' = _
      rw [lk', lk, stsOf, stsOf, List.filter_append, List.map_append]
      by_cases q : k' = rkey y
      · rw [if_pos q]; simp [q]
      · have : ¬ rkey y = k' := fun z => q z.symm
        rw [if_neg q]; simp [this]) (s0 := ([], [.dic []])) ⟨⟨rfl, by simp, by simp, by simp, by simp [keysT]⟩, fun k => rfl, by simp, by simp⟩
  obtain ⟨⟨E, L⟩, e, t, lk, _, _⟩ := lp
  refine ⟨E, ⟨t.key, lk⟩, ?_⟩
  rw [run_of (fd := b_table_of) rfl rfl (by decide)]
  have s1 : evS sub (run sub progT n) b_table_of_s1 [some (encG g), some (.ref h.length), none, none, none] (h ++ [.dic []]) = .nx [some (encG g), some (.ref h.length), none, none, none] (h ++ L) := by
    rw [b_table_of_s1, s_fr]
    simp only [evIt_seq, ev_idx, ev_var, List.getElem?_cons_zero, List.getElem?_cons_succ, rv_s, R.bind_ok, kIdx1_a, ev_int, kIdx2_a, vw_tup, show opIdx (encG g) (.int 2) = some (.tup (g.rows.map encRow)) from rfl, R.ofO_some, kItems_a, items_t, bindE_ok]
    exact e
  have b : evSs sub (run sub progT n) b_table_of.body [some (encG g), none, none, none, none] h = .ret (.ref (h.length + 0)) (h ++ L) := by
    simp [b_table_of, s1]
  have ex := exit_dl (h := h) (L := L) (k := 0) (ks := E.map fun e => encTK e.1) (E := E.map fun e => (e.2.1, e.2.2.map dN)) (by
    rw [t.dic, List.map_map, zip_map2]; rfl) (by simp) (by
    have : ∀ E : List TE, D.nrs h.length (E.map fun e => encTK e.1) = true := fun E => by
      induction E with
      | nil => rfl
      | cons x E ih => rw [List.map_cons, D.nrs, ih, pl_nr _ _ (show PU 3 (encTK x.1) by simp [encTK]).pl]; rfl
    exact this E) (by rw [List.map_map]; exact t.off) (fun e he => by
    obtain ⟨x, hx, rfl⟩ := List.mem_map.mp he
    exact t.neF x hx) (fun e he => by
    obtain ⟨x, hx, rfl⟩ := List.mem_map.mp he
    exact t.ins x hx) (fun e he => by
    obtain ⟨x, hx, rfl⟩ := List.mem_map.mp he
    exact (show PUs 0 (x.2.2.map dN) by simp).pls)
  refine Eq.trans (congrArg (exitF b_table_of h) b) ?_
  rw [List.map_map] at ex
  exact ex
theorem dget_tab {E : List TE} {k : TK} (hn : (keysT E).Nodup) : (dget ((E.map fun e => encTK e.1).zip (E.map fun e => D.lst (e.2.2.map dN))) (encTK k)).getD (.lst []) = .lst ((lkT E k).map dN) := by
  rw [zip_map2]
  unfold dget lkT
  rw [List.find?_map]
  have : (fun p : D × D => decide (p.1 = encTK k)) ∘ (fun e : TE => (encTK e.1, D.lst (e.2.2.map dN))) = fun e : TE => decide (e.1 = k) := by
    funext e
    exact decide_eq_decide.mpr ⟨encTK_inj, fun h => by rw [← h]⟩
  rw [this]
  cases E.find? fun e => decide (e.1 = k) <;> rfl
theorem get_tab {E : List TE} {k : TK} (hn : (keysT E).Nodup) (hl : k.2.length ≤ 100) (h : MH) : getK (tabD E) (.tup [.str k.1, encB k.2]) (.lst []) h = .ok (.lst ((lkT E k).map dN)) h := by
  rw [getK_d (ks := E.map fun e => encTK e.1) (vs := E.map fun e => D.lst (e.2.2.map dN)) rfl]
  · exact congrArg (fun d => R.ok d h) (dget_tab hn)
  · have := kf_tk (E := E) hl 0
    unfold kf at this
    rw [List.map_map] at this
    exact this
end GM
end
section
set_option Elab.async false
set_option linter.all false
set_option maxRecDepth 100000
namespace GM
open PySem
variable {sub : Nat → Nat → Bool}
/-! ### all ways to take one state of each lot -/
def stepP (found : List (List Nat)) (lot : List Nat) : List (List Nat) := found.flatMap fun one => lot.map fun s => one ++ [s]
def prodL (lots : List (List Nat)) : List (List Nat) := lots.foldl stepP [[]]
def inL : List Nat → List (List Nat) → Prop
  | [], [] => True
  | b :: bs, l :: ls => b ∈ l ∧ inL bs ls
  | _, _ => False
theorem stepP_len (found : List (List Nat)) (lot : List Nat) : (stepP found lot).length = found.length * lot.length := by
  unfold stepP
  induction found with
  | nil => simp
  | cons o r ih => rw [List.flatMap_cons, List.length_append, ih, List.length_map, List.length_cons, Nat.succ_mul, Nat.add_comm]
theorem prodL_len2 {lots : List (List Nat)} (h2 : lots.length ≤ 2) {m : Nat} (hm : ∀ l ∈ lots, l.length ≤ m) (m1 : 1 ≤ m) : (prodL lots).length ≤ m * m := by
  unfold prodL
  match lots, h2, hm with
  | [], _, _ => simp; exact Nat.le_trans m1 (Nat.le_mul_of_pos_left m m1)
  | [a], _, hm => simp [stepP_len]; exact Nat.le_trans (hm a (by simp)) (Nat.le_mul_of_pos_left m m1)
  | [a, b], _, hm => simp [stepP_len]; exact Nat.mul_le_mul (hm a (by simp)) (hm b (by simp))
theorem mem_fold : ∀ (lots : List (List Nat)) (acc : List (List Nat)) (x : List Nat), x ∈ lots.foldl stepP acc ↔ ∃ a ∈ acc, ∃ b, x = a ++ b ∧ inL b lots
  | [], acc, x => by
    rw [List.foldl_nil]
    constructor
    · intro h; exact ⟨x, h, [], by simp, trivial⟩
    · rintro ⟨a, ha, b, rfl, hb⟩
      cases b with
      | nil => simpa using ha
      | cons _ _ => exact hb.elim
  | l :: ls, acc, x => by
    rw [List.foldl_cons, mem_fold ls]
    constructor
    · rintro ⟨a, ha, b, rfl, hb⟩
      unfold stepP at ha
      obtain ⟨o, ho, ha⟩ := List.mem_flatMap.mp ha
      obtain ⟨s, hs, rfl⟩ := List.mem_map.mp ha
      exact ⟨o, ho, s :: b, by simp, hs, hb⟩
    · rintro ⟨a, ha, b, rfl, hb⟩
      cases b with
      | nil => exact hb.elim
      | cons s b => exact ⟨a ++ [s], List.mem_flatMap.mpr ⟨a, ha, List.mem_map.mpr ⟨s, hb.1, rfl⟩⟩, b, by simp, hb.2⟩
theorem mem_prod {lots : List (List Nat)} {x : List Nat} : x ∈ prodL lots ↔ inL x lots := by
  unfold prodL
  rw [mem_fold]
  constructor
  · rintro ⟨a, ha, b, rfl, hb⟩
    simp at ha; subst ha
    simpa using hb
  · intro h; exact ⟨[], by simp, x, by simp, h⟩
theorem inL_len : ∀ {x : List Nat} {lots : List (List Nat)}, inL x lots → x.length = lots.length
  | [], [], _ => rfl
  | _ :: _, _ :: _, h => by rw [List.length_cons, List.length_cons, inL_len h.2]
  | [], _ :: _, h => h.elim
  | _ :: _, [], h => h.elim
theorem belowall_st (n : Nat) (h : MH) (lots : List (List Nat)) (h2 : lots.length ≤ 2) (hm : ∀ l ∈ lots, l.length ≤ 50) : run sub progT (n + 1) 27 [.lst (lots.map encB)] h = .ok (.lst ((prodL lots).map encB)) h := by
  have lp := fr_inv (α := List Nat) (σ := List (List Nat) × MH) (t := .v 2) (b := fun ρ h => evSs sub (run sub progT n) (.cons (.asg (.v 1) (.live (b_below_all_l1))) (.cons (.freeze 1) (.cons (.wipe [2]) .nil))) ρ h) (enc := encB)
    (ev := fun s => [some (.lst (lots.map encB)), some (.lst (s.1.map encB)), none, none, none]) (hp := fun s => h ++ s.2)
    (fun dn s => s.1 = prodL dn) lots (by
      rintro dn y rest ⟨P, L⟩ el e
      dsimp only at e
      subst e
      have hy : y.length ≤ 50 := hm y (by rw [el]; simp)
      have ld : dn.length ≤ 1 := by
        have := congrArg List.length el
        simp at this; omega
      have lp : (prodL dn).length ≤ 50 := by
        match dn, ld, el with
        | [], _, _ => simp [prodL]
        | [a], _, el => simp [prodL, stepP_len]; exact hm a (by rw [el]; simp)
      have c2 := comp2 (C := run sub progT n) (ρ := [some (.lst (lots.map encB)), some (.lst ((prodL dn).map encB)), some (encB y), none, none]) (h := h ++ L) (t := .v 3) (t2 := .v 4) (it := .seq (.var 1)) (i2 := .seq (.var 2)) (own := [3, 4]) (elt := .bin .add (.var 3) (.tup (.cons (.var 4) .nil)))
        (ys := prodL dn) (enc := encB) (zs := fun _ => y) (enc2 := dN) (ρ1 := fun o => [some (.lst (lots.map encB)), some (.lst ((prodL dn).map encB)), some (encB y), some (encB o), none]) (src := none) (src2 := fun _ => none) (out := fun o s => encB (o ++ [s]))
        (by simp) (by omega) (fun o _ => by simp [wipeE]) (fun o _ => by simp) (fun o _ => by omega) (fun o ho s _ => by
          have lo := inL_len (mem_prod.mp ho)
          have b1 : opBin .add (.tup (o.map dN)) (.tup [dN s]) = some (.tup (o.map dN ++ [dN s])) := bin_tup (by simp; omega)
          simp [Tg.slots, wipeE, b1])
      have e1 : (prodL dn).flatMap (fun o => y.map fun s => encB (o ++ [s])) = (stepP (prodL dn) y).map encB := by
        unfold stepP
        rw [List.map_flatMap]
        congr 1
        funext o
        rw [List.map_map]; rfl
      rw [e1] at c2
      have c2' : evL (run sub progT n) b_below_all_l1 [some (.lst (lots.map encB)), some (.lst ((prodL dn).map encB)), some (encB y), none, none] (h ++ L) = .ok ((stepP (prodL dn) y).map encB) (h ++ L) := c2
      have pl : D.pls ((stepP (prodL dn) y).map encB) = true := (show PUs 2 ((stepP (prodL dn) y).map encB) by simp).pls
      have f1 := fun ρ => fz_l (n := h.length + L.length) (i := 1) (ρ := ρ) (h := h ++ (L ++ [.lst ((stepP (prodL dn) y).map encB)])) (xs := (stepP (prodL dn) y).map encB) (by rw [hp_get]; simp) pl
      refine ⟨(stepP (prodL dn) y, L ++ [.dead]), ?_, by simp [prodL]⟩
      simp [c2', f1]) (s0 := ([[]], [])) rfl
  obtain ⟨⟨P, L⟩, e, rfl⟩ := lp
  refine def_p (fd := b_below_all) (L := L) rfl rfl (by decide) rfl ?_ (by
    show D.pl (.lst ((prodL lots).map encB)) = true
    exact (show PU 3 (.lst ((prodL lots).map encB)) by simp).pl)
  have s1 : evS sub (run sub progT n) b_below_all_s1 [some (.lst (lots.map encB)), some (.lst [.tup []]), none, none, none] h = .nx [some (.lst (lots.map encB)), some (.lst ((prodL lots).map encB)), none, none, none] (h ++ L) := by
    rw [b_below_all_s1, s_fr]
    simp only [evIt_seq, ev_var, List.getElem?_cons_zero, rv_s, R.bind_ok, kItems_a, items_l, R.ofO_some, bindE_ok]
    rw [List.append_nil] at e
    exact e
  simp [b_below_all, s1]

/-! ### the states above -/
theorem inL_iff {x : List Nat} {lots : List (List Nat)} : inL x lots ↔ x.length = lots.length ∧ ∀ p ∈ x.zip lots, p.1 ∈ p.2 := by
  induction x generalizing lots with
  | nil => cases lots <;> simp [inL]
  | cons b x ih =>
    cases lots with
    | nil => simp [inL]
    | cons l ls =>
      simp only [inL, ih, List.length_cons, List.zip_cons_cons, List.mem_cons]
      constructor
      · rintro ⟨h1, h2, h3⟩
        exact ⟨by omega, fun p hp => by
          rcases hp with rfl | hp
          · exact h1
          · exact h3 p hp⟩
      · rintro ⟨h1, h2⟩
        exact ⟨h2 (b, l) (.inl rfl), by omega, fun p hp => h2 p (.inr hp)⟩
open Classical in
/-- the states above lots of states, rising -/
noncomputable def abv (rows : List Row) (nm : Str) (lots : List (List Nat)) : List Nat := (List.range 24).filter fun s => decide (∃ r ∈ rows, r.1 = nm ∧ r.2.2 = s ∧ inL r.2.1 lots)
theorem abv_pw (rows : List Row) (nm : Str) (lots : List (List Nat)) : (abv rows nm lots).Pairwise (· < ·) := (List.pairwise_lt_range (n := 24)).filter _
theorem abv_len (rows : List Row) (nm : Str) (lots : List (List Nat)) : (abv rows nm lots).length ≤ 24 := by
  unfold abv
  refine Nat.le_trans (List.length_filter_le _ _) ?_
  rw [List.length_range]
  exact Nat.le_refl _
theorem mem_abv {rows : List Row} {nm : Str} {lots : List (List Nat)} (hr : ∀ r ∈ rows, r.2.2 < 24) {s : Nat} : s ∈ abv rows nm lots ↔ ∃ r ∈ rows, r.1 = nm ∧ r.2.2 = s ∧ inL r.2.1 lots := by
  unfold abv
  rw [List.mem_filter]
  simp only [List.mem_range, decide_eq_true_eq]
  exact ⟨fun h => h.2, fun h => ⟨by obtain ⟨r, hm, _, e, _⟩ := h; exact e ▸ hr r hm, h⟩⟩
theorem up_st (n : Nat) (h : MH) {rows : List Row} {E : List TE} (t : IsTab rows E) (hr : ∀ r ∈ rows, r.2.2 < 24) (hn : rows.length ≤ 3000) (nm : Str) (lots : List (List Nat)) (h2 : lots.length ≤ 2) (hm : ∀ l ∈ lots, l.length ≤ 24) :
    run sub progT (n + 2) 28 [tabD E, .str nm, .lst (lots.map encB)] h = .ok (encB (abv rows nm lots)) h := by
  have ba := belowall_st (sub := sub) n h lots h2 fun l hl => by have := hm l hl; omega
  have pl2 := prodL_len2 h2 hm (by decide)
  have lkl : ∀ k, (lkT E k).length ≤ 3000 := fun k => by
    rw [t.lk, stsOf, List.length_map]
    exact Nat.le_trans (List.length_filter_le _ _) hn
  have lens : ∀ o ∈ prodL lots, o.length ≤ 100 := fun o ho => by have := inL_len (mem_prod.mp ho); omega
  have mem : ∀ k : Int, k ∈ ((prodL lots).flatMap fun o => (lkT E (nm, o)).map fun s : Nat => (s : Int)) ↔ ∃ x ∈ abv rows nm lots, k = (x : Int) := by
    intro k
    simp only [List.mem_flatMap, List.mem_map, mem_prod, t.lk, stsOf, List.mem_filter, decide_eq_true_eq, mem_abv hr]
    constructor
    · rintro ⟨o, ho, s, ⟨r, ⟨hm, rk⟩, rfl⟩, rfl⟩
      have r1 : r.1 = nm := congrArg Prod.fst rk
      have r2 : r.2.1 = o := congrArg Prod.snd rk
      exact ⟨r.2.2, ⟨r, hm, r1, rfl, by rw [r2]; exact ho⟩, rfl⟩
    · rintro ⟨x, ⟨r, hm, r1, r2, r3⟩, rfl⟩
      exact ⟨r.2.1, r3, r.2.2, ⟨r, ⟨hm, by rw [rkey, r1]⟩, rfl⟩, by rw [r2]⟩
  have si := isetI_nat (abv_pw rows nm lots) mem
  have sl : (isetI ((prodL lots).flatMap fun o => (lkT E (nm, o)).map fun s : Nat => (s : Int))).length < 64 := by
    have := congrArg List.length si
    rw [List.length_map, List.length_map] at this
    have := abv_len rows nm lots
    omega
  have s2 := ssort2 (C := run sub progT (n + 1)) (ρ := [some (tabD E), some (.str nm), some (.lst (lots.map encB)), none, none]) (h := h) (t := .v 3) (t2 := .v 4) (it := .seq (.call 27 (.cons (.var 2) .nil))) (i2 := .seq (.get (.var 0) (.tup (.cons (.var 1) (.cons (.var 3) .nil))) (.lst (.disp (.nil))))) (own := [3, 4]) (elt := .var 4)
    (ys := prodL lots) (enc := encB) (zs := fun o => lkT E (nm, o)) (enc2 := dN) (ρ1 := fun o => [some (tabD E), some (.str nm), some (.lst (lots.map encB)), some (encB o), none]) (src := none) (src2 := fun _ => none) (out := fun _ s => (s : Int))
    (by simp [ba]) (by omega) (fun o _ => by simp [wipeE]) (fun o ho => by
      have g := get_tab (k := (nm, o)) t.key (lens o ho) h
      have kg : ∀ C k d ρ, kGet C k d ρ (tabD E) h = (evE C k ρ h).bind (kGet2 C d ρ (tabD E)) := fun C k d ρ => kGet_r rfl
      simp [kg, g]) (fun o _ => lkl _) (fun o _ s _ => by simp [Tg.slots, wipeE]) sl
  rw [si] at s2
  have s2' : evL (run sub progT (n + 1)) b_up_l1 [some (tabD E), some (.str nm), some (.lst (lots.map encB)), none, none] h = .ok ((abv rows nm lots).map dN) h := s2
  refine def_p (fd := b_up) (L := []) rfl rfl (by decide) rfl ?_ (show PU 2 (encB (abv rows nm lots)) by simp).pl
  rw [List.append_nil]
  show evSs sub _ b_up.body [some (tabD E), some (.str nm), some (.lst (lots.map encB)), none, none] h = _
  have := abv_len rows nm lots
  have bt : opBi .tuple [.lst ((abv rows nm lots).map dN)] = some (.tup ((abv rows nm lots).map dN)) := bi_tupL _
  simp [b_up, s2', bt]
end GM
end
section
set_option Elab.async false
set_option linter.all false
set_option maxRecDepth 100000
namespace GM
open PySem
variable {sub : Nat → Nat → Bool}
/-! ### trees -/
def sumT (acc : Nat) : List Nat → Nat
  | [] => acc
  | x :: xs => if acc + x > 200 then 201 else sumT (acc + x) xs
/-- what nodes_of tells -/
def noF (sg : Sg) : Nat → D → Nat
  | 0, _ => 201
  | lv + 1, .tup (.str nm :: ds) => if rkOf sg nm = some ds.length then sumT 1 (ds.map (noF sg lv)) else 201
  | _ + 1, _ => 201
theorem noF_s (sg : Sg) (lv : Nat) (nm : Str) (ds : List D) : noF sg (lv + 1) (.tup (.str nm :: ds)) = if rkOf sg nm = some ds.length then sumT 1 (ds.map (noF sg lv)) else 201 := by rw [noF]
theorem noF_0 (sg : Sg) (lv : Nat) (ds : List D) (h : ∀ nm r, ds ≠ .str nm :: r) : noF sg (lv + 1) (.tup ds) = 201 := by
  rcases ds with _ | ⟨a, r⟩
  · rw [noF]; simp
  · cases a <;> first | (exact absurd rfl (h _ _)) | (rw [noF]; simp)
theorem noF_n (sg : Sg) (lv : Nat) (d : D) (h : isaB .tuple d = false) : noF sg (lv + 1) d = 201 := by
  cases d <;> first | (simp [isaB] at h; done) | (rw [noF]; simp)
theorem slc_from1 (d : D) (ds : List D) : opSlc (.tup (d :: ds)) (some 1) none = some (.tup ds) := by
  simp [opSlc, cut, sIx]
theorem nodes_loop (n : Nat) (h : MH) (C : Cal) (sg : Sg) (lv : Int) (g : D → Nat) (a1 : Option D) : ∀ (ds : List D) (acc : Nat), acc ≤ 200 → (∀ d ∈ ds, C 23 [encS sg, d, .int (lv - 1)] h = .ok (dN (g d)) h) → (∀ d ∈ ds, vw h d = d) → ∃ r : RS,
    frE none (.v 4) (fun ρ h => evSs sub C (.cons (.aug 3 .add (.call 23 (.cons (.var 0) (.cons (.var 4) (.cons (.bin .sub (.var 2) (.int 1)) .nil))))) (.cons (.ite (.cmp .gt (.var 3) (.gc ⟨#[77, 79, 83, 84, 95, 78, 79, 68, 69, 83]⟩ (.int 200))) (.cons (.ret (.bin .add (.gc ⟨#[77, 79, 83, 84, 95, 78, 79, 68, 69, 83]⟩ (.int 200)) (.int 1))) .nil) (.nil)) (.cons (.wipe [4]) .nil))) ρ h)
      ds [some (encS sg), a1, some (.int lv), some (dN acc), none] h = r ∧ ((r = .ret (.int 201) h ∧ sumT acc (ds.map g) = 201) ∨ (r = .nx [some (encS sg), a1, some (.int lv), some (dN (sumT acc (ds.map g))), none] h ∧ sumT acc (ds.map g) ≤ 200))
  | [], acc, ha, _, _ => ⟨_, rfl, .inr ⟨by simp [sumT], by simpa [sumT] using ha⟩⟩
  | d :: ds, acc, ha, hc, hv => by
    have c1 := hc d (by simp)
    have v1 := hv d (by simp)
    have b1 : opBin .sub (.int lv) (.int 1) = some (.int (lv - 1)) := rfl
    have ad : opBin .add (.int acc) (.int (g d)) = some (.int ((acc : Int) + (g d : Int))) := rfl
    have e0 : sumT acc ((d :: ds).map g) = if acc + g d > 200 then 201 else sumT (acc + g d) (ds.map g) := by rw [List.map_cons, sumT]
    by_cases q : acc + g d > 200
    · have q' : (200 : Int) < (acc : Int) + (g d : Int) := by omega
      refine ⟨_, rfl, .inl ⟨?_, by rw [e0, if_pos q]⟩⟩
      refine fr_stop (hs := srcN _) ?_
      simp [c1, b1, ad, q']
    · have q' : ¬ (200 : Int) < (acc : Int) + (g d : Int) := by omega
      obtain ⟨r, e, k⟩ := nodes_loop n h C sg lv g a1 ds (acc + g d) (by omega) (fun x hx => hc x (List.mem_cons_of_mem _ hx)) fun x hx => hv x (List.mem_cons_of_mem _ hx)
      refine ⟨r, ?_, by rw [e0, if_neg q]; exact k⟩
      rw [← e]
      refine fr_step (hs := srcN _) ?_
      simp [c1, b1, ad, q']
theorem nodes_st : ∀ (lv n : Nat) (h : MH) (sg : Sg) (d : D), d.fine = true → lv ≤ 100 → run sub progT (n + 2 + lv) 23 [encS sg, d, .int lv] h = .ok (dN (noF sg lv d)) h := by
  intro lv
  induction lv with
  | zero =>
    intro n h sg d p _
    refine def_p (fd := b_nodes_of) (L := []) rfl rfl (by decide) rfl ?_ rfl
    rw [List.append_nil]
    show evSs sub _ b_nodes_of.body [some (encS sg), some d, some (.int 0), none, none] h = _
    simp [b_nodes_of, noF]
  | succ lv ih =>
    intro n h sg d p hl
    obtain ⟨LI, hLI⟩ : ∃ LI : Int, LI = ((lv + 1 : Nat) : Int) := ⟨_, rfl⟩
    rw [← hLI]
    refine def_p (fd := b_nodes_of) (n := n + 2 + lv) (L := []) rfl rfl (by decide) rfl ?_ rfl
    rw [List.append_nil]
    show evSs sub _ b_nodes_of.body [some (encS sg), some d, some (.int LI), none, none] h = _
    have z0 : ¬ LI = 0 := by omega
    by_cases q : isaB .tuple d = true
    case neg =>
      have e := noF_n sg lv d (by simpa using q)
      rw [e]
      simp [b_nodes_of, vw_fine p, isa_fine p, q, z0]
    cases d <;> first | (simp [isaB] at q; done) | skip
    rename_i ds
    have fp : (D.fines ds = true ∧ ds.length ≤ 100000) := by simpa [D.fine] using p
    have fs : ∀ d ∈ ds, d.fine = true := fines_mem fp.1
    rcases ds with _ | ⟨a, ds⟩
    · rw [noF_0 sg lv [] (by simp)]
      simp [b_nodes_of, isa_fine p, z0]
    · have fa := fs a (by simp)
      have l0 : ¬ ((ds.length : Int) + 1 = 0) := by omega
      by_cases qa : isaB .str a = true
      case neg =>
        rw [noF_0 sg lv (a :: ds) (fun nm r e => qa (by injection e with e1 e2; rw [e1]; rfl))]
        simp [b_nodes_of, isa_fine p, isa_fine fa, vw_fine fa, qa, z0, l0]
      cases a <;> first | (simp [isaB] at qa; done) | skip
      rename_i nm
      have er := rankof_st (sub := sub) (n + 1 + lv) h sg nm
      rw [show n + 1 + lv + 1 = n + 2 + lv by omega] at er
      have en : opCmp .ne (rkD (rkOf sg nm)) (.int ds.length) = some (decide (rkOf sg nm ≠ some ds.length)) := by
        cases z : rkOf sg nm with
        | none => rw [rkD, cmp_ne (by simp) (by simp)]; simp
        | some r => rw [rkD, cmp_ne (by simp) (by simp)]; simp
      have vr : vw h (rkD (rkOf sg nm)) = rkD (rkOf sg nm) := by cases rkOf sg nm <;> rfl
      have sb : opBin .sub (.int ((ds.length : Int) + 1)) (.int 1) = some (.int (ds.length : Int)) := by
        show some (D.int ((ds.length : Int) + 1 - 1)) = _
        congr 2; omega
      rw [noF_s]
      by_cases z : rkOf sg nm = some ds.length
      case neg =>
        rw [if_neg z]
        have en' : decide (rkOf sg nm ≠ some ds.length) = true := by simp [z]
        rw [en'] at en
        simp [b_nodes_of, isa_fine p, isa_fine fa, z0, l0, er, en, vr, sb]
      rw [if_pos z]
      have en' : decide (rkOf sg nm ≠ some ds.length) = false := by simp [z]
      rw [en'] at en
      obtain ⟨r, e, k⟩ := nodes_loop (sub := sub) n h (run sub progT (n + 2 + lv)) sg LI (noF sg lv) (some (.tup (.str nm :: ds))) ds 1 (by decide) (fun d hd => by
        have := ih n h sg d (fs d (List.mem_cons_of_mem _ hd)) (by omega)
        rw [show LI - 1 = (lv : Int) by omega]
        exact this) fun d hd => vw_fine (fs d (List.mem_cons_of_mem _ hd))
      have s1 : evS sub (run sub progT (n + 2 + lv)) b_nodes_of_s1 [some (encS sg), some (.tup (.str nm :: ds)), some (.int LI), some (.int 1), none] h = r := by
        rw [b_nodes_of_s1, s_fr]
        have sl : opSlc (.tup (.str nm :: ds)) (some 1) none = some (.tup ds) := slc_from1 _ _
        simp only [evIt_seq, ev_slc, ev_var, List.getElem?_cons_zero, List.getElem?_cons_succ, rv_s, R.bind_ok, kSlc1_a, evEo_so, ev_int, eoK_i, kSlc2_a, evEo_no, kSlc3_a, vw_tup, sl, R.ofO_some, kItems_a, items_t, bindE_ok]
        exact e
      rcases k with ⟨rfl, k⟩ | ⟨rfl, k⟩
      · rw [k]
        simp [b_nodes_of, isa_fine p, isa_fine fa, z0, l0, er, en, vr, sb, s1]
      · simp [b_nodes_of, isa_fine p, isa_fine fa, z0, l0, er, en, vr, sb, s1]

/-! ### good trees -/
mutual
def D.nd : D → Nat
  | .tup ds => D.nds ds
  | .str _ => 1
  | _ => 0
def D.nds : List D → Nat
  | [] => 0
  | d :: ds => D.nd d + D.nds ds
end
/-- a tree of signs, of at most so many levels -/
def IsT (sg : Sg) : Nat → D → Prop
  | 0, _ => False
  | lv + 1, d => ∃ nm ds, d = .tup (.str nm :: ds) ∧ rkOf sg nm = some ds.length ∧ ∀ c ∈ ds, IsT sg lv c
theorem IsT.mono {sg : Sg} : ∀ {lv : Nat} {d : D} {lv' : Nat}, IsT sg lv d → lv ≤ lv' → IsT sg lv' d
  | 0, _, _, h, _ => h.elim
  | lv + 1, d, 0, _, h => by omega
  | lv + 1, d, lv' + 1, ⟨nm, ds, e, r, c⟩, h => ⟨nm, ds, e, r, fun x hx => (c x hx).mono (by omega)⟩
theorem nds_map (f : D → Nat) : ∀ (ds : List D), (∀ d ∈ ds, f d = d.nd) → (ds.map f).sum = D.nds ds
  | [], _ => by rw [D.nds]; rfl
  | d :: ds, h => by rw [List.map_cons, List.sum_cons, nds_map f ds fun x hx => h x (List.mem_cons_of_mem _ hx), h d (by simp), D.nds]
theorem nds_le {d : D} : ∀ {ds : List D}, d ∈ ds → d.nd ≤ D.nds ds
  | x :: ds, h => by
    rw [D.nds]
    rcases List.mem_cons.mp h with rfl | h
    · omega
    · have := nds_le h; omega
theorem sumT_le : ∀ (xs : List Nat) (acc : Nat), acc + xs.sum ≤ 200 → sumT acc xs = acc + xs.sum
  | [], acc, _ => by simp [sumT]
  | x :: xs, acc, h => by
    rw [List.sum_cons] at h ⊢
    rw [sumT, if_neg (by omega), sumT_le xs (acc + x) (by omega)]
    omega
theorem noF_t {sg : Sg} : ∀ {lv : Nat} {d : D}, IsT sg lv d → d.nd ≤ 200 → noF sg lv d = d.nd
  | 0, _, h, _ => h.elim
  | lv + 1, d, ⟨nm, ds, e, r, c⟩, h => by
    subst e
    rw [D.nd, D.nds, D.nd] at h ⊢
    rw [noF_s, if_pos r]
    have all : ∀ x ∈ ds, noF sg lv x = x.nd := fun x hx => noF_t (c x hx) (by have := nds_le hx; omega)
    have e := nds_map (noF sg lv) ds all
    rw [sumT_le _ _ (by omega), e]
theorem fine_t {sg : Sg} (k : SgOk sg) : ∀ {lv : Nat} {d : D}, IsT sg lv d → d.fine = true
  | 0, _, h => h.elim
  | lv + 1, d, ⟨nm, ds, e, r, c⟩ => by
    subst e
    have l := rkOf_le k r
    have fs : ∀ ds : List D, (∀ x ∈ ds, x.fine = true) → D.fines ds = true := by
      intro ds
      induction ds with
      | nil => intro _; rfl
      | cons x ds ih => intro h; rw [D.fines, h x (by simp), ih fun y hy => h y (List.mem_cons_of_mem _ hy)]; rfl
    have nmk : (nm, ds.length) ∈ sg := by
      unfold rkOf at r
      obtain ⟨p, hp, e⟩ := List.exists_of_findSome?_eq_some r
      split at e
      · rename_i q
        injection e with e
        rw [← q, ← e]; exact hp
      · cases e
    have nl := (k.nm (nm, ds.length) nmk).2.1
    dsimp only at nl
    rw [← len_cps] at nl
    rw [D.fine, D.fines, fs ds fun x hx => fine_t k (c x hx), D.fine]
    simp
    constructor
    · omega
    · omega
theorem needtree_t (n : Nat) (h : MH) {sg : Sg} (k : SgOk sg) {lv : Nat} (hl : lv ≤ 20) {d : D} (t : IsT sg lv d) (s : d.nd ≤ 200) : run sub progT (n + 24) 25 [encS sg, d] h = .ok .non h := by
  have fd := fine_t k t
  have e1 := nodes_st (sub := sub) 20 n h sg d fd (by decide)
  rw [noF_t (t.mono hl) s] at e1
  have e2 : run sub progT (n + 23) 24 [encS sg, d] h = .ok (.bl true) h := by
    refine def_p (fd := b_is_tree_of) (L := []) rfl rfl (by decide) rfl ?_ rfl
    rw [List.append_nil]
    show evSs sub _ b_is_tree_of.body [some (encS sg), some d] h = _
    have e1' : run sub progT (n + 22) 23 [encS sg, d, .int 20] h = .ok (dN d.nd) h := e1
    have q : (d.nd : Int) ≤ 200 := by omega
    simp [b_is_tree_of, e1', q]
  refine def_n (fd := b_need_tree) (L := []) (ρ := [some (encS sg), some d]) rfl rfl (by decide) rfl ?_
  rw [List.append_nil]
  show evSs sub _ b_need_tree.body [some (encS sg), some d] h = _
  simp [b_need_tree, e2]
/-! ### the states of a tree -/
noncomputable def stF (rows : List Row) : Nat → D → List Nat
  | lv + 1, .tup (.str nm :: ds) => abv rows nm (ds.map (stF rows lv))
  | _, _ => []
theorem stF_s (rows : List Row) (lv : Nat) (nm : Str) (ds : List D) : stF rows (lv + 1) (.tup (.str nm :: ds)) = abv rows nm (ds.map (stF rows lv)) := by rw [stF]
theorem stF_len (rows : List Row) : ∀ (lv : Nat) (d : D), (stF rows lv d).length ≤ 24
  | 0, d => by rw [stF] <;> simp
  | lv + 1, d => by
    unfold stF
    split
    · exact abv_len _ _ _
    · simp
theorem idx_0 (d : D) (ds : List D) : opIdx (.tup (d :: ds)) (.int 0) = some d := by simp [opIdx, atO, ixO]
theorem statesin_st {g : Gd} (k : GdOk g) {E : List TE} (t : IsTab g.rows E) : ∀ (lv n : Nat) (h : MH) (d : D), IsT g.sg lv d → run sub progT (n + 3 + lv) 29 [tabD E, d] h = .ok (encB (stF g.rows lv d)) h := by
  intro lv
  induction lv with
  | zero => intro n h d i; exact i.elim
  | succ lv ih =>
    intro n h d ⟨nm, ds, e, r, c⟩
    subst e
    have l2 := rkOf_le k.sg r
    have c1 : evL (run sub progT (n + 3 + lv)) b_states_in_l1 [some (tabD E), some (.tup (.str nm :: ds)), none] h = .ok (ds.map fun d => encB (stF g.rows lv d)) h := by
      refine comp1 (ys := ds) (enc := id) (by simp [slc_from1]) (by omega) fun x hx => ?_
      simp [wipeE, ih n h x (c x hx)]
    have u := up_st (sub := sub) (n + 1 + lv) h t (fun r hr => by have := (k.rows r hr).2.2; have := k.m24; omega) k.len nm (ds.map (stF g.rows lv)) (by simpa using l2) (fun l hl => by
      obtain ⟨x, _, rfl⟩ := List.mem_map.mp hl
      exact stF_len _ _ _)
    rw [show n + 1 + lv + 2 = n + 3 + lv by omega, List.map_map] at u
    refine def_p (fd := b_states_in) (n := n + 3 + lv) (L := []) rfl rfl (by decide) rfl ?_ (show PU 2 (encB (stF g.rows (lv + 1) (.tup (.str nm :: ds)))) by simp).pl
    rw [List.append_nil, stF_s]
    show evSs sub _ b_states_in.body [some (tabD E), some (.tup (.str nm :: ds)), none] h = _
    have u' : run sub progT (n + 3 + lv) 28 [tabD E, .str nm, .lst (ds.map fun d => encB (stF g.rows lv d))] h = .ok (encB (abv g.rows nm (ds.map (stF g.rows lv)))) h := u
    simp [b_states_in, c1, u', idx_0]
end GM
end
section
set_option Elab.async false
set_option linter.all false
set_option maxRecDepth 100000
namespace GM
open PySem
variable {sub : Nat → Nat → Bool}
/-! ### states_of, holds -/
theorem idx_g0 (g : Gd) : opIdx (encG g) (.int 0) = some (encS g.sg) := rfl
theorem idx_g2 (g : Gd) : opIdx (encG g) (.int 2) = some (.tup (g.rows.map encRow)) := rfl
theorem idx_g3 (g : Gd) : opIdx (encG g) (.int 3) = some (encB g.ends) := rfl
theorem fines_mp {α : Type} (f : α → D) : ∀ (xs : List α), (∀ x ∈ xs, (f x).fine = true) → D.fines (xs.map f) = true
  | [], _ => rfl
  | x :: xs, h => by rw [List.map_cons, D.fines, h x (by simp), fines_mp f xs fun y hy => h y (List.mem_cons_of_mem _ hy)]; rfl
theorem fn_encB {b : List Nat} (h : b.length ≤ 100000) : (encB b).fine = true := by
  rw [D.fine, fines_mp dN b fun _ _ => rfl]; simp [h]
theorem fn_str {s : Str} (h : IsNm s) : (D.str s).fine = true := by
  have := h.2.1
  rw [← len_cps] at this
  simp [D.fine]; omega
theorem fn_encS {sg : Sg} (k : SgOk sg) : (encS sg).fine = true := by
  rw [D.fine, fines_mp encSig sg fun p hp => by
    show (D.tup [.str p.1, dN p.2]).fine = true
    rw [D.fine, D.fines, fn_str (k.nm p hp), D.fines, D.fines]; rfl]
  have := k.five
  simp; omega
theorem rkOf_mem {sg : Sg} {nm : Str} {r : Nat} (h : rkOf sg nm = some r) : (nm, r) ∈ sg := by
  unfold rkOf at h
  obtain ⟨p, hp, e⟩ := List.exists_of_findSome?_eq_some h
  split at e
  · rename_i q
    injection e with e
    exact (Prod.ext q e : p = (nm, r)) ▸ hp
  · cases e
theorem asc_len {m : Nat} {xs : List Nat} (hp : xs.Pairwise (· < ·)) (hl : ∀ x ∈ xs, x < m) : xs.length ≤ m := by
  have := nodup_len (ys := List.range m) (hp.imp fun h => Nat.ne_of_lt h) (fun x hx => by simpa using hl x hx)
  simpa using this
theorem fn_encG {g : Gd} (k : GdOk g) : (encG g).fine = true := by
  have l1 := k.len
  have l2 := asc_len k.easc k.ends
  have l3 := k.m24
  have r : D.fines (g.rows.map encRow) = true := fines_mp encRow g.rows fun r hr => by
    have a := k.rows r hr
    have nm := k.sg.nm _ (rkOf_mem a.1)
    have b := fn_encB (b := r.2.1) (by have := k.rl hr; omega)
    show (D.tup [.str r.1, encB r.2.1, dN r.2.2]).fine = true
    rw [D.fine, D.fines, fn_str nm, D.fines, b, D.fines, D.fines]; rfl
  have rr : (D.tup (g.rows.map encRow)).fine = true := by rw [D.fine, r]; simp; omega
  have rb := fn_encB (b := g.ends) (by omega)
  show (D.tup [encS g.sg, dN g.many, .tup (g.rows.map encRow), encB g.ends]).fine = true
  rw [D.fine, D.fines, fn_encS k.sg, D.fines, D.fines, rr, D.fines, rb, D.fines]; rfl
theorem kOfs_t (ds : List D) (h : MH) : kOfs (.tup ds) h = .ok ds h := Eq.trans rfl rfl
theorem statesof_st (n : Nat) (h : MH) {g : Gd} (k : GdOk g) {lv : Nat} (hl : lv ≤ 20) {d : D} (t : IsT g.sg lv d) (s : d.nd ≤ 200) : run sub progT (n + 25) 30 [encG g, d] h = .ok (.ref h.length) (h ++ [.lst ((stF g.rows lv d).map dN)]) := by
  have e1 := needguard_t (sub := sub) (n + 19) h g k (fn_encG k)
  have e2 := needtree_t (sub := sub) n h k.sg hl t s
  obtain ⟨E, tb, e3⟩ := table_st (sub := sub) (n + 23) h g k
  have e4 := statesin_st (sub := sub) k tb lv (n + 21 - lv) h d t
  rw [show n + 21 - lv + 3 + lv = n + 24 by omega] at e4
  rw [run_of (fd := b_states_of) rfl rfl (by decide)]
  have b : evSs sub (run sub progT (n + 24)) b_states_of.body [some (encG g), some d] h = .ret (.ref (h.length + 0)) (h ++ [.lst ((stF g.rows lv d).map dN)]) := by
    simp [b_states_of, e1, e2, e3, e4, idx_g0]
  refine Eq.trans (congrArg (exitF b_states_of h) b) ?_
  exact exit_live rfl (pls_nrs _ _ (show PUs 0 ((stF g.rows lv d).map dN) by simp).pls)
theorem mem_dN {x : Nat} {xs : List Nat} : dN x ∈ xs.map dN ↔ x ∈ xs := by
  rw [List.mem_map]
  exact ⟨fun ⟨y, hy, e⟩ => by rw [dN_inj] at e; exact e ▸ hy, fun h => ⟨x, h, rfl⟩⟩
theorem isin_nat (x : Nat) (xs : List Nat) : opCmp .isIn (dN x) (encB xs) = some (decide (x ∈ xs)) := by
  rw [cmp_inT (by simp) (by simp)]
  congr 1
  exact decide_eq_decide.mpr mem_dN
theorem endsin_st (n : Nat) (h : MH) (g : Gd) (xs : List Nat) (hx : xs.length ≤ 1000) : run sub progT (n + 1) 31 [encG g, encB xs] h = .ok (.bl (xs.any fun s => decide (s ∈ g.ends))) h := by
  refine def_p (fd := b_ends_in) (L := []) rfl rfl (by decide) rfl ?_ rfl
  rw [List.append_nil]
  show evSs sub _ b_ends_in.body [some (encG g), some (encB xs), none] h = _
  have c1 : evL (run sub progT n) b_ends_in_l1 [some (encG g), some (encB xs), none] h = .ok (xs.map fun s => .bl (decide (s ∈ g.ends))) h := by
    refine comp1 (ys := xs) (enc := dN) (by simp) (by omega) fun s hs => ?_
    simp [wipeE, idx_g3, isin_nat]
  have ea := bi_any (fun s => decide (s ∈ g.ends)) xs
  simp [b_ends_in, c1, ea]
theorem holds_st (n : Nat) (h : MH) {g : Gd} (k : GdOk g) {lv : Nat} (hl : lv ≤ 20) {d : D} (t : IsT g.sg lv d) (s : d.nd ≤ 200) : run sub progT (n + 25) 32 [encG g, d] h = .ok (.bl ((stF g.rows lv d).any fun s => decide (s ∈ g.ends))) h := by
  have e1 := needguard_t (sub := sub) (n + 19) h g k (fn_encG k)
  have e2 := needtree_t (sub := sub) n h k.sg hl t s
  obtain ⟨E, tb, e3⟩ := table_st (sub := sub) (n + 23) h g k
  have e4 := statesin_st (sub := sub) k tb lv (n + 21 - lv) h d t
  rw [show n + 21 - lv + 3 + lv = n + 24 by omega] at e4
  have e5 := endsin_st (sub := sub) (n + 23) h g (stF g.rows lv d) (by have := stF_len g.rows lv d; omega)
  refine def_p (fd := b_holds) (L := []) rfl rfl (by decide) rfl ?_ rfl
  rw [List.append_nil]
  show evSs sub _ b_holds.body [some (encG g), some d] h = _
  simp [b_holds, e1, e2, e3, e4, e5, idx_g0]

/-! ### the law's own: the states above, the states of a tree -/
theorem natpw_uniq : ∀ {a b : List Nat}, a.Pairwise (· < ·) → b.Pairwise (· < ·) → (∀ k, k ∈ a ↔ k ∈ b) → a = b
  | [], [], _, _, _ => rfl
  | [], y :: ys, _, _, h => absurd ((h y).mpr List.mem_cons_self) (by simp)
  | x :: xs, [], _, _, h => absurd ((h x).mp List.mem_cons_self) (by simp)
  | x :: xs, y :: ys, h1, h2, h => by
    obtain ⟨a1, a2⟩ := List.pairwise_cons.mp h1
    obtain ⟨b1, b2⟩ := List.pairwise_cons.mp h2
    have e : x = y := by
      rcases List.mem_cons.mp ((h x).mp List.mem_cons_self) with e | m
      · exact e
      · rcases List.mem_cons.mp ((h y).mpr List.mem_cons_self) with e | m2
        · exact e.symm
        · have := a1 y m2; have := b1 x m; omega
    subst e
    rw [natpw_uniq a2 b2 fun k => ?_]
    constructor
    · intro m
      rcases List.mem_cons.mp ((h k).mp (List.mem_cons_of_mem _ m)) with e | m2
      · have := a1 k m; omega
      · exact m2
    · intro m
      rcases List.mem_cons.mp ((h k).mpr (List.mem_cons_of_mem _ m)) with e | m2
      · have := b1 k m; omega
      · exact m2
def abvT (nm : Str) (lots : List (List Nat)) (r : Row) : Bool := decide (r.1 = nm) && (r.2.1.zip lots).all fun p => decide (p.1 ∈ p.2)
theorem abvT_iff {nm : Str} {lots : List (List Nat)} {r : Row} (hl : r.1 = nm → r.2.1.length = lots.length) : abvT nm lots r = true ↔ r.1 = nm ∧ inL r.2.1 lots := by
  unfold abvT
  rw [Bool.and_eq_true, decide_eq_true_eq, List.all_eq_true, inL_iff]
  simp only [decide_eq_true_eq]
  exact ⟨fun ⟨a, b⟩ => ⟨a, hl a, b⟩, fun ⟨a, b⟩ => ⟨a, b.2⟩⟩
def stepA (nm : Str) (lots : List (List Nat)) (s : List Nat) (r : Row) : List Nat := if abvT nm lots r = true then addK s r.2.2 else s
theorem stepA_ok (nm : Str) (lots : List (List Nat)) : ∀ (rows : List Row) (s : List Nat), s.Nodup → (rows.foldl (stepA nm lots) s).Nodup ∧ ∀ x, x ∈ rows.foldl (stepA nm lots) s ↔ x ∈ s ∨ ∃ r ∈ rows, abvT nm lots r = true ∧ r.2.2 = x
  | [], s, h => ⟨h, by simp⟩
  | r :: rows, s, h => by
    rw [List.foldl_cons]
    have n1 : (stepA nm lots s r).Nodup := by unfold stepA; split; exact addK_nodup h; exact h
    obtain ⟨a, b⟩ := stepA_ok nm lots rows _ n1
    refine ⟨a, fun x => ?_⟩
    rw [b]
    have e : x ∈ stepA nm lots s r ↔ x ∈ s ∨ (abvT nm lots r = true ∧ r.2.2 = x) := by
      unfold stepA
      by_cases q : abvT nm lots r = true
      · rw [if_pos q, mem_addK]
        constructor
        · rintro (z | z)
          · exact .inl z
          · exact .inr ⟨q, z.symm⟩
        · rintro (z | ⟨_, z⟩)
          · exact .inl z
          · exact .inr z.symm
      · rw [if_neg q]
        exact ⟨.inl, fun z => z.elim id fun w => absurd w.1 q⟩
    rw [e]
    constructor
    · rintro ((z | ⟨z1, z2⟩) | ⟨r', h1, h2⟩)
      · exact .inl z
      · exact .inr ⟨r, by simp, z1, z2⟩
      · exact .inr ⟨r', List.mem_cons_of_mem _ h1, h2⟩
    · rintro (z | ⟨r', h1, h2⟩)
      · exact .inl (.inl z)
      · rcases List.mem_cons.mp h1 with rfl | h1
        · exact .inl (.inr h2)
        · exact .inr ⟨r', h1, h2⟩
theorem lawabove_st (n : Nat) (h : MH) (rows : List Row) (hr : ∀ r ∈ rows, r.2.2 < 24) (hb : ∀ r ∈ rows, r.2.1.length ≤ 2) (nm : Str) (lots : List (List Nat)) (hm : ∀ l ∈ lots, l.length ≤ 24) (hl : ∀ r ∈ rows, r.1 = nm → r.2.1.length = lots.length) :
    run sub progT (n + 1) 34 [.tup (rows.map encRow), .str nm, .lst (lots.map encB)] h = .ok (encB (abv rows nm lots)) h := by
  have sb : ∀ s : List Nat, s.Nodup → (∀ x ∈ s, x < 24) → s.length ≤ 24 := fun s nd lt => by
    have := nodup_len (ys := List.range 24) nd (fun x hx => by simpa using lt x hx)
    simpa using this
  have lp := fr_inv (α := Row) (σ := List Nat) (t := .v 4) (b := fun ρ h => evSs sub (run sub progT n) (.cons (.ite (.and (.cons (.cmp .eq (.idx (.var 4) (.int 0)) (.var 1)) (.cons (.bi .all (.cons (.lst (b__law_above_l1)) .nil)) .nil))) (.cons (.setI (.var 3) (.idx (.var 4) (.int 2)) (.bl true)) .nil) (.nil)) (.cons (.wipe [4]) .nil)) ρ h) (enc := encRow)
    (ev := fun _ => [some (.tup (rows.map encRow)), some (.str nm), some (.lst (lots.map encB)), some (.ref h.length), none, none, none]) (hp := fun ks => h ++ [.dic (dks (ks.map dN))]) (fun dn s => s = dn.foldl (stepA nm lots) [] ∧ s.Nodup ∧ ∀ x ∈ s, x < 24) rows (by
      rintro dn r rest s el ⟨es, nd, lt⟩
      have hm : r ∈ rows := by rw [el]; simp
      have sl := sb s nd lt
      have r24 := hr r hm
      refine ⟨stepA nm lots s r, ?_, by rw [List.foldl_append, ← es]; rfl, by unfold stepA; split; exact addK_nodup nd; exact nd, ?_⟩
      · have c1 : evL (run sub progT n) b__law_above_l1 [some (.tup (rows.map encRow)), some (.str nm), some (.lst (lots.map encB)), some (.ref h.length), some (encRow r), none, none] (h ++ [.dic (dks (s.map dN))]) = .ok ((r.2.1.zip lots).map fun p => .bl (decide (p.1 ∈ p.2))) (h ++ [.dic (dks (s.map dN))]) := by
          refine comp1 (ys := r.2.1.zip lots) (enc := fun p => .tup [dN p.1, encB p.2]) ?_ (by have := hb r hm; simp; omega) fun p hp => ?_
          · have e1 : opIdx (encRow r) (.int 1) = some (encB r.2.1) := rfl
            have e2 : ((r.2.1.map dN).zip (lots.map encB)).map (fun p => D.tup [p.1, p.2]) = (r.2.1.zip lots).map fun p => .tup [dN p.1, encB p.2] := by
              rw [List.zip_map, List.map_map]; rfl
            simp [e1, -List.map_map]
            exact e2
          · simp [wipeE, isin_nat]
        have ea := bi_all (fun p : Nat × List Nat => decide (p.1 ∈ p.2)) (r.2.1.zip lots)
        have i0 : opIdx (encRow r) (.int 0) = some (.str r.1) := rfl
        have i2 : opIdx (encRow r) (.int 2) = some (dN r.2.2) := rfl
        have st := fun ρ => setK_k (ρ := ρ) (n := h.length) (h := h ++ [.dic (dks (s.map dN))]) (k := dN r.2.2) (ks := s.map dN) (by simp) (by simp) (by simp; omega)
        have ce : opCmp .eq (.str r.1) (.str nm) = some (decide (r.1 = nm)) := by rw [cmp_eq (by simp) (by simp)]; simp
        by_cases q1 : r.1 = nm
        · cases q2 : (r.2.1.zip lots).all fun p => decide (p.1 ∈ p.2) with
          | true =>
            rw [q2] at ea
            have q : abvT nm lots r = true := by unfold abvT; rw [q2]; simp [q1]
            simp [i0, ce, q1, c1, ea, i2, st, stepA, q]
          | false =>
            rw [q2] at ea
            have q : abvT nm lots r = false := by unfold abvT; rw [q2]; simp
            simp [i0, ce, q1, c1, ea, stepA, q]
        · have q : abvT nm lots r = false := by unfold abvT; simp [q1]
          simp [i0, ce, q1, stepA, q]
      · intro x hx
        unfold stepA at hx
        split at hx
        · rcases mem_addK.mp hx with z | rfl
          · exact lt x z
          · exact r24
        · exact lt x hx) (s0 := []) ⟨rfl, by simp, by simp⟩
  obtain ⟨s, e, es, nd, lt⟩ := lp
  have so := stepA_ok nm lots rows [] (by simp)
  rw [← es] at so
  have sl := sb s nd lt
  have eq : s.mergeSort nLe = abv rows nm lots := natpw_uniq (sort_nat_pw nd) (abv_pw _ _ _) fun k => by
    rw [(List.mergeSort_perm s nLe).mem_iff, so.2, mem_abv hr]
    simp only [List.not_mem_nil, false_or]
    constructor
    · rintro ⟨r, h1, h2, h3⟩
      obtain ⟨h4, h5⟩ := (abvT_iff (hl r h1)).mp h2
      exact ⟨r, h1, h4, h3, h5⟩
    · rintro ⟨r, h1, h2, h3, h4⟩
      exact ⟨r, h1, (abvT_iff (hl r h1)).mpr ⟨h2, h4⟩, h3⟩
  refine def_p (fd := b__law_above) (L := [.dic (dks (s.map dN))]) rfl rfl (by decide) rfl ?_ (show PU 2 (encB (abv rows nm lots)) by simp).pl
  show evSs sub _ b__law_above.body [some (.tup (rows.map encRow)), some (.str nm), some (.lst (lots.map encB)), none, none, none, none] h = _
  have s1 : evS sub (run sub progT n) b__law_above_s1 [some (.tup (rows.map encRow)), some (.str nm), some (.lst (lots.map encB)), some (.ref h.length), none, none, none] (h ++ [.dic []]) = .nx [some (.tup (rows.map encRow)), some (.str nm), some (.lst (lots.map encB)), some (.ref h.length), none, none, none] (h ++ [.dic (dks (s.map dN))]) := by
    rw [b__law_above_s1, s_fr]
    simp only [evIt_seq, ev_var, List.getElem?_cons_zero, rv_s, R.bind_ok, kItems_a, items_t, R.ofO_some, bindE_ok]
    exact e
  have so2 : ∀ vs, opSort (.dic (s.map dN) vs) = some ((abv rows nm lots).map dN) := fun vs => by rw [sort_natD (by omega), eq]
  simp [b__law_above, s1, so2]
theorem lawstates_st {g : Gd} (k : GdOk g) : ∀ (lv n : Nat) (h : MH) (d : D), IsT g.sg lv d → run sub progT (n + 1 + lv) 35 [.tup (g.rows.map encRow), d] h = .ok (encB (stF g.rows lv d)) h := by
  intro lv
  induction lv with
  | zero => intro n h d i; exact i.elim
  | succ lv ih =>
    intro n h d ⟨nm, ds, e, r, c⟩
    subst e
    have l2 := rkOf_le k.sg r
    have c1 : evL (run sub progT (n + 1 + lv)) b__law_states_l1 [some (.tup (g.rows.map encRow)), some (.tup (.str nm :: ds)), none] h = .ok (ds.map fun d => encB (stF g.rows lv d)) h := by
      refine comp1 (ys := ds) (enc := id) (by simp [slc_from1]) (by omega) fun x hx => ?_
      simp [wipeE, ih n h x (c x hx)]
    have u := lawabove_st (sub := sub) (n + lv) h g.rows (fun r hr => by have := (k.rows r hr).2.2; have := k.m24; omega) (fun r hr => k.rl hr) nm (ds.map (stF g.rows lv)) (fun l hl => by
      obtain ⟨x, _, rfl⟩ := List.mem_map.mp hl
      exact stF_len _ _ _) (fun q hq e => by
      have := (k.rows q hq).1
      rw [e, r] at this
      injection this with this
      rw [List.length_map]; exact this.symm)
    rw [show n + lv + 1 = n + 1 + lv by omega, List.map_map] at u
    refine def_p (fd := b__law_states) (n := n + 1 + lv) (L := []) rfl rfl (by decide) rfl ?_ (show PU 2 (encB (stF g.rows (lv + 1) (.tup (.str nm :: ds)))) by simp).pl
    rw [List.append_nil, stF_s]
    show evSs sub _ b__law_states.body [some (.tup (g.rows.map encRow)), some (.tup (.str nm :: ds)), none] h = _
    have u' : run sub progT (n + 1 + lv) 34 [.tup (g.rows.map encRow), .str nm, .lst (ds.map fun d => encB (stF g.rows lv d))] h = .ok (encB (abv g.rows nm (ds.map (stF g.rows lv)))) h := u
    simp [b__law_states, c1, u', idx_0]
end GM
end
section
set_option Elab.async false
set_option linter.all false
set_option maxRecDepth 100000
namespace GM
open PySem
variable {sub : Nat → Nat → Bool}
/-! ### drawn trees -/
def treeIf : S := match b__law_tree.body with
  | .cons _ (.cons _ (.cons _ (.cons _ (.cons s _)))) => s
  | _ => .pass
def treeTail : Ss := match b__law_tree.body with
  | .cons _ (.cons _ (.cons _ (.cons _ (.cons _ r)))) => r
  | r => r
theorem treeBody : b__law_tree.body = .cons (.asg (.v 4) (.live (b__law_tree_l1))) (.cons (.freeze 4) (.cons (.asg (.v 5) (.live (b__law_tree_l2))) (.cons (.freeze 5) (.cons treeIf treeTail)))) := rfl
def fitF (most lv : Nat) (p : Str × Nat) : Bool := decide (p.2 < most) && (decide (p.2 = 0) || decide (1 < lv))
theorem encSig_ne {xs : List (Str × Nat)} : (D.lst (xs.map encSig) ≠ .lst []) ↔ xs ≠ [] := by
  constructor
  · rintro h rfl; exact h rfl
  · intro h e; injection e with e; exact h (List.map_eq_nil_iff.mp e)
theorem fits_st (C : Cal) (h : MH) (sg : Sg) (hl : sg.length ≤ 5) (most lv : Nat) (a0 : D) (x4 x5 x6 x7 : Option D) : evL C b__law_tree_l1 [some a0, some (encS sg), some (dN most), some (dN lv), x4, x5, x6, x7, none, none] h = .ok ((sg.filter (fitF most lv)).map encSig) h := by
  refine comp1f (ys := sg) (enc := encSig) (p := fitF most lv) (by simp) (by omega) (fun p hp => ?_) fun p hp _ => ?_
  · by_cases q1 : p.2 < most
    · by_cases q2 : p.2 = 0
      · have q3 : 0 < most := by omega
        simp [wipeE, q1, q2, fitF, q3]
      · have q3 : ((1 : Int) < (lv : Int)) = (1 < lv) := by apply propext; omega
        simp [wipeE, q1, q2, fitF, q3]
    · simp [wipeE, q1, fitF]
  · simp [wipeE]
theorem grow_st (C : Cal) (h : MH) (fs : List (Str × Nat)) (hl : fs.length ≤ 5) (a0 a1 a2 a3 : D) (x5 x6 x7 : Option D) : evL C b__law_tree_l2 [some a0, some a1, some a2, some a3, some (.lst (fs.map encSig)), x5, x6, x7, none, none] h = .ok ((fs.filter fun p => decide (0 < p.2)).map encSig) h := by
  refine comp1f (ys := fs) (enc := encSig) (p := fun p => decide (0 < p.2)) (by simp) (by omega) (fun p hp => ?_) fun p hp _ => ?_
  · simp [wipeE]
  · simp [wipeE]
/-- the names to choose from -/
theorem treeif_st (n i : Nat) {h : MH} (hi : i < h.length) {w : List D} (k : WOk w) (L : MH) (fs : List (Str × Nat)) (h1 : fs ≠ []) (hl : fs.length ≤ 5) (a1 a2 a3 : Option D) :
    ∃ F w', WOk w' ∧ F ≠ [] ∧ (∀ p ∈ F, p ∈ fs) ∧ F.length ≤ 5 ∧ evS sub (run sub progT (n + 1)) treeIf [some (.ref i), a1, a2, a3, some (.lst (fs.map encSig)), some (.lst ((fs.filter fun p => decide (0 < p.2)).map encSig)), none, none, none, none] (HW h i w L) =
      .nx [some (.ref i), a1, a2, a3, some (.lst (F.map encSig)), some (.lst ((fs.filter fun p => decide (0 < p.2)).map encSig)), none, none, none, none] (HW h i w' L) := by
  have gl : (fs.filter fun p => decide (0 < p.2)).length ≤ 5 := Nat.le_trans (List.length_filter_le _ _) hl
  have gs : ∀ p ∈ fs.filter fun p => decide (0 < p.2), p ∈ fs := fun p hp => (List.mem_filter.mp hp).1
  generalize (fs.filter fun p => decide (0 < p.2)) = gr at gl gs ⊢
  have cn : opCmp .ne (.lst (gr.map encSig)) (.lst []) = some (decide (gr ≠ [])) := by
    rw [cmp_ne (by simp) (by simp)]
    congr 1
    exact decide_eq_decide.mpr encSig_ne
  by_cases q : gr = []
  · subst q
    exact ⟨fs, w, k, h1, fun p hp => hp, hl, by simp [treeIf, b__law_tree]⟩
  · obtain ⟨_, w1, k1, ⟨r, rfl, hr⟩, e⟩ := take_st (sub := sub) n i 5 (by decide) (by decide) h w L hi k
    have q' : decide (gr ≠ []) = true := by simpa using q
    rw [q'] at cn
    by_cases z : r = 0
    · subst z
      refine ⟨fs, w1, k1, h1, fun p hp => hp, hl, ?_⟩
      simp only [treeIf, b__law_tree]
      simp [cn, e, q]
    · have z' : (0 : Int) < r := by omega
      refine ⟨gr, w1, k1, q, gs, gl, ?_⟩
      simp only [treeIf, b__law_tree]
      simp [cn, e, z', q, Nat.pos_of_ne_zero z]
theorem nds_1 (d : D) : D.nds [d] = d.nd := by rw [D.nds, D.nds]; omega
theorem nds_2 (d e : D) : D.nds [d, e] = d.nd + e.nd := by rw [D.nds, nds_1]
theorem lawtree_st (i : Nat) {sg : Sg} (so : SgOk sg) : ∀ (lv n most : Nat), 1 ≤ lv → 1 ≤ most → most ≤ 1000 → lv ≤ 1000 → GenR (run sub progT (n + 1 + lv) 33 [.ref i, encS sg, dN most, dN lv]) i (fun d => IsT sg lv d ∧ d.nd ≤ most) := by
  intro lv
  induction lv with
  | zero => intro n most h; omega
  | succ lv ih =>
    intro n most _ m1 m2 l2
    refine gen_p (n := n + 1 + lv) (fd := b__law_tree) rfl rfl (by decide) rfl fun h w hi k => ?_
    have l5 := so.five
    obtain ⟨fs, hfs⟩ : ∃ fs, fs = sg.filter (fitF most (lv + 1)) := ⟨_, rfl⟩
    have fl : fs.length ≤ 5 := by rw [hfs]; exact Nat.le_trans (List.length_filter_le _ _) l5
    have fne : fs ≠ [] := by
      obtain ⟨p, hp, p0⟩ := so.leaf
      intro e
      have : p ∈ fs := by rw [hfs]; exact List.mem_filter.mpr ⟨hp, by simp [fitF, p0]; omega⟩
      rw [e] at this; cases this
    have fm : ∀ p ∈ fs, p ∈ sg ∧ p.2 < most ∧ (p.2 = 0 ∨ 1 ≤ lv) := fun p hp => by
      rw [hfs, List.mem_filter] at hp
      have := hp.2
      simp [fitF] at this
      exact ⟨hp.1, this.1, this.2.imp id fun z => by omega⟩
    have c1 := fun h => fits_st (run sub progT (n + 1 + lv)) h sg l5 most (lv + 1) (.ref i) none none none none
    rw [← hfs] at c1
    have c2 := fun h => grow_st (run sub progT (n + 1 + lv)) h fs fl (.ref i) (encS sg) (dN most) (dN (lv + 1)) none none none
    obtain ⟨gr, hgr⟩ : ∃ gr, gr = fs.filter fun p => decide (0 < p.2) := ⟨_, rfl⟩
    obtain ⟨F, w1, k1, Fne, Ff, Fl, e3⟩ := treeif_st (sub := sub) (n + lv) i hi k [.dead, .dead] fs fne fl (some (encS sg)) (some (dN most)) (some (dN (lv + 1)))
    rw [← hgr] at c2 e3
    rw [show n + lv + 1 = n + 1 + lv by omega] at e3
    have Fp : 0 < F.length := List.length_pos_iff.mpr Fne
    obtain ⟨_, w2, k2, ⟨r, rfl, hr⟩, e4⟩ := take_st (sub := sub) (n + lv) i F.length (by omega) (by omega) h w1 [.dead, .dead] hi k1
    rw [show n + lv + 1 = n + 1 + lv by omega] at e4
    have rl : r < F.length := by omega
    have ix : F[r]? = some F[r] := List.getElem?_eq_getElem rl
    obtain ⟨ms, mm, ml⟩ := fm _ (Ff _ (List.getElem_mem rl))
    generalize F[r] = p at ix ms mm ml
    obtain ⟨nm, rk⟩ := p
    dsimp only at mm ml
    have rkk := rk_mem so ms
    have rk2 : rk ≤ 2 := so.rk _ ms
    have pl1 : ∀ fs : List (Str × Nat), D.pls (fs.map encSig) = true := fun fs => (show PUs 1 (fs.map encSig) by simp).pls
    have f1 := fun ρ => fz_l (n := h.length) (i := 4) (ρ := ρ) (h := HW h i w [.lst (fs.map encSig)]) (xs := fs.map encSig) (by simp) (pl1 _)
    have f2 := fun ρ => fz_l (n := h.length + 1) (i := 5) (ρ := ρ) (h := HW h i w [.dead, .lst (gr.map encSig)]) (xs := gr.map encSig) (by simp) (pl1 _)
    obtain ⟨LI, hLI⟩ : ∃ LI : Int, LI = ((lv + 1 : Nat) : Int) := ⟨_, rfl⟩
    have body : ∀ {d : D} {H : MH}, evSs sub (run sub progT (n + 1 + lv)) treeTail [some (.ref i), some (encS sg), some (dN most), some (.int LI), some (.lst (F.map encSig)), some (.lst (gr.map encSig)), none, none, none, none] (HW h i w1 [.dead, .dead]) = .ret d H →
        evSs sub (run sub progT (n + 1 + lv)) b__law_tree.body [some (.ref i), some (encS sg), some (dN most), some (dN (lv + 1)), none, none, none, none, none, none] (HW h i w []) = .ret d H := by
      intro d H e
      rw [treeBody]
      rw [hLI] at e
      simp only [dN] at c1 c2 e3 e ⊢
      generalize ((lv + 1 : Nat) : Int) = Z at c1 c2 e3 e ⊢
      simp [c1, c2, f1, f2, hw_len, e3, e, hi]
    show ∃ d w' L', WOk w' ∧ (IsT sg (lv + 1) d ∧ d.nd ≤ most) ∧ d.pl = true ∧ evSs sub (run sub progT (n + 1 + lv)) b__law_tree.body [some (.ref i), some (encS sg), some (dN most), some (dN (lv + 1)), none, none, none, none, none, none] (HW h i w []) = .ret d (HW h i w' L')
    have dec : ∀ m : Nat, 1 ≤ m → opBin .sub (.int m) (.int 1) = some (dN (m - 1)) := fun m hm => by
      show some (D.int ((m : Int) - 1)) = _
      rw [dN]; congr 2; omega
    have decL : opBin .sub (.int LI) (.int 1) = some (dN lv) := by
      show some (D.int (LI - 1)) = _
      rw [dN]; congr 2; omega
    by_cases r0 : rk = 0
    · subst r0
      have t : IsT sg (lv + 1) (.tup [.str nm]) := ⟨nm, [], rfl, rkk, by simp⟩
      refine ⟨.tup [.str nm], w2, [.dead, .dead], k2, ⟨t, by rw [D.nd, nds_1, D.nd]; exact m1⟩, fine_pl _ (fine_t so t), body ?_⟩
      simp only [treeTail, b__law_tree]
      simp [e4, ix]
    · have lv1 : 1 ≤ lv := ml.resolve_left r0
      by_cases r1 : rk = 1
      · subst r1
        obtain ⟨c, w3, k3, ⟨tc, nc⟩, e5⟩ := ih n (most - 1) lv1 (by omega) (by omega) (by omega) h w2 [.dead, .dead] hi k2
        have t : IsT sg (lv + 1) (.tup [.str nm, c]) := ⟨nm, [c], rfl, rkk, by simpa using tc⟩
        have vc : vw (HW h i w3 [.dead, .dead]) c = c := vw_fine (fine_t so tc)
        refine ⟨.tup [.str nm, c], w3, [.dead, .dead], k3, ⟨t, by rw [D.nd, nds_2, D.nd]; omega⟩, fine_pl _ (fine_t so t), body ?_⟩
        simp only [treeTail, b__law_tree]
        simp [e4, ix, dec most m1, decL, e5]
      · have r2 : rk = 2 := by omega
        subst r2
        obtain ⟨_, w3, k3, ⟨q, rfl, hq⟩, e5⟩ := take_st (sub := sub) (n + lv) i ((most - 2 : Nat) : Int) (by omega) (by omega) h w2 [.dead, .dead] hi k2
        rw [show n + lv + 1 = n + 1 + lv by omega] at e5
        have s2 : opBin .sub (.int most) (.int 2) = some (.int ((most - 2 : Nat) : Int)) := by
          show some (D.int ((most : Int) - 2)) = _
          congr 2; omega
        have ql : q < most - 2 := by omega
        have a1 : opBin .add (.int 1) (.int q) = some (dN (1 + q)) := by
          show some (D.int (1 + (q : Int))) = _
          rw [dN]; congr 2
        obtain ⟨c, w4, k4, ⟨tc, nc⟩, e6⟩ := ih n (1 + q) lv1 (by omega) (by omega) (by omega) h w3 [.dead, .dead] hi k3
        obtain ⟨c', w5, k5, ⟨tc', nc'⟩, e7⟩ := ih n (most - 1 - (1 + q)) lv1 (by omega) (by omega) (by omega) h w4 [.dead, .dead] hi k4
        have s3 : opBin .sub (dN (most - 1)) (dN (1 + q)) = some (dN (most - 1 - (1 + q))) := by
          show some (D.int (((most - 1 : Nat) : Int) - ((1 + q : Nat) : Int))) = _
          rw [dN]; congr 2; omega
        have t : IsT sg (lv + 1) (.tup [.str nm, c, c']) := ⟨nm, [c, c'], rfl, rkk, by intro x hx; simp at hx; rcases hx with rfl | rfl; exact tc; exact tc'⟩
        refine ⟨.tup [.str nm, c, c'], w5, [.dead, .dead], k5, ⟨t, by rw [D.nd, D.nds, nds_2, D.nd]; omega⟩, fine_pl _ (fine_t so t), body ?_⟩
        simp only [treeTail, b__law_tree]
        obtain ⟨Q1, hQ1⟩ : ∃ Q1 : Int, Q1 = ((1 + q : Nat) : Int) := ⟨_, rfl⟩
        obtain ⟨Q2, hQ2⟩ : ∃ Q2 : Int, Q2 = ((most - 1 - (1 + q) : Nat) : Int) := ⟨_, rfl⟩
        obtain ⟨Q3, hQ3⟩ : ∃ Q3 : Int, Q3 = (most : Int) - 1 := ⟨_, rfl⟩
        have g1 : (1 : Int) + q = Q1 := by omega
        have g2 : Q3 - Q1 = Q2 := by omega
        rw [dN, ← hQ1] at e6
        rw [show dN (most - 1 - (1 + q)) = .int Q2 by rw [dN, hQ2]] at e7
        have s4 : opBin .sub (.int most) (.int 1) = some (.int Q3) := by
          show some (D.int ((most : Int) - 1)) = _
          rw [hQ3]
        have s5 : opBin .sub (.int Q3) (.int Q1) = some (.int Q2) := by
          show some (D.int (Q3 - Q1)) = _
          rw [g2]
        have a2 : opBin .add (.int 1) (.int q) = some (.int Q1) := by
          show some (D.int ((1 : Int) + q)) = _
          rw [g1]
        simp [e4, ix, s4, decL, e5, s2, a2, e6, s5, e7]
end GM
end
section
set_option Elab.async false
set_option linter.all false
set_option maxRecDepth 100000
namespace GM
open PySem
variable {sub : Nat → Nat → Bool}
theorem says5_st (n : Nat) (h : MH) (a b : Bool) : run sub progT (n + 1) 19 [.bl a, .bl b] h = .ok (.bl (decide (a = b))) h := by
  refine def_p (fd := b__law_says) (L := []) rfl rfl (by decide) rfl ?_ rfl
  rw [List.append_nil]
  show evSs sub _ b__law_says.body [some (.bl a), some (.bl b)] h = _
  have e1 : ∀ a, opIsa .bool (.bl a) = some true := fun _ => rfl
  simp [b__law_says, e1, cmp_bl]
/-- a turn of the asking: h as it is, two guards, two trees -/
theorem turn5 (n : Nat) (h : MH) {g1 g2 : Gd} (k1 : GdOk g1) (k2 : GdOk g2) {t1 t2 : D} (i1 : IsT g1.sg 12 t1) (s1 : t1.nd ≤ 200) (i2 : IsT g1.sg 12 t2) (s2 : t2.nd ≤ 200) (sg : g2.sg = g1.sg) (a0 a1 a2 a3 : Option D) (k : Nat) (hk : k < 8) :
    ∃ M, fK (fun ρ h => evSs sub (run sub progT (n + 26)) (.cons (.asg (.t (.cons (.v 9) (.cons (.v 10) (.nil)))) (.tup (.cons (.idx (.var 4) (.bin .mod (.var 6) (.int 2))) (.cons (.idx (.var 5) (.bin .mod (.bin .fdiv (.var 6) (.int 2)) (.int 2))) .nil)))) (.cons (.asg (.v 7) (.call 30 (.cons (.var 9) (.cons (.var 10) .nil)))) (.cons (.asg (.v 8) (.lst (.ofs (.call 35 (.cons (.idx (.var 9) (.int 2)) (.cons (.var 10) .nil)))))) (.cons (.ite (.or (.cons (.not (.isa .list (.var 7))) (.cons (.cmp .ne (.var 7) (.var 8)) .nil))) (.cons (.ret (.bl false)) .nil) (.nil)) (.cons (.ex (.append (.var 7) (.int 7))) (.cons (.ite (.not (.call 19 (.cons (.call 32 (.cons (.var 9) (.cons (.var 10) .nil))) (.cons (.cmp .ne (.lst (b_law_l1)) (.lst (.disp (.nil)))) .nil)))) (.cons (.ret (.bl false)) .nil) (.nil)) (.cons (.wipe [6, 7, 8, 9, 10]) .nil))))))) ρ h) h
      (asgT (.v 6) (.int k) [a0, a1, a2, a3, some (.lst [encG g1, encG g2]), some (.lst [t1, t2]), none, none, none, none, none, none]) = .nx [a0, a1, a2, a3, some (.lst [encG g1, encG g2]), some (.lst [t1, t2]), none, none, none, none, none, none] (h ++ M) := by
  -- the guard, the tree of this turn
  obtain ⟨g, t, kg, it, st, q1, q2⟩ : ∃ (g : Gd) (t : D), GdOk g ∧ IsT g.sg 12 t ∧ t.nd ≤ 200 ∧ [encG g1, encG g2][k % 2]? = some (encG g) ∧ [t1, t2][k / 2 % 2]? = some t := by
    have c1 : k % 2 = 0 ∨ k % 2 = 1 := by omega
    have c2 : k / 2 % 2 = 0 ∨ k / 2 % 2 = 1 := by omega
    rcases c1 with c1 | c1 <;> rcases c2 with c2 | c2 <;> rw [c1, c2]
    · exact ⟨g1, t1, k1, i1, s1, rfl, rfl⟩
    · exact ⟨g1, t2, k1, i2, s2, rfl, rfl⟩
    · exact ⟨g2, t1, k2, sg ▸ i1, s1, rfl, rfl⟩
    · exact ⟨g2, t2, k2, sg ▸ i2, s2, rfl, rfl⟩
  obtain ⟨xs, hxs⟩ : ∃ xs, xs = stF g.rows 12 t := ⟨_, rfl⟩
  have xl : xs.length ≤ 24 := by rw [hxs]; exact stF_len _ _ _
  have e1 := statesof_st (sub := sub) (n + 1) h kg (by decide) it st
  have e2 := lawstates_st (sub := sub) kg 12 (n + 13) (h ++ [.lst (xs.map dN)]) t it
  have e3 := holds_st (sub := sub) (n + 1) (h ++ [.lst (xs.map dN ++ [.int 7])]) kg (by decide) it st
  rw [← hxs] at e1 e2 e3
  have m1 : opBin .mod (.int k) (.int 2) = some (.int ((k % 2 : Nat) : Int)) := by
    rw [bin_mod (by decide)]; congr 2
    exact (Int.fmod_eq_emod_of_nonneg _ (by decide))
  have d1 : opBin .fdiv (.int k) (.int 2) = some (.int ((k / 2 : Nat) : Int)) := by
    rw [bin_fdiv (by decide) (by decide)]; congr 2
    exact (Int.fdiv_eq_ediv_of_nonneg _ (by decide))
  have m2 : opBin .mod (.int ((k / 2 : Nat) : Int)) (.int 2) = some (.int ((k / 2 % 2 : Nat) : Int)) := by
    rw [bin_mod (by decide)]; congr 2
    exact (Int.fmod_eq_emod_of_nonneg _ (by decide))
  have ix1 : opIdx (.lst [encG g1, encG g2]) (.int ((k % 2 : Nat) : Int)) = some (encG g) := by rw [idx_lst, atO_nat, q1]
  have ix2 : opIdx (.lst [t1, t2]) (.int ((k / 2 % 2 : Nat) : Int)) = some t := by rw [idx_lst, atO_nat, q2]
  have vt : ∀ H, vw H t = t := fun H => vw_fine (fine_t kg.sg it)
  have ne : opCmp .ne (.lst (xs.map dN)) (.lst (xs.map dN)) = some false := by
    rw [cmp_ne (by simp) (by simp)]; simp
  have c1 : ∀ H, evL (run sub progT (n + 26)) b_law_l1 [a0, a1, a2, a3, some (.lst [encG g1, encG g2]), some (.lst [t1, t2]), some (.int k), some (.ref h.length), some (.lst (xs.map dN)), some (encG g), some t, none] H = .ok ((xs.filter fun s => decide (s ∈ g.ends)).map dN) H := fun H => by
    refine comp1f (ys := xs) (enc := dN) (p := fun s => decide (s ∈ g.ends)) (by simp) (by omega) (fun s hs => ?_) fun s hs _ => ?_
    · simp [wipeE, idx_g3, isin_nat]
    · simp [wipeE]
  have c2 : opCmp .ne (.lst ((xs.filter fun s => decide (s ∈ g.ends)).map dN)) (.lst []) = some (xs.any fun s => decide (s ∈ g.ends)) := by
    have fl : (xs.filter fun s => decide (s ∈ g.ends)).length ≤ 24 := Nat.le_trans (List.length_filter_le _ _) xl
    rw [cmp_ne (by simp) (by simp)]
    congr 1
    rw [Bool.eq_iff_iff, decide_eq_true_eq, List.any_eq_true]
    constructor
    · intro q
      cases z : xs.filter fun s => decide (s ∈ g.ends) with
      | nil => rw [z] at q; exact absurd rfl q
      | cons y ys =>
        have : y ∈ xs.filter fun s => decide (s ∈ g.ends) := by rw [z]; simp
        exact ⟨y, (List.mem_filter.mp this).1, (List.mem_filter.mp this).2⟩
    · rintro ⟨y, h1, h2⟩ q
      injection q with q
      have : y ∈ xs.filter fun s => decide (s ∈ g.ends) := List.mem_filter.mpr ⟨h1, h2⟩
      rw [List.map_eq_nil_iff.mp q] at this
      cases this
  have sy := fun H => says5_st (sub := sub) (n + 25) H (xs.any fun s => decide (s ∈ g.ends)) (xs.any fun s => decide (s ∈ g.ends))
  have ap := fun C e ρ => kApp_r (C := C) (e := e) (ρ := ρ) (n := h.length) (h := h ++ [.lst (xs.map dN)]) (xs := xs.map dN) (by simp)
  have ap2 := appK_r (d := .int 7) (n := h.length) (h := h ++ [.lst (xs.map dN)]) (xs := xs.map dN) (by simp) (by simp; omega)
  refine ⟨[.lst (xs.map dN ++ [.int 7])], ?_⟩
  generalize ((k / 2 % 2 : Nat) : Int) = K3 at m2 ix2
  generalize ((k / 2 : Nat) : Int) = K2 at m2 d1
  generalize ((k % 2 : Nat) : Int) = K1 at m1 ix1
  generalize (k : Int) = K at m1 d1 c1 ⊢
  simp [-atO_nat, -idx_lst, m1, d1, m2, ix1, ix2, e1, e2, ne, ap, ap2, e3, c1, c2, sy, idx_g2]
end GM
end
section
set_option Elab.async false
set_option linter.all false
set_option maxRecDepth 100000
namespace GM
open PySem
variable {sub : Nat → Nat → Bool}
theorem turns5 (n : Nat) (h : MH) {g1 g2 : Gd} (k1 : GdOk g1) (k2 : GdOk g2) {t1 t2 : D} (i1 : IsT g1.sg 12 t1) (s1 : t1.nd ≤ 200) (i2 : IsT g1.sg 12 t2) (s2 : t2.nd ≤ 200) (sg : g2.sg = g1.sg) (a0 a1 a2 a3 : Option D) :
    ∃ h', evS sub (run sub progT (n + 26)) b_law_s1 [a0, a1, a2, a3, some (.lst [encG g1, encG g2]), some (.lst [t1, t2]), none, none, none, none, none, none] h = .nx [a0, a1, a2, a3, some (.lst [encG g1, encG g2]), some (.lst [t1, t2]), none, none, none, none, none, none] h' := by
  have lp := fr_inv (α := Nat) (σ := MH) (t := .v 6) (b := fun ρ h => evSs sub (run sub progT (n + 26)) (.cons (.asg (.t (.cons (.v 9) (.cons (.v 10) (.nil)))) (.tup (.cons (.idx (.var 4) (.bin .mod (.var 6) (.int 2))) (.cons (.idx (.var 5) (.bin .mod (.bin .fdiv (.var 6) (.int 2)) (.int 2))) .nil)))) (.cons (.asg (.v 7) (.call 30 (.cons (.var 9) (.cons (.var 10) .nil)))) (.cons (.asg (.v 8) (.lst (.ofs (.call 35 (.cons (.idx (.var 9) (.int 2)) (.cons (.var 10) .nil)))))) (.cons (.ite (.or (.cons (.not (.isa .list (.var 7))) (.cons (.cmp .ne (.var 7) (.var 8)) .nil))) (.cons (.ret (.bl false)) .nil) (.nil)) (.cons (.ex (.append (.var 7) (.int 7))) (.cons (.ite (.not (.call 19 (.cons (.call 32 (.cons (.var 9) (.cons (.var 10) .nil))) (.cons (.cmp .ne (.lst (b_law_l1)) (.lst (.disp (.nil)))) .nil)))) (.cons (.ret (.bl false)) .nil) (.nil)) (.cons (.wipe [6, 7, 8, 9, 10]) .nil))))))) ρ h) (enc := fun (k : Nat) => .int k)
    (ev := fun _ => [a0, a1, a2, a3, some (.lst [encG g1, encG g2]), some (.lst [t1, t2]), none, none, none, none, none, none]) (hp := fun h => h) (fun _ _ => True) (List.range 8) (by
      rintro dn y rest h el _
      have hy : y < 8 := by
        have : y ∈ List.range 8 := by rw [el]; simp
        simpa using this
      obtain ⟨M, e⟩ := turn5 (sub := sub) n h k1 k2 i1 s1 i2 s2 sg a0 a1 a2 a3 y hy
      exact ⟨h ++ M, e, trivial⟩) (s0 := h) trivial
  obtain ⟨h', e, _⟩ := lp
  refine ⟨h', ?_⟩
  rw [b_law_s1, s_fr]
  simp only [evIt_range1, ev_int, R.bind_ok, show rg1K (.int 8) h = .ok ((List.range 8).map fun (k : Nat) => D.int k, none) h from rg1K_n (j := 8) (by decide), bindE_ok]
  exact e
theorem law_true (n : Nat) (ns : List Int) (hn : ns.length ≤ 63) : run sub progT (n + 27) 22 [.lst (ns.map D.int)] [] = .ok (.bl true) [] := by
  have lp := fr_inv (α := Nat) (σ := MH) (t := .v 1) (b := fun ρ h => evSs sub (run sub progT (n + 26)) (.cons (.asg (.v 2) (.call 12 (.cons (.var 0) (.cons (.var 1) .nil)))) (.cons (.asg (.v 3) (.idx (.lst (.disp (.cons (.call 15 (.cons (.var 2) .nil)) (.cons (.call 16 (.cons (.var 2) .nil)) .nil)))) (.call 13 (.cons (.var 2) (.cons (.int 2) .nil))))) (.cons (.asg (.v 4) (.lst (.disp (.cons (.call 18 (.cons (.var 2) (.cons (.var 3) (.cons (.int 4) .nil)))) (.cons (.call 18 (.cons (.var 2) (.cons (.var 3) (.cons (.int 4) .nil)))) .nil))))) (.cons (.asg (.v 5) (.lst (.disp (.cons (.call 33 (.cons (.var 2) (.cons (.var 3) (.cons (.bin .add (.int 1) (.call 13 (.cons (.var 2) (.cons (.int 24) .nil)))) (.cons (.int 12) .nil))))) (.cons (.call 33 (.cons (.var 2) (.cons (.var 3) (.cons (.bin .add (.int 1) (.call 13 (.cons (.var 2) (.cons (.int 9) .nil)))) (.cons (.int 5) .nil))))) .nil))))) (.cons (b_law_s1) (.cons (.wipe [1, 2, 3, 4, 5, 6, 7, 8, 9, 10]) .nil)))))) ρ h) (enc := fun (k : Nat) => .int k)
    (ev := fun _ => [some (.lst (ns.map D.int)), none, none, none, none, none, none, none, none, none, none, none]) (hp := fun h => h) (fun _ _ => True) (List.range (max 2 (min 30 ns.length))) (by
      rintro dn y rest h el _
      have hy : y < 30 := by
        have : y ∈ List.range (max 2 (min 30 ns.length)) := by rw [el]; simp
        simp at this; omega
      obtain ⟨w, k, e1⟩ := well_st (sub := sub) (n + 25) h ns y (by omega)
      have hi : h.length < (h ++ [LO.lst w]).length := by simp
      generalize hG : h ++ [LO.lst w] = G at e1 hi
      have e0 : G = HW G h.length w [] := by rw [hw_self (by rw [← hG]; simp)]
      obtain ⟨_, w1, k1, ⟨sg1, rfl, so1⟩, e2⟩ := signs_st (sub := sub) (n + 23) h.length G w [] hi k
      obtain ⟨_, w2, k2, ⟨sg2, rfl, so2, _⟩, e3⟩ := full_st (sub := sub) (n + 23) h.length G w1 [] hi k1
      obtain ⟨_, w3, k3, ⟨r, rfl, hr⟩, e4⟩ := take_st (sub := sub) (n + 25) h.length 2 (by decide) (by decide) G w2 [] hi k2
      obtain ⟨_, eq, sg, rfl, so⟩ := pick2 (a := encS sg1) (b := encS sg2) hr (fun d => ∃ sg, d = encS sg ∧ SgOk sg) ⟨_, rfl, so1⟩ ⟨_, rfl, so2⟩
      obtain ⟨_, w4, k4, ⟨g1, rfl, ok1, gs1, _⟩, e5⟩ := guard_st (sub := sub) (n + 24) h.length sg so 4 (by decide) (by decide) G w3 [] hi k3
      obtain ⟨_, w5, k5, ⟨g2, rfl, ok2, gs2, _⟩, e6⟩ := guard_st (sub := sub) (n + 24) h.length sg so 4 (by decide) (by decide) G w4 [] hi k4
      obtain ⟨_, w6, k6, ⟨r1, rfl, hr1⟩, e7⟩ := take_st (sub := sub) (n + 25) h.length 24 (by decide) (by decide) G w5 [] hi k5
      obtain ⟨t1, w7, k7, ⟨i1, s1⟩, e8⟩ := lawtree_st (sub := sub) h.length so 12 (n + 13) (1 + r1) (by decide) (by omega) (by omega) (by decide) G w6 [] hi k6
      obtain ⟨_, w8, k8, ⟨r2, rfl, hr2⟩, e9⟩ := take_st (sub := sub) (n + 25) h.length 9 (by decide) (by decide) G w7 [] hi k7
      obtain ⟨t2, w9, k9, ⟨i2, s2⟩, ea⟩ := lawtree_st (sub := sub) h.length so 5 (n + 20) (1 + r2) (by decide) (by omega) (by omega) (by decide) G w8 [] hi k8
      have v1 : ∀ H, vw H t1 = t1 := fun H => vw_fine (fine_t so i1)
      have v2 : ∀ H, vw H t2 = t2 := fun H => vw_fine (fine_t so i2)
      obtain ⟨h', eb⟩ := turns5 (sub := sub) n (HW G h.length w9 []) ok1 ok2 (t1 := t1) (t2 := t2) (gs1 ▸ i1) (by omega) (gs1 ▸ i2.mono (by decide)) (by omega) (by rw [gs1, gs2]) (some (.lst (ns.map D.int))) (some (.int y)) (some (.ref h.length)) (some (encS sg))
      obtain ⟨Z1, hZ1⟩ : ∃ Z : Int, Z = ((1 + r1 : Nat) : Int) := ⟨_, rfl⟩
      obtain ⟨Z2, hZ2⟩ : ∃ Z : Int, Z = ((1 + r2 : Nat) : Int) := ⟨_, rfl⟩
      have b1 : opBin .add (.int 1) (.int r1) = some (.int Z1) := by
        show some (D.int ((1 : Int) + r1)) = _
        congr 2; omega
      have b2 : opBin .add (.int 1) (.int r2) = some (.int Z2) := by
        show some (D.int ((1 : Int) + r2)) = _
        congr 2; omega
      have e8' : run sub progT (n + 26) 33 [.ref h.length, encS sg, .int Z1, .int 12] (HW G h.length w6 []) = .ok t1 (HW G h.length w7 []) := by rw [hZ1]; exact e8
      have ea' : run sub progT (n + 26) 33 [.ref h.length, encS sg, .int Z2, .int 5] (HW G h.length w8 []) = .ok t2 (HW G h.length w9 []) := by rw [hZ2]; exact ea
      have e5' : run sub progT (n + 26) 18 [.ref h.length, encS sg, .int 4] (HW G h.length w3 []) = .ok (encG g1) (HW G h.length w4 []) := e5
      have e6' : run sub progT (n + 26) 18 [.ref h.length, encS sg, .int 4] (HW G h.length w4 []) = .ok (encG g2) (HW G h.length w5 []) := e6
      refine ⟨h', ?_, trivial⟩
      have e1' : run sub progT (n + 26) 12 [.lst (ns.map D.int), dN y] h = .ok (.ref h.length) (HW G h.length w []) := by rw [← e0]; exact e1
      simp [e1', e2, e3, e4, eq, e5', e6', e7, b1, e8', e9, b2, ea', eb]) (s0 := []) trivial
  obtain ⟨h', e, _⟩ := lp
  have s3 : evS sub (run sub progT (n + 26)) b_law_s2 [some (.lst (ns.map D.int)), none, none, none, none, none, none, none, none, none, none, none] [] = .nx [some (.lst (ns.map D.int)), none, none, none, none, none, none, none, none, none, none, none] h' := by
    rw [b_law_s2, s_fr]
    have it : evIt (run sub progT (n + 26)) (.range1 (.bi .max2 (.cons (.int 2) (.cons (.bi .min2 (.cons (.int 30) (.cons (.bi .len (.cons (.var 0) .nil)) .nil))) .nil)))) [some (.lst (ns.map D.int)), none, none, none, none, none, none, none, none, none, none, none] [] = .ok ((List.range (max 2 (min 30 ns.length))).map fun (k : Nat) => D.int k, none) [] := by
      simp only [evIt_range1, ev_bi, evEs_cons, ev_int, R.bind_ok, kEs1_a, ev_var, List.getElem?_cons_zero, rv_s, evEs_nil, kEs2_a, kBi_a, List.map_cons, List.map_nil, vw_lst, vw_int, bi_lenL, R.ofO_some, bi_min, bi_max, List.length_map]
      have : (if (if (ns.length : Int) < 30 then (ns.length : Int) else 30) > 2 then (if (ns.length : Int) < 30 then (ns.length : Int) else 30) else 2) = ((max 2 (min 30 ns.length) : Nat) : Int) := by
        split <;> split <;> omega
      rw [this, rg1K_n (by omega)]
    rw [it, bindE_ok]
    exact e
  have := def_p (sub := sub) (prog := progT) (n := n + 26) (f := 22) (fd := b_law) (as := [.lst (ns.map D.int)]) (h := []) (L := h') (d := .bl true) rfl rfl (by decide) rfl (by
    show evSs sub _ b_law.body [some (.lst (ns.map D.int)), none, none, none, none, none, none, none, none, none, none, none] [] = _
    simp [b_law, s3]) rfl
  exact this
end GM
end
set_option maxRecDepth 100000 in
theorem PySem.Challenge.cw_graftmill_k05_states_by_hand_holds : PySem.Challenge.rw_graftmill_k05_states_by_hand.Holds := by
  exact GM.holds_of fun ns hn => ⟨[], GM.law_true 14 ns hn⟩
