import PyProof.Rows.All
import Wide.All
import OpenK.AllK
import Wide.FinOn
import HandS.ForMost
import HandS.Exc
import HandS.ExcOwn
import HandS.ExcInit
import HandS.TryOnly
import HandS.TryMany
import HandS.WordsExc
import HandS.Wide
import HandS.WideBits
import HandS.Gcd
import HandS.IsInst
import HandS.Flow
import HandS.Style
import HandS.Evl
import PyProof.ReprRoads
import HandS.Walk
import HandS.Zip
import HandS.HeadEnd
import HandS.Ends
import HandS.Words
import HandS.Defaults
import HandS.HeadHook2
import KE.KExcPX
import HandS.ExcField
import HandS.Lambda
import HandS.HeadHook4
import HandS.HeadWalk
import PySem.Challenge.RW_planpapers_k02_ratios
import HandS.Head0
import HandS.Head1
import HandS.Head2
import HandS.Head3
import PyProof.Rows.ReprShort
import PyProof.Rows.PreItems
section
set_option Elab.async false
set_option linter.all false
set_option maxRecDepth 100000
set_option maxHeartbeats 4000000
/-! Mi: a pure reading of the texts. Data trees, the relation to the abstract heap. -/
namespace Mi
open PySem PySem.Spec PyProof.Rows L2

/-- data as trees -/
inductive D where
  | non | bl (b : Bool) | int (i : Int) | str (x : Str)
  | tup (xs : List D) | lst (xs : List D)
  | obj (c : Nat) (fs : List (Str × D))
  | dct (kvs : List (Key × D))
  | pen
  | clo (k : Nat) (ds : List D)

/-- the law's pen -/
structure Pen where
  cells : List Int
  pos : Int
  digits : Int
  count : Int
  fold : Int

structure Cf where
  K : PySem.W.Frag
  cl : Nat → Addr
  pp : Addr
  cc : Addr
  clo : Addr → Nat → List V → Prop

mutual
inductive Dt (F : Cf) (H : Hp) : V → D → Prop
  | non : Dt F H .non .non
  | bl (b : Bool) : Dt F H (.bl b) (.bl b)
  | int (i : Int) : Dt F H (.int i) (.int i)
  | str (x : Str) : Dt F H (.str x) (.str x)
  | tup {a : Addr} {xs : List V} {ds : List D} : SqT F.K H a xs → Dts F H xs ds → Dt F H (.ref a) (.tup ds)
  | lst {a : Addr} {xs : List V} {ds : List D} : H a = some (.lst xs) → Dts F H xs ds → Dt F H (.ref a) (.lst ds)
  | obj {a dx : Addr} {c : Nat} {fs : List (Str × V)} {gs : List (Str × D)} : H a = some (.ins (F.cl c) dx fs) → Dfs F H fs gs → Dt F H (.ref a) (.obj c gs)
  | dct {a : Addr} {kvs : List (Key × V)} {gs : List (Key × D)} : H a = some (.dK kvs) → Dkv F H kvs gs → Dt F H (.ref a) (.dct gs)
  | pen : Dt F H (.ref F.pp) .pen
  | clo {a : Addr} {k : Nat} {vs : List V} {ds : List D} : F.clo a k vs → Dts F H vs ds → Dt F H (.ref a) (.clo k ds)
inductive Dts (F : Cf) (H : Hp) : List V → List D → Prop
  | nil : Dts F H [] []
  | cons {v : V} {vs : List V} {d : D} {ds : List D} : Dt F H v d → Dts F H vs ds → Dts F H (v :: vs) (d :: ds)
inductive Dfs (F : Cf) (H : Hp) : List (Str × V) → List (Str × D) → Prop
  | nil : Dfs F H [] []
  | cons {f : Str} {v : V} {vs : List (Str × V)} {d : D} {ds : List (Str × D)} : Dt F H v d → Dfs F H vs ds → Dfs F H ((f, v) :: vs) ((f, d) :: ds)
inductive Dkv (F : Cf) (H : Hp) : List (Key × V) → List (Key × D) → Prop
  | nil : Dkv F H [] []
  | cons {f : Key} {v : V} {vs : List (Key × V)} {d : D} {ds : List (Key × D)} : Dt F H v d → Dkv F H vs ds → Dkv F H ((f, v) :: vs) ((f, d) :: ds)
end

section
variable {F : Cf} {H H' : Hp}
abbrev Ex' (H H' : Hp) : Prop := ∀ a o, H a = some o → H' a = some o
mutual
theorem Dt.mono (e : Evl.Ex H H') : ∀ {v : V} {d : D}, Dt F H v d → Dt F H' v d
  | _, _, .non => .non
  | _, _, .bl b => .bl b
  | _, _, .int b => .int b
  | _, _, .str b => .str b
  | _, _, .tup h t => .tup (Evl.ex_t e h) (Dts.mono e t)
  | _, _, .lst h t => .lst (e _ _ h) (Dts.mono e t)
  | _, _, .obj h t => .obj (e _ _ h) (Dfs.mono e t)
  | _, _, .dct h t => .dct (e _ _ h) (Dkv.mono e t)
  | _, _, .pen => .pen
  | _, _, .clo h t => .clo h (Dts.mono e t)
theorem Dts.mono (e : Evl.Ex H H') : ∀ {v : List V} {d : List D}, Dts F H v d → Dts F H' v d
  | _, _, .nil => .nil
  | _, _, .cons h t => .cons (Dt.mono e h) (Dts.mono e t)
theorem Dfs.mono (e : Evl.Ex H H') : ∀ {v : List (Str × V)} {d : List (Str × D)}, Dfs F H v d → Dfs F H' v d
  | _, _, .nil => .nil
  | _, _, .cons h t => .cons (Dt.mono e h) (Dfs.mono e t)
theorem Dkv.mono (e : Evl.Ex H H') : ∀ {v : List (Key × V)} {d : List (Key × D)}, Dkv F H v d → Dkv F H' v d
  | _, _, .nil => .nil
  | _, _, .cons h t => .cons (Dt.mono e h) (Dkv.mono e t)
end
theorem Dts.length : ∀ {v : List V} {d : List D}, Dts F H v d → v.length = d.length
  | _, _, .nil => rfl
  | _, _, .cons _ t => by simp [Dts.length t]
theorem Dts.append : ∀ {v w : List V} {d e : List D}, Dts F H v d → Dts F H w e → Dts F H (v ++ w) (d ++ e)
  | _, _, _, _, .nil, s => s
  | _, _, _, _, .cons h t, s => .cons h (Dts.append t s)
theorem Dts.get : ∀ {v : List V} {d : List D} {i : Nat} {x : D}, Dts F H v d → d[i]? = some x → ∃ y, v[i]? = some y ∧ Dt F H y x
  | _, _, _, _, .nil, e => by simp at e
  | _, _, 0, _, .cons h t, e => by simp at e; subst e; exact ⟨_, rfl, h⟩
  | _, _, i + 1, x, .cons h t, e => by
    obtain ⟨y, a, b⟩ := Dts.get (i := i) (x := x) t (by simpa using e)
    exact ⟨y, by simpa using a, b⟩
theorem Dts.take : ∀ {v : List V} {d : List D} (n : Nat), Dts F H v d → Dts F H (v.take n) (d.take n)
  | _, _, 0, _ => .nil
  | _, _, _ + 1, .nil => .nil
  | _, _, n + 1, .cons h t => .cons h (Dts.take n t)
theorem Dts.drop : ∀ {v : List V} {d : List D} (n : Nat), Dts F H v d → Dts F H (v.drop n) (d.drop n)
  | _, _, 0, h => h
  | _, _, _ + 1, .nil => .nil
  | _, _, n + 1, .cons h t => Dts.drop n t
theorem Dts.set : ∀ {v : List V} {d : List D} {x : V} {y : D} (i : Nat), Dts F H v d → Dt F H x y → Dts F H (v.set i x) (d.set i y)
  | _, _, _, _, _, .nil, _ => .nil
  | _, _, _, _, 0, .cons _ t, h => .cons h t
  | _, _, _, _, i + 1, .cons g t, h => .cons g (Dts.set i t h)
end

/-! ### hiding -/
open Classical in
noncomputable def hid (O : Addr → Prop) (H : Hp) : Hp := fun b => if O b then none else H b
theorem hid_no {O : Addr → Prop} {H : Hp} {b : Addr} (h : ¬ O b) : hid O H b = H b := if_neg h
theorem hid_yes {O : Addr → Prop} {H : Hp} {b : Addr} (h : O b) : hid O H b = none := if_pos h
theorem hid_some {O : Addr → Prop} {H : Hp} {b : Addr} {o : HO} (h : hid O H b = some o) : ¬ O b ∧ H b = some o := by
  by_cases q : O b
  · rw [hid_yes q] at h; cases h
  · rw [hid_no q] at h; exact ⟨q, h⟩
/-- all but what is hidden stays -/
def Kp (pp : Addr) (H H' : Hp) : Prop := ∀ b o, b ≠ pp → H b = some o → H' b = some o
theorem Kp.refl {pp : Addr} {H : Hp} : Kp pp H H := fun _ _ _ h => h
theorem Kp.trans {pp : Addr} {H H1 H2 : Hp} (a : Kp pp H H1) (b : Kp pp H1 H2) : Kp pp H H2 := fun c o n h => b c o n (a c o n h)
theorem Kp.new {pp : Addr} {H : Hp} {p : Addr} {o : HO} (h : H p = none) : Kp pp H (upd H p o) := fun a u _ e => by
  rw [upd_ne (ne_of_none e h)]; exact e
theorem hid_ex {O O' : Addr → Prop} {pp : Addr} {H H' : Hp} (hp : O pp) (k : Kp pp H H') (s : ∀ b, O' b → H b ≠ none → O b) : Evl.Ex (hid O H) (hid O' H') := fun b o h => by
  obtain ⟨h1, h2⟩ := hid_some h
  have n : ¬ O' b := fun z => h1 (s b z (by rw [h2]; simp))
  rw [hid_no n]
  exact k b o (fun z => h1 (z ▸ hp)) h2
/-- the pen's object -/
def penKV (cc : Addr) (s : Pen) : List (Key × V) := [(.inr "cells", .ref cc), (.inr "at", .int s.pos), (.inr "digits", .int s.digits), (.inr "count", .int s.count), (.inr "fold", .int s.fold)]
structure PenAt (F : Cf) (H : Hp) (s : Pen) : Prop where
  d : H F.pp = some (.dK (penKV F.cc s))
  c : H F.cc = some (.lst (s.cells.map V.int))
theorem PenAt.kp {F : Cf} {H H' : Hp} {s : Pen} (p : PenAt F H s) (k : Kp F.pp H H') (h : H' F.pp = some (.dK (penKV F.cc s))) : PenAt F H' s :=
  ⟨h, k _ _ (fun z => by have := p.c; rw [z, p.d] at this; cases this) p.c⟩
end Mi
end

section
set_option Elab.async false
set_option linter.all false
set_option maxRecDepth 100000
set_option maxHeartbeats 4000000
/-! Mi: terms and their meaning. -/
namespace Mi
open PySem PySem.Spec PyProof.Rows L2

inductive R (α : Type) where
  | ok (a : α) (s : Pen)
  | err (c : Nat) (fs : List (Str × D)) (s : Pen)
  | bad
def R.bind {α β : Type} : R α → (α → Pen → R β) → R β
  | .ok a s, f => f a s
  | .err c fs s, _ => .err c fs s
  | .bad, _ => .bad
/-- nothing may be raised here -/
def R.calm {α : Type} : R α → R α
  | .ok a s => .ok a s
  | _ => .bad

inductive Bop where | add | sub | mul | fdiv | mod | pow
  deriving DecidableEq
inductive Cop where | eq | ne | lt | le | gt | ge | is_ | isnot | in_ | notin
  deriving DecidableEq
inductive Ty where | int | bool | str | tuple | list | dict
  deriving DecidableEq
inductive Blt where | len | abs | int | tuple | list | all | any | sum | repr | gcd | max | min
  deriving DecidableEq
/-- the pen's numbers -/
inductive PF where | at_ | digits | count | fold
  deriving DecidableEq
def Pen.get (s : Pen) : PF → Int
  | .at_ => s.pos
  | .digits => s.digits
  | .count => s.count
  | .fold => s.fold
def Pen.put (s : Pen) : PF → Int → Pen
  | .at_, i => { s with pos := i }
  | .digits, i => { s with digits := i }
  | .count, i => { s with count := i }
  | .fold, i => { s with fold := i }
/-- a target: a name, or names in a row -/
inductive Tg where | nm (i : Nat) | tup (is : List Nat)
  deriving DecidableEq

mutual
inductive Ex where
  | var (i : Nat) | int (i : Int) | bl (b : Bool) | non | str (x : Str)
  | glob (g : Nat)
  | tup (es : Es) | lst (es : Es)
  | bin (o : Bop) (a b : Ex) | neg (a : Ex)
  | cmp (o : Cop) (a b : Ex) | chain (o p : Cop) (a b c : Ex)
  | and_ (es : Es) | or_ (es : Es) | not_ (a : Ex)
  | ite (c a b : Ex)
  | sub (a b : Ex)
  | call (g : Nat) (es : Es)
  | blt (b : Blt) (es : Es)
  | isi (a : Ex) (ts : List Ty)
  | bits (a : Ex)
  | comp (own : List (Str × Nat)) (t : Tg) (it : It) (cond : Es) (elt : Ex)
  | lenO (i : Nat) | subO (i : Nat) (a : Ex)
  | dnew
  | pget (i : Nat) (f : PF) | plen (i : Nat) | pcell (i : Nat) (a : Ex)
inductive Es where
  | nil | cons (e : Ex) (r : Es)
inductive It where
  | ex (e : Ex) | rng1 (e : Ex) | rng2 (a b : Ex) | zip (a b : Ex) | enum (a : Ex)
end

/-- what a name of the frame holds -/
inductive Sl where
  | emp | val (d : D) | own (ds : List D)

structure Tb where
  fn : Nat → List D → Pen → R D
  gl : Nat → D

/-! ### data -/
def big : Nat := 100000
def truth : D → Option Bool
  | .non => some false
  | .bl b => some b
  | .int i => some (i != 0)
  | .str y => if y.length ≤ big then some ((y.length : Int) != 0) else none
  | .tup xs => some (!xs.isEmpty)
  | .lst xs => some (!xs.isEmpty)
  | .dct kvs => some (!kvs.isEmpty)
  | _ => none
def mulOk (i j : Int) : Bool := decide (i.natAbs.log2 + j.natAbs.log2 < 1000000) || (decide (i.natAbs < 2 ^ 64) || decide (j.natAbs < 2 ^ 64))
def divOk (j : Int) : Bool := decide (j ≠ 0) && decide (j.natAbs.log2 < 9000)
def powOk (i j : Int) : Bool := decide (0 ≤ j) && decide (j ≤ 1000000) && decide (i.natAbs < 2 ^ 64)
def binop : Bop → D → D → Pen → R D
  | .add, .int i, .int j, s => .ok (.int (i + j)) s
  | .add, .str x, .str y, s => if x.length + y.length ≤ big then .ok (.str (x ++ y)) s else .bad
  | .add, .lst xs, .lst ys, s => if xs.length + ys.length ≤ big then .ok (.lst (xs ++ ys)) s else .bad
  | .sub, .int i, .int j, s => .ok (.int (i - j)) s
  | .mul, .int i, .int j, s => if mulOk i j then .ok (.int (i * j)) s else .bad
  | .fdiv, .int i, .int j, s => if divOk j then .ok (.int (i.fdiv j)) s else .bad
  | .mod, .int i, .int j, s => if decide (j ≠ 0) then .ok (.int (i.fmod j)) s else .bad
  | .pow, .int i, .int j, s => if powOk i j then .ok (.int (i ^ j.toNat)) s else .bad
  | _, _, _, _ => .bad
-- data of which == tells by the parts
mutual
def toP : D → Option PyData
  | .non => some .none
  | .bl b => some (.bool b)
  | .int i => some (.int i)
  | .str x => some (.str x)
  | .tup xs => (toPs xs).map .tuple
  | .lst xs => (toPs xs).map .list
  | .dct [] => some (.dict [])
  | _ => none
def toPs : List D → Option (List PyData)
  | [] => some []
  | x :: r => match toP x, toPs r with
    | some d, some ds => some (d :: ds)
    | _, _ => none
end
def deqP (x y : D) : Option Bool :=
  match toP x, toP y with
  | some a, some b => if SeqAt.shaped a && SeqAt.shaped b then some (PyData.eqv a b) else none
  | _, _ => none
def deqS : D → D → Option Bool
  | .str a, .str b => some (decide (a = b))
  | _, _ => none
def deq (x y : D) : Option Bool := match deqS x y with
  | some b => some b
  | none => deqP x y
def flatD : D → Bool
  | .non => true | .bl _ => true | .int _ => true | .str _ => true
  | _ => false
def flatEq : D → D → Bool
  | .non, .non => true
  | .bl a, .bl b => a == b
  | .bl a, .int j => (if a then 1 else 0) == j
  | .int i, .bl b => i == (if b then 1 else 0)
  | .int i, .int j => i == j
  | .str x, .str y => decide (x = y)
  | _, _ => false
def isIn (x : D) (xs : List D) : Option Bool := if flatD x && xs.all flatD then some (xs.any fun y => flatEq y x) else none
def isNon : D → Bool
  | .non => true
  | _ => false
def cmpop : Cop → D → D → Option Bool
  | .eq, x, y => deq x y
  | .ne, x, y => (deq x y).map (! ·)
  | .lt, .int i, .int j => some (decide (i < j))
  | .le, .int i, .int j => some (decide (i ≤ j))
  | .gt, .int i, .int j => some (decide (j < i))
  | .ge, .int i, .int j => some (decide (j ≤ i))
  | .is_, .bl a, .bl b => some (decide (a = b))
  | .isnot, .bl a, .bl b => some (!decide (a = b))
  | .is_, x, .non => some (isNon x)
  | .isnot, x, .non => some (!isNon x)
  | _, _, _ => none
def opt {α : Type} (s : Pen) : Option α → R α
  | some a => .ok a s
  | none => .bad
def at_ (xs : List D) (i : Int) : Option D := (ixN xs.length i).bind fun j => xs[j]?
def subsc : D → D → Option D
  | .tup xs, .int i => at_ xs i
  | .lst xs, .int i => at_ xs i
  | _, _ => none
def tyOf : D → Option Ty
  | .bl _ => some .bool
  | .int _ => some .int
  | .str _ => some .str
  | .tup _ => some .tuple
  | .lst _ => some .list
  | .dct _ => some .dict
  | _ => none
def isTy1 (d : D) (t : Ty) : Option Bool :=
  match d with
  | .non => some false
  | _ => (tyOf d).map fun u => decide (u = t) || (decide (u = .bool) && decide (t = .int))
def isTy (d : D) : List Ty → Option Bool
  | [] => some false
  | t :: r => match isTy1 d t, isTy d r with
    | some a, some b => some (a || b)
    | _, _ => none
-- what may be told by repr
mutual
def hasL : D → Bool
  | .lst _ => true
  | .tup xs => hasLs xs
  | _ => false
def hasLs : List D → Bool
  | [] => false
  | x :: r => hasL x || hasLs r
end
def reprD (d : D) : Option Str :=
  match toP d with
  | some p => if p.showable && decide (p.shown.length ≤ 1000000) && decide (p.depth ≤ 64) && (!p.hasDict || !hasL d) then some p.shown else none
  | none => none
def allB : List D → Option (List Bool)
  | [] => some []
  | .bl b :: r => (allB r).map (b :: ·)
  | _ => none
def allI : List D → Option (List Int)
  | [] => some []
  | .int b :: r => (allI r).map (b :: ·)
  | _ => none
/-- built-ins that make no list -/
def bltop : Blt → List D → Option D
  | .len, [.tup xs] => some (.int xs.length)
  | .len, [.lst xs] => some (.int xs.length)
  | .len, [.str x] => if x.length ≤ big then some (.int x.length) else none
  | .abs, [.int i] => some (.int (if i < 0 then -i else i))
  | .int, [.int i] => some (.int i)
  | .int, [.bl k] => some (.int (if k then 1 else 0))
  | .tuple, [.lst xs] => some (.tup xs)
  | .tuple, [.tup xs] => some (.tup xs)
  | .list, [.lst xs] => some (.lst xs)
  | .list, [.tup xs] => some (.lst xs)
  | .all, [.lst xs] => (allB xs).map fun bs => .bl (bs.all id)
  | .any, [.lst xs] => (allB xs).map fun bs => .bl (bs.any id)
  | .sum, [.lst xs] => (allI xs).map fun bs => .int bs.sum
  | .repr, [d] => (reprD d).map .str
  | .gcd, [.int i, .int j] => some (.int (Int.gcd i j : Nat))
  | .max, [.int i, .int j] => some (.int (if j > i then j else i))
  | .min, [.int i, .int j] => some (.int (if j < i then j else i))
  | _, _ => none
/-- names forgotten in a comprehension's block -/
def wipeR (ρ : List Sl) : List Nat → List Sl
  | [] => ρ
  | v :: vs => (wipeR ρ vs).set v .emp
def setTs (ρ : List Sl) : List Nat → List D → Option (List Sl)
  | [], [] => some ρ
  | i :: is, d :: ds => setTs (ρ.set i (.val d)) is ds
  | _, _ => none
def setT (ρ : List Sl) : Tg → D → Option (List Sl)
  | .nm i, d => some (ρ.set i (.val d))
  | .tup is, .tup ds => setTs ρ is ds
  | _, _ => none
/-- a comprehension's turns -/
def compL (t : Tg) (ρ : List Sl) (fc : List Sl → Pen → R Bool) (fe : List Sl → Pen → R D) : List D → Pen → R (List D)
  | [], s => .ok [] s
  | d :: r, s => match setT ρ t d with
    | none => .bad
    | some ρ1 => (fc ρ1 s).calm.bind fun b s1 =>
      if b = true then (fe ρ1 s1).calm.bind fun y s2 => (compL t ρ fc fe r s2).bind fun ys s3 => .ok (y :: ys) s3
      else compL t ρ fc fe r s1
def rangeD (lo : Int) (n : Nat) : List D := (List.range n).map fun (i : Nat) => .int (lo + (i : Int))
def inTwo (i : Int) : Bool := decide (-(2 ^ 62) ≤ i) && decide (i < 2 ^ 62)
def zipD : List D → List D → List D
  | x :: xs, y :: ys => .tup [x, y] :: zipD xs ys
  | _, _ => []
def enumD : Nat → List D → List D
  | _, [] => []
  | n, x :: xs => .tup [.int (n : Int), x] :: enumD (n + 1) xs
def itemsD : D → Option (List D)
  | .tup xs => some xs
  | .lst xs => some xs
  | _ => none

mutual
def evalE (Γ : Tb) : Ex → List Sl → Pen → R D
  | .var i, ρ, s => match ρ[i]? with
    | some (.val d) => .ok d s
    | _ => .bad
  | .int i, _, s => .ok (.int i) s
  | .bl b, _, s => .ok (.bl b) s
  | .non, _, s => .ok .non s
  | .str x, _, s => .ok (.str x) s
  | .glob g, _, s => .ok (Γ.gl g) s
  | .tup es, ρ, s => (evalA Γ es ρ s).bind fun ds s1 => if ds.length ≤ big then .ok (.tup ds) s1 else .bad
  | .lst es, ρ, s => (evalA Γ es ρ s).bind fun ds s1 => if ds.length ≤ big then .ok (.lst ds) s1 else .bad
  | .bin o a b, ρ, s => (evalE Γ a ρ s).bind fun x s1 => (evalE Γ b ρ s1).bind fun y s2 => binop o x y s2
  | .neg a, ρ, s => (evalE Γ a ρ s).bind fun x s1 => match x with
    | .int i => .ok (.int (-i)) s1
    | _ => .bad
  | .cmp o a b, ρ, s => (evalE Γ a ρ s).bind fun x s1 => (evalE Γ b ρ s1).bind fun y s2 => opt s2 ((cmpop o x y).map .bl)
  | .chain o p a b c, ρ, s => (evalE Γ a ρ s).bind fun x s1 => (evalE Γ b ρ s1).bind fun y s2 => match cmpop o x y with
    | some true => (evalE Γ c ρ s2).bind fun z s3 => opt s3 ((cmpop p y z).map .bl)
    | some false => .ok (.bl false) s2
    | none => .bad
  | .and_ es, ρ, s => evalAnd Γ es ρ s
  | .or_ es, ρ, s => evalOr Γ es ρ s
  | .not_ a, ρ, s => (evalE Γ a ρ s).bind fun x s1 => opt s1 ((truth x).map fun b => .bl (!b))
  | .ite c a b, ρ, s => (evalE Γ c ρ s).bind fun x s1 => match truth x with
    | some true => evalE Γ a ρ s1
    | some false => evalE Γ b ρ s1
    | none => .bad
  | .sub a b, ρ, s => (evalE Γ a ρ s).bind fun x s1 => (evalE Γ b ρ s1).bind fun y s2 => opt s2 (subsc x y)
  | .call g es, ρ, s => (evalA Γ es ρ s).bind fun ds s1 => Γ.fn g ds s1
  | .blt b es, ρ, s => (evalA Γ es ρ s).bind fun ds s1 => opt s1 (bltop b ds)
  | .isi a ts, ρ, s => (evalE Γ a ρ s).bind fun x s1 => opt s1 ((isTy x ts).map .bl)
  | .bits a, ρ, s => (evalE Γ a ρ s).bind fun x s1 => match x with
    | .int i => .ok (.int (Builtin.Int.intBits i : Nat)) s1
    | _ => .bad
  | .comp own t it cond elt, ρ, s => (evalI Γ it ρ s).bind fun ds s1 =>
      if ds.length ≤ big then (compL t (wipeR ρ (own.map (·.2))) (fun ρ1 s1 => evalC Γ cond ρ1 s1) (fun ρ1 s1 => evalE Γ elt ρ1 s1) ds s1).bind fun ys s2 => .ok (.lst ys) s2 else .bad
  | .lenO i, ρ, s => match ρ[i]? with
    | some (.own ds) => .ok (.int ds.length) s
    | _ => .bad
  | .subO i a, ρ, s => match ρ[i]? with
    | some (.own ds) => (evalE Γ a ρ s).bind fun y s1 => match y with
      | .int j => opt s1 (at_ ds j)
      | _ => .bad
    | _ => .bad
  | .dnew, _, s => .ok (.dct []) s
  | .pget i f, ρ, s => match ρ[i]? with
    | some (.val .pen) => .ok (.int (s.get f)) s
    | _ => .bad
  | .plen i, ρ, s => match ρ[i]? with
    | some (.val .pen) => .ok (.int s.cells.length) s
    | _ => .bad
  | .pcell i a, ρ, s => match ρ[i]? with
    | some (.val .pen) => (evalE Γ a ρ s).bind fun y s1 => match y with
      | .int j => opt s1 (((ixN s1.cells.length j).bind fun k => s1.cells[k]?).map .int)
      | _ => .bad
    | _ => .bad
def evalA (Γ : Tb) : Es → List Sl → Pen → R (List D)
  | .nil, _, s => .ok [] s
  | .cons e r, ρ, s => (evalE Γ e ρ s).bind fun x s1 => (evalA Γ r ρ s1).bind fun xs s2 => .ok (x :: xs) s2
def evalAnd (Γ : Tb) : Es → List Sl → Pen → R D
  | .nil, _, _ => .bad
  | .cons e .nil, ρ, s => evalE Γ e ρ s
  | .cons e (.cons f r), ρ, s => (evalE Γ e ρ s).bind fun x s1 => match truth x with
    | some true => evalAnd Γ (.cons f r) ρ s1
    | some false => .ok x s1
    | none => .bad
def evalOr (Γ : Tb) : Es → List Sl → Pen → R D
  | .nil, _, _ => .bad
  | .cons e .nil, ρ, s => evalE Γ e ρ s
  | .cons e (.cons f r), ρ, s => (evalE Γ e ρ s).bind fun x s1 => match truth x with
    | some true => .ok x s1
    | some false => evalOr Γ (.cons f r) ρ s1
    | none => .bad
def evalC (Γ : Tb) : Es → List Sl → Pen → R Bool
  | .nil, _, s => .ok true s
  | .cons e .nil, ρ, s => (evalE Γ e ρ s).bind fun x s1 => opt s1 (truth x)
  | _, _, _ => .bad
def evalI (Γ : Tb) : It → List Sl → Pen → R (List D)
  | .ex e, ρ, s => (evalE Γ e ρ s).bind fun x s1 => opt s1 (itemsD x)
  | .rng1 a, ρ, s => (evalE Γ a ρ s).bind fun x s1 => match x with
    | .int i => if inTwo i then .ok (rangeD 0 i.toNat) s1 else .bad
    | _ => .bad
  | .rng2 a b, ρ, s => (evalE Γ a ρ s).bind fun x s1 => (evalE Γ b ρ s1).bind fun y s2 => match x, y with
    | .int i, .int j => if inTwo i && inTwo j then .ok (rangeD i (j - i).toNat) s2 else .bad
    | _, _ => .bad
  | .zip a b, ρ, s => (evalE Γ a ρ s).bind fun x s1 => (evalE Γ b ρ s1).bind fun y s2 => match x, y with
    | .lst xs, .lst ys => .ok (zipD xs ys) s2
    | .tup xs, .tup ys => .ok (zipD xs ys) s2
    | _, _ => .bad
  | .enum a, ρ, s => (evalE Γ a ρ s).bind fun x s1 => match x with
    | .lst xs => .ok (enumD 0 xs) s1
    | _ => .bad
end
def evalT (Γ : Tb) (e : Ex) (ρ : List Sl) (s : Pen) : R Bool := (evalE Γ e ρ s).bind fun x s1 => opt s1 (truth x)
end Mi
end

section
set_option Elab.async false
set_option linter.all false
set_option maxRecDepth 100000
set_option maxHeartbeats 4000000
/-! Mi: what a reading of a term is; the rules' weakenings; defs over known guards. -/
namespace Mi
open PySem PySem.Spec PyProof.Rows L2

/-- an end: fit values, or an exception, or nothing -/
def Post {α β : Type} (F : Cf) (O : Addr → Prop) (H : Hp) (E : XK) (rel : Hp → β → α → Prop) (Q : β → Hp → Prop) : R α → Prop
  | .ok a s => ∀ b H', Kp F.pp H H' → PenAt F H' s → rel (hid O H') b a → Q b H'
  | .err c fs s => ∀ a vs H', Kp F.pp H H' → PenAt F H' s → H' a = some (.xd vs) → Dfs F (hid O H') vs fs → E (.ref (F.cl c)) (some a) H'
  | .bad => False
section
variable {α β γ δ : Type} {F : Cf} {O : Addr → Prop} {H H1 : Hp} {E : XK} {rel : Hp → β → α → Prop} {Q : β → Hp → Prop} {rel2 : Hp → δ → γ → Prop} {Q2 : δ → Hp → Prop}
theorem Post.later {r : R α} (h : Post F O H E rel Q r) (k : Kp F.pp H H1) : Post F O H1 E rel Q r := by
  cases r with
  | ok a s => exact fun b H' k' p t => h b H' (k.trans k') p t
  | err c fs s => exact fun a vs H' k' p e t => h a vs H' (k.trans k') p e t
  | bad => exact h
/-- the first part of what is done in a row -/
theorem Post.step {r : R α} {f : α → Pen → R γ} (h : Post F O H E rel2 Q2 (r.bind f)) (k : ∀ a s b H', Kp F.pp H H' → PenAt F H' s → rel (hid O H') b a → Post F O H' E rel2 Q2 (f a s) → Q b H') : Post F O H E rel Q r := by
  cases r with
  | ok a s => exact fun b H' k' p t => k a s b H' k' p t (Post.later (r := f a s) h k')
  | err c fs s => exact h
  | bad => exact h
theorem Post.guard {c : Prop} [Decidable c] {r : R α} (h : Post F O H E rel Q (if c then r else .bad)) : c ∧ Post F O H E rel Q r := by
  by_cases q : c
  · rw [if_pos q] at h
    exact ⟨q, h⟩
  · rw [if_neg q] at h
    exact h.elim
end
theorem guardO {α : Type} {c : Prop} [Decidable c] {a b : α} (h : (if c then some a else none) = some b) : c ∧ a = b := by
  by_cases q : c
  · rw [if_pos q] at h
    exact ⟨q, Option.some.inj h⟩
  · rw [if_neg q] at h
    cases h
/-- what an option gives -/
theorem Post.opt {α : Type} {β : Type} {F : Cf} {O : Addr → Prop} {H : Hp} {E : XK} {rel : Hp → β → α → Prop} {Q : β → Hp → Prop} {s : Pen} {o : Option α} (h : Post F O H E rel Q (opt s o)) :
    ∃ a, o = some a ∧ ∀ b H', Kp F.pp H H' → PenAt F H' s → rel (hid O H') b a → Q b H' := by
  cases o with
  | some a => exact ⟨a, rfl, h⟩
  | none => exact False.elim h

/-! ### names of the frame and their data -/
structure Rel (F : Cf) (n : Nat) (O : Addr → Prop) (ρ : List Sl) (ad : Nat → Addr) (σ : L2.St) (H : Hp) (s : Pen) : Prop where
  ln : σ.length = n
  rl : ρ.length = n
  val : ∀ (i : Nat) (d : D), ρ[i]? = some (Sl.val d) → ∃ v, σ[i]? = some (some v) ∧ Dt F (hid O H) v d
  own : ∀ (i : Nat) (ds : List D), ρ[i]? = some (Sl.own ds) → O (ad i) ∧ ∃ xs, σ[i]? = some (some (.ref (ad i))) ∧ H (ad i) = some (.lst xs) ∧ Dts F (hid O H) xs ds
  pp : O F.pp
  trk : ∀ b, O b → H b ≠ none
  pen : PenAt F H s
section
variable {F : Cf} {n : Nat} {O : Addr → Prop} {ρ : List Sl} {ad : Nat → Addr} {σ : L2.St} {H H' : Hp} {s s' : Pen}
theorem PenAt.ne {F : Cf} {H : Hp} {s : Pen} (p : PenAt F H s) : F.cc ≠ F.pp := fun z => by
  have h := p.c
  rw [z, p.d] at h
  cases h
theorem Rel.exh (R : Rel F n O ρ ad σ H s) (k : Kp F.pp H H') : Evl.Ex (hid O H) (hid O H') := hid_ex R.pp k fun _ h _ => h
theorem Rel.kp (R : Rel F n O ρ ad σ H s) (k : Kp F.pp H H') (p : PenAt F H' s') : Rel F n O ρ ad σ H' s' where
  ln := R.ln
  rl := R.rl
  val := fun i d e => let ⟨v, a, t⟩ := R.val i d e; ⟨v, a, t.mono (R.exh k)⟩
  own := fun i ds e => by
    obtain ⟨o, xs, a, b, t⟩ := R.own i ds e
    refine ⟨o, xs, a, k _ _ (fun z => ?_) b, t.mono (R.exh k)⟩
    rw [z, R.pen.d] at b
    cases b
  pp := R.pp
  trk := fun b o => by
    by_cases z : b = F.pp
    · rw [z, p.d]; simp
    · cases e : H b with
      | none => exact absurd e (R.trk b o)
      | some x => rw [k b x z e]; simp
  pen := p
/-- a new object -/
theorem Rel.new (R : Rel F n O ρ ad σ H s) {p : Addr} (h : H p = none) : ¬ O p := fun z => R.trk p z h
theorem PenAt.new {p : Addr} {o : HO} (P : PenAt F H s) (h : H p = none) : PenAt F (upd H p o) s :=
  ⟨by rw [upd_ne (ne_of_none P.d h)]; exact P.d, by rw [upd_ne (ne_of_none P.c h)]; exact P.c⟩
theorem hid_new {p : Addr} {o : HO} (h : ¬ O p) : hid O (upd H p o) p = some o := by rw [hid_no h, upd_same]
theorem ex_new {p : Addr} {o : HO} (h : H p = none) : Evl.Ex (hid O H) (hid O (upd H p o)) := fun b u e => by
  obtain ⟨h1, h2⟩ := hid_some e
  rw [hid_no h1, upd_ne (ne_of_none h2 h)]
  exact h2
end

/-- an expression's reading: some fit state of the names, and the end of the term's meaning -/
def tE (F : Cf) (Γ : Tb) (n : Nat) (E : XK) (e : Ex) : TE := fun σ H Q => ∃ O ρ ad s, Rel F n O ρ ad σ H s ∧ Post F O H E (Dt F) Q (evalE Γ e ρ s)
def tA (F : Cf) (Γ : Tb) (n : Nat) (E : XK) (e : Es) : TA := fun σ H Q => ∃ O ρ ad s, Rel F n O ρ ad σ H s ∧ Post F O H E (Dts F) Q (evalA Γ e ρ s)
def tT (F : Cf) (Γ : Tb) (n : Nat) (E : XK) (e : Ex) : L2.TT := fun σ H Q => ∃ O ρ ad s, Rel F n O ρ ad σ H s ∧ Post F O H E (fun _ b c => b = c) Q (evalT Γ e ρ s)
def tAnds (F : Cf) (Γ : Tb) (n : Nat) (E : XK) (e : Es) : TE := fun σ H Q => ∃ O ρ ad s, Rel F n O ρ ad σ H s ∧ Post F O H E (Dt F) Q (evalAnd Γ e ρ s)
def tOrs (F : Cf) (Γ : Tb) (n : Nat) (E : XK) (e : Es) : TE := fun σ H Q => ∃ O ρ ad s, Rel F n O ρ ad σ H s ∧ Post F O H E (Dt F) Q (evalOr Γ e ρ s)

/-! ### weakening -/
section
variable {X : Cx} {e : Expr} {es : List Expr} {t u : TE} {st : Stmt} {sts : List Stmt}
theorem PE.imp (h : PE X e t) (w : ∀ σ H Q, u σ H Q → t σ H Q) : PE X e u := ⟨fun pins s σ H Q I q => h.run pins s σ H Q I (w σ H Q q)⟩
theorem PA.imp {t u : TA} (h : PA X es t) (w : ∀ σ H Q, u σ H Q → t σ H Q) : PA X es u := ⟨fun pos pins s σ H Q I q => h.run pos pins s σ H Q I (w σ H Q q)⟩
theorem PT.imp {t u : L2.TT} (h : PT X e t) (w : ∀ σ H Q, u σ H Q → t σ H Q) : PT X e u := ⟨fun pins s σ H Q I q => h.run pins s σ H Q I (w σ H Q q)⟩
theorem PW.imp {t u : L2.TT} (h : PW X e t) (w : ∀ σ H Q, u σ H Q → t σ H Q) : PW X e u := ⟨fun wh pins s σ H Q I q => h.run wh pins s σ H Q I (w σ H Q q)⟩
theorem PS.imp {t u : TS} (h : PS X st t) (w : ∀ D σ H, u D σ H → t D σ H) : PS X st u := ⟨fun pins s σ H D I q => h.run pins s σ H D I (w D σ H q)⟩
theorem PSs.imp {t u : TS} (h : PSs X sts t) (w : ∀ D σ H, u D σ H → t D σ H) : PSs X sts u := ⟨fun pins s σ H D I q => h.run pins s σ H D I (w D σ H q)⟩
theorem PI.imp {tg : Expr} {t u : TI} (h : PI X tg e t) (w : ∀ σ H Q, u σ H Q → t σ H Q) : PI X tg e u := ⟨fun pins s σ H Q I q => h.run pins s σ H Q I (w σ H Q q)⟩
theorem PI.or {tg : Expr} {t u : TI} (h : PI X tg e t) (h' : PI X tg e u) : PI X tg e (fun σ H Q => t σ H Q ∨ u σ H Q) := ⟨fun pins s σ H Q I q => by
  rcases q with q | q
  · exact h.run pins s σ H Q I q
  · exact h'.run pins s σ H Q I q⟩
theorem PE.or (h : PE X e t) (h' : PE X e u) : PE X e (fun σ H Q => t σ H Q ∨ u σ H Q) := ⟨fun pins s σ H Q I q => by
  rcases q with q | q
  · exact h.run pins s σ H Q I q
  · exact h'.run pins s σ H Q I q⟩
end

/-! ### defs, where no text is just being told (guards) -/
/-- a def's promise for calls below which no repr runs -/
structure FnG (P : Program) (w : World) (K : PySem.W.Frag) (mg : Str → Option Value) (base : Heap) (CX : CXT) (k : Nat) (f : Addr) (fd : FuncData) (ps : List Str) (sp : Sp) : Prop where
  size : ∀ vs H Q E, sp vs H Q E → vs.length = ps.length
  goes : ∀ (A : Around) (outer : List Env) (s : Shared) (H : Hp) (args : Args) (us : List Value) (vs : List V) (Q : VK) (E : XK), A.guards = some [] → Room k A → Env0 P w K mg base A outer s H →
    BindsTo s fd args (ps.zip us) → Vals vs us → sp vs H Q E → codeAny (model P w) A (.call (.ref f) args) (CR CX outer P w H s Q E) s
section
variable {P : Program} {w : World} {K : PySem.W.Frag} {mg : Str → Option Value} {base : Heap} {CX : CXT} {k j : Nat} {f : Addr} {fd : FuncData} {ps : List Str} {sp sp' : Sp}
theorem FnG.mono (G : FnG P w K mg base CX j f fd ps sp) (h : j ≤ k) : FnG P w K mg base CX k f fd ps sp :=
  ⟨G.size, fun A outer s H args us vs Q E g hr => G.goes A outer s H args us vs Q E g (hr.mono h)⟩
theorem FnG.imp (G : FnG P w K mg base CX k f fd ps sp) (h : ∀ vs H Q E, sp' vs H Q E → sp vs H Q E) : FnG P w K mg base CX k f fd ps sp' :=
  ⟨fun vs H Q E q => G.size vs H Q E (h _ _ _ _ q), fun A outer s H args us vs Q E g hr he hb hv hs => G.goes A outer s H args us vs Q E g hr he hb hv (h _ _ _ _ hs)⟩
theorem FnG.of (G : FnOk P w K mg base CX k f fd ps sp) : FnG P w K mg base CX k f fd ps sp :=
  ⟨G.len, fun A outer s H args us vs Q E _ hr he hb hv hs => G.run A outer s H args us vs Q E hr he hb hv hs⟩
end
section
variable {X : Cx} {CX : CXT} {k : Nat} {f : Addr} {fd : FuncData} {ps : List Str} {sp : Sp} {E : XK} {x : Str} {p pos : Pos} {e : Expr} {es : List Expr} {t : TA}
theorem goes_fn {pins : List (Addr × Obj)} {σ : L2.St} {H : Hp} {s : Shared} {Q : VK} {us : List Value} {vs : List V} (G : FnG X.prog X.w X.K X.mg X.base CX k f fd ps sp) (g : X.A.guards = some []) (hr : Room k X.A)
    (hb : Binds X.K fd ps []) (hx : Passes CX X E) (I : Inv X pins σ H s) (r : Vals vs us) (h : sp vs H Q E) : wpAny (model X.prog X.w) X.A (call (.ref f) us) (EP X pins σ Q) X.xe s := by
  have hl : (us ++ []).length = ps.length := by
    rw [List.append_nil, ← r.length]
    exact G.size _ _ _ _ h
  have b := hb s us I.kIn hl
  rw [List.append_nil] at b
  refine wpAny_call (codeAny_mono (G.goes X.A X.stack s H ⟨us, []⟩ us vs Q E g hr I.env0 b r h) fun r s' q => ?_)
  cases r with
  | error er => exact hx pins σ H s er s' I q
  | ok fl =>
    cases fl with
    | ret u => exact I.after q
    | next => exact q.elim
    | brk => exact q.elim
    | cont => exact q.elim
theorem pe_go (G : FnG X.prog X.w X.K X.mg X.base CX k f fd ps sp) (g : X.A.guards = some []) (hr : Room k X.A) (hg : Gl X x) (hm : X.mg x = some (.ref f)) (hk : PySem.W.keepIn X.K (.ref f) = true)
    (hb : Binds X.K fd ps []) (hx : Passes CX X E) (ha : PA X (e :: es) t) (hdb : (x == ("__debug__" : Str)) = false)
    (he : starEach (e :: es) X.env = (false, eval e X.env) :: starEach es X.env) (hpl : (backTo pos (starEach es X.env)).any (·.1) = false) :
    PE X (.Call (.Name x p) (e :: es) [] pos) (fun σ H Q => t σ H fun vs H1 => sp vs H1 Q E) :=
  ⟨fun pins s σ H Q I h => wpAny_Call_Name_kw (ld_glob I hg hm (PySem.W.callWith_K (h₀ := X.base) I.ok.mod.kin hk
    (thn (ha.run pos pins s σ H _ I h) fun us s1 ⟨vs, H1, I1, r, q⟩ => ⟨I1.kIn, goes_fn G g hr hb hx I1 r q⟩) he hpl) hdb)⟩
theorem pe_go0 (G : FnG X.prog X.w X.K X.mg X.base CX k f fd ps sp) (g : X.A.guards = some []) (hr : Room k X.A) (hg : Gl X x) (hm : X.mg x = some (.ref f)) (hk : PySem.W.keepIn X.K (.ref f) = true)
    (hb : Binds X.K fd ps []) (hx : Passes CX X E) (hdb : (x == ("__debug__" : Str)) = false) : PE X (.Call (.Name x p) [] [] pos) (fun σ H Q => sp [] H Q E) :=
  ⟨fun pins s σ H Q I h => wpAny_Call_Name_kw (ld_glob I hg hm (PySem.W.callWith_K0 I.kIn hk (goes_fn (us := []) G g hr hb hx I .nil h)) hdb)⟩
end
/-- what a def that means sem promises -/
def spF (F : Cf) (n : Nat) (sem : List D → Pen → R D) : Sp := fun vs H Q E =>
  ∃ O ds s, O F.pp ∧ (∀ b, O b → H b ≠ none) ∧ PenAt F H s ∧ Dts F (hid O H) vs ds ∧ ds.length = n ∧ Post F O H E (Dt F) Q (sem ds s)

/-! ### what holds around a body -/
structure Ck where
  N : List Str
  sc : Scope
  bl : List Str
  fn : Nat → Option Str
  gl : Nat → Option Str
  gcd : Bool
def ckFn (X : Cx) (F : Cf) (Γ : Tb) (E : XK) (g : Nat) (x : Str) : Prop :=
  ∃ f fd ps k sem, X.mg x = some (.ref f) ∧ PySem.W.keepIn X.K (.ref f) = true ∧ Binds X.K fd ps [] ∧ Room k X.A ∧ Passes (L2.CX X.prog X.w) X E ∧
    (∀ ds s, Γ.fn g ds s = if ds.length = ps.length then sem ds s else .bad) ∧ FnG X.prog X.w X.K X.mg X.base (L2.CX X.prog X.w) k f fd ps (spF F ps.length sem)
structure Gd (X : Cx) (k : Ck) (F : Cf) (Γ : Tb) (E : XK) : Prop where
  N : X.N = k.N
  nd : X.N.Nodup
  sc : X.env.scope = k.sc
  K : X.K = F.K
  calm : X.calm = true
  gd : X.A.guards = some []
  room : Room 0 X.A
  blt : ∀ x ∈ k.bl, X.mg x = none
  fn : ∀ g x, k.fn g = some x → ckFn X F Γ E g x
  gl : ∀ g x, k.gl g = some x → ∃ u v, X.mg x = some u ∧ RelV v u ∧ ∀ G, Dt F G v (Γ.gl g)
  gcd : k.gcd = true → X.mg "gcd" = some (.builtin "math.gcd")
end Mi
end

section
set_option Elab.async false
set_option linter.all false
set_option maxRecDepth 100000
set_option maxHeartbeats 4000000
/-! Mi: the look at a text (chk), and that what passes it has the term's meaning: expressions. -/
namespace Mi
open PySem PySem.Spec PyProof.Rows L2

/-! ### small facts of the text -/
def noStar : Expr → Bool
  | .Starred _ _ => false
  | _ => true
theorem star_at {e : Expr} {es : List Expr} {env : Env} (h : noStar e = true) : starEach (e :: es) env = (false, eval e env) :: starEach es env := by
  cases e <;> first
    | rfl
    | cases h
theorem star_any {es : List Expr} {env : Env} {pos : Pos} (h : es.all noStar = true) : (backTo pos (starEach es env)).any (·.1) = false := by
  induction es with
  | nil => rfl
  | cons e r ih =>
    rw [List.all_cons, Bool.and_eq_true] at h
    rw [star_at h.1]
    have q := ih h.2
    simp only [backTo, List.map_cons, List.any_cons] at q ⊢
    rw [q]
    rfl
def noSet : Expr → Bool
  | .Set _ _ _ => false
  | _ => true
theorem notSet_it {e : Expr} {env : Env} (h : noSet e = true) : ∀ x, foldedSetIterable e env x = pure x := by
  intro x
  cases e <;> first
    | rfl
    | cases h
theorem notSet_in {e : Expr} {op : CmpOp} (h : noSet e = true) : behindInMarks op e = false := by
  cases e <;> first
    | rfl
    | cases h
def noSl : Expr → Bool
  | .Slice _ _ _ _ => false
  | _ => true
theorem plain_ix {e : Expr} (h : noSl e = true) : PlainIx e := by
  intro o i
  cases e <;> first
    | rfl
    | cases h
def plainTest : Expr → Bool
  | .UnaryOp _ _ _ => false
  | .BoolOp _ _ _ => false
  | .IfExp _ _ _ _ => false
  | .Compare _ _ _ _ => false
  | _ => true
theorem plain_test {e : Expr} {env : Env} (h : plainTest e = true) : ∀ whole, isTrue e env whole = (do let v ← whole; standAt e.pos; holding [v] (truthy v)) := by
  intro whole
  cases e <;> first
    | rfl
    | cases h
def plainAttr : Expr → Bool
  | .Call _ (_ :: _) _ _ => true
  | .Call _ [] _ _ => false
  | _ => true
theorem plain_attr {e : Expr} {m : Str} {env : Env} (h : plainAttr e = true) : attributeBase e m env (eval e env) = eval e env := by
  cases e <;> first
    | rfl
    | skip
  rename_i fn args kws pos
  cases args with
  | nil => cases h
  | cons a r => cases fn <;> rfl
def vis (sc : Scope) (x : Str) : Bool := decide (sc.names.lookup x = some .local) || (decide (sc.names.lookup x = some .cell) || decide (sc.names.lookup x = some .free))
theorem vis_ok {sc : Scope} {x : Str} (h : vis sc x = true) : Vis sc x := by
  unfold vis at h
  simp only [Bool.or_eq_true, decide_eq_true_eq] at h
  exact h
def loc (sc : Scope) (x : Str) : Bool := decide (sc.names.lookup x = some .local) || decide (sc.names.lookup x = some .cell)
theorem loc_ok {sc : Scope} {x : Str} (h : loc sc x = true) : Loc sc x := by
  unfold loc at h
  simp only [Bool.or_eq_true, decide_eq_true_eq] at h
  exact h
def glob (sc : Scope) (x : Str) : Bool := decide (sc.names.lookup x = some .globalImplicit)
def plainName (x : Str) : Bool := decide (x ≠ ("__debug__" : Str)) && decide (x ≠ ("__classdict__" : Str)) && decide (x ≠ ("__name__" : Str))
structure NameOk (x : Str) : Prop where
  d : (x == ("__debug__" : Str)) = false
  c : (x == ("__classdict__" : Str)) = false
  n : x ≠ "__name__"
theorem name_ok {x : Str} (h : plainName x = true) : NameOk x := by
  unfold plainName at h
  simp only [Bool.and_eq_true, decide_eq_true_eq] at h
  exact ⟨beq_eq_false_iff_ne.mpr h.1.1, beq_eq_false_iff_ne.mpr h.1.2, h.2⟩

/-! ### the look -/
def bopA : Bop → Operator
  | .add => .Add | .sub => .Sub | .mul => .Mult | .fdiv => .FloorDiv | .mod => .Mod | .pow => .Pow
def copA : Cop → CmpOp
  | .eq => .Eq | .ne => .NotEq | .lt => .Lt | .le => .LtE | .gt => .Gt | .ge => .GtE | .is_ => .Is | .isnot => .IsNot | .in_ => .In | .notin => .NotIn
def tyN : Ty → String
  | .int => "int" | .bool => "bool" | .str => "str" | .tuple => "tuple" | .list => "list" | .dict => "dict"
def tyS : Ty → Str
  | .int => "int" | .bool => "bool" | .str => "str" | .tuple => "tuple" | .list => "list" | .dict => "dict"
def bltS : Blt → Str
  | .len => "len" | .abs => "abs" | .int => "int" | .tuple => "tuple" | .list => "list" | .all => "all" | .any => "any" | .sum => "sum" | .repr => "repr" | .gcd => "gcd" | .max => "max" | .min => "min"
def pfS : PF → Str
  | .at_ => "at" | .digits => "digits" | .count => "count" | .fold => "fold"
def inBl (k : Ck) (x : Str) : Bool := k.bl.any fun y => decide (y = x)
def chkTys (k : Ck) : List Ty → List Expr → Bool
  | [], [] => true
  | t :: ts, .Name x _ :: es => decide (x = tyS t) && glob k.sc x && inBl k x && chkTys k ts es
  | _, _ => false
/-- a name that a target may have: within a block a plain local one -/
def tnm (k : Ck) (st : Bool) (x : Str) : Bool := if st = true then decide (k.sc.names.lookup x = some .local) else loc k.sc x
def chkTg (k : Ck) (st : Bool) : List Nat → List Expr → Bool
  | [], [] => true
  | i :: is, .Name x _ :: es => decide (k.N[i]? = some x) && tnm k st x && chkTg k st is es
  | _, _ => false
def chkT (k : Ck) (st : Bool) : Tg → Expr → Bool
  | .nm i, .Name x _ => decide (k.N[i]? = some x) && tnm k st x
  | .tup is, .Tuple es _ _ => chkTg k st is es
  | _, _ => false
/-- a zip, an enumerate goes to a row of names -/
def itTg : It → Expr → Bool
  | .zip _ _, .Tuple _ _ _ => true
  | .enum _, .Tuple _ _ _ => true
  | .zip _ _, _ => false
  | .enum _, _ => false
  | _, _ => true
/-- the slots that a target stores -/
def Tg.slots : Tg → List Nat
  | .nm i => [i]
  | .tup is => is
-- terms that may stand as tests
mutual
def tstE : Ex → Bool
  | .and_ es => tstEs es
  | .or_ es => tstEs es
  | .not_ a => tstE a
  | .ite _ _ _ => false
  | .chain _ _ _ _ _ => false
  | .int _ => false
  | .bl _ => false
  | .non => false
  | .str _ => false
  | .neg _ => false
  | _ => true
def tstEs : Es → Bool
  | .nil => true
  | .cons e r => tstE e && tstEs r
end
mutual
def chkE (k : Ck) : Ex → Expr → Bool
  | .var i, e => match e with
    | .Name x _ => decide (k.N[i]? = some x) && vis k.sc x && plainName x
    | _ => false
  | .int i, e => match e with
    | .Constant (.int j) _ _ => decide (i = j)
    | _ => false
  | .bl b, e => match e with
    | .Constant (.bool c) _ _ => decide (b = c)
    | _ => false
  | .non, e => match e with
    | .Constant .none _ _ => true
    | _ => false
  | .str x, e => match e with
    | .Constant (.str y) _ _ => decide (x = y)
    | _ => false
  | .glob g, e => match e with
    | .Name x _ => decide (k.gl g = some x) && glob k.sc x && plainName x
    | _ => false
  | .tup es, e => match e with
    | .Tuple fs _ _ => chkA k es fs
    | _ => false
  | .lst es, e => match e with
    | .List fs _ => chkA k es fs
    | _ => false
  | .bin o a b, e => match e with
    | .BinOp e op f _ => decide (op = bopA o) && chkE k a e && chkE k b f
    | _ => false
  | .neg a, e => match e with
    | .UnaryOp .USub e _ => chkE k a e
    | _ => false
  | .cmp o a b, e => match e with
    | .Compare e [op] [f] _ => decide (op = copA o) && noSet f && chkE k a e && chkE k b f
    | _ => false
  | .chain o p a b c, e => match e with
    | .Compare e [op, op'] [f, g] _ => decide (op = copA o) && decide (op' = copA p) && noSet f && noSet g && chkE k a e && chkE k b f && chkE k c g
    | _ => false
  | .and_ es, e => match e with
    | .BoolOp .And fs _ => chkA k es fs && !fs.isEmpty
    | _ => false
  | .or_ es, e => match e with
    | .BoolOp .Or fs _ => chkA k es fs && !fs.isEmpty
    | _ => false
  | .not_ a, e => match e with
    | .UnaryOp .Not e _ => chkE k a e
    | _ => false
  | .ite c a b, e => match e with
    | .IfExp e f g _ => tstE c && chkE k c e && chkE k a f && chkE k b g
    | _ => false
  | .sub a b, e => match e with
    | .Subscript e f _ => noSl f && chkE k a e && chkE k b f
    | _ => false
  | .call g es, e => match e with
    | .Call (.Name x _) fs [] _ => decide (k.fn g = some x) && glob k.sc x && plainName x && chkA k es fs
    | _ => false
  | .blt b es, e => match e with
    | .Call (.Name x _) fs [] _ => decide (x = bltS b) && glob k.sc x && (if b = .gcd then k.gcd else inBl k x) && chkA k es fs && !fs.isEmpty
    | _ => false
  | .isi a ts, e => match e with
    | .Call (.Name x _) [e, .Name y _] [] _ => decide (x = "isinstance") && glob k.sc x && inBl k x && (match ts with | [t] => decide (y = tyS t) | _ => false) && glob k.sc y && inBl k y && noStar e && chkE k a e
    | .Call (.Name x _) [e, .Tuple fs _ _] [] _ => decide (x = "isinstance") && glob k.sc x && inBl k x && chkTys k ts fs && decide (ts.length ≤ 10) && !ts.isEmpty && noStar e && chkE k a e
    | _ => false
  | .bits a, e => match e with
    | .Call (.Attribute e m p) [] [] p2 => decide (m = "bit_length") && plainAttr e && (p.endLine == p2.line) && chkE k a e
    | _ => false
  | .comp own t it cond elt, e => match e with
    | .ListComp f [⟨tg, iter, ifs, 0⟩] scope _ =>
      blkC k.N k.sc scope own && noSet iter && itTg it tg && chkI k it iter && chkT { k with sc := relS scope k.sc } true t tg && t.slots.all (fun i => decide (i ∈ own.map (·.2))) && chkA { k with sc := relS scope k.sc } cond ifs && decide (ifs.length ≤ 1) && tstEs cond && chkE { k with sc := relS scope k.sc } elt f
    | _ => false
  | .lenO i, e => match e with
    | .Call (.Name x _) [.Name y _] [] _ => decide (x = "len") && glob k.sc x && inBl k x && decide (k.N[i]? = some y) && vis k.sc y && plainName y
    | _ => false
  | .subO i a, e => match e with
    | .Subscript (.Name y _) f _ => noSl f && decide (k.N[i]? = some y) && vis k.sc y && plainName y && chkE k a f
    | _ => false
  | .dnew, e => match e with
    | .Dict [] [] _ => true
    | _ => false
  | .pget i f, e => match e with
    | .Subscript (.Name y _) (.Constant (.str z) _ _) _ => decide (z = pfS f) && decide (k.N[i]? = some y) && vis k.sc y && plainName y
    | _ => false
  | .plen i, e => match e with
    | .Call (.Name x _) [.Subscript (.Name y _) (.Constant (.str z) _ _) _] [] _ => decide (x = "len") && glob k.sc x && inBl k x && decide (z = "cells") && decide (k.N[i]? = some y) && vis k.sc y && plainName y
    | _ => false
  | .pcell i a, e => match e with
    | .Subscript (.Subscript (.Name y _) (.Constant (.str z) _ _) _) f _ => noSl f && decide (z = "cells") && decide (k.N[i]? = some y) && vis k.sc y && plainName y && chkE k a f
    | _ => false
def chkA (k : Ck) : Es → List Expr → Bool
  | .nil, fs => match fs with
    | [] => true
    | _ => false
  | .cons e r, fs => match fs with
    | f :: fs => noStar f && chkE k e f && chkA k r fs
    | _ => false
def chkI (k : Ck) : It → Expr → Bool
  | .ex e, f => chkE k e f
  | .rng1 a, e => match e with
    | .Call (.Name x _) [e] [] _ => decide (x = "range") && glob k.sc x && inBl k x && noStar e && chkE k a e
    | _ => false
  | .rng2 a b, e => match e with
    | .Call (.Name x _) [e, f] [] _ => decide (x = "range") && glob k.sc x && inBl k x && noStar e && noStar f && chkE k a e && chkE k b f
    | _ => false
  | .zip a b, e => match e with
    | .Call (.Name x _) [e, f] [] _ => decide (x = "zip") && glob k.sc x && inBl k x && noStar e && noStar f && chkE k a e && chkE k b f
    | _ => false
  | .enum a, e => match e with
    | .Call (.Name x _) [e] [] _ => decide (x = "enumerate") && glob k.sc x && inBl k x && noStar e && chkE k a e
    | _ => false
end
theorem chkA_star {k : Ck} : ∀ {es : Es} {fs : List Expr}, chkA k es fs = true → fs.all noStar = true
  | .nil, [], _ => rfl
  | .nil, _ :: _, h => by simp [chkA] at h
  | .cons _ _, [], h => by simp [chkA] at h
  | .cons e r, f :: fs, h => by
    simp only [chkA, Bool.and_eq_true] at h
    rw [List.all_cons, h.1.1, chkA_star h.2]
    rfl
end Mi
end

section
set_option Elab.async false
set_option linter.all false
set_option maxRecDepth 100000
set_option maxHeartbeats 4000000
/-! Mi: soundness of the expressions' readings, rule by rule. -/
namespace Mi
open PySem PySem.Spec PyProof.Rows L2

theorem big_line {n : Nat} (h : n ≤ big) : n ≤ sizeLine := Nat.le_trans h (by decide)
theorem big_lt {n : Nat} (h : n ≤ big) : n < sizeLine := Nat.lt_of_le_of_lt h (by decide)

/-! ### data seen by the layer's own relations -/
section
variable {F : Cf} {G H : Hp}
mutual
theorem Dt.dp (e : Evl.Ex G H) : ∀ {d : D} {v : V} {p : PyData}, toP d = some p → p.hasDict = false → Dt F G v d → Dp F.K H v p
  | .non, _, _, h, _, t => by
    cases t
    cases h
    exact .non
  | .bl b, _, _, h, _, t => by
    cases t
    cases h
    exact .bl b
  | .int b, _, _, h, _, t => by
    cases t
    cases h
    exact .int b
  | .str b, _, _, h, _, t => by
    cases t
    cases h
    exact .str b
  | .tup xs, _, p, h, n, t => by
    cases t with
    | tup hs hd =>
      unfold toP at h
      cases hq : toPs xs with
      | none => rw [hq] at h; cases h
      | some ps =>
        rw [hq] at h
        cases h
        exact .tup (Evl.ex_t e hs) (Dts.dp e hq (by simpa [PyData.hasDict] using n) hd)
  | .lst xs, _, p, h, n, t => by
    cases t with
    | lst hs hd =>
      unfold toP at h
      cases hq : toPs xs with
      | none => rw [hq] at h; cases h
      | some ps =>
        rw [hq] at h
        cases h
        exact .lst (SqL.of (e _ _ hs)) (Dts.dp e hq (by simpa [PyData.hasDict] using n) hd)
  | .obj _ _, _, _, h, _, _ => by cases h
  | .pen, _, _, h, _, _ => by cases h
  | .clo _ _, _, _, h, _, _ => by cases h
  | .dct [], _, _, h, n, _ => by
    cases h
    simp [PyData.hasDict] at n
  | .dct (_ :: _), _, _, h, _, _ => by cases h
theorem Dts.dp (e : Evl.Ex G H) : ∀ {ds : List D} {vs : List V} {ps : List PyData}, toPs ds = some ps → PyData.hasDictAll ps = false → Dts F G vs ds → DpAll F.K H vs ps
  | [], _, _, h, _, t => by
    cases t
    cases h
    exact .nil
  | d :: r, _, _, h, n, t => by
    cases t with
    | cons a b =>
      unfold toPs at h
      cases h1 : toP d with
      | none => rw [h1] at h; cases h
      | some p =>
        cases h2 : toPs r with
        | none => rw [h1, h2] at h; cases h
        | some ps =>
          rw [h1, h2] at h
          cases h
          simp only [PyData.hasDictAll, Bool.or_eq_false_iff] at n
          exact .cons (Dt.dp e h1 n.1 a) (Dts.dp e h2 n.2 b)
end
theorem Dt.shp (e : Evl.Ex G H) {d : D} {v : V} {p : PyData} (h : toP d = some p) (s : SeqAt.shaped p = true) (t : Dt F G v d) : Dp F.K H v p :=
  t.dp e h (PyData.hasDict_of_canLay p (SeqAt.canLay_of_shaped s))
theorem Dts.isEmpty {vs : List V} {ds : List D} (t : Dts F G vs ds) : vs.isEmpty = ds.isEmpty := by cases t <;> rfl
theorem Dkv.isEmpty {vs : List (Key × V)} {ds : List (Key × D)} (t : Dkv F G vs ds) : vs.isEmpty = ds.isEmpty := by cases t <;> rfl
theorem Dt.tru (e : Evl.Ex G H) {d : D} {v : V} {b : Bool} (h : truth d = some b) (t : Dt F G v d) : TruV F.K v H b := by
  cases t with
  | non => cases h; rfl
  | bl _ => cases h; rfl
  | int _ => cases h; rfl
  | str x =>
    obtain ⟨hz, q⟩ := guardO h
    subst q
    exact ⟨big_line hz, rfl⟩
  | tup hs hd =>
    cases h
    exact .inr (.inl ⟨_, Evl.ex_t e hs, by rw [hd.isEmpty]⟩)
  | lst hs hd =>
    cases h
    exact .inl ⟨_, SqL.of (e _ _ hs), by rw [hd.isEmpty]⟩
  | obj _ _ => cases h
  | dct hs hd =>
    cases h
    exact .inr (.inr ⟨_, e _ _ hs, by rw [hd.isEmpty]⟩)
  | pen => cases h
  | clo _ _ => cases h
theorem Dt.flat {d : D} {v : V} (t : Dt F G v d) : flatD d = flatV v ∨ flatD d = false := by
  cases t <;> first
    | exact .inl rfl
    | exact .inr rfl
end

/-! ### operators on values -/
/-- // by a divisor of either sign -/
def CDivX (_ j : Int) : Prop := j ≠ 0 ∧ j.natAbs.log2 < 9000
section
variable {X : Cx}
theorem op_fdivX : OpR X (binaryOp .FloorDiv) (rI CDivX fun i j => .int (i.fdiv j)) := opI fun i j _ _ _ _ _ hc q =>
  floordiv_int hc.1 q (.inl (PyProof.noPylong_of_log2 hc.2))
theorem mulOk_ok {i j : Int} (h : mulOk i j = true) : IntMulOk i j := by
  unfold mulOk at h
  simp only [Bool.or_eq_true, decide_eq_true_eq] at h
  rcases h with h | h | h
  · exact CMulW.ok h
  · exact CMul.ok (.inl (by omega))
  · exact CMul.ok (.inr (by omega))
def rBin : Bop → R2
  | .add => fun x y H Q => (rI0 (fun i j => .int (i + j)) x y H Q ∨ (∃ i j, x = .str i ∧ y = .str j ∧ i.length + j.length ≤ sizeLine ∧ Q (.str (i ++ j)) H)) ∨ rCat x y H Q
  | .sub => rI0 fun i j => .int (i - j)
  | .mul => rI (fun i j => mulOk i j = true) fun i j => .int (i * j)
  | .fdiv => rI CDivX fun i j => .int (i.fdiv j)
  | .mod => rI (fun _ j => j ≠ 0) fun i j => .int (i.fmod j)
  | .pow => rI CPow fun i j => .int (i ^ j.toNat)
theorem op_bin (o : Bop) : OpR X (binaryOp (bopA o)) (rBin o) := by
  cases o with
  | add => exact OpR.or (OpR.or op_add op_add_str) op_cat
  | sub => exact op_sub
  | mul => exact opI fun _ _ _ _ _ _ _ hc q => mul_int q (mulOk_ok hc)
  | fdiv => exact op_fdivX
  | mod => exact op_modN
  | pow => exact op_pow
end
section
variable {F : Cf} {O : Addr → Prop} {H : Hp} {E : XK} {Q : VK} {s : Pen}
theorem bin_ok {o : Bop} {x y : D} {v u : V} (h : Post F O H E (Dt F) Q (binop o x y s)) (p : PenAt F H s) (tr : ∀ b, O b → H b ≠ none) (t1 : Dt F (hid O H) v x) (t2 : Dt F (hid O H) u y) : rBin o v u H Q := by
  have fin : ∀ {z : V} {d : D}, Post F O H E (Dt F) Q (.ok d s) → (∀ G, Dt F G z d) → Q z H := fun {z d} h t => h z H .refl p (t _)
  cases o <;> cases t1 <;> (first | exact False.elim h | skip) <;> cases t2 <;> (first | exact False.elim h | skip)
  · exact .inl (.inl ⟨_, _, rfl, rfl, fin h fun _ => .int _⟩)
  · obtain ⟨hz, h⟩ := Post.guard h
    exact .inl (.inr ⟨_, _, rfl, rfl, big_line hz, fin h fun _ => .str _⟩)
  · rename_i a xs ds hs hd b ys es hs2 hd2
    obtain ⟨hz, h⟩ := Post.guard h
    refine .inr ⟨a, b, xs, ys, rfl, rfl, (hid_some hs).2, (hid_some hs2).2, by rw [hd.length, hd2.length]; exact big_line hz, fun q hq => ?_⟩
    have nO : ¬ O q := fun z => tr q z hq
    exact h (.ref q) _ (Kp.new hq) (p.new hq) (.lst (hid_new nO) ((hd.append hd2).mono (ex_new hq)))
  · exact ⟨_, _, rfl, rfl, fin h fun _ => .int _⟩
  · obtain ⟨hz, h⟩ := Post.guard h
    exact ⟨_, _, rfl, rfl, hz, fin h fun _ => .int _⟩
  · obtain ⟨hz, h⟩ := Post.guard h
    unfold divOk at hz
    simp only [Bool.and_eq_true, decide_eq_true_eq] at hz
    exact ⟨_, _, rfl, rfl, hz, fin h fun _ => .int _⟩
  · obtain ⟨hz, h⟩ := Post.guard h
    exact ⟨_, _, rfl, rfl, of_decide_eq_true hz, fin h fun _ => .int _⟩
  · obtain ⟨hz, h⟩ := Post.guard h
    unfold powOk at hz
    simp only [Bool.and_eq_true, decide_eq_true_eq] at hz
    exact ⟨_, _, rfl, rfl, ⟨hz.1.1, hz.1.2, hz.2⟩, fin h fun _ => .int _⟩

/-! ### comparisons on values -/
def rCmp (K : PySem.W.Frag) : Cop → R2
  | .eq => fun x y H Q => rEq x y H Q ∨ rEqD K x y H Q
  | .ne => fun x y H Q => rNe x y H Q ∨ rNeD K x y H Q
  | .lt => rI0 fun i j => .bl (decide (i < j))
  | .le => rI0 fun i j => .bl (decide (i ≤ j))
  | .gt => rI0 fun i j => .bl (decide (j < i))
  | .ge => rI0 fun i j => .bl (decide (j ≤ i))
  | .is_ => fun x y H Q => (y = .non ∧ Q (.bl (decide (x = .non))) H) ∨ rIsB x y H Q
  | .isnot => fun x y H Q => (y = .non ∧ Q (.bl (!decide (x = .non))) H) ∨ rNotB x y H Q
  | .in_ => rIn K false
  | .notin => rIn K true
theorem op_cmp {X : Cx} (hu : X.A.units + 64 < cLine) (o : Cop) : OpR X (compareOp (copA o)) (rCmp X.K o) := by
  cases o with
  | eq => exact OpR.or op_eq (op_eqD hu)
  | ne => exact OpR.or op_ne (op_neD hu)
  | lt => exact op_lt
  | le => exact op_le
  | gt => exact op_gt
  | ge => exact op_ge
  | is_ => exact OpR.or op_isN op_isBl
  | isnot => exact OpR.or op_notN op_notBl
  | in_ => exact op_in_seq
  | notin => exact op_notIn_seq
theorem Dt.isNon {G : Hp} {x : D} {v : V} (t : Dt F G v x) : decide (v = .non) = isNon x := by cases t <;> rfl
theorem deqP_two {x y : D} {b : Bool} (h : deqP x y = some b) : ∃ p q, toP x = some p ∧ toP y = some q ∧ SeqAt.shaped p = true ∧ SeqAt.shaped q = true ∧ b = PyData.eqv p q := by
  unfold deqP at h
  cases h1 : toP x with
  | none => rw [h1] at h; cases h
  | some p =>
    cases h2 : toP y with
    | none => rw [h1, h2] at h; cases h
    | some q =>
      rw [h1, h2] at h
      obtain ⟨c, e⟩ := guardO h
      rw [Bool.and_eq_true] at c
      exact ⟨p, q, rfl, rfl, c.1, c.2, e.symm⟩
theorem deq_two {x y : D} {b : Bool} (h : deq x y = some b) : (∃ a c, x = .str a ∧ y = .str c ∧ b = decide (a = c)) ∨ ∃ p q, toP x = some p ∧ toP y = some q ∧ SeqAt.shaped p = true ∧ SeqAt.shaped q = true ∧ b = PyData.eqv p q := by
  unfold deq at h
  split at h
  · rename_i c e
    cases h
    unfold deqS at e
    split at e
    · cases e
      exact .inl ⟨_, _, rfl, rfl, rfl⟩
    · cases e
  · exact .inr (deqP_two h)
theorem str_dec {a c : Str} : decide (V.str a = V.str c) = decide (a = c) := by
  by_cases h : a = c
  · rw [decide_eq_true h, decide_eq_true (by rw [h])]
  · rw [decide_eq_false h, decide_eq_false (fun z => h (V.str.inj z))]
theorem cmp_ok {o : Cop} {x y : D} {v u : V} {b : Bool} {R2' : V → Hp → Prop} (h : cmpop o x y = some b) (t1 : Dt F (hid O H) v x) (t2 : Dt F (hid O H) u y) (q : R2' (.bl b) H) : rCmp F.K o v u H R2' := by
  have ex : Evl.Ex (hid O H) H := fun b o h => (hid_some h).2
  cases o with
  | eq =>
    rcases deq_two h with ⟨a, c, e1, e2, e3⟩ | ⟨p, r, h1, h2, s1, s2, e⟩
    · subst e1 e2 e3
      cases t1
      cases t2
      exact .inl ⟨rfl, by rw [str_dec]; exact q⟩
    · subst e
      exact .inr ⟨p, r, t1.shp ex h1 s1, t2.shp ex h2 s2, s1, s2, q⟩
  | ne =>
    have h : (deq x y).map (! ·) = some b := h
    cases hd : deq x y with
    | none => rw [hd] at h; cases h
    | some c =>
      rw [hd] at h
      cases h
      rcases deq_two hd with ⟨a, c, e1, e2, e3⟩ | ⟨p, r, h1, h2, s1, s2, e⟩
      · subst e1 e2 e3
        cases t1
        cases t2
        exact .inl ⟨rfl, by rw [str_dec]; exact q⟩
      · subst e
        exact .inr ⟨p, r, t1.shp ex h1 s1, t2.shp ex h2 s2, s1, s2, q⟩
  | lt => cases t1 <;> (first | cases h; done | skip) <;> cases t2 <;> (first | cases h; done | skip); cases h; exact ⟨_, _, rfl, rfl, q⟩
  | le => cases t1 <;> (first | cases h; done | skip) <;> cases t2 <;> (first | cases h; done | skip); cases h; exact ⟨_, _, rfl, rfl, q⟩
  | gt => cases t1 <;> (first | cases h; done | skip) <;> cases t2 <;> (first | cases h; done | skip); cases h; exact ⟨_, _, rfl, rfl, q⟩
  | ge => cases t1 <;> (first | cases h; done | skip) <;> cases t2 <;> (first | cases h; done | skip); cases h; exact ⟨_, _, rfl, rfl, q⟩
  | is_ =>
    cases t2 with
    | non =>
      have e : b = isNon x := by cases t1 <;> (cases h; rfl)
      subst e
      exact .inl ⟨rfl, by rw [t1.isNon]; exact q⟩
    | bl c => cases t1 <;> (first | cases h; done | skip); cases h; exact .inr ⟨_, _, rfl, rfl, q⟩
    | _ => cases t1 <;> cases h
  | isnot =>
    cases t2 with
    | non =>
      have e : b = !isNon x := by cases t1 <;> (cases h; rfl)
      subst e
      exact .inl ⟨rfl, by rw [t1.isNon]; exact q⟩
    | bl c => cases t1 <;> (first | cases h; done | skip); cases h; exact .inr ⟨_, _, rfl, rfl, q⟩
    | _ => cases t1 <;> cases h
  | in_ => cases t1 <;> cases t2 <;> cases h
  | notin => cases t1 <;> cases t2 <;> cases h

/-! ### items -/
theorem at_get {xs : List D} {vs : List V} {i : Int} {d : D} {G : Hp} (h : at_ xs i = some d) (t : Dts F G vs xs) : ∃ v, atI vs i = some v ∧ Dt F G v d := by
  unfold at_ at h
  unfold atI
  rw [← t.length] at h
  cases hj : ixN vs.length i with
  | none => rw [hj] at h; cases h
  | some j =>
    rw [hj] at h
    obtain ⟨y, e, q⟩ := t.get (i := j) (x := d) h
    exact ⟨y, e, q⟩
theorem sub_ok {x y d : D} {v u : V} {K : PySem.W.Frag} (hK : K = F.K) (h : subsc x y = some d) (p : PenAt F H s) (t1 : Dt F (hid O H) v x) (t2 : Dt F (hid O H) u y) (q : ∀ w, Dt F (hid O H) w d → Q w H) : rIx K v u H Q := by
  subst hK
  have ex : Evl.Ex (hid O H) H := fun b o h => (hid_some h).2
  cases t1 <;> (first | (cases h; done) | skip)
  · cases t2 <;> (first | (cases h; done) | skip)
    rename_i hs hd i
    obtain ⟨w, e, t⟩ := at_get h hd
    exact .inr (.inl ⟨_, _, _, w, rfl, rfl, Evl.ex_t ex hs, e, q w t⟩)
  · cases t2 <;> (first | (cases h; done) | skip)
    rename_i hs hd i
    obtain ⟨w, e, t⟩ := at_get h hd
    exact .inl ⟨_, _, _, w, rfl, rfl, SqL.of (ex _ _ hs), e, q w t⟩

/-! ### isinstance -/
theorem ty_boot (t : Ty) : bootBuiltins (tyS t) = some (.type (tyN t)) := by cases t <;> decide +kernel
theorem Dt.ty {x : D} {v : V} {t : Ty} (h : tyOf x = some t) (r : Dt F (hid O H) v x) : TyX F.K H v (.type (tyN t)) := by
  have ex : Evl.Ex (hid O H) H := fun b o h => (hid_some h).2
  cases r <;> (first | (cases h; done) | skip) <;> cases h
  · exact .base (.bl _)
  · exact .base (.int _)
  · exact .base (.str _)
  · rename_i hs hd
    rcases Evl.ex_t ex hs with (q | ⟨o, q⟩) | ⟨o, its, n, q, c, _⟩
    · exact .base (.tup q)
    · exact .fTuple q
    · exact .kTuple q c
  · rename_i hs _
    exact .base (.lst (ex _ _ hs))
  · rename_i hs _
    exact .base (.dK (ex _ _ hs))
theorem kit_tab (a b : Ty) : kitB (tyN a) (tyN b) = some (decide (a = b) || (decide (a = .bool) && decide (b = .int))) := by cases a <;> cases b <;> decide +kernel
theorem kit_non (b : Ty) : kitB "NoneType" (tyN b) = some false := by cases b <;> decide +kernel
/-- one class -/
theorem isTy1_ok {x : D} {v : V} {t : Ty} {b : Bool} (h : isTy1 x t = some b) (r : Dt F (hid O H) v x) : ∃ u : Value, TyX F.K H v u ∧ PySem.W.kitOne F.K u (.type (tyN t)) = some b := by
  cases hx : tyOf x with
  | some a =>
    have e : isTy1 x t = some (decide (a = t) || (decide (a = .bool) && decide (t = .int))) := by
      cases x <;> cases hx <;> rfl
    rw [e] at h
    cases h
    exact ⟨_, r.ty hx, kit_ty (kit_tab a t)⟩
  | none =>
    cases r <;> (first | (cases hx; done) | skip)
    · cases h
      exact ⟨_, .base .non, kit_ty (kit_non t)⟩
    all_goals cases h
theorem isTy_ok {x : D} {v : V} {u : Value} (ty : TyX F.K H v u) (r : Dt F (hid O H) v x) (hu : ∀ t b, isTy1 x t = some b → PySem.W.kitOne F.K u (.type (tyN t)) = some b) :
    ∀ {ts : List Ty} {b : Bool}, isTy x ts = some b → PySem.W.kitAny F.K u (ts.map fun t => .type (tyN t)) = some b
  | [], b, h => by
    cases h
    rfl
  | t :: ts, b, h => by
    unfold isTy at h
    cases h1 : isTy1 x t with
    | none => rw [h1] at h; cases h
    | some c =>
      cases h2 : isTy x ts with
      | none => rw [h1, h2] at h; cases h
      | some d =>
        rw [h1, h2] at h
        cases h
        refine kitAny_cons (hu t c h1) (fun e => ?_) (fun e => ?_)
        · rw [e, Bool.false_or]
          exact isTy_ok ty r hu h2
        · rw [e]
          rfl
theorem isTy1_all {x : D} {v : V} (r : Dt F (hid O H) v x) (h : ∃ t b, isTy1 x t = some b) : ∃ u : Value, TyX F.K H v u ∧ ∀ t b, isTy1 x t = some b → PySem.W.kitOne F.K u (.type (tyN t)) = some b := by
  cases hx : tyOf x with
  | some a =>
    refine ⟨_, r.ty hx, fun t b h => ?_⟩
    have e : isTy1 x t = some (decide (a = t) || (decide (a = .bool) && decide (t = .int))) := by
      cases x <;> cases hx <;> rfl
    rw [e] at h
    cases h
    exact kit_ty (kit_tab a t)
  | none =>
    obtain ⟨t, b, h⟩ := h
    cases r <;> (first | (cases hx; done) | skip)
    · exact ⟨_, .base .non, fun t b h => by cases h; exact kit_ty (kit_non t)⟩
    all_goals cases h
end
end Mi
end

section
set_option Elab.async false
set_option linter.all false
set_option maxRecDepth 100000
set_option maxHeartbeats 4000000
/-! Mi: built-ins told on data. -/
namespace Mi
open PySem PySem.Spec PyProof.Rows L2

section
variable {X : Cx} {pins : List (Addr × Obj)} {σ : L2.St} {H G : Hp} {s : Shared} {F : Cf}
mutual
theorem Dt.reads (hK : X.K = F.K) (I : Inv X pins σ H s) (ex : Evl.Ex G H) : ∀ {d : D} {v : V} {u : Value} {p : PyData}, toP d = some p → Dt F G v d → RelV v u → ∃ as, Reads s.heap u p as ∧ (hasL d = false → sysModules ∉ as)
  | .non, _, _, _, h, t, r => by
    cases t
    cases h
    cases r
    exact ⟨_, Reads.none, fun _ z => nomatch z⟩
  | .bl b, _, _, _, h, t, r => by
    cases t
    cases h
    cases r
    exact ⟨_, Reads.bool b, fun _ z => nomatch z⟩
  | .int i, _, _, _, h, t, r => by
    cases t
    cases h
    obtain ⟨k, rfl⟩ := r
    exact ⟨_, Reads.int i k, fun _ z => nomatch z⟩
  | .str x, _, _, _, h, t, r => by
    cases t
    cases h
    obtain ⟨k, rfl⟩ := r
    exact ⟨_, Reads.str x k, fun _ z => nomatch z⟩
  | .tup xs, _, _, _, h, t, r => by
    cases t with
    | tup hs hd =>
      unfold toP at h
      cases hq : toPs xs with
      | none => rw [hq] at h; cases h
      | some ps =>
        rw [hq] at h
        cases h
        cases r
        obtain ⟨its, rv, ⟨o, ho, hc, n, hda⟩, _⟩ := I.tuple (by rw [hK]; exact Evl.ex_t ex hs)
        obtain ⟨as, q, z⟩ := Dts.reads hK I ex hq hd rv
        exact ⟨as, Reads.tuple ho hc hda q, fun w => z (by simpa [hasL] using w)⟩
  | .lst xs, _, _, _, h, t, r => by
    cases t with
    | lst hs hd =>
      unfold toP at h
      cases hq : toPs xs with
      | none => rw [hq] at h; cases h
      | some ps =>
        rw [hq] at h
        cases h
        cases r
        obtain ⟨its, rv, ⟨o, n, ho, hc, _, hda⟩, _⟩ := I.list (SqL.of (ex _ _ hs))
        obtain ⟨as, q, z⟩ := Dts.reads hK I ex hq hd rv
        exact ⟨_, Reads.list ho hc hda q, fun w => by simp [hasL] at w⟩
  | .obj _ _, _, _, _, h, _, _ => by cases h
  | .pen, _, _, _, h, _, _ => by cases h
  | .clo _ _, _, _, _, h, _, _ => by cases h
  | .dct [], _, _, _, h, t, r => by
    cases t with
    | dct hs hd =>
      cases h
      cases hd
      cases r
      obtain ⟨_, hy, vs, kv, o, es, ep, ho, hc, hda, _, hp, _⟩ := I.hok _ _ (ex _ _ hs)
      cases kv
      have he : es.toList = [] := by
        cases e : es.toList with
        | nil => rfl
        | cons a b =>
          rw [e] at hp
          cases hp
      refine ⟨_, Reads.dict (kvs := []) ho hc.1 hda (by rw [he]; exact .nil) (by rw [he]; exact .nil), fun _ z => ?_⟩
      simp only [List.append_nil, List.mem_singleton, List.mem_cons, List.not_mem_nil, or_false] at z
      rw [← z] at hy
      simp at hy
  | .dct (_ :: _), _, _, _, h, _, _ => by cases h
theorem Dts.reads (hK : X.K = F.K) (I : Inv X pins σ H s) (ex : Evl.Ex G H) : ∀ {ds : List D} {vs : List V} {us : List Value} {ps : List PyData}, toPs ds = some ps → Dts F G vs ds → Vals vs us → ∃ as, ReadsAll s.heap us ps as ∧ (hasLs ds = false → sysModules ∉ as)
  | [], _, _, _, h, t, r => by
    cases t
    cases h
    cases r
    exact ⟨_, .nil, fun _ z => nomatch z⟩
  | d :: ds, _, _, _, h, t, r => by
    cases t with
    | cons a b =>
      unfold toPs at h
      cases h1 : toP d with
      | none => rw [h1] at h; cases h
      | some p =>
        cases h2 : toPs ds with
        | none => rw [h1, h2] at h; cases h
        | some ps =>
          rw [h1, h2] at h
          cases h
          cases r with
          | cons r1 r2 =>
            obtain ⟨as, q, z⟩ := Dt.reads hK I ex h1 a r1
            obtain ⟨bs, q2, z2⟩ := Dts.reads hK I ex h2 b r2
            refine ⟨_, .cons q q2, fun w hm => ?_⟩
            simp only [hasLs, Bool.or_eq_false_iff] at w
            rcases List.mem_append.mp hm with m | m
            · exact z w.1 m
            · exact z2 w.2 m
end
end
theorem reprD_two {d : D} {t : Str} (h : reprD d = some t) : ∃ p, toP d = some p ∧ p.showable = true ∧ p.shown.length ≤ 1000000 ∧ p.depth ≤ 64 ∧ (p.hasDict = true → hasL d = false) ∧ t = p.shown := by
  unfold reprD at h
  cases hp : toP d with
  | none => rw [hp] at h; cases h
  | some p =>
    rw [hp] at h
    obtain ⟨c, e⟩ := guardO h
    simp only [Bool.and_eq_true, decide_eq_true_eq, Bool.or_eq_true, Bool.not_eq_true'] at c
    obtain ⟨⟨⟨c1, c2⟩, c3⟩, c4⟩ := c
    exact ⟨p, rfl, c1, c2, c3, fun q => c4.elim (fun z => by rw [q] at z; cases z) id, e.symm⟩
def rRepr (F : Cf) : List V → Hp → VK → Prop := fun vs H Q => ∃ O d v t, vs = [v] ∧ Dt F (hid O H) v d ∧ reprD d = some t ∧ Q (.str t) H
theorem call_reprD {X : Cx} {F : Cf} (hK : X.K = F.K) (g : X.A.guards = some []) (hu : X.A.units + 100 < cLine) : CallR X (.builtin "repr") (rRepr F) := by
  intro pins s σ H vs us Q I r h
  obtain ⟨O, d, v, t, e, td, hr, q⟩ := h
  subst e
  obtain ⟨p, hp, sh, sz, dp, hd, e⟩ := reprD_two hr
  subst e
  cases r with
  | cons r1 r2 =>
    cases r2
    rename_i u
    have ex : Evl.Ex (hid O H) H := fun b o h => (hid_some h).2
    obtain ⟨as, rd, ns⟩ := td.reads hK I ex hp r1
    have line : p.shown.length ≤ sizeLine := Nat.le_trans sz (by decide)
    have fin : ∀ h' u tk, (∀ b o, s.heap.get? b = some o → h'.get? b = some o) → EP X pins σ Q (.str p.shown u) { s with heap := h', toks := tk } := fun h' u tk k => ⟨.str p.shown, H, I.kept k, ⟨_, rfl⟩, q⟩
    cases rd with
    | none => exact PySem.P.repr_of_none (fin s.heap _ _ fun _ _ e => e)
    | bool b =>
      have q := fin s.heap s.toks (s.toks + 1) fun _ _ e => e
      simp only [PyData.shown] at q
      exact PySem.P.repr_of_bool q
    | int i k =>
      have q := fin s.heap s.toks (s.toks + 1) fun _ _ e => e
      simp only [PyData.shown] at q
      exact PySem.P.repr_of_int (by simpa [PyData.showable] using sh) q
    | str x k =>
      have q := fin s.heap s.toks (s.toks + 1) fun _ _ e => e
      simp only [PyData.shown] at q line
      exact PySem.P.repr_of_str q line
    | list h1 h2 h3 h4 => exact repr_of_reads' (.list h1 h2 h3 h4) sh (fun z => ns (hd z)) g (by omega) (fun _ _ e => e) fin line
    | tuple h1 h2 h3 h4 => exact repr_of_reads' (.tuple h1 h2 h3 h4) sh (fun z => ns (hd z)) g (by omega) (fun _ _ e => e) fin line
    | dict h1 h2 h3 h4 h5 => exact repr_of_reads' (.dict h1 h2 h3 h4 h5) sh (fun z => ns (hd z)) g (by omega) (fun _ _ e => e) fin line
end Mi
end

section
set_option Elab.async false
set_option linter.all false
set_option maxRecDepth 100000
set_option maxHeartbeats 4000000
/-! Mi: built-ins' calls. -/
namespace Mi
open PySem PySem.Spec PyProof.Rows L2
theorem CallR.imp {X : Cx} {f : Value} {r r' : List V → Hp → VK → Prop} (h : CallR X f r) (w : ∀ vs H Q, r' vs H Q → r vs H Q) : CallR X f r' :=
  fun pins s σ H vs us Q I rv q => h pins s σ H vs us Q I rv (w vs H Q q)
section
variable {F : Cf} {G : Hp}
theorem Dts.one {vs : List V} {d : D} (t : Dts F G vs [d]) : ∃ v, vs = [v] ∧ Dt F G v d := by
  cases t with
  | cons a b => cases b; exact ⟨_, rfl, a⟩
theorem Dts.two {vs : List V} {d e : D} (t : Dts F G vs [d, e]) : ∃ v u, vs = [v, u] ∧ Dt F G v d ∧ Dt F G u e := by
  cases t with
  | cons a b =>
    obtain ⟨u, rfl, c⟩ := b.one
    exact ⟨_, _, rfl, a, c⟩
theorem allB_vs : ∀ {xs : List D} {vs : List V} {bs : List Bool}, allB xs = some bs → Dts F G vs xs → vs = bs.map V.bl
  | [], _, _, h, t => by
    cases t
    cases h
    rfl
  | .bl b :: r, _, _, h, t => by
    cases t with
    | cons a c =>
      cases a
      unfold allB at h
      cases hr : allB r with
      | none => rw [hr] at h; cases h
      | some bs =>
        rw [hr] at h
        cases h
        rw [allB_vs hr c]
        rfl
  | .non :: _, _, _, h, _ => by cases h
  | .int _ :: _, _, _, h, _ => by cases h
  | .str _ :: _, _, _, h, _ => by cases h
  | .tup _ :: _, _, _, h, _ => by cases h
  | .lst _ :: _, _, _, h, _ => by cases h
  | .obj _ _ :: _, _, _, h, _ => by cases h
  | .dct _ :: _, _, _, h, _ => by cases h
  | .pen :: _, _, _, h, _ => by cases h
  | .clo _ _ :: _, _, _, h, _ => by cases h
theorem allI_vs : ∀ {xs : List D} {vs : List V} {bs : List Int}, allI xs = some bs → Dts F G vs xs → vs = bs.map V.int
  | [], _, _, h, t => by
    cases t
    cases h
    rfl
  | .int b :: r, _, _, h, t => by
    cases t with
    | cons a c =>
      cases a
      unfold allI at h
      cases hr : allI r with
      | none => rw [hr] at h; cases h
      | some bs =>
        rw [hr] at h
        cases h
        rw [allI_vs hr c]
        rfl
  | .non :: _, _, _, h, _ => by cases h
  | .bl _ :: _, _, _, h, _ => by cases h
  | .str _ :: _, _, _, h, _ => by cases h
  | .tup _ :: _, _, _, h, _ => by cases h
  | .lst _ :: _, _, _, h, _ => by cases h
  | .obj _ _ :: _, _, _, h, _ => by cases h
  | .dct _ :: _, _, _, h, _ => by cases h
  | .pen :: _, _, _, h, _ => by cases h
  | .clo _ _ :: _, _, _, h, _ => by cases h
end
/-- a built-in's call on data -/
def rB (F : Cf) (b : Blt) : List V → Hp → VK → Prop := fun vs H Q => ∃ O ds s d, O F.pp ∧ (∀ c, O c → H c ≠ none) ∧ PenAt F H s ∧ Dts F (hid O H) vs ds ∧ bltop b ds = some d ∧
  ∀ w H', Kp F.pp H H' → PenAt F H' s → Dt F (hid O H') w d → Q w H'
def bltV : Blt → Value
  | .len => .builtin "len" | .abs => .builtin "abs" | .int => .type "int" | .tuple => .type "tuple" | .list => .type "list" | .all => .builtin "all" | .any => .builtin "any" | .sum => .builtin "sum"
  | .repr => .builtin "repr" | .gcd => .builtin "math.gcd" | .max => .builtin "max" | .min => .builtin "min"
section
variable {X : Cx} {F : Cf}
theorem bl_len (hK : X.K = F.K) : CallR X (.builtin "len") (rB F .len) := CallR.imp (CallR.or call_len_seq call_len_str) fun vs H Q ⟨O, ds, s, d, pp, tr, p, t, h, q⟩ => by
  have ex : Evl.Ex (hid O H) H := fun b o h => (hid_some h).2
  rcases ds with _ | ⟨x, _ | ⟨y, r⟩⟩
  · cases h
  · obtain ⟨v, rfl, a⟩ := t.one
    cases a <;> (first | (cases h; done) | skip)
    · obtain ⟨hz, e⟩ := guardO h
      subst e
      exact .inr ⟨_, rfl, big_line hz, q _ H .refl p (.int _)⟩
    · rename_i hs hd _
      cases h
      refine .inl ⟨_, _, rfl, .inr (by rw [hK]; exact Evl.ex_t ex hs), ?_⟩
      rw [hd.length]
      exact q _ H .refl p (.int _)
    · rename_i hs hd _
      cases h
      refine .inl ⟨_, _, rfl, .inl (SqL.of (ex _ _ hs)), ?_⟩
      rw [hd.length]
      exact q _ H .refl p (.int _)
  · cases x <;> cases h
theorem bl_abs : CallR X (.builtin "abs") (rB F .abs) := CallR.imp call_abs fun vs H Q ⟨O, ds, s, d, pp, tr, p, t, h, q⟩ => by
  rcases ds with _ | ⟨x, _ | ⟨y, r⟩⟩
  · cases h
  · obtain ⟨v, rfl, a⟩ := t.one
    cases a <;> (first | (cases h; done) | skip)
    cases h
    exact ⟨_, rfl, q _ H .refl p (.int _)⟩
  · cases x <;> cases h
theorem bl_int : CallR X (.type "int") (rB F .int) := CallR.imp call_int1 fun vs H Q ⟨O, ds, s, d, pp, tr, p, t, h, q⟩ => by
  rcases ds with _ | ⟨x, _ | ⟨y, r⟩⟩
  · cases h
  · obtain ⟨v, rfl, a⟩ := t.one
    cases a <;> (first | (cases h; done) | skip)
    · cases h
      exact .inr ⟨_, rfl, q _ H .refl p (.int _)⟩
    · cases h
      exact .inl ⟨_, rfl, q _ H .refl p (.int _)⟩
  · cases x <;> cases h
theorem bl_tuple (hK : X.K = F.K) : CallR X (.type "tuple") (rB F .tuple) := CallR.imp call_tuple_of fun vs H Q ⟨O, ds, s, d, pp, tr, p, t, h, q⟩ => by
  have ex : Evl.Ex (hid O H) H := fun b o h => (hid_some h).2
  rcases ds with _ | ⟨x, _ | ⟨y, r⟩⟩
  · cases h
  · obtain ⟨v, rfl, a⟩ := t.one
    cases a <;> (first | (cases h; done) | skip)
    · rename_i hs hd _
      cases h
      exact ⟨_, _, rfl, .inr ⟨by rw [hK]; exact Evl.ex_t ex hs, q _ H .refl p (.tup hs hd)⟩⟩
    · rename_i hs hd _
      cases h
      exact ⟨_, _, rfl, .inl ⟨SqL.of (ex _ _ hs), fun l hl => q _ _ (Kp.new hl) (p.new hl) (.tup (SqT.of (hid_new fun z => tr l z hl)) (hd.mono (ex_new hl)))⟩⟩
  · cases x <;> cases h
theorem bl_list (hK : X.K = F.K) : CallR X (.type "list") (rB F .list) := CallR.imp call_list_of fun vs H Q ⟨O, ds, s, d, pp, tr, p, t, h, q⟩ => by
  have ex : Evl.Ex (hid O H) H := fun b o h => (hid_some h).2
  rcases ds with _ | ⟨x, _ | ⟨y, r⟩⟩
  · cases h
  · obtain ⟨v, rfl, a⟩ := t.one
    cases a <;> (first | (cases h; done) | skip)
    · rename_i hs hd _
      cases h
      exact ⟨_, _, rfl, .inr (by rw [hK]; exact Evl.ex_t ex hs), fun l hl => q _ _ (Kp.new hl) (p.new hl) (.lst (hid_new fun z => tr l z hl) (hd.mono (ex_new hl)))⟩
    · rename_i hs hd _
      cases h
      exact ⟨_, _, rfl, .inl (SqL.of (ex _ _ hs)), fun l hl => q _ _ (Kp.new hl) (p.new hl) (.lst (hid_new fun z => tr l z hl) (hd.mono (ex_new hl)))⟩
  · cases x <;> cases h
theorem optmap {α β : Type} {o : Option α} {f : α → β} {b : β} (h : o.map f = some b) : ∃ a, o = some a ∧ f a = b := by
  cases o with
  | none => cases h
  | some a => exact ⟨a, rfl, Option.some.inj h⟩
theorem bl_all (hc : X.calm = true) : CallR X (.builtin "all") (rB F .all) := CallR.imp (cr_all hc) fun vs H Q ⟨O, ds, s, d, pp, tr, p, t, h, q⟩ => by
  have ex : Evl.Ex (hid O H) H := fun b o h => (hid_some h).2
  rcases ds with _ | ⟨x, _ | ⟨y, r⟩⟩
  · cases h
  · obtain ⟨v, rfl, a⟩ := t.one
    cases a <;> (first | (cases h; done) | skip)
    rename_i hs hd _
    obtain ⟨bs, e, rfl⟩ := optmap h
    have e2 := allB_vs e hd
    subst e2
    exact ⟨_, bs, rfl, SqL.of (ex _ _ hs), q _ H .refl p (.bl _)⟩
  · cases x <;> cases h
theorem bl_any (hc : X.calm = true) : CallR X (.builtin "any") (rB F .any) := CallR.imp (cr_any hc) fun vs H Q ⟨O, ds, s, d, pp, tr, p, t, h, q⟩ => by
  have ex : Evl.Ex (hid O H) H := fun b o h => (hid_some h).2
  rcases ds with _ | ⟨x, _ | ⟨y, r⟩⟩
  · cases h
  · obtain ⟨v, rfl, a⟩ := t.one
    cases a <;> (first | (cases h; done) | skip)
    rename_i hs hd _
    obtain ⟨bs, e, rfl⟩ := optmap h
    have e2 := allB_vs e hd
    subst e2
    exact ⟨_, bs, rfl, SqL.of (ex _ _ hs), q _ H .refl p (.bl _)⟩
  · cases x <;> cases h
theorem bl_sum (hc : X.calm = true) : CallR X (.builtin "sum") (rB F .sum) := CallR.imp (cr_sum hc) fun vs H Q ⟨O, ds, s, d, pp, tr, p, t, h, q⟩ => by
  have ex : Evl.Ex (hid O H) H := fun b o h => (hid_some h).2
  rcases ds with _ | ⟨x, _ | ⟨y, r⟩⟩
  · cases h
  · obtain ⟨v, rfl, a⟩ := t.one
    cases a <;> (first | (cases h; done) | skip)
    rename_i hs hd _
    obtain ⟨bs, e, rfl⟩ := optmap h
    have e2 := allI_vs e hd
    subst e2
    exact ⟨_, bs, rfl, SqL.of (ex _ _ hs), q _ H .refl p (.int _)⟩
  · cases x <;> cases h
theorem bl_repr (hK : X.K = F.K) (g : X.A.guards = some []) (hu : X.A.units + 100 < cLine) : CallR X (.builtin "repr") (rB F .repr) := CallR.imp (call_reprD hK g hu) fun vs H Q ⟨O, ds, s, d, pp, tr, p, t, h, q⟩ => by
  rcases ds with _ | ⟨x, _ | ⟨y, r⟩⟩
  · cases h
  · obtain ⟨v, rfl, a⟩ := t.one
    have h : (reprD x).map D.str = some d := h
    obtain ⟨z, e, rfl⟩ := optmap h
    exact ⟨O, x, v, z, rfl, a, e, q _ H .refl p (.str _)⟩
  · cases x <;> cases h
theorem bl_gcd : CallR X (.builtin "math.gcd") (rB F .gcd) := CallR.imp cr_gcd fun vs H Q ⟨O, ds, s, d, pp, tr, p, t, h, q⟩ => by
  rcases ds with _ | ⟨x, _ | ⟨y, _ | ⟨z, r⟩⟩⟩
  · cases h
  · cases x <;> cases h
  · obtain ⟨v, u, rfl, a, b⟩ := t.two
    cases a <;> (first | (cases h; done) | skip) <;> cases b <;> (first | (cases h; done) | skip)
    cases h
    exact ⟨_, _, rfl, q _ H .refl p (.int _)⟩
  · cases x <;> (first | (cases h; done) | skip)
    cases y <;> cases h
theorem bl_max (hc : X.calm = true) : CallR X (.builtin "max") (rB F .max) := CallR.imp (call_max2 hc) fun vs H Q ⟨O, ds, s, d, pp, tr, p, t, h, q⟩ => by
  rcases ds with _ | ⟨x, _ | ⟨y, _ | ⟨z, r⟩⟩⟩
  · cases h
  · cases x <;> cases h
  · obtain ⟨v, u, rfl, a, b⟩ := t.two
    cases a <;> (first | (cases h; done) | skip) <;> cases b <;> (first | (cases h; done) | skip)
    cases h
    exact ⟨_, _, rfl, q _ H .refl p (.int _)⟩
  · cases x <;> (first | (cases h; done) | skip)
    cases y <;> cases h
theorem bl_min (hc : X.calm = true) : CallR X (.builtin "min") (rB F .min) := CallR.imp (call_min2 hc) fun vs H Q ⟨O, ds, s, d, pp, tr, p, t, h, q⟩ => by
  rcases ds with _ | ⟨x, _ | ⟨y, _ | ⟨z, r⟩⟩⟩
  · cases h
  · cases x <;> cases h
  · obtain ⟨v, u, rfl, a, b⟩ := t.two
    cases a <;> (first | (cases h; done) | skip) <;> cases b <;> (first | (cases h; done) | skip)
    cases h
    exact ⟨_, _, rfl, q _ H .refl p (.int _)⟩
  · cases x <;> (first | (cases h; done) | skip)
    cases y <;> cases h
/-- the call of a built-in, its arguments read by ta -/
theorem pe_blt {e : Expr} {es : List Expr} {x : Str} {p pos : Pos} {ta : TA} (b : Blt) (hb : b ≠ .gcd) (hK : X.K = F.K) (hc : X.calm = true) (g : X.A.guards = some []) (hu : X.A.units + 100 < cLine) (hg : Gl X x) (hx : x = bltS b) (hm : X.mg x = none) (ha : PA X (e :: es) ta)
    (he : starEach (e :: es) X.env = (false, eval e X.env) :: starEach es X.env) (hpl : (backTo pos (starEach es X.env)).any (·.1) = false) : PE X (.Call (.Name x p) (e :: es) [] pos) (tCB (rB F b) ta) := by
  subst hx
  cases b with
  | len => exact pe_callB (bl_len hK) hg hm (by decide +kernel) ha (by decide) (by decide) he hpl
  | abs => exact pe_callB bl_abs hg hm (by decide +kernel) ha (by decide) (by decide) he hpl
  | int => exact pe_callTy bl_int hg hm (by decide +kernel) ha (by decide) (by decide) he hpl
  | tuple => exact pe_callTy (bl_tuple hK) hg hm (by decide +kernel) ha (by decide) (by decide) he hpl
  | list => exact pe_callTy (bl_list hK) hg hm (by decide +kernel) ha (by decide) (by decide) he hpl
  | all => exact pe_callB (bl_all hc) hg hm (by decide +kernel) ha (by decide) (by decide) he hpl
  | any => exact pe_callB (bl_any hc) hg hm (by decide +kernel) ha (by decide) (by decide) he hpl
  | sum => exact pe_callB (bl_sum hc) hg hm (by decide +kernel) ha (by decide) (by decide) he hpl
  | repr => exact pe_callB (bl_repr hK g hu) hg hm (by decide +kernel) ha (by decide) (by decide) he hpl
  | gcd => exact absurd rfl hb
  | max => exact pe_callB (bl_max hc) hg hm (by decide +kernel) ha (by decide) (by decide) he hpl
  | min => exact pe_callB (bl_min hc) hg hm (by decide +kernel) ha (by decide) (by decide) he hpl
end
end Mi
end

section
set_option Elab.async false
set_option linter.all false
set_option maxRecDepth 100000
set_option maxHeartbeats 4000000
/-! Mi: the readings of expressions, rule by rule. -/
namespace Mi
open PySem PySem.Spec PyProof.Rows L2

section
variable {X : Cx} {F : Cf} {Γ : Tb} {n : Nat} {E : XK} {e f h' : Expr} {es : List Expr} {pos : Pos} {a b c : Ex} {as : Es}

theorem snd_var {i : Nat} {x : Str} (hN : X.N[i]? = some x) (hv : Vis X.env.scope x) (ok : NameOk x) : PE X (.Name x pos) (tE F Γ n E (.var i)) :=
  PE.imp (pe_var hN hv ok.d ok.c) fun σ H Q ⟨O, ρ, ad, s, R, h⟩ => by
    unfold evalE at h
    split at h
    · rename_i d e1
      obtain ⟨v, e2, t⟩ := R.val i d e1
      exact ⟨v, e2, h v H .refl R.pen t⟩
    · exact h.elim
theorem snd_int {i : Int} {j} : PE X (.Constant (.int i) j pos) (tE F Γ n E (.int i)) := PE.imp pe_int fun σ H Q ⟨O, ρ, ad, s, R, h⟩ => by
  unfold evalE at h
  exact h _ H .refl R.pen (.int _)
theorem snd_bl {i : Bool} {j} : PE X (.Constant (.bool i) j pos) (tE F Γ n E (.bl i)) := PE.imp pe_bl fun σ H Q ⟨O, ρ, ad, s, R, h⟩ => by
  unfold evalE at h
  exact h _ H .refl R.pen (.bl _)
theorem snd_non {j} : PE X (.Constant .none j pos) (tE F Γ n E .non) := PE.imp pe_non fun σ H Q ⟨O, ρ, ad, s, R, h⟩ => by
  unfold evalE at h
  exact h _ H .refl R.pen .non
theorem snd_str {i : Str} {j} : PE X (.Constant (.str i) j pos) (tE F Γ n E (.str i)) := PE.imp pe_str fun σ H Q ⟨O, ρ, ad, s, R, h⟩ => by
  unfold evalE at h
  exact h _ H .refl R.pen (.str _)
theorem snd_glob {g : Nat} {x : Str} (hg : Gl X x) (ok : NameOk x) (h : ∃ u v, X.mg x = some u ∧ RelV v u ∧ ∀ G, Dt F G v (Γ.gl g)) : PE X (.Name x pos) (tE F Γ n E (.glob g)) := by
  obtain ⟨u, v, hm, r, t⟩ := h
  exact PE.imp (pe_glob hg hm r ok.d) fun σ H Q ⟨O, ρ, ad, s, R, h⟩ => by
    unfold evalE at h
    exact h _ H .refl R.pen (t _)
theorem snd_tup {k} (ha : PA X es (tA F Γ n E as)) : PE X (.Tuple es k pos) (tE F Γ n E (.tup as)) := PE.imp (pe_tup ha) fun σ H Q ⟨O, ρ, ad, s, R, h⟩ => by
  unfold evalE at h
  refine ⟨O, ρ, ad, s, R, h.step fun ds s1 vs H1 k1 p1 t1 h1 => ?_⟩
  obtain ⟨hz, h1⟩ := Post.guard h1
  have R1 := R.kp k1 p1
  exact ⟨by rw [t1.length]; exact big_line hz, fun p hp => h1 _ _ (Kp.new hp) (p1.new hp) (.tup (SqT.of (hid_new (R1.new hp))) (t1.mono (ex_new hp)))⟩
theorem snd_lst (ha : PA X es (tA F Γ n E as)) : PE X (.List es pos) (tE F Γ n E (.lst as)) := PE.imp (pe_lst ha) fun σ H Q ⟨O, ρ, ad, s, R, h⟩ => by
  unfold evalE at h
  refine ⟨O, ρ, ad, s, R, h.step fun ds s1 vs H1 k1 p1 t1 h1 => ?_⟩
  obtain ⟨hz, h1⟩ := Post.guard h1
  have R1 := R.kp k1 p1
  exact ⟨by rw [t1.length]; exact big_line hz, fun p hp => h1 _ _ (Kp.new hp) (p1.new hp) (.lst (hid_new (R1.new hp)) (t1.mono (ex_new hp)))⟩
theorem snd_bin {o : Bop} (ha : PE X e (tE F Γ n E a)) (hb : PE X f (tE F Γ n E b)) : PE X (.BinOp e (bopA o) f pos) (tE F Γ n E (.bin o a b)) := PE.imp (pe_op (op_bin o) ha hb) fun σ H Q ⟨O, ρ, ad, s, R, h⟩ => by
  unfold evalE at h
  refine ⟨O, ρ, ad, s, R, h.step fun x s1 v H1 k1 p1 t1 h1 => ?_⟩
  have R1 := R.kp k1 p1
  refine ⟨O, ρ, ad, s1, R1, h1.step fun y s2 u H2 k2 p2 t2 h2 => ?_⟩
  exact bin_ok h2 p2 (R1.kp k2 p2).trk (t1.mono (R1.exh k2)) t2
theorem snd_neg (ha : PE X e (tE F Γ n E a)) : PE X (.UnaryOp .USub e pos) (tE F Γ n E (.neg a)) := PE.imp (pe_un un_neg ha) fun σ H Q ⟨O, ρ, ad, s, R, h⟩ => by
  unfold evalE at h
  refine ⟨O, ρ, ad, s, R, h.step fun x s1 v H1 k1 p1 t1 h1 => ?_⟩
  cases t1 <;> (first | (exact False.elim h1) | skip)
  exact ⟨_, rfl, h1 _ H1 .refl p1 (.int _)⟩
theorem snd_cmp {o : Cop} (hK : X.K = F.K) (hu : X.A.units + 64 < cLine) (hs : noSet f = true) (ha : PE X e (tE F Γ n E a)) (hb : PE X f (tE F Γ n E b)) : PE X (.Compare e [copA o] [f] pos) (tE F Γ n E (.cmp o a b)) :=
  PE.imp (pe_cmpR (op_cmp hu o) ha hb (notSet_in hs)) fun σ H Q ⟨O, ρ, ad, s, R, h⟩ => by
    unfold evalE at h
    refine ⟨O, ρ, ad, s, R, h.step fun x s1 v H1 k1 p1 t1 h1 => ?_⟩
    have R1 := R.kp k1 p1
    refine ⟨O, ρ, ad, s1, R1, h1.step fun y s2 u H2 k2 p2 t2 h2 => ?_⟩
    obtain ⟨d, e, q⟩ := Post.opt h2
    obtain ⟨z, e2, rfl⟩ := optmap e
    rw [hK]
    exact cmp_ok e2 (t1.mono (R1.exh k2)) t2 (q _ H2 .refl p2 (.bl _))
theorem snd_chain {o p : Cop} (hK : X.K = F.K) (hu : X.A.units + 64 < cLine) (h1 : noSet f = true) (h2 : noSet h' = true) (ha : PE X e (tE F Γ n E a)) (hb : PE X f (tE F Γ n E b)) (hc : PE X h' (tE F Γ n E c)) :
    PE X (.Compare e [copA o, copA p] [f, h'] pos) (tE F Γ n E (.chain o p a b c)) :=
  PE.imp (pe_chain (op_cmp hu o) (op_cmp hu p) ha hb hc (show behindInMarks (copA p) h' = false from notSet_in h2)) fun σ H Q ⟨O, ρ, ad, s, R, h⟩ => by
    unfold evalE at h
    refine ⟨O, ρ, ad, s, R, h.step fun x s1 v H1 k1 p1 t1 h1 => ?_⟩
    have R1 := R.kp k1 p1
    refine ⟨O, ρ, ad, s1, R1, h1.step fun y s2 u H2 k2 p2 t2 h2 => ?_⟩
    have R2 := R1.kp k2 p2
    rw [hK]
    cases hq : cmpop o x y with
    | none => rw [hq] at h2; exact False.elim h2
    | some z =>
      refine cmp_ok hq (t1.mono (R1.exh k2)) t2 ⟨z, rfl, ?_⟩
      rw [hq] at h2
      cases z with
      | false => exact iteF (h2 _ H2 .refl p2 (.bl _))
      | true =>
        refine iteT ⟨O, ρ, ad, s2, R2, Post.step h2 fun w s3 u3 H3 k3 p3 t3 h3 => ?_⟩
        obtain ⟨d, e, q⟩ := Post.opt h3
        obtain ⟨z, e2, rfl⟩ := optmap e
        exact cmp_ok e2 (t2.mono (R2.exh k3)) t3 (q _ H3 .refl p3 (.bl _))
theorem snd_sub (hK : X.K = F.K) (hs : noSl f = true) (ha : PE X e (tE F Γ n E a)) (hb : PE X f (tE F Γ n E b)) : PE X (.Subscript e f pos) (tE F Γ n E (.sub a b)) :=
  PE.imp (pe_ix ix_seq ha hb (plain_ix hs)) fun σ H Q ⟨O, ρ, ad, s, R, h⟩ => by
    unfold evalE at h
    refine ⟨O, ρ, ad, s, R, h.step fun x s1 v H1 k1 p1 t1 h1 => ?_⟩
    have R1 := R.kp k1 p1
    refine ⟨O, ρ, ad, s1, R1, h1.step fun y s2 u H2 k2 p2 t2 h2 => ?_⟩
    obtain ⟨d, e, q⟩ := Post.opt h2
    exact sub_ok hK e p2 (t1.mono (R1.exh k2)) t2 fun w t => q w H2 .refl p2 t
theorem snd_not (hK : X.K = F.K) (ha : PE X e (tE F Γ n E a)) : PE X (.UnaryOp .Not e pos) (tE F Γ n E (.not_ a)) := PE.imp (pe_notT ha) fun σ H Q ⟨O, ρ, ad, s, R, h⟩ => by
  unfold evalE at h
  refine ⟨O, ρ, ad, s, R, h.step fun x s1 v H1 k1 p1 t1 h1 => ?_⟩
  obtain ⟨d, e, q⟩ := Post.opt h1
  obtain ⟨z, e2, rfl⟩ := optmap e
  have ex : Evl.Ex (hid O H1) H1 := fun b o h => (hid_some h).2
  exact ⟨z, by rw [hK]; exact t1.tru ex e2, q _ H1 .refl p1 (.bl _)⟩
/-- a test out of a term's end -/
theorem Post.test {β : Type} {α : Type} {rel : Hp → β → α → Prop} {O : Addr → Prop} {H : Hp} {Q : β → Hp → Prop} {Q1 : Bool → Hp → Prop} {r : R D} {k : D → Pen → R α} (h : Post F O H E rel Q (r.bind k))
    (w : ∀ x s b H', Kp F.pp H H' → PenAt F H' s → Post F O H' E rel Q (k x s) → truth x = some b → Q1 b H') (nn : ∀ x s, truth x = none → k x s = .bad) : Post F O H E (fun _ b c => b = c) Q1 (r.bind fun x s1 => Mi.opt s1 (truth x)) := by
  cases r with
  | err c fs s => exact h
  | bad => exact h
  | ok x s =>
    show Post F O H E _ Q1 (Mi.opt s (truth x))
    cases hq : truth x with
    | none =>
      have z : Post F O H E rel Q (k x s) := h
      rw [nn x s hq] at z
      exact z
    | some b =>
      intro b' H' k' p' e
      have e : b' = b := e
      subst e
      exact w x s b' H' k' p' (Post.later (r := k x s) h k') hq
theorem snd_ite (hc : PT X h' (tT F Γ n E c)) (ha : PE X e (tE F Γ n E a)) (hb : PE X f (tE F Γ n E b)) : PE X (.IfExp h' e f pos) (tE F Γ n E (.ite c a b)) := PE.imp (pe_ifExp hc ha hb) fun σ H Q ⟨O, ρ, ad, s, R, h⟩ => by
  unfold evalE at h
  refine ⟨O, ρ, ad, s, R, h.test (fun x s1 b' H1 k1 p1 h1 hq => ?_) fun x s1 hq => by rw [hq]⟩
  have R1 := R.kp k1 p1
  rw [hq] at h1
  cases b' with
  | true => exact iteT ⟨O, ρ, ad, s1, R1, h1⟩
  | false => exact iteF ⟨O, ρ, ad, s1, R1, h1⟩
theorem snd_nil : PA X [] (tA F Γ n E .nil) := PA.imp pa_nil fun σ H Q ⟨O, ρ, ad, s, R, h⟩ => by
  unfold evalA at h
  exact h _ H .refl R.pen .nil
theorem snd_cons (hs : noStar e = true) (ha : PE X e (tE F Γ n E a)) (hr : PA X es (tA F Γ n E as)) : PA X (e :: es) (tA F Γ n E (.cons a as)) := PA.imp (pa_cons ha hr (star_at hs)) fun σ H Q ⟨O, ρ, ad, s, R, h⟩ => by
  unfold evalA at h
  refine ⟨O, ρ, ad, s, R, h.step fun x s1 v H1 k1 p1 t1 h1 => ?_⟩
  have R1 := R.kp k1 p1
  refine ⟨O, ρ, ad, s1, R1, h1.step fun y s2 u H2 k2 p2 t2 h2 => ?_⟩
  exact h2 _ H2 .refl p2 (.cons (t1.mono (R1.exh k2)) t2)
theorem snd_call {g : Nat} {x : Str} {p : Pos} (gd : X.A.guards = some []) (hg : Gl X x) (ok : NameOk x) (hf : ckFn X F Γ E g x) (hs : es.all noStar = true) (ha : PA X es (tA F Γ n E as)) (hn : as = .nil ∨ es ≠ []) : PE X (.Call (.Name x p) es [] pos) (tE F Γ n E (.call g as)) := by
  obtain ⟨f, fd, ps, k, sem, hm, hk, hb, hr, hx, hs2, G⟩ := hf
  cases es with
  | nil =>
    rcases hn with hn | hn
    · subst hn
      exact PE.imp (pe_go0 G gd hr hg hm hk hb hx ok.d) fun σ H Q ⟨O, ρ, ad, s, R, h⟩ => by
        unfold evalE evalA at h
        have h : Post F O H E (Dt F) Q (Γ.fn g [] s) := h
        rw [hs2] at h
        obtain ⟨hl, h⟩ := Post.guard h
        exact ⟨O, [], s, R.pp, R.trk, R.pen, .nil, hl, h⟩
    · exact absurd rfl hn
  | cons e es =>
    rw [List.all_cons, Bool.and_eq_true] at hs
    exact PE.imp (pe_go G gd hr hg hm hk hb hx ha ok.d (star_at hs.1) (star_any hs.2)) fun σ H Q ⟨O, ρ, ad, s, R, h⟩ => by
      unfold evalE at h
      refine ⟨O, ρ, ad, s, R, h.step fun x s1 v H1 k1 p1 t1 h1 => ?_⟩
      have R1 := R.kp k1 p1
      rw [hs2] at h1
      obtain ⟨hl, h1⟩ := Post.guard h1
      exact ⟨O, x, s1, R1.pp, R1.trk, p1, t1, hl, h1⟩
theorem snd_blt {o : Blt} {x : Str} {p : Pos} (ho : o ≠ .gcd) (hK : X.K = F.K) (hc : X.calm = true) (gd : X.A.guards = some []) (hu : X.A.units + 100 < cLine) (hg : Gl X x) (hx : x = bltS o) (hm : X.mg x = none) (hs : es.all noStar = true) (hne : es ≠ []) (ha : PA X es (tA F Γ n E as)) :
    PE X (.Call (.Name x p) es [] pos) (tE F Γ n E (.blt o as)) := by
  cases es with
  | nil => exact absurd rfl hne
  | cons e es =>
    rw [List.all_cons, Bool.and_eq_true] at hs
    exact PE.imp (pe_blt (F := F) o ho hK hc gd hu hg hx hm ha (star_at hs.1) (star_any hs.2)) fun σ H Q ⟨O, ρ, ad, s, R, h⟩ => by
      unfold evalE at h
      refine ⟨O, ρ, ad, s, R, h.step fun ds s1 vs H1 k1 p1 t1 h1 => ?_⟩
      obtain ⟨d, e, q⟩ := Post.opt h1
      have R1 := R.kp k1 p1
      exact ⟨O, ds, s1, d, R1.pp, R1.trk, p1, t1, e, q⟩
theorem snd_gcd {x : Str} {p : Pos} (hg : Gl X x) (hx : x = "gcd") (hm : X.mg "gcd" = some (.builtin "math.gcd")) (hs : es.all noStar = true) (hne : es ≠ []) (ha : PA X es (tA F Γ n E as)) :
    PE X (.Call (.Name x p) es [] pos) (tE F Γ n E (.blt .gcd as)) := by
  subst hx
  cases es with
  | nil => exact absurd rfl hne
  | cons e es =>
    rw [List.all_cons, Bool.and_eq_true] at hs
    exact PE.imp (pe_callBfun (bl_gcd (F := F)) hg hm ha (by decide) (star_at hs.1) (star_any hs.2)) fun σ H Q ⟨O, ρ, ad, s, R, h⟩ => by
      unfold evalE at h
      refine ⟨O, ρ, ad, s, R, h.step fun ds s1 vs H1 k1 p1 t1 h1 => ?_⟩
      obtain ⟨d, e, q⟩ := Post.opt h1
      have R1 := R.kp k1 p1
      exact ⟨O, ds, s1, d, R1.pp, R1.trk, p1, t1, e, q⟩
theorem snd_isi {t : Ty} {y : Str} {p p2 : Pos} (hK : X.K = F.K) (hg : Gl X "isinstance") (hm : X.mg "isinstance" = none) (hg2 : Gl X y) (hy : y = tyS t) (hm2 : X.mg y = none) (hs : noStar e = true) (ha : PE X e (tE F Γ n E a)) :
    PE X (.Call (.Name "isinstance" p) [e, .Name y p2] [] pos) (tE F Γ n E (.isi a [t])) := by
  subst hy
  have hn : tyS t ≠ "__name__" := by cases t <;> decide
  have hd : (tyS t == ("__debug__" : Str)) = false := by cases t <;> decide
  have hv : PE X (.Name (tyS t) p2) (tC (.ty (tyN t))) := pe_bltn hg2 hm2 (ty_boot t) rfl hn hd
  refine PE.imp (pe_callB call_isi hg hm (by decide +kernel) (pa_cons ha (pa_cons hv pa_nil (star_at rfl)) (star_at hs)) (by decide) (by decide) (star_at hs) (star_any (by rfl))) fun σ H Q ⟨O, ρ, ad, s, R, h⟩ => ?_
  unfold evalE at h
  refine ⟨O, ρ, ad, s, R, h.step fun x s1 v H1 k1 p1 t1 h1 => ?_⟩
  obtain ⟨d, e, q⟩ := Post.opt h1
  obtain ⟨z, e2, rfl⟩ := optmap e
  have e3 : isTy1 x t = some z := by
    unfold isTy at e2
    cases hq : isTy1 x t with
    | none => rw [hq] at e2; cases e2
    | some b =>
      rw [hq] at e2
      have e2 : some (b || false) = some z := e2
      rw [Bool.or_false] at e2
      exact e2
  obtain ⟨u, ty, ko⟩ := isTy1_ok e3 t1
  rw [hK]
  exact ⟨v, .ty (tyN t), u, .type (tyN t), z, rfl, .ty _, ty, ko, q _ H1 .refl p1 (.bl _)⟩
/-- written names of types -/
theorem pa_tys : ∀ {k : Ck} {ts : List Ty} {fs : List Expr}, X.env.scope = k.sc → (∀ x ∈ k.bl, X.mg x = none) → chkTys k ts fs = true → PA X fs (fun _ H Q => Q (ts.map fun t => V.ty (tyN t)) H)
  | k, [], [], _, _, _ => PA.imp pa_nil fun _ _ _ q => q
  | k, [], _ :: _, _, _, h => by simp [chkTys] at h
  | k, t :: ts, [], _, _, h => by simp [chkTys] at h
  | k, t :: ts, f :: fs, hsc, hbl, h => by
    cases f <;> (first | (simp [chkTys] at h; done) | skip)
    simp only [chkTys, Bool.and_eq_true, decide_eq_true_eq] at h
    obtain ⟨⟨⟨hx, hg⟩, hb⟩, hr⟩ := h
    subst hx
    have hn : tyS t ≠ "__name__" := by cases t <;> decide
    have hd : (tyS t == ("__debug__" : Str)) = false := by cases t <;> decide
    have hm : X.mg (tyS t) = none := by
      unfold inBl at hb
      rw [List.any_eq_true] at hb
      obtain ⟨y, hy, e⟩ := hb
      rw [← of_decide_eq_true e]
      exact hbl y hy
    have hgl : Gl X (tyS t) := by
      show X.env.scope.names.lookup _ = _
      rw [hsc]
      exact of_decide_eq_true hg
    exact PA.imp (pa_cons (pe_bltn hgl hm (ty_boot t) (v := .ty (tyN t)) rfl hn hd) (pa_tys hsc hbl hr) (star_at rfl)) fun _ _ _ q => q
theorem snd_isiT {k : Ck} {ts : List Ty} {fs : List Expr} {p p2 : Pos} {kk : Nat} (hK : X.K = F.K) (hg : Gl X "isinstance") (hm : X.mg "isinstance" = none) (hsc : X.env.scope = k.sc) (hbl : ∀ x ∈ k.bl, X.mg x = none) (ht : chkTys k ts fs = true) (hl : ts.length ≤ 10) (hne : ts ≠ []) (hs : noStar e = true) (ha : PE X e (tE F Γ n E a)) :
    PE X (.Call (.Name "isinstance" p) [e, .Tuple fs kk p2] [] pos) (tE F Γ n E (.isi a ts)) := by
  refine PE.imp (pe_callB call_isiT hg hm (by decide +kernel) (pa_cons ha (pa_cons (pe_tup (pa_tys hsc hbl ht)) pa_nil (star_at rfl)) (star_at hs)) (by decide) (by decide) (star_at hs) (star_any (by rfl))) fun σ H Q ⟨O, ρ, ad, s, R, h⟩ => ?_
  unfold evalE at h
  refine ⟨O, ρ, ad, s, R, h.step fun x s1 v H1 k1 p1 t1 h1 => ?_⟩
  have R1 := R.kp k1 p1
  obtain ⟨d, e, q⟩ := Post.opt h1
  obtain ⟨z, e2, rfl⟩ := optmap e
  have hx : ∃ t b, isTy1 x t = some b := by
    cases ts with
    | nil => exact absurd rfl hne
    | cons t r =>
      refine ⟨t, ?_⟩
      unfold isTy at e2
      cases hq : isTy1 x t with
      | none => rw [hq] at e2; cases e2
      | some b => exact ⟨b, rfl⟩
  have cls : ∀ ts : List Ty, Paired ClsV (ts.map fun t => V.ty (tyN t)) (ts.map fun t => Value.type (tyN t)) := fun ts => by
    induction ts with
    | nil => exact .nil
    | cons t r ih => exact .cons (.ty _) ih
  refine ⟨by rw [List.length_map]; exact Nat.le_trans hl (by decide), fun tp htp => ?_⟩
  have t2 := t1.mono (ex_new (O := O) (o := .tup (ts.map fun t => V.ty (tyN t))) htp)
  obtain ⟨u, ty, ko⟩ := isTy1_all t2 hx
  rw [hK]
  exact ⟨v, tp, _, u, ts.map fun t => .type (tyN t), z, rfl, upd_same, cls ts, ty, isTy_ok ty t2 ko e2, q _ _ (Kp.new htp) (p1.new htp) (.bl _)⟩
theorem snd_bits {p p2 : Pos} (hb : plainAttr e = true) (hl : (p.endLine == p2.line) = true) (ha : PE X e (tE F Γ n E a)) : PE X (.Call (.Attribute e "bit_length" p) [] [] p2) (tE F Γ n E (.bits a)) := PE.imp (pe_bits ha (plain_attr hb) hl) fun σ H Q ⟨O, ρ, ad, s, R, h⟩ => by
  unfold evalE at h
  refine ⟨O, ρ, ad, s, R, h.step fun x s1 v H1 k1 p1 t1 h1 => ?_⟩
  cases t1 <;> (first | (exact False.elim h1) | skip)
  exact ⟨_, rfl, h1 _ H1 .refl p1 (.int _)⟩
theorem snd_lenO {i : Nat} {y : Str} {p p2 : Pos} (hg : Gl X "len") (hm : X.mg "len" = none) (hN : X.N[i]? = some y) (hv : Vis X.env.scope y) (ok : NameOk y) : PE X (.Call (.Name "len" p) [.Name y p2] [] pos) (tE F Γ n E (.lenO i)) :=
  PE.imp (pe_callB call_len_seq hg hm (by decide +kernel) (pa_cons (pe_var hN hv ok.d ok.c) pa_nil (star_at rfl)) (by decide) (by decide) (star_at rfl) (star_any (by rfl))) fun σ H Q ⟨O, ρ, ad, s, R, h⟩ => by
    unfold evalE at h
    split at h
    · rename_i ds e1
      obtain ⟨o, xs, e2, e3, t⟩ := R.own i ds e1
      refine ⟨_, e2, _, _, rfl, .inl (SqL.of e3), ?_⟩
      rw [t.length]
      exact h _ H .refl R.pen (.int _)
    · exact h.elim
theorem snd_dnew : PE X (.Dict [] [] pos) (tE F Γ n E .dnew) := PE.imp pe_dnewK fun σ H Q ⟨O, ρ, ad, s, R, h⟩ => by
  unfold evalE at h
  exact fun p hp => h _ _ (Kp.new hp) (R.pen.new hp) (.dct (hid_new (R.new hp)) .nil)
/-! ### the pen -/
theorem pen_get {s : Pen} {cc : Addr} (f : PF) : valV (penKV cc s) (.inr (pfS f)) = some (.int (s.get f)) := by cases f <;> rfl
theorem pen_cells {s : Pen} {cc : Addr} : valV (penKV cc s) (.inr "cells") = some (.ref cc) := rfl
theorem pen_put {s : Pen} {cc : Addr} (f : PF) (j : Int) : putK (penKV cc s) (.inr (pfS f)) (.int j) = penKV cc (s.put f j) := by cases f <;> rfl
theorem pen_ix {xs : List Int} {j : Int} {k : Nat} {z : Int} (h : ixN xs.length j = some k) (e : xs[k]? = some z) : atI (xs.map V.int) j = some (.int z) := by
  unfold atI
  rw [List.length_map, h]
  show (xs.map V.int)[k]? = some (.int z)
  rw [List.getElem?_map, e]
  rfl
theorem pen_at {i : Nat} {O : Addr → Prop} {ρ : List Sl} {ad : Nat → Addr} {σ : L2.St} {H : Hp} {s : Pen} (R : Rel F n O ρ ad σ H s) (e : ρ[i]? = some (.val .pen)) : σ[i]? = some (some (.ref F.pp)) := by
  obtain ⟨v, e1, t⟩ := R.val i _ e
  cases t
  exact e1
theorem snd_pget {i : Nat} {y : Str} {p p2 : Pos} {k2} {f : PF} (hu : X.A.units + 64 < cLine) (hN : X.N[i]? = some y) (hv : Vis X.env.scope y) (ok : NameOk y) : PE X (.Subscript (.Name y p) (.Constant (.str (pfS f)) k2 p2) pos) (tE F Γ n E (.pget i f)) :=
  PE.imp (pe_dget (by omega) (pe_var hN hv ok.d ok.c) pe_str (plain_ix rfl)) fun σ H Q ⟨O, ρ, ad, s, R, h⟩ => by
    unfold evalE at h
    split at h
    · rename_i e1
      exact ⟨_, pen_at R e1, _, _, rfl, by rw [← pen_get (cc := F.cc) f]; exact DGet.k (k := .inr (pfS f)) R.pen.d, h _ H .refl R.pen (.int _)⟩
    · exact h.elim
theorem pe_cells {i : Nat} {y : Str} {p p2 : Pos} {k2} (hu : X.A.units + 64 < cLine) (hN : X.N[i]? = some y) (hv : Vis X.env.scope y) (ok : NameOk y) : PE X (.Subscript (.Name y p) (.Constant (.str "cells") k2 p2) pos) (fun σ H Q => ∃ s, σ[i]? = some (some (.ref F.pp)) ∧ PenAt F H s ∧ Q (.ref F.cc) H) :=
  PE.imp (pe_dget (by omega) (pe_var hN hv ok.d ok.c) pe_str (plain_ix rfl)) fun σ H Q ⟨s, e, p, h⟩ => ⟨_, e, _, _, rfl, by rw [← pen_cells (s := s)]; exact DGet.k (k := .inr "cells") p.d, h⟩
theorem snd_plen {i : Nat} {y : Str} {p p2 p3 p4 : Pos} {k2} (hu : X.A.units + 64 < cLine) (hg : Gl X "len") (hm : X.mg "len" = none) (hN : X.N[i]? = some y) (hv : Vis X.env.scope y) (ok : NameOk y) :
    PE X (.Call (.Name "len" p) [.Subscript (.Name y p2) (.Constant (.str "cells") k2 p3) p4] [] pos) (tE F Γ n E (.plen i)) :=
  PE.imp (pe_callB call_len_seq hg hm (by decide +kernel) (pa_cons (pe_cells (F := F) hu hN hv ok) pa_nil (star_at rfl)) (by decide) (by decide) (star_at rfl) (star_any (by rfl))) fun σ H Q ⟨O, ρ, ad, s, R, h⟩ => by
    unfold evalE at h
    split at h
    · rename_i e1
      refine ⟨s, pen_at R e1, R.pen, _, _, rfl, .inl (SqL.of R.pen.c), ?_⟩
      rw [List.length_map]
      exact h _ H .refl R.pen (.int _)
    · exact h.elim
theorem snd_pcell {i : Nat} {y : Str} {p p2 p3 : Pos} {k2} (hu : X.A.units + 64 < cLine) (hs : noSl f = true) (hN : X.N[i]? = some y) (hv : Vis X.env.scope y) (ok : NameOk y) (ha : PE X f (tE F Γ n E a)) :
    PE X (.Subscript (.Subscript (.Name y p) (.Constant (.str "cells") k2 p2) p3) f pos) (tE F Γ n E (.pcell i a)) :=
  PE.imp (pe_ix ix_list (pe_cells (F := F) hu hN hv ok) ha (plain_ix hs)) fun σ H Q ⟨O, ρ, ad, s, R, h⟩ => by
    unfold evalE at h
    split at h
    · rename_i e1
      refine ⟨s, pen_at R e1, R.pen, O, ρ, ad, s, R, h.step fun y s1 u H1 k1 p1 t1 h1 => ?_⟩
      cases t1 <;> (first | (exact False.elim h1) | skip)
      rename_i j
      obtain ⟨d, e4, q⟩ := Post.opt h1
      cases e5 : (ixN s1.cells.length j).bind fun k => s1.cells[k]? with
      | none => rw [e5] at e4; cases e4
      | some z =>
        rw [e5] at e4
        cases e4
        cases e6 : ixN s1.cells.length j with
        | none => rw [e6] at e5; cases e5
        | some k =>
          rw [e6] at e5
          refine ⟨_, _, _, .int z, rfl, rfl, SqL.of p1.c, ?_, q _ H1 .refl p1 (.int z)⟩
          exact pen_ix e6 e5
    · exact h.elim
theorem snd_subO {i : Nat} {y : Str} {p : Pos} (hs : noSl f = true) (hN : X.N[i]? = some y) (hv : Vis X.env.scope y) (ok : NameOk y) (ha : PE X f (tE F Γ n E a)) : PE X (.Subscript (.Name y p) f pos) (tE F Γ n E (.subO i a)) :=
  PE.imp (pe_ix ix_list (pe_var hN hv ok.d ok.c) ha (plain_ix hs)) fun σ H Q ⟨O, ρ, ad, s, R, h⟩ => by
    unfold evalE at h
    split at h
    · rename_i ds e1
      obtain ⟨o, xs, e2, e3, t⟩ := R.own i ds e1
      refine ⟨_, e2, O, ρ, ad, s, R, h.step fun y s1 u H1 k1 p1 t1 h1 => ?_⟩
      cases t1 <;> (first | (exact False.elim h1) | skip)
      obtain ⟨d, e4, q⟩ := Post.opt h1
      have R1 := R.kp k1 p1
      obtain ⟨_, xs', e2', e3', t'⟩ := R1.own i ds e1
      obtain ⟨w, e5, t5⟩ := at_get e4 t'
      exact ⟨_, _, _, w, rfl, rfl, SqL.of e3', e5, q w H1 .refl p1 t5⟩
    · exact h.elim

/-! ### and, or by value -/
theorem snd_and1 {op} (ha : PE X e (tE F Γ n E a)) : PE X (.BoolOp op [e] pos) (tAnds F Γ n E (.cons a .nil)) := PE.imp (pe_one ha) fun σ H Q ⟨O, ρ, ad, s, R, h⟩ => by
  unfold evalAnd at h
  exact ⟨O, ρ, ad, s, R, h⟩
theorem snd_or1 {op} (ha : PE X e (tE F Γ n E a)) : PE X (.BoolOp op [e] pos) (tOrs F Γ n E (.cons a .nil)) := PE.imp (pe_one ha) fun σ H Q ⟨O, ρ, ad, s, R, h⟩ => by
  unfold evalOr at h
  exact ⟨O, ρ, ad, s, R, h⟩
theorem snd_andC {r : Es} (hK : X.K = F.K) (ha : PE X e (tE F Γ n E a)) (hb : PE X (.BoolOp .And (f :: es) pos) (tAnds F Γ n E (.cons b r))) : PE X (.BoolOp .And (e :: f :: es) pos) (tAnds F Γ n E (.cons a (.cons b r))) :=
  PE.imp (pe_andT ha hb) fun σ H Q ⟨O, ρ, ad, s, R, h⟩ => by
    unfold evalAnd at h
    refine ⟨O, ρ, ad, s, R, h.step fun x s1 v H1 k1 p1 t1 h1 => ?_⟩
    have R1 := R.kp k1 p1
    have ex : Evl.Ex (hid O H1) H1 := fun b o h => (hid_some h).2
    rw [hK]
    cases hq : truth x with
    | none => rw [hq] at h1; exact False.elim h1
    | some z =>
      rw [hq] at h1
      refine ⟨z, t1.tru ex hq, ?_⟩
      cases z with
      | true => exact iteT ⟨O, ρ, ad, s1, R1, h1⟩
      | false => exact iteF (h1 v H1 .refl p1 t1)
theorem snd_orC {r : Es} (hK : X.K = F.K) (ha : PE X e (tE F Γ n E a)) (hb : PE X (.BoolOp .Or (f :: es) pos) (tOrs F Γ n E (.cons b r))) : PE X (.BoolOp .Or (e :: f :: es) pos) (tOrs F Γ n E (.cons a (.cons b r))) :=
  PE.imp (pe_orT ha hb) fun σ H Q ⟨O, ρ, ad, s, R, h⟩ => by
    unfold evalOr at h
    refine ⟨O, ρ, ad, s, R, h.step fun x s1 v H1 k1 p1 t1 h1 => ?_⟩
    have R1 := R.kp k1 p1
    have ex : Evl.Ex (hid O H1) H1 := fun b o h => (hid_some h).2
    rw [hK]
    cases hq : truth x with
    | none => rw [hq] at h1; exact False.elim h1
    | some z =>
      rw [hq] at h1
      refine ⟨z, t1.tru ex hq, ?_⟩
      cases z with
      | true => exact iteT (h1 v H1 .refl p1 t1)
      | false => exact iteF ⟨O, ρ, ad, s1, R1, h1⟩

/-! ### tests -/
def tAndsT (F : Cf) (Γ : Tb) (n : Nat) (E : XK) (e : Es) : L2.TT := fun σ H Q => ∃ O ρ ad s, Rel F n O ρ ad σ H s ∧ Post F O H E (fun _ b c => b = c) Q ((evalAnd Γ e ρ s).bind fun x s1 => opt s1 (truth x))
def tOrsT (F : Cf) (Γ : Tb) (n : Nat) (E : XK) (e : Es) : L2.TT := fun σ H Q => ∃ O ρ ad s, Rel F n O ρ ad σ H s ∧ Post F O H E (fun _ b c => b = c) Q ((evalOr Γ e ρ s).bind fun x s1 => opt s1 (truth x))
/-- any form that isn't and, or, not, a comparison, a choice -/
theorem sndT_plain (hK : X.K = F.K) (hp : plainTest e = true) (ha : PE X e (tE F Γ n E a)) : PT X e (tT F Γ n E a) := PT.imp (pt_truth ha (plain_test hp)) fun σ H Q ⟨O, ρ, ad, s, R, h⟩ => by
  unfold evalT at h
  refine ⟨O, ρ, ad, s, R, h.step fun x s1 v H1 k1 p1 t1 h1 => ?_⟩
  have ex : Evl.Ex (hid O H1) H1 := fun b o h => (hid_some h).2
  obtain ⟨b, e1, q⟩ := Post.opt h1
  rw [hK]
  exact ⟨b, t1.tru ex e1, q b H1 .refl p1 rfl⟩
theorem sndT_cmp {o : Cop} (hK : X.K = F.K) (hu : X.A.units + 64 < cLine) (hs : noSet f = true) (ha : PE X e (tE F Γ n E a)) (hb : PE X f (tE F Γ n E b)) : PT X (.Compare e [copA o] [f] pos) (tT F Γ n E (.cmp o a b)) :=
  PT.imp (pt_cmpR (op_cmp hu o) ha hb (notSet_in hs)) fun σ H Q ⟨O, ρ, ad, s, R, h⟩ => by
    unfold evalT evalE at h
    refine ⟨O, ρ, ad, s, R, ?_⟩
    cases hx : evalE Γ a ρ s with
    | err c fs s1 => rw [hx] at h; exact h
    | bad => rw [hx] at h; exact h
    | ok x s1 =>
      rw [hx] at h
      intro v H1 k1 p1 t1
      have R1 := R.kp k1 p1
      refine ⟨O, ρ, ad, s1, R1, ?_⟩
      have h : Post F O H E (fun _ b c => b = c) Q (((evalE Γ b ρ s1).bind fun y s2 => opt s2 ((cmpop o x y).map .bl)).bind fun x s1 => opt s1 (truth x)) := h
      cases hy : evalE Γ b ρ s1 with
      | err c fs s2 =>
        rw [hy] at h
        exact Post.later (r := Mi.R.err c fs s2) h k1
      | bad => rw [hy] at h; exact h
      | ok y s2 =>
        rw [hy] at h
        intro u H2 k2 p2 t2
        have h : Post F O H E (fun _ b c => b = c) Q ((opt s2 ((cmpop o x y).map D.bl)).bind fun x s1 => opt s1 (truth x)) := h
        cases hq : cmpop o x y with
        | none => rw [hq] at h; exact False.elim h
        | some z =>
          rw [hq] at h
          rw [hK]
          exact cmp_ok hq (t1.mono (R1.exh k2)) t2 ⟨z, rfl, h z H2 (k1.trans k2) p2 rfl⟩
theorem sndT_not (ha : PT X e (tT F Γ n E a)) : PT X (.UnaryOp .Not e pos) (tT F Γ n E (.not_ a)) := PT.imp (pt_not ha) fun σ H Q ⟨O, ρ, ad, s, R, h⟩ => by
  unfold evalT evalE at h
  refine ⟨O, ρ, ad, s, R, ?_⟩
  unfold evalT
  cases hx : evalE Γ a ρ s with
  | err c fs s1 => rw [hx] at h; exact h
  | bad => rw [hx] at h; exact h
  | ok x s1 =>
    rw [hx] at h
    have h : Post F O H E (fun _ b c => b = c) Q ((opt s1 ((truth x).map fun b => D.bl (!b))).bind fun x s1 => opt s1 (truth x)) := h
    show Post F O H E _ _ (opt s1 (truth x))
    cases hq : truth x with
    | none => rw [hq] at h; exact False.elim h
    | some z =>
      rw [hq] at h
      intro b H1 k1 p1 e
      have e : b = z := e
      subst e
      exact h (!b) H1 k1 p1 rfl
theorem sndT_and1 (ha : PT X e (tT F Γ n E a)) : PW X (.BoolOp .And [e] pos) (tAndsT F Γ n E (.cons a .nil)) := PW.imp (pw_and1 ha) fun σ H Q ⟨O, ρ, ad, s, R, h⟩ => by
  unfold evalAnd at h
  exact ⟨O, ρ, ad, s, R, h⟩
theorem sndT_or1 (ha : PT X e (tT F Γ n E a)) : PW X (.BoolOp .Or [e] pos) (tOrsT F Γ n E (.cons a .nil)) := PW.imp (pw_or1 ha) fun σ H Q ⟨O, ρ, ad, s, R, h⟩ => by
  unfold evalOr at h
  exact ⟨O, ρ, ad, s, R, h⟩
theorem sndT_andC {r : Es} (ha : PT X e (tT F Γ n E a)) (hb : PW X (.BoolOp .And (f :: es) pos) (tAndsT F Γ n E (.cons b r))) : PW X (.BoolOp .And (e :: f :: es) pos) (tAndsT F Γ n E (.cons a (.cons b r))) :=
  PW.imp (pw_and ha hb) fun σ H Q ⟨O, ρ, ad, s, R, h⟩ => by
    unfold evalAnd at h
    refine ⟨O, ρ, ad, s, R, ?_⟩
    unfold evalT
    cases hx : evalE Γ a ρ s with
    | err c fs s1 => rw [hx] at h; exact h
    | bad => rw [hx] at h; exact h
    | ok x s1 =>
      rw [hx] at h
      have h : Post F O H E (fun _ b c => b = c) Q ((match truth x with
        | some true => evalAnd Γ (.cons b r) ρ s1
        | some false => Mi.R.ok x s1
        | none => .bad).bind fun x s1 => opt s1 (truth x)) := h
      show Post F O H E _ _ (opt s1 (truth x))
      cases hq : truth x with
      | none => rw [hq] at h; exact False.elim h
      | some z =>
        rw [hq] at h
        intro b' H1 k1 p1 e
        have e : b' = z := e
        subst e
        have R1 := R.kp k1 p1
        cases b' with
        | true => exact iteT ⟨O, ρ, ad, s1, R1, Post.later h k1⟩
        | false =>
          have h : Post F O H E (fun _ b c => b = c) Q (opt s1 (truth x)) := h
          rw [hq] at h
          exact iteF (h false H1 k1 p1 rfl)
theorem sndT_orC {r : Es} (ha : PT X e (tT F Γ n E a)) (hb : PW X (.BoolOp .Or (f :: es) pos) (tOrsT F Γ n E (.cons b r))) : PW X (.BoolOp .Or (e :: f :: es) pos) (tOrsT F Γ n E (.cons a (.cons b r))) :=
  PW.imp (pw_or ha hb) fun σ H Q ⟨O, ρ, ad, s, R, h⟩ => by
    unfold evalOr at h
    refine ⟨O, ρ, ad, s, R, ?_⟩
    unfold evalT
    cases hx : evalE Γ a ρ s with
    | err c fs s1 => rw [hx] at h; exact h
    | bad => rw [hx] at h; exact h
    | ok x s1 =>
      rw [hx] at h
      have h : Post F O H E (fun _ b c => b = c) Q ((match truth x with
        | some true => Mi.R.ok x s1
        | some false => evalOr Γ (.cons b r) ρ s1
        | none => .bad).bind fun x s1 => opt s1 (truth x)) := h
      show Post F O H E _ _ (opt s1 (truth x))
      cases hq : truth x with
      | none => rw [hq] at h; exact False.elim h
      | some z =>
        rw [hq] at h
        intro b' H1 k1 p1 e
        have e : b' = z := e
        subst e
        have R1 := R.kp k1 p1
        cases b' with
        | false => exact iteF ⟨O, ρ, ad, s1, R1, Post.later h k1⟩
        | true =>
          have h : Post F O H E (fun _ b c => b = c) Q (opt s1 (truth x)) := h
          rw [hq] at h
          exact iteT (h true H1 k1 p1 rfl)
end
end Mi
end

section
set_option Elab.async false
set_option linter.all false
set_option maxRecDepth 100000
set_option maxHeartbeats 4000000
/-! Mi: what is walked; targets; comprehensions. -/
namespace Mi
open PySem PySem.Spec PyProof.Rows L2

/-! ### what is walked -/
structure WD (F : Cf) (J : L2.It) (ds : List D) (G : Hp → Prop) : Prop where
  goes : ∀ (i : Nat) (O : Addr → Prop) (H : Hp), i < ds.length → G (hid O H) → J.go i H
  stops : ∀ (O : Addr → Prop) (H : Hp), G (hid O H) → J.stop ds.length H
  yields : ∀ (i : Nat) (O : Addr → Prop) (H : Hp) (x : V) (H' : Hp), (∀ b, O b → H b ≠ none) → i < ds.length → G (hid O H) → J.yld i H x H' → (∀ a o, H a = some o → H' a = some o) ∧ ∃ d, ds[i]? = some d ∧ Dt F (hid O H') x d
  mono : ∀ V V', G V → Evl.Ex V V' → G V'
section
variable {F : Cf} {V V' : Hp}
theorem Dts.at {vs : List L2.V} {ds : List D} {i : Nat} (t : Dts F V vs ds) (hi : i < ds.length) : ∃ v d, vs[i]? = some v ∧ ds[i]? = some d ∧ Dt F V v d := by
  obtain ⟨v, e, q⟩ := t.get (i := i) (x := ds[i]) (by simp [hi])
  exact ⟨v, ds[i], e, by simp [hi], q⟩
theorem wd_list {a : Addr} {xs : List L2.V} {ds : List D} : WD F (Itl F.K a) ds (fun V => V a = some (.lst xs) ∧ Dts F V xs ds) where
  goes := fun i O H hi ⟨g, t⟩ => by
    obtain ⟨v, d, e, _, _⟩ := t.at hi
    exact ⟨xs, v, SqL.of (hid_some g).2, e⟩
  stops := fun O H ⟨g, t⟩ => ⟨xs, SqL.of (hid_some g).2, Nat.le_of_eq t.length⟩
  yields := fun i O H x H' _ hi ⟨g, t⟩ ⟨e, y⟩ => by
    subst e
    obtain ⟨v, d, e, e2, q⟩ := t.at hi
    have z := y xs (SqL.of (hid_some g).2)
    rw [e] at z
    cases z
    exact ⟨fun _ _ h => h, d, e2, q⟩
  mono := fun V V' ⟨g, t⟩ e => ⟨e _ _ g, t.mono e⟩
theorem wd_tup {a : Addr} {xs : List L2.V} {ds : List D} : WD F (Itt F.K a) ds (fun V => SqT F.K V a xs ∧ Dts F V xs ds) where
  goes := fun i O H hi ⟨g, t⟩ => by
    obtain ⟨v, d, e, _, _⟩ := t.at hi
    exact ⟨xs, v, Evl.ex_t (fun b o h => (hid_some h).2) g, e⟩
  stops := fun O H ⟨g, t⟩ => ⟨xs, Evl.ex_t (fun b o h => (hid_some h).2) g, Nat.le_of_eq t.length⟩
  yields := fun i O H x H' _ hi ⟨g, t⟩ ⟨e, y⟩ => by
    subst e
    obtain ⟨v, d, e, e2, q⟩ := t.at hi
    have z := y xs (Evl.ex_t (fun b o h => (hid_some h).2) g)
    rw [e] at z
    cases z
    exact ⟨fun _ _ h => h, d, e2, q⟩
  mono := fun V V' ⟨g, t⟩ e => ⟨Evl.ex_t e g, t.mono e⟩
theorem range_get {lo : Int} {n i : Nat} (h : i < n) : (rangeD lo n)[i]? = some (.int (lo + (i : Int))) := by
  unfold rangeD
  rw [List.getElem?_map, List.getElem?_range h]
  rfl
theorem range_len {lo : Int} {n : Nat} : (rangeD lo n).length = n := by
  unfold rangeD
  rw [List.length_map, List.length_range]
theorem wd_range {lo : Int} {n : Nat} : WD F (Itr lo n) (rangeD lo n) (fun _ => True) where
  goes := fun i O H hi _ => by
    rw [range_len] at hi
    exact hi
  stops := fun O H _ => by
    rw [range_len]
    exact Nat.le_refl n
  yields := fun i O H x H' _ hi _ ⟨e, y⟩ => by
    subst e
    subst y
    rw [range_len] at hi
    exact ⟨fun _ _ h => h, _, range_get hi, .int _⟩
  mono := fun _ _ _ _ => trivial
theorem zip_get : ∀ {xs ys : List D} {i : Nat} {x y : D}, xs[i]? = some x → ys[i]? = some y → (zipD xs ys)[i]? = some (.tup [x, y])
  | [], _, _, _, _, h, _ => by simp at h
  | _ :: _, [], _, _, _, _, h => by simp at h
  | _ :: _, _ :: _, 0, _, _, h, h2 => by
    simp at h h2
    subst h
    subst h2
    rfl
  | _ :: xs, _ :: ys, i + 1, x, y, h, h2 => by
    have z := zip_get (xs := xs) (ys := ys) (i := i) (x := x) (y := y) (by simpa using h) (by simpa using h2)
    simpa [zipD] using z
theorem zip_len : ∀ (xs ys : List D), (zipD xs ys).length = min xs.length ys.length
  | [], _ => by simp [zipD]
  | _ :: _, [] => by simp [zipD]
  | _ :: xs, _ :: ys => by
    simp only [zipD, List.length_cons, zip_len xs ys]
    omega
/-- a new pair -/
theorem pair_new {O : Addr → Prop} {H : Hp} {T : Addr} {x y : L2.V} {d e : D} (tr : ∀ b, O b → H b ≠ none) (hT : H T = none) (t1 : Dt F (hid O H) x d) (t2 : Dt F (hid O H) y e) : Dt F (hid O (upd H T (.tup [x, y]))) (.ref T) (.tup [d, e]) :=
  .tup (SqT.of (hid_new fun z => tr T z hT)) (.cons (t1.mono (ex_new hT)) (.cons (t2.mono (ex_new hT)) .nil))
theorem grows {H : Hp} {T : Addr} {o : HO} (hT : H T = none) : ∀ a u, H a = some u → upd H T o a = some u := fun a u h => by
  rw [upd_ne (ne_of_none h hT)]
  exact h
theorem wd_zip {a b : Addr} {xs ys : List L2.V} {ds es : List D} : WD F (Itz F.K a b) (zipD ds es) (fun V => (V a = some (.lst xs) ∧ Dts F V xs ds) ∧ (V b = some (.lst ys) ∧ Dts F V ys es)) where
  goes := fun i O H hi ⟨⟨g, t⟩, ⟨g2, t2⟩⟩ => by
    rw [zip_len] at hi
    obtain ⟨v, d, e, _, _⟩ := t.at (i := i) (by omega)
    obtain ⟨u, d2, e2, _, _⟩ := t2.at (i := i) (by omega)
    exact ⟨xs, ys, v, u, SqL.of (hid_some g).2, SqL.of (hid_some g2).2, e, e2⟩
  stops := fun O H ⟨⟨g, t⟩, ⟨g2, t2⟩⟩ => ⟨xs, ys, SqL.of (hid_some g).2, SqL.of (hid_some g2).2, by
    rw [zip_len, t.length, t2.length]
    omega⟩
  yields := fun i O H x H' tr hi ⟨⟨g, t⟩, ⟨g2, t2⟩⟩ ⟨T, p, q, e1, hT, e2, y1, y2⟩ => by
    subst e1
    subst e2
    rw [zip_len] at hi
    obtain ⟨v, d, e, e3, r⟩ := t.at (i := i) (by omega)
    obtain ⟨u, d2, e4, e5, r2⟩ := t2.at (i := i) (by omega)
    have z := y1 xs (SqL.of (hid_some g).2)
    rw [e] at z
    cases z
    have z := y2 ys (SqL.of (hid_some g2).2)
    rw [e4] at z
    cases z
    exact ⟨grows hT, _, zip_get e3 e5, pair_new tr hT r r2⟩
  mono := fun V V' ⟨⟨g, t⟩, ⟨g2, t2⟩⟩ e => ⟨⟨e _ _ g, t.mono e⟩, ⟨e _ _ g2, t2.mono e⟩⟩
theorem wd_zipT {a b : Addr} {xs ys : List L2.V} {ds es : List D} : WD F (RZ.ItzT F.K a b) (zipD ds es) (fun V => (SqT F.K V a xs ∧ Dts F V xs ds) ∧ (SqT F.K V b ys ∧ Dts F V ys es)) where
  goes := fun i O H hi ⟨⟨g, t⟩, ⟨g2, t2⟩⟩ => by
    rw [zip_len] at hi
    obtain ⟨v, d, e, _, _⟩ := t.at (i := i) (by omega)
    obtain ⟨u, d2, e2, _, _⟩ := t2.at (i := i) (by omega)
    exact ⟨xs, ys, v, u, Evl.ex_t (fun b o h => (hid_some h).2) g, Evl.ex_t (fun b o h => (hid_some h).2) g2, e, e2⟩
  stops := fun O H ⟨⟨g, t⟩, ⟨g2, t2⟩⟩ => ⟨xs, ys, Evl.ex_t (fun b o h => (hid_some h).2) g, Evl.ex_t (fun b o h => (hid_some h).2) g2, by
    rw [zip_len, t.length, t2.length]
    omega⟩
  yields := fun i O H x H' tr hi ⟨⟨g, t⟩, ⟨g2, t2⟩⟩ ⟨T, p, q, e1, hT, e2, y1, y2⟩ => by
    subst e1
    subst e2
    rw [zip_len] at hi
    obtain ⟨v, d, e, e3, r⟩ := t.at (i := i) (by omega)
    obtain ⟨u, d2, e4, e5, r2⟩ := t2.at (i := i) (by omega)
    have z := y1 xs (Evl.ex_t (fun b o h => (hid_some h).2) g)
    rw [e] at z
    cases z
    have z := y2 ys (Evl.ex_t (fun b o h => (hid_some h).2) g2)
    rw [e4] at z
    cases z
    exact ⟨grows hT, _, zip_get e3 e5, pair_new tr hT r r2⟩
  mono := fun V V' ⟨⟨g, t⟩, ⟨g2, t2⟩⟩ e => ⟨⟨Evl.ex_t e g, t.mono e⟩, ⟨Evl.ex_t e g2, t2.mono e⟩⟩
theorem enum_get : ∀ {xs : List D} {n i : Nat} {x : D}, xs[i]? = some x → (enumD n xs)[i]? = some (.tup [.int ((n + i : Nat) : Int), x])
  | [], _, _, _, h => by simp at h
  | _ :: _, n, 0, _, h => by
    simp at h
    subst h
    rfl
  | _ :: xs, n, i + 1, x, h => by
    have z := enum_get (xs := xs) (n := n + 1) (i := i) (x := x) (by simpa using h)
    have e : n + 1 + i = n + (i + 1) := by omega
    rw [e] at z
    simpa [enumD] using z
theorem enum_len : ∀ (xs : List D) (n : Nat), (enumD n xs).length = xs.length
  | [], _ => rfl
  | _ :: xs, n => by simp only [enumD, List.length_cons, enum_len xs]
theorem wd_enum {a : Addr} {xs : List L2.V} {ds : List D} : WD F (Ite F.K a) (enumD 0 ds) (fun V => V a = some (.lst xs) ∧ Dts F V xs ds) where
  goes := fun i O H hi ⟨g, t⟩ => by
    rw [enum_len] at hi
    obtain ⟨v, d, e, _, _⟩ := t.at hi
    exact ⟨xs, v, SqL.of (hid_some g).2, e⟩
  stops := fun O H ⟨g, t⟩ => ⟨xs, SqL.of (hid_some g).2, by rw [enum_len, t.length]; exact Nat.le_refl _⟩
  yields := fun i O H x H' tr hi ⟨g, t⟩ ⟨T, p, e1, hT, e2, y⟩ => by
    subst e1
    subst e2
    rw [enum_len] at hi
    obtain ⟨v, d, e, e3, q⟩ := t.at hi
    have z := y xs (SqL.of (hid_some g).2)
    rw [e] at z
    cases z
    have w := enum_get (n := 0) e3
    rw [Nat.zero_add] at w
    exact ⟨grows hT, _, w, pair_new tr hT (.int _) q⟩
  mono := fun V V' ⟨g, t⟩ e => ⟨e _ _ g, t.mono e⟩
end
/-- an iterable's reading -/
def tI (F : Cf) (Γ : Tb) (n : Nat) (E : XK) (e : It) : TI := fun σ H R => ∃ O ρ ad s, Rel F n O ρ ad σ H s ∧
  Post F O H E (fun V (b : L2.It × (Hp → Prop)) ds => WD F b.1 ds b.2 ∧ b.2 V) (fun b H' => R b.1 H') (evalI Γ e ρ s)
section
variable {X : Cx} {F : Cf} {Γ : Tb} {n : Nat} {E : XK} {e f tg : Expr} {es : List Expr} {pos p : Pos} {a b : Ex}
theorem sndI_ex (hK : X.K = F.K) (ha : PE X e (tE F Γ n E a)) : PI X tg e (tI F Γ n E (.ex a)) := PI.imp (PI.or (pi_list ha) (pi_tup ha)) fun σ H R0 ⟨O, ρ, ad, s, R, h⟩ => by
  unfold evalI at h
  cases hx : evalE Γ a ρ s with
  | err c fs s1 =>
    rw [hx] at h
    refine .inl ⟨O, ρ, ad, s, R, ?_⟩
    rw [hx]
    exact h
  | bad => rw [hx] at h; exact False.elim h
  | ok x s1 =>
    rw [hx] at h
    obtain ⟨ds, e1, q⟩ := Post.opt (s := s1) (o := itemsD x) h
    cases x <;> (first | (cases e1; done) | skip)
    · cases e1
      refine .inr ⟨O, ρ, ad, s, R, ?_⟩
      rw [hx]
      intro v H1 k1 p1 t1
      cases t1 with
      | @tup a xs _ hs hd =>
        refine ⟨a, rfl, ⟨xs, by rw [hK]; exact Evl.ex_t (fun b o h => (hid_some h).2) hs⟩, ?_⟩
        rw [hK]
        exact q (Itt F.K a, fun V => SqT F.K V a xs ∧ Dts F V xs ds) H1 k1 p1 ⟨wd_tup, hs, hd⟩
    · cases e1
      refine .inl ⟨O, ρ, ad, s, R, ?_⟩
      rw [hx]
      intro v H1 k1 p1 t1
      cases t1 with
      | @lst a xs _ hs hd =>
        refine ⟨a, rfl, ⟨xs, SqL.of (hid_some hs).2⟩, ?_⟩
        rw [hK]
        exact q (Itl F.K a, fun V => V a = some (.lst xs) ∧ Dts F V xs ds) H1 k1 p1 ⟨wd_list, hs, hd⟩
theorem sndI_rng1 (hg : Gl X "range") (hm : X.mg "range" = none) (hs : noStar e = true) (ha : PE X e (tE F Γ n E a)) : PI X tg (.Call (.Name "range" p) [e] [] pos) (tI F Γ n E (.rng1 a)) :=
  PI.imp (pi_range1 hg hm (pa_cons ha pa_nil (star_at hs)) (star_at hs)) fun σ H R0 ⟨O, ρ, ad, s, R, h⟩ => by
    unfold evalI at h
    refine ⟨O, ρ, ad, s, R, h.step fun x s1 v H1 k1 p1 t1 h1 => ?_⟩
    cases t1 <;> (first | (exact False.elim h1) | skip)
    rename_i i
    obtain ⟨hz, h1⟩ := Post.guard h1
    unfold inTwo at hz
    simp only [Bool.and_eq_true, decide_eq_true_eq] at hz
    exact ⟨i, rfl, hz.1, hz.2, h1 (Itr 0 i.toNat, fun _ => True) H1 .refl p1 ⟨wd_range, trivial⟩⟩
theorem sndI_rng2 (hg : Gl X "range") (hm : X.mg "range" = none) (hs : noStar e = true) (hs2 : noStar f = true) (ha : PE X e (tE F Γ n E a)) (hb : PE X f (tE F Γ n E b)) : PI X tg (.Call (.Name "range" p) [e, f] [] pos) (tI F Γ n E (.rng2 a b)) :=
  PI.imp (pi_range2 hg hm (pa_cons ha (pa_cons hb pa_nil (star_at hs2)) (star_at hs)) (by rw [star_at hs, star_at hs2]; rfl) (by rw [star_at hs2]; rfl)) fun σ H R0 ⟨O, ρ, ad, s, R, h⟩ => by
    unfold evalI at h
    refine ⟨O, ρ, ad, s, R, h.step fun x s1 v H1 k1 p1 t1 h1 => ?_⟩
    have R1 := R.kp k1 p1
    refine ⟨O, ρ, ad, s1, R1, h1.step fun y s2 u H2 k2 p2 t2 h2 => ?_⟩
    cases t1 <;> (first | (exact False.elim h2) | skip)
    cases t2 <;> (first | (exact False.elim h2) | skip)
    rename_i i j
    obtain ⟨hz, h2⟩ := Post.guard h2
    unfold inTwo at hz
    simp only [Bool.and_eq_true, decide_eq_true_eq] at hz
    exact ⟨i, j, rfl, ⟨hz.1.1, hz.1.2, hz.2.1, hz.2.2⟩, h2 (Itr i (j - i).toNat, fun _ => True) H2 .refl p2 ⟨wd_range, trivial⟩⟩
theorem sndI_zip {elts : List Expr} {kk : Nat} {tpos : Pos} (hK : X.K = F.K) (hg : Gl X "zip") (hm : X.mg "zip" = none) (hs : noStar e = true) (hs2 : noStar f = true) (ha : PE X e (tE F Γ n E a)) (hb : PE X f (tE F Γ n E b)) :
    PI X (.Tuple elts kk tpos) (.Call (.Name "zip" p) [e, f] [] pos) (tI F Γ n E (.zip a b)) :=
  PI.imp (RZ.pi_zipA hg hm (pa_cons ha (pa_cons hb pa_nil (star_at hs2)) (star_at hs)) (by rw [star_at hs]) (star_any (by simp [hs2]))) fun σ H R0 ⟨O, ρ, ad, s, R, h⟩ => by
    unfold evalI at h
    refine ⟨O, ρ, ad, s, R, h.step fun x s1 v H1 k1 p1 t1 h1 => ?_⟩
    have R1 := R.kp k1 p1
    refine ⟨O, ρ, ad, s1, R1, h1.step fun y s2 u H2 k2 p2 t2 h2 => ?_⟩
    have t1' := t1.mono (R1.exh k2)
    have ex : Evl.Ex (hid O H2) H2 := fun b o h => (hid_some h).2
    cases t1' <;> (first | (exact False.elim h2) | skip)
    · cases t2 <;> (first | (exact False.elim h2) | skip)
      rename_i a xs ds hs hd b ys es hs2 hd2
      refine ⟨a, b, xs, ys, rfl, .inr ⟨by rw [hK]; exact Evl.ex_t ex hs, by rw [hK]; exact Evl.ex_t ex hs2, ?_⟩⟩
      rw [hK]
      exact h2 (RZ.ItzT F.K a b, _) H2 .refl p2 ⟨wd_zipT, ⟨hs, hd⟩, hs2, hd2⟩
    · cases t2 <;> (first | (exact False.elim h2) | skip)
      rename_i a xs ds hs hd b ys es hs2 hd2
      refine ⟨a, b, xs, ys, rfl, .inl ⟨SqL.of (ex _ _ hs), SqL.of (ex _ _ hs2), ?_⟩⟩
      rw [hK]
      exact h2 (Itz F.K a b, _) H2 .refl p2 ⟨wd_zip, ⟨hs, hd⟩, hs2, hd2⟩
theorem sndI_enum {elts : List Expr} {kk : Nat} {tpos : Pos} (hK : X.K = F.K) (hg : Gl X "enumerate") (hm : X.mg "enumerate" = none) (hs : noStar e = true) (ha : PE X e (tE F Γ n E a)) :
    PI X (.Tuple elts kk tpos) (.Call (.Name "enumerate" p) [e] [] pos) (tI F Γ n E (.enum a)) :=
  PI.imp (pi_enum hg hm (pa_cons ha pa_nil (star_at hs)) (by rw [star_at hs]; rfl)) fun σ H R0 ⟨O, ρ, ad, s, R, h⟩ => by
    unfold evalI at h
    refine ⟨O, ρ, ad, s, R, h.step fun x s1 v H1 k1 p1 t1 h1 => ?_⟩
    cases t1 <;> (first | (exact False.elim h1) | skip)
    rename_i a xs ds hs hd
    refine ⟨a, xs, rfl, SqL.of (hid_some hs).2, ?_⟩
    rw [hK]
    exact h1 (Ite F.K a, fun V => V a = some (.lst xs) ∧ Dts F V xs ds) H1 .refl p1 ⟨wd_enum, hs, hd⟩
end
end Mi
end

section
set_option Elab.async false
set_option linter.all false
set_option maxRecDepth 100000
set_option maxHeartbeats 4000000
/-! Mi: targets, comprehensions, and all expressions at once. -/
namespace Mi
open PySem PySem.Spec PyProof.Rows L2

/-! ### slots forgotten -/
theorem wipe_in {σ : L2.St} {j : Nat} : ∀ {vs : List Nat}, j ∈ vs → (wipe σ vs)[j]? = if j < σ.length then some none else none
  | v :: vs, h => by
    unfold wipe
    by_cases e : v = j
    · subst e
      rw [List.getElem?_set, if_pos rfl, wipe_length]
    · have h2 : j ∈ vs := by
        rcases List.mem_cons.mp h with q | q
        · exact absurd q.symm e
        · exact q
      rw [List.getElem?_set_ne e]
      exact wipe_in h2
theorem wipe_eq {σ σ' : L2.St} {vs : List Nat} (hl : σ'.length = σ.length) (h : ∀ j, j ∉ vs → σ'[j]? = σ[j]?) : wipe σ' vs = wipe σ vs := by
  refine List.ext_getElem? fun j => ?_
  by_cases q : j ∈ vs
  · rw [wipe_in q, wipe_in q, hl]
  · rw [wipe_out q, wipe_out q, h j q]
theorem wipeR_len (ρ : List Sl) : ∀ vs : List Nat, (wipeR ρ vs).length = ρ.length
  | [] => rfl
  | v :: vs => by
    unfold wipeR
    rw [List.length_set, wipeR_len ρ vs]
theorem wipeR_get {ρ : List Sl} {j : Nat} {x : Sl} (hx : x ≠ .emp) : ∀ {vs : List Nat}, (wipeR ρ vs)[j]? = some x → j ∉ vs ∧ ρ[j]? = some x
  | [], h => ⟨by simp, h⟩
  | v :: vs, h => by
    unfold wipeR at h
    by_cases e : v = j
    · subst e
      rw [List.getElem?_set, if_pos rfl] at h
      split at h
      · cases h
        exact absurd rfl hx
      · cases h
    · rw [List.getElem?_set_ne e] at h
      obtain ⟨h1, h2⟩ := wipeR_get hx h
      refine ⟨fun m => ?_, h2⟩
      rcases List.mem_cons.mp m with q | q
      · exact e q.symm
      · exact h1 q
section
variable {F : Cf} {n : Nat} {O : Addr → Prop} {ρ : List Sl} {ad : Nat → Addr} {σ : L2.St} {H : Hp} {s : Pen}
theorem Rel.wiped (R : Rel F n O ρ ad σ H s) (vs : List Nat) : Rel F n O (wipeR ρ vs) ad (wipe σ vs) H s where
  ln := by rw [wipe_length]; exact R.ln
  rl := by rw [wipeR_len]; exact R.rl
  val := fun i d e => by
    obtain ⟨h1, h2⟩ := wipeR_get (by intro z; cases z) e
    obtain ⟨v, a, t⟩ := R.val i d h2
    exact ⟨v, by rw [wipe_out h1]; exact a, t⟩
  own := fun i ds e => by
    obtain ⟨h1, h2⟩ := wipeR_get (by intro z; cases z) e
    obtain ⟨o, xs, a, t⟩ := R.own i ds h2
    exact ⟨o, xs, by rw [wipe_out h1]; exact a, t⟩
  pp := R.pp
  trk := R.trk
  pen := R.pen
theorem set_get {α : Type} {l : List α} {i j : Nat} {x y : α} (h : (l.set i x)[j]? = some y) : (j = i ∧ i < l.length ∧ y = x) ∨ (j ≠ i ∧ l[j]? = some y) := by
  by_cases e : i = j
  · subst e
    rw [List.getElem?_set, if_pos rfl] at h
    split at h
    · rename_i hl
      cases h
      exact .inl ⟨rfl, hl, rfl⟩
    · cases h
  · rw [List.getElem?_set_ne e] at h
    exact .inr ⟨fun z => e z.symm, h⟩
theorem Rel.set (R : Rel F n O ρ ad σ H s) {i : Nat} {v : V} {d : D} (t : Dt F (hid O H) v d) : Rel F n O (ρ.set i (.val d)) ad (σ.set i (some v)) H s where
  ln := by rw [List.length_set]; exact R.ln
  rl := by rw [List.length_set]; exact R.rl
  val := fun j d' e => by
    rcases set_get e with ⟨h1, h2, h3⟩ | ⟨h1, h2⟩
    · cases h3
      subst h1
      refine ⟨v, ?_, t⟩
      rw [List.getElem?_set, if_pos rfl, if_pos (by rw [R.ln, ← R.rl]; exact h2)]
    · obtain ⟨w, a, t'⟩ := R.val j d' h2
      exact ⟨w, by rw [List.getElem?_set_ne (Ne.symm h1)]; exact a, t'⟩
  own := fun j ds e => by
    rcases set_get e with ⟨h1, h2, h3⟩ | ⟨h1, h2⟩
    · cases h3
    · obtain ⟨o, xs, a, t'⟩ := R.own j ds h2
      exact ⟨o, xs, by rw [List.getElem?_set_ne (Ne.symm h1)]; exact a, t'⟩
  pp := R.pp
  trk := R.trk
  pen := R.pen
end
/-! ### targets -/
def gNames : List Nat → TGs
  | [] => gNil
  | i :: is => gCons (gName i) (gNames is)
def gT (K : PySem.W.Frag) : Tg → TG
  | .nm i => gName i
  | .tup is => gTup K is.length (gNames is)
/-- all but the slots of a target is as it was -/
def OnlyAt (is : List Nat) (σ σ' : L2.St) : Prop := σ'.length = σ.length ∧ ∀ j, j ∉ is → σ'[j]? = σ[j]?
section
variable {X : Cx} {k : Ck} {F : Cf} {st : Bool}
theorem tnm_ok (hsc : X.env.scope = k.sc) (hfn : st = false → ∀ x, X.fn x = true) {x : Str} (h : tnm k st x = true) : Loc X.env.scope x ∧ (X.fn x = true ∨ X.env.scope.names.lookup x = some .local) := by
  rw [hsc]
  unfold tnm at h
  cases st with
  | true =>
    have q := of_decide_eq_true (show decide (k.sc.names.lookup x = some .local) = true from h)
    exact ⟨.inl q, .inr q⟩
  | false =>
    have q : loc k.sc x = true := h
    exact ⟨loc_ok q, .inl (hfn rfl x)⟩
theorem each_at {f : Expr} {fs : List Expr} {env : Env} {x : Str} {p : Pos} (h : f = .Name x p) : (assignEach (f :: fs) env).map (·.2) = assign f env :: (assignEach fs env).map (·.2) := by
  subst h
  rfl
theorem pgs_names (hN : X.N = k.N) (nd : X.N.Nodup) (hsc : X.env.scope = k.sc) (hfn : st = false → ∀ x, X.fn x = true) : ∀ {is : List Nat} {fs : List Expr}, chkTg k st is fs = true →
    PGs X fs (gNames is) ∧ (assignEach fs X.env).length = is.length ∧ ∀ b ∈ assignEach fs X.env, b.1 = false
  | [], [], _ => ⟨pgs_nil, rfl, fun b h => by cases h⟩
  | [], _ :: _, h => by simp [chkTg] at h
  | _ :: _, [], h => by simp [chkTg] at h
  | i :: is, f :: fs, h => by
    cases f <;> (first | (simp [chkTg] at h; done) | skip)
    rename_i x p
    simp only [chkTg, Bool.and_eq_true, decide_eq_true_eq] at h
    obtain ⟨⟨h1, h2⟩, h3⟩ := h
    obtain ⟨a, b⟩ := tnm_ok hsc hfn h2
    obtain ⟨r1, r2, r3⟩ := pgs_names hN nd hsc hfn h3
    refine ⟨pgs_cons (pg_name nd (by rw [hN]; exact h1) a b) r1 (each_at rfl), ?_, ?_⟩
    · show (assignEach fs X.env).length + 1 = is.length + 1
      rw [r2]
    · intro c hc
      have hc : c ∈ (false, assign (.Name x p) X.env) :: assignEach fs X.env := hc
      rcases List.mem_cons.mp hc with q | q
      · rw [q]
      · exact r3 c q
theorem find_none {α : Type} {l : List (Bool × α)} (h : ∀ b ∈ l, b.1 = false) : l.findIdx? (·.1) = none := by
  induction l with
  | nil => rfl
  | cons a r ih =>
    have h1 := h a List.mem_cons_self
    have h2 := ih fun b hb => h b (List.mem_cons_of_mem _ hb)
    rw [List.findIdx?_cons, h1, h2]
    rfl
theorem pg_T {t : Tg} {tg : Expr} (hN : X.N = k.N) (nd : X.N.Nodup) (hsc : X.env.scope = k.sc) (hc : X.calm = true) (hfn : st = false → ∀ x, X.fn x = true) (h : chkT k st t tg = true) : PG X tg (gT X.K t) := by
  cases t with
  | nm i =>
    cases tg <;> (first | (simp [chkT] at h; done) | skip)
    simp only [chkT, Bool.and_eq_true, decide_eq_true_eq] at h
    obtain ⟨a, b⟩ := tnm_ok hsc hfn h.2
    exact pg_name nd (by rw [hN]; exact h.1) a b
  | tup is =>
    cases tg <;> (first | (simp [chkT] at h; done) | skip)
    simp only [chkT] at h
    obtain ⟨r1, r2, r3⟩ := pgs_names hN nd hsc hfn h
    exact pg_tup hc r1 r2 (find_none r3)
end
section
variable {F : Cf} {n : Nat} {O : Addr → Prop} {ad : Nat → Addr} {H : Hp} {s : Pen}
theorem OnlyAt.rfl' {is : List Nat} {σ : L2.St} : OnlyAt is σ σ := ⟨rfl, fun _ _ => rfl⟩
theorem names_ok : ∀ {is : List Nat} {ds : List D} {vs : List V} {ρ ρ1 : List Sl} {σ : L2.St} {Q : L2.St → Hp → Prop}, setTs ρ is ds = some ρ1 → Dts F (hid O H) vs ds → Rel F n O ρ ad σ H s →
    (∀ σ', OnlyAt is σ σ' → Rel F n O ρ1 ad σ' H s → Q σ' H) → gNames is vs σ H Q
  | [], [], _, _, _, _, _, h, t, R, q => by
    cases t
    cases h
    exact ⟨rfl, q _ .rfl' R⟩
  | [], _ :: _, _, _, _, _, _, h, _, _, _ => by cases h
  | _ :: _, [], _, _, _, _, _, h, _, _, _ => by cases h
  | i :: is, d :: ds, _, ρ, ρ1, σ, Q, h, t, R, q => by
    cases t with
    | @cons v vs _ _ a b =>
      refine ⟨v, vs, rfl, ?_⟩
      refine names_ok (ρ := ρ.set i (.val d)) h b (R.set a) fun σ' ⟨l, o⟩ R' => q σ' ⟨by rw [l, List.length_set], fun j hj => ?_⟩ R'
      have h1 : i ≠ j := fun z => hj (z ▸ List.mem_cons_self)
      rw [o j fun z => hj (List.mem_cons_of_mem _ z), List.getElem?_set_ne h1]
theorem tg_ok {t : Tg} {d : D} {v : V} {ρ ρ1 : List Sl} {σ : L2.St} {Q : L2.St → Hp → Prop} (h : setT ρ t d = some ρ1) (td : Dt F (hid O H) v d) (R : Rel F n O ρ ad σ H s)
    (q : ∀ σ', OnlyAt t.slots σ σ' → Rel F n O ρ1 ad σ' H s → Q σ' H) : gT F.K t v σ H Q := by
  cases t with
  | nm i =>
    have h : some (ρ.set i (.val d)) = some ρ1 := by cases d <;> exact h
    cases h
    refine q _ ⟨List.length_set .., fun j hj => ?_⟩ (R.set td)
    rw [List.getElem?_set_ne]
    intro z
    exact hj (by rw [z]; simp [Tg.slots])
  | tup is =>
    cases td <;> (first | (cases h; done) | skip)
    rename_i a xs ds hs hd
    have hl : is.length = ds.length := by
      have aux : ∀ {is : List Nat} {ds : List D} {ρ ρ1 : List Sl}, setTs ρ is ds = some ρ1 → is.length = ds.length := by
        intro is
        induction is with
        | nil =>
          intro ds ρ ρ1 h
          cases ds with
          | nil => rfl
          | cons _ _ => cases h
        | cons i is ih =>
          intro ds ρ ρ1 h
          cases ds with
          | nil => cases h
          | cons d ds =>
            have := ih (ρ := ρ.set i (.val d)) h
            simp only [List.length_cons, this]
      exact aux h
    exact ⟨a, xs, rfl, Evl.ex_t (fun b o h => (hid_some h).2) hs, by rw [hd.length, hl], names_ok h hd R q⟩
end
end Mi
end

section
set_option Elab.async false
set_option linter.all false
set_option maxRecDepth 100000
set_option maxHeartbeats 4000000
/-! Mi: comprehensions. -/
namespace Mi
open PySem PySem.Spec PyProof.Rows L2

def No : XK := fun _ _ _ => False
def with_ (O : Addr → Prop) (A : Addr) : Addr → Prop := fun b => O b ∨ b = A
theorem hid_add {O : Addr → Prop} {H : Hp} {A : Addr} {o : HO} (h : H A = none) : hid (with_ O A) (upd H A o) = hid O H := by
  funext b
  by_cases e : b = A
  · subst e
    rw [hid_yes (.inr rfl)]
    by_cases q : O b
    · rw [hid_yes q]
    · rw [hid_no q, h]
  · by_cases q : O b
    · rw [hid_yes (.inl q), hid_yes q]
    · rw [hid_no q, hid_no (fun z => z.elim q e), upd_ne e]
theorem hid_upd {O : Addr → Prop} {H : Hp} {A : Addr} {o : HO} (h : O A) : hid O (upd H A o) = hid O H := by
  funext b
  by_cases q : O b
  · rw [hid_yes q, hid_yes q]
  · rw [hid_no q, hid_no q, upd_ne fun z => q (by rw [z]; exact h)]
theorem hid_less {O : Addr → Prop} {H : Hp} {A : Addr} : Evl.Ex (hid (with_ O A) H) (hid O H) := fun b o h => by
  obtain ⟨h1, h2⟩ := hid_some h
  rw [hid_no fun z => h1 (.inl z)]
  exact h2
section
variable {F : Cf} {n : Nat} {O : Addr → Prop} {ρ : List Sl} {ad : Nat → Addr} {σ : L2.St} {H : Hp} {s : Pen}
theorem Rel.upd (R : Rel F n O ρ ad σ H s) {A : Addr} {o : HO} (hO : O A) (h1 : A ≠ F.pp) (h2 : A ≠ F.cc) (h3 : ∀ (i : Nat) (ds : List D), ρ[i]? = some (Sl.own ds) → ad i ≠ A) : Rel F n O ρ ad σ (L2.upd H A o) s where
  ln := R.ln
  rl := R.rl
  val := fun i d e => by
    rw [hid_upd hO]
    exact R.val i d e
  own := fun i ds e => by
    rw [hid_upd hO]
    obtain ⟨a, xs, b, c, t⟩ := R.own i ds e
    exact ⟨a, xs, b, by rw [upd_ne (h3 i ds e)]; exact c, t⟩
  pp := R.pp
  trk := fun b hb => by
    by_cases e : b = A
    · rw [e, upd_same]; simp
    · rw [upd_ne e]; exact R.trk b hb
  pen := ⟨by rw [upd_ne (Ne.symm h1)]; exact R.pen.d, by rw [upd_ne (Ne.symm h2)]; exact R.pen.c⟩
theorem Rel.adds (R : Rel F n O ρ ad σ H s) {A : Addr} {o : HO} (h : H A = none) : Rel F n (with_ O A) ρ ad σ (L2.upd H A o) s where
  ln := R.ln
  rl := R.rl
  val := fun i d e => by
    rw [hid_add h]
    exact R.val i d e
  own := fun i ds e => by
    rw [hid_add h]
    obtain ⟨a, xs, b, c, t⟩ := R.own i ds e
    exact ⟨.inl a, xs, b, by rw [upd_ne (ne_of_none c h)]; exact c, t⟩
  pp := .inl R.pp
  trk := fun b hb => by
    by_cases e : b = A
    · rw [e, upd_same]; simp
    · rw [upd_ne e]; exact R.trk b (hb.elim id fun z => absurd z e)
  pen := R.pen.new h
end
def tC (F : Cf) (Γ : Tb) (n : Nat) (E : XK) (e : Es) : L2.TT := fun σ H Q => ∃ O ρ ad s, Rel F n O ρ ad σ H s ∧ Post F O H E (fun _ b c => b = c) Q (evalC Γ e ρ s)
section
variable {X : Cx} {F : Cf} {Γ : Tb} {n : Nat} {E : XK}
theorem pts_ok {e : Expr} {a : Ex} (h : PT X e (tT F Γ n E a)) : PTs X [e] (tC F Γ n E (.cons a .nil)) := ⟨fun pins s σ H Q I ⟨O, ρ, ad, s', R, q⟩ => by
  unfold evalC at q
  exact (pts_one h).run pins s σ H Q I ⟨O, ρ, ad, s', R, q⟩⟩
theorem pts_no : PTs X [] (tC F Γ n E .nil) := ⟨fun pins s σ H Q I ⟨O, ρ, ad, s', R, q⟩ => by
  unfold evalC at q
  exact pts_nil.run pins s σ H Q I (q true H .refl R.pen rfl)⟩
theorem drop_at {α : Type} {l : List α} {i : Nat} {d : α} (h : l[i]? = some d) : l.drop i = d :: l.drop (i + 1) := by
  obtain ⟨hi, e⟩ := List.getElem?_eq_some_iff.mp h
  rw [List.drop_eq_getElem_cons hi, e]
theorem comp_imp {rel : Hp → V → D → Prop} {own : List (Str × Nat)} {t : Tg} {it : It} {cond : Es} {elt : Ex} {O : Addr → Prop} {ρ : List Sl} {ad : Nat → Addr} {s : Pen} {σ : L2.St} {H : Hp} {Q : VK}
    (sl : ∀ i ∈ t.slots, i ∈ own.map (·.2)) (R : Rel F n O ρ ad σ H s) (h : Post F O H E rel Q (evalE Γ (.comp own t it cond elt) ρ s))
    (hrel : ∀ (H1 H' : Hp) (A : Addr) (vs : List V) (ds : List D), Kp F.pp H H1 → H1 A = none → H' A = some (.lst vs) → Dts F (hid (with_ O A) H') vs ds → ¬ O A → rel (hid O H') (.ref A) (.lst ds)) :
    tLc (tI F Γ n E it) (gT F.K t) (tC F Γ n No cond) (tE F Γ n No elt) (own.map (·.2)) σ H Q := by
    unfold evalE at h
    refine ⟨O, ρ, ad, s, R, h.step fun ds s1 b H1 k1 p1 ⟨wd, g⟩ h1 => fun A hA => ?_⟩
    obtain ⟨hz, h1⟩ := Post.guard h1
    have R1 := R.kp k1 p1
    generalize hvs : own.map (·.2) = vs at *
    have nO : ¬ O A := R1.new hA
    have npp : A ≠ F.pp := fun z => nO (by rw [z]; exact R1.pp)
    have ncc : A ≠ F.cc := fun z => by
      have q := p1.c
      rw [← z, hA] at q
      cases q
    have nad : ∀ (i : Nat) (es : List D), (wipeR ρ vs)[i]? = some (Sl.own es) → ad i ≠ A := fun i es e z => by
      obtain ⟨_, h2⟩ := wipeR_get (by intro z; cases z) e
      obtain ⟨_, xs, _, c, _⟩ := R1.own i es h2
      rw [z, hA] at c
      cases c
    refine ⟨fun i m Hc => m = ds.length - i ∧ i ≤ ds.length ∧ ∃ sI accV accD, Hc A = some (.lst accV) ∧ Dts F (hid (with_ O A) Hc) accV accD ∧ accD.length ≤ i ∧ Rel F n (with_ O A) (wipeR ρ vs) ad (wipe σ vs) Hc sI ∧ b.2 (hid (with_ O A) Hc) ∧
      Kp F.pp H1 Hc ∧ Post F O H1 E rel Q ((compL t (wipeR ρ vs) (fun ρ1 s1 => evalC Γ cond ρ1 s1) (fun ρ1 s1 => evalE Γ elt ρ1 s1) (ds.drop i) sI).bind fun ys s2 => .ok (.lst (accD ++ ys)) s2), ⟨ds.length, ?_⟩, ?_⟩
    · refine ⟨rfl, Nat.zero_le _, s1, [], [], upd_same, .nil, Nat.le_refl _, (R1.wiped vs).adds hA, ?_, .new hA, h1⟩
      rw [hid_add hA]
      exact g
    · rintro i m Hc ⟨rfl, hi, sI, accV, accD, hacc, tacc, lacc, RI, gI, kI, hI⟩
      by_cases hlt : i < ds.length
      · refine .inr ⟨wd.goes i _ _ hlt gI, fun H' => ∃ m', m' < ds.length - i ∧ (m' = ds.length - (i + 1) ∧ i + 1 ≤ ds.length ∧ ∃ sI accV accD, H' A = some (.lst accV) ∧ Dts F (hid (with_ O A) H') accV accD ∧ accD.length ≤ i + 1 ∧ Rel F n (with_ O A) (wipeR ρ vs) ad (wipe σ vs) H' sI ∧ b.2 (hid (with_ O A) H') ∧
          Kp F.pp H1 H' ∧ Post F O H1 E rel Q ((compL t (wipeR ρ vs) (fun ρ1 s1 => evalC Γ cond ρ1 s1) (fun ρ1 s1 => evalE Γ elt ρ1 s1) (ds.drop (i + 1)) sI).bind fun ys s2 => .ok (.lst (accD ++ ys)) s2)), fun H' q => q, fun x H' y => ?_⟩
        obtain ⟨gr, d, ed, td⟩ := wd.yields i (with_ O A) Hc x H' RI.trk hlt gI y
        rw [drop_at ed] at hI
        have kG : Kp F.pp Hc H' := fun a o _ h => gr a o h
        have pG : PenAt F H' sI := RI.pen.kp kG (gr _ _ RI.pen.d)
        have RG := RI.kp kG pG
        unfold compL at hI
        cases hst : setT (wipeR ρ vs) t d with
        | none => rw [hst] at hI; exact False.elim hI
        | some ρ1 =>
          rw [hst] at hI
          dsimp only at hI
          refine tg_ok hst td RG fun σ' only R' => ⟨?_, with_ O A, ρ1, ad, sI, R', ?_⟩
          · have e1 : wipe σ' vs = wipe (wipe σ vs) vs := wipe_eq only.1 fun j hj => only.2 j fun z => hj (sl j z)
            rw [e1]
            exact wipe_eq (wipe_length _ _) fun j hj => wipe_out hj
          · cases hq : evalC Γ cond ρ1 sI with
            | err c fs s2 => rw [hq] at hI; exact False.elim hI
            | bad => rw [hq] at hI; exact False.elim hI
            | ok bb s2 =>
              rw [hq] at hI
              intro b' H3 k3 p3 eb
              have eb : b' = bb := eb
              subst eb
              have R3 := R'.kp k3 p3
              have k13 : Kp F.pp H1 H3 := (kI.trans kG).trans k3
              have accA : H3 A = some (.lst accV) := k3 _ _ npp (gr _ _ hacc)
              have g3 : b.2 (hid (with_ O A) H3) := wd.mono _ _ gI (RI.exh (kG.trans k3))
              cases b' with
              | false =>
                have hI : Post F O H1 E rel Q ((compL t (wipeR ρ vs) (fun ρ1 s1 => evalC Γ cond ρ1 s1) (fun ρ1 s1 => evalE Γ elt ρ1 s1) (ds.drop (i + 1)) s2).bind fun ys s2 => .ok (.lst (accD ++ ys)) s2) := hI
                exact iteF ⟨ds.length - (i + 1), by omega, rfl, hlt, s2, accV, accD, accA, tacc.mono (RI.exh (kG.trans k3)), Nat.le_succ_of_le lacc, RG.kp k3 p3, g3, k13, hI⟩
              | true =>
                refine iteT ⟨with_ O A, ρ1, ad, s2, R3, ?_⟩
                have hI : Post F O H1 E rel Q (((evalE Γ elt ρ1 s2).calm.bind fun y s3 => (compL t (wipeR ρ vs) (fun ρ1 s1 => evalC Γ cond ρ1 s1) (fun ρ1 s1 => evalE Γ elt ρ1 s1) (ds.drop (i + 1)) s3).bind fun ys s3 => .ok (y :: ys) s3).bind fun ys s2 => .ok (.lst (accD ++ ys)) s2) := hI
                cases hy : evalE Γ elt ρ1 s2 with
                | err c fs s3 => rw [hy] at hI; exact False.elim hI
                | bad => rw [hy] at hI; exact False.elim hI
                | ok y s3 =>
                  rw [hy] at hI
                  intro v H4 k4 p4 t4
                  have accB : H4 A = some (.lst accV) := k4 _ _ npp accA
                  have R4 := (RG.kp k3 p3).kp k4 p4
                  have ex4 := RI.exh ((kG.trans k3).trans k4)
                  refine ⟨accV, accB, by rw [tacc.length]; exact big_lt (Nat.le_trans lacc (Nat.le_trans hi hz)), ds.length - (i + 1), by omega, rfl, hlt, s3, accV ++ [v], accD ++ [y], upd_same, ?_, ?_, R4.upd (.inr rfl) npp ncc nad, ?_, ?_, ?_⟩
                  · rw [hid_upd (.inr rfl)]
                    exact (tacc.mono ex4).append (.cons t4 .nil)
                  · rw [List.length_append]
                    exact Nat.succ_le_succ lacc
                  · rw [hid_upd (.inr rfl)]
                    exact wd.mono _ _ gI ex4
                  · intro a o na ha
                    have nA : a ≠ A := ne_of_none ha hA
                    rw [upd_ne nA]
                    exact k4 a o na (k13 a o na ha)
                  · have hI : Post F O H1 E rel Q (((compL t (wipeR ρ vs) (fun ρ1 s1 => evalC Γ cond ρ1 s1) (fun ρ1 s1 => evalE Γ elt ρ1 s1) (ds.drop (i + 1)) s3).bind fun ys s3 => Mi.R.ok (y :: ys) s3).bind fun ys s2 => .ok (.lst (accD ++ ys)) s2) := hI
                    cases hr : compL t (wipeR ρ vs) (fun ρ1 s1 => evalC Γ cond ρ1 s1) (fun ρ1 s1 => evalE Γ elt ρ1 s1) (ds.drop (i + 1)) s3 with
                    | err c fs s4 => rw [hr] at hI; exact hI
                    | bad => rw [hr] at hI; exact hI
                    | ok ys s4 =>
                      rw [hr] at hI
                      have hI : Post F O H1 E rel Q (.ok (.lst (accD ++ (y :: ys))) s4) := hI
                      show Post F O H1 E rel Q (.ok (.lst (accD ++ [y] ++ ys)) s4)
                      rw [List.append_assoc]
                      exact hI
      · have e : i = ds.length := by omega
        subst e
        refine .inl ⟨wd.stops _ _ gI, ?_⟩
        rw [List.drop_length] at hI
        have hI : Post F O H1 E rel Q (.ok (.lst (accD ++ [])) sI) := hI
        rw [List.append_nil] at hI
        exact hI _ Hc kI RI.pen (hrel H1 Hc A _ _ k1 hA hacc tacc nO)
theorem snd_comp {own : List (Str × Nat)} {t : Tg} {it : It} {cond : Es} {elt : Ex} {f tg iter : Expr} {ifs : List Expr} {scope : Scope} {pos : Pos} (hK : X.K = F.K) (hc : X.calm = true) (nd : X.N.Nodup) (ok : BlkOk X.N X.env.scope scope own) (hs : noSet iter = true)
    (sl : ∀ i ∈ t.slots, i ∈ own.map (·.2)) (hi : PI X tg iter (tI F Γ n E it))
    (hg : ∀ (s : Shared) (H : Hp) (C : Addr) (cl : List (Str × Addr)) (fp : List Addr), PG (X.blk s H scope (compEnvC scope cl C X.env) fp) tg (gT F.K t))
    (ht : ∀ (s : Shared) (H : Hp) (C : Addr) (cl : List (Str × Addr)) (fp : List Addr), PTs (X.blk s H scope (compEnvC scope cl C X.env) fp) ifs (tC F Γ n No cond))
    (he : ∀ (s : Shared) (H : Hp) (C : Addr) (cl : List (Str × Addr)) (fp : List Addr), PE (X.blk s H scope (compEnvC scope cl C X.env) fp) f (tE F Γ n No elt)) :
    PE X (.ListComp f [⟨tg, iter, ifs, 0⟩] scope pos) (tE F Γ n E (.comp own t it cond elt)) :=
  PE.imp (pe_lc hc nd hi ok hg ht he (notSet_it hs)) fun σ H Q ⟨O, ρ, ad, s, R, h⟩ => comp_imp sl R h fun H1 H' A vs ds k1 hA hacc tacc nO => .lst (by rw [hid_no nO]; exact hacc) (tacc.mono hid_less)
end
end Mi
end

section
set_option Elab.async false
set_option linter.all false
set_option maxRecDepth 100000
set_option maxHeartbeats 4000000
/-! Mi: all expressions at once. -/
namespace Mi
open PySem PySem.Spec PyProof.Rows L2
section
variable {F : Cf} {Γ : Tb}
theorem Gd.gl_ {X : Cx} {k : Ck} {E : XK} (g : Gd X k F Γ E) {x : Str} (h : glob k.sc x = true) : Gl X x := by
  show X.env.scope.names.lookup _ = _
  rw [g.sc]
  exact of_decide_eq_true h
theorem Gd.bl_ {X : Cx} {k : Ck} {E : XK} (g : Gd X k F Γ E) {x : Str} (h : inBl k x = true) : X.mg x = none := by
  unfold inBl at h
  rw [List.any_eq_true] at h
  obtain ⟨y, hy, e⟩ := h
  rw [← of_decide_eq_true e]
  exact g.blt y hy
theorem Gd.vs_ {X : Cx} {k : Ck} {E : XK} (g : Gd X k F Γ E) {x : Str} (h : vis k.sc x = true) : Vis X.env.scope x := by
  rw [g.sc]
  exact vis_ok h
theorem Gd.hu64 {X : Cx} {k : Ck} {E : XK} (g : Gd X k F Γ E) : X.A.units + 64 < cLine := by
  have := g.room.un
  omega
theorem Gd.hu100 {X : Cx} {k : Ck} {E : XK} (g : Gd X k F Γ E) : X.A.units + 100 < cLine := by
  have := g.room.un
  omega
theorem Gd.blk {X : Cx} {k : Ck} {E : XK} (g : Gd X k F Γ E) (s : Shared) (H : Hp) (scope : Scope) (C : Addr) (cl : List (Str × Addr)) (fp : List Addr) :
    Gd (X.blk s H scope (compEnvC scope cl C X.env) fp) { k with sc := relS scope k.sc } F Γ No where
  N := g.N
  nd := g.nd
  sc := by
    show relS scope X.env.scope = relS scope k.sc
    rw [g.sc]
  K := g.K
  calm := g.calm
  gd := g.gd
  room := g.room
  blt := g.blt
  fn := fun i x h => by
    obtain ⟨f, fd, ps, kk, sem, h1, h2, h3, h4, _, h6, h7⟩ := g.fn i x h
    exact ⟨f, fd, ps, kk, sem, h1, h2, h3, h4, passL, h6, h7⟩
  gl := g.gl
  gcd := g.gcd
theorem both {X : Cx} {E : XK} {n : Nat} {a : Ex} {e : Expr} (hK : X.K = F.K) (hp : plainTest e = true) (q : PE X e (tE F Γ n E a)) : PE X e (tE F Γ n E a) ∧ (tstE a = true → PT X e (tT F Γ n E a)) := ⟨q, fun _ => sndT_plain hK hp q⟩
mutual
theorem sndE : ∀ (ir : Ex) {X : Cx} {k : Ck} {E : XK} (_ : Gd X k F Γ E) {e : Expr} (_ : chkE k ir e = true), PE X e (tE F Γ k.N.length E ir) ∧ (tstE ir = true → PT X e (tT F Γ k.N.length E ir))
  | .var i, X, k, E, g, e, h => by
    simp only [chkE] at h
    split at h
    · simp only [Bool.and_eq_true, decide_eq_true_eq] at h
      exact both g.K rfl (snd_var (F := F) (Γ := Γ) (E := E) (n := k.N.length) (by rw [g.N]; exact h.1.1) (g.vs_ h.1.2) (name_ok h.2))
    · cases h
  | .int i, X, k, E, g, e, h => by
    simp only [chkE] at h
    split at h
    · have h := of_decide_eq_true h
      subst h
      exact ⟨snd_int, fun z => by cases z⟩
    · cases h
  | .bl i, X, k, E, g, e, h => by
    simp only [chkE] at h
    split at h
    · have h := of_decide_eq_true h
      subst h
      exact ⟨snd_bl, fun z => by cases z⟩
    · cases h
  | .non, X, k, E, g, e, h => by
    simp only [chkE] at h
    split at h
    · exact ⟨snd_non, fun z => by cases z⟩
    · cases h
  | .str i, X, k, E, g, e, h => by
    simp only [chkE] at h
    split at h
    · have h := of_decide_eq_true h
      subst h
      exact ⟨snd_str, fun z => by cases z⟩
    · cases h
  | .glob i, X, k, E, g, e, h => by
    simp only [chkE] at h
    split at h
    · simp only [Bool.and_eq_true, decide_eq_true_eq] at h
      exact both g.K rfl (snd_glob (F := F) (Γ := Γ) (E := E) (n := k.N.length) (g := i) (g.gl_ h.1.2) (name_ok h.2) (g.gl i _ h.1.1))
    · cases h
  | .tup es, X, k, E, g, e, h => by
    simp only [chkE] at h
    split at h
    · exact both g.K rfl (snd_tup (sndA es g h))
    · cases h
  | .lst es, X, k, E, g, e, h => by
    simp only [chkE] at h
    split at h
    · exact both g.K rfl (snd_lst (sndA es g h))
    · cases h
  | .bin o a b, X, k, E, g, e, h => by
    simp only [chkE] at h
    split at h
    · simp only [Bool.and_eq_true, decide_eq_true_eq] at h
      obtain ⟨⟨h1, h2⟩, h3⟩ := h
      subst h1
      exact both g.K rfl (snd_bin (o := o) (sndE a g h2).1 (sndE b g h3).1)
    · cases h
  | .neg a, X, k, E, g, e, h => by
    simp only [chkE] at h
    split at h
    · exact ⟨snd_neg (sndE a g h).1, fun z => by cases z⟩
    · cases h
  | .cmp o a b, X, k, E, g, e, h => by
    simp only [chkE] at h
    split at h
    · simp only [Bool.and_eq_true, decide_eq_true_eq] at h
      obtain ⟨⟨⟨h1, h2⟩, h3⟩, h4⟩ := h
      subst h1
      exact ⟨snd_cmp g.K g.hu64 h2 (sndE a g h3).1 (sndE b g h4).1, fun _ => sndT_cmp g.K g.hu64 h2 (sndE a g h3).1 (sndE b g h4).1⟩
    · cases h
  | .chain o p a b c, X, k, E, g, e, h => by
    simp only [chkE] at h
    split at h
    · simp only [Bool.and_eq_true, decide_eq_true_eq] at h
      obtain ⟨⟨⟨⟨⟨⟨h1, h2⟩, h3⟩, h4⟩, h5⟩, h6⟩, h7⟩ := h
      subst h1
      subst h2
      exact ⟨snd_chain g.K g.hu64 h3 h4 (sndE a g h5).1 (sndE b g h6).1 (sndE c g h7).1, fun z => by cases z⟩
    · cases h
  | .and_ es, X, k, E, g, e, h => by
    simp only [chkE] at h
    split at h
    · simp only [Bool.and_eq_true, Bool.not_eq_true'] at h
      obtain ⟨q1, q2, q3⟩ := sndB es g h.1 h.2
      exact ⟨PE.imp (q1 _) fun σ H Q ⟨O, ρ, ad, s, R, w⟩ => by unfold evalE at w; exact ⟨O, ρ, ad, s, R, w⟩,
        fun z => PT.imp ((q3 z).1 _).pt fun σ H Q ⟨O, ρ, ad, s, R, w⟩ => by unfold evalT evalE at w; exact ⟨O, ρ, ad, s, R, w⟩⟩
    · cases h
  | .or_ es, X, k, E, g, e, h => by
    simp only [chkE] at h
    split at h
    · simp only [Bool.and_eq_true, Bool.not_eq_true'] at h
      obtain ⟨q1, q2, q3⟩ := sndB es g h.1 h.2
      exact ⟨PE.imp (q2 _) fun σ H Q ⟨O, ρ, ad, s, R, w⟩ => by unfold evalE at w; exact ⟨O, ρ, ad, s, R, w⟩,
        fun z => PT.imp ((q3 z).2 _).pt fun σ H Q ⟨O, ρ, ad, s, R, w⟩ => by unfold evalT evalE at w; exact ⟨O, ρ, ad, s, R, w⟩⟩
    · cases h
  | .not_ a, X, k, E, g, e, h => by
    simp only [chkE] at h
    split at h
    · exact ⟨snd_not g.K (sndE a g h).1, fun z => sndT_not ((sndE a g h).2 z)⟩
    · cases h
  | .ite c a b, X, k, E, g, e, h => by
    simp only [chkE] at h
    split at h
    · simp only [Bool.and_eq_true] at h
      obtain ⟨⟨⟨h1, h2⟩, h3⟩, h4⟩ := h
      exact ⟨snd_ite ((sndE c g h2).2 h1) (sndE a g h3).1 (sndE b g h4).1, fun z => by cases z⟩
    · cases h
  | .sub a b, X, k, E, g, e, h => by
    simp only [chkE] at h
    split at h
    · simp only [Bool.and_eq_true] at h
      obtain ⟨⟨h1, h2⟩, h3⟩ := h
      exact both g.K rfl (snd_sub g.K h1 (sndE a g h2).1 (sndE b g h3).1)
    · cases h
  | .call i es, X, k, E, g, e, h => by
    simp only [chkE] at h
    split at h
    · simp only [Bool.and_eq_true, decide_eq_true_eq] at h
      obtain ⟨⟨⟨h1, h2⟩, h3⟩, h4⟩ := h
      rename_i args _
      have hn : es = .nil ∨ args ≠ [] := by
        cases es with
        | nil => exact .inl rfl
        | cons a r =>
          refine .inr ?_
          intro z
          subst z
          simp [chkA] at h4
      exact both g.K rfl (snd_call g.gd (g.gl_ h2) (name_ok h3) (g.fn i _ h1) (chkA_star h4) (sndA es g h4) hn)
    · cases h
  | .blt b es, X, k, E, g, e, h => by
    simp only [chkE] at h
    split at h
    · simp only [Bool.and_eq_true, decide_eq_true_eq, Bool.not_eq_true'] at h
      obtain ⟨⟨⟨⟨h1, h2⟩, h3⟩, h4⟩, h5⟩ := h
      rename_i args _
      have hne : args ≠ [] := fun z => by rw [z] at h5; cases h5
      by_cases hb : b = .gcd
      · subst hb
        exact both g.K rfl (snd_gcd (g.gl_ h2) h1 (g.gcd h3) (chkA_star h4) hne (sndA es g h4))
      · rw [if_neg hb] at h3
        exact both g.K rfl (snd_blt hb g.K g.calm g.gd g.hu100 (g.gl_ h2) h1 (g.bl_ h3) (chkA_star h4) hne (sndA es g h4))
    · cases h
  | .isi a ts, X, k, E, g, e, h => by
    simp only [chkE] at h
    split at h
    · simp only [Bool.and_eq_true, decide_eq_true_eq] at h
      obtain ⟨⟨⟨⟨⟨⟨⟨h1, h2⟩, h3⟩, h4⟩, h5⟩, h6⟩, h7⟩, h8⟩ := h
      split at h4
      · have h4 := of_decide_eq_true h4
        subst h1
        exact both g.K rfl (snd_isi g.K (g.gl_ h2) (g.bl_ h3) (g.gl_ h5) h4 (g.bl_ h6) h7 (sndE a g h8).1)
      · cases h4
    · simp only [Bool.and_eq_true, decide_eq_true_eq, Bool.not_eq_true'] at h
      obtain ⟨⟨⟨⟨⟨⟨⟨h1, h2⟩, h3⟩, h4⟩, h5⟩, h6⟩, h7⟩, h8⟩ := h
      subst h1
      exact both g.K rfl (snd_isiT g.K (g.gl_ h2) (g.bl_ h3) g.sc g.blt h4 h5 (fun z => by rw [z] at h6; cases h6) h7 (sndE a g h8).1)
    · cases h
  | .bits a, X, k, E, g, e, h => by
    simp only [chkE] at h
    split at h
    · simp only [Bool.and_eq_true, decide_eq_true_eq] at h
      obtain ⟨⟨⟨h1, h2⟩, h3⟩, h4⟩ := h
      subst h1
      exact both g.K rfl (snd_bits h2 h3 (sndE a g h4).1)
    · cases h
  | .comp own t it cond elt, X, k, E, g, e, h => by
    simp only [chkE] at h
    split at h
    · simp only [Bool.and_eq_true, decide_eq_true_eq] at h
      obtain ⟨⟨⟨⟨⟨⟨⟨⟨⟨h1, h2⟩, h3⟩, h4⟩, h5⟩, h6⟩, h7⟩, h8⟩, h9⟩, h10⟩ := h
      rename_i sq _
      exact both g.K rfl (snd_comp (E := E) g.K g.calm g.nd (blkOk_by (by rw [g.N, g.sc]; exact h1)) h2 (fun i hi => of_decide_eq_true (List.all_eq_true.mp h6 i hi)) (sndI it g h3 h4)
        (fun s H C cl fp => by
          have w := g.blk s H sq C cl fp
          rw [← g.K]
          exact pg_T w.N w.nd w.sc w.calm (fun z => by cases z) h5)
        (fun s H C cl fp => sndC cond (g.blk s H sq C cl fp) h7 h8 h9)
        (fun s H C cl fp => (sndE elt (g.blk s H sq C cl fp) h10).1))
    · cases h
  | .lenO i, X, k, E, g, e, h => by
    simp only [chkE] at h
    split at h
    · simp only [Bool.and_eq_true, decide_eq_true_eq] at h
      obtain ⟨⟨⟨⟨⟨h1, h2⟩, h3⟩, h4⟩, h5⟩, h6⟩ := h
      subst h1
      exact both g.K rfl (snd_lenO (F := F) (Γ := Γ) (E := E) (n := k.N.length) (g.gl_ h2) (g.bl_ h3) (by rw [g.N]; exact h4) (g.vs_ h5) (name_ok h6))
    · cases h
  | .subO i a, X, k, E, g, e, h => by
    simp only [chkE] at h
    split at h
    · simp only [Bool.and_eq_true, decide_eq_true_eq] at h
      obtain ⟨⟨⟨⟨h1, h2⟩, h3⟩, h4⟩, h5⟩ := h
      exact both g.K rfl (snd_subO h1 (by rw [g.N]; exact h2) (g.vs_ h3) (name_ok h4) (sndE a g h5).1)
    · cases h
  | .dnew, X, k, E, g, e, h => by
    simp only [chkE] at h
    split at h
    · exact both g.K rfl snd_dnew
    · cases h
  | .pget i f, X, k, E, g, e, h => by
    simp only [chkE] at h
    split at h
    · simp only [Bool.and_eq_true, decide_eq_true_eq] at h
      obtain ⟨⟨⟨h1, h2⟩, h3⟩, h4⟩ := h
      subst h1
      exact both g.K rfl (snd_pget g.hu64 (by rw [g.N]; exact h2) (g.vs_ h3) (name_ok h4))
    · cases h
  | .plen i, X, k, E, g, e, h => by
    simp only [chkE] at h
    split at h
    · simp only [Bool.and_eq_true, decide_eq_true_eq] at h
      obtain ⟨⟨⟨⟨⟨⟨h1, h2⟩, h3⟩, h4⟩, h5⟩, h6⟩, h7⟩ := h
      subst h1
      subst h4
      exact both g.K rfl (snd_plen g.hu64 (g.gl_ h2) (g.bl_ h3) (by rw [g.N]; exact h5) (g.vs_ h6) (name_ok h7))
    · cases h
  | .pcell i a, X, k, E, g, e, h => by
    simp only [chkE] at h
    split at h
    · simp only [Bool.and_eq_true, decide_eq_true_eq] at h
      obtain ⟨⟨⟨⟨⟨h1, h2⟩, h3⟩, h4⟩, h5⟩, h6⟩ := h
      subst h2
      exact both g.K rfl (snd_pcell g.hu64 h1 (by rw [g.N]; exact h3) (g.vs_ h4) (name_ok h5) (sndE a g h6).1)
    · cases h
theorem sndA : ∀ (es : Es) {X : Cx} {k : Ck} {E : XK} (_ : Gd X k F Γ E) {fs : List Expr} (_ : chkA k es fs = true), PA X fs (tA F Γ k.N.length E es)
  | .nil, X, k, E, g, fs, h => by
    simp only [chkA] at h
    split at h
    · exact snd_nil
    · cases h
  | .cons e r, X, k, E, g, fs, h => by
    simp only [chkA] at h
    split at h
    · simp only [Bool.and_eq_true] at h
      exact snd_cons h.1.1 (sndE e g h.1.2).1 (sndA r g h.2)
    · cases h
theorem sndB : ∀ (es : Es) {X : Cx} {k : Ck} {E : XK} (_ : Gd X k F Γ E) {fs : List Expr} (_ : chkA k es fs = true) (_ : fs.isEmpty = false),
    (∀ pos, PE X (.BoolOp .And fs pos) (tAnds F Γ k.N.length E es)) ∧ (∀ pos, PE X (.BoolOp .Or fs pos) (tOrs F Γ k.N.length E es)) ∧
      (tstEs es = true → (∀ pos, PW X (.BoolOp .And fs pos) (tAndsT F Γ k.N.length E es)) ∧ ∀ pos, PW X (.BoolOp .Or fs pos) (tOrsT F Γ k.N.length E es))
  | .nil, X, k, E, g, fs, h, hn => by
    simp only [chkA] at h
    split at h
    · cases hn
    · cases h
  | .cons e .nil, X, k, E, g, fs, h, hn => by
    simp only [chkA] at h
    split at h
    · simp only [Bool.and_eq_true] at h
      obtain ⟨⟨h1, h2⟩, h3⟩ := h
      split at h3
      · obtain ⟨p, q⟩ := sndE e g h2
        exact ⟨fun _ => snd_and1 p, fun _ => snd_or1 p, fun z => by
          simp only [tstEs, Bool.and_true] at z
          exact ⟨fun _ => sndT_and1 (q z), fun _ => sndT_or1 (q z)⟩⟩
      · cases h3
    · cases h
  | .cons e (.cons f r), X, k, E, g, fs, h, hn => by
    have h0 := h
    unfold chkA at h
    split at h
    · rename_i a as
      simp only [Bool.and_eq_true] at h
      obtain ⟨⟨h1, h2⟩, h3⟩ := h
      have h4 := h3
      unfold chkA at h4
      split at h4
      · obtain ⟨p, q⟩ := sndE e g h2
        obtain ⟨q1, q2, q3⟩ := sndB (.cons f r) g h3 rfl
        exact ⟨fun _ => snd_andC g.K p (q1 _), fun _ => snd_orC g.K p (q2 _), fun z => by
          have z : (tstE e && tstEs (.cons f r)) = true := z
          rw [Bool.and_eq_true] at z
          exact ⟨fun _ => sndT_andC (q z.1) ((q3 z.2).1 _), fun _ => sndT_orC (q z.1) ((q3 z.2).2 _)⟩⟩
      · cases h4
    · cases h
theorem sndC : ∀ (es : Es) {X : Cx} {k : Ck} {E : XK} (_ : Gd X k F Γ E) {fs : List Expr} (_ : chkA k es fs = true) (_ : fs.length ≤ 1) (_ : tstEs es = true), PTs X fs (tC F Γ k.N.length E es)
  | .nil, X, k, E, g, fs, h, hl, ht => by
    simp only [chkA] at h
    split at h
    · exact pts_no
    · cases h
  | .cons e .nil, X, k, E, g, fs, h, hl, ht => by
    simp only [chkA] at h
    split at h
    · simp only [Bool.and_eq_true] at h
      obtain ⟨⟨h1, h2⟩, h3⟩ := h
      split at h3
      · simp only [tstEs, Bool.and_true] at ht
        exact pts_ok ((sndE e g h2).2 ht)
      · cases h3
    · cases h
  | .cons e (.cons f r), X, k, E, g, fs, h, hl, ht => by
    simp only [chkA] at h
    split at h
    · simp only [Bool.and_eq_true] at h
      obtain ⟨⟨h1, h2⟩, h3⟩ := h
      split at h3
      · simp only [List.length_cons] at hl
        omega
      · cases h3
    · cases h
theorem sndI : ∀ (it : It) {X : Cx} {k : Ck} {E : XK} (_ : Gd X k F Γ E) {tg e : Expr} (_ : itTg it tg = true) (_ : chkI k it e = true), PI X tg e (tI F Γ k.N.length E it)
  | .ex a, X, k, E, g, tg, e, ht, h => by
    simp only [chkI] at h
    exact sndI_ex g.K (sndE a g h).1
  | .rng1 a, X, k, E, g, tg, e, ht, h => by
    simp only [chkI] at h
    split at h
    · simp only [Bool.and_eq_true, decide_eq_true_eq] at h
      obtain ⟨⟨⟨⟨h1, h2⟩, h3⟩, h4⟩, h5⟩ := h
      subst h1
      exact sndI_rng1 (g.gl_ h2) (g.bl_ h3) h4 (sndE a g h5).1
    · cases h
  | .rng2 a b, X, k, E, g, tg, e, ht, h => by
    simp only [chkI] at h
    split at h
    · simp only [Bool.and_eq_true, decide_eq_true_eq] at h
      obtain ⟨⟨⟨⟨⟨⟨h1, h2⟩, h3⟩, h4⟩, h5⟩, h6⟩, h7⟩ := h
      subst h1
      exact sndI_rng2 (g.gl_ h2) (g.bl_ h3) h4 h5 (sndE a g h6).1 (sndE b g h7).1
    · cases h
  | .zip a b, X, k, E, g, tg, e, ht, h => by
    simp only [chkI] at h
    split at h
    · simp only [Bool.and_eq_true, decide_eq_true_eq] at h
      obtain ⟨⟨⟨⟨⟨⟨h1, h2⟩, h3⟩, h4⟩, h5⟩, h6⟩, h7⟩ := h
      subst h1
      cases tg <;> (first | (cases ht; done) | skip)
      exact sndI_zip g.K (g.gl_ h2) (g.bl_ h3) h4 h5 (sndE a g h6).1 (sndE b g h7).1
    · cases h
  | .enum a, X, k, E, g, tg, e, ht, h => by
    simp only [chkI] at h
    split at h
    · simp only [Bool.and_eq_true, decide_eq_true_eq] at h
      obtain ⟨⟨⟨⟨h1, h2⟩, h3⟩, h4⟩, h5⟩ := h
      subst h1
      cases tg <;> (first | (cases ht; done) | skip)
      exact sndI_enum g.K (g.gl_ h2) (g.bl_ h3) h4 (sndE a g h5).1
    · cases h
end
end
end Mi
end

section
set_option Elab.async false
set_option linter.all false
set_option maxRecDepth 100000
set_option maxHeartbeats 4000000
/-! Mi: statements: terms, meaning, what is kept. -/
namespace Mi
open PySem PySem.Spec PyProof.Rows L2

mutual
inductive Sm where
  | set (i : Nat) (e : Ex) | own (i : Nat) (e : Ex) | tup (t : Tg) (e : Ex)
  | par (i j : Nat) (a b : Ex) | par3 (i j l : Nat) (a b c : Ex)
  | app (i : Nat) (e : Ex)
  | aug (i : Nat) (o : Bop) (e : Ex)
  | ex (e : Ex) | ret (e : Ex) | retN
  | if_ (c : Ex) (a b : Sts)
  | for_ (t : Tg) (it : It) (b : Sts)
  | while_ (n : Nat) (c : Ex) (b : Sts)
  | brk | cont | pass
  | raise (c : Nat) (ns : List Str) (es : Es)
  | pset (i : Nat) (f : PF) (e : Ex)
inductive Sts where
  | nil | cons (s : Sm) (r : Sts) | frz (is : List Nat) (r : Sts)
end
/-- where a statement ends -/
inductive RS where
  | nx (ρ : List Sl) (s : Pen) | bk (ρ : List Sl) (s : Pen) | ct (ρ : List Sl) (s : Pen) | rt (d : D) (s : Pen)
  | err (c : Nat) (fs : List (Str × D)) (s : Pen) | bad
def RS.bind : RS → (List Sl → Pen → RS) → RS
  | .nx ρ s, f => f ρ s
  | r, _ => r
def R.to {α : Type} : R α → (α → Pen → RS) → RS
  | .ok a s, f => f a s
  | .err c fs s, _ => .err c fs s
  | .bad, _ => .bad
def frz (ρ : List Sl) (i : Nat) : List Sl :=
  match ρ[i]? with
  | some (.own ds) => ρ.set i (.val (.lst ds))
  | _ => ρ
def frzs (ρ : List Sl) : List Nat → List Sl
  | [] => ρ
  | i :: is => frzs (frz ρ i) is
/-- a for's turns -/
def forL (t : Tg) (f : List Sl → Pen → RS) : List D → List Sl → Pen → RS
  | [], ρ, s => .nx ρ s
  | d :: r, ρ, s => match setT ρ t d with
    | none => .bad
    | some ρ1 => match f ρ1 s with
      | .nx ρ2 s2 => forL t f r ρ2 s2
      | .ct ρ2 s2 => forL t f r ρ2 s2
      | .bk ρ2 s2 => .nx ρ2 s2
      | x => x
/-- a while's turns -/
def whileL (c : List Sl → Pen → R Bool) (f : List Sl → Pen → RS) : Nat → List Sl → Pen → RS
  | 0, _, _ => .bad
  | n + 1, ρ, s => (c ρ s).to fun b s1 =>
    if b = true then match f ρ s1 with
      | .nx ρ2 s2 => whileL c f n ρ2 s2
      | .ct ρ2 s2 => whileL c f n ρ2 s2
      | .bk ρ2 s2 => .nx ρ2 s2
      | x => x
    else .nx ρ s1
def zipS : List Str → List D → Option (List (Str × D))
  | [], [] => some []
  | x :: xs, d :: ds => (zipS xs ds).map fun r => r ++ [(x, d)]
  | _, _ => none
mutual
def exec (Γ : Tb) : Sm → List Sl → Pen → RS
  | .set i e, ρ, s => (evalE Γ e ρ s).to fun d s1 => .nx (ρ.set i (.val d)) s1
  | .own i e, ρ, s => (evalE Γ e ρ s).to fun d s1 => match d with
    | .lst ds => .nx (ρ.set i (.own ds)) s1
    | _ => .bad
  | .tup t e, ρ, s => (evalE Γ e ρ s).to fun d s1 => match setT ρ t d with
    | some ρ1 => .nx ρ1 s1
    | none => .bad
  | .par i j a b, ρ, s => (evalA Γ (.cons a (.cons b .nil)) ρ s).to fun ds s1 => match ds with
    | [x, y] => .nx ((ρ.set i (.val x)).set j (.val y)) s1
    | _ => .bad
  | .par3 i j l a b c, ρ, s => (evalA Γ (.cons a (.cons b (.cons c .nil))) ρ s).to fun ds s1 => match ds with
    | [x, y, z] => .nx (((ρ.set i (.val x)).set j (.val y)).set l (.val z)) s1
    | _ => .bad
  | .app i e, ρ, s => match ρ[i]? with
    | some (.own ds) => (evalA Γ (.cons e .nil) ρ s).to fun xs s1 => match xs with
      | [d] => if ds.length ≤ big then .nx (ρ.set i (.own (ds ++ [d]))) s1 else .bad
      | _ => .bad
    | _ => .bad
  | .aug i o e, ρ, s => match ρ[i]? with
    | some (.val (.int x)) => (evalE Γ e ρ s).to fun y s1 => match o, y with
      | .add, .int j => .nx (ρ.set i (.val (.int (x + j)))) s1
      | .sub, .int j => .nx (ρ.set i (.val (.int (x - j)))) s1
      | _, _ => .bad
    | _ => .bad
  | .ex e, ρ, s => (evalE Γ e ρ s).to fun _ s1 => .nx ρ s1
  | .ret e, ρ, s => (evalE Γ e ρ s).to fun d s1 => .rt d s1
  | .retN, _, s => .rt .non s
  | .if_ c a b, ρ, s => (evalT Γ c ρ s).to fun k s1 => if k = true then execs Γ a ρ s1 else execs Γ b ρ s1
  | .for_ t it b, ρ, s => (evalI Γ it ρ s).to fun ds s1 => forL t (fun ρ1 s1 => execs Γ b ρ1 s1) ds ρ s1
  | .while_ n c b, ρ, s => whileL (fun ρ s => evalT Γ c ρ s) (fun ρ1 s1 => execs Γ b ρ1 s1) n ρ s
  | .brk, ρ, s => .bk ρ s
  | .cont, ρ, s => .ct ρ s
  | .pass, ρ, s => .nx ρ s
  | .raise c ns es, ρ, s => (evalA Γ es ρ s).to fun ds s1 => match zipS ns ds with
    | some fs => .err c fs s1
    | none => .bad
  | .pset i f e, ρ, s => (evalE Γ e ρ s).to fun d s1 => match ρ[i]?, d with
    | some (.val .pen), .int j => .nx ρ (s1.put f j)
    | _, _ => .bad
def execs (Γ : Tb) : Sts → List Sl → Pen → RS
  | .nil, ρ, s => .nx ρ s
  | .cons a r, ρ, s => (exec Γ a ρ s).bind fun ρ1 s1 => execs Γ r ρ1 s1
  | .frz is r, ρ, s => execs Γ r (frzs ρ is) s
end

/-! ### what is kept -/
structure RelS (F : Cf) (n : Nat) (H0 : Hp) (O0 : Addr → Prop) (O : Addr → Prop) (ρ : List Sl) (ad : Nat → Addr) (σ : L2.St) (H : Hp) (s : Pen) : Prop where
  r : Rel F n O ρ ad σ H s
  kp : Kp F.pp H0 H
  cc : H0 F.cc ≠ none
  sub : ∀ b, O0 b → O b
  fresh : ∀ b, O b → O0 b ∨ H0 b = none
  mine : ∀ (i : Nat) (ds : List D), ρ[i]? = some (Sl.own ds) → ¬ O0 (ad i)
  inj : ∀ (i j : Nat) (ds es : List D), ρ[i]? = some (Sl.own ds) → ρ[j]? = some (Sl.own es) → ad i = ad j → i = j
def PostS (F : Cf) (n : Nat) (H0 : Hp) (O0 : Addr → Prop) (O : Addr → Prop) (H : Hp) (E : XK) (D : Ends) : RS → Prop
  | .nx ρ s => ∀ O' ad σ' H', RelS F n H0 O0 O' ρ ad σ' H' s → Evl.Ex (hid O H) (hid O' H') → D.nx σ' H'
  | .bk ρ s => ∀ O' ad σ' H', RelS F n H0 O0 O' ρ ad σ' H' s → Evl.Ex (hid O H) (hid O' H') → D.bk σ' H'
  | .ct ρ s => ∀ O' ad σ' H', RelS F n H0 O0 O' ρ ad σ' H' s → Evl.Ex (hid O H) (hid O' H') → D.ct σ' H'
  | .rt d s => ∀ v H', Kp F.pp H0 H' → PenAt F H' s → Dt F (hid O0 H') v d → D.rt v H'
  | .err c fs s => ∀ a vs H', Kp F.pp H0 H' → PenAt F H' s → H' a = some (.xd vs) → Dfs F (hid O0 H') vs fs → E (.ref (F.cl c)) (some a) H'
  | .bad => False
section
variable {F : Cf} {n : Nat} {H0 H H1 : Hp} {O0 O O1 : Addr → Prop} {E : XK} {D : Ends} {ρ : List Sl} {ad : Nat → Addr} {σ : L2.St} {s s1 : Pen}
theorem PostS.later {r : RS} (h : PostS F n H0 O0 O H E D r) (e : Evl.Ex (hid O H) (hid O1 H1)) : PostS F n H0 O0 O1 H1 E D r := by
  cases r with
  | nx ρ s => exact fun O' ad σ' H' R x => h O' ad σ' H' R fun b o q => x b o (e b o q)
  | bk ρ s => exact fun O' ad σ' H' R x => h O' ad σ' H' R fun b o q => x b o (e b o q)
  | ct ρ s => exact fun O' ad σ' H' R x => h O' ad σ' H' R fun b o q => x b o (e b o q)
  | rt d s => exact h
  | err c fs s => exact h
  | bad => exact h
theorem RelS.toKp (R : RelS F n H0 O0 O ρ ad σ H s) (k : Kp F.pp H H1) (p : PenAt F H1 s1) : RelS F n H0 O0 O ρ ad σ H1 s1 where
  r := R.r.kp k p
  kp := R.kp.trans k
  cc := R.cc
  sub := R.sub
  fresh := R.fresh
  mine := R.mine
  inj := R.inj
theorem RelS.exh (R : RelS F n H0 O0 O ρ ad σ H s) (k : Kp F.pp H H1) : Evl.Ex (hid O H) (hid O H1) := R.r.exh k
theorem hid_sub {O O0 : Addr → Prop} {H : Hp} (h : ∀ b, O0 b → O b) : Evl.Ex (hid O H) (hid O0 H) := fun b o q => by
  obtain ⟨h1, h2⟩ := hid_some q
  rw [hid_no fun z => h1 (h b z)]
  exact h2
/-- an expression within a statement -/
theorem PostS.to {α β : Type} {rel : Hp → β → α → Prop} {Q : β → Hp → Prop} {r : R α} {f : α → Pen → RS} (R : RelS F n H0 O0 O ρ ad σ H s) (h : PostS F n H0 O0 O H E D (r.to f))
    (k : ∀ a s1 b H1, Kp F.pp H H1 → PenAt F H1 s1 → rel (hid O H1) b a → RelS F n H0 O0 O ρ ad σ H1 s1 → PostS F n H0 O0 O H E D (f a s1) → Q b H1) : Post F O H E rel Q r := by
  cases r with
  | ok a s1 => exact fun b H1 k1 p t => k a s1 b H1 k1 p t (R.toKp k1 p) h
  | err c fs s1 => exact fun a vs H1 k1 p e t => h a vs H1 (R.kp.trans k1) p e (t.mono (hid_sub R.sub))
  | bad => exact h
end
def tS (F : Cf) (Γ : Tb) (n : Nat) (H0 : Hp) (O0 : Addr → Prop) (E : XK) (a : Sm) : TS := fun D σ H => ∃ O ρ ad s, RelS F n H0 O0 O ρ ad σ H s ∧ PostS F n H0 O0 O H E D (exec Γ a ρ s)
def tSs (F : Cf) (Γ : Tb) (n : Nat) (H0 : Hp) (O0 : Addr → Prop) (E : XK) (a : Sts) : TS := fun D σ H => ∃ O ρ ad s, RelS F n H0 O0 O ρ ad σ H s ∧ PostS F n H0 O0 O H E D (execs Γ a ρ s)
end Mi
end

section
set_option Elab.async false
set_option linter.all false
set_option maxRecDepth 100000
set_option maxHeartbeats 4000000
/-! Mi: what statements keep: stores, own lists. -/
namespace Mi
open PySem PySem.Spec PyProof.Rows L2

/-- a list that no other data has -/
def relO (F : Cf) (H : Hp) : Hp → V → D → Prop := fun hp v d => ∃ p xs ds, v = .ref p ∧ d = .lst ds ∧ H p = none ∧ hp p = some (.lst xs) ∧ Dts F (hid (fun b => b = p) hp) xs ds
theorem hid_hid {O : Addr → Prop} {H : Hp} {p : Addr} : hid (fun b => b = p) (hid O H) = hid (with_ O p) H := by
  funext b
  by_cases e : b = p
  · rw [hid_yes (O := fun b => b = p) e, hid_yes (O := with_ O p) (.inr e)]
  · rw [hid_no (O := fun b => b = p) e]
    by_cases q : O b
    · rw [hid_yes q, hid_yes (O := with_ O p) (.inl q)]
    · rw [hid_no q, hid_no (O := with_ O p) fun z => z.elim q e]
section
variable {F : Cf} {n : Nat} {H0 H H1 : Hp} {O0 O O1 : Addr → Prop} {E : XK} {D : Ends} {ρ : List Sl} {ad : Nat → Addr} {σ : L2.St} {s s1 : Pen}
theorem RelS.set (R : RelS F n H0 O0 O ρ ad σ H s) {i : Nat} {v : V} {d : Mi.D} (t : Dt F (hid O H) v d) : RelS F n H0 O0 O (ρ.set i (.val d)) ad (σ.set i (some v)) H s where
  r := R.r.set t
  kp := R.kp
  cc := R.cc
  sub := R.sub
  fresh := R.fresh
  mine := fun j ds e => by
    rcases set_get e with ⟨_, _, h3⟩ | ⟨_, h2⟩
    · cases h3
    · exact R.mine j ds h2
  inj := fun i j ds es a b e => by
    rcases set_get a with ⟨_, _, h3⟩ | ⟨_, h2⟩
    · cases h3
    · rcases set_get b with ⟨_, _, h3⟩ | ⟨_, h4⟩
      · cases h3
      · exact R.inj i j ds es h2 h4 e
/-- a new own list -/
theorem RelS.ownNew (R : RelS F n H0 O0 O ρ ad σ H s) (k : Kp F.pp H H1) (p1 : PenAt F H1 s1) {i : Nat} {p : Addr} {xs : List V} {ds : List Mi.D} (hp : H p = none) (h1 : H1 p = some (.lst xs)) (t : Dts F (hid (with_ O p) H1) xs ds) :
    RelS F n H0 O0 (with_ O p) (ρ.set i (.own ds)) (fun j => if j = i then p else ad j) (σ.set i (some (.ref p))) H1 s1 ∧ Evl.Ex (hid O H) (hid (with_ O p) H1) := by
  have R1 := R.toKp k p1
  have nO : ¬ O p := R.r.new hp
  have ex : Evl.Ex (hid O H) (hid (with_ O p) H1) := fun b o q => by
    obtain ⟨a, c⟩ := hid_some q
    rw [hid_no fun z => z.elim a fun z => by rw [z, hp] at c; cases c]
    exact k b o (fun z => a (z ▸ R.r.pp)) c
  refine ⟨⟨⟨by rw [List.length_set]; exact R1.r.ln, by rw [List.length_set]; exact R1.r.rl, fun j d e => ?_, fun j es e => ?_, .inl R1.r.pp, fun b hb => ?_, p1⟩, R1.kp, R.cc, fun b h => .inl (R1.sub b h), fun b h => ?_, fun j es e => ?_, fun a b ds1 ds2 e1 e2 e3 => ?_⟩, ex⟩
  · rcases set_get e with ⟨h1, h2, h3⟩ | ⟨h1, h2⟩
    · cases h3
    · obtain ⟨w, a, t'⟩ := R.r.val j d h2
      exact ⟨w, by rw [List.getElem?_set_ne (Ne.symm h1)]; exact a, t'.mono ex⟩
  · rcases set_get e with ⟨a1, a2, a3⟩ | ⟨a1, a2⟩
    · cases a3
      subst a1
      rw [if_pos rfl]
      exact ⟨.inr rfl, xs, by rw [List.getElem?_set, if_pos rfl, if_pos (by rw [R.r.ln, ← R.r.rl]; exact a2)], h1, t⟩
    · obtain ⟨o, ys, b, c, t'⟩ := R.r.own j es a2
      rw [if_neg a1]
      have hne : ad j ≠ F.pp := fun z => by
        have q := R.r.pen.d
        rw [← z, c] at q
        cases q
      exact ⟨.inl o, ys, by rw [List.getElem?_set_ne (Ne.symm a1)]; exact b, k _ _ hne c, t'.mono ex⟩
  · rcases hb with hb | hb
    · exact R1.r.trk b hb
    · rw [hb, h1]; simp
  · rcases h with h | h
    · exact R1.fresh b h
    · rw [h]
      right
      cases e : H0 p with
      | none => rfl
      | some o =>
        have := R.kp p o (fun z => nO (z ▸ R.r.pp)) e
        rw [hp] at this
        cases this
  · rcases set_get e with ⟨a1, _, _⟩ | ⟨a1, a2⟩
    · rw [if_pos a1]
      exact fun z => nO (R.sub p z)
    · rw [if_neg a1]
      exact R.mine j es a2
  · have neq : ∀ {j : Nat} {es : List Mi.D}, ρ[j]? = some (Sl.own es) → ad j ≠ p := fun {j es} h z => by
      obtain ⟨_, ys, _, c, _⟩ := R.r.own j es h
      rw [z, hp] at c
      cases c
    have e3 : (if a = i then p else ad a) = (if b = i then p else ad b) := e3
    rcases set_get e1 with ⟨a1, _, _⟩ | ⟨a1, a2⟩
    · rcases set_get e2 with ⟨b1, _, _⟩ | ⟨b1, b2⟩
      · rw [a1, b1]
      · rw [if_pos a1, if_neg b1] at e3
        exact absurd e3.symm (neq b2)
    · rcases set_get e2 with ⟨b1, _, _⟩ | ⟨b1, b2⟩
      · rw [if_neg a1, if_pos b1] at e3
        exact absurd e3 (neq a2)
      · rw [if_neg a1, if_neg b1] at e3
        exact R.inj a b ds1 ds2 a2 b2 e3
/-- a write to an own list -/
theorem RelS.ownSet (R : RelS F n H0 O0 O ρ ad σ H s) {i : Nat} {ds es : List Mi.D} {ys : List V} (ho : ρ[i]? = some (.own ds)) (t : Dts F (hid O H) ys es) :
    RelS F n H0 O0 O (ρ.set i (.own es)) ad σ (upd H (ad i) (.lst ys)) s ∧ Evl.Ex (hid O H) (hid O (upd H (ad i) (.lst ys))) := by
  obtain ⟨o, xs, b, c, t0⟩ := R.r.own i ds ho
  have n1 : ad i ≠ F.pp := fun z => by
    have q := R.r.pen.d
    rw [← z, c] at q
    cases q
  have hh : hid O (upd H (ad i) (.lst ys)) = hid O H := hid_upd o
  have hnone : H0 (ad i) = none := (R.fresh _ o).resolve_left (R.mine i ds ho)
  refine ⟨⟨⟨R.r.ln, by rw [List.length_set]; exact R.r.rl, fun j d e => ?_, fun j fs e => ?_, R.r.pp, fun a ha => ?_, ⟨?_, ?_⟩⟩, fun a u na ha => ?_, R.cc, R.sub, R.fresh, fun j fs e => ?_, fun a b ds1 ds2 e1 e2 e3 => ?_⟩, by rw [hh]; exact fun _ _ q => q⟩
  · rcases set_get e with ⟨_, _, h3⟩ | ⟨_, h2⟩
    · cases h3
    · rw [hh]
      exact R.r.val j d h2
  · rw [hh]
    rcases set_get e with ⟨a1, a2, a3⟩ | ⟨a1, a2⟩
    · cases a3
      subst a1
      exact ⟨o, ys, b, upd_same, t⟩
    · obtain ⟨o', zs, b', c', t'⟩ := R.r.own j fs a2
      exact ⟨o', zs, b', by rw [upd_ne fun z => a1 (R.inj j i fs ds a2 ho z)]; exact c', t'⟩
  · by_cases e : a = ad i
    · rw [e, upd_same]; simp
    · rw [upd_ne e]; exact R.r.trk a ha
  · rw [upd_ne (Ne.symm n1)]
    exact R.r.pen.d
  · by_cases e : F.cc = ad i
    · exact absurd (by rw [e]; exact hnone) R.cc
    · rw [upd_ne e]
      exact R.r.pen.c
  · rw [upd_ne fun z => by rw [z, hnone] at ha; cases ha]
    exact R.kp a u na ha
  · rcases set_get e with ⟨a1, _, _⟩ | ⟨a1, a2⟩
    · rw [a1]
      exact R.mine i ds ho
    · exact R.mine j fs a2
  · have key : ∀ {j : Nat} {fs : List Mi.D}, (ρ.set i (.own es))[j]? = some (Sl.own fs) → ∃ gs, ρ[j]? = some (Sl.own gs) := fun {j fs} h => by
      rcases set_get h with ⟨a1, _, _⟩ | ⟨a1, a2⟩
      · exact ⟨ds, by rw [a1]; exact ho⟩
      · exact ⟨_, a2⟩
    obtain ⟨gs, h1⟩ := key e1
    obtain ⟨gs2, h2⟩ := key e2
    exact R.inj a b gs gs2 h1 h2 e3
/-- a number of the pen -/
theorem RelS.pput (R : RelS F n H0 O0 O ρ ad σ H s) {s' : Pen} (hc : s'.cells = s.cells) : RelS F n H0 O0 O ρ ad σ (upd H F.pp (.dK (penKV F.cc s'))) s' ∧ Evl.Ex (hid O H) (hid O (upd H F.pp (.dK (penKV F.cc s')))) := by
  have hh : hid O (upd H F.pp (.dK (penKV F.cc s'))) = hid O H := hid_upd R.r.pp
  have own : ∀ {b : Addr} {xs : List V}, H b = some (.lst xs) → b ≠ F.pp := fun {b xs} c z => by
    have q := R.r.pen.d
    rw [← z, c] at q
    cases q
  refine ⟨⟨⟨R.r.ln, R.r.rl, by rw [hh]; exact R.r.val, fun i ds e => ?_, R.r.pp, fun b hb => ?_, ⟨upd_same, by rw [upd_ne R.r.pen.ne, hc]; exact R.r.pen.c⟩⟩, fun a o na ha => by rw [upd_ne na]; exact R.kp a o na ha, R.cc, R.sub, R.fresh, R.mine, R.inj⟩, by rw [hh]; exact fun _ _ q => q⟩
  · rw [hh]
    obtain ⟨o, xs, b, c, t⟩ := R.r.own i ds e
    exact ⟨o, xs, b, by rw [upd_ne (own c)]; exact c, t⟩
  · by_cases e : b = F.pp
    · rw [e, upd_same]; simp
    · rw [upd_ne e]; exact R.r.trk b hb
/-- from now on but data -/
theorem RelS.frz1 (R : RelS F n H0 O0 O ρ ad σ H s) (i : Nat) : ∃ O', RelS F n H0 O0 O' (frz ρ i) ad σ H s ∧ Evl.Ex (hid O H) (hid O' H) := by
  unfold frz
  cases e : ρ[i]? with
  | none => exact ⟨O, R, fun _ _ q => q⟩
  | some sl =>
    cases sl with
    | emp => exact ⟨O, R, fun _ _ q => q⟩
    | val d => exact ⟨O, R, fun _ _ q => q⟩
    | own ds =>
      obtain ⟨o, xs, b, c, t0⟩ := R.r.own i ds e
      have n1 : ad i ≠ F.pp := fun z => by
        have q := R.r.pen.d
        rw [← z, c] at q
        cases q
      have ex : Evl.Ex (hid O H) (hid (fun b => O b ∧ b ≠ ad i) H) := hid_sub fun b h => h.1
      refine ⟨fun b => O b ∧ b ≠ ad i, ⟨⟨R.r.ln, by rw [List.length_set]; exact R.r.rl, fun j d h => ?_, fun j fs h => ?_, ⟨R.r.pp, Ne.symm n1⟩, fun b h => R.r.trk b h.1, R.r.pen⟩, R.kp, R.cc, fun b h => ⟨R.sub b h, fun z => R.mine i ds e (z ▸ h)⟩, fun b h => R.fresh b h.1, fun j fs h => ?_, fun a b ds1 ds2 e1 e2 e3 => ?_⟩, ex⟩
      · rcases set_get h with ⟨a1, a2, a3⟩ | ⟨a1, a2⟩
        · cases a3
          subst a1
          exact ⟨_, b, .lst (by rw [hid_no fun z => z.2 rfl]; exact c) (t0.mono ex)⟩
        · obtain ⟨v, a, t⟩ := R.r.val j d a2
          exact ⟨v, a, t.mono ex⟩
      · rcases set_get h with ⟨a1, a2, a3⟩ | ⟨a1, a2⟩
        · cases a3
        · obtain ⟨o', zs, b', c', t'⟩ := R.r.own j fs a2
          exact ⟨⟨o', fun z => a1 (R.inj j i fs ds a2 e z)⟩, zs, b', c', t'.mono ex⟩
      · rcases set_get h with ⟨a1, a2, a3⟩ | ⟨a1, a2⟩
        · cases a3
        · exact R.mine j fs a2
      · rcases set_get e1 with ⟨a1, a2, a3⟩ | ⟨a1, a2⟩
        · cases a3
        · rcases set_get e2 with ⟨b1, b2, b3⟩ | ⟨b1, b2⟩
          · cases b3
          · exact R.inj a b ds1 ds2 a2 b2 e3
theorem RelS.frzs (is : List Nat) : ∀ {O : Addr → Prop} {ρ : List Sl}, RelS F n H0 O0 O ρ ad σ H s → ∃ O', RelS F n H0 O0 O' (frzs ρ is) ad σ H s ∧ Evl.Ex (hid O H) (hid O' H) := by
  induction is with
  | nil => exact fun {O ρ} R => ⟨O, R, fun _ _ q => q⟩
  | cons i is ih =>
    intro O ρ R
    obtain ⟨O1, R1, e1⟩ := R.frz1 i
    obtain ⟨O2, R2, e2⟩ := ih R1
    exact ⟨O2, R2, fun b o q => e2 b o (e1 b o q)⟩
end
end Mi
end

section
set_option Elab.async false
set_option linter.all false
set_option maxRecDepth 100000
set_option maxHeartbeats 4000000
/-! Mi: statements, rule by rule. -/
namespace Mi
open PySem PySem.Spec PyProof.Rows L2

def noComp : Expr → Bool
  | .ListComp _ _ _ _ => false
  | .SetComp _ _ _ _ => false
  | .DictComp _ _ _ _ _ => false
  | _ => true
theorem swaps_no {e : Expr} {t : Option Expr} {l : Nat} {env : Env} (h : noComp e = true) : swapsWith e t l env = pure false := by
  cases e <;> first
    | rfl
    | cases h
theorem ex_refl {H : Hp} : Evl.Ex H H := fun _ _ q => q
theorem ex_trans {A B C : Hp} (a : Evl.Ex A B) (b : Evl.Ex B C) : Evl.Ex A C := fun x o q => b x o (a x o q)
/-- an expression that gives a list of its own -/
def tO (F : Cf) (Γ : Tb) (n : Nat) (E : XK) (e : Ex) : TE := fun σ H Q => ∃ O ρ ad s, Rel F n O ρ ad σ H s ∧ Post F O H E (relO F H) Q (evalE Γ e ρ s)
def tE' (F : Cf) (O : Addr → Prop) (H : Hp) (E : XK) (r : R D) (Q : VK) : Prop := Post F O H E (relO F H) Q r
section
variable {F : Cf} {n : Nat} {H0 H : Hp} {O0 O : Addr → Prop} {ad : Nat → Addr} {s : Pen}
theorem setTs_own : ∀ {is : List Nat} {ds : List D} {ρ ρ1 : List Sl}, setTs ρ is ds = some ρ1 → ∀ (j : Nat) (es : List D), ρ1[j]? = some (Sl.own es) → ρ[j]? = some (Sl.own es)
  | [], [], _, _, h, j, es, e => by cases h; exact e
  | [], _ :: _, _, _, h, _, _, _ => by cases h
  | _ :: _, [], _, _, h, _, _, _ => by cases h
  | i :: is, d :: ds, ρ, ρ1, h, j, es, e => by
    have q := setTs_own (ρ := ρ.set i (.val d)) h j es e
    rcases set_get q with ⟨_, _, h3⟩ | ⟨_, h2⟩
    · cases h3
    · exact h2
theorem setT_own {t : Tg} {d : D} {ρ ρ1 : List Sl} (h : setT ρ t d = some ρ1) (j : Nat) (es : List D) (e : ρ1[j]? = some (Sl.own es)) : ρ[j]? = some (Sl.own es) := by
  cases t with
  | nm i =>
    have h : some (ρ.set i (.val d)) = some ρ1 := by cases d <;> exact h
    cases h
    rcases set_get e with ⟨_, _, h3⟩ | ⟨_, h2⟩
    · cases h3
    · exact h2
  | tup is =>
    cases d <;> (first | (cases h; done) | skip)
    exact setTs_own h j es e
theorem tgS_ok {t : Tg} {d : D} {v : V} {ρ ρ1 : List Sl} {σ : L2.St} {Q : L2.St → Hp → Prop} (h : setT ρ t d = some ρ1) (td : Dt F (hid O H) v d) (R : RelS F n H0 O0 O ρ ad σ H s)
    (q : ∀ σ', RelS F n H0 O0 O ρ1 ad σ' H s → Q σ' H) : gT F.K t v σ H Q :=
  tg_ok h td R.r fun σ' _ R' => q σ' ⟨R', R.kp, R.cc, R.sub, R.fresh, fun j es e => R.mine j es (setT_own h j es e), fun i j ds es a b e => R.inj i j ds es (setT_own h i ds a) (setT_own h j es b) e⟩
end
section
variable {X : Cx} {F : Cf} {Γ : Tb} {n : Nat} {E : XK} {H0 : Hp} {O0 : Addr → Prop} {e f : Expr} {es : List Expr} {pos : Pos} {a b c : Ex} {as : Es}
theorem relO_of {O : Addr → Prop} {H H' : Hp} {p : Addr} {vs : List V} {ds : List D} (h1 : H p = none) (h2 : ¬ O p) (h3 : H' p = some (.lst vs)) (h4 : Dts F (hid (with_ O p) H') vs ds) : relO F H (hid O H') (.ref p) (.lst ds) :=
  ⟨p, vs, ds, rfl, rfl, h1, by rw [hid_no h2]; exact h3, by rw [hid_hid]; exact h4⟩
theorem none_back {pp : Addr} {H H1 : Hp} {p : Addr} (k : Kp pp H H1) (h : H1 p = none) (hp : p ≠ pp) : H p = none := by
  cases e : H p with
  | none => rfl
  | some o =>
    have := k p o hp e
    rw [h] at this
    cases this
/-- [a, b, ..] -/
theorem own_lst (ha : PA X es (tA F Γ n E as)) : PE X (.List es pos) (tO F Γ n E (.lst as)) := PE.imp (pe_lst ha) fun σ H Q ⟨O, ρ, ad, s, R, h⟩ => by
  unfold evalE at h
  refine ⟨O, ρ, ad, s, R, h.step fun ds s1 vs H1 k1 p1 t1 h1 => ?_⟩
  obtain ⟨hz, h1⟩ := Post.guard h1
  have R1 := R.kp k1 p1
  refine ⟨by rw [t1.length]; exact big_line hz, fun p hp => h1 _ _ (Kp.new hp) (p1.new hp) ?_⟩
  have hpp : p ≠ F.pp := fun z => by
    have q := p1.d
    rw [← z, hp] at q
    cases q
  have nO : ¬ O p := R1.new hp
  have h0 : H p = none := none_back k1 hp hpp
  exact ⟨p, vs, ds, rfl, rfl, h0, by rw [hid_no nO]; exact upd_same, by rw [hid_hid, hid_add hp]; exact t1⟩
/-- [.. for ..] -/
theorem own_comp {own : List (Str × Nat)} {t : Tg} {it : It} {cond : Es} {elt : Ex} {f tg iter : Expr} {ifs : List Expr} {scope : Scope} {pos : Pos} (hc : X.calm = true) (nd : X.N.Nodup) (ok : BlkOk X.N X.env.scope scope own) (hs : noSet iter = true)
    (sl : ∀ i ∈ t.slots, i ∈ own.map (·.2)) (hi : PI X tg iter (tI F Γ n E it))
    (hg : ∀ (s : Shared) (H : Hp) (C : Addr) (cl : List (Str × Addr)) (fp : List Addr), PG (X.blk s H scope (compEnvC scope cl C X.env) fp) tg (gT F.K t))
    (ht : ∀ (s : Shared) (H : Hp) (C : Addr) (cl : List (Str × Addr)) (fp : List Addr), PTs (X.blk s H scope (compEnvC scope cl C X.env) fp) ifs (tC F Γ n No cond))
    (he : ∀ (s : Shared) (H : Hp) (C : Addr) (cl : List (Str × Addr)) (fp : List Addr), PE (X.blk s H scope (compEnvC scope cl C X.env) fp) f (tE F Γ n No elt)) :
    PE X (.ListComp f [⟨tg, iter, ifs, 0⟩] scope pos) (tO F Γ n E (.comp own t it cond elt)) :=
  PE.imp (pe_lc hc nd hi ok hg ht he (notSet_it hs)) fun σ H Q ⟨O, ρ, ad, s, R, h⟩ => comp_imp sl R h fun H1 H' A vs ds k1 hA hacc tacc nO => relO_of (none_back k1 hA fun z => nO (z ▸ R.pp)) nO hacc tacc

/-! ### rules -/
theorem st_set {i : Nat} {x : Str} {p' : Pos} (nd : X.N.Nodup) (hi : X.N[i]? = some x) (hx : Loc X.env.scope x) (hf : X.fn x = true) (hs : noComp e = true) (he : PE X e (tE F Γ n E a)) : PS X (.Assign [.Name x p'] e pos) (tS F Γ n H0 O0 E (.set i a)) :=
  PS.imp (ps_set nd hi hx he (swaps_no hs) (.inl hf)) fun D σ H ⟨O, ρ, ad, s, R, h⟩ => by
    unfold exec at h
    exact ⟨O, ρ, ad, s, R.r, PostS.to R h fun d s1 v H1 k1 p1 t R1 h1 => h1 O ad _ H1 (R1.set t) (R.exh k1)⟩
theorem own_val {i : Nat} {D : Ends} {σ : L2.St} {H : Hp} {O : Addr → Prop} {ρ : List Sl} {ad : Nat → Addr} {s : Pen} (R : RelS F n H0 O0 O ρ ad σ H s) (h : PostS F n H0 O0 O H E D (exec Γ (.own i a) ρ s)) : tE' F O H E (evalE Γ a ρ s) fun x H1 => gName i x σ H1 D.nx := by
  unfold exec at h
  exact PostS.to R h fun d s1 v H1 k1 p1 t R1 h1 => by
    obtain ⟨p, xs, ds, e1, e2, e3, e4, e5⟩ := t
    subst e1
    subst e2
    obtain ⟨q1, q2⟩ := hid_some e4
    rw [hid_hid] at e5
    obtain ⟨R2, ex⟩ := R.ownNew k1 p1 (i := i) e3 q2 e5
    exact h1 _ _ _ H1 R2 ex
theorem st_own {i : Nat} {x : Str} {p' : Pos} (nd : X.N.Nodup) (hi : X.N[i]? = some x) (hx : Loc X.env.scope x) (hf : X.fn x = true) (hs : noComp e = true) (he : PE X e (tO F Γ n E a)) : PS X (.Assign [.Name x p'] e pos) (tS F Γ n H0 O0 E (.own i a)) :=
  PS.imp (ps_set nd hi hx he (swaps_no hs) (.inl hf)) fun D σ H ⟨O, ρ, ad, s, R, h⟩ => ⟨O, ρ, ad, s, R.r, own_val R h⟩
theorem st_ex (hs : noComp e = true) (he : PE X e (tE F Γ n E a)) : PS X (.Expr e pos) (tS F Γ n H0 O0 E (.ex a)) :=
  PS.imp (ps_expr he (swaps_no hs)) fun D σ H ⟨O, ρ, ad, s, R, h⟩ => by
    unfold exec at h
    exact ⟨O, ρ, ad, s, R.r, PostS.to R h fun d s1 v H1 k1 p1 t R1 h1 => h1 O ad _ H1 R1 (R.exh k1)⟩
theorem st_ret (he : PE X e (tE F Γ n E a)) : PS X (.Return (some e) pos) (tS F Γ n H0 O0 E (.ret a)) :=
  PS.imp (ps_ret he) fun D σ H ⟨O, ρ, ad, s, R, h⟩ => by
    unfold exec at h
    exact ⟨O, ρ, ad, s, R.r, PostS.to R h fun d s1 v H1 k1 p1 t R1 h1 => h1 v H1 R1.kp p1 (t.mono (hid_sub R.sub))⟩
theorem st_retN : PS X (.Return none pos) (tS F Γ n H0 O0 E .retN) :=
  PS.imp ps_retN fun D σ H ⟨O, ρ, ad, s, R, h⟩ => by
    unfold exec at h
    exact h .non H R.kp R.r.pen .non
theorem st_pass : PS X (.Pass pos) (tS F Γ n H0 O0 E .pass) := PS.imp ps_pass fun D σ H ⟨O, ρ, ad, s, R, h⟩ => by
  unfold exec at h
  exact h O ad σ H R ex_refl
theorem st_brk : PS X (.Break pos) (tS F Γ n H0 O0 E .brk) := PS.imp ps_break fun D σ H ⟨O, ρ, ad, s, R, h⟩ => by
  unfold exec at h
  exact h O ad σ H R ex_refl
theorem st_cont : PS X (.Continue pos) (tS F Γ n H0 O0 E .cont) := PS.imp ps_continue fun D σ H ⟨O, ρ, ad, s, R, h⟩ => by
  unfold exec at h
  exact h O ad σ H R ex_refl
theorem st_tup {t : Tg} {tg : Expr} (hs : noComp e = true) (hw : swappedStores [tg] e X.env = pure none) (ht : (assignEach [tg] X.env).map (·.2) = [assign tg X.env]) (he : PE X e (tE F Γ n E a)) (hg : PG X tg (gT F.K t)) : PS X (.Assign [tg] e pos) (tS F Γ n H0 O0 E (.tup t a)) :=
  PS.imp (ps_asg he hg (swaps_no hs) hw ht) fun D σ H ⟨O, ρ, ad, s, R, h⟩ => by
    unfold exec at h
    refine ⟨O, ρ, ad, s, R.r, PostS.to R h fun d s1 v H1 k1 p1 td R1 h1 => ?_⟩
    cases hst : setT ρ t d with
    | none => rw [hst] at h1; exact h1.elim
    | some ρ1 =>
      rw [hst] at h1
      exact tgS_ok hst td R1 fun σ' R' => h1 O ad σ' H1 R' (R.exh k1)
theorem st_par {i j : Nat} {x y : Str} {e f : Expr} {px py pt : Pos} {kt k2 pt2} (hc : X.calm = true) (nd : X.N.Nodup) (hi : X.N[i]? = some x) (hj : X.N[j]? = some y) (hij : i ≠ j)
    (hx : X.env.scope.names.lookup x = some .local) (hy : X.env.scope.names.lookup y = some .local) (ha : PA X [e, f] (tA F Γ n E (.cons a (.cons b .nil))))
    (hw : swappedStores [.Tuple [.Name x px, .Name y py] kt pt] (.Tuple [e, f] k2 pt2) X.env = pure (some [x, y])) :
    PS X (.Assign [.Tuple [.Name x px, .Name y py] kt pt] (.Tuple [e, f] k2 pt2) pos) (tS F Γ n H0 O0 E (.par i j a b)) :=
  PS.imp (ps_par hc nd hi hj hij hx hy ha hw rfl) fun D σ H ⟨O, ρ, ad, s, R, h⟩ => by
    unfold exec at h
    refine ⟨O, ρ, ad, s, R.r, PostS.to R h fun ds s1 vs H1 k1 p1 t R1 h1 => ?_⟩
    cases t with
    | nil => exact h1.elim
    | cons t1 t =>
      cases t with
      | nil => exact h1.elim
      | cons t2 t =>
        cases t with
        | nil => exact ⟨_, _, rfl, h1 O ad _ H1 ((R1.set t1).set t2) (R.exh k1)⟩
        | cons t3 t => exact h1.elim
theorem st_par3 {i j l : Nat} {x y z : Str} {e f g : Expr} {px py pz pt : Pos} {kt k2 pt2} (hc : X.calm = true) (nd : X.N.Nodup) (hi : X.N[i]? = some x) (hj : X.N[j]? = some y) (hl : X.N[l]? = some z) (hij : i ≠ j) (hil : i ≠ l) (hjl : j ≠ l)
    (hx : X.env.scope.names.lookup x = some .local) (hy : X.env.scope.names.lookup y = some .local) (hz : X.env.scope.names.lookup z = some .local) (ha : PA X [e, f, g] (tA F Γ n E (.cons a (.cons b (.cons c .nil)))))
    (hw : swappedStores [.Tuple [.Name x px, .Name y py, .Name z pz] kt pt] (.Tuple [e, f, g] k2 pt2) X.env = pure (some [x, y, z])) :
    PS X (.Assign [.Tuple [.Name x px, .Name y py, .Name z pz] kt pt] (.Tuple [e, f, g] k2 pt2) pos) (tS F Γ n H0 O0 E (.par3 i j l a b c)) :=
  PS.imp (ps_par3 hc nd hi hj hl hij hil hjl hx hy hz ha hw rfl) fun D σ H ⟨O, ρ, ad, s, R, h⟩ => by
    unfold exec at h
    refine ⟨O, ρ, ad, s, R.r, PostS.to R h fun ds s1 vs H1 k1 p1 t R1 h1 => ?_⟩
    cases t with
    | nil => exact h1.elim
    | cons t1 t =>
      cases t with
      | nil => exact h1.elim
      | cons t2 t =>
        cases t with
        | nil => exact h1.elim
        | cons t3 t =>
          cases t with
          | nil => exact ⟨_, _, _, rfl, h1 O ad _ H1 (((R1.set t1).set t2).set t3) (R.exh k1)⟩
          | cons t4 t => exact h1.elim
theorem few1 {e : Expr} {env : Env} {pos : Pos} (h : noStar e = true) : ((backTo pos (starEach [e] env)).all (fun x => !x.1) && (backToKw pos (keywordEach [] env)).all (fun x => x.1.isSome)
      && decide (([e] : List Expr).length + ([] : List Keyword).length + (if ([] : List Keyword).isEmpty then 0 else 1) < 30)) = true := by
  rw [star_at h]
  rfl
theorem st_app {i : Nat} {x : Str} {e : Expr} {p ap cp : Pos} (hi : X.N[i]? = some x) (hv : Vis X.env.scope x) (ok : NameOk x) (hs : noStar e = true) (hl : (ap.endLine == cp.line) = true) (ha : PA X [e] (tA F Γ n E (.cons a .nil))) :
    PS X (.Expr (.Call (.Attribute (.Name x p) "append" ap) [e] [] cp) pos) (tS F Γ n H0 O0 E (.app i a)) :=
  PS.imp (ps_expr (pe_bm PySem.F.plainAttrs_list PySem.F.slot_list_append PySem.F.type_list_append mt_append (pe_var hi hv ok.d ok.c) ha rfl (few1 hs) hl (star_at hs) (by rfl)) rfl) fun D σ H ⟨O, ρ, ad, s, R, h⟩ => by
    unfold exec at h
    split at h
    · rename_i ds e1
      obtain ⟨o, xs, b1, c1, t0⟩ := R.r.own i ds e1
      refine ⟨_, b1, .inl ⟨rfl, xs, SqL.of c1⟩, O, ρ, ad, s, R.r, PostS.to R h fun es s1 vs H1 k1 p1 t R1 h1 => ?_⟩
      cases t with
      | nil => exact h1.elim
      | @cons v _ d _ t1 t =>
        cases t with
        | cons t3 t => exact h1.elim
        | nil =>
          have h1 : PostS F n H0 O0 O H E D (if ds.length ≤ big then .nx (ρ.set i (.own (ds ++ [d]))) s1 else .bad) := h1
          by_cases hz : ds.length ≤ big
          · rw [if_pos hz] at h1
            obtain ⟨o', xs', b', c', t'⟩ := R1.r.own i ds e1
            rw [b1] at b'
            cases b'
            obtain ⟨R2, ex⟩ := R1.ownSet e1 (t'.append (.cons t1 .nil))
            exact ⟨_, xs', v, rfl, rfl, c', by rw [t'.length]; exact big_lt hz, h1 O ad σ _ R2 (ex_trans (R.exh k1) ex)⟩
          · rw [if_neg hz] at h1
            exact h1.elim
    · exact h.elim
theorem st_aug {i : Nat} {x : Str} {o : Bop} {e : Expr} {p : Pos} (nd : X.N.Nodup) (hi : X.N[i]? = some x) (hx : Loc X.env.scope x) (hf : X.fn x = true) (ho : o = .add ∨ o = .sub) (he : PE X e (tE F Γ n E a)) : PS X (.AugAssign (.Name x p) (bopA o) e pos) (tS F Γ n H0 O0 E (.aug i o a)) := by
  rcases ho with ho | ho
  · subst ho
    refine PS.imp (ps_aug nd hi hx he ip_add (.inl hf)) fun D σ H ⟨O, ρ, ad, s, R, h⟩ => ?_
    unfold exec at h
    split at h
    · rename_i z e1
      obtain ⟨v, e2, t⟩ := R.r.val i _ e1
      cases t
      refine ⟨_, e2, O, ρ, ad, s, R.r, PostS.to R h fun d s1 v H1 k1 p1 t R1 h1 => ?_⟩
      cases t <;> (first | (exact h1.elim) | skip)
      exact ⟨_, _, rfl, rfl, h1 O ad _ H1 (R1.set (.int _)) (R.exh k1)⟩
    · exact h.elim
  · subst ho
    refine PS.imp (ps_aug nd hi hx he ip_sub (.inl hf)) fun D σ H ⟨O, ρ, ad, s, R, h⟩ => ?_
    unfold exec at h
    split at h
    · rename_i z e1
      obtain ⟨v, e2, t⟩ := R.r.val i _ e1
      cases t
      refine ⟨_, e2, O, ρ, ad, s, R.r, PostS.to R h fun d s1 v H1 k1 p1 t R1 h1 => ?_⟩
      cases t <;> (first | (exact h1.elim) | skip)
      exact ⟨_, _, rfl, rfl, h1 O ad _ H1 (R1.set (.int _)) (R.exh k1)⟩
    · exact h.elim
theorem st_if {c : Expr} {a : Ex} {p q : List Stmt} {u v : Sts} (hc : PT X c (tT F Γ n E a)) (hp : PSs X p (tSs F Γ n H0 O0 E u)) (hq : PSs X q (tSs F Γ n H0 O0 E v)) : PS X (.If c p q pos) (tS F Γ n H0 O0 E (.if_ a u v)) :=
  PS.imp (ps_if hc hp hq) fun D σ H ⟨O, ρ, ad, s, R, h⟩ => by
    unfold exec at h
    refine ⟨O, ρ, ad, s, R.r, PostS.to R h fun b s1 c H1 k1 p1 t R1 h1 => ?_⟩
    subst t
    have h1 := PostS.later h1 (R.exh k1)
    cases c with
    | true => exact iteT ⟨O, ρ, ad, s1, R1, h1⟩
    | false => exact iteF ⟨O, ρ, ad, s1, R1, h1⟩
theorem sts_nil : PSs X [] (tSs F Γ n H0 O0 E .nil) := PSs.imp pss_nil fun D σ H ⟨O, ρ, ad, s, R, h⟩ => by
  unfold execs at h
  exact h O ad σ H R ex_refl
theorem sts_cons {st : Stmt} {sts : List Stmt} {u : Sm} {r : Sts} (h1 : PS X st (tS F Γ n H0 O0 E u)) (h2 : PSs X sts (tSs F Γ n H0 O0 E r)) : PSs X (st :: sts) (tSs F Γ n H0 O0 E (.cons u r)) :=
  PSs.imp (pss_cons h1 h2) fun D σ H ⟨O, ρ, ad, s, R, h⟩ => by
    unfold execs at h
    refine ⟨O, ρ, ad, s, R, ?_⟩
    cases e : exec Γ u ρ s with
    | nx ρ1 s1 =>
      rw [e] at h
      exact fun O' ad' σ' H' R' x => ⟨O', ρ1, ad', s1, R', PostS.later h x⟩
    | bk ρ1 s1 => rw [e] at h; exact h
    | ct ρ1 s1 => rw [e] at h; exact h
    | rt d s1 => rw [e] at h; exact h
    | err c fs s1 => rw [e] at h; exact h
    | bad => rw [e] at h; exact h
theorem sts_frz {sts : List Stmt} {is : List Nat} {r : Sts} (h : PSs X sts (tSs F Γ n H0 O0 E r)) : PSs X sts (tSs F Γ n H0 O0 E (.frz is r)) :=
  PSs.imp h fun D σ H ⟨O, ρ, ad, s, R, h⟩ => by
    unfold execs at h
    obtain ⟨O', R', x⟩ := R.frzs is
    exact ⟨O', _, ad, s, R', PostS.later h x⟩
theorem st_while {m : Nat} {c : Expr} {a : Ex} {p : List Stmt} {u : Sts} (hp : PassesOwn (model X.prog X.w) X.A X.env X.xe) (hc : PT X c (tT F Γ n E a)) (hb : PSs X p (tSs F Γ n H0 O0 E u)) : PS X (.While c p [] pos) (tS F Γ n H0 O0 E (.while_ m a u)) :=
  PS.imp (ps_while hp hc hb) fun D σ H ⟨O, ρ, ad, s, R, h⟩ => by
    unfold exec at h
    refine ⟨fun m σ H => ∃ O ρ ad s, RelS F n H0 O0 O ρ ad σ H s ∧ PostS F n H0 O0 O H E D (whileL (fun ρ s => evalT Γ a ρ s) (fun ρ1 s1 => execs Γ u ρ1 s1) m ρ s), ⟨m, O, ρ, ad, s, R, h⟩, ?_⟩
    rintro m σ H ⟨O, ρ, ad, s, R, h⟩
    cases m with
    | zero => exact h.elim
    | succ m =>
      unfold whileL at h
      refine ⟨O, ρ, ad, s, R.r, PostS.to R h fun b s1 c H1 k1 p1 t R1 h1 => ?_⟩
      subst t
      have h1 := PostS.later h1 (R.exh k1)
      cases c with
      | false =>
        refine iteF ?_
        exact h1 O ad σ H1 R1 ex_refl
      | true =>
        refine iteT ⟨fun σ' H' => ∃ m', m' < m + 1 ∧ ∃ O ρ ad s, RelS F n H0 O0 O ρ ad σ' H' s ∧ PostS F n H0 O0 O H' E D (whileL (fun ρ s => evalT Γ a ρ s) (fun ρ1 s1 => execs Γ u ρ1 s1) m' ρ s), fun σ' H' q => q, O, ρ, ad, s1, R1, ?_⟩
        have h1 : PostS F n H0 O0 O H1 E D (match execs Γ u ρ s1 with
          | .nx ρ2 s2 => whileL (fun ρ s => evalT Γ a ρ s) (fun ρ1 s1 => execs Γ u ρ1 s1) m ρ2 s2
          | .ct ρ2 s2 => whileL (fun ρ s => evalT Γ a ρ s) (fun ρ1 s1 => execs Γ u ρ1 s1) m ρ2 s2
          | .bk ρ2 s2 => .nx ρ2 s2
          | x => x) := h1
        cases e : execs Γ u ρ s1 with
        | nx ρ2 s2 => rw [e] at h1; exact fun O' ad' σ' H' R' x => ⟨m, Nat.lt_succ_self m, O', ρ2, ad', s2, R', PostS.later h1 x⟩
        | ct ρ2 s2 => rw [e] at h1; exact fun O' ad' σ' H' R' x => ⟨m, Nat.lt_succ_self m, O', ρ2, ad', s2, R', PostS.later h1 x⟩
        | bk ρ2 s2 => rw [e] at h1; exact h1
        | rt d s2 => rw [e] at h1; exact h1
        | err c fs s2 => rw [e] at h1; exact h1
        | bad => rw [e] at h1; exact h1
theorem st_for {t : Tg} {it : It} {tg iter : Expr} {p : List Stmt} {u : Sts} (hp : PassesOwn (model X.prog X.w) X.A X.env X.xe) (hc : X.calm = true) (hs : noSet iter = true) (hi : PI X tg iter (tI F Γ n E it)) (hg : PG X tg (gT F.K t)) (hb : PSs X p (tSs F Γ n H0 O0 E u)) :
    PS X (.For tg iter p [] pos) (tS F Γ n H0 O0 E (.for_ t it u)) :=
  PS.imp (ps_for hp hc hi hg hb (notSet_it hs)) fun D σ H ⟨O, ρ, ad, s, R, h⟩ => by
    unfold exec at h
    refine ⟨O, ρ, ad, s, R.r, PostS.to R h fun ds s1 b H1 k1 p1 ⟨wd, g⟩ R1 h1 => ?_⟩
    have h1 := PostS.later h1 (R.exh k1)
    refine ⟨fun i m σ H => m = ds.length - i ∧ i ≤ ds.length ∧ ∃ O ρ ad s, RelS F n H0 O0 O ρ ad σ H s ∧ b.2 (hid O H) ∧ PostS F n H0 O0 O H E D (forL t (fun ρ1 s1 => execs Γ u ρ1 s1) (ds.drop i) ρ s), ⟨ds.length, rfl, Nat.zero_le _, O, ρ, ad, s1, R1, g, h1⟩, ?_⟩
    rintro i m σc Hc ⟨rfl, hi, O2, ρ2, ad2, s2, R2, g2, h2⟩
    by_cases hlt : i < ds.length
    · refine .inr ⟨wd.goes i _ _ hlt g2, fun σ' H' => ∃ m', m' < ds.length - i ∧ (m' = ds.length - (i + 1) ∧ i + 1 ≤ ds.length ∧ ∃ O ρ ad s, RelS F n H0 O0 O ρ ad σ' H' s ∧ b.2 (hid O H') ∧ PostS F n H0 O0 O H' E D (forL t (fun ρ1 s1 => execs Γ u ρ1 s1) (ds.drop (i + 1)) ρ s)), fun σ' H' q => q, fun x H' y => ?_⟩
      obtain ⟨gr, d, ed, td⟩ := wd.yields i O2 Hc x H' R2.r.trk hlt g2 y
      rw [drop_at ed] at h2
      have kG : Kp F.pp Hc H' := fun a o _ h => gr a o h
      have RG := R2.toKp kG (R2.r.pen.kp kG (gr _ _ R2.r.pen.d))
      have x0 := R2.exh kG
      unfold forL at h2
      cases hst : setT ρ2 t d with
      | none => rw [hst] at h2; exact h2.elim
      | some ρ3 =>
        rw [hst] at h2
        dsimp only at h2
        refine tgS_ok hst td RG fun σ' R' => ⟨O2, ρ3, ad2, s2, R', ?_⟩
        have next : ∀ {ρ4 : List Sl} {s4 : Pen}, PostS F n H0 O0 O2 Hc E D (forL t (fun ρ1 s1 => execs Γ u ρ1 s1) (ds.drop (i + 1)) ρ4 s4) → ∀ O' ad' σ' H'', RelS F n H0 O0 O' ρ4 ad' σ' H'' s4 → Evl.Ex (hid O2 H') (hid O' H'') →
            ∃ m', m' < ds.length - i ∧ (m' = ds.length - (i + 1) ∧ i + 1 ≤ ds.length ∧ ∃ O ρ ad s, RelS F n H0 O0 O ρ ad σ' H'' s ∧ b.2 (hid O H'') ∧ PostS F n H0 O0 O H'' E D (forL t (fun ρ1 s1 => execs Γ u ρ1 s1) (ds.drop (i + 1)) ρ s)) :=
          fun {ρ4 s4} q O' ad' σ' H'' R4 x4 => ⟨ds.length - (i + 1), by omega, rfl, hlt, O', ρ4, ad', s4, R4, wd.mono _ _ g2 (ex_trans x0 x4), PostS.later q (ex_trans x0 x4)⟩
        cases e : execs Γ u ρ3 s2 with
        | nx ρ4 s4 => rw [e] at h2; exact next h2
        | ct ρ4 s4 => rw [e] at h2; exact next h2
        | bk ρ4 s4 => rw [e] at h2; exact fun O' ad' σ' H'' R4 x4 => h2 O' ad' σ' H'' R4 (ex_trans x0 x4)
        | rt d s4 => rw [e] at h2; exact h2
        | err c fs s4 => rw [e] at h2; exact h2
        | bad => rw [e] at h2; exact h2
    · have e : i = ds.length := by omega
      subst e
      rw [List.drop_length] at h2
      exact .inl ⟨wd.stops _ _ g2, h2 O2 ad2 σc Hc R2 ex_refl⟩
theorem st_pset {i : Nat} {y : Str} {f : PF} {p p2 p3 : Pos} {k2} (hu : X.A.units + 64 < cLine) (hs : noComp e = true) (hN : X.N[i]? = some y) (hv : Vis X.env.scope y) (ok : NameOk y) (he : PE X e (tE F Γ n E a)) :
    PS X (.Assign [.Subscript (.Name y p) (.Constant (.str (pfS f)) k2 p2) p3] e pos) (tS F Γ n H0 O0 E (.pset i f a)) :=
  PS.imp (ps_dput (by omega) (pe_var hN hv ok.d ok.c) pe_str he (swaps_no hs)) fun D σ H ⟨O, ρ, ad, s, R, h⟩ => by
    unfold exec at h
    refine ⟨O, ρ, ad, s, R.r, PostS.to R h fun d s1 v H1 k1 p1 t R1 h1 => ?_⟩
    split at h1
    · rename_i j e1
      cases t
      have hc : (s1.put f j).cells = s1.cells := by cases f <;> rfl
      obtain ⟨R2, ex⟩ := R1.pput hc
      refine ⟨_, pen_at R1.r e1, F.pp, _, rfl, .inl ⟨_, .inr (pfS f), p1.d, rfl, by rw [sizeLine_eq]; exact (by decide : 5 < 16777216), rfl⟩, ?_⟩
      rw [pen_put]
      exact h1 O ad σ _ R2 (ex_trans (R.exh k1) ex)
    · exact h1.elim
/-! ### raise -/
def zipV : List Str → List V → List (Str × V)
  | x :: xs, v :: vs => zipV xs vs ++ [(x, v)]
  | _, _ => []
/-- C(a, ..), an own error class whose __init__ keeps its arguments -/
def tErr (F : Cf) (c : Nat) (ns : List Str) (ta : TA) : L2.St → Hp → XK → Prop := fun σ H Q => ta σ H fun vs H1 => vs.length = ns.length ∧ ∀ d, H1 d = none → Q (.ref (F.cl c)) (some d) (upd H1 d (.xd (zipV ns vs)))
theorem Dfs.append : ∀ {H : Hp} {v w : List (Str × V)} {d e : List (Str × D)}, Dfs F H v d → Dfs F H w e → Dfs F H (v ++ w) (d ++ e)
  | _, _, _, _, _, .nil, s => s
  | _, _, _, _, _, .cons h t, s => .cons h (Dfs.append t s)
theorem zip_ok {H : Hp} : ∀ {ns : List Str} {vs : List V} {ds : List D} {fs : List (Str × D)}, zipS ns ds = some fs → Dts F H vs ds → vs.length = ns.length ∧ Dfs F H (zipV ns vs) fs := by
  intro ns
  induction ns with
  | nil =>
    intro vs ds fs h t
    cases t with
    | nil => cases h; exact ⟨rfl, .nil⟩
    | cons _ _ => cases h
  | cons x xs ih =>
    intro vs ds fs h t
    cases t with
    | nil => cases h
    | @cons v vs d ds t1 t2 =>
      unfold zipS at h
      cases e : zipS xs ds with
      | none => rw [e] at h; cases h
      | some r =>
        rw [e] at h
        cases h
        obtain ⟨q1, q2⟩ := ih e t2
        exact ⟨by simp [q1], q2.append (.cons t1 .nil)⟩
theorem st_raise {c : Nat} {ns : List Str} {e : Expr} (hc : X.calm = true) (tk : Takes X fun c d _ H => E c d H) (he : PMk X e (tErr F c ns (tA F Γ n E as))) : PS X (.Raise (some e) none pos) (tS F Γ n H0 O0 E (.raise c ns as)) :=
  PS.imp (ps_raise hc tk he) fun D σ H ⟨O, ρ, ad, s, R, h⟩ => by
    unfold exec at h
    refine ⟨O, ρ, ad, s, R.r, PostS.to R h fun ds s1 vs H1 k1 p1 t R1 h1 => ?_⟩
    cases hz : zipS ns ds with
    | none => rw [hz] at h1; exact h1.elim
    | some fs =>
      rw [hz] at h1
      obtain ⟨q1, q2⟩ := zip_ok hz t
      refine ⟨q1, fun d hd => h1 d _ _ (R1.kp.trans (Kp.new hd)) (p1.new hd) upd_same ?_⟩
      exact q2.mono (ex_trans (hid_sub R.sub) fun b o q => by
        obtain ⟨a1, a2⟩ := hid_some q
        rw [hid_no a1, upd_ne (ne_of_none a2 hd)]
        exact a2)
end
end Mi
end

section
set_option Elab.async false
set_option linter.all false
set_option maxRecDepth 100000
set_option maxHeartbeats 4000000
/-! Mi: the look at statements. -/
namespace Mi
open PySem PySem.Spec PyProof.Rows L2

/-- is the list of a comprehension stored within its own block -/
def swB (sc : Scope) (x : Str) (p : Pos) : Expr → Bool
  | .ListComp _ _ s q => decide (sc.names.lookup x = some .local) && (p.line == q.line) && !(s.names.any fun (n, k) => n == x && (k == .local || k == .cell))
  | _ => false
def noDictSet : Expr → Bool
  | .SetComp _ _ _ _ => false
  | .DictComp _ _ _ _ _ => false
  | _ => true
theorem swaps_B {sc : Scope} {x : Str} {p : Pos} {v : Expr} {l : Nat} {env : Env} (hs : env.scope = sc) (hb : env.blockKind = .function) (hn : noDictSet v = true) : swapsWith v (some (.Name x p)) l env = pure (swB sc x p v) := by
  cases v <;> first
    | rfl
    | (cases hn; done)
    | skip
  unfold swapsWith swB
  have hk : (env.kindOf x == some .local) = decide (sc.names.lookup x = some .local) := by
    show (env.scope.names.lookup x == some .local) = _
    rw [hs]
    exact Bool.beq_eq_decide_eq _ _
  simp only [hb, hk]
  rfl
def nmL (sc : Scope) (line : Nat) : Expr → Option Str
  | .Name id pos => if (sc.names.lookup id == some .local) && pos.line == line then some id else none
  | _ => none
def ln0 (ts : List Expr) : Nat := (ts.head?.map (·.pos.line)).getD 0
/-- a row of names, not stored from the right -/
def swNone (sc : Scope) : Expr → Expr → Bool
  | .Tuple ts _ _, .Tuple vs _ _ => !(ts.length == 2 || ts.length == 3) || vs.length != ts.length || (ts.filterMap (nmL sc (ln0 ts))).length != ts.length
  | .Tuple _ _ _, _ => true
  | _, _ => false
theorem nm_eq {sc : Scope} {env : Env} (hs : env.scope = sc) (ts : List Expr) : (ts.filterMap fun
      | .Name id pos => if env.kindOf id == some .local && pos.line == ln0 ts then some id else none
      | _ => none) = ts.filterMap (nmL sc (ln0 ts)) := by
  subst hs
  congr 1
theorem swaps_none {sc : Scope} {tg v : Expr} {env : Env} (hs : env.scope = sc) (h : swNone sc tg v = true) : swappedStores [tg] v env = pure none := by
  cases tg <;> (first | (cases h; done) | skip)
  rename_i ts kk pp
  cases v <;> (first | rfl | skip)
  rename_i vs k2 p2
  have e1 := nm_eq hs ts
  have h : (!(ts.length == 2 || ts.length == 3) || vs.length != ts.length || (ts.filterMap (nmL sc (ln0 ts))).length != ts.length) = true := h
  unfold swappedStores
  dsimp only
  by_cases h1 : (!(ts.length == 2 || ts.length == 3) || vs.length != ts.length || env.blockKind != .function) = true
  · rw [if_pos h1]
  · rw [if_neg h1]
    have h2 : ((ts.filterMap (nmL sc (ln0 ts))).length != ts.length) = true := by
      simp only [Bool.or_eq_true, not_or] at h1 h
      rcases h with h | h
      · rcases h with h | h
        · exact absurd h h1.1.1
        · exact absurd h h1.1.2
      · exact h
    split
    · rfl
    · refine (if_pos ?_).trans rfl
      rw [← e1] at h2
      rw [Bool.or_eq_true]
      exact .inl h2
theorem sw_each {sc : Scope} {tg v : Expr} {env : Env} (h : swNone sc tg v = true) : (assignEach [tg] env).map (·.2) = [assign tg env] := by
  cases tg <;> first
    | rfl
    | cases h
def starry : Expr → Bool
  | .Starred .. => true
  | _ => false
/-- a row of plain local names, stored from the right -/
def swSome (sc : Scope) (ns : List Str) (ts vs : List Expr) : Bool :=
  (ts.length == 2 || ts.length == 3) && vs.length == ts.length && !(vs.any starry) && decide (ts.filterMap (nmL sc (ln0 ts)) = ns) && (ns.length == ts.length) && (ns.eraseDups.length == ns.length) && !(vs.all (foldedForSure 8)) && !(vs.all (constantsAlone 8))
theorem swaps_some {sc : Scope} {ns : List Str} {ts vs : List Expr} {kk k2 : Nat} {pp p2 : Pos} {env : Env} (hs : env.scope = sc) (hb : env.blockKind = .function) (h : swSome sc ns ts vs = true) : swappedStores [.Tuple ts kk pp] (.Tuple vs k2 p2) env = pure (some ns) := by
  unfold swSome at h
  simp only [Bool.and_eq_true, Bool.not_eq_true', decide_eq_true_eq] at h
  obtain ⟨⟨⟨⟨⟨⟨⟨h1, h2⟩, h3⟩, h4⟩, h5⟩, h6⟩, h7⟩, h8⟩ := h
  have e1 := nm_eq hs ts
  rw [h4] at e1
  unfold swappedStores
  dsimp only
  have c1 : (!(ts.length == 2 || ts.length == 3) || vs.length != ts.length || env.blockKind != .function) = false := by
    rw [hb, h1]
    show (false || !(vs.length == ts.length) || _) = false
    rw [h2]
    rfl
  rw [c1]
  have c2 : (vs.any fun | .Starred .. => true | _ => false) = false := h3
  refine (if_neg (by decide)).trans ?_
  refine (if_neg (fun z => Bool.false_ne_true (Eq.trans (Eq.symm c2) z))).trans ?_
  have c3 : ((ts.filterMap fun
      | .Name id pos => if env.kindOf id == some .local && pos.line == ln0 ts then some id else none
      | _ => none).length != ts.length || (ts.filterMap fun
      | .Name id pos => if env.kindOf id == some .local && pos.line == ln0 ts then some id else none
      | _ => none).eraseDups.length != (ts.filterMap fun
      | .Name id pos => if env.kindOf id == some .local && pos.line == ln0 ts then some id else none
      | _ => none).length) = false := by
    rw [e1]
    show (!(ns.length == ts.length) || !(ns.eraseDups.length == ns.length)) = false
    rw [h5, h6]
    rfl
  refine (if_neg (fun z => Bool.false_ne_true (Eq.trans (Eq.symm c3) z))).trans ?_
  refine (if_neg (fun z => Bool.false_ne_true (Eq.trans (Eq.symm h7) z))).trans ?_
  refine (if_neg (fun z => Bool.false_ne_true (Eq.trans (Eq.symm h8) z))).trans ?_
  exact congrArg (fun l => (pure (some l) : Sem (Option (List Str)))) e1

/-! ### the look -/
/-- terms that give a list of their own -/
def ownE : Ex → Bool
  | .lst _ => true
  | .comp _ _ _ _ _ => true
  | _ => false
def isComp : Ex → Bool
  | .comp _ _ _ _ _ => true
  | _ => false
mutual
def chkS (k : Ck) (er : Nat → Option (Str × List Str)) : Sm → Stmt → Bool
  | .set i e, st => match st with
    | .Assign [.Name x p] v _ => decide (k.N[i]? = some x) && loc k.sc x && noDictSet v && chkE k e v && (!swB k.sc x p v || isComp e)
    | _ => false
  | .own i e, st => match st with
    | .Assign [.Name x p] v _ => decide (k.N[i]? = some x) && loc k.sc x && noDictSet v && ownE e && chkE k e v && (!swB k.sc x p v || isComp e)
    | _ => false
  | .tup t e, st => match st with
    | .Assign [tg] v _ => noComp v && swNone k.sc tg v && chkE k e v && chkT k false t tg
    | _ => false
  | .par i j a b, st => match st with
    | .Assign [.Tuple [.Name x px, .Name y py] _ _] (.Tuple [e, f] _ _) _ => decide (k.N[i]? = some x) && decide (k.N[j]? = some y) && decide (i ≠ j) && decide (k.sc.names.lookup x = some .local) && decide (k.sc.names.lookup y = some .local) &&
        swSome k.sc [x, y] [.Name x px, .Name y py] [e, f] && chkA k (.cons a (.cons b .nil)) [e, f]
    | _ => false
  | .par3 i j l a b c, st => match st with
    | .Assign [.Tuple [.Name x px, .Name y py, .Name z pz] _ _] (.Tuple [e, f, g] _ _) _ => decide (k.N[i]? = some x) && decide (k.N[j]? = some y) && decide (k.N[l]? = some z) && decide (i ≠ j) && decide (i ≠ l) && decide (j ≠ l) &&
        decide (k.sc.names.lookup x = some .local) && decide (k.sc.names.lookup y = some .local) && decide (k.sc.names.lookup z = some .local) &&
        swSome k.sc [x, y, z] [.Name x px, .Name y py, .Name z pz] [e, f, g] && chkA k (.cons a (.cons b (.cons c .nil))) [e, f, g]
    | _ => false
  | .app i e, st => match st with
    | .Expr (.Call (.Attribute (.Name x _) m ap) [v] [] cp) _ => decide (m = "append") && decide (k.N[i]? = some x) && vis k.sc x && plainName x && (ap.endLine == cp.line) && noStar v && chkA k (.cons e .nil) [v]
    | _ => false
  | .aug i o e, st => match st with
    | .AugAssign (.Name x _) op v _ => decide (op = bopA o) && (decide (o = .add) || decide (o = .sub)) && decide (k.N[i]? = some x) && loc k.sc x && chkE k e v
    | _ => false
  | .ex e, st => match st with
    | .Expr v _ => noComp v && chkE k e v
    | _ => false
  | .ret e, st => match st with
    | .Return (some v) _ => chkE k e v
    | _ => false
  | .retN, st => match st with
    | .Return none _ => true
    | _ => false
  | .if_ c a b, st => match st with
    | .If tc p q _ => tstE c && chkE k c tc && chkSs k er a p && chkSs k er b q
    | _ => false
  | .for_ t it b, st => match st with
    | .For tg iter p [] _ => noSet iter && itTg it tg && chkI k it iter && chkT k false t tg && chkSs k er b p
    | _ => false
  | .while_ _ c b, st => match st with
    | .While tc p [] _ => tstE c && chkE k c tc && chkSs k er b p
    | _ => false
  | .brk, st => match st with
    | .Break _ => true
    | _ => false
  | .cont, st => match st with
    | .Continue _ => true
    | _ => false
  | .pass, st => match st with
    | .Pass _ => true
    | _ => false
  | .raise c ns es, st => match st with
    | .Raise (some (.Call (.Name x _) (f :: fs) [] _)) none _ => decide (er c = some (x, ns)) && glob k.sc x && plainName x && chkA k es (f :: fs)
    | _ => false
  | .pset i f e, st => match st with
    | .Assign [.Subscript (.Name y _) (.Constant (.str z) _ _) _] v _ => decide (z = pfS f) && noComp v && decide (k.N[i]? = some y) && vis k.sc y && plainName y && chkE k e v
    | _ => false
def chkSs (k : Ck) (er : Nat → Option (Str × List Str)) : Sts → List Stmt → Bool
  | .nil, sts => match sts with
    | [] => true
    | _ => false
  | .cons a r, sts => match sts with
    | st :: sts => chkS k er a st && chkSs k er r sts
    | _ => false
  | .frz _ r, sts => chkSs k er r sts
end
def ckEr (X : Cx) (F : Cf) (c : Nat) (x : Str) (ns : List Str) : Prop :=
  ∀ (e : Expr) (es : List Expr) (ta : TA) (p pos : Pos), Gl X x → NameOk x → (e :: es).all noStar = true → PA X (e :: es) ta → PMk X (.Call (.Name x p) (e :: es) [] pos) (tErr F c ns ta)
structure GdS (X : Cx) (k : Ck) (er : Nat → Option (Str × List Str)) (F : Cf) (Γ : Tb) (E : XK) : Prop where
  g : Gd X k F Γ E
  fn : ∀ x, X.fn x = true
  own : PassesOwn (model X.prog X.w) X.A X.env X.xe
  bk : X.env.blockKind = .function
  tk : Takes X fun c d _ H => E c d H
  er : ∀ c x ns, er c = some (x, ns) → ckEr X F c x ns
section
variable {X : Cx} {k : Ck} {er : Nat → Option (Str × List Str)} {F : Cf} {Γ : Tb} {E : XK} {H0 : Hp} {O0 : Addr → Prop}
theorem list_not_comp {es : Es} {v : Expr} (h : chkE k (.lst es) v = true) : noComp v = true := by
  simp only [chkE] at h
  split at h
  · rfl
  · cases h
theorem not_sw {x : Str} {p : Pos} {v : Expr} (h : noComp v = true) : noDictSet v = true := by
  cases v <;> first
    | rfl
    | cases h
/-- the parts of a comprehension that passed -/
theorem comp_go {own : List (Str × Nat)} {t : Tg} {it : It} {cond : Es} {elt : Ex} {v : Expr} (g : Gd X k F Γ E) (h : chkE k (.comp own t it cond elt) v = true) :
    ∃ f tg iter ifs scope pos, v = .ListComp f [⟨tg, iter, ifs, 0⟩] scope pos ∧ BlkOk X.N X.env.scope scope own ∧ noSet iter = true ∧ (∀ i ∈ t.slots, i ∈ own.map (·.2)) ∧ PI X tg iter (tI F Γ k.N.length E it) ∧
      (∀ (s : Shared) (H : Hp) (C : Addr) (cl : List (Str × Addr)) (fp : List Addr), PG (X.blk s H scope (compEnvC scope cl C X.env) fp) tg (gT F.K t)) ∧
      (∀ (s : Shared) (H : Hp) (C : Addr) (cl : List (Str × Addr)) (fp : List Addr), PTs (X.blk s H scope (compEnvC scope cl C X.env) fp) ifs (tC F Γ k.N.length No cond)) ∧
      (∀ (s : Shared) (H : Hp) (C : Addr) (cl : List (Str × Addr)) (fp : List Addr), PE (X.blk s H scope (compEnvC scope cl C X.env) fp) f (tE F Γ k.N.length No elt)) := by
  simp only [chkE] at h
  split at h
  · simp only [Bool.and_eq_true, decide_eq_true_eq] at h
    obtain ⟨⟨⟨⟨⟨⟨⟨⟨⟨h1, h2⟩, h3⟩, h4⟩, h5⟩, h6⟩, h7⟩, h8⟩, h9⟩, h10⟩ := h
    rename_i sq _
    exact ⟨_, _, _, _, _, _, rfl, blkOk_by (by rw [g.N, g.sc]; exact h1), h2, fun i hi => of_decide_eq_true (List.all_eq_true.mp h6 i hi), sndI it g h3 h4,
      fun s H C cl fp => by
        have w := g.blk s H sq C cl fp
        rw [← g.K]
        exact pg_T w.N w.nd w.sc w.calm (fun z => by cases z) h5,
      fun s H C cl fp => sndC cond (g.blk s H sq C cl fp) h7 h8 h9,
      fun s H C cl fp => (sndE elt (g.blk s H sq C cl fp) h10).1⟩
  · cases h
theorem sndO {a : Ex} {v : Expr} (g : Gd X k F Γ E) (ho : ownE a = true) (h : chkE k a v = true) : PE X v (tO F Γ k.N.length E a) := by
  cases a <;> (first | (cases ho; done) | skip)
  · simp only [chkE] at h
    split at h
    · exact own_lst (sndA _ g h)
    · cases h
  · obtain ⟨f, tg, iter, ifs, scope, pos, e, h1, h2, h3, h4, h5, h6, h7⟩ := comp_go g h
    subst e
    exact own_comp g.calm g.nd h1 h2 h3 h4 h5 h6 h7
theorem sw_loc {x : Str} {p : Pos} {v : Expr} (hs : X.env.scope = k.sc) (h : swB k.sc x p v = true) : X.env.scope.names.lookup x = some .local := by
  rw [hs]
  unfold swB at h
  split at h
  · simp only [Bool.and_eq_true, decide_eq_true_eq] at h
    exact h.1.1
  · cases h
theorem snd_set {i : Nat} {x : Str} {p pos : Pos} {v : Expr} {a : Ex} (g : GdS X k er F Γ E) (hi : k.N[i]? = some x) (hx : loc k.sc x = true) (hv : noDictSet v = true) (h : chkE k a v = true) (hc : (!swB k.sc x p v || isComp a) = true) :
    PS X (.Assign [.Name x p] v pos) (tS F Γ k.N.length H0 O0 E (.set i a)) := by
  have hl : Loc X.env.scope x := by rw [g.g.sc]; exact loc_ok hx
  have hN : X.N[i]? = some x := by rw [g.g.N]; exact hi
  have hw := swaps_B (x := x) (p := p) (l := pos.line) g.g.sc g.bk hv
  cases e : swB k.sc x p v with
  | false =>
    rw [e] at hw
    refine PS.imp (ps_set g.g.nd hN hl (sndE a g.g h).1 hw (.inl (g.fn x))) fun D σ H ⟨O, ρ, ad, s, R, h⟩ => ?_
    unfold exec at h
    exact ⟨O, ρ, ad, s, R.r, PostS.to R h fun d s1 v H1 k1 p1 t R1 h1 => h1 O ad _ H1 (R1.set t) (R.exh k1)⟩
  | true =>
    rw [e] at hw hc
    have hll := sw_loc g.g.sc e
    cases a <;> (first | (cases hc; done) | skip)
    obtain ⟨f, tg, iter, ifs, scope, pos, e, h1, h2, h3, h4, h5, h6, h7⟩ := comp_go g.g h
    subst e
    refine PS.imp (ps_setLc g.g.calm g.g.nd hN hll hw h4 h1 h5 h6 h7 (notSet_it h2)) fun D σ H ⟨O, ρ, ad, s, R, h⟩ => ?_
    unfold exec at h
    refine comp_imp (rel := Dt F) h3 R.r (PostS.to R h fun d s1 v H1 k1 p1 t R1 h1 => h1 O ad _ H1 (R1.set t) (R.exh k1)) fun H1 H' A vs ds k1 hA hacc tacc nO => .lst (by rw [hid_no nO]; exact hacc) (tacc.mono hid_less)
theorem snd_own {i : Nat} {x : Str} {p pos : Pos} {v : Expr} {a : Ex} (g : GdS X k er F Γ E) (hi : k.N[i]? = some x) (hx : loc k.sc x = true) (hv : noDictSet v = true) (ho : ownE a = true) (h : chkE k a v = true) (hc : (!swB k.sc x p v || isComp a) = true) :
    PS X (.Assign [.Name x p] v pos) (tS F Γ k.N.length H0 O0 E (.own i a)) := by
  have hl : Loc X.env.scope x := by rw [g.g.sc]; exact loc_ok hx
  have hN : X.N[i]? = some x := by rw [g.g.N]; exact hi
  have hw := swaps_B (x := x) (p := p) (l := pos.line) g.g.sc g.bk hv
  cases e : swB k.sc x p v with
  | false =>
    rw [e] at hw
    exact PS.imp (ps_set g.g.nd hN hl (sndO g.g ho h) hw (.inl (g.fn x))) fun D σ H ⟨O, ρ, ad, s, R, h⟩ => ⟨O, ρ, ad, s, R.r, own_val R h⟩
  | true =>
    rw [e] at hw hc
    have hll := sw_loc g.g.sc e
    cases a <;> (first | (cases hc; done) | skip)
    obtain ⟨f, tg, iter, ifs, scope, pos, e, h1, h2, h3, h4, h5, h6, h7⟩ := comp_go g.g h
    subst e
    exact PS.imp (ps_setLc g.g.calm g.g.nd hN hll hw h4 h1 h5 h6 h7 (notSet_it h2)) fun D σ H ⟨O, ρ, ad, s, R, h⟩ => comp_imp h3 R.r (own_val R h) fun H1 H' A vs ds k1 hA hacc tacc nO => relO_of (none_back k1 hA fun z => nO (z ▸ R.r.pp)) nO hacc tacc
mutual
theorem sndS : ∀ (a : Sm) (_ : GdS X k er F Γ E) {st : Stmt} (_ : chkS k er a st = true), PS X st (tS F Γ k.N.length H0 O0 E a)
  | .set i e, g, st, h => by
    simp only [chkS] at h
    split at h
    · simp only [Bool.and_eq_true, decide_eq_true_eq] at h
      obtain ⟨⟨⟨⟨h1, h2⟩, h3⟩, h4⟩, h5⟩ := h
      exact snd_set g h1 h2 h3 h4 h5
    · cases h
  | .own i e, g, st, h => by
    simp only [chkS] at h
    split at h
    · simp only [Bool.and_eq_true, decide_eq_true_eq] at h
      obtain ⟨⟨⟨⟨⟨h1, h2⟩, h3⟩, h4⟩, h5⟩, h6⟩ := h
      exact snd_own g h1 h2 h3 h4 h5 h6
    · cases h
  | .tup t e, g, st, h => by
    simp only [chkS] at h
    split at h
    · simp only [Bool.and_eq_true] at h
      obtain ⟨⟨⟨h1, h2⟩, h3⟩, h4⟩ := h
      refine st_tup h1 (swaps_none g.g.sc h2) (sw_each h2) (sndE e g.g h3).1 ?_
      · rw [← g.g.K]
        exact pg_T g.g.N g.g.nd g.g.sc g.g.calm (fun _ => g.fn) h4
    · cases h
  | .par i j a b, g, st, h => by
    simp only [chkS] at h
    split at h
    · simp only [Bool.and_eq_true, decide_eq_true_eq] at h
      obtain ⟨⟨⟨⟨⟨⟨h1, h2⟩, h3⟩, h4⟩, h5⟩, h6⟩, h7⟩ := h
      exact st_par g.g.calm g.g.nd (by rw [g.g.N]; exact h1) (by rw [g.g.N]; exact h2) h3 (by rw [g.g.sc]; exact h4) (by rw [g.g.sc]; exact h5) (sndA _ g.g h7) (swaps_some g.g.sc g.bk h6)
    · cases h
  | .par3 i j l a b c, g, st, h => by
    simp only [chkS] at h
    split at h
    · simp only [Bool.and_eq_true, decide_eq_true_eq] at h
      obtain ⟨⟨⟨⟨⟨⟨⟨⟨⟨⟨h1, h2⟩, h3⟩, h4⟩, h5⟩, h6⟩, h7⟩, h8⟩, h9⟩, h10⟩, h11⟩ := h
      exact st_par3 g.g.calm g.g.nd (by rw [g.g.N]; exact h1) (by rw [g.g.N]; exact h2) (by rw [g.g.N]; exact h3) h4 h5 h6 (by rw [g.g.sc]; exact h7) (by rw [g.g.sc]; exact h8) (by rw [g.g.sc]; exact h9) (sndA _ g.g h11) (swaps_some g.g.sc g.bk h10)
    · cases h
  | .app i e, g, st, h => by
    simp only [chkS] at h
    split at h
    · simp only [Bool.and_eq_true, decide_eq_true_eq] at h
      obtain ⟨⟨⟨⟨⟨⟨h1, h2⟩, h3⟩, h4⟩, h5⟩, h6⟩, h7⟩ := h
      subst h1
      exact st_app (by rw [g.g.N]; exact h2) (g.g.vs_ h3) (name_ok h4) h6 h5 (sndA _ g.g h7)
    · cases h
  | .aug i o e, g, st, h => by
    simp only [chkS] at h
    split at h
    · simp only [Bool.and_eq_true, Bool.or_eq_true, decide_eq_true_eq] at h
      obtain ⟨⟨⟨⟨h1, h2⟩, h3⟩, h4⟩, h5⟩ := h
      subst h1
      exact st_aug g.g.nd (by rw [g.g.N]; exact h3) (by rw [g.g.sc]; exact loc_ok h4) (g.fn _) h2 (sndE e g.g h5).1
    · cases h
  | .ex e, g, st, h => by
    simp only [chkS] at h
    split at h
    · simp only [Bool.and_eq_true] at h
      exact st_ex h.1 (sndE e g.g h.2).1
    · cases h
  | .ret e, g, st, h => by
    simp only [chkS] at h
    split at h
    · exact st_ret (sndE e g.g h).1
    · cases h
  | .retN, g, st, h => by
    simp only [chkS] at h
    split at h
    · exact st_retN
    · cases h
  | .if_ c a b, g, st, h => by
    simp only [chkS] at h
    split at h
    · simp only [Bool.and_eq_true] at h
      obtain ⟨⟨⟨h1, h2⟩, h3⟩, h4⟩ := h
      exact st_if ((sndE c g.g h2).2 h1) (sndSs a g h3) (sndSs b g h4)
    · cases h
  | .for_ t it b, g, st, h => by
    simp only [chkS] at h
    split at h
    · simp only [Bool.and_eq_true] at h
      obtain ⟨⟨⟨⟨h1, h2⟩, h3⟩, h4⟩, h5⟩ := h
      refine st_for g.own g.g.calm h1 (sndI it g.g h2 h3) ?_ (sndSs b g h5)
      rw [← g.g.K]
      exact pg_T g.g.N g.g.nd g.g.sc g.g.calm (fun _ => g.fn) h4
    · cases h
  | .while_ m c b, g, st, h => by
    simp only [chkS] at h
    split at h
    · simp only [Bool.and_eq_true] at h
      obtain ⟨⟨h1, h2⟩, h3⟩ := h
      exact st_while g.own ((sndE c g.g h2).2 h1) (sndSs b g h3)
    · cases h
  | .brk, g, st, h => by
    simp only [chkS] at h
    split at h
    · exact st_brk
    · cases h
  | .cont, g, st, h => by
    simp only [chkS] at h
    split at h
    · exact st_cont
    · cases h
  | .pass, g, st, h => by
    simp only [chkS] at h
    split at h
    · exact st_pass
    · cases h
  | .raise c ns es, g, st, h => by
    simp only [chkS] at h
    split at h
    · simp only [Bool.and_eq_true, decide_eq_true_eq] at h
      obtain ⟨⟨⟨h1, h2⟩, h3⟩, h4⟩ := h
      exact st_raise g.g.calm g.tk (g.er c _ _ h1 _ _ _ _ _ (g.g.gl_ h2) (name_ok h3) (chkA_star h4) (sndA es g.g h4))
    · cases h
  | .pset i f e, g, st, h => by
    simp only [chkS] at h
    split at h
    · simp only [Bool.and_eq_true, decide_eq_true_eq] at h
      obtain ⟨⟨⟨⟨⟨h1, h2⟩, h3⟩, h4⟩, h5⟩, h6⟩ := h
      subst h1
      exact st_pset g.g.hu64 h2 (by rw [g.g.N]; exact h3) (g.g.vs_ h4) (name_ok h5) (sndE e g.g h6).1
    · cases h
theorem sndSs : ∀ (a : Sts) (_ : GdS X k er F Γ E) {st : List Stmt} (_ : chkSs k er a st = true), PSs X st (tSs F Γ k.N.length H0 O0 E a)
  | .nil, g, st, h => by
    simp only [chkSs] at h
    split at h
    · exact sts_nil
    · cases h
  | .cons a r, g, st, h => by
    simp only [chkSs] at h
    split at h
    · simp only [Bool.and_eq_true] at h
      exact sts_cons (sndS a g h.1) (sndSs r g h.2)
    · cases h
  | .frz is r, g, st, h => by
    simp only [chkSs] at h
    exact sts_frz (sndSs r g h)
end
end
end Mi
end

section
set_option Elab.async false
set_option linter.all false
set_option maxRecDepth 100000
set_option maxHeartbeats 4000000
/-! Mi: defs. -/
namespace Mi
open PySem PySem.Spec PyProof.Rows L2

/-- a def by its body, where guards are known -/
theorem fnG_of {CX : CXT} {P : Program} {w : World} {K : PySem.W.Frag} {mg : Str → Option Value} {base : Heap} {k : Nat} {f : Addr} {name qual : Str} {params : Arguments} {body : List Stmt} {scope : Scope} {dV kV doc pm cdv ct oc : Value} {an od : Option Addr}
    {osl : Array (Option Value)} {N ps : List Str} {sp : Sp} (lk : K.lookup f = some ⟨oc, od, .func (PySem.W.fnOf name qual params body scope dV kV doc pm an cdv ct), osl⟩)
    (code : PySem.W.codeIn K cdv qual = true) (S : FnScope N ps scope) (size : ∀ vs H Q E, sp vs H Q E → vs.length = ps.length)
    (go : ∀ (A : Around) (outer : List Env) (s : Shared) (H : Hp) (vs : List V) (Q : VK) (E : XK), A.guards = some [] → Room k (A.deeper (envOfC qual scope s.heap.objs.size f cdv)) → sp vs H Q E →
      ∃ t, PSs (cxOf CX P w K mg base N qual scope f cdv A outer s H E) body t ∧ t { nx := fun _ H' => Q .non H', rt := Q } (L2.start N vs) H) :
    FnG P w K mg base CX (k + 1) f (PySem.W.fnOf name qual params body scope dV kV doc pm an cdv ct) ps sp := by
  constructor
  · exact size
  intro A outer s H args us vs Q E gd room e0 bind rel h
  have len := size _ _ _ _ h
  have inK : K.In s.heap := e0.mod.kin.keeps fun b o e => (e0.bs b o e).1
  have noLim : s.heap.NoLimit := e0.mod.nolimit.keeps fun b o e => (e0.bs b o e).1
  have kinds : ∀ y ∈ ps.zip us, scope.names.lookup y.1 = some .local ∨ (scope.names.lookup y.1 = some .cell ∧ ((cellsFrom (s.heap.objs.size + 1) scope.names []).lookup y.1).isSome = true) := by
    rintro ⟨x, v⟩ hy
    exact (S.par x (List.of_mem_zip hy).1).imp id fun q => ⟨q, PySem.W.cellsFrom_some _ _ _ (.inl q)⟩
  apply codeAny_call_function room.depth (inK _ _ lk) rfl S.co S.gen rfl (PySem.W.codeRec_of inK code) (bind _ _ _ _ ?_)
  · apply wpAny_newFunctionEnv_cells S.kind kinds
    intro env env_eq s1 called
    subst env_eq
    refine ⟨noLim.keeps called.toInCall.keep, codeAny_func ?_⟩
    obtain ⟨t, runs, wish⟩ := go A outer s H vs Q E gd (room.deeper _) h
    have I := inv_start (CX := CX) (E := E) S room.hd e0 len rel called
    apply wpAny_mono (runs.run [] s1 (L2.start N vs) H _ I wish)
    · intro fl s' ends
      cases fl with
      | ret u =>
        obtain ⟨v, _, H', J, rv, q⟩ := ends
        exact ⟨v, H', J.os, J.bare, J.base, J.hok, rv, q⟩
      | next =>
        obtain ⟨_, H', J, q⟩ := ends
        exact ⟨.non, H', J.os, J.bare, J.base, J.hok, rfl, q⟩
      | brk => exact ends.elim fun _ z => z.elim fun _ z => z.2.elim
      | cont => exact ends.elim fun _ z => z.elim fun _ z => z.2.elim
    · exact fun _ _ z => z

/-- what a def gives back -/
def RS.ret : RS → R D
  | .nx _ s => .ok .non s
  | .rt d s => .ok d s
  | .err c fs s => .err c fs s
  | _ => .bad
def start0 (n : Nat) (ds : List D) : List Sl := ds.map Sl.val ++ List.replicate (n - ds.length) .emp
def semF (Γ : Tb) (n : Nat) (b : Sts) (ds : List D) (s : Pen) : R D := (execs Γ b (start0 n ds) s).ret

/-- what is known of the names of a module, for bodies at depth k -/
structure TbOk (P : Program) (w : World) (F : Cf) (mg : Str → Option Value) (base : Heap) (k : Nat) (bl : List Str) (fn gl : Nat → Option Str) (gcd : Bool) (er : Nat → Option (Str × List Str)) (Γ : Tb) : Prop where
  blt : ∀ x ∈ bl, mg x = none
  fn : ∀ g x, fn g = some x → ∃ f fd ps j sem, mg x = some (.ref f) ∧ PySem.W.keepIn F.K (.ref f) = true ∧ Binds F.K fd ps [] ∧ j ≤ k ∧ (∀ ds s, Γ.fn g ds s = if ds.length = ps.length then sem ds s else .bad) ∧ FnG P w F.K mg base (L2.CX P w) j f fd ps (spF F ps.length sem)
  gl : ∀ g x, gl g = some x → ∃ u v, mg x = some u ∧ RelV v u ∧ ∀ G, Dt F G v (Γ.gl g)
  gcd : gcd = true → mg "gcd" = some (.builtin "math.gcd")
  er : ∀ c x ns, er c = some (x, ns) → ∀ X : Cx, X.prog = P → X.w = w → X.K = F.K → X.mg = mg → X.base = base → Room k X.A → X.A.guards = some [] → ckEr X F c x ns
theorem start0_len {n : Nat} {ds : List D} (h : ds.length ≤ n) : (start0 n ds).length = n := by
  unfold start0
  rw [List.length_append, List.length_map, List.length_replicate]
  omega
theorem start0_own {n : Nat} {ds es : List D} {i : Nat} : (start0 n ds)[i]? ≠ some (.own es) := by
  intro h
  have m := List.mem_of_getElem? h
  unfold start0 at m
  rw [List.mem_append, List.mem_map, List.mem_replicate] at m
  rcases m with ⟨_, _, e⟩ | ⟨_, e⟩ <;> cases e
theorem start0_val {F : Cf} {V : Hp} {n : Nat} {N : List Str} {ds : List D} {vs : List L2.V} {i : Nat} {d : D} (t : Dts F V vs ds) (h : (start0 n ds)[i]? = some (.val d)) : ∃ v, (L2.start N vs)[i]? = some (some v) ∧ Dt F V v d := by
  have hi : i < ds.length := by
    rcases Nat.lt_or_ge i ds.length with q | q
    · exact q
    · unfold start0 at h
      rw [List.getElem?_append_right (by simpa using q), List.getElem?_replicate] at h
      split at h <;> cases h
  unfold start0 at h
  rw [List.getElem?_append_left (by simpa using hi), List.getElem?_map] at h
  cases e : ds[i]? with
  | none => rw [e] at h; cases h
  | some d' =>
    rw [e] at h
    cases h
    obtain ⟨v, e2, q⟩ := t.get e
    refine ⟨v, ?_, q⟩
    unfold L2.start
    rw [List.getElem?_append_left (by rw [List.length_map, t.length]; exact hi), List.getElem?_map, e2]
    rfl
/-- THE RULE of a def -/
theorem fn_rule {P : Program} {w : World} {F : Cf} {mg : Str → Option Value} {base : Heap} {k : Nat} {f : Addr} {name qual : Str} {params : Arguments} {body : List Stmt} {scope : Scope} {dV kV doc pm cdv ct oc : Value} {an od : Option Addr}
    {osl : Array (Option Value)} {N ps : List Str} {bl : List Str} {fn gl : Nat → Option Str} {gcd : Bool} {er : Nat → Option (Str × List Str)} {Γ : Tb} {b : Sts} (lk : F.K.lookup f = some ⟨oc, od, .func (PySem.W.fnOf name qual params body scope dV kV doc pm an cdv ct), osl⟩)
    (code : PySem.W.codeIn F.K cdv qual = true) (S : FnScope N ps scope) (T : TbOk P w F mg base k bl fn gl gcd er Γ) (ck : chkSs ⟨N, scope, bl, fn, gl, gcd⟩ er b body = true) :
    FnG P w F.K mg base (L2.CX P w) (k + 1) f (PySem.W.fnOf name qual params body scope dV kV doc pm an cdv ct) ps (spF F ps.length (semF Γ N.length b)) := by
  have hpl : ps.length ≤ N.length := by have := congrArg List.length S.pre; rw [List.length_take] at this; omega
  refine fnG_of lk code S (fun vs H Q E ⟨O, ds, s, _, _, _, t, l, _⟩ => t.length.trans l) fun A outer s H vs Q E gd room ⟨O, ds, pen, opp, trk, pa, t, l, post⟩ => ?_
  have hbk : (envOfC qual scope s.heap.objs.size f cdv).blockKind = .function := by
    show (if scope.kind.isAnnotationScope then ScopeKind.function else scope.kind) = _
    rw [S.kind]
    rfl
  have tk : Takes (cxOf (L2.CX P w) P w F.K mg base N qual scope f cdv A outer s H E) (fun c d _ H => E c d H) := takes_of rfl rfl rfl rfl
  have g : GdS (cxOf (L2.CX P w) P w F.K mg base N qual scope f cdv A outer s H E) ⟨N, scope, bl, fn, gl, gcd⟩ er F Γ E := {
    g := {
      N := rfl
      nd := S.nd
      sc := rfl
      K := rfl
      calm := rfl
      gd := gd
      room := room.mono (Nat.zero_le _)
      blt := T.blt
      fn := fun i x h => by
        obtain ⟨f, fd, ps, j, sem, h1, h2, h3, h4, h5, h6⟩ := T.fn i x h
        exact ⟨f, fd, ps, j, sem, h1, h2, h3, room.mono h4, passes_call tk fun _ _ _ _ q => q, h5, h6⟩
      gl := T.gl
      gcd := T.gcd }
    fn := fun _ => rfl
    own := passes_of (K := fun e s'' => L2.CX P w outer H s E e s'') rfl
    bk := hbk
    tk := tk
    er := fun c x ns h => T.er c x ns h _ rfl rfl rfl rfl rfl room gd }
  refine ⟨_, sndSs (H0 := H) (O0 := O) b g ck, O, start0 N.length ds, fun _ => 0, pen, ⟨⟨?_, ?_, fun i d e => start0_val t e, fun i es e => absurd e start0_own, opp, trk, pa⟩, .refl, by rw [pa.c]; simp, fun _ q => q, fun _ q => .inl q, fun i es e => absurd e start0_own, fun i j es es' e => absurd e start0_own⟩, ?_⟩
  · unfold L2.start
    rw [List.length_append, List.length_map, List.length_replicate, t.length, l]
    show ps.length + (N.length - ps.length) = N.length
    omega
  · exact start0_len (by rw [l]; exact hpl)
  · unfold semF at post
    cases e : execs Γ b (start0 N.length ds) pen with
    | nx ρ s1 =>
      rw [e] at post
      exact fun O' ad' σ' H' R x => post .non H' R.kp R.r.pen .non
    | bk ρ s1 => rw [e] at post; exact post.elim
    | ct ρ s1 => rw [e] at post; exact post.elim
    | rt d s1 => rw [e] at post; exact fun v H' k' p t => post v H' k' p t
    | err c fs s1 => rw [e] at post; exact post
    | bad => rw [e] at post; exact post.elim
end Mi
end

section
set_option Elab.async false
set_option linter.all false
set_option maxRecDepth 100000
set_option maxHeartbeats 4000000
/-! Mi: the end of a law, where guards are known. -/
namespace Mi
open PySem PySem.Spec PyProof.Rows L2

theorem upd_at {h : Hp} {a : Addr} {o : HO} : upd h a o a = some o := upd_same
/-- the heap in which but the script may be tracked -/
structure Bare (K : PySem.W.Frag) (H : Hp) (a : Addr) : Prop where
  only : ∀ b, H b = none ∨ ∃ o xs, H b = some (.frz o (.lst xs))
  at_ : ∀ b, H b ≠ none → b = a
  out : H a ≠ none → K.lookup a = none
theorem law_at {P : Program} {w : World} {K : PySem.W.Frag} {mg mb : Str → Option Value} {CX : CXT} {k : Nat} {fa a : Addr} {fd : FuncData} {x : Str} {sp : Sp} {s : Shared} {vs : List Value} {H : Hp} (kin : K.In s.heap)
    (glob : s.heap.Ns mainGlobals mg) (blt : s.heap.Ns builtinsNs mb) (bltAll : ∀ x : Str, x ≠ "__name__" → mb x = bootBuiltins x) (lim : s.heap.NoLimit) (gens : s.gens = #[])
    (script : s.heap.get? a = some { cls := .type "list", data := .seq vs.toArray }) (room : Room k callerA) (B : Bare K H a) (hok : HOk P w H s.heap)
    (G : ∀ base : Heap, K.In base → base.Ns mainGlobals mg → FnG P w K mg base CX k fa fd [x] sp) (bind : ∀ (s : Shared) (u : Value), BindsTo s fd ⟨[u], []⟩ [(x, u)])
    (hs : sp [.ref a] H (fun v _ => v = .bl true) fun _ _ _ => False) (cx : ∀ H e s', CX [] H s (fun _ _ _ => False) e s' → False) :
    codeAny (model P w) callerA (.call (.ref fa) ⟨[.ref a], []⟩) (fun r s' => r = .ok (.ret (.bool true)) ∧ OldK s.heap s'.heap ∧ s'.os = s.os ∧ AllBare s'.gens) s := by
  have notA : ∀ {b : Addr} {o : Obj} {m : Array DictEntry} {n : Nat}, s.heap.get? b = some o → o.data = .dict m n → H b = none := by
    intro b o m n e d
    rcases B.only b with q | ⟨o', xs, q⟩
    · exact q
    · obtain rfl := B.at_ b (by rw [q]; simp)
      rw [script] at e
      obtain rfl := Option.some.inj e
      cases d
  have ns : ∀ {b : Addr} {m : Str → Option Value}, s.heap.Ns b m → (hidT s.heap H).Ns b m := by
    rintro b m ⟨o, m1, m2, e, d, r⟩
    exact ⟨o, m1, m2, hidT_get e (notA e d), d, r⟩
  have kin' : K.In (hidT s.heap H) := by
    intro b o e
    apply hidT_get (kin b o e)
    rcases B.only b with q | ⟨o', xs, q⟩
    · exact q
    · have h1 := B.at_ b (by rw [q]; simp)
      subst h1
      rw [B.out (by rw [q]; simp)] at e
      cases e
  have mod : Mod K mg (hidT s.heap H) := ⟨kin', ns glob, ⟨mb, ns blt, bltAll⟩, by obtain ⟨mc, h1, h2⟩ := lim; exact ⟨mc, ns h1, h2⟩⟩
  have env : Env0 P w K mg (hidT s.heap H) callerA [] s H := by
    refine ⟨rfl, mod, fun b o e => of_hidT e, ?_, trivial, ?_, hok, .of_eq gens⟩
    · rw [hidT_size]
      exact Nat.le_refl _
    · intro b hb
      cases hb
  have run := (G _ kin' (ns glob)).goes callerA [] s H ⟨[.ref a], []⟩ [.ref a] [.ref a] _ _ rfl room env (bind s (.ref a)) (.cons rfl .nil) hs
  apply codeAny_mono run
  intro r s' q
  cases r with
  | error e => exact (cx H e s' q).elim
  | ok fl =>
    cases fl with
    | next => exact q.elim
    | brk => exact q.elim
    | cont => exact q.elim
    | ret u =>
      obtain ⟨v, H', os, bare, un, hok', rel, veq⟩ := q
      have veq : v = .bl true := veq
      rw [veq] at rel
      have u_eq : u = Value.bool true := rel
      rw [u_eq]
      refine ⟨rfl, OldK.of_keep fun b o e => ?_, os, bare⟩
      rcases B.only b with z | ⟨o', xs, z⟩
      · exact un.keep b o e z (by intro y; cases y) (by simp)
      · have now := un.frzs b o' _ z
        have was := (hok b _ z).1
        rw [e] at was
        obtain rfl := Option.some.inj was
        exact (hok' b _ now).1
theorem law_callG {P : Program} {w : World} {K : PySem.W.Frag} {mg mb : Str → Option Value} {CX : CXT} {k : Nat} {fa a : Addr} {fd : FuncData} {x : Str} {sp : Sp} {s : Shared} {vs : List Value} {is : List Int} (kin : K.In s.heap)
    (glob : s.heap.Ns mainGlobals mg) (blt : s.heap.Ns builtinsNs mb) (bltAll : ∀ x : Str, x ≠ "__name__" → mb x = bootBuiltins x) (lim : s.heap.NoLimit) (gens : s.gens = #[])
    (script : s.heap.get? a = some { cls := .type "list", data := .seq vs.toArray }) (iat : IntsAre vs is) (few : is.length ≤ sizeLine) (room : Room k callerA)
    (G : ∀ base : Heap, K.In base → base.Ns mainGlobals mg → FnG P w K mg base CX k fa fd [x] sp) (bind : ∀ (s : Shared) (u : Value), BindsTo s fd ⟨[u], []⟩ [(x, u)])
    (hs : ∀ H : Hp, SqL K H a (is.map V.int) → sp [.ref a] H (fun v _ => v = .bl true) fun _ _ _ => False) (cx : ∀ H e s', CX [] H s (fun _ _ _ => False) e s' → False) :
    codeAny (model P w) callerA (.call (.ref fa) ⟨[.ref a], []⟩) (fun r s' => r = .ok (.ret (.bool true)) ∧ OldK s.heap s'.heap ∧ s'.os = s.os ∧ AllBare s'.gens) s := by
  have rv := vals_ints iat
  cases hk : K.lookup a with
  | some o =>
    have e := kin a o hk
    rw [script] at e
    obtain rfl := Option.some.inj e
    refine law_at (H := fun _ => none) kin glob blt bltAll lim gens script room ⟨fun _ => .inl rfl, fun b z => absurd rfl z, fun z => absurd rfl z⟩ (fun b u z => by cases z) G bind (hs _ ?_) cx
    exact .inr ⟨_, vs.toArray, _, hk, rfl, rfl, rfl, by rw [List.size_toArray, iat.length]; exact few, by simpa using rv⟩
  | none =>
    have look : ∀ {b : Addr} {u : HO}, (if b = a then some (HO.frz { cls := .type "list", data := .seq vs.toArray } (.lst (is.map V.int))) else none) = some u → b = a ∧ u = .frz { cls := .type "list", data := .seq vs.toArray } (.lst (is.map V.int)) := by
      intro b u z
      by_cases q : b = a
      · rw [if_pos q] at z
        exact ⟨q, (Option.some.inj z).symm⟩
      · rw [if_neg q] at z
        cases z
    refine law_at (H := fun b => if b = a then some (.frz { cls := .type "list", data := .seq vs.toArray } (.lst (is.map V.int))) else none) kin glob blt bltAll lim gens script room ⟨fun b => ?_, fun b z => ?_, fun _ => hk⟩ (fun b u z => ?_) G bind (hs _ ?_) cx
    · by_cases q : b = a
      · exact .inr ⟨_, _, if_pos q⟩
      · exact .inl (if_neg q)
    · by_cases q : b = a
      · exact q
      · exact absurd (if_neg q) z
    · obtain ⟨h1, h2⟩ := look z
      subst h1
      subst h2
      exact ⟨script, by rw [List.length_map]; exact few, vs, _, rv, script⟩
    · exact .inl (.inr ⟨_, if_pos rfl⟩)
/-- the end -/
theorem walk_ofG {l : PySem.W.OpenLaw} {n k : Nat} {q : Program} {loose : List Str} {XP : (Str → Option Value) → Heap → Prop} {YP : World → Heap → Prop} {d : DefRec} {CX : CXT} {x : Str}
    (hn : l.most = some n) (hn2 : n ≤ sizeLine) (hdf : d.params.defaults = []) (room : Room k callerA)
    (go : ∀ (w : World) (mg : Str → Option Value) (fa : Addr) (h : Heap), YP w h → h.Ns mainGlobals mg → mg d.name = some (.ref fa) →
      ∃ (K : PySem.W.Frag) (fd : FuncData) (sp : Sp), K.In h ∧ (∀ (s : Shared) (u : Value), BindsTo s fd ⟨[u], []⟩ [(x, u)]) ∧
        (∀ (H : Hp) (a : Addr) (is : List Int), is.length ≤ n → SqL K H a (is.map V.int) → sp [.ref a] H (fun v _ => v = .bl true) fun _ _ _ => False) ∧
        ∀ base : Heap, K.In base → base.Ns mainGlobals mg → FnG l.prog w K mg base CX k fa fd [x] sp)
    (cx : ∀ (H : Hp) (s : Shared) (e : Value) (s' : Shared), CX [] H s (fun _ _ _ => False) e s' → False) :
    PySem.W.WalkO q loose XP YP l.row.toRowW d [] (fun f vs => PySem.call f vs) :=
  Att.attach_call hn hdf fun w s₀ s mg mb fa o pm cd doc a vs is G Y _ _ _ hmg script iat few gens => by
    obtain ⟨K, fd, sp, kin, bind, hsp, F⟩ := go w mg fa _ Y G.T.g hmg
    exact law_callG kin G.T.g G.T.b G.T.builtins G.T.nolimit gens script iat (Nat.le_trans few hn2) room F bind (fun H hS => hsp H a is few hS) fun H e s' => cx H s e s'
end Mi
end

section
set_option Elab.async false
set_option linter.all false
set_option maxRecDepth 100000
set_option maxHeartbeats 4000000
/-! Mi: the law's pen is made. -/
namespace Mi
open PySem PySem.Spec PyProof.Rows L2

def foldC (f c : Int) : Int := (f * 157 + c).fmod 999999437
def pen0 (cells : List Int) : Pen := ⟨cells, 0, 0, 0, cells.foldl foldC 0⟩
/-- the pen's promise: two new objects -/
def spPen (K : PySem.W.Frag) : Sp := fun vs H Q _ => ∃ (a : Addr) (ns : List Int), vs = [.ref a] ∧ SqL K H a (ns.map V.int) ∧
  ∀ (c p : Addr) (H' : Hp), H c = none → H p = none → c ≠ p → Same H H' → H' c = some (.lst (ns.map V.int)) → H' p = some (.dK (penKV c (pen0 ns))) → Q (.ref p) H'
def nmIs (x : Str) : Expr → Bool
  | .Name y _ => decide (y = x)
  | _ => false
def intIs (i : Int) : Expr → Bool
  | .Constant (.int j) _ _ => decide (i = j)
  | _ => false
def keyIs (x : Str) : Option Expr → Bool
  | some (.Constant (.str y) _ _) => decide (y = x)
  | _ => false
def foldIs : Expr → Bool
  | .BinOp (.Call f [.BinOp (.BinOp x .Mult m _) .Add c _] [] _) .Mod n _ => nmIs "int" f && nmIs "fold" x && intIs 157 m && nmIs "cell" c && intIs 999999437 n
  | _ => false
def penIs : List Stmt → Bool
  | [.Assign [x0] z0 _, .For c s [.Assign [x1] e _] [] _, .Return (some (.Dict [k1, k2, k3, k4, k5] [.Call f [s2] [] _, z1, z2, z3, x2] _)) _] =>
    nmIs "fold" x0 && intIs 0 z0 && nmIs "cell" c && nmIs "script" s && nmIs "fold" x1 && foldIs e && keyIs "cells" k1 && keyIs "at" k2 && keyIs "digits" k3 && keyIs "count" k4 && keyIs "fold" k5 &&
      nmIs "list" f && nmIs "script" s2 && intIs 0 z1 && intIs 0 z2 && intIs 0 z3 && nmIs "fold" x2
  | _ => false
theorem nmIs_ok {x : Str} {e : Expr} (h : nmIs x e = true) : ∃ p, e = .Name x p := by
  cases e <;> (first | (cases h; done) | skip)
  have h : decide (_ = x) = true := h
  rw [decide_eq_true_eq] at h
  subst h
  exact ⟨_, rfl⟩
theorem intIs_ok {i : Int} {e : Expr} (h : intIs i e = true) : ∃ k p, e = .Constant (.int i) k p := by
  unfold intIs at h
  split at h
  · rw [decide_eq_true_eq] at h
    subst h
    exact ⟨_, _, rfl⟩
  · cases h
theorem keyIs_ok {x : Str} {e : Option Expr} (h : keyIs x e = true) : ∃ k p, e = some (.Constant (.str x) k p) := by
  unfold keyIs at h
  split at h
  · rw [decide_eq_true_eq] at h
    subst h
    exact ⟨_, _, rfl⟩
  · cases h
def penN : List Str := ["script", "fold", "cell"]
def t_pen (K : PySem.W.Frag) : TS :=
  tSeq (tAsg (L2.tC (.int 0)) (gName 1)) (tSeq (tFor (iList K (tVar 0)) (gName 2)
    (tAsg (tOp (rI (fun _ j => j ≠ 0) fun i j => .int (i.fmod j)) (tCB (fun xs H Q => (∃ i, xs = [.int i] ∧ Q (.int i) H) ∨ ∃ k, xs = [.bl k] ∧ Q (.int (if k then 1 else 0)) H) (tCons (tOp (rI0 fun i j => .int (i + j)) (tOp (rI CMul fun i j => .int (i * j)) (tVar 1) (L2.tC (.int 157))) (tVar 2)) tNil)) (L2.tC (.int 999999437))) (gName 1)))
    (tRet (tDisp [(L2.tC (.str "cells"), tCB (fun xs H Q => ∃ p ys, xs = [.ref p] ∧ (SqL K H p ys ∨ SqT K H p ys) ∧ ∀ l, H l = none → Q (.ref l) (upd H l (.lst ys))) (tCons (tVar 0) tNil)),
      (L2.tC (.str "at"), L2.tC (.int 0)), (L2.tC (.str "digits"), L2.tC (.int 0)), (L2.tC (.str "count"), L2.tC (.int 0)), (L2.tC (.str "fold"), tVar 1)])))
theorem take_s {α : Type} {l : List α} {i : Nat} {x : α} (h : l[i]? = some x) : l.take (i + 1) = l.take i ++ [x] := by
  rw [List.take_succ, h]
  rfl
theorem pure_pen {K : PySem.W.Frag} {vs : List V} {H : Hp} {Q : VK} {E : XK} (h : spPen K vs H Q E) : t_pen K { nx := fun _ H' => Q .non H', rt := Q } (L2.start penN vs) H := by
  obtain ⟨a, ns, rfl, hS, k⟩ := h
  refine ⟨_, rfl, a, rfl, ⟨_, hS⟩, for_list (K := K) (a := a) (xs := ns.map V.int) (fun i σ H' => ∃ v : Option V, σ = [some (.ref a), some (.int ((ns.take i).foldl foldC 0)), v] ∧ H' = H) ⟨none, rfl, rfl⟩ (fun i σ H' _ ⟨_, _, e⟩ => by rw [e]; exact hS) ?_ ?_⟩
  · rintro i y σ H' hi ⟨v, rfl, rfl⟩
    rw [List.getElem?_map] at hi
    cases hz : ns[i]? with
    | none => rw [hz] at hi; cases hi
    | some z =>
      rw [hz] at hi
      cases hi
      refine ⟨_, rfl, _, _, rfl, rfl, .inr (by decide), _, rfl, _, _, rfl, rfl, .inl ⟨_, rfl, _, _, rfl, rfl, (show (999999437 : Int) ≠ 0 by decide), ?_⟩⟩
      refine ⟨some (.int z), ?_, rfl⟩
      rw [take_s hz, List.foldl_append]
      rfl
  · rintro σ H' ⟨v, rfl, rfl⟩
    rw [List.length_map, List.take_length]
    intro p hp
    have e1 : Same H' (upd H' p (.dK [])) := fun b o q => by rw [upd_ne (ne_of_none q hp)]; exact q
    refine ⟨_, rfl, a, ns.map V.int, rfl, .inl (e1.seq hS), fun c hc => ?_⟩
    have ncp : c ≠ p := fun z => by rw [z, upd_same] at hc; cases hc
    have hc0 : H' c = none := by rw [← hc, upd_ne ncp]
    refine ⟨_, rfl, ?_, ([(.inr "cells", .ref c), (.inr "at", .int 0), (.inr "digits", .int 0), (.inr "count", .int 0), (.inr "fold", .int (ns.foldl foldC 0))] : List (Key × V)), rfl, (by simp), ?_⟩
    · rw [upd_ne (Ne.symm ncp), upd_same]
    · refine k c p _ hc0 hp ncp (fun b o q => ?_) ?_ ?_
      · rw [upd_ne (ne_of_none q hp), upd_ne (ne_of_none q hc0), upd_ne (ne_of_none q hp)]
        exact q
      · rw [upd_ne ncp, upd_same]
      · rw [upd_same]
        rfl
/-- the text of the pen's maker -/
theorem ok_pen {P : Program} {w : World} {K : PySem.W.Frag} {mg : Str → Option Value} {base : Heap} {params : Arguments} {body : List Stmt} {scope : Scope} {f : Addr} {fd : FuncData} (F : FunD K "_law_pen" "_law_pen" params body scope [] [] f fd)
    (S : FnScope penN ["script"] scope) (nf : scope.names.lookup ("fold" : Str) = some NameKind.local) (nc : scope.names.lookup ("cell" : Str) = some NameKind.local) (ns : scope.names.lookup ("script" : Str) = some NameKind.local) (gi : scope.names.lookup ("int" : Str) = some NameKind.globalImplicit) (gl : scope.names.lookup ("list" : Str) = some NameKind.globalImplicit)
    (mi : mg "int" = none) (ml : mg "list" = none) (c : penIs body = true) : FnOk P w K mg base CX0 1 f fd ["script"] (spPen K) := by
  unfold penIs at c
  split at c
  · simp only [Bool.and_eq_true] at c
    obtain ⟨⟨⟨⟨⟨⟨⟨⟨⟨⟨⟨⟨⟨⟨⟨⟨c0, c1⟩, c2⟩, c3⟩, c4⟩, c5⟩, c6⟩, c7⟩, c8⟩, c9⟩, c10⟩, c11⟩, c12⟩, c13⟩, c14⟩, c15⟩, c16⟩ := c
    obtain ⟨_, rfl⟩ := nmIs_ok c0
    obtain ⟨_, _, rfl⟩ := intIs_ok c1
    obtain ⟨_, rfl⟩ := nmIs_ok c2
    obtain ⟨_, rfl⟩ := nmIs_ok c3
    obtain ⟨_, rfl⟩ := nmIs_ok c4
    obtain ⟨_, _, rfl⟩ := keyIs_ok c6
    obtain ⟨_, _, rfl⟩ := keyIs_ok c7
    obtain ⟨_, _, rfl⟩ := keyIs_ok c8
    obtain ⟨_, _, rfl⟩ := keyIs_ok c9
    obtain ⟨_, _, rfl⟩ := keyIs_ok c10
    obtain ⟨_, rfl⟩ := nmIs_ok c11
    obtain ⟨_, rfl⟩ := nmIs_ok c12
    obtain ⟨_, _, rfl⟩ := intIs_ok c13
    obtain ⟨_, _, rfl⟩ := intIs_ok c14
    obtain ⟨_, _, rfl⟩ := intIs_ok c15
    obtain ⟨_, rfl⟩ := nmIs_ok c16
    unfold foldIs at c5
    split at c5
    · simp only [Bool.and_eq_true] at c5
      obtain ⟨⟨⟨⟨d1, d2⟩, d3⟩, d4⟩, d5⟩ := c5
      obtain ⟨_, rfl⟩ := nmIs_ok d1
      obtain ⟨_, rfl⟩ := nmIs_ok d2
      obtain ⟨_, _, rfl⟩ := intIs_ok d3
      obtain ⟨_, rfl⟩ := nmIs_ok d4
      obtain ⟨_, _, rfl⟩ := intIs_ok d5
      refine F.ok S (fun vs H Q E h => ?_) (fun cdv A outer s H vs Q E hr h => ⟨t_pen K, PSs.nox ?_, pure_pen h⟩)
      · obtain ⟨a, ns, rfl, _⟩ := h
        rfl
      · have gI : Gl (cxOf CX0 P w K mg base penN "_law_pen" scope f cdv A outer s H E).nox "int" := gi
        have gL : Gl (cxOf CX0 P w K mg base penN "_law_pen" scope f cdv A outer s H E).nox "list" := gl
        have v0 : Vis scope "script" := .inl ns
        have v1 : Vis scope "fold" := .inl nf
        have v2 : Vis scope "cell" := .inl nc
        exact pss_cons (ps_set (i := 1) S.nd rfl (.inl nf) pe_int)
          (pss_cons (ps_for PassesOwn.never rfl (pi_list (pe_var (i := 0) rfl v0)) (pg_name (i := 2) S.nd rfl (.inl nc))
            (pss_one (ps_set (i := 1) S.nd rfl (.inl nf) (pe_op op_modN (pe_callTy call_int1 gI mi (by decide +kernel) (pa_cons (pe_op op_add (pe_op op_mul (pe_var (i := 1) rfl v1) pe_int) (pe_var (i := 2) rfl v2)) pa_nil)) pe_int))))
          (pss_one (ps_ret (pe_disp (pps_cons pe_str (pe_callTy call_list_of gL ml (by decide +kernel) (pa_cons (pe_var (i := 0) rfl v0) pa_nil)) (pps_cons pe_str pe_int (pps_cons pe_str pe_int (pps_cons pe_str pe_int (pps_cons pe_str (pe_var (i := 1) rfl v1) pps_nil))))) rfl rfl (by simp) (by simp)))))
    · cases c5
  · cases c
end Mi
end

section
set_option Elab.async false
set_option linter.all false
set_option maxRecDepth 100000
set_option maxHeartbeats 4000000
/-! Mi: own error classes whose __init__ keeps its arguments. -/
namespace Mi
open PySem PySem.Spec PyProof.Rows L2

/-! ### facts of a class -/
def oexB (K : PySem.W.Frag) (C : Addr) : Bool := (match K.lookup C with
  | some ⟨.type t, _, .cls cd, sl⟩ => (match cd.mro, sl.toList with
    | .ref C' :: bm, [_, _, _, _, some (.builtin n), _] => t == "type" && C' == C && n == "ValueError.__new__" && !cd.hasDel && cd.hasDict && PySem.HandSPX.refsVE bm
    | _, _ => false)
  | _ => false) && decide (PySem.W.findIn K (.ref C) "__setattr__" = some (some (.builtin "object.__setattr__"))) && decide (PySem.W.subIn K (.ref C) (.type "BaseException") = some true) && decide (PySem.W.typeIn K (.ref C) = some (.type "type")) && PySem.W.keepIn K (.ref C)
theorem oex_of {K : PySem.W.Frag} {C : Addr} (h : oexB K C = true) : OexC K C := by
  unfold oexB at h
  simp only [Bool.and_eq_true, decide_eq_true_eq] at h
  obtain ⟨⟨⟨⟨h1, h2⟩, h3⟩, h4⟩, h5⟩ := h
  refine ⟨?_, h2, h3, h4, h5⟩
  split at h1
  · rename_i t dd cd sl ho
    split at h1
    · rename_i C' bm k0 k1 k2 k3 n k5 hm hs
      simp only [Bool.and_eq_true, beq_iff_eq, Bool.not_eq_true'] at h1
      obtain ⟨⟨⟨⟨⟨rfl, rfl⟩, rfl⟩, e4⟩, e5⟩, e6⟩ := h1
      obtain ⟨nm, bs, mro, ns, qn, hd, sn, sub, ab, col, del⟩ := cd
      dsimp only at hm e4 e5
      subst hm
      subst e4
      subst e5
      have hsl : sl = #[k0, k1, k2, k3, some (.builtin "ValueError.__new__"), k5] := by
        obtain ⟨l⟩ := sl
        simp only at hs
        rw [hs]
      subst hsl
      exact ⟨nm, qn, ns, bs, bm, sn, sub, ab, col, dd, k0, k1, k2, k3, k5, ho, e6⟩
    · cases h1
  · cases h1
/-- the base class at B, whose __init__ is ValueError's -/
def bexB (K : PySem.W.Frag) (B : Addr) : Bool := decide (PySem.W.specialIn K (.ref B) "__getattribute__" = some (some (.builtin "type.__getattribute__"))) && PySem.W.readsIn K B (.type "type") &&
  (match PySem.W.findCls K (.ref B) (.type "type") "__init__" with
    | some (.val v) => decide (v = .builtin "ValueError.__init__")
    | _ => false)
structure Bex (K : PySem.W.Frag) (B : Addr) : Prop where
  sp : PySem.W.specialIn K (.ref B) "__getattribute__" = some (some (.builtin "type.__getattribute__"))
  rd : PySem.W.readsIn K B (.type "type") = true
  fc : PySem.W.findCls K (.ref B) (.type "type") "__init__" = some (.val (.builtin "ValueError.__init__"))
theorem bex_of {K : PySem.W.Frag} {B : Addr} (h : bexB K B = true) : Bex K B := by
  unfold bexB at h
  simp only [Bool.and_eq_true, decide_eq_true_eq] at h
  obtain ⟨⟨h1, h2⟩, h3⟩ := h
  refine ⟨h1, h2, ?_⟩
  split at h3
  · rename_i v e
    rw [of_decide_eq_true h3] at e
    exact e
  · cases h3

/-! ### B.__init__(self, ..) -/
section
variable {X : Cx} {o e : Expr} {es : List Expr} {ta : TA} {p1 p2 pos : Pos}
theorem pe_baseinit {pl : Sem Bool} {b : Str} {B : Addr} (hg : Gl X b) (hm : X.mg b = some (.ref B)) (T : Bex X.K B) (hd : (b == ("__debug__" : Str)) = false) (ha : PA X (e :: es) ta)
    (hc : eval (.Call (.Attribute (.Name b p1) "__init__" p2) (e :: es) [] pos) X.env = (do
      let ov ← eval (.Name b p1) X.env
      standAt p2.atName
      let (f, first) ← holding [ov] (getMethod ov "__init__" pl)
      callWith pos f first (backTo pos (starEach (e :: es) X.env)) (backToKw pos (keywordEach [] X.env))))
    (he : starEach (e :: es) X.env = (false, eval e X.env) :: starEach es X.env) (hpl : (backTo pos (starEach es X.env)).any (·.1) = false) :
    PE X (.Call (.Attribute (.Name b p1) "__init__" p2) (e :: es) [] pos) (tVeI X.K ta) := by
  constructor
  intro pins s σ H Q I h
  apply PySem.W.methodCall_KW _ hc
  apply ld_glob I hg hm _ hd
  apply PySem.W.method_cls I.kIn T.sp
  refine PySem.W.cls_value I.kIn T.rd T.fc (by decide +kernel) ?_
  refine PyProof.Rows.callWith_method1 (thn (ha.run pos pins _ σ H _ (I.tok _) h) fun us s1 done => ?_) he hpl
  obtain ⟨vs, H1, I1, rel, a, C, ws, rfl, few, T1, ea, q⟩ := done
  cases rel with
  | @cons _ u _ ur ra rs =>
    have ra : u = Value.ref a := ra
    subst ra
    exact oinit_ok T1 I1 ea (by rw [← rs.length, sizeLine_eq]; omega) fun s' J => ⟨.non, H1, J, rfl, q⟩
end

/-! ### __init__ -/
def spInit (C : Addr) (ns : List Str) : Sp := fun vs H Q _ => ∃ (a : Addr) (ws : List V), vs = .ref a :: ws ∧ ws.length = ns.length ∧ H a = some (exo a C none) ∧
  ∀ (d : Addr), H d = none → d ≠ a → Q .non (upd (upd H d (exd d (zipV ns ws))) a (exo a C (some d)))
def isStr : Expr → Bool
  | .Constant (.str _) _ _ => true
  | _ => false
def fldsIs : List Str → List Stmt → Bool
  | [], [] => true
  | x :: xs, .Assign [.Attribute o f _] v _ :: r => nmIs "self" o && decide (f = x) && nmIs x v && fldsIs xs r
  | _, _ => false
def initIs (b : Str) (ns : List Str) : List Stmt → Bool
  | .Expr (.Call (.Attribute o m ap) [s, t] [] cp) _ :: r => nmIs b o && decide (m = "__init__") && nmIs "self" s && isStr t && (ap.endLine == cp.line) && fldsIs ns r
  | _ => false
def tFlds (K : PySem.W.Frag) : Nat → List Str → TS
  | _, [] => tNext
  | i, x :: xs => tSeq (tOst K x (tVar 0) (tVar i)) (tFlds K (i + 1) xs)
theorem zipV_snoc : ∀ {ns : List Str} {ws : List V} {x : Str} {w : V}, ns.length = ws.length → zipV (ns ++ [x]) (ws ++ [w]) = (x, w) :: zipV ns ws
  | [], [], x, w, _ => rfl
  | [], _ :: _, _, _, h => by cases h
  | _ :: _, [], _, _, h => by cases h
  | n :: ns, v :: ws, x, w, h => by
    have ih := zipV_snoc (ns := ns) (ws := ws) (x := x) (w := w) (by simpa using h)
    show zipV (ns ++ [x]) (ws ++ [w]) ++ [(n, v)] = (x, w) :: (zipV ns ws ++ [(n, v)])
    rw [ih]
    rfl
theorem upd2_again {H : Hp} {d a : Addr} {x y z : HO} (h : d ≠ a) : upd (upd (upd H d x) a y) d z = upd (upd H d z) a y := by
  funext b
  by_cases e : b = d
  · rw [e, upd_same, upd_ne h, upd_same]
  · rw [upd_ne e]
    by_cases e2 : b = a
    · rw [e2, upd_same, upd_same]
    · rw [upd_ne e2, upd_ne e, upd_ne e2, upd_ne e]
theorem flds_more {K : PySem.W.Frag} {C a d : Addr} {D : Ends} {H : Hp} {σ : L2.St} (T : OexC K C) (s0 : σ[0]? = some (some (.ref a))) (hda : d ≠ a) : ∀ {xs : List Str} {us : List V} {ns : List Str} {ws : List V} {i : Nat}, ns.length = ws.length → xs.length = us.length → ws.length + us.length ≤ 900 →
    (∀ x ∈ xs, PySem.W.findIn K (.ref C) x = some none) → (∀ j u, us[j]? = some u → σ[i + j]? = some (some u)) → D.nx σ (upd (upd H d (exd d (zipV (ns ++ xs) (ws ++ us)))) a (exo a C (some d))) →
    tFlds K i xs D σ (upd (upd H d (exd d (zipV ns ws))) a (exo a C (some d)))
  | [], [], ns, ws, i, _, _, _, _, _, h => by
    rw [List.append_nil, List.append_nil] at h
    exact h
  | [], _ :: _, _, _, _, _, h, _, _, _, _ => by cases h
  | _ :: _, [], _, _, _, _, h, _, _, _, _ => by cases h
  | x :: xs, u :: us, ns, ws, i, h1, h2, h3, h4, h5, h => by
    have e0 := h5 0 u rfl
    refine ⟨u, e0, .ref a, s0, a, C, rfl, T, h4 x List.mem_cons_self, .inr ⟨d, _, upd_same, by rw [upd_ne hda, upd_same], ?_, ?_⟩⟩
    · have : ∀ {ns : List Str} {ws : List V}, (zipV ns ws).length ≤ ws.length := by
        intro ns
        induction ns with
        | nil => intro ws; exact Nat.zero_le _
        | cons n ns ih =>
          intro ws
          cases ws with
          | nil => exact Nat.le_refl _
          | cons w ws =>
            have := ih (ws := ws)
            simp only [zipV, List.length_append, List.length_cons, List.length_nil]
            omega
      have q := this (ns := ns) (ws := ws)
      omega
    · rw [upd2_again hda, ← zipV_snoc h1]
      refine flds_more T s0 hda (by simp [h1]) (by simpa using h2) (by simp at h3 ⊢; omega) (fun y hy => h4 y (List.mem_cons_of_mem _ hy)) (fun j w hj => ?_) (by rw [List.append_assoc, List.append_assoc]; exact h)
      rw [Nat.add_assoc, Nat.add_comm 1 j]
      exact h5 (j + 1) w (by simpa using hj)
theorem pure_init {K : PySem.W.Frag} {C : Addr} {x : Str} {xs ns : List Str} {vs : List V} {H : Hp} {Q : VK} {E : XK} (m : Str) (T : OexC K C) (hn : ns = x :: xs) (hl : ns.length ≤ 900) (hno : ∀ y ∈ ns, PySem.W.findIn K (.ref C) y = some none)
    (h : spInit C ns vs H Q E) :
    tSeq (tDrop (tVeI K (tCons (tVar 0) (tCons (L2.tC (.str m)) tNil)))) (tFlds K 1 ns) { nx := fun _ H' => Q .non H', rt := Q } (L2.start ("self" :: ns) vs) H := by
  obtain ⟨a, ws, rfl, hw, ha, k⟩ := h
  subst hn
  cases ws with
  | nil => cases hw
  | cons w ws =>
    have s0 : (L2.start ("self" :: x :: xs) (V.ref a :: w :: ws))[0]? = some (some (.ref a)) := rfl
    refine ⟨_, s0, a, C, _, rfl, by simp, T, ha, ?_⟩
    refine ⟨w, rfl, .ref a, s0, a, C, rfl, T, hno x List.mem_cons_self, .inl ⟨ha, fun d hd hda => ?_⟩⟩
    have q := k d hd hda
    refine flds_more (ns := [x]) (ws := [w]) (us := ws) T s0 hda rfl (by simpa using hw.symm) (by simp at hw hl ⊢; omega) (fun y hy => hno y (List.mem_cons_of_mem _ hy)) (fun j u hj => ?_) q
    show ((V.ref a :: w :: ws).map some ++ _)[2 + j]? = _
    have : j < ws.length := by
      rcases Nat.lt_or_ge j ws.length with q | q
      · exact q
      · rw [List.getElem?_eq_none q] at hj; cases hj
    rw [List.getElem?_append_left (by simp; omega), List.getElem?_map, Nat.add_comm 2 j]
    simp [hj]
theorem isStr_ok {e : Expr} (h : isStr e = true) : ∃ m k p, e = .Constant (.str m) k p := by
  unfold isStr at h
  split at h
  · exact ⟨_, _, _, rfl⟩
  · cases h
theorem flds_ps {X : Cx} (hN : X.N.Nodup) (vs : ∀ {y : Str}, y ∈ X.N → X.env.scope.names.lookup y = some .local) (self : X.N[0]? = some ("self" : Str)) (nm : ∀ y ∈ X.N, (y == ("__debug__" : Str)) = false ∧ (y == ("__classdict__" : Str)) = false) :
    ∀ {xs : List Str} {sts : List Stmt} {i : Nat}, fldsIs xs sts = true → (∀ j y, xs[j]? = some y → X.N[i + j]? = some y) → PSs X sts (tFlds X.K i xs) := by
  intro xs
  induction xs with
  | nil =>
    intro sts i h hi
    cases sts with
    | nil => exact pss_nil
    | cons _ _ => cases h
  | cons x xs ih =>
    intro sts i h hi
    unfold fldsIs at h
    split at h
    · rename_i z
      cases z
    · rename_i x' xs' o f _ v _ r e1
      obtain ⟨g1, g2⟩ := List.cons.inj e1
      subst g2
      subst g1
      simp only [Bool.and_eq_true, decide_eq_true_eq] at h
      obtain ⟨⟨⟨h1, h2⟩, h3⟩, h4⟩ := h
      obtain ⟨_, rfl⟩ := nmIs_ok h1
      obtain ⟨_, rfl⟩ := nmIs_ok h3
      subst h2
      have hx : X.N[i]? = some f := hi 0 f rfl
      have mx := List.mem_of_getElem? hx
      have ms := List.mem_of_getElem? self
      exact pss_cons (ps_ost (pe_var self (.inl (vs ms)) (nm _ ms).1 (nm _ ms).2) (pe_var hx (.inl (vs mx)) (nm _ mx).1 (nm _ mx).2) rfl) (ih h4 fun j y hj => by
        have := hi (j + 1) y (by simpa using hj)
        rw [Nat.add_assoc, Nat.add_comm 1 j]
        exact this)
    · cases h
def scB (scope : Scope) (N : List Str) (b : Str) : Bool := N.all (fun y => decide (scope.names.lookup y = some .local) && !(y == ("__debug__" : Str)) && !(y == ("__classdict__" : Str))) && decide (scope.names.lookup b = some .globalImplicit) && !(b == ("__debug__" : Str))
theorem init_eq {b m : Str} {p1 p2 q1 q2 pos : Pos} {k2} {env : Env} (h : (p2.endLine == pos.line) = true) : eval (.Call (.Attribute (.Name b p1) "__init__" p2) [.Name "self" q1, .Constant (.str m) k2 q2] [] pos) env = (do
      let ov ← eval (.Name b p1) env
      standAt p2.atName
      let (f, first) ← holding [ov] (getMethod ov "__init__" (do return (← importBound (.Name b p1) env).getD true))
      callWith pos f first (backTo pos (starEach [.Name "self" q1, .Constant (.str m) k2 q2] env)) (backToKw pos (keywordEach [] env))) := by
  have e : methodCallPos true (.Name b p1) env p2 pos = pure pos := if_pos (by rw [h]; rfl)
  show (do
      let ov ← eval (.Name b p1) env
      standAt p2.atName
      let (f, first) ← holding [ov] (calleeOf true (.Name b p1) env ov "__init__")
      let callPos ← methodCallPos true (.Name b p1) env p2 pos
      callWith callPos f first (backTo pos (starEach [.Name "self" q1, .Constant (.str m) k2 q2] env)) (backToKw pos (keywordEach [] env))) = _
  rw [e]
  rfl
theorem ok_init {P : Program} {w : World} {K : PySem.W.Frag} {mg : Str → Option Value} {base : Heap} {q b x : Str} {xs ns : List Str} {params : Arguments} {body : List Stmt} {scope : Scope} {f B C : Addr} {fd : FuncData} (F : FunD K "__init__" q params body scope [] [] f fd)
    (S : FnScope ("self" :: ns) ("self" :: ns) scope) (hn : ns = x :: xs) (hl : ns.length ≤ 900) (sc : scB scope ("self" :: ns) b = true) (hb : mg b = some (.ref B)) (TB : Bex K B) (T : OexC K C) (hno : ∀ y ∈ ns, PySem.W.findIn K (.ref C) y = some none) (c : initIs b ns body = true) :
    FnOk P w K mg base CX0 1 f fd ("self" :: ns) (spInit C ns) := by
  unfold initIs at c
  split at c
  · simp only [Bool.and_eq_true, decide_eq_true_eq] at c
    obtain ⟨⟨⟨⟨⟨c1, c2⟩, c3⟩, c4⟩, c6⟩, c5⟩ := c
    obtain ⟨_, rfl⟩ := nmIs_ok c1
    subst c2
    obtain ⟨_, rfl⟩ := nmIs_ok c3
    obtain ⟨m, _, _, rfl⟩ := isStr_ok c4
    unfold scB at sc
    simp only [Bool.and_eq_true, Bool.not_eq_true', decide_eq_true_eq, List.all_eq_true] at sc
    obtain ⟨⟨s1, s2⟩, s3⟩ := sc
    refine F.ok S (fun vs H Q E h => ?_) (fun cdv A outer s H vs Q E hr h => ⟨_, PSs.nox ?_, pure_init m T hn hl hno h⟩)
    · obtain ⟨a, ws, rfl, hw, _⟩ := h
      simp [hw]
    · have v0 : Vis scope "self" := .inl (s1 "self" List.mem_cons_self).1.1
      exact pss_cons (ps_expr (pe_baseinit (X := (cxOf CX0 P w K mg base ("self" :: ns) q scope f cdv A outer s H E).nox) s2 hb TB s3 (pa_cons (pe_var (i := 0) rfl v0) (pa_cons pe_str pa_nil)) (init_eq c6) rfl rfl) rfl)
        (flds_ps S.nd (fun {y} hy => (s1 y hy).1.1) rfl (fun y hy => ⟨(s1 y hy).1.2, (s1 y hy).2⟩) c5 (fun j y hj => by
          show (("self" : Str) :: ns)[1 + j]? = some y
          rw [Nat.add_comm]
          simpa using hj))
  · cases c
/-- arguments, whatever more is wished -/
def taM (ta : TA) : TA := fun σ H Q => ∃ Q0, ta σ H Q0 ∧ ∀ vs H1, Q0 vs H1 → Q vs H1
theorem pa_M {X : Cx} {es : List Expr} {ta : TA} (h : PA X es ta) : PA X es (taM ta) := ⟨fun pos pins s σ H Q I ⟨Q0, h0, k⟩ =>
  wpAny_mono (h.run pos pins s σ H Q0 I h0) (fun us s1 ⟨vs, H1, I1, r, q⟩ => ⟨vs, H1, I1, r, k vs H1 q⟩) fun _ _ z => z⟩
theorem upd_del {H1 : Hp} {a d : Addr} {x y z : HO} (ha : H1 a = none) (hda : d ≠ a) : upd (del (upd (upd (upd H1 a x) d y) a z) a) d = upd H1 d := by
  funext o b
  by_cases e : b = d
  · rw [e, upd_same, upd_same]
  · rw [upd_ne e, upd_ne e]
    by_cases e2 : b = a
    · rw [e2, del_same, ha]
    · rw [del_ne e2, upd_ne e2, upd_ne e, upd_ne e2]
theorem ck_err {F : Cf} {c : Nat} {x : Str} {ns : List Str} {X : Cx} {fI : Addr} {fd : FuncData} {k : Nat} (T : OexC X.K (F.cl c)) (iC : PySem.W.findIn X.K (.ref (F.cl c)) "__init__" = some (some (.ref fI))) (tI : PySem.W.typeIn X.K (.ref fI) = some (.type "function"))
    (F1 : FnOk X.prog X.w X.K X.mg X.base CX0 k fI fd ("self" :: ns) (spInit (F.cl c) ns)) (hr : Room (k + 1) X.A) (hb : Binds X.K fd ("self" :: ns) []) (hm : X.mg x = some (.ref (F.cl c))) (hl : ns.length ≤ 900) : ckEr X F c x ns := by
  intro e es ta p pos hg ok hs ha
  have pm := pmk_oex (CX := CX0) (p := p) (pos := pos) (dvs := []) (ds := []) T iC tI F1 hr hb .nil pass0 hg hm (pa_M ha) ok.d (star_at (by rw [List.all_cons, Bool.and_eq_true] at hs; exact hs.1)) (star_any (by rw [List.all_cons, Bool.and_eq_true] at hs; exact hs.2))
  intro pins s σ H Q I h
  refine pm pins s σ H Q I ⟨_, h, fun vs H1 ⟨l, q⟩ => ⟨by omega, fun a ha => ?_⟩⟩
  rw [List.append_nil]
  refine ⟨a, vs, rfl, l, upd_same, fun d hd hda => ⟨rfl, d, _, upd_same, by rw [upd_ne hda, upd_same], ?_, ?_⟩⟩
  · rw [← hd, upd_ne hda]
  · rw [upd_del ha hda]
    exact q d (by rw [← hd, upd_ne hda])
end Mi
end

section
set_option Elab.async false
set_option linter.all false
set_option maxRecDepth 100000
set_option maxHeartbeats 4000000
/-! Mi: try with several clauses, each with the same name. -/
namespace Mi
open PySem PySem.Spec PyProof.Rows L2

abbrev Suites := List (Value × (Addr → Value → Option Addr → TS))
def goneE (i : Nat) (D : Ends) : Ends := { nx := fun σ H => D.nx (σ.set i none) H, rt := D.rt, bk := fun σ H => D.bk (σ.set i none) H, ct := fun σ H => D.ct (σ.set i none) H }
def wAses (K : PySem.W.Frag) (i : Nat) (W : WX) (D : Ends) : Suites → WX
  | [] => W
  | (c, ts) :: r => fun cls d σ H => ∃ b, PySem.W.exmOne K cls c = some b ∧ (b = true → ∀ a, H a = none → ts a cls d (goneE i D) (σ.set i (some (.ref a))) H) ∧ (b = false → wAses K i W D r cls d σ H)
inductive HdAs (X : Cx) (n : Str) : List ExceptHandler → Suites → Prop
  | nil : HdAs X n [] []
  | cons {x : Str} {c : Value} {ts : Addr → Value → Option Addr → TS} {s0 : Stmt} {sts : List Stmt} {p q : Pos} {hs : List ExceptHandler} {l : Suites} (name : Names X x c)
      (suite : ∀ (a : Addr) (o : Obj) (cls : Value) (d : Option Addr) (pn : List (Addr × Obj)), Zc cls d o → (∃ vs, o.data = .fields vs) → PSs (X.suite a ((a, o) :: pn)) (s0 :: sts) (ts a cls d)) (more : HdAs X n hs l) :
      HdAs X n (.ExceptHandler (some (.Name x p)) (some n) (s0 :: sts) q :: hs) ((c, ts) :: l)
section
variable {X : Cx} {n : Str} {i : Nat} {body : List Stmt} {h0 : ExceptHandler} {hs : List ExceptHandler} {l : Suites} {pos : Pos} {tb : WX → TS} {W : WX}
/-- the clauses, one after the other -/
theorem clauses_go {pins : List (Addr × Obj)} {σ : L2.St} {H : Hp} {sI s' : Shared} {B : Heap} {a : Addr} {cls : Value} {d : Option Addr} {D : Ends} (stk : X.stack = X.env :: X.outer) (fr : X.env.frame = some X.env.locals) (hN : X.N.Nodup) (hi : X.N[i]? = some n) (loc : X.env.kindOf n = some .local) (tk : Takes X W)
    (J : Inv X pins σ H sI) (ground : ∀ b o, sI.heap.get? b = some o → b ∉ frs X.stack → B.get? b = some o) (up0 : sI.heap.UpToSlots s'.heap) (hos : s'.os = sI.os) (hg : AllBare s'.gens) (na : H a = none) (nL : a ≠ X.env.locals) (nF : a ∉ X.fs) (fly : HandSPX.FlyingZ B (X.env :: X.outer) a (Zc cls d) s'.heap)
    (hk : HdAs X n hs l) (w : wAses X.K i W D l cls d σ H) : wpAny (model X.prog X.w) X.A (handleBy (.ref a) X.env hs) (SP X pins D) X.xe s' := by
  have land : ∀ {h : Heap}, HandSPX.FlyingZ B (X.env :: X.outer) a (Zc cls d) h → s'.heap.UpToSlots h → Inv X pins σ H { s' with heap := h } := fun f u => J.landed ground f.1 (up0.trans u) hos hg
  have J0 : Inv X pins σ H s' := land fly (Heap.UpToSlots.refl _)
  obtain ⟨o, vs, ho, hz, hd⟩ := fly.there
  have S0 := J0.suite ho hd na nL nF
  have look : ∀ {x : Str} {c : Value} {p : Pos}, Names X x c → ∀ {Q E : Value → Shared → Prop}, Q c s' → wpAny (model X.prog X.w) (X.A.mark (some (.ref a))) (eval (.Name x p) X.env) Q E s' := by
    rintro x c p ⟨g, db, m | ⟨m, v, nn⟩⟩ Q E q
    · exact ld_glob (X := X.suite a ((a, o) :: (X.pn ++ pins))) S0 g m q db
    · exact ld_blt (X := X.suite a ((a, o) :: (X.pn ++ pins))) S0 g m v q nn db
  induction hk with
  | nil =>
    refine PySem.PX.no_clauseZ fr fly fun h4 held up => tk _ _ ?_
    exact ⟨a, B, sI, pins, σ, H, cls, d, rfl, J, ground, up0.trans up, .inr (.inr (by rw [stk]; exact held)), na, hos, hg, w⟩
  | @cons x c ts s0 sts p q hs l name suite more ih =>
    obtain ⟨b, hb, yes, no⟩ := w
    cases b with
    | false => exact PySem.PX.clause_passZ J0.kIn (fun o z => z.1) fly hb (look name) (ih (no rfl))
    | true =>
      refine PySem.PX.clause_asZ J0.kIn (fun o z => z.1) fly hb (look name) fun h4 f4 u4 => ?_
      have J4 := land f4 u4
      obtain ⟨o4, vs4, ho4, hz4, hd4⟩ := HandSPX.FlyingZ.there f4
      refine store_ok (X := X.suite a ((a, o4) :: (X.pn ++ pins))) (v := .ref a) (J4.suite ho4 hd4 na nL nF) hN hi (.inl loc) rfl (fun s5 S5 => ?_) (.inr loc)
      refine wpAny_mono ((suite a o4 cls d (X.pn ++ pins) hz4 ⟨_, hd4⟩).run [] s5 _ H (goneE i D) S5 (yes rfl a na)) (fun f s6 sp => ?_) fun _ _ z => z.elim
      have leave : ∀ {σ6 : L2.St} {H6 : Hp} {R : Shared → Prop}, Inv (X.suite a ((a, o4) :: (X.pn ++ pins))) [] σ6 H6 s6 → (∀ s7, Inv X pins (σ6.set i none) H6 s7 → R s7) → wpAny (model X.prog X.w) X.A (do bindName X.env n .none; unbindBehindTheSuite X.env n q) (fun _ s7 => R s7) X.xe s6 :=
        fun I6 r => gone_ok (I6.unsuite J.ok) hN hi loc r
      cases f with
      | next =>
        obtain ⟨σ6, H6, I6, q6⟩ := sp
        exact leave I6 fun s7 I7 => ⟨_, _, I7, q6⟩
      | brk =>
        obtain ⟨σ6, H6, I6, q6⟩ := sp
        exact leave I6 fun s7 I7 => ⟨_, _, I7, q6⟩
      | cont =>
        obtain ⟨σ6, H6, I6, q6⟩ := sp
        exact leave I6 fun s7 I7 => ⟨_, _, I7, q6⟩
      | ret u =>
        obtain ⟨v, σ6, H6, I6, rv, q6⟩ := sp
        exact leave I6 fun s7 I7 => ⟨_, _, _, I7, rv, q6⟩
theorem ps_try_ases (stk : X.stack = X.env :: X.outer) (fr : X.env.frame = some X.env.locals) (hN : X.N.Nodup) (hi : X.N[i]? = some n) (loc : X.env.kindOf n = some .local) (tk : Takes X W)
    (hb : ∀ (W : WX) (pn : List (Addr × Obj)) (xe : Value → Shared → Prop), Takes (X.tr pn xe) W → PassesOwn (model X.prog X.w) X.A X.env xe → PSs (X.tr pn xe) body (tb W)) (hk : HdAs X n (h0 :: hs) l) :
    PS X (.Try body (h0 :: hs) [] [] pos) (fun D σ H => tb (wAses X.K i W D l) D σ H) := by
  constructor
  intro pins s σ H D I h
  have fr2 : X.A.frames = some (X.env :: X.outer) := by
    rw [I.ok.frames, stk]
  apply wpAny_Try_except
  have inner := hb (wAses X.K i W D l) (X.pn ++ pins) (fun e s1 => wpAny (model X.prog X.w) X.A (noteFrame e X.env) (fun _ s2 => wpAny (model X.prog X.w) X.A (setFlight e none) (fun _ s3 => wpAny (model X.prog X.w) X.A (handleBy e X.env (h0 :: hs)) (SP X pins D) X.xe s3) X.xe s2) X.xe s1) ?_ PassesOwn.looking
  · apply wpAny_mono (inner.run [] s σ H D (I.toTry _) h)
    · intro f s1 sp
      cases f with
      | next =>
        obtain ⟨σ', H', J, q⟩ := sp
        exact wpAny_execs_nil ⟨σ', H', J.ofTry I.ok, q⟩
      | brk =>
        obtain ⟨σ', H', J, q⟩ := sp
        exact ⟨σ', H', J.ofTry I.ok, q⟩
      | cont =>
        obtain ⟨σ', H', J, q⟩ := sp
        exact ⟨σ', H', J.ofTry I.ok, q⟩
      | ret u =>
        obtain ⟨v, σ', H', J, rv, q⟩ := sp
        exact ⟨v, σ', H', J.ofTry I.ok, rv, q⟩
    · exact fun _ _ z => z
  · rintro u s' ⟨a, B, sI, pins', σ', H', cls, d, rfl, J', ground, up, sky, na, hos, hg, w⟩
    have sky2 : Sky B (X.env :: X.outer) a (Zc cls d) X.env.locals s'.heap := by
      rw [← stk]
      exact sky
    refine Sky.land Zc.steady fr2 fr sky2 fun h3 fly up3 => ?_
    obtain ⟨o3, vs3, ho3, hz3, hd3⟩ := fly.there
    have nf : a ∉ L2.frs (X.env :: X.outer) := fun m => by
      obtain ⟨_, o', e', nofld⟩ := fly.2.2.1.mem m
      rw [ho3] at e'
      cases e'
      exact nofld _ hd3
    refine clauses_go (s' := { s' with heap := h3 }) stk fr hN hi loc tk (J'.ofTry I.ok) ground (up.trans up3) hos hg na (fun z => nf ?_) (fun m => nf ?_) fly hk w
    · exact List.mem_filterMap.mpr ⟨X.env, List.mem_cons_self, by rw [fr, z]⟩
    · obtain ⟨e, he, q⟩ := List.mem_filterMap.mp m
      exact List.mem_filterMap.mpr ⟨e, List.mem_cons_of_mem _ he, q⟩
end
end Mi
end

section
set_option Elab.async false
set_option linter.all false
set_option maxRecDepth 100000
set_option maxHeartbeats 4000000
/-! Mi: a def that calls what it got and tells what was raised. -/
namespace Mi
open PySem PySem.Spec PyProof.Rows L2

/-- what the functions of a law that have no name do -/
structure CloOk (P : Program) (w : World) (F : Cf) (mg : Str → Option Value) (base : Heap) (k : Nat) (sem : Nat → List D → Pen → R D) : Prop where
  at_ : ∀ a j vs, F.clo a j vs → PySem.W.FnAt a base
  go : ∀ (a : Addr) (j : Nat) (vs : List V), F.clo a j vs → ∀ (A : Around) (outer : List Env) (s : Shared) (H : Hp) (Q : VK) (E : XK) (O : Addr → Prop) (ds : List D) (pen : Pen), A.guards = some [] → Room k A → Env0 P w F.K mg base A outer s H →
    O F.pp → (∀ b, O b → H b ≠ none) → PenAt F H pen → Dts F (hid O H) vs ds → Post F O H E (Dt F) Q (sem j ds pen) → codeAny (model P w) A (.call (.ref a) ⟨[], []⟩) (CR (L2.CX P w) outer P w H s Q E) s

/-- a clause: the error's class, the name's text, what is told -/
structure Cl where
  c : Nat
  x : Str
  tag : Str
  ns : List Str
def lookups : List Str → List (Str × D) → Option (List D)
  | [], _ => some []
  | x :: xs, fs => match fs.lookup x, lookups xs fs with
    | some d, some ds => some (d :: ds)
    | _, _ => none
def faultD (cl : List Cl) (c : Nat) (fs : List (Str × D)) : Option D := match cl with
  | [] => none
  | e :: r => if e.c = c then (lookups e.ns fs).map fun ds => .tup (.str e.tag :: ds) else faultD r c fs
def faultS (sem : Nat → List D → Pen → R D) (cl : List Cl) (ds : List D) (s : Pen) : R D := match ds with
  | [.clo j es] => (match sem j es s with
    | .ok _ s1 => .ok .non s1
    | .err c fs s1 => opt s1 (faultD cl c fs)
    | .bad => .bad)
  | _ => .bad

/-! ### the text -/
def attrsIs : List Str → List Expr → Bool
  | [], [] => true
  | x :: xs, .Attribute o f _ :: r => nmIs "fault" o && decide (f = x) && attrsIs xs r
  | _, _ => false
def clauseIs (e : Cl) : ExceptHandler → Bool
  | .ExceptHandler (some (.Name x _)) (some n) [.Return (some (.Tuple (t :: es) _ _)) _] _ => decide (x = e.x) && decide (n = "fault") && (match t with
    | .Constant (.str z) _ _ => decide (z = e.tag)
    | _ => false) && attrsIs e.ns es
  | _ => false
def clausesIs : List Cl → List ExceptHandler → Bool
  | [], [] => true
  | e :: r, h :: hs => clauseIs e h && clausesIs r hs
  | _, _ => false
def faultIs (cl : List Cl) : List Stmt → Bool
  | [.Try [.Expr (.Call f [] [] _) _] hs [] [] _, .Return (some (.Constant .none _ _)) _] => nmIs "work" f && clausesIs cl hs && !hs.isEmpty
  | _ => false
def faultN : List Str := ["work", "fault"]

/-! ### readings -/
def tClo (F : Cf) (sem : Nat → List D → Pen → R D) (W : WX) : TE := fun σ H Q => ∃ (a : Addr) (j : Nat) (vs : List V) (O : Addr → Prop) (ds : List D) (pen : Pen), σ[0]? = some (some (.ref a)) ∧ F.clo a j vs ∧ O F.pp ∧ (∀ b, O b → H b ≠ none) ∧ PenAt F H pen ∧ Dts F (hid O H) vs ds ∧
  Post F O H (fun c d H' => W c d σ H') (Dt F) Q (sem j ds pen)
section
variable {P : Program} {w : World} {F : Cf} {mg : Str → Option Value} {base : Heap} {k : Nat} {sem : Nat → List D → Pen → R D} {X : Cx}
theorem pe_clo {W : WX} {p pos : Pos} (C : CloOk X.prog X.w F X.mg X.base k sem) (hK : X.K = F.K) (gd : X.A.guards = some []) (room : Room k X.A) (hN : X.N[0]? = some ("work" : Str)) (hv : Vis X.env.scope "work") (tk : Takes X W) :
    PE X (.Call (.Name "work" p) [] [] pos) (tClo F sem W) := ⟨fun pins s σ H Q I ⟨a, j, vs, O, ds, pen, e1, e2, e3, e4, e5, e6, h⟩ => by
  refine wpAny_Call_Name_kw (thn ((pe_var (pos := p) (i := 0) hN hv).run pins s σ H (fun v H1 => v = .ref a ∧ H1 = H) I ⟨.ref a, e1, rfl, rfl⟩) fun u s1 ⟨v, H1, I1, r1, q1, q2⟩ => ?_)
  subst q1
  rw [q2] at I1
  have r1 : u = Value.ref a := r1
  subst r1
  obtain ⟨oc, od, fd, sl, ho⟩ := C.at_ a j vs e2
  refine PySem.W.callWith_F0 ⟨oc, od, fd, sl, I1.bk _ _ ho⟩ ?_
  have en : Env0 X.prog X.w F.K X.mg X.base X.A X.stack s1 H := hK ▸ I1.env0
  refine wpAny_call (codeAny_mono (C.go a j vs e2 X.A X.stack s1 H Q (fun c d H' => W c d σ H') O ds pen gd room en e3 e4 e5 e6 h) fun r s' q => ?_)
  cases r with
  | error er => exact tk er s' (XE.of_call I1 (fun _ _ _ z => z) q)
  | ok fl =>
    cases fl with
    | ret u => exact I1.after q
    | next => exact q.elim
    | brk => exact q.elim
    | cont => exact q.elim⟩
end
def tTell (C : Addr) (e : Cl) : Addr → Value → Option Addr → TS := fun a cls d => tRet (tTup (tCons (L2.tC (.str e.tag)) (tXfs a cls d C e.ns)))
where tXfs (a : Addr) (cls : Value) (d : Option Addr) (C : Addr) : List Str → TA
  | [] => tNil
  | x :: xs => tCons (tXf a cls d C x (tVar 1)) (tXfs a cls d C xs)
/-- what the classes must have -/
structure ClOk (X : Cx) (F : Cf) (cl : List Cl) : Prop where
  nm : ∀ e ∈ cl, Names X e.x (.ref (F.cl e.c))
  xf : ∀ e ∈ cl, XfC X.K (F.cl e.c)
  no : ∀ e ∈ cl, ∀ x ∈ e.ns, PySem.W.findIn X.K (.ref (F.cl e.c)) x = some none
  ex : ∀ e ∈ cl, ∀ f ∈ cl, PySem.W.exmOne X.K (.ref (F.cl f.c)) (.ref (F.cl e.c)) = some (decide (e.c = f.c))
  few : ∀ e ∈ cl, e.ns.length ≤ 100
def suitesOf (F : Cf) (cl : List Cl) : Suites := cl.map fun e => (.ref (F.cl e.c), tTell (F.cl e.c) e)
theorem Dfs.look {F : Cf} {H : Hp} : ∀ {vs : List (Str × V)} {fs : List (Str × D)} {x : Str} {d : D}, Dfs F H vs fs → fs.lookup x = some d → ∃ v, vs.lookup x = some v ∧ Dt F H v d
  | _, _, x, d, .nil, h => by cases h
  | _, _, x, d, .cons (f := f) (v := v) t1 t2, h => by
    rw [lookup_put]
    by_cases e : x = f
    · rw [if_pos e]
      rw [List.lookup, e, beq_self_eq_true] at h
      cases h
      exact ⟨v, rfl, t1⟩
    · rw [if_neg e]
      have e2 : (x == f) = false := beq_eq_false_iff_ne.mpr e
      rw [List.lookup, e2] at h
      exact Dfs.look t2 h
section
variable {F : Cf} {X : Cx}
theorem xfs_ok {V : Hp} {H : Hp} {σ : L2.St} {a C dd : Addr} {vs : List (Str × L2.V)} {fs : List (Str × D)} (s1 : σ[1]? = some (some (.ref a))) (hd : H dd = some (.xd vs)) (t : Dfs F V vs fs) : ∀ {ns : List Str} {ds : List D} {R : List L2.V → Hp → Prop}, lookups ns fs = some ds →
    (∀ us, Dts F V us ds → R us H) → tTell.tXfs a (.ref C) (some dd) C ns σ H R := by
  intro ns
  induction ns with
  | nil =>
    intro ds R h q
    cases h
    exact q [] .nil
  | cons x xs ih =>
    intro ds R h q
    unfold lookups at h
    split at h
    · rename_i d ds' e1 e2
      cases h
      obtain ⟨v, l, tv⟩ := t.look e1
      exact ⟨.ref a, s1, rfl, rfl, dd, vs, v, rfl, hd, l, ih e2 fun us tu => q _ (.cons tv tu)⟩
    · cases h
theorem attrs_pa {a : Addr} {o : Obj} {cls : Value} {d : Option Addr} {pn : List (Addr × Obj)} {C : Addr} (T : XfC X.K C) (hz : Zc cls d o) (hf : ∃ vs, o.data = .fields vs) (hN : X.N[1]? = some ("fault" : Str)) (hv : Vis X.env.scope "fault") :
    ∀ {ns : List Str} {es : List Expr}, attrsIs ns es = true → (∀ x ∈ ns, PySem.W.findIn X.K (.ref C) x = some none) → PA (X.suite a ((a, o) :: pn)) es (tTell.tXfs a cls d C ns) := by
  intro ns
  induction ns with
  | nil =>
    intro es h hno
    cases es with
    | nil => exact pa_nil
    | cons _ _ => cases h
  | cons x xs ih =>
    intro es h hno
    unfold attrsIs at h
    split at h
    · rename_i z
      cases z
    · rename_i x' xs' o' f _ r e1
      obtain ⟨g1, g2⟩ := List.cons.inj e1
      subst g2
      subst g1
      simp only [Bool.and_eq_true, decide_eq_true_eq] at h
      obtain ⟨⟨h1, h2⟩, h3⟩ := h
      obtain ⟨_, rfl⟩ := nmIs_ok h1
      subst h2
      exact pa_cons (pe_xf T (hno _ List.mem_cons_self) hz hf (pe_var (X := X.suite a ((a, o) :: pn)) (i := 1) hN hv)) (ih h3 fun y hy => hno y (List.mem_cons_of_mem _ hy)) (star_at rfl)
    · cases h
theorem hds_ok {cl0 : List Cl} (K : ClOk X F cl0) (hN : X.N[1]? = some ("fault" : Str)) (hv : Vis X.env.scope "fault") : ∀ {cl : List Cl} {hs : List ExceptHandler}, (∀ e ∈ cl, e ∈ cl0) → clausesIs cl hs = true → HdAs X "fault" hs (suitesOf F cl) := by
  intro cl
  induction cl with
  | nil =>
    intro hs _ h
    cases hs with
    | nil => exact .nil
    | cons _ _ => cases h
  | cons e r ih =>
    intro hs m h
    cases hs with
    | nil => cases h
    | cons hd hs =>
      have h : (clauseIs e hd && clausesIs r hs) = true := h
      rw [Bool.and_eq_true] at h
      obtain ⟨h1, h2⟩ := h
      have me := m e List.mem_cons_self
      unfold clauseIs at h1
      split at h1
      · rename_i x p n t es _ _ _ q
        simp only [Bool.and_eq_true, decide_eq_true_eq] at h1
        obtain ⟨⟨⟨c1, c2⟩, c3⟩, c4⟩ := h1
        subst c1
        subst c2
        split at c3
        · rw [decide_eq_true_eq] at c3
          subst c3
          refine .cons (K.nm e me) (fun a o cls d pn hz hf => ?_) (ih (fun f hf => m f (List.mem_cons_of_mem _ hf)) h2)
          exact pss_one (ps_ret (pe_tup (pa_cons pe_str (attrs_pa (K.xf e me) hz hf hN hv c4 (K.no e me)) (star_at rfl))))
        · cases c3
      · cases h1
end
section
variable {P : Program} {w : World} {F : Cf} {mg : Str → Option Value} {base : Heap} {k : Nat} {sem : Nat → List D → Pen → R D}
theorem lookups_len : ∀ {ns : List Str} {fs : List (Str × D)} {ds : List D}, lookups ns fs = some ds → ds.length = ns.length := by
  intro ns
  induction ns with
  | nil => intro fs ds h; cases h; rfl
  | cons x xs ih =>
    intro fs ds h
    unfold lookups at h
    split at h
    · rename_i e2
      cases h
      rw [List.length_cons, List.length_cons, ih e2]
    · cases h
theorem faultD_mem : ∀ {cl : List Cl} {c : Nat} {fs : List (Str × D)} {d : D}, faultD cl c fs = some d → ∃ e ∈ cl, e.c = c := by
  intro cl
  induction cl with
  | nil => intro c fs d h; cases h
  | cons e r ih =>
    intro c fs d h
    unfold faultD at h
    by_cases q : e.c = c
    · exact ⟨e, List.mem_cons_self, q⟩
    · rw [if_neg q] at h
      obtain ⟨g, hg, z⟩ := ih h
      exact ⟨g, List.mem_cons_of_mem _ hg, z⟩
/-- what the clauses give -/
theorem told_ok {X : Cx} {cl0 : List Cl} (K : ClOk X F cl0) {O : Addr → Prop} {H H' : Hp} {Q : VK} {a : Addr} {vs : List (Str × V)} {fs : List (Str × D)} {c : Nat} {s1 : Pen} {σ : L2.St} {D0 : Ends} (hl : 1 < σ.length) (hm : ∃ e ∈ cl0, e.c = c)
    (hQ : D0.rt = Q) (hk : Kp F.pp H H') (pa : PenAt F H' s1) (ha : H' a = some (.xd vs)) (t : Dfs F (hid O H') vs fs) (opp : O F.pp) (trk : ∀ b, O b → H' b ≠ none) {W : WX} {dd : D} :
    ∀ {cl : List Cl}, (∀ e ∈ cl, e ∈ cl0) → faultD cl c fs = some dd → (∀ b H'', Kp F.pp H H'' → PenAt F H'' s1 → Dt F (hid O H'') b dd → Q b H'') → wAses X.K 1 W D0 (suitesOf F cl) (.ref (F.cl c)) (some a) σ H' := by
  intro cl
  induction cl with
  | nil => intro _ h _; cases h
  | cons e r ih =>
    intro m h q
    obtain ⟨e0, m0, ec⟩ := hm
    have x := K.ex e (m e List.mem_cons_self) e0 m0
    rw [ec] at x
    refine ⟨_, x, fun y a0 na => ?_, fun y => ih (fun f hf => m f (List.mem_cons_of_mem _ hf)) ?_ q⟩
    · have y := of_decide_eq_true y
      unfold faultD at h
      rw [if_pos y] at h
      cases hlk : lookups e.ns fs with
      | none => rw [hlk] at h; cases h
      | some ds =>
        rw [hlk] at h
        cases h
        rw [← y]
        have s1' : (σ.set 1 (some (.ref a0)))[1]? = some (some (.ref a0)) := by
          rw [List.getElem?_set, if_pos rfl, if_pos hl]
        show tTup _ _ _ _
        refine xfs_ok (C := F.cl e.c) s1' ha t hlk fun us tu => ⟨?_, fun p hp => ?_⟩
        · have l1 := tu.length
          have l2 := lookups_len hlk
          have l3 := K.few e (m e List.mem_cons_self)
          rw [List.length_cons, sizeLine_eq]
          omega
        · show D0.rt _ _
          rw [hQ]
          have nO : ¬ O p := fun z => trk p z hp
          exact q _ _ (hk.trans (Kp.new hp)) (pa.new hp) (.tup (SqT.of (hid_new nO)) ((Dts.cons (.str _) tu).mono (ex_new hp)))
    · have y := of_decide_eq_false y
      unfold faultD at h
      rw [if_neg y] at h
      exact h
theorem ok_fault {cl : List Cl} {x qual : Str} {params : Arguments} {body : List Stmt} {scope : Scope} {f : Addr} {fd : FuncData} (FD : FunD F.K x qual params body scope [] [] f fd) (S : FnScope faultN ["work"] scope)
    (lw : scope.names.lookup ("work" : Str) = some .local) (lf : scope.names.lookup ("fault" : Str) = some .local) (C : CloOk P w F mg base k sem) (hc : faultIs cl body = true)
    (gb : ∀ e ∈ cl, scope.names.lookup e.x = some .globalImplicit ∧ (e.x == ("__debug__" : Str)) = false) (hm : ∀ e ∈ cl, mg e.x = some (.ref (F.cl e.c))) (xf : ∀ e ∈ cl, XfC F.K (F.cl e.c)) (no : ∀ e ∈ cl, ∀ y ∈ e.ns, PySem.W.findIn F.K (.ref (F.cl e.c)) y = some none)
    (ex : ∀ e ∈ cl, ∀ g ∈ cl, PySem.W.exmOne F.K (.ref (F.cl g.c)) (.ref (F.cl e.c)) = some (decide (e.c = g.c))) (few : ∀ e ∈ cl, e.ns.length ≤ 100) :
    FnG P w F.K mg base (L2.CX P w) (k + 1) f fd ["work"] (spF F 1 (faultS sem cl)) := by
  obtain ⟨oc, od, dV, kV, doc, pm, an, cdv, ct, osl, rfl, lk, code, hD, _⟩ := FD.ex
  unfold faultIs at hc
  split at hc
  · rename_i fn p1 p2 hs p3 k4 p4 p5
    simp only [Bool.and_eq_true, Bool.not_eq_true'] at hc
    obtain ⟨⟨c1, c2⟩, c3⟩ := hc
    obtain ⟨_, rfl⟩ := nmIs_ok c1
    cases hs with
    | nil => cases c3
    | cons h0 hs =>
      refine fnG_of lk code S (fun vs H Q E ⟨O, ds, s, _, _, _, t, l, _⟩ => t.length.trans l) fun A outer s H vs Q E gd room ⟨O, ds, pen, opp, trk, pa, t, l, post⟩ => ?_
      have tk : Takes (cxOf (L2.CX P w) P w F.K mg base faultN qual scope f cdv A outer s H E) (fun c d _ H => E c d H) := takes_of rfl rfl rfl rfl
      have vw : Vis scope "work" := .inl lw
      have vf : Vis scope "fault" := .inl lf
      have K : ClOk (cxOf (L2.CX P w) P w F.K mg base faultN qual scope f cdv A outer s H E) F cl := ⟨fun e he => ⟨(gb e he).1, (gb e he).2, .inl (hm e he)⟩, xf, no, ex, few⟩
      refine ⟨_, pss_cons (ps_try_ases (i := 1) (tb := fun W => tDrop (tClo F sem W)) rfl rfl S.nd rfl lf tk (fun W pn xe tk' _ => pss_one (ps_expr (pe_clo (X := (cxOf (L2.CX P w) P w F.K mg base faultN qual scope f cdv A outer s H E).tr pn xe) C rfl gd room rfl vw tk') rfl)) (hds_ok K rfl vf (fun _ h => h) c2)) (pss_one (ps_ret pe_non)), ?_⟩
      match ds, l, t, post with
      | [d], _, .cons t1 .nil, post =>
        cases t1 <;> (first | (exact post.elim) | skip)
        rename_i a j vs' ds' hclo tcl _ _
        refine ⟨a, j, vs', O, ds', pen, rfl, hclo, opp, trk, pa, tcl, ?_⟩
        unfold faultS at post
        dsimp only at post
        cases es : sem j ds' pen with
        | ok y s1 =>
          rw [es] at post
          exact fun b H' k' p' _ => post .non H' k' p' .non
        | bad => rw [es] at post; exact post.elim
        | err c fs s1 =>
          rw [es] at post
          obtain ⟨dd, e1, q⟩ := Post.opt post
          refine fun a1 vs1 H' k' p' ha tf => told_ok (Q := Q) K (by show 1 < 2; decide) ?_ rfl k' p' ha tf opp ?_ (fun _ h => h) e1 q
          · exact faultD_mem e1
          · exact fun b hb => by
              by_cases z : b = F.pp
              · rw [z, p'.d]; simp
              · cases e : H b with
                | none => exact absurd e (trk b hb)
                | some o => rw [k' b o z e]; simp
  · cases hc
end
end Mi
end

section
set_option Elab.async false
set_option linter.all false
set_option maxRecDepth 100000
set_option maxHeartbeats 4000000
/-! Mi: functions without a name, tracked. -/
namespace Mi
open PySem PySem.Spec PyProof.Rows L2 LamX

/-- a function's object -/
def LamO (f : Addr) (o : Obj) : HO := .ext fun h => h.get? f = some o
theorem lamO_ok {P : Program} {w : World} {H : Hp} {h : Heap} {f : Addr} {o : Obj} (e : h.get? f = some o) : ObjOk P w H h f (LamO f o) := ⟨e, ⟨_, e⟩, fun h1 h2 z k => k _ z⟩
theorem lamO_tbl {f : Addr} {o : Obj} {ps : Array Value} : LamO f o ≠ .tbl ps := fun z => by
  unfold LamO at z
  cases z
theorem lamO_own {f x : Addr} {o : Obj} : LamO f o ≠ .own x := fun z => by
  unfold LamO at z
  cases z
theorem lamO_tup {f : Addr} {o : Obj} {xs : List V} : LamO f o ≠ .tup xs := fun z => by
  unfold LamO at z
  cases z
theorem lamO_frz {f : Addr} {o o' : Obj} {u : HO} : LamO f o ≠ .frz o' u := fun z => by
  unfold LamO at z
  cases z
theorem lamO_at {P : Program} {w : World} {H : Hp} {h : Heap} {f : Addr} {o : Obj} (k : HOk P w H h) (e : H f = some (LamO f o)) : h.get? f = some o := by
  have x : ObjOk P w H h f (.ext fun h => h.get? f = some o) := k f _ e
  exact x.1
/-- the object that a lambda makes, in the def of X -/
def lamObj (X : Cx) (params : Arguments) (body : Expr) (scope : Scope) (pm ctv : Value) (c' : Addr) : Obj := PySem.W.kla_obj "<lambda>" (X.env.qual ++ "<lambda>") params body scope (cloFrom X.env.cells scope.names []) pm c' ctv
def tMkLam (X : Cx) (P : Addr) (params : Arguments) (body : Expr) (scope : Scope) : TE := fun σ H Q => TabS H P (X.env.qual ++ "<lambda>") ∧
  ∀ (f c' : Addr) (pm ctv : Value) (H1 : Hp), Kp P H H1 → TabS H1 P (X.env.qual ++ "<lambda>") → H1 f = none → H1 c' = some (CodeO c' (X.env.qual ++ "<lambda>")) → Q (.ref f) (upd H1 f (LamO f (lamObj X params body scope pm ctv c')))
theorem tab_ext {H H1 : Hp} {P : Addr} {q : Str} (t : TabS H P q) {f : Addr} {o : HO} (hf : H f = none) : TabS (upd H f o) P q := t.ext fun b u e => by
  rw [upd_ne (ne_of_none e hf)]
  exact e
section
variable {X : Cx}
theorem pe_mklam {c P : Addr} {params : Arguments} {body : Expr} {scope : Scope} {pos : Pos} (TB : TabB X.base X.mg c P) (code : X.env.code = .ref c) (L : LamS X.env.scope scope) (dfl : defaultsOf params X.env = ([], [])) :
    PE X (.Lambda params body scope pos) (tMkLam X P params body scope) := by
  constructor
  intro pins s σ H Q I ⟨⟨ps, tabP, three, among⟩, wish⟩
  apply PySem.W.kla_eval dfl
  have tabH : s.heap.get? P = some { cls := .none, data := .fields ps } := I.hok P _ tabP
  have fin : ∀ {h' : Heap} {tk : Nat} {H1 : Hp} {pm ctv : Value} {c' : Addr}, Inv X pins σ H1 { s with heap := h', toks := tk } → Kp P H H1 → TabS H1 P (X.env.qual ++ "<lambda>") → H1 c' = some (CodeO c' (X.env.qual ++ "<lambda>")) →
      EP X pins σ Q (.ref h'.objs.size) { s with heap := h'.push (lamObj X params body scope pm ctv c'), toks := tk } := by
    intro h' tk H1 pm ctv c' J x t1 hc
    have none1 : H1 h'.objs.size = none := J.hok.fresh (Nat.le_refl _)
    have at_ := Heap.get?_push_size (o := lamObj X params body scope pm ctv c') h' rfl
    refine ⟨.ref h'.objs.size, _, J.laid (t' := tk) (fun _ _ e => Heap.get?_push_of_some _ e) (Nat.le_refl _) (lamO_ok at_), rfl, ?_⟩
    exact wish h'.objs.size c' pm ctv H1 x t1 none1 hc
  cases am : codeAmong pos ps.toList with
  | some cv =>
    obtain ⟨c', e, co⟩ := among pos cv am
    rw [e] at am
    refine PySem.W.kla_makeFunctionHit (mg := X.mg) (c := c) (P := P) (ps := ps) (closure_ok (L.has I.ok)) I.ok.glob (I.mod.glob.keeps I.bk) code (TB.code.keeps I.bk) tabH three am (TB.bm.keeps I.bk) ?_
    intro ctv h' tk grow _
    exact fin (I.kept (t' := tk) grow) .refl ⟨ps, tabP, three, among⟩ co
  | none =>
    refine PySem.W.kla_makeFunction (mg := X.mg) (c := c) (P := P) (ps := ps) (closure_ok (L.has I.ok)) I.ok.glob (I.mod.glob.keeps I.bk) code (TB.code.keeps I.bk) tabH three am TB.gP (TB.bm.keeps I.bk) ?_
    intro c' ctv h' tk but big less ⟨c2, oc, vs, t, e2, hoc, hd, hv⟩ tab'
    cases e2
    have fresh : H c' = none := I.hok.fresh big
    have ne : P ≠ c' := ne_of_none tabP fresh
    have J := inv_table (t' := tk) (more := #[rawInt pos.line, rawInt pos.col, .ref c']) I tabP (fun b o hb e => but b o hb e) tab' big ⟨oc, vs, t, hoc, hd, hv⟩
    have old : ∀ {b : Addr} {o : HO}, H b = some o → b ≠ P → upd (upd H P (.tbl (ps ++ #[rawInt pos.line, rawInt pos.col, .ref c']))) c' (CodeO c' (X.env.qual ++ "<lambda>")) b = some o := by
      intro b o e no
      rw [upd_ne (ne_of_none e fresh), upd_ne no]
      exact e
    refine fin J (fun b o no e => old e no) ⟨ps ++ #[rawInt pos.line, rawInt pos.col, .ref c'], ?_, ?_, ?_⟩ upd_same
    · rw [upd_ne ne, upd_same]
    · rw [Array.toList_append]
      exact PySem.TriplesOk_snoc _ _ _ _ three
    · intro p' cv hcv
      rw [Array.toList_append] at hcv
      rcases among_app _ three hcv with z | z
      · obtain ⟨c0, e1, e2⟩ := among p' cv z
        exact ⟨c0, e1, old e2 fun z => by rw [z, tabP] at e2; exact codeO_ne ps (Option.some.inj e2).symm⟩
      · exact ⟨c', z, upd_same⟩
end
end Mi
end

section
set_option Elab.async false
set_option linter.all false
set_option maxRecDepth 100000
set_option maxHeartbeats 4000000
/-! Mi: functions without a name, called. -/
namespace Mi
open PySem PySem.Spec PyProof.Rows L2 LamX

/-- a lambda that stands in base: its captured names N hold us -/
structure LamAt (base : Heap) (f : Addr) (N : List Str) (params : Arguments) (body : Expr) (scope : Scope) (us : List Value) (q : Str) (pm ctv : Value) (c' : Addr) (cl : List (Str × Addr)) : Prop where
  obj : base.get? f = some (PySem.W.kla_obj "<lambda>" q params body scope cl pm c' ctv)
  code : base.CodeRec (.ref c') q
  cell : ∀ (i : Nat) (y : Str), N[i]? = some y → ∃ c u, cl.lookup y = some c ∧ us[i]? = some u ∧ base.IsCell c (some u)
  inj : ∀ x y c, cl.lookup x = some c → cl.lookup y = some c → x = y
  all : ∀ y, scope.names.lookup y = some .free → y ∈ N
  only : ∀ y c, cl.lookup y = some c → y ∈ N
structure LamSc (scope : Scope) : Prop where
  kind : scope.kind = .function
  co : scope.isCoroutine = false
  gen : scope.isGenerator = false
  own : ∀ y ∈ scope.names, y.2 ≠ .local ∧ y.2 ≠ .cell
def lamX (P : Program) (w : World) (K : PySem.W.Frag) (mg : Str → Option Value) (base : Heap) (N : List Str) (q : Str) (scope : Scope) (f c' : Addr) (cl : List (Str × Addr)) (A : Around) (outer : List Env) (s : Shared) (H : Hp) (E : XK) : Cx where
  prog := P
  w := w
  K := K
  mg := mg
  base := base
  A := A.deeper (PySem.W.envX q scope s.heap.objs.size f (.ref c') cl)
  N := N
  s_0 := s
  H_0 := H
  env := PySem.W.envX q scope s.heap.objs.size f (.ref c') cl
  outer := outer
  stack := PySem.W.envX q scope s.heap.objs.size f (.ref c') cl :: outer
  ex := []
  fn := fun _ => false
  calm := true
  pn := []
  xe := fun e s' => wpAny (model P w) (A.deeper (PySem.W.envX q scope s.heap.objs.size f (.ref c') cl)) (leaving (PySem.W.envX q scope s.heap.objs.size f (.ref c') cl) e) (fun _ s'' => L2.CX P w outer H s E e s'') (fun e' s'' => L2.CX P w outer H s E e' s'') s'
section
variable {P : Program} {w : World} {F : Cf} {mg : Str → Option Value} {base : Heap} {k : Nat} {bl : List Str} {fn gl : Nat → Option Str} {gcd : Bool} {er : Nat → Option (Str × List Str)} {Γ : Tb}
theorem lam_go {f c' : Addr} {N : List Str} {params : Arguments} {body : Expr} {scope : Scope} {us : List Value} {vs : List V} {q : Str} {pm ctv : Value} {cl : List (Str × Addr)} {e : Ex} {A : Around} {outer : List Env} {s : Shared} {H : Hp} {Q : VK} {E : XK} {O : Addr → Prop} {ds : List D} {pen : Pen}
    (T : TbOk P w F mg base k bl fn gl gcd er Γ) (L : LamAt base f N params body scope us q pm ctv c' cl) (S : LamSc scope) (nd : N.Nodup) (bind : bindArgs (PySem.W.kla_fn "<lambda>" q params body scope cl pm (.ref c') ctv) ⟨[], []⟩ = pure []) (ck : chkE ⟨N, scope, bl, fn, gl, gcd⟩ e body = true)
    (gd : A.guards = some []) (room : Room (k + 1) A) (e0 : Env0 P w F.K mg base A outer s H) (r : Vals vs us) (ln : vs.length = N.length) (opp : O F.pp) (trk : ∀ b, O b → H b ≠ none) (pa : PenAt F H pen) (t : Dts F (hid O H) vs ds)
    (post : Post F O H E (Dt F) Q (evalE Γ e (ds.map Sl.val) pen)) : codeAny (model P w) A (.call (.ref f) ⟨[], []⟩) (CR (L2.CX P w) outer P w H s Q E) s := by
  have hold : ∀ b o, base.get? b = some o → s.heap.get? b = some o := fun b o z => (e0.bs b o z).1
  refine PySem.W.kla_callFunE room.depth (hold _ _ L.obj) rfl S.co S.gen rfl (L.code.keeps hold) ?_
  rw [bind]
  refine wpAny_pure (wpAny_newFunctionEnv (fun y hy => (S.own y hy).2) (fun y hy => absurd hy (by simp)) (fun h1 hns same => ?_) S.kind)
  have kp : ∀ b o, s.heap.get? b = some o → h1.get? b = some o := fun b o z => same.extBut b o (Nat.ne_of_lt (Heap.lt_size z)) (Heap.get?_push_of_some _ z)
  refine ⟨(e0.mod.nolimit.keeps hold).keeps kp, ?_⟩
  refine PySem.W.kla_codeExpr ?_
  have cellAt : ∀ {y : Str} {c : Addr}, cl.lookup y = some c → ∃ i u, N[i]? = some y ∧ us[i]? = some u ∧ base.IsCell c (some u) := fun {y c} z => by
    obtain ⟨i, hi, e⟩ := List.getElem_of_mem (L.only y c z)
    have hi' : N[i]? = some y := by rw [List.getElem?_eq_getElem hi, e]
    obtain ⟨c2, u, z2, hu, hc⟩ := L.cell i y hi'
    rw [z] at z2
    cases z2
    exact ⟨i, u, hi', hu, hc⟩
  have noA : ∀ b : Addr, b ∉ ([] : List Addr) := fun b z => by cases z
  have I : Inv (lamX P w F.K mg base N q scope f c' cl A outer s H E) [] (vs.map some) H { s with heap := h1, toks := s.toks + ([] : List (Str × Value)).length } := by
    refine ⟨⟨e0.mod, S.kind, rfl, rfl, Nat.le_refl _, fun x y c a b => L.inj x y c a b, fun y hy => ?_, fun y c z _ => ?_, fun _ => room.hd, Around.frames_deeper e0.frames, .inr ⟨rfl, rfl⟩, fun b z => absurd z (noA b), e0.bs, e0.bsz, fun b _ _ => noA b, fun b z => absurd z (noA b), e0.funs, e0.frf⟩,
      rfl, e0.bare, Un.kept kp, ⟨_, hns, fun i y v e1 e2 e3 => ?_⟩, fun y c z => ?_, e0.hok.fresh (Nat.le_refl _), fun y c z => ?_, fun p hp => absurd (show p ∈ ([] : List (Addr × Obj)) ++ [] from hp) (by simp), e0.hok.kept kp, by rw [List.length_map]; exact ln⟩
    · have hy : scope.names.lookup y = some .cell ∨ scope.names.lookup y = some .free := hy
      rcases hy with hy | hy
      · exact absurd rfl (S.own _ (PySem.mem_of_lookup hy)).2
      · obtain ⟨i, hi, z⟩ := List.getElem_of_mem (L.all y hy)
        obtain ⟨c, u, h1, _⟩ := L.cell i y (by rw [List.getElem?_eq_getElem hi, z])
        exact ⟨c, h1⟩
    · cases (show false = true from z)
    · have e1 : N[i]? = some y := e1
      have e3 : Vis scope y := e3
      rw [List.getElem?_map] at e2
      cases hv : vs[i]? with
      | none => rw [hv] at e2; cases e2
      | some v' =>
        rw [hv] at e2
        cases e2
        obtain ⟨c, u, hc, hu, o, ho, hd⟩ := L.cell i y e1
        obtain ⟨u', hu', rv⟩ := r.get hv
        rw [hu] at hu'
        cases hu'
        refine ⟨u, rv, .inr ⟨.inr ?_, c, hc, o, kp _ _ (hold _ _ ho), hd⟩⟩
        rcases e3 with z | z | z
        · exact absurd rfl (S.own _ (PySem.mem_of_lookup z)).1
        · exact absurd rfl (S.own _ (PySem.mem_of_lookup z)).2
        · exact z
    · obtain ⟨i, u, _, _, o, ho, hd⟩ := cellAt z
      exact ⟨_, o, kp _ _ (hold _ _ ho), hd⟩
    · obtain ⟨i, u, _, _, o, ho, hd⟩ := cellAt z
      exact (e0.bs c o ho).2
  have tk : Takes (lamX P w F.K mg base N q scope f c' cl A outer s H E) (fun c d _ H => E c d H) := takes_of rfl rfl rfl rfl
  have g : Gd (lamX P w F.K mg base N q scope f c' cl A outer s H E) ⟨N, scope, bl, fn, gl, gcd⟩ F Γ E := {
    N := rfl
    nd := nd
    sc := rfl
    K := rfl
    calm := rfl
    gd := gd
    room := (room.deeper _).mono (Nat.zero_le _)
    blt := T.blt
    fn := fun i x h => by
      obtain ⟨f, fd, ps, j, sem, h1, h2, h3, h4, h5, h6⟩ := T.fn i x h
      exact ⟨f, fd, ps, j, sem, h1, h2, h3, (room.deeper _).mono h4, passes_call tk fun _ _ _ _ q => q, h5, h6⟩
    gl := T.gl
    gcd := T.gcd }
  have wish : tE F Γ N.length E e (vs.map some) H Q := by
    refine ⟨O, ds.map Sl.val, fun _ => 0, pen, ⟨by rw [List.length_map]; exact ln, by rw [List.length_map, ← t.length]; exact ln, fun i d e => ?_, fun i es e => ?_, opp, trk, pa⟩, post⟩
    · rw [List.getElem?_map] at e
      cases hd : ds[i]? with
      | none => rw [hd] at e; cases e
      | some d' =>
        rw [hd] at e
        cases e
        obtain ⟨v, hv, tv⟩ := t.get hd
        exact ⟨v, by rw [List.getElem?_map, hv]; rfl, tv⟩
    · rw [List.getElem?_map] at e
      cases hd : ds[i]? with
      | none => rw [hd] at e; cases e
      | some d' => rw [hd] at e; cases e
  refine wpAny_mono ((sndE e g ck).1.run [] _ _ H Q I wish) (fun v s' hq => ?_) fun e s' hq => hq
  obtain ⟨w', H', J, rv, q⟩ := hq
  exact ⟨w', H', J.os, J.bare, J.base, J.hok, rv, q⟩
end
end Mi
end

section
set_option Elab.async false
set_option linter.all false
set_option maxRecDepth 100000
set_option maxHeartbeats 4000000
/-! Mi: a call over a wider base. -/
namespace Mi
open PySem PySem.Spec PyProof.Rows L2 LamX

/-- all of base, and what stands at B -/
structure BaseOf (base : Heap) (h : Heap) (B : Addr → Prop) (G : Heap) : Prop where
  get : ∀ b o, h.get? b = some o → ((∃ u, base.get? b = some u) ∨ B b) → G.get? b = some o
  of : ∀ b o, G.get? b = some o → h.get? b = some o ∧ ((∃ u, base.get? b = some u) ∨ B b)
  sz : G.objs.size = h.objs.size
open Classical in
theorem base_of (base h : Heap) (B : Addr → Prop) : ∃ G, BaseOf base h B G := by
  refine ⟨hidT h fun b => if (∃ u, base.get? b = some u) ∨ B b then none else some (.lst []), ⟨fun b o e d => hidT_get e (if_pos d), fun b o e => ?_, hidT_size _ _⟩⟩
  obtain ⟨h1, h2⟩ := of_hidT e
  refine ⟨h1, ?_⟩
  by_cases d : (∃ u, base.get? b = some u) ∨ B b
  · exact d
  · rw [if_neg d] at h2
    cases h2
theorem frames_of {h base G : Heap} : ∀ {l : List Env}, h.FunFrames base l → (∀ b ∈ L2.frs l, G.get? b = none) → h.FunFrames G l
  | [], _, _ => trivial
  | env :: r, ⟨k, ⟨L, o, hf, hn, ho, hd⟩, t⟩, q => by
    have hm : ∀ b, b ∈ L2.frs r → b ∈ L2.frs (env :: r) := fun b hb => by
      unfold L2.frs at hb ⊢
      rw [List.filterMap_cons, hf]
      exact List.mem_cons_of_mem _ hb
    refine ⟨k, ⟨L, o, hf, q L ?_, ho, hd⟩, frames_of t fun b hb => q b (hm b hb)⟩
    unfold L2.frs
    rw [List.filterMap_cons, hf]
    exact List.mem_cons_self
section
variable {X : Cx} {pins : List (Addr × Obj)} {σ : L2.St} {H : Hp} {s : Shared} {B : Addr → Prop} {G : Heap}
/-- what may be let go -/
structure Loose (X : Cx) (H : Hp) (B : Addr → Prop) : Prop where
  ext : ∀ b, B b → H b = none ∨ ∃ p, H b = some (.ext p)
  frs : ∀ b, B b → b ∉ L2.frs X.stack
theorem Inv.loose (I : Inv X pins σ H s) (L : Loose X H B) : Inv X pins σ (hid B H) s := by
  have same : ∀ {b : Addr} {o : HO}, H b = some o → (∀ p, o ≠ .ext p) → hid B H b = some o := fun {b o} e n => by
    rw [hid_no fun z => ?_]
    · exact e
    · rcases L.ext b z with q | ⟨p, q⟩
      · rw [e] at q; cases q
      · rw [e] at q
        exact n p (Option.some.inj q)
  have non : ∀ {b : Addr}, H b = none → hid B H b = none := fun {b} e => by
    by_cases z : B b
    · exact hid_yes z
    · rw [hid_no z]; exact e
  refine ⟨I.ok, I.os, I.bare, ⟨I.base.keep, I.base.slot, fun b o e n hx => non (I.base.free b o e n hx), I.base.there, fun b xs e => same (I.base.tups b xs e) (fun p z => by cases z), fun b o u e => same (I.base.frzs b o u e) (fun p z => by cases z), fun b ps e => ?_⟩, I.loc, I.cell, non I.free, fun x c e => non (I.freeC x c e), fun p hp => ?_, fun b o e => ?_, I.len⟩
  · obtain ⟨more, q⟩ := I.base.tbls b ps e
    exact ⟨more, same q fun p z => by cases z⟩
  · obtain ⟨h1, h2, h3, h4, h5⟩ := I.pin p hp
    exact ⟨h1, non h2, h3, h4, h5⟩
  · have e2 := (hid_some e).2
    exact (I.hok b o e2).stay (fun c v _ q => q) (fun c q => same q fun p z => by cases z) fun c xs q => same q fun p z => by cases z
theorem Inv.env_wide (I : Inv X pins σ H s) (L : Loose X H B) (W : BaseOf X.base s.heap B G) : Env0 X.prog X.w X.K X.mg G X.A X.stack s (hid B H) := by
  have J := Inv.loose I L
  have up : ∀ b o, X.base.get? b = some o → G.get? b = some o := fun b o e => W.get b o (I.bk b o e) (.inl ⟨o, e⟩)
  obtain ⟨kin, glob, ⟨mb, blt, bltAll⟩, lim⟩ := I.ok.mod
  refine ⟨I.ok.frames, ⟨kin.keeps up, glob.keeps up, ⟨mb, blt.keeps up, bltAll⟩, lim.keeps up⟩, fun b o e => ?_, Nat.le_of_eq W.sz, frames_of I.stack fun b hb => ?_, J.stkFree, J.hok, J.bare⟩
  · obtain ⟨h1, h2⟩ := W.of b o e
    refine ⟨h1, ?_⟩
    rcases h2 with ⟨u, h2⟩ | h2
    · exact (J.bs b u h2).2
    · exact hid_yes h2
  · cases e : G.get? b with
    | none => rfl
    | some o =>
      obtain ⟨h1, h2⟩ := W.of b o e
      rcases h2 with ⟨u, h2⟩ | h2
      · have := (I.stack.mem hb).1
        rw [h2] at this
        cases this
      · exact absurd hb (L.frs b h2)
/-- x(e, ..) over the wider base -/
def tWide (X : Cx) (CX : CXT) (k : Nat) (f : Addr) (fd : FuncData) (ps : List Str) (sp : Sp) (E : XK) (t : TA) : TE := fun σ H Q => t σ H fun vs H1 => ∃ B : Addr → Prop, ∀ pins s, Inv X pins σ H1 s → Loose X H1 B ∧ (∀ G, BaseOf X.base s.heap B G → FnG X.prog X.w X.K X.mg G CX k f fd ps sp) ∧ sp vs (hid B H1) Q E
theorem pe_wide {CX : CXT} {k : Nat} {f : Addr} {fd : FuncData} {ps : List Str} {sp : Sp} {E : XK} {x : Str} {p pos : Pos} {e : Expr} {es : List Expr} {t : TA} (gd : X.A.guards = some []) (hr : Room k X.A) (hg : Gl X x) (hm : X.mg x = some (.ref f)) (hk : PySem.W.keepIn X.K (.ref f) = true)
    (hb : Binds X.K fd ps []) (hx : Passes CX X E) (ha : PA X (e :: es) t) (hdb : (x == ("__debug__" : Str)) = false)
    (he : starEach (e :: es) X.env = (false, eval e X.env) :: starEach es X.env) (hpl : (backTo pos (starEach es X.env)).any (·.1) = false) :
    PE X (.Call (.Name x p) (e :: es) [] pos) (tWide X CX k f fd ps sp E t) :=
  ⟨fun pins s σ H Q I h => wpAny_Call_Name_kw (ld_glob I hg hm (PySem.W.callWith_K (h₀ := X.base) I.ok.mod.kin hk
    (thn (ha.run pos pins s σ H _ I h) fun us s1 ⟨vs, H1, I1, r, B, facts⟩ => ⟨I1.kIn, by
      obtain ⟨L, FG, q⟩ := facts pins s1 I1
      obtain ⟨G, W⟩ := base_of X.base s1.heap B
      have Gd := FG G W
      have J := Inv.loose I1 L
      have en := Inv.env_wide I1 L W
      have hl : (us ++ []).length = ps.length := by
        rw [List.append_nil, ← r.length]
        exact Gd.size _ _ _ _ q
      have b := hb s1 us I1.kIn hl
      rw [List.append_nil] at b
      refine wpAny_call (codeAny_mono (Gd.goes X.A X.stack s1 (hid B H1) ⟨us, []⟩ us vs Q E gd hr en b r q) fun r s' z => ?_)
      cases r with
      | error er => exact hx pins σ (hid B H1) s1 er s' J z
      | ok fl =>
        cases fl with
        | ret u => exact J.after z
        | next => exact z.elim
        | brk => exact z.elim
        | cont => exact z.elim⟩) he hpl) hdb)⟩
end
end Mi
end

section
set_option Elab.async false
set_option linter.all false
set_option maxRecDepth 100000
set_option maxHeartbeats 4000000
/-! Mi: tries: pairs of a lambda and what is due, in an own list. -/
namespace Mi
open PySem PySem.Spec PyProof.Rows L2 LamX

/-! ### data do not look at other objects -/
def Dim (V V' : Hp) : Prop := ∀ b o, V b = some o → (∀ p, o ≠ .ext p) → V' b = some o
abbrev Cf.wide (F : Cf) (c : Addr → Nat → List V → Prop) : Cf := { F with clo := c }
theorem sqT_dim {K : PySem.W.Frag} {V V' : Hp} {a : Addr} {xs : List L2.V} (h : Dim V V') (t : SqT K V a xs) : SqT K V' a xs := by
  rcases t with (t | ⟨o, t⟩) | t
  · exact .inl (.inl (h _ _ t fun p z => by cases z))
  · exact .inl (.inr ⟨o, h _ _ t fun p z => by cases z⟩)
  · exact .inr t
section
variable {F : Cf} {c : Addr → Nat → List V → Prop} {V V' : Hp}
mutual
theorem Dt.dim (hc : ∀ a k vs, F.clo a k vs → c a k vs) (h : Dim V V') : ∀ {v : L2.V} {d : D}, Dt F V v d → Dt (F.wide c) V' v d
  | _, _, .non => .non
  | _, _, .bl b => .bl b
  | _, _, .int b => .int b
  | _, _, .str b => .str b
  | _, _, .tup q t => .tup (sqT_dim h q) (Dts.dim hc h t)
  | _, _, .lst q t => .lst (h _ _ q fun p z => by cases z) (Dts.dim hc h t)
  | _, _, .obj q t => .obj (h _ _ q fun p z => by cases z) (Dfs.dim hc h t)
  | _, _, .dct q t => .dct (h _ _ q fun p z => by cases z) (Dkv.dim hc h t)
  | _, _, .pen => .pen
  | _, _, .clo q t => .clo (hc _ _ _ q) (Dts.dim hc h t)
theorem Dts.dim (hc : ∀ a k vs, F.clo a k vs → c a k vs) (h : Dim V V') : ∀ {v : List L2.V} {d : List D}, Dts F V v d → Dts (F.wide c) V' v d
  | _, _, .nil => .nil
  | _, _, .cons q t => .cons (Dt.dim hc h q) (Dts.dim hc h t)
theorem Dfs.dim (hc : ∀ a k vs, F.clo a k vs → c a k vs) (h : Dim V V') : ∀ {v : List (Str × L2.V)} {d : List (Str × D)}, Dfs F V v d → Dfs (F.wide c) V' v d
  | _, _, .nil => .nil
  | _, _, .cons q t => .cons (Dt.dim hc h q) (Dfs.dim hc h t)
theorem Dkv.dim (hc : ∀ a k vs, F.clo a k vs → c a k vs) (h : Dim V V') : ∀ {v : List (Key × L2.V)} {d : List (Key × D)}, Dkv F V v d → Dkv (F.wide c) V' v d
  | _, _, .nil => .nil
  | _, _, .cons q t => .cons (Dt.dim hc h q) (Dkv.dim hc h t)
end
end

/-! ### one pair -/
/-- a lambda of the text: its captured names with their slots, its body's term; what is due -/
structure Lm where
  params : Arguments
  body : Expr
  scope : Scope
  caps : List (Str × Nat)
  e : Ex
  due : Ex
/-- a pair that was made -/
structure Mk where
  l : Lm
  f : Addr
  c' : Addr
  pm : Value
  ctv : Value
  t : Addr
  v : V
  d : D
abbrev lq (X : Cx) : Str := X.env.qual ++ "<lambda>"
structure MkOk (X : Cx) (F : Cf) (O : Addr → Prop) (H : Hp) (x : Mk) : Prop where
  tup : H x.t = some (.tup [.ref x.f, x.v])
  fn : H x.f = some (LamO x.f (lamObj X x.l.params x.l.body x.l.scope x.pm x.ctv x.c'))
  code : H x.c' = some (CodeO x.c' (lq X))
  due : Dt F (hid O H) x.v x.d
/-- all stays but the pen, the table, the list -/
structure Tl (X : Cx) (F : Cf) (n : Nat) (P : Addr) (ti : Nat) (ρ : List Sl) (s : Pen) (L : List Mk) (A : Addr) (O : Addr → Prop) (ad : Nat → Addr) (σ : L2.St) (H : Hp) : Prop where
  r : Rel F n O ρ ad σ H s
  tab : TabS H P (lq X)
  oP : O P
  oA : O A
  cc : A ≠ F.cc
  nm : σ[ti]? = some (some (.ref A))
  lst : H A = some (.lst (L.map fun x => .ref x.t))
  made : ∀ x ∈ L, MkOk X F O H x
  noown : ∀ (i : Nat) (ds : List D), ρ[i]? ≠ some (.own ds)
section
variable {X : Cx} {F : Cf} {n : Nat} {P : Addr} {ti : Nat} {ρ : List Sl} {s : Pen} {L : List Mk} {A : Addr} {O : Addr → Prop} {ad : Nat → Addr} {σ : L2.St} {H H' : Hp} {Γ : Tb} {E : XK}
theorem tab_ne {b : Addr} {o : HO} {q : Str} (t : TabS H P q) (e : H b = some o) (h : ∀ ps, o ≠ .tbl ps) : b ≠ P := fun z => by
  obtain ⟨ps, q, _⟩ := t
  rw [z, q] at e
  exact h ps (Option.some.inj e).symm
theorem MkOk.stay {x : Mk} (M : MkOk X F O H x) (t : TabS H P (lq X)) (k : Kp P H H') (oP : O P) : MkOk X F O H' x where
  tup := k _ _ (tab_ne t M.tup fun ps z => by cases z) M.tup
  fn := k _ _ (tab_ne t M.fn fun ps z => by cases z) M.fn
  code := k _ _ (tab_ne t M.code fun ps z => codeO_ne ps z) M.code
  due := M.due.mono (hid_ex oP k fun _ h _ => h)
/-- the table may be written -/
theorem Rel.kpT (R : Rel F n O ρ ad σ H s) (t : TabS H P (lq X)) (t' : TabS H' P (lq X)) (k : Kp P H H') (oP : O P) (no : ∀ (i : Nat) (ds : List D), ρ[i]? ≠ some (.own ds)) : Rel F n O ρ ad σ H' s where
  ln := R.ln
  rl := R.rl
  val := fun i d e => by
    obtain ⟨v, a, b⟩ := R.val i d e
    exact ⟨v, a, b.mono (hid_ex oP k fun _ h _ => h)⟩
  own := fun i ds e => absurd e (no i ds)
  pp := R.pp
  trk := fun b hb => by
    by_cases z : b = P
    · obtain ⟨ps, q, _⟩ := t'
      rw [z, q]
      simp
    · cases e : H b with
      | none => exact absurd e (R.trk b hb)
      | some o => rw [k b o z e]; simp
  pen := ⟨k _ _ (tab_ne t R.pen.d fun ps z => by cases z) R.pen.d, k _ _ (tab_ne t R.pen.c fun ps z => by cases z) R.pen.c⟩
theorem tab_kp {q : Str} (t : TabS H P q) (p : PenAt F H s) (k : Kp F.pp H H') : TabS H' P q := by
  have go : ∀ {b : Addr} {o : HO}, H b = some o → (∀ kvs, o ≠ .dK kvs) → H' b = some o := fun {b o} e n => k b o (fun z => by
    rw [z, p.d] at e
    exact n _ (Option.some.inj e).symm) e
  obtain ⟨ps, h1, h2, h3⟩ := t
  refine ⟨ps, go h1 (fun kvs z => by cases z), h2, fun pos cv hc => ?_⟩
  obtain ⟨c, e1, e2⟩ := h3 pos cv hc
  exact ⟨c, e1, go e2 fun kvs z => by unfold CodeO at z; cases z⟩
/-- the pen stays as it was -/
theorem kp_same (p : PenAt F H s) (p' : PenAt F H' s) (k : Kp F.pp H H') (P : Addr) : Kp P H H' := fun b o _ e => by
  by_cases z : b = F.pp
  · rw [z, p.d] at e
    rw [z, p'.d]
    exact e
  · exact k b o z e
/-- (lambda, due) -/
theorem pair_ok {l : Lm} {d : D} {Q : VK} (R : Rel F n O ρ ad σ H s) (t : TabS H P (lq X)) (oP : O P) (no : ∀ (i : Nat) (ds : List D), ρ[i]? ≠ some (.own ds)) (hd : evalE Γ l.due ρ s = .ok d s)
    (q : ∀ (x : Mk) (H' : Hp), x.l = l → x.d = d → Rel F n O ρ ad σ H' s → Kp P H H' → TabS H' P (lq X) → MkOk X F O H' x → Q (.ref x.t) H') :
    tTup (tCons (tMkLam X P l.params l.body l.scope) (tCons (tE F Γ n E l.due) tNil)) σ H Q := by
  refine ⟨t, fun f c' pm ctv H1 k1 t1 hf hc => ?_⟩
  have k2 : Kp P H (upd H1 f (LamO f (lamObj X l.params l.body l.scope pm ctv c'))) := k1.trans (Kp.new hf)
  have t2 : TabS (upd H1 f (LamO f (lamObj X l.params l.body l.scope pm ctv c'))) P (lq X) := tab_ext (H := H1) (H1 := H1) t1 hf
  have R2 := R.kpT t t2 k2 oP no
  refine ⟨O, ρ, ad, s, R2, ?_⟩
  rw [hd]
  intro v H3 k3 p3 tv
  have R3 := R2.kp k3 p3
  have t3 := tab_kp t2 R2.pen k3
  have k23 := kp_same R2.pen p3 k3 P
  refine ⟨by rw [sizeLine_eq]; exact (by decide : 2 ≤ 16777216), fun p hp => ?_⟩
  have nO : ¬ O p := R3.new hp
  have k4 : Kp P H (upd H3 p (.tup [.ref f, v])) := (k2.trans k23).trans (Kp.new hp)
  have t4 : TabS (upd H3 p (.tup [.ref f, v])) P (lq X) := tab_ext (H := H3) (H1 := H3) t3 hp
  have hf3 : H3 f = some (LamO f (lamObj X l.params l.body l.scope pm ctv c')) := k23 f _ (tab_ne t2 upd_same fun ps z => lamO_tbl z) upd_same
  have hc2 : upd H1 f (LamO f (lamObj X l.params l.body l.scope pm ctv c')) c' = some (CodeO c' (lq X)) := by
    rw [upd_ne (ne_of_none hc hf)]
    exact hc
  have hc3 : H3 c' = some (CodeO c' (lq X)) := k23 c' _ (tab_ne t2 hc2 fun ps z => codeO_ne ps z) hc2
  refine q ⟨l, f, c', pm, ctv, p, v, d⟩ _ rfl rfl (R.kpT t t4 k4 oP no) k4 t4 ⟨upd_same, ?_, ?_, ?_⟩
  · rw [upd_ne (ne_of_none hf3 hp)]
    exact hf3
  · rw [upd_ne (ne_of_none hc3 hp)]
    exact hc3
  · exact tv.mono (ex_new hp)
/-! ### the statements -/
/-- tries = [(lambda, due)] -/
def sFirst (ti : Nat) (X : Cx) (F : Cf) (Γ : Tb) (n : Nat) (E : XK) (P : Addr) (l : Lm) : TS := tAsg (tLst (tCons (tTup (tCons (tMkLam X P l.params l.body l.scope) (tCons (tE F Γ n E l.due) tNil))) tNil)) (gName ti)
/-- tries.append((lambda, due)) -/
def sMore (ti : Nat) (X : Cx) (F : Cf) (Γ : Tb) (n : Nat) (E : XK) (P : Addr) (l : Lm) : TS := tDrop (tBM X.K "list" rAppend (tVar ti) (tCons (tTup (tCons (tMkLam X P l.params l.body l.scope) (tCons (tE F Γ n E l.due) tNil))) tNil))
theorem first_ok {l : Lm} {d : D} {D0 : Ends} (R : Rel F n O ρ ad σ H s) (t : TabS H P (lq X)) (oP : O P) (no : ∀ (i : Nat) (ds : List D), ρ[i]? ≠ some (.own ds)) (em : ρ[ti]? = some .emp) (hd : evalE Γ l.due ρ s = .ok d s)
    (q : ∀ (x : Mk) (A : Addr) (O' : Addr → Prop) (σ' : L2.St) (H' : Hp), x.l = l → x.d = d → Tl X F n P ti ρ s [x] A O' ad σ' H' → (∀ j, j ≠ ti → σ'[j]? = σ[j]?) → D0.nx σ' H') : sFirst ti X F Γ n E P l D0 σ H := by
  refine pair_ok (E := E) (Q := fun v H1 => ([v] : List V).length ≤ sizeLine ∧ ∀ p, H1 p = none → D0.nx (σ.set ti (some (.ref p))) (upd H1 p (.lst [v]))) R t oP no hd fun x H1 e1 e2 R1 k1 t1 M => ⟨by rw [sizeLine_eq]; exact (by decide : 1 ≤ 16777216), fun A hA => ?_⟩
  have nO : ¬ O A := R1.new hA
  have R2 := R1.adds (o := .lst [.ref x.t]) hA
  have len : ti < σ.length := by
    rw [R.ln, ← R.rl]
    rcases Nat.lt_or_ge ti ρ.length with h | h
    · exact h
    · rw [List.getElem?_eq_none h] at em; cases em
  have keep : ∀ {b : Addr} {o : HO}, H1 b = some o → upd H1 A (.lst [.ref x.t]) b = some o := fun {b o} e => by rw [upd_ne (ne_of_none e hA)]; exact e
  have hh : hid (with_ O A) (upd H1 A (.lst [.ref x.t])) = hid O H1 := hid_add hA
  refine q x A (with_ O A) _ _ e1 e2 ⟨⟨by rw [List.length_set]; exact R2.ln, R2.rl, fun i d e => ?_, fun i ds e => absurd e (no i ds), R2.pp, R2.trk, R2.pen⟩, t1.ext fun b u e => keep e, .inl oP, .inr rfl, (fun z => by have c := R1.pen.c; rw [← z, hA] at c; cases c), by rw [List.getElem?_set, if_pos rfl, if_pos len], upd_same, fun y hy => ?_, no⟩ fun j hj => List.getElem?_set_ne (Ne.symm hj)
  · obtain ⟨v, a, b⟩ := R2.val i d e
    refine ⟨v, ?_, b⟩
    rw [List.getElem?_set_ne fun z => ?_]
    · exact a
    · rw [z, e] at em
      cases em
  · have hy : y = x := by simpa using hy
    subst hy
    exact ⟨keep M.tup, keep M.fn, keep M.code, by rw [hh]; exact M.due⟩
theorem more_ok {l : Lm} {d : D} {D0 : Ends} (T : Tl X F n P ti ρ s L A O ad σ H) (few : L.length ≤ 1000) (hd : evalE Γ l.due ρ s = .ok d s)
    (q : ∀ (x : Mk) (H' : Hp), x.l = l → x.d = d → Tl X F n P ti ρ s (L ++ [x]) A O ad σ H' → D0.nx σ H') : sMore ti X F Γ n E P l D0 σ H := by
  refine ⟨_, T.nm, .inl ⟨rfl, _, SqL.of T.lst⟩, ?_⟩
  refine pair_ok (E := E) (Q := fun v H1 => rAppend (.ref A) [v] H1 fun _ H1 => D0.nx σ H1) T.r T.tab T.oP T.noown hd fun x H1 e1 e2 R1 k1 t1 M => ?_
  have lst1 : H1 A = some (.lst (L.map fun x => .ref x.t)) := k1 _ _ (tab_ne T.tab T.lst fun ps z => by cases z) T.lst
  refine ⟨A, _, .ref x.t, rfl, rfl, lst1, by rw [List.length_map, sizeLine_eq]; omega, q x _ e1 e2 ?_⟩
  have nP : A ≠ P := tab_ne T.tab T.lst fun ps z => by cases z
  have npp : A ≠ F.pp := fun z => by
    have p := R1.pen.d
    rw [← z, lst1] at p
    cases p
  have hh : hid O (upd H1 A (.lst (L.map (fun x => V.ref x.t) ++ [.ref x.t]))) = hid O H1 := hid_upd T.oA
  have other : ∀ {b : Addr} {o : HO}, H1 b = some o → (∀ xs, o ≠ .lst xs) → upd H1 A (.lst (L.map (fun x => V.ref x.t) ++ [.ref x.t])) b = some o := fun {b o} e h => by
    rw [upd_ne fun z => ?_]
    · exact e
    · rw [z, lst1] at e
      exact h _ (Option.some.inj e).symm
  have keep : ∀ {y : Mk}, MkOk X F O H1 y → MkOk X F O (upd H1 A (.lst (L.map (fun x => V.ref x.t) ++ [.ref x.t]))) y := fun {y} M =>
    ⟨other M.tup (fun xs z => by cases z), other M.fn (fun xs z => by unfold LamO at z; cases z), other M.code (fun xs z => by unfold CodeO at z; cases z), by rw [hh]; exact M.due⟩
  refine ⟨⟨R1.ln, R1.rl, by rw [hh]; exact R1.val, fun i ds e => absurd e (T.noown i ds), R1.pp, fun b hb => ?_, ⟨other R1.pen.d (fun xs z => by cases z), ?_⟩⟩, ?_, T.oP, T.oA, T.cc, T.nm, by rw [upd_same, List.map_append]; rfl, fun y hy => ?_, T.noown⟩
  · by_cases z : b = A
    · rw [z, upd_same]; simp
    · rw [upd_ne z]; exact R1.trk b hb
  · rw [upd_ne (Ne.symm T.cc)]
    exact R1.pen.c
  · obtain ⟨ps, h1, h2, h3⟩ := t1
    refine ⟨ps, other h1 (fun xs z => by cases z), h2, fun pos cv hc => ?_⟩
    obtain ⟨c0, z1, z2⟩ := h3 pos cv hc
    exact ⟨c0, z1, other z2 (fun xs z => by unfold CodeO at z; cases z)⟩
  · rcases List.mem_append.mp hy with h | h
    · exact keep ((T.made y h).stay T.tab k1 T.oP)
    · have h : y = x := by simpa using h
      rw [h]
      exact keep M
end
end Mi
end

section
set_option Elab.async false
set_option linter.all false
set_option maxRecDepth 100000
set_option maxHeartbeats 4000000
/-! Mi: what was tried is called. -/
namespace Mi
open PySem PySem.Spec PyProof.Rows L2 LamX

def capsV (σ : L2.St) (l : Lm) : List V := l.caps.map fun c => ((σ[c.2]?).join).getD .non
def slD : Option Sl → D
  | some (.val d) => d
  | _ => .non
def capsD (ρ : List Sl) (l : Lm) : List D := l.caps.map fun c => slD ρ[c.2]?
def pairsD (ρ : List Sl) : Nat → List Mk → List D
  | _, [] => []
  | j, x :: r => .tup [.clo j (capsD ρ x.l), x.d] :: pairsD ρ (j + 1) r
/-- what the lambdas do -/
def cloS (Γ : Tb) (Ls : List Lm) (j : Nat) (ds : List D) (s : Pen) : R D := match Ls[j]? with
  | some l => evalE Γ l.e (ds.map Sl.val) s
  | none => .bad
abbrev Lm.ns (l : Lm) : List Str := l.caps.map (·.1)
structure LmOk (X : Cx) (bl : List Str) (fn gl : Nat → Option Str) (gcd : Bool) (l : Lm) : Prop where
  nd : l.ns.Nodup
  cap : ∀ c ∈ l.caps, X.N[c.2]? = some c.1 ∧ X.env.scope.names.lookup c.1 = some .cell ∧ (c.1, NameKind.free) ∈ l.scope.names
  sc : LamSc l.scope
  all : ∀ z ∈ l.scope.names, z.2 = .free → z.1 ∈ l.ns
  bind : ∀ (q : Str) (cl : List (Str × Addr)) (pm cv ctv : Value), bindArgs (PySem.W.kla_fn "<lambda>" q l.params l.body l.scope cl pm cv ctv) ⟨[], []⟩ = pure []
  ck : chkE ⟨l.ns, l.scope, bl, fn, gl, gcd⟩ l.e l.body = true
section
variable {X : Cx} {F : Cf} {n : Nat} {P : Addr} {ti : Nat} {ρ : List Sl} {s : Pen} {L : List Mk} {A : Addr} {O : Addr → Prop} {ad : Nat → Addr} {σ : L2.St} {H H' : Hp} {Γ : Tb} {E : XK} {bl : List Str} {fn gl : Nat → Option Str} {gcd : Bool} {er : Nat → Option (Str × List Str)}
theorem caps_dt {F' : Cf} {V' : Hp} {cs : List (Str × Nat)} (R : Rel F n O ρ ad σ H s) (h : ∀ {v : V} {d : D}, Dt F (hid O H) v d → Dt F' V' v d) (hv : ∀ c ∈ cs, ∃ d, ρ[c.2]? = some (.val d)) :
    Dts F' V' (cs.map fun c => ((σ[c.2]?).join).getD .non) (cs.map fun c => slD ρ[c.2]?) := by
  induction cs with
  | nil => exact .nil
  | cons c r ih =>
    obtain ⟨d, e⟩ := hv c List.mem_cons_self
    obtain ⟨v, e2, t⟩ := R.val _ _ e
    simp only [List.map_cons, e, e2]
    exact .cons (h t) (ih fun c hc => hv c (List.mem_cons_of_mem _ hc))
theorem caps_us {pins : List (Addr × Obj)} {sh : Shared} {cs : List (Str × Nat)} (I : Inv X pins σ H sh) (hc : ∀ c ∈ cs, X.N[c.2]? = some c.1 ∧ X.env.scope.names.lookup c.1 = some .cell) (hv : ∀ c ∈ cs, ∃ v, σ[c.2]? = some (some v)) :
    ∃ us, Vals (cs.map fun c => ((σ[c.2]?).join).getD .non) us ∧ ∀ (i : Nat) (y : Str), (cs.map (·.1))[i]? = some y → ∃ c u, X.env.cells.lookup y = some c ∧ us[i]? = some u ∧ sh.heap.IsCell c (some u) := by
  induction cs with
  | nil => exact ⟨[], .nil, fun i y h => by simp at h⟩
  | cons c r ih =>
    obtain ⟨us, r1, r2⟩ := ih (fun c h => hc c (List.mem_cons_of_mem _ h)) fun c h => hv c (List.mem_cons_of_mem _ h)
    obtain ⟨v, e⟩ := hv c List.mem_cons_self
    obtain ⟨e1, e2⟩ := hc c List.mem_cons_self
    obtain ⟨m, hn, hl⟩ := I.loc
    obtain ⟨u, rv, look⟩ := hl c.2 c.1 v e1 e (.inr (.inl e2))
    refine ⟨u :: us, ?_, fun i y h => ?_⟩
    · simp only [List.map_cons, e]
      exact .cons rv r1
    · cases i with
      | zero =>
        have h : c.1 = y := by simpa using h
        subst h
        rcases look with ⟨k, _⟩ | ⟨_, a, e3, e4⟩
        · have k : X.env.scope.names.lookup c.1 = some .local := k
          rw [e2] at k
          cases k
        · exact ⟨a, u, e3, rfl, e4⟩
      | succ i =>
        obtain ⟨a, u', q1, q2, q3⟩ := r2 i y (by simpa using h)
        exact ⟨a, u', q1, by simpa using q2, q3⟩
/-- the lambdas that were made stand in the wider base -/
theorem lamAt_of {pins : List (Addr × Obj)} {sh : Shared} {B : Addr → Prop} {G : Heap} {x : Mk} (I : Inv X pins σ H sh) (W : BaseOf X.base sh.heap B G) (M : MkOk X F O H x) (ok : LmOk X bl fn gl gcd x.l) (bf : B x.f) (bc : B x.c') (bcell : ∀ y c, X.env.cells.lookup y = some c → B c) (hv : ∀ c ∈ x.l.caps, ∃ v, σ[c.2]? = some (some v)) :
    ∃ us, Vals (capsV σ x.l) us ∧ LamAt G x.f x.l.ns x.l.params x.l.body x.l.scope us (lq X) x.pm x.ctv x.c' (cloFrom X.env.cells x.l.scope.names []) := by
  obtain ⟨us, r, cells⟩ := caps_us I (fun c hc => ⟨(ok.cap c hc).1, (ok.cap c hc).2.1⟩) hv
  have mem : ∀ {y : Str} {c : Addr}, (cloFrom X.env.cells x.l.scope.names []).lookup y = some c → (y, NameKind.free) ∈ x.l.scope.names ∧ c = (X.env.cells.lookup y).getD 0 := fun {y c} e => by
    rcases cloFrom_mem (PySem.mem_of_lookup e) with h | h
    · cases h
    · exact h
  have old : ∀ {y : Str} {c : Addr}, (cloFrom X.env.cells x.l.scope.names []).lookup y = some c → X.env.cells.lookup y = some c := fun {y c} e => by
    obtain ⟨h1, h2⟩ := mem e
    have h3 := ok.all _ h1 rfl
    obtain ⟨i, hi, z⟩ := List.getElem_of_mem h3
    obtain ⟨c2, u, q, _⟩ := cells i y (by
      show (x.l.caps.map (·.1))[i]? = some y
      rw [List.getElem?_eq_getElem hi, z])
    rw [h2, q]
    rfl
  refine ⟨us, r, ?_, ?_, fun i y h => ?_, fun a b c h1 h2 => I.ok.inj a b c (old h1) (old h2), fun y h => ok.all _ (PySem.mem_of_lookup h) rfl, fun y c h => ok.all _ (mem h).1 rfl⟩
  · exact W.get _ _ (lamO_at I.hok M.fn) (.inr bf)
  · have z : ObjOk X.prog X.w H sh.heap x.c' (CodeO x.c' (lq X)) := I.hok _ _ M.code
    unfold CodeO at z
    obtain ⟨⟨oc, vs, t, h1, h2, h3⟩, _⟩ := z
    exact ⟨x.c', oc, vs, t, rfl, W.get _ _ h1 (.inr bc), h2, h3⟩
  · obtain ⟨c, u, q1, q2, o, q3, q4⟩ := cells i y h
    have my : y ∈ x.l.ns := List.mem_of_getElem? h
    obtain ⟨cp, hcp, ey⟩ := List.mem_map.mp my
    have fr := (ok.cap cp hcp).2.2
    rw [ey] at fr
    obtain ⟨c2, q5⟩ := mem_lookup (cloFrom_has (cells := X.env.cells) (acc := []) fr)
    have q6 := old q5
    rw [q1] at q6
    cases q6
    exact ⟨c, u, q5, q2, o, W.get _ _ q3 (.inr (bcell y c q1)), q4⟩
/-- the call of the def that looks at what was tried -/
theorem wide_ok {CX : CXT} {k kT : Nat} {f : Addr} {fd : FuncData} {ps : List Str} {sem : List D → Pen → R D} {Q : VK} (T : Tl X F n P ti ρ s L A O ad σ H) (hK : X.K = F.K) (hfn : ∀ y, X.fn y = true) (hclo : ∀ a j vs, ¬ F.clo a j vs)
    (ok : ∀ x ∈ L, LmOk X bl fn gl gcd x.l) (hv : ∀ x ∈ L, ∀ c ∈ x.l.caps, ∃ d, ρ[c.2]? = some (.val d)) (len : ps.length = 1)
    (hT : ∀ (c : Addr → Nat → List V → Prop) (base : Heap), X.K.In base → base.Ns mainGlobals X.mg → TbOk X.prog X.w (F.wide c) X.mg base kT bl fn gl gcd er Γ)
    (hG : ∀ (c : Addr → Nat → List V → Prop) (base : Heap), X.K.In base → base.Ns mainGlobals X.mg → CloOk X.prog X.w (F.wide c) X.mg base (kT + 1) (cloS Γ (L.map (·.l))) → FnG X.prog X.w X.K X.mg base CX k f fd ps (spF (F.wide c) ps.length sem))
    (post : ∀ (c : Addr → Nat → List V → Prop) (O' : Addr → Prop) (B : Addr → Prop), Loose X H B → Post (F.wide c) O' (hid B H) E (Dt (F.wide c)) Q (sem [.lst (pairsD ρ 0 L)] s)) :
    ∃ c, tWide X CX k f fd ps (spF (F.wide c) ps.length sem) E (tCons (tVar ti) tNil) σ H Q := by
  have loose : ∀ pins sh, Inv X pins σ H sh → Loose X H (fun b => (∃ x ∈ L, b = x.f ∨ b = x.c') ∨ ∃ y, X.env.cells.lookup y = some b) := fun pins sh I => by
    refine ⟨?_, ?_⟩
    · rintro b (⟨x, hx, z | z⟩ | ⟨y, z⟩)
      · rw [z]; exact .inr ⟨_, (T.made x hx).fn⟩
      · rw [z]; exact .inr ⟨_, (T.made x hx).code⟩
      · exact .inl (I.freeC y b z)
    · rintro b (⟨x, hx, z | z⟩ | ⟨y, z⟩) hb
      · have := I.stkFree b hb
        rw [z, (T.made x hx).fn] at this
        cases this
      · have := I.stkFree b hb
        rw [z, (T.made x hx).code] at this
        cases this
      · rcases List.mem_cons.mp (I.stkSub b hb) with q | q
        · exact I.cne y b z q
        · obtain ⟨_, o, ho, _⟩ := I.ok.funs.mem q
          exact Nat.lt_irrefl _ (Nat.lt_of_lt_of_le (Heap.lt_size ho) (I.ok.cab y b (hfn y) z))
  refine ⟨fun a j vs => ∃ x, L[j]? = some x ∧ a = x.f ∧ vs = capsV σ x.l, .ref A, T.nm, fun b => (∃ x ∈ L, b = x.f ∨ b = x.c') ∨ ∃ y, X.env.cells.lookup y = some b, fun pins sh I => ⟨loose pins sh I, fun G W => ?_, ?_⟩⟩
  · have up : ∀ b o, X.base.get? b = some o → G.get? b = some o := fun b o e => W.get b o (I.bk b o e) (.inl ⟨o, e⟩)
    have hk := I.ok.mod.kin.keeps up
    have hn := I.ok.mod.glob.keeps up
    refine hG _ G hk hn ⟨fun a j vs ⟨x, e1, e2, e3⟩ => ?_, fun a j vs ⟨x, e1, e2, e3⟩ A' outer sh' H' Q' E' O' ds pen gd room en opp trk pa t q => ?_⟩
    · have hx := List.mem_of_getElem? e1
      rw [e2]
      exact ⟨_, _, _, _, W.get _ _ (lamO_at I.hok (T.made x hx).fn) (.inr (.inl ⟨x, hx, .inl rfl⟩))⟩
    · have hx := List.mem_of_getElem? e1
      subst e2
      subst e3
      obtain ⟨us, r, at_⟩ := lamAt_of I W (T.made x hx) (ok x hx) (.inl ⟨x, hx, .inl rfl⟩) (.inl ⟨x, hx, .inr rfl⟩) (fun y c z => .inr ⟨y, z⟩) (fun c hc => by
        obtain ⟨d, e⟩ := hv x hx c hc
        obtain ⟨v, e, _⟩ := T.r.val _ _ e
        exact ⟨v, e⟩)
      refine lam_go (hT _ G hk hn) at_ (ok x hx).sc (ok x hx).nd ((ok x hx).bind _ _ _ _ _) (ok x hx).ck gd room (hK ▸ en) r (by simp [capsV]) opp trk pa t ?_
      unfold cloS at q
      rw [List.getElem?_map, e1] at q
      exact q
  · have LB := loose pins sh I
    generalize hB : (fun b => (∃ x ∈ L, b = x.f ∨ b = x.c') ∨ ∃ y, X.env.cells.lookup y = some b) = B at LB ⊢
    have show_ : ∀ {b : Addr} {o : HO}, H b = some o → (∀ p, o ≠ .ext p) → hid B H b = some o := fun {b o} e h => by
      rw [hid_no fun z => ?_]
      · exact e
      · rcases LB.ext b z with q | ⟨p, q⟩
        · rw [e] at q; cases q
        · rw [e] at q
          exact h p (Option.some.inj q)
    have pen' : PenAt (F.wide fun a j vs => ∃ x, L[j]? = some x ∧ a = x.f ∧ vs = capsV σ x.l) (hid B H) s := ⟨show_ T.r.pen.d (fun p z => by cases z), show_ T.r.pen.c (fun p z => by cases z)⟩
    have see : ∀ {b : Addr} {o : HO}, H b = some o → b ≠ F.pp → (∀ p, o ≠ .ext p) → hid (fun b => b = F.pp) (hid B H) b = some o := fun {b o} e n h => by
      rw [hid_no (O := fun b => b = F.pp) n]
      exact show_ e h
    have dim : Dim (hid O H) (hid (fun b => b = F.pp) (hid B H)) := fun b o e h => by
      obtain ⟨h1, h2⟩ := hid_some e
      exact see h2 (fun z => h1 (z ▸ T.r.pp)) h
    have notpp : ∀ {b : Addr} {o : HO}, H b = some o → (∀ kvs, o ≠ .dK kvs) → b ≠ F.pp := fun {b o} e h z => by
      have q := T.r.pen.d
      rw [← z, e] at q
      exact h _ (Option.some.inj q)
    have all : ∀ (r : List Mk) (j : Nat), (∀ i x, r[i]? = some x → L[j + i]? = some x) → Dts (F.wide fun a j vs => ∃ x, L[j]? = some x ∧ a = x.f ∧ vs = capsV σ x.l) (hid (fun b => b = F.pp) (hid B H)) (r.map fun x => .ref x.t) (pairsD ρ j r) := by
      intro r
      induction r with
      | nil => intro j _; exact .nil
      | cons x r ih =>
        intro j hj
        have ex : L[j]? = some x := hj 0 x rfl
        have hx := List.mem_of_getElem? ex
        have M := T.made x hx
        refine .cons (.tup (SqT.of (see M.tup (notpp M.tup fun kvs z => by cases z) fun p z => by cases z)) (.cons (.clo ⟨x, ex, rfl, rfl⟩ ?_) (.cons (M.due.dim (fun a j vs z => absurd z (hclo a j vs)) dim) .nil))) (ih (j + 1) fun i y hy => ?_)
        · exact caps_dt T.r (fun t => t.dim (fun a j vs z => absurd z (hclo a j vs)) dim) (hv x hx)
        · have := hj (i + 1) y (by simpa using hy)
          rw [Nat.add_assoc, Nat.add_comm 1 i]
          exact this
    have lst : Dt (F.wide fun a j vs => ∃ x, L[j]? = some x ∧ a = x.f ∧ vs = capsV σ x.l) (hid (fun b => b = F.pp) (hid B H)) (.ref A) (.lst (pairsD ρ 0 L)) :=
      .lst (see T.lst (notpp T.lst fun kvs z => by cases z) fun p z => by cases z) (all L 0 fun i x h => by rw [Nat.zero_add]; exact h)
    have trk : ∀ b, b = F.pp → hid B H b ≠ none := by
      intro b hb z
      subst hb
      rw [show hid B H F.pp = _ from pen'.d] at z
      cases z
    exact ⟨fun b => b = F.pp, [.lst (pairsD ρ 0 L)], s, rfl, trk, pen', .cons lst .nil, len.symm, post _ _ _ LB⟩
end
end Mi
end

section
set_option Elab.async false
set_option linter.all false
set_option maxRecDepth 100000
set_option maxHeartbeats 4000000
/-! Mi: the end of a law that makes lambdas; the head's facts. -/
namespace Mi
open PySem PySem.Spec PyProof.Rows L2 LamX

/-- the heap in which but the script and the table may be tracked -/
structure BareT (K : PySem.W.Frag) (H : Hp) (a P : Addr) : Prop where
  tab : H P = some (.tbl #[])
  only : ∀ b, b ≠ P → H b = none ∨ (b = a ∧ ∃ o xs, H b = some (.frz o (.lst xs)))
  out : H a ≠ none → K.lookup a = none
abbrev TabAt (h : Heap) (P : Addr) : Prop := h.get? P = some { cls := .none, data := .fields #[] }
abbrev MainAt (mg : Str → Option Value) (h : Heap) : Prop := ∃ (bm : Addr) (ob : Obj), mg "__builtins__" = some (.ref bm) ∧ bm ≠ builtinsNs ∧ h.get? bm = some ob ∧ ob.cls = .type "module" ∧ ob.dict = some builtinsNs ∧ ob.data = .plain
section
variable {P : Program} {w : World} {K : PySem.W.Frag} {mg mb : Str → Option Value} {CX : CXT} {k : Nat} {fa a c T : Addr} {fd : FuncData} {x : Str} {sp : Sp} {s : Shared} {vs : List Value} {H : Hp}
theorem law_atT (kin : K.In s.heap) (glob : s.heap.Ns mainGlobals mg) (blt : s.heap.Ns builtinsNs mb) (bltAll : ∀ x : Str, x ≠ "__name__" → mb x = bootBuiltins x) (lim : s.heap.NoLimit) (gens : s.gens = #[])
    (hT : TabAt s.heap T) (nT : K.lookup T = none) (hc : PySem.W.CodeHd s.heap c T) (main : MainAt mg s.heap)
    (script : s.heap.get? a = some { cls := .type "list", data := .seq vs.toArray }) (room : Room k callerA) (B : BareT K H a T) (hok : HOk P w H s.heap)
    (G : ∀ base : Heap, K.In base → base.Ns mainGlobals mg → TabB base mg c T → FnG P w K mg base CX k fa fd [x] sp) (bind : ∀ (s : Shared) (u : Value), BindsTo s fd ⟨[u], []⟩ [(x, u)])
    (hs : sp [.ref a] H (fun v _ => v = .bl true) fun _ _ _ => False) (cx : ∀ H e s', CX [] H s (fun _ _ _ => False) e s' → False) :
    codeAny (model P w) callerA (.call (.ref fa) ⟨[.ref a], []⟩) (fun r s' => r = .ok (.ret (.bool true)) ∧ OldK s.heap s'.heap ∧ s'.os = s.os ∧ AllBare s'.gens) s := by
  have free : ∀ {b : Addr} {o : Obj}, s.heap.get? b = some o → (∀ m n, o.data ≠ .seq m n) → o.data ≠ .fields #[] → H b = none := by
    intro b o e h1 h2
    by_cases z : b = T
    · rw [z, hT] at e
      obtain rfl := Option.some.inj e
      exact absurd rfl h2
    · rcases B.only b z with q | ⟨q, _⟩
      · exact q
      · rw [q, script] at e
        obtain rfl := Option.some.inj e
        exact absurd rfl (h1 _ _)
  have keep : ∀ {b : Addr} {o : Obj}, s.heap.get? b = some o → (∀ m n, o.data ≠ .seq m n) → o.data ≠ .fields #[] → (hidT s.heap H).get? b = some o := fun e h1 h2 => hidT_get e (free e h1 h2)
  have ns : ∀ {b : Addr} {m : Str → Option Value}, s.heap.Ns b m → (hidT s.heap H).Ns b m := by
    rintro b m ⟨o, m1, m2, e, d, r⟩
    exact ⟨o, m1, m2, keep e (fun _ _ z => by rw [d] at z; cases z) (fun z => by rw [d] at z; cases z), d, r⟩
  have kin' : K.In (hidT s.heap H) := by
    intro b o e
    apply hidT_get (kin b o e)
    by_cases z : b = T
    · rw [z, nT] at e
      cases e
    · rcases B.only b z with q | ⟨q, o', xs, q2⟩
      · exact q
      · subst q
        rw [B.out (by rw [q2]; simp)] at e
        cases e
  have mod : L2.Mod K mg (hidT s.heap H) := ⟨kin', ns glob, ⟨mb, ns blt, bltAll⟩, by obtain ⟨mc, h1, h2⟩ := lim; exact ⟨mc, ns h1, h2⟩⟩
  have tb : TabB (hidT s.heap H) mg c T := by
    refine ⟨?_, ?_, fun z => ?_⟩
    · obtain ⟨o, us, file, tf, flags, tg, inF, text, tt, e1, r1, r2, r3, r⟩ := hc
      exact ⟨o, us, file, tf, flags, tg, inF, text, tt, keep e1 (fun _ _ z => by rw [r2] at z; cases z) (fun z => by rw [r2] at z; cases z; simp at r3), r1, r2, r3, r⟩
    · obtain ⟨bm, ob, b1, b2, b3, b4, b5, b6⟩ := main
      refine ⟨bm, ob, b1, b2, fun z => ?_, fun z => ?_, keep b3 (fun _ _ z => by rw [b6] at z; cases z) (fun z => by rw [b6] at z; cases z), b4, b5, b6⟩
      · obtain ⟨o, m1, m2, e, d, _⟩ := glob
        rw [z, e] at b3
        obtain rfl := Option.some.inj b3
        rw [d] at b6
        cases b6
      · rw [z, hT] at b3
        obtain rfl := Option.some.inj b3
        cases b6
    · obtain ⟨o, m1, m2, e, d, _⟩ := glob
      rw [z, hT] at e
      obtain rfl := Option.some.inj e
      cases d
  have env : Env0 P w K mg (hidT s.heap H) callerA [] s H := by
    refine ⟨rfl, mod, fun b o e => of_hidT e, ?_, trivial, ?_, hok, .of_eq gens⟩
    · rw [hidT_size]
      exact Nat.le_refl _
    · intro b hb
      cases hb
  have run := (G _ kin' (ns glob) tb).goes callerA [] s H ⟨[.ref a], []⟩ [.ref a] [.ref a] _ _ rfl room env (bind s (.ref a)) (.cons rfl .nil) hs
  apply codeAny_mono run
  intro r s' q
  cases r with
  | error e => exact (cx H e s' q).elim
  | ok fl =>
    cases fl with
    | next => exact q.elim
    | brk => exact q.elim
    | cont => exact q.elim
    | ret u =>
      obtain ⟨v, H', os, bare, un, hok', rel, veq⟩ := q
      have veq : v = .bl true := veq
      rw [veq] at rel
      have u_eq : u = Value.bool true := rel
      rw [u_eq]
      obtain ⟨more, tab'⟩ := un.tbls T #[] B.tab
      have grown : s'.heap.get? T = some { cls := .none, data := .fields (#[] ++ more) } := hok' T _ tab'
      have same : ∀ b o, b ≠ T → s.heap.get? b = some o → s'.heap.get? b = some o := by
        intro b o z e
        rcases B.only b z with q | ⟨_, o', xs, q⟩
        · exact un.keep b o e q (by intro y; cases y) (by simp)
        · have now := un.frzs b o' _ q
          have was := (hok b _ q).1
          rw [e] at was
          obtain rfl := Option.some.inj was
          exact (hok' b _ now).1
      refine ⟨rfl, ⟨fun b o e => ?_, fun b o e => ?_⟩, os, bare⟩
      · by_cases z : b = T
        · rw [z] at e ⊢
          rw [hT] at e
          obtain rfl := Option.some.inj e
          exact .inr (.inl ⟨(hc.tab hT).isCodeTable, rfl, #[], more, rfl, grown⟩)
        · exact .inl (same b o z e)
      · by_cases z : b = T
        · rw [z]
          exact ⟨_, grown⟩
        · exact ⟨o, same b o z e⟩
theorem law_callTG {is : List Int} (kin : K.In s.heap) (glob : s.heap.Ns mainGlobals mg) (blt : s.heap.Ns builtinsNs mb) (bltAll : ∀ x : Str, x ≠ "__name__" → mb x = bootBuiltins x) (lim : s.heap.NoLimit) (gens : s.gens = #[])
    (hT : TabAt s.heap T) (nT : K.lookup T = none) (hc : PySem.W.CodeHd s.heap c T) (main : MainAt mg s.heap)
    (script : s.heap.get? a = some { cls := .type "list", data := .seq vs.toArray }) (iat : IntsAre vs is) (few : is.length ≤ sizeLine) (room : Room k callerA)
    (G : ∀ base : Heap, K.In base → base.Ns mainGlobals mg → TabB base mg c T → FnG P w K mg base CX k fa fd [x] sp) (bind : ∀ (s : Shared) (u : Value), BindsTo s fd ⟨[u], []⟩ [(x, u)])
    (hs : ∀ H : Hp, H T = some (.tbl #[]) → SqL K H a (is.map V.int) → sp [.ref a] H (fun v _ => v = .bl true) fun _ _ _ => False) (cx : ∀ H e s', CX [] H s (fun _ _ _ => False) e s' → False) :
    codeAny (model P w) callerA (.call (.ref fa) ⟨[.ref a], []⟩) (fun r s' => r = .ok (.ret (.bool true)) ∧ OldK s.heap s'.heap ∧ s'.os = s.os ∧ AllBare s'.gens) s := by
  have rv := vals_ints iat
  have aT : a ≠ T := fun z => by
    rw [z, hT] at script
    cases script
  cases hk : K.lookup a with
  | some o =>
    have e := kin a o hk
    rw [script] at e
    obtain rfl := Option.some.inj e
    have look : ∀ {b : Addr}, b ≠ T → (if b = T then some (HO.tbl #[]) else none : Option HO) = none := fun q => if_neg q
    refine law_atT (H := fun b => if b = T then some (.tbl #[]) else none) kin glob blt bltAll lim gens hT nT hc main script room ⟨if_pos rfl, fun b z => .inl (look z), fun z => absurd (look aT) z⟩ (fun b u z => ?_) G bind (hs _ (if_pos rfl) ?_) cx
    · by_cases q : b = T
      · have z := (if_pos q).symm.trans z
        cases z
        rw [q]
        exact hT
      · have z := (look q).symm.trans z
        cases z
    · exact .inr ⟨_, vs.toArray, _, hk, rfl, rfl, rfl, by rw [List.size_toArray, iat.length]; exact few, by simpa using rv⟩
  | none =>
    have atT : (if T = T then some (HO.tbl #[]) else if T = a then some (HO.frz { cls := .type "list", data := .seq vs.toArray } (.lst (is.map V.int))) else none) = some (.tbl #[]) := if_pos rfl
    have atA : (if a = T then some (HO.tbl #[]) else if a = a then some (HO.frz { cls := .type "list", data := .seq vs.toArray } (.lst (is.map V.int))) else none) = some (.frz { cls := .type "list", data := .seq vs.toArray } (.lst (is.map V.int))) := (if_neg aT).trans (if_pos rfl)
    refine law_atT (H := fun b => if b = T then some (.tbl #[]) else if b = a then some (.frz { cls := .type "list", data := .seq vs.toArray } (.lst (is.map V.int))) else none) kin glob blt bltAll lim gens hT nT hc main script room
      ⟨atT, fun b z => ?_, fun _ => hk⟩ (fun b u z => ?_) G bind (hs _ atT (.inl (.inr ⟨_, atA⟩))) cx
    · by_cases q : b = a
      · exact .inr ⟨q, _, _, (if_neg z).trans (if_pos q)⟩
      · exact .inl ((if_neg z).trans (if_neg q))
    · by_cases q : b = T
      · have z := (if_pos q).symm.trans z
        cases z
        rw [q]
        exact hT
      · have z := (if_neg q).symm.trans z
        by_cases q2 : b = a
        · have z := (if_pos q2).symm.trans z
          cases z
          rw [q2]
          exact ⟨script, by rw [List.length_map]; exact few, vs, _, rv, script⟩
        · have z := (if_neg q2).symm.trans z
          cases z
end
/-- what is known of a law's def at the head's heap -/
def LawG (l : PySem.W.OpenLaw) (w : World) (K : PySem.W.Frag) (CX : CXT) (k n : Nat) (x : Str) (mg : Str → Option Value) (fa : Addr) (h : Heap) : Prop :=
  ∃ (fd : FuncData) (c T : Addr) (sp : Sp), TabAt h T ∧ K.lookup T = none ∧ PySem.W.CodeHd h c T ∧ (∀ (s : Shared) (u : Value), BindsTo s fd ⟨[u], []⟩ [(x, u)]) ∧
    (∀ (H : Hp) (a : Addr) (is : List Int), is.length ≤ n → H T = some (.tbl #[]) → SqL K H a (is.map V.int) → sp [.ref a] H (fun v _ => v = .bl true) fun _ _ _ => False) ∧
    ∀ base : Heap, K.In base → base.Ns mainGlobals mg → TabB base mg c T → FnG l.prog w K mg base CX k fa fd [x] sp
theorem walk_ofTG {l : PySem.W.OpenLaw} {n k : Nat} {q : Program} {loose : List Str} {XP : (Str → Option Value) → Heap → Prop} {YP : World → Heap → Prop} {d : DefRec} {CX : World → CXT} {x : Str}
    (hn : l.most = some n) (hn2 : n ≤ sizeLine) (hdf : d.params.defaults = []) (room : Room k callerA)
    (go : ∀ (w : World) (mg : Str → Option Value) (fa : Addr) (h : Heap), YP w h → h.Ns mainGlobals mg → mg d.name = some (.ref fa) → ∃ K : PySem.W.Frag, K.In h ∧ LawG l w K (CX w) k n x mg fa h)
    (cx : ∀ (w : World) (H : Hp) (s : Shared) (e : Value) (s' : Shared), CX w [] H s (fun _ _ _ => False) e s' → False) :
    PySem.W.WalkO q loose XP YP l.row.toRowW d [] (fun f vs => PySem.call f vs) :=
  Att.attach_call hn hdf fun w s₀ s mg mb fa o pm cd doc a vs is G Y _ _ _ hmg script iat few gens => by
    obtain ⟨K, kin, fd, c, T, sp, hT, nT, hc, bind, hsp, F⟩ := go w mg fa _ Y G.T.g hmg
    exact law_callTG kin G.T.g G.T.b G.T.builtins G.T.nolimit gens hT nT hc G.T.bmain script iat (Nat.le_trans few hn2) room F bind (fun H h1 h2 => hsp H a is few h1 h2) fun H e s' => cx w H s e s'

/-! ### the head's facts -/
open He in
/-- the part of the heap that the walk looks at: what the module's names reach, the statics; empty tables left out -/
def frM (g : Addr → Option Obj) (n : Nat) : PySem.W.Frag := frT g (cStatics :: asD g n)
structure SaysM (fa : List He.Fa) (fn : List He.DefD) (tf : List He.Defn) (ex : PySem.W.Frag → Bool) (h : Heap) (K : PySem.W.Frag) : Prop where
  d : He.SaysD fa fn K
  more : ex K = true
  hd : ∀ p ∈ tf, PySem.W.codeHdIn K (He.cT K p).1 (He.cT K p).2 = true
  out : ∀ p ∈ tf, K.lookup (He.cT K p).2 = none
  empty : ∀ p ∈ tf, TabAt h (He.cT K p).2
abbrev AlM : Type := He.AlD × Bool
def obsM (n : Nat) (fa : List He.Fa) (fn : List He.DefD) (tf : List He.Defn) (ex : PySem.W.Frag → Bool) (g : Addr → Option Obj) : AlM := (He.obsD fa fn (frM g n), ex (frM g n) && He.tabsB g tf (frM g n))
def valM (fn : List He.DefD) : AlM := (He.valD fn, true)
theorem says_M {n : Nat} {fa : List He.Fa} {fn : List He.DefD} {tf : List He.Defn} {ex : PySem.W.Frag → Bool} {h : Heap} (e : obsM n fa fn tf ex h.get? = valM fn) : SaysM fa fn tf ex h (frM h.get? n) := by
  have e1 : He.obsD fa fn (frM h.get? n) = He.valD fn := congrArg Prod.fst e
  have e2 : (ex (frM h.get? n) && He.tabsB h.get? tf (frM h.get? n)) = true := congrArg Prod.snd e
  rw [Bool.and_eq_true] at e2
  have key : ∀ p ∈ tf, PySem.W.codeHdIn (frM h.get? n) (He.cT (frM h.get? n) p).1 (He.cT (frM h.get? n) p).2 = true ∧ ∃ o, h.get? (He.cT (frM h.get? n) p).2 = some o ∧ He.emptyTab o = true := by
    intro p hp
    have q := List.all_eq_true.mp e2.2 p hp
    rw [Bool.and_eq_true] at q
    refine ⟨q.1, ?_⟩
    have q2 := q.2
    split at q2
    · rename_i o eo
      exact ⟨o, eo, q2⟩
    · cases q2
  refine ⟨e1, e2.1, fun p hp => (key p hp).1, fun p hp => ?_, fun p hp => ?_⟩
  · obtain ⟨_, o, q, z⟩ := key p hp
    exact He.frT_none q z
  · obtain ⟨_, o, q, z⟩ := key p hp
    show h.get? _ = _
    rw [q, He.emptyTab_eq z]
def hookM (n : Nat) (fa : List He.Fa) (fn : List He.DefD) (tf : List He.Defn) (ex : PySem.W.Frag → Bool) : PySem.W.Hook where
  α := AlM
  obs := fun s => obsM n fa fn tf ex s.heap.get?
  val := fun _ => valM fn
  says := fun _ h => ∃ K : PySem.W.Frag, K.In h ∧ SaysM fa fn tf ex h K
  of := fun _ _ e => ⟨_, He.frT_in, says_M e⟩
  keeps := fun _ _ _ ⟨K, hK, c⟩ k => ⟨K, PySem.W.Frag.In.keeps hK k, ⟨c.d, c.more, c.hd, c.out, fun p hp => k _ _ (c.empty p hp)⟩⟩
theorem obsM_eq {n : Nat} {fa : List He.Fa} {fn : List He.DefD} {tf : List He.Defn} {ex : PySem.W.Frag → Bool} {g : Addr → Option Obj} {s : Shared} (h : ∀ a, g a = s.heap.get? a) : obsM n fa fn tf ex g = (hookM n fa fn tf ex).obs s := by
  have e : g = s.heap.get? := funext h
  rw [e]
  rfl
end Mi
end

section
set_option Elab.async false
set_option linter.all false
set_option maxRecDepth 100000
set_option maxHeartbeats 4000000
/-! Mi: tables of defs; a block and what follows. -/
namespace Mi
open PySem PySem.Spec PyProof.Rows L2 LamX

abbrev Ent : Type := Nat × (Tb → List D → Pen → R D)
/-- the first k defs -/
def tbT (ents : List Ent) : Nat → Tb
  | 0 => ⟨fun _ _ _ => .bad, fun _ => .non⟩
  | k + 1 => ⟨fun g ds s => if g = k then (match ents[k]? with
      | some e => if ds.length = e.1 then e.2 (tbT ents k) ds s else .bad
      | none => .bad) else (tbT ents k).fn g ds s, fun _ => .non⟩
theorem tbT_at {ents : List Ent} {g : Nat} {e : Ent} (he : ents[g]? = some e) : ∀ {k : Nat}, g < k → ∀ ds s, (tbT ents k).fn g ds s = if ds.length = e.1 then e.2 (tbT ents g) ds s else .bad := by
  intro k
  induction k with
  | zero => intro h; omega
  | succ k ih =>
    intro h ds s
    show (if g = k then _ else _) = _
    by_cases q : g = k
    · rw [if_pos q]
      subst q
      rw [he]
    · rw [if_neg q]
      exact ih (by omega) ds s
section
variable {P : Program} {w : World} {F : Cf} {mg : Str → Option Value} {base : Heap} {m k k' j : Nat} {bl nm : List Str} {gcd : Bool} {er : Nat → Option (Str × List Str)} {ents : List Ent}
abbrev fnOfL (nm : List Str) (m : Nat) : Nat → Option Str := fun g => (nm.take m)[g]?
abbrev noGl : Nat → Option Str := fun _ => none
theorem tb_zero (hb : ∀ x ∈ bl, mg x = none) (hg : gcd = true → mg "gcd" = some (.builtin "math.gcd")) (he : ∀ c x ns, er c = some (x, ns) → ∀ X : Cx, X.prog = P → X.w = w → X.K = F.K → X.mg = mg → X.base = base → Room k X.A → X.A.guards = some [] → ckEr X F c x ns) :
    TbOk P w F mg base k bl (fnOfL nm 0) noGl gcd er (tbT ents 0) := ⟨hb, fun g x h => (by simp [fnOfL] at h), fun g x h => (by cases h), hg, he⟩
theorem tb_add {sem : Tb → List D → Pen → R D} {x : Str} {ps : List Str} {f : Addr} {fd : FuncData} (T : TbOk P w F mg base k bl (fnOfL nm m) noGl gcd er (tbT ents m)) (hx : nm[m]? = some x) (he : ents[m]? = some (ps.length, sem)) (hk : k ≤ k') (hj : j ≤ k') (hm : mg x = some (.ref f)) (kp : PySem.W.keepIn F.K (.ref f) = true)
    (b : L2.Binds F.K fd ps []) (G : FnG P w F.K mg base (L2.CX P w) j f fd ps (spF F ps.length (sem (tbT ents m)))) : TbOk P w F mg base k' bl (fnOfL nm (m + 1)) noGl gcd er (tbT ents (m + 1)) := by
  refine ⟨T.blt, fun g y h => ?_, fun g x h => (by cases h), T.gcd, fun c x ns h X h1 h2 h3 h4 h5 h6 h7 => T.er c x ns h X h1 h2 h3 h4 h5 (h6.mono hk) h7⟩
  have h2 : (nm.take (m + 1))[g]? = some y := h
  clear h
  have h := h2
  clear h2
  have hg : g < m + 1 := by
    rcases Nat.lt_or_ge g (m + 1) with q | q
    · exact q
    · rw [List.getElem?_eq_none (by rw [List.length_take]; omega)] at h
      cases h
  rw [List.getElem?_take_of_lt hg] at h
  by_cases q : g = m
  · subst q
    rw [hx] at h
    cases h
    refine ⟨f, fd, ps, j, sem (tbT ents g), hm, kp, b, hj, fun ds s => ?_, G⟩
    rw [tbT_at he (Nat.lt_succ_self g)]
  · obtain ⟨f', fd', ps', j', sem', a1, a2, a3, a4, a5, a6⟩ := T.fn g y (by
      show (nm.take m)[g]? = some y
      rw [List.getElem?_take_of_lt (by omega)]
      exact h)
    refine ⟨f', fd', ps', j', sem', a1, a2, a3, Nat.le_trans a4 hk, fun ds s => ?_, a6⟩
    rw [← a5]
    show (if g = m then _ else _) = _
    rw [if_neg q]
/-- a def of the text that passes the look -/
theorem tb_def {b : Sts} {x : Str} {N ps : List Str} {st : Stmt} {f : Addr} {fd : FuncData} (T : TbOk P w F mg base k bl (fnOfL nm m) noGl gcd er (tbT ents m)) (FD : FunD F.K x x (defArgs st) (defBody st) (defScope st) [] [] f fd) (S : FnScope N ps (defScope st)) (hx : nm[m]? = some x)
    (he : ents[m]? = some (ps.length, fun Γ => semF Γ N.length b)) (hm : mg x = some (.ref f)) (bd : L2.Binds F.K fd ps []) (ck : chkSs ⟨N, defScope st, bl, fnOfL nm m, noGl, gcd⟩ er b (defBody st) = true) :
    TbOk P w F mg base (k + 1) bl (fnOfL nm (m + 1)) noGl gcd er (tbT ents (m + 1)) := by
  obtain ⟨oc, od, dV, kV, doc, pm, an, cdv, ct, osl, rfl, lk, code, _, _⟩ := FD.ex
  exact tb_add T hx he (Nat.le_succ k) (Nat.le_refl _) hm FD.kp bd (fn_rule lk code S T ck)
end
/-! ### a block, then what follows -/
def tThen (F : Cf) (Γ : Tb) (n : Nat) (H0 : Hp) (O0 : Addr → Prop) (E : XK) (a : Sts) (u : TS) : TS := fun D σ H => ∃ O ρ ad s, RelS F n H0 O0 O ρ ad σ H s ∧ PostS F n H0 O0 O H E { D with nx := u D } (execs Γ a ρ s)
section
variable {X : Cx} {k : Ck} {er : Nat → Option (Str × List Str)} {F : Cf} {Γ : Tb} {E : XK} {H0 : Hp} {O0 : Addr → Prop} {rest : List Stmt} {u : TS}
theorem pss_then (g : GdS X k er F Γ E) (hu : PSs X rest u) : ∀ (a : Sts) {st : List Stmt}, chkSs k er a st = true → PSs X (st ++ rest) (tThen F Γ k.N.length H0 O0 E a u)
  | .nil, st, h => by
    simp only [chkSs] at h
    split at h
    · refine PSs.imp hu fun D σ H ⟨O, ρ, ad, s, R, q⟩ => ?_
      unfold execs at q
      exact q O ad σ H R ex_refl
    · cases h
  | .cons a r, st, h => by
    simp only [chkSs] at h
    split at h
    · rename_i s0 sts
      simp only [Bool.and_eq_true] at h
      refine PSs.imp (pss_cons (sndS (H0 := H0) (O0 := O0) a g h.1) (pss_then g hu r h.2)) fun D σ H ⟨O, ρ, ad, s, R, q⟩ => ?_
      unfold execs at q
      refine ⟨O, ρ, ad, s, R, ?_⟩
      cases e : exec Γ a ρ s with
      | nx ρ1 s1 =>
        rw [e] at q
        exact fun O' ad' σ' H' R' x => ⟨O', ρ1, ad', s1, R', PostS.later q x⟩
      | bk ρ1 s1 => rw [e] at q; exact q
      | ct ρ1 s1 => rw [e] at q; exact q
      | rt d s1 => rw [e] at q; exact q
      | err c fs s1 => rw [e] at q; exact q
      | bad => rw [e] at q; exact q
    · cases h
  | .frz is r, st, h => by
    simp only [chkSs] at h
    refine PSs.imp (pss_then g hu r h) fun D σ H ⟨O, ρ, ad, s, R, q⟩ => ?_
    unfold execs at q
    obtain ⟨O', R', x⟩ := R.frzs is
    exact ⟨O', _, ad, s, R', PostS.later q x⟩
theorem pss_ex {ι : Sort _} {t : ι → TS} (h : ∀ i, PSs X rest (t i)) : PSs X rest (fun D σ H => ∃ i, t i D σ H) := ⟨fun pins s σ H D I ⟨i, q⟩ => (h i).run pins s σ H D I q⟩
theorem pe_ex {ι : Sort _} {e : Expr} {t : ι → TE} (h : ∀ i, PE X e (t i)) : PE X e (fun σ H Q => ∃ i, t i σ H Q) := ⟨fun pins s σ H Q I ⟨i, q⟩ => (h i).run pins s σ H Q I q⟩
end
end Mi
end

section
set_option Elab.async false
set_option linter.all false
set_option maxRecDepth 100000
set_option maxHeartbeats 4000000
/-! Mi: the text of tries. -/
namespace Mi
open PySem PySem.Spec PyProof.Rows L2 LamX

/-- (lambda: .., due) -/
def pairOf : Expr → Option (Arguments × Expr × Scope × Expr)
  | .Tuple [.Lambda p b s _, d] _ _ => some (p, b, s, d)
  | _ => none
def pairSt : Stmt → Option (Arguments × Expr × Scope × Expr)
  | .Assign [.Name _ _] (.List [e] _) _ => pairOf e
  | .Expr (.Call (.Attribute (.Name _ _) _ _) [e] [] _) _ => pairOf e
  | _ => none
/-- the pair that a statement makes -/
def lmOf (st : Stmt) (caps : List (Str × Nat)) (e due : Ex) : Lm := match pairSt st with
  | some (p, b, s, _) => ⟨p, b, s, caps, e, due⟩
  | none => ⟨⟨[], [], none, [], [], none, []⟩, .Constant .none 0 ⟨0, 0, 0, 0⟩, ⟨.function, [], false, false, []⟩, caps, e, due⟩
def noParams (p : Arguments) : Bool := p.posonlyargs.isEmpty && p.args.isEmpty && p.vararg.isNone && p.kwonlyargs.isEmpty && p.kw_defaults.isEmpty && p.kwarg.isNone && p.defaults.isEmpty
def lmB (k : Ck) (st : Stmt) (caps : List (Str × Nat)) (e due : Ex) : Bool := match pairSt st with
  | some (p, b, s, d) => noParams p && lamSB k.sc s && noStar d && chkE k due d && decide ((caps.map (·.1)).Nodup) && caps.all (fun c => decide (k.N[c.2]? = some c.1) && decide (k.sc.names.lookup c.1 = some .cell) && decide ((c.1, NameKind.free) ∈ s.names)) &&
      s.names.all (fun z => !decide (z.2 = NameKind.free) || decide (z.1 ∈ caps.map (·.1))) && chkE { k with N := caps.map (·.1), sc := s } e b
  | none => false
def firstIs (k : Ck) (ti : Nat) : Stmt → Bool
  | .Assign [.Name x _] (.List [.Tuple [.Lambda _ _ _ _, _] _ _] _) _ => decide (k.N[ti]? = some x) && loc k.sc x
  | _ => false
def moreIs (k : Ck) (ti : Nat) : Stmt → Bool
  | .Expr (.Call (.Attribute (.Name x _) m ap) [.Tuple [.Lambda _ _ _ _, _] _ _] [] cp) _ => decide (m = "append") && decide (k.N[ti]? = some x) && vis k.sc x && plainName x && (ap.endLine == cp.line)
  | _ => false
theorem noParams_eq {p : Arguments} (h : noParams p = true) : p = ⟨[], [], none, [], [], none, []⟩ := by
  obtain ⟨a, b, c, d, e, f, g⟩ := p
  unfold noParams at h
  simp only [Bool.and_eq_true, List.isEmpty_iff, Option.isNone_iff_eq_none] at h
  obtain ⟨⟨⟨⟨⟨⟨h1, h2⟩, h3⟩, h4⟩, h5⟩, h6⟩, h7⟩ := h
  subst h1 h2 h3 h4 h5 h6 h7
  rfl
section
variable {X : Cx} {k : Ck} {er : Nat → Option (Str × List Str)} {F : Cf} {Γ : Tb} {E : XK} {c P : Addr} {ti : Nat} {caps : List (Str × Nat)} {e due : Ex} {st : Stmt}
theorem lm_ok (g : Gd X k F Γ E) (h : lmB k st caps e due = true) : LmOk X k.bl k.fn k.gl k.gcd (lmOf st caps e due) := by
  unfold lmB at h
  split at h
  · rename_i p b s d eq
    simp only [Bool.and_eq_true, decide_eq_true_eq, List.all_eq_true, Bool.or_eq_true, Bool.not_eq_true', decide_eq_false_iff_not] at h
    obtain ⟨⟨⟨⟨⟨⟨⟨h1, h2⟩, h3⟩, h4⟩, h5⟩, h6⟩, h7⟩, h8⟩ := h
    obtain ⟨l1, l2, l3, l4, _⟩ := lamS_by h2
    have hl : lmOf st caps e due = ⟨p, b, s, caps, e, due⟩ := by
      unfold lmOf
      rw [eq]
    rw [hl]
    have hp := noParams_eq h1
    refine ⟨h5, fun c hc => ?_, ⟨l1, l2, l3, l4⟩, fun z hz hf => ?_, fun q cl pm cv ctv => ?_, h8⟩
    · obtain ⟨⟨a1, a2⟩, a3⟩ := h6 c hc
      exact ⟨by rw [g.N]; exact a1, by rw [g.sc]; exact a2, a3⟩
    · rcases h7 z hz with q | q
      · exact absurd hf q
      · exact q
    · subst hp
      rfl
  · cases h
theorem pair_pe {e0 : Expr} {p : Arguments} {b : Expr} {s : Scope} {d : Expr} (g : Gd X k F Γ E) (TB : TabB X.base X.mg c P) (code : X.env.code = .ref c) (eq : pairOf e0 = some (p, b, s, d)) (h1 : noParams p = true) (h2 : lamSB k.sc s = true) (h3 : noStar d = true) (h4 : chkE k due d = true) :
    PE X e0 (tTup (tCons (tMkLam X P p b s) (tCons (tE F Γ k.N.length E due) tNil))) := by
  unfold pairOf at eq
  split at eq
  · cases eq
    have hp := noParams_eq h1
    subst hp
    exact pe_tup (pa_cons (pe_mklam TB code (by rw [g.sc]; exact lamS_by h2) rfl) (pa_cons (sndE due g h4).1 pa_nil (star_at h3)) (star_at rfl))
  · cases eq
theorem first_ps (g : GdS X k er F Γ E) (TB : TabB X.base X.mg c P) (code : X.env.code = .ref c) (h : firstIs k ti st = true) (hl : lmB k st caps e due = true) : PS X st (sFirst ti X F Γ k.N.length E P (lmOf st caps e due)) := by
  unfold firstIs at h
  split at h
  · rename_i x p0 p b s q d k1 p1 p2 p3
    simp only [Bool.and_eq_true, decide_eq_true_eq] at h
    unfold lmB pairSt pairOf at hl
    simp only [Bool.and_eq_true] at hl
    obtain ⟨⟨⟨⟨⟨⟨⟨h1, h2⟩, h3⟩, h4⟩, _⟩, _⟩, _⟩, _⟩ := hl
    exact ps_set g.g.nd (by rw [g.g.N]; exact h.1) (by rw [g.g.sc]; exact loc_ok h.2) (pe_lst (pa_cons (pair_pe g.g TB code rfl h1 h2 h3 h4) pa_nil (star_at rfl))) rfl (.inl (g.fn x))
  · cases h
theorem more_ps (g : GdS X k er F Γ E) (TB : TabB X.base X.mg c P) (code : X.env.code = .ref c) (h : moreIs k ti st = true) (hl : lmB k st caps e due = true) : PS X st (sMore ti X F Γ k.N.length E P (lmOf st caps e due)) := by
  unfold moreIs at h
  split at h
  · simp only [Bool.and_eq_true, decide_eq_true_eq] at h
    obtain ⟨⟨⟨⟨a1, a2⟩, a3⟩, a4⟩, a5⟩ := h
    subst a1
    unfold lmB pairSt pairOf at hl
    simp only [Bool.and_eq_true] at hl
    obtain ⟨⟨⟨⟨⟨⟨⟨h1, h2⟩, h3⟩, h4⟩, _⟩, _⟩, _⟩, _⟩ := hl
    have ok := name_ok a4
    exact ps_expr (pe_bm PySem.F.plainAttrs_list PySem.F.slot_list_append PySem.F.type_list_append mt_append (pe_var (by rw [g.g.N]; exact a2) (g.g.vs_ a3) ok.d ok.c) (pa_cons (pair_pe g.g TB code rfl h1 h2 h3 h4) pa_nil (star_at rfl)) rfl (few1 rfl) a5 (star_at rfl) (by rfl)) rfl
  · cases h
end
end Mi
end

section
set_option Elab.async false
set_option linter.all false
set_option maxRecDepth 100000
set_option maxHeartbeats 4000000
/-! Mi: a law that tries. -/
namespace Mi
open PySem PySem.Spec PyProof.Rows L2 LamX

theorem gds_cx {P : Program} {w : World} {F : Cf} {mg : Str → Option Value} {base : Heap} {k : Nat} {f : Addr} {qual : Str} {scope : Scope} {cdv : Value} {N ps : List Str} {bl : List Str} {fn gl : Nat → Option Str} {gcd : Bool} {er : Nat → Option (Str × List Str)} {Γ : Tb} {A : Around} {outer : List Env} {s : Shared} {H : Hp} {E : XK}
    (T : TbOk P w F mg base k bl fn gl gcd er Γ) (S : FnScope N ps scope) (gd : A.guards = some []) (room : Room k (A.deeper (envOfC qual scope s.heap.objs.size f cdv))) :
    GdS (cxOf (L2.CX P w) P w F.K mg base N qual scope f cdv A outer s H E) ⟨N, scope, bl, fn, gl, gcd⟩ er F Γ E := by
  have tk : Takes (cxOf (L2.CX P w) P w F.K mg base N qual scope f cdv A outer s H E) (fun c d _ H => E c d H) := takes_of rfl rfl rfl rfl
  refine ⟨⟨rfl, S.nd, rfl, rfl, rfl, gd, room.mono (Nat.zero_le _), T.blt, fun i x h => ?_, T.gl, T.gcd⟩, fun _ => rfl, passes_of (K := fun e s'' => L2.CX P w outer H s E e s'') rfl, ?_, tk, fun c x ns h => T.er c x ns h _ rfl rfl rfl rfl rfl room gd⟩
  · obtain ⟨f, fd, ps, j, sem, h1, h2, h3, h4, h5, h6⟩ := T.fn i x h
    exact ⟨f, fd, ps, j, sem, h1, h2, h3, room.mono h4, passes_call tk fun _ _ _ _ q => q, h5, h6⟩
  · show (if scope.kind.isAnnotationScope then ScopeKind.function else scope.kind) = _
    rw [S.kind]
    rfl
/-- a statement that makes a pair, with what is told of it -/
structure Ms where
  st : Stmt
  caps : List (Str × Nat)
  e : Ex
  due : Ex
abbrev Ms.l (m : Ms) : Lm := lmOf m.st m.caps m.e m.due
def mchk (k : Ck) (ti : Nat) (ms : List Ms) : Bool := ms.all fun m => moreIs k ti m.st && lmB k m.st m.caps m.e m.due
def tMores (ti : Nat) (X : Cx) (F : Cf) (Γ : Tb) (n : Nat) (E : XK) (P : Addr) (u : TS) : List Ms → TS
  | [] => u
  | m :: r => tSeq (sMore ti X F Γ n E P m.l) (tMores ti X F Γ n E P u r)
section
variable {X : Cx} {k : Ck} {er : Nat → Option (Str × List Str)} {F : Cf} {Γ : Tb} {E : XK} {c P : Addr} {ti : Nat} {u : TS} {rest : List Stmt}
theorem mores_ps (g : GdS X k er F Γ E) (TB : TabB X.base X.mg c P) (code : X.env.code = .ref c) (hu : PSs X rest u) : ∀ {ms : List Ms}, mchk k ti ms = true → PSs X (ms.map (·.st) ++ rest) (tMores ti X F Γ k.N.length E P u ms) := by
  intro ms
  induction ms with
  | nil => intro _; exact hu
  | cons m r ih =>
    intro h
    unfold mchk at h
    rw [List.all_cons, Bool.and_eq_true, Bool.and_eq_true] at h
    exact pss_cons (more_ps g TB code h.1.1 h.1.2) (ih h.2)
theorem mores_ok {n : Nat} {ρ : List Sl} {s : Pen} {A : Addr} {O : Addr → Prop} {ad : Nat → Addr} {σ : L2.St} {D0 : Ends} : ∀ {ms : List Ms} {L : List Mk} {H : Hp}, Tl X F n P ti ρ s L A O ad σ H → L.length + ms.length ≤ 1000 → (∀ m ∈ ms, ∃ d, evalE Γ m.due ρ s = .ok d s) →
    (∀ (L' : List Mk) (H' : Hp), Tl X F n P ti ρ s (L ++ L') A O ad σ H' → L'.map (·.l) = ms.map Ms.l → (∀ x ∈ L', evalE Γ x.l.due ρ s = .ok x.d s) → u D0 σ H') → tMores ti X F Γ n E P u ms D0 σ H := by
  intro ms
  induction ms with
  | nil =>
    intro L H T _ _ q
    exact q [] H (by rw [List.append_nil]; exact T) rfl (fun x hx => by cases hx)
  | cons m r ih =>
    intro L H T few hd q
    rw [List.length_cons] at few
    obtain ⟨d, e⟩ := hd m List.mem_cons_self
    have due : ∀ {z : Ex}, m.l.due = z → z = m.due := fun {z} h => by
      rw [← h]
      show (lmOf m.st m.caps m.e m.due).due = m.due
      unfold lmOf
      split <;> rfl
    have ed : m.l.due = m.due := due rfl
    refine more_ok (D0 := { D0 with nx := tMores ti X F Γ n E P u r D0 }) T (by omega) (by rw [ed]; exact e) fun x H' e1 e2 T' => ?_
    refine ih T' (by rw [List.length_append, List.length_singleton]; omega) (fun m' h => hd m' (List.mem_cons_of_mem _ h)) fun L' H'' T'' e3 e4 => ?_
    refine q (x :: L') H'' (by rw [List.append_assoc] at T''; exact T'') (by rw [List.map_cons, List.map_cons, e1, e3]) fun y hy => ?_
    rcases List.mem_cons.mp hy with h | h
    · rw [h, e1, ed, e2]
      exact e
    · exact e4 y h
/-- return cond and x(tries) -/
def lastIs (k : Ck) (ti : Nat) (x : Str) (ce : Ex) : Stmt → Bool
  | .Return (some (.BoolOp .And [a, .Call (.Name x' _) [.Name y _] [] _] _)) _ => chkE k ce a && decide (x' = x) && glob k.sc x && plainName x && decide (k.N[ti]? = some y) && vis k.sc y && plainName y
  | _ => false
def tLast (K : PySem.W.Frag) (X : Cx) (F : Cf) (Γ : Tb) (n : Nat) (E : XK) (ti : Nat) (ce : Ex) (tb : TE) : TS := tRet (tAndT K (tE F Γ n E ce) tb)
theorem last_ps {x : Str} {ce : Ex} {CX : CXT} {j : Nat} {f : Addr} {fd : FuncData} {ps : List Str} {ι : Sort _} {sp : ι → Sp} {st : Stmt} (g : GdS X k er F Γ E) (h : lastIs k ti x ce st = true) (hr : Room j X.A) (hm : X.mg x = some (.ref f)) (hk : PySem.W.keepIn X.K (.ref f) = true) (hb : L2.Binds X.K fd ps []) (hx : Passes CX X E) :
    PS X st (tLast X.K X F Γ k.N.length E ti ce (fun σ H Q => ∃ i, tWide X CX j f fd ps (sp i) E (tCons (tVar ti) tNil) σ H Q)) := by
  unfold lastIs at h
  split at h
  · simp only [Bool.and_eq_true, decide_eq_true_eq] at h
    obtain ⟨⟨⟨⟨⟨⟨h1, h2⟩, h3⟩, h4⟩, h5⟩, h6⟩, h7⟩ := h
    subst h2
    have ok := name_ok h4
    have oky := name_ok h7
    exact ps_ret (pe_andT (sndE ce g.g h1).1 (pe_one (pe_ex fun i => pe_wide g.g.gd hr (g.g.gl_ h3) hm hk hb hx (pa_cons (pe_var (by rw [g.g.N]; exact h5) (g.g.vs_ h6) oky.d oky.c) pa_nil (star_at rfl)) ok.d (star_at rfl) (by rfl))))
  · cases h
end
end Mi
end

section
set_option Elab.async false
set_option linter.all false
set_option maxRecDepth 100000
set_option maxHeartbeats 4000000
namespace K02
open PySem PySem.Spec PyProof.Rows L2 Mi
def top (i : Nat) : Stmt := PySem.Challenge.pw_planpapers_k02_ratios.main.body.getD i (.Pass ⟨0, 0, 0, 0⟩)
def nm : List Str := ["is_whole", "is_pair", "is_ratio", "lowest", "told", "summed", "lessened", "scaled", "parted", "below", "plus", "minus", "times", "share", "less", "_law_draw", "_law_pick", "_law_gcd", "_law_q", "_law_plus", "_law_times", "_law_less", "_law_minus", "_law_share", "_law_number", "_law_handed", "_law_fault", "_law_are_due"]
def bl : List Str := ["isinstance", "int", "bool", "len", "tuple", "list", "dict", "str", "abs", "all", "any", "sum", "repr", "range", "zip", "enumerate", "max", "min"]
def er : Nat → Option (Str × List Str)
  | 0 => some ("BadNumber", ["what", "number"])
  | 1 => some ("BadText", ["line", "column"])
  | 2 => some ("BadProblem", ["what", "value"])
  | 3 => some ("BadLine", ["value"])
  | 4 => some ("BadRow", ["row"])
  | 5 => some ("Unlike", ["what"])
  | 6 => some ("TooMany", ["what", "many", "limit"])
  | _ => none
def gl : Nat → Option Str := fun _ => none
abbrev ck (k : Nat) (N : List Str) (i : Nat) : Ck := ⟨N, defScope (top i), bl, fun g => (nm.take k)[g]?, gl, true⟩
/-- is_whole -/
def b0 : Sts := (.cons (.ret (.and_ (.cons (.isi (.var 0) [.int]) (.cons (.not_ (.isi (.var 0) [.bool])) .nil)))) .nil)
def N0 : List Str := ["value"]
def p0 : List Str := ["value"]
theorem c0 : chkSs (ck 0 N0 11) er b0 (defBody (top 11)) = true := by decide +kernel
theorem s0 : FnScope N0 p0 (defScope (top 11)) := ⟨rfl, rfl, rfl, by decide +kernel, rfl, by decide +kernel, by decide +kernel⟩
/-- is_pair -/
def b1 : Sts := (.cons (.if_ (.or_ (.cons (.not_ (.isi (.var 0) [.tuple, .list])) (.cons (.cmp .ne (.blt .len (.cons (.var 0) .nil)) (.int 2)) .nil))) (.cons (.ret (.bl false)) .nil) .nil) (.cons (.ret (.and_ (.cons (.call 0 (.cons (.sub (.var 0) (.int 0)) .nil)) (.cons (.call 0 (.cons (.sub (.var 0) (.int 1)) .nil)) (.cons (.cmp .gt (.sub (.var 0) (.int 1)) (.int 0)) .nil))))) .nil))
def N1 : List Str := ["value"]
def p1 : List Str := ["value"]
theorem c1 : chkSs (ck 1 N1 13) er b1 (defBody (top 13)) = true := by decide +kernel
theorem s1 : FnScope N1 p1 (defScope (top 13)) := ⟨rfl, rfl, rfl, by decide +kernel, rfl, by decide +kernel, by decide +kernel⟩
/-- is_ratio -/
def b2 : Sts := (.cons (.ret (.or_ (.cons (.call 0 (.cons (.var 0) .nil)) (.cons (.and_ (.cons (.isi (.var 0) [.tuple]) (.cons (.call 1 (.cons (.var 0) .nil)) .nil))) .nil)))) .nil)
def N2 : List Str := ["value"]
def p2 : List Str := ["value"]
theorem c2 : chkSs (ck 2 N2 14) er b2 (defBody (top 14)) = true := by decide +kernel
theorem s2 : FnScope N2 p2 (defScope (top 14)) := ⟨rfl, rfl, rfl, by decide +kernel, rfl, by decide +kernel, by decide +kernel⟩
/-- lowest -/
def b3 : Sts := (.cons (.set 2 (.ite (.cmp .gt (.var 1) (.int 0)) (.blt .gcd (.cons (.var 0) (.cons (.var 1) .nil))) (.neg (.blt .gcd (.cons (.var 0) (.cons (.var 1) .nil)))))) (.cons (.ret (.tup (.cons (.bin .fdiv (.var 0) (.var 2)) (.cons (.bin .fdiv (.var 1) (.var 2)) .nil)))) .nil))
def N3 : List Str := ["top", "bottom", "by"]
def p3 : List Str := ["top", "bottom"]
theorem c3 : chkSs (ck 3 N3 15) er b3 (defBody (top 15)) = true := by decide +kernel
theorem s3 : FnScope N3 p3 (defScope (top 15)) := ⟨rfl, rfl, rfl, by decide +kernel, rfl, by decide +kernel, by decide +kernel⟩
/-- told -/
def b4 : Sts := (.cons (.if_ (.call 0 (.cons (.var 0) .nil)) (.cons (.ret (.tup (.cons (.var 0) (.cons (.int 1) .nil)))) .nil) .nil) (.cons (.if_ (.not_ (.call 1 (.cons (.var 0) .nil))) (.cons (.raise 4 ["row"] (.cons (.var 0) .nil)) .nil) .nil) (.cons (.ret (.call 3 (.cons (.sub (.var 0) (.int 0)) (.cons (.sub (.var 0) (.int 1)) .nil)))) .nil)))
def N4 : List Str := ["ratio"]
def p4 : List Str := ["ratio"]
theorem c4 : chkSs (ck 4 N4 16) er b4 (defBody (top 16)) = true := by decide +kernel
theorem s4 : FnScope N4 p4 (defScope (top 16)) := ⟨rfl, rfl, rfl, by decide +kernel, rfl, by decide +kernel, by decide +kernel⟩
/-- summed -/
def b5 : Sts := (.cons (.ret (.call 3 (.cons (.bin .add (.bin .mul (.sub (.var 0) (.int 0)) (.sub (.var 1) (.int 1))) (.bin .mul (.sub (.var 1) (.int 0)) (.sub (.var 0) (.int 1)))) (.cons (.bin .mul (.sub (.var 0) (.int 1)) (.sub (.var 1) (.int 1))) .nil)))) .nil)
def N5 : List Str := ["one", "other"]
def p5 : List Str := ["one", "other"]
theorem c5 : chkSs (ck 5 N5 17) er b5 (defBody (top 17)) = true := by decide +kernel
theorem s5 : FnScope N5 p5 (defScope (top 17)) := ⟨rfl, rfl, rfl, by decide +kernel, rfl, by decide +kernel, by decide +kernel⟩
/-- lessened -/
def b6 : Sts := (.cons (.ret (.call 3 (.cons (.bin .sub (.bin .mul (.sub (.var 0) (.int 0)) (.sub (.var 1) (.int 1))) (.bin .mul (.sub (.var 1) (.int 0)) (.sub (.var 0) (.int 1)))) (.cons (.bin .mul (.sub (.var 0) (.int 1)) (.sub (.var 1) (.int 1))) .nil)))) .nil)
def N6 : List Str := ["one", "other"]
def p6 : List Str := ["one", "other"]
theorem c6 : chkSs (ck 6 N6 18) er b6 (defBody (top 18)) = true := by decide +kernel
theorem s6 : FnScope N6 p6 (defScope (top 18)) := ⟨rfl, rfl, rfl, by decide +kernel, rfl, by decide +kernel, by decide +kernel⟩
/-- scaled -/
def b7 : Sts := (.cons (.ret (.call 3 (.cons (.bin .mul (.sub (.var 0) (.int 0)) (.sub (.var 1) (.int 0))) (.cons (.bin .mul (.sub (.var 0) (.int 1)) (.sub (.var 1) (.int 1))) .nil)))) .nil)
def N7 : List Str := ["one", "other"]
def p7 : List Str := ["one", "other"]
theorem c7 : chkSs (ck 7 N7 19) er b7 (defBody (top 19)) = true := by decide +kernel
theorem s7 : FnScope N7 p7 (defScope (top 19)) := ⟨rfl, rfl, rfl, by decide +kernel, rfl, by decide +kernel, by decide +kernel⟩
/-- parted -/
def b8 : Sts := (.cons (.ret (.call 3 (.cons (.bin .mul (.sub (.var 0) (.int 0)) (.sub (.var 1) (.int 1))) (.cons (.bin .mul (.sub (.var 0) (.int 1)) (.sub (.var 1) (.int 0))) .nil)))) .nil)
def N8 : List Str := ["one", "other"]
def p8 : List Str := ["one", "other"]
theorem c8 : chkSs (ck 8 N8 20) er b8 (defBody (top 20)) = true := by decide +kernel
theorem s8 : FnScope N8 p8 (defScope (top 20)) := ⟨rfl, rfl, rfl, by decide +kernel, rfl, by decide +kernel, by decide +kernel⟩
/-- below -/
def b9 : Sts := (.cons (.ret (.cmp .lt (.bin .mul (.sub (.var 0) (.int 0)) (.sub (.var 1) (.int 1))) (.bin .mul (.sub (.var 1) (.int 0)) (.sub (.var 0) (.int 1))))) .nil)
def N9 : List Str := ["one", "other"]
def p9 : List Str := ["one", "other"]
theorem c9 : chkSs (ck 9 N9 21) er b9 (defBody (top 21)) = true := by decide +kernel
theorem s9 : FnScope N9 p9 (defScope (top 21)) := ⟨rfl, rfl, rfl, by decide +kernel, rfl, by decide +kernel, by decide +kernel⟩
/-- plus -/
def b10 : Sts := (.cons (.par 2 3 (.call 4 (.cons (.var 0) .nil)) (.call 4 (.cons (.var 1) .nil))) (.cons (.ret (.call 5 (.cons (.var 2) (.cons (.var 3) .nil)))) .nil))
def N10 : List Str := ["one", "other", "first", "second"]
def p10 : List Str := ["one", "other"]
theorem c10 : chkSs (ck 10 N10 22) er b10 (defBody (top 22)) = true := by decide +kernel
theorem s10 : FnScope N10 p10 (defScope (top 22)) := ⟨rfl, rfl, rfl, by decide +kernel, rfl, by decide +kernel, by decide +kernel⟩
/-- minus -/
def b11 : Sts := (.cons (.par 2 3 (.call 4 (.cons (.var 0) .nil)) (.call 4 (.cons (.var 1) .nil))) (.cons (.ret (.call 6 (.cons (.var 2) (.cons (.var 3) .nil)))) .nil))
def N11 : List Str := ["one", "other", "first", "second"]
def p11 : List Str := ["one", "other"]
theorem c11 : chkSs (ck 11 N11 23) er b11 (defBody (top 23)) = true := by decide +kernel
theorem s11 : FnScope N11 p11 (defScope (top 23)) := ⟨rfl, rfl, rfl, by decide +kernel, rfl, by decide +kernel, by decide +kernel⟩
/-- times -/
def b12 : Sts := (.cons (.par 2 3 (.call 4 (.cons (.var 0) .nil)) (.call 4 (.cons (.var 1) .nil))) (.cons (.ret (.call 7 (.cons (.var 2) (.cons (.var 3) .nil)))) .nil))
def N12 : List Str := ["one", "other", "first", "second"]
def p12 : List Str := ["one", "other"]
theorem c12 : chkSs (ck 12 N12 24) er b12 (defBody (top 24)) = true := by decide +kernel
theorem s12 : FnScope N12 p12 (defScope (top 24)) := ⟨rfl, rfl, rfl, by decide +kernel, rfl, by decide +kernel, by decide +kernel⟩
/-- share -/
def b13 : Sts := (.cons (.par 2 3 (.call 4 (.cons (.var 0) .nil)) (.call 4 (.cons (.var 1) .nil))) (.cons (.if_ (.cmp .eq (.sub (.var 3) (.int 0)) (.int 0)) (.cons (.raise 0 ["what", "number"] (.cons (.str "share") (.cons (.int 0) .nil))) .nil) .nil) (.cons (.ret (.call 8 (.cons (.var 2) (.cons (.var 3) .nil)))) .nil)))
def N13 : List Str := ["one", "other", "first", "second"]
def p13 : List Str := ["one", "other"]
theorem c13 : chkSs (ck 13 N13 25) er b13 (defBody (top 25)) = true := by decide +kernel
theorem s13 : FnScope N13 p13 (defScope (top 25)) := ⟨rfl, rfl, rfl, by decide +kernel, rfl, by decide +kernel, by decide +kernel⟩
/-- less -/
def b14 : Sts := (.cons (.par 2 3 (.call 4 (.cons (.var 0) .nil)) (.call 4 (.cons (.var 1) .nil))) (.cons (.ret (.call 9 (.cons (.var 2) (.cons (.var 3) .nil)))) .nil))
def N14 : List Str := ["one", "other", "first", "second"]
def p14 : List Str := ["one", "other"]
theorem c14 : chkSs (ck 14 N14 26) er b14 (defBody (top 26)) = true := by decide +kernel
theorem s14 : FnScope N14 p14 (defScope (top 26)) := ⟨rfl, rfl, rfl, by decide +kernel, rfl, by decide +kernel, by decide +kernel⟩
/-- _law_draw -/
def b15 : Sts := (.cons (.pset 0 .count (.bin .add (.pget 0 .count) (.int 1))) (.cons (.if_ (.and_ (.cons (.cmp .eq (.pget 0 .digits) (.int 0)) (.cons (.cmp .lt (.pget 0 .at_) (.plen 0)) .nil))) (.cons (.set 2 (.pcell 0 (.pget 0 .at_))) (.cons (.pset 0 .at_ (.bin .add (.pget 0 .at_) (.int 1))) (.cons (.if_ (.cmp .ge (.var 2) (.bin .pow (.int 10) (.int 18))) (.cons (.pset 0 .digits (.bin .sub (.var 2) (.bin .pow (.int 10) (.int 18)))) .nil) (.cons (.pset 0 .fold (.bin .mod (.blt .int (.cons (.bin .add (.bin .mul (.pget 0 .fold) (.int 27701)) (.var 2)) .nil)) (.int 2147483137))) .nil)) .nil))) .nil) (.cons (.if_ (.cmp .gt (.pget 0 .digits) (.int 0)) (.cons (.set 3 (.bin .mod (.blt .int (.cons (.pget 0 .digits) .nil)) (.var 1))) (.cons (.pset 0 .digits (.bin .fdiv (.pget 0 .digits) (.var 1))) (.cons (.ret (.var 3)) .nil))) .nil) (.cons (.set 4 (.bin .add (.bin .add (.pget 0 .fold) (.bin .mul (.pget 0 .count) (.int 5657))) (.int 149))) (.cons (.ret (.bin .mod (.bin .fdiv (.blt .int (.cons (.bin .mod (.bin .pow (.var 4) (.int 57)) (.int 2305843009213693951)) .nil)) (.int 512)) (.var 1))) .nil)))))
def N15 : List Str := ["pen", "many", "cell", "digit", "blend"]
def p15 : List Str := ["pen", "many"]
theorem c15 : chkSs (ck 15 N15 29) er b15 (defBody (top 29)) = true := by decide +kernel
theorem s15 : FnScope N15 p15 (defScope (top 29)) := ⟨rfl, rfl, rfl, by decide +kernel, rfl, by decide +kernel, by decide +kernel⟩
/-- _law_pick -/
def b16 : Sts := (.cons (.ret (.sub (.var 1) (.call 15 (.cons (.var 0) (.cons (.blt .len (.cons (.var 1) .nil)) .nil))))) .nil)
def N16 : List Str := ["pen", "some"]
def p16 : List Str := ["pen", "some"]
theorem c16 : chkSs (ck 16 N16 30) er b16 (defBody (top 30)) = true := by decide +kernel
theorem s16 : FnScope N16 p16 (defScope (top 30)) := ⟨rfl, rfl, rfl, by decide +kernel, rfl, by decide +kernel, by decide +kernel⟩
/-- _law_gcd -/
def b17 : Sts := (.cons (.par 0 1 (.blt .abs (.cons (.var 0) .nil)) (.blt .abs (.cons (.var 1) .nil))) (.cons (.for_ (.nm 2) (.rng1 (.bin .add (.int 4) (.bin .mul (.int 2) (.bits (.blt .int (.cons (.var 1) .nil)))))) (.cons (.if_ (.cmp .eq (.var 1) (.int 0)) (.cons .brk .nil) .nil) (.cons (.par 0 1 (.var 1) (.bin .mod (.blt .int (.cons (.var 0) .nil)) (.var 1))) .nil))) (.cons (.ret (.var 0)) .nil)))
def N17 : List Str := ["one", "two", "lap"]
def p17 : List Str := ["one", "two"]
theorem c17 : chkSs (ck 17 N17 31) er b17 (defBody (top 31)) = true := by decide +kernel
theorem s17 : FnScope N17 p17 (defScope (top 31)) := ⟨rfl, rfl, rfl, by decide +kernel, rfl, by decide +kernel, by decide +kernel⟩
/-- _law_q -/
def b18 : Sts := (.cons (.set 2 (.call 17 (.cons (.var 0) (.cons (.var 1) .nil)))) (.cons (.set 2 (.ite (.cmp .lt (.var 1) (.int 0)) (.neg (.var 2)) (.var 2))) (.cons (.ret (.tup (.cons (.bin .fdiv (.var 0) (.var 2)) (.cons (.bin .fdiv (.var 1) (.var 2)) .nil)))) .nil)))
def N18 : List Str := ["top", "bottom", "by"]
def p18 : List Str := ["top", "bottom"]
theorem c18 : chkSs (ck 18 N18 32) er b18 (defBody (top 32)) = true := by decide +kernel
theorem s18 : FnScope N18 p18 (defScope (top 32)) := ⟨rfl, rfl, rfl, by decide +kernel, rfl, by decide +kernel, by decide +kernel⟩
/-- _law_plus -/
def b19 : Sts := (.cons (.ret (.call 18 (.cons (.bin .add (.bin .mul (.sub (.var 0) (.int 0)) (.sub (.var 1) (.int 1))) (.bin .mul (.sub (.var 1) (.int 0)) (.sub (.var 0) (.int 1)))) (.cons (.bin .mul (.sub (.var 0) (.int 1)) (.sub (.var 1) (.int 1))) .nil)))) .nil)
def N19 : List Str := ["one", "two"]
def p19 : List Str := ["one", "two"]
theorem c19 : chkSs (ck 19 N19 33) er b19 (defBody (top 33)) = true := by decide +kernel
theorem s19 : FnScope N19 p19 (defScope (top 33)) := ⟨rfl, rfl, rfl, by decide +kernel, rfl, by decide +kernel, by decide +kernel⟩
/-- _law_times -/
def b20 : Sts := (.cons (.ret (.call 18 (.cons (.bin .mul (.sub (.var 0) (.int 0)) (.sub (.var 1) (.int 0))) (.cons (.bin .mul (.sub (.var 0) (.int 1)) (.sub (.var 1) (.int 1))) .nil)))) .nil)
def N20 : List Str := ["one", "two"]
def p20 : List Str := ["one", "two"]
theorem c20 : chkSs (ck 20 N20 34) er b20 (defBody (top 34)) = true := by decide +kernel
theorem s20 : FnScope N20 p20 (defScope (top 34)) := ⟨rfl, rfl, rfl, by decide +kernel, rfl, by decide +kernel, by decide +kernel⟩
/-- _law_less -/
def b21 : Sts := (.cons (.ret (.cmp .lt (.bin .mul (.sub (.var 0) (.int 0)) (.sub (.var 1) (.int 1))) (.bin .mul (.sub (.var 1) (.int 0)) (.sub (.var 0) (.int 1))))) .nil)
def N21 : List Str := ["one", "two"]
def p21 : List Str := ["one", "two"]
theorem c21 : chkSs (ck 21 N21 35) er b21 (defBody (top 35)) = true := by decide +kernel
theorem s21 : FnScope N21 p21 (defScope (top 35)) := ⟨rfl, rfl, rfl, by decide +kernel, rfl, by decide +kernel, by decide +kernel⟩
/-- _law_minus -/
def b22 : Sts := (.cons (.ret (.call 18 (.cons (.bin .sub (.bin .mul (.sub (.var 0) (.int 0)) (.sub (.var 1) (.int 1))) (.bin .mul (.sub (.var 1) (.int 0)) (.sub (.var 0) (.int 1)))) (.cons (.bin .mul (.sub (.var 0) (.int 1)) (.sub (.var 1) (.int 1))) .nil)))) .nil)
def N22 : List Str := ["one", "two"]
def p22 : List Str := ["one", "two"]
theorem c22 : chkSs (ck 22 N22 36) er b22 (defBody (top 36)) = true := by decide +kernel
theorem s22 : FnScope N22 p22 (defScope (top 36)) := ⟨rfl, rfl, rfl, by decide +kernel, rfl, by decide +kernel, by decide +kernel⟩
/-- _law_share -/
def b23 : Sts := (.cons (.ret (.call 18 (.cons (.bin .mul (.sub (.var 0) (.int 0)) (.sub (.var 1) (.int 1))) (.cons (.bin .mul (.sub (.var 0) (.int 1)) (.sub (.var 1) (.int 0))) .nil)))) .nil)
def N23 : List Str := ["one", "two"]
def p23 : List Str := ["one", "two"]
theorem c23 : chkSs (ck 23 N23 37) er b23 (defBody (top 37)) = true := by decide +kernel
theorem s23 : FnScope N23 p23 (defScope (top 37)) := ⟨rfl, rfl, rfl, by decide +kernel, rfl, by decide +kernel, by decide +kernel⟩
/-- _law_number -/
def b24 : Sts := (.cons (.set 2 (.bin .sub (.call 15 (.cons (.var 0) (.cons (.bin .add (.bin .mul (.int 2) (.var 1)) (.int 1)) .nil))) (.var 1))) (.cons (.ret (.call 18 (.cons (.var 2) (.cons (.call 16 (.cons (.var 0) (.cons (.lst (.cons (.int 1) (.cons (.int 1) (.cons (.int 1) (.cons (.int 2) (.cons (.int 3) .nil)))))) .nil))) .nil)))) .nil))
def N24 : List Str := ["pen", "most", "top"]
def p24 : List Str := ["pen", "most"]
theorem c24 : chkSs (ck 24 N24 38) er b24 (defBody (top 38)) = true := by decide +kernel
theorem s24 : FnScope N24 p24 (defScope (top 38)) := ⟨rfl, rfl, rfl, by decide +kernel, rfl, by decide +kernel, by decide +kernel⟩
/-- _law_handed -/
def b25 : Sts := (.cons (.if_ (.and_ (.cons (.cmp .eq (.sub (.var 1) (.int 1)) (.int 1)) (.cons (.cmp .eq (.call 15 (.cons (.var 0) (.cons (.int 2) .nil))) (.int 0)) .nil))) (.cons (.ret (.sub (.var 1) (.int 0))) .nil) .nil) (.cons (.set 2 (.call 16 (.cons (.var 0) (.cons (.lst (.cons (.int 1) (.cons (.int 1) (.cons (.int 2) (.cons (.int 5) .nil))))) .nil)))) (.cons (.ret (.call 16 (.cons (.var 0) (.cons (.lst (.cons (.tup (.cons (.bin .mul (.sub (.var 1) (.int 0)) (.var 2)) (.cons (.bin .mul (.sub (.var 1) (.int 1)) (.var 2)) .nil))) (.cons (.lst (.cons (.bin .mul (.sub (.var 1) (.int 0)) (.var 2)) (.cons (.bin .mul (.sub (.var 1) (.int 1)) (.var 2)) .nil))) .nil))) .nil)))) .nil)))
def N25 : List Str := ["pen", "ratio", "by"]
def p25 : List Str := ["pen", "ratio"]
theorem c25 : chkSs (ck 25 N25 39) er b25 (defBody (top 39)) = true := by decide +kernel
theorem s25 : FnScope N25 p25 (defScope (top 39)) := ⟨rfl, rfl, rfl, by decide +kernel, rfl, by decide +kernel, by decide +kernel⟩
-- 26 _law_fault: by hand
/-- _law_are_due -/
def b27 : Sts := (.cons (.ret (.blt .all (.cons (.comp [("work", 1), ("due", 2)] (.tup [1, 2]) (.ex (.var 0)) .nil (.cmp .eq (.blt .repr (.cons (.call 26 (.cons (.var 1) .nil)) .nil)) (.blt .repr (.cons (.var 2) .nil)))) .nil))) .nil)
def N27 : List Str := ["tries", "work", "due"]
def p27 : List Str := ["tries"]
theorem c27 : chkSs (ck 27 N27 41) er b27 (defBody (top 41)) = true := by decide +kernel
theorem s27 : FnScope N27 p27 (defScope (top 41)) := ⟨rfl, rfl, rfl, by decide +kernel, rfl, by decide +kernel, by decide +kernel⟩
end K02
end

section
set_option Elab.async false
set_option linter.all false
set_option maxRecDepth 100000
set_option maxHeartbeats 4000000
namespace K02
open PySem PySem.Spec PyProof.Rows L2 LamX Mi
/-! ### the parts of the text -/
def clsSt (st : Stmt) : Stmt := match st with
  | .ClassDef _ _ _ (m :: _) _ _ _ _ _ _ _ => m
  | s => s
def stl (j : Nat) : Stmt := (defBody (top 42)).getD j (.Pass ⟨0, 0, 0, 0⟩)
def dfs : List (Nat × Str) := [(11, "is_whole"), (13, "is_pair"), (14, "is_ratio"), (15, "lowest"), (16, "told"), (17, "summed"), (18, "lessened"), (19, "scaled"), (20, "parted"), (21, "below"), (22, "plus"), (23, "minus"), (24, "times"), (25, "share"), (26, "less"), (28, "_law_pen"), (29, "_law_draw"), (30, "_law_pick"), (31, "_law_gcd"), (32, "_law_q"), (33, "_law_plus"), (34, "_law_times"), (35, "_law_less"), (36, "_law_minus"), (37, "_law_share"), (38, "_law_number"), (39, "_law_handed"), (40, "_law_fault"), (41, "_law_are_due"), (42, "law")]
def inis : List (Nat × Str) := [(3, "BadNumber"), (4, "BadText"), (5, "BadProblem"), (6, "BadLine"), (7, "BadRow"), (8, "Unlike"), (9, "TooMany")]
def classes : List Str := ["PlanError", "BadNumber", "BadText", "BadProblem", "BadLine", "BadRow", "Unlike", "TooMany"]
def lawN : List Str := ["script", "pen", "lap", "one", "two", "a", "b", "due", "bad", "odd", "zero", "tries"]
def mid : Sts := (.cons (.for_ (.nm 2) (.rng1 (.int 6)) (.cons (.par 3 4 (.call 24 (.cons (.var 1) (.cons (.call 16 (.cons (.var 1) (.cons (.lst (.cons (.int 4) (.cons (.int 99999) .nil))) .nil))) .nil))) (.call 24 (.cons (.var 1) (.cons (.int 9) .nil)))) (.cons (.if_ (.cmp .eq (.call 15 (.cons (.var 1) (.cons (.int 3) .nil))) (.int 0)) (.cons (.set 3 (.call 18 (.cons (.bin .sub (.bin .mul (.sub (.var 3) (.int 0)) (.int 5)) (.int 3)) (.cons (.int 999959) .nil)))) .nil) .nil) (.cons (.par 5 6 (.call 25 (.cons (.var 1) (.cons (.var 3) .nil))) (.call 25 (.cons (.var 1) (.cons (.var 4) .nil)))) (.cons (.set 7 (.lst (.cons (.var 3) (.cons (.call 19 (.cons (.var 3) (.cons (.var 4) .nil))) (.cons (.call 22 (.cons (.var 3) (.cons (.var 4) .nil))) (.cons (.call 20 (.cons (.var 3) (.cons (.var 4) .nil))) (.cons (.call 21 (.cons (.var 3) (.cons (.var 4) .nil))) .nil))))))) (.cons (.if_ (.cmp .ne (.blt .repr (.cons (.lst (.cons (.call 4 (.cons (.var 5) .nil)) (.cons (.call 10 (.cons (.var 5) (.cons (.var 6) .nil))) (.cons (.call 11 (.cons (.var 5) (.cons (.var 6) .nil))) (.cons (.call 12 (.cons (.var 5) (.cons (.var 6) .nil))) (.cons (.call 14 (.cons (.var 5) (.cons (.var 6) .nil))) .nil)))))) .nil)) (.blt .repr (.cons (.var 7) .nil))) (.cons (.ret (.bl false)) .nil) .nil) (.cons (.if_ (.cmp .ne (.blt .repr (.cons (.call 2 (.cons (.var 5) .nil)) .nil)) (.blt .repr (.cons (.not_ (.isi (.var 5) [.list])) .nil))) (.cons (.ret (.bl false)) .nil) .nil) (.cons (.if_ (.and_ (.cons (.cmp .ne (.sub (.var 4) (.int 0)) (.int 0)) (.cons (.cmp .ne (.blt .repr (.cons (.call 13 (.cons (.var 5) (.cons (.var 6) .nil))) .nil)) (.blt .repr (.cons (.call 23 (.cons (.var 3) (.cons (.var 4) .nil))) .nil))) .nil))) (.cons (.ret (.bl false)) .nil) .nil) .nil)))))))) (.cons (.set 8 (.call 16 (.cons (.var 1) (.cons (.lst (.cons .non (.cons (.str "1") (.cons (.tup (.cons (.int 1) .nil)) (.cons (.tup (.cons (.int 1) (.cons (.int 0) .nil))) (.cons (.tup (.cons (.int 1) (.cons (.neg (.int 2)) .nil))) (.cons (.tup (.cons (.bl true) (.cons (.int 2) .nil))) (.cons (.tup (.cons (.int 1) (.cons (.bl true) .nil))) (.cons (.bl true) (.cons (.tup (.cons (.int 1) (.cons (.int 2) (.cons (.int 3) .nil)))) (.cons (.lst .nil) (.cons .dnew .nil)))))))))))) .nil)))) (.cons (.tup (.tup [9, 10]) (.tup (.cons (.call 16 (.cons (.var 1) (.cons (.lst (.cons (.str "x") (.cons (.tup (.cons (.int 0) (.cons (.int 0) .nil))) (.cons .non .nil)))) .nil))) (.cons (.call 16 (.cons (.var 1) (.cons (.lst (.cons (.int 0) (.cons (.tup (.cons (.int 0) (.cons (.int 6) .nil))) .nil))) .nil))) .nil)))) .nil)))
def cp0 : List (Str × Nat) := [("bad", 8)]
def le0 : Ex := (.call 4 (.cons (.var 0) .nil))
def ld0 : Ex := (.tup (.cons (.str "row") (.cons (.var 8) .nil)))
def l0 : Lm := lmOf (stl 4) cp0 le0 ld0
def cp1 : List (Str × Nat) := [("bad", 8), ("odd", 9)]
def le1 : Ex := (.call 10 (.cons (.var 0) (.cons (.var 1) .nil)))
def ld1 : Ex := (.tup (.cons (.str "row") (.cons (.var 8) .nil)))
def l1 : Lm := lmOf (stl 5) cp1 le1 ld1
def cp2 : List (Str × Nat) := [("bad", 8)]
def le2 : Ex := (.call 11 (.cons (.int 1) (.cons (.var 0) .nil)))
def ld2 : Ex := (.tup (.cons (.str "row") (.cons (.var 8) .nil)))
def l2 : Lm := lmOf (stl 6) cp2 le2 ld2
def cp3 : List (Str × Nat) := [("odd", 9), ("bad", 8)]
def le3 : Ex := (.call 12 (.cons (.var 0) (.cons (.var 1) .nil)))
def ld3 : Ex := (.tup (.cons (.str "row") (.cons (.var 9) .nil)))
def l3 : Lm := lmOf (stl 7) cp3 le3 ld3
def cp4 : List (Str × Nat) := [("bad", 8)]
def le4 : Ex := (.call 14 (.cons (.tup (.cons (.int 1) (.cons (.int 2) .nil))) (.cons (.var 0) .nil)))
def ld4 : Ex := (.tup (.cons (.str "row") (.cons (.var 8) .nil)))
def l4 : Lm := lmOf (stl 8) cp4 le4 ld4
def cp5 : List (Str × Nat) := [("bad", 8)]
def le5 : Ex := (.call 13 (.cons (.var 0) (.cons (.int 0) .nil)))
def ld5 : Ex := (.tup (.cons (.str "row") (.cons (.var 8) .nil)))
def l5 : Lm := lmOf (stl 9) cp5 le5 ld5
def cp6 : List (Str × Nat) := [("bad", 8)]
def le6 : Ex := (.call 13 (.cons (.int 1) (.cons (.var 0) .nil)))
def ld6 : Ex := (.tup (.cons (.str "row") (.cons (.var 8) .nil)))
def l6 : Lm := lmOf (stl 10) cp6 le6 ld6
def cp7 : List (Str × Nat) := [("zero", 10)]
def le7 : Ex := (.call 13 (.cons (.int 3) (.cons (.var 0) .nil)))
def ld7 : Ex := (.tup (.cons (.str "number") (.cons (.str "share") (.cons (.int 0) .nil))))
def l7 : Lm := lmOf (stl 11) cp7 le7 ld7
def Ls : List Lm := [l0, l1, l2, l3, l4, l5, l6, l7]
def cls : List Cl := [⟨3, "BadLine", "line", ["value"]⟩, ⟨0, "BadNumber", "number", ["what", "number"]⟩, ⟨2, "BadProblem", "problem", ["what", "value"]⟩, ⟨4, "BadRow", "row", ["row"]⟩, ⟨1, "BadText", "text", ["line", "column"]⟩, ⟨6, "TooMany", "many", ["what", "many", "limit"]⟩, ⟨5, "Unlike", "unlike", ["what"]⟩]
def en : Nat → Str
  | 0 => "BadNumber"
  | 1 => "BadText"
  | 2 => "BadProblem"
  | 3 => "BadLine"
  | 4 => "BadRow"
  | 5 => "Unlike"
  | 6 => "TooMany"
  | _ => ""
def ecs : List (Nat × Str × List Str) := [(0, "BadNumber", ["what", "number"]), (1, "BadText", ["line", "column"]), (2, "BadProblem", ["what", "value"]), (3, "BadLine", ["value"]), (4, "BadRow", ["row"]), (5, "Unlike", ["what"]), (6, "TooMany", ["what", "many", "limit"])]
/-! ### facts of the head -/
def dF (p : Nat × Str) : He.DefD := ⟨(p.2, none), p.2, p.2, defArgs (top p.1), defBody (top p.1), defScope (top p.1), [], []⟩
def dI (p : Nat × Str) : He.DefD := ⟨(p.2, some "__init__"), "__init__", p.2 ++ ".__init__", defArgs (clsSt (top p.1)), defBody (clsSt (top p.1)), defScope (clsSt (top p.1)), [], []⟩
def fn : List He.DefD := dfs.map dF ++ inis.map dI
def fa : List He.Fa := ((dfs.map (·.2)) ++ classes).map He.Fa.glo ++ bl.map He.Fa.free
def errB (K : PySem.W.Frag) (e : Nat × Str × List Str) : Bool := oexB K (He.ga K e.2.1) && decide (PySem.W.findIn K (.ref (He.ga K e.2.1)) "__init__" = some (some (.ref (He.ma K (He.ga K e.2.1) "__init__")))) && decide (PySem.W.typeIn K (.ref (He.ma K (He.ga K e.2.1) "__init__")) = some (.type "function")) &&
  e.2.2.all (fun y => decide (PySem.W.findIn K (.ref (He.ga K e.2.1)) y = some none)) && xfB K (He.ga K e.2.1)
def exB (K : PySem.W.Frag) : Bool := ecs.all (errB K) && ecs.all (fun e => ecs.all fun g => decide (PySem.W.exmOne K (.ref (He.ga K g.2.1)) (.ref (He.ga K e.2.1)) = some (decide (e.1 = g.1)))) && bexB K (He.ga K "PlanError") && decide (PySem.W.nsIn K mainGlobals "gcd" = some (some (.builtin "math.gcd")))
structure Kn (K : PySem.W.Frag) (mg : Str → Option Value) : Prop where
  glo : ∀ x ∈ (dfs.map (·.2)) ++ classes, mg x = some (.ref (He.ga K x))
  free : ∀ x ∈ bl, mg x = none
  fd : ∀ p ∈ dfs, ∃ fd, FunD K p.2 p.2 (defArgs (top p.1)) (defBody (top p.1)) (defScope (top p.1)) [] [] (He.ga K p.2) fd
  ini : ∀ p ∈ inis, ∃ fd, FunD K "__init__" (p.2 ++ ".__init__") (defArgs (clsSt (top p.1))) (defBody (clsSt (top p.1))) (defScope (clsSt (top p.1))) [] [] (He.ma K (He.ga K p.2) "__init__") fd
  ex : exB K = true
  gcd : mg "gcd" = some (.builtin "math.gcd")
theorem kn_of {K : PySem.W.Frag} {h : Heap} {mg : Str → Option Value} (X : K.In h) (G : h.Ns mainGlobals mg) (c : SaysM fa fn [("law", none)] exB h K) : Kn K mg := by
  have ex := c.more
  refine ⟨fun x hx => He.glo_ok X G (c.d.facts (List.mem_append_left _ (List.mem_map.mpr ⟨x, hx, rfl⟩))), fun x hx => He.free_ok X G (c.d.facts (List.mem_append_right _ (List.mem_map.mpr ⟨x, hx, rfl⟩))), fun p hp => c.d.defs (d := dF p) (List.mem_append_left _ (List.mem_map.mpr ⟨p, hp, rfl⟩)),
    fun p hp => c.d.defs (d := dI p) (List.mem_append_right _ (List.mem_map.mpr ⟨p, hp, rfl⟩)), ex, ?_⟩
  unfold exB at ex
  simp only [Bool.and_eq_true, decide_eq_true_eq] at ex
  exact PySem.W.mg_of X G ex.2
section
variable {P : Program} {w : World} {K : PySem.W.Frag} {mg : Str → Option Value} {base : Heap}
/-! ### the error classes -/
theorem err_at (n : Kn K mg) {e : Nat × Str × List Str} (he : e ∈ ecs) : OexC K (He.ga K e.2.1) ∧ PySem.W.findIn K (.ref (He.ga K e.2.1)) "__init__" = some (some (.ref (He.ma K (He.ga K e.2.1) "__init__"))) ∧ PySem.W.typeIn K (.ref (He.ma K (He.ga K e.2.1) "__init__")) = some (.type "function") ∧
    (∀ y ∈ e.2.2, PySem.W.findIn K (.ref (He.ga K e.2.1)) y = some none) ∧ XfC K (He.ga K e.2.1) := by
  have ex := n.ex
  unfold exB at ex
  simp only [Bool.and_eq_true] at ex
  have h := List.all_eq_true.mp ex.1.1.1 e he
  unfold errB at h
  simp only [Bool.and_eq_true, decide_eq_true_eq] at h
  obtain ⟨⟨⟨⟨h1, h2⟩, h3⟩, h4⟩, h5⟩ := h
  exact ⟨oex_of h1, h2, h3, fun y hy => of_decide_eq_true (List.all_eq_true.mp h4 y hy), xfB_ok h5⟩
theorem bex_at (n : Kn K mg) : Bex K (He.ga K "PlanError") := by
  have ex := n.ex
  unfold exB at ex
  simp only [Bool.and_eq_true] at ex
  exact bex_of ex.1.2
theorem exm_at (n : Kn K mg) {e g : Nat × Str × List Str} (he : e ∈ ecs) (hg : g ∈ ecs) : PySem.W.exmOne K (.ref (He.ga K g.2.1)) (.ref (He.ga K e.2.1)) = some (decide (e.1 = g.1)) := by
  have ex := n.ex
  unfold exB at ex
  simp only [Bool.and_eq_true] at ex
  exact of_decide_eq_true (List.all_eq_true.mp (List.all_eq_true.mp ex.1.1.2 e he) g hg)
theorem is0 : FnScope ("self" :: ["what", "number"]) ("self" :: ["what", "number"]) (defScope (clsSt (top 3))) := ⟨rfl, rfl, rfl, by decide +kernel, rfl, by decide +kernel, by decide +kernel⟩
theorem ic0 : initIs "PlanError" ["what", "number"] (defBody (clsSt (top 3))) = true := by decide +kernel
theorem iv0 : scB (defScope (clsSt (top 3))) ("self" :: ["what", "number"]) "PlanError" = true := by decide +kernel
theorem is1 : FnScope ("self" :: ["line", "column"]) ("self" :: ["line", "column"]) (defScope (clsSt (top 4))) := ⟨rfl, rfl, rfl, by decide +kernel, rfl, by decide +kernel, by decide +kernel⟩
theorem ic1 : initIs "PlanError" ["line", "column"] (defBody (clsSt (top 4))) = true := by decide +kernel
theorem iv1 : scB (defScope (clsSt (top 4))) ("self" :: ["line", "column"]) "PlanError" = true := by decide +kernel
theorem is2 : FnScope ("self" :: ["what", "value"]) ("self" :: ["what", "value"]) (defScope (clsSt (top 5))) := ⟨rfl, rfl, rfl, by decide +kernel, rfl, by decide +kernel, by decide +kernel⟩
theorem ic2 : initIs "PlanError" ["what", "value"] (defBody (clsSt (top 5))) = true := by decide +kernel
theorem iv2 : scB (defScope (clsSt (top 5))) ("self" :: ["what", "value"]) "PlanError" = true := by decide +kernel
theorem is3 : FnScope ("self" :: ["value"]) ("self" :: ["value"]) (defScope (clsSt (top 6))) := ⟨rfl, rfl, rfl, by decide +kernel, rfl, by decide +kernel, by decide +kernel⟩
theorem ic3 : initIs "PlanError" ["value"] (defBody (clsSt (top 6))) = true := by decide +kernel
theorem iv3 : scB (defScope (clsSt (top 6))) ("self" :: ["value"]) "PlanError" = true := by decide +kernel
theorem is4 : FnScope ("self" :: ["row"]) ("self" :: ["row"]) (defScope (clsSt (top 7))) := ⟨rfl, rfl, rfl, by decide +kernel, rfl, by decide +kernel, by decide +kernel⟩
theorem ic4 : initIs "PlanError" ["row"] (defBody (clsSt (top 7))) = true := by decide +kernel
theorem iv4 : scB (defScope (clsSt (top 7))) ("self" :: ["row"]) "PlanError" = true := by decide +kernel
theorem is5 : FnScope ("self" :: ["what"]) ("self" :: ["what"]) (defScope (clsSt (top 8))) := ⟨rfl, rfl, rfl, by decide +kernel, rfl, by decide +kernel, by decide +kernel⟩
theorem ic5 : initIs "PlanError" ["what"] (defBody (clsSt (top 8))) = true := by decide +kernel
theorem iv5 : scB (defScope (clsSt (top 8))) ("self" :: ["what"]) "PlanError" = true := by decide +kernel
theorem is6 : FnScope ("self" :: ["what", "many", "limit"]) ("self" :: ["what", "many", "limit"]) (defScope (clsSt (top 9))) := ⟨rfl, rfl, rfl, by decide +kernel, rfl, by decide +kernel, by decide +kernel⟩
theorem ic6 : initIs "PlanError" ["what", "many", "limit"] (defBody (clsSt (top 9))) = true := by decide +kernel
theorem iv6 : scB (defScope (clsSt (top 9))) ("self" :: ["what", "many", "limit"]) "PlanError" = true := by decide +kernel
def clF (K : PySem.W.Frag) (p c : Addr) (cl : Addr → Nat → List V → Prop) : Cf := ⟨K, fun i => He.ga K (en i), p, c, cl⟩
theorem er_all (n : Kn K mg) {pp cc : Addr} {cl : Addr → Nat → List V → Prop} : ∀ c x ns, er c = some (x, ns) → ∀ X : Cx, X.prog = P → X.w = w → X.K = K → X.mg = mg → X.base = base → Room 2 X.A → X.A.guards = some [] → ckEr X (clF K pp cc cl) c x ns := by
  intro c x ns h X h1 h2 h3 h4 h5 room _
  subst h1 h2 h3 h4 h5
  have hb := n.glo "PlanError" (by decide +kernel)
  have TB := bex_at n
  match c, h with
  | 0, h =>
    cases h
    obtain ⟨T, iC, tI, no, _⟩ := err_at n (e := (0, "BadNumber", ["what", "number"])) (by decide +kernel)
    obtain ⟨fd, FD⟩ := n.ini (3, "BadNumber") (by decide +kernel)
    have bd : L2.Binds X.K fd ("self" :: ["what", "number"]) [] := FD.bindsN fun _ _ _ _ _ _ us hl => match us, hl with | [_, _, _], _ => by kernel_rfl
    exact ck_err T iC tI (ok_init FD is0 rfl (by decide) iv0 hb TB T no ic0) room bd (n.glo "BadNumber" (by decide +kernel)) (by decide)
  | 1, h =>
    cases h
    obtain ⟨T, iC, tI, no, _⟩ := err_at n (e := (1, "BadText", ["line", "column"])) (by decide +kernel)
    obtain ⟨fd, FD⟩ := n.ini (4, "BadText") (by decide +kernel)
    have bd : L2.Binds X.K fd ("self" :: ["line", "column"]) [] := FD.bindsN fun _ _ _ _ _ _ us hl => match us, hl with | [_, _, _], _ => by kernel_rfl
    exact ck_err T iC tI (ok_init FD is1 rfl (by decide) iv1 hb TB T no ic1) room bd (n.glo "BadText" (by decide +kernel)) (by decide)
  | 2, h =>
    cases h
    obtain ⟨T, iC, tI, no, _⟩ := err_at n (e := (2, "BadProblem", ["what", "value"])) (by decide +kernel)
    obtain ⟨fd, FD⟩ := n.ini (5, "BadProblem") (by decide +kernel)
    have bd : L2.Binds X.K fd ("self" :: ["what", "value"]) [] := FD.bindsN fun _ _ _ _ _ _ us hl => match us, hl with | [_, _, _], _ => by kernel_rfl
    exact ck_err T iC tI (ok_init FD is2 rfl (by decide) iv2 hb TB T no ic2) room bd (n.glo "BadProblem" (by decide +kernel)) (by decide)
  | 3, h =>
    cases h
    obtain ⟨T, iC, tI, no, _⟩ := err_at n (e := (3, "BadLine", ["value"])) (by decide +kernel)
    obtain ⟨fd, FD⟩ := n.ini (6, "BadLine") (by decide +kernel)
    have bd : L2.Binds X.K fd ("self" :: ["value"]) [] := FD.bindsN fun _ _ _ _ _ _ us hl => match us, hl with | [_, _], _ => by kernel_rfl
    exact ck_err T iC tI (ok_init FD is3 rfl (by decide) iv3 hb TB T no ic3) room bd (n.glo "BadLine" (by decide +kernel)) (by decide)
  | 4, h =>
    cases h
    obtain ⟨T, iC, tI, no, _⟩ := err_at n (e := (4, "BadRow", ["row"])) (by decide +kernel)
    obtain ⟨fd, FD⟩ := n.ini (7, "BadRow") (by decide +kernel)
    have bd : L2.Binds X.K fd ("self" :: ["row"]) [] := FD.bindsN fun _ _ _ _ _ _ us hl => match us, hl with | [_, _], _ => by kernel_rfl
    exact ck_err T iC tI (ok_init FD is4 rfl (by decide) iv4 hb TB T no ic4) room bd (n.glo "BadRow" (by decide +kernel)) (by decide)
  | 5, h =>
    cases h
    obtain ⟨T, iC, tI, no, _⟩ := err_at n (e := (5, "Unlike", ["what"])) (by decide +kernel)
    obtain ⟨fd, FD⟩ := n.ini (8, "Unlike") (by decide +kernel)
    have bd : L2.Binds X.K fd ("self" :: ["what"]) [] := FD.bindsN fun _ _ _ _ _ _ us hl => match us, hl with | [_, _], _ => by kernel_rfl
    exact ck_err T iC tI (ok_init FD is5 rfl (by decide) iv5 hb TB T no ic5) room bd (n.glo "Unlike" (by decide +kernel)) (by decide)
  | 6, h =>
    cases h
    obtain ⟨T, iC, tI, no, _⟩ := err_at n (e := (6, "TooMany", ["what", "many", "limit"])) (by decide +kernel)
    obtain ⟨fd, FD⟩ := n.ini (9, "TooMany") (by decide +kernel)
    have bd : L2.Binds X.K fd ("self" :: ["what", "many", "limit"]) [] := FD.bindsN fun _ _ _ _ _ _ us hl => match us, hl with | [_, _, _, _], _ => by kernel_rfl
    exact ck_err T iC tI (ok_init FD is6 rfl (by decide) iv6 hb TB T no ic6) room bd (n.glo "TooMany" (by decide +kernel)) (by decide)
  | _ + 7, h => cases h
/-! ### the defs -/
def eB : List Ent := [(p0.length, fun Γ => semF Γ N0.length b0), (p1.length, fun Γ => semF Γ N1.length b1), (p2.length, fun Γ => semF Γ N2.length b2), (p3.length, fun Γ => semF Γ N3.length b3), (p4.length, fun Γ => semF Γ N4.length b4), (p5.length, fun Γ => semF Γ N5.length b5), (p6.length, fun Γ => semF Γ N6.length b6), (p7.length, fun Γ => semF Γ N7.length b7), (p8.length, fun Γ => semF Γ N8.length b8), (p9.length, fun Γ => semF Γ N9.length b9), (p10.length, fun Γ => semF Γ N10.length b10), (p11.length, fun Γ => semF Γ N11.length b11), (p12.length, fun Γ => semF Γ N12.length b12), (p13.length, fun Γ => semF Γ N13.length b13), (p14.length, fun Γ => semF Γ N14.length b14), (p15.length, fun Γ => semF Γ N15.length b15), (p16.length, fun Γ => semF Γ N16.length b16), (p17.length, fun Γ => semF Γ N17.length b17), (p18.length, fun Γ => semF Γ N18.length b18), (p19.length, fun Γ => semF Γ N19.length b19), (p20.length, fun Γ => semF Γ N20.length b20), (p21.length, fun Γ => semF Γ N21.length b21), (p22.length, fun Γ => semF Γ N22.length b22), (p23.length, fun Γ => semF Γ N23.length b23), (p24.length, fun Γ => semF Γ N24.length b24), (p25.length, fun Γ => semF Γ N25.length b25)]
theorem t0 {ents : List Ent} (n : Kn K mg) {pp cc : Addr} {cl : Addr → Nat → List V → Prop} : TbOk P w (clF K pp cc cl) mg base 2 bl (fnOfL nm 0) noGl true er (tbT ents 0) := tb_zero n.free (fun _ => n.gcd) (er_all n)
theorem t1 {ents : List Ent} (hE : ∀ m, m < 26 → ents[m]? = eB[m]?) (n : Kn K mg) {pp cc : Addr} {cl : Addr → Nat → List V → Prop} : TbOk P w (clF K pp cc cl) mg base 3 bl (fnOfL nm 1) noGl true er (tbT ents 1) := by
  obtain ⟨fd, FD⟩ := n.fd (11, "is_whole") (by decide +kernel)
  exact tb_def (t0 n) FD s0 rfl (hE 0 (by decide)) (n.glo "is_whole" (by decide +kernel)) (FD.bindsN fun _ _ _ _ _ _ us hl => match us, hl with | [_], _ => by kernel_rfl) c0
theorem t2 {ents : List Ent} (hE : ∀ m, m < 26 → ents[m]? = eB[m]?) (n : Kn K mg) {pp cc : Addr} {cl : Addr → Nat → List V → Prop} : TbOk P w (clF K pp cc cl) mg base 4 bl (fnOfL nm 2) noGl true er (tbT ents 2) := by
  obtain ⟨fd, FD⟩ := n.fd (13, "is_pair") (by decide +kernel)
  exact tb_def (t1 hE n) FD s1 rfl (hE 1 (by decide)) (n.glo "is_pair" (by decide +kernel)) (FD.bindsN fun _ _ _ _ _ _ us hl => match us, hl with | [_], _ => by kernel_rfl) c1
theorem t3 {ents : List Ent} (hE : ∀ m, m < 26 → ents[m]? = eB[m]?) (n : Kn K mg) {pp cc : Addr} {cl : Addr → Nat → List V → Prop} : TbOk P w (clF K pp cc cl) mg base 5 bl (fnOfL nm 3) noGl true er (tbT ents 3) := by
  obtain ⟨fd, FD⟩ := n.fd (14, "is_ratio") (by decide +kernel)
  exact tb_def (t2 hE n) FD s2 rfl (hE 2 (by decide)) (n.glo "is_ratio" (by decide +kernel)) (FD.bindsN fun _ _ _ _ _ _ us hl => match us, hl with | [_], _ => by kernel_rfl) c2
theorem t4 {ents : List Ent} (hE : ∀ m, m < 26 → ents[m]? = eB[m]?) (n : Kn K mg) {pp cc : Addr} {cl : Addr → Nat → List V → Prop} : TbOk P w (clF K pp cc cl) mg base 6 bl (fnOfL nm 4) noGl true er (tbT ents 4) := by
  obtain ⟨fd, FD⟩ := n.fd (15, "lowest") (by decide +kernel)
  exact tb_def (t3 hE n) FD s3 rfl (hE 3 (by decide)) (n.glo "lowest" (by decide +kernel)) (FD.bindsN fun _ _ _ _ _ _ us hl => match us, hl with | [_, _], _ => by kernel_rfl) c3
theorem t5 {ents : List Ent} (hE : ∀ m, m < 26 → ents[m]? = eB[m]?) (n : Kn K mg) {pp cc : Addr} {cl : Addr → Nat → List V → Prop} : TbOk P w (clF K pp cc cl) mg base 7 bl (fnOfL nm 5) noGl true er (tbT ents 5) := by
  obtain ⟨fd, FD⟩ := n.fd (16, "told") (by decide +kernel)
  exact tb_def (t4 hE n) FD s4 rfl (hE 4 (by decide)) (n.glo "told" (by decide +kernel)) (FD.bindsN fun _ _ _ _ _ _ us hl => match us, hl with | [_], _ => by kernel_rfl) c4
theorem t6 {ents : List Ent} (hE : ∀ m, m < 26 → ents[m]? = eB[m]?) (n : Kn K mg) {pp cc : Addr} {cl : Addr → Nat → List V → Prop} : TbOk P w (clF K pp cc cl) mg base 8 bl (fnOfL nm 6) noGl true er (tbT ents 6) := by
  obtain ⟨fd, FD⟩ := n.fd (17, "summed") (by decide +kernel)
  exact tb_def (t5 hE n) FD s5 rfl (hE 5 (by decide)) (n.glo "summed" (by decide +kernel)) (FD.bindsN fun _ _ _ _ _ _ us hl => match us, hl with | [_, _], _ => by kernel_rfl) c5
theorem t7 {ents : List Ent} (hE : ∀ m, m < 26 → ents[m]? = eB[m]?) (n : Kn K mg) {pp cc : Addr} {cl : Addr → Nat → List V → Prop} : TbOk P w (clF K pp cc cl) mg base 9 bl (fnOfL nm 7) noGl true er (tbT ents 7) := by
  obtain ⟨fd, FD⟩ := n.fd (18, "lessened") (by decide +kernel)
  exact tb_def (t6 hE n) FD s6 rfl (hE 6 (by decide)) (n.glo "lessened" (by decide +kernel)) (FD.bindsN fun _ _ _ _ _ _ us hl => match us, hl with | [_, _], _ => by kernel_rfl) c6
theorem t8 {ents : List Ent} (hE : ∀ m, m < 26 → ents[m]? = eB[m]?) (n : Kn K mg) {pp cc : Addr} {cl : Addr → Nat → List V → Prop} : TbOk P w (clF K pp cc cl) mg base 10 bl (fnOfL nm 8) noGl true er (tbT ents 8) := by
  obtain ⟨fd, FD⟩ := n.fd (19, "scaled") (by decide +kernel)
  exact tb_def (t7 hE n) FD s7 rfl (hE 7 (by decide)) (n.glo "scaled" (by decide +kernel)) (FD.bindsN fun _ _ _ _ _ _ us hl => match us, hl with | [_, _], _ => by kernel_rfl) c7
theorem t9 {ents : List Ent} (hE : ∀ m, m < 26 → ents[m]? = eB[m]?) (n : Kn K mg) {pp cc : Addr} {cl : Addr → Nat → List V → Prop} : TbOk P w (clF K pp cc cl) mg base 11 bl (fnOfL nm 9) noGl true er (tbT ents 9) := by
  obtain ⟨fd, FD⟩ := n.fd (20, "parted") (by decide +kernel)
  exact tb_def (t8 hE n) FD s8 rfl (hE 8 (by decide)) (n.glo "parted" (by decide +kernel)) (FD.bindsN fun _ _ _ _ _ _ us hl => match us, hl with | [_, _], _ => by kernel_rfl) c8
theorem t10 {ents : List Ent} (hE : ∀ m, m < 26 → ents[m]? = eB[m]?) (n : Kn K mg) {pp cc : Addr} {cl : Addr → Nat → List V → Prop} : TbOk P w (clF K pp cc cl) mg base 12 bl (fnOfL nm 10) noGl true er (tbT ents 10) := by
  obtain ⟨fd, FD⟩ := n.fd (21, "below") (by decide +kernel)
  exact tb_def (t9 hE n) FD s9 rfl (hE 9 (by decide)) (n.glo "below" (by decide +kernel)) (FD.bindsN fun _ _ _ _ _ _ us hl => match us, hl with | [_, _], _ => by kernel_rfl) c9
theorem t11 {ents : List Ent} (hE : ∀ m, m < 26 → ents[m]? = eB[m]?) (n : Kn K mg) {pp cc : Addr} {cl : Addr → Nat → List V → Prop} : TbOk P w (clF K pp cc cl) mg base 13 bl (fnOfL nm 11) noGl true er (tbT ents 11) := by
  obtain ⟨fd, FD⟩ := n.fd (22, "plus") (by decide +kernel)
  exact tb_def (t10 hE n) FD s10 rfl (hE 10 (by decide)) (n.glo "plus" (by decide +kernel)) (FD.bindsN fun _ _ _ _ _ _ us hl => match us, hl with | [_, _], _ => by kernel_rfl) c10
theorem t12 {ents : List Ent} (hE : ∀ m, m < 26 → ents[m]? = eB[m]?) (n : Kn K mg) {pp cc : Addr} {cl : Addr → Nat → List V → Prop} : TbOk P w (clF K pp cc cl) mg base 14 bl (fnOfL nm 12) noGl true er (tbT ents 12) := by
  obtain ⟨fd, FD⟩ := n.fd (23, "minus") (by decide +kernel)
  exact tb_def (t11 hE n) FD s11 rfl (hE 11 (by decide)) (n.glo "minus" (by decide +kernel)) (FD.bindsN fun _ _ _ _ _ _ us hl => match us, hl with | [_, _], _ => by kernel_rfl) c11
theorem t13 {ents : List Ent} (hE : ∀ m, m < 26 → ents[m]? = eB[m]?) (n : Kn K mg) {pp cc : Addr} {cl : Addr → Nat → List V → Prop} : TbOk P w (clF K pp cc cl) mg base 15 bl (fnOfL nm 13) noGl true er (tbT ents 13) := by
  obtain ⟨fd, FD⟩ := n.fd (24, "times") (by decide +kernel)
  exact tb_def (t12 hE n) FD s12 rfl (hE 12 (by decide)) (n.glo "times" (by decide +kernel)) (FD.bindsN fun _ _ _ _ _ _ us hl => match us, hl with | [_, _], _ => by kernel_rfl) c12
theorem t14 {ents : List Ent} (hE : ∀ m, m < 26 → ents[m]? = eB[m]?) (n : Kn K mg) {pp cc : Addr} {cl : Addr → Nat → List V → Prop} : TbOk P w (clF K pp cc cl) mg base 16 bl (fnOfL nm 14) noGl true er (tbT ents 14) := by
  obtain ⟨fd, FD⟩ := n.fd (25, "share") (by decide +kernel)
  exact tb_def (t13 hE n) FD s13 rfl (hE 13 (by decide)) (n.glo "share" (by decide +kernel)) (FD.bindsN fun _ _ _ _ _ _ us hl => match us, hl with | [_, _], _ => by kernel_rfl) c13
theorem t15 {ents : List Ent} (hE : ∀ m, m < 26 → ents[m]? = eB[m]?) (n : Kn K mg) {pp cc : Addr} {cl : Addr → Nat → List V → Prop} : TbOk P w (clF K pp cc cl) mg base 17 bl (fnOfL nm 15) noGl true er (tbT ents 15) := by
  obtain ⟨fd, FD⟩ := n.fd (26, "less") (by decide +kernel)
  exact tb_def (t14 hE n) FD s14 rfl (hE 14 (by decide)) (n.glo "less" (by decide +kernel)) (FD.bindsN fun _ _ _ _ _ _ us hl => match us, hl with | [_, _], _ => by kernel_rfl) c14
theorem t16 {ents : List Ent} (hE : ∀ m, m < 26 → ents[m]? = eB[m]?) (n : Kn K mg) {pp cc : Addr} {cl : Addr → Nat → List V → Prop} : TbOk P w (clF K pp cc cl) mg base 18 bl (fnOfL nm 16) noGl true er (tbT ents 16) := by
  obtain ⟨fd, FD⟩ := n.fd (29, "_law_draw") (by decide +kernel)
  exact tb_def (t15 hE n) FD s15 rfl (hE 15 (by decide)) (n.glo "_law_draw" (by decide +kernel)) (FD.bindsN fun _ _ _ _ _ _ us hl => match us, hl with | [_, _], _ => by kernel_rfl) c15
theorem t17 {ents : List Ent} (hE : ∀ m, m < 26 → ents[m]? = eB[m]?) (n : Kn K mg) {pp cc : Addr} {cl : Addr → Nat → List V → Prop} : TbOk P w (clF K pp cc cl) mg base 19 bl (fnOfL nm 17) noGl true er (tbT ents 17) := by
  obtain ⟨fd, FD⟩ := n.fd (30, "_law_pick") (by decide +kernel)
  exact tb_def (t16 hE n) FD s16 rfl (hE 16 (by decide)) (n.glo "_law_pick" (by decide +kernel)) (FD.bindsN fun _ _ _ _ _ _ us hl => match us, hl with | [_, _], _ => by kernel_rfl) c16
theorem t18 {ents : List Ent} (hE : ∀ m, m < 26 → ents[m]? = eB[m]?) (n : Kn K mg) {pp cc : Addr} {cl : Addr → Nat → List V → Prop} : TbOk P w (clF K pp cc cl) mg base 20 bl (fnOfL nm 18) noGl true er (tbT ents 18) := by
  obtain ⟨fd, FD⟩ := n.fd (31, "_law_gcd") (by decide +kernel)
  exact tb_def (t17 hE n) FD s17 rfl (hE 17 (by decide)) (n.glo "_law_gcd" (by decide +kernel)) (FD.bindsN fun _ _ _ _ _ _ us hl => match us, hl with | [_, _], _ => by kernel_rfl) c17
theorem t19 {ents : List Ent} (hE : ∀ m, m < 26 → ents[m]? = eB[m]?) (n : Kn K mg) {pp cc : Addr} {cl : Addr → Nat → List V → Prop} : TbOk P w (clF K pp cc cl) mg base 21 bl (fnOfL nm 19) noGl true er (tbT ents 19) := by
  obtain ⟨fd, FD⟩ := n.fd (32, "_law_q") (by decide +kernel)
  exact tb_def (t18 hE n) FD s18 rfl (hE 18 (by decide)) (n.glo "_law_q" (by decide +kernel)) (FD.bindsN fun _ _ _ _ _ _ us hl => match us, hl with | [_, _], _ => by kernel_rfl) c18
theorem t20 {ents : List Ent} (hE : ∀ m, m < 26 → ents[m]? = eB[m]?) (n : Kn K mg) {pp cc : Addr} {cl : Addr → Nat → List V → Prop} : TbOk P w (clF K pp cc cl) mg base 22 bl (fnOfL nm 20) noGl true er (tbT ents 20) := by
  obtain ⟨fd, FD⟩ := n.fd (33, "_law_plus") (by decide +kernel)
  exact tb_def (t19 hE n) FD s19 rfl (hE 19 (by decide)) (n.glo "_law_plus" (by decide +kernel)) (FD.bindsN fun _ _ _ _ _ _ us hl => match us, hl with | [_, _], _ => by kernel_rfl) c19
theorem t21 {ents : List Ent} (hE : ∀ m, m < 26 → ents[m]? = eB[m]?) (n : Kn K mg) {pp cc : Addr} {cl : Addr → Nat → List V → Prop} : TbOk P w (clF K pp cc cl) mg base 23 bl (fnOfL nm 21) noGl true er (tbT ents 21) := by
  obtain ⟨fd, FD⟩ := n.fd (34, "_law_times") (by decide +kernel)
  exact tb_def (t20 hE n) FD s20 rfl (hE 20 (by decide)) (n.glo "_law_times" (by decide +kernel)) (FD.bindsN fun _ _ _ _ _ _ us hl => match us, hl with | [_, _], _ => by kernel_rfl) c20
theorem t22 {ents : List Ent} (hE : ∀ m, m < 26 → ents[m]? = eB[m]?) (n : Kn K mg) {pp cc : Addr} {cl : Addr → Nat → List V → Prop} : TbOk P w (clF K pp cc cl) mg base 24 bl (fnOfL nm 22) noGl true er (tbT ents 22) := by
  obtain ⟨fd, FD⟩ := n.fd (35, "_law_less") (by decide +kernel)
  exact tb_def (t21 hE n) FD s21 rfl (hE 21 (by decide)) (n.glo "_law_less" (by decide +kernel)) (FD.bindsN fun _ _ _ _ _ _ us hl => match us, hl with | [_, _], _ => by kernel_rfl) c21
theorem t23 {ents : List Ent} (hE : ∀ m, m < 26 → ents[m]? = eB[m]?) (n : Kn K mg) {pp cc : Addr} {cl : Addr → Nat → List V → Prop} : TbOk P w (clF K pp cc cl) mg base 25 bl (fnOfL nm 23) noGl true er (tbT ents 23) := by
  obtain ⟨fd, FD⟩ := n.fd (36, "_law_minus") (by decide +kernel)
  exact tb_def (t22 hE n) FD s22 rfl (hE 22 (by decide)) (n.glo "_law_minus" (by decide +kernel)) (FD.bindsN fun _ _ _ _ _ _ us hl => match us, hl with | [_, _], _ => by kernel_rfl) c22
theorem t24 {ents : List Ent} (hE : ∀ m, m < 26 → ents[m]? = eB[m]?) (n : Kn K mg) {pp cc : Addr} {cl : Addr → Nat → List V → Prop} : TbOk P w (clF K pp cc cl) mg base 26 bl (fnOfL nm 24) noGl true er (tbT ents 24) := by
  obtain ⟨fd, FD⟩ := n.fd (37, "_law_share") (by decide +kernel)
  exact tb_def (t23 hE n) FD s23 rfl (hE 23 (by decide)) (n.glo "_law_share" (by decide +kernel)) (FD.bindsN fun _ _ _ _ _ _ us hl => match us, hl with | [_, _], _ => by kernel_rfl) c23
theorem t25 {ents : List Ent} (hE : ∀ m, m < 26 → ents[m]? = eB[m]?) (n : Kn K mg) {pp cc : Addr} {cl : Addr → Nat → List V → Prop} : TbOk P w (clF K pp cc cl) mg base 27 bl (fnOfL nm 25) noGl true er (tbT ents 25) := by
  obtain ⟨fd, FD⟩ := n.fd (38, "_law_number") (by decide +kernel)
  exact tb_def (t24 hE n) FD s24 rfl (hE 24 (by decide)) (n.glo "_law_number" (by decide +kernel)) (FD.bindsN fun _ _ _ _ _ _ us hl => match us, hl with | [_, _], _ => by kernel_rfl) c24
theorem t26 {ents : List Ent} (hE : ∀ m, m < 26 → ents[m]? = eB[m]?) (n : Kn K mg) {pp cc : Addr} {cl : Addr → Nat → List V → Prop} : TbOk P w (clF K pp cc cl) mg base 28 bl (fnOfL nm 26) noGl true er (tbT ents 26) := by
  obtain ⟨fd, FD⟩ := n.fd (39, "_law_handed") (by decide +kernel)
  exact tb_def (t25 hE n) FD s25 rfl (hE 25 (by decide)) (n.glo "_law_handed" (by decide +kernel)) (FD.bindsN fun _ _ _ _ _ _ us hl => match us, hl with | [_, _], _ => by kernel_rfl) c25
end
end K02
end

section
set_option Elab.async false
set_option linter.all false
set_option maxRecDepth 100000
set_option maxHeartbeats 4000000
namespace K02
open PySem PySem.Spec PyProof.Rows L2 LamX Mi
/-! ### what is tried -/
def eF (sem : Nat → List D → Pen → R D) : List Ent := eB ++ [(1, fun _ => faultS sem cls), (1, fun Γ => semF Γ N27.length b27)]
theorem eF_B (sem : Nat → List D → Pen → R D) : ∀ m, m < 26 → (eF sem)[m]? = eB[m]? := fun m h => List.getElem?_append_left (by exact h)
theorem fc : faultIs cls (defBody (top 40)) = true := by decide +kernel
theorem fsc : FnScope faultN ["work"] (defScope (top 40)) := ⟨rfl, rfl, rfl, by decide +kernel, rfl, by decide +kernel, by decide +kernel⟩
theorem cls_in : ∀ e ∈ cls, (e.c, e.x, e.ns) ∈ ecs := by decide +kernel
theorem cls_gl : ∀ e ∈ cls, (defScope (top 40)).names.lookup e.x = some NameKind.globalImplicit ∧ (e.x == ("__debug__" : Str)) = false := by decide +kernel
theorem cls_en : ∀ e ∈ cls, en e.c = e.x := by decide +kernel
theorem cls_few : ∀ e ∈ cls, e.ns.length ≤ 100 := by decide +kernel
theorem cls_cl : ∀ e ∈ cls, e.x ∈ dfs.map (·.2) ++ classes := by decide +kernel
section
variable {P : Program} {w : World} {K : PySem.W.Frag} {mg : Str → Option Value} {base : Heap}
theorem t27 {sem : Nat → List D → Pen → R D} (n : Kn K mg) {pp cc : Addr} {cl : Addr → Nat → List V → Prop} (C : CloOk P w (clF K pp cc cl) mg base 29 sem) : TbOk P w (clF K pp cc cl) mg base 30 bl (fnOfL nm 27) noGl true er (tbT (eF sem) 27) := by
  obtain ⟨fd, FD⟩ := n.fd (40, "_law_fault") (by decide +kernel)
  have G := ok_fault (F := clF K pp cc cl) (cl := cls) FD fsc (by decide +kernel) (by decide +kernel) C fc cls_gl (fun e he => by
      show mg e.x = some (.ref (He.ga K (en e.c)))
      rw [cls_en e he]
      exact n.glo _ (cls_cl e he)) (fun e he => by
      show XfC K (He.ga K (en e.c))
      rw [cls_en e he]
      exact (err_at n (cls_in e he)).2.2.2.2) (fun e he y hy => by
      show PySem.W.findIn K (.ref (He.ga K (en e.c))) y = some none
      rw [cls_en e he]
      exact (err_at n (cls_in e he)).2.2.2.1 y hy) (fun e he g hg => by
      show PySem.W.exmOne K (.ref (He.ga K (en g.c))) (.ref (He.ga K (en e.c))) = _
      rw [cls_en e he, cls_en g hg]
      exact exm_at n (cls_in e he) (cls_in g hg)) cls_few
  exact tb_add (ps := ["work"]) (sem := fun _ => faultS sem cls) (j := 30) (t26 (eF_B sem) n) rfl rfl (by decide) (Nat.le_refl _) (n.glo "_law_fault" (by decide +kernel)) FD.kp (FD.bindsN fun _ _ _ _ _ _ us hl => match us, hl with | [_], _ => by kernel_rfl) G
theorem due_ok {sem : Nat → List D → Pen → R D} (n : Kn K mg) {pp cc : Addr} {cl : Addr → Nat → List V → Prop} (C : CloOk P w (clF K pp cc cl) mg base 29 sem) {fd : FuncData} (FD : FunD K "_law_are_due" "_law_are_due" (defArgs (top 41)) (defBody (top 41)) (defScope (top 41)) [] [] (He.ga K "_law_are_due") fd) :
    FnG P w K mg base (L2.CX P w) 31 (He.ga K "_law_are_due") fd p27 (spF (clF K pp cc cl) p27.length (semF (tbT (eF sem) 27) N27.length b27)) := by
  obtain ⟨oc, od, dV, kV, doc, pm, an, cdv, ct, osl, rfl, lk, code, _, _⟩ := FD.ex
  exact fn_rule (F := clF K pp cc cl) lk code s27 (t27 n C) c27
end
/-! ### the law's text -/
theorem ls : FnScope lawN ["script"] (defScope (top 42)) := ⟨rfl, rfl, rfl, by decide +kernel, rfl, by decide +kernel, by decide +kernel⟩
abbrev lk : Ck := ⟨lawN, defScope (top 42), bl, fnOfL nm 26, noGl, true⟩
def mids : List Stmt := [stl 1, stl 2, stl 3]
theorem lmid : chkSs lk er mid mids = true := by decide +kernel
def m0 : Ms := ⟨stl 4, cp0, le0, ld0⟩
def ms : List Ms := [⟨stl 5, cp1, le1, ld1⟩, ⟨stl 6, cp2, le2, ld2⟩, ⟨stl 7, cp3, le3, ld3⟩, ⟨stl 8, cp4, le4, ld4⟩, ⟨stl 9, cp5, le5, ld5⟩, ⟨stl 10, cp6, le6, ld6⟩, ⟨stl 11, cp7, le7, ld7⟩]
theorem lfirst : firstIs lk 11 (stl 4) = true := by decide +kernel
theorem lm0 : lmB lk m0.st m0.caps m0.e m0.due = true := by decide +kernel
theorem lms : mchk lk 11 ms = true := by decide +kernel
def ce : Ex := .cmp .is_ (.call 2 (.cons (.var 8) .nil)) (.bl false)
theorem llast : lastIs lk 11 "_law_are_due" ce (stl 12) = true := by decide +kernel
theorem lbody : defBody (top 42) = stl 0 :: (mids ++ (stl 4 :: (ms.map (·.st) ++ [stl 12]))) := by kernel_rfl
def penSt : Stmt → Bool
  | .Assign [.Name x _] (.Call (.Name f _) [.Name y _] [] _) _ => decide (x = "pen") && decide (f = "_law_pen") && decide (y = "script")
  | _ => false
theorem lpen : penSt (stl 0) = true := by decide +kernel
theorem penText : penIs (defBody (top 28)) = true := by decide +kernel
theorem ps : FnScope penN ["script"] (defScope (top 28)) := ⟨rfl, rfl, rfl, by decide +kernel, rfl, by decide +kernel, by decide +kernel⟩
end K02
end

section
set_option Elab.async false
set_option linter.all false
set_option maxRecDepth 100000
set_option maxHeartbeats 4000000
namespace K02
open PySem PySem.Spec PyProof.Rows L2 LamX Mi
abbrev Γ0 : Tb := tbT eB 26
def ρ0 : List Sl := [.emp, .val .pen, .emp, .emp, .emp, .emp, .emp, .emp, .emp, .emp, .emp, .emp]
/-- what plain Lean is to show -/
def Plain : Prop := ∀ is : List Int, is.length ≤ 63 → ∃ ρ s1, execs Γ0 mid ρ0 (pen0 is) = .nx ρ s1 ∧ (∀ (i : Nat) (ds : List D), ρ[i]? ≠ some (.own ds)) ∧ ρ[11]? = some .emp ∧ (∀ l ∈ Ls, ∀ c ∈ l.caps, ∃ d, ρ[c.2]? = some (.val d)) ∧
  (∀ m ∈ m0 :: ms, ∃ d, evalE Γ0 m.due ρ s1 = .ok d s1) ∧ evalE Γ0 ce ρ s1 = .ok (.bl true) s1 ∧
  ∀ L : List Mk, L.map (·.l) = Ls → (∀ x ∈ L, evalE Γ0 x.l.due ρ s1 = .ok x.d s1) → ∃ s2, semF (tbT (eF (cloS Γ0 Ls)) 27) N27.length b27 [.lst (pairsD ρ 0 L)] s1 = .ok (.bl true) s2
theorem Ls_eq : m0.l :: ms.map Ms.l = Ls := rfl
def spLaw (K : PySem.W.Frag) (T : Addr) (m : Nat) : Sp := fun vs H Q _ => ∃ (a : Addr) (is : List Int), vs = [.ref a] ∧ is.length ≤ m ∧ H T = some (.tbl #[]) ∧ SqL K H a (is.map V.int) ∧ ∀ H', Q (.bl true) H'
abbrev no3 : Addr → Nat → List V → Prop := fun _ _ _ => False
theorem ρ0_val {i : Nat} {d : D} (h : ρ0[i]? = some (.val d)) : i = 1 ∧ d = .pen := by
  match i, h with
  | 0, h => cases h
  | 1, h => cases h; exact ⟨rfl, rfl⟩
  | 2, h => cases h
  | 3, h => cases h
  | 4, h => cases h
  | 5, h => cases h
  | 6, h => cases h
  | 7, h => cases h
  | 8, h => cases h
  | 9, h => cases h
  | 10, h => cases h
  | 11, h => cases h
  | n + 12, h => simp [ρ0] at h
theorem ρ0_own {i : Nat} {ds : List D} : ρ0[i]? ≠ some (.own ds) := by
  intro h
  match i, h with
  | 0, h => cases h
  | 1, h => cases h
  | 2, h => cases h
  | 3, h => cases h
  | 4, h => cases h
  | 5, h => cases h
  | 6, h => cases h
  | 7, h => cases h
  | 8, h => cases h
  | 9, h => cases h
  | 10, h => cases h
  | 11, h => cases h
  | n + 12, h => simp [ρ0] at h
theorem Tl.stay {X : Cx} {F : Cf} {n : Nat} {P : Addr} {ti : Nat} {ρ : List Sl} {s : Pen} {L : List Mk} {A : Addr} {O : Addr → Prop} {ad : Nat → Addr} {σ : L2.St} {H H' : Hp} (T : Tl X F n P ti ρ s L A O ad σ H) (k : Kp F.pp H H') (p : PenAt F H' s) : Tl X F n P ti ρ s L A O ad σ H' := by
  have kP := kp_same T.r.pen p k P
  exact ⟨T.r.kp k p, tab_kp T.tab T.r.pen k, T.oP, T.oA, T.cc, T.nm, kP _ _ (tab_ne T.tab T.lst fun ps z => by cases z) T.lst, fun x hx => (T.made x hx).stay T.tab kP T.oP, T.noown⟩
section
variable {P : Program} {w : World} {K : PySem.W.Frag} {mg : Str → Option Value} {base : Heap}
theorem pen_ps {X : Cx} {st : Stmt} {f : Addr} {fd : FuncData} (h : penSt st = true) (nd : X.N.Nodup) (hN : X.N = lawN) (sc : X.env.scope = defScope (top 42)) (fnx : ∀ x, X.fn x = true) (gd : X.A.guards = some []) (hr : Room 1 X.A) (G : FnOk X.prog X.w X.K X.mg X.base CX0 1 f fd ["script"] (spPen X.K)) (hm : X.mg "_law_pen" = some (.ref f))
    (hk : PySem.W.keepIn X.K (.ref f) = true) (hb : L2.Binds X.K fd ["script"] []) : PS X st (tAsg (fun σ H Q => tCons (tVar 0) tNil σ H fun vs H1 => spPen X.K vs H1 Q E0) (gName 1)) := by
  unfold penSt at h
  split at h
  · simp only [Bool.and_eq_true, decide_eq_true_eq] at h
    obtain ⟨⟨h1, h2⟩, h3⟩ := h
    subst h1 h2 h3
    refine ps_set (i := 1) nd (by rw [hN]; rfl) (by rw [sc]; exact .inl (by decide +kernel)) (pe_go (FnG.of G) gd hr (by show X.env.scope.names.lookup _ = _; rw [sc]; decide +kernel) hm hk hb pass0 (pa_cons (pe_var (i := 0) (by rw [hN]; rfl) (by rw [sc]; exact .inl (by decide +kernel))) pa_nil (star_at rfl)) (by decide) (star_at rfl) (by rfl)) rfl (.inl (fnx _))
  · cases h
theorem law_ok (pl : Plain) (n : Kn K mg) {c T : Addr} (TB : TabB base mg c T) {fd : FuncData} {f : Addr} (FD : FunD K "law" "law" (defArgs (top 42)) (defBody (top 42)) (defScope (top 42)) [] [] f fd) (hc : fd.code = .ref c) (hT : K.In base) (hN : base.Ns mainGlobals mg) :
    FnG P w K mg base (L2.CX P w) 33 f fd ["script"] (spLaw K T 63) := by
  obtain ⟨oc, od, dV, kV, doc, pm, an, cdv, ct, osl, rfl, lkf, code, _, _⟩ := FD.ex
  have hc : cdv = .ref c := hc
  obtain ⟨fdD, FDD⟩ := n.fd (41, "_law_are_due") (by decide +kernel)
  obtain ⟨fdP, FDP⟩ := n.fd (28, "_law_pen") (by decide +kernel)
  refine fnG_of lkf code ls (fun vs H Q E ⟨a, is, e, _⟩ => by rw [e]; rfl) fun A outer s H vs Q E gd room ⟨a, is, ev, few, tab, sq, hq⟩ => ?_
  subst ev
  have cd : (cxOf (L2.CX P w) P w K mg base lawN "law" (defScope (top 42)) f cdv A outer s H E).env.code = .ref c := hc
  have Gp : FnOk P w K mg base CX0 1 (He.ga K "_law_pen") fdP ["script"] (spPen K) := ok_pen FDP ps (by decide +kernel) (by decide +kernel) (by decide +kernel) (by decide +kernel) (by decide +kernel) (n.free "int" (by decide +kernel)) (n.free "list" (by decide +kernel)) penText
  have bP : L2.Binds K fdP ["script"] [] := FDP.bindsN fun _ _ _ _ _ _ us hl => match us, hl with | [_], _ => by kernel_rfl
  have bD : L2.Binds K fdD p27 [] := FDD.bindsN fun _ _ _ _ _ _ us hl => match us, hl with | [_], _ => by kernel_rfl
  have g : ∀ pp cc : Addr, GdS (cxOf (L2.CX P w) P w K mg base lawN "law" (defScope (top 42)) f cdv A outer s H E) lk er (clF K pp cc no3) Γ0 E := fun pp cc => gds_cx (F := clF K pp cc no3) (t26 (ents := eB) (fun m _ => rfl) n) ls gd (room.mono (by decide))
  have tkE : Passes (L2.CX P w) (cxOf (L2.CX P w) P w K mg base lawN "law" (defScope (top 42)) f cdv A outer s H E) E := passes_call (g 0 0).tk fun _ _ _ _ q => q
  have body := fun i : Addr × Addr × Hp × (Addr → Prop) => pss_then (g i.1 i.2.1) (H0 := i.2.2.1) (O0 := i.2.2.2) (pss_cons (first_ps (ti := 11) (g i.1 i.2.1) TB cd lfirst lm0) (mores_ps (g i.1 i.2.1) TB cd (pss_one (last_ps (ti := 11) (sp := fun cl => spF ((clF K i.1 i.2.1 no3).wide cl) p27.length (semF (tbT (eF (cloS Γ0 Ls)) 27) N27.length b27)) (j := 31) (CX := L2.CX P w) (g i.1 i.2.1) llast (room.mono (by decide)) (n.glo "_law_are_due" (by decide +kernel)) FDD.kp bD tkE)) lms)) mid lmid
  refine ⟨_, by rw [lbody]; exact pss_cons (pen_ps lpen ls.nd rfl rfl (fun _ => rfl) gd (room.mono (by decide)) Gp (n.glo "_law_pen" (by decide +kernel)) FDP.kp bP) (pss_ex body), ?_⟩
  refine ⟨_, rfl, a, is, rfl, sq, fun cc pp H' hcn hpn hne same hcl hpd => ⟨(pp, cc, H', fun b => b = pp ∨ b = T), ?_⟩⟩
  have tab' : H' T = some (.tbl #[]) := same _ _ tab
  have npT : T ≠ pp := fun z => by rw [z, hpd] at tab'; cases tab'
  have ncT : T ≠ cc := fun z => by rw [z, hcl] at tab'; cases tab'
  obtain ⟨ρ, s1, e1, e2, e3, e4, e5, e6, e7⟩ := pl is few
  refine ⟨fun b => b = pp ∨ b = T, ρ0, fun _ => 0, pen0 is, ⟨⟨rfl, rfl, fun i d e => ?_, fun i ds e => ?_, .inl rfl, fun b hb => ?_, ⟨hpd, hcl⟩⟩, .refl, by show H' cc ≠ none; rw [hcl]; simp, fun b h => h, fun b h => .inl h, fun i ds e => ?_, fun i j ds es e => ?_⟩, ?_⟩
  · obtain ⟨h1, h2⟩ := ρ0_val e
    subst h1 h2
    exact ⟨.ref pp, rfl, .pen⟩
  · exact absurd e ρ0_own
  · rcases hb with h | h
    · rw [h, hpd]; simp
    · rw [h, tab']; simp
  · exact absurd e ρ0_own
  · exact absurd e ρ0_own
  · rw [e1]
    intro O' ad σ' H'' R x
    have t2 : H'' T = some (.tbl #[]) := R.kp _ _ npT tab'
    have em : ρ[11]? = some .emp := e3
    obtain ⟨d0, hd0⟩ := e5 m0 List.mem_cons_self
    refine first_ok (l := m0.l) (D0 := _) R.r (TabS.nil t2) (R.sub _ (.inr rfl)) e2 em hd0 fun x0 A0 O1 σ1 H1 q1 q2 T1 _ => ?_
    refine mores_ok (ms := ms) T1 (by show 1 + 7 ≤ 1000; decide) (fun m hm => e5 m (List.mem_cons_of_mem _ hm)) fun L' H2 T2 q3 q4 => ?_
    have hL : ([x0] ++ L').map (·.l) = Ls := by
      rw [List.map_append, q3, ← Ls_eq, ← q1]
      rfl
    have hdue : ∀ y ∈ [x0] ++ L', evalE Γ0 y.l.due ρ s1 = .ok y.d s1 := fun y hy => by
      rcases List.mem_append.mp hy with h | h
      · have h : y = x0 := by simpa using h
        rw [h, q1, q2]
        exact hd0
      · exact q4 y h
    obtain ⟨s2, e8⟩ := e7 _ hL hdue
    refine ⟨O1, ρ, ad, s1, T2.r, ?_⟩
    rw [e6]
    intro v H3 k3 p3 tv
    cases tv
    have T3 := Tl.stay T2 k3 p3
    have lmok : ∀ m ∈ m0 :: ms, LmOk (cxOf (L2.CX P w) P w K mg base lawN "law" (defScope (top 42)) f cdv A outer s H E) bl (fnOfL nm 26) noGl true m.l := fun m hm => by
      have q : lmB lk m.st m.caps m.e m.due = true := by
        rcases List.mem_cons.mp hm with h | h
        · rw [h]; exact lm0
        · have := List.all_eq_true.mp lms m h
          rw [Bool.and_eq_true] at this
          exact this.2
      exact lm_ok (g 0 0).g q
    refine ⟨true, rfl, iteT ?_⟩
    refine wide_ok (kT := 28) (Γ := Γ0) (F := clF K pp cc no3) T3 rfl (fun _ => rfl) (fun a j vs z => z) (fun x hx => ?_) (fun x hx => e4 _ (by rw [← hL]; exact List.mem_map.mpr ⟨x, hx, rfl⟩)) rfl (fun cl bs hk hn => t26 (ents := eB) (fun m _ => rfl) n) (fun cl bs hk hn C => ?_) (fun cl O' B LB => ?_)
    · have mx : x.l ∈ Ls := by rw [← hL]; exact List.mem_map.mpr ⟨x, hx, rfl⟩
      rw [← Ls_eq] at mx
      obtain ⟨m, hm, e⟩ := List.mem_map.mp (show x.l ∈ (m0 :: ms).map Ms.l from mx)
      rw [← e]
      exact lmok m hm
    · rw [hL] at C
      exact due_ok n C FDD
    · rw [e8]
      intro v H' k p t
      cases t
      exact hq _
end
end K02
end

section
set_option Elab.async false
set_option linter.all false
set_option maxRecDepth 100000
set_option maxHeartbeats 0
namespace K02
open PySem PySem.Spec PyProof.Rows L2 LamX Mi
/-! ### the head -/
abbrev rowK : PySem.W.OpenRow := PySem.W.OpenLaw.row PySem.Challenge.rw_planpapers_k02_ratios
abbrev qv : Program := PySem.W.view rowK.prog [0, 42]
def names1 : List PySem.Str := ["gcd", "__name__", "PlanError", "BadNumber", "BadText", "BadProblem", "BadLine", "BadRow", "Unlike", "TooMany", "is_whole", "is_pair", "is_ratio", "lowest", "told", "summed", "lessened", "scaled", "parted", "below", "plus", "minus", "times", "share", "less", "_law_pen", "_law_draw", "_law_pick", "_law_gcd", "_law_q"]
def names2 : List PySem.Str := ["_law_plus", "_law_times", "_law_less", "_law_minus", "_law_share", "_law_number", "_law_handed", "_law_fault", "_law_are_due"]
def names : List PySem.Str := names1 ++ names2
abbrev hk : PySem.W.Hook := hookM 6 fa fn [("law", none)] exB
def ob (s : PySem.W.SharedT) : AlM := obsM 6 fa fn [("law", none)] exB (HandSHeadRun.getT s)
theorem ob_eq (s : PySem.W.SharedT) : ob s = hk.obs s.abs := obsM_eq (HandSHeadRun.getT_eq s)
theorem run (w : World) : HandSHeadRun.RunEqI rowK qv hk ob 6000 names w := by
  unfold HandSHeadRun.RunEqI
  kernel_rfl
end K02
end

section
set_option Elab.async false
set_option linter.all false
set_option maxRecDepth 100000
set_option maxHeartbeats 4000000
namespace Mi
open PySem PySem.Spec PyProof.Rows L2
/-! ## plain: the meaning, step by step -/
theorem ixN_nat {n i : Nat} (h : i < n) : ixN n (i : Int) = some i := by
  unfold ixN
  rw [if_pos (by omega), if_pos (by omega)]
  rfl
theorem ixN_int {n : Nat} {i : Int} (h0 : 0 ≤ i) (h : i < n) : ixN n i = some i.toNat := by
  unfold ixN
  rw [if_pos h0, if_pos h]
section
variable {α β : Type} {a : α} {s : Pen} {c : Nat} {fs : List (Str × D)} {f : α → Pen → R β} {g : α → Pen → RS} {h : List Sl → Pen → RS} {ρ : List Sl}
@[simp] theorem rb_ok : (R.ok a s).bind f = f a s := rfl
@[simp] theorem rb_err : (R.err c fs s : R α).bind f = .err c fs s := rfl
@[simp] theorem rb_bad : (R.bad : R α).bind f = .bad := rfl
@[simp] theorem rt_ok : (R.ok a s).to g = g a s := rfl
@[simp] theorem rt_err : (R.err c fs s : R α).to g = .err c fs s := rfl
@[simp] theorem rt_bad : (R.bad : R α).to g = .bad := rfl
@[simp] theorem rc_ok : (R.ok a s).calm = .ok a s := rfl
@[simp] theorem sb_nx : (RS.nx ρ s).bind h = h ρ s := rfl
@[simp] theorem sb_rt {d : D} : (RS.rt d s).bind h = .rt d s := rfl
@[simp] theorem sb_bk : (RS.bk ρ s).bind h = .bk ρ s := rfl
@[simp] theorem sb_ct : (RS.ct ρ s).bind h = .ct ρ s := rfl
@[simp] theorem sb_err : (RS.err c fs s).bind h = .err c fs s := rfl
@[simp] theorem re_nx : (RS.nx ρ s).ret = .ok .non s := rfl
@[simp] theorem re_rt {d : D} : (RS.rt d s).ret = .ok d s := rfl
@[simp] theorem re_err : (RS.err c fs s).ret = .err c fs s := rfl
@[simp] theorem op_some : opt s (some a) = .ok a s := rfl
@[simp] theorem b_add {i j : Int} : binop .add (.int i) (.int j) s = .ok (.int (i + j)) s := rfl
@[simp] theorem b_sub {i j : Int} : binop .sub (.int i) (.int j) s = .ok (.int (i - j)) s := rfl
theorem b_mul {i j : Int} (h : mulOk i j = true) : binop .mul (.int i) (.int j) s = .ok (.int (i * j)) s := if_pos h
theorem b_fdiv {i j : Int} (h : divOk j = true) : binop .fdiv (.int i) (.int j) s = .ok (.int (i.fdiv j)) s := if_pos h
theorem b_mod {i j : Int} (h : j ≠ 0) : binop .mod (.int i) (.int j) s = .ok (.int (i.fmod j)) s := if_pos (decide_eq_true h)
theorem b_pow {i j : Int} (h : powOk i j = true) : binop .pow (.int i) (.int j) s = .ok (.int (i ^ j.toNat)) s := if_pos h
theorem deq_int (i j : Int) : deq (.int i) (.int j) = some (decide (i = j)) := rfl
theorem deq_str (i j : Str) : deq (.str i) (.str j) = some (decide (i = j)) := by
  rfl
@[simp] theorem c_eqs {i j : Str} : cmpop .eq (.str i) (.str j) = some (decide (i = j)) := rfl
@[simp] theorem c_nes {i j : Str} : cmpop .ne (.str i) (.str j) = some (!decide (i = j)) := by
  simp [cmpop, deq_str]
@[simp] theorem c_eqi {i j : Int} : cmpop .eq (.int i) (.int j) = some (decide (i = j)) := deq_int i j
@[simp] theorem c_nei {i j : Int} : cmpop .ne (.int i) (.int j) = some (!decide (i = j)) := by
  simp [cmpop, deq_int]
@[simp] theorem c_lt {i j : Int} : cmpop .lt (.int i) (.int j) = some (decide (i < j)) := rfl
@[simp] theorem c_gt {i j : Int} : cmpop .gt (.int i) (.int j) = some (decide (j < i)) := rfl
@[simp] theorem c_ge {i j : Int} : cmpop .ge (.int i) (.int j) = some (decide (j ≤ i)) := rfl
@[simp] theorem c_le {i j : Int} : cmpop .le (.int i) (.int j) = some (decide (i ≤ j)) := rfl
@[simp] theorem c_isb {i j : Bool} : cmpop .is_ (.bl i) (.bl j) = some (decide (i = j)) := rfl
@[simp] theorem t_bl {b : Bool} : truth (.bl b) = some b := rfl
@[simp] theorem t_int {i : Int} : truth (.int i) = some (i != 0) := rfl
@[simp] theorem zst_nm {i : Nat} {d : D} : setT ρ (.nm i) d = some (ρ.set i (.val d)) := by cases d <;> rfl
@[simp] theorem zst_tup {is : List Nat} {ds : List D} : setT ρ (.tup is) (.tup ds) = setTs ρ is ds := rfl
@[simp] theorem zsts_nil' : setTs ρ [] [] = some ρ := rfl
@[simp] theorem zsts_cons' {i : Nat} {is : List Nat} {d : D} {ds : List D} : setTs ρ (i :: is) (d :: ds) = setTs (ρ.set i (.val d)) is ds := rfl
@[simp] theorem l_int {i : Int} : bltop .int [.int i] = some (.int i) := rfl
@[simp] theorem l_lent {xs : List D} : bltop .len [.tup xs] = some (.int xs.length) := rfl
@[simp] theorem l_lenl {xs : List D} : bltop .len [.lst xs] = some (.int xs.length) := rfl
@[simp] theorem l_abs {i : Int} : bltop .abs [.int i] = some (.int (if i < 0 then -i else i)) := rfl
@[simp] theorem l_gcd {i j : Int} : bltop .gcd [.int i, .int j] = some (.int (Int.gcd i j : Nat)) := rfl
theorem big_lst {xs : List D} (h : xs.length ≤ big) : (if xs.length ≤ big then R.ok (.lst xs) s else .bad) = .ok (D.lst xs) s := if_pos h
end
end Mi
end

section
set_option Elab.async false
set_option linter.all false
set_option maxRecDepth 100000
set_option maxHeartbeats 4000000
namespace K02
open PySem PySem.Spec PyProof.Rows L2 LamX Mi
theorem fn_at {ents : List Ent} (hE : ∀ m, m < 26 → ents[m]? = eB[m]?) {g k n : Nat} {sem : Tb → List D → Pen → R D} (he : eB[g]? = some (n, sem)) (hg : g < 26) (hk : g < k) {ds : List D} (hd : ds.length = n) (s : Pen) : (tbT ents k).fn g ds s = sem (tbT ents g) ds s := by
  rw [tbT_at ((hE g hg).trans he) hk, if_pos hd]
/-- the pen between draws -/
structure PenI (B : Int) (s : Pen) : Prop where
  f0 : 0 ≤ s.fold
  f1 : s.fold < 2147483137
  c0 : 0 ≤ s.count
  c1 : s.count ≤ B
  p0 : 0 ≤ s.pos
  d0 : 0 ≤ s.digits
theorem fmod_lt {a b : Int} (h : 0 < b) : 0 ≤ a.fmod b ∧ a.fmod b < b := by
  rw [Int.fmod_eq_emod_of_nonneg a (by omega)]
  exact ⟨Int.emod_nonneg _ (by omega), Int.emod_lt_of_pos _ h⟩
theorem fdiv_nn {a b : Int} (h : 0 < b) (ha : 0 ≤ a) : 0 ≤ a.fdiv b := by
  rw [Int.fdiv_eq_ediv_of_nonneg a (by omega)]
  exact Int.ediv_nonneg ha (by omega)
theorem mulR {i j : Int} (h : j.natAbs < 2 ^ 64) : mulOk i j = true := by
  unfold mulOk
  rw [decide_eq_true h]
  simp
theorem divB {j : Int} (h : 0 < j) (h2 : j < 2 ^ 64) : divOk j = true := by
  unfold divOk
  have : j.natAbs.log2 < 9000 := by
    have h3 : j.natAbs < 2 ^ 64 := by omega
    have := (Nat.log2_lt (n := j.natAbs) (k := 64) (by omega)).mpr h3
    omega
  rw [decide_eq_true (by omega), decide_eq_true this]
  rfl
theorem powB {i : Int} {j : Int} (h : i.natAbs < 2 ^ 64) (h0 : 0 ≤ j) (h1 : j ≤ 1000000) : powOk i j = true := by
  unfold powOk
  rw [decide_eq_true h, decide_eq_true h0, decide_eq_true h1]
  rfl
section
variable {ents : List Ent} {k : Nat} {s : Pen} {B : Int}
/-- a draw's end, the cell read -/
theorem draw_ok (hE : ∀ m, m < 26 → ents[m]? = eB[m]?) (hk : 15 < k) {many : Int} (hm : 0 < many) (hm2 : many < 4611686018427387904) (p : PenI B s) (hB : B < 1000000000) :
    ∃ v s', (tbT ents k).fn 15 [.pen, .int many] s = .ok (.int v) s' ∧ 0 ≤ v ∧ v < many ∧ PenI (B + 1) s' := by
  obtain ⟨cells, pos, digits, count, fold⟩ := s
  obtain ⟨f0, f1, c0, c1, p0, d0⟩ := p
  simp only at f0 f1 c0 c1 p0 d0
  rw [fn_at hE (g := 15) rfl (by decide) hk rfl]
  have e18 : powOk 10 18 = true := by decide
  have m1 : ∀ x, mulOk x 27701 = true := fun x => mulR (by decide)
  have m2 : ∀ x, mulOk x 5657 = true := fun x => mulR (by decide)
  have d1 : divOk many = true := divB hm (by omega)
  have d2 : divOk 512 = true := by decide
  have nz : many ≠ 0 := by omega
  have pw : ∀ f : Int, 0 ≤ f → f < 2147483137 → powOk (f + (count + 1) * 5657 + 149) 57 = true := fun f a b => powB (by omega) (by decide) (by decide)
  have fm : ∀ x : Int, 0 ≤ x.fmod many ∧ x.fmod many < many := fun x => fmod_lt hm
  have ff : ∀ x : Int, 0 ≤ x.fmod 2147483137 ∧ x.fmod 2147483137 < 2147483137 := fun x => fmod_lt (by decide)
  by_cases hd : digits = 0
  · subst hd
    by_cases hp : pos < (cells.length : Int)
    · have hq : pos.toNat < cells.length := by omega
      have ix := ixN_int (n := cells.length) p0 hp
      obtain ⟨c, hc⟩ : ∃ c, cells[pos.toNat]? = some c := ⟨_, List.getElem?_eq_getElem hq⟩
      by_cases h18 : (1000000000000000000 : Int) ≤ c
      · by_cases hz : (1000000000000000000 : Int) < c
        · simp [b15, N15, semF, start0, Mi.execs, Mi.exec, evalE, evalT, evalA, evalAnd, Pen.get, Pen.put, e18, b_pow, b_mod, b_fdiv, b_mul, d1, d2, nz, m1, m2, hp, ix, hc, h18, hz]
          exact ⟨_, _, ⟨rfl, rfl⟩, (fm _).1, (fm _).2, ⟨f0, f1, (show 0 ≤ count + 1 by omega), (show count + 1 ≤ B + 1 by omega), (by dsimp only; omega), fdiv_nn hm (by omega)⟩⟩
        · simp [b15, N15, semF, start0, Mi.execs, Mi.exec, evalE, evalT, evalA, evalAnd, Pen.get, Pen.put, e18, b_pow, b_mod, b_fdiv, b_mul, d1, d2, nz, m1, m2, hp, ix, hc, h18, hz, pw fold f0 f1]
          exact ⟨_, _, ⟨rfl, rfl⟩, (fm _).1, (fm _).2, ⟨f0, f1, (show 0 ≤ count + 1 by omega), (show count + 1 ≤ B + 1 by omega), (by dsimp only; omega), (by dsimp only; omega)⟩⟩
      · simp [b15, N15, semF, start0, Mi.execs, Mi.exec, evalE, evalT, evalA, evalAnd, Pen.get, Pen.put, e18, b_pow, b_mod, b_fdiv, b_mul, d1, d2, nz, m1, m2, hp, ix, hc, h18, pw _ (ff _).1 (ff _).2]
        exact ⟨_, _, ⟨rfl, rfl⟩, (fm _).1, (fm _).2, ⟨(ff _).1, (ff _).2, (show 0 ≤ count + 1 by omega), (show count + 1 ≤ B + 1 by omega), (by dsimp only; omega), (by dsimp only; omega)⟩⟩
    · simp [b15, N15, semF, start0, Mi.execs, Mi.exec, evalE, evalT, evalA, evalAnd, Pen.get, Pen.put, e18, b_pow, b_mod, b_fdiv, b_mul, d1, d2, nz, m1, m2, hp, pw fold f0 f1]
      exact ⟨_, _, ⟨rfl, rfl⟩, (fm _).1, (fm _).2, ⟨f0, f1, (show 0 ≤ count + 1 by omega), (show count + 1 ≤ B + 1 by omega), (by dsimp only; omega), (by dsimp only; omega)⟩⟩
  · have hz : 0 < digits := by omega
    simp [b15, N15, semF, start0, Mi.execs, Mi.exec, evalE, evalT, evalA, evalAnd, Pen.get, Pen.put, e18, b_pow, b_mod, b_fdiv, b_mul, d1, d2, nz, m1, m2, hd, hz]
    exact ⟨_, _, ⟨rfl, rfl⟩, (fm _).1, (fm _).2, ⟨f0, f1, (show 0 ≤ count + 1 by omega), (show count + 1 ≤ B + 1 by omega), (by dsimp only; omega), fdiv_nn hm (by omega)⟩⟩
end
end K02
end

section
set_option Elab.async false
set_option linter.all false
set_option maxRecDepth 100000
set_option maxHeartbeats 4000000
namespace K02
open PySem PySem.Spec PyProof.Rows L2 LamX Mi
section
variable {ents : List Ent} {k : Nat} {s : Pen} {B : Int}
theorem sub_lst {xs : List D} {i : Int} : subsc (.lst xs) (.int i) = (ixN xs.length i).bind fun j => xs[j]? := rfl
theorem sub_tup {xs : List D} {i : Int} : subsc (.tup xs) (.int i) = (ixN xs.length i).bind fun j => xs[j]? := rfl
theorem pick_ok (hE : ∀ m, m < 26 → ents[m]? = eB[m]?) (hk : 16 < k) {xs : List D} (h0 : 0 < xs.length) (h1 : xs.length < 4611686018427387904) (p : PenI B s) (hB : B < 1000000000) :
    ∃ d s', d ∈ xs ∧ (tbT ents k).fn 16 [.pen, .lst xs] s = .ok d s' ∧ PenI (B + 1) s' := by
  obtain ⟨v, s', e, v0, v1, p'⟩ := draw_ok (k := 16) hE (by decide) (many := (xs.length : Int)) (by omega) (by omega) p hB
  have hv : v.toNat < xs.length := by omega
  have hd : xs[v.toNat]? = some xs[v.toNat] := List.getElem?_eq_getElem hv
  refine ⟨xs[v.toNat], s', List.getElem_mem hv, ?_, p'⟩
  rw [fn_at hE (g := 16) rfl (by decide) hk rfl]
  simp [b16, N16, semF, start0, Mi.execs, Mi.exec, evalE, evalT, evalA, evalAnd, e, sub_lst, ixN_int v0 v1, hd]
/-! ### the greatest divisor by steps -/
def gB : Sts := .cons (.if_ (.cmp .eq (.var 1) (.int 0)) (.cons .brk .nil) .nil) (.cons (.par 0 1 (.var 1) (.bin .mod (.blt .int (.cons (.var 0) .nil)) (.var 1))) .nil)
def gSt (a b : Int) (l : Sl) : List Sl := [.val (.int a), .val (.int b), l]
theorem gcd_step {Γ : Tb} {a b i : Int} {l : Sl} {is : List D} (hb : b ≠ 0) : forL (.nm 2) (fun ρ1 s1 => Mi.execs Γ gB ρ1 s1) (.int i :: is) (gSt a b l) s = forL (.nm 2) (fun ρ1 s1 => Mi.execs Γ gB ρ1 s1) is (gSt b (a.fmod b) (.val (.int i))) s := by
  simp [forL, gB, gSt, Mi.execs, Mi.exec, evalE, evalT, evalA, b_mod hb, hb]
theorem gcd_stop {Γ : Tb} {a : Int} {l : Sl} : ∀ {is : List D}, ∃ l', forL (.nm 2) (fun ρ1 s1 => Mi.execs Γ gB ρ1 s1) is (gSt a 0 l) s = .nx (gSt a 0 l') s
  | [] => ⟨l, rfl⟩
  | d :: is => ⟨.val d, by simp [forL, gB, gSt, Mi.execs, Mi.exec, evalE, evalT, evalA]⟩
theorem gcd_fmod {a b : Int} (ha : 0 ≤ a) (hb : 0 < b) : Int.gcd b (a.fmod b) = Int.gcd a b := by
  obtain ⟨m, rfl⟩ := Int.eq_ofNat_of_zero_le ha
  obtain ⟨n, rfl⟩ := Int.eq_ofNat_of_zero_le (Int.le_of_lt hb)
  rw [Int.fmod_eq_emod_of_nonneg _ (by omega), ← Int.natCast_emod, Int.gcd_natCast_natCast, Int.gcd_natCast_natCast, Nat.gcd_comm m n]
  rw [Nat.gcd_comm n (m % n), ← Nat.gcd_rec]
/-- enough turns -/
theorem gcd_loop {Γ : Tb} : ∀ (m : Nat) {a b : Int} {l : Sl} {is : List Int}, 0 ≤ a → 0 ≤ b → b < 2 ^ m → 2 * m ≤ is.length →
    ∃ z l', forL (.nm 2) (fun ρ1 s1 => Mi.execs Γ gB ρ1 s1) (is.map D.int) (gSt a b l) s = .nx (gSt (Int.gcd a b : Nat) z l') s := by
  intro m
  induction m with
  | zero =>
    intro a b l is ha hb h _
    have hb0 : b = 0 := by
      have : (2 : Int) ^ 0 = 1 := rfl
      omega
    subst hb0
    obtain ⟨l', e⟩ := gcd_stop (Γ := Γ) (s := s) (a := a) (l := l) (is := is.map D.int)
    refine ⟨0, l', ?_⟩
    rw [e, Int.gcd_zero_right]
    congr 2
    omega
  | succ m ih =>
    intro a b l is ha hb h hl
    have zero : ∀ {a : Int} {l : Sl} {is : List D}, 0 ≤ a → ∃ z l', forL (.nm 2) (fun ρ1 s1 => Mi.execs Γ gB ρ1 s1) is (gSt a 0 l) s = .nx (gSt (Int.gcd a 0 : Nat) z l') s := fun {a l is} ha => by
      obtain ⟨l', e⟩ := gcd_stop (Γ := Γ) (s := s) (a := a) (l := l) (is := is)
      refine ⟨0, l', ?_⟩
      rw [e, Int.gcd_zero_right]
      congr 2
      omega
    by_cases hb0 : b = 0
    · subst hb0
      exact zero ha
    · match is, hl with
      | [], hl => simp at hl
      | [_], hl => simp at hl; omega
      | i :: j :: is, hl =>
        have hbp : 0 < b := by omega
        rw [List.map_cons, gcd_step hb0, ← gcd_fmod ha hbp]
        obtain ⟨r0, r1⟩ := fmod_lt (a := a) hbp
        by_cases hr : a.fmod b = 0
        · rw [hr]
          exact zero hb
        · have hrp : 0 < a.fmod b := by omega
          rw [List.map_cons, gcd_step hr, ← gcd_fmod hb hrp]
          obtain ⟨q0, q1⟩ := fmod_lt (a := b) hrp
          refine ih r0 q0 ?_ (by simp at hl; omega)
          have e2 : (2 : Int) ^ (m + 1) = 2 * 2 ^ m := by rw [Int.pow_succ]; omega
          have le : b.fmod (a.fmod b) ≤ b - a.fmod b := by
            rw [Int.fmod_eq_emod_of_nonneg _ (by omega)] at q1 ⊢
            have h1 := Int.emod_add_mul_ediv b (a.fmod b)
            have h2 : 1 ≤ b / a.fmod b := Int.le_ediv_of_mul_le hrp (by omega)
            have h3 : a.fmod b * 1 ≤ a.fmod b * (b / a.fmod b) := Int.mul_le_mul_of_nonneg_left h2 (by omega)
            omega
          omega
end
end K02
end

section
set_option Elab.async false
set_option linter.all false
set_option maxRecDepth 100000
set_option maxHeartbeats 4000000
namespace K02
open PySem PySem.Spec PyProof.Rows L2 LamX Mi
section
variable {ents : List Ent} {k : Nat} {s : Pen} {B : Int}
def sm (a : Int) : Prop := a.natAbs < 2 ^ 100
def dv (a b : Int) : Int := if b < 0 then -((Int.gcd a b : Nat) : Int) else ((Int.gcd a b : Nat) : Int)
def qn (a b : Int) : D := .tup [.int (a.fdiv (dv a b)), .int (b.fdiv (dv a b))]
theorem abs_if (a : Int) : (if a < 0 then -a else a) = (a.natAbs : Int) := by
  split <;> omega
theorem range_ints (n : Nat) : rangeD 0 n = ((List.range n).map fun (i : Nat) => (0 : Int) + (i : Int)).map D.int := by
  unfold rangeD
  rw [List.map_map]
  rfl
theorem bits_lt (b : Int) : (b.natAbs : Int) < 2 ^ (Builtin.Int.intBits (b.natAbs : Int)) := by
  unfold Builtin.Int.intBits
  by_cases h : b.natAbs = 0
  · rw [h]
    decide
  · have h2 : ((b.natAbs : Int) == 0) = false := by
      rw [beq_eq_false_iff_ne]
      omega
    rw [h2, if_neg Bool.false_ne_true, Int.natAbs_natCast]
    have := Nat.lt_log2_self (n := b.natAbs)
    exact_mod_cast this
theorem bits_le {b : Int} (h : sm b) : Builtin.Int.intBits (b.natAbs : Int) ≤ 100 := by
  unfold Builtin.Int.intBits
  by_cases h0 : b.natAbs = 0
  · rw [h0]
    decide
  · have h2 : ((b.natAbs : Int) == 0) = false := by
      rw [beq_eq_false_iff_ne]
      omega
    rw [h2, if_neg Bool.false_ne_true, Int.natAbs_natCast]
    have := (Nat.log2_lt (n := b.natAbs) (k := 100) h0).mpr h
    omega
theorem gcd_ok (hE : ∀ m, m < 26 → ents[m]? = eB[m]?) (hk : 17 < k) {a b : Int} (hb : sm b) : (tbT ents k).fn 17 [.int a, .int b] s = .ok (.int (Int.gcd a b : Nat)) s := by
  rw [fn_at hE (g := 17) rfl (by decide) hk rfl]
  have e := gcd_loop (Γ := tbT ents 17) (s := s) (Builtin.Int.intBits (b.natAbs : Int)) (a := (a.natAbs : Int)) (b := (b.natAbs : Int)) (l := .emp) (is := (List.range (4 + 2 * (Builtin.Int.intBits (b.natAbs : Int) : Int)).toNat).map fun (i : Nat) => (0 : Int) + (i : Int)) (by omega) (by omega) (bits_lt b) (by rw [List.length_map, List.length_range]; omega)
  obtain ⟨z, l', e⟩ := e
  rw [← range_ints] at e
  have two : inTwo (4 + 2 * (Builtin.Int.intBits (b.natAbs : Int) : Int)) = true := by
    have := bits_le hb
    unfold inTwo
    rw [decide_eq_true (by omega), decide_eq_true (by omega)]
    rfl
  have g1 : Int.gcd (a.natAbs : Int) (b.natAbs : Int) = Int.gcd a b := by
    rw [Int.gcd_natCast_natCast]
    rfl
  rw [g1] at e
  have mo : mulOk 2 (Builtin.Int.intBits (b.natAbs : Int) : Int) = true := by
    unfold mulOk
    simp
  have e2 : forL (.nm 2) (fun ρ1 s1 => Mi.execs (tbT ents 17) gB ρ1 s1) (rangeD 0 (4 + 2 * (Builtin.Int.intBits (b.natAbs : Int) : Int)).toNat) [.val (.int (a.natAbs : Int)), .val (.int (b.natAbs : Int)), .emp] s = .nx [.val (.int (Int.gcd a b : Nat)), .val (.int z), l'] s := e
  have sd : b17 = .cons (.par 0 1 (.blt .abs (.cons (.var 0) .nil)) (.blt .abs (.cons (.var 1) .nil))) (.cons (.for_ (.nm 2) (.rng1 (.bin .add (.int 4) (.bin .mul (.int 2) (.bits (.blt .int (.cons (.var 1) .nil)))))) gB) (.cons (.ret (.var 0)) .nil)) := rfl
  have st : start0 N17.length [.int a, .int b] = [.val (.int a), .val (.int b), .emp] := rfl
  have x1 : Mi.exec (tbT ents 17) (.par 0 1 (.blt .abs (.cons (.var 0) .nil)) (.blt .abs (.cons (.var 1) .nil))) [.val (.int a), .val (.int b), .emp] s = .nx [.val (.int (a.natAbs : Int)), .val (.int (b.natAbs : Int)), .emp] s := by
    rw [← abs_if a, ← abs_if b]
    rfl
  have x2 : evalI (tbT ents 17) (.rng1 (.bin .add (.int 4) (.bin .mul (.int 2) (.bits (.blt .int (.cons (.var 1) .nil)))))) [.val (.int (a.natAbs : Int)), .val (.int (b.natAbs : Int)), .emp] s = .ok (rangeD 0 (4 + 2 * (Builtin.Int.intBits (b.natAbs : Int) : Int)).toNat) s := by
    have x3 : evalE (tbT ents 17) (.bin .mul (.int 2) (.bits (.blt .int (.cons (.var 1) .nil)))) [.val (.int (a.natAbs : Int)), .val (.int (b.natAbs : Int)), .emp] s = .ok (.int (2 * (Builtin.Int.intBits (b.natAbs : Int) : Int))) s := b_mul mo
    unfold evalI
    have x4 : evalE (tbT ents 17) (.bin .add (.int 4) (.bin .mul (.int 2) (.bits (.blt .int (.cons (.var 1) .nil))))) [.val (.int (a.natAbs : Int)), .val (.int (b.natAbs : Int)), .emp] s = .ok (.int (4 + 2 * (Builtin.Int.intBits (b.natAbs : Int) : Int))) s := by
      unfold evalE
      rw [show evalE (tbT ents 17) (.int 4) [.val (.int (a.natAbs : Int)), .val (.int (b.natAbs : Int)), .emp] s = .ok (.int 4) s from rfl, rb_ok, x3, rb_ok]
      rfl
    rw [x4, rb_ok]
    exact if_pos two
  rw [sd, semF, st, Mi.execs, x1, sb_nx, Mi.execs, Mi.exec, x2, rt_ok, e2, sb_nx, Mi.execs, Mi.exec]
  rfl
theorem gcd_pos {a b : Int} (h : b ≠ 0) : 0 < Int.gcd a b := Int.gcd_pos_of_ne_zero_right a h
theorem dv_ok {a b : Int} (h : b ≠ 0) (hb : sm b) : dv a b ≠ 0 ∧ divOk (dv a b) = true := by
  have g0 := gcd_pos (a := a) h
  have gl : Int.gcd a b ≤ b.natAbs := Nat.le_of_dvd (by omega) (Int.gcd_dvd_natAbs_right a b)
  have nz : dv a b ≠ 0 := by
    unfold dv
    split <;> omega
  have na : (dv a b).natAbs = Int.gcd a b := by
    unfold dv
    split <;> omega
  refine ⟨nz, ?_⟩
  unfold divOk
  rw [decide_eq_true nz, na]
  have : (Int.gcd a b).log2 < 9000 := by
    unfold sm at hb
    have h1 := (Nat.log2_lt (n := Int.gcd a b) (k := 100) (by omega)).mpr (by omega)
    omega
  rw [decide_eq_true this]
  rfl
theorem q_ok (hE : ∀ m, m < 26 → ents[m]? = eB[m]?) (hk : 18 < k) {a b : Int} (h : b ≠ 0) (hb : sm b) : (tbT ents k).fn 18 [.int a, .int b] s = .ok (qn a b) s := by
  rw [fn_at hE (g := 18) rfl (by decide) hk rfl]
  have e := gcd_ok (s := s) (k := 18) hE (by decide) (a := a) hb
  obtain ⟨nz, dk⟩ := dv_ok (a := a) h hb
  unfold dv at dk
  by_cases hn : b < 0
  · rw [if_pos hn] at dk
    simp [b18, N18, semF, start0, Mi.execs, Mi.exec, evalE, evalT, evalA, e, hn, b_fdiv dk, qn, dv, big]
  · rw [if_neg hn] at dk
    simp [b18, N18, semF, start0, Mi.execs, Mi.exec, evalE, evalT, evalA, e, hn, b_fdiv dk, qn, dv, big]
theorem low_ok (hE : ∀ m, m < 26 → ents[m]? = eB[m]?) (hk : 3 < k) {a b : Int} (h : b ≠ 0) (hb : sm b) : (tbT ents k).fn 3 [.int a, .int b] s = .ok (qn a b) s := by
  rw [fn_at hE (g := 3) rfl (by decide) hk rfl]
  obtain ⟨nz, dk⟩ := dv_ok (a := a) h hb
  unfold dv at dk
  by_cases hn : b < 0
  · have hn2 : ¬ 0 < b := by omega
    rw [if_pos hn] at dk
    simp [b3, N3, semF, start0, Mi.execs, Mi.exec, evalE, evalT, evalA, hn, hn2, b_fdiv dk, qn, dv, big]
  · have hn2 : 0 < b := by omega
    rw [if_neg hn] at dk
    simp [b3, N3, semF, start0, Mi.execs, Mi.exec, evalE, evalT, evalA, hn, hn2, b_fdiv dk, qn, dv, big]
end
end K02
end

section
set_option Elab.async false
set_option linter.all false
set_option maxRecDepth 100000
set_option maxHeartbeats 4000000
namespace K02
open PySem PySem.Spec PyProof.Rows L2 LamX Mi
section
variable {ents : List Ent} {k : Nat} {s : Pen} {B : Int}
/-- lowest terms -/
structure Rt (x y : Int) : Prop where
  pos : 0 < y
  cop : Int.gcd x y = 1
theorem dv_spec {a b : Int} (h : b ≠ 0) : ∃ x y, a = dv a b * x ∧ b = dv a b * y ∧ Rt x y ∧ (dv a b).natAbs = Int.gcd a b := by
  have g0 := gcd_pos (a := a) h
  have na : (dv a b).natAbs = Int.gcd a b := by
    unfold dv
    split <;> omega
  have nz : dv a b ≠ 0 := fun z => by rw [z] at na; simp at na; omega
  have d1 : dv a b ∣ a := Int.natAbs_dvd_natAbs.mp (by rw [na]; exact Int.gcd_dvd_natAbs_left a b)
  have d2 : dv a b ∣ b := Int.natAbs_dvd_natAbs.mp (by rw [na]; exact Int.gcd_dvd_natAbs_right a b)
  obtain ⟨x, hx⟩ := d1
  obtain ⟨y, hy⟩ := d2
  have hg : Int.gcd a b = (dv a b).natAbs * Int.gcd x y := by
    have := Int.gcd_mul_left (dv a b) x y
    rw [← hx, ← hy] at this
    exact this
  refine ⟨x, y, hx, hy, ⟨?_, ?_⟩, na⟩
  · by_cases hn : b < 0
    · have hd : dv a b < 0 := by
        unfold dv
        rw [if_pos hn]
        omega
      rcases Int.lt_trichotomy y 0 with q | q | q
      · have := Int.mul_pos_of_neg_of_neg hd q
        omega
      · rw [q, Int.mul_zero] at hy
        omega
      · exact q
    · have hd : 0 < dv a b := by
        unfold dv
        rw [if_neg hn]
        omega
      rcases Int.lt_trichotomy y 0 with q | q | q
      · have := Int.mul_neg_of_pos_of_neg hd q
        omega
      · rw [q, Int.mul_zero] at hy
        omega
      · exact q
  · rw [na] at hg
    have : Int.gcd a b * Int.gcd x y = Int.gcd a b * 1 := by omega
    exact Nat.eq_of_mul_eq_mul_left g0 this
theorem qn_rt {a b : Int} (h : b ≠ 0) : ∃ x y, qn a b = .tup [.int x, .int y] ∧ Rt x y ∧ x.natAbs ≤ a.natAbs ∧ y.natAbs ≤ b.natAbs := by
  obtain ⟨x, y, hx, hy, r, na⟩ := dv_spec (a := a) h
  have g0 := gcd_pos (a := a) h
  have nz : dv a b ≠ 0 := fun z => by rw [z] at na; simp at na; omega
  refine ⟨x, y, ?_, r, ?_, ?_⟩
  · unfold qn
    have e1 : a.fdiv (dv a b) = x := by
      conv => lhs; arg 1; rw [hx]
      exact Int.mul_fdiv_cancel_left x nz
    have e2 : b.fdiv (dv a b) = y := by
      conv => lhs; arg 1; rw [hy]
      exact Int.mul_fdiv_cancel_left y nz
    rw [e1, e2]
  · conv => rhs; rw [hx, Int.natAbs_mul, na]
    exact Nat.le_mul_of_pos_left _ g0
  · conv => rhs; rw [hy, Int.natAbs_mul, na]
    exact Nat.le_mul_of_pos_left _ g0
theorem qn_mul {x y m : Int} (r : Rt x y) (hm : 0 < m) : qn (x * m) (y * m) = .tup [.int x, .int y] := by
  have hp : 0 < y * m := Int.mul_pos r.pos hm
  have hd : dv (x * m) (y * m) = m := by
    unfold dv
    rw [if_neg (by omega), Int.gcd_mul_right, r.cop]
    omega
  unfold qn
  rw [hd, Int.mul_comm x, Int.mul_comm y, Int.mul_fdiv_cancel_left _ (by omega), Int.mul_fdiv_cancel_left _ (by omega)]
/-! ### what is whole, a pair, told -/
theorem whole_int (hE : ∀ m, m < 26 → ents[m]? = eB[m]?) (hk : 0 < k) {n : Int} : (tbT ents k).fn 0 [.int n] s = .ok (.bl true) s := by
  rw [fn_at hE (g := 0) rfl (by decide) hk rfl]
  rfl
theorem whole_tup (hE : ∀ m, m < 26 → ents[m]? = eB[m]?) (hk : 0 < k) {xs : List D} : (tbT ents k).fn 0 [.tup xs] s = .ok (.bl false) s := by
  rw [fn_at hE (g := 0) rfl (by decide) hk rfl]
  rfl
theorem whole_lst (hE : ∀ m, m < 26 → ents[m]? = eB[m]?) (hk : 0 < k) {xs : List D} : (tbT ents k).fn 0 [.lst xs] s = .ok (.bl false) s := by
  rw [fn_at hE (g := 0) rfl (by decide) hk rfl]
  rfl
theorem pair_tup (hE : ∀ m, m < 26 → ents[m]? = eB[m]?) (hk : 1 < k) {x y : Int} : (tbT ents k).fn 1 [.tup [.int x, .int y]] s = .ok (.bl (decide (0 < y))) s := by
  rw [fn_at hE (g := 1) rfl (by decide) hk rfl]
  have w := fun (n : Int) => whole_int (s := s) (k := 1) hE (by decide) (n := n)
  have i1 : isTy (.tup [.int x, .int y]) [.tuple, .list] = some true := rfl
  simp [b1, N1, semF, start0, Mi.execs, Mi.exec, evalE, evalT, evalA, evalAnd, evalOr, i1, w, sub_tup, ixN]
theorem pair_lst (hE : ∀ m, m < 26 → ents[m]? = eB[m]?) (hk : 1 < k) {x y : Int} : (tbT ents k).fn 1 [.lst [.int x, .int y]] s = .ok (.bl (decide (0 < y))) s := by
  rw [fn_at hE (g := 1) rfl (by decide) hk rfl]
  have w := fun (n : Int) => whole_int (s := s) (k := 1) hE (by decide) (n := n)
  have i1 : isTy (.lst [.int x, .int y]) [.tuple, .list] = some true := rfl
  simp [b1, N1, semF, start0, Mi.execs, Mi.exec, evalE, evalT, evalA, evalAnd, evalOr, i1, w, sub_lst, ixN]
theorem told_int (hE : ∀ m, m < 26 → ents[m]? = eB[m]?) (hk : 4 < k) {n : Int} : (tbT ents k).fn 4 [.int n] s = .ok (.tup [.int n, .int 1]) s := by
  rw [fn_at hE (g := 4) rfl (by decide) hk rfl]
  have w := whole_int (s := s) (k := 4) hE (by decide) (n := n)
  simp [b4, N4, semF, start0, Mi.execs, Mi.exec, evalE, evalT, evalA, evalAnd, evalOr, w, big]
theorem told_tup (hE : ∀ m, m < 26 → ents[m]? = eB[m]?) (hk : 4 < k) {x y : Int} (h : 0 < y) (hb : sm y) : (tbT ents k).fn 4 [.tup [.int x, .int y]] s = .ok (qn x y) s := by
  rw [fn_at hE (g := 4) rfl (by decide) hk rfl]
  have w := whole_tup (s := s) (k := 4) hE (by decide) (xs := [.int x, .int y])
  have p := pair_tup (s := s) (k := 4) hE (by decide) (x := x) (y := y)
  have l := low_ok (s := s) (k := 4) hE (by decide) (a := x) (b := y) (by omega) hb
  simp [b4, N4, semF, start0, Mi.execs, Mi.exec, evalE, evalT, evalA, evalAnd, evalOr, w, p, l, h, sub_tup, ixN]
theorem told_lst (hE : ∀ m, m < 26 → ents[m]? = eB[m]?) (hk : 4 < k) {x y : Int} (h : 0 < y) (hb : sm y) : (tbT ents k).fn 4 [.lst [.int x, .int y]] s = .ok (qn x y) s := by
  rw [fn_at hE (g := 4) rfl (by decide) hk rfl]
  have w := whole_lst (s := s) (k := 4) hE (by decide) (xs := [.int x, .int y])
  have p := pair_lst (s := s) (k := 4) hE (by decide) (x := x) (y := y)
  have l := low_ok (s := s) (k := 4) hE (by decide) (a := x) (b := y) (by omega) hb
  simp [b4, N4, semF, start0, Mi.execs, Mi.exec, evalE, evalT, evalA, evalAnd, evalOr, w, p, l, h, sub_lst, ixN]
end
end K02
end

section
set_option Elab.async false
set_option linter.all false
set_option maxRecDepth 100000
set_option maxHeartbeats 4000000
namespace K02
open PySem PySem.Spec PyProof.Rows L2 LamX Mi
section
variable {ents : List Ent} {k : Nat} {s : Pen} {B : Int}
abbrev rt (x y : Int) : D := .tup [.int x, .int y]
/-- under 2^40 -/
def tn (a : Int) : Prop := a.natAbs < 2 ^ 40
theorem tn_mul {a b : Int} (h : tn b) : mulOk a b = true := mulR (by unfold tn at h; omega)
theorem tn_sm {a b : Int} (h : tn a) (h2 : tn b) : sm (a * b) := by
  unfold tn at h h2
  unfold sm
  rw [Int.natAbs_mul]
  have : a.natAbs * b.natAbs < 2 ^ 40 * 2 ^ 40 := Nat.mul_lt_mul_of_lt_of_lt h h2
  omega
theorem nz_mul {a b : Int} (h : 0 < a) (h2 : 0 < b) : a * b ≠ 0 := by
  have := Int.mul_pos h h2
  omega
section
variable (hE : ∀ m, m < 26 → ents[m]? = eB[m]?) {a b c d : Int} (hb : 0 < b) (hd : 0 < d) (ta : tn a) (tb : tn b) (tc : tn c) (td : tn d)
include hE hb hd ta tb tc td
theorem f5_ok (hk : 5 < k) : (tbT ents k).fn 5 [rt a b, rt c d] s = .ok (qn (a * d + c * b) (b * d)) s := by
  rw [fn_at hE (g := 5) rfl (by decide) hk rfl]
  have l := low_ok (s := s) (k := 5) hE (by decide) (a := a * d + c * b) (nz_mul hb hd) (tn_sm tb td)
  simp [b5, N5, semF, start0, Mi.execs, Mi.exec, evalE, evalT, evalA, l, sub_tup, ixN, b_mul (tn_mul td), b_mul (tn_mul tb)]
theorem f6_ok (hk : 6 < k) : (tbT ents k).fn 6 [rt a b, rt c d] s = .ok (qn (a * d - c * b) (b * d)) s := by
  rw [fn_at hE (g := 6) rfl (by decide) hk rfl]
  have l := low_ok (s := s) (k := 6) hE (by decide) (a := a * d - c * b) (nz_mul hb hd) (tn_sm tb td)
  simp [b6, N6, semF, start0, Mi.execs, Mi.exec, evalE, evalT, evalA, l, sub_tup, ixN, b_mul (tn_mul td), b_mul (tn_mul tb)]
theorem f7_ok (hk : 7 < k) : (tbT ents k).fn 7 [rt a b, rt c d] s = .ok (qn (a * c) (b * d)) s := by
  rw [fn_at hE (g := 7) rfl (by decide) hk rfl]
  have l := low_ok (s := s) (k := 7) hE (by decide) (a := a * c) (nz_mul hb hd) (tn_sm tb td)
  simp [b7, N7, semF, start0, Mi.execs, Mi.exec, evalE, evalT, evalA, l, sub_tup, ixN, b_mul (tn_mul td), b_mul (tn_mul tc)]
theorem f8_ok (hc : c ≠ 0) (hk : 8 < k) : (tbT ents k).fn 8 [rt a b, rt c d] s = .ok (qn (a * d) (b * c)) s := by
  rw [fn_at hE (g := 8) rfl (by decide) hk rfl]
  have l := low_ok (s := s) (k := 8) hE (by decide) (a := a * d) (Int.mul_ne_zero (by omega : b ≠ 0) hc) (tn_sm tb tc)
  simp [b8, N8, semF, start0, Mi.execs, Mi.exec, evalE, evalT, evalA, l, sub_tup, ixN, b_mul (tn_mul td), b_mul (tn_mul tc)]
theorem f9_ok (hk : 9 < k) : (tbT ents k).fn 9 [rt a b, rt c d] s = .ok (.bl (decide (a * d < c * b))) s := by
  rw [fn_at hE (g := 9) rfl (by decide) hk rfl]
  simp [b9, N9, semF, start0, Mi.execs, Mi.exec, evalE, evalT, evalA, sub_tup, ixN, b_mul (tn_mul td), b_mul (tn_mul tb)]
theorem f19_ok (hk : 19 < k) : (tbT ents k).fn 19 [rt a b, rt c d] s = .ok (qn (a * d + c * b) (b * d)) s := by
  rw [fn_at hE (g := 19) rfl (by decide) hk rfl]
  have l := q_ok (s := s) (k := 19) hE (by decide) (a := a * d + c * b) (nz_mul hb hd) (tn_sm tb td)
  simp [b19, N19, semF, start0, Mi.execs, Mi.exec, evalE, evalT, evalA, l, sub_tup, ixN, b_mul (tn_mul td), b_mul (tn_mul tb)]
theorem f20_ok (hk : 20 < k) : (tbT ents k).fn 20 [rt a b, rt c d] s = .ok (qn (a * c) (b * d)) s := by
  rw [fn_at hE (g := 20) rfl (by decide) hk rfl]
  have l := q_ok (s := s) (k := 20) hE (by decide) (a := a * c) (nz_mul hb hd) (tn_sm tb td)
  simp [b20, N20, semF, start0, Mi.execs, Mi.exec, evalE, evalT, evalA, l, sub_tup, ixN, b_mul (tn_mul td), b_mul (tn_mul tc)]
theorem f21_ok (hk : 21 < k) : (tbT ents k).fn 21 [rt a b, rt c d] s = .ok (.bl (decide (a * d < c * b))) s := by
  rw [fn_at hE (g := 21) rfl (by decide) hk rfl]
  simp [b21, N21, semF, start0, Mi.execs, Mi.exec, evalE, evalT, evalA, sub_tup, ixN, b_mul (tn_mul td), b_mul (tn_mul tb)]
theorem f22_ok (hk : 22 < k) : (tbT ents k).fn 22 [rt a b, rt c d] s = .ok (qn (a * d - c * b) (b * d)) s := by
  rw [fn_at hE (g := 22) rfl (by decide) hk rfl]
  have l := q_ok (s := s) (k := 22) hE (by decide) (a := a * d - c * b) (nz_mul hb hd) (tn_sm tb td)
  simp [b22, N22, semF, start0, Mi.execs, Mi.exec, evalE, evalT, evalA, l, sub_tup, ixN, b_mul (tn_mul td), b_mul (tn_mul tb)]
theorem f23_ok (hc : c ≠ 0) (hk : 23 < k) : (tbT ents k).fn 23 [rt a b, rt c d] s = .ok (qn (a * d) (b * c)) s := by
  rw [fn_at hE (g := 23) rfl (by decide) hk rfl]
  have l := q_ok (s := s) (k := 23) hE (by decide) (a := a * d) (Int.mul_ne_zero (by omega : b ≠ 0) hc) (tn_sm tb tc)
  simp [b23, N23, semF, start0, Mi.execs, Mi.exec, evalE, evalT, evalA, l, sub_tup, ixN, b_mul (tn_mul td), b_mul (tn_mul tc)]
end
end
end K02
end

section
set_option Elab.async false
set_option linter.all false
set_option maxRecDepth 100000
set_option maxHeartbeats 4000000
namespace K02
open PySem PySem.Spec PyProof.Rows L2 LamX Mi
section
variable {ents : List Ent} {k : Nat} {s : Pen} {B : Int}
theorem PenI.up {B C : Int} (p : PenI B s) (h : B ≤ C) : PenI C s := ⟨p.f0, p.f1, p.c0, by have := p.c1; omega, p.p0, p.d0⟩
/-- a ratio's number drawn -/
theorem num_ok (hE : ∀ m, m < 26 → ents[m]? = eB[m]?) (hk : 24 < k) {m : Int} (h0 : 0 < m) (h1 : m < 1048576) (p : PenI B s) (hB : B < 999999000) :
    ∃ x y s', (tbT ents k).fn 24 [.pen, .int m] s = .ok (rt x y) s' ∧ Rt x y ∧ (x.natAbs : Int) ≤ m ∧ y ≤ 3 ∧ PenI (B + 2) s' := by
  have mo : mulOk 2 m = true := mulR (by omega)
  obtain ⟨v, s1, e1, v0, v1, p1⟩ := draw_ok (k := 24) hE (by decide) (many := 2 * m + 1) (by omega) (by omega) p (by omega)
  obtain ⟨d, s2, hd, e2, p2⟩ := pick_ok (k := 24) hE (by decide) (xs := [.int 1, .int 1, .int 1, .int 2, .int 3]) (by decide) (by decide) p1 (by omega)
  have hb : ∃ b : Int, d = .int b ∧ 0 < b ∧ b ≤ 3 := by
    simp only [List.mem_cons, List.not_mem_nil, or_false] at hd
    rcases hd with h | h | h | h | h <;> subst h
    · exact ⟨1, rfl, by decide, by decide⟩
    · exact ⟨1, rfl, by decide, by decide⟩
    · exact ⟨1, rfl, by decide, by decide⟩
    · exact ⟨2, rfl, by decide, by decide⟩
    · exact ⟨3, rfl, by decide, by decide⟩
  obtain ⟨b, rfl, b0, b1⟩ := hb
  have q := q_ok (s := s2) (k := 24) hE (by decide) (a := v - m) (b := b) (by omega) (by unfold sm; omega)
  obtain ⟨x, y, hq, r, hx, hy⟩ := qn_rt (a := v - m) (b := b) (by omega)
  refine ⟨x, y, s2, ?_, r, by omega, by omega, p2.up (by omega)⟩
  rw [fn_at hE (g := 24) rfl (by decide) hk rfl]
  simp [b24, N24, semF, start0, Mi.execs, Mi.exec, evalE, evalT, evalA, b_mul mo, e1, e2, q, hq, big]
/-- how a ratio may be handed -/
inductive Hd (x y : Int) : D → Prop
  | int : y = 1 → Hd x y (.int x)
  | tup {m : Int} : 0 < m → m ≤ 5 → Hd x y (.tup [.int (x * m), .int (y * m)])
  | lst {m : Int} : 0 < m → m ≤ 5 → Hd x y (.lst [.int (x * m), .int (y * m)])
theorem hand_ok (hE : ∀ m, m < 26 → ents[m]? = eB[m]?) (hk : 25 < k) {x y : Int} (p : PenI B s) (hB : B < 999999000) :
    ∃ v s', (tbT ents k).fn 25 [.pen, rt x y] s = .ok v s' ∧ Hd x y v ∧ PenI (B + 3) s' := by
  have tail : ∀ {s1 : Pen}, PenI (B + 1) s1 → ∃ b d s3 s2, 0 < b ∧ b ≤ 5 ∧ Hd x y d ∧ PenI (B + 3) s3 ∧
      (tbT ents 25).fn 16 [.pen, .lst [.int 1, .int 1, .int 2, .int 5]] s1 = .ok (.int b) s2 ∧
      (tbT ents 25).fn 16 [.pen, .lst [.tup [.int (x * b), .int (y * b)], .lst [.int (x * b), .int (y * b)]]] s2 = .ok d s3 := fun {s1} p1 => by
    obtain ⟨d, s2, hd, e2, p2⟩ := pick_ok (k := 25) hE (by decide) (xs := [.int 1, .int 1, .int 2, .int 5]) (by decide) (by decide) p1 (by omega)
    have hb : ∃ b : Int, d = .int b ∧ 0 < b ∧ b ≤ 5 := by
      simp only [List.mem_cons, List.not_mem_nil, or_false] at hd
      rcases hd with h | h | h | h <;> subst h
      · exact ⟨1, rfl, by decide, by decide⟩
      · exact ⟨1, rfl, by decide, by decide⟩
      · exact ⟨2, rfl, by decide, by decide⟩
      · exact ⟨5, rfl, by decide, by decide⟩
    obtain ⟨b, rfl, b0, b1⟩ := hb
    obtain ⟨d, s3, hd, e3, p3⟩ := pick_ok (k := 25) hE (by decide) (xs := [.tup [.int (x * b), .int (y * b)], .lst [.int (x * b), .int (y * b)]]) (by show 0 < 2; omega) (by show 2 < _; omega) p2 (by omega)
    refine ⟨b, d, s3, s2, b0, b1, ?_, p3.up (by omega), e2, e3⟩
    simp only [List.mem_cons, List.not_mem_nil, or_false] at hd
    rcases hd with h | h <;> subst h
    · exact .tup b0 b1
    · exact .lst b0 b1
  have mo : ∀ b : Int, 0 < b → b ≤ 5 → ∀ z, mulOk z b = true := fun b h0 h1 z => mulR (by omega)
  rw [fn_at hE (g := 25) rfl (by decide) hk rfl]
  by_cases h1 : y = 1
  · obtain ⟨v, s1, e1, v0, v1, p1⟩ := draw_ok (k := 25) hE (by decide) (many := 2) (by omega) (by omega) p (by omega)
    by_cases hv : v = 0
    · refine ⟨.int x, s1, ?_, .int h1, p1.up (by omega)⟩
      simp [b25, N25, semF, start0, Mi.execs, Mi.exec, evalE, evalT, evalA, evalAnd, evalOr, sub_tup, ixN, h1, e1, hv]
    · obtain ⟨b, d, s3, s2, b0, b1, h, p3, e2, e3⟩ := tail p1
      refine ⟨d, s3, ?_, h, p3⟩
      subst h1
      rw [Int.one_mul] at e3
      simp [b25, N25, semF, start0, Mi.execs, Mi.exec, evalE, evalT, evalA, evalAnd, evalOr, sub_tup, ixN, e1, hv, e2, b_mul (mo b b0 b1 _), e3, big]
  · obtain ⟨b, d, s3, s2, b0, b1, h, p3, e2, e3⟩ := tail (p.up (by omega))
    refine ⟨d, s3, ?_, h, p3⟩
    simp [b25, N25, semF, start0, Mi.execs, Mi.exec, evalE, evalT, evalA, evalAnd, evalOr, sub_tup, ixN, h1, e2, b_mul (mo b b0 b1 _), e3, big]
/-! ### told of what is handed -/
def fit (a : Int) : Prop := a.natAbs < 2 ^ 30
theorem fit_tn {a : Int} (h : fit a) : tn a := by
  unfold fit at h
  unfold tn
  omega
section
variable (hE : ∀ m, m < 26 → ents[m]? = eB[m]?)
include hE
theorem told_ok {x y : Int} {v : D} (r : Rt x y) (f : fit y) (h : Hd x y v) (hk : 4 < k) : (tbT ents k).fn 4 [v] s = .ok (rt x y) s := by
  have sy : ∀ m : Int, 0 < m → m ≤ 5 → 0 < y * m ∧ sm (y * m) := fun m h0 h1 => ⟨Int.mul_pos r.pos h0, by
    unfold fit at f
    exact tn_sm (by unfold tn; omega) (by unfold tn; omega)⟩
  cases h with
  | int e => subst e; exact told_int hE hk
  | tup h0 h1 => rw [told_tup hE hk (sy _ h0 h1).1 (sy _ h0 h1).2, qn_mul r h0]
  | lst h0 h1 => rw [told_lst hE hk (sy _ h0 h1).1 (sy _ h0 h1).2, qn_mul r h0]
variable {a b c d : Int} {v w : D} (r1 : Rt a b) (r2 : Rt c d) (ta : fit a) (tb : fit b) (tc : fit c) (td : fit d) (h1 : Hd a b v) (h2 : Hd c d w)
include r1 r2 ta tb tc td h1 h2
theorem f10_ok (hk : 10 < k) : (tbT ents k).fn 10 [v, w] s = .ok (qn (a * d + c * b) (b * d)) s := by
  rw [fn_at hE (g := 10) rfl (by decide) hk rfl]
  have t1 := told_ok (s := s) (k := 10) hE r1 tb h1 (by decide)
  have t2 := told_ok (s := s) (k := 10) hE r2 td h2 (by decide)
  have f := f5_ok (s := s) (k := 10) hE r1.pos r2.pos (fit_tn ta) (fit_tn tb) (fit_tn tc) (fit_tn td) (by decide)
  simp [b10, N10, semF, start0, Mi.execs, Mi.exec, evalE, evalT, evalA, t1, t2, f]
theorem f11_ok (hk : 11 < k) : (tbT ents k).fn 11 [v, w] s = .ok (qn (a * d - c * b) (b * d)) s := by
  rw [fn_at hE (g := 11) rfl (by decide) hk rfl]
  have t1 := told_ok (s := s) (k := 11) hE r1 tb h1 (by decide)
  have t2 := told_ok (s := s) (k := 11) hE r2 td h2 (by decide)
  have f := f6_ok (s := s) (k := 11) hE r1.pos r2.pos (fit_tn ta) (fit_tn tb) (fit_tn tc) (fit_tn td) (by decide)
  simp [b11, N11, semF, start0, Mi.execs, Mi.exec, evalE, evalT, evalA, t1, t2, f]
theorem f12_ok (hk : 12 < k) : (tbT ents k).fn 12 [v, w] s = .ok (qn (a * c) (b * d)) s := by
  rw [fn_at hE (g := 12) rfl (by decide) hk rfl]
  have t1 := told_ok (s := s) (k := 12) hE r1 tb h1 (by decide)
  have t2 := told_ok (s := s) (k := 12) hE r2 td h2 (by decide)
  have f := f7_ok (s := s) (k := 12) hE r1.pos r2.pos (fit_tn ta) (fit_tn tb) (fit_tn tc) (fit_tn td) (by decide)
  simp [b12, N12, semF, start0, Mi.execs, Mi.exec, evalE, evalT, evalA, t1, t2, f]
theorem f13_ok (hc : c ≠ 0) (hk : 13 < k) : (tbT ents k).fn 13 [v, w] s = .ok (qn (a * d) (b * c)) s := by
  rw [fn_at hE (g := 13) rfl (by decide) hk rfl]
  have t1 := told_ok (s := s) (k := 13) hE r1 tb h1 (by decide)
  have t2 := told_ok (s := s) (k := 13) hE r2 td h2 (by decide)
  have f := f8_ok (s := s) (k := 13) hE r1.pos r2.pos (fit_tn ta) (fit_tn tb) (fit_tn tc) (fit_tn td) hc (by decide)
  simp [b13, N13, semF, start0, Mi.execs, Mi.exec, evalE, evalT, evalA, t1, t2, f, sub_tup, ixN, hc]
theorem f14_ok (hk : 14 < k) : (tbT ents k).fn 14 [v, w] s = .ok (.bl (decide (a * d < c * b))) s := by
  rw [fn_at hE (g := 14) rfl (by decide) hk rfl]
  have t1 := told_ok (s := s) (k := 14) hE r1 tb h1 (by decide)
  have t2 := told_ok (s := s) (k := 14) hE r2 td h2 (by decide)
  have f := f9_ok (s := s) (k := 14) hE r1.pos r2.pos (fit_tn ta) (fit_tn tb) (fit_tn tc) (fit_tn td) (by decide)
  simp [b14, N14, semF, start0, Mi.execs, Mi.exec, evalE, evalT, evalA, t1, t2, f]
end
theorem is_ok (hE : ∀ m, m < 26 → ents[m]? = eB[m]?) (hk : 2 < k) {x y : Int} {v : D} (r : Rt x y) (h : Hd x y v) : ∃ b, isTy v [.list] = some b ∧ (tbT ents k).fn 2 [v] s = .ok (.bl (!b)) s := by
  rw [fn_at hE (g := 2) rfl (by decide) hk rfl]
  cases h with
  | int e =>
    have w := whole_int (s := s) (k := 2) hE (by decide) (n := x)
    refine ⟨false, rfl, ?_⟩
    simp [b2, N2, semF, start0, Mi.execs, Mi.exec, evalE, evalT, evalA, evalAnd, evalOr, w]
  | @tup m h0 h1 =>
    have w := whole_tup (s := s) (k := 2) hE (by decide) (xs := [.int (x * m), .int (y * m)])
    have q := pair_tup (s := s) (k := 2) hE (by decide) (x := x * m) (y := y * m)
    have i1 : isTy (.tup [.int (x * m), .int (y * m)]) [.tuple] = some true := rfl
    refine ⟨false, rfl, ?_⟩
    simp [b2, N2, semF, start0, Mi.execs, Mi.exec, evalE, evalT, evalA, evalAnd, evalOr, w, q, i1, Int.mul_pos r.pos h0]
  | @lst m h0 h1 =>
    have w := whole_lst (s := s) (k := 2) hE (by decide) (xs := [.int (x * m), .int (y * m)])
    have i1 : isTy (.lst [.int (x * m), .int (y * m)]) [.tuple] = some false := rfl
    refine ⟨true, rfl, ?_⟩
    simp [b2, N2, semF, start0, Mi.execs, Mi.exec, evalE, evalT, evalA, evalAnd, evalOr, w, i1]
end
end K02
end

section
set_option Elab.async false
set_option linter.all false
set_option maxRecDepth 100000
set_option maxHeartbeats 1000000
namespace K02
open PySem PySem.Spec PyProof.Rows L2 LamX Mi
/-- an int that may be told -/
def sh (a : Int) : Prop := a.natAbs < 10 ^ 12
theorem sh_len {a : Int} (h : sh a) : (PyData.shown (.int a)).length ≤ 13 := by
  refine PyData.shown_int_le ?_
  exact h
theorem sh_can {a : Int} (h : sh a) : PyData.showable (.int a) = true := by
  have e : (10 : Nat) ^ 12 < 2 ^ 1000 := by decide +kernel
  unfold sh at h
  refine showable_of_noneOrIn (lo := -(2 ^ 1920 : Int)) (hi := 2 ^ 1920) (Int.le_refl _) (Int.le_refl _) (.int a) ?_
  have e2 : (10 : Int) ^ 12 ≤ 2 ^ 1920 := by decide +kernel
  have e3 : ((10 : Nat) ^ 12 : Nat) = 1000000000000 := by decide +kernel
  have e4 : (10 : Int) ^ 12 = 1000000000000 := by decide +kernel
  rw [e3] at h
  rw [e4] at e2
  simp only [noneOrIn, Bool.and_eq_true, decide_eq_true_eq]
  constructor <;> omega
theorem leaf {a : Int} (h : sh a) : PyData.leavesShort 13 (.int a) = true := by
  simp only [PyData.leavesShort, decide_eq_true_eq]
  exact sh_len h
theorem wt {a : Int} (h : sh a) : (if a = 0 then 0 else a.natAbs.log2 + 1) ≤ 50 := by
  split
  · omega
  · unfold sh at h
    have e3 : (10 : Nat) ^ 12 = 1000000000000 := by decide +kernel
    have := (Nat.log2_lt (n := a.natAbs) (k := 49) (by omega)).mpr (by omega)
    omega
theorem repr_of {d : D} {p : PyData} (e : toP d = some p) (s1 : p.showable = true) (l : p.leavesShort 13 = true) (w : p.weight ≤ 1000) (d1 : p.depth ≤ 64) (h1 : p.hasDict = false) : reprD d = some p.shown := by
  have z := PyData.shown_le 13 (by decide) p l
  have z2 : p.shown.length ≤ 1000000 := by omega
  unfold reprD
  rw [e]
  simp only [s1, h1, decide_eq_true d1, decide_eq_true z2]
  rfl
theorem repr_rt {a b : Int} (ha : sh a) (hb : sh b) : ∃ t, reprD (rt a b) = some t := by
  have c1 := sh_can ha
  have c2 := sh_can hb
  have l1 := leaf ha
  have l2 := leaf hb
  refine ⟨_, repr_of (p := .tuple [.int a, .int b]) rfl ?_ ?_ ?_ ?_ rfl⟩
  · simp only [PyData.showable, PyData.showableAll, Bool.and_true, Bool.and_eq_true] at c1 c2 ⊢
    exact ⟨c1, c2⟩
  · simp only [PyData.leavesShort, PyData.leavesShortAll, Bool.and_true, Bool.and_eq_true] at l1 l2 ⊢
    exact ⟨l1, l2⟩
  · simp [PyData.weight, PyData.weightAll]
    have w1 := wt ha
    have w2 := wt hb
    omega
  · simp [PyData.depth, PyData.depthAll]
theorem repr_five {a b c d e f g h : Int} {t : Bool} (h1 : sh a) (h2 : sh b) (h3 : sh c) (h4 : sh d) (h5 : sh e) (h6 : sh f) (h7 : sh g) (h8 : sh h) :
    ∃ x, reprD (.lst [rt a b, rt c d, rt e f, rt g h, .bl t]) = some x := by
  have c1 := sh_can h1
  have c2 := sh_can h2
  have c3 := sh_can h3
  have c4 := sh_can h4
  have c5 := sh_can h5
  have c6 := sh_can h6
  have c7 := sh_can h7
  have c8 := sh_can h8
  have l1 := leaf h1
  have l2 := leaf h2
  have l3 := leaf h3
  have l4 := leaf h4
  have l5 := leaf h5
  have l6 := leaf h6
  have l7 := leaf h7
  have l8 := leaf h8
  refine ⟨_, repr_of (p := .list [.tuple [.int a, .int b], .tuple [.int c, .int d], .tuple [.int e, .int f], .tuple [.int g, .int h], .bool t]) rfl ?_ ?_ ?_ ?_ rfl⟩
  · simp only [PyData.showable, PyData.showableAll, Bool.and_true, Bool.and_eq_true] at *
    exact ⟨⟨c1, c2⟩, ⟨c3, c4⟩, ⟨c5, c6⟩, c7, c8⟩
  · simp only [PyData.leavesShort, PyData.leavesShortAll, Bool.and_true, Bool.and_eq_true] at *
    exact ⟨⟨l1, l2⟩, ⟨l3, l4⟩, ⟨l5, l6⟩, l7, l8⟩
  · simp [PyData.weight, PyData.weightAll]
    have w1 := wt h1
    have w2 := wt h2
    have w3 := wt h3
    have w4 := wt h4
    have w5 := wt h5
    have w6 := wt h6
    have w7 := wt h7
    have w8 := wt h8
    omega
  · simp [PyData.depth, PyData.depthAll]
theorem repr_bl (t : Bool) : ∃ x, reprD (.bl t) = some x := by
  cases t
  · exact ⟨_, rfl⟩
  · exact ⟨_, rfl⟩
end K02
end

section
set_option Elab.async false
set_option linter.all false
set_option maxRecDepth 100000
set_option maxHeartbeats 1000000
namespace K02
open PySem PySem.Spec PyProof.Rows L2 LamX Mi
def lapB : Sts := match mid with
  | .cons (.for_ _ _ b) _ => b
  | _ => .nil
def aftB : Sts := match mid with
  | .cons _ r => r
  | _ => .nil
theorem mid_eq : mid = .cons (.for_ (.nm 2) (.rng1 (.int 6)) lapB) aftB := rfl
def stp (n : Nat) : Sm := match n, lapB with
  | 0, .cons a _ => a
  | 1, .cons _ (.cons a _) => a
  | 2, .cons _ (.cons _ (.cons a _)) => a
  | 3, .cons _ (.cons _ (.cons _ (.cons a _))) => a
  | 4, .cons _ (.cons _ (.cons _ (.cons _ (.cons a _)))) => a
  | 5, .cons _ (.cons _ (.cons _ (.cons _ (.cons _ (.cons a _))))) => a
  | 6, .cons _ (.cons _ (.cons _ (.cons _ (.cons _ (.cons _ (.cons a _)))))) => a
  | _, _ => .brk
theorem lap_eq : lapB = .cons (stp 0) (.cons (stp 1) (.cons (stp 2) (.cons (stp 3) (.cons (stp 4) (.cons (stp 5) (.cons (stp 6) .nil)))))) := rfl
abbrev env (v2 v3 v4 v5 v6 v7 : Sl) : List Sl := [.emp, .val .pen, v2, v3, v4, v5, v6, v7, .emp, .emp, .emp, .emp]
theorem e0 : ∀ m, m < 26 → eB[m]? = eB[m]? := fun m _ => rfl
section
variable {s : Pen} {B : Int} {v2 v3 v4 v5 v6 v7 : Sl}
theorem step0 (p : PenI B s) (hB : B < 999998000) : ∃ a b c d s', Mi.exec Γ0 (stp 0) (env v2 v3 v4 v5 v6 v7) s = .nx (env v2 (.val (rt a b)) (.val (rt c d)) v5 v6 v7) s' ∧ Rt a b ∧ Rt c d ∧ a.natAbs ≤ 99999 ∧ b ≤ 3 ∧ c.natAbs ≤ 9 ∧ d ≤ 3 ∧ PenI (B + 5) s' := by
  obtain ⟨m, s1, hm, e1, p1⟩ := pick_ok (k := 26) e0 (by decide) (xs := [.int 4, .int 99999]) (by decide) (by decide) p (by omega)
  have hb : ∃ b : Int, m = .int b ∧ 0 < b ∧ b ≤ 99999 := by
    simp only [List.mem_cons, List.not_mem_nil, or_false] at hm
    rcases hm with h | h <;> subst h
    · exact ⟨4, rfl, by decide, by decide⟩
    · exact ⟨99999, rfl, by decide, by decide⟩
  obtain ⟨m, rfl, m0, m1⟩ := hb
  obtain ⟨a, b, s2, e2, r1, a1, b1, p2⟩ := num_ok (k := 26) e0 (by decide) m0 (by omega) p1 (by omega)
  obtain ⟨c, d, s3, e3, r2, c1, d1, p3⟩ := num_ok (k := 26) e0 (by decide) (m := 9) (by omega) (by omega) p2 (by omega)
  refine ⟨a, b, c, d, s3, ?_, r1, r2, by omega, b1, by omega, d1, p3.up (by omega)⟩
  have e : stp 0 = .par 3 4 (.call 24 (.cons (.var 1) (.cons (.call 16 (.cons (.var 1) (.cons (.lst (.cons (.int 4) (.cons (.int 99999) .nil))) .nil))) .nil))) (.call 24 (.cons (.var 1) (.cons (.int 9) .nil))) := rfl
  rw [e]
  simp [Mi.exec, evalE, evalT, evalA, Γ0, e1, e2, e3, big]
theorem step1 {a0 b0 : Int} (r : Rt a0 b0) (ha : a0.natAbs ≤ 99999) (hb : b0 ≤ 3) (p : PenI B s) (hB : B < 999998000) :
    ∃ a b s', Mi.exec Γ0 (stp 1) (env v2 (.val (rt a0 b0)) v4 v5 v6 v7) s = .nx (env v2 (.val (rt a b)) v4 v5 v6 v7) s' ∧ Rt a b ∧ a.natAbs ≤ 500000 ∧ b ≤ 999959 ∧ PenI (B + 1) s' := by
  obtain ⟨v, s1, e1, v0, v1, p1⟩ := draw_ok (k := 26) e0 (by decide) (many := 3) (by omega) (by omega) p (by omega)
  have e : stp 1 = .if_ (.cmp .eq (.call 15 (.cons (.var 1) (.cons (.int 3) .nil))) (.int 0)) (.cons (.set 3 (.call 18 (.cons (.bin .sub (.bin .mul (.sub (.var 3) (.int 0)) (.int 5)) (.int 3)) (.cons (.int 999959) .nil)))) .nil) .nil := rfl
  have mo : ∀ z, mulOk z 5 = true := fun z => mulR (by decide)
  rw [e]
  by_cases hv : v = 0
  · have q := q_ok (s := s1) (k := 26) e0 (by decide) (a := a0 * 5 - 3) (b := 999959) (by omega) (by unfold sm; decide)
    obtain ⟨x, y, hq, r2, hx, hy⟩ := qn_rt (a := a0 * 5 - 3) (b := 999959) (by omega)
    refine ⟨x, y, s1, ?_, r2, by omega, by omega, p1⟩
    simp [Mi.exec, Mi.execs, evalE, evalT, evalA, Γ0, e1, hv, sub_tup, ixN, b_mul (mo _), q, hq]
  · refine ⟨a0, b0, s1, ?_, r, by omega, by omega, p1⟩
    simp [Mi.exec, Mi.execs, evalE, evalT, evalA, Γ0, e1, hv]
theorem step2 {a b c d : Int} (p : PenI B s) (hB : B < 999998000) :
    ∃ v w s', Mi.exec Γ0 (stp 2) (env v2 (.val (rt a b)) (.val (rt c d)) v5 v6 v7) s = .nx (env v2 (.val (rt a b)) (.val (rt c d)) (.val v) (.val w) v7) s' ∧ Hd a b v ∧ Hd c d w ∧ PenI (B + 6) s' := by
  obtain ⟨v, s1, e1, h1, p1⟩ := hand_ok (k := 26) e0 (by decide) (x := a) (y := b) p (by omega)
  obtain ⟨w, s2, e2, h2, p2⟩ := hand_ok (k := 26) e0 (by decide) (x := c) (y := d) p1 (by omega)
  refine ⟨v, w, s2, ?_, h1, h2, p2.up (by omega)⟩
  have e : stp 2 = .par 5 6 (.call 25 (.cons (.var 1) (.cons (.var 3) .nil))) (.call 25 (.cons (.var 1) (.cons (.var 4) .nil))) := rfl
  rw [e]
  simp [Mi.exec, evalE, evalT, evalA, Γ0, e1, e2]
/-- the five answers -/
abbrev fiv (a b c d : Int) : D := .lst [rt a b, qn (a * d + c * b) (b * d), qn (a * d - c * b) (b * d), qn (a * c) (b * d), .bl (decide (a * d < c * b))]
section
variable {a b c d : Int} {v w : D} (r1 : Rt a b) (r2 : Rt c d) (ha : a.natAbs ≤ 500000) (hb : b ≤ 999959) (hc : c.natAbs ≤ 9) (hd : d ≤ 3)
include r1 r2 ha hb hc hd
theorem step3 : Mi.exec Γ0 (stp 3) (env v2 (.val (rt a b)) (.val (rt c d)) v5 v6 v7) s = .nx (env v2 (.val (rt a b)) (.val (rt c d)) v5 v6 (.val (fiv a b c d))) s := by
  have pb := r1.pos
  have pd := r2.pos
  have ta : tn a := by unfold tn; omega
  have tb : tn b := by unfold tn; omega
  have tc : tn c := by unfold tn; omega
  have td : tn d := by unfold tn; omega
  have f1 := f19_ok (s := s) (k := 26) e0 pb pd ta tb tc td (by decide)
  have f2 := f22_ok (s := s) (k := 26) e0 pb pd ta tb tc td (by decide)
  have f3 := f20_ok (s := s) (k := 26) e0 pb pd ta tb tc td (by decide)
  have f4 := f21_ok (s := s) (k := 26) e0 pb pd ta tb tc td (by decide)
  have e : stp 3 = .set 7 (.lst (.cons (.var 3) (.cons (.call 19 (.cons (.var 3) (.cons (.var 4) .nil))) (.cons (.call 22 (.cons (.var 3) (.cons (.var 4) .nil))) (.cons (.call 20 (.cons (.var 3) (.cons (.var 4) .nil))) (.cons (.call 21 (.cons (.var 3) (.cons (.var 4) .nil))) .nil)))))) := rfl
  rw [e]
  simp [Mi.exec, evalE, evalT, evalA, Γ0, f1, f2, f3, f4, big]
end
end
end K02
end

section
set_option Elab.async false
set_option linter.all false
set_option maxRecDepth 100000
set_option maxHeartbeats 1000000
namespace K02
open PySem PySem.Spec PyProof.Rows L2 LamX Mi
theorem l_repr {d : D} : bltop .repr [d] = (reprD d).map .str := rfl
theorem mul_le {a b : Int} {m n : Nat} (h : a.natAbs ≤ m) (h2 : b.natAbs ≤ n) : (a * b).natAbs ≤ m * n := by
  rw [Int.natAbs_mul]
  exact Nat.mul_le_mul h h2
theorem sh_of {a : Int} {m : Nat} (h : a.natAbs ≤ m) (h2 : m < 10 ^ 12) : sh a := Nat.lt_of_le_of_lt h h2
section
variable {s : Pen} {v2 v5 v6 v7 : Sl} {a b c d : Int} {v w : D} (r1 : Rt a b) (r2 : Rt c d) (ha : a.natAbs ≤ 500000) (hb : b ≤ 999959) (hc : c.natAbs ≤ 9) (hd : d ≤ 3)
include r1 r2 ha hb hc hd
theorem fiv_repr : ∃ t, reprD (fiv a b c d) = some t := by
  have pb := r1.pos
  have pd := r2.pos
  have nb : b.natAbs ≤ 999959 := by omega
  have nd : d.natAbs ≤ 3 := by omega
  have m1 := mul_le ha nd
  have m2 := mul_le hc nb
  have m3 := mul_le nb nd
  have m4 := mul_le ha hc
  obtain ⟨x1, y1, q1, _, u1, w1⟩ := qn_rt (a := a * d + c * b) (b := b * d) (nz_mul pb pd)
  obtain ⟨x2, y2, q2, _, u2, w2⟩ := qn_rt (a := a * d - c * b) (b := b * d) (nz_mul pb pd)
  obtain ⟨x3, y3, q3, _, u3, w3⟩ := qn_rt (a := a * c) (b := b * d) (nz_mul pb pd)
  unfold fiv
  rw [q1, q2, q3]
  have y : ∀ z : Int, z.natAbs ≤ 100000000 → sh z := fun z h => sh_of h (by decide)
  exact repr_five (y _ (by omega)) (y _ (by omega)) (y _ (by omega)) (y _ (by omega)) (y _ (by omega)) (y _ (by omega)) (y _ (by omega)) (y _ (by omega))
variable (h1 : Hd a b v) (h2 : Hd c d w)
include h1 h2
theorem step4 : Mi.exec Γ0 (stp 4) (env v2 (.val (rt a b)) (.val (rt c d)) (.val v) (.val w) (.val (fiv a b c d))) s = .nx (env v2 (.val (rt a b)) (.val (rt c d)) (.val v) (.val w) (.val (fiv a b c d))) s := by
  have pb := r1.pos
  have pd := r2.pos
  have ta : fit a := by unfold fit; omega
  have tb : fit b := by unfold fit; omega
  have tc : fit c := by unfold fit; omega
  have td : fit d := by unfold fit; omega
  obtain ⟨t, ht⟩ := fiv_repr r1 r2 ha hb hc hd
  have g0 := told_ok (s := s) (k := 26) e0 r1 tb h1 (by decide)
  have f1 := f10_ok (s := s) (k := 26) e0 r1 r2 ta tb tc td h1 h2 (by decide)
  have f2 := f11_ok (s := s) (k := 26) e0 r1 r2 ta tb tc td h1 h2 (by decide)
  have f3 := f12_ok (s := s) (k := 26) e0 r1 r2 ta tb tc td h1 h2 (by decide)
  have f4 := f14_ok (s := s) (k := 26) e0 r1 r2 ta tb tc td h1 h2 (by decide)
  have e : stp 4 = .if_ (.cmp .ne (.blt .repr (.cons (.lst (.cons (.call 4 (.cons (.var 5) .nil)) (.cons (.call 10 (.cons (.var 5) (.cons (.var 6) .nil))) (.cons (.call 11 (.cons (.var 5) (.cons (.var 6) .nil))) (.cons (.call 12 (.cons (.var 5) (.cons (.var 6) .nil))) (.cons (.call 14 (.cons (.var 5) (.cons (.var 6) .nil))) .nil)))))) .nil)) (.blt .repr (.cons (.var 7) .nil))) (.cons (.ret (.bl false)) .nil) .nil := rfl
  rw [e]
  simp [Mi.exec, Mi.execs, evalE, evalT, evalA, Γ0, g0, f1, f2, f3, f4, big, l_repr, ht]
theorem step5 : Mi.exec Γ0 (stp 5) (env v2 (.val (rt a b)) (.val (rt c d)) (.val v) (.val w) v7) s = .nx (env v2 (.val (rt a b)) (.val (rt c d)) (.val v) (.val w) v7) s := by
  obtain ⟨t, ht, f⟩ := is_ok (s := s) (k := 26) e0 (by decide) r1 h1
  obtain ⟨x, hx⟩ := repr_bl (!t)
  have e : stp 5 = .if_ (.cmp .ne (.blt .repr (.cons (.call 2 (.cons (.var 5) .nil)) .nil)) (.blt .repr (.cons (.not_ (.isi (.var 5) [.list])) .nil))) (.cons (.ret (.bl false)) .nil) .nil := rfl
  rw [e]
  simp [Mi.exec, Mi.execs, evalE, evalT, evalA, Γ0, f, ht, big, l_repr, hx]
theorem step6 : Mi.exec Γ0 (stp 6) (env v2 (.val (rt a b)) (.val (rt c d)) (.val v) (.val w) v7) s = .nx (env v2 (.val (rt a b)) (.val (rt c d)) (.val v) (.val w) v7) s := by
  have pb := r1.pos
  have pd := r2.pos
  have e : stp 6 = .if_ (.and_ (.cons (.cmp .ne (.sub (.var 4) (.int 0)) (.int 0)) (.cons (.cmp .ne (.blt .repr (.cons (.call 13 (.cons (.var 5) (.cons (.var 6) .nil))) .nil)) (.blt .repr (.cons (.call 23 (.cons (.var 3) (.cons (.var 4) .nil))) .nil))) .nil))) (.cons (.ret (.bl false)) .nil) .nil := rfl
  rw [e]
  by_cases hc0 : c = 0
  · simp [Mi.exec, Mi.execs, evalE, evalT, evalA, evalAnd, Γ0, hc0, sub_tup, ixN]
  · have ta : fit a := by unfold fit; omega
    have tb : fit b := by unfold fit; omega
    have tc : fit c := by unfold fit; omega
    have td : fit d := by unfold fit; omega
    have f1 := f13_ok (s := s) (k := 26) e0 r1 r2 ta tb tc td h1 h2 hc0 (by decide)
    have f2 := f23_ok (s := s) (k := 26) e0 pb pd (fit_tn ta) (fit_tn tb) (fit_tn tc) (fit_tn td) hc0 (by decide)
    have nb : b.natAbs ≤ 999959 := by omega
    have nd : d.natAbs ≤ 3 := by omega
    have m1 := mul_le ha nd
    have m2 := mul_le nb hc
    obtain ⟨x1, y1, q1, _, u1, w1⟩ := qn_rt (a := a * d) (b := b * c) (Int.mul_ne_zero (by omega : b ≠ 0) hc0)
    have y : ∀ z : Int, z.natAbs ≤ 100000000 → sh z := fun z h => sh_of h (by decide)
    obtain ⟨t, ht⟩ := repr_rt (y x1 (by omega)) (y y1 (by omega))
    rw [q1] at f1 f2
    simp [Mi.exec, Mi.execs, evalE, evalT, evalA, evalAnd, Γ0, f1, f2, hc0, sub_tup, ixN, l_repr, ht]
end
end K02
end

section
set_option Elab.async false
set_option linter.all false
set_option maxRecDepth 100000
set_option maxHeartbeats 400000
namespace K02
open PySem PySem.Spec PyProof.Rows L2 LamX Mi
theorem lap_ok {s : Pen} {B : Int} {v2 w3 w4 w5 w6 w7 : Sl} (p : PenI B s) (hB : B < 999990000) : ∃ v3 v4 v5 v6 v7 s', Mi.execs Γ0 lapB (env v2 w3 w4 w5 w6 w7) s = .nx (env v2 (.val v3) (.val v4) (.val v5) (.val v6) (.val v7)) s' ∧ PenI (B + 12) s' := by
  obtain ⟨a, b, c, d, s1, e0', r1, r2, a1, b1, c1, d1, p1⟩ := step0 (v2 := v2) (v3 := w3) (v4 := w4) (v5 := w5) (v6 := w6) (v7 := w7) p (by omega)
  obtain ⟨a, b, s2, e1, r1, a1, b1, p2⟩ := step1 (v2 := v2) (v4 := .val (rt c d)) (v5 := w5) (v6 := w6) (v7 := w7) r1 a1 b1 p1 (by omega)
  obtain ⟨v, w, s3, e2, h1, h2, p3⟩ := step2 (v2 := v2) (v5 := w5) (v6 := w6) (v7 := w7) (a := a) (b := b) (c := c) (d := d) p2 (by omega)
  have e3 := step3 (s := s3) (v2 := v2) (v5 := .val v) (v6 := .val w) (v7 := w7) r1 r2 a1 b1 c1 d1
  have e4 := step4 (s := s3) (v2 := v2) r1 r2 a1 b1 c1 d1 h1 h2
  have e5 := step5 (s := s3) (v2 := v2) (v7 := .val (fiv a b c d)) r1 r2 a1 b1 c1 d1 h1 h2
  have e6 := step6 (s := s3) (v2 := v2) (v7 := .val (fiv a b c d)) r1 r2 a1 b1 c1 d1 h1 h2
  refine ⟨rt a b, rt c d, v, w, fiv a b c d, s3, ?_, p3.up (by omega)⟩
  rw [lap_eq, Mi.execs, e0', sb_nx, Mi.execs, e1, sb_nx, Mi.execs, e2, sb_nx, Mi.execs, e3, sb_nx, Mi.execs, e4, sb_nx, Mi.execs, e5, sb_nx, Mi.execs, e6, sb_nx, Mi.execs]
def noO (xs : List Sl) : Prop := ∀ x ∈ xs, ∀ ds, x ≠ .own ds
theorem laps_ok : ∀ (is : List Int) {s : Pen} {B : Int} {w2 w3 w4 w5 w6 w7 : Sl}, PenI B s → noO [w2, w3, w4, w5, w6, w7] → B + 12 * is.length < 999980000 → ∃ v2 v3 v4 v5 v6 v7 s', forL (.nm 2) (fun ρ1 s1 => Mi.execs Γ0 lapB ρ1 s1) (is.map D.int) (env w2 w3 w4 w5 w6 w7) s = .nx (env v2 v3 v4 v5 v6 v7) s' ∧ PenI (B + 12 * is.length) s' ∧ noO [v2, v3, v4, v5, v6, v7] := by
  intro is
  induction is with
  | nil => intro s B w2 w3 w4 w5 w6 w7 p n h; exact ⟨_, _, _, _, _, _, s, rfl, p.up (by simp), n⟩
  | cons i is ih =>
    intro s B w2 w3 w4 w5 w6 w7 p n h
    rw [List.length_cons] at h
    obtain ⟨v3, v4, v5, v6, v7, s1, e1, p1⟩ := lap_ok (v2 := .val (.int i)) (w3 := w3) (w4 := w4) (w5 := w5) (w6 := w6) (w7 := w7) p (by omega)
    obtain ⟨v2, v3, v4, v5, v6, v7, s2, e2, p2, n2⟩ := ih (w2 := .val (.int i)) (w3 := .val v3) (w4 := .val v4) (w5 := .val v5) (w6 := .val v6) (w7 := .val v7) p1 (by intro x hx ds z; subst z; simp at hx) (by omega)
    refine ⟨v2, v3, v4, v5, v6, v7, s2, ?_, p2.up (by rw [List.length_cons]; omega), n2⟩
    have z : (env w2 w3 w4 w5 w6 w7).set 2 (.val (.int i)) = env (.val (.int i)) w3 w4 w5 w6 w7 := rfl
    rw [List.map_cons, forL, zst_nm, z]
    simp only [e1]
    exact e2
end K02
end

section
set_option Elab.async false
set_option linter.all false
set_option maxRecDepth 100000
set_option maxHeartbeats 400000
namespace K02
open PySem PySem.Spec PyProof.Rows L2 LamX Mi
theorem fold_in : ∀ (cs : List Int) (f : Int), 0 ≤ f → f < 999999437 → 0 ≤ cs.foldl foldC f ∧ cs.foldl foldC f < 999999437
  | [], f, a, b => ⟨a, b⟩
  | c :: cs, f, _, _ => by
    have h := fmod_lt (a := f * 157 + c) (b := 999999437) (by decide)
    exact fold_in cs (foldC f c) h.1 h.2
theorem pen0_in (is : List Int) : PenI 0 (pen0 is) := by
  have h := fold_in is 0 (by decide) (by decide)
  exact ⟨h.1, Int.lt_trans h.2 (by decide), Int.le_refl _, Int.le_refl _, Int.le_refl _, Int.le_refl _⟩
/-- the six laps -/
theorem six_ok (is : List Int) : ∃ v2 v3 v4 v5 v6 v7 s', Mi.execs Γ0 mid ρ0 (pen0 is) = Mi.execs Γ0 aftB (env v2 v3 v4 v5 v6 v7) s' ∧ PenI 72 s' ∧ noO [v2, v3, v4, v5, v6, v7] := by
  obtain ⟨v2, v3, v4, v5, v6, v7, s', e, p, n⟩ := laps_ok [0, 1, 2, 3, 4, 5] (w2 := .emp) (w3 := .emp) (w4 := .emp) (w5 := .emp) (w6 := .emp) (w7 := .emp) (pen0_in is) (by intro x hx ds z; subst z; simp at hx) (by decide)
  refine ⟨v2, v3, v4, v5, v6, v7, s', ?_, p, n⟩
  have x : evalI Γ0 (.rng1 (.int 6)) ρ0 (pen0 is) = .ok ([0, 1, 2, 3, 4, 5].map D.int) (pen0 is) := rfl
  have z : forL (.nm 2) (fun ρ1 s1 => Mi.execs Γ0 lapB ρ1 s1) ([0, 1, 2, 3, 4, 5].map D.int) ρ0 (pen0 is) = .nx (env v2 v3 v4 v5 v6 v7) s' := e
  rw [mid_eq, Mi.execs, Mi.exec, x, rt_ok, z, sb_nx]
end K02
end

section
set_option Elab.async false
set_option linter.all false
set_option maxRecDepth 100000
set_option maxHeartbeats 400000
namespace K02
open PySem PySem.Spec PyProof.Rows L2 LamX Mi
def bads : List D := [.non, .str "1", .tup [.int 1], .tup [.int 1, .int 0], .tup [.int 1, .int (-2)], .tup [.bl true, .int 2], .tup [.int 1, .bl true], .bl true, .tup [.int 1, .int 2, .int 3], .lst [], .dct []]
def odds : List D := [.str "x", .tup [.int 0, .int 0], .non]
def zers : List D := [.int 0, .tup [.int 0, .int 6]]
abbrev fin (v2 v3 v4 v5 v6 v7 : Sl) (b o z : D) : List Sl := [.emp, .val .pen, v2, v3, v4, v5, v6, v7, .val b, .val o, .val z, .emp]
theorem aft_ok {s : Pen} {B : Int} {v2 v3 v4 v5 v6 v7 : Sl} (p : PenI B s) (hB : B < 999990000) :
    ∃ b o z s', Mi.execs Γ0 aftB (env v2 v3 v4 v5 v6 v7) s = .nx (fin v2 v3 v4 v5 v6 v7 b o z) s' ∧ b ∈ bads ∧ o ∈ odds ∧ z ∈ zers := by
  obtain ⟨b, s1, hb, e1, p1⟩ := pick_ok (k := 26) e0 (by decide) (xs := bads) (by decide) (by decide) p (by omega)
  obtain ⟨o, s2, ho, e2, p2⟩ := pick_ok (k := 26) e0 (by decide) (xs := odds) (by decide) (by decide) p1 (by omega)
  obtain ⟨z, s3, hz, e3, p3⟩ := pick_ok (k := 26) e0 (by decide) (xs := zers) (by decide) (by decide) p2 (by omega)
  refine ⟨b, o, z, s3, ?_, hb, ho, hz⟩
  unfold bads at e1
  unfold odds at e2
  unfold zers at e3
  have e : aftB = .cons (.set 8 (.call 16 (.cons (.var 1) (.cons (.lst (.cons .non (.cons (.str "1") (.cons (.tup (.cons (.int 1) .nil)) (.cons (.tup (.cons (.int 1) (.cons (.int 0) .nil))) (.cons (.tup (.cons (.int 1) (.cons (.neg (.int 2)) .nil))) (.cons (.tup (.cons (.bl true) (.cons (.int 2) .nil))) (.cons (.tup (.cons (.int 1) (.cons (.bl true) .nil))) (.cons (.bl true) (.cons (.tup (.cons (.int 1) (.cons (.int 2) (.cons (.int 3) .nil)))) (.cons (.lst .nil) (.cons .dnew .nil)))))))))))) .nil)))) (.cons (.tup (.tup [9, 10]) (.tup (.cons (.call 16 (.cons (.var 1) (.cons (.lst (.cons (.str "x") (.cons (.tup (.cons (.int 0) (.cons (.int 0) .nil))) (.cons .non .nil)))) .nil))) (.cons (.call 16 (.cons (.var 1) (.cons (.lst (.cons (.int 0) (.cons (.tup (.cons (.int 0) (.cons (.int 6) .nil))) .nil))) .nil))) .nil)))) .nil) := rfl
  rw [e]
  simp [Mi.exec, Mi.execs, evalE, evalT, evalA, Γ0, e1, e2, e3, big]
end K02
end

section
set_option Elab.async false
set_option linter.all false
set_option maxRecDepth 100000
set_option maxHeartbeats 400000
namespace K02
open PySem PySem.Spec PyProof.Rows L2 LamX Mi
theorem bad_all {P : D → Prop} (h : ∀ i : Fin 11, P (bads.get i)) {b : D} (hb : b ∈ bads) : P b := by
  obtain ⟨i, hi, e⟩ := List.mem_iff_getElem.mp hb
  rw [← e]
  exact h ⟨i, hi⟩
theorem ce_ok {s : Pen} {v2 v3 v4 v5 v6 v7 : Sl} {b o z : D} (hb : b ∈ bads) : evalE Γ0 ce (fin v2 v3 v4 v5 v6 v7 b o z) s = .ok (.bl true) s := by
  simp only [bads, List.mem_cons, List.not_mem_nil, or_false] at hb
  rcases hb with h | h | h | h | h | h | h | h | h | h | h <;> subst h <;> rfl
end K02
end

section
set_option Elab.async false
set_option linter.all false
set_option maxRecDepth 100000
set_option maxHeartbeats 400000
namespace K02
open PySem PySem.Spec PyProof.Rows L2 LamX Mi
def dueR (b o z : D) : List D := [.tup [.str "row", b], .tup [.str "row", b], .tup [.str "row", b], .tup [.str "row", o], .tup [.str "row", b], .tup [.str "row", b], .tup [.str "row", b], .tup [.str "number", .str "share", .int 0]]
theorem dues_ok {s : Pen} {v2 v3 v4 v5 v6 v7 : Sl} {b o z : D} : ∀ m ∈ m0 :: ms, ∃ d, evalE Γ0 m.due (fin v2 v3 v4 v5 v6 v7 b o z) s = .ok d s := by
  intro m hm
  have h : m.l ∈ Ls := by rw [← Ls_eq]; exact List.mem_map.mpr ⟨m, hm, rfl⟩
  have q : ∀ l ∈ Ls, ∃ d, evalE Γ0 l.due (fin v2 v3 v4 v5 v6 v7 b o z) s = .ok d s := by
    intro l hl
    simp only [Ls, List.mem_cons, List.not_mem_nil, or_false] at hl
    rcases hl with h | h | h | h | h | h | h | h <;> subst h <;> exact ⟨_, rfl⟩
  have e : m.l.due = m.due := by
    simp only [Ms.l, lmOf]
    split <;> rfl
  rw [← e]
  exact q _ h
theorem caps_ok {v2 v3 v4 v5 v6 v7 : Sl} {b o z : D} : ∀ l ∈ Ls, ∀ c ∈ l.caps, ∃ d, (fin v2 v3 v4 v5 v6 v7 b o z)[c.2]? = some (.val d) := by
  intro l hl c hc
  have q : c.2 = 8 ∨ c.2 = 9 ∨ c.2 = 10 := by
    have a : Ls.all (fun l => l.caps.all fun c => decide (c.2 = 8 ∨ c.2 = 9 ∨ c.2 = 10)) = true := by decide
    exact of_decide_eq_true (List.all_eq_true.mp (List.all_eq_true.mp a l hl) c hc)
  rcases q with h | h | h <;> rw [h] <;> exact ⟨_, rfl⟩
end K02
end

section
set_option Elab.async false
set_option linter.all false
set_option maxRecDepth 100000
set_option maxHeartbeats 400000
namespace K02
open PySem PySem.Spec PyProof.Rows L2 LamX Mi
def prs (b o z : D) : List D := [.tup [.clo 0 [b], .tup [.str "row", b]], .tup [.clo 1 [b, o], .tup [.str "row", b]], .tup [.clo 2 [b], .tup [.str "row", b]], .tup [.clo 3 [o, b], .tup [.str "row", o]], .tup [.clo 4 [b], .tup [.str "row", b]], .tup [.clo 5 [b], .tup [.str "row", b]], .tup [.clo 6 [b], .tup [.str "row", b]], .tup [.clo 7 [z], .tup [.str "number", .str "share", .int 0]]]
theorem wide_all {s : Pen} {b o z : D} (hb : b ∈ bads) (ho : o ∈ odds) (hz : z ∈ zers) : semF (tbT (eF (cloS Γ0 Ls)) 27) N27.length b27 [.lst (prs b o z)] s = .ok (.bl true) s := by
  simp only [bads, odds, zers, List.mem_cons, List.not_mem_nil, or_false] at hb ho hz
  rcases hz with h | h <;> subst h <;> rcases ho with h | h | h <;> subst h <;> rcases hb with h | h | h | h | h | h | h | h | h | h | h <;> subst h <;> kernel_rfl
end K02
end

section
set_option Elab.async false
set_option linter.all false
set_option maxRecDepth 100000
set_option maxHeartbeats 400000
namespace K02
open PySem PySem.Spec PyProof.Rows L2 LamX Mi
theorem due_is {s : Pen} {ρ : List Sl} {l : Lm} {d d' : D} (h : evalE Γ0 l.due ρ s = .ok d s) (h' : evalE Γ0 l.due ρ s = .ok d' s) : d = d' := by
  rw [h] at h'
  injection h'
theorem pairs_ok {s : Pen} {v2 v3 v4 v5 v6 v7 : Sl} {b o z : D} : ∀ L : List Mk, L.map (·.l) = Ls → (∀ x ∈ L, evalE Γ0 x.l.due (fin v2 v3 v4 v5 v6 v7 b o z) s = .ok x.d s) → pairsD (fin v2 v3 v4 v5 v6 v7 b o z) 0 L = prs b o z := by
  intro L h q
  have h : L.map (·.l) = [l0, l1, l2, l3, l4, l5, l6, l7] := h
  obtain ⟨x0, K0, rfl, h0, h⟩ := List.map_eq_cons_iff.mp h
  obtain ⟨x1, K1, rfl, h1, h⟩ := List.map_eq_cons_iff.mp h
  obtain ⟨x2, K2, rfl, h2, h⟩ := List.map_eq_cons_iff.mp h
  obtain ⟨x3, K3, rfl, h3, h⟩ := List.map_eq_cons_iff.mp h
  obtain ⟨x4, K4, rfl, h4, h⟩ := List.map_eq_cons_iff.mp h
  obtain ⟨x5, K5, rfl, h5, h⟩ := List.map_eq_cons_iff.mp h
  obtain ⟨x6, K6, rfl, h6, h⟩ := List.map_eq_cons_iff.mp h
  obtain ⟨x7, K7, rfl, h7, h⟩ := List.map_eq_cons_iff.mp h
  have h := List.map_eq_nil_iff.mp h
  subst h
  have q0 := q x0 (by simp)
  have q1 := q x1 (by simp)
  have q2 := q x2 (by simp)
  have q3 := q x3 (by simp)
  have q4 := q x4 (by simp)
  have q5 := q x5 (by simp)
  have q6 := q x6 (by simp)
  have q7 := q x7 (by simp)
  have d0 := due_is q0 (d' := .tup [.str "row", b]) (by rw [h0]; rfl)
  have d1 := due_is q1 (d' := .tup [.str "row", b]) (by rw [h1]; rfl)
  have d2 := due_is q2 (d' := .tup [.str "row", b]) (by rw [h2]; rfl)
  have d3 := due_is q3 (d' := .tup [.str "row", o]) (by rw [h3]; rfl)
  have d4 := due_is q4 (d' := .tup [.str "row", b]) (by rw [h4]; rfl)
  have d5 := due_is q5 (d' := .tup [.str "row", b]) (by rw [h5]; rfl)
  have d6 := due_is q6 (d' := .tup [.str "row", b]) (by rw [h6]; rfl)
  have d7 := due_is q7 (d' := .tup [.str "number", .str "share", .int 0]) (by rw [h7]; rfl)
  simp only [pairsD, d0, d1, d2, d3, d4, d5, d6, d7, h0, h1, h2, h3, h4, h5, h6, h7]
  rfl
theorem plain : Plain := by
  intro is _
  obtain ⟨v2, v3, v4, v5, v6, v7, s', e, p, n⟩ := six_ok is
  obtain ⟨b, o, z, s1, e2, hb, ho, hz⟩ := aft_ok (v2 := v2) (v3 := v3) (v4 := v4) (v5 := v5) (v6 := v6) (v7 := v7) p (by decide)
  refine ⟨fin v2 v3 v4 v5 v6 v7 b o z, s1, e.trans e2, ?_, rfl, caps_ok, dues_ok, ce_ok hb, fun L h q => ⟨s1, ?_⟩⟩
  · intro i ds z
    have m := List.mem_of_getElem? z
    simp only [fin, List.mem_cons, List.not_mem_nil, or_false, reduceCtorEq, false_or] at m
    refine n (.own ds) ?_ ds rfl
    simpa using m
  · rw [pairs_ok L h q]
    exact wide_all hb ho hz
end K02
end

section
set_option Elab.async false
set_option linter.all false
set_option maxRecDepth 100000
set_option maxHeartbeats 0
namespace K02
open PySem PySem.Spec PyProof.Rows L2 LamX Mi
theorem law_g (pl : Plain) {w : World} {mg : Str → Option Value} {f : Addr} {h : Heap} {K : PySem.W.Frag} (KX : K.In h) (G : h.Ns mainGlobals mg) (hmg : mg ("law" : Str) = some (.ref f)) (c : SaysM fa fn [("law", none)] exB h K) :
    LawG PySem.Challenge.rw_planpapers_k02_ratios w K (L2.CX PySem.Challenge.rw_planpapers_k02_ratios.prog w) 33 63 "script" mg f h := by
  have n := kn_of KX G c
  obtain ⟨fd, FD⟩ := n.fd (42, "law") (by decide +kernel)
  have e := hmg.symm.trans (n.glo "law" (by decide +kernel))
  cases e
  have hc : fd.code = .ref (He.cT K ("law", none)).1 := by
    obtain ⟨oc, od, dV, kV, doc, pm, an, cdv, ct, osl, e1, lk1, code, _, _⟩ := FD.ex
    obtain ⟨c', e2⟩ := He.codeIn_ref code
    subst e1
    have e3 : (PySem.W.fnOf (42, ("law" : Str)).2 (42, ("law" : Str)).2 (defArgs (top (42, ("law" : Str)).1)) (defBody (top (42, ("law" : Str)).1)) (defScope (top (42, ("law" : Str)).1)) dV kV doc pm an cdv ct).code = .ref c' := e2
    rw [e3]
    exact congrArg Value.ref (He.codeOf_eq (p := ("law", none)) lk1 e3).symm
  refine ⟨fd, (He.cT K ("law", none)).1, (He.cT K ("law", none)).2, spLaw K (He.cT K ("law", none)).2 63, c.empty _ List.mem_cons_self, c.out _ List.mem_cons_self, PySem.W.codeHd_of_K KX (c.hd _ List.mem_cons_self), fun s u => ?_, fun H a is few tab sq => ⟨a, is, rfl, few, tab, sq, fun _ => rfl⟩, fun base kin hn TB => law_ok pl n TB FD hc kin hn⟩
  exact FunD.bindsA (ps := ["script"]) FD (fun _ _ _ _ _ _ us hl => match us, hl with | [_], _ => by kernel_rfl) s [u] rfl
end K02
open PySem PySem.W PySem.Calls PyProof.Rows
theorem k02_over (pl : K02.Plain) : PySem.Challenge.rw_planpapers_k02_ratios.Holds := by
  w_on; o_law
  refine HandSHeadRun.head_imp (r := OpenLaw.row PySem.Challenge.rw_planpapers_k02_ratios) (q := K02.qv) (H := K02.hk) (ob := K02.ob) (M := 6000) (loose := K02.names) (d := HandSHeadRun.topDef (OpenLaw.row PySem.Challenge.rw_planpapers_k02_ratios).prog 42) (kwd := []) K02.ob_eq K02.run
    (by kernel_rfl) (by kernel_rfl) (by kernel_rfl) (by rfl) (by first | assumption | decide +kernel) (by decide +kernel) ⟨rfl, rfl, rfl, rfl, rfl, by decide +kernel⟩ ?hw ?hc
  case hw => w_witness2
  case hc =>
    refine Mi.walk_ofTG (l := PySem.Challenge.rw_planpapers_k02_ratios) (n := 63) (k := 33) (x := "script") (CX := fun w => L2.CX PySem.Challenge.rw_planpapers_k02_ratios.prog w) rfl (by decide) (by kernel_rfl) ⟨rfl, by decide, by decide⟩ ?F (fun w H s e s' h => ?_)
    · intro w mg fa h Y G hmg0
      obtain ⟨K, KX, c⟩ := Y
      have hmg : mg ("law" : PySem.Str) = some (.ref fa) := by
        have e : (HandSHeadRun.topDef (OpenLaw.row PySem.Challenge.rw_planpapers_k02_ratios).prog 42).name = ("law" : PySem.Str) := by kernel_rfl
        rw [← e]
        exact hmg0
      exact ⟨K, KX, K02.law_g pl KX G hmg c⟩
    · obtain ⟨_, _, _, _, _, _, _, _, _, _, _, _, z⟩ := h
      exact z
end

set_option maxRecDepth 100000 in
set_option maxHeartbeats 8000000 in
theorem PySem.Challenge.cw_planpapers_k02_ratios_holds : PySem.Challenge.rw_planpapers_k02_ratios.Holds := by
  exact k02_over K02.plain
