import PyProof.Rows.All
import HandS.ForMost
import HandS.TupAny
import HandS.TupLe
import HandS.Deep
import HandS.Wide
import HandS.Flow
import HandS.Zip
import HandS.Style
import HandS.Walk
import HandS.Gcd
import HandS.IsInst
import HandS.SortInts
import KE.SortData
import KE.KDictPairs
import KE.DataCmp
import HandS.SetFor
import HandS.Strs
import HandS.Conv
import HandS.MapObj
import KE.GoesMore
import KE.KDictZip
import HandS.Defaults
import HandS.Words
import HandS.Head0
import HandS.Head1
import HandS.Head2
import HandS.HeadEnd
import HandS.HeadHook1
import HandS.HeadHook2
import HandS.Head3
import PySem.Challenge.RW_causeworth_k68_duty_and_blame
set_option Elab.async false
set_option linter.all false
set_option maxRecDepth 100000
set_option maxHeartbeats 4000000
/-! Dv1: data (PyData), what a value stands for (Rp), frames (Fr). -/
namespace Dv
open PySem PySem.Spec PyProof.Rows L2

abbrev D := PyData
/-- the datum that stands for the cells' own list -/
def cel : D := .dict [(.none, .none)]
/-- a dict's key as a datum -/
def keyD : Key → D
  | .inl i => .int i
  | .inr x => .str x
theorem keyD_inj {a b : Key} (h : keyD a = keyD b) : a = b := by
  cases a <;> cases b <;> simp [keyD] at h <;> subst h <;> rfl

/-- the cells: the script (never changes) and the four ints behind it -/
structure Sc where
  script : List Int
  cells : List Int

/-- a tuple without a dict of its own: laid here, or the module's -/
def PTu (K : PySem.W.Frag) (H : Hp) (a : Addr) (xs : List V) : Prop :=
  (∃ o, H a = some (.frz o (.tup xs)) ∧ o.dict = none) ∨
    ∃ (o : Obj) (its : Array Value) (n : Nat), K.lookup a = some o ∧ o.cls = .type "tuple" ∧ o.dict = none ∧ o.data = .seq its n ∧ its.size ≤ sizeLine ∧ Vals xs its.toList
theorem PTu.sq {K : PySem.W.Frag} {H : Hp} {a : Addr} {xs : List V} (h : PTu K H a xs) : SqT K H a xs := by
  rcases h with ⟨o, h, _⟩ | ⟨o, its, n, h1, h2, _, h4, h5, h6⟩
  · exact .inl (.inr ⟨o, h⟩)
  · exact .inr ⟨o, its, n, h1, h2, h4, h5, h6⟩
section
variable (K : PySem.W.Frag) (pc : Addr)
mutual
/-- v stands for d; B: the addresses that are some frame's own (a list or dict there is no part of v) -/
inductive Rp (H : Hp) (B : Addr → Prop) : V → D → Prop
  | non : Rp H B .non .none
  | bl (b : Bool) : Rp H B (.bl b) (.bool b)
  | int (i : Int) : Rp H B (.int i) (.int i)
  | str (x : Str) : x.length ≤ sizeLine → Rp H B (.str x) (.str x)
  | lst {a : Addr} {xs : List V} {ds : List D} : H a = some (.lst xs) → a ≠ pc → ¬ B a → xs.length ≤ sizeLine → RpAll H B xs ds → Rp H B (.ref a) (.list ds)
  | tup {a : Addr} {xs : List V} {ds : List D} : PTu K H a xs → xs.length ≤ sizeLine → RpAll H B xs ds → Rp H B (.ref a) (.tuple ds)
  | dic {a : Addr} {kvs : List (Key × V)} {ds : List D} : H a = some (.dK kvs) → a ≠ pc → ¬ B a → kvs.length ≤ sizeLine → RpAll H B (kvs.map (·.2)) ds → Rp H B (.ref a) (.dict ((kvs.map fun k => keyD k.1).zip ds))
  | cel : Rp H B (.ref pc) Dv.cel
inductive RpAll (H : Hp) (B : Addr → Prop) : List V → List D → Prop
  | nil : RpAll H B [] []
  | cons {v : V} {vs : List V} {d : D} {ds : List D} : Rp H B v d → RpAll H B vs ds → RpAll H B (v :: vs) (d :: ds)
end
end

section
variable {K : PySem.W.Frag} {pc : Addr}
theorem RpAll.length {H : Hp} {B : Addr → Prop} : ∀ {xs : List V} {ds : List D}, RpAll K pc H B xs ds → xs.length = ds.length
  | _, _, .nil => rfl
  | _, _, .cons _ t => by rw [List.length_cons, List.length_cons, RpAll.length t]
theorem RpAll.get {H : Hp} {B : Addr → Prop} : ∀ {xs : List V} {ds : List D} {i : Nat} {d : D}, RpAll K pc H B xs ds → ds[i]? = some d → ∃ v, xs[i]? = some v ∧ Rp K pc H B v d
  | _, _, _, _, .nil, e => by simp at e
  | _, _, 0, _, .cons r _, e => by simp at e; subst e; exact ⟨_, rfl, r⟩
  | _, _, i + 1, d, .cons _ t, e => by
    obtain ⟨u, h1, h2⟩ := RpAll.get (i := i) (d := d) t (by simpa using e)
    exact ⟨u, by simpa using h1, h2⟩
theorem RpAll.getV {H : Hp} {B : Addr → Prop} : ∀ {xs : List V} {ds : List D} {i : Nat} {v : V}, RpAll K pc H B xs ds → xs[i]? = some v → ∃ d, ds[i]? = some d ∧ Rp K pc H B v d
  | _, _, _, _, .nil, e => by simp at e
  | _, _, 0, _, .cons r _, e => by simp at e; subst e; exact ⟨_, rfl, r⟩
  | _, _, i + 1, d, .cons _ t, e => by
    obtain ⟨u, h1, h2⟩ := RpAll.getV (i := i) (v := d) t (by simpa using e)
    exact ⟨u, by simpa using h1, h2⟩
theorem RpAll.append {H : Hp} {B : Addr → Prop} : ∀ {xs ys : List V} {ds es : List D}, RpAll K pc H B xs ds → RpAll K pc H B ys es → RpAll K pc H B (xs ++ ys) (ds ++ es)
  | _, _, _, _, .nil, s => s
  | _, _, _, _, .cons r t, s => .cons r (RpAll.append t s)
theorem RpAll.take {H : Hp} {B : Addr → Prop} : ∀ {xs : List V} {ds : List D} (n : Nat), RpAll K pc H B xs ds → RpAll K pc H B (xs.take n) (ds.take n)
  | _, _, 0, _ => .nil
  | _, _, _ + 1, .nil => .nil
  | _, _, n + 1, .cons r t => .cons r (RpAll.take n t)
theorem RpAll.drop {H : Hp} {B : Addr → Prop} : ∀ {xs : List V} {ds : List D} (n : Nat), RpAll K pc H B xs ds → RpAll K pc H B (xs.drop n) (ds.drop n)
  | _, _, 0, r => r
  | _, _, _ + 1, .nil => .nil
  | _, _, n + 1, .cons _ t => RpAll.drop n t
theorem RpAll.reverse {H : Hp} {B : Addr → Prop} : ∀ {xs : List V} {ds : List D}, RpAll K pc H B xs ds → RpAll K pc H B xs.reverse ds.reverse
  | _, _, .nil => .nil
  | _, _, .cons r t => by
    rw [List.reverse_cons, List.reverse_cons]
    exact RpAll.append (RpAll.reverse t) (.cons r .nil)
theorem RpAll.set {H : Hp} {B : Addr → Prop} {v : V} {d : D} (r : Rp K pc H B v d) : ∀ {xs : List V} {ds : List D} (i : Nat), RpAll K pc H B xs ds → RpAll K pc H B (xs.set i v) (ds.set i d)
  | _, _, _, .nil => .nil
  | _, _, 0, .cons _ t => .cons r t
  | _, _, i + 1, .cons q t => .cons q (RpAll.set r i t)

/-- what may change: the frames' own objects and the cells -/
structure Keep (H H' : Hp) (B : Addr → Prop) (pc : Addr) : Prop where
  kept : ∀ a o, a ≠ pc → ¬ B a → H a = some o → H' a = some o
  tups : ∀ a o xs, H a = some (.frz o (.tup xs)) → H' a = some (.frz o (.tup xs))
theorem Keep.pt {H H' : Hp} {B : Addr → Prop} (k : Keep H H' B pc) {a : Addr} {xs : List V} (h : PTu K H a xs) : PTu K H' a xs := by
  rcases h with ⟨o, h, hd⟩ | h
  · exact .inl ⟨o, k.tups _ _ _ h, hd⟩
  · exact .inr h
mutual
theorem Rp.keep {H H' : Hp} {B : Addr → Prop} (k : Keep H H' B pc) : ∀ {v : V} {d : D}, Rp K pc H B v d → Rp K pc H' B v d
  | _, _, .non => .non
  | _, _, .bl b => .bl b
  | _, _, .int i => .int i
  | _, _, .str x h => .str x h
  | _, _, .lst h1 h2 h3 h4 h5 => .lst (k.kept _ _ h2 h3 h1) h2 h3 h4 (RpAll.keep k h5)
  | _, _, .tup h1 h2 h3 => .tup (k.pt h1) h2 (RpAll.keep k h3)
  | _, _, .dic h1 h2 h3 h4 h5 => .dic (k.kept _ _ h2 h3 h1) h2 h3 h4 (RpAll.keep k h5)
  | _, _, .cel => .cel
theorem RpAll.keep {H H' : Hp} {B : Addr → Prop} (k : Keep H H' B pc) : ∀ {vs : List V} {ds : List D}, RpAll K pc H B vs ds → RpAll K pc H' B vs ds
  | _, _, .nil => .nil
  | _, _, .cons r t => .cons (Rp.keep k r) (RpAll.keep k t)
end
mutual
/-- another B, of tracked addresses -/
theorem Rp.weak {H : Hp} {B B' : Addr → Prop} (k : ∀ a o, H a = some o → B' a → B a) : ∀ {v : V} {d : D}, Rp K pc H B v d → Rp K pc H B' v d
  | _, _, .non => .non
  | _, _, .bl b => .bl b
  | _, _, .int i => .int i
  | _, _, .str x h => .str x h
  | _, _, .lst h1 h2 h3 h4 h5 => .lst h1 h2 (fun z => h3 (k _ _ h1 z)) h4 (RpAll.weak k h5)
  | _, _, .tup h1 h2 h3 => .tup h1 h2 (RpAll.weak k h3)
  | _, _, .dic h1 h2 h3 h4 h5 => .dic h1 h2 (fun z => h3 (k _ _ h1 z)) h4 (RpAll.weak k h5)
  | _, _, .cel => .cel
theorem RpAll.weak {H : Hp} {B B' : Addr → Prop} (k : ∀ a o, H a = some o → B' a → B a) : ∀ {vs : List V} {ds : List D}, RpAll K pc H B vs ds → RpAll K pc H B' vs ds
  | _, _, .nil => .nil
  | _, _, .cons r t => .cons (Rp.weak k r) (RpAll.weak k t)
end
mutual
/-- no list and no dict within -/
def flatD : D → Bool
  | .none => true
  | .bool _ => true
  | .int _ => true
  | .str _ => true
  | .list _ => false
  | .tuple xs => flatAll xs
  | .dict _ => false
def flatAll : List D → Bool
  | [] => true
  | x :: xs => flatD x && flatAll xs
end
mutual
theorem Rp.clean {H : Hp} {B B' : Addr → Prop} : ∀ {d : D} {v : V}, flatD d = true → Rp K pc H B v d → Rp K pc H B' v d
  | _, _, _, .non => .non
  | _, _, _, .bl b => .bl b
  | _, _, _, .int i => .int i
  | _, _, _, .str x h => .str x h
  | _, _, f, .lst _ _ _ _ _ => by simp [flatD] at f
  | _, _, f, .tup h1 h2 h3 => .tup h1 h2 (RpAll.clean (by simpa [flatD] using f) h3)
  | _, _, f, .dic _ _ _ _ _ => by simp [flatD] at f
  | _, _, f, .cel => by simp [flatD, Dv.cel] at f
theorem RpAll.clean {H : Hp} {B B' : Addr → Prop} : ∀ {ds : List D} {vs : List V}, flatAll ds = true → RpAll K pc H B vs ds → RpAll K pc H B' vs ds
  | _, _, _, .nil => .nil
  | d :: ds, _, f, .cons r t => by
    have f' : flatD d = true ∧ flatAll ds = true := by simpa [flatAll] using f
    exact .cons (Rp.clean f'.1 r) (RpAll.clean f'.2 t)
end
end

/-- a value whose top may be a frame's own object: what is in it is clean -/
inductive RpT (K : PySem.W.Frag) (pc : Addr) (H : Hp) (B : Addr → Prop) : V → D → Prop
  | of {v : V} {d : D} : Rp K pc H B v d → RpT K pc H B v d
  | lst {a : Addr} {xs : List V} {ds : List D} : H a = some (.lst xs) → a ≠ pc → xs.length ≤ sizeLine → RpAll K pc H B xs ds → RpT K pc H B (.ref a) (.list ds)
  | dic {a : Addr} {kvs : List (Key × V)} {ds : List D} : H a = some (.dK kvs) → a ≠ pc → kvs.length ≤ sizeLine → RpAll K pc H B (kvs.map (·.2)) ds → RpT K pc H B (.ref a) (.dict ((kvs.map fun k => keyD k.1).zip ds))
section
variable {K : PySem.W.Frag} {pc : Addr} {H : Hp} {B : Addr → Prop}
theorem RpT.list {v : V} {ds : List D} (h : RpT K pc H B v (.list ds)) : ∃ a xs, v = .ref a ∧ H a = some (.lst xs) ∧ a ≠ pc ∧ xs.length ≤ sizeLine ∧ RpAll K pc H B xs ds := by
  cases h with
  | of h => cases h with
    | lst h1 h2 h3 h4 h5 => exact ⟨_, _, rfl, h1, h2, h4, h5⟩
  | lst h1 h2 h3 h4 => exact ⟨_, _, rfl, h1, h2, h3, h4⟩
theorem RpT.tuple {v : V} {ds : List D} (h : RpT K pc H B v (.tuple ds)) : ∃ a xs, v = .ref a ∧ PTu K H a xs ∧ xs.length ≤ sizeLine ∧ RpAll K pc H B xs ds := by
  cases h with
  | of h => cases h with
    | tup h1 h2 h3 => exact ⟨_, _, rfl, h1, h2, h3⟩
theorem RpT.intV {v : V} {i : Int} (h : RpT K pc H B v (.int i)) : v = .int i := by
  cases h with
  | of h => cases h; rfl
theorem RpT.blV {v : V} {i : Bool} (h : RpT K pc H B v (.bool i)) : v = .bl i := by
  cases h with
  | of h => cases h; rfl
theorem RpT.nonV {v : V} (h : RpT K pc H B v .none) : v = .non := by
  cases h with
  | of h => cases h; rfl
theorem RpT.strV {v : V} {i : Str} (h : RpT K pc H B v (.str i)) : v = .str i ∧ i.length ≤ sizeLine := by
  cases h with
  | of h => cases h; exact ⟨rfl, by assumption⟩
theorem Rp.intV {v : V} {i : Int} (h : Rp K pc H B v (.int i)) : v = .int i := by cases h; rfl
theorem Rp.celV {v : V} (h : Rp K pc H B v Dv.cel) : v = .ref pc := by
  generalize e : Dv.cel = d at h
  cases h with
  | cel => rfl
  | @dic a kvs ds h1 h2 h3 h4 h5 =>
    unfold Dv.cel at e
    injection e with e
    cases kvs with
    | nil => simp at e
    | cons p r =>
      cases ds with
      | nil => simp at e
      | cons y ys =>
        simp at e
        obtain ⟨⟨e1, _⟩, _⟩ := e
        obtain ⟨k, v⟩ := p
        cases k <;> simp [keyD] at e1
  | _ => simp [Dv.cel] at e
theorem RpT.celV {v : V} (h : RpT K pc H B v Dv.cel) : v = .ref pc := by
  generalize e : Dv.cel = d at h
  cases h with
  | of h => subst e; exact h.celV
  | lst _ _ _ _ => simp [Dv.cel] at e
  | @dic a kvs ds h1 h2 h3 h4 =>
    unfold Dv.cel at e
    injection e with e
    cases kvs with
    | nil => simp at e
    | cons p r =>
      cases ds with
      | nil => simp at e
      | cons y ys =>
        simp at e
        obtain ⟨⟨e1, _⟩, _⟩ := e
        obtain ⟨k, v⟩ := p
        cases k <;> simp [keyD] at e1
end
end Dv

/-! Dv2: the small language and what it means. -/
namespace Dv
open PySem PySem.Spec PyProof.Rows L2

inductive BOp | add | sub | mul | div | mod | pow
  deriving DecidableEq
inductive COp | eq | ne | lt | le | gt | ge | isin | notin | is_ | isnot
  deriving DecidableEq
inductive Blt
  | len | isi (ts : List String) | tuple | list | sorted | all | any | sum | min | max | int | abs | gcd | max2 | min2 | dict | sset | tzip | lrange | trange
  deriving DecidableEq
inductive Tg | name (i : Nat) | tup (gs : List Tg)
inductive E
  | var (i : Nat) | own (i : Nat) | con (d : D) | glo (x : Str)
  | tup (es : List E) | lst (es : List E)
  | bin (o : BOp) (a b : E) | cmp (o : COp) (a b : E) | chain (o p : COp) (a b c : E)
  | and (a b : E) | or (a b : E) | not (a : E) | ite (t a b : E) | neg (a : E)
  | idx (a b : E) | sl (a lo hi : E) | rev (a : E)
  | call (f : Str) (es : List E)
  | blt (b : Blt) (es : List E)
  | get (o k : E) | get2 (o k d : E)
  | lc (g : Tg) (it t e : E) (vs : List Nat)
  | lc2 (g : Tg) (it : E) (h : Tg) (ju e : E) (vs ws : List Nat)
  | rng1 (a : E) | rng2 (a b : E) | zip (a b : E) | enum (a : E)
inductive Stm
  | set (i : Nat) (e : E) | alis (i j : Nat) | unp (g : Tg) (e : E) | par (is : List Nat) (es : List E)
  | aug (i : Nat) (o : BOp) (e : E) | setIx (i : Nat) (k e : E) | app (i : Nat) (e : E) | ext (i : Nat) (e : E)
  | ife (c : E) (s t : List Stm) | for_ (g : Tg) (it : E) (s : List Stm) | while_ (c : E) (s : List Stm)
  | ret (e : E) | cont | brk | pass | stuck

/-! ### values -/
def truD : D → Option Bool
  | .none => some false
  | .bool b => some b
  | .int i => some (i != 0)
  | .str x => some ((x.length : Int) != 0)
  | .list xs => some !xs.isEmpty
  | .tuple xs => some !xs.isEmpty
  | .dict _ => none
def lineD (n : Nat) : Bool := decide (n ≤ sizeLine)
def mulOk (i j : Int) : Bool := (decide (-(2 ^ 64) < i) && decide (i < 2 ^ 64)) || (decide (-(2 ^ 64) < j) && decide (j < 2 ^ 64)) || decide (i.natAbs.log2 + j.natAbs.log2 < 1000000)
def divOk (j : Int) : Bool := decide (0 < j) && decide (j.natAbs.log2 < 9000)
def binD : BOp → D → D → Option D
  | .add, .int i, .int j => some (.int (i + j))
  | .add, .tuple xs, .tuple ys => if lineD (xs.length + ys.length) then some (.tuple (xs ++ ys)) else none
  | .add, .list xs, .list ys => if lineD (xs.length + ys.length) then some (.list (xs ++ ys)) else none
  | .sub, .int i, .int j => some (.int (i - j))
  | .mul, .int i, .int j => if mulOk i j then some (.int (i * j)) else none
  | .div, .int i, .int j => if divOk j then some (.int (i / j)) else none
  | .mod, .int i, .int j => if 0 < j then some (.int (i % j)) else none
  | .pow, .int i, .int j => if 0 ≤ j ∧ j ≤ 1000000 ∧ i.natAbs < 2 ^ 64 then some (.int (i ^ j.toNat)) else none
  | _, _, _ => none
/-- None, a truth value, an int or a text -/
def scalD : D → Bool
  | .none => true
  | .bool _ => true
  | .int _ => true
  | .str _ => true
  | _ => false
def eqD (d e : D) : Option Bool := if SeqAt.shaped d && SeqAt.shaped e then some (PyData.eqv d e) else none
def ltD : D → D → Option Bool
  | .int i, .int j => some (decide (i < j))
  | .tuple xs, .tuple ys => if SeqAt.shaped (.tuple xs) && SeqAt.shaped (.tuple ys) && PySem.W.alike (.tuple xs) (.tuple ys) then some (PySem.W.dataLt (.tuple xs) (.tuple ys)) else none
  | _, _ => none
/-- a dict's entries (not the cells) -/
def tabD : D → Option (List (D × D))
  | .dict [(.none, .none)] => none
  | .dict kvs => some kvs
  | _ => none
/-- is the int i the key? -/
def keyIsI (i : Int) (d : D) : Bool := match d with
  | .int j => decide (j = i)
  | _ => false
def lookI (kvs : List (D × D)) (i : Int) : Option D := (kvs.find? fun kv => keyIsI i kv.1).map (·.2)
def isIn (d : D) : D → Option Bool
  | .list ds => if SeqAt.shaped d && SeqAt.shaped (.list ds) then some (ds.any fun z => PyData.eqv z d) else none
  | .tuple ds => if SeqAt.shaped d && SeqAt.shaped (.tuple ds) then some (ds.any fun z => PyData.eqv z d) else none
  | .dict kvs => match tabD (.dict kvs), d with
    | some kvs, .int i => some (lookI kvs i).isSome
    | _, _ => none
  | _ => none
def cmpD : COp → D → D → Option Bool
  | .eq, d, e => eqD d e
  | .ne, d, e => (eqD d e).map (!·)
  | .lt, d, e => ltD d e
  | .gt, d, e => ltD e d
  | .le, .int i, .int j => some (decide (i ≤ j))
  | .ge, .int i, .int j => some (decide (j ≤ i))
  | .isin, d, e => isIn d e
  | .notin, d, e => (isIn d e).map (!·)
  | .is_, .bool a, .bool b => some (decide (a = b))
  | .isnot, .bool a, .bool b => some (!decide (a = b))
  | .is_, d, .none => some (match d with | .none => true | _ => false)
  | .isnot, d, .none => some (match d with | .none => false | _ => true)
  | _, _, _ => none
/-- the place of an index -/
def ixD (n : Nat) (i : Int) : Option Nat := ixN n i
def idxD (S : Sc) : D → D → Option D
  | .list xs, .int i => atI xs i
  | .tuple xs, .int i => atI xs i
  | .dict kvs, .int i => match tabD (.dict kvs) with
    | none => if i = 0 then some (.list (S.script.map .int)) else if 1 ≤ i ∧ i ≤ 4 then (S.cells[(i - 1).toNat]?).map .int else none
    | some kvs => lookI kvs i
  | _, _ => none
def partD : D → Option (Option Int)
  | .none => some none
  | .int i => some (some i)
  | _ => none
def cutD (xs : List D) (lo hi : Option Int) : List D := (xs.drop (HT.sIx xs.length 0 lo)).take (HT.sIx xs.length xs.length hi - HT.sIx xs.length 0 lo)
def slD : D → D → D → Option D
  | .list xs, lo, hi => (partD lo).bind fun l => (partD hi).map fun h => .list (cutD xs l h)
  | .tuple xs, lo, hi => (partD lo).bind fun l => (partD hi).map fun h => .tuple (cutD xs l h)
  | _, _, _ => none
def itemsD : D → Option (List D)
  | .list xs => some xs
  | .tuple xs => some xs
  | _ => none
def intD : D → Option Int
  | .int i => some i
  | _ => none
def boolD : D → Option Bool
  | .bool b => some b
  | _ => none
def intsD : List D → Option (List Int)
  | [] => some []
  | .int i :: r => (intsD r).map (i :: ·)
  | _ => none
def boolsD : List D → Option (List Bool)
  | [] => some []
  | .bool b :: r => (boolsD r).map (b :: ·)
  | _ => none
/-- the built-in class's name -/
def tyD : D → Option String
  | .none => some "NoneType"
  | .bool _ => some "bool"
  | .int _ => some "int"
  | .str _ => some "str"
  | .list _ => some "list"
  | .tuple _ => some "tuple"
  | .dict _ => none
def isiOne (t T : String) : Bool := t == T || (t == "bool" && T == "int")
def allAlike (ds : List D) : Bool := ds.all fun d => ds.all fun e => PySem.W.alike d e
def depthOk (ds : List D) : Bool := ds.all fun d => SeqAt.shaped d
def sortD (ds : List D) : List D := ds.mergeSort (PySem.W.dataLe false id)
def sortOk (ds : List D) : Bool := allAlike ds && depthOk ds && ((ds.all fun d => match d with | .int _ => true | .str _ => true | _ => false) || ds.all fun d => match d with | .tuple _ => true | _ => false)
/-- d[i] = x, a key that is there keeps its place -/
def putI (kvs : List (D × D)) (i : Int) (x : D) : List (D × D) :=
  if kvs.any fun kv => keyIsI i kv.1 then kvs.map fun kv => if keyIsI i kv.1 then (kv.1, x) else kv else kvs ++ [(.int i, x)]
def dictD : List D → List (D × D) → Option (List (D × D))
  | [], acc => some acc
  | .tuple [.int i, x] :: r, acc => dictD r (putI acc i x)
  | _, _ => none
/-- ascending, each once -/
def insU (x : Int) : List Int → List Int
  | [] => [x]
  | y :: l => if x < y then x :: y :: l else if x = y then y :: l else y :: insU x l
def sortU (l : List Int) : List Int := l.foldr insU []
def rangeD (lo : Int) (n : Nat) : List D := (List.range n).map fun (k : Nat) => PyData.int (lo + k)
def bltD : Blt → List D → Option D
  | .len, [.list xs] => some (.int xs.length)
  | .len, [.tuple xs] => some (.int xs.length)
  | .len, [.str x] => some (.int x.length)
  | .isi ts, [d] => (tyD d).map fun t => .bool (ts.any fun T => isiOne t T)
  | .tuple, [.list xs] => some (.tuple xs)
  | .tuple, [.tuple xs] => some (.tuple xs)
  | .list, [.list xs] => some (.list xs)
  | .list, [.tuple xs] => some (.list xs)
  | .sorted, [.list xs] => if sortOk xs then some (.list (sortD xs)) else none
  | .sorted, [.tuple xs] => if sortOk xs then some (.list (sortD xs)) else none
  | .all, [.list xs] => (boolsD xs).map fun bs => .bool (bs.all id)
  | .any, [.list xs] => (boolsD xs).map fun bs => .bool (bs.any id)
  | .sum, [.list xs] => (intsD xs).map fun ns => .int ns.sum
  | .min, [.list xs] => (intsD xs).bind fun ns => ns.min?.map .int
  | .max, [.list xs] => (intsD xs).bind fun ns => ns.max?.map .int
  | .int, [.int i] => some (.int i)
  | .int, [.bool b] => some (.int (if b then 1 else 0))
  | .abs, [.int i] => some (.int (if i < 0 then -i else i))
  | .gcd, [.int i, .int j] => some (.int ((Nat.gcd i.natAbs j.natAbs : Nat) : Int))
  | .max2, [.int i, .int j] => some (.int (if j > i then j else i))
  | .min2, [.int i, .int j] => some (.int (if j < i then j else i))
  | .dict, [.list xs] => (dictD xs []).map .dict
  | .dict, [.tuple xs] => (dictD xs []).map .dict
  | .sset, [.list xs] => (intsD xs).bind fun ns => if ns.length < 64 then some (.list ((sortU ns).map .int)) else none
  | .tzip, [.tuple xs, .tuple ys] => some (.tuple ((xs.zip ys).map fun p => .tuple [p.1, p.2]))
  | .lrange, [.int n] => if -1000000 ≤ n ∧ n ≤ 1000000 then some (.list (rangeD 0 n.toNat)) else none
  | .trange, [.int n] => if -1000000 ≤ n ∧ n ≤ 1000000 then some (.tuple (rangeD 0 n.toNat)) else none
  | _, _ => none

/-! ### slots -/
inductive Sl | no | frz (d : D) | own (d : D)
abbrev Env := List Sl
def Sl.get : Sl → Option D
  | .no => none
  | .frz d => some d
  | .own d => some d
def Sl.clean : Sl → Option D
  | .frz d => some d
  | _ => none
def Sl.isOwn : Sl → Bool
  | .own _ => true
  | _ => false
def Sl.freeze : Sl → Sl
  | .own d => .frz d
  | s => s
def slot (η : Env) (i : Nat) : Sl := η.getD i .no
def wipeE (η : Env) : List Nat → Env
  | [] => η
  | v :: vs => (wipeE η vs).set v .no
mutual
def bindT : Tg → D → Env → Option Env
  | .name i, d, η => if i < η.length then some (η.set i (.frz d)) else none
  | .tup gs, .tuple ds, η => if gs.length = ds.length then bindTs gs ds η else none
  | _, _, _ => none
def bindTs : List Tg → List D → Env → Option Env
  | [], _, η => some η
  | g :: gs, d :: ds, η => (bindT g d η).bind (bindTs gs ds)
  | _, _, _ => none
end

abbrev R := Option (D × Sc)
/-- a def's answer: the datum, is it a new list, the cells -/
abbrev Callee := Str → List D → Sc → Option (D × Bool × Sc)
def topE (η : Env) (S : Sc) (r : R) : E → R
  | .own i => (slot η i).get.map (·, S)
  | _ => r
def ownedE (η : Env) : E → Bool
  | .own i => (slot η i).isOwn
  | _ => false
/-- a slice's part: absent, or an int -/
def isNoneE : E → Bool
  | .con .none => true
  | _ => false
def okPart (e : E) : D → Bool
  | .none => isNoneE e
  | .int _ => true
  | _ => false
/-- what is walked is none of the frame's own -/
def clE (η : Env) : E → Bool
  | .zip a b => !ownedE η a && !ownedE η b
  | .enum a => !ownedE η a
  | t => !ownedE η t
/-- a list of what holds no list -/
def flatL : D → Bool
  | .list ds => flatAll ds
  | _ => false
/-- does the expression make a new list or dict? -/
def isNew : E → D → Bool
  | .lst _, _ => true
  | .lc .., _ => true
  | .lc2 .., _ => true
  | .bin .add _ _, .list _ => true
  | .sl _ _ _, .list _ => true
  | .rev _, .list _ => true
  | .blt .list _, _ => true
  | .blt .sorted _, _ => true
  | .blt .sset _, _ => true
  | .blt .lrange _, _ => true
  | .blt .dict _, _ => true
  | _, _ => false
def mkSl (e : E) (d : D) : Sl := if isNew e d then .own d else .frz d
/-- a comprehension's turns -/
def lcF (turn : D → Sc → Option (Option D × Sc)) : List D → Sc → Option (List D × Sc)
  | [], S => some ([], S)
  | x :: xs, S => match turn x S with
    | none => none
    | some (o, S1) => match lcF turn xs S1 with
      | none => none
      | some (ys, S2) => some (o.toList ++ ys, S2)
def lc2F (turn : D → Sc → Option (List D × Sc)) : List D → Sc → Option (List D × Sc)
  | [], S => some ([], S)
  | x :: xs, S => match turn x S with
    | none => none
    | some (o, S1) => match lc2F turn xs S1 with
      | none => none
      | some (ys, S2) => some (o ++ ys, S2)

section
variable (Φ : Callee) (G : Str → Option D)
mutual
def den : E → Env → Sc → R
  | .var i, η, S => (slot η i).clean.map (·, S)
  | .own _, _, _ => none
  | .con d, _, S => some (d, S)
  | .glo x, _, S => (G x).map (·, S)
  | .tup es, η, S => match denL es η S with
    | some (ds, S1) => if lineD ds.length then some (.tuple ds, S1) else none
    | none => none
  | .lst es, η, S => match denL es η S with
    | some (ds, S1) => if lineD ds.length then some (.list ds, S1) else none
    | none => none
  | .bin o a b, η, S => match topE η S (den a η S) a with
    | some (x, S1) => match topE η S1 (den b η S1) b with
      | some (y, S2) => (binD o x y).map (·, S2)
      | none => none
    | none => none
  | .cmp o a b, η, S => match topE η S (den a η S) a with
    | some (x, S1) => match topE η S1 (den b η S1) b with
      | some (y, S2) => (cmpD o x y).map fun r => (.bool r, S2)
      | none => none
    | none => none
  | .chain o p a b c, η, S => match den a η S with
    | some (x, S1) => match den b η S1 with
      | some (y, S2) => match cmpD o x y with
        | some true => match den c η S2 with
          | some (z, S3) => (cmpD p y z).map fun r => (.bool r, S3)
          | none => none
        | some false => some (.bool false, S2)
        | none => none
      | none => none
    | none => none
  | .and a b, η, S => match topE η S (den a η S) a with
    | some (x, S1) => match truD x with
      | some true => den b η S1
      | some false => if ownedE η a then none else some (x, S1)
      | none => none
    | none => none
  | .or a b, η, S => match topE η S (den a η S) a with
    | some (x, S1) => match truD x with
      | some true => if ownedE η a then none else some (x, S1)
      | some false => den b η S1
      | none => none
    | none => none
  | .not a, η, S => match topE η S (den a η S) a with
    | some (x, S1) => (truD x).map fun b => (.bool (!b), S1)
    | none => none
  | .ite t a b, η, S => match topE η S (den t η S) t with
    | some (x, S1) => match truD x with
      | some true => den a η S1
      | some false => den b η S1
      | none => none
    | none => none
  | .neg a, η, S => match den a η S with
    | some (.int i, S1) => some (.int (-i), S1)
    | _ => none
  | .idx a b, η, S => match topE η S (den a η S) a with
    | some (x, S1) => match den b η S1 with
      | some (y, S2) => (idxD S2 x y).map (·, S2)
      | none => none
    | none => none
  | .sl a lo hi, η, S => match topE η S (den a η S) a with
    | some (x, S1) => match den lo η S1 with
      | some (l, S2) => match den hi η S2 with
        | some (h, S3) => if okPart lo l && okPart hi h then (slD x l h).map (·, S3) else none
        | none => none
      | none => none
    | none => none
  | .rev a, η, S => match topE η S (den a η S) a with
    | some (.list xs, S1) => some (.list xs.reverse, S1)
    | _ => none
  | .call f es, η, S => match denA es η S with
    | some (ds, S1) => match Φ f ds S1 with
      | some (d, nw, S2) => if es.any (ownedE η) && !(flatD d || (nw && flatL d)) then none else some (d, S2)
      | none => none
    | none => none
  | .blt b es, η, S => match denA es η S with
    | some (ds, S1) => (bltD b ds).map (·, S1)
    | none => none
  | .get o k, η, S => match topE η S (den o η S) o with
    | some (x, S1) => match tabD x, den k η S1 with
      | some kvs, some (.int i, S2) => some ((lookI kvs i).getD .none, S2)
      | _, _ => none
    | _ => none
  | .get2 o k e, η, S => match topE η S (den o η S) o with
    | some (x, S1) => match tabD x, den k η S1 with
      | some kvs, some (.int i, S2) => match den e η S2 with
        | some (y, S3) => some ((lookI kvs i).getD y, S3)
        | none => none
      | _, _ => none
    | _ => none
  | .lc g it t e vs, η, S => match topE η S (den it η S) it with
    | some (d, S1) => match itemsD d with
      | some xs => match lcF (fun x S => match bindT g x (wipeE η vs) with
          | none => none
          | some η2 => match topE η2 S (den t η2 S) t with
            | none => none
            | some (b, S1) => match truD b with
              | none => none
              | some false => some (none, S1)
              | some true => match den e η2 S1 with
                | none => none
                | some (y, S2) => some (some y, S2)) xs S1 with
        | some (ys, S2) => some (.list ys, S2)
        | none => none
      | none => none
    | none => none
  | .lc2 g it h ju e vs ws, η, S => match topE η S (den it η S) it with
    | some (d, S1) => match itemsD d with
      | some xs => match lc2F (fun x S => match bindT g x (wipeE η vs) with
          | none => none
          | some η2 => match topE η2 S (den ju η2 S) ju with
            | none => none
            | some (d2, S1) => match (if clE η2 ju then itemsD d2 else none) with
              | none => none
              | some zs => lcF (fun z S => match bindT h z (wipeE η2 ws) with
                | none => none
                | some η3 => match den e η3 S with
                  | none => none
                  | some (y, S2) => some (some y, S2)) zs S1) xs S1 with
        | some (ys, S2) => if lineD ys.length then some (.list ys, S2) else none
        | none => none
      | none => none
    | none => none
  | .rng1 a, η, S => match den a η S with
    | some (.int n, S1) => if -(2 ^ 62) ≤ n ∧ n ≤ 1000000 then some (.list (rangeD 0 n.toNat), S1) else none
    | _ => none
  | .rng2 a b, η, S => match den a η S with
    | some (.int m, S1) => match den b η S1 with
      | some (.int n, S2) => if -1000000 ≤ m ∧ m ≤ 1000000 ∧ -1000000 ≤ n ∧ n ≤ 1000000 then some (.list (rangeD m (n - m).toNat), S2) else none
      | _ => none
    | _ => none
  | .zip a b, η, S => match topE η S (den a η S) a with
    | some (.list xs, S1) => match topE η S1 (den b η S1) b with
      | some (.list ys, S2) => some (.list ((xs.zip ys).map fun p => .tuple [p.1, p.2]), S2)
      | _ => none
    | some (.tuple xs, S1) => match topE η S1 (den b η S1) b with
      | some (.tuple ys, S2) => some (.list ((xs.zip ys).map fun p => .tuple [p.1, p.2]), S2)
      | _ => none
    | _ => none
  | .enum a, η, S => match topE η S (den a η S) a with
    | some (d, S1) => (itemsD d).map fun xs => (.list (xs.zipIdx.map fun p => .tuple [.int (p.2 : Nat), p.1]), S1)
    | none => none
def denL : List E → Env → Sc → Option (List D × Sc)
  | [], _, S => some ([], S)
  | e :: es, η, S => match den e η S with
    | some (d, S1) => match denL es η S1 with
      | some (ds, S2) => some (d :: ds, S2)
      | none => none
    | none => none
def denA : List E → Env → Sc → Option (List D × Sc)
  | [], _, S => some ([], S)
  | e :: es, η, S => match topE η S (den e η S) e with
    | some (d, S1) => match denA es η S1 with
      | some (ds, S2) => some (d :: ds, S2)
      | none => none
    | none => none
end
def denT (e : E) (η : Env) (S : Sc) : R := topE η S (den Φ G e η S) e
end

/-! ### statements -/
inductive Res | nx (η : Env) (S : Sc) | ct (η : Env) (S : Sc) | bk (η : Env) (S : Sc) | rt (d : D) (new : Bool) (S : Sc)
def forF (turn : D → Env → Sc → Option Res) : List D → Env → Sc → Option Res
  | [], η, S => some (.nx η S)
  | x :: xs, η, S => match turn x η S with
    | some (.nx η' S') => forF turn xs η' S'
    | some (.ct η' S') => forF turn xs η' S'
    | some (.bk η' S') => some (.nx η' S')
    | r => r
def whileF (test : Env → Sc → Option (Bool × Sc)) (body : Env → Sc → Option Res) : Nat → Env → Sc → Option Res
  | 0, _, _ => none
  | n + 1, η, S => match test η S with
    | some (false, S1) => some (.nx η S1)
    | some (true, S1) => match body η S1 with
      | some (.nx η' S') => whileF test body n η' S'
      | some (.ct η' S') => whileF test body n η' S'
      | some (.bk η' S') => some (.nx η' S')
      | r => r
    | none => none
def setAll : List Nat → List E → List D → Env → Env
  | i :: is, e :: es, d :: ds, η => setAll is es ds (η.set i (mkSl e d))
  | _, _, _, η => η
def retNew (η : Env) (e : E) : D → Bool
  | .list xs => isNew e (.list xs) || ownedE η e
  | _ => false
def frzAt (η : Env) : E → Env
  | .own i => η.set i (slot η i).freeze
  | _ => η
/-- name op= e -/
def augD : BOp → D → D → Option D
  | .add, .int i, .int j => some (.int (i + j))
  | .sub, .int i, .int j => some (.int (i - j))
  | .add, .tuple xs, .tuple ys => if lineD (xs.length + ys.length) then some (.tuple (xs ++ ys)) else none
  | _, _, _ => none
section
variable (Φ : Callee) (G : Str → Option D) (fuel : Nat)
mutual
def denS : Stm → Env → Sc → Option Res
  | .set i e, η, S => match den Φ G e η S with
    | some (d, S1) => if i < η.length then some (.nx (η.set i (mkSl e d)) S1) else none
    | none => none
  | .alis i j, η, S => match (slot η j).get with
    | some d => if i < η.length then some (.nx ((η.set j (.frz d)).set i (.frz d)) S) else none
    | none => none
  | .unp g e, η, S => match den Φ G e η S with
    | some (d, S1) => (bindT g d η).map fun η' => .nx η' S1
    | none => none
  | .par is es, η, S => match denL Φ G es η S with
    | some (ds, S1) => if is.length = es.length ∧ is.Nodup ∧ (∀ i ∈ is, i < η.length) then some (.nx (setAll is es ds η) S1) else none
    | none => none
  | .aug i o e, η, S => match (slot η i).clean with
    | some x => match den Φ G e η S with
      | some (y, S1) => match augD o x y with
        | some z => if i < η.length then some (.nx (η.set i (.frz z)) S1) else none
        | none => none
      | none => none
    | none => none
  | .setIx i k e, η, S => match den Φ G e η S with
    | some (x, S1) => match den Φ G k η S1 with
      | some (.int k, S2) => match slot η i with
        | .own (.list xs) => (ixN xs.length k).map fun j => .nx (η.set i (.own (.list (xs.set j x)))) S2
        | .frz (.dict [(.none, .none)]) => match x with
          | .int z => if 1 ≤ k ∧ k ≤ 4 then some (.nx η { S2 with cells := S2.cells.set (k - 1).toNat z }) else none
          | _ => none
        | _ => none
      | _ => none
    | none => none
  | .app i e, η, S => match den Φ G e η S with
    | some (x, S1) => match slot η i with
      | .own (.list xs) => if lineD (xs.length + 1) then some (.nx (η.set i (.own (.list (xs ++ [x])))) S1) else none
      | _ => none
    | none => none
  | .ext i e, η, S => match denT Φ G e η S with
    | some (x, S1) => match slot η i with
      | .own (.list xs) => match itemsD x with
        | some ys => if lineD (xs.length + ys.length) then some (.nx (η.set i (.own (.list (xs ++ ys)))) S1) else none
        | none => none
      | _ => none
    | none => none
  | .ife c s t, η, S => match denT Φ G c η S with
    | some (x, S1) => match truD x with
      | some true => denSs s η S1
      | some false => denSs t η S1
      | none => none
    | none => none
  | .for_ g it s, η, S => match denT Φ G it η S with
    | some (d, S1) => match (if clE (frzAt η it) it then itemsD d else none) with
      | some xs => forF (fun x η S => match bindT g x η with
        | some η2 => denSs s η2 S
        | none => none) xs (frzAt η it) S1
      | none => none
    | none => none
  | .while_ c s, η, S => whileF (fun η S => match denT Φ G c η S with
      | some (x, S1) => (truD x).map (·, S1)
      | none => none) (denSs s) fuel η S
  | .ret e, η, S => (denT Φ G e η S).map fun r => .rt r.1 (retNew η e r.1) r.2
  | .cont, η, S => some (.ct η S)
  | .brk, η, S => some (.bk η S)
  | .pass, η, S => some (.nx η S)
  | .stuck, _, _ => none
def denSs : List Stm → Env → Sc → Option Res
  | [], η, S => some (.nx η S)
  | s :: ss, η, S => match denS s η S with
    | some (.nx η' S') => denSs ss η' S'
    | r => r
end
end

/-! ### a program -/
structure FD where
  name : Str
  params : Nat
  slots : Nat
  body : List Stm
/-- a while turns at most so often -/
def whileMost : Nat := 100000
def startE (fd : FD) (ds : List D) : Env := ds.map .frz ++ List.replicate (fd.slots - ds.length) .no
def run (P : List FD) (G : Str → Option D) : Nat → Callee
  | 0, _, _, _ => none
  | n + 1, f, ds, S => match P.find? fun fd => decide (fd.name = f) with
    | none => none
    | some fd => if ds.length = fd.params then (match denSs (run P G n) G whileMost fd.body (startE fd ds) S with
        | some (.rt d nw S') => some (d, nw, S')
        | some (.nx _ S') => some (.none, false, S')
        | _ => none) else none
end Dv

/-! Dv3: frames. -/
namespace Dv
open PySem PySem.Spec PyProof.Rows L2

abbrev Sg := L2.St
example (Φ : Callee) (G : Str → Option D) (a b : E) (η : Env) (S : Sc) : den Φ G (.neg (.con (.int 3))) η S = some (.int (-3), S) := rfl
/-- the cells as they stand -/
structure Src (pc ps : Addr) (H : Hp) (S : Sc) : Prop where
  ne : ps ≠ pc
  top : H pc = some (.lst (.ref ps :: S.cells.map .int))
  scr : H ps = some (.lst (S.script.map .int))
  four : S.cells.length = 4
  line : S.script.length ≤ sizeLine
/-- the frame's own objects beside the callers' -/
def Own (Bc : Addr → Prop) (η : Env) (σ : Sg) (a : Addr) : Prop := Bc a ∨ ∃ (i : Nat) (d : D), η[i]? = some (.own d) ∧ σ[i]? = some (some (.ref a))
/-- all tracked objects stay -/
def Ext (pc : Addr) (H H' : Hp) : Prop := ∀ a o, a ≠ pc → H a = some o → H' a = some o
section
variable {K : PySem.W.Frag} {pc ps : Addr}
theorem Ext.refl {H : Hp} : Ext pc H H := fun _ _ _ h => h
theorem Ext.trans {H H1 H2 : Hp} (a : Ext pc H H1) (b : Ext pc H1 H2) : Ext pc H H2 := fun c o n h => b c o n (a c o n h)
theorem Ext.new {H : Hp} {p : Addr} {o : HO} (h : H p = none) : Ext pc H (upd H p o) := fun a x _ e => by rw [upd_ne (ne_of_none e h)]; exact e
theorem Ext.keep {H H' : Hp} {S : Sc} {B : Addr → Prop} (x : Ext pc H H') (s : Src pc ps H S) : Keep H H' B pc := ⟨fun a o n _ h => x a o n h, fun a o xs h => x _ _ (fun z => by
  subst z
  rw [s.top] at h; cases h) h⟩
theorem Src.new {H : Hp} {p : Addr} {o : HO} {S : Sc} (s : Src pc ps H S) (h : H p = none) : Src pc ps (upd H p o) S :=
  ⟨s.ne, by rw [upd_ne (ne_of_none s.top h)]; exact s.top, by rw [upd_ne (ne_of_none s.scr h)]; exact s.scr, s.four, s.line⟩
theorem Src.nepc {H : Hp} {S : Sc} (s : Src pc ps H S) {p : Addr} (h : H p = none) : p ≠ pc := fun z => by subst z; rw [s.top] at h; cases h

/-- the frame: H0 at the entry, Bc the callers' own objects -/
structure Fr (K : PySem.W.Frag) (pc ps : Addr) (H0 : Hp) (Bc : Addr → Prop) (η : Env) (σ : Sg) (H : Hp) (S : Sc) : Prop where
  ext : Ext pc H0 H
  src0 : ∃ S0, Src pc ps H0 S0
  src : Src pc ps H S
  bc : ∀ a, Bc a → ∃ o, H a = some o
  nps : ¬ Bc ps
  npc : ¬ Bc pc
  len : σ.length = η.length
  frz : ∀ (i : Nat) (d : D), η[i]? = some (.frz d) → ∃ v, σ[i]? = some (some v) ∧ Rp K pc H (Own Bc η σ) v d
  own : ∀ (i : Nat) (d : D), η[i]? = some (.own d) → ∃ p, σ[i]? = some (some (.ref p)) ∧ H0 p = none ∧ RpT K pc H (Own Bc η σ) (.ref p) d ∧ (∃ o, H p = some o) ∧ d ≠ Dv.cel
  inj : ∀ (i j : Nat) (d e : D) (p : Addr), η[i]? = some (.own d) → η[j]? = some (.own e) → σ[i]? = some (some (.ref p)) → σ[j]? = some (some (.ref p)) → i = j
variable {H0 : Hp} {Bc : Addr → Prop} {η : Env} {σ : Sg} {H H' : Hp} {S S' : Sc}
theorem Fr.trk (F : Fr K pc ps H0 Bc η σ H S) {a : Addr} (h : Own Bc η σ a) : ∃ o, H a = some o := by
  rcases h with h | ⟨i, d, h1, h2⟩
  · exact F.bc a h
  · obtain ⟨p, h3, _, _, h4, _⟩ := F.own i d h1
    rw [h2] at h3
    cases h3
    exact h4
theorem Fr.nown (F : Fr K pc ps H0 Bc η σ H S) {p : Addr} (h : H p = none) : ¬ Own Bc η σ p := fun z => by
  obtain ⟨o, e⟩ := F.trk z
  rw [h] at e; cases e
theorem Fr.ownpc (F : Fr K pc ps H0 Bc η σ H S) : ¬ Own Bc η σ pc := fun z => by
  rcases z with h | ⟨i, d, h1, h2⟩
  · exact F.npc h
  · obtain ⟨p, h3, h5, _, h4, _⟩ := F.own i d h1
    rw [h2] at h3
    cases h3
    obtain ⟨S0, s0⟩ := F.src0
    rw [s0.top] at h5; cases h5
theorem Fr.ownps (F : Fr K pc ps H0 Bc η σ H S) : ¬ Own Bc η σ ps := fun z => by
  rcases z with h | ⟨i, d, h1, h2⟩
  · exact F.nps h
  · obtain ⟨p, h3, h5, _, h4, _⟩ := F.own i d h1
    rw [h2] at h3
    cases h3
    obtain ⟨S0, s0⟩ := F.src0
    rw [s0.scr] at h5; cases h5
theorem RpT.ext {B : Addr → Prop} {v : V} {d : D} (x : Ext pc H H') (s : Src pc ps H S) (h : RpT K pc H B v d) : RpT K pc H' B v d := by
  cases h with
  | of h => exact .of (h.keep (x.keep s))
  | lst h1 h2 h3 h4 => exact .lst (x _ _ h2 h1) h2 h3 (h4.keep (x.keep s))
  | dic h1 h2 h3 h4 => exact .dic (x _ _ h2 h1) h2 h3 (h4.keep (x.keep s))
theorem Fr.step (F : Fr K pc ps H0 Bc η σ H S) (x : Ext pc H H') (s : Src pc ps H' S') : Fr K pc ps H0 Bc η σ H' S' where
  ext := F.ext.trans x
  src0 := F.src0
  src := s
  bc := fun a h => by
    obtain ⟨o, e⟩ := F.bc a h
    exact ⟨o, x a o (fun z => F.npc (z ▸ h)) e⟩
  nps := F.nps
  npc := F.npc
  len := F.len
  frz := fun i d e => by
    obtain ⟨v, h1, h2⟩ := F.frz i d e
    exact ⟨v, h1, h2.keep (x.keep F.src)⟩
  own := fun i d e => by
    obtain ⟨p, h1, h2, h3, ⟨o, h4⟩, h5⟩ := F.own i d e
    have np : p ≠ pc := fun z => by
      obtain ⟨S0, s0⟩ := F.src0
      subst z; rw [s0.top] at h2; cases h2
    exact ⟨p, h1, h2, h3.ext x F.src, ⟨o, x _ _ np h4⟩, h5⟩
  inj := F.inj
/-- what an expression hands on -/
structure Got (K : PySem.W.Frag) (pc ps : Addr) (B : Addr → Prop) (H : Hp) (new : Bool) (d : D) (S' : Sc) (v : V) (H' : Hp) : Prop where
  ext : Ext pc H H'
  src : Src pc ps H' S'
  rp : Rp K pc H' B v d
  new : new = true → ∃ p, v = .ref p ∧ H p = none ∧ RpT K pc H' (fun a => B a ∨ a = p) v d ∧ ∃ o, H' p = some o
/-- the meaning of an expression as a reading -/
def tD (K : PySem.W.Frag) (pc ps : Addr) (f : Env → Sc → R) (new : D → Bool) : TE := fun σ H Q => ∃ H0 Bc η S d S', Fr K pc ps H0 Bc η σ H S ∧ f η S = some (d, S') ∧
  ∀ v H', Got K pc ps (Own Bc η σ) H (new d) d S' v H' → Q v H'
/-- .. where its top may be the frame's own -/
structure GotT (K : PySem.W.Frag) (pc ps : Addr) (B : Addr → Prop) (H : Hp) (clean : Bool) (d : D) (S' : Sc) (v : V) (H' : Hp) : Prop where
  ext : Ext pc H H'
  src : Src pc ps H' S'
  rp : RpT K pc H' B v d
  cl : clean = true → Rp K pc H' B v d
def tT (K : PySem.W.Frag) (pc ps : Addr) (f : Env → Sc → R) (cl : Env → Bool) : TE := fun σ H Q => ∃ H0 Bc η S d S', Fr K pc ps H0 Bc η σ H S ∧ f η S = some (d, S') ∧
  ∀ v H', GotT K pc ps (Own Bc η σ) H (cl η) d S' v H' → Q v H'
/-- a test -/
def tB (K : PySem.W.Frag) (pc ps : Addr) (f : Env → Sc → R) : TT := fun σ H Q => ∃ H0 Bc η S d S' b, Fr K pc ps H0 Bc η σ H S ∧ f η S = some (d, S') ∧ truD d = some b ∧
  ∀ H', Ext pc H H' → Src pc ps H' S' → Q b H'
end
section
variable {X : Cx} {e : Expr}
theorem _root_.L2.PE.imp {t t' : TE} (h : PE X e t) (i : ∀ σ H Q, t' σ H Q → t σ H Q) : PE X e t' := ⟨fun pins s σ H Q I hw => h.run pins s σ H Q I (i _ _ _ hw)⟩
theorem _root_.L2.PT.imp {t t' : TT} (h : PT X e t) (i : ∀ σ H Q, t' σ H Q → t σ H Q) : PT X e t' := ⟨fun pins s σ H Q I hw => h.run pins s σ H Q I (i _ _ _ hw)⟩
theorem _root_.L2.PW.imp {t t' : TT} (h : PW X e t) (i : ∀ σ H Q, t' σ H Q → t σ H Q) : PW X e t' := ⟨fun wh pins s σ H Q I hw => h.run wh pins s σ H Q I (i _ _ _ hw)⟩
theorem _root_.L2.PA.imp {es : List Expr} {t t' : TA} (h : PA X es t) (i : ∀ σ H Q, t' σ H Q → t σ H Q) : PA X es t' := ⟨fun p pins s σ H Q I hw => h.run p pins s σ H Q I (i _ _ _ hw)⟩
theorem _root_.L2.PI.imp {tg : Expr} {t t' : TI} (h : PI X tg e t) (i : ∀ σ H Q, t' σ H Q → t σ H Q) : PI X tg e t' := ⟨fun pins s σ H Q I hw => h.run pins s σ H Q I (i _ _ _ hw)⟩
theorem _root_.L2.PS.imp {st : Stmt} {t t' : TS} (h : PS X st t) (i : ∀ D σ H, t' D σ H → t D σ H) : PS X st t' := ⟨fun pins s σ H Q I hw => h.run pins s σ H Q I (i _ _ _ hw)⟩
theorem _root_.L2.PSs.imp {st : List Stmt} {t t' : TS} (h : PSs X st t) (i : ∀ D σ H, t' D σ H → t D σ H) : PSs X st t' := ⟨fun pins s σ H Q I hw => h.run pins s σ H Q I (i _ _ _ hw)⟩
end
end Dv

/-! Dv4: from the text's terms to the small language. -/
namespace Dv
open PySem PySem.Spec PyProof.Rows L2

def bltNames : List Str := ["len", "isinstance", "tuple", "list", "sorted", "all", "any", "sum", "min", "max", "int", "abs", "dict", "set", "zip", "range", "enumerate", "bool", "str"]
/-- where one stands: the scope, the names whose cells are the frame's own, the program's defs with their arities, is gcd imported -/
structure Sco where
  sc : Scope
  fn : Str → Bool
  fns : List (Str × Nat)
  gcd : Bool
def Sco.blk (c : Sco) (scope : Scope) : Sco := { c with sc := relS scope c.sc, fn := fun x => scope.names.lookup x == some .cell }
def visB (sc : Scope) (x : Str) : Bool := match sc.names.lookup x with
  | some .local => true
  | some .cell => true
  | some .free => true
  | _ => false
def glB (sc : Scope) (x : Str) : Bool := match sc.names.lookup x with
  | some .globalImplicit => true
  | _ => false
/-- may be stored -/
def locB (c : Sco) (x : Str) : Bool := match c.sc.names.lookup x with
  | some .local => true
  | some .cell => c.fn x
  | _ => false
def place (N : List Str) (x : Str) : Option Nat := N.findIdx? fun y => decide (y = x)
def okName (x : Str) : Bool := !(x == ("__debug__" : Str)) && !(x == ("__classdict__" : Str)) && !decide (x = ("__name__" : Str))
def cOp : Operator → Option BOp
  | .Add => some .add
  | .Sub => some .sub
  | .Mult => some .mul
  | .FloorDiv => some .div
  | .Mod => some .mod
  | .Pow => some .pow
  | _ => none
def cCmp : CmpOp → Option COp
  | .Eq => some .eq
  | .NotEq => some .ne
  | .Lt => some .lt
  | .LtE => some .le
  | .Gt => some .gt
  | .GtE => some .ge
  | .In => some .isin
  | .NotIn => some .notin
  | .Is => some .is_
  | .IsNot => some .isnot
def cCon : Const → Option D
  | .none => some .none
  | .bool b => some (.bool b)
  | .int i => some (.int i)
  | .str x => if x.length ≤ 1000 then some (.str x) else none
  | _ => none
def notStar : Expr → Bool
  | .Starred .. => false
  | _ => true
def plainIxB : Expr → Bool
  | .Slice .. => false
  | _ => true
/-- not a set's display -/
def noSet : Expr → Bool
  | .Set .. => false
  | _ => true
def cTg (N : List Str) (c : Sco) : Nat → Expr → Option Tg
  | n + 1, .Name x _ => if locB c x then (place N x).map .name else none
  | n + 1, .Tuple es _ _ => if es.all notStar then (es.mapM (cTg N c n)).map .tup else none
  | _, _ => none
/-- the names of a target -/
def tgNames : Nat → Expr → List Str
  | n + 1, .Name x _ => [x]
  | n + 1, .Tuple es _ _ => es.flatMap (tgNames n)
  | _, _ => []
def tyNames : List Str := ["int", "bool", "str", "tuple", "list"]
def tyName (x : Str) : Option String := if x = ("int" : Str) then some "int" else if x = ("bool" : Str) then some "bool" else if x = ("str" : Str) then some "str" else if x = ("tuple" : Str) then some "tuple" else if x = ("list" : Str) then some "list" else none
def blt1 (x : Str) : Option Blt :=
  if x = ("len" : Str) then some .len else if x = ("tuple" : Str) then some .tuple else if x = ("list" : Str) then some .list else if x = ("sorted" : Str) then some .sorted else
  if x = ("all" : Str) then some .all else if x = ("any" : Str) then some .any else if x = ("sum" : Str) then some .sum else if x = ("min" : Str) then some .min else if x = ("max" : Str) then some .max else
  if x = ("int" : Str) then some .int else if x = ("abs" : Str) then some .abs else if x = ("dict" : Str) then some .dict else none
def blt2 (x : Str) : Option Blt := if x = ("max" : Str) then some .max2 else if x = ("min" : Str) then some .min2 else none
def isStr (x : Str) (y : Str) : Bool := decide (x = y)

/-- where the top may be the frame's own -/
def topC (N : List Str) (r : Sco → Expr → Option E) (c : Sco) (e : Expr) : Option E := match e with
  | .Name x _ => if okName x && visB c.sc x then (place N x).map .own else r c e
  | _ => r c e
/-- a call of a built-in by name -/
def bltC (T r : Expr → Option E) (c : Sco) (f : Str) (args : List Expr) : Option E := match args with
  | [.Call (.Name g _) [a] [] _] => if isStr f "sorted" && isStr g "set" && glB c.sc g && notStar a then (T a).map fun a => .blt .sset [a]
      else if isStr f "list" && isStr g "range" && glB c.sc g && notStar a then (r a).map fun a => .blt .lrange [a]
      else if isStr f "tuple" && isStr g "range" && glB c.sc g && notStar a then (r a).map fun a => .blt .trange [a]
      else (blt1 f).bind fun b => (args.mapM T).map (.blt b)
  | [.Call (.Name g _) [a, b] [] _] => if isStr f "tuple" && isStr g "zip" && glB c.sc g && notStar a && notStar b then (T a).bind fun a => (T b).map fun b => .blt .tzip [a, b]
      else (blt1 f).bind fun b => (args.mapM T).map (.blt b)
  | [_] => (blt1 f).bind fun b => (args.mapM T).map (.blt b)
  | [a, .Name t _] => if isStr f "isinstance" then (if glB c.sc t then (tyName t).bind fun t => (T a).map fun a => .blt (.isi [t]) [a] else none) else (blt2 f).bind fun b => (args.mapM T).map (.blt b)
  | [a, .Tuple [.Name t _, .Name u _] _ _] => if isStr f "isinstance" && glB c.sc t && glB c.sc u then (tyName t).bind fun t => (tyName u).bind fun u => (T a).map fun a => .blt (.isi [t, u]) [a] else none
  | [_, _] => (blt2 f).bind fun b => (args.mapM T).map (.blt b)
  | _ => none
def callC (T r : Expr → Option E) (c : Sco) (f : Str) (args : List Expr) : Option E :=
  if !glB c.sc f || !okName f || !args.all notStar then none else
  if bltNames.contains f then bltC T r c f args else
  match c.fns.lookup f with
  | some m => if args.length = m && !args.isEmpty then (args.mapM T).map (.call f) else none
  | none => if isStr f "gcd" && c.gcd && args.length = 2 then (args.mapM T).map (.blt .gcd) else none
/-- what is walked -/
def itC (T r : Expr → Option E) (c : Sco) (tup : Bool) (e : Expr) : Option E := match e with
  | .Call (.Name f _) [a] [] _ => if glB c.sc f && okName f && notStar a && isStr f "range" then (r a).map .rng1 else if glB c.sc f && okName f && notStar a && isStr f "enumerate" && tup then (T a).map .enum else r e
  | .Call (.Name f _) [a, b] [] _ => if glB c.sc f && okName f && notStar a && notStar b && isStr f "range" then (r a).bind fun a => (r b).map fun b => .rng2 a b
      else if glB c.sc f && okName f && notStar a && notStar b && isStr f "zip" && tup then (T a).bind fun a => (T b).map fun b => .zip a b else r e
  | _ => T e
def isTup : Expr → Bool
  | .Tuple .. => true
  | _ => false
def optC (r : Expr → Option E) : Option Expr → Option E
  | none => some (.con .none)
  | some e => (r e).bind fun t => if isNoneE t then none else some t
def lcC (N : List Str) (r : Sco → Expr → Option E) (n : Nat) (c : Sco) (elt tg iter : Expr) (ifs : List Expr) (scope : Scope) : Option E :=
  let xs := tgNames n tg
  let own : List (Str × Nat) := xs.map fun x => (x, (place N x).getD 0)
  let c' := c.blk scope
  if blkC N c.sc scope own && xs.all (fun x => (place N x).isSome) && noSet iter then (cTg N c' n tg).bind fun g => (itC (topC N r c) (r c) c (isTup tg) iter).bind fun it => (match ifs with
    | [] => some (E.con (.bool true))
    | [t] => topC N r c' t
    | _ => none).bind fun t => (r c' elt).map fun e => .lc g it t e (xs.map fun x => (place N x).getD 0)
  else none
def lc2C (N : List Str) (r : Sco → Expr → Option E) (n : Nat) (c : Sco) (elt tg iter tg2 iter2 : Expr) (scope : Scope) : Option E :=
  let xs := tgNames n tg
  let ys := tgNames n tg2
  let own : List (Str × Nat) := (xs ++ ys).map fun x => (x, (place N x).getD 0)
  let c' := c.blk scope
  if blkC N c.sc scope own && (xs ++ ys).all (fun x => (place N x).isSome) && noSet iter && noSet iter2 then (cTg N c' n tg).bind fun g => (itC (topC N r c) (r c) c (isTup tg) iter).bind fun it => (cTg N c' n tg2).bind fun h =>
    (itC (topC N r c') (r c') c' (isTup tg2) iter2).bind fun ju => (r c' elt).map fun e => .lc2 g it h ju e ((xs ++ ys).map fun x => (place N x).getD 0) (ys.map fun x => (place N x).getD 0)
  else none
/-- not super() -/
def plainBase : Expr → Bool
  | .Call _ [] [] _ => false
  | _ => true
def getC (T r : Expr → Option E) (o : Expr) (m : Str) (args : List Expr) : Option E := match args with
  | [k] => if isStr m "get" && notStar k then (T o).bind fun o => (r k).map fun k => .get o k else none
  | [k, d] => if isStr m "get" && notStar k && notStar d then (T o).bind fun o => (r k).bind fun k => (r d).map fun d => .get2 o k d else none
  | _ => none
def subC (T r : Expr → Option E) (a b : Expr) : Option E := match b with
  | .Slice none none (some (.UnaryOp .USub (.Constant (.int 1) _ _) _)) _ => (T a).map .rev
  | .Slice lo hi none _ => (T a).bind fun a => (optC r lo).bind fun l => (optC r hi).map fun h => .sl a l h
  | .Slice .. => none
  | _ => (T a).bind fun a => (r b).map fun b => .idx a b
def cmpC (T r : Expr → Option E) (a : Expr) (ops : List CmpOp) (bs : List Expr) : Option E := match ops, bs with
  | [op], [b] => if noSet b then (cCmp op).bind fun o => (T a).bind fun a => (T b).map fun b => .cmp o a b else none
  | [op, op'], [b, d] => if noSet b && noSet d then (cCmp op).bind fun o => (cCmp op').bind fun o' => (r a).bind fun a => (r b).bind fun b => (r d).map fun d => .chain o o' a b d else none
  | _, _ => none
def boolC (T r : Expr → Option E) (op : BoolOp) (es : List Expr) (p : Pos) : Option E := match op, es with
  | _, [a] => r a
  | .And, a :: b :: l => (T a).bind fun a => (r (.BoolOp .And (b :: l) p)).map fun b => .and a b
  | .Or, a :: b :: l => (T a).bind fun a => (r (.BoolOp .Or (b :: l) p)).map fun b => .or a b
  | _, _ => none
def nameC (N : List Str) (c : Sco) (x : Str) : Option E := if okName x then (if visB c.sc x then (place N x).map .var else if glB c.sc x && !bltNames.contains x then some (.glo x) else none) else none
def cE (N : List Str) : Nat → Sco → Expr → Option E
  | 0, _, _ => none
  | n + 1, c, e => match e with
    | .Name x _ => nameC N c x
    | .Constant k _ _ => (cCon k).map .con
    | .Tuple es _ _ => if es.all notStar then (es.mapM (cE N n c)).map .tup else none
    | .List es _ => if es.all notStar then (es.mapM (cE N n c)).map .lst else none
    | .BinOp a op b _ => (cOp op).bind fun o => (topC N (cE N n) c a).bind fun a => (topC N (cE N n) c b).map fun b => .bin o a b
    | .UnaryOp .USub a _ => (cE N n c a).map .neg
    | .UnaryOp .Not a _ => (topC N (cE N n) c a).map .not
    | .BoolOp op es p => boolC (topC N (cE N n) c) (cE N n c) op es p
    | .IfExp t a b _ => (topC N (cE N n) c t).bind fun t => (cE N n c a).bind fun a => (cE N n c b).map fun b => .ite t a b
    | .Compare a ops bs _ => cmpC (topC N (cE N n) c) (cE N n c) a ops bs
    | .Subscript a b _ => subC (topC N (cE N n) c) (cE N n c) a b
    | .Call (.Attribute o m ap) args [] cp => if (ap.endLine == cp.line) && plainBase o then getC (topC N (cE N n) c) (cE N n c) o m args else none
    | .Call (.Name f _) args [] _ => callC (topC N (cE N n) c) (cE N n c) c f args
    | .ListComp elt [⟨tg, iter, ifs, 0⟩] scope _ => lcC N (cE N n) n c elt tg iter ifs scope
    | .ListComp elt [⟨tg, iter, [], 0⟩, ⟨tg2, iter2, [], 0⟩] scope _ => lc2C N (cE N n) n c elt tg iter tg2 iter2 scope
    | _ => none
def nms (es : List Expr) : Option (List (Str × Pos)) := es.mapM fun e => match e with
  | .Name x p => some (x, p)
  | _ => none
/-- is the assigned comprehension stored within its own frame? -/
def swB (c : Sco) (x : Str) (px : Pos) (scope : Scope) (pos : Pos) : Bool := (match c.sc.kind with | .function => true | _ => false) && decide (c.sc.names.lookup x = some .local) && (px.line == pos.line) && !(scope.names.any fun (n, k) => n == x && (k == .local || k == .cell))
/-- may it be assigned to the name? -/
def compOk (c : Sco) (x : Str) (px : Pos) : Expr → Bool
  | .ListComp _ _ scope pos => swB c x px scope pos || !decide (c.sc.names.lookup x = some .local)
  | .SetComp .. => false
  | .DictComp .. => false
  | _ => true
def isComp : Expr → Bool
  | .ListComp .. => true
  | .SetComp .. => true
  | .DictComp .. => true
  | _ => false
def isLoc (c : Sco) (x : Str) : Bool := decide (c.sc.names.lookup x = some .local)
def kindF (c : Sco) : Bool := match c.sc.kind with
  | .function => true
  | _ => false
/-- a, b = x, y -/
def parC (N : List Str) (n : Nat) (c : Sco) (ns es : List Expr) : Option Stm := match ns, es with
  | [.Name x px, .Name y py], [a, b] => if kindF c && locB c x && locB c y && [a, b].all notStar then (place N x).bind fun i => (place N y).bind fun j => ([a, b].mapM (cE N n c)).bind fun ts =>
      if isLoc c x && isLoc c y then (if (py.line == px.line) && decide (x ≠ y) && !([a, b].all (foldedForSure 8)) && !([a, b].all (constantsAlone 8)) then some (.par [i, j] ts) else none) else some (.par [i, j] ts)
    else none
  | [.Name x px, .Name y py, .Name z pz], [a, b, d] => if kindF c && locB c x && locB c y && locB c z && [a, b, d].all notStar then (place N x).bind fun i => (place N y).bind fun j => (place N z).bind fun l => ([a, b, d].mapM (cE N n c)).bind fun ts =>
      if isLoc c x && isLoc c y && isLoc c z then (if (py.line == px.line) && (pz.line == px.line) && decide (x ≠ y) && decide (x ≠ z) && decide (y ≠ z) && !([a, b, d].all (foldedForSure 8)) && !([a, b, d].all (constantsAlone 8)) then some (.par [i, j, l] ts) else none) else some (.par [i, j, l] ts)
    else none
  | _, _ => none
def asgC (N : List Str) (n : Nat) (c : Sco) (tg e : Expr) : Option Stm := match tg with
  | .Name x px => if locB c x && compOk c x px e then (place N x).bind fun i => (match e with
      | .Name y _ => if visB c.sc y && okName y then (place N y).map fun j => .alis i j else (cE N n c e).map fun e => .set i e
      | _ => (cE N n c e).map fun e => .set i e) else none
  | .Subscript (.Name x _) k _ => if visB c.sc x && okName x && plainIxB k && !isComp e then (place N x).bind fun i => (cE N n c k).bind fun k => (cE N n c e).map fun e => .setIx i k e else none
  | .Tuple ns _ _ => (match e with
    | .Tuple es _ _ => parC N n c ns es
    | _ => if isComp e || isTup e then none else (cTg N c n tg).bind fun g => (cE N n c e).map fun e => .unp g e)
  | _ => none
def exC (N : List Str) (n : Nat) (c : Sco) (x m : Str) (e : Expr) : Option Stm :=
  if visB c.sc x && okName x && notStar e then (place N x).bind fun i => if isStr m "append" then (cE N n c e).map fun e => .app i e else if isStr m "extend" then (topC N (cE N n) c e).map fun e => .ext i e else none else none
def cS (N : List Str) : Nat → Sco → Stmt → Option Stm
  | 0, _, _ => none
  | n + 1, c, s => match s with
    | .Assign [tg] e _ => asgC N n c tg e
    | .AugAssign (.Name x _) op e _ => if locB c x then (place N x).bind fun i => (cOp op).bind fun o => (cE N n c e).map fun e => .aug i o e else none
    | .Expr (.Call (.Attribute (.Name x _) m ap) [e] [] cp) _ => if ap.endLine == cp.line then exC N n c x m e else none
    | .If t a b _ => (topC N (cE N n) c t).bind fun t => (a.mapM (cS N n c)).bind fun a => (b.mapM (cS N n c)).map fun b => .ife t a b
    | .For tg it body [] _ => if noSet it then (cTg N c n tg).bind fun g => (itC (topC N (cE N n) c) (cE N n c) c (isTup tg) it).bind fun i => (body.mapM (cS N n c)).map fun s => .for_ g i s else none
    | .While t body [] _ => (topC N (cE N n) c t).bind fun t => (body.mapM (cS N n c)).map fun s => .while_ t s
    | .Return (some e) _ => (topC N (cE N n) c e).map .ret
    | .Continue _ => some .cont
    | .Break _ => some .brk
    | .Pass _ => some .pass
    | .Raise _ _ _ => some .stuck
    | _ => none
end Dv

/-! Dv5: what the operators do, by data. -/
namespace Dv
open PySem PySem.Spec PyProof.Rows L2

section
variable {K : PySem.W.Frag} {pc ps : Addr} {B : Addr → Prop} {H : Hp} {S : Sc}
/-- B's addresses are tracked -/
abbrev Trk (H : Hp) (B : Addr → Prop) : Prop := ∀ a, B a → ∃ o, H a = some o
theorem Got.same {v : V} {d : D} (s : Src pc ps H S) (r : Rp K pc H B v d) : Got K pc ps B H false d S v H := ⟨Ext.refl, s, r, fun z => nomatch z⟩
theorem wk_new {p : Addr} (hp : H p = none) : ∀ a o, H a = some o → (B a ∨ a = p) → B a := fun a o e h => by
  rcases h with h | h
  · exact h
  · subst h; rw [hp] at e; cases e
theorem Got.tup {p : Addr} {o : Obj} {xs : List V} {ds : List D} {nw : Bool} (s : Src pc ps H S) (hp : H p = none) (ho : o.dict = none) (hz : xs.length ≤ sizeLine) (r : RpAll K pc H B xs ds) : Got K pc ps B H nw (.tuple ds) S (.ref p) (upd H p (.frz o (.tup xs))) :=
  ⟨Ext.new hp, s.new hp, .tup (.inl ⟨o, upd_same, ho⟩) hz (r.keep ((Ext.new hp).keep s)), fun _ => ⟨p, rfl, hp, .of (.tup (.inl ⟨o, upd_same, ho⟩) hz ((r.weak (wk_new hp)).keep ((Ext.new hp).keep s))), ⟨_, upd_same⟩⟩⟩
theorem Got.lst {p : Addr} {xs : List V} {ds : List D} {nw : Bool} (s : Src pc ps H S) (t : Trk H B) (hp : H p = none) (hz : xs.length ≤ sizeLine) (r : RpAll K pc H B xs ds) : Got K pc ps B H nw (.list ds) S (.ref p) (upd H p (.lst xs)) :=
  ⟨Ext.new hp, s.new hp, .lst upd_same (s.nepc hp) (fun z => by obtain ⟨o, e⟩ := t p z; rw [hp] at e; cases e) hz (r.keep ((Ext.new hp).keep s)), fun _ => ⟨p, rfl, hp, .lst upd_same (s.nepc hp) hz ((r.weak (wk_new hp)).keep ((Ext.new hp).keep s)), ⟨_, upd_same⟩⟩⟩
theorem RpAll.nil_iff {xs : List V} {ds : List D} (h : RpAll K pc H B xs ds) : xs = [] ↔ ds = [] := by cases h <;> simp
theorem RpAll.isEmpty {xs : List V} {ds : List D} (h : RpAll K pc H B xs ds) : xs.isEmpty = ds.isEmpty := by cases h <;> rfl
end

/-! ### new tuples -/
section
variable {X : Cx} {pins : List (Addr × Obj)} {σ : L2.St} {H : Hp} {s : Shared}
/-- the object of a new tuple -/
abbrev tupObj (us : List Value) : Obj := { cls := .type "tuple", data := .seq us.toArray }
theorem frz_new {xs : List V} {us : List Value} {t' : Nat} (I : Inv X pins σ H s) (r : Vals xs us) (hz : xs.length ≤ sizeLine) : Inv X pins σ (upd H s.heap.objs.size (.frz (tupObj us) (.tup xs))) { s with heap := s.heap.push (tupObj us), toks := t' } :=
  I.laid (fun b u e => Heap.get?_push_of_some _ e) (Nat.le_refl _) ⟨Heap.get?_push_size _ rfl, hz, us, r, ⟨_, Heap.get?_push_size _ rfl, rfl, _, rfl⟩⟩
/-- what is wanted of a new tuple -/
def NewT (xs : List V) (H : Hp) (Q : VK) : Prop := ∀ p o, H p = none → o.dict = none → Q (.ref p) (upd H p (.frz o (.tup xs)))
theorem NewT.here {xs : List V} {us : List Value} {t' : Nat} {Q : VK} (q : NewT xs H Q) (I : Inv X pins σ H s) (r : Vals xs us) (hz : xs.length ≤ sizeLine) : EP X pins σ Q (.ref s.heap.objs.size) { s with heap := s.heap.push (tupObj us), toks := t' } :=
  ⟨.ref s.heap.objs.size, _, frz_new I r hz, rfl, q _ _ (I.hok.fresh (Nat.le_refl _)) rfl⟩
def tTupF (t : TA) : TE := fun σ H Q => t σ H fun xs H1 => xs.length ≤ sizeLine ∧ NewT xs H1 Q
theorem pe_tupF {es : List Expr} {t : TA} {k : Nat} {pos : Pos} (h : PA X es t) : PE X (.Tuple es k pos) (tTupF t) := by
  constructor
  intro pins s σ H Q I hq
  exact wpAny_Tuple_spliced (thn (h.run pos pins s σ H _ I hq) fun us s1 ⟨xs, H1, I1, r, z, q⟩ => ⟨by rw [← r.length]; exact z, q.here (t' := s1.toks) I1 r z⟩)
def rCatF (K : PySem.W.Frag) : R2 := fun x y H Q => ∃ a b xs ys, x = .ref a ∧ y = .ref b ∧ SqT K H a xs ∧ SqT K H b ys ∧ xs.length + ys.length ≤ sizeLine ∧ (xs = [] → Q (.ref b) H) ∧ (xs ≠ [] → ys = [] → Q (.ref a) H) ∧ (xs ≠ [] → ys ≠ [] → NewT (xs ++ ys) H Q)
theorem op_catF : OpR X (binaryOp .Add) (rCatF X.K) := by
  intro pins s σ H x y v u Q I rx ry h
  obtain ⟨a, b, xs, ys, rfl, rfl, ha, hb, hz, q0, q1, q2⟩ := h
  cases (show v = Value.ref a from rx)
  cases (show u = Value.ref b from ry)
  obtain ⟨its, r1, p1, _⟩ := I.tuple ha
  obtain ⟨its2, r2, p2, _⟩ := I.tuple hb
  by_cases hx : xs = []
  · subst hx
    cases r1
    exact cat_tup0 p1 p2 ⟨.ref b, H, I, rfl, q0 rfl⟩
  · exact HT.cat_tup p1 p2 (fun z => hx (r1.nil_iff.mp z)) (fun z => ⟨.ref a, H, I, rfl, q1 hx (r2.nil_iff.mp z)⟩) (fun z => (q2 hx fun w => z (r2.nil_iff.mpr w)).here (t' := s.toks) I (r1.append r2) (by rw [List.length_append]; exact hz)) (by rw [← r1.length, ← r2.length]; exact hz)
end

/-- a binary operation by data -/
def rOp (K : PySem.W.Frag) (pc ps : Addr) (f : D → D → Option D) (new : D → Bool) : R2 := fun x y H Q => ∃ B d e r S, Trk H B ∧ Src pc ps H S ∧ RpT K pc H B x d ∧ RpT K pc H B y e ∧ f d e = some r ∧ ∀ v H', Got K pc ps B H (new r) r S v H' → Q v H'
def newBin : BOp → D → Bool
  | .add, .list _ => true
  | _, _ => false
def bOp : BOp → Operator
  | .add => .Add
  | .sub => .Sub
  | .mul => .Mult
  | .div => .FloorDiv
  | .mod => .Mod
  | .pow => .Pow
theorem bOp_of {op : Operator} {o : BOp} (h : cOp op = some o) : op = bOp o := by
  cases op <;> simp [cOp] at h <;> subst h <;> rfl
def kOp : COp → CmpOp
  | .eq => .Eq
  | .ne => .NotEq
  | .lt => .Lt
  | .le => .LtE
  | .gt => .Gt
  | .ge => .GtE
  | .isin => .In
  | .notin => .NotIn
  | .is_ => .Is
  | .isnot => .IsNot
theorem kOp_of {op : CmpOp} {o : COp} (h : cCmp op = some o) : op = kOp o := by
  cases op <;> simp [cCmp] at h <;> subst h <;> rfl
section
variable {X : Cx} {pc ps : Addr}
theorem op_bin (o : BOp) : OpR X (binaryOp (bOp o)) (rOp X.K pc ps (binD o) (newBin o)) := by
  intro pins s σ H x y v u Q I rx ry h
  obtain ⟨B, d, e, r, S, t, src, hx, hy, hf, q⟩ := h
  cases o with
  | add =>
    cases d with
    | int i =>
      cases e with
      | int j =>
        cases hx.intV; cases hy.intV
        have e1 : r = .int (i + j) := (Option.some.inj hf).symm
        subst e1
        exact op_add pins s σ H _ _ v u Q I rx ry ⟨i, j, rfl, rfl, q _ _ (Got.same src (.int _))⟩
      | _ => simp [binD] at hf
    | tuple ds =>
      cases e with
      | tuple es =>
        obtain ⟨a, xs, rfl, ha, hz, ra⟩ := hx.tuple
        obtain ⟨b, ys, rfl, hb, hz2, rb⟩ := hy.tuple
        simp only [binD] at hf
        split at hf
        · rename_i hl
          have hl : ds.length + es.length ≤ sizeLine := of_decide_eq_true hl
          have e1 : r = .tuple (ds ++ es) := (Option.some.inj hf).symm
          subst e1
          refine op_catF pins s σ H _ _ v u Q I rx ry ⟨a, b, xs, ys, rfl, rfl, ha.sq, hb.sq, by rw [ra.length, rb.length]; exact hl, fun z => ?_, fun _ z => ?_, fun _ _ p o hp ho => ?_⟩
          · have z' := ra.nil_iff.mp z
            subst z'
            exact q _ _ (Got.same src (.tup hb hz2 rb))
          · have z' := rb.nil_iff.mp z
            subst z'
            rw [List.append_nil] at q
            exact q _ _ (Got.same src (.tup ha hz ra))
          · exact q _ _ (Got.tup src hp ho (by rw [List.length_append, ra.length, rb.length]; exact hl) (ra.append rb))
        · cases hf
      | _ => simp [binD] at hf
    | list ds =>
      cases e with
      | list es =>
        obtain ⟨a, xs, rfl, ha, _, hz, ra⟩ := hx.list
        obtain ⟨b, ys, rfl, hb, _, hz2, rb⟩ := hy.list
        simp only [binD] at hf
        split at hf
        · rename_i hl
          have hl : ds.length + es.length ≤ sizeLine := of_decide_eq_true hl
          have e1 : r = .list (ds ++ es) := (Option.some.inj hf).symm
          subst e1
          refine op_cat pins s σ H _ _ v u Q I rx ry ⟨a, b, xs, ys, rfl, rfl, ha, hb, by rw [ra.length, rb.length]; exact hl, fun p hp => ?_⟩
          exact q _ _ (Got.lst src t hp (by rw [List.length_append, ra.length, rb.length]; exact hl) (ra.append rb))
        · cases hf
      | _ => simp [binD] at hf
    | _ => cases e <;> simp [binD] at hf
  | sub =>
    cases d <;> cases e <;> simp only [binD, reduceCtorEq] at hf
    rename_i i j
    cases hx.intV; cases hy.intV
    cases Option.some.inj hf
    exact op_sub pins s σ H _ _ v u Q I rx ry ⟨i, j, rfl, rfl, q _ _ (Got.same src (.int _))⟩
  | mul =>
    cases d <;> cases e <;> simp only [binD, reduceCtorEq] at hf
    rename_i i j
    cases hx.intV; cases hy.intV
    split at hf
    · rename_i hm
      cases Option.some.inj hf
      have q' := q _ _ (Got.same src (.int _))
      simp only [mulOk, Bool.or_eq_true, Bool.and_eq_true, decide_eq_true_eq] at hm
      rcases hm with (hm | hm) | hm
      · exact op_mul pins s σ H _ _ v u Q I rx ry ⟨i, j, rfl, rfl, .inl hm, q'⟩
      · exact op_mul pins s σ H _ _ v u Q I rx ry ⟨i, j, rfl, rfl, .inr hm, q'⟩
      · exact op_mulW pins s σ H _ _ v u Q I rx ry ⟨i, j, rfl, rfl, hm, q'⟩
    · cases hf
  | div =>
    cases d <;> cases e <;> simp only [binD, reduceCtorEq] at hf
    rename_i i j
    cases hx.intV; cases hy.intV
    split at hf
    · rename_i hm
      cases Option.some.inj hf
      simp only [divOk, Bool.and_eq_true, decide_eq_true_eq] at hm
      exact op_fdivW pins s σ H _ _ v u Q I rx ry ⟨i, j, rfl, rfl, hm, q _ _ (Got.same src (.int _))⟩
    · cases hf
  | mod =>
    cases d <;> cases e <;> simp only [binD, reduceCtorEq] at hf
    rename_i i j
    cases hx.intV; cases hy.intV
    split at hf
    · rename_i hm
      cases Option.some.inj hf
      exact op_mod pins s σ H _ _ v u Q I rx ry ⟨i, j, rfl, rfl, hm, q _ _ (Got.same src (.int _))⟩
    · cases hf
  | pow =>
    cases d <;> cases e <;> simp only [binD, reduceCtorEq] at hf
    rename_i i j
    cases hx.intV; cases hy.intV
    split at hf
    · rename_i hm
      cases Option.some.inj hf
      exact op_pow pins s σ H _ _ v u Q I rx ry ⟨i, j, rfl, rfl, hm, q _ _ (Got.same src (.int _))⟩
    · cases hf
end

/-! ### data without dicts -/
section
variable {K : PySem.W.Frag} {pc : Addr} {B : Addr → Prop} {H : Hp}
mutual
theorem Rp.dp : ∀ {d : D} {v : V}, d.canLay0 = true → Rp K pc H B v d → Dp K H v d
  | _, _, _, .non => .non
  | _, _, _, .bl b => .bl b
  | _, _, _, .int i => .int i
  | _, _, _, .str x _ => .str x
  | .list ds, _, c, .lst h1 _ _ _ h5 => .lst (SqL.of h1) (RpAll.dp (by simp only [PyData.canLay0, Bool.and_eq_true] at c; first | exact c | exact c.1 | exact c.2) h5)
  | .tuple ds, _, c, .tup h1 _ h3 => .tup h1.sq (RpAll.dp (by simp only [PyData.canLay0, Bool.and_eq_true] at c; first | exact c | exact c.1 | exact c.2) h3)
  | _, _, c, .dic _ _ _ _ _ => by simp [PyData.canLay0] at c
  | _, _, c, .cel => by simp [Dv.cel, PyData.canLay0] at c
theorem RpAll.dp : ∀ {ds : List D} {vs : List V}, PyData.canLayAll0 ds = true → RpAll K pc H B vs ds → DpAll K H vs ds
  | _, _, _, .nil => .nil
  | d :: ds, _, c, .cons r t => by
    have c' : d.canLay0 = true ∧ PyData.canLayAll0 ds = true := by simpa [PyData.canLayAll0] using c
    exact .cons (Rp.dp c'.1 r) (RpAll.dp c'.2 t)
end
theorem RpT.dp {d : D} {v : V} (c : d.canLay0 = true) (h : RpT K pc H B v d) : Dp K H v d := by
  cases h with
  | of h => exact h.dp c
  | lst h1 h2 h3 h4 => exact .lst (SqL.of h1) (RpAll.dp (by simp only [PyData.canLay0, Bool.and_eq_true] at c; first | exact c | exact c.1 | exact c.2) h4)
  | dic _ _ _ _ => simp [PyData.canLay0] at c
end
end Dv

/-! Dv6: comparisons, subscripts, by data. -/
namespace Dv
open PySem PySem.Spec PyProof.Rows L2

section
variable {K : PySem.W.Frag} {pc : Addr} {B : Addr → Prop} {H : Hp}
theorem cel_tab : tabD Dv.cel = none := rfl
theorem tab_dict {d : D} {kvs : List (D × D)} (h : tabD d = some kvs) : d = .dict kvs ∧ d ≠ Dv.cel := by
  unfold tabD at h
  split at h
  · cases h
  · rename_i kv hne
    cases h
    refine ⟨rfl, fun e => ?_⟩
    unfold Dv.cel at e
    injection e with e
    exact hne e
  · cases h
/-- a dict's entries as they stand in the heap -/
theorem RpT.tab {v : V} {d : D} {kvs : List (D × D)} (h : RpT K pc H B v d) (t : tabD d = some kvs) : ∃ (a : Addr) (ks : List (Key × V)) (ds : List D), v = .ref a ∧ H a = some (.dK ks) ∧ a ≠ pc ∧ ks.length ≤ sizeLine ∧ RpAll K pc H B (ks.map (·.2)) ds ∧ kvs = (ks.map fun k => keyD k.1).zip ds := by
  obtain ⟨e, ne⟩ := tab_dict t
  subst e
  generalize e : PyData.dict kvs = d at h ne
  cases h with
  | of h =>
    cases h with
    | dic h1 h2 h3 h4 h5 => injection e with e; exact ⟨_, _, _, rfl, h1, h2, h4, h5, e⟩
    | cel => exact absurd rfl ne
    | _ => cases e
  | dic h1 h2 h3 h4 => injection e with e; exact ⟨_, _, _, rfl, h1, h2, h3, h4, e⟩
  | _ => cases e
/-- looking up an int -/
theorem look_int : ∀ {ks : List (Key × V)} {ds : List D} (i : Int), RpAll K pc H B (ks.map (·.2)) ds →
    (lookI ((ks.map fun k => keyD k.1).zip ds) i = none ∧ valV ks (.inl i) = none) ∨ ∃ d v, lookI ((ks.map fun k => keyD k.1).zip ds) i = some d ∧ valV ks (.inl i) = some v ∧ Rp K pc H B v d
  | [], ds, i, r => by cases r; exact .inl ⟨rfl, rfl⟩
  | (k, v) :: ks, [], i, r => by cases r
  | (k, v) :: ks, d :: ds, i, r => by
    cases r with
    | cons r t =>
      have ih := look_int (ks := ks) (ds := ds) i t
      cases k with
      | inl j =>
        by_cases e : j = i
        · subst e
          refine .inr ⟨d, v, ?_, ?_, r⟩
          · simp [lookI, keyD, keyIsI]
          · exact valV_pos rfl
        · have e1 : lookI (((((Sum.inl j : Key), v) :: ks).map fun k => keyD k.1).zip (d :: ds)) i = lookI ((ks.map fun k => keyD k.1).zip ds) i := by simp [lookI, keyD, keyIsI, e]
          have e2 : valV (((Sum.inl j : Key), v) :: ks) (.inl i) = valV ks (.inl i) := valV_neg (by simpa using e)
          rw [e1, e2]
          exact ih
      | inr x =>
        have e1 : lookI (((((Sum.inr x : Key), v) :: ks).map fun k => keyD k.1).zip (d :: ds)) i = lookI ((ks.map fun k => keyD k.1).zip ds) i := by simp [lookI, keyD, keyIsI]
        have e2 : valV (((Sum.inr x : Key), v) :: ks) (.inl i) = valV ks (.inl i) := valV_neg (by simp)
        rw [e1, e2]
        exact ih
theorem dget_int {a : Addr} {ks : List (Key × V)} (i : Int) (h : H a = some (.dK ks)) : DGet H a (.int i) (valV ks (.inl i)) := DGet.k (k := .inl i) h
end

section
mutual
theorem alike_comm' : ∀ (x y : D), PySem.W.alike x y = true → PySem.W.alike y x = true
  | .none, y, h => by cases y <;> simp [PySem.W.alike] at h ⊢
  | .bool _, y, h => by cases y <;> simp [PySem.W.alike] at h ⊢
  | .int _, y, h => by cases y <;> simp [PySem.W.alike] at h ⊢
  | .str _, y, h => by cases y <;> simp [PySem.W.alike] at h ⊢
  | .list xs, y, h => by
    cases y with
    | list ys => simp only [PySem.W.alike] at h ⊢; exact alike_commAll xs ys h
    | _ => simp [PySem.W.alike] at h
  | .tuple xs, y, h => by
    cases y with
    | tuple ys => simp only [PySem.W.alike] at h ⊢; exact alike_commAll xs ys h
    | _ => simp [PySem.W.alike] at h
  | .dict _, y, h => by cases y <;> simp [PySem.W.alike] at h
theorem alike_commAll : ∀ (xs ys : List D), PySem.W.alikeAll xs ys = true → PySem.W.alikeAll ys xs = true
  | [], ys, _ => by cases ys <;> simp [PySem.W.alikeAll]
  | x :: xs, [], _ => by simp [PySem.W.alikeAll]
  | x :: xs, y :: ys, h => by
    have h' := PySem.W.alike_all_cons h
    rw [PySem.W.alikeAll, Bool.and_eq_true]
    exact ⟨alike_comm' x y h'.1, alike_commAll xs ys h'.2⟩
end
theorem alike_comm {x y : D} (h : PySem.W.alike x y = true) : PySem.W.alike y x = true := alike_comm' x y h
theorem RpT.dictV {K : PySem.W.Frag} {pc : Addr} {B : Addr → Prop} {H : Hp} {v : V} {kvs : List (D × D)} (h : RpT K pc H B v (.dict kvs)) : ∃ a, v = .ref a := by
  cases h with
  | of h => cases h <;> exact ⟨_, rfl⟩
  | dic _ _ _ _ => exact ⟨_, rfl⟩
end
/-- a comparison by data -/
def rCm (K : PySem.W.Frag) (pc ps : Addr) (f : D → D → Option Bool) : R2 := fun x y H Q => ∃ B d e r, RpT K pc H B x d ∧ RpT K pc H B y e ∧ f d e = some r ∧ Q (.bl r) H
section
variable {X : Cx} {pc ps : Addr}
theorem shaped_list {ds : List D} (h : SeqAt.shaped (.list ds) = true) : PyData.canLayAll0 ds = true := by
  have := SeqAt.canLay_of_shaped h
  simp only [PyData.canLay0, Bool.and_eq_true] at this
  first | exact this | exact this.1 | exact this.2
theorem shaped_tuple {ds : List D} (h : SeqAt.shaped (.tuple ds) = true) : PyData.canLayAll0 ds = true := by
  have := SeqAt.canLay_of_shaped h
  simp only [PyData.canLay0, Bool.and_eq_true] at this
  first | exact this | exact this.1 | exact this.2
theorem op_cmp (o : COp) (hu : X.A.units + 65 < cLine) : OpR X (compareOp (kOp o)) (rCm X.K pc ps (cmpD o)) := by
  intro pins s σ H x y v u Q I rx ry h
  obtain ⟨B, d, e, r, hx, hy, hf, q⟩ := h
  have fin : ∀ {k : Bool}, Q (.bl k) H → EP X pins σ Q (.bool k) s := fun {k} q => ⟨.bl k, H, I, rfl, q⟩
  have eqs : ∀ {b : Bool}, eqD d e = some b → SeqAt.shaped d = true ∧ SeqAt.shaped e = true ∧ b = PyData.eqv d e := fun {b} h => by
    unfold eqD at h
    split at h
    · rename_i hs
      rw [Bool.and_eq_true] at hs
      exact ⟨hs.1, hs.2, (Option.some.inj h).symm⟩
    · cases h
  have isn : PyData.none.canLay0 = true := rfl
  cases o with
  | eq =>
    obtain ⟨s1, s2, rfl⟩ := eqs hf
    exact op_eqD (by omega) pins s σ H x y v u Q I rx ry ⟨d, e, hx.dp (SeqAt.canLay_of_shaped s1), hy.dp (SeqAt.canLay_of_shaped s2), s1, s2, q⟩
  | ne =>
    obtain ⟨b, hb, e1⟩ := Option.map_eq_some_iff.mp hf
    obtain ⟨s1, s2, rfl⟩ := eqs hb
    subst e1
    exact op_neD (by omega) pins s σ H x y v u Q I rx ry ⟨d, e, hx.dp (SeqAt.canLay_of_shaped s1), hy.dp (SeqAt.canLay_of_shaped s2), s1, s2, q⟩
  | lt =>
    cases d with
    | int i =>
      cases e with
      | int j =>
        cases hx.intV; cases hy.intV
        cases Option.some.inj hf
        exact op_lt pins s σ H _ _ v u Q I rx ry ⟨i, j, rfl, rfl, q⟩
      | _ => simp [cmpD, ltD] at hf
    | tuple xs =>
      cases e with
      | tuple ys =>
        simp only [cmpD, ltD] at hf
        split at hf
        · rename_i hs
          rw [Bool.and_eq_true, Bool.and_eq_true] at hs
          cases Option.some.inj hf
          obtain ⟨as, r1⟩ := Dp.reads I _ x v (hx.dp (SeqAt.canLay_of_shaped hs.1.1)) rx
          obtain ⟨bs, r2⟩ := Dp.reads I _ y u (hy.dp (SeqAt.canLay_of_shaped hs.1.2)) ry
          exact PySem.W.lt_data r1 r2 hs.2 (fun z => nomatch z) (SeqAt.room_of_shaped hs.1.1 (by omega)) (fin q)
        · cases hf
      | _ => simp [cmpD, ltD] at hf
    | _ => cases e <;> simp [cmpD, ltD] at hf
  | gt =>
    cases e with
    | int i =>
      cases d with
      | int j =>
        cases hx.intV; cases hy.intV
        cases Option.some.inj hf
        exact op_gt pins s σ H _ _ v u Q I rx ry ⟨j, i, rfl, rfl, q⟩
      | _ => simp [cmpD, ltD] at hf
    | tuple xs =>
      cases d with
      | tuple ys =>
        simp only [cmpD, ltD] at hf
        split at hf
        · rename_i hs
          rw [Bool.and_eq_true, Bool.and_eq_true] at hs
          cases Option.some.inj hf
          obtain ⟨as, r1⟩ := Dp.reads I _ x v (hx.dp (SeqAt.canLay_of_shaped hs.1.2)) rx
          obtain ⟨bs, r2⟩ := Dp.reads I _ y u (hy.dp (SeqAt.canLay_of_shaped hs.1.1)) ry
          exact PySem.W.gt_data r1 r2 (alike_comm hs.2) (fun z => nomatch z) (SeqAt.room_of_shaped hs.1.2 (by omega)) (fin q)
        · cases hf
      | _ => simp [cmpD, ltD] at hf
    | _ => cases d <;> simp [cmpD, ltD] at hf
  | le =>
    cases d <;> cases e <;> simp only [cmpD, reduceCtorEq] at hf
    rename_i i j
    cases hx.intV; cases hy.intV
    cases Option.some.inj hf
    exact op_le pins s σ H _ _ v u Q I rx ry ⟨i, j, rfl, rfl, q⟩
  | ge =>
    cases d <;> cases e <;> simp only [cmpD, reduceCtorEq] at hf
    rename_i i j
    cases hx.intV; cases hy.intV
    cases Option.some.inj hf
    exact op_ge pins s σ H _ _ v u Q I rx ry ⟨i, j, rfl, rfl, q⟩
  | isin =>
    cases e with
    | list ds =>
      simp only [cmpD, isIn] at hf
      split at hf
      · rename_i hs
        rw [Bool.and_eq_true] at hs
        cases Option.some.inj hf
        exact op_inD hu pins s σ H x y v u Q I rx ry ⟨d, ds, hx.dp (SeqAt.canLay_of_shaped hs.1), hy.dp (SeqAt.canLay_of_shaped hs.2), hs.1, hs.2, q⟩
      · cases hf
    | tuple ds =>
      simp only [cmpD, isIn] at hf
      split at hf
      · rename_i hs
        rw [Bool.and_eq_true] at hs
        cases Option.some.inj hf
        obtain ⟨as, r1⟩ := Dp.reads I _ x v (hx.dp (SeqAt.canLay_of_shaped hs.1)) rx
        obtain ⟨bs, r2⟩ := Dp.reads I _ y u (hy.dp (SeqAt.canLay_of_shaped hs.2)) ry
        exact SeqAt.in_tuple_reads r2 r1 (shaped_tuple hs.2) (SeqAt.canLay_of_shaped hs.1) (room_in_shaped hs.1 hu) (fin q)
      · cases hf
    | dict kvs =>
      simp only [cmpD, isIn] at hf
      split at hf
      · rename_i kvs' i ht
        cases Option.some.inj hf
        obtain ⟨a, ks, ds, rfl, h1, h2, h3, h4, rfl⟩ := hy.tab ht
        cases hx.intV
        have g := dget_int i h1
        cases (show u = Value.ref a from ry)
        refine d_in (by omega) I g rx fun s' I' => ⟨.bl _, H, I', rfl, ?_⟩
        rcases look_int i h4 with ⟨e1, e2⟩ | ⟨d, v, e1, e2, _⟩
        · rw [e1] at q; rw [e2]; exact q
        · rw [e1] at q; rw [e2]; exact q
      · cases hf
    | _ => simp [cmpD, isIn] at hf
  | notin =>
    obtain ⟨b, hf', e0⟩ := Option.map_eq_some_iff.mp hf
    clear hf
    have hf : isIn d e = some b := hf'
    clear hf'
    subst e0
    cases e with
    | list ds =>
      simp only [isIn] at hf
      split at hf
      · rename_i hs
        rw [Bool.and_eq_true] at hs
        cases Option.some.inj hf
        exact op_notInD hu pins s σ H x y v u Q I rx ry ⟨d, ds, hx.dp (SeqAt.canLay_of_shaped hs.1), hy.dp (SeqAt.canLay_of_shaped hs.2), hs.1, hs.2, q⟩
      · cases hf
    | tuple ds =>
      simp only [isIn] at hf
      split at hf
      · rename_i hs
        rw [Bool.and_eq_true] at hs
        cases Option.some.inj hf
        obtain ⟨as, r1⟩ := Dp.reads I _ x v (hx.dp (SeqAt.canLay_of_shaped hs.1)) rx
        obtain ⟨bs, r2⟩ := Dp.reads I _ y u (hy.dp (SeqAt.canLay_of_shaped hs.2)) ry
        exact SeqAt.notIn_tuple_reads r2 r1 (shaped_tuple hs.2) (SeqAt.canLay_of_shaped hs.1) (room_in_shaped hs.1 hu) (fin q)
      · cases hf
    | dict kvs =>
      simp only [isIn] at hf
      split at hf
      · rename_i kvs' i ht
        cases Option.some.inj hf
        obtain ⟨a, ks, ds, rfl, h1, h2, h3, h4, rfl⟩ := hy.tab ht
        cases hx.intV
        have g := dget_int i h1
        cases (show u = Value.ref a from ry)
        refine d_notIn (by omega) I g rx fun s' I' => ⟨.bl _, H, I', rfl, ?_⟩
        rcases look_int i h4 with ⟨e1, e2⟩ | ⟨d, v, e1, e2, _⟩
        · rw [e1] at q; rw [e2]; exact q
        · rw [e1] at q; rw [e2]; exact q
      · cases hf
    | _ => simp [isIn] at hf
  | is_ =>
    by_cases hb : ∃ a b, d = .bool a ∧ e = .bool b
    · obtain ⟨a, b, rfl, rfl⟩ := hb
      cases hx.blV; cases hy.blV
      cases Option.some.inj hf
      exact op_isBl pins s σ H _ _ v u Q I rx ry ⟨a, b, rfl, rfl, q⟩
    · have he : e = .none := by
        cases d <;> cases e <;> simp [cmpD] at hf <;> first | rfl | exact absurd ⟨_, _, rfl, rfl⟩ hb
      subst he
      cases hy.nonV
      have e1 : r = decide (x = .non) := by
        cases d with
        | none => cases hx.nonV; simpa [cmpD] using hf.symm
        | bool b => cases hx.blV; simpa [cmpD] using hf.symm
        | int b => cases hx.intV; simpa [cmpD] using hf.symm
        | str b => cases hx.strV.1; simpa [cmpD] using hf.symm
        | list b => obtain ⟨a, xs, rfl, _⟩ := hx.list; simpa [cmpD] using hf.symm
        | tuple b => obtain ⟨a, xs, rfl, _⟩ := hx.tuple; simpa [cmpD] using hf.symm
        | dict b => obtain ⟨a, rfl⟩ := hx.dictV; simpa [cmpD] using hf.symm
      subst e1
      exact op_isN pins s σ H _ _ v u Q I rx ry ⟨rfl, q⟩
  | isnot =>
    by_cases hb : ∃ a b, d = .bool a ∧ e = .bool b
    · obtain ⟨a, b, rfl, rfl⟩ := hb
      cases hx.blV; cases hy.blV
      cases Option.some.inj hf
      exact op_notBl pins s σ H _ _ v u Q I rx ry ⟨a, b, rfl, rfl, q⟩
    · have he : e = .none := by
        cases d <;> cases e <;> simp [cmpD] at hf <;> first | rfl | exact absurd ⟨_, _, rfl, rfl⟩ hb
      subst he
      cases hy.nonV
      have e1 : r = !decide (x = .non) := by
        cases d with
        | none => cases hx.nonV; simpa [cmpD] using hf.symm
        | bool b => cases hx.blV; simpa [cmpD] using hf.symm
        | int b => cases hx.intV; simpa [cmpD] using hf.symm
        | str b => cases hx.strV.1; simpa [cmpD] using hf.symm
        | list b => obtain ⟨a, xs, rfl, _⟩ := hx.list; simpa [cmpD] using hf.symm
        | tuple b => obtain ⟨a, xs, rfl, _⟩ := hx.tuple; simpa [cmpD] using hf.symm
        | dict b => obtain ⟨a, rfl⟩ := hx.dictV; simpa [cmpD] using hf.symm
      subst e1
      exact op_notN pins s σ H _ _ v u Q I rx ry ⟨rfl, q⟩
end
end Dv

/-! Dv7: subscripts and slices, by data. -/
namespace Dv
open PySem PySem.Spec PyProof.Rows L2

section
variable {K : PySem.W.Frag} {pc ps : Addr} {B : Addr → Prop} {H : Hp} {S : Sc}
theorem ix_rp {xs : List V} {ds : List D} {i : Int} {d : D} (r : RpAll K pc H B xs ds) (h : atI ds i = some d) : ∃ v, atI xs i = some v ∧ Rp K pc H B v d := by
  unfold atI at h ⊢
  rw [r.length]
  obtain ⟨j, h1, h2⟩ := Option.bind_eq_some_iff.mp h
  obtain ⟨v, h3, h4⟩ := r.get h2
  exact ⟨v, by rw [h1]; exact h3, h4⟩
theorem cut_rp {xs : List V} {ds : List D} {lo hi : Option Int} (r : RpAll K pc H B xs ds) : RpAll K pc H B (cutV xs lo hi) (cutD ds lo hi) := by
  unfold cutV cutD
  rw [r.length]
  exact (r.drop _).take _
theorem ints_rp (B : Addr → Prop) (H : Hp) : ∀ ns : List Int, RpAll K pc H B (ns.map V.int) (ns.map PyData.int)
  | [] => .nil
  | n :: ns => .cons (.int n) (ints_rp B H ns)
end
def rIxD (K : PySem.W.Frag) (pc ps : Addr) : R2 := fun x y H Q => ∃ B d e r S, Src pc ps H S ∧ ¬ B ps ∧ RpT K pc H B x d ∧ Rp K pc H B y e ∧ idxD S d e = some r ∧ ∀ v, Rp K pc H B v r → Q v H
section
variable {X : Cx} {pc ps : Addr}
theorem ix_dict (hu : X.A.units + 1 < cLine) : IxR X (fun x y H Q => ∃ a v, x = .ref a ∧ DGet H a y (some v) ∧ Q v H) := by
  intro value slice pins s σ H x y v u Q I rx ry h hs
  obtain ⟨a, z, rfl, g, q⟩ := h
  cases (show v = Value.ref a from rx)
  exact tail_any (dict_typeIs I g) PySem.F.slot_dict_getitem.lookup (d_getItem hu I g ry fun w' s3 I3 rw' => ⟨z, H, I3, rw', q⟩) hs
theorem ix_data (hu : X.A.units + 1 < cLine) : IxR X (rIxD X.K pc ps) := by
  intro value slice pins s σ H x y v u Q I rx ry h hs
  obtain ⟨B, d, e, r, S, src, nb, hx, hy, hf, q⟩ := h
  cases d with
  | list ds =>
    cases e <;> simp only [idxD, reduceCtorEq] at hf
    cases hy
    obtain ⟨a, xs, rfl, ha, _, hz, ra⟩ := hx.list
    obtain ⟨w, h1, h2⟩ := ix_rp ra hf
    exact ix_list value slice pins s σ H _ _ v u Q I rx ry ⟨a, xs, _, w, rfl, rfl, SqL.of ha, h1, q _ h2⟩ hs
  | tuple ds =>
    cases e <;> simp only [idxD, reduceCtorEq] at hf
    cases hy
    obtain ⟨a, xs, rfl, ha, hz, ra⟩ := hx.tuple
    obtain ⟨w, h1, h2⟩ := ix_rp ra hf
    exact ix_tup value slice pins s σ H _ _ v u Q I rx ry ⟨a, xs, _, w, rfl, rfl, ha.sq, h1, q _ h2⟩ hs
  | dict kvs =>
    cases e <;> simp only [idxD, reduceCtorEq] at hf
    rename_i i
    cases hy
    split at hf
    · rename_i ht
      have e1 : PyData.dict kvs = Dv.cel := by
        unfold tabD at ht
        split at ht
        · rename_i e; exact e
        · cases ht
        · rename_i h1 h2; exact absurd rfl (h2 kvs)
      rw [e1] at hx
      cases hx.celV
      split at hf
      · rename_i e0
        subst e0
        cases Option.some.inj hf
        refine ix_list value slice pins s σ H _ _ v u Q I rx ry ⟨pc, _, 0, .ref ps, rfl, rfl, SqL.of src.top, atI_nat (j := 0) rfl, q _ ?_⟩ hs
        exact .lst src.scr src.ne nb (by rw [List.length_map]; exact src.line) (ints_rp _ _ _)
      · split at hf
        · rename_i e0 e2
          obtain ⟨z, h1, h2⟩ := Option.map_eq_some_iff.mp hf
          subst h2
          refine ix_list value slice pins s σ H _ _ v u Q I rx ry ⟨pc, _, i, .int z, rfl, rfl, SqL.of src.top, ?_, q _ (.int z)⟩ hs
          have e3 : i = (((i - 1).toNat + 1 : Nat) : Int) := by omega
          rw [e3]
          refine atI_nat ?_
          rw [List.getElem?_cons_succ, List.getElem?_map, h1]
          rfl
        · cases hf
    · rename_i kvs' ht
      obtain ⟨a, ks, ds, rfl, h1, h2, h3, h4, rfl⟩ := hx.tab ht
      rcases look_int i h4 with ⟨e1, e2⟩ | ⟨d, w, e1, e2, e3⟩
      · rw [e1] at hf; cases hf
      · rw [e1] at hf
        cases Option.some.inj hf
        have g := dget_int i h1
        rw [e2] at g
        exact ix_dict hu value slice pins s σ H _ _ v u Q I rx ry ⟨a, w, rfl, g, q _ e3⟩ hs
  | _ => cases e <;> simp [idxD] at hf

def rSlD (K : PySem.W.Frag) (pc ps : Addr) : V → Option Int → Option Int → Hp → VK → Prop := fun x lo hi H Q => ∃ B d S, Trk H B ∧ Src pc ps H S ∧ RpT K pc H B x d ∧
  ((∃ ds, d = .list ds ∧ ∀ v H', Got K pc ps B H true (.list (cutD ds lo hi)) S v H' → Q v H') ∨ (∃ ds, d = .tuple ds ∧ ∀ v H', Got K pc ps B H false (.tuple (cutD ds lo hi)) S v H' → Q v H'))
theorem cut_whole {xs : List D} {lo hi : Option Int} (h : HT.sIx xs.length 0 lo = 0 ∧ HT.sIx xs.length xs.length hi = xs.length) : cutD xs lo hi = xs := by
  unfold cutD
  rw [h.1, h.2]
  simp
theorem sl_data : SlR X (rSlD X.K pc ps) := by
  intro pins s σ H x v vl vu lo hi sl Q I rx hs pl pu h
  obtain ⟨B, d, S, t, src, hx, h⟩ := h
  rcases h with ⟨ds, rfl, q⟩ | ⟨ds, rfl, q⟩
  · obtain ⟨a, xs, rfl, ha, _, hz, ra⟩ := hx.list
    exact sl_list pins s σ H _ v vl vu lo hi sl Q I rx hs pl pu ⟨a, xs, rfl, SqL.of ha, fun p hp => q _ _ (Got.lst src t hp (Nat.le_trans (cutV_length _ _ _) hz) (cut_rp ra))⟩
  · obtain ⟨a, xs, rfl, ha, hz, ra⟩ := hx.tuple
    cases (show v = Value.ref a from rx)
    obtain ⟨its, r, ht, _⟩ := I.tuple ha.sq
    have hlen : its.toArray.size = xs.length := by rw [List.size_toArray]; exact r.length.symm
    refine ⟨"tuple", _, PyProof.Rows.slot_tuple_getitem.lookup, ht.typeIs, ?_⟩
    by_cases w : HT.sIx xs.length 0 lo = 0 ∧ HT.sIx xs.length xs.length hi = xs.length
    · refine getItem_tuple_whole ht hs pl pu (by rw [hlen]; exact w) ⟨.ref a, H, I, rfl, ?_⟩
      rw [ra.length] at w
      rw [cut_whole w] at q
      exact q _ _ (Got.same src (.tup ha hz ra))
    · refine HT.getItem_tuple_cut ht hs pl pu (by rw [hlen]; exact w) ?_ (by rw [hlen]; exact hz)
      rw [hlen]
      have nt : NewT (cutV xs lo hi) H Q := fun p o hp ho => q _ _ (Got.tup src hp ho (Nat.le_trans (cutV_length _ _ _) hz) (cut_rp ra))
      exact nt.here (t' := s.toks) I ((r.drop _).take _) (Nat.le_trans (cutV_length _ _ _) hz)
end
end Dv

/-! Dv8: the built-ins, by data. -/
namespace Dv
open PySem PySem.Spec PyProof.Rows L2

/-- arguments by data, tops allowed -/
inductive RpTs (K : PySem.W.Frag) (pc : Addr) (H : Hp) (B : Addr → Prop) : List V → List D → Prop
  | nil : RpTs K pc H B [] []
  | cons {v : V} {vs : List V} {d : D} {ds : List D} : RpT K pc H B v d → RpTs K pc H B vs ds → RpTs K pc H B (v :: vs) (d :: ds)
section
variable {K : PySem.W.Frag} {pc ps : Addr} {B : Addr → Prop} {H : Hp} {S : Sc}
theorem RpTs.one {vs : List V} {d : D} (h : RpTs K pc H B vs [d]) : ∃ v, vs = [v] ∧ RpT K pc H B v d := by
  cases h with
  | cons h t => cases t; exact ⟨_, rfl, h⟩
theorem RpTs.two {vs : List V} {d e : D} (h : RpTs K pc H B vs [d, e]) : ∃ v w, vs = [v, w] ∧ RpT K pc H B v d ∧ RpT K pc H B w e := by
  cases h with
  | cons h t => cases t with
    | cons h' t => cases t; exact ⟨_, _, rfl, h, h'⟩
theorem bools_of : ∀ {xs : List V} {ds : List D} {bs : List Bool}, RpAll K pc H B xs ds → boolsD ds = some bs → xs = bs.map V.bl
  | _, [], bs, r, h => by cases r; cases Option.some.inj h; rfl
  | _, d :: ds, bs, r, h => by
    cases r with
    | cons r t =>
      cases d <;> simp only [boolsD, reduceCtorEq] at h
      obtain ⟨cs, h1, rfl⟩ := Option.map_eq_some_iff.mp h
      cases r
      rw [List.map_cons, ← bools_of t h1]
theorem ints_of : ∀ {xs : List V} {ds : List D} {ns : List Int}, RpAll K pc H B xs ds → intsD ds = some ns → xs = ns.map V.int
  | _, [], bs, r, h => by cases r; cases Option.some.inj h; rfl
  | _, d :: ds, bs, r, h => by
    cases r with
    | cons r t =>
      cases d <;> simp only [intsD, reduceCtorEq] at h
      obtain ⟨cs, h1, rfl⟩ := Option.map_eq_some_iff.mp h
      cases r
      rw [List.map_cons, ← ints_of t h1]
theorem min_of {ns : List Int} {m : Int} (h : ns.min? = some m) : 0 < ns.length ∧ ∀ k, k ∈ ns → (∀ y ∈ ns, k ≤ y) → k = m := by
  have h1 := (List.min?_eq_some_iff (α := Int)).mp h
  refine ⟨List.length_pos_of_mem h1.1, fun k hk hy => ?_⟩
  have a := hy m h1.1
  have b := h1.2 k hk
  omega
theorem max_of {ns : List Int} {m : Int} (h : ns.max? = some m) : 0 < ns.length ∧ ∀ k, k ∈ ns → (∀ y ∈ ns, y ≤ k) → k = m := by
  have h1 := (List.max?_eq_some_iff (α := Int)).mp h
  refine ⟨List.length_pos_of_mem h1.1, fun k hk hy => ?_⟩
  have a := hy m h1.1
  have b := h1.2 k hk
  omega
end
def newB : Blt → Bool
  | .list => true
  | .sorted => true
  | .sset => true
  | .lrange => true
  | .dict => true
  | _ => false
/-- a built-in's call by data -/
def rBl (K : PySem.W.Frag) (pc ps : Addr) (b : Blt) : List V → Hp → VK → Prop := fun vs H Q => ∃ B ds r S, Trk H B ∧ Src pc ps H S ∧ RpTs K pc H B vs ds ∧ bltD b ds = some r ∧ ∀ v H', Got K pc ps B H (newB b) r S v H' → Q v H'
section
variable {X : Cx} {pc ps : Addr}
theorem c_len : CallR X (.builtin "len") (rBl X.K pc ps .len) := by
  intro pins s σ H vs us Q I r h
  obtain ⟨B, ds, d, S, t, src, hv, hf, q⟩ := h
  have q' : ∀ n : Nat, d = .int n → Q (.int n) H := fun n e => by subst e; exact q _ _ (Got.same src (.int _))
  rcases ds with _ | ⟨x, _ | ⟨y, l⟩⟩
  · simp [bltD] at hf
  · obtain ⟨v, rfl, hx⟩ := hv.one
    cases x with
    | list xs =>
      obtain ⟨a, ys, rfl, ha, _, _, ra⟩ := hx.list
      refine call_len_seq pins s σ H _ us Q I r ⟨a, ys, rfl, .inl (SqL.of ha), ?_⟩
      rw [ra.length]
      exact q' _ (Option.some.inj hf).symm
    | tuple xs =>
      obtain ⟨a, ys, rfl, ha, _, ra⟩ := hx.tuple
      refine call_len_seq pins s σ H _ us Q I r ⟨a, ys, rfl, .inr ha.sq, ?_⟩
      rw [ra.length]
      exact q' _ (Option.some.inj hf).symm
    | str x =>
      obtain ⟨rfl, hl⟩ := hx.strV
      exact call_len_str pins s σ H _ us Q I r ⟨x, rfl, hl, q' _ (Option.some.inj hf).symm⟩
    | _ => simp [bltD] at hf
  · cases x <;> simp [bltD] at hf
theorem c_tuple : CallR X (.type "tuple") (rBl X.K pc ps .tuple) := by
  intro pins s σ H vs us Q I r h
  obtain ⟨B, ds, d, S, t, src, hv, hf, q⟩ := h
  rcases ds with _ | ⟨x, _ | ⟨y, l⟩⟩
  · simp [bltD] at hf
  · obtain ⟨v, rfl, hx⟩ := hv.one
    cases x with
    | list xs =>
      obtain ⟨a, ys, rfl, ha, _, hz, ra⟩ := hx.list
      cases Option.some.inj hf
      obtain ⟨u, rfl, rx⟩ := vals1 r
      cases (show u = Value.ref a from rx)
      obtain ⟨its, rv, pl, _⟩ := I.list (SqL.of ha)
      have nt : NewT ys H Q := fun p o hp ho => q _ _ (Got.tup src hp ho hz ra)
      refine call_tuple_list pl.isList (fun h' kp => ?_) (by rw [List.size_toArray, ← rv.length]; exact hz)
      exact nt.here (s := { s with heap := h' }) (t' := s.toks) (I.kept (t' := s.toks) kp) rv hz
    | tuple xs =>
      obtain ⟨a, ys, rfl, ha, hz, ra⟩ := hx.tuple
      cases Option.some.inj hf
      exact call_tuple_of pins s σ H _ us Q I r ⟨a, ys, rfl, .inr ⟨ha.sq, q _ _ (Got.same src (.tup ha hz ra))⟩⟩
    | _ => simp [bltD] at hf
  · cases x <;> simp [bltD] at hf
theorem c_list : CallR X (.type "list") (rBl X.K pc ps .list) := by
  intro pins s σ H vs us Q I r h
  obtain ⟨B, ds, d, S, t, src, hv, hf, q⟩ := h
  rcases ds with _ | ⟨x, _ | ⟨y, l⟩⟩
  · simp [bltD] at hf
  · obtain ⟨v, rfl, hx⟩ := hv.one
    cases x with
    | list xs =>
      obtain ⟨a, ys, rfl, ha, _, hz, ra⟩ := hx.list
      cases Option.some.inj hf
      exact call_list_of pins s σ H _ us Q I r ⟨a, ys, rfl, .inl (SqL.of ha), fun p hp => q _ _ (Got.lst src t hp hz ra)⟩
    | tuple xs =>
      obtain ⟨a, ys, rfl, ha, hz, ra⟩ := hx.tuple
      cases Option.some.inj hf
      exact call_list_of pins s σ H _ us Q I r ⟨a, ys, rfl, .inr ha.sq, fun p hp => q _ _ (Got.lst src t hp hz ra)⟩
    | _ => simp [bltD] at hf
  · cases x <;> simp [bltD] at hf
theorem c_all (hc : X.calm = true) : CallR X (.builtin "all") (rBl X.K pc ps .all) := by
  intro pins s σ H vs us Q I r h
  obtain ⟨B, ds, d, S, t, src, hv, hf, q⟩ := h
  rcases ds with _ | ⟨x, _ | ⟨y, l⟩⟩
  · simp [bltD] at hf
  · obtain ⟨v, rfl, hx⟩ := hv.one
    cases x with
    | list xs =>
      obtain ⟨a, ys, rfl, ha, _, hz, ra⟩ := hx.list
      obtain ⟨bs, h1, rfl⟩ := Option.map_eq_some_iff.mp hf
      cases bools_of ra h1
      exact cr_all hc pins s σ H _ us Q I r ⟨a, bs, rfl, SqL.of ha, q _ _ (Got.same src (.bl _))⟩
    | _ => simp [bltD] at hf
  · cases x <;> simp [bltD] at hf
theorem c_any (hc : X.calm = true) : CallR X (.builtin "any") (rBl X.K pc ps .any) := by
  intro pins s σ H vs us Q I r h
  obtain ⟨B, ds, d, S, t, src, hv, hf, q⟩ := h
  rcases ds with _ | ⟨x, _ | ⟨y, l⟩⟩
  · simp [bltD] at hf
  · obtain ⟨v, rfl, hx⟩ := hv.one
    cases x with
    | list xs =>
      obtain ⟨a, ys, rfl, ha, _, hz, ra⟩ := hx.list
      obtain ⟨bs, h1, rfl⟩ := Option.map_eq_some_iff.mp hf
      cases bools_of ra h1
      exact cr_any hc pins s σ H _ us Q I r ⟨a, bs, rfl, SqL.of ha, q _ _ (Got.same src (.bl _))⟩
    | _ => simp [bltD] at hf
  · cases x <;> simp [bltD] at hf
theorem c_sum (hc : X.calm = true) : CallR X (.builtin "sum") (rBl X.K pc ps .sum) := by
  intro pins s σ H vs us Q I r h
  obtain ⟨B, ds, d, S, t, src, hv, hf, q⟩ := h
  rcases ds with _ | ⟨x, _ | ⟨y, l⟩⟩
  · simp [bltD] at hf
  · obtain ⟨v, rfl, hx⟩ := hv.one
    cases x with
    | list xs =>
      obtain ⟨a, ys, rfl, ha, _, hz, ra⟩ := hx.list
      obtain ⟨bs, h1, rfl⟩ := Option.map_eq_some_iff.mp hf
      cases ints_of ra h1
      exact cr_sum hc pins s σ H _ us Q I r ⟨a, bs, rfl, SqL.of ha, q _ _ (Got.same src (.int _))⟩
    | _ => simp [bltD] at hf
  · cases x <;> simp [bltD] at hf
/-- min, max of a list, of two -/
def rBl2 (K : PySem.W.Frag) (pc ps : Addr) (b c : Blt) : List V → Hp → VK → Prop := fun xs H Q => rBl K pc ps b xs H Q ∨ rBl K pc ps c xs H Q
theorem c_min (hc : X.calm = true) : CallR X (.builtin "min") (rBl X.K pc ps .min) := by
  intro pins s σ H vs us Q I r h
  obtain ⟨B, ds, d, S, t, src, hv, hf, q⟩ := h
  rcases ds with _ | ⟨x, _ | ⟨y, l⟩⟩
  · simp [bltD] at hf
  · obtain ⟨v, rfl, hx⟩ := hv.one
    cases x with
    | list xs =>
      obtain ⟨a, ys, rfl, ha, _, hz, ra⟩ := hx.list
      obtain ⟨ns, h1, h2⟩ := Option.bind_eq_some_iff.mp hf
      obtain ⟨m, h3, rfl⟩ := Option.map_eq_some_iff.mp h2
      cases ints_of ra h1
      obtain ⟨h4, h5⟩ := min_of h3
      refine cr_min hc pins s σ H _ us Q I r ⟨a, ns, rfl, SqL.of ha, h4, fun k hk hy => ?_⟩
      rw [h5 k hk hy]
      exact q _ _ (Got.same src (.int _))
    | _ => simp [bltD] at hf
  · cases x <;> simp [bltD] at hf
theorem c_max (hc : X.calm = true) : CallR X (.builtin "max") (rBl X.K pc ps .max) := by
  intro pins s σ H vs us Q I r h
  obtain ⟨B, ds, d, S, t, src, hv, hf, q⟩ := h
  rcases ds with _ | ⟨x, _ | ⟨y, l⟩⟩
  · simp [bltD] at hf
  · obtain ⟨v, rfl, hx⟩ := hv.one
    cases x with
    | list xs =>
      obtain ⟨a, ys, rfl, ha, _, hz, ra⟩ := hx.list
      obtain ⟨ns, h1, h2⟩ := Option.bind_eq_some_iff.mp hf
      obtain ⟨m, h3, rfl⟩ := Option.map_eq_some_iff.mp h2
      cases ints_of ra h1
      obtain ⟨h4, h5⟩ := max_of h3
      refine cr_max hc pins s σ H _ us Q I r ⟨a, ns, rfl, SqL.of ha, h4, fun k hk hy => ?_⟩
      rw [h5 k hk hy]
      exact q _ _ (Got.same src (.int _))
    | _ => simp [bltD] at hf
  · cases x <;> simp [bltD] at hf
theorem c_two (b : Blt) (g : Int → Int → Int) {ds : List D} {d : D} (hb : b = .max2 ∧ g = (fun i j => if j > i then j else i) ∨ b = .min2 ∧ g = (fun i j => if j < i then j else i)) (hf : bltD b ds = some d) : ∃ i j, ds = [.int i, .int j] ∧ d = .int (g i j) := by
  rcases hb with ⟨rfl, rfl⟩ | ⟨rfl, rfl⟩
  all_goals
    rcases ds with _ | ⟨x, _ | ⟨y, _ | ⟨z, l⟩⟩⟩
    · simp [bltD] at hf
    · cases x <;> simp [bltD] at hf
    · cases x <;> cases y <;> simp only [bltD, reduceCtorEq] at hf
      exact ⟨_, _, rfl, (Option.some.inj hf).symm⟩
    · cases x <;> cases y <;> simp [bltD] at hf
theorem c_max2 (hc : X.calm = true) : CallR X (.builtin "max") (rBl X.K pc ps .max2) := by
  intro pins s σ H vs us Q I r h
  obtain ⟨B, ds, d, S, t, src, hv, hf, q⟩ := h
  obtain ⟨i, j, rfl, rfl⟩ := c_two .max2 _ (.inl ⟨rfl, rfl⟩) hf
  obtain ⟨v, w, rfl, h1, h2⟩ := hv.two
  cases h1.intV; cases h2.intV
  exact call_max2 hc pins s σ H _ us Q I r ⟨i, j, rfl, q _ _ (Got.same src (.int _))⟩
theorem c_min2 (hc : X.calm = true) : CallR X (.builtin "min") (rBl X.K pc ps .min2) := by
  intro pins s σ H vs us Q I r h
  obtain ⟨B, ds, d, S, t, src, hv, hf, q⟩ := h
  obtain ⟨i, j, rfl, rfl⟩ := c_two .min2 _ (.inr ⟨rfl, rfl⟩) hf
  obtain ⟨v, w, rfl, h1, h2⟩ := hv.two
  cases h1.intV; cases h2.intV
  exact call_min2 hc pins s σ H _ us Q I r ⟨i, j, rfl, q _ _ (Got.same src (.int _))⟩
theorem c_int : CallR X (.type "int") (rBl X.K pc ps .int) := by
  intro pins s σ H vs us Q I r h
  obtain ⟨B, ds, d, S, t, src, hv, hf, q⟩ := h
  rcases ds with _ | ⟨x, _ | ⟨y, l⟩⟩
  · simp [bltD] at hf
  · obtain ⟨v, rfl, hx⟩ := hv.one
    cases x with
    | int i =>
      cases hx.intV
      cases Option.some.inj hf
      exact call_int1 pins s σ H _ us Q I r (.inl ⟨i, rfl, q _ _ (Got.same src (.int _))⟩)
    | bool i =>
      cases hx.blV
      cases Option.some.inj hf
      exact call_int1 pins s σ H _ us Q I r (.inr ⟨i, rfl, q _ _ (Got.same src (.int _))⟩)
    | _ => simp [bltD] at hf
  · cases x <;> simp [bltD] at hf
theorem c_abs : CallR X (.builtin "abs") (rBl X.K pc ps .abs) := by
  intro pins s σ H vs us Q I r h
  obtain ⟨B, ds, d, S, t, src, hv, hf, q⟩ := h
  rcases ds with _ | ⟨x, _ | ⟨y, l⟩⟩
  · simp [bltD] at hf
  · obtain ⟨v, rfl, hx⟩ := hv.one
    cases x with
    | int i =>
      cases hx.intV
      cases Option.some.inj hf
      exact call_abs pins s σ H _ us Q I r ⟨i, rfl, q _ _ (Got.same src (.int _))⟩
    | _ => simp [bltD] at hf
  · cases x <;> simp [bltD] at hf
theorem c_gcd : CallR X (.builtin "math.gcd") (rBl X.K pc ps .gcd) := by
  intro pins s σ H vs us Q I r h
  obtain ⟨B, ds, d, S, t, src, hv, hf, q⟩ := h
  have e : ∃ i j, ds = [.int i, .int j] ∧ d = .int ((Nat.gcd i.natAbs j.natAbs : Nat) : Int) := by
    rcases ds with _ | ⟨x, _ | ⟨y, _ | ⟨z, l⟩⟩⟩
    · simp [bltD] at hf
    · cases x <;> simp [bltD] at hf
    · cases x <;> cases y <;> simp only [bltD, reduceCtorEq] at hf
      exact ⟨_, _, rfl, (Option.some.inj hf).symm⟩
    · cases x <;> cases y <;> simp [bltD] at hf
  obtain ⟨i, j, rfl, rfl⟩ := e
  obtain ⟨v, w, rfl, h1, h2⟩ := hv.two
  cases h1.intV; cases h2.intV
  exact cr_gcd pins s σ H _ us Q I r ⟨i, j, rfl, q _ _ (Got.same src (.int _))⟩
end
end Dv

/-! Dv9: sorted(x), by data. -/
namespace Dv
open PySem PySem.Spec PyProof.Rows L2

section
variable {prog : Program} {w : World} {A : Around} {E : Value → Shared → Prop} {s : Shared}
/-- the first item of a tuple, or nothing -/
theorem first_tup {M : Model} {a : Addr} {o : Obj} {xs : Array Value} {n : Nat} {Q : Option Value → Shared → Prop} (ho : s.heap.get? a = some o) (hc : o.cls = .type "tuple") (hd : o.data = .seq xs n) (h : Q xs[0]? s) : wpAny M A (firstOfTuple' (.ref a)) Q E s := by
  rw [PySem.W.kas_first_eq]
  refine wpAny_bind ((show PySem.W.Looks M s.heap (typeOf (.ref a)) o.cls from (PySem.W.Looks.ld ho).andThen .now).here ?_)
  have e : (o.cls != Value.type "tuple") = false := by rw [hc]; decide
  rw [e]
  exact wpAny_bind (listItems_at ho hd (wpAny_pure h))
/-- a row of tuples -/
inductive Tups (h : Heap) : List Value → List (Option Value) → Prop
  | nil : Tups h [] []
  | cons {a : Addr} {o : Obj} {xs : Array Value} {n : Nat} {vs : List Value} {fs : List (Option Value)} : h.get? a = some o → o.cls = .type "tuple" → o.data = .seq xs n → Tups h vs fs → Tups h (.ref a :: vs) (xs[0]? :: fs)
theorem firsts_tup {M : Model} : ∀ {vs : List Value} {fs : List (Option Value)} {Q : List (Option Value) → Shared → Prop}, Tups s.heap vs fs → Q fs s → wpAny M A (vs.mapM firstOfTuple') Q E s
  | _, _, Q, .nil, h => by rw [List.mapM_nil]; exact wpAny_pure h
  | _, _, Q, .cons ho hc hd t, h => by
    rw [List.mapM_cons]
    exact wpAny_bind (first_tup ho hc hd (wpAny_bind (firsts_tup (Q := fun bs s' => wpAny M A (pure (_ :: bs)) Q E s') t (wpAny_pure h))))
theorem Tups.looks {M : Model} : ∀ {vs : List Value} {fs : List (Option Value)}, Tups s.heap vs fs → ∀ v ∈ vs, PySem.W.Looks M s.heap (typeOf v) (Value.type "tuple")
  | _, _, .nil, v, hv => by cases hv
  | _, _, .cons ho hc hd t, v, hv => by
    rcases List.mem_cons.mp hv with rfl | hv
    · rw [← hc]; exact (PySem.W.Looks.ld ho).andThen .now
    · exact Tups.looks t v hv
theorem kind_mixed {M : Model} {vs : List Value} {fs : List (Option Value)} (t : Tups s.heap vs fs) (hne : vs ≠ []) (hsome : fs.all (·.isSome) = false) :
    ∃ kd : SortKind, (kd = general' ∨ kd = oneType') ∧ ∀ (E : Value → Shared → Prop) {Q : SortKind → Shared → Prop}, Q kd s → wpAny M A (keyKind' vs.toArray) Q E s := by
  have go : ∀ kd : SortKind, (∀ (E : Value → Shared → Prop) {Q : SortKind → Shared → Prop}, Q kd s → wpAny M A (if (fs.toArray[0]?.bind id).isSome = true then pure general' else (do return if (← oneTypeOnly' vs.toArray).isSome then oneType' else general')) Q E s) →
      ∀ (E : Value → Shared → Prop) {Q : SortKind → Shared → Prop}, Q kd s → wpAny M A (keyKind' vs.toArray) Q E s := fun kd hk E Q hq => by
    rw [kat_kind_eq, List.mapM_toArray, map_eq_pure_bind]
    refine wpAny_bind (wpAny_bind (firsts_tup t (wpAny_pure ?_)))
    have e : (fs.toArray.all fun x => x.isSome) = false := by simpa using hsome
    rw [if_neg (by rw [e]; exact Bool.false_ne_true)]
    have := hk E hq
    split
    · rename_i h; rw [if_pos h] at this; exact this
    · rename_i h; rw [if_neg h] at this; exact this
  by_cases h0 : (fs.toArray[0]?.bind id).isSome = true
  · exact ⟨general', .inl rfl, go _ fun E Q hq => by rw [if_pos h0]; exact wpAny_pure hq⟩
  · refine ⟨oneType', .inr rfl, go _ fun E Q hq => ?_⟩
    rw [if_neg h0, oneTypeOnly'_eq, List.mapM_toArray, map_eq_pure_bind]
    refine wpAny_bind (wpAny_bind (wpAny_bind (PySem.W.kas_mapM (r := Value.type "tuple") _ (fun v hv Q' hq => (t.looks v hv).here hq) (wpAny_pure ?_))))
    have hall : ((vs.map fun _ => Value.type "tuple").toArray.all fun x => x == Value.type "tuple") = true := by
      simp only [List.all_toArray, List.all_map, List.all_eq_true]
      intro _ _
      rfl
    have h1 : (vs.map fun _ => Value.type "tuple").toArray[0]? = some (Value.type "tuple") := by
      cases vs with
      | nil => exact absurd rfl hne
      | cons v r => rfl
    rw [h1]
    simp only [hall, if_true]
    exact wpAny_pure (wpAny_pure hq)
theorem call_tuple_lt' {Q : Value → Shared → Prop} {l b : Addr} {items items2 : Array Value} {e r : Nat → Bool} (hl : s.heap.IsTuple l items) (hb : s.heap.IsTuple b items2)
    (he : ∀ j (h1 : j < items.size) (h2 : j < items2.size), SeqAt.EqAt A.in1 s items[j] items2[j] (e j)) (hr : ∀ j (h1 : j < items.size) (h2 : j < items2.size), e j = false → SeqAt.RcLt A.in1 s items[j] items2[j] (r j))
    (h : Q (.bool (SeqAt.firstLt e r (decide (items.size < items2.size)) (List.range (min items.size items2.size)))) s) : wpAny (model prog w) A (call (.builtin "tuple.__lt__") [.ref l, .ref b]) Q E s := by
  obtain ⟨o1, ho, hc, n, hd⟩ := hl
  obtain ⟨o2, ho2, hc2, n2, hd2⟩ := hb
  obtain ⟨c1, d1, t1, l1⟩ := o1
  obtain ⟨c2, d2, t2, l2⟩ := o2
  cases hc; cases hd; cases hc2; cases hd2
  exact call_meets F.slot_tuple_lt ⟨_, ho, rfl⟩ F.entry_tuple_lt (F.args_tuple_lt_2 _ _) (SeqAt.tuple_ltAt l b items items2 n n2 d1 d2 l1 l2 e r) ⟨ho, ho2, he, hr, h⟩
/-- one tuple against another, all keys being tuples -/
theorem oneLt_tup {xs ys : List D} {a b : Value} {as bs : List Addr} {Q : Bool → Shared → Prop} (ra : Reads s.heap a (.tuple xs) as) (rb : Reads s.heap b (.tuple ys) bs) (h : PySem.W.alikeAll xs ys = true)
    (hu : A.units + min (PyData.tuple xs).depth (PyData.tuple ys).depth < cLine) (hq : Q (PySem.W.dataLt (.tuple xs) (.tuple ys)) s) : wpAny (model prog w) A (oneLt' true a b) Q E s := by
  cases ra with
  | @tuple l o vs n _ as₁ h1 h2 h3 h4 =>
    cases rb with
    | @tuple l' o' vs' n' _ bs₁ k1 k2 k3 k4 =>
      have n1 : vs.size = xs.length := by simpa using SeqAt.ReadsAll.length _ _ _ h4
      have n2 : vs'.size = ys.length := by simpa using SeqAt.ReadsAll.length _ _ _ k4
      rw [PySem.W.dataLt_tuple, ← PySem.W.firstLt_toks xs ys h, ← n1, ← n2] at hq
      rw [oneLt'_eq]
      simp only [if_true]
      refine wpAny_bind (wpAny_cRoomFor (SeqAt.room_here hu) ?_)
      refine wpAny_bind (wpAny_callSpecialIfBound?_slot (T := "tuple") ⟨_, h1, h2⟩ F.slot_tuple_lt (call_tuple_lt' (e := SeqAt.pairEq xs ys) (r := fun j => PySem.W.dataLt (xs.getD j .none) (ys.getD j .none)) ⟨_, h1, h2, _, h3⟩ ⟨_, k1, k2, _, k3⟩ (fun j j1 j2 => ?_) (fun j j1 j2 hj => ?_) ?_))
      · have z := PySem.W.eqAt_alikeAll xs ys A.in1 s vs.toList vs'.toList _ _ h4 k4 h (SeqAt.room_in hu) j (by simpa using j1) (by simpa using j2)
        simp only [Array.getElem_toList] at z
        exact z
      · have z := PySem.W.rcLt_alikeAll xs ys A.in1 s vs.toList vs'.toList _ _ h4 k4 h (SeqAt.room_in hu) j (by simpa using j1) (by simpa using j2) hj
        simp only [Array.getElem_toList] at z
        exact z
      · exact wpAny_truthy_bool hq
end
/-- one kind of data -/
def oneKind (ds : List D) : Prop := (∀ d ∈ ds, ∃ xs, d = .tuple xs) ∨ ∀ d ∈ ds, d ≠ .none ∧ ∀ xs, d ≠ .tuple xs
section
variable {prog : Program} {w : World} {A : Around} {E : Value → Shared → Prop} {s : Shared}
theorem tups_of {h : Heap} : ∀ {vs : List Value} {ds : List D}, PySem.W.EachIs (fun v d => ∃ as, Reads h v d as) vs ds → (∀ d ∈ ds, ∃ xs, d = .tuple xs) →
    ∃ fs, Tups h vs fs ∧ (fs.all (·.isSome) = true → ∀ d ∈ ds, ∃ x r, d = .tuple (x :: r))
  | _, _, .nil, _ => ⟨[], .nil, fun _ d hd => by cases hd⟩
  | _, _, .cons (b := d) ⟨as, r⟩ t, ht => by
    obtain ⟨fs, h1, h2⟩ := tups_of t fun d hd => ht d (List.mem_cons_of_mem _ hd)
    obtain ⟨xs, rfl⟩ := ht d List.mem_cons_self
    cases r with
    | @tuple a o vs n _ _ ho hc hd hr =>
      refine ⟨_, .cons ho hc hd h1, fun hs d hm => ?_⟩
      rw [List.all_cons, Bool.and_eq_true] at hs
      rcases List.mem_cons.mp hm with rfl | hm
      · cases xs with
        | cons x r => exact ⟨x, r, rfl⟩
        | nil =>
          have hl := SeqAt.ReadsAll.length _ _ _ hr
          have e : vs[0]? = none := by
            rw [Array.getElem?_eq_none_iff]
            simpa using hl
          rw [e] at hs
          exact absurd hs.1 (by simp)
      · exact h2 hs.2 d hm
theorem sortsAt {vs : List Value} {ds : List D} (e : PySem.W.EachIs (fun v d => ∃ as, Reads s.heap v d as) vs ds) (hal : PySem.W.AllAlike ds) (hk : oneKind ds) (hu : ∀ d, d ∈ ds → A.units + d.depth < cLine) : PySem.W.SortsAt prog w A s (PySem.W.dataKind s.heap ds) vs := by
  rcases hk with ht | hn
  · obtain ⟨fs, h1, h2⟩ := tups_of e ht
    cases hs : fs.all (·.isSome) with
    | true => exact PySem.W.SortsAt.data e hal (.inl (h2 hs)) hu
    | false =>
      have room : ∀ {d d' : D}, d ∈ ds → A.units + min d.depth d'.depth < cLine := fun {d d'} hd => Nat.lt_of_le_of_lt (Nat.add_le_add_left (Nat.min_le_left _ _) _) (hu d hd)
      have hne : vs ≠ [] := by
        rintro rfl
        cases h1
        simp at hs
      obtain ⟨kd, hkd, hk2⟩ := kind_mixed (A := A) (M := model prog w) h1 hne hs
      refine ⟨fun v hv => ?_, kd, fun E x y a b Q ha hb hq => ?_, fun _ E Q hq => hk2 E hq⟩
      · obtain ⟨d, hd, as, r⟩ := e.left v hv
        exact ⟨_, PySem.W.dataKind_some hal hd r⟩
      · obtain ⟨d, as, hd, ra, rfl⟩ := PySem.W.dataKind_inv ha
        obtain ⟨d', as', hd', rb, rfl⟩ := PySem.W.dataKind_inv hb
        have hdd := hal d hd d' hd'
        have hr := room (d' := d') hd
        obtain ⟨xs, rfl⟩ := ht d hd
        obtain ⟨ys, rfl⟩ := ht d' hd'
        rcases hkd with rfl | rfl
        · exact PySem.W.oneLt_alike (f := false) (fun z => nomatch z) ra rb hdd (fun z => nomatch z) hr hq
        · exact oneLt_tup ra rb (by simpa [PySem.W.alike] using hdd) hr hq
  · exact PySem.W.SortsAt.data e hal (.inr hn) hu
/-- a list's or a tuple's items in a new list -/
theorem collect_seq {l : Addr} {o : Obj} {vs : List Value} {n : Nat} {Q : List Value → Shared → Prop} (ho : s.heap.get? l = some o) (hc : o.cls = .type "list" ∨ o.cls = .type "tuple") (hd : o.data = .seq vs.toArray n) (hsz : vs.length ≤ sizeLine)
    (h : Q vs { s with heap := (s.heap.push (seqObj "list" #[] 0)).update s.heap.objs.size (Obj.mapSeq (· ++ vs.toArray)) }) : wpAny (model prog w) A (collect (.ref l)) Q E s := by
  rcases hc with hc | hc
  · exact collect_list ⟨o, ho, hc, n, hd⟩ h hsz
  · unfold collect
    refine wpAny_bind (wpAny_runValue (codeAny_builtin entry_proto_collect' ?_))
    show wpAny _ _ (newList [] >>= fun q => again (.builtin "list.__iadd__" ⟨[q, .ref l], []⟩)) _ _ s
    refine wpAny_bind (wpAny_newList (wpAny_pure ⟨Code.quiet_builtin _ (by decide +kernel), codeAny_builtin entry_list_iadd' ?_⟩))
    unfold Builtin.«list.__iadd__»
    show wpAny _ _ (Builtin.List.listExtendWith (.ref s.heap.objs.size) (.ref l) (.ref s.heap.objs.size)) _ _ { s with heap := s.heap.push (seqObj "list" #[] 0) }
    unfold Builtin.List.listExtendWith
    have h0 : (s.heap.push (seqObj "list" #[] 0)).get? l = some o := Heap.get?_push_of_some _ ho
    have h1 : (s.heap.push (seqObj "list" #[] 0)).get? s.heap.objs.size = some (seqObj "list" #[] 0) := Heap.get?_push_size _ rfl
    refine wpAny_bind (wpAny_typeOf (T := "tuple") ⟨o, h0, hc⟩ ?_)
    have ht : (Value.type "tuple" == Value.type "tuple") = true := by decide
    rw [if_pos (by rw [ht]; simp)]
    refine wpAny_bind (listItems_at h0 hd (wpAny_bind (listItems_at h1 rfl ?_)))
    rw [if_neg (by simp)]
    refine wpAny_bind (listUpdate_at h1 rfl ?_ (Nat.zero_le _) (by simp only [Array.size_append, List.size_toArray, List.length_nil, List.length]; simp; omega))
    refine wpAny_pure ?_
    have h2 := get?_update_seq h1 (fun x => x ++ vs.toArray)
    refine wpAny_bind (wpAny_load h2 ?_)
    have e : ((#[] : Array Value) ++ vs.toArray).toList = vs := by simp
    show wpAny _ _ (pure ((#[] : Array Value) ++ vs.toArray).toList) Q E _
    rw [e]
    exact wpAny_pure h
end
section
variable {prog : Program} {w : World} {A : Around} {E : Value → Shared → Prop} {s : Shared}
/-- sorted(x), x a list or a tuple -/
theorem sorted_seq {κ : PyProof.Rows.KeyKind} {l : Addr} {o : Obj} {vs : List Value} {n : Nat} {Q : Value → Shared → Prop} (ho : s.heap.get? l = some o) (hc : o.cls = .type "list" ∨ o.cls = .type "tuple") (hd : o.data = .seq vs.toArray n) (hL : vs.length ≤ sizeLine)
    (S : PySem.W.SortsAt prog w A.in1.in1 { s with heap := PySem.W.sortingHeap (PySem.W.copyHeap s.heap vs) (s.heap.objs.size + 1) vs } κ vs)
    (h : Q (.ref (s.heap.objs.size + 1)) { s with heap := sortedAll s.heap vs (PySem.W.sortVals κ false vs vs).toArray }) : wpAny (model prog w) A (call (.builtin "sorted") [.ref l]) Q E s := by
  refine Calls.call_function_entry kind_sorted plain_sorted entry_sorted (args_sorted1 _) ?_
  unfold Builtin.«sorted»
  refine wpAny_bind (m := checkCount "sorted" 1 1 _) (wpAny_pure ?_)
  refine wpAny_bind (collect_seq ho hc hd hL (wpAny_bind (wpAny_newList ?_ hL)))
  have hsz : ((s.heap.push (seqObj "list" #[] 0)).update s.heap.objs.size (Obj.mapSeq (· ++ vs.toArray))).objs.size = s.heap.objs.size + 1 := by
    rw [Heap.size_update, size_push']
  show wpAny _ _ _ _ _ { s with heap := PySem.W.copyHeap s.heap vs }
  rw [hsz]
  refine wpAny_bind (wpAny_holding (wpAny_call_entry slot_list_sort ⟨_, PySem.W.copyHeap_at s.heap vs, rfl⟩ entry_list_sort ?_ (args_list_sort _)))
  refine wpAny_mono (PySem.W.list_sort_vals (s := { s with heap := PySem.W.copyHeap s.heap vs }) (P := fun f s' => f = .done (.ret .none) ∧ Q (.ref (s.heap.objs.size + 1)) s') (PySem.W.copyHeap_at s.heap vs) S hL ⟨rfl, h⟩) (fun f s' hf => ?_) fun _ _ e => e
  obtain ⟨rfl, hq⟩ := hf
  exact ⟨_, rfl, wpAny_pure ⟨_, rfl, hq⟩⟩
end

section
variable {X : Cx} {pc ps : Addr}
/-- values with what they stand for -/
def Both (K : PySem.W.Frag) (pc : Addr) (H : Hp) (B : Addr → Prop) (u : Value) (d : D) : Prop := ∃ v, RelV v u ∧ Rp K pc H B v d
theorem both_of {H : Hp} {B : Addr → Prop} : ∀ {xs : List V} {us : List Value} {ds : List D}, Vals xs us → RpAll X.K pc H B xs ds → PySem.W.EachIs (Both X.K pc H B) us ds
  | _, _, _, .nil, .nil => .nil
  | _, _, _, .cons r t, .cons q l => .cons ⟨_, r, q⟩ (both_of t l)
theorem of_both {H : Hp} {B : Addr → Prop} : ∀ {us : List Value} {ds : List D}, PySem.W.EachIs (Both X.K pc H B) us ds → ∃ xs, Vals xs us ∧ RpAll X.K pc H B xs ds
  | _, _, .nil => ⟨[], .nil, .nil⟩
  | _, _, .cons ⟨v, r, q⟩ t => by
    obtain ⟨xs, h1, h2⟩ := of_both t
    exact ⟨v :: xs, .cons r h1, .cons q h2⟩
theorem both_reads {pins : List (Addr × Obj)} {σ : L2.St} {H : Hp} {s : Shared} {B : Addr → Prop} (I : Inv X pins σ H s) : ∀ {us : List Value} {ds : List D}, PySem.W.EachIs (Both X.K pc H B) us ds → (∀ d ∈ ds, SeqAt.shaped d = true) → PySem.W.EachIs (fun v d => ∃ as, Reads s.heap v d as) us ds
  | _, _, .nil, _ => .nil
  | _, d :: ds, .cons ⟨v, r, q⟩ t, hs => .cons (Dp.reads I _ v _ (q.dp (SeqAt.canLay_of_shaped (hs d List.mem_cons_self))) r) (both_reads I t fun e he => hs e (List.mem_cons_of_mem _ he))
theorem sort_kind {ds : List D} (h : sortOk ds = true) : PySem.W.AllAlike ds ∧ oneKind ds ∧ ∀ d ∈ ds, SeqAt.shaped d = true := by
  unfold sortOk at h
  rw [Bool.and_eq_true, Bool.and_eq_true, Bool.or_eq_true] at h
  obtain ⟨⟨h1, h2⟩, h3⟩ := h
  refine ⟨fun d hd e he => ?_, ?_, fun d hd => ?_⟩
  · unfold allAlike at h1
    rw [List.all_eq_true] at h1
    have := h1 d hd
    rw [List.all_eq_true] at this
    exact this e he
  · rcases h3 with h3 | h3
    · refine .inr fun d hd => ?_
      rw [List.all_eq_true] at h3
      have := h3 d hd
      cases d <;> simp at this ⊢
    · refine .inl fun d hd => ?_
      rw [List.all_eq_true] at h3
      have := h3 d hd
      cases d <;> simp at this ⊢
  · unfold depthOk at h2
    rw [List.all_eq_true] at h2
    exact h2 d hd
theorem c_sorted (hu : X.A.units + 80 < cLine) : CallR X (.builtin "sorted") (rBl X.K pc ps .sorted) := by
  intro pins s σ H vs us Q I r h
  obtain ⟨B, ds, d, S, t, src, hv, hf, q⟩ := h
  have main : ∀ {a : Addr} {o : Obj} {xs : List V} {its : List Value} {n : Nat} {es : List D}, s.heap.get? a = some o → (o.cls = .type "list" ∨ o.cls = .type "tuple") → o.data = .seq its.toArray n → Vals xs its → xs.length ≤ sizeLine → RpAll X.K pc H B xs es → sortOk es = true →
      d = .list (sortD es) → wpAny (model X.prog X.w) X.A (call (.builtin "sorted") [.ref a]) (EP X pins σ Q) X.xe s := by
    intro a o xs its n es ho hc hd rv hz ra hs ed
    subst ed
    obtain ⟨k1, k2, k3⟩ := sort_kind hs
    have hb := both_of rv ra
    have hr := both_reads I hb k3
    have hL : its.length ≤ sizeLine := by rw [← rv.length]; exact hz
    have hr' : PySem.W.EachIs (fun v b => ∃ as, Reads (PySem.W.sortingHeap (PySem.W.copyHeap s.heap its) (s.heap.objs.size + 1) its) v b as) its es := hr.mono fun _ _ ⟨as, r⟩ => ⟨as, PyProof.Rows.Reads.keeps (fun _ _ => PySem.W.sorting_copy_old) r⟩
    have hu2 : ∀ d, d ∈ es → X.A.in1.in1.units + d.depth < cLine := fun d hd => by
      have := SeqAt.depth_of_shaped (k3 d hd)
      show X.A.units + 1 + 1 + d.depth < cLine
      omega
    have S' := sortsAt (prog := X.prog) (w := X.w) (A := X.A.in1.in1) (s := { s with heap := PySem.W.sortingHeap (PySem.W.copyHeap s.heap its) (s.heap.objs.size + 1) its }) hr' k1 k2 hu2
    refine sorted_seq ho hc hd hL S' ?_
    have hm : es.map (id : D → D) = es := List.map_id _
    have hout := PySem.W.sortVals_data (h' := PySem.W.sortingHeap (PySem.W.copyHeap s.heap its) (s.heap.objs.size + 1) its) (R := Both X.K pc H B) (enc := (id : D → D)) false hb hr' (by rw [hm]; exact k1)
    rw [hm] at hout
    obtain ⟨ys, h1, h2⟩ := of_both hout
    obtain ⟨c, hc'⟩ := sortedAll_at s.heap its (PySem.W.sortVals (PySem.W.dataKind (PySem.W.sortingHeap (PySem.W.copyHeap s.heap its) (s.heap.objs.size + 1) its) es) false its its).toArray
    have hfr : H (s.heap.objs.size + 1) = none := I.hok.fresh (Nat.le_succ _)
    have hlen : ys.length ≤ sizeLine := by
      rw [h2.length]
      show (es.mergeSort _).length ≤ sizeLine
      rw [List.length_mergeSort, ← ra.length]
      exact hz
    refine ⟨.ref (s.heap.objs.size + 1), _, I.laid (t' := s.toks) (o := .lst ys) (fun b o e => sortedAll_old e) (Nat.le_succ _) ⟨hlen, _, c, h1, hc'⟩, rfl, q _ _ (Got.lst src t hfr hlen h2)⟩
  rcases ds with _ | ⟨x, _ | ⟨y, l⟩⟩
  · simp [bltD] at hf
  · obtain ⟨v, rfl, hx⟩ := hv.one
    cases x with
    | list xs =>
      obtain ⟨a, ys, rfl, ha, _, hz, ra⟩ := hx.list
      simp only [bltD] at hf
      split at hf
      · rename_i hs
        obtain ⟨u, rfl, rx⟩ := vals1 r
        cases (show u = Value.ref a from rx)
        obtain ⟨its, rv, pl, _⟩ := I.list (SqL.of ha)
        obtain ⟨o, ho, hc, n, hd⟩ := pl.isList
        exact main ho (.inl hc) hd rv hz ra hs (Option.some.inj hf).symm
      · cases hf
    | tuple xs =>
      obtain ⟨a, ys, rfl, ha, hz, ra⟩ := hx.tuple
      simp only [bltD] at hf
      split at hf
      · rename_i hs
        obtain ⟨u, rfl, rx⟩ := vals1 r
        cases (show u = Value.ref a from rx)
        obtain ⟨its, rv, pl, _⟩ := I.tuple ha.sq
        obtain ⟨o, ho, hc, n, hd⟩ := pl
        exact main ho (.inr hc) hd rv hz ra hs (Option.some.inj hf).symm
      · cases hf
    | _ => simp [bltD] at hf
  · cases x <;> simp [bltD] at hf
end
end Dv

/-! Dv10: dict(pairs), by data. -/
namespace Dv
open PySem PySem.Spec PyProof.Rows L2

section
variable {K : PySem.W.Frag} {pc ps : Addr} {B : Addr → Prop} {H : Hp} {S : Sc}
/-- a table and its data -/
def Tab (K : PySem.W.Frag) (pc : Addr) (H : Hp) (B : Addr → Prop) (ks : List (Key × V)) (tab : List (D × D)) : Prop := ∃ es, RpAll K pc H B (ks.map (·.2)) es ∧ tab = (ks.map fun k => keyD k.1).zip es
theorem Tab.nil : Tab K pc H B [] [] := ⟨[], .nil, rfl⟩
theorem Tab.cons {k : Key} {v : V} {d : D} {ks : List (Key × V)} {tab : List (D × D)} (r : Rp K pc H B v d) (t : Tab K pc H B ks tab) : Tab K pc H B ((k, v) :: ks) ((keyD k, d) :: tab) := by
  obtain ⟨es, h1, rfl⟩ := t
  exact ⟨d :: es, .cons r h1, rfl⟩
theorem Tab.cases {ks : List (Key × V)} {tab : List (D × D)} (t : Tab K pc H B ks tab) : (ks = [] ∧ tab = []) ∨ ∃ k v d ks' tab', ks = (k, v) :: ks' ∧ tab = (keyD k, d) :: tab' ∧ Rp K pc H B v d ∧ Tab K pc H B ks' tab' := by
  obtain ⟨es, h1, rfl⟩ := t
  cases ks with
  | nil => exact .inl ⟨rfl, rfl⟩
  | cons p ks =>
    cases h1 with
    | cons r t => exact .inr ⟨p.1, p.2, _, ks, _, rfl, rfl, r, _, t, rfl⟩
theorem keyIsI_of (i : Int) (k : Key) : keyIsI i (keyD k) = decide (k = .inl i) := by
  cases k <;> simp [keyIsI, keyD]
theorem Tab.any : ∀ {ks : List (Key × V)} {tab : List (D × D)} (i : Int), Tab K pc H B ks tab → (tab.any fun kv => keyIsI i kv.1) = ks.any fun kv => decide (kv.1 = .inl i)
  | [], tab, i, t => by
    rcases t.cases with ⟨_, rfl⟩ | ⟨k, v, d, ks', tab', h, _⟩
    · rfl
    · cases h
  | p :: ks, tab, i, t => by
    rcases t.cases with ⟨h, _⟩ | ⟨k, v, d, ks', tab', h, rfl, r, t'⟩
    · cases h
    · cases h
      rw [List.any_cons, List.any_cons, keyIsI_of, Tab.any i t']
theorem Tab.map {v : V} {x : D} (r : Rp K pc H B v x) : ∀ {ks : List (Key × V)} {tab : List (D × D)} (i : Int), Tab K pc H B ks tab → Tab K pc H B (ks.map fun kv => if kv.1 = .inl i then (kv.1, v) else kv) (tab.map fun kv => if keyIsI i kv.1 then (kv.1, x) else kv)
  | [], tab, i, t => by
    rcases t.cases with ⟨_, rfl⟩ | ⟨k, v, d, ks', tab', h, _⟩
    · exact .nil
    · cases h
  | p :: ks, tab, i, t => by
    rcases t.cases with ⟨h, _⟩ | ⟨k, w, d, ks', tab', h, rfl, r', t'⟩
    · cases h
    · cases h
      have ih := Tab.map r i t'
      rw [List.map_cons, List.map_cons, keyIsI_of]
      by_cases e : k = .inl i
      · subst e
        simp only [decide_true, if_true]
        exact ih.cons r
      · simp only [e, decide_false, if_false, Bool.false_eq_true]
        exact ih.cons r'
theorem Tab.snoc {v : V} {x : D} {k : Key} (r : Rp K pc H B v x) : ∀ {ks : List (Key × V)} {tab : List (D × D)}, Tab K pc H B ks tab → Tab K pc H B (ks ++ [(k, v)]) (tab ++ [(keyD k, x)])
  | [], tab, t => by
    rcases t.cases with ⟨_, rfl⟩ | ⟨k, v, d, ks', tab', h, _⟩
    · exact Tab.nil.cons r
    · cases h
  | p :: ks, tab, t => by
    rcases t.cases with ⟨h, _⟩ | ⟨k, w, d, ks', tab', h, rfl, r', t'⟩
    · cases h
    · cases h
      exact (Tab.snoc r t').cons r'
theorem Tab.put {v : V} {x : D} {ks : List (Key × V)} {tab : List (D × D)} (r : Rp K pc H B v x) (i : Int) (t : Tab K pc H B ks tab) : Tab K pc H B (putK ks (.inl i) v) (putI tab i x) := by
  unfold putI putK
  rw [t.any]
  split
  · exact t.map r i
  · exact t.snoc (k := .inl i) r
/-- a pair that goes into a dict -/
structure Pr where
  T : Addr
  i : Int
  t : Tok
  u : Value
  x : V
  d : D
def Pr.ok (K : PySem.W.Frag) (pc : Addr) (H : Hp) (B : Addr → Prop) (h : Heap) (p : Pr) : Prop := PairAt h p.T (.int p.i p.t) p.u ∧ RelV p.x p.u ∧ Rp K pc H B p.x p.d
theorem dictD_pairs : ∀ (L : List Pr) (acc : List (D × D)), dictD (L.map fun p => .tuple [.int p.i, p.d]) acc = some (L.foldl (fun a p => putI a p.i p.d) acc)
  | [], acc => rfl
  | p :: L, acc => dictD_pairs L (putI acc p.i p.d)
theorem tab_pairs {h : Heap} : ∀ (L : List Pr), (∀ p ∈ L, p.ok K pc H B h) → ∀ {ks : List (Key × V)} {tab : List (D × D)}, Tab K pc H B ks tab → Tab K pc H B (mergeK ks (L.map fun p => (.inl p.i, p.x))) (L.foldl (fun a p => putI a p.i p.d) tab)
  | [], _, _, _, t => t
  | p :: L, hL, ks, tab, t => tab_pairs L (fun q hq => hL q (List.mem_cons_of_mem _ hq)) (Tab.put (hL p List.mem_cons_self).2.2 p.i t)
end
section
variable {X : Cx} {pc ps : Addr}
theorem pairs_get {pins : List (Addr × Obj)} {σ : L2.St} {H : Hp} {s : Shared} {B : Addr → Prop} (I : Inv X pins σ H s) : ∀ {ys : List V} {its : List Value} {ds : List D} {acc tab : List (D × D)}, Vals ys its → RpAll X.K pc H B ys ds → dictD ds acc = some tab →
    ∃ L : List Pr, (∀ p ∈ L, p.ok X.K pc H B s.heap) ∧ its = L.map (fun p => .ref p.T) ∧ ds = L.map fun p => .tuple [.int p.i, p.d]
  | _, _, [], acc, tab, rv, ra, h => by
    cases ra
    cases rv
    exact ⟨[], (fun p hp => by cases hp), rfl, rfl⟩
  | _, _, d :: ds, acc, tab, rv, ra, h => by
    cases ra with
    | cons r ra =>
      cases rv with
      | cons v rv =>
        have sh : ∃ i x, d = .tuple [.int i, x] ∧ dictD ds (putI acc i x) = some tab := by
          unfold dictD at h
          split at h
          · rename_i e; cases e
          · rename_i i x r acc' e
            cases e
            exact ⟨_, _, rfl, h⟩
          · cases h
        obtain ⟨i, x, rfl, h2⟩ := sh
        obtain ⟨L, h3, h4, h5⟩ := pairs_get I rv ra h2
        cases r with
        | @tup a xs es hp hz rr =>
          cases rr with
          | cons r1 rr =>
            cases rr with
            | cons r2 rr =>
              cases rr
              cases r1
              obtain ⟨ws, rw1, p1, _⟩ := I.tuple hp.sq
              cases rw1 with
              | cons q1 rw1 =>
                cases rw1 with
                | cons q2 rw1 =>
                  cases rw1
                  obtain ⟨t, rfl⟩ := q1
                  have v' := v
                  cases (show _ = Value.ref a from v)
                  exact ⟨⟨a, i, t, _, _, x⟩ :: L, List.forall_mem_cons.mpr ⟨⟨.inl p1, q2, r2⟩, h3⟩, by rw [h4]; rfl, by rw [h5]; rfl⟩
theorem kv_pairs {K : PySem.W.Frag} {h : Heap} {H : Hp} {B : Addr → Prop} : ∀ {L : List Pr}, (∀ p ∈ L, p.ok K pc H B h) → KV (L.map fun p => ((Sum.inl p.i : Key), p.x)) (L.map fun p => ((Sum.inl p.i : Key), p.u))
  | [], _ => .nil
  | p :: L, h1 => .cons ⟨rfl, (h1 p List.mem_cons_self).2.1⟩ (kv_pairs fun q hq => h1 q (List.mem_cons_of_mem _ hq))
theorem c_dict (hc : X.calm = true) : CallR X (.type "dict") (rBl X.K pc ps .dict) := by
  intro pins s σ H vs us Q I r h
  obtain ⟨B, ds, d, S, t, src, hv, hf, q⟩ := h
  have main : ∀ {T : String} {a : Addr} {ys : List V} {its : List Value} {es : List D} {tab : List (D × D)}, (T = "list" ∨ T = "tuple") → PlainSeq T s.heap a its.toArray → Vals ys its → ys.length ≤ sizeLine → RpAll X.K pc H B ys es → dictD es [] = some tab → d = .dict tab →
      wpAny (model X.prog X.w) X.A (call (.type "dict") [.ref a]) (EP X pins σ Q) X.xe s := by
    intro T a ys its es tab hT hp rv hz ra ht ed
    subst ed
    obtain ⟨L, h1, rfl, rfl⟩ := pairs_get I rv ra ht
    rw [dictD_pairs] at ht
    cases Option.some.inj ht
    have htab := tab_pairs L h1 (Tab.nil (K := X.K) (pc := pc) (H := H) (B := B))
    have hl : (L.map fun p => ((.int p.i p.t : Value), p.u)).length = L.length := by simp
    have hn : L.length ≤ sizeLine := by
      have := rv.length
      rw [List.length_map] at this
      omega
    have items : PairItems s.heap (L.map fun p => (Value.ref p.T)).toArray (fun j => (L.map (·.T)).getD j 0) (L.map fun p => ((.int p.i p.t : Value), p.u)) := by
      refine ⟨by simp, fun j k v hj => ?_⟩
      rw [List.getElem?_map] at hj
      obtain ⟨p, hp, e⟩ := Option.map_eq_some_iff.mp hj
      cases e
      have e1 : (L.map (·.T)).getD j 0 = p.T := by simp [List.getD_eq_getElem?_getD, List.getElem?_map, hp]
      show _ = some (Value.ref ((L.map (·.T)).getD j 0)) ∧ PairAt s.heap ((L.map (·.T)).getD j 0) _ _
      rw [e1]
      exact ⟨by simp [hp], (h1 p (List.mem_of_getElem? hp)).1⟩
    have have' : PairsHave (mixKind X.prog X.w) L.length (PairRel (L.map fun p => ((.int p.i p.t : Value), p.u))) (L.map fun p => ((Sum.inl p.i : Key), p.u)) := by
      refine ⟨by simp, fun j k v hj => ?_⟩
      have hj : (L.map fun p => ((.int p.i p.t : Value), p.u))[j]? = some (k, v) := hj
      rw [List.getElem?_map] at hj
      obtain ⟨p, hp, e⟩ := Option.map_eq_some_iff.mp hj
      cases e
      exact ⟨.inl p.i, by simp [List.getElem?_map, hp], keyIs_int p.i p.t⟩
    have kv : KV (L.map fun p => ((Sum.inl p.i : Key), p.x)) (L.map fun p => ((Sum.inl p.i : Key), p.u)) := by
      exact kv_pairs h1
    have lenM : (mergeK [] (L.map fun p => ((Sum.inl p.i : Key), p.x))).length ≤ sizeLine := by
      refine Nat.le_trans (length_mergeK _ _) ?_
      simpa using hn
    have hm : (s.heap.objs.size == sysModules) = false := beq_eq_false_iff_ne.mpr (Nat.ne_of_gt I.big)
    have fin : ∀ h' tk, h'.DictOf (mixKind X.prog X.w) s.heap.objs.size (merged [] (L.map fun p => ((Sum.inl p.i : Key), p.u))) → (∀ b o, b ∉ ([] : List Addr) → s.heap.get? b = some o → h'.get? b = some o) → EP X pins σ Q (.ref s.heap.objs.size) { s with heap := h', toks := tk } := fun h' tk hd kp => by
      have hfr := I.hok.fresh (Nat.le_refl s.heap.objs.size)
      refine ⟨.ref s.heap.objs.size, _, I.laid (t' := tk) (o := .dK (mergeK [] (L.map fun p => ((Sum.inl p.i : Key), p.x)))) (fun b o e => kp b o (by simp) e) (Nat.le_refl _) ⟨lenM, hm, _, KV.merge kv .nil, hd⟩, rfl, q _ _ ?_⟩
      obtain ⟨es, g1, g2⟩ := htab
      rw [g2]
      exact ⟨Ext.new hfr, src.new hfr, .dic upd_same (src.nepc hfr) (fun z => by obtain ⟨o, e⟩ := t _ z; rw [hfr] at e; cases e) lenM (g1.keep ((Ext.new hfr).keep src)), fun _ => ⟨_, rfl, hfr, .dic upd_same (src.nepc hfr) lenM ((g1.weak (wk_new hfr)).keep ((Ext.new hfr).keep src)), ⟨_, upd_same⟩⟩⟩
    rcases hT with rfl | rfl
    · exact call_dict_pairs (PairArg.list a _ _ _) (I.ok.hd hc) ⟨hp, items⟩ (by rw [hl]; exact have') (by rw [hl]; exact hn) fin
    · exact call_dict_pairs (PairArg.tuple a _ _ _) (I.ok.hd hc) ⟨hp, items⟩ (by rw [hl]; exact have') (by rw [hl]; exact hn) fin
  rcases ds with _ | ⟨x, _ | ⟨y, l⟩⟩
  · simp [bltD] at hf
  · obtain ⟨v, rfl, hx⟩ := hv.one
    obtain ⟨u, rfl, rx⟩ := vals1 r
    cases x with
    | list xs =>
      obtain ⟨a, ys, rfl, ha, _, hz, ra⟩ := hx.list
      obtain ⟨tab, h1, h2⟩ := Option.map_eq_some_iff.mp hf
      cases (show u = Value.ref a from rx)
      obtain ⟨its, rv, pl, _⟩ := I.list (SqL.of ha)
      obtain ⟨o, n, g1, g2, g3, g4⟩ := pl
      exact main (.inl rfl) ⟨o, n, g1, g2, g3, g4⟩ rv hz ra h1 h2.symm
    | tuple xs =>
      obtain ⟨a, ys, rfl, ha, hz, ra⟩ := hx.tuple
      obtain ⟨tab, h1, h2⟩ := Option.map_eq_some_iff.mp hf
      cases (show u = Value.ref a from rx)
      rcases ha with ⟨o, ho, hd⟩ | ⟨o, its, n, k1, k2, k3, k4, k5, k6⟩
      · obtain ⟨g1, _, its, rv, o', g2, g3, n, g4⟩ := I.hok a _ ho
        rw [g1] at g2
        cases g2
        exact main (.inr rfl) ⟨o, n, g1, g3, hd, g4⟩ rv hz ra h1 h2.symm
      · refine main (its := its.toList) (.inr rfl) ⟨o, n, I.kIn a o k1, k2, k3, by rw [k4]⟩ k6 hz ra h1 h2.symm
    | _ => simp [bltD] at hf
  · cases x <;> simp [bltD] at hf
end
end Dv

/-! Dv11: sorted(set(list)), list(range), tuple(zip), isinstance, by data. -/
namespace Dv
open PySem PySem.Spec PyProof.Rows L2

/-! ### ascending, each once -/
theorem insU_mem (x k : Int) : ∀ l : List Int, k ∈ insU x l ↔ k = x ∨ k ∈ l
  | [] => by simp [insU]
  | y :: l => by
    unfold insU
    split
    · simp
    · split
      · rename_i h e
        subst e
        simp
      · simp only [List.mem_cons, insU_mem x k l]
        constructor <;> (intro h; rcases h with h | h | h <;> simp [h])
theorem insU_lt (x : Int) : ∀ l : List Int, l.Pairwise (· < ·) → (insU x l).Pairwise (· < ·)
  | [], _ => by simp [insU]
  | y :: l, h => by
    unfold insU
    rw [List.pairwise_cons] at h
    split
    · rename_i hx
      refine List.pairwise_cons.mpr ⟨fun z hz => ?_, List.pairwise_cons.mpr h⟩
      rcases List.mem_cons.mp hz with rfl | hz
      · exact hx
      · exact Int.lt_trans hx (h.1 z hz)
    · split
      · exact List.pairwise_cons.mpr h
      · rename_i h1 h2
        refine List.pairwise_cons.mpr ⟨fun z hz => ?_, insU_lt x l h.2⟩
        rcases (insU_mem x z l).mp hz with rfl | hz
        · omega
        · exact h.1 z hz
theorem sortU_mem (k : Int) : ∀ l : List Int, k ∈ sortU l ↔ k ∈ l
  | [] => by simp [sortU]
  | x :: l => by
    show k ∈ insU x (sortU l) ↔ _
    rw [insU_mem, sortU_mem k l, List.mem_cons]
theorem sortU_lt : ∀ l : List Int, (sortU l).Pairwise (· < ·)
  | [] => by simp [sortU]
  | x :: l => insU_lt x _ (sortU_lt l)
theorem lt_unique : ∀ a b : List Int, a.Pairwise (· < ·) → b.Pairwise (· < ·) → (∀ k, k ∈ a ↔ k ∈ b) → a = b
  | [], [], _, _, _ => rfl
  | [], y :: b, _, _, h => absurd ((h y).mpr List.mem_cons_self) (by simp)
  | x :: a, [], _, _, h => absurd ((h x).mp List.mem_cons_self) (by simp)
  | x :: a, y :: b, ha, hb, h => by
    rw [List.pairwise_cons] at ha hb
    have e : x = y := by
      rcases List.mem_cons.mp ((h x).mp List.mem_cons_self) with e | e
      · exact e
      · rcases List.mem_cons.mp ((h y).mpr List.mem_cons_self) with e2 | e2
        · exact e2.symm
        · have := ha.1 y e2
          have := hb.1 x e
          omega
    subst e
    rw [lt_unique a b ha.2 hb.2 fun k => ?_]
    constructor
    · intro hk
      rcases List.mem_cons.mp ((h k).mp (List.mem_cons_of_mem _ hk)) with e | e
      · have := ha.1 k hk; omega
      · exact e
    · intro hk
      rcases List.mem_cons.mp ((h k).mpr (List.mem_cons_of_mem _ hk)) with e | e
      · have := hb.1 k hk; omega
      · exact e

/-! ### set(list of ints) -/
section
variable {P : Program} {w : World} {A : Around} {E : Value → Shared → Prop} {s : Shared}
/-- a set's object as set() lays it -/
abbrev setObj0 (w : World) : Obj := { cls := .type "set", dict := none, data := .set #[] 0 (.fresh 0 0 (!w.params.followText "set-order")) }
theorem set_init_list {l : Addr} {items : Array Value} (ns : List Int) {h0 : Heap} {S : Addr} {E' : Value → Shared → Prop} (hh : A.handled = none) (hS : S + 1 = h0.objs.size) (hl : h0.IsList l items) (hlS : l < S) (hset : h0.get? S = some (setObj0 w)) (hit : IntsAre items.toList ns) (hb : ns.length + 1 < scanBound)
    (h : ∀ (h' : Heap) (tk c : Nat), SetR w h' S (fun j => decide (j ∈ ns)) c → c ≤ ns.length → (∀ b o, b < S → h0.get? b = some o → h'.get? b = some o) → E' .none { s with heap := h', toks := tk }) :
    codeAny (model P w) A (.call (.builtin "set.__init__") ⟨[.ref S, .ref l], []⟩) (wants E' E) { s with heap := h0 } := by
  have hT : Shared.TypeIs { s with heap := h0 } (.ref S) "set" := ⟨_, hset, rfl⟩
  have hisz : items.size = ns.length := by
    have q := IntsAre.length hit
    rw [Array.length_toList] at q
    exact q
  refine codeAny_call_builtin F.called_set.init.plain F.entry_set_init (check_set_init_1 hT ?_)
  obtain ⟨ol, hol, hcl, nl, hdl⟩ := hl
  obtain ⟨ocls, odict, odata, oslots⟩ := ol
  cases hcl; cases hdl
  have f1 := F.sub_list_set
  have f2 := F.sub_list_frozenset
  have f3 : (Value.type "list" == Value.type "dict") = false := by decide
  have hl1 : h0.IsList l items := ⟨_, hol, rfl, nl, rfl⟩
  unfold Builtin.«set.__init__» noKeywords Builtin.Frozenset.updateFrom
  generalize hPI : pyIter = PI
  wp_walk
  subst hPI
  refine wpAny_pyIter_list hl1 (wpAny_bind (wpAny_runValue ?_))
  have hh3 : A.in1.in1.handled = none := by simp [hh]
  have q1 : S < h0.objs.size := hS ▸ Nat.lt_succ_self S
  have n1 : l ≠ h0.objs.size := Nat.ne_of_lt (Nat.lt_trans hlS q1)
  have n2 : S ∉ [h0.objs.size, l] := by
    simp only [List.mem_cons, List.not_mem_nil, or_false, not_or]
    exact ⟨Nat.ne_of_lt q1, Nat.ne_of_gt hlS⟩
  refine set_update_ints ((Walks.list hh3 _ l n1 items).toS) S n2 ns hisz hb (fun i v hv => ?_) (items.size - 0) 0 _ (by omega) (Nat.zero_le _) ?_ ?_ fun s' c' hm hc' hS' => ?_
  · have hi : i < ns.length := by rw [← hisz]; exact (Array.getElem?_eq_some_iff.mp hv).1
    obtain ⟨t, e⟩ := PyProof.Rows.IntsAre.int_at hit i v (by rw [Array.getElem?_toList]; exact hv)
    exact ⟨ns[i], t, List.getElem?_eq_getElem hi, by rw [e, List.getD_eq_getElem?_getD, List.getElem?_eq_getElem hi]; rfl⟩
  · exact ⟨⟨_, Heap.get?_push_size _ rfl, rfl, rfl⟩, hl1.push _⟩
  · exact ⟨0, Nat.le_refl 0, setR_new_at (Heap.get?_push_of_some _ hset)⟩
  · obtain ⟨h', g2, d', tk', os'⟩ := s'
    cases (show g2 = s.gens from hm.gens)
    cases (show d' = s.drawn from hm.drawn)
    cases (show os' = s.os from hm.os)
    show wpAny _ _ _ _ _ _
    refine wpAny_pure ?_
    show wpAny _ _ (ret Value.none) _ _ _
    rw [hisz] at hc'
    refine wpAny_pure (h h' tk' c' hS' hc' fun b o hb e => ?_)
    refine hm.heap b o ?_ (Heap.get?_push_of_some _ e)
    simp only [List.mem_cons, List.not_mem_nil, or_false, not_or]
    exact ⟨Nat.ne_of_lt hb, Nat.ne_of_lt (Nat.lt_trans hb q1)⟩
end
section
variable {P : Program} {w : World} {A : Around} {E : Value → Shared → Prop} {s : Shared}
theorem call_setL {l : Addr} {items : Array Value} (ns : List Int) {Q : Value → Shared → Prop} (hh : A.handled = none) (hl : s.heap.IsList l items) (hit : IntsAre items.toList ns) (hb : ns.length + 1 < scanBound)
    (h : ∀ (h' : Heap) (tk c : Nat), SetR w h' s.heap.objs.size (fun j => decide (j ∈ ns)) c → c ≤ ns.length → (∀ b o, s.heap.get? b = some o → h'.get? b = some o) → Q (.ref s.heap.objs.size) { s with heap := h', toks := tk }) :
    wpAny (model P w) A (call (.type "set") [.ref l]) Q E s := by
  have hlS : l < s.heap.objs.size := by obtain ⟨o, ho, _⟩ := hl; exact Heap.lt_size ho
  obtain ⟨c, tl, hmro⟩ := F.called_set.mro
  have g1 := F.called_set.made
  have g2 := F.called_set.sub
  refine wpAny_call (codeAny_of_tree ?_)
  show wpAny _ _ (callAny (.type "set") _) _ _ _
  refine wpAny_pure ⟨Code.quiet_builtin _ (by decide +kernel), codeAny_builtin F.entry_type_call ?_⟩
  rw [Around.under_plain (weight_type_call_type "set" [.ref l] []) rfl]
  have g3 := F.called_set.notType
  have g4 := F.called_set.canCreate
  have g5 := F.typeCall_set_1 (.ref l)
  repeat (any_goals (first | assumption | wp_step))
  have new : codeAny (model P w) A.in1 (.call (.builtin "set.__new__") ⟨[.type "set", .ref l], []⟩) (wants (fun obj s₁ => obj = .ref s.heap.objs.size ∧ s₁ = { s with heap := s.heap.push (setObj0 w) }) E) s := code_set_led1 (.ref l) ⟨rfl, rfl⟩
  refine codeAny_mono new fun r s₁ hr => ?_
  cases r with
  | error e => exact hr
  | ok fl =>
    cases fl with
    | ret obj =>
      obtain ⟨rfl, rfl⟩ := hr
      have hS : (s.heap.push (setObj0 w)).get? s.heap.objs.size = some (setObj0 w) := Heap.get?_push_size _ rfl
      have hT : Shared.TypeIs { s with heap := s.heap.push (setObj0 w) } (.ref s.heap.objs.size) "set" := ⟨_, hS, rfl⟩
      have hli := F.called_set.init.lookup
      have hbi := F.called_set.init.bind (.ref s.heap.objs.size)
      repeat (any_goals (first | assumption | wp_step))
      refine codeAny_mono (set_init_list (E := E) (S := s.heap.objs.size) (h0 := s.heap.push (setObj0 w)) (E' := fun r s₂ => r = .none ∧ ∃ h' tk c, s₂ = { s with heap := h', toks := tk } ∧ SetR w h' s.heap.objs.size (fun j => decide (j ∈ ns)) c ∧ c ≤ ns.length ∧
          (∀ b o, s.heap.get? b = some o → h'.get? b = some o)) ns (by simp [hh]) (by rw [Heap.size_push]) (hl.push _) hlS hS hit hb fun h' tk c hR hc kp => ⟨rfl, h', tk, c, rfl, hR, hc, fun b o e => kp b o (Heap.lt_size e) (Heap.get?_push_of_some _ e)⟩) fun r₂ s₂ hr₂ => ?_
      cases r₂ with
      | error e => exact hr₂
      | ok fl₂ =>
        cases fl₂ with
        | ret r =>
          obtain ⟨rfl, h', tk, c, rfl, hS', hc', hk'⟩ := hr₂
          repeat (any_goals (first | assumption | wp_step))
          exact h _ _ _ hS' hc' hk'
        | _ => exact hr₂.elim
    | _ => exact hr.elim
end
section
variable {X : Cx} {pc ps : Addr}
/-- set(a list of ints): a new set -/
def rSetL (K : PySem.W.Frag) (w : World) : List V → Hp → VK → Prop := fun vs H Q => ∃ (a : Addr) (ns : List Int), vs = [.ref a] ∧ H a = some (.lst (ns.map V.int)) ∧ ns.length < 64 ∧ ∀ p c, H p = none → c ≤ ns.length → Q (.ref p) (upd H p (SetO w p (fun j => decide (j ∈ ns)) c))
theorem c_setL (hc : X.calm = true) : CallR X (.type "set") (rSetL X.K X.w) := by
  intro pins s σ H vs us Q I r h
  obtain ⟨a, ns, rfl, ha, hl, q⟩ := h
  obtain ⟨u, rfl, rx⟩ := vals1 r
  cases (show u = Value.ref a from rx)
  obtain ⟨its, rv, pl, _⟩ := I.list (SqL.of ha)
  refine call_setL ns (I.ok.hd hc) pl.isList (by rw [List.toList_toArray]; exact Vals.ints rv) (by unfold scanBound; omega) fun h' tk c hR hc' kp => ?_
  have hf := I.hok.fresh (Nat.le_refl s.heap.objs.size)
  exact ⟨.ref s.heap.objs.size, _, I.laid (t' := tk) kp (Nat.le_refl _) (setO_new hR), rfl, q _ c hf hc'⟩
end
end Dv

/-! Dv12: the meanings, read backwards. -/
namespace Dv
open PySem PySem.Spec PyProof.Rows L2
section
variable {Φ : Callee} {G : Str → Option D} {η : Env} {S S' : Sc} {r : D}
theorem den_bin {o : BOp} {a b : E} (e : den Φ G (.bin o a b) η S = some (r, S')) : ∃ x S1 y, denT Φ G a η S = some (x, S1) ∧ denT Φ G b η S1 = some (y, S') ∧ binD o x y = some r := by
  simp only [den] at e
  split at e
  · rename_i x S1 h1
    split at e
    · rename_i y S2 h2
      obtain ⟨z, h3, h4⟩ := Option.map_eq_some_iff.mp e
      cases h4
      exact ⟨x, S1, y, h1, h2, h3⟩
    · cases e
  · cases e
theorem den_cmp {o : COp} {a b : E} (e : den Φ G (.cmp o a b) η S = some (r, S')) : ∃ x S1 y k, denT Φ G a η S = some (x, S1) ∧ denT Φ G b η S1 = some (y, S') ∧ cmpD o x y = some k ∧ r = .bool k := by
  simp only [den] at e
  split at e
  · rename_i x S1 h1
    split at e
    · rename_i y S2 h2
      obtain ⟨z, h3, h4⟩ := Option.map_eq_some_iff.mp e
      cases h4
      exact ⟨x, S1, y, z, h1, h2, h3, rfl⟩
    · cases e
  · cases e
theorem den_chain {o p : COp} {a b c : E} (e : den Φ G (.chain o p a b c) η S = some (r, S')) : ∃ x S1 y S2 k, den Φ G a η S = some (x, S1) ∧ den Φ G b η S1 = some (y, S2) ∧ cmpD o x y = some k ∧
    (if k = true then ∃ z m, den Φ G c η S2 = some (z, S') ∧ cmpD p y z = some m ∧ r = .bool m else S2 = S' ∧ r = .bool false) := by
  simp only [den] at e
  split at e
  · rename_i x S1 h1
    split at e
    · rename_i y S2 h2
      split at e
      · rename_i h3
        split at e
        · rename_i z S3 h4
          obtain ⟨m, h5, h6⟩ := Option.map_eq_some_iff.mp e
          cases h6
          exact ⟨x, S1, y, S2, true, h1, h2, h3, by rw [if_pos rfl]; exact ⟨z, m, h4, h5, rfl⟩⟩
        · cases e
      · rename_i h3
        cases e
        exact ⟨x, S1, y, S', false, h1, h2, h3, by simp⟩
      · cases e
    · cases e
  · cases e
theorem den_and {a b : E} (e : den Φ G (.and a b) η S = some (r, S')) : ∃ x S1 k, denT Φ G a η S = some (x, S1) ∧ truD x = some k ∧ (if k = true then den Φ G b η S1 = some (r, S') else S1 = S' ∧ r = x ∧ ownedE η a = false) := by
  simp only [den] at e
  split at e
  · rename_i x S1 h1
    split at e
    · rename_i h2
      exact ⟨x, S1, true, h1, h2, by rw [if_pos rfl]; exact e⟩
    · rename_i h2
      split at e
      · cases e
      · rename_i h3
        cases e
        exact ⟨_, _, false, h1, h2, by rw [if_neg (by decide)]; exact ⟨rfl, rfl, by simpa using h3⟩⟩
    · cases e
  · cases e
theorem den_or {a b : E} (e : den Φ G (.or a b) η S = some (r, S')) : ∃ x S1 k, denT Φ G a η S = some (x, S1) ∧ truD x = some k ∧ (if k = true then S1 = S' ∧ r = x ∧ ownedE η a = false else den Φ G b η S1 = some (r, S')) := by
  simp only [den] at e
  split at e
  · rename_i x S1 h1
    split at e
    · rename_i h2
      split at e
      · cases e
      · rename_i h3
        cases e
        exact ⟨_, _, true, h1, h2, by rw [if_pos rfl]; exact ⟨rfl, rfl, by simpa using h3⟩⟩
    · rename_i h2
      exact ⟨x, S1, false, h1, h2, by rw [if_neg (by decide)]; exact e⟩
    · cases e
  · cases e
theorem den_not {a : E} (e : den Φ G (.not a) η S = some (r, S')) : ∃ x k, denT Φ G a η S = some (x, S') ∧ truD x = some k ∧ r = .bool (!k) := by
  simp only [den] at e
  split at e
  · rename_i x S1 h1
    obtain ⟨k, h2, h3⟩ := Option.map_eq_some_iff.mp e
    cases h3
    exact ⟨x, k, h1, h2, rfl⟩
  · cases e
theorem den_ite {t a b : E} (e : den Φ G (.ite t a b) η S = some (r, S')) : ∃ x S1 k, denT Φ G t η S = some (x, S1) ∧ truD x = some k ∧ (if k = true then den Φ G a η S1 = some (r, S') else den Φ G b η S1 = some (r, S')) := by
  simp only [den] at e
  split at e
  · rename_i x S1 h1
    split at e
    · rename_i h2
      exact ⟨x, S1, true, h1, h2, by rw [if_pos rfl]; exact e⟩
    · rename_i h2
      exact ⟨x, S1, false, h1, h2, by rw [if_neg (by decide)]; exact e⟩
    · cases e
  · cases e
theorem den_neg {a : E} (e : den Φ G (.neg a) η S = some (r, S')) : ∃ i, den Φ G a η S = some (.int i, S') ∧ r = .int (-i) := by
  simp only [den] at e
  split at e
  · rename_i i S1 h1
    cases e
    exact ⟨i, h1, rfl⟩
  · cases e
theorem den_idx {a b : E} (e : den Φ G (.idx a b) η S = some (r, S')) : ∃ x S1 y, denT Φ G a η S = some (x, S1) ∧ den Φ G b η S1 = some (y, S') ∧ idxD S' x y = some r := by
  simp only [den] at e
  split at e
  · rename_i x S1 h1
    split at e
    · rename_i y S2 h2
      obtain ⟨z, h3, h4⟩ := Option.map_eq_some_iff.mp e
      cases h4
      exact ⟨x, S1, y, h1, h2, h3⟩
    · cases e
  · cases e
theorem den_sl {a lo hi : E} (e : den Φ G (.sl a lo hi) η S = some (r, S')) : ∃ x S1 l S2 h, denT Φ G a η S = some (x, S1) ∧ den Φ G lo η S1 = some (l, S2) ∧ den Φ G hi η S2 = some (h, S') ∧ okPart lo l = true ∧ okPart hi h = true ∧ slD x l h = some r := by
  simp only [den] at e
  split at e
  · rename_i x S1 h1
    split at e
    · rename_i l S2 h2
      split at e
      · rename_i h S3 h3
        split at e
        · rename_i ok
          obtain ⟨z, h4, h5⟩ := Option.map_eq_some_iff.mp e
          cases h5
          exact ⟨x, S1, l, S2, h, h1, h2, h3, (Bool.and_eq_true_iff.mp ok).1, (Bool.and_eq_true_iff.mp ok).2, h4⟩
        · cases e
      · cases e
    · cases e
  · cases e
theorem den_rev {a : E} (e : den Φ G (.rev a) η S = some (r, S')) : ∃ xs, denT Φ G a η S = some (.list xs, S') ∧ r = .list xs.reverse := by
  simp only [den] at e
  split at e
  · rename_i xs S1 h1
    cases e
    exact ⟨xs, h1, rfl⟩
  · cases e
theorem den_tup {es : List E} (e : den Φ G (.tup es) η S = some (r, S')) : ∃ ds, denL Φ G es η S = some (ds, S') ∧ ds.length ≤ sizeLine ∧ r = .tuple ds := by
  simp only [den] at e
  split at e
  · rename_i ds S1 h1
    split at e
    · rename_i h2
      cases e
      exact ⟨ds, h1, of_decide_eq_true h2, rfl⟩
    · cases e
  · cases e
theorem den_lst {es : List E} (e : den Φ G (.lst es) η S = some (r, S')) : ∃ ds, denL Φ G es η S = some (ds, S') ∧ ds.length ≤ sizeLine ∧ r = .list ds := by
  simp only [den] at e
  split at e
  · rename_i ds S1 h1
    split at e
    · rename_i h2
      cases e
      exact ⟨ds, h1, of_decide_eq_true h2, rfl⟩
    · cases e
  · cases e
theorem den_call {f : Str} {es : List E} (e : den Φ G (.call f es) η S = some (r, S')) : ∃ ds S1 nw, denA Φ G es η S = some (ds, S1) ∧ Φ f ds S1 = some (r, nw, S') ∧ (es.any (ownedE η) = false ∨ flatD r = true ∨ (nw = true ∧ flatL r = true)) := by
  simp only [den] at e
  split at e
  · rename_i ds S1 h1
    split at e
    · rename_i d nw S2 h2
      split at e
      · cases e
      · rename_i h3
        cases e
        refine ⟨ds, S1, nw, h1, h2, ?_⟩
        simp only [Bool.and_eq_true, Bool.not_eq_true', Bool.or_eq_true, not_and, Bool.not_eq_false] at h3
        rcases Bool.eq_false_or_eq_true (es.any (ownedE η)) with h | h
        · rcases h3 h with h | h
          · exact .inr (.inl h)
          · exact .inr (.inr (by simpa using h))
        · exact .inl h
    · cases e
  · cases e
theorem den_blt {b : Blt} {es : List E} (e : den Φ G (.blt b es) η S = some (r, S')) : ∃ ds, denA Φ G es η S = some (ds, S') ∧ bltD b ds = some r := by
  simp only [den] at e
  split at e
  · rename_i ds S1 h1
    obtain ⟨z, h3, h4⟩ := Option.map_eq_some_iff.mp e
    cases h4
    exact ⟨ds, h1, h3⟩
  · cases e
theorem den_get {o k : E} (e : den Φ G (.get o k) η S = some (r, S')) : ∃ x S1 kvs i, denT Φ G o η S = some (x, S1) ∧ tabD x = some kvs ∧ den Φ G k η S1 = some (.int i, S') ∧ r = (lookI kvs i).getD .none := by
  simp only [den] at e
  split at e
  · rename_i x S1 h1
    split at e
    · rename_i kvs i S2 h2 h3
      cases e
      exact ⟨x, S1, kvs, i, h1, h2, h3, rfl⟩
    · cases e
  · cases e
theorem den_get2 {o k d : E} (e : den Φ G (.get2 o k d) η S = some (r, S')) : ∃ x S1 kvs i S2 y, denT Φ G o η S = some (x, S1) ∧ tabD x = some kvs ∧ den Φ G k η S1 = some (.int i, S2) ∧ den Φ G d η S2 = some (y, S') ∧ r = (lookI kvs i).getD y := by
  simp only [den] at e
  split at e
  · rename_i x S1 h1
    split at e
    · rename_i kvs i S2 h2 h3
      split at e
      · rename_i y S3 h4
        cases e
        exact ⟨x, S1, kvs, i, S2, y, h1, h2, h3, h4, rfl⟩
      · cases e
    · cases e
  · cases e
theorem denL_nil {ds : List D} (e : denL Φ G [] η S = some (ds, S')) : ds = [] ∧ S' = S := by
  simp only [denL] at e
  cases e
  exact ⟨rfl, rfl⟩
theorem denL_cons {a : E} {es : List E} {ds : List D} (e : denL Φ G (a :: es) η S = some (ds, S')) : ∃ x S1 ys, den Φ G a η S = some (x, S1) ∧ denL Φ G es η S1 = some (ys, S') ∧ ds = x :: ys := by
  simp only [denL] at e
  split at e
  · rename_i x S1 h1
    split at e
    · rename_i ys S2 h2
      cases e
      exact ⟨x, S1, ys, h1, h2, rfl⟩
    · cases e
  · cases e
theorem denA_nil {ds : List D} (e : denA Φ G [] η S = some (ds, S')) : ds = [] ∧ S' = S := by
  simp only [denA] at e
  cases e
  exact ⟨rfl, rfl⟩
theorem denA_cons {a : E} {es : List E} {ds : List D} (e : denA Φ G (a :: es) η S = some (ds, S')) : ∃ x S1 ys, denT Φ G a η S = some (x, S1) ∧ denA Φ G es η S1 = some (ys, S') ∧ ds = x :: ys := by
  simp only [denA] at e
  split at e
  · rename_i x S1 h1
    split at e
    · rename_i ys S2 h2
      cases e
      exact ⟨x, S1, ys, h1, h2, rfl⟩
    · cases e
  · cases e
end
end Dv

/-! Dv13: the expressions without calls. -/
namespace Dv
open PySem PySem.Spec PyProof.Rows L2

def isBoolE : Expr → Bool
  | .BoolOp .. => true
  | _ => false
def notOwn : E → Bool
  | .own _ => false
  | _ => true
theorem notOwn_top {t : E} (h : notOwn t = true) (η : Env) (S : Sc) (r : R) : topE η S r t = r := by
  cases t <;> first | rfl | cases h
theorem notOwn_owned {t : E} (h : notOwn t = true) (η : Env) : ownedE η t = false := by
  cases t <;> first | rfl | cases h
/-- a compiled expression answers as it means -/
structure SE (X : Cx) (pc ps : Addr) (Φ : Callee) (G : Str → Option D) (e : Expr) (t : E) : Prop where
  no : notOwn t = true
  pe : PE X e (tD X.K pc ps (den Φ G t) (isNew t))
  pt : PT X e (Dv.tB X.K pc ps (den Φ G t))
  pw : isBoolE e = true → PW X e (Dv.tB X.K pc ps (den Φ G t))
/-- .. whose top may be the frame's own -/
structure ST (X : Cx) (pc ps : Addr) (Φ : Callee) (G : Str → Option D) (e : Expr) (t : E) : Prop where
  pe : PE X e (tT X.K pc ps (denT Φ G t) fun η => !ownedE η t)
  pt : PT X e (Dv.tB X.K pc ps (denT Φ G t))
section
variable {K : PySem.W.Frag} {pc ps : Addr} {B : Addr → Prop} {H H2 : Hp} {S S2 S' : Sc} {v : V} {d : D} {nw : Bool} {H' : Hp}
theorem Ext.none (x : Ext pc H H2) (s : Src pc ps H2 S2) {p : Addr} (h : H2 p = none) : H p = none := by
  cases e : H p with
  | none => rfl
  | some o =>
    by_cases hp : p = pc
    · subst hp
      rw [s.top] at h; cases h
    · rw [x p o hp e] at h; cases h
theorem Got.after (x : Ext pc H H2) (s : Src pc ps H2 S2) (g : Got K pc ps B H2 nw d S' v H') : Got K pc ps B H nw d S' v H' :=
  ⟨x.trans g.ext, g.src, g.rp, fun z => by
    obtain ⟨p, h1, h2, h3⟩ := g.new z
    exact ⟨p, h1, x.none s h2, h3⟩⟩
theorem Got.weaken {nw' : Bool} (g : Got K pc ps B H nw d S' v H') (h : nw' = true → nw = true) : Got K pc ps B H nw' d S' v H' := ⟨g.ext, g.src, g.rp, fun z => g.new (h z)⟩
theorem truV_of {b : Bool} (h : RpT K pc H B v d) (e : truD d = some b) : TruV K v H b := by
  cases d with
  | none => cases h.nonV; exact (Option.some.inj e).symm
  | bool c => cases h.blV; exact (Option.some.inj e).symm
  | int i => cases h.intV; exact (Option.some.inj e).symm
  | str x =>
    obtain ⟨rfl, hl⟩ := h.strV
    exact ⟨hl, (Option.some.inj e).symm⟩
  | list xs =>
    obtain ⟨a, ys, rfl, ha, _, _, ra⟩ := h.list
    refine .inl ⟨ys, SqL.of ha, ?_⟩
    rw [ra.isEmpty]
    exact (Option.some.inj e).symm
  | tuple xs =>
    obtain ⟨a, ys, rfl, ha, _, ra⟩ := h.tuple
    refine .inr (.inl ⟨ys, ha.sq, ?_⟩)
    rw [ra.isEmpty]
    exact (Option.some.inj e).symm
  | dict kvs => cases e
end
section
variable {X : Cx} {pc ps : Addr} {Φ : Callee} {G : Str → Option D} {e : Expr} {t : E}
/-- any expression whose test is its value's truth -/
theorem pt_of (he : ∀ whole, isTrue e X.env whole = (do let v ← whole; standAt e.pos; holding [v] (truthy v))) (pe : PE X e (tD X.K pc ps (den Φ G t) (isNew t))) : PT X e (Dv.tB X.K pc ps (den Φ G t)) := by
  refine (pt_truth pe he).imp fun σ H Q h => ?_
  obtain ⟨H0, Bc, η, S, d, S', b, F, hd, hb, q⟩ := h
  exact ⟨H0, Bc, η, S, d, S', F, hd, fun v H' g => ⟨b, truV_of (.of g.rp) hb, q H' g.ext g.src⟩⟩
theorem SE.plain (no : notOwn t = true) (pe : PE X e (tD X.K pc ps (den Φ G t) (isNew t))) (he : ∀ whole, isTrue e X.env whole = (do let v ← whole; standAt e.pos; holding [v] (truthy v)) := by intro _; rfl) (hb : isBoolE e = false := by rfl) : SE X pc ps Φ G e t :=
  ⟨no, pe, pt_of he pe, fun z => by rw [hb] at z; cases z⟩
theorem SE.st (h : SE X pc ps Φ G e t) : ST X pc ps Φ G e t := by
  have e1 : denT Φ G t = den Φ G t := by
    funext η S
    exact notOwn_top h.no η S _
  refine ⟨h.pe.imp fun σ H Q q => ?_, ?_⟩
  · obtain ⟨H0, Bc, η, S, d, S', F, hd, q⟩ := q
    rw [e1] at hd
    exact ⟨H0, Bc, η, S, d, S', F, hd, fun v H' g => q v H' ⟨g.ext, g.src, .of g.rp, fun _ => g.rp⟩⟩
  · rw [e1]; exact h.pt
section
variable {x : Str} {i : Nat} {pos : Pos}
theorem vis_of {sc : Scope} (h : visB sc x = true) : Vis sc x := by
  unfold visB at h
  split at h
  · exact .inl (by assumption)
  · exact .inr (.inl (by assumption))
  · exact .inr (.inr (by assumption))
  · cases h
theorem gl_of {sc : Scope} (h : glB sc x = true) : sc.names.lookup x = some .globalImplicit := by
  unfold glB at h
  split at h
  · assumption
  · cases h
theorem place_at {N : List Str} (h : place N x = some i) : N[i]? = some x := by
  unfold place at h
  rw [List.findIdx?_eq_some_iff_getElem] at h
  obtain ⟨h1, h2, _⟩ := h
  rw [List.getElem?_eq_getElem h1]
  exact congrArg some (of_decide_eq_true h2)
theorem ok1 (h : okName x = true) : (x == ("__debug__" : Str)) = false := by
  simp only [okName, Bool.and_eq_true, Bool.not_eq_true'] at h
  exact h.1.1
theorem ok2 (h : okName x = true) : (x == ("__classdict__" : Str)) = false := by
  simp only [okName, Bool.and_eq_true, Bool.not_eq_true'] at h
  exact h.1.2
theorem ok3 (h : okName x = true) : x ≠ "__name__" := by
  simp only [okName, Bool.and_eq_true, Bool.not_eq_true'] at h
  exact of_decide_eq_false h.2
theorem slot_at {η : Env} {s : Sl} (h : slot η i = s) (n : s ≠ .no) : η[i]? = some s := by
  unfold slot at h
  rw [List.getD_eq_getElem?_getD] at h
  cases e : η[i]? with
  | none => rw [e] at h; exact absurd h.symm n
  | some y => rw [e] at h; exact congrArg some h
theorem clean_at {η : Env} {d : D} (h : (slot η i).clean = some d) : η[i]? = some (.frz d) := by
  cases e : slot η i with
  | no => rw [e] at h; cases h
  | own y => rw [e] at h; cases h
  | frz y =>
    rw [e] at h
    cases h
    exact slot_at e (by simp)
theorem se_var (hv : visB X.env.scope x = true) (hn : okName x = true) (hp : place X.N x = some i) : SE X pc ps Φ G (.Name x pos) (.var i) := by
  refine .plain rfl ((pe_var (place_at hp) (vis_of hv) (ok1 hn) (ok2 hn)).imp fun σ H Q h => ?_)
  obtain ⟨H0, Bc, η, S, d, S', F, hd, q⟩ := h
  simp only [den] at hd
  obtain ⟨d', h1, h2⟩ := Option.map_eq_some_iff.mp hd
  cases h2
  obtain ⟨v, e1, r⟩ := F.frz _ _ (clean_at h1)
  exact ⟨v, e1, q v H (Got.same F.src r)⟩
theorem st_own (hv : visB X.env.scope x = true) (hn : okName x = true) (hp : place X.N x = some i) : ST X pc ps Φ G (.Name x pos) (.own i) := by
  have key : ∀ {σ : Sg} {H H0 : Hp} {Bc : Addr → Prop} {η : Env} {S S' : Sc} {d : D}, Fr X.K pc ps H0 Bc η σ H S → denT Φ G (.own i) η S = some (d, S') → S' = S ∧ ∃ v, σ[i]? = some (some v) ∧ RpT X.K pc H (Own Bc η σ) v d ∧ (ownedE η (.own i) = false → Rp X.K pc H (Own Bc η σ) v d) := by
    intro σ H H0 Bc η S S' d F hd
    simp only [denT, topE] at hd
    obtain ⟨d', h1, h2⟩ := Option.map_eq_some_iff.mp hd
    cases h2
    refine ⟨rfl, ?_⟩
    cases e : slot η i with
    | no => rw [e] at h1; cases h1
    | frz y =>
      rw [e] at h1
      cases h1
      obtain ⟨v, e1, r⟩ := F.frz _ _ (slot_at e (by simp))
      exact ⟨v, e1, .of r, fun _ => r⟩
    | own y =>
      rw [e] at h1
      cases h1
      obtain ⟨p, e1, _, r, _⟩ := F.own _ _ (slot_at e (by simp))
      exact ⟨_, e1, r, fun z => by simp [ownedE, e, Sl.isOwn] at z⟩
  have base : PE X (.Name x pos) (tVar i) := pe_var (place_at hp) (vis_of hv) (ok1 hn) (ok2 hn)
  refine ⟨base.imp fun σ H Q h => ?_, (pt_truth base fun _ => rfl).imp fun σ H Q h => ?_⟩
  · obtain ⟨H0, Bc, η, S, d, S', F, hd, q⟩ := h
    obtain ⟨rfl, v, e1, r, c⟩ := key F hd
    exact ⟨v, e1, q v H ⟨Ext.refl, F.src, r, fun z => c (by simpa using z)⟩⟩
  · obtain ⟨H0, Bc, η, S, d, S', b, F, hd, hb, q⟩ := h
    obtain ⟨rfl, v, e1, r, _⟩ := key F hd
    exact ⟨v, e1, b, truV_of r hb, q H Ext.refl F.src⟩
end
section
variable {pos : Pos}
theorem se_con {k : Const} {d : D} {j : Nat} (h : cCon k = some d) : SE X pc ps Φ G (.Constant k j pos) (.con d) := by
  have fin : ∀ v, (∀ H B, Rp X.K pc H B v d) → PE X (.Constant k j pos) (tC v) → SE X pc ps Φ G (.Constant k j pos) (.con d) := fun v r pe => .plain rfl (pe.imp fun σ H Q h => by
    obtain ⟨H0, Bc, η, S, d', S', F, hd, q⟩ := h
    simp only [den] at hd
    cases hd
    exact q v H (Got.same F.src (r _ _)))
  cases k with
  | none => cases h; exact fin .non (fun _ _ => .non) pe_non
  | bool b => cases h; exact fin (.bl b) (fun _ _ => .bl b) pe_bl
  | int i => cases h; exact fin (.int i) (fun _ _ => .int i) pe_int
  | str x =>
    simp only [cCon] at h
    split at h
    · rename_i hl
      cases h
      exact fin (.str x) (fun _ _ => .str x (by rw [sizeLine_eq]; omega)) pe_str
    · cases h
  | _ => cases h
theorem isNew_bin {o : BOp} {a b : E} {d : D} : isNew (.bin o a b) d = newBin o d := by
  cases o <;> cases d <;> rfl
theorem se_bin {a b : Expr} {ta tb : E} {op : Operator} {o : BOp} (ho : cOp op = some o) (ha : ST X pc ps Φ G a ta) (hb : ST X pc ps Φ G b tb) : SE X pc ps Φ G (.BinOp a op b pos) (.bin o ta tb) := by
  have ho := bOp_of ho
  subst ho
  refine .plain rfl ((pe_op (op_bin (pc := pc) (ps := ps) o) ha.pe hb.pe).imp fun σ H Q h => ?_)
  obtain ⟨H0, Bc, η, S, d, S', F, hd, q⟩ := h
  obtain ⟨x, S1, y, h1, h2, h3⟩ := den_bin hd
  refine ⟨H0, Bc, η, S, x, S1, F, h1, fun v H1 g1 => ?_⟩
  have F1 := F.step g1.ext g1.src
  refine ⟨H0, Bc, η, S1, y, S', F1, h2, fun w H2 g2 => ?_⟩
  have F2 := F1.step g2.ext g2.src
  exact ⟨Own Bc η σ, x, y, d, S', fun a h => F2.trk h, g2.src, g1.rp.ext g2.ext g1.src, g2.rp, h3, fun v' H' g => q v' H' (by rw [isNew_bin]; exact g.after (g1.ext.trans g2.ext) g2.src)⟩
theorem behind_of {op : CmpOp} {b : Expr} (h : noSet b = true) : behindInMarks op b = false := by
  cases b <;> first | (cases h; done) | (cases op <;> rfl)
theorem cmp_step {ta tb : E} {o : COp} {σ : Sg} {H H0 : Hp} {Bc : Addr → Prop} {η : Env} {S S' : Sc} {d : D} {Q : VK} (F : Fr X.K pc ps H0 Bc η σ H S) (hd : den Φ G (.cmp o ta tb) η S = some (d, S'))
    (q : ∀ k H', d = .bool k → Ext pc H H' → Src pc ps H' S' → Q (.bl k) H') : tOp (rCm X.K pc ps (cmpD o)) (tT X.K pc ps (denT Φ G ta) fun η => !ownedE η ta) (tT X.K pc ps (denT Φ G tb) fun η => !ownedE η tb) σ H Q := by
  obtain ⟨x, S1, y, k, h1, h2, h3, rfl⟩ := den_cmp hd
  refine ⟨H0, Bc, η, S, x, S1, F, h1, fun v H1 g1 => ?_⟩
  have F1 := F.step g1.ext g1.src
  refine ⟨H0, Bc, η, S1, y, S', F1, h2, fun w H2 g2 => ?_⟩
  exact ⟨Own Bc η σ, x, y, k, g1.rp.ext g2.ext g1.src, g2.rp, h3, q k H2 rfl (g1.ext.trans g2.ext) g2.src⟩
theorem se_cmp {a b : Expr} {ta tb : E} {op : CmpOp} {o : COp} (hu : X.A.units + 65 < cLine) (ho : cCmp op = some o) (hs : noSet b = true) (ha : ST X pc ps Φ G a ta) (hb : ST X pc ps Φ G b tb) : SE X pc ps Φ G (.Compare a [op] [b] pos) (.cmp o ta tb) := by
  have hm := behind_of (op := op) hs
  have hop : op = kOp o := kOp_of ho
  have hr : OpR X (compareOp op) (rCm X.K pc ps (cmpD o)) := by rw [hop]; exact op_cmp o hu
  refine ⟨rfl, (pe_cmpR hr ha.pe hb.pe hm).imp fun σ H Q h => ?_, (pt_cmpR hr ha.pe hb.pe hm).imp fun σ H Q h => ?_, fun z => nomatch z⟩
  · obtain ⟨H0, Bc, η, S, d, S', F, hd, q⟩ := h
    exact cmp_step F hd fun k H' e x s => by
      subst e
      exact q _ _ ⟨x, s, .bl k, fun z => nomatch z⟩
  · obtain ⟨H0, Bc, η, S, d, S', b, F, hd, hb, q⟩ := h
    exact cmp_step F hd fun k H' e x s => by
      subst e
      cases hb
      exact ⟨_, rfl, q H' x s⟩
theorem chain_step {ta tb tc : E} {o o' : COp} {σ : Sg} {H H0 : Hp} {Bc : Addr → Prop} {η : Env} {S S' : Sc} {d : D} {Q : VK} (F : Fr X.K pc ps H0 Bc η σ H S) (hd : den Φ G (.chain o o' ta tb tc) η S = some (d, S'))
    (q : ∀ k H', d = .bool k → Ext pc H H' → Src pc ps H' S' → Q (.bl k) H') : tChain (rCm X.K pc ps (cmpD o)) (rCm X.K pc ps (cmpD o')) (tD X.K pc ps (den Φ G ta) (isNew ta)) (tD X.K pc ps (den Φ G tb) (isNew tb)) (tD X.K pc ps (den Φ G tc) (isNew tc)) σ H Q := by
  obtain ⟨x, S1, y, S2, k, h1, h2, h3, h4⟩ := den_chain hd
  refine ⟨H0, Bc, η, S, x, S1, F, h1, fun v H1 g1 => ?_⟩
  have F1 := F.step g1.ext g1.src
  refine ⟨H0, Bc, η, S1, y, S2, F1, h2, fun w H2 g2 => ?_⟩
  have F2 := F1.step g2.ext g2.src
  refine ⟨Own Bc η σ, x, y, k, .of (g1.rp.keep (g2.ext.keep g1.src)), .of g2.rp, h3, k, rfl, ?_⟩
  cases k with
  | true =>
    simp only [reduceIte] at h4 ⊢
    obtain ⟨z, m, h5, h6, rfl⟩ := h4
    refine ⟨H0, Bc, η, S2, z, S', F2, h5, fun u H3 g3 => ?_⟩
    exact ⟨Own Bc η σ, y, z, m, .of (g2.rp.keep (g3.ext.keep g2.src)), .of g3.rp, h6, q m H3 rfl ((g1.ext.trans g2.ext).trans g3.ext) g3.src⟩
  | false =>
    simp only [Bool.false_eq_true, reduceIte] at h4 ⊢
    obtain ⟨rfl, rfl⟩ := h4
    exact q false H2 rfl (g1.ext.trans g2.ext) g2.src
theorem lastMarks_of {op op' : CmpOp} {b c : Expr} (h : noSet b = true) (h' : noSet c = true) : lastMarks [op, op'] [b, c] = false := by
  have e1 := behind_of (op := op) h
  have e2 := behind_of (op := op') h'
  simp [lastMarks, e1, e2]
theorem se_chain {a b c : Expr} {ta tb tc : E} {op op' : CmpOp} {o o' : COp} (hu : X.A.units + 65 < cLine) (ho : cCmp op = some o) (ho' : cCmp op' = some o') (hs : noSet b = true) (hs' : noSet c = true) (ha : SE X pc ps Φ G a ta) (hb : SE X pc ps Φ G b tb) (hc : SE X pc ps Φ G c tc) :
    SE X pc ps Φ G (.Compare a [op, op'] [b, c] pos) (.chain o o' ta tb tc) := by
  have hm := lastMarks_of (op := op) (op' := op') hs hs'
  have hr : OpR X (compareOp op) (rCm X.K pc ps (cmpD o)) := by rw [kOp_of ho]; exact op_cmp o hu
  have hr' : OpR X (compareOp op') (rCm X.K pc ps (cmpD o')) := by rw [kOp_of ho']; exact op_cmp o' hu
  refine ⟨rfl, (pe_chain hr hr' ha.pe hb.pe hc.pe hm).imp fun σ H Q h => ?_, (pt_chain hr hr' ha.pe hb.pe hc.pe hm).imp fun σ H Q h => ?_, fun z => nomatch z⟩
  · obtain ⟨H0, Bc, η, S, d, S', F, hd, q⟩ := h
    exact chain_step F hd fun k H' e x s => by
      subst e
      exact q _ _ ⟨x, s, .bl k, fun z => nomatch z⟩
  · obtain ⟨H0, Bc, η, S, d, S', b, F, hd, hb, q⟩ := h
    exact chain_step F hd fun k H' e x s => by
      subst e
      cases hb
      exact ⟨_, rfl, q H' x s⟩
theorem se_one {a : Expr} {t : E} {op : BoolOp} (h : SE X pc ps Φ G a t) : SE X pc ps Φ G (.BoolOp op [a] pos) t := by
  have w : PW X (.BoolOp op [a] pos) (Dv.tB X.K pc ps (den Φ G t)) := by
    cases op with
    | And => exact pw_and1 h.pt
    | Or => exact pw_or1 h.pt
  exact ⟨h.no, pe_one h.pe, w.pt, fun _ => w⟩
theorem se_and {a b : Expr} {rest : List Expr} {ta tb : E} (ha : ST X pc ps Φ G a ta) (hb : SE X pc ps Φ G (.BoolOp .And (b :: rest) pos) tb) : SE X pc ps Φ G (.BoolOp .And (a :: b :: rest) pos) (.and ta tb) := by
  have w : PW X (.BoolOp .And (a :: b :: rest) pos) (Dv.tB X.K pc ps (den Φ G (.and ta tb))) := by
    refine (pw_and ha.pt (hb.pw rfl)).imp fun σ H Q h => ?_
    obtain ⟨H0, Bc, η, S, d, S', b, F, hd, hb, q⟩ := h
    obtain ⟨x, S1, k, h1, h2, h3⟩ := den_and hd
    refine ⟨H0, Bc, η, S, x, S1, k, F, h1, h2, fun H1 x1 s1 => ?_⟩
    have F1 := F.step x1 s1
    cases k with
    | true =>
      simp only [reduceIte] at h3 ⊢
      exact ⟨H0, Bc, η, S1, d, S', b, F1, h3, hb, fun H2 x2 s2 => q H2 (x1.trans x2) s2⟩
    | false =>
      simp only [Bool.false_eq_true, reduceIte] at h3 ⊢
      obtain ⟨rfl, rfl, _⟩ := h3
      rw [h2] at hb
      cases hb
      exact q H1 x1 s1
  refine ⟨rfl, (pe_andT ha.pe hb.pe).imp fun σ H Q h => ?_, w.pt, fun _ => w⟩
  obtain ⟨H0, Bc, η, S, d, S', F, hd, q⟩ := h
  obtain ⟨x, S1, k, h1, h2, h3⟩ := den_and hd
  refine ⟨H0, Bc, η, S, x, S1, F, h1, fun v H1 g1 => ⟨k, truV_of g1.rp h2, ?_⟩⟩
  have F1 := F.step g1.ext g1.src
  cases k with
  | true =>
    simp only [reduceIte] at h3 ⊢
    exact ⟨H0, Bc, η, S1, d, S', F1, h3, fun v H2 g2 => q v H2 ((g2.after g1.ext g1.src).weaken fun z => nomatch z)⟩
  | false =>
    simp only [Bool.false_eq_true, reduceIte] at h3 ⊢
    obtain ⟨rfl, rfl, ho⟩ := h3
    exact q v H1 ⟨g1.ext, g1.src, g1.cl (by simp [ho]), fun z => nomatch z⟩
theorem se_or {a b : Expr} {rest : List Expr} {ta tb : E} (ha : ST X pc ps Φ G a ta) (hb : SE X pc ps Φ G (.BoolOp .Or (b :: rest) pos) tb) : SE X pc ps Φ G (.BoolOp .Or (a :: b :: rest) pos) (.or ta tb) := by
  have w : PW X (.BoolOp .Or (a :: b :: rest) pos) (Dv.tB X.K pc ps (den Φ G (.or ta tb))) := by
    refine (pw_or ha.pt (hb.pw rfl)).imp fun σ H Q h => ?_
    obtain ⟨H0, Bc, η, S, d, S', b, F, hd, hb, q⟩ := h
    obtain ⟨x, S1, k, h1, h2, h3⟩ := den_or hd
    refine ⟨H0, Bc, η, S, x, S1, k, F, h1, h2, fun H1 x1 s1 => ?_⟩
    have F1 := F.step x1 s1
    cases k with
    | false =>
      simp only [Bool.false_eq_true, reduceIte] at h3 ⊢
      exact ⟨H0, Bc, η, S1, d, S', b, F1, h3, hb, fun H2 x2 s2 => q H2 (x1.trans x2) s2⟩
    | true =>
      simp only [reduceIte] at h3 ⊢
      obtain ⟨rfl, rfl, _⟩ := h3
      rw [h2] at hb
      cases hb
      exact q H1 x1 s1
  refine ⟨rfl, (pe_orT ha.pe hb.pe).imp fun σ H Q h => ?_, w.pt, fun _ => w⟩
  obtain ⟨H0, Bc, η, S, d, S', F, hd, q⟩ := h
  obtain ⟨x, S1, k, h1, h2, h3⟩ := den_or hd
  refine ⟨H0, Bc, η, S, x, S1, F, h1, fun v H1 g1 => ⟨k, truV_of g1.rp h2, ?_⟩⟩
  have F1 := F.step g1.ext g1.src
  cases k with
  | false =>
    simp only [Bool.false_eq_true, reduceIte] at h3 ⊢
    exact ⟨H0, Bc, η, S1, d, S', F1, h3, fun v H2 g2 => q v H2 ((g2.after g1.ext g1.src).weaken fun z => nomatch z)⟩
  | true =>
    simp only [reduceIte] at h3 ⊢
    obtain ⟨rfl, rfl, ho⟩ := h3
    exact q v H1 ⟨g1.ext, g1.src, g1.cl (by simp [ho]), fun z => nomatch z⟩
theorem se_not {a : Expr} {ta : E} (ha : ST X pc ps Φ G a ta) : SE X pc ps Φ G (.UnaryOp .Not a pos) (.not ta) := by
  refine ⟨rfl, (pe_notT ha.pe).imp fun σ H Q h => ?_, (pt_not ha.pt).imp fun σ H Q h => ?_, fun z => nomatch z⟩
  · obtain ⟨H0, Bc, η, S, d, S', F, hd, q⟩ := h
    obtain ⟨x, k, h1, h2, rfl⟩ := den_not hd
    exact ⟨H0, Bc, η, S, x, S', F, h1, fun v H1 g1 => ⟨k, truV_of g1.rp h2, q _ H1 ⟨g1.ext, g1.src, .bl _, fun z => nomatch z⟩⟩⟩
  · obtain ⟨H0, Bc, η, S, d, S', b, F, hd, hb, q⟩ := h
    obtain ⟨x, k, h1, h2, rfl⟩ := den_not hd
    cases hb
    exact ⟨H0, Bc, η, S, x, S', k, F, h1, h2, fun H1 x1 s1 => q H1 x1 s1⟩
theorem se_ite {c a b : Expr} {tc ta tb : E} (hc : ST X pc ps Φ G c tc) (ha : SE X pc ps Φ G a ta) (hb : SE X pc ps Φ G b tb) : SE X pc ps Φ G (.IfExp c a b pos) (.ite tc ta tb) := by
  refine ⟨rfl, (pe_ifExp hc.pt ha.pe hb.pe).imp fun σ H Q h => ?_, ⟨fun pins s σ H Q I h => ?_⟩, fun z => nomatch z⟩
  · obtain ⟨H0, Bc, η, S, d, S', F, hd, q⟩ := h
    obtain ⟨x, S1, k, h1, h2, h3⟩ := den_ite hd
    refine ⟨H0, Bc, η, S, x, S1, k, F, h1, h2, fun H1 x1 s1 => ?_⟩
    have F1 := F.step x1 s1
    cases k with
    | true =>
      simp only [reduceIte] at h3 ⊢
      exact ⟨H0, Bc, η, S1, d, S', F1, h3, fun v H2 g2 => q v H2 ((g2.after x1 s1).weaken fun z => nomatch z)⟩
    | false =>
      simp only [Bool.false_eq_true, reduceIte] at h3 ⊢
      exact ⟨H0, Bc, η, S1, d, S', F1, h3, fun v H2 g2 => q v H2 ((g2.after x1 s1).weaken fun z => nomatch z)⟩
  · obtain ⟨H0, Bc, η, S, d, S', b, F, hd, hb', q⟩ := h
    obtain ⟨x, S1, k, h1, h2, h3⟩ := den_ite hd
    refine isTrue_IfExp (thn (hc.pt.run pins s σ H (fun b1 H1 => b1 = k ∧ Ext pc H H1 ∧ Src pc ps H1 S1) I ⟨H0, Bc, η, S, x, S1, k, F, h1, h2, fun H1 x1 s1 => ⟨rfl, x1, s1⟩⟩) fun k' s1 h4 => ?_)
    obtain ⟨H1, I1, rfl, x1, s1'⟩ := h4
    have F1 := F.step x1 s1'
    cases k' with
    | true =>
      simp only [reduceIte] at h3
      exact ha.pt.run pins s1 σ H1 Q I1 ⟨H0, Bc, η, S1, d, S', b, F1, h3, hb', fun H2 x2 s2 => q H2 (x1.trans x2) s2⟩
    | false =>
      simp only [Bool.false_eq_true, reduceIte] at h3
      exact hb.pt.run pins s1 σ H1 Q I1 ⟨H0, Bc, η, S1, d, S', b, F1, h3, hb', fun H2 x2 s2 => q H2 (x1.trans x2) s2⟩
end
end
end Dv

/-! Dv14: arguments, displays, subscripts, slices, built-ins, get. -/
namespace Dv
open PySem PySem.Spec PyProof.Rows L2

section
variable {X : Cx} {pc ps : Addr} {Φ : Callee} {G : Str → Option D} {pos : Pos}
/-! ### lists of expressions -/
theorem mapM_inv {α β : Type} {f : α → Option β} : ∀ {l : List α} {r : List β}, l.mapM f = some r → Paired (fun a b => f a = some b) l r
  | [], r, h => by
    rw [List.mapM_nil] at h
    cases h
    exact .nil
  | a :: l, r, h => by
    rw [List.mapM_cons] at h
    cases h1 : f a with
    | none => rw [h1] at h; cases h
    | some b =>
      rw [h1] at h
      cases h2 : l.mapM f with
      | none => rw [h2] at h; cases h
      | some bs =>
        rw [h2] at h
        cases h
        exact .cons h1 (mapM_inv h2)
theorem star_of {e : Expr} {es : List Expr} {env : PySem.Env} (h : notStar e = true) : starEach (e :: es) env = (false, eval e env) :: starEach es env := by
  cases e <;> first | (cases h; done) | rfl
theorem star_all {env : PySem.Env} {pos : Pos} : ∀ {es : List Expr}, es.all notStar = true → (backTo pos (starEach es env)).any (·.1) = false
  | [], _ => rfl
  | e :: es, h => by
    simp only [List.all_cons, Bool.and_eq_true] at h
    rw [star_of h.1]
    have ih := star_all (env := env) (pos := pos) h.2
    simp only [backTo, List.map_cons, List.any_cons, Bool.false_or] at ih ⊢
    exact ih
/-- a list of expressions' reading -/
def tLs (K : PySem.W.Frag) (pc ps : Addr) (f : Dv.Env → Sc → Option (List D × Sc)) : TA := fun σ H Q => ∃ H0 Bc η S ds S', Fr K pc ps H0 Bc η σ H S ∧ f η S = some (ds, S') ∧ ∀ vs H', Ext pc H H' → Src pc ps H' S' → RpAll K pc H' (Own Bc η σ) vs ds → Q vs H'
theorem pa_ls : ∀ {es : List Expr} {ts : List E}, es.all notStar = true → Paired (SE X pc ps Φ G) es ts → PA X es (tLs X.K pc ps (denL Φ G ts))
  | _, _, _, .nil => ⟨fun p pins s σ H Q I h => by
    obtain ⟨H0, Bc, η, S, ds, S', F, hd, q⟩ := h
    obtain ⟨rfl, rfl⟩ := denL_nil hd
    exact pa_nil.run p pins s σ H Q I (q [] H Ext.refl F.src .nil)⟩
  | _, _, hs, .cons h t => by
    simp only [List.all_cons, Bool.and_eq_true] at hs
    refine (pa_cons h.pe (pa_ls hs.2 t) (star_of hs.1)).imp fun σ H Q q => ?_
    obtain ⟨H0, Bc, η, S, ds, S', F, hd, q⟩ := q
    obtain ⟨x, S1, ys, h1, h2, rfl⟩ := denL_cons hd
    refine ⟨H0, Bc, η, S, x, S1, F, h1, fun v H1 g1 => ?_⟩
    have F1 := F.step g1.ext g1.src
    exact ⟨H0, Bc, η, S1, ys, S', F1, h2, fun vs H2 x2 s2 r2 => q _ H2 (g1.ext.trans x2) s2 (.cons (g1.rp.keep (x2.keep g1.src)) r2)⟩
theorem RpTs.ext {K : PySem.W.Frag} {B : Addr → Prop} {H H' : Hp} {S : Sc} (x : Ext pc H H') (s : Src pc ps H S) : ∀ {vs : List V} {ds : List D}, RpTs K pc H B vs ds → RpTs K pc H' B vs ds
  | _, _, .nil => .nil
  | _, _, .cons r t => .cons (r.ext x s) (RpTs.ext x s t)
/-- arguments' reading -/
def tAs (K : PySem.W.Frag) (pc ps : Addr) (f : Dv.Env → Sc → Option (List D × Sc)) (own : Dv.Env → Bool) : TA := fun σ H Q => ∃ H0 Bc η S ds S', Fr K pc ps H0 Bc η σ H S ∧ f η S = some (ds, S') ∧
  ∀ vs H', Ext pc H H' → Src pc ps H' S' → RpTs K pc H' (Own Bc η σ) vs ds → (own η = false → RpAll K pc H' (Own Bc η σ) vs ds) → Q vs H'
theorem pa_as : ∀ {es : List Expr} {ts : List E}, es.all notStar = true → Paired (ST X pc ps Φ G) es ts → PA X es (tAs X.K pc ps (denA Φ G ts) fun η => ts.any (ownedE η))
  | _, _, _, .nil => ⟨fun p pins s σ H Q I h => by
    obtain ⟨H0, Bc, η, S, ds, S', F, hd, q⟩ := h
    obtain ⟨rfl, rfl⟩ := denA_nil hd
    exact pa_nil.run p pins s σ H Q I (q [] H Ext.refl F.src .nil fun _ => .nil)⟩
  | _, _, hs, .cons h t => by
    simp only [List.all_cons, Bool.and_eq_true] at hs
    refine (pa_cons h.pe (pa_as hs.2 t) (star_of hs.1)).imp fun σ H Q q => ?_
    obtain ⟨H0, Bc, η, S, ds, S', F, hd, q⟩ := q
    obtain ⟨x, S1, ys, h1, h2, rfl⟩ := denA_cons hd
    refine ⟨H0, Bc, η, S, x, S1, F, h1, fun v H1 g1 => ?_⟩
    have F1 := F.step g1.ext g1.src
    refine ⟨H0, Bc, η, S1, ys, S', F1, h2, fun vs H2 x2 s2 r2 c2 => q _ H2 (g1.ext.trans x2) s2 (.cons (g1.rp.ext x2 g1.src) r2) fun z => ?_⟩
    simp only [List.any_cons, Bool.or_eq_false_iff] at z
    exact .cons ((g1.cl (by simp [z.1])).keep (x2.keep g1.src)) (c2 z.2)
theorem se_tup {es : List Expr} {ts : List E} {k : Nat} (hs : es.all notStar = true) (h : Paired (SE X pc ps Φ G) es ts) : SE X pc ps Φ G (.Tuple es k pos) (.tup ts) := by
  refine .plain rfl ((pe_tupF (pa_ls hs h)).imp fun σ H Q q => ?_)
  obtain ⟨H0, Bc, η, S, d, S', F, hd, q⟩ := q
  obtain ⟨ds, h1, h2, rfl⟩ := den_tup hd
  refine ⟨H0, Bc, η, S, ds, S', F, h1, fun vs H1 x1 s1 r1 => ⟨by rw [r1.length]; exact h2, fun p o hp ho => ?_⟩⟩
  exact q _ _ ((Got.tup s1 hp ho (by rw [r1.length]; exact h2) r1).after x1 s1)
theorem se_lst {es : List Expr} {ts : List E} (hs : es.all notStar = true) (h : Paired (SE X pc ps Φ G) es ts) : SE X pc ps Φ G (.List es pos) (.lst ts) := by
  refine .plain rfl ((pe_lst (pa_ls hs h)).imp fun σ H Q q => ?_)
  obtain ⟨H0, Bc, η, S, d, S', F, hd, q⟩ := q
  obtain ⟨ds, h1, h2, rfl⟩ := den_lst hd
  refine ⟨H0, Bc, η, S, ds, S', F, h1, fun vs H1 x1 s1 r1 => ⟨by rw [r1.length]; exact h2, fun p hp => ?_⟩⟩
  have F1 := F.step x1 s1
  exact q _ _ ((Got.lst s1 (fun a h => F1.trk h) hp (by rw [r1.length]; exact h2) r1).after x1 s1)
theorem se_neg {a : Expr} {ta : E} (ha : SE X pc ps Φ G a ta) : SE X pc ps Φ G (.UnaryOp .USub a pos) (.neg ta) := by
  refine .plain rfl ((pe_un un_neg ha.pe).imp fun σ H Q h => ?_)
  obtain ⟨H0, Bc, η, S, d, S', F, hd, q⟩ := h
  obtain ⟨i, h1, rfl⟩ := den_neg hd
  exact ⟨H0, Bc, η, S, _, S', F, h1, fun v H1 g1 => ⟨i, g1.rp.intV, q _ H1 ⟨g1.ext, g1.src, .int _, fun z => nomatch z⟩⟩⟩
theorem plainIx_of {b : Expr} (h : plainIxB b = true) : PlainIx b := by
  intro o i
  cases b <;> first | (cases h; done) | rfl
theorem se_idx {a b : Expr} {ta tb : E} (hu : X.A.units + 1 < cLine) (hb' : plainIxB b = true) (ha : ST X pc ps Φ G a ta) (hb : SE X pc ps Φ G b tb) : SE X pc ps Φ G (.Subscript a b pos) (.idx ta tb) := by
  refine .plain rfl ((pe_ix (ix_data (pc := pc) (ps := ps) hu) ha.pe hb.pe (plainIx_of hb')).imp fun σ H Q h => ?_)
  obtain ⟨H0, Bc, η, S, d, S', F, hd, q⟩ := h
  obtain ⟨x, S1, y, h1, h2, h3⟩ := den_idx hd
  refine ⟨H0, Bc, η, S, x, S1, F, h1, fun v H1 g1 => ?_⟩
  have F1 := F.step g1.ext g1.src
  refine ⟨H0, Bc, η, S1, y, S', F1, h2, fun w H2 g2 => ?_⟩
  exact ⟨Own Bc η σ, x, y, d, S', g2.src, F.ownps, g1.rp.ext g2.ext g1.src, g2.rp, h3, fun u r => q u H2 ⟨g1.ext.trans g2.ext, g2.src, r, fun z => nomatch z⟩⟩
/-! ### slices -/
def partOf (e : Option Expr) (l : D) : Option (Option Int) := partD l
def tPo (K : PySem.W.Frag) (pc ps : Addr) (f : Dv.Env → Sc → R) (ok : D → Bool) : TO := fun σ H Q => ∃ H0 Bc η S l S', Fr K pc ps H0 Bc η σ H S ∧ f η S = some (l, S') ∧ ok l = true ∧ ∀ o H', Ext pc H H' → Src pc ps H' S' → partD l = some o → Q o H'
theorem po_of {r : Expr → Option E} {oe : Option Expr} {t : E} (h : optC r oe = some t) (hr : ∀ e t, r e = some t → SE X pc ps Φ G e t) : PO X oe (tPo X.K pc ps (den Φ G t) (okPart t)) := by
  cases oe with
  | none =>
    cases h
    refine ⟨fun pins s σ H Q I h => ?_⟩
    obtain ⟨H0, Bc, η, S, l, S', F, hd, hk, q⟩ := h
    simp only [den] at hd
    cases hd
    exact po_none.run pins s σ H Q I (q none H Ext.refl F.src rfl)
  | some e =>
    simp only [optC] at h
    obtain ⟨t', h1, h2⟩ := Option.bind_eq_some_iff.mp h
    split at h2
    · cases h2
    · rename_i hn
      cases h2
      refine ⟨fun pins s σ H Q I h => ?_⟩
      obtain ⟨H0, Bc, η, S, l, S', F, hd, hk, q⟩ := h
      refine (po_some (hr e t h1).pe).run pins s σ H Q I ⟨H0, Bc, η, S, l, S', F, hd, fun v H1 g1 => ?_⟩
      cases l with
      | int i => exact ⟨i, g1.rp.intV, q _ H1 g1.ext g1.src rfl⟩
      | none => exact absurd hk hn
      | _ => cases hk
theorem se_sl {a : Expr} {lo hi : Option Expr} {ta tl th : E} {p2 : Pos} {r : Expr → Option E} (ha : ST X pc ps Φ G a ta) (hl : optC r lo = some tl) (hh : optC r hi = some th) (hr : ∀ e t, r e = some t → SE X pc ps Φ G e t) :
    SE X pc ps Φ G (.Subscript a (.Slice lo hi none p2) pos) (.sl ta tl th) := by
  refine .plain rfl ((pe_slice (sl_data (pc := pc) (ps := ps)) ha.pe (po_of hl hr) (po_of hh hr)).imp fun σ H Q h => ?_)
  obtain ⟨H0, Bc, η, S, d, S', F, hd, q⟩ := h
  obtain ⟨x, S1, l, S2, h, h1, h2, h3, k1, k2, h4⟩ := den_sl hd
  refine ⟨H0, Bc, η, S, x, S1, F, h1, fun v H1 g1 => ?_⟩
  have F1 := F.step g1.ext g1.src
  refine ⟨H0, Bc, η, S1, l, S2, F1, h2, k1, fun o H2 x2 s2 e2 => ?_⟩
  have F2 := F1.step x2 s2
  refine ⟨H0, Bc, η, S2, h, S', F2, h3, k2, fun o' H3 x3 s3 e3 => ?_⟩
  have F3 := F2.step x3 s3
  have x13 := x2.trans x3
  refine ⟨Own Bc η σ, x, S', fun a h => F3.trk h, s3, g1.rp.ext x13 g1.src, ?_⟩
  cases x with
  | list ds =>
    simp only [slD, e2, e3, Option.bind_some, Option.map_some] at h4
    cases h4
    exact .inl ⟨ds, rfl, fun v' H' g => q v' H' (g.after (g1.ext.trans x13) s3)⟩
  | tuple ds =>
    simp only [slD, e2, e3, Option.bind_some, Option.map_some] at h4
    cases h4
    exact .inr ⟨ds, rfl, fun v' H' g => q v' H' (g.after (g1.ext.trans x13) s3)⟩
  | _ => simp [slD] at h4
theorem se_rev {a : Expr} {ta : E} {k : Nat} {p1 p2 p3 : Pos} (ha : ST X pc ps Φ G a ta) : SE X pc ps Φ G (.Subscript a (.Slice none none (some (.UnaryOp .USub (.Constant (.int 1) k p1) p2)) p3) pos) (.rev ta) := by
  refine .plain rfl ((pe_revL ha.pe).imp fun σ H Q h => ?_)
  obtain ⟨H0, Bc, η, S, d, S', F, hd, q⟩ := h
  obtain ⟨xs, h1, rfl⟩ := den_rev hd
  refine ⟨H0, Bc, η, S, _, S', F, h1, fun v H1 g1 => ?_⟩
  obtain ⟨a', ys, rfl, ha', _, hz, ra⟩ := g1.rp.list
  have F1 := F.step g1.ext g1.src
  exact ⟨a', ys, rfl, SqL.of ha', fun p hp => q _ _ ((Got.lst g1.src (fun a h => F1.trk h) hp (by rw [List.length_reverse]; exact hz) ra.reverse).after g1.ext g1.src)⟩
/-! ### get -/
theorem base_of {o : Expr} {m : Str} {env : PySem.Env} {w : Sem Value} (h : plainBase o = true) : attributeBase o m env w = w := by
  cases o with
  | Call f as ks p =>
    cases as with
    | nil =>
      cases ks with
      | nil => cases h
      | cons _ _ => cases f <;> rfl
    | cons _ _ => cases f <;> rfl
  | _ => rfl
theorem m1_of {o e : Expr} {m : Str} {apos cpos : Pos} (h1 : plainBase o = true) (h2 : (apos.endLine == cpos.line) = true) (h3 : notStar e = true) : M1 X o m apos e cpos := by
  have s1 : starEach [e] X.env = [(false, eval e X.env)] := star_of h3
  refine ⟨base_of h1, ?_, h2, ?_⟩
  · rw [s1]; rfl
  · rw [s1]; rfl
theorem m2_of {o e f : Expr} {m : Str} {apos cpos : Pos} (h1 : plainBase o = true) (h2 : (apos.endLine == cpos.line) = true) (h3 : notStar e = true) (h4 : notStar f = true) : M2 X o m apos e f cpos := by
  have s1 : starEach [e, f] X.env = [(false, eval e X.env), (false, eval f X.env)] := by
    rw [star_of h3, star_of h4]; rfl
  refine ⟨base_of h1, ?_, h2, ?_⟩
  · rw [s1]; rfl
  · rw [s1]; rfl
theorem get_rp {K : PySem.W.Frag} {B : Addr → Prop} {H : Hp} {ks : List (Key × V)} {ds : List D} {i : Int} {v : V} {d : D} (r : RpAll K pc H B (ks.map (·.2)) ds) (rd : Rp K pc H B v d) :
    Rp K pc H B ((valV ks (.inl i)).getD v) ((lookI ((ks.map fun k => keyD k.1).zip ds) i).getD d) := by
  rcases look_int i r with ⟨e1, e2⟩ | ⟨d', w, e1, e2, e3⟩
  · rw [e1, e2]; exact rd
  · rw [e1, e2]; exact e3
theorem se_get {o k : Expr} {to tk : E} {m : Str} {apos : Pos} (hu : X.A.units + 1 < cLine) (hm : isStr m "get" = true) (h1 : plainBase o = true) (h2 : (apos.endLine == pos.line) = true) (h3 : notStar k = true) (ho : ST X pc ps Φ G o to) (hk : SE X pc ps Φ G k tk) :
    SE X pc ps Φ G (.Call (.Attribute o m apos) [k] [] pos) (.get to tk) := by
  have hm : m = "get" := of_decide_eq_true hm
  subst hm
  refine .plain rfl ((pe_dget1 hu ho.pe hk.pe (m1_of h1 h2 h3)).imp fun σ H Q h => ?_)
  obtain ⟨H0, Bc, η, S, d, S', F, hd, q⟩ := h
  obtain ⟨x, S1, kvs, i, e1, e2, e3, rfl⟩ := den_get hd
  refine ⟨H0, Bc, η, S, x, S1, F, e1, fun v H1 g1 => ?_⟩
  have F1 := F.step g1.ext g1.src
  obtain ⟨a, ks, ds, rfl, t1, t2, t3, t4, rfl⟩ := g1.rp.tab e2
  refine ⟨a, rfl, .inl ⟨ks, .of t1⟩, H0, Bc, η, S1, _, S', F1, e3, fun w H2 g2 => ?_⟩
  cases g2.rp.intV
  exact ⟨_, dget_int i (g2.ext _ _ t2 t1), q _ H2 ⟨g1.ext.trans g2.ext, g2.src, get_rp (t4.keep (g2.ext.keep g1.src)) .non, fun z => nomatch z⟩⟩
theorem se_get2 {o k e : Expr} {to tk te : E} {m : Str} {apos : Pos} (hu : X.A.units + 1 < cLine) (hm : isStr m "get" = true) (h1 : plainBase o = true) (h2 : (apos.endLine == pos.line) = true) (h3 : notStar k = true) (h4 : notStar e = true) (ho : ST X pc ps Φ G o to) (hk : SE X pc ps Φ G k tk) (he : SE X pc ps Φ G e te) :
    SE X pc ps Φ G (.Call (.Attribute o m apos) [k, e] [] pos) (.get2 to tk te) := by
  have hm : m = "get" := of_decide_eq_true hm
  subst hm
  refine .plain rfl ((pe_dget2 hu ho.pe hk.pe he.pe (m2_of h1 h2 h3 h4)).imp fun σ H Q h => ?_)
  obtain ⟨H0, Bc, η, S, d, S', F, hd, q⟩ := h
  obtain ⟨x, S1, kvs, i, S2, y, e1, e2, e3, e4, rfl⟩ := den_get2 hd
  refine ⟨H0, Bc, η, S, x, S1, F, e1, fun v H1 g1 => ?_⟩
  have F1 := F.step g1.ext g1.src
  obtain ⟨a, ks, ds, rfl, t1, t2, t3, t4, rfl⟩ := g1.rp.tab e2
  refine ⟨a, rfl, .inl ⟨ks, .of t1⟩, H0, Bc, η, S1, _, S2, F1, e3, fun w H2 g2 => ?_⟩
  cases g2.rp.intV
  have F2 := F1.step g2.ext g2.src
  refine ⟨H0, Bc, η, S2, y, S', F2, e4, fun u H3 g3 => ?_⟩
  have x13 := g2.ext.trans g3.ext
  exact ⟨_, dget_int i (x13 _ _ t2 t1), q _ H3 ⟨g1.ext.trans x13, g3.src, get_rp (t4.keep (x13.keep g1.src)) g3.rp, fun z => nomatch z⟩⟩
end
end Dv

/-! Dv15: calls: built-ins, the program's defs. -/
namespace Dv
open PySem PySem.Spec PyProof.Rows L2

/-- a def's promise -/
def spF (K : PySem.W.Frag) (pc ps : Addr) (Φ : Callee) (f : Str) (m : Nat) : Sp := fun vs H Q _ => ∃ Bc S ds d nw S', vs.length = m ∧ Src pc ps H S ∧ (∀ a, Bc a → ∃ o, H a = some o) ∧ ¬ Bc ps ∧ ¬ Bc pc ∧ RpAll K pc H Bc vs ds ∧ Φ f ds S = some (d, nw, S') ∧
  ∀ v H', Ext pc H H' → Src pc ps H' S' → Rp K pc H' Bc v d → (nw = true → ∃ p, v = .ref p ∧ H p = none) → Q v H'
/-- what is known where code of the program runs -/
structure Good (X : Cx) (pc ps : Addr) (Φ : Callee) (G : Str → Option D) (c : Sco) : Prop where
  calm : X.calm = true
  nodup : X.N.Nodup
  sc : X.env.scope = c.sc
  fn : X.fn = c.fn
  units : X.A.units + 200 < cLine
  xe : X.xe = fun _ _ => False
  blt : ∀ x ∈ bltNames, X.mg x = none
  gcd : c.gcd = true → X.mg "gcd" = some (.builtin "math.gcd")
  glo : ∀ x d, G x = some d → ∃ v u, X.mg x = some u ∧ RelV v u ∧ ∀ H B, Rp X.K pc H B v d
  fns : ∀ f m, c.fns.lookup f = some m → ∃ k a fd pars, FnOk X.prog X.w X.K X.mg X.base CX0 k a fd pars (spF X.K pc ps Φ f m) ∧ Room k X.A ∧ X.mg f = some (.ref a) ∧ PySem.W.keepIn X.K (.ref a) = true ∧ Binds X.K fd pars []
section
variable {X : Cx} {pc ps : Addr} {Φ : Callee} {G : Str → Option D} {c : Sco} {pos p : Pos}
theorem Good.gl (g : Good X pc ps Φ G c) {x : Str} (h : glB c.sc x = true) : Gl X x := by
  unfold Gl Env.kindOf
  rw [g.sc]
  exact gl_of h
theorem se_glo (g : Good X pc ps Φ G c) {x : Str} (hn : okName x = true) (h : glB c.sc x = true) : SE X pc ps Φ G (.Name x pos) (.glo x) := by
  refine .plain rfl ⟨fun pins s σ H Q I q => ?_⟩
  obtain ⟨H0, Bc, η, S, d, S', F, hd, q⟩ := q
  simp only [den] at hd
  obtain ⟨d', h1, h2⟩ := Option.map_eq_some_iff.mp hd
  cases h2
  obtain ⟨v, u, h3, h4, h5⟩ := g.glo x _ h1
  exact (pe_glob (g.gl h) h3 h4 (ok1 hn)).run pins s σ H Q I (q v H (Got.same F.src (h5 _ _)))
theorem mem_blt {x : Str} (h : blt1 x ≠ none) : x ∈ bltNames ∧ x ≠ "__name__" ∧ (x == ("__debug__" : Str)) = false := by
  unfold blt1 at h
  repeat' (split at h)
  all_goals first | (subst x; decide) | exact absurd rfl h
theorem pe_blt1 (g : Good X pc ps Φ G c) {f : Str} {b : Blt} {e : Expr} {es : List Expr} {t : TA} (hf : glB c.sc f = true) (h : blt1 f = some b) (hs : (e :: es).all notStar = true) (ha : PA X (e :: es) t) :
    PE X (.Call (.Name f p) (e :: es) [] pos) (tCB (rBl X.K pc ps b) t) := by
  obtain ⟨m1, m2, m3⟩ := mem_blt (x := f) (by rw [h]; simp)
  have hs' : notStar e = true ∧ es.all notStar = true := by simpa using hs
  have hg := g.gl hf
  have hm := g.blt f m1
  have he := star_of (es := es) (env := X.env) hs'.1
  have hpl := star_all (env := X.env) (pos := pos) hs'.2
  have hu := g.units
  unfold blt1 at h
  split at h
  · subst f; cases h; exact pe_callB c_len hg hm (by rfl) ha m2 m3 he hpl
  split at h
  · subst f; cases h; exact pe_callTy c_tuple hg hm (by rfl) ha m2 m3 he hpl
  split at h
  · subst f; cases h; exact pe_callTy c_list hg hm (by rfl) ha m2 m3 he hpl
  split at h
  · subst f; cases h; exact pe_callB (c_sorted (by omega)) hg hm (by rfl) ha m2 m3 he hpl
  split at h
  · subst f; cases h; exact pe_callB (c_all g.calm) hg hm (by rfl) ha m2 m3 he hpl
  split at h
  · subst f; cases h; exact pe_callB (c_any g.calm) hg hm (by rfl) ha m2 m3 he hpl
  split at h
  · subst f; cases h; exact pe_callB (c_sum g.calm) hg hm (by rfl) ha m2 m3 he hpl
  split at h
  · subst f; cases h; exact pe_callB (c_min g.calm) hg hm (by rfl) ha m2 m3 he hpl
  split at h
  · subst f; cases h; exact pe_callB (c_max g.calm) hg hm (by rfl) ha m2 m3 he hpl
  split at h
  · subst f; cases h; exact pe_callTy c_int hg hm (by rfl) ha m2 m3 he hpl
  split at h
  · subst f; cases h; exact pe_callB c_abs hg hm (by rfl) ha m2 m3 he hpl
  split at h
  · subst f; cases h; exact pe_callTy (c_dict g.calm) hg hm (by rfl) ha m2 m3 he hpl
  · cases h
theorem pe_blt2 (g : Good X pc ps Φ G c) {f : Str} {b : Blt} {e : Expr} {es : List Expr} {t : TA} (hf : glB c.sc f = true) (h : blt2 f = some b) (hs : (e :: es).all notStar = true) (ha : PA X (e :: es) t) :
    PE X (.Call (.Name f p) (e :: es) [] pos) (tCB (rBl X.K pc ps b) t) := by
  have hs' : notStar e = true ∧ es.all notStar = true := by simpa using hs
  have hg := g.gl hf
  have he := star_of (es := es) (env := X.env) hs'.1
  have hpl := star_all (env := X.env) (pos := pos) hs'.2
  unfold blt2 at h
  split at h
  · subst f; cases h; exact pe_callB (c_max2 g.calm) hg (g.blt _ (by decide)) (by rfl) ha (by decide) (by decide) he hpl
  split at h
  · subst f; cases h; exact pe_callB (c_min2 g.calm) hg (g.blt _ (by decide)) (by rfl) ha (by decide) (by decide) he hpl
  · cases h
theorem isNew_blt {b : Blt} {es : List E} {d : D} : isNew (.blt b es) d = newB b := by cases b <;> rfl
/-- a built-in's call, its arguments' reading known -/
theorem se_blt {b : Blt} {es : List Expr} {ts : List E} {ce : Expr} (hs : es.all notStar = true) (ha : Paired (ST X pc ps Φ G) es ts) (he : ∀ whole, isTrue ce X.env whole = (do let v ← whole; standAt ce.pos; holding [v] (truthy v))) (hb : isBoolE ce = false)
    (h : ∀ t, PA X es t → PE X ce (tCB (rBl X.K pc ps b) t)) : SE X pc ps Φ G ce (.blt b ts) := by
  refine .plain rfl ((h _ (pa_as hs ha)).imp fun σ H Q q => ?_) he hb
  obtain ⟨H0, Bc, η, S, d, S', F, hd, q⟩ := q
  obtain ⟨ds, h1, h2⟩ := den_blt hd
  refine ⟨H0, Bc, η, S, ds, S', F, h1, fun vs H1 x1 s1 r1 _ => ?_⟩
  have F1 := F.step x1 s1
  exact ⟨Own Bc η σ, ds, d, S', fun a h => F1.trk h, s1, r1, h2, fun v H' g => q v H' (by rw [isNew_blt]; exact g.after x1 s1)⟩
/-! ### the program's defs -/
theorem RpAll.of_tops {K : PySem.W.Frag} {B : Addr → Prop} {H : Hp} : ∀ {vs : List V} {ds : List D}, RpTs K pc H B vs ds → RpAll K pc H (fun _ => False) vs ds
  | _, _, .nil => .nil
  | _, _, .cons r t => by
    refine .cons ?_ (RpAll.of_tops t)
    cases r with
    | of r => exact r.weak fun _ _ _ z => z.elim
    | lst h1 h2 h3 h4 => exact .lst h1 h2 (fun z => z) h3 (h4.weak fun _ _ _ z => z.elim)
    | dic h1 h2 h3 h4 => exact .dic h1 h2 (fun z => z) h3 (h4.weak fun _ _ _ z => z.elim)
theorem se_call (g : Good X pc ps Φ G c) {f : Str} {m : Nat} {e : Expr} {es : List Expr} {ts : List E} (hn : okName f = true) (hf : glB c.sc f = true) (hl : c.fns.lookup f = some m) (hm : (e :: es).length = m) (hs : (e :: es).all notStar = true) (ha : Paired (ST X pc ps Φ G) (e :: es) ts) :
    SE X pc ps Φ G (.Call (.Name f p) (e :: es) [] pos) (.call f ts) := by
  obtain ⟨k, a, fd, pars, fo, rm, mg, kp, bn⟩ := g.fns f m hl
  have hs' : notStar e = true ∧ es.all notStar = true := by simpa using hs
  refine .plain rfl ((pe_call (E := fun _ _ _ => False) fo rm (g.gl hf) mg kp bn .nil (fun _ _ _ _ _ _ _ z => False.elim z) (pa_as hs ha) (ok1 hn) (star_of hs'.1) (star_all hs'.2)).imp fun σ H Q q => ?_)
  obtain ⟨H0, Bc, η, S, d, S', F, hd, q⟩ := q
  obtain ⟨ds, S1, nw, h1, h2, h3⟩ := den_call hd
  refine ⟨H0, Bc, η, S, ds, S1, F, h1, fun vs H1 x1 s1 r1 c1 => ?_⟩
  have F1 := F.step x1 s1
  show spF X.K pc ps Φ f m (vs ++ []) H1 Q _
  rw [List.append_nil]
  have lenA : ∀ {vs : List V} {ds : List D}, RpTs X.K pc H1 (Own Bc η σ) vs ds → ds.length = vs.length := fun {vs ds} r => by
    induction r with
    | nil => rfl
    | cons _ _ ih => simp [ih]
  have lenD : ∀ {ts : List E} {ds : List D} {S S1 : Sc}, denA Φ G ts η S = some (ds, S1) → ds.length = ts.length := by
    intro ts
    induction ts with
    | nil =>
      intro ds S S1 h
      rw [(denA_nil h).1]
      rfl
    | cons t ts ih =>
      intro ds S S1 h
      obtain ⟨x, S2, ys, _, h2, rfl⟩ := denA_cons h
      simp [ih h2]
  have len : vs.length = m := by
    rw [← lenA r1, lenD h1, ← Paired.length ha, hm]
  by_cases ho : ts.any (ownedE η) = true
  · refine ⟨fun _ => False, S1, ds, d, nw, S', len, s1, fun _ z => z.elim, fun z => z, fun z => z, RpAll.of_tops r1, h2, fun v H2 x2 s2 r2 n2 => q v H2 ⟨x1.trans x2, s2, ?_, fun z => nomatch z⟩⟩
    rcases h3 with h3 | h3 | ⟨h3, h4⟩
    · rw [h3] at ho; cases ho
    · exact r2.clean h3
    · obtain ⟨p, rfl, hp⟩ := n2 h3
      cases d with
      | list ds =>
        cases r2 with
        | lst g1 g2 _ g3 g4 => exact .lst g1 g2 (F1.nown hp) g3 (g4.clean h4)
      | _ => cases h4
  · have ho : ts.any (ownedE η) = false := by simpa using ho
    exact ⟨Own Bc η σ, S1, ds, d, nw, S', len, s1, fun a h => F1.trk h, F1.ownps, F1.ownpc, c1 ho, h2, fun v H2 x2 s2 r2 _ => q v H2 ⟨x1.trans x2, s2, r2, fun z => nomatch z⟩⟩
end
end Dv

/-! Dv16: isinstance, gcd, sorted(set(..)), list(range(..)). -/
namespace Dv
open PySem PySem.Spec PyProof.Rows L2
section
variable {X : Cx} {pc ps : Addr} {Φ : Callee} {G : Str → Option D} {c : Sco} {pos p p2 : Pos}
theorem tyD_X {K : PySem.W.Frag} {B : Addr → Prop} {H : Hp} {v : V} {d : D} {t : String} (h : RpT K pc H B v d) (e : tyD d = some t) : TyX K H v (.type t) ∧ t ∈ ["NoneType", "bool", "int", "str", "list", "tuple"] := by
  cases d with
  | none => cases h.nonV; cases e; exact ⟨.base .non, by decide⟩
  | bool b => cases h.blV; cases e; exact ⟨.base (.bl b), by decide⟩
  | int i => cases h.intV; cases e; exact ⟨.base (.int i), by decide⟩
  | str x =>
    obtain ⟨rfl, _⟩ := h.strV
    cases e; exact ⟨.base (.str x), by decide⟩
  | list xs =>
    obtain ⟨a, ys, rfl, ha, _, _, _⟩ := h.list
    cases e
    exact ⟨.base (.lst ha), by decide⟩
  | tuple xs =>
    obtain ⟨a, ys, rfl, ha, _, _⟩ := h.tuple
    cases e
    rcases ha with ⟨o, ho, _⟩ | ⟨o, its, n, k1, k2, _⟩
    · exact ⟨.fTuple ho, by decide⟩
    · exact ⟨.kTuple k1 k2, by decide⟩
  | dict kvs => cases e
theorem kit_all {t T : String} (h : t ∈ ["NoneType", "bool", "int", "str", "list", "tuple"]) (h' : T ∈ ["int", "bool", "str", "tuple", "list"]) : kitB t T = some (isiOne t T) := by
  simp only [List.mem_cons, List.not_mem_nil, or_false] at h h'
  rcases h with rfl | rfl | rfl | rfl | rfl | rfl <;> rcases h' with rfl | rfl | rfl | rfl | rfl <;> decide +kernel
theorem tyName_mem {x : Str} {T : String} (h : tyName x = some T) : T ∈ ["int", "bool", "str", "tuple", "list"] ∧ x ∈ bltNames ∧ bootBuiltins x = some (.type T) ∧ x ≠ "__name__" ∧ (x == ("__debug__" : Str)) = false := by
  unfold tyName at h
  repeat' (split at h)
  all_goals first | (subst x; cases h; exact ⟨by decide, by decide, by rfl, by decide, by decide⟩) | cases h
theorem pe_ty (g : Good X pc ps Φ G c) {x : Str} {T : String} (hg : glB c.sc x = true) (h : tyName x = some T) : PE X (.Name x pos) (tC (.ty T)) := by
  obtain ⟨_, h2, h3, h4, h5⟩ := tyName_mem h
  exact pe_bltn (g.gl hg) (g.blt x h2) h3 rfl h4 h5
theorem den_blt1 {b : Blt} {t : E} {η : Env} {S S' : Sc} {r : D} (e : den Φ G (.blt b [t]) η S = some (r, S')) : ∃ x, denT Φ G t η S = some (x, S') ∧ bltD b [x] = some r := by
  obtain ⟨ds, h1, h2⟩ := den_blt e
  obtain ⟨x, S1, ys, h3, h4, rfl⟩ := denA_cons h1
  obtain ⟨rfl, rfl⟩ := denA_nil h4
  exact ⟨x, h3, h2⟩
theorem kitAny_all {K : PySem.W.Frag} {t : String} (h : t ∈ ["NoneType", "bool", "int", "str", "list", "tuple"]) : ∀ {ts : List String}, (∀ T ∈ ts, T ∈ ["int", "bool", "str", "tuple", "list"]) → PySem.W.kitAny K (.type t) (ts.map Value.type) = some (ts.any fun T => isiOne t T)
  | [], _ => rfl
  | T :: ts, hm => by
    have h1 : PySem.W.kitOne K (.type t) (.type T) = some (isiOne t T) := kit_ty (kit_all h (hm T List.mem_cons_self))
    have ih := kitAny_all (K := K) h (ts := ts) fun T hT => hm T (List.mem_cons_of_mem _ hT)
    rw [List.map_cons, List.any_cons]
    refine kitAny_cons h1 (fun e => ?_) fun e => ?_
    · rw [e, Bool.false_or]; exact ih
    · rw [e, Bool.true_or]
theorem se_isi1 (g : Good X pc ps Φ G c) {f x : Str} {a : Expr} {ta : E} {T : String} (hf : glB c.sc f = true) (hi : isStr f "isinstance" = true) (ha' : notStar a = true) (hx : glB c.sc x = true) (h : tyName x = some T) (ha : ST X pc ps Φ G a ta) :
    SE X pc ps Φ G (.Call (.Name f p) [a, .Name x p2] [] pos) (.blt (.isi [T]) [ta]) := by
  have hi : f = "isinstance" := of_decide_eq_true hi
  subst hi
  have he : starEach [a, .Name x p2] X.env = (false, eval a X.env) :: starEach [.Name x p2] X.env := star_of ha'
  refine .plain rfl ((pe_callB call_isi (g.gl hf) (g.blt _ (by decide)) (by rfl) (pa_cons ha.pe (pa_cons (pe_ty g hx h) pa_nil) he) (by decide) (by decide) he (by rfl)).imp fun σ H Q q => ?_)
  obtain ⟨H0, Bc, η, S, d, S', F, hd, q⟩ := q
  obtain ⟨y, h1, h2⟩ := den_blt1 hd
  obtain ⟨t, h3, rfl⟩ := Option.map_eq_some_iff.mp h2
  refine ⟨H0, Bc, η, S, y, S', F, h1, fun v H1 g1 => ?_⟩
  obtain ⟨h4, h5⟩ := tyD_X g1.rp h3
  refine ⟨v, .ty T, .type t, .type T, _, rfl, .ty T, h4, kit_ty (kit_all h5 (tyName_mem h).1), ?_⟩
  have e : ([T].any fun T => isiOne t T) = isiOne t T := by simp
  rw [e] at q
  exact q _ _ ⟨g1.ext, g1.src, .bl _, fun z => nomatch z⟩
theorem se_isi2 (g : Good X pc ps Φ G c) {f x y : Str} {a : Expr} {ta : E} {T U : String} {p3 pt : Pos} {kt : Nat} (hf : glB c.sc f = true) (hi : isStr f "isinstance" = true) (ha' : notStar a = true) (hx : glB c.sc x = true) (hy : glB c.sc y = true) (h : tyName x = some T) (h' : tyName y = some U) (ha : ST X pc ps Φ G a ta) :
    SE X pc ps Φ G (.Call (.Name f p) [a, .Tuple [.Name x p2, .Name y p3] kt pt] [] pos) (.blt (.isi [T, U]) [ta]) := by
  have hi : f = "isinstance" := of_decide_eq_true hi
  subst hi
  have he : starEach [a, .Tuple [.Name x p2, .Name y p3] kt pt] X.env = (false, eval a X.env) :: starEach [.Tuple [.Name x p2, .Name y p3] kt pt] X.env := star_of ha'
  have hT : PE X (.Tuple [.Name x p2, .Name y p3] kt pt) _ := pe_tup (pa_cons (pe_ty g hx h) (pa_cons (pe_ty g hy h') pa_nil))
  refine .plain rfl ((pe_callB call_isiT (g.gl hf) (g.blt _ (by decide)) (by rfl) (pa_cons ha.pe (pa_cons hT pa_nil) he) (by decide) (by decide) he (by rfl)).imp fun σ H Q q => ?_)
  obtain ⟨H0, Bc, η, S, d, S', F, hd, q⟩ := q
  obtain ⟨y', h1, h2⟩ := den_blt1 hd
  obtain ⟨t, h3, rfl⟩ := Option.map_eq_some_iff.mp h2
  refine ⟨H0, Bc, η, S, y', S', F, h1, fun v H1 g1 => ⟨by show 2 ≤ sizeLine; decide, fun tp hp => ?_⟩⟩
  have F1 := F.step g1.ext g1.src
  obtain ⟨h4, h5⟩ := tyD_X (g1.rp.ext (Ext.new (o := .tup [.ty T, .ty U]) hp) g1.src) h3
  refine ⟨v, tp, [.ty T, .ty U], .type t, [.type T, .type U], _, rfl, upd_same, .cons (.ty T) (.cons (.ty U) .nil), h4, kitAny_all (ts := [T, U]) h5 (fun Z hZ => ?_), ?_⟩
  · simp only [List.mem_cons, List.not_mem_nil, or_false] at hZ
    rcases hZ with rfl | rfl
    · exact (tyName_mem h).1
    · exact (tyName_mem h').1
  · exact q _ _ ⟨g1.ext.trans (Ext.new hp), g1.src.new hp, .bl _, fun z => nomatch z⟩
theorem se_gcd (g : Good X pc ps Φ G c) {f : Str} {es : List Expr} {ts : List E} (hf : glB c.sc f = true) (hi : isStr f "gcd" = true) (hg : c.gcd = true) (hl : es.length = 2) (hs : es.all notStar = true) (ha : Paired (ST X pc ps Φ G) es ts) :
    SE X pc ps Φ G (.Call (.Name f p) es [] pos) (.blt .gcd ts) := by
  have hi : f = "gcd" := of_decide_eq_true hi
  subst hi
  rcases es with _ | ⟨e, es⟩
  · cases hl
  · have hs' : notStar e = true ∧ es.all notStar = true := by simpa using hs
    exact se_blt hs ha (by intro _; rfl) rfl fun t pa => pe_callBfun c_gcd (g.gl hf) (g.gcd hg) pa (by decide) (star_of hs'.1) (star_all hs'.2)
theorem intsD_map : ∀ ns : List Int, intsD (ns.map PyData.int) = some ns
  | [] => rfl
  | n :: ns => by simp [intsD, intsD_map ns]
theorem se_sset (g : Good X pc ps Φ G c) {f f2 : Str} {a : Expr} {ta : E} {pos2 : Pos} (hf : glB c.sc f = true) (hf2 : glB c.sc f2 = true) (hi : isStr f "sorted" = true) (hi2 : isStr f2 "set" = true) (hs : notStar a = true) (ha : ST X pc ps Φ G a ta) :
    SE X pc ps Φ G (.Call (.Name f p) [.Call (.Name f2 p2) [a] [] pos2] [] pos) (.blt .sset [ta]) := by
  have hi : f = "sorted" := of_decide_eq_true hi
  have hi2 : f2 = "set" := of_decide_eq_true hi2
  subst hi hi2
  have he : starEach [a] X.env = (false, eval a X.env) :: starEach [] X.env := star_of hs
  have h1 : PE X (.Call (.Name "set" p2) [a] [] pos2) _ := pe_callTy (c_setL g.calm) (g.gl hf2) (g.blt _ (by decide)) (by rfl) (pa_cons ha.pe pa_nil he) (by decide) (by decide) he (by rfl)
  refine .plain rfl ((pe_callB (cr_sortedSet g.calm) (g.gl hf) (g.blt _ (by decide)) (by rfl) (pa_cons h1 pa_nil) (by decide) (by decide)).imp fun σ H Q q => ?_)
  obtain ⟨H0, Bc, η, S, d, S', F, hd, q⟩ := q
  obtain ⟨y, e1, e2⟩ := den_blt1 hd
  refine ⟨H0, Bc, η, S, y, S', F, e1, fun v H1 g1 => ?_⟩
  have F1 := F.step g1.ext g1.src
  cases y with
  | list xs =>
    obtain ⟨ns, e3, e4⟩ := Option.bind_eq_some_iff.mp e2
    split at e4
    · rename_i hl
      cases e4
      obtain ⟨l, ys, rfl, hl1, _, hz, ra⟩ := g1.rp.list
      cases ints_of ra e3
      refine ⟨l, ns, rfl, hl1, hl, fun s c hp hc => ?_⟩
      refine ⟨s, _, c, rfl, upd_same, by omega, fun ms q2 hpw hmem hlen hq => ?_⟩
      have e5 : ms = sortU ns := lt_unique _ _ hpw (sortU_lt ns) fun k => by rw [hmem, decide_eq_true_iff, sortU_mem]
      have x12 : Ext pc H1 (upd H1 s (SetO X.w s (fun j => decide (j ∈ ns)) c)) := Ext.new hp
      have s2 := g1.src.new (o := SetO X.w s (fun j => decide (j ∈ ns)) c) hp
      have F2 := F1.step x12 s2
      rw [e5]
      refine q _ _ ((Got.lst s2 (fun a h => F2.trk h) hq ?_ (ints_rp _ _ _)).after (g1.ext.trans x12) s2)
      rw [List.length_map, ← e5, hlen, sizeLine_eq]
      omega
    · cases e4
  | _ => simp [bltD] at e2
theorem se_lrange (g : Good X pc ps Φ G c) {f f2 : Str} {a : Expr} {ta : E} {pos2 : Pos} (hf : glB c.sc f = true) (hf2 : glB c.sc f2 = true) (hi : isStr f "list" = true) (hi2 : isStr f2 "range" = true) (hs : notStar a = true) (ha : SE X pc ps Φ G a ta) :
    SE X pc ps Φ G (.Call (.Name f p) [.Call (.Name f2 p2) [a] [] pos2] [] pos) (.blt .lrange [ta]) := by
  have hi : f = "list" := of_decide_eq_true hi
  have hi2 : f2 = "range" := of_decide_eq_true hi2
  subst hi hi2
  have he : starEach [a] X.env = (false, eval a X.env) :: starEach [] X.env := star_of hs
  refine .plain rfl ((pe_listRg g.calm (g.gl hf) (g.blt _ (by decide)) (prg_1 (g.gl hf2) (g.blt _ (by decide)) ha.pe he) (by rfl)).imp fun σ H Q q => ?_)
  obtain ⟨H0, Bc, η, S, d, S', F, hd, q⟩ := q
  obtain ⟨y, e1, e2⟩ := den_blt1 hd
  have e1 : den Φ G ta η S = some (y, S') := by rw [← e1]; exact (notOwn_top ha.no η S _).symm
  refine ⟨H0, Bc, η, S, y, S', F, e1, fun v H1 g1 => ?_⟩
  have F1 := F.step g1.ext g1.src
  cases y with
  | int n =>
    cases g1.rp.intV
    simp only [bltD] at e2
    split at e2
    · rename_i hl
      cases e2
      refine ⟨n, rfl, ?_, fun q2 hq => ?_⟩
      · exact ⟨by omega, by omega, by omega, by omega, by omega⟩
      · have e3 : rgV 0 n = (rgV 0 n) := rfl
        refine q _ _ ((Got.lst g1.src (fun a h => F1.trk h) hq ?_ ?_).after g1.ext g1.src)
        · rw [rgV_length, sizeLine_eq]; omega
        · have e4 : rgV 0 n = ((List.range n.toNat).map fun (k : Nat) => (0 : Int) + k).map V.int := by
            unfold rgV
            rw [List.map_map, Int.sub_zero]
            rfl
          have e5 : rangeD 0 n.toNat = ((List.range n.toNat).map fun (k : Nat) => (0 : Int) + k).map PyData.int := by
            unfold rangeD
            rw [List.map_map]
            rfl
          rw [e4, e5]
          exact ints_rp _ _ _
    · cases e2
  | _ => simp [bltD] at e2
/-- tuple(range(n)): a new tuple -/
def tTrg (tr : L2.St → Hp → (Int → Int → Hp → Prop) → Prop) : TE := fun σ H Q => tr σ H fun i j G1 => RgOk i j ∧ NewT (rgV i j) G1 Q
theorem pe_tupRgF {g : Expr} {tr : L2.St → Hp → (Int → Int → Hp → Prop) → Prop} {p1 p2 : Pos} (calm : X.calm = true) (gl : Gl X "tuple") (free : X.mg "tuple" = none) (hg : PRg X g tr) (ns : starEach [g] X.env = (false, eval g X.env) :: starEach [] X.env := by rfl) : PE X (.Call (.Name "tuple" p1) [g] [] p2) (tTrg tr) := by
  constructor
  intro pins s σ H Q inv hq
  have first := hg pins s σ H _ inv hq
  refine Call_ (ld_blt inv gl free boot_tuple (PyProof.Rows.callWith_type1 (args_cons (thn first ?_) ns) ns))
  rintro x s1 ⟨r, i, j, t, u, v, G1, rfl, isr, inv1, bd, q⟩
  refine args_nil ?_
  have sm := small_one bd.1 bd.2.1 bd.2.2.1 bd.2.2.2.1
  refine call_tuple_range (n := (j - i).toNat) (inv1.ok.hd calm) isr sm (rangeSize_nat i j) bd.2.2.2.2 ?_
  intro h' tk acc kp its
  have len : (rgV i j).length ≤ sizeLine := by
    have := bd.2.2.2.2
    rw [rgV_length, sizeLine_eq]
    omega
  have fin := q.here (s := { s1 with heap := h', toks := tk }) (t' := tk) (inv1.kept kp) (vals_rg its) len
  simpa only [tupObj, Array.toArray_toList] using fin
theorem se_trange (g : Good X pc ps Φ G c) {f f2 : Str} {a : Expr} {ta : E} {pos2 : Pos} (hf : glB c.sc f = true) (hf2 : glB c.sc f2 = true) (hi : isStr f "tuple" = true) (hi2 : isStr f2 "range" = true) (hs : notStar a = true) (ha : SE X pc ps Φ G a ta) :
    SE X pc ps Φ G (.Call (.Name f p) [.Call (.Name f2 p2) [a] [] pos2] [] pos) (.blt .trange [ta]) := by
  have hi : f = "tuple" := of_decide_eq_true hi
  have hi2 : f2 = "range" := of_decide_eq_true hi2
  subst hi hi2
  have he : starEach [a] X.env = (false, eval a X.env) :: starEach [] X.env := star_of hs
  refine .plain rfl ((pe_tupRgF g.calm (g.gl hf) (g.blt _ (by decide)) (prg_1 (g.gl hf2) (g.blt _ (by decide)) ha.pe he) (by rfl)).imp fun σ H Q q => ?_)
  obtain ⟨H0, Bc, η, S, d, S', F, hd, q⟩ := q
  obtain ⟨y, e1, e2⟩ := den_blt1 hd
  have e1 : den Φ G ta η S = some (y, S') := by rw [← e1]; exact (notOwn_top ha.no η S _).symm
  refine ⟨H0, Bc, η, S, y, S', F, e1, fun v H1 g1 => ?_⟩
  have F1 := F.step g1.ext g1.src
  cases y with
  | int n =>
    cases g1.rp.intV
    simp only [bltD] at e2
    split at e2
    · rename_i hl
      cases e2
      refine ⟨n, rfl, ⟨by omega, by omega, by omega, by omega, by omega⟩, fun p2 o hq ho => ?_⟩
      have e4 : rgV 0 n = ((List.range n.toNat).map fun (k : Nat) => (0 : Int) + k).map V.int := by
        unfold rgV
        rw [List.map_map, Int.sub_zero]
        rfl
      have e5 : rangeD 0 n.toNat = ((List.range n.toNat).map fun (k : Nat) => (0 : Int) + k).map PyData.int := by
        unfold rangeD
        rw [List.map_map]
        rfl
      refine q _ _ ((Got.tup g1.src hq ho ?_ ?_).after g1.ext g1.src)
      · rw [rgV_length, sizeLine_eq]; omega
      · rw [e4, e5]
        exact ints_rp _ _ _
    · cases e2
  | _ => simp [bltD] at e2
end
end Dv

/-! Dv17: targets, what is walked. -/
namespace Dv
open PySem PySem.Spec PyProof.Rows L2

mutual
def tgIx : Tg → List Nat
  | .name i => [i]
  | .tup gs => tgIxs gs
def tgIxs : List Tg → List Nat
  | [] => []
  | g :: gs => tgIx g ++ tgIxs gs
end
/-- the own slots are among those before -/
def OwnSub (η' : Dv.Env) (σ' : Sg) (η : Dv.Env) (σ : Sg) : Prop := ∀ (i : Nat) (d : D) (v : Option V), η'[i]? = some (.own d) → σ'[i]? = some v → η[i]? = some (.own d) ∧ σ[i]? = some v
theorem OwnSub.own {Bc : Addr → Prop} {η' η : Dv.Env} {σ' σ : Sg} (h : OwnSub η' σ' η σ) : ∀ a, Own Bc η' σ' a → Own Bc η σ a := fun a q => by
  rcases q with q | ⟨i, d, h1, h2⟩
  · exact .inl q
  · obtain ⟨g1, g2⟩ := h i d _ h1 h2
    exact .inr ⟨i, d, g1, g2⟩
/-- what a target is given -/
def RG (K : PySem.W.Frag) (pc : Addr) (H : Hp) (B : Addr → Prop) (g : Tg) (v : V) (d : D) : Prop := Rp K pc H B v d ∨ ∃ gs a xs ds, g = .tup gs ∧ v = .ref a ∧ d = .tuple ds ∧ SqT K H a xs ∧ RpAll K pc H B xs ds
def gD (K : PySem.W.Frag) (pc ps : Addr) (g : Tg) : TG := fun v σ H Q => ∃ H0 Bc η S d η', Fr K pc ps H0 Bc η σ H S ∧ RG K pc H (Own Bc η σ) g v d ∧ bindT g d η = some η' ∧
  ∀ σ', Fr K pc ps H0 Bc η' σ' H S → OwnSub η' σ' η σ → (∀ i, i ∉ tgIx g → σ'[i]? = σ[i]?) → Q σ' H
def gDs (K : PySem.W.Frag) (pc ps : Addr) (gs : List Tg) : TGs := fun vs σ H Q => ∃ H0 Bc η S ds η', Fr K pc ps H0 Bc η σ H S ∧ gs.length = ds.length ∧ RpAll K pc H (Own Bc η σ) vs ds ∧ bindTs gs ds η = some η' ∧
  ∀ σ', Fr K pc ps H0 Bc η' σ' H S → OwnSub η' σ' η σ → (∀ i, i ∉ tgIxs gs → σ'[i]? = σ[i]?) → Q σ' H
section
variable {K : PySem.W.Frag} {pc ps : Addr} {H0 : Hp} {Bc : Addr → Prop} {η : Env} {σ : Sg} {H H' : Hp} {S S' : Sc} {v : V} {d : D} {i : Nat}
theorem getset {α : Type} {l : List α} {i j : Nat} {x y : α} (h : (l.set i x)[j]? = some y) : (i = j ∧ y = x) ∨ (i ≠ j ∧ l[j]? = some y) := by
  by_cases e : i = j
  · subst e
    by_cases hl : i < l.length
    · rw [List.getElem?_set_self hl] at h
      exact .inl ⟨rfl, (Option.some.inj h).symm⟩
    · rw [List.getElem?_eq_none (by simpa using hl)] at h; cases h
  · rw [List.getElem?_set_ne e] at h
    exact .inr ⟨e, h⟩
theorem sub_set : OwnSub (η.set i (.frz d)) (σ.set i (some v)) η σ := fun j e w h1 h2 => by
  rcases getset h1 with ⟨_, z⟩ | ⟨ne, h1⟩
  · cases z
  · rw [List.getElem?_set_ne ne] at h2
    exact ⟨h1, h2⟩
/-- a slot is bound to a clean value -/
theorem own_set : ∀ a, Own Bc (η.set i (.frz d)) (σ.set i (some v)) a → Own Bc η σ a := fun a h => by
  rcases h with h | ⟨j, e, h1, h2⟩
  · exact .inl h
  · rcases getset h1 with ⟨_, z⟩ | ⟨ne, h1⟩
    · cases z
    · rw [List.getElem?_set_ne ne] at h2
      exact .inr ⟨j, e, h1, h2⟩
theorem RpT.weak {B B' : Addr → Prop} (k : ∀ a o, H a = some o → B' a → B a) (h : RpT K pc H B v d) : RpT K pc H B' v d := by
  cases h with
  | of h => exact .of (h.weak k)
  | lst h1 h2 h3 h4 => exact .lst h1 h2 h3 (h4.weak k)
  | dic h1 h2 h3 h4 => exact .dic h1 h2 h3 (h4.weak k)
theorem Fr.set (F : Fr K pc ps H0 Bc η σ H S) (r : Rp K pc H (Own Bc η σ) v d) (hi : i < η.length) : Fr K pc ps H0 Bc (η.set i (.frz d)) (σ.set i (some v)) H S where
  ext := F.ext
  src0 := F.src0
  src := F.src
  bc := F.bc
  nps := F.nps
  npc := F.npc
  len := by rw [List.length_set, List.length_set]; exact F.len
  frz := fun j e h => by
    rcases getset h with ⟨rfl, z⟩ | ⟨ne, h1⟩
    · cases z
      exact ⟨v, by rw [List.getElem?_set_self (by rw [F.len]; exact hi)], r.weak fun a _ _ z => own_set a z⟩
    · obtain ⟨w, h2, h3⟩ := F.frz j e h1
      exact ⟨w, by rw [List.getElem?_set_ne ne]; exact h2, h3.weak fun a _ _ z => own_set a z⟩
  own := fun j e h => by
    rcases getset h with ⟨rfl, z⟩ | ⟨ne, h1⟩
    · cases z
    · obtain ⟨p, h2, h3, h4, h5⟩ := F.own j e h1
      exact ⟨p, by rw [List.getElem?_set_ne ne]; exact h2, h3, h4.weak fun a _ _ z => own_set a z, h5⟩
  inj := fun j k e f p h1 h2 h3 h4 => by
    rcases getset h1 with ⟨_, z⟩ | ⟨n1, h1⟩
    · cases z
    rcases getset h2 with ⟨_, z⟩ | ⟨n2, h2⟩
    · cases z
    rw [List.getElem?_set_ne n1] at h3
    rw [List.getElem?_set_ne n2] at h4
    exact F.inj j k e f p h1 h2 h3 h4
end
section
variable {X : Cx} {pc ps : Addr} {Φ : Callee} {G : Str → Option D} {c : Sco}
theorem loc_of (g : Good X pc ps Φ G c) {x : Str} (h : locB c x = true) : Loc X.env.scope x ∧ (X.fn x = true ∨ X.env.scope.names.lookup x = some .local) := by
  unfold locB at h
  rw [g.sc, g.fn]
  split at h
  · rename_i e; exact ⟨.inl e, .inr e⟩
  · rename_i e; exact ⟨.inr e, .inl h⟩
  · cases h
theorem asg_star {e : Expr} {es : List Expr} {env : PySem.Env} (h : notStar e = true) : ∃ b, assignEach (e :: es) env = (false, assign e env) :: assignEach es env ∧ b = () := by
  refine ⟨(), ?_, rfl⟩
  cases e <;> first | (cases h; done) | rfl
theorem asg_all {env : PySem.Env} : ∀ {es : List Expr}, es.all notStar = true → (assignEach es env).findIdx? (·.1) = none ∧ (assignEach es env).length = es.length
  | [], _ => ⟨rfl, rfl⟩
  | e :: es, h => by
    simp only [List.all_cons, Bool.and_eq_true] at h
    obtain ⟨_, h1, _⟩ := asg_star (env := env) (es := es) h.1
    rw [h1]
    obtain ⟨h2, h3⟩ := asg_all (env := env) h.2
    refine ⟨?_, by simp [h3]⟩
    rw [List.findIdx?_cons]
    simp [h2]
theorem pg_tg (g : Good X pc ps Φ G c) : ∀ (n : Nat) (e : Expr) (t : Tg), cTg X.N c n e = some t → PG X e (gD X.K pc ps t)
  | 0, _, _, h => by cases h
  | n + 1, e, t, h => by
    cases e with
    | Name x pos =>
      simp only [cTg] at h
      split at h
      · rename_i hx
        obtain ⟨i, h1, h2⟩ := Option.map_eq_some_iff.mp h
        subst h2
        obtain ⟨l1, l2⟩ := loc_of g hx
        refine ⟨fun pins s σ H v u Q I r q => ?_⟩
        obtain ⟨H0, Bc, η, S, d, η', F, rg, hb, q⟩ := q
        refine (pg_name g.nodup (place_at h1) l1 l2).run pins s σ H v u Q I r ?_
        simp only [bindT] at hb
        split at hb
        · rename_i hi
          cases hb
          have rp : Rp X.K pc H (Own Bc η σ) v d := by
            rcases rg with rp | ⟨gs, a, xs, ds, e, _⟩
            · exact rp
            · cases e
          refine q _ (F.set rp hi) sub_set fun j hj => ?_
          simp only [tgIx, List.mem_singleton] at hj
          rw [List.getElem?_set_ne (Ne.symm hj)]
        · cases hb
      · cases h
    | Tuple es k pos =>
      simp only [cTg] at h
      split at h
      · rename_i hs
        obtain ⟨gs, h1, h2⟩ := Option.map_eq_some_iff.mp h
        subst h2
        have hp := mapM_inv h1
        have all : ∀ {es : List Expr} {gs : List Tg}, es.all notStar = true → Paired (fun a b => cTg X.N c n a = some b) es gs → PGs X es (gDs X.K pc ps gs) := by
          intro es
          induction es with
          | nil =>
            intro gs _ hp
            cases hp
            refine ⟨fun pins s σ H vs us Q I r q => ?_⟩
            obtain ⟨H0, Bc, η, S, ds, η', F, hl, ra, hb, q⟩ := q
            cases ds with
            | cons _ _ => cases hl
            | nil =>
              cases ra
              simp only [bindTs] at hb
              cases hb
              exact pgs_nil.run pins s σ H [] us Q I r ⟨rfl, q σ F (fun _ _ _ a b => ⟨a, b⟩) fun _ _ => rfl⟩
          | cons e es ih =>
            intro gs hs hp
            cases hp with
            | @cons _ t _ gs' h1 h2 =>
              simp only [List.all_cons, Bool.and_eq_true] at hs
              obtain ⟨_, e1, _⟩ := asg_star (env := X.env) (es := es) hs.1
              refine ⟨fun pins s σ H vs us Q I r q => ?_⟩
              obtain ⟨H0, Bc, η, S, ds, η', F, hl, ra, hb, q⟩ := q
              cases ds with
              | nil => cases hl
              | cons d ds =>
                cases ra with
                | @cons v vs _ _ r1 r2 =>
                  simp only [bindTs] at hb
                  obtain ⟨η1, b1, b2⟩ := Option.bind_eq_some_iff.mp hb
                  refine (pgs_cons (pg_tg g n e t h1) (ih hs.2 h2) (by rw [e1]; rfl)).run pins s σ H _ us Q I r ⟨v, vs, rfl, H0, Bc, η, S, d, η1, F, .inl r1, b1, fun σ1 F1 o1 k1 => ?_⟩
                  refine ⟨H0, Bc, η1, S, ds, η', F1, by simpa using hl, r2.weak fun a _ _ z => o1.own a z, b2, fun σ2 F2 o2 k2 => q σ2 F2 (fun j e v h1 h2 => (o2 j e v h1 h2).elim (o1 j e v)) fun i hi => ?_⟩
                  simp only [tgIxs, List.mem_append, not_or] at hi
                  rw [k2 i hi.2, k1 i hi.1]
        refine ⟨fun pins s σ H v u Q I r q => ?_⟩
        obtain ⟨H0, Bc, η, S, d, η', F, rg, hb, q⟩ := q
        obtain ⟨z1, z2⟩ := asg_all (env := X.env) hs
        refine (pg_tup g.calm (all hs hp) z2 z1).run pins s σ H v u Q I r ?_
        cases d with
        | tuple ds =>
          simp only [bindT] at hb
          split at hb
          · rename_i hl
            have hx : ∃ a xs, v = .ref a ∧ SqT X.K H a xs ∧ RpAll X.K pc H (Own Bc η σ) xs ds := by
              rcases rg with rp | ⟨_, a, xs, ds', _, rfl, e2, sq, ra⟩
              · obtain ⟨a, xs, rfl, ha, _, ra⟩ := (RpT.of rp).tuple
                exact ⟨a, xs, rfl, ha.sq, ra⟩
              · cases e2
                exact ⟨a, xs, rfl, sq, ra⟩
            obtain ⟨a, xs, rfl, sq, ra⟩ := hx
            have el : es.length = gs.length := Paired.length hp
            exact ⟨a, xs, rfl, sq, by rw [ra.length, ← hl, el], H0, Bc, η, S, ds, η', F, hl, ra, hb, q⟩
          · cases hb
        | _ => simp [bindT] at hb
      · cases h
    | _ => simp [cTg] at h
end
end Dv

/-! Dv18: what is walked, by data. -/
namespace Dv
open PySem PySem.Spec PyProof.Rows L2

/-- J goes over xs (as it stood in H1) -/
structure WkD (K : PySem.W.Frag) (pc : Addr) (B : Addr → Prop) (H1 : Hp) (g : Tg) (xs : List D) (cl : Bool) (J : It) : Prop where
  len : xs.length ≤ sizeLine
  ex : ∃ (G : Hp → Prop) (Y : Nat → Hp → V → Hp → Prop), Walk J xs.length G Y ∧ G H1 ∧ (∀ H2, Ext pc H1 H2 → Keep H1 H2 B pc → G H2) ∧ (cl = true → ∀ H2, Keep H1 H2 B pc → G H2) ∧
    ∀ i H2 v H3, Y i H2 v H3 → Keep H1 H2 B pc → ∃ d, xs[i]? = some d ∧ (H3 = H2 ∨ ∃ T o, H2 T = none ∧ H3 = upd H2 T o) ∧ ∀ B', (∀ a o, H1 a = some o → B' a → B a) → RG K pc H3 B' g v d
/-- what is walked, as a reading -/
def iD (K : PySem.W.Frag) (pc ps : Addr) (f : Dv.Env → Sc → R) (cl : Dv.Env → Bool) (g : Tg) : TI := fun σ H R => ∃ H0 Bc η S d xs S', Fr K pc ps H0 Bc η σ H S ∧ f η S = some (d, S') ∧ itemsD d = some xs ∧
  ∀ J H1, Ext pc H H1 → Src pc ps H1 S' → WkD K pc (Own Bc η σ) H1 g xs (cl η) J → R J H1
section
variable {K : PySem.W.Frag} {pc ps : Addr} {B B' : Addr → Prop} {H H1 H2 : Hp} {g : Tg} {xs : List D} {cl : Bool}
theorem RpAll.move {vs : List V} {ds : List D} (r : RpAll K pc H1 B vs ds) (k : Keep H1 H2 B pc) (w : ∀ a o, H1 a = some o → B' a → B a) : RpAll K pc H2 B' vs ds := by
  have r1 : RpAll K pc H1 (fun a => B a ∨ B' a) vs ds := r.weak fun a o e z => z.elim id (w a o e)
  have r2 : RpAll K pc H2 (fun a => B a ∨ B' a) vs ds := r1.keep ⟨fun a o n nb e => k.kept a o n (fun z => nb (.inl z)) e, k.tups⟩
  exact r2.weak fun _ _ _ z => .inr z
theorem Rp.move {v : V} {d : D} (r : Rp K pc H1 B v d) (k : Keep H1 H2 B pc) (w : ∀ a o, H1 a = some o → B' a → B a) : Rp K pc H2 B' v d := by
  have h := RpAll.move (.cons r .nil) k w
  cases h with
  | cons r _ => exact r
theorem Keep.new {p : Addr} {o : HO} (h : H p = none) : Keep H (upd H p o) B pc := ⟨fun a x _ _ e => by rw [upd_ne (ne_of_none e h)]; exact e, fun a x ys e => by rw [upd_ne (ne_of_none e h)]; exact e⟩
theorem Keep.trans {H3 : Hp} (a : Keep H1 H2 B pc) (b : Keep H2 H3 B' pc) (w : ∀ a o, H1 a = some o → B' a → B a) : Keep H1 H3 B pc :=
  ⟨fun c o n nb e => b.kept c o n (fun z => nb (w c o e z)) (a.kept c o n nb e), fun c o ys e => b.tups c o ys (a.tups c o ys e)⟩
theorem PTu.of_keep {a : Addr} {vs : List V} (h : PTu K H1 a vs) (k : Keep H1 H2 B pc) : PTu K H2 a vs := k.pt h
/-- a list whose address a stays -/
theorem wk_list {a : Addr} {vs : List V} (h : H1 a = some (.lst vs)) (n : a ≠ pc) (hz : vs.length ≤ sizeLine) (c : cl = true → ¬ B a) (r : RpAll K pc H1 B vs xs) : WkD K pc B H1 g xs cl (Itl K a) := by
  refine ⟨by rw [← r.length]; exact hz, fun H => H a = some (.lst vs), YAt vs, ?_, h, fun H2 x _ => x a _ n h, fun e H2 k => k.kept a _ n (c e) h, fun i H2 v H3 y k => ?_⟩
  · rw [← r.length]
    exact walk_list.mono (fun H e => SqL.of e) fun i H x H' _ _ y => y
  · obtain ⟨rfl, hv⟩ := y
    obtain ⟨d, h1, h2⟩ := r.getV hv
    exact ⟨d, h1, .inl rfl, fun B' w => .inl (h2.move k w)⟩
theorem wk_tup {a : Addr} {vs : List V} (h : PTu K H1 a vs) (hz : vs.length ≤ sizeLine) (r : RpAll K pc H1 B vs xs) : WkD K pc B H1 g xs cl (Itt K a) := by
  refine ⟨by rw [← r.length]; exact hz, fun H => PTu K H a vs, YAt vs, ?_, h, fun H2 _ k => h.of_keep k, fun _ H2 k => h.of_keep k, fun i H2 v H3 y k => ?_⟩
  · rw [← r.length]
    exact walk_tup.mono (fun H e => e.sq) fun i H x H' _ _ y => y
  · obtain ⟨rfl, hv⟩ := y
    obtain ⟨d, h1, h2⟩ := r.getV hv
    exact ⟨d, h1, .inl rfl, fun B' w => .inl (h2.move k w)⟩
theorem range_get {lo : Int} {n i : Nat} (h : i < n) : (rangeD lo n)[i]? = some (.int (lo + i)) := by
  unfold rangeD
  rw [List.getElem?_map, List.getElem?_range h]
  rfl
theorem range_len {lo : Int} {n : Nat} : (rangeD lo n).length = n := by unfold rangeD; simp
theorem wk_range {lo : Int} {n : Nat} (hz : n ≤ sizeLine) : WkD K pc B H1 g (rangeD lo n) cl (Itr lo n) := by
  refine ⟨by rw [range_len]; exact hz, fun _ => True, fun i H x H' => i < n ∧ YFn (fun i => .int (lo + i)) i H x H', ?_, trivial, fun _ _ _ => trivial, fun _ _ _ => trivial, fun i H2 v H3 y k => ?_⟩
  · rw [range_len]
    exact walk_range.mono (fun _ _ => trivial) fun i H x H' hi _ y => ⟨hi, y⟩
  · obtain ⟨hi, rfl, rfl⟩ := y
    exact ⟨_, range_get hi, .inl rfl, fun B' w => .inl (.int _)⟩
theorem zip_get {α β : Type} {l : List α} {m : List β} {i : Nat} {x : α} {y : β} (h : l[i]? = some x) (h' : m[i]? = some y) : (l.zip m)[i]? = some (x, y) := by
  rw [List.getElem?_zip_eq_some]
  exact ⟨h, h'⟩
theorem pair_rg {T : Addr} {gs : List Tg} {v w : V} {d e : D} (hT : H2 T = none) (r1 : Rp K pc H2 B' v d) (r2 : Rp K pc H2 B' w e) : RG K pc (upd H2 T (.tup [v, w])) B' (.tup gs) (.ref T) (.tuple [d, e]) :=
  .inr ⟨gs, T, [v, w], [d, e], rfl, rfl, rfl, SqT.of upd_same, .cons (r1.keep (Keep.new hT)) (.cons (r2.keep (Keep.new hT)) .nil)⟩
theorem walk_zipT {a b : Addr} {xs ys : List V} {n : Nat} (hn : n = min xs.length ys.length) : Walk (RZ.ItzT K a b) n (fun H => SqT K H a xs ∧ SqT K H b ys) (YPair (fun i => xs[i]?) (fun i => ys[i]?)) := by
  subst hn
  refine ⟨fun i _ hi q => ?_, fun _ q => ⟨xs, ys, q.1, q.2, by omega⟩, fun i H v H' _ q y => ?_⟩
  · have h1 : i < xs.length := by omega
    have h2 : i < ys.length := by omega
    exact ⟨xs, ys, xs[i], ys[i], q.1, q.2, by simp [h1], by simp [h2]⟩
  · obtain ⟨T, x, z, h1, h2, h3, h4, h5⟩ := y
    exact ⟨T, x, z, h1, h2, h3, h4 xs q.1, h5 ys q.2⟩
theorem zipD_len (ds es : List D) : ((ds.zip es).map fun p => PyData.tuple [p.1, p.2]).length = min ds.length es.length := by simp
theorem zipD_get {ds es : List D} {i : Nat} {d e : D} (h : ds[i]? = some d) (h' : es[i]? = some e) : ((ds.zip es).map fun p => PyData.tuple [p.1, p.2])[i]? = some (.tuple [d, e]) := by
  rw [List.getElem?_map, zip_get h h']; rfl
theorem wk_zipL {a b : Addr} {vs ws : List V} {ds es : List D} {gs : List Tg} (hz : vs.length ≤ sizeLine) (h : H1 a = some (.lst vs)) (n : a ≠ pc) (c : cl = true → ¬ B a) (r : RpAll K pc H1 B vs ds) (h' : H1 b = some (.lst ws)) (n' : b ≠ pc) (c' : cl = true → ¬ B b) (r' : RpAll K pc H1 B ws es) :
    WkD K pc B H1 (.tup gs) ((ds.zip es).map fun p => .tuple [p.1, p.2]) cl (Itz K a b) := by
  refine ⟨by rw [zipD_len, ← r.length]; exact Nat.le_trans (Nat.min_le_left _ _) hz, fun H => H a = some (.lst vs) ∧ H b = some (.lst ws), YPair (fun i => vs[i]?) (fun i => ws[i]?), ?_, ⟨h, h'⟩, fun H2 x _ => ⟨x a _ n h, x b _ n' h'⟩, fun e H2 k => ⟨k.kept a _ n (c e) h, k.kept b _ n' (c' e) h'⟩, fun i H2 v H3 y k => ?_⟩
  · exact (walk_zip (by rw [zipD_len, r.length, r'.length])).mono (fun H e => ⟨SqL.of e.1, SqL.of e.2⟩) fun i H x H' _ _ y => y
  · obtain ⟨T, x, z, rfl, hT, rfl, hx, hz⟩ := y
    obtain ⟨d, h1, h2⟩ := r.getV hx
    obtain ⟨e, h3, h4⟩ := r'.getV hz
    exact ⟨_, zipD_get h1 h3, .inr ⟨T, _, hT, rfl⟩, fun B' w => pair_rg hT (h2.move k w) (h4.move k w)⟩
theorem wk_zipT {a b : Addr} {vs ws : List V} {ds es : List D} {gs : List Tg} (hz : vs.length ≤ sizeLine) (h : PTu K H1 a vs) (r : RpAll K pc H1 B vs ds) (h' : PTu K H1 b ws) (r' : RpAll K pc H1 B ws es) :
    WkD K pc B H1 (.tup gs) ((ds.zip es).map fun p => .tuple [p.1, p.2]) cl (RZ.ItzT K a b) := by
  refine ⟨by rw [zipD_len, ← r.length]; exact Nat.le_trans (Nat.min_le_left _ _) hz, fun H => PTu K H a vs ∧ PTu K H b ws, YPair (fun i => vs[i]?) (fun i => ws[i]?), ?_, ⟨h, h'⟩, fun H2 _ k => ⟨h.of_keep k, h'.of_keep k⟩, fun _ H2 k => ⟨h.of_keep k, h'.of_keep k⟩, fun i H2 v H3 y k => ?_⟩
  · exact (walk_zipT (by rw [zipD_len, r.length, r'.length])).mono (fun H e => ⟨e.1.sq, e.2.sq⟩) fun i H x H' _ _ y => y
  · obtain ⟨T, x, z, rfl, hT, rfl, hx, hz⟩ := y
    obtain ⟨d, h1, h2⟩ := r.getV hx
    obtain ⟨e, h3, h4⟩ := r'.getV hz
    exact ⟨_, zipD_get h1 h3, .inr ⟨T, _, hT, rfl⟩, fun B' w => pair_rg hT (h2.move k w) (h4.move k w)⟩
theorem enumD_len (ds : List D) : (ds.zipIdx.map fun p => PyData.tuple [.int (p.2 : Nat), p.1]).length = ds.length := by simp
theorem enumD_get {ds : List D} {i : Nat} {d : D} (h : ds[i]? = some d) : (ds.zipIdx.map fun p => PyData.tuple [.int (p.2 : Nat), p.1])[i]? = some (.tuple [.int (i : Nat), d]) := by
  rw [List.getElem?_map, List.getElem?_zipIdx, h]
  simp
theorem wk_enumL {a : Addr} {vs : List V} {ds : List D} {gs : List Tg} (hz : vs.length ≤ sizeLine) (h : H1 a = some (.lst vs)) (n : a ≠ pc) (c : cl = true → ¬ B a) (r : RpAll K pc H1 B vs ds) :
    WkD K pc B H1 (.tup gs) (ds.zipIdx.map fun p => .tuple [.int (p.2 : Nat), p.1]) cl (Ite K a) := by
  refine ⟨by rw [enumD_len, ← r.length]; exact hz, fun H => H a = some (.lst vs), YPair (fun i => some (.int (i : Nat))) (fun i => vs[i]?), ?_, h, fun H2 x _ => x a _ n h, fun e H2 k => k.kept a _ n (c e) h, fun i H2 v H3 y k => ?_⟩
  · rw [enumD_len, ← r.length]
    exact walk_enum.mono (fun H e => SqL.of e) fun i H x H' _ _ y => y
  · obtain ⟨T, x, z, rfl, hT, rfl, hx, hz⟩ := y
    cases hx
    obtain ⟨e, h3, h4⟩ := r.getV hz
    exact ⟨_, enumD_get h3, .inr ⟨T, _, hT, rfl⟩, fun B' w => pair_rg hT (.int _) (h4.move k w)⟩
end
section
variable {X : Cx} {pc ps : Addr} {Φ : Callee} {G : Str → Option D} {c : Sco} {p pos : Pos}
/-- a list or a tuple -/
def iSeq (K : PySem.W.Frag) (tl : TE) : TI := fun σ H R => tl σ H fun x H1 => ∃ a, x = .ref a ∧ (((∃ xs, SqL K H1 a xs) ∧ R (Itl K a) H1) ∨ ((∃ xs, SqT K H1 a xs) ∧ R (Itt K a) H1))
theorem pi_seq {tg l : Expr} {tl : TE} (hl : PE X l tl) : PI X tg l (iSeq X.K tl) := by
  refine ⟨fun pins s σ H R I h => ?_⟩
  refine thn (hl.run pins s σ H _ I h) fun v s1 ⟨x, H1, I1, r1, q1⟩ => ?_
  obtain ⟨a, e, q⟩ := q1
  subst e
  cases r1
  rcases q with ⟨⟨xs, hq⟩, q⟩ | ⟨⟨xs, hq⟩, q⟩
  · obtain ⟨its, rv, p, hz⟩ := I1.list hq
    refine wpAny_pyIter_list p.isList ?_
    refine ⟨s1.heap.objs.size, [s1.heap.objs.size], _, _, H1, rfl, I1.kept (t' := s1.toks) fun b o e => Heap.get?_push_of_some _ e, turn_list a _, ⟨_, Heap.get?_push_size _ rfl, rfl, rfl⟩, fun b hb => ?_, q⟩
    have e : b = s1.heap.objs.size := by simpa using hb
    subst e
    exact I1.fpOk (Nat.le_refl _) (I1.hok.fresh (Nat.le_refl _))
  · obtain ⟨its, rv, p, hz⟩ := I1.tuple hq
    refine wpAny_pyIter_tuple (show s1.heap.IsTuple a its.toArray from p) ?_
    refine ⟨s1.heap.objs.size, [s1.heap.objs.size], _, _, H1, rfl, I1.kept (t' := s1.toks) fun b o e => Heap.get?_push_of_some _ e, turn_tuple a _, ⟨_, Heap.get?_push_size _ rfl, rfl, rfl⟩, fun b hb => ?_, q⟩
    have e : b = s1.heap.objs.size := by simpa using hb
    subst e
    exact I1.fpOk (Nat.le_refl _) (I1.hok.fresh (Nat.le_refl _))
theorem si_seq {tg e : Expr} {t : E} {g : Tg} (h : ST X pc ps Φ G e t) : PI X tg e (iD X.K pc ps (denT Φ G t) (fun η => !ownedE η t) g) := by
  refine (pi_seq h.pe).imp fun σ H R q => ?_
  obtain ⟨H0, Bc, η, S, d, xs, S', F, hd, hi, q⟩ := q
  refine ⟨H0, Bc, η, S, d, S', F, hd, fun v H1 g1 => ?_⟩
  have F1 := F.step g1.ext g1.src
  cases d with
  | list ds =>
    cases hi
    obtain ⟨a, vs, rfl, ha, hn, hz, ra⟩ := g1.rp.list
    refine ⟨a, rfl, .inl ⟨⟨vs, SqL.of ha⟩, q _ H1 g1.ext g1.src (wk_list ha hn hz (fun e z => ?_) ra)⟩⟩
    have r := g1.cl e
    cases r with
    | lst _ _ nb _ _ => exact nb z
  | tuple ds =>
    cases hi
    obtain ⟨a, vs, rfl, ha, hz, ra⟩ := g1.rp.tuple
    exact ⟨a, rfl, .inr ⟨⟨vs, ha.sq⟩, q _ H1 g1.ext g1.src (wk_tup ha hz ra)⟩⟩
  | _ => cases hi
theorem si_rng1 (g : Good X pc ps Φ G c) {f : Str} {a tg : Expr} {ta : E} {gt : Tg} {cl : Dv.Env → Bool} (hf : glB c.sc f = true) (hi : isStr f "range" = true) (hs : notStar a = true) (ha : SE X pc ps Φ G a ta) :
    PI X tg (.Call (.Name f p) [a] [] pos) (iD X.K pc ps (denT Φ G (.rng1 ta)) cl gt) := by
  have hi : f = "range" := of_decide_eq_true hi
  subst hi
  have he : starEach [a] X.env = [(false, eval a X.env)] := star_of hs
  refine (pi_range1 (g.gl hf) (g.blt _ (by decide)) (pa_cons ha.pe pa_nil he) he).imp fun σ H R q => ?_
  obtain ⟨H0, Bc, η, S, d, xs, S', F, hd, hx, q⟩ := q
  simp only [denT, topE, den] at hd
  split at hd
  · rename_i n S1 h1
    split at hd
    · rename_i hn
      cases hd
      cases hx
      refine ⟨H0, Bc, η, S, _, S', F, h1, fun v H1 g1 => ⟨n, by rw [g1.rp.intV], hn.1, by omega, q _ H1 g1.ext g1.src (wk_range (by rw [sizeLine_eq]; omega))⟩⟩
    · cases hd
  · cases hd
theorem si_rng2 (g : Good X pc ps Φ G c) {f : Str} {a b tg : Expr} {ta tb : E} {gt : Tg} {cl : Dv.Env → Bool} (hf : glB c.sc f = true) (hi : isStr f "range" = true) (hs : notStar a = true) (hs2 : notStar b = true) (ha : SE X pc ps Φ G a ta) (hb : SE X pc ps Φ G b tb) :
    PI X tg (.Call (.Name f p) [a, b] [] pos) (iD X.K pc ps (denT Φ G (.rng2 ta tb)) cl gt) := by
  have hi : f = "range" := of_decide_eq_true hi
  subst hi
  have he2 : starEach [b] X.env = [(false, eval b X.env)] := star_of hs2
  have he1 : starEach [a, b] X.env = (false, eval a X.env) :: starEach [b] X.env := star_of hs
  have he : starEach [a, b] X.env = [(false, eval a X.env), (false, eval b X.env)] := by rw [he1, he2]
  refine (pi_range2 (g.gl hf) (g.blt _ (by decide)) (pa_cons ha.pe (pa_cons hb.pe pa_nil he2) he1) he he2).imp fun σ H R q => ?_
  obtain ⟨H0, Bc, η, S, d, xs, S', F, hd, hx, q⟩ := q
  simp only [denT, topE, den] at hd
  split at hd
  · rename_i m S1 h1
    split at hd
    · rename_i n S2 h2
      split at hd
      · rename_i hn
        cases hd
        cases hx
        refine ⟨H0, Bc, η, S, _, S1, F, h1, fun v H1 g1 => ?_⟩
        have F1 := F.step g1.ext g1.src
        refine ⟨H0, Bc, η, S1, _, S', F1, h2, fun w H2 g2 => ⟨m, n, by rw [g1.rp.intV, g2.rp.intV], ⟨by omega, by omega, by omega, by omega⟩, q _ H2 (g1.ext.trans g2.ext) g2.src (wk_range (by rw [sizeLine_eq]; omega))⟩⟩
      · cases hd
    · cases hd
  · cases hd
theorem si_zip (g : Good X pc ps Φ G c) {f : Str} {a b : Expr} {ta tb : E} {gs : List Tg} {elts : List Expr} {kk : Nat} {tpos : Pos} (hf : glB c.sc f = true) (hi : isStr f "zip" = true) (hs : notStar a = true) (hs2 : notStar b = true) (ha : ST X pc ps Φ G a ta) (hb : ST X pc ps Φ G b tb) :
    PI X (.Tuple elts kk tpos) (.Call (.Name f p) [a, b] [] pos) (iD X.K pc ps (denT Φ G (.zip ta tb)) (fun η => !ownedE η ta && !ownedE η tb) (.tup gs)) := by
  have hi : f = "zip" := of_decide_eq_true hi
  subst hi
  have he2 : starEach [b] X.env = (false, eval b X.env) :: starEach [] X.env := star_of hs2
  have he1 : starEach [a, b] X.env = (false, eval a X.env) :: starEach [b] X.env := star_of hs
  have hp : (backTo pos (starEach [b] X.env)).any (·.1) = false := star_all (es := [b]) (by simp [hs2])
  refine (RZ.pi_zipA (g.gl hf) (g.blt _ (by decide)) (pa_cons ha.pe (pa_cons hb.pe pa_nil he2) he1) he1 hp).imp fun σ H R q => ?_
  obtain ⟨H0, Bc, η, S, d, xs, S', F, hd, hx, q⟩ := q
  have nb : ∀ {u : E} {B : Addr → Prop} {H0 H1 : Hp} {S1 : Sc} {as : List D} {a : Addr}, GotT X.K pc ps B H0 (!ownedE η u) (.list as) S1 (.ref a) H1 → ownedE η u = false → ¬ B a := fun {u B H0 H1 S1 as a} g e z => by
    have r := g.cl (by simp [e])
    cases r with
    | lst _ _ nb _ _ => exact nb z
  simp only [denT, topE, den] at hd
  split at hd
  · rename_i as S1 h1
    split at hd
    · rename_i bs S2 h2
      cases hd
      cases hx
      refine ⟨H0, Bc, η, S, _, S1, F, h1, fun v H1 g1 => ?_⟩
      have F1 := F.step g1.ext g1.src
      refine ⟨H0, Bc, η, S1, _, S', F1, h2, fun w H2 g2 => ?_⟩
      obtain ⟨a', vs, rfl, e1, e2, e3, e4⟩ := g1.rp.list
      obtain ⟨b', ws, rfl, f1, f2, f3, f4⟩ := g2.rp.list
      refine ⟨a', b', vs, ws, rfl, .inl ⟨SqL.of (g2.ext _ _ e2 e1), SqL.of f1, q _ H2 (g1.ext.trans g2.ext) g2.src (wk_zipL e3 (g2.ext _ _ e2 e1) e2 (fun z => ?_) (e4.keep (g2.ext.keep g1.src)) f1 f2 (fun z => ?_) f4)⟩⟩
      · simp only [Bool.and_eq_true, Bool.not_eq_true'] at z
        exact nb g1 z.1
      · simp only [Bool.and_eq_true, Bool.not_eq_true'] at z
        exact nb g2 z.2
    · cases hd
  · rename_i as S1 h1
    split at hd
    · rename_i bs S2 h2
      cases hd
      cases hx
      refine ⟨H0, Bc, η, S, _, S1, F, h1, fun v H1 g1 => ?_⟩
      have F1 := F.step g1.ext g1.src
      refine ⟨H0, Bc, η, S1, _, S', F1, h2, fun w H2 g2 => ?_⟩
      obtain ⟨a', vs, rfl, e1, e3, e4⟩ := g1.rp.tuple
      obtain ⟨b', ws, rfl, f1, f3, f4⟩ := g2.rp.tuple
      have e1' := e1.of_keep (g2.ext.keep g1.src (B := Own Bc η σ))
      exact ⟨a', b', vs, ws, rfl, .inr ⟨e1'.sq, f1.sq, q _ H2 (g1.ext.trans g2.ext) g2.src (wk_zipT e3 e1' (e4.keep (g2.ext.keep g1.src)) f1 f4)⟩⟩
    · cases hd
  · cases hd
end
end Dv

/-! Dv19: enumerate of a tuple. -/
namespace Dv
open PySem PySem.Spec PyProof.Rows L2
open AutoSeq1 (wpAny_loadPart')

theorem meets_enumerate_newT (l : Addr) (items : Array Value) :
    Meets (Builtin.«enumerate.__new__» ⟨[.type "enumerate", .ref l], []⟩) (fun _ R s => s.heap.IsTuple l items ∧
      R (.ok (.ret (.ref (s.heap.push { cls := .type "tuple_iterator", data := .fields #[.ref l, .int 0 0] }).objs.size)))
        { s with heap := (s.heap.push { cls := .type "tuple_iterator", data := .fields #[.ref l, .int 0 0] }).push { cls := .type "enumerate", data := .fields #[.none, .bool false, .ref s.heap.objs.size, rawInt 0, .none, .none] } }) :=
  .of_wp fun prog w A R s h => by
    obtain ⟨hp, g, d, tk, os⟩ := s; obtain ⟨hL, h⟩ := h
    obtain ⟨ob, hl, hc, n, hd⟩ := id hL
    have hsub := sub_enumerate
    have hL : Heap.IsTuple (Shared.heap ⟨hp, g, d, tk, os⟩) l items := hL
    wp_walk using wpAny_loadPart' hl
    refine wpAny_stack_any fun st => wpAny_pure ?_
    split
    · rename_i c _ _ _ _ _
      cases (c == Value.type "enumerate")
      · wp_walk using wpAny_loadPart' hl, wpAny_pyIter_tuple hL
        exact ⟨_, rfl, h⟩
      · wp_walk using wpAny_loadPart' hl, wpAny_pyIter_tuple hL
        exact ⟨_, rfl, h⟩
    · wp_walk using wpAny_loadPart' hl, wpAny_pyIter_tuple hL
      exact ⟨_, rfl, h⟩
section
variable {prog : Program} {w : World} {A : Around} {E : Value → Shared → Prop} {s : Shared}
theorem call_enumerate_tup {l : Addr} {items : Array Value} {Q : Value → Shared → Prop} (hL : s.heap.IsTuple l items)
    (h : ∀ h', IsEnum h' (s.heap.objs.size + 1) s.heap.objs.size 0 .none → h'.IsTupleIter s.heap.objs.size l 0 → h'.objs.size = s.heap.objs.size + 2 →
      (∀ b o, s.heap.get? b = some o → h'.get? b = some o) → Q (.ref (s.heap.objs.size + 1)) { s with heap := h' }) :
    wpAny (model prog w) A (call (.type "enumerate") [.ref l]) Q E s := by
  refine callType_new F.called_enumerate (by decide) (F.typeCall_enumerate_1 _) (F.newCall_enumerate_1 _) (fun obj => F.args_object_init_2 obj _) F.entry_enumerate_new
    (meets_enumerate_newT l items) ⟨hL, ?_⟩
  have hz : (s.heap.push { cls := .type "tuple_iterator", data := .fields #[.ref l, .int 0 0] }).objs.size = s.heap.objs.size + 1 := Heap.size_push ..
  show _ ∧ _
  rw [hz]
  have he : IsEnum ((s.heap.push { cls := .type "tuple_iterator", data := .fields #[.ref l, .int 0 0] }).push
      { cls := .type "enumerate", data := .fields #[.none, .bool false, .ref s.heap.objs.size, rawInt 0, .none, .none] }) (s.heap.objs.size + 1) s.heap.objs.size 0 .none := by
    have := Heap.get?_push_size (s.heap.push { cls := .type "tuple_iterator", data := .fields #[.ref l, .int 0 0] })
      (o := { cls := .type "enumerate", data := .fields #[.none, .bool false, .ref s.heap.objs.size, rawInt 0, .none, .none] }) rfl
    rw [hz] at this; exact this
  refine ⟨⟨_, he, rfl⟩, h _ he ⟨_, Heap.get?_push_of_some _ (Heap.get?_push_size _ rfl), rfl, rfl⟩ (by rw [Heap.size_push, hz]) fun b o x => Heap.get?_push_of_some _ (Heap.get?_push_of_some _ x)⟩
end
/-- the tuple at a, each item in a new pair -/
def IteT (K : PySem.W.Frag) (a : Addr) : It :=
  ⟨fun i H => ∃ (xs : List V) (x : V), SqT K H a xs ∧ xs[i]? = some x, fun i H v H' => ∃ T x, v = .ref T ∧ H T = none ∧ H' = upd H T (.tup [.int (i : Nat), x]) ∧ ∀ xs, SqT K H a xs → xs[i]? = some x, fun i H => ∃ xs : List V, SqT K H a xs ∧ xs.length ≤ i⟩
theorem turn_enumT {P : Program} {w : World} {K : PySem.W.Frag} {elts : List Expr} {kk : Nat} {tpos : Pos} (a e it : Addr) :
    Turn P w K (.Tuple elts kk tpos) (IteT K a) [e, it] e (fun i h => (∃ old, IsEnum h e it ((i : Nat) : Int) old) ∧ h.IsTupleIter it a i ∧ e ≠ it ∧ a ≠ e ∧ a ≠ it) where
  mem := by simp
  obj := fun i h st b hb => by
    obtain ⟨⟨old, he⟩, ⟨o, ho, hc, hd⟩, _⟩ := st
    have e' : b = e ∨ b = it := by simpa using hb
    rcases e' with z | z
    · rw [z]; exact ⟨_, he, fun v q => nomatch q⟩
    · rw [z]; exact ⟨o, ho, fun v q => by rw [hd] at q; cases q⟩
  keep := fun i h h' st k => let ⟨⟨old, he⟩, hi, hne⟩ := st; ⟨⟨old, k e (by simp) _ he⟩, hi.at fun o q => k it (by simp) o q, hne⟩
  item := by
    intro X hP hw hK hc i pins s σ H E I hf st hg
    subst hP hw hK
    obtain ⟨⟨old, he⟩, hit, hne, hae, hai⟩ := st
    obtain ⟨xs, x, hq, hx⟩ := hg
    obtain ⟨its, rv, p, hz⟩ := I.tuple hq
    obtain ⟨u, hu, ru⟩ := rv.get hx
    have hel : e < s.heap.objs.size := Heap.lt_size he
    have hil : it < s.heap.objs.size := by obtain ⟨_, q, _⟩ := hit; exact Heap.lt_size q
    have hlt : i < its.toArray.size := by
      have := (List.getElem?_eq_some_iff.mp hu).1
      simpa using this
    refine wpAny_pyNext_enum_itemD (Draws.tuple (by simp [I.ok.hd hc]) it a hai its.toArray) he ⟨hit, show s.heap.IsTuple a its.toArray from p⟩ hlt hne (by simp [hne, Ne.symm hae]) fun y h' tk hP ho hst' hT hsz hk => ?_
    have hy : y = u := by
      have e1 : its[i]? = some y := by simpa using hP
      rw [hu] at e1
      exact (Option.some.inj e1).symm
    subst hy
    refine ⟨_, rfl, wpAny_letOwnedTupleGo_enum (s := { s with heap := h', toks := tk + 1 }) ho fun h'' he' sb => ?_⟩
    have hT2 : h''.get? s.heap.objs.size = some { cls := .type "tuple", data := .seq #[.int i tk, y] } := (sb.2 _ (Nat.ne_of_gt hel)).trans hT
    have new : ObjOk X.prog X.w (upd H s.heap.objs.size (.tup [.int (i : Nat), x])) h'' s.heap.objs.size (.tup [.int (i : Nat), x]) :=
      ⟨by show 2 ≤ sizeLine; decide, [.int i tk, y], .cons ⟨_, rfl⟩ (.cons ru .nil), ⟨_, hT2, rfl, _, rfl⟩⟩
    have I1 : Inv X pins σ (upd H s.heap.objs.size (.tup [.int (i : Nat), x])) { s with heap := h'', toks := tk + 1 } :=
      I.turnedNew (ch := [e, it]) (fun b ob hb q => (sb.2 b (fun z => hb (by simp [z]))).trans (hk b ob (fun z => hb (by simp [z])) (fun z => hb (by simp [z])) q)) hf (Nat.le_refl _) new
    refine ⟨.ref s.heap.objs.size, _, I1, rfl, ⟨_, x, rfl, I.hok.fresh (Nat.le_refl _), rfl, fun ys hy => by rw [I.tuple_inj hy hq]; exact hx⟩, ⟨⟨y, ?_⟩, hst'.1.at fun o q => (sb.2 it (Ne.symm hne)).trans q, hne, hae, hai⟩, fun b hb => ?_⟩
    · have e1 : ((i + 1 : Nat) : Int) = (i : Int) + 1 := by omega
      rw [e1]; exact he'
    · have hb' : b < s.heap.objs.size := by
        have e' : b = e ∨ b = it := by simpa using hb
        rcases e' with z | z
        · rw [z]; exact hel
        · rw [z]; exact hil
      rw [upd_ne (Nat.ne_of_lt hb')]
      exact (hf b hb).1
  done := by
    intro X hP hw hK hc i pins s σ H E I hf st hg
    subst hP hw hK
    obtain ⟨⟨old, he⟩, hit, hne, hae, hai⟩ := st
    obtain ⟨xs, hq, hx⟩ := hg
    obtain ⟨its, rv, p, hz⟩ := I.tuple hq
    obtain ⟨f0, f1, f2, f3, f4, f5⟩ := hf it (by simp)
    have hl := rv.length
    have hT : s.TypeIs (.ref e) "enumerate" := ⟨_, he, rfl⟩
    unfold pyNext
    refine wpAny_bind (wpAny_attempt (wpAny_callSpecial?_slot (name := Str.ofString "__next__") hT F.slot_enumerate_next
      (wpAny_call_entry F.slot_enumerate_next hT F.entry_enumerate_next ?_ (F.args_enumerate_next_1 _))))
    show wpAny _ _ (field (.ref e) 2 >>= _) _ _ _
    refine wpAny_bind (wpAny_field he rfl (x := .ref it) rfl ?_)
    refine wpAny_bind (wpAny_nextOf_tuple_end (by simp [I.ok.hd hc]) hit (show s.heap.IsTuple a its.toArray from p) (by simp; omega) fun h' x he' hx' => ?_)
    obtain ⟨o, ho, hc'⟩ := hx'
    refine wpAny_bind (wpAny_isInstance (T := "StopIteration") (b := true) ⟨o, ho, hc'⟩ isSubtype_stop ?_)
    exact wpAny_pure ⟨rfl, I.turned (t' := s.toks) (fun b o hb q => he' b o hb q) f0 f1 f3 f4 f5⟩
  self := fun A i s Q E st h => let ⟨⟨_, he⟩, _⟩ := st; wpAny_pyIter_enum he h
def iEnumA (K : PySem.W.Frag) (ta : TA) : TI := fun σ H R => ta σ H fun vs H1 => ∃ a xs, vs = [.ref a] ∧ ((SqL K H1 a xs ∧ R (Ite K a) H1) ∨ (SqT K H1 a xs ∧ R (IteT K a) H1))
theorem pi_enumA {X : Cx} {e : Expr} {ta : TA} {p pos tpos : Pos} {elts : List Expr} {kk : Nat} (hg : Gl X "enumerate") (hm : X.mg "enumerate" = none) (ha : PA X [e] ta) (hs : starEach [e] X.env = [(false, eval e X.env)] := by rfl) :
    PI X (.Tuple elts kk tpos) (.Call (.Name "enumerate" p) [e] [] pos) (iEnumA X.K ta) := by
  refine ⟨fun pins s σ H R I h => ?_⟩
  refine Call_ (ld_blt I hg hm boot_enumerate (PyProof.Rows.callWith_type1 (thn (ha.run pos pins s σ H _ I h) fun us s1 ⟨vs, H1, I1, r1, q1⟩ => ?_) hs rfl))
  obtain ⟨a, xs, ex, q1⟩ := q1
  subst ex
  cases r1 with
  | cons r rr =>
    cases rr
    cases r
    have fresh : ∀ b, b ∈ [s1.heap.objs.size + 1, s1.heap.objs.size] → FpOk X pins H1 b := fun b hb => by
      have e' : b = s1.heap.objs.size + 1 ∨ b = s1.heap.objs.size := by simpa using hb
      have hle : s1.heap.objs.size ≤ b := by
        rcases e' with z | z
        · rw [z]; exact Nat.le_add_right _ _
        · rw [z]; exact Nat.le_refl _
      exact I1.fpOk hle (I1.hok.fresh hle)
    rcases q1 with ⟨hq, q⟩ | ⟨hq, q⟩
    · obtain ⟨its, rv, p', hz⟩ := I1.list hq
      refine call_enumerate_list p'.isList fun h' he hit hsz hk => wpAny_pyIter_enum he ?_
      have I2 : Inv X pins σ H1 { s1 with heap := h' } := I1.kept (t' := s1.toks) hk
      exact ⟨s1.heap.objs.size + 1, [s1.heap.objs.size + 1, s1.heap.objs.size], _, _, H1, rfl, I2, turn_enum a (s1.heap.objs.size + 1) s1.heap.objs.size, ⟨⟨.none, he⟩, hit, Nat.succ_ne_self _⟩, fresh, q⟩
    · obtain ⟨its, rv, p', hz⟩ := I1.tuple hq
      obtain ⟨o1, ho1, _⟩ := id p'
      have hla := Heap.lt_size ho1
      refine call_enumerate_tup (show s1.heap.IsTuple a its.toArray from p') fun h' he hit hsz hk => wpAny_pyIter_enum he ?_
      have I2 : Inv X pins σ H1 { s1 with heap := h' } := I1.kept (t' := s1.toks) hk
      exact ⟨s1.heap.objs.size + 1, [s1.heap.objs.size + 1, s1.heap.objs.size], _, _, H1, rfl, I2, turn_enumT a (s1.heap.objs.size + 1) s1.heap.objs.size, ⟨⟨.none, he⟩, hit, Nat.succ_ne_self _, Nat.ne_of_lt (Nat.lt_succ_of_lt hla), Nat.ne_of_lt hla⟩, fresh, q⟩
theorem walk_enumT {K : PySem.W.Frag} {a : Addr} {xs : List V} : Walk (IteT K a) xs.length (fun H => SqT K H a xs) (YPair (fun i => some (.int (i : Nat))) (fun i => xs[i]?)) := by
  refine ⟨fun i _ hi q => ⟨xs, xs[i], q, by simp [hi]⟩, fun _ q => ⟨xs, q, Nat.le_refl _⟩, fun i H v H' _ q y => ?_⟩
  obtain ⟨T, x, h1, h2, h3, h4⟩ := y
  exact ⟨T, .int (i : Nat), x, h1, h2, h3, rfl, h4 xs q⟩
section
variable {K : PySem.W.Frag} {pc ps : Addr} {B : Addr → Prop} {H1 : Hp} {cl : Bool}
theorem wk_enumT {a : Addr} {vs : List V} {ds : List D} {gs : List Tg} (hz : vs.length ≤ sizeLine) (h : PTu K H1 a vs) (r : RpAll K pc H1 B vs ds) :
    WkD K pc B H1 (.tup gs) (ds.zipIdx.map fun p => .tuple [.int (p.2 : Nat), p.1]) cl (IteT K a) := by
  refine ⟨by rw [enumD_len, ← r.length]; exact hz, fun H => PTu K H a vs, YPair (fun i => some (.int (i : Nat))) (fun i => vs[i]?), ?_, h, fun H2 _ k => h.of_keep k, fun _ H2 k => h.of_keep k, fun i H2 v H3 y k => ?_⟩
  · rw [enumD_len, ← r.length]
    exact walk_enumT.mono (fun H e => e.sq) fun i H x H' _ _ y => y
  · obtain ⟨T, x, z, rfl, hT, rfl, hx, hz⟩ := y
    cases hx
    obtain ⟨e, h3, h4⟩ := r.getV hz
    exact ⟨_, enumD_get h3, .inr ⟨T, _, hT, rfl⟩, fun B' w => pair_rg hT (.int _) (h4.move k w)⟩
end
section
variable {X : Cx} {pc ps : Addr} {Φ : Callee} {G : Str → Option D} {c : Sco} {p pos : Pos}
theorem si_enum (g : Good X pc ps Φ G c) {f : Str} {a : Expr} {ta : E} {gs : List Tg} {elts : List Expr} {kk : Nat} {tpos : Pos} (hf : glB c.sc f = true) (hi : isStr f "enumerate" = true) (hs : notStar a = true) (ha : ST X pc ps Φ G a ta) :
    PI X (.Tuple elts kk tpos) (.Call (.Name f p) [a] [] pos) (iD X.K pc ps (denT Φ G (.enum ta)) (fun η => !ownedE η ta) (.tup gs)) := by
  have hi : f = "enumerate" := of_decide_eq_true hi
  subst hi
  have he : starEach [a] X.env = [(false, eval a X.env)] := star_of hs
  refine (pi_enumA (g.gl hf) (g.blt _ (by decide)) (pa_cons ha.pe pa_nil he) he).imp fun σ H R q => ?_
  obtain ⟨H0, Bc, η, S, d, xs, S', F, hd, hx, q⟩ := q
  simp only [denT, topE, den] at hd
  split at hd
  · rename_i y S1 h1
    obtain ⟨ys, h2, h3⟩ := Option.map_eq_some_iff.mp hd
    cases h3
    cases hx
    refine ⟨H0, Bc, η, S, _, S', F, h1, fun v H1 g1 => ?_⟩
    cases y with
    | list ds =>
      cases h2
      obtain ⟨a', vs, rfl, e1, e2, e3, e4⟩ := g1.rp.list
      refine ⟨a', vs, rfl, .inl ⟨SqL.of e1, q _ H1 g1.ext g1.src (wk_enumL e3 e1 e2 (fun z w => ?_) e4)⟩⟩
      have r := g1.cl z
      cases r with
      | lst _ _ nb _ _ => exact nb w
    | tuple ds =>
      cases h2
      obtain ⟨a', vs, rfl, e1, e3, e4⟩ := g1.rp.tuple
      exact ⟨a', vs, rfl, .inr ⟨e1.sq, q _ H1 g1.ext g1.src (wk_enumT e3 e1 e4)⟩⟩
    | _ => cases h2
  · cases hd
end
end Dv

/-! Dv20: tuple(zip(a, b)) of two tuples. -/
namespace Dv
open PySem PySem.Spec PyProof.Rows L2

section
variable {prog : Program} {w : World} {A : Around} {E : Value → Shared → Prop} {s : Shared}
/-- a zip of tuples whose tuple is still out gives its next pair -/
theorem zipT_item_held {z TI TO T i1 i2 l1 l2 : Addr} {f : Bool} {oT : Obj} {k1 k2 : Nat} {xs ys : Array Value} {x y : Value} {Q : Value → Shared → Prop} (D : ZipApart z TI TO i1 i2 l1 l2)
    (hz : IsZipHeld s.heap z TI TO T f) (hT : s.heap.get? T = some oT) (hTI : IsPair s.heap TI (.ref i1) (.ref i2))
    (h1 : s.heap.IsTupleIter i1 l1 k1) (h2 : s.heap.IsTupleIter i2 l2 k2) (hl1 : s.heap.IsTuple l1 xs) (hl2 : s.heap.IsTuple l2 ys) (hx : xs[k1]? = some x) (hy : ys[k2]? = some y)
    (hQ : ∀ h', IsZipHeld h' z TI TO T true → h'.IsTupleIter i1 l1 (k1 + 1) → h'.IsTupleIter i2 l2 (k2 + 1) → IsPair h' s.heap.objs.size x y → h'.objs.size = s.heap.objs.size + 1 →
      (∀ c o, c ≠ z → c ≠ i1 → c ≠ i2 → s.heap.get? c = some o → h'.get? c = some o) → Q (.ref s.heap.objs.size) { s with heap := h' }) :
    wpAny (model prog w) A (Builtin.«zip.__next__» ⟨[.ref z], []⟩) (fun fin s' => ∃ v, fin = .done (.ret v) ∧ Q v s') E s := by
  show wpAny _ _ (field (.ref z) 2 >>= _) _ _ _
  refine wpAny_bind (wpAny_field hz rfl (x := .bool false) rfl ?_)
  show wpAny _ _ (field (.ref z) 3 >>= _) _ _ _
  refine wpAny_bind (wpAny_field hz rfl (x := .ref TI) rfl ?_)
  refine wpAny_bind (wpAny_seqItems hTI rfl ?_)
  show wpAny _ _ (Builtin.SmallTypes.ownedTupleIsFree (.ref z) >>= _) _ _ _
  refine wpAny_bind (wpAny_tupleHeld_zip hz hT fun h₁ hz₁ hs₁ => ?_)
  simp only [Bool.false_eq_true, if_false]
  refine wpAny_bind ?_
  rw [← Array.forIn_toList]
  simp only [List.forIn_cons, List.forIn_nil]
  refine wpAny_bind (wpAny_bind (wpAny_holding ?_))
  show wpAny _ _ (Builtin.SmallTypes.nextOf (.ref i1) >>= _) _ _ _
  refine wpAny_bind (wpAny_nextOf_tuple_item (s := { s with heap := h₁ }) (h1.extBut hs₁.extBut D.i1z) (hl1.extBut hs₁.extBut D.l1z) hx fun h₂ h1₂ hs₂ => wpAny_pure ?_)
  refine wpAny_pure ?_
  refine wpAny_bind (wpAny_bind (wpAny_holding ?_))
  show wpAny _ _ (Builtin.SmallTypes.nextOf (.ref i2) >>= _) _ _ _
  refine wpAny_bind (wpAny_nextOf_tuple_item (s := { s with heap := h₂ }) ((h2.extBut hs₁.extBut D.i2z).extBut hs₂.extBut D.i12.symm) ((hl2.extBut hs₁.extBut D.l2z).extBut hs₂.extBut D.l2i1) hy fun h₃ h2₃ hs₃ => wpAny_pure ?_)
  refine wpAny_pure (wpAny_pure ?_)
  show wpAny _ _ (newTuple [x, y] >>= _) _ _ _
  refine wpAny_bind (wpAny_newTuple ?_)
  have hsz : h₃.objs.size = s.heap.objs.size := by rw [hs₃.1, hs₂.1, hs₁.1]
  have hz₃ : IsZipHeld h₃ z TI TO T true := hs₃.extBut _ _ D.i2z.symm (hs₂.extBut _ _ D.i1z.symm hz₁)
  have hk : ∀ c o, c ≠ z → c ≠ i1 → c ≠ i2 → s.heap.get? c = some o → h₃.get? c = some o := fun c o c1 c2 c3 e => hs₃.extBut _ _ c3 (hs₂.extBut _ _ c2 (hs₁.extBut _ _ c1 e))
  have h1₃ : h₃.IsTupleIter i1 l1 (k1 + 1) := h1₂.extBut hs₃.extBut D.i12
  refine wpAny_pure ⟨_, rfl, ?_⟩
  show Q (.ref h₃.objs.size) _
  have hp : IsPair (h₃.push { cls := .type "tuple", data := .seq #[x, y] }) h₃.objs.size x y := Heap.get?_push_size _ rfl
  have hz4 : (h₃.push { cls := .type "tuple", data := .seq #[x, y] }).objs.size = h₃.objs.size + 1 := Heap.size_push ..
  rw [hsz] at hp hz4 ⊢
  exact hQ _ (Heap.get?_push_of_some _ hz₃) (h1₃.at fun o e => Heap.get?_push_of_some _ e) (h2₃.at fun o e => Heap.get?_push_of_some _ e) hp hz4 fun c o c1 c2 c3 e => Heap.get?_push_of_some _ (hk c o c1 c2 c3 e)
theorem zipT_end_held {z TI TO T i1 i2 l1 l2 : Addr} {f : Bool} {oT : Obj} {k1 k2 : Nat} {xs ys : Array Value} {Q : Fin → Shared → Prop} (hh : A.handled = none) (D : ZipApart z TI TO i1 i2 l1 l2)
    (hz : IsZipHeld s.heap z TI TO T f) (hT : s.heap.get? T = some oT) (hTI : IsPair s.heap TI (.ref i1) (.ref i2))
    (h1 : s.heap.IsTupleIter i1 l1 k1) (h2 : s.heap.IsTupleIter i2 l2 k2) (hl1 : s.heap.IsTuple l1 xs) (hl2 : s.heap.IsTuple l2 ys) (hend : xs[k1]? = none ∨ ys[k2]? = none)
    (hE : ∀ h' e, (∀ c o, c ≠ z → c ≠ i1 → c ≠ i2 → s.heap.get? c = some o → h'.get? c = some o) → (∃ o, h'.get? e = some o ∧ o.cls = .type "StopIteration") → E (.ref e) { s with heap := h' }) :
    wpAny (model prog w) A (Builtin.«zip.__next__» ⟨[.ref z], []⟩) Q E s := by
  show wpAny _ _ (field (.ref z) 2 >>= _) _ _ _
  refine wpAny_bind (wpAny_field hz rfl (x := .bool false) rfl ?_)
  show wpAny _ _ (field (.ref z) 3 >>= _) _ _ _
  refine wpAny_bind (wpAny_field hz rfl (x := .ref TI) rfl ?_)
  refine wpAny_bind (wpAny_seqItems hTI rfl ?_)
  show wpAny _ _ (Builtin.SmallTypes.ownedTupleIsFree (.ref z) >>= _) _ _ _
  refine wpAny_bind (wpAny_tupleHeld_zip hz hT fun h₁ hz₁ hs₁ => ?_)
  simp only [Bool.false_eq_true, if_false]
  refine wpAny_bind ?_
  rw [← Array.forIn_toList]
  simp only [List.forIn_cons, List.forIn_nil]
  refine wpAny_bind (wpAny_bind (wpAny_holding ?_))
  show wpAny _ _ (Builtin.SmallTypes.nextOf (.ref i1) >>= _) _ _ _
  cases hx : xs[k1]? with
  | none =>
    refine wpAny_bind (wpAny_nextOf_tuple_end (s := { s with heap := h₁ }) hh (h1.extBut hs₁.extBut D.i1z) (hl1.extBut hs₁.extBut D.l1z) hx fun h₂ e hs₂ he => ?_)
    exact hE h₂ e (fun c o c1 c2 _ x => hs₂ _ _ c2 (hs₁.extBut _ _ c1 x)) he
  | some x =>
    have hy : ys[k2]? = none := by rcases hend with h | h; rw [hx] at h; cases h; exact h
    refine wpAny_bind (wpAny_nextOf_tuple_item (s := { s with heap := h₁ }) (h1.extBut hs₁.extBut D.i1z) (hl1.extBut hs₁.extBut D.l1z) hx fun h₂ h1₂ hs₂ => wpAny_pure ?_)
    refine wpAny_pure ?_
    refine wpAny_bind (wpAny_bind (wpAny_holding ?_))
    show wpAny _ _ (Builtin.SmallTypes.nextOf (.ref i2) >>= _) _ _ _
    refine wpAny_bind (wpAny_nextOf_tuple_end (s := { s with heap := h₂ }) hh ((h2.extBut hs₁.extBut D.i2z).extBut hs₂.extBut D.i12.symm) ((hl2.extBut hs₁.extBut D.l2z).extBut hs₂.extBut D.l2i1) hy fun h₃ e hs₃ he => ?_)
    exact hE h₃ e (fun c o c1 c2 c3 x => hs₃ _ _ c3 (hs₂ .. |> fun _ => hs₂.extBut _ _ c2 (hs₁.extBut _ _ c1 x))) he
/-- the zip behind the pairs vs -/
structure ZSt (S z TI TO i1 i2 l1 l2 : Addr) (xs ys : Array Value) (vs : List Value) (h : Heap) : Prop where
  apart : ZipApart z TI TO i1 i2 l1 l2
  ne : ∀ b ∈ [z, TI, TO, i1, i2, l1, l2], b ≠ S
  rec_ : (vs = [] ∧ IsZip h z TI TO .none ∧ IsPair h TO .none .none) ∨ ∃ T f oT, IsZipHeld h z TI TO T f ∧ h.get? T = some oT ∧ T ≠ S ∧ T ∉ [z, TI, TO, i1, i2]
  ti : IsPair h TI (.ref i1) (.ref i2)
  to : ∃ o, h.get? TO = some o
  it1 : h.IsTupleIter i1 l1 vs.length
  it2 : h.IsTupleIter i2 l2 vs.length
  t1 : h.IsTuple l1 xs
  t2 : h.IsTuple l2 ys
  out : ∀ (j : Nat) (v : Value), vs[j]? = some v → ∃ T x y, v = .ref T ∧ xs[j]? = some x ∧ ys[j]? = some y ∧ IsPair h T x y ∧ S < T ∧ T ∉ [z, TI, TO, i1, i2]
variable {S z TI TO i1 i2 l1 l2 : Addr} {xs ys : Array Value} {vs : List Value} {h h' : Heap}
theorem ZSt.frame (Z : ZSt S z TI TO i1 i2 l1 l2 xs ys vs h) (k : ∀ b o, b ≠ S → h.get? b = some o → h'.get? b = some o) : ZSt S z TI TO i1 i2 l1 l2 xs ys vs h' := by
  refine ⟨Z.apart, Z.ne, ?_, k _ _ (Z.ne _ (by simp)) Z.ti, (let ⟨o, e⟩ := Z.to; ⟨o, k _ _ (Z.ne _ (by simp)) e⟩), Z.it1.at fun o e => k _ o (Z.ne _ (by simp)) e, Z.it2.at fun o e => k _ o (Z.ne _ (by simp)) e, Z.t1.at fun o e => k _ o (Z.ne _ (by simp)) e, Z.t2.at fun o e => k _ o (Z.ne _ (by simp)) e, fun j v e => ?_⟩
  · rcases Z.rec_ with ⟨e, h1, h2⟩ | ⟨T, f, oT, h1, h2, h3, h4⟩
    · exact .inl ⟨e, k _ _ (Z.ne _ (by simp)) h1, k _ _ (Z.ne _ (by simp)) h2⟩
    · exact .inr ⟨T, f, oT, k _ _ (Z.ne _ (by simp)) h1, k _ _ h3 h2, h3, h4⟩
  · obtain ⟨T, x, y, e1, e2, e3, e4, e5, e6⟩ := Z.out j v e
    exact ⟨T, x, y, e1, e2, e3, k _ _ (Nat.ne_of_gt e5) e4, e5, e6⟩
theorem get_ix {α : Type} {l : List α} {i j : Nat} {x : α} {v : α} (hl : l.length = i) (h : (l ++ [x])[j]? = some v) : l[j]? = some v ∨ (j = i ∧ v = x) := by
  by_cases e : j < l.length
  · rw [List.getElem?_append_left e] at h
    exact .inl h
  · rw [List.getElem?_append_right (by omega)] at h
    have : j - l.length = 0 := by
      rcases Nat.eq_zero_or_pos (j - l.length) with z | z
      · exact z
      · rw [List.getElem?_eq_none (by simp; omega)] at h; cases h
    rw [this] at h
    exact .inr ⟨by omega, (Option.some.inj h).symm⟩
/-- one more pair -/
theorem ZSt.item {n : Nat} (hn : n = min xs.size ys.size) (Z : ZSt S z TI TO i1 i2 l1 l2 xs ys vs s.heap) (hi : vs.length < n) {Q : Option Value → Shared → Prop} (hS : ∃ o, s.heap.get? S = some o)
    (hQ : ∀ v h', ZSt S z TI TO i1 i2 l1 l2 xs ys (vs ++ [v]) h' → (∀ b o, b ∉ [z, TO, i1, i2] → s.heap.get? b = some o → h'.get? b = some o) → Q (some v) { s with heap := h' }) : wpAny (model prog w) A (pyNext (.ref z)) Q E s := by
  have hx : xs[vs.length]? = some (xs[vs.length]'(by omega)) := Array.getElem?_eq_getElem _
  have hy : ys[vs.length]? = some (ys[vs.length]'(by omega)) := Array.getElem?_eq_getElem _
  generalize xs[vs.length]'(by omega) = x at hx
  generalize ys[vs.length]'(by omega) = y at hy
  have D := Z.apart
  have lts : ∀ b ∈ [z, TI, TO, i1, i2], b < s.heap.objs.size := fun b hb => by
    simp only [List.mem_cons, List.not_mem_nil, or_false] at hb
    rcases hb with rfl | rfl | rfl | rfl | rfl
    · rcases Z.rec_ with ⟨_, h1, _⟩ | ⟨T, f, oT, h1, _⟩
      · exact Heap.lt_size h1
      · exact Heap.lt_size h1
    · exact Heap.lt_size Z.ti
    · obtain ⟨_, e⟩ := Z.to; exact Heap.lt_size e
    · obtain ⟨_, e, _⟩ := Z.it1; exact Heap.lt_size e
    · obtain ⟨_, e, _⟩ := Z.it2; exact Heap.lt_size e
  have nT : s.heap.objs.size ∉ [z, TI, TO, i1, i2] := fun hm => Nat.lt_irrefl _ (lts _ hm)
  have gS : S < s.heap.objs.size := by
    obtain ⟨o, e⟩ := hS
    exact Heap.lt_size e
  have nS : s.heap.objs.size ≠ S := Nat.ne_of_gt gS
  have mk : ∀ (h' : Heap) (T : Addr) (f : Bool) (oT : Obj), IsZipHeld h' z TI TO T f → h'.get? T = some oT → T ≠ S → T ∉ [z, TI, TO, i1, i2] → h'.IsTupleIter i1 l1 (vs.length + 1) → h'.IsTupleIter i2 l2 (vs.length + 1) → IsPair h' s.heap.objs.size x y →
      (∃ o, h'.get? TO = some o) → (∀ c o, c ≠ z → c ≠ TO → c ≠ i1 → c ≠ i2 → s.heap.get? c = some o → h'.get? c = some o) → Q (some (.ref s.heap.objs.size)) { s with heap := h' } := by
    intro h' T f oT g1 g2 g3 g4 g5 g6 g7 g8 hk
    refine hQ _ h' ⟨D, Z.ne, .inr ⟨T, f, oT, g1, g2, g3, g4⟩, hk _ _ D.TIz D.TITO D.TIi1 D.TIi2 Z.ti, g8, by simpa using g5, by simpa using g6, Z.t1.at fun o e => hk _ o D.l1z D.l1TO D.l1i1 D.l1i2 e, Z.t2.at fun o e => hk _ o D.l2z D.l2TO D.l2i1 D.l2i2 e, fun j v hj => ?_⟩ fun b o hb e => ?_
    · rcases get_ix (i := vs.length) rfl hj with hj | ⟨rfl, rfl⟩
      · obtain ⟨T', x', y', e1, e2, e3, e4, e5, e6⟩ := Z.out j v hj
        simp only [List.mem_cons, List.not_mem_nil, or_false, not_or] at e6
        exact ⟨T', x', y', e1, e2, e3, hk _ _ e6.1 e6.2.2.1 e6.2.2.2.1 e6.2.2.2.2 e4, e5, by simp [e6]⟩
      · exact ⟨_, x, y, rfl, hx, hy, g7, gS, nT⟩
    · simp only [List.mem_cons, List.not_mem_nil, or_false, not_or] at hb
      exact hk b o hb.1 hb.2.1 hb.2.2.1 hb.2.2.2 e
  rcases Z.rec_ with ⟨_, h1, h2⟩ | ⟨T, f, oT, h1, h2, h3, h4⟩
  · refine RZ.pyNext_zipT_item D h1 Z.ti h2 Z.it1 Z.it2 Z.t1 Z.t2 hx hy fun h' a1 a2 a3 a4 a5 a6 a7 => ?_
    exact mk h' s.heap.objs.size false _ a1 a5 nS nT a3 a4 a5 ⟨_, a2⟩ a7
  · have hTy : s.TypeIs (.ref z) "zip" := ⟨_, h1, rfl⟩
    unfold pyNext
    refine wpAny_bind (wpAny_attempt (wpAny_callSpecial?_slot (name := Str.ofString "__next__") hTy F.slot_zip_next
      (wpAny_call_entry F.slot_zip_next hTy F.entry_zip_next
        (zipT_item_held D h1 h2 Z.ti Z.it1 Z.it2 Z.t1 Z.t2 hx hy fun h' a1 a3 a4 a5 a6 a7 => wpAny_pure ?_) (F.args_zip_next_1 _))))
    simp only [List.mem_cons, List.not_mem_nil, or_false, not_or] at h4
    exact mk h' T true oT a1 (a7 _ _ h4.1 h4.2.2.2.1 h4.2.2.2.2 h2) h3 (by simp [h4]) a3 a4 a5 (let ⟨o, e⟩ := Z.to; ⟨o, a7 _ _ D.TOz D.TOi1 D.TOi2 e⟩) fun c o c1 _ c3 c4 e => a7 c o c1 c3 c4 e
/-- none is left -/
theorem ZSt.done (hh : A.handled = none) (Z : ZSt S z TI TO i1 i2 l1 l2 xs ys vs s.heap) (hi : vs.length = min xs.size ys.size) {Q : Option Value → Shared → Prop}
    (hQ : ∀ h', (∀ b o, b ∉ [z, TO, i1, i2] → s.heap.get? b = some o → h'.get? b = some o) → Q none { s with heap := h' }) : wpAny (model prog w) A (pyNext (.ref z)) Q E s := by
  have hend : xs[vs.length]? = none ∨ ys[vs.length]? = none := by
    rw [Array.getElem?_eq_none_iff, Array.getElem?_eq_none_iff]
    omega
  have D := Z.apart
  rcases Z.rec_ with ⟨_, h1, h2⟩ | ⟨T, f, oT, h1, h2, h3, h4⟩
  · refine RZ.pyNext_zipT_end hh D h1 Z.ti h2 Z.it1 Z.it2 Z.t1 Z.t2 hend fun h' hk => hQ h' fun b o hb e => ?_
    simp only [List.mem_cons, List.not_mem_nil, or_false, not_or] at hb
    exact hk b o hb.1 hb.2.1 hb.2.2.1 hb.2.2.2 e
  · have hTy : s.TypeIs (.ref z) "zip" := ⟨_, h1, rfl⟩
    unfold pyNext
    refine wpAny_bind (wpAny_attempt (wpAny_callSpecial?_slot (name := Str.ofString "__next__") hTy F.slot_zip_next
      (wpAny_call_entry F.slot_zip_next hTy F.entry_zip_next (zipT_end_held (by simp [hh]) D h1 h2 Z.ti Z.it1 Z.it2 Z.t1 Z.t2 hend fun h' e hk he => ?_) (F.args_zip_next_1 _))))
    obtain ⟨o, ho, hc⟩ := he
    refine wpAny_bind (wpAny_isInstance (T := "StopIteration") (b := true) ⟨o, ho, hc⟩ isSubtype_stop ?_)
    refine wpAny_pure (hQ _ fun b o hb e => ?_)
    simp only [List.mem_cons, List.not_mem_nil, or_false, not_or] at hb
    exact hk b o hb.1 hb.2.2.1 hb.2.2.2 e
theorem zip_nolen : typeLookup (.type "zip") "__len__" = pure none := by rw [typeLookup_type, builtinLookup_eq_fast]; kernel_rfl
theorem zip_nohint : typeLookup (.type "zip") "__length_hint__" = pure none := by rw [typeLookup_type, builtinLookup_eq_fast]; kernel_rfl
/-- the pairs vs as they stand -/
def PairsOut (S : Addr) (xs ys : Array Value) (vs : List Value) (h : Heap) : Prop := vs.length = min xs.size ys.size ∧ ∀ (j : Nat) (v : Value), vs[j]? = some v → ∃ T x y, v = .ref T ∧ xs[j]? = some x ∧ ys[j]? = some y ∧ IsPair h T x y ∧ S < T
/-- the loop that gathers -/
theorem zip_loop {R : Result → Shared → Prop} (res : Value) (hh : A.handled = none) (hn : min xs.size ys.size ≤ sizeLine) : ∀ (k : Nat) (s : Shared) (vs : List Value) (c : Nat), min xs.size ys.size - vs.length = k → vs.length ≤ min xs.size ys.size → ZSt S z TI TO i1 i2 l1 l2 xs ys vs s.heap →
    s.heap.get? S = some { cls := .type "list", dict := none, data := .seq vs.toArray c, slots := #[] } →
    (∀ h' vs' c', PairsOut S xs ys vs' h' → h'.get? S = some { cls := .type "list", dict := none, data := .seq vs'.toArray c', slots := #[] } → (∀ b o, b ∉ [S, z, TO, i1, i2] → s.heap.get? b = some o → h'.get? b = some o) → R (.ok (.ret res)) { s with heap := h' }) →
    codeAny (model prog w) A (.builtin "list.extend.loop" ⟨[.ref S, .ref z, res], []⟩) R s := by
  intro k
  induction k with
  | zero =>
    intro s vs c hk hi Z hS hR
    refine codeAny_builtin F.entry_extend_loop ?_
    rw [Around.under_plainId F.plain_extend_loop _]
    show wpAny _ A.in1 (pyNext (.ref z) >>= _) _ _ s
    refine wpAny_bind (Z.done (by simp [hh]) (by omega) fun h' hk' => ?_)
    have ne := Z.ne
    have nS : S ∉ [z, TO, i1, i2] := fun hm => ne S (by simp only [List.mem_cons, List.not_mem_nil, or_false] at hm ⊢; rcases hm with h | h | h | h <;> simp [h]) rfl
    refine wpAny_pure (hR h' vs c ⟨by omega, fun j v hj => ?_⟩ (hk' _ _ nS hS) fun b o hb e => hk' b o (fun z => hb (List.mem_cons_of_mem _ z)) e)
    obtain ⟨T, x, y, e1, e2, e3, e4, e5, e6⟩ := Z.out j v hj
    exact ⟨T, x, y, e1, e2, e3, hk' _ _ (fun hm => e6 (by simp only [List.mem_cons, List.not_mem_nil, or_false] at hm ⊢; rcases hm with h | h | h | h <;> simp [h])) e4, e5⟩
  | succ k ih =>
    intro s vs c hk hi Z hS hR
    refine codeAny_builtin F.entry_extend_loop ?_
    rw [Around.under_plainId F.plain_extend_loop _]
    show wpAny _ A.in1 (pyNext (.ref z) >>= _) _ _ s
    refine wpAny_bind (Z.item rfl (by omega) ⟨_, hS⟩ fun v h' Z' hk' => ?_)
    have ne := Z.ne
    have nS : S ∉ [z, TO, i1, i2] := fun hm => ne S (by simp only [List.mem_cons, List.not_mem_nil, or_false] at hm ⊢; rcases hm with h | h | h | h <;> simp [h]) rfl
    have hS' := hk' _ _ nS hS
    show wpAny _ A.in1 (updateSeq S (·.push v) >>= _) _ _ _
    refine wpAny_bind ?_
    refine wpAny_updateSeq (s := { s with heap := h' }) hS' rfl (wpAny_pure ⟨plainId_quiet F.plain_extend_loop _, ?_⟩) (by simp; omega) (by simp; omega)
    have hS2 := Heap.get?_update_self (Obj.mapSeq (·.push v)) hS' rfl
    have oth : ∀ b o, b ≠ S → h'.get? b = some o → (h'.update S (Obj.mapSeq (·.push v))).get? b = some o := fun b o hb e => (Heap.get?_update_other _ _ (Ne.symm hb)).trans e
    refine ih { s with heap := h'.update S (Obj.mapSeq (·.push v)) } (vs ++ [v]) _ (by simp; omega) (by simp; omega) (Z'.frame oth) (by
      refine hS2.trans ?_
      simp [Obj.mapSeq]
      rfl) fun h2 vs' c' po e kp => hR h2 vs' c' po e fun b o hb e => kp b o hb (oth b o (fun z => hb (by simp [z])) (hk' b o (fun z => hb (List.mem_cons_of_mem _ z)) e))
theorem collect_zip {Q : List Value → Shared → Prop} (hz0 : IsZip s.heap z TI TO .none) (hh : A.handled = none) (hn : min xs.size ys.size ≤ sizeLine) (lts : ∀ b ∈ [z, TI, TO, i1, i2, l1, l2], b < s.heap.objs.size) (Z : ZSt s.heap.objs.size z TI TO i1 i2 l1 l2 xs ys [] s.heap)
    (hQ : ∀ h' vs, PairsOut s.heap.objs.size xs ys vs h' → (∀ b o, b ∉ [z, TO, i1, i2] → s.heap.get? b = some o → h'.get? b = some o) → s.heap.objs.size < h'.objs.size → Q vs { s with heap := h' }) : wpAny (model prog w) A (collect (.ref z)) Q E s := by
  unfold collect
  refine wpAny_bind (wpAny_runValue (codeAny_builtin F.entry_proto_collect ?_))
  rw [Around.under_plainId F.plain_proto_collect _]
  show wpAny _ A.in1 (newList [] >>= fun l => again (.builtin "list.__iadd__" ⟨[l, .ref z], []⟩)) _ _ s
  refine wpAny_bind (wpAny_newObj_type ?_)
  refine wpAny_pure ⟨plainId_quiet F.plain_list_iadd _, codeAny_builtin F.entry_list_iadd ?_⟩
  rw [Around.under_plainId F.plain_list_iadd _]
  have hS₁ : (s.heap.push { cls := .type "list", data := .seq ([] : List Value).toArray }).get? s.heap.objs.size = some { cls := .type "list", data := .seq ([] : List Value).toArray } := Heap.get?_push_size _ rfl
  have Z₁ : ZSt s.heap.objs.size z TI TO i1 i2 l1 l2 xs ys [] (s.heap.push { cls := .type "list", data := .seq ([] : List Value).toArray }) := Z.frame fun b o _ e => Heap.get?_push_of_some _ e
  have hT₁ : Shared.TypeIs { s with heap := s.heap.push { cls := .type "list", data := .seq ([] : List Value).toArray } } (.ref z) "zip" := by
    rcases Z₁.rec_ with ⟨_, h1, _⟩ | ⟨T, f, oT, h1, _⟩
    · exact ⟨_, h1, rfl⟩
    · exact ⟨_, h1, rfl⟩
  have hzS : s.heap.objs.size ≠ z := fun e => Nat.lt_irrefl _ (e ▸ lts z (by simp))
  show wpAny _ A.in1 (Builtin.List.listExtendWith (.ref s.heap.objs.size) (.ref z) (.ref s.heap.objs.size)) _ _ _
  unfold Builtin.List.listExtendWith
  refine wpAny_bind (wpAny_typeOf hT₁ ?_)
  have h1 : Builtin.List.listSameRef (.ref s.heap.objs.size) (.ref z) = false := by simp [Builtin.List.listSameRef, hzS]
  have h2 : (Value.type "zip" == Value.type "list") = false := by decide
  have h3 : (Value.type "zip" == Value.type "tuple") = false := by decide
  simp only [h1, h2, h3, Bool.or_false, Bool.false_eq_true, if_false]
  have hz1 : IsZip (s.heap.push { cls := .type "list", data := .seq ([] : List Value).toArray }) z TI TO .none := Heap.get?_push_of_some _ hz0
  refine wpAny_bind (wpAny_pyIter_zip hz1 ?_)
  refine wpAny_bind (wpAny_holding ?_)
  unfold Builtin.List.listLengthHint
  refine wpAny_bind (wpAny_specialOf hT₁ zip_nolen ?_)
  show wpAny _ A.in1 (specialOf (Value.ref z) (Str.ofString "__length_hint__") >>= _) _ _ _
  refine wpAny_bind (wpAny_specialOf hT₁ zip_nohint ?_)
  refine wpAny_pure ?_
  show wpAny _ A.in1 (rule "list.extend.makes-room" >>= fun _ => Builtin.List.listTouch (.ref s.heap.objs.size) >>= fun _ =>
    again (.builtin "list.extend.loop" ⟨[.ref s.heap.objs.size, .ref z, .ref s.heap.objs.size], []⟩)) _ _ _
  refine wpAny_bind (wpAny_rule ?_)
  refine wpAny_bind ?_
  show wpAny _ A.in1 (updateSeq s.heap.objs.size (·.push .none) >>= fun _ => updateSeq s.heap.objs.size (·.pop)) _ _ _
  refine wpAny_bind (wpAny_updateSeq hS₁ rfl ?_)
  have hS₂ := Heap.get?_update_self (Obj.mapSeq (·.push Value.none)) hS₁ rfl
  refine wpAny_updateSeq hS₂ rfl ?_
  have hS₃ := Heap.get?_update_self (Obj.mapSeq (·.pop)) hS₂ rfl
  have oth : ∀ b o, b ≠ s.heap.objs.size → (s.heap.push { cls := .type "list", data := .seq ([] : List Value).toArray }).get? b = some o →
      (((s.heap.push { cls := .type "list", data := .seq ([] : List Value).toArray }).update s.heap.objs.size (Obj.mapSeq (·.push Value.none))).update s.heap.objs.size (Obj.mapSeq (·.pop))).get? b = some o :=
    fun b o hb e => (Heap.get?_update_other _ _ (Ne.symm hb)).trans ((Heap.get?_update_other _ _ (Ne.symm hb)).trans e)
  refine wpAny_pure ⟨plainId_quiet F.plain_extend_loop _, zip_loop (S := s.heap.objs.size) (z := z) (TI := TI) (TO := TO) (i1 := i1) (i2 := i2) (l1 := l1) (l2 := l2) (xs := xs) (ys := ys) _ (by simp [hh]) hn _ _ [] _ rfl (by simp) (Z₁.frame oth) hS₃ fun h' vs' c' po hS' kp => ?_⟩
  show wpAny _ A (load s.heap.objs.size >>= _) _ _ _
  refine wpAny_bind (wpAny_load hS' ?_)
  refine wpAny_pure ?_
  have el : vs'.toArray.toList = vs' := by simp
  rw [el]
  refine hQ h' vs' po (fun b o hb e => kp b o (fun hm => ?_) (oth b o (fun z => ?_) (Heap.get?_push_of_some _ e))) (Heap.lt_size hS')
  · rcases List.mem_cons.mp hm with q | q
    · exact absurd (Heap.lt_size e) (by rw [q]; exact Nat.lt_irrefl _)
    · exact hb q
  · exact absurd (Heap.lt_size e) (by rw [z]; exact Nat.lt_irrefl _)
theorem code_tuple_new_zip {Q₁ : Value → Shared → Prop} (hz0 : IsZip s.heap z TI TO .none) (hh : A.handled = none) (hn : min xs.size ys.size ≤ sizeLine) (lts : ∀ b ∈ [z, TI, TO, i1, i2, l1, l2], b < s.heap.objs.size) (Z : ZSt s.heap.objs.size z TI TO i1 i2 l1 l2 xs ys [] s.heap)
    (h : ∀ h' vs, PairsOut s.heap.objs.size xs ys vs h' → (∀ b o, b ∉ [z, TO, i1, i2] → s.heap.get? b = some o → h'.get? b = some o) → s.heap.objs.size < h'.objs.size → Q₁ (.ref h'.objs.size) { s with heap := h'.push { cls := .type "tuple", data := .seq vs.toArray } }) :
    codeAny (model prog w) A (.call (.builtin "tuple.__new__") ⟨[.type "tuple", .ref z], []⟩) (wants Q₁ E) s := by
  refine codeAny_of_tree ?_
  show wpAny _ A.in1 (do checkBuiltinCall "tuple.__new__" ⟨[.type "tuple", .ref z], []⟩; again (.builtin "tuple.__new__" ⟨[.type "tuple", .ref z], []⟩)) _ _ s
  refine wpAny_bind (wpAny_of_eq (F.newCall_tuple_1 _) (wpAny_pure ⟨plainId_quiet F.plain_tuple_new _, codeAny_builtin F.entry_tuple_new ?_⟩))
  rw [Around.under_plainId F.plain_tuple_new _]
  have hsub := sub_tuple_self
  have hinit := init_tuple_lookup
  have hmh := madeHere_tuple
  have hTI : s.TypeIs (.ref z) "zip" := ⟨_, hz0, rfl⟩
  have hh1 : A.in1.handled = none := hh
  wp_walk using wpAny_typeOf hTI, collect_zip (A := A.in1) hz0 hh1 hn lts Z
  intro h' vs po hk hs
  show wpAny _ _ (Builtin.Tuple.tupleExact vs.toArray >>= fun v => ret v) _ _ _
  unfold Builtin.Tuple.tupleExact
  refine wpAny_bind (wpAny_newObj_type ?_ (by show vs.toArray.size ≤ sizeLine; rw [List.size_toArray, po.1]; exact hn))
  exact wpAny_pure (h h' vs po hk hs)
theorem call_tuple_zip {Q : Value → Shared → Prop} (hz0 : IsZip s.heap z TI TO .none) (hh : A.handled = none) (hn : min xs.size ys.size ≤ sizeLine) (lts : ∀ b ∈ [z, TI, TO, i1, i2, l1, l2], b < s.heap.objs.size) (Z : ZSt s.heap.objs.size z TI TO i1 i2 l1 l2 xs ys [] s.heap)
    (hQ : ∀ h' vs, PairsOut s.heap.objs.size xs ys vs h' → (∀ b o, b ∉ [z, TO, i1, i2] → s.heap.get? b = some o → h'.get? b = some o) → s.heap.objs.size < h'.objs.size → Q (.ref h'.objs.size) { s with heap := h'.push { cls := .type "tuple", data := .seq vs.toArray } }) :
    wpAny (model prog w) A (call (.type "tuple") [.ref z]) Q E s := by
  refine callType_codes (Q₁ := fun obj s₁ => s₁.TypeIs obj "tuple" ∧ Q obj s₁) F.called_tuple (F.typeCall_tuple_1 _) F.entry_object_init
    (code_tuple_new_zip (A := A.in1) hz0 hh hn lts Z fun h' vs po hk hs => ⟨⟨_, Heap.get?_push_size _ rfl, rfl⟩, hQ h' vs po hk hs⟩) fun obj s₁ h₁ => ?_
  exact ⟨h₁.1, F.args_object_init_2 obj _, object_init_meets F.called_tuple.init.lookup F.called_tuple.made (by decide) prog w A.in1 _ s₁ ⟨h₁.1, rfl, h₁.2⟩⟩
end
/-! ### many new objects at once -/
section
variable {X : Cx} {pins : List (Addr × Obj)} {σ : L2.St} {H H' : Hp} {s : Shared} {h' : Heap}
theorem Inv.laidAll {t' : Nat} (I : Inv X pins σ H s) (k : ∀ b u, s.heap.get? b = some u → h'.get? b = some u) (ext : ∀ b o, H b = some o → H' b = some o) (old : ∀ b, b < s.heap.objs.size → H' b = H b) (new : ∀ b o, s.heap.objs.size ≤ b → H' b = some o → ObjOk X.prog X.w H' h' b o) :
    Inv X pins σ H' { s with heap := h', toks := t' } := by
  refine I.un ⟨fun b o q _ _ _ => k b o q, fun b o q _ _ _ => ⟨o.slots, k b o q⟩, fun b o q n _ => ?_, fun b o q _ => ⟨o, k b o q⟩, fun b xs q => ext _ _ q, fun b o u q => ext _ _ q, fun b q ps => ⟨#[], by rw [ext _ _ ps]; simp⟩⟩ fun b o e => ?_
  · rw [old b (Heap.lt_size q)]; exact n
  · by_cases hb : b < s.heap.objs.size
    · rw [old b hb] at e
      exact (I.hok b o e).stay (fun c u _ q => k c u q) (fun c q => ext _ _ q) fun c xs q => ext _ _ q
    · exact new b o (Nat.le_of_not_lt hb) e
/-- the pairs, laid -/
def NewPairs (xs ys : List V) (H1 H2 : Hp) (p : Addr) : Prop := (∀ c o, H1 c = some o → H2 c = some o) ∧ H1 p = none ∧ ∃ (o : Obj) (ts : List V), o.dict = none ∧ H2 p = some (.frz o (.tup ts)) ∧ ts.length = min xs.length ys.length ∧
  ∀ (j : Nat) (v : V), ts[j]? = some v → ∃ T x y o', v = .ref T ∧ xs[j]? = some x ∧ ys[j]? = some y ∧ o'.dict = none ∧ H2 T = some (.frz o' (.tup [x, y]))
def tTzip (K : PySem.W.Frag) (ta : TA) : TE := fun σ H Q => ta σ H fun vs H1 => ∃ a b xs ys, vs = [.ref a, .ref b] ∧ SqT K H1 a xs ∧ SqT K H1 b ys ∧ ∀ H2 p, NewPairs xs ys H1 H2 p → Q (.ref p) H2
open Classical in
theorem tzip_laid {t' : Nat} {xs ys : List V} {us ws vs : List Value} {S : Addr} (I : Inv X pins σ H s) (hS : s.heap.objs.size ≤ S) (k : ∀ b u, s.heap.get? b = some u → h'.get? b = some u) (rx : Vals xs us) (ry : Vals ys ws) (lx : xs.length ≤ sizeLine) (po : PairsOut S us.toArray ws.toArray vs h') (hlt : S < h'.objs.size) :
    ∃ H2, NewPairs xs ys H H2 h'.objs.size ∧ Inv X pins σ H2 { s with heap := h'.push { cls := .type "tuple", data := .seq vs.toArray }, toks := t' } := by
  have hpn : H h'.objs.size = none := I.hok.fresh (Nat.le_of_lt (Nat.lt_of_le_of_lt hS hlt))
  -- the abstract pair at T
  let P : Addr → HO → Prop := fun c o => ∃ (j : Nat) (x y : V) (u w : Value), vs[j]? = some (.ref c) ∧ xs[j]? = some x ∧ ys[j]? = some y ∧ us[j]? = some u ∧ ws[j]? = some w ∧ o = .frz { cls := .type "tuple", data := .seq #[u, w] } (.tup [x, y])
  let ts : List V := vs.map fun v => match v with
    | .ref c => .ref c
    | _ => .non
  let H2 : Hp := fun c => if c = h'.objs.size then some (.frz { cls := .type "tuple", data := .seq vs.toArray } (.tup ts)) else if h : ∃ o, P c o then some (Classical.choose h) else H c
  have hP : ∀ c o, P c o → S < c ∧ c < h'.objs.size ∧ ∃ x y u w, RelV x u ∧ RelV y w ∧ h'.get? c = some { cls := .type "tuple", data := .seq #[u, w] } ∧ o = .frz { cls := .type "tuple", data := .seq #[u, w] } (.tup [x, y]) := by
    intro c o ⟨j, x, y, u, w, e1, e2, e3, e4, e5, e6⟩
    obtain ⟨T, u', w', q1, q2, q3, q4, q5⟩ := po.2 j _ e1
    cases q1
    have q2 : us[j]? = some u' := by simpa using q2
    have q3 : ws[j]? = some w' := by simpa using q3
    rw [e4] at q2; cases q2
    rw [e5] at q3; cases q3
    obtain ⟨u2, r1, r2⟩ := rx.get e2
    rw [e4] at r1; cases r1
    obtain ⟨w2, r3, r4⟩ := ry.get e3
    rw [e5] at r3; cases r3
    exact ⟨q5, Heap.lt_size q4, x, y, u, w, r2, r4, q4, e6⟩
  have uniq : ∀ c o o', P c o → P c o' → o = o' := by
    intro c o o' h1 h2
    obtain ⟨_, _, x, y, u, w, r1, r2, g1, e1⟩ := hP c o h1
    obtain ⟨_, _, x', y', u', w', r3, r4, g2, e2⟩ := hP c o' h2
    rw [g1] at g2
    have g3 : u = u' ∧ w = w' := by simpa using g2
    obtain ⟨e3, e4⟩ := g3
    subst e3 e4
    rw [e1, e2, r1.inj r3, r2.inj r4]
  have atP : ∀ c o, P c o → H2 c = some o := by
    intro c o h
    obtain ⟨_, hlt', _⟩ := hP c o h
    show (if c = h'.objs.size then _ else if h : ∃ o, P c o then some (Classical.choose h) else H c) = _
    rw [if_neg (Nat.ne_of_lt hlt'), dif_pos ⟨o, h⟩]
    exact congrArg some (uniq c _ _ (Classical.choose_spec ⟨o, h⟩) h)
  have atp : H2 h'.objs.size = some (.frz { cls := .type "tuple", data := .seq vs.toArray } (.tup ts)) := by
    show (if h'.objs.size = h'.objs.size then _ else _) = _
    rw [if_pos rfl]
  have old : ∀ c, c ≤ S → H2 c = H c := by
    intro c hc
    show (if c = h'.objs.size then _ else if h : ∃ o, P c o then some (Classical.choose h) else H c) = _
    rw [if_neg (Nat.ne_of_lt (Nat.lt_of_le_of_lt hc hlt)), dif_neg]
    rintro ⟨o, h⟩
    exact absurd (hP c o h).1 (Nat.not_lt.mpr hc)
  have ext : ∀ c o, H c = some o → H2 c = some o := by
    intro c o e
    rw [old c (Nat.le_of_lt (Nat.lt_of_lt_of_le (I.hok.lt e) hS))]
    exact e
  have tsv : Vals ts vs := by
    have main : ∀ l : List Value, (∀ v ∈ l, ∃ T, v = .ref T) → Vals (l.map fun v => match v with
        | .ref c => (.ref c : V)
        | _ => .non) l := by
      intro l
      induction l with
      | nil => intro _; exact .nil
      | cons v l ih =>
        intro h
        obtain ⟨T, rfl⟩ := h v List.mem_cons_self
        exact .cons rfl (ih fun v hv => h v (List.mem_cons_of_mem _ hv))
    refine main vs fun v hv => ?_
    obtain ⟨j, hj⟩ := List.getElem?_of_mem hv
    obtain ⟨T, _, _, e, _⟩ := po.2 j v hj
    exact ⟨T, e⟩
  have len : ts.length = min xs.length ys.length := by
    rw [tsv.length, po.1, List.size_toArray, List.size_toArray, rx.length, ry.length]
  refine ⟨H2, ⟨ext, hpn, _, ts, rfl, atp, len, fun j v hj => ?_⟩, ?_⟩
  · obtain ⟨u, hu, ru⟩ := tsv.get hj
    obtain ⟨T, u', w', e1, e2, e3, e4, e5⟩ := po.2 j u hu
    subst e1
    have hv : v = .ref T := by
      cases v with
      | ref a => cases (show Value.ref T = Value.ref a from ru); rfl
      | int i => obtain ⟨t, q⟩ := ru; cases q
      | str i => obtain ⟨t, q⟩ := ru; cases q
      | byt i => obtain ⟨t, q⟩ := ru; cases q
      | flt i => obtain ⟨t, q⟩ := ru; cases q
      | _ => cases ru
    subst hv
    have e2 : us[j]? = some u' := by simpa using e2
    have e3 : ws[j]? = some w' := by simpa using e3
    have gx : ∃ x, xs[j]? = some x := by
      have : j < us.length := (List.getElem?_eq_some_iff.mp e2).1
      exact ⟨xs[j]'(by rw [rx.length]; exact this), List.getElem?_eq_getElem _⟩
    have gy : ∃ y, ys[j]? = some y := by
      have : j < ws.length := (List.getElem?_eq_some_iff.mp e3).1
      exact ⟨ys[j]'(by rw [ry.length]; exact this), List.getElem?_eq_getElem _⟩
    obtain ⟨x, hx⟩ := gx
    obtain ⟨y, hy⟩ := gy
    exact ⟨T, x, y, _, rfl, hx, hy, rfl, atP T _ ⟨j, x, y, u', w', hu, hx, hy, e2, e3, rfl⟩⟩
  · refine Inv.laidAll I (fun b u e => Heap.get?_push_of_some _ (k b u e)) ext (fun b hb => old b (Nat.le_of_lt (Nat.lt_of_lt_of_le hb hS))) fun b o hb e => ?_
    by_cases hbp : b = h'.objs.size
    · subst hbp
      rw [atp] at e
      cases e
      refine ⟨Heap.get?_push_size _ rfl, ?_, vs, tsv, ⟨_, Heap.get?_push_size _ rfl, rfl, _, rfl⟩⟩
      rw [len]
      exact Nat.le_trans (Nat.min_le_left _ _) lx
    · have e' : (if b = h'.objs.size then _ else if h : ∃ o, P b o then some (Classical.choose h) else H b) = some o := e
      rw [if_neg hbp] at e'
      by_cases hq : ∃ o, P b o
      · rw [dif_pos hq] at e'
        cases e'
        obtain ⟨_, _, x, y, u, w, r1, r2, g1, e1⟩ := hP b _ (Classical.choose_spec hq)
        rw [e1]
        exact ⟨Heap.get?_push_of_some _ g1, by show 2 ≤ sizeLine; decide, [u, w], .cons r1 (.cons r2 .nil), ⟨_, Heap.get?_push_of_some _ g1, rfl, _, rfl⟩⟩
      · rw [dif_neg hq, I.hok.fresh hb] at e'
        cases e'
end
section
variable {X : Cx} {pc ps : Addr} {Φ : Callee} {G : Str → Option D} {c : Sco} {p p2 pos pos2 : Pos}
theorem pe_tzip {a b : Expr} {ta : TA} (hc : X.calm = true) (hg : Gl X "tuple") (hm : X.mg "tuple" = none) (hg2 : Gl X "zip") (hm2 : X.mg "zip" = none) (ha : PA X [a, b] ta)
    (hs : starEach [a, b] X.env = (false, eval a X.env) :: starEach [b] X.env) (hpl : (backTo pos2 (starEach [b] X.env)).any (·.1) = false) :
    PE X (.Call (.Name "tuple" p) [.Call (.Name "zip" p2) [a, b] [] pos2] [] pos) (tTzip X.K ta) := by
  refine ⟨fun pins s σ H Q I h => ?_⟩
  refine Call_ (ld_blt I hg hm boot_tuple (PyProof.Rows.callWith_type1 (args_cons ?_ (by rfl)) (by rfl)))
  refine Call_ (ld_blt I hg2 hm2 boot_zip (PyProof.Rows.callWith_type1 (thn (ha.run pos2 pins s σ H _ I h) fun us s1 ⟨vs, H1, I1, r1, q1⟩ => ?_) hs hpl))
  obtain ⟨a', b', xs, ys, ex, hqx, hqy, q⟩ := q1
  subst ex
  cases r1 with
  | cons r rr =>
    cases rr with
    | cons r' rr =>
      cases rr
      cases r
      cases r'
      obtain ⟨its, rv, p1, lx⟩ := I1.tuple hqx
      obtain ⟨its2, rv2, p2', _⟩ := I1.tuple hqy
      obtain ⟨o1, ho1, _⟩ := id p1
      obtain ⟨o2, ho2, _⟩ := id p2'
      have la := Heap.lt_size ho1
      have lb := Heap.lt_size ho2
      refine RZ.call_zipT (show s1.heap.IsTuple a' its.toArray from p1) (show s1.heap.IsTuple b' its2.toArray from p2') fun h' hz hTI hTO h1 h2 hsz hk => args_nil ?_
      have D := PySem.W.ktu_apart s1.heap.objs.size a' b' la lb
      have lts : ∀ b ∈ [s1.heap.objs.size + 4, s1.heap.objs.size + 2, s1.heap.objs.size + 3, s1.heap.objs.size, s1.heap.objs.size + 1, a', b'], b < h'.objs.size := fun b hb => by
        rw [hsz]
        simp only [List.mem_cons, List.not_mem_nil, or_false] at hb
        have la' : a' < s1.heap.objs.size + 5 := Nat.lt_of_lt_of_le la (Nat.le_add_right _ _)
        have lb' : b' < s1.heap.objs.size + 5 := Nat.lt_of_lt_of_le lb (Nat.le_add_right _ _)
        rcases hb with e | e | e | e | e | e | e
        · rw [e]; exact Nat.lt_succ_self _
        · rw [e]; exact Nat.add_lt_add_left (by decide) _
        · rw [e]; exact Nat.add_lt_add_left (by decide) _
        · rw [e]; exact Nat.lt_add_of_pos_right (by decide)
        · rw [e]; exact Nat.add_lt_add_left (by decide) _
        · rw [e]; exact la'
        · rw [e]; exact lb'
      have Z : ZSt h'.objs.size (s1.heap.objs.size + 4) (s1.heap.objs.size + 2) (s1.heap.objs.size + 3) s1.heap.objs.size (s1.heap.objs.size + 1) a' b' its.toArray its2.toArray [] h' :=
        ⟨D, fun b hb => Nat.ne_of_lt (lts b hb), .inl ⟨rfl, hz, hTO⟩, hTI, ⟨_, hTO⟩, h1, h2, Heap.IsTuple.at (show s1.heap.IsTuple a' its.toArray from p1) fun o e => hk _ o e, Heap.IsTuple.at (show s1.heap.IsTuple b' its2.toArray from p2') fun o e => hk _ o e, fun j v e => by simp at e⟩
      refine call_tuple_zip (s := { s1 with heap := h' }) hz (I1.ok.hd hc) ?_ lts Z fun h2 vs po hk2 hlt => ?_
      · rw [List.size_toArray, List.size_toArray, ← rv.length]
        exact Nat.le_trans (Nat.min_le_left _ _) lx
      · have hS : s1.heap.objs.size ≤ h'.objs.size := by rw [hsz]; exact Nat.le_add_right _ _
        have kk : ∀ b u, s1.heap.get? b = some u → h2.get? b = some u := fun b u e => hk2 b u (fun hm => ?_) (hk b u e)
        · obtain ⟨H2, np, I2⟩ := tzip_laid (t' := s1.toks) I1 hS kk rv rv2 lx po hlt
          exact ⟨.ref h2.objs.size, H2, I2, rfl, q H2 _ np⟩
        · have lt := Heap.lt_size e
          simp only [List.mem_cons, List.not_mem_nil, or_false] at hm
          rcases hm with z | z | z | z <;> rw [z] at lt
          · exact absurd lt (Nat.not_lt.mpr (Nat.le_add_right _ _))
          · exact absurd lt (Nat.not_lt.mpr (Nat.le_add_right _ _))
          · exact absurd lt (Nat.lt_irrefl _)
          · exact absurd lt (Nat.not_lt.mpr (Nat.le_add_right _ _))
theorem Src.ext {H H' : Hp} {S : Sc} (s : Src pc ps H S) (x : ∀ c o, H c = some o → H' c = some o) : Src pc ps H' S := ⟨s.ne, x _ _ s.top, x _ _ s.scr, s.four, s.line⟩
theorem den_blt2 {b : Blt} {t u : E} {η : Dv.Env} {S S' : Sc} {r : D} (e : den Φ G (.blt b [t, u]) η S = some (r, S')) : ∃ x S1 y, denT Φ G t η S = some (x, S1) ∧ denT Φ G u η S1 = some (y, S') ∧ bltD b [x, y] = some r := by
  obtain ⟨ds, h1, h2⟩ := den_blt e
  obtain ⟨x, S1, ys, h3, h4, rfl⟩ := denA_cons h1
  obtain ⟨y, S2, zs, h5, h6, rfl⟩ := denA_cons h4
  obtain ⟨rfl, rfl⟩ := denA_nil h6
  exact ⟨x, S1, y, h3, h5, h2⟩
theorem se_tzip (g : Good X pc ps Φ G c) {f f2 : Str} {a b : Expr} {ta tb : E} (hf : glB c.sc f = true) (hf2 : glB c.sc f2 = true) (hi : isStr f "tuple" = true) (hi2 : isStr f2 "zip" = true) (hs : notStar a = true) (hs2 : notStar b = true) (ha : ST X pc ps Φ G a ta) (hb : ST X pc ps Φ G b tb) :
    SE X pc ps Φ G (.Call (.Name f p) [.Call (.Name f2 p2) [a, b] [] pos2] [] pos) (.blt .tzip [ta, tb]) := by
  have hi : f = "tuple" := of_decide_eq_true hi
  have hi2 : f2 = "zip" := of_decide_eq_true hi2
  subst hi hi2
  have he2 : starEach [b] X.env = (false, eval b X.env) :: starEach [] X.env := star_of hs2
  have he1 : starEach [a, b] X.env = (false, eval a X.env) :: starEach [b] X.env := star_of hs
  have hp : (backTo pos2 (starEach [b] X.env)).any (·.1) = false := star_all (es := [b]) (by simp [hs2])
  refine .plain rfl ((pe_tzip g.calm (g.gl hf) (g.blt _ (by decide)) (g.gl hf2) (g.blt _ (by decide)) (pa_cons ha.pe (pa_cons hb.pe pa_nil he2) he1) he1 hp).imp fun σ H Q q => ?_)
  obtain ⟨H0, Bc, η, S, d, S', F, hd, q⟩ := q
  obtain ⟨x, S1, y, e1, e2, e3⟩ := den_blt2 hd
  refine ⟨H0, Bc, η, S, x, S1, F, e1, fun v H1 g1 => ?_⟩
  have F1 := F.step g1.ext g1.src
  refine ⟨H0, Bc, η, S1, y, S', F1, e2, fun w H2 g2 => ?_⟩
  cases x with
  | tuple xs =>
    cases y with
    | tuple ys =>
      cases Option.some.inj e3
      obtain ⟨a', vs, rfl, a1, a2, a3⟩ := g1.rp.tuple
      obtain ⟨b', ws, rfl, b1, b2, b3⟩ := g2.rp.tuple
      have k2 : Keep H1 H2 (Own Bc η σ) pc := g2.ext.keep g1.src
      refine ⟨a', b', vs, ws, rfl, (a1.of_keep k2).sq, b1.sq, fun H3 p np => ?_⟩
      obtain ⟨x3, hp, o, ts, od, hpt, hl, hj⟩ := np
      have e3 : Ext pc H2 H3 := fun a o _ e => x3 a o e
      have k3 : Keep H2 H3 (Own Bc η σ) pc := e3.keep g2.src
      refine q _ _ ⟨(g1.ext.trans g2.ext).trans e3, g2.src.ext x3, .tup (.inl ⟨o, hpt, od⟩) ?_ ?_, fun z => nomatch z⟩
      · rw [hl]; exact Nat.le_trans (Nat.min_le_left _ _) a2
      · have rx := (a3.keep k2).keep k3
        have ry := b3.keep k3
        have main : ∀ (ts : List V) (es : List D), ts.length = es.length → (∀ (j : Nat) (v : V) (e : D), ts[j]? = some v → es[j]? = some e → Rp X.K pc H3 (Own Bc η σ) v e) → RpAll X.K pc H3 (Own Bc η σ) ts es := by
          intro ts
          induction ts with
          | nil =>
            intro es hl _
            cases es with
            | nil => exact .nil
            | cons _ _ => cases hl
          | cons t ts ih =>
            intro es hl h
            cases es with
            | nil => cases hl
            | cons e es => exact .cons (h 0 t e rfl rfl) (ih es (by simpa using hl) fun j v e h1 h2 => h (j + 1) v e (by simpa using h1) (by simpa using h2))
        refine main ts _ (by rw [hl, zipD_len, rx.length, ry.length]) fun j v e h1 h2 => ?_
        obtain ⟨T, x, y, o', rfl, q2, q3, q4, q5⟩ := hj j v h1
        obtain ⟨d1, w1, w2⟩ := rx.getV q2
        obtain ⟨d2, w3, w4⟩ := ry.getV q3
        rw [zipD_get w1 w3] at h2
        cases h2
        exact .tup (.inl ⟨o', q5, q4⟩) (by show 2 ≤ sizeLine; decide) (.cons w2 (.cons w4 .nil))
    | _ => simp [bltD] at e3
  | _ => cases y <;> simp [bltD] at e3
end
end Dv

/-! Dv21: comprehensions. -/
namespace Dv
open PySem PySem.Spec PyProof.Rows L2

section
variable {K : PySem.W.Frag} {pc ps : Addr} {H0 : Hp} {Bc : Addr → Prop} {η : Dv.Env} {σ : Sg} {H H1 : Hp} {S S1 : Sc}
/-- the frame's own objects counted among the others -/
theorem Fr.sat (F : Fr K pc ps H0 Bc η σ H S) : Fr K pc ps H0 (Own Bc η σ) η σ H S ∧ ∀ a, Own (Own Bc η σ) η σ a → Own Bc η σ a := by
  have w : ∀ a, Own (Own Bc η σ) η σ a → Own Bc η σ a := fun a h => h.elim id fun q => .inr q
  refine ⟨⟨F.ext, F.src0, F.src, fun a h => F.trk h, F.ownps, F.ownpc, F.len, fun i d e => ?_, fun i d e => ?_, F.inj⟩, w⟩
  · obtain ⟨v, h1, h2⟩ := F.frz i d e
    exact ⟨v, h1, h2.weak fun a _ _ z => w a z⟩
  · obtain ⟨p, h1, h2, h3, h4⟩ := F.own i d e
    exact ⟨p, h1, h2, h3.weak fun a _ _ z => w a z, h4⟩
/-- a new object of another's -/
theorem Fr.add {P : Addr} {o : HO} (F : Fr K pc ps H0 Bc η σ H1 S1) (hP : H1 P = none) (x : Ext pc H1 H) (s : Src pc ps H S) (e : H P = some o) : Fr K pc ps H0 (fun a => Bc a ∨ a = P) η σ H S := by
  have F2 := F.step x s
  have w : ∀ a o, H1 a = some o → Own (fun a => Bc a ∨ a = P) η σ a → Own Bc η σ a := fun a u q h => by
    rcases h with (h | h) | h
    · exact .inl h
    · rw [h, hP] at q; cases q
    · exact .inr h
  have k : Keep H1 H (Own Bc η σ) pc := x.keep F.src
  refine ⟨F2.ext, F.src0, s, fun a h => ?_, fun h => ?_, fun h => ?_, F.len, fun i d q => ?_, fun i d q => ?_, F.inj⟩
  · rcases h with h | rfl
    · exact F2.bc a h
    · exact ⟨o, e⟩
  · rcases h with h | h
    · exact F.nps h
    · rw [← h, F.src.scr] at hP; cases hP
  · rcases h with h | h
    · exact F.npc h
    · rw [← h, F.src.top] at hP; cases hP
  · obtain ⟨v, h1, h2⟩ := F.frz i d q
    exact ⟨v, h1, h2.move k w⟩
  · obtain ⟨p, h1, h2, h3, h4, h5⟩ := F.own i d q
    obtain ⟨p', g1, _, _, g4, _⟩ := F2.own i d q
    rw [h1] at g1; cases g1
    exact ⟨p, h1, h2, (h3.weak w).ext x F.src, g4, h5⟩
theorem wipeE_length (η : Dv.Env) : ∀ vs : List Nat, (wipeE η vs).length = η.length
  | [] => rfl
  | v :: vs => by unfold wipeE; rw [List.length_set, wipeE_length η vs]
theorem wipeE_some {s : Sl} (n : s ≠ .no) {i : Nat} : ∀ {vs : List Nat}, (wipeE η vs)[i]? = some s → η[i]? = some s ∧ i ∉ vs
  | [], h => ⟨h, by simp⟩
  | v :: vs, h => by
    unfold wipeE at h
    rcases getset h with ⟨_, z⟩ | ⟨ne, h⟩
    · exact absurd z n
    · obtain ⟨h1, h2⟩ := wipeE_some n h
      exact ⟨h1, by simp only [List.mem_cons, not_or]; exact ⟨fun e => ne e.symm, h2⟩⟩
theorem wipe_own {vs : List Nat} : ∀ a, Own Bc (wipeE η vs) (wipe σ vs) a → Own Bc η σ a := fun a h => by
  rcases h with h | ⟨i, d, h1, h2⟩
  · exact .inl h
  · exact .inr ⟨i, d, (wipeE_some (by simp) h1).1, (wipe_some h2).1⟩
theorem Fr.wipe {vs : List Nat} (F : Fr K pc ps H0 Bc η σ H S) : Fr K pc ps H0 Bc (wipeE η vs) (wipe σ vs) H S := by
  refine ⟨F.ext, F.src0, F.src, F.bc, F.nps, F.npc, by rw [wipe_length, wipeE_length]; exact F.len, fun i d e => ?_, fun i d e => ?_, fun i j d e p h1 h2 h3 h4 => ?_⟩
  · obtain ⟨h1, h2⟩ := wipeE_some (by simp) e
    obtain ⟨v, h3, h4⟩ := F.frz i d h1
    exact ⟨v, by rw [wipe_out h2]; exact h3, h4.weak fun a _ _ z => wipe_own a z⟩
  · obtain ⟨h1, h2⟩ := wipeE_some (by simp) e
    obtain ⟨p, h3, h4, h5, h6⟩ := F.own i d h1
    exact ⟨p, by rw [wipe_out h2]; exact h3, h4, h5.weak fun a _ _ z => wipe_own a z, h6⟩
  · exact F.inj i j d e p (wipeE_some (by simp) h1).1 (wipeE_some (by simp) h2).1 (wipe_some h3).1 (wipe_some h4).1
/-- the slots behind a target are wiped as before -/
theorem wipe_same {σ2 σ : L2.St} {vs : List Nat} (hl : σ2.length = σ.length) (h : ∀ i, i ∉ vs → σ2[i]? = (L2.wipe σ vs)[i]?) : L2.wipe σ2 vs = L2.wipe σ vs := by
  have at_ : ∀ (σ : L2.St) (i : Nat), i ∈ vs → i < σ.length → (L2.wipe σ vs)[i]? = some none := by
    intro σ i hm hi
    clear h hl
    induction vs with
    | nil => cases hm
    | cons v vs ih =>
      show ((L2.wipe σ vs).set v none)[i]? = some none
      by_cases e : v = i
      · subst e
        rw [List.getElem?_set_self (by rw [wipe_length]; exact hi)]
      · rw [List.getElem?_set_ne e]
        rcases List.mem_cons.mp hm with z | z
        · exact absurd z.symm e
        · exact ih z
  refine List.ext_getElem? fun i => ?_
  by_cases hm : i ∈ vs
  · by_cases hi : i < σ.length
    · rw [at_ σ2 i hm (by omega), at_ σ i hm hi]
    · rw [List.getElem?_eq_none (by rw [wipe_length]; omega), List.getElem?_eq_none (by rw [wipe_length]; omega)]
  · rw [wipe_out hm, h i hm]
end
mutual
theorem bindT_length : ∀ {g : Tg} {d : D} {η η' : Dv.Env}, bindT g d η = some η' → η'.length = η.length
  | .name i, d, η, η', h => by
    simp only [bindT] at h
    split at h
    · cases h; rw [List.length_set]
    · cases h
  | .tup gs, .tuple ds, η, η', h => by
    simp only [bindT] at h
    split at h
    · exact bindTs_length h
    · cases h
  | .tup gs, .none, η, η', h => by simp [bindT] at h
  | .tup gs, .bool _, η, η', h => by simp [bindT] at h
  | .tup gs, .int _, η, η', h => by simp [bindT] at h
  | .tup gs, .str _, η, η', h => by simp [bindT] at h
  | .tup gs, .list _, η, η', h => by simp [bindT] at h
  | .tup gs, .dict _, η, η', h => by simp [bindT] at h
theorem bindTs_length : ∀ {gs : List Tg} {ds : List D} {η η' : Dv.Env}, bindTs gs ds η = some η' → η'.length = η.length
  | [], _, η, η', h => by simp only [bindTs] at h; cases h; rfl
  | g :: gs, d :: ds, η, η', h => by
    simp only [bindTs] at h
    obtain ⟨η1, h1, h2⟩ := Option.bind_eq_some_iff.mp h
    rw [bindTs_length h2, bindT_length h1]
  | _ :: _, [], η, η', h => by simp [bindTs] at h
end
section
variable {Φ : Callee} {G : Str → Option D} {η : Dv.Env} {S S' : Sc}
theorem lcF_cons {turn : D → Sc → Option (Option D × Sc)} {x : D} {xs ys : List D} (h : lcF turn (x :: xs) S = some (ys, S')) : ∃ o S1 zs, turn x S = some (o, S1) ∧ lcF turn xs S1 = some (zs, S') ∧ ys = o.toList ++ zs := by
  simp only [lcF] at h
  split at h
  · cases h
  · rename_i o S1 h1
    split at h
    · cases h
    · rename_i zs S2 h2
      cases h
      exact ⟨o, S1, zs, h1, h2, rfl⟩
theorem lc2F_cons {turn : D → Sc → Option (List D × Sc)} {x : D} {xs ys : List D} (h : lc2F turn (x :: xs) S = some (ys, S')) : ∃ o S1 zs, turn x S = some (o, S1) ∧ lc2F turn xs S1 = some (zs, S') ∧ ys = o ++ zs := by
  simp only [lc2F] at h
  split at h
  · cases h
  · rename_i o S1 h1
    split at h
    · cases h
    · rename_i zs S2 h2
      cases h
      exact ⟨o, S1, zs, h1, h2, rfl⟩
/-- one turn -/
def lcT (Φ : Callee) (G : Str → Option D) (g : Tg) (t e : E) (η : Dv.Env) (x : D) (S : Sc) : Option (Option D × Sc) := match bindT g x η with
  | none => none
  | some η2 => match topE η2 S (den Φ G t η2 S) t with
    | none => none
    | some (b, S1) => match truD b with
      | none => none
      | some false => some (none, S1)
      | some true => match den Φ G e η2 S1 with
        | none => none
        | some (y, S2) => some (some y, S2)
theorem lcT_inv {g : Tg} {t e : E} {x : D} {o : Option D} (h : lcT Φ G g t e η x S = some (o, S')) : ∃ η2 b S1 k, bindT g x η = some η2 ∧ denT Φ G t η2 S = some (b, S1) ∧ truD b = some k ∧ (if k = true then ∃ y, den Φ G e η2 S1 = some (y, S') ∧ o = some y else S1 = S' ∧ o = none) := by
  unfold lcT at h
  split at h
  · cases h
  · rename_i η2 h1
    split at h
    · cases h
    · rename_i b S1 h2
      split at h
      · cases h
      · rename_i h3
        cases h
        exact ⟨η2, b, _, false, h1, h2, h3, by simp⟩
      · rename_i h3
        split at h
        · cases h
        · rename_i y S2 h4
          cases h
          exact ⟨η2, b, _, true, h1, h2, h3, by simp only [reduceIte]; exact ⟨y, h4, rfl⟩⟩
theorem den_lc {g : Tg} {it t e : E} {vs : List Nat} {r : D} (h : den Φ G (.lc g it t e vs) η S = some (r, S')) : ∃ d xs ys S1, denT Φ G it η S = some (d, S1) ∧ itemsD d = some xs ∧ lcF (lcT Φ G g t e (wipeE η vs)) xs S1 = some (ys, S') ∧ r = .list ys := by
  simp only [den] at h
  split at h
  · rename_i d S1 h1
    split at h
    · rename_i xs h2
      split at h
      · rename_i ys S2 h3
        cases h
        exact ⟨d, xs, ys, S1, h1, h2, h3, rfl⟩
      · cases h
    · cases h
  · cases h
end
section
variable {X : Cx} {pc ps : Addr} {Φ : Callee} {G : Str → Option D} {c : Sco} {pos : Pos}
theorem Good.blk (g : Good X pc ps Φ G c) (scope : Scope) (s : Shared) (H : Hp) (C : Addr) (cl : List (Str × Addr)) (fp : List Addr) : Good (X.blk s H scope (compEnvC scope cl C X.env) fp) pc ps Φ G (c.blk scope) where
  calm := g.calm
  nodup := g.nodup
  sc := by
    show relS scope X.env.scope = relS scope c.sc
    rw [g.sc]
  fn := rfl
  units := g.units
  xe := rfl
  blt := g.blt
  gcd := g.gcd
  glo := g.glo
  fns := g.fns
/-- what a block's code answers -/
def Blk (X : Cx) (scope : Scope) (P : Cx → Prop) : Prop := ∀ (s : Shared) (H : Hp) (C : Addr) (cl : List (Str × Addr)) (fp : List Addr), P (X.blk s H scope (compEnvC scope cl C X.env) fp)
theorem folded_of {e : Expr} {env : PySem.Env} (h : noSet e = true) : ∀ x, foldedSetIterable e env x = pure x := by
  intro x
  cases e <;> first | (cases h; done) | rfl
/-- the test's reading, no test among them -/
theorem pts_of {ifs : List Expr} {t : E} (h : (ifs = [] ∧ t = .con (.bool true)) ∨ ∃ e, ifs = [e] ∧ ST X pc ps Φ G e t) : PTs X ifs (Dv.tB X.K pc ps (denT Φ G t)) := by
  rcases h with ⟨rfl, rfl⟩ | ⟨e, rfl, h⟩
  · refine ⟨fun pins s σ H Q I q => ?_⟩
    obtain ⟨H0, Bc, η, S, d, S', b, F, hd, hb, q⟩ := q
    simp only [denT, topE, den] at hd
    cases hd
    cases hb
    exact pts_nil.run pins s σ H Q I (q H Ext.refl F.src)
  · exact pts_one h.pt
theorem len_drop {α : Type} {l : List α} {i : Nat} {x : α} (h : l[i]? = some x) : l.drop i = x :: l.drop (i + 1) := by
  obtain ⟨h1, h2⟩ := List.getElem?_eq_some_iff.mp h
  rw [List.drop_eq_getElem_cons h1, h2]
/-- the comprehension's reading -/
theorem lc_step {g : Tg} {it t e : E} {vs : List Nat} {cl : Dv.Env → Bool} {σ : Sg} {H : Hp} {Q : VK} (hv : ∀ i ∈ tgIx g, i ∈ vs)
    (h : tD X.K pc ps (den Φ G (.lc g it t e vs)) (isNew (.lc g it t e vs)) σ H Q) :
    tLc (iD X.K pc ps (denT Φ G it) cl g) (gD X.K pc ps g) (Dv.tB X.K pc ps (denT Φ G t)) (tD X.K pc ps (den Φ G e) (isNew e)) vs σ H Q := by
  obtain ⟨H0, Bc, η, S, r, S', F, hd, q⟩ := h
  obtain ⟨d, xs, ys, S1, h1, h2, h3, rfl⟩ := den_lc hd
  refine ⟨H0, Bc, η, S, d, xs, S1, F, h1, h2, fun J H1 x1 s1 w P hP => ?_⟩
  have F1 := F.step x1 s1
  obtain ⟨wl, Gw, Y, wk, g0, gk, _, wy⟩ := w
  obtain ⟨Fs, ws⟩ := F1.sat
  have npc : P ≠ pc := s1.nepc hP
  have nps : P ≠ ps := fun z => by rw [z, s1.scr] at hP; cases hP
  let B2 : Addr → Prop := fun a => Own Bc η σ a ∨ a = P
  let Pv : Nat → Hp → Prop := fun i H => ∃ Si acc ds zs, Ext pc H1 H ∧ Src pc ps H Si ∧ H P = some (.lst acc) ∧ RpAll X.K pc H B2 acc ds ∧ lcF (lcT Φ G g t e (wipeE η vs)) (xs.drop i) Si = some (zs, S') ∧ ds ++ zs = ys ∧ acc.length ≤ i
  refine lc_it wk Pv ⟨S1, [], [], ys, Ext.new hP, s1.new hP, upd_same, .nil, by simpa using h3, rfl, Nat.le_refl _⟩ (fun i H _ p => ?_) (fun i x H H' hi p y => ?_) fun H p => ?_
  · obtain ⟨Si, acc, ds, zs, p1, p2, _⟩ := p
    exact gk H p1 (p1.keep s1)
  · obtain ⟨Si, acc, ds, zs, p1, p2, p3, p4, p5, p6, p7⟩ := p
    obtain ⟨d0, y1, y2, y3⟩ := wy i H x H' y (p1.keep s1)
    rw [len_drop y1] at p5
    obtain ⟨o, S2, zs', t1, t2, rfl⟩ := lcF_cons p5
    obtain ⟨η2, b, S3, k, b1, b2, b3, b4⟩ := lcT_inv t1
    have Fb : Fr X.K pc ps H0 B2 (wipeE η vs) (wipe σ vs) H Si := (Fs.add hP p1 p2 p3).wipe
    have wb : ∀ a o, H1 a = some o → Own B2 (wipeE η vs) (wipe σ vs) a → Own Bc η σ a := fun a o e h => by
      rcases wipe_own a h with (h | h) | h
      · exact h
      · subst h; rw [hP] at e; cases e
      · exact .inr h
    have xy : Ext pc H H' ∧ Src pc ps H' Si := by
      rcases y2 with rfl | ⟨T, o, hT, rfl⟩
      · exact ⟨Ext.refl, p2⟩
      · exact ⟨Ext.new hT, p2.new hT⟩
    have Fb' := Fb.step xy.1 xy.2
    refine ⟨H0, B2, wipeE η vs, Si, d0, η2, Fb', y3 _ wb, b1, fun σ2 F2 o2 k2 => ⟨wipe_same (by rw [F2.len, bindT_length b1, wipeE_length, F1.len]) fun i hi => k2 i fun z => hi (hv i z), ?_⟩⟩
    refine ⟨H0, B2, η2, Si, b, S3, k, F2, b2, b3, fun H3 x3 s3 => ?_⟩
    have F3 := F2.step x3 s3
    have x03 := xy.1.trans x3
    have pP3 : H3 P = some (.lst acc) := x03 _ _ npc p3
    cases k with
    | true =>
      simp only [reduceIte] at b4 ⊢
      obtain ⟨y0, b5, rfl⟩ := b4
      refine ⟨H0, B2, η2, S3, y0, S2, F3, b5, fun v H4 g4 => ⟨acc, g4.ext _ _ npc pP3, by omega, ?_⟩⟩
      have x04 := x03.trans g4.ext
      have pP4 : H4 P = some (.lst acc) := g4.ext _ _ npc pP3
      have kp : Keep H4 (upd H4 P (.lst (acc ++ [v]))) B2 pc := by
        refine ⟨fun a o _ nb e => ?_, fun a o xs e => ?_⟩
        · rw [upd_ne (fun z => nb (.inr z))]; exact e
        · rw [upd_ne (fun z => by subst z; rw [pP4] at e; cases e)]; exact e
      have r4 : RpAll X.K pc H4 B2 acc ds := p4.keep (x04.keep p2)
      have v4 : Rp X.K pc H4 B2 v y0 := g4.rp.weak fun a _ _ z => .inl z
      refine ⟨S2, acc ++ [v], ds ++ [y0], zs', fun a o n e => ?_, ?_, upd_same, (r4.append (.cons v4 .nil)).keep kp, t2, by simpa using p6, by simp; omega⟩
      · rw [upd_ne (fun z => by subst z; rw [hP] at e; cases e)]
        exact x04 _ _ n (p1 _ _ n e)
      · exact ⟨g4.src.ne, by rw [upd_ne (Ne.symm npc)]; exact g4.src.top, by rw [upd_ne (Ne.symm nps)]; exact g4.src.scr, g4.src.four, g4.src.line⟩
    | false =>
      simp only [Bool.false_eq_true, reduceIte] at b4 ⊢
      obtain ⟨rfl, rfl⟩ := b4
      exact ⟨S3, acc, ds, zs', p1.trans x03, s3, pP3, p4.keep (x03.keep p2), t2, by simpa using p6, by omega⟩
  · obtain ⟨Si, acc, ds, zs, p1, p2, p3, p4, p5, p6, p7⟩ := p
    rw [List.drop_length] at p5
    simp only [lcF] at p5
    cases p5
    rw [List.append_nil] at p6
    subst p6
    have hz : acc.length ≤ sizeLine := Nat.le_trans p7 wl
    refine q _ H ⟨x1.trans p1, p2, .lst p3 npc (fun z => ?_) hz (p4.weak fun a _ _ z => .inl z), fun _ => ⟨P, rfl, x1.none s1 hP, .lst p3 npc hz p4, ⟨_, p3⟩⟩⟩
    obtain ⟨o, e⟩ := F1.trk z
    rw [hP] at e; cases e
end
end Dv

/-! Dv22: comprehensions of two fors. -/
namespace Dv
open PySem PySem.Spec PyProof.Rows L2

section
variable {Φ : Callee} {G : Str → Option D} {η : Dv.Env} {S S' : Sc}
def lc2I (Φ : Callee) (G : Str → Option D) (h : Tg) (e : E) (η : Dv.Env) (z : D) (S : Sc) : Option (Option D × Sc) := match bindT h z η with
  | none => none
  | some η3 => match den Φ G e η3 S with
    | none => none
    | some (y, S2) => some (some y, S2)
def lc2T (Φ : Callee) (G : Str → Option D) (g : Tg) (h : Tg) (ju e : E) (ws : List Nat) (η : Dv.Env) (x : D) (S : Sc) : Option (List D × Sc) := match bindT g x η with
  | none => none
  | some η2 => match topE η2 S (den Φ G ju η2 S) ju with
    | none => none
    | some (d2, S1) => match (if clE η2 ju then itemsD d2 else none) with
      | none => none
      | some zs => lcF (lc2I Φ G h e (wipeE η2 ws)) zs S1
theorem lc2T_inv {g h : Tg} {ju e : E} {ws : List Nat} {x : D} {o : List D} (q : lc2T Φ G g h ju e ws η x S = some (o, S')) : ∃ η2 d2 S1 zs, bindT g x η = some η2 ∧ denT Φ G ju η2 S = some (d2, S1) ∧ clE η2 ju = true ∧ itemsD d2 = some zs ∧ lcF (lc2I Φ G h e (wipeE η2 ws)) zs S1 = some (o, S') := by
  unfold lc2T at q
  split at q
  · cases q
  · rename_i η2 h1
    split at q
    · cases q
    · rename_i d2 S1 h2
      split at q
      · cases q
      · rename_i zs h3
        split at h3
        · rename_i h4
          exact ⟨η2, d2, S1, zs, h1, h2, h4, h3, q⟩
        · cases h3
theorem lc2I_inv {h : Tg} {e : E} {z : D} {o : Option D} (q : lc2I Φ G h e η z S = some (o, S')) : ∃ η3 y, bindT h z η = some η3 ∧ den Φ G e η3 S = some (y, S') ∧ o = some y := by
  unfold lc2I at q
  split at q
  · cases q
  · rename_i η3 h1
    split at q
    · cases q
    · rename_i y S2 h2
      cases q
      exact ⟨η3, y, h1, h2, rfl⟩
theorem den_lc2 {g h : Tg} {it ju e : E} {vs ws : List Nat} {r : D} (q : den Φ G (.lc2 g it h ju e vs ws) η S = some (r, S')) : ∃ d xs ys S1, denT Φ G it η S = some (d, S1) ∧ itemsD d = some xs ∧ lc2F (lc2T Φ G g h ju e ws (wipeE η vs)) xs S1 = some (ys, S') ∧ ys.length ≤ sizeLine ∧ r = .list ys := by
  simp only [den] at q
  split at q
  · rename_i d S1 h1
    split at q
    · rename_i xs h2
      split at q
      · rename_i ys S2 h3
        split at q
        · rename_i h4
          cases q
          exact ⟨d, xs, ys, S1, h1, h2, h3, of_decide_eq_true h4, rfl⟩
        · cases q
      · cases q
    · cases q
  · cases q
end
section
variable {X : Cx} {pc ps : Addr} {Φ : Callee} {G : Str → Option D} {c : Sco} {pos : Pos}
theorem Fr.ext0 {K : PySem.W.Frag} {H0 : Hp} {Bc : Addr → Prop} {η : Dv.Env} {σ : Sg} {H : Hp} {S : Sc} {P : Addr} (F : Fr K pc ps H0 Bc η σ H S) (h : H P = none) : H0 P = none := F.ext.none F.src h
/-- another's object is changed -/
theorem Fr.upd {K : PySem.W.Frag} {H0 : Hp} {Bc : Addr → Prop} {η : Dv.Env} {σ : Sg} {H : Hp} {S : Sc} {P : Addr} {acc acc' : List V} (F : Fr K pc ps H0 Bc η σ H S) (hb : Bc P) (h0 : H0 P = none) (hP : H P = some (.lst acc))
    (ho : ∀ (i : Nat) (d : D), η[i]? = some (.own d) → σ[i]? ≠ some (some (.ref P))) : Fr K pc ps H0 Bc η σ (L2.upd H P (.lst acc')) S := by
  have npc : P ≠ pc := fun z => F.npc (z ▸ hb)
  have nps : P ≠ ps := fun z => F.nps (z ▸ hb)
  have k : Keep H (L2.upd H P (.lst acc')) (Own Bc η σ) pc := by
    refine ⟨fun a o _ nb e => ?_, fun a o xs e => ?_⟩
    · rw [upd_ne (show a ≠ P from fun z => nb (.inl (by rw [z]; exact hb)))]; exact e
    · rw [upd_ne (fun z => by subst z; rw [hP] at e; cases e)]; exact e
  refine ⟨fun a o n e => ?_, F.src0, ⟨F.src.ne, by rw [upd_ne (Ne.symm npc)]; exact F.src.top, by rw [upd_ne (Ne.symm nps)]; exact F.src.scr, F.src.four, F.src.line⟩, fun a h => ?_, F.nps, F.npc, F.len, fun i d e => ?_, fun i d e => ?_, F.inj⟩
  · rw [upd_ne (fun z => by subst z; rw [h0] at e; cases e)]
    exact F.ext a o n e
  · by_cases z : a = P
    · subst z; exact ⟨_, upd_same⟩
    · rw [upd_ne z]; exact F.bc a h
  · obtain ⟨v, h1, h2⟩ := F.frz i d e
    exact ⟨v, h1, h2.keep k⟩
  · obtain ⟨p, h1, h2, h3, h4, h5⟩ := F.own i d e
    have np : p ≠ P := fun z => ho i d e (z ▸ h1)
    refine ⟨p, h1, h2, ?_, by rw [upd_ne np]; exact h4, h5⟩
    generalize hv : V.ref p = v at h3
    cases h3 with
    | of h => exact .of (h.keep k)
    | lst g1 g2 g3 g4 => cases hv; exact .lst (by rw [upd_ne np]; exact g1) g2 g3 (g4.keep k)
    | dic g1 g2 g3 g4 => cases hv; exact .dic (by rw [upd_ne np]; exact g1) g2 g3 (g4.keep k)
theorem lc2_step {g h : Tg} {it ju e : E} {vs ws : List Nat} {cl : Dv.Env → Bool} {σ : Sg} {H : Hp} {Q : VK} (hv : ∀ i ∈ tgIx g, i ∈ vs) (hw : ∀ i ∈ tgIx h, i ∈ ws)
    (q : tD X.K pc ps (den Φ G (.lc2 g it h ju e vs ws)) (isNew (.lc2 g it h ju e vs ws)) σ H Q) :
    tLc2 (iD X.K pc ps (denT Φ G it) cl g) (gD X.K pc ps g) tYes (iD X.K pc ps (denT Φ G ju) (fun η => clE η ju) h) (gD X.K pc ps h) tYes (tD X.K pc ps (den Φ G e) (isNew e)) vs ws σ H Q := by
  obtain ⟨H0, Bc, η, S, r, S', F, hd, q⟩ := q
  obtain ⟨d, xs, ys, S1, h1, h2, h3, hz, rfl⟩ := den_lc2 hd
  refine ⟨H0, Bc, η, S, d, xs, S1, F, h1, h2, fun J H1 x1 s1 w P hP => ?_⟩
  have F1 := F.step x1 s1
  obtain ⟨wl, Gw, Y, wk, g0, gk, _, wy⟩ := w
  obtain ⟨Fs, _⟩ := F1.sat
  have npc : P ≠ pc := s1.nepc hP
  have nps : P ≠ ps := fun z => by rw [z, s1.scr] at hP; cases hP
  let B2 : Addr → Prop := fun a => Own Bc η σ a ∨ a = P
  let Pv : Nat → Hp → Prop := fun i H => ∃ Si acc ds zs, Ext pc H1 H ∧ Src pc ps H Si ∧ H P = some (.lst acc) ∧ RpAll X.K pc H B2 acc ds ∧ lc2F (lc2T Φ G g h ju e ws (wipeE η vs)) (xs.drop i) Si = some (zs, S') ∧ ds ++ zs = ys
  have kp : ∀ {H4 : Hp} {acc : List V} {v : V}, H4 P = some (.lst acc) → Keep H4 (upd H4 P (.lst (acc ++ [v]))) B2 pc := fun {H4 acc v} pP4 => by
    refine ⟨fun a o _ nb e => ?_, fun a o xs e => ?_⟩
    · rw [upd_ne (fun z => nb (.inr z))]; exact e
    · rw [upd_ne (fun z => by subst z; rw [pP4] at e; cases e)]; exact e
  have sp : ∀ {H4 : Hp} {acc : List V} {v : V} {Si : Sc}, Src pc ps H4 Si → Src pc ps (upd H4 P (.lst (acc ++ [v]))) Si := fun {H4 acc v Si} s => ⟨s.ne, by rw [upd_ne (Ne.symm npc)]; exact s.top, by rw [upd_ne (Ne.symm nps)]; exact s.scr, s.four, s.line⟩
  have ep : ∀ {Ha H4 : Hp} {acc : List V} {v : V}, Ha P = none → Ext pc Ha H4 → Ext pc Ha (upd H4 P (.lst (acc ++ [v]))) := fun {Ha H4 acc v} hn x a o n e => by
    rw [upd_ne (fun z => by subst z; rw [hn] at e; cases e)]
    exact x _ _ n e
  refine ⟨fun i m H => m = xs.length - i ∧ i ≤ xs.length ∧ Pv i H, ⟨xs.length, by simp, Nat.zero_le _, S1, [], [], ys, Ext.new hP, s1.new hP, upd_same, .nil, by simpa using h3, rfl⟩, ?_⟩
  rintro i m H ⟨rfl, hi, p⟩
  obtain ⟨Si, acc, ds, zs, p1, p2, p3, p4, p5, p6⟩ := p
  have gH : Gw H := gk H p1 (p1.keep s1)
  by_cases hlt : i < xs.length
  · refine .inr ⟨wk.goes i H hlt gH, Pv (i + 1), fun H' p' => ⟨xs.length - (i + 1), by omega, rfl, hlt, p'⟩, fun x H' y => ?_⟩
    obtain ⟨d0, y1, y2, y3⟩ := wy i H x H' (wk.yields i H x H' hlt gH y) (p1.keep s1)
    rw [len_drop y1] at p5
    obtain ⟨o, S2, zs', t1, t2, rfl⟩ := lc2F_cons p5
    obtain ⟨η2, d2, S3, es, b1, b2, bc, b3, b4⟩ := lc2T_inv t1
    have Fb : Fr X.K pc ps H0 B2 (wipeE η vs) (wipe σ vs) H Si := (Fs.add hP p1 p2 p3).wipe
    have wb : ∀ a o, H1 a = some o → Own B2 (wipeE η vs) (wipe σ vs) a → Own Bc η σ a := fun a o e h => by
      rcases wipe_own a h with (h | h) | h
      · exact h
      · subst h; rw [hP] at e; cases e
      · exact .inr h
    have xy : Ext pc H H' ∧ Src pc ps H' Si := by
      rcases y2 with rfl | ⟨T, o, hT, rfl⟩
      · exact ⟨Ext.refl, p2⟩
      · exact ⟨Ext.new hT, p2.new hT⟩
    have Fb' := Fb.step xy.1 xy.2
    refine ⟨H0, B2, wipeE η vs, Si, d0, η2, Fb', y3 _ wb, b1, fun σ2 F2 o2 k2 => ⟨wipe_same (by rw [F2.len, bindT_length b1, wipeE_length, F1.len]) fun i hi => k2 i fun z => hi (hv i z), ?_⟩⟩
    unfold tYes
    simp only [reduceIte]
    -- the inner walk
    refine ⟨H0, B2, η2, Si, d2, es, S3, F2, b2, b3, fun J1 H4 x4 s4 w4 => ?_⟩
    obtain ⟨wl', G', Y', wk', g0', _, gk', wy'⟩ := w4
    have gk' := gk' bc
    have h0P : H0 P = none := F1.ext0 hP
    have F4 := F2.step x4 s4
    have x14 : Ext pc H1 H4 := (p1.trans xy.1).trans x4
    have no2 : ∀ (i : Nat) (d : D), η2[i]? = some (.own d) → σ2[i]? ≠ some (some (.ref P)) := fun i d q1 q2 => by
      obtain ⟨g1, g2⟩ := o2 i d _ q1 q2
      obtain ⟨g1, _⟩ := wipeE_some (by simp) g1
      obtain ⟨g2, _⟩ := wipe_some g2
      obtain ⟨p, g3, _, _, ⟨o, g4⟩, _⟩ := F1.own i d g1
      rw [g2] at g3
      cases g3
      rw [hP] at g4; cases g4
    let Pw : Nat → Hp → Prop := fun j H => ∃ Sj acc ds zs, Ext pc H1 H ∧ Keep H4 H (Own B2 η2 σ2) pc ∧ Fr X.K pc ps H0 B2 η2 σ2 H Sj ∧ H P = some (.lst acc) ∧ RpAll X.K pc H B2 acc ds ∧ lcF (lc2I Φ G h e (wipeE η2 ws)) (es.drop j) Sj = some (zs, S2) ∧ ds ++ zs ++ zs' = ys
    have p34 : H4 P = some (.lst acc) := x4 _ _ npc (xy.1 _ _ npc p3)
    refine ⟨fun j k H => k = es.length - j ∧ j ≤ es.length ∧ Pw j H, ⟨es.length, by simp, Nat.zero_le _, S3, acc, ds, o, x14, ⟨fun _ _ _ _ e => e, fun _ _ _ e => e⟩, F4, p34, p4.keep ((xy.1.trans x4).keep p2), by simpa using b4, by simpa using p6⟩, ?_⟩
    rintro j k Hj ⟨rfl, hj, pj⟩
    obtain ⟨Sj, accj, dsj, zsj, j1, j2, j3, j4, j5, j6, j7⟩ := pj
    have gj : G' Hj := gk' Hj j2
    by_cases hjt : j < es.length
    · refine .inr ⟨wk'.goes j Hj hjt gj, Pw (j + 1), fun H' p' => ⟨es.length - (j + 1), by omega, rfl, hjt, p'⟩, fun x' H5 y' => ?_⟩
      obtain ⟨e0, z1, z2, z3⟩ := wy' j Hj x' H5 (wk'.yields j Hj x' H5 hjt gj y') j2
      rw [len_drop z1] at j6
      obtain ⟨oj, S5, zs2, u1, u2, rfl⟩ := lcF_cons j6
      obtain ⟨η3, y0, v1, v2, rfl⟩ := lc2I_inv u1
      have xj : Ext pc Hj H5 ∧ Src pc ps H5 Sj := by
        rcases z2 with rfl | ⟨T, o, hT, rfl⟩
        · exact ⟨Ext.refl, j3.src⟩
        · exact ⟨Ext.new hT, j3.src.new hT⟩
      have F5 := j3.step xj.1 xj.2
      refine ⟨H0, B2, wipeE η2 ws, Sj, e0, η3, F5.wipe, z3 _ (fun a o _ q => wipe_own a q), v1, fun σ3 F6 o3 k3 => ⟨wipe_same (by rw [F6.len, bindT_length v1, wipeE_length, F2.len]) fun i hi => k3 i fun z => hi (hw i z), ?_⟩⟩
      refine ⟨H0, B2, η3, Sj, y0, S5, F6, v2, fun v H7 g7 => ?_⟩
      have x57 : Ext pc Hj H7 := xj.1.trans g7.ext
      have pP7 : H7 P = some (.lst accj) := x57 _ _ npc j4
      have F7 : Fr X.K pc ps H0 B2 η2 σ2 H7 S5 := j3.step x57 g7.src
      have r7 : RpAll X.K pc H7 B2 accj dsj := j5.keep (x57.keep j3.src)
      have v7 : Rp X.K pc H7 B2 v y0 := g7.rp.weak fun a _ _ z => .inl z
      have ltz : accj.length < sizeLine := by
        rw [j5.length]
        have := congrArg List.length j7
        simp only [List.length_append, Option.toList] at this
        simp at this
        omega
      refine ⟨accj, pP7, ltz, S5, accj ++ [v], dsj ++ [y0], zs2, ep hP (j1.trans x57), ?_, F7.upd (.inr rfl) h0P pP7 no2, upd_same, (r7.append (.cons v7 .nil)).keep (kp pP7), u2, by simpa using j7⟩
      refine j2.trans ((x57.keep j3.src).trans ⟨fun a o n nb e => ?_, fun a o xs e => ?_⟩ fun a o _ z => z) fun a o _ z => z
      · rw [upd_ne (fun z => nb (.inl (.inr z)))]; exact e
      · rw [upd_ne (fun z => by subst z; rw [pP7] at e; cases e)]; exact e
    · have e : j = es.length := by omega
      subst e
      rw [List.drop_length] at j6
      simp only [lcF] at j6
      cases j6
      exact .inl ⟨wk'.stops Hj gj, _, accj, dsj, zs', j1, j3.src, j4, j5, t2, by simpa using j7⟩
  · have e : i = xs.length := by omega
    subst e
    rw [List.drop_length] at p5
    simp only [lc2F] at p5
    cases p5
    rw [List.append_nil] at p6
    subst p6
    refine .inl ⟨wk.stops H gH, q _ H ⟨x1.trans p1, p2, .lst p3 npc (fun z => ?_) (by rw [p4.length]; exact hz) (p4.weak fun a _ _ z => .inl z), fun _ => ⟨P, rfl, x1.none s1 hP, .lst p3 npc (by rw [p4.length]; exact hz) p4, ⟨_, p3⟩⟩⟩⟩
    obtain ⟨o, e⟩ := F1.trk z
    rw [hP] at e; cases e
end
end Dv

/-! Dv23: every compiled expression answers as it means. -/
namespace Dv
open PySem PySem.Spec PyProof.Rows L2

section
variable {pc ps : Addr} {Φ : Callee} {G : Str → Option D}
/-- a compiler whose every answer is right -/
def Rt (pc ps : Addr) (Φ : Callee) (G : Str → Option D) (N : List Str) (r : Sco → Expr → Option E) : Prop := ∀ (X : Cx) (c : Sco) (e : Expr) (t : E), Good X pc ps Φ G c → X.N = N → r c e = some t → SE X pc ps Φ G e t
variable {N : List Str} {r : Sco → Expr → Option E} {X : Cx} {c : Sco} {e : Expr} {t : E}
theorem Rt.top (R : Rt pc ps Φ G N r) (g : Good X pc ps Φ G c) (hN : X.N = N) (h : topC N r c e = some t) : ST X pc ps Φ G e t := by
  unfold topC at h
  split at h
  · rename_i x p
    split at h
    · rename_i h1
      simp only [Bool.and_eq_true] at h1
      obtain ⟨i, h2, rfl⟩ := Option.map_eq_some_iff.mp h
      exact st_own (by rw [g.sc]; exact h1.2) h1.1 (by rw [hN]; exact h2)
    · exact (R X c _ t g hN h).st
  · exact (R X c _ t g hN h).st
theorem Rt.args (R : Rt pc ps Φ G N r) (g : Good X pc ps Φ G c) (hN : X.N = N) {es : List Expr} {ts : List E} (h : es.mapM (topC N r c) = some ts) : Paired (ST X pc ps Φ G) es ts := L2.Paired.mapP (mapM_inv h) fun _ _ q => R.top g hN q
theorem Rt.list (R : Rt pc ps Φ G N r) (g : Good X pc ps Φ G c) (hN : X.N = N) {es : List Expr} {ts : List E} (h : es.mapM (r c) = some ts) : Paired (SE X pc ps Φ G) es ts := L2.Paired.mapP (mapM_inv h) fun _ _ q => R X c _ _ g hN q
theorem st_pair {a : Expr} {ta : E} (h : ST X pc ps Φ G a ta) : Paired (ST X pc ps Φ G) [a] [ta] := .cons h .nil
variable {pos p : Pos}
theorem sound_name (g : Good X pc ps Φ G c) (hN : X.N = N) {x : Str} (h : nameC N c x = some t) : SE X pc ps Φ G (.Name x pos) t := by
  unfold nameC at h
  split at h
  · rename_i ho
    split at h
    · rename_i hv
      obtain ⟨i, h2, rfl⟩ := Option.map_eq_some_iff.mp h
      exact se_var (by rw [g.sc]; exact hv) ho (by rw [hN]; exact h2)
    · split at h
      · rename_i hg
        cases h
        simp only [Bool.and_eq_true] at hg
        exact se_glo g ho hg.1
      · cases h
  · cases h
theorem blt_gen (R : Rt pc ps Φ G N r) (g : Good X pc ps Φ G c) (hN : X.N = N) {f : Str} {args : List Expr} (hf : glB c.sc f = true) (hs : args.all notStar = true) (b : Str → Option Blt) (hb : b = blt1 ∨ b = blt2) (hne : args ≠ [])
    (h : ((b f).bind fun b => (args.mapM (topC N r c)).map (.blt b)) = some t) : SE X pc ps Φ G (.Call (.Name f p) args [] pos) t := by
  obtain ⟨bl, h1, h2⟩ := Option.bind_eq_some_iff.mp h
  obtain ⟨ts, h3, rfl⟩ := Option.map_eq_some_iff.mp h2
  rcases args with _ | ⟨a, as⟩
  · exact absurd rfl hne
  · refine se_blt hs (R.args g hN h3) (by intro _; rfl) rfl fun t pa => ?_
    rcases hb with rfl | rfl
    · exact pe_blt1 g hf h1 hs pa
    · exact pe_blt2 g hf h1 hs pa
theorem sound_blt (R : Rt pc ps Φ G N r) (g : Good X pc ps Φ G c) (hN : X.N = N) {f : Str} {args : List Expr} (hf : glB c.sc f = true) (hs : args.all notStar = true) (h : bltC (topC N r c) (r c) c f args = some t) : SE X pc ps Φ G (.Call (.Name f p) args [] pos) t := by
  unfold bltC at h
  split at h
  · rename_i g2 p2 a p3
    split at h
    · rename_i h1
      simp only [Bool.and_eq_true] at h1
      obtain ⟨ta, h2, rfl⟩ := Option.map_eq_some_iff.mp h
      exact se_sset g hf h1.1.2 h1.1.1.1 h1.1.1.2 h1.2 (R.top g hN h2)
    · split at h
      · rename_i h1
        simp only [Bool.and_eq_true] at h1
        obtain ⟨ta, h2, rfl⟩ := Option.map_eq_some_iff.mp h
        exact se_lrange g hf h1.1.2 h1.1.1.1 h1.1.1.2 h1.2 (R X c _ _ g hN h2)
      · split at h
        · rename_i h1
          simp only [Bool.and_eq_true] at h1
          obtain ⟨ta, h2, rfl⟩ := Option.map_eq_some_iff.mp h
          exact se_trange g hf h1.1.2 h1.1.1.1 h1.1.1.2 h1.2 (R X c _ _ g hN h2)
        · exact blt_gen R g hN hf hs blt1 (.inl rfl) (by simp) h
  · rename_i g2 p2 a b p3
    split at h
    · rename_i h1
      simp only [Bool.and_eq_true] at h1
      obtain ⟨ta, h2, h3⟩ := Option.bind_eq_some_iff.mp h
      obtain ⟨tb, h4, rfl⟩ := Option.map_eq_some_iff.mp h3
      exact se_tzip g hf h1.1.1.2 h1.1.1.1.1 h1.1.1.1.2 h1.1.2 h1.2 (R.top g hN h2) (R.top g hN h4)
    · exact blt_gen R g hN hf hs blt1 (.inl rfl) (by simp) h
  · exact blt_gen R g hN hf hs blt1 (.inl rfl) (by simp) h
  · rename_i a x p2
    split at h
    · rename_i h1
      split at h
      · rename_i h2
        obtain ⟨T, h3, h4⟩ := Option.bind_eq_some_iff.mp h
        obtain ⟨ta, h5, rfl⟩ := Option.map_eq_some_iff.mp h4
        have hs' : notStar a = true := by simp only [List.all_cons, Bool.and_eq_true] at hs; exact hs.1
        exact se_isi1 g hf h1 hs' h2 h3 (R.top g hN h5)
      · cases h
    · exact blt_gen R g hN hf hs blt2 (.inr rfl) (by simp) h
  · rename_i a x p2 y p3 k pt
    split at h
    · rename_i h1
      simp only [Bool.and_eq_true] at h1
      obtain ⟨T, h3, h4⟩ := Option.bind_eq_some_iff.mp h
      obtain ⟨U, h5, h6⟩ := Option.bind_eq_some_iff.mp h4
      obtain ⟨ta, h7, rfl⟩ := Option.map_eq_some_iff.mp h6
      have hs' : notStar a = true := by simp only [List.all_cons, Bool.and_eq_true] at hs; exact hs.1
      exact se_isi2 g hf h1.1.1 hs' h1.1.2 h1.2 h3 h5 (R.top g hN h7)
    · cases h
  · exact blt_gen R g hN hf hs blt2 (.inr rfl) (by simp) h
  · cases h
theorem sound_call (R : Rt pc ps Φ G N r) (g : Good X pc ps Φ G c) (hN : X.N = N) {f : Str} {args : List Expr} (h : callC (topC N r c) (r c) c f args = some t) : SE X pc ps Φ G (.Call (.Name f p) args [] pos) t := by
  unfold callC at h
  split at h
  · cases h
  · rename_i h0
    simp only [Bool.or_eq_true, Bool.not_eq_true', not_or, Bool.not_eq_false] at h0
    split at h
    · exact sound_blt R g hN h0.1.1 h0.2 h
    · split at h
      · rename_i m hm
        split at h
        · rename_i h1
          simp only [Bool.and_eq_true, decide_eq_true_eq] at h1
          obtain ⟨ts, h2, rfl⟩ := Option.map_eq_some_iff.mp h
          rcases args with _ | ⟨a, as⟩
          · simp at h1
          · exact se_call g h0.1.2 h0.1.1 hm h1.1 h0.2 (R.args g hN h2)
        · cases h
      · split at h
        · rename_i h1
          simp only [Bool.and_eq_true, decide_eq_true_eq] at h1
          obtain ⟨ts, h2, rfl⟩ := Option.map_eq_some_iff.mp h
          exact se_gcd g h0.1.1 h1.1.1 h1.1.2 h1.2 h0.2 (R.args g hN h2)
        · cases h
theorem sound_get (R : Rt pc ps Φ G N r) (g : Good X pc ps Φ G c) (hN : X.N = N) {o : Expr} {m : Str} {args : List Expr} {ap : Pos} (hl : (ap.endLine == pos.line) = true) (hb : plainBase o = true) (h : getC (topC N r c) (r c) o m args = some t) : SE X pc ps Φ G (.Call (.Attribute o m ap) args [] pos) t := by
  have hu := g.units
  unfold getC at h
  split at h
  · rename_i k
    split at h
    · rename_i h1
      simp only [Bool.and_eq_true] at h1
      obtain ⟨to, h2, h3⟩ := Option.bind_eq_some_iff.mp h
      obtain ⟨tk, h4, rfl⟩ := Option.map_eq_some_iff.mp h3
      exact se_get (by omega) h1.1 hb hl h1.2 (R.top g hN h2) (R X c _ _ g hN h4)
    · cases h
  · rename_i k d
    split at h
    · rename_i h1
      simp only [Bool.and_eq_true] at h1
      obtain ⟨to, h2, h3⟩ := Option.bind_eq_some_iff.mp h
      obtain ⟨tk, h4, h5⟩ := Option.bind_eq_some_iff.mp h3
      obtain ⟨td, h6, rfl⟩ := Option.map_eq_some_iff.mp h5
      exact se_get2 (by omega) h1.1.1 hb hl h1.1.2 h1.2 (R.top g hN h2) (R X c _ _ g hN h4) (R X c _ _ g hN h6)
    · cases h
  · cases h
theorem sound_sub (R : Rt pc ps Φ G N r) (g : Good X pc ps Φ G c) (hN : X.N = N) {a b : Expr} (h : subC (topC N r c) (r c) a b = some t) : SE X pc ps Φ G (.Subscript a b pos) t := by
  have hu := g.units
  unfold subC at h
  split at h
  · obtain ⟨ta, h2, rfl⟩ := Option.map_eq_some_iff.mp h
    exact se_rev (R.top g hN h2)
  · obtain ⟨ta, h2, h3⟩ := Option.bind_eq_some_iff.mp h
    obtain ⟨tl, h4, h5⟩ := Option.bind_eq_some_iff.mp h3
    obtain ⟨th, h6, rfl⟩ := Option.map_eq_some_iff.mp h5
    exact se_sl (R.top g hN h2) h4 h6 fun e t q => R X c _ _ g hN q
  · cases h
  · rename_i b' h1 h2 h3
    obtain ⟨ta, h4, h5⟩ := Option.bind_eq_some_iff.mp h
    obtain ⟨tb, h6, rfl⟩ := Option.map_eq_some_iff.mp h5
    refine se_idx (by omega) ?_ (R.top g hN h4) (R X c _ _ g hN h6)
    cases b <;> first | rfl | (exfalso; exact h3 _ _ _ _ rfl)
theorem sound_cmp (R : Rt pc ps Φ G N r) (g : Good X pc ps Φ G c) (hN : X.N = N) {a : Expr} {ops : List CmpOp} {bs : List Expr} (h : cmpC (topC N r c) (r c) a ops bs = some t) : SE X pc ps Φ G (.Compare a ops bs pos) t := by
  have hu := g.units
  unfold cmpC at h
  split at h
  · rename_i op b
    split at h
    · rename_i hs
      obtain ⟨o, h1, h2⟩ := Option.bind_eq_some_iff.mp h
      obtain ⟨ta, h3, h4⟩ := Option.bind_eq_some_iff.mp h2
      obtain ⟨tb, h5, rfl⟩ := Option.map_eq_some_iff.mp h4
      exact se_cmp (by omega) h1 hs (R.top g hN h3) (R.top g hN h5)
    · cases h
  · rename_i op op' b d
    split at h
    · rename_i hs
      simp only [Bool.and_eq_true] at hs
      obtain ⟨o, h1, h2⟩ := Option.bind_eq_some_iff.mp h
      obtain ⟨o', h3, h4⟩ := Option.bind_eq_some_iff.mp h2
      obtain ⟨ta, h5, h6⟩ := Option.bind_eq_some_iff.mp h4
      obtain ⟨tb, h7, h8⟩ := Option.bind_eq_some_iff.mp h6
      obtain ⟨td, h9, rfl⟩ := Option.map_eq_some_iff.mp h8
      exact se_chain (by omega) h1 h3 hs.1 hs.2 (R X c _ _ g hN h5) (R X c _ _ g hN h7) (R X c _ _ g hN h9)
    · cases h
  · cases h
theorem sound_bool (R : Rt pc ps Φ G N r) (g : Good X pc ps Φ G c) (hN : X.N = N) {op : BoolOp} {es : List Expr} (h : boolC (topC N r c) (r c) op es pos = some t) : SE X pc ps Φ G (.BoolOp op es pos) t := by
  unfold boolC at h
  split at h
  · exact se_one (R X c _ _ g hN h)
  · obtain ⟨ta, h3, h4⟩ := Option.bind_eq_some_iff.mp h
    obtain ⟨tb, h5, rfl⟩ := Option.map_eq_some_iff.mp h4
    exact se_and (R.top g hN h3) (R X c _ _ g hN h5)
  · obtain ⟨ta, h3, h4⟩ := Option.bind_eq_some_iff.mp h
    obtain ⟨tb, h5, rfl⟩ := Option.map_eq_some_iff.mp h4
    exact se_or (R.top g hN h3) (R X c _ _ g hN h5)
  · cases h
/-! ### what is walked -/
theorem clE_owned {η : Dv.Env} {t : E} (h : clE η t = true) : (!ownedE η t) = true := by
  cases t <;> first | exact h | rfl
theorem sound_it (R : Rt pc ps Φ G N r) (g : Good X pc ps Φ G c) (hN : X.N = N) {tg e : Expr} {gt : Tg} (hg : isTup tg = true → ∃ gs, gt = .tup gs) (h : itC (topC N r c) (r c) c (isTup tg) e = some t) : PI X tg e (iD X.K pc ps (denT Φ G t) (fun η => clE η t) gt) := by
  have st : ∀ {e : Expr} {t : E}, ST X pc ps Φ G e t → PI X tg e (iD X.K pc ps (denT Φ G t) (fun η => clE η t) gt) := fun {e t} s => by
    refine (si_seq (g := gt) s).imp fun σ H Q q => ?_
    obtain ⟨H0, Bc, η, S, d, xs, S', F, hd, hi, q⟩ := q
    refine ⟨H0, Bc, η, S, d, xs, S', F, hd, hi, fun J H1 x s1 w => q J H1 x s1 ?_⟩
    obtain ⟨w0, G', Y, w1, w2, w3, w4, w5⟩ := w
    exact ⟨w0, G', Y, w1, w2, w3, fun e => w4 (clE_owned e), w5⟩
  have se : ∀ {e : Expr} {t : E}, r c e = some t → PI X tg e (iD X.K pc ps (denT Φ G t) (fun η => clE η t) gt) := fun {e t} q => st (R X c _ _ g hN q).st
  unfold itC at h
  split at h
  · rename_i f p2 a p3
    split at h
    · rename_i h1
      simp only [Bool.and_eq_true] at h1
      obtain ⟨ta, h2, rfl⟩ := Option.map_eq_some_iff.mp h
      exact si_rng1 g h1.1.1.1 h1.2 h1.1.2 (R X c _ _ g hN h2)
    · split at h
      · rename_i h1
        simp only [Bool.and_eq_true] at h1
        obtain ⟨ta, h2, rfl⟩ := Option.map_eq_some_iff.mp h
        obtain ⟨gs, rfl⟩ := hg h1.2
        cases tg <;> first | (cases h1.2; done) | skip
        exact si_enum g h1.1.1.1.1 h1.1.2 h1.1.1.2 (R.top g hN h2)
      · exact se h
  · rename_i f p2 a b p3
    split at h
    · rename_i h1
      simp only [Bool.and_eq_true] at h1
      obtain ⟨ta, h2, h3⟩ := Option.bind_eq_some_iff.mp h
      obtain ⟨tb, h4, rfl⟩ := Option.map_eq_some_iff.mp h3
      exact si_rng2 g h1.1.1.1.1 h1.2 h1.1.1.2 h1.1.2 (R X c _ _ g hN h2) (R X c _ _ g hN h4)
    · split at h
      · rename_i h1
        simp only [Bool.and_eq_true] at h1
        obtain ⟨ta, h2, h3⟩ := Option.bind_eq_some_iff.mp h
        obtain ⟨tb, h4, rfl⟩ := Option.map_eq_some_iff.mp h3
        obtain ⟨gs, rfl⟩ := hg h1.2
        cases tg <;> first | (cases h1.2; done) | skip
        exact si_zip g h1.1.1.1.1.1 h1.1.2 h1.1.1.1.2 h1.1.1.2 (R.top g hN h2) (R.top g hN h4)
      · exact se h
  · exact st (R.top g hN h)
theorem tg_tup {n : Nat} {tg : Expr} {gt : Tg} (h : cTg N c n tg = some gt) (ht : isTup tg = true) : ∃ gs, gt = .tup gs := by
  cases n with
  | zero => cases h
  | succ n =>
    cases tg <;> first | (cases ht; done) | skip
    simp only [cTg] at h
    split at h
    · obtain ⟨gs, _, h2⟩ := Option.map_eq_some_iff.mp h
      exact ⟨gs, h2.symm⟩
    · cases h
end
end Dv

/-! Dv24: comprehensions among them; the whole of the expressions. -/
namespace Dv
open PySem PySem.Spec PyProof.Rows L2

section
variable {pc ps : Addr} {Φ : Callee} {G : Str → Option D}
variable {N : List Str} {r : Sco → Expr → Option E} {X : Cx} {c : Sco} {e : Expr} {t : E} {pos p : Pos}
mutual
theorem tgIx_names : ∀ {n : Nat} {e : Expr} {g : Tg}, cTg N c n e = some g → ∀ i ∈ tgIx g, ∃ x ∈ tgNames n e, place N x = some i
  | 0, _, _, h, _, _ => by cases h
  | n + 1, e, g, h, i, hi => by
    cases e with
    | Name x pos =>
      simp only [cTg] at h
      split at h
      · obtain ⟨j, h1, rfl⟩ := Option.map_eq_some_iff.mp h
        simp only [tgIx, List.mem_singleton] at hi
        subst hi
        exact ⟨x, by simp [tgNames], h1⟩
      · cases h
    | Tuple es k pos =>
      simp only [cTg] at h
      split at h
      · obtain ⟨gs, h1, rfl⟩ := Option.map_eq_some_iff.mp h
        simp only [tgIx] at hi
        obtain ⟨x, h2, h3⟩ := tgIxs_names (mapM_inv h1) i hi
        exact ⟨x, by simpa [tgNames] using h2, h3⟩
      · cases h
    | _ => simp [cTg] at h
theorem tgIxs_names : ∀ {n : Nat} {es : List Expr} {gs : List Tg}, Paired (fun a b => cTg N c n a = some b) es gs → ∀ i ∈ tgIxs gs, ∃ x, (∃ a ∈ es, x ∈ tgNames n a) ∧ place N x = some i
  | n, [], _, .nil, i, hi => by simp [tgIxs] at hi
  | n, e :: es, _, .cons h t, i, hi => by
    simp only [tgIxs, List.mem_append] at hi
    rcases hi with hi | hi
    · obtain ⟨x, h1, h2⟩ := tgIx_names h i hi
      exact ⟨x, ⟨e, List.mem_cons_self, h1⟩, h2⟩
    · obtain ⟨x, ⟨a, h1, h2⟩, h3⟩ := tgIxs_names t i hi
      exact ⟨x, ⟨a, List.mem_cons_of_mem _ h1, h2⟩, h3⟩
end
theorem tgIx_slots {n : Nat} {e : Expr} {g : Tg} (h : cTg N c n e = some g) : ∀ i ∈ tgIx g, i ∈ (tgNames n e).map fun x => (place N x).getD 0 := fun i hi => by
  obtain ⟨x, h1, h2⟩ := tgIx_names h i hi
  exact List.mem_map.mpr ⟨x, h1, by rw [h2]; rfl⟩
/-- a comprehension as an expression and as what is assigned -/
structure SC (X : Cx) (pc ps : Addr) (Φ : Callee) (G : Str → Option D) (c : Sco) (e : Expr) (t : E) : Prop where
  no : notOwn t = true
  pe : PE X e (tD X.K pc ps (den Φ G t) (isNew t))
  set : ∀ (i : Nat) (y : Str) (py spos : Pos), X.N[i]? = some y → (match e with | .ListComp _ _ scope pos => swB c y py scope pos | _ => false) = true → PS X (.Assign [.Name y py] e spos) (tAsg (tD X.K pc ps (den Φ G t) (isNew t)) (gName i))
theorem sound_lc (R : Rt pc ps Φ G N r) (g : Good X pc ps Φ G c) (hN : X.N = N) {n : Nat} {elt tg iter : Expr} {ifs : List Expr} {scope : Scope} (h : lcC N r n c elt tg iter ifs scope = some t) : SC X pc ps Φ G c (.ListComp elt [⟨tg, iter, ifs, 0⟩] scope pos) t := by
  subst hN
  simp only [lcC] at h
  split at h
  · rename_i hb
    simp only [Bool.and_eq_true] at hb
    obtain ⟨⟨hb1, _⟩, hb3⟩ := hb
    obtain ⟨gt, h1, h2⟩ := Option.bind_eq_some_iff.mp h
    obtain ⟨it, h3, h4⟩ := Option.bind_eq_some_iff.mp h2
    obtain ⟨tt, h5, h6⟩ := Option.bind_eq_some_iff.mp h4
    obtain ⟨te, h7, rfl⟩ := Option.map_eq_some_iff.mp h6
    have hi := sound_it R g rfl (tg := tg) (gt := gt) (fun z => tg_tup h1 z) h3
    rw [← g.sc] at hb1
    have ok := blkOk_by hb1
    have gb := fun s H C cl fp => g.blk scope s H C cl fp
    have hg : Blk X scope fun X' => PG X' tg (gD X.K pc ps gt) := fun s H C cl fp => pg_tg (gb s H C cl fp) n tg gt h1
    have ht : Blk X scope fun X' => PTs X' ifs (Dv.tB X.K pc ps (denT Φ G tt)) := fun s H C cl fp => pts_of (X := X.blk s H scope (compEnvC scope cl C X.env) fp) (by
      rcases ifs with _ | ⟨a, _ | ⟨b, l⟩⟩
      · cases h5; exact .inl ⟨rfl, rfl⟩
      · exact .inr ⟨a, rfl, R.top (gb s H C cl fp) rfl h5⟩
      · cases h5)
    have he : Blk X scope fun X' => PE X' elt (tD X.K pc ps (den Φ G te) (isNew te)) := fun s H C cl fp => (R _ _ _ _ (gb s H C cl fp) rfl h7).pe
    have hs : ∀ x, foldedSetIterable iter X.env x = pure x := folded_of hb3
    have ev : ((tgNames n tg).map fun x => (x, (place X.N x).getD 0)).map (·.2) = (tgNames n tg).map fun x => (place X.N x).getD 0 := by
      rw [List.map_map]; rfl
    have step : ∀ σ H Q, tD X.K pc ps (den Φ G (.lc gt it tt te ((tgNames n tg).map fun x => (place X.N x).getD 0))) (isNew (.lc gt it tt te ((tgNames n tg).map fun x => (place X.N x).getD 0))) σ H Q →
        tLc (iD X.K pc ps (denT Φ G it) (fun η => clE η it) gt) (gD X.K pc ps gt) (Dv.tB X.K pc ps (denT Φ G tt)) (tD X.K pc ps (den Φ G te) (isNew te)) (((tgNames n tg).map fun x => (x, (place X.N x).getD 0)).map (·.2)) σ H Q := fun σ H Q q => by
      rw [ev]
      exact lc_step (tgIx_slots h1) q
    refine ⟨rfl, (pe_lc g.calm g.nodup hi ok hg ht he hs).imp step, fun i y py spos hy hc => ?_⟩
    simp only [swB, Bool.and_eq_true, decide_eq_true_eq] at hc
    obtain ⟨⟨⟨k1, k2⟩, k3⟩, k4⟩ := hc
    have kk : X.env.scope.kind = .function := by
      rw [g.sc]
      split at k1
      · assumption
      · cases k1
    have ky : X.env.scope.names.lookup y = some .local := by rw [g.sc]; exact k2
    exact (ps_setLc g.calm g.nodup hy ky (sw_true kk ky k3 (by simpa using k4)) hi ok hg ht he hs).imp fun D σ H q => step σ H _ q
  · cases h
theorem sound_lc2 (R : Rt pc ps Φ G N r) (g : Good X pc ps Φ G c) (hN : X.N = N) {n : Nat} {elt tg iter tg2 iter2 : Expr} {scope : Scope} (h : lc2C N r n c elt tg iter tg2 iter2 scope = some t) : SC X pc ps Φ G c (.ListComp elt [⟨tg, iter, [], 0⟩, ⟨tg2, iter2, [], 0⟩] scope pos) t := by
  subst hN
  simp only [lc2C] at h
  split at h
  · rename_i hb
    simp only [Bool.and_eq_true] at hb
    obtain ⟨⟨⟨hb1, _⟩, hb3⟩, hb4⟩ := hb
    obtain ⟨gt, h1, h2⟩ := Option.bind_eq_some_iff.mp h
    obtain ⟨it, h3, h4⟩ := Option.bind_eq_some_iff.mp h2
    obtain ⟨gt2, h5, h6⟩ := Option.bind_eq_some_iff.mp h4
    obtain ⟨ju, h7, h8⟩ := Option.bind_eq_some_iff.mp h6
    obtain ⟨te, h9, rfl⟩ := Option.map_eq_some_iff.mp h8
    have hi := sound_it R g rfl (tg := tg) (gt := gt) (fun z => tg_tup h1 z) h3
    rw [← g.sc] at hb1
    have ok := blkOk_by hb1
    have gb := fun s H C cl fp => g.blk scope s H C cl fp
    have hg : Blk X scope fun X' => PG X' tg (gD X.K pc ps gt) := fun s H C cl fp => pg_tg (gb s H C cl fp) n tg gt h1
    have hg2 : Blk X scope fun X' => PG X' tg2 (gD X.K pc ps gt2) := fun s H C cl fp => pg_tg (gb s H C cl fp) n tg2 gt2 h5
    have hi2 : Blk X scope fun X' => PI X' tg2 iter2 (iD X.K pc ps (denT Φ G ju) (fun η => clE η ju) gt2) := fun s H C cl fp => sound_it R (gb s H C cl fp) rfl (tg := tg2) (gt := gt2) (fun z => tg_tup h5 z) h7
    have he : Blk X scope fun X' => PE X' elt (tD X.K pc ps (den Φ G te) (isNew te)) := fun s H C cl fp => (R _ _ _ _ (gb s H C cl fp) rfl h9).pe
    have hs : ∀ x, foldedSetIterable iter X.env x = pure x := folded_of hb3
    have hs2 : ∀ env x, foldedSetIterable iter2 env x = pure x := fun env => folded_of hb4
    have ev : ((tgNames n tg ++ tgNames n tg2).map fun x => (x, (place X.N x).getD 0)).map (·.2) = (tgNames n tg ++ tgNames n tg2).map fun x => (place X.N x).getD 0 := by
      rw [List.map_map]; rfl
    have hv : ∀ i ∈ (tgNames n tg2).map fun x => (place X.N x).getD 0, i ∈ ((tgNames n tg ++ tgNames n tg2).map fun x => (x, (place X.N x).getD 0)).map (·.2) := fun i hi => by
      rw [ev, List.map_append]
      exact List.mem_append_right _ hi
    have step : ∀ σ H Q, tD X.K pc ps (den Φ G (.lc2 gt it gt2 ju te ((tgNames n tg ++ tgNames n tg2).map fun x => (place X.N x).getD 0) ((tgNames n tg2).map fun x => (place X.N x).getD 0))) (isNew (.lc2 gt it gt2 ju te ((tgNames n tg ++ tgNames n tg2).map fun x => (place X.N x).getD 0) ((tgNames n tg2).map fun x => (place X.N x).getD 0))) σ H Q →
        tLc2 (iD X.K pc ps (denT Φ G it) (fun η => clE η it) gt) (gD X.K pc ps gt) tYes (iD X.K pc ps (denT Φ G ju) (fun η => clE η ju) gt2) (gD X.K pc ps gt2) tYes (tD X.K pc ps (den Φ G te) (isNew te)) (((tgNames n tg ++ tgNames n tg2).map fun x => (x, (place X.N x).getD 0)).map (·.2)) ((tgNames n tg2).map fun x => (place X.N x).getD 0) σ H Q := fun σ H Q q => by
      rw [ev]
      exact lc2_step (fun i hi => by rw [List.map_append]; exact List.mem_append_left _ (tgIx_slots h1 i hi)) (tgIx_slots h5) q
    have nil : Blk X scope fun X' => PTs X' [] tYes := fun _ _ _ _ _ => pts_nil
    refine ⟨rfl, (pe_lc2 g.calm g.nodup hi ok hv hg nil hi2 hg2 nil he hs hs2).imp step, fun i y py spos hy hc => ?_⟩
    simp only [swB, Bool.and_eq_true, decide_eq_true_eq] at hc
    obtain ⟨⟨⟨k1, k2⟩, k3⟩, k4⟩ := hc
    have kk : X.env.scope.kind = .function := by
      rw [g.sc]
      split at k1
      · assumption
      · cases k1
    have ky : X.env.scope.names.lookup y = some .local := by rw [g.sc]; exact k2
    exact (ps_setLc2 g.calm g.nodup hy ky (sw_true kk ky k3 (by simpa using k4)) hi ok hv hg nil hi2 hg2 nil he hs hs2).imp fun D σ H q => step σ H _ q
  · cases h
theorem SC.se (h : SC X pc ps Φ G c (.ListComp elt gs scope pos) t) : SE X pc ps Φ G (.ListComp elt gs scope pos) t := .plain h.no h.pe
/-- EVERY COMPILED EXPRESSION ANSWERS AS IT MEANS -/
theorem sound_E (N : List Str) : ∀ n, Rt pc ps Φ G N (cE N n)
  | 0 => fun _ _ _ _ _ _ h => by cases h
  | n + 1 => fun X c e t g hN h => by
    have R : Rt pc ps Φ G N (cE N n) := sound_E N n
    cases e with
    | Name x p => exact sound_name g hN (by simpa only [cE] using h)
    | Constant k j p =>
      simp only [cE] at h
      obtain ⟨d, h1, rfl⟩ := Option.map_eq_some_iff.mp h
      exact se_con h1
    | Tuple es k p =>
      simp only [cE] at h
      split at h
      · rename_i hs
        obtain ⟨ts, h1, rfl⟩ := Option.map_eq_some_iff.mp h
        exact se_tup hs (R.list g hN h1)
      · cases h
    | List es p =>
      simp only [cE] at h
      split at h
      · rename_i hs
        obtain ⟨ts, h1, rfl⟩ := Option.map_eq_some_iff.mp h
        exact se_lst hs (R.list g hN h1)
      · cases h
    | BinOp a op b p =>
      simp only [cE] at h
      obtain ⟨o, h1, h2⟩ := Option.bind_eq_some_iff.mp h
      obtain ⟨ta, h3, h4⟩ := Option.bind_eq_some_iff.mp h2
      obtain ⟨tb, h5, rfl⟩ := Option.map_eq_some_iff.mp h4
      exact se_bin h1 (R.top g hN h3) (R.top g hN h5)
    | UnaryOp op a p =>
      cases op with
      | USub =>
        simp only [cE] at h
        obtain ⟨ta, h1, rfl⟩ := Option.map_eq_some_iff.mp h
        exact se_neg (R X c _ _ g hN h1)
      | Not =>
        simp only [cE] at h
        obtain ⟨ta, h1, rfl⟩ := Option.map_eq_some_iff.mp h
        exact se_not (R.top g hN h1)
      | _ => simp [cE] at h
    | BoolOp op es p => exact sound_bool R g hN (by simpa only [cE] using h)
    | IfExp a b d p =>
      simp only [cE] at h
      obtain ⟨ta, h1, h2⟩ := Option.bind_eq_some_iff.mp h
      obtain ⟨tb, h3, h4⟩ := Option.bind_eq_some_iff.mp h2
      obtain ⟨td, h5, rfl⟩ := Option.map_eq_some_iff.mp h4
      exact se_ite (R.top g hN h1) (R X c _ _ g hN h3) (R X c _ _ g hN h5)
    | Compare a ops bs p => exact sound_cmp R g hN (by simpa only [cE] using h)
    | Subscript a b p => exact sound_sub R g hN (by simpa only [cE] using h)
    | Call f args ks p =>
      cases ks with
      | cons _ _ => cases f <;> simp [cE] at h
      | nil =>
        cases f with
        | Attribute o m ap =>
          simp only [cE] at h
          split at h
          · rename_i hb
            simp only [Bool.and_eq_true] at hb
            exact sound_get R g hN hb.1 hb.2 h
          · cases h
        | Name f p2 => exact sound_call R g hN (by simpa only [cE] using h)
        | _ => simp [cE] at h
    | ListComp elt gs scope p =>
      rcases gs with _ | ⟨⟨tg, iter, ifs, a⟩, _ | ⟨⟨tg2, iter2, ifs2, b⟩, l⟩⟩
      · simp [cE] at h
      · by_cases ha : a = 0
        · subst ha
          exact (sound_lc R g hN (pos := p) (n := n) (by simpa only [cE] using h)).se
        · exfalso
          unfold cE at h
          split at h <;> simp_all
      · by_cases ha : a = 0 ∧ b = 0 ∧ ifs = [] ∧ ifs2 = [] ∧ l = []
        · obtain ⟨rfl, rfl, rfl, rfl, rfl⟩ := ha
          exact (sound_lc2 R g hN (pos := p) (n := n) (by simpa only [cE] using h)).se
        · exfalso
          unfold cE at h
          split at h <;> simp_all
    | _ => simp [cE] at h
end
end Dv

/-! Dv25: what statements do to frames. -/
namespace Dv
open PySem PySem.Spec PyProof.Rows L2
open AutoSeq1 (wpAny_loadPart')

/-! ### t += u -/
theorem noI_tuple_add : typeLookup (.type "tuple") (dunderI "add") = pure none := by rw [typeLookup_type, builtinLookup_eq_fast]; kernel_rfl
section
variable {prog : Program} {w : World} {A : Around} {E : Value → Shared → Prop} {s : Shared}
theorem icat_tup {t b : Addr} {vs ws : List Value} {Q : Value → Shared → Prop} (ht : IsTup s.heap t vs.toArray) (hb : IsTup s.heap b ws.toArray)
    (h0 : vs = [] → Q (.ref b) s) (h1 : vs ≠ [] → ws = [] → Q (.ref t) s) (h2 : vs ≠ [] → ws ≠ [] → Q (.ref s.heap.objs.size) { s with heap := s.heap.push { cls := .type "tuple", data := .seq (vs ++ ws).toArray } })
    (hsz : vs.length + ws.length ≤ sizeLine) : wpAny (model prog w) A (inplaceOp .Add (.ref t) (.ref b)) Q E s := by
  obtain ⟨⟨cls, dd, data, sl⟩, ho, hc, n, hd⟩ := id ht
  obtain ⟨⟨cls2, dd2, data2, sl2⟩, ho2, hc2, n2, hd2⟩ := id hb
  simp only at hc hd hc2 hd2
  subst hc hd hc2 hd2
  have e : vs.toArray ++ ws.toArray = (vs ++ ws).toArray := by simp
  refine wpAny_inplaceOp_concat (T := "tuple") ⟨_, ho, rfl⟩ ⟨_, ho2, rfl⟩ noI_tuple_add noFill_tuple_add seq_tuple_add ?_
  by_cases hv : vs = []
  · exact call_meets PySem.F.slot_tuple_add ⟨_, ho, rfl⟩ PySem.F.entry_tuple_add (PySem.F.args_tuple_add_2 _ _) (tuple_addW0 t b vs.toArray ws.toArray n n2 dd dd2 sl sl2 (by simp [hv])) ⟨ho, ho2, h0 hv⟩
  · by_cases hw : ws = []
    · exact call_meets PySem.F.slot_tuple_add ⟨_, ho, rfl⟩ PySem.F.entry_tuple_add (PySem.F.args_tuple_add_2 _ _) (tuple_addW1 t b vs.toArray ws.toArray n n2 dd dd2 sl sl2 (by simpa using hv) (by simp [hw])) ⟨ho, ho2, h1 hv hw⟩
    · refine call_meets PySem.F.slot_tuple_add ⟨_, ho, rfl⟩ PySem.F.entry_tuple_add (PySem.F.args_tuple_add_2 _ _) (tuple_addW2 t b vs.toArray ws.toArray n n2 dd dd2 sl sl2 (by simpa using hv) (by simpa using hw) (by rw [List.size_toArray, List.size_toArray]; exact hsz)) ⟨ho, ho2, ?_⟩
      rw [e]
      exact h2 hv hw
theorem list_extend_tup (l : Addr) (items : Array Value) (n : Nat) (b : Addr) (items2 : Array Value) (n2 : Nat) (dd : Option Addr) (sl : Array (Option Value)) (hs0 : ¬(!items.isEmpty && Builtin.List.listTooLong (items.size + items2.size)) = true) (hs1 : items.size ≤ sizeLine) (hs2 : items.size + items2.size ≤ sizeLine + 1) :
    Meets (Builtin.«list.extend» ⟨[.ref l, .ref b], []⟩) (fun _ R s => s.heap.get? l = some { cls := .type "list", dict := none, data := .seq items n, slots := #[] } ∧ s.heap.get? b = some { cls := .type "tuple", dict := dd, data := .seq items2 n2, slots := sl } ∧ R (.ok (.ret Value.none)) { s with heap := s.heap.update l (Obj.mapSeq fun x => x ++ items2), toks := s.toks }) :=
  .of_wp fun prog w A R s h => by
    obtain ⟨hp, g, d, tk, os⟩ := s; obtain ⟨hl, hb, h⟩ := h; have f1 := AutoSeq1.idx_int; have f2 := AutoSeq1.sub_tuple_tuple; have f3 := AutoSeq1.sub_list_list; have f4 := AutoSeq1.sub_tuple_list; have f5 := AutoSeq1.sub_list_tuple;
    have hz' : (items ++ items2).size ≤ sizeLine + 1 := by rw [Array.size_append]; exact hs2
    wp_walk using (wpAny_updateSeq hl rfl (hz := hs1) (_hz' := hz')), wpAny_loadPart' hl, wpAny_loadPart' hb; exact ⟨_, rfl, h⟩
end
section
variable {X : Cx} {pc ps : Addr}
theorem op_icatF : OpR X (inplaceOp .Add) (rCatF X.K) := by
  intro pins s σ H x y v u Q I rx ry h
  obtain ⟨a, b, xs, ys, rfl, rfl, ha, hb, hz, q0, q1, q2⟩ := h
  cases (show v = Value.ref a from rx)
  cases (show u = Value.ref b from ry)
  obtain ⟨its, r1, p1, _⟩ := I.tuple ha
  obtain ⟨its2, r2, p2, _⟩ := I.tuple hb
  exact icat_tup p1 p2 (fun z => ⟨.ref b, H, I, rfl, q0 (r1.nil_iff.mp z)⟩) (fun hx z => ⟨.ref a, H, I, rfl, q1 (fun w => hx (r1.nil_iff.mpr w)) (r2.nil_iff.mp z)⟩)
    (fun hx hy => (q2 (fun w => hx (r1.nil_iff.mpr w)) fun w => hy (r2.nil_iff.mpr w)).here (t' := s.toks) I (r1.append r2) (by rw [List.length_append]; exact hz)) (by rw [← r1.length, ← r2.length]; exact hz)
theorem ip_data {op : Operator} {o : BOp} (h : cOp op = some o) : PIp X op (rOp X.K pc ps (augD o) (fun _ => false)) := by
  have h := bOp_of h
  subst h
  intro pins s σ H x y v u Q I rx ry h
  obtain ⟨B, d, e, r, S, t, src, hx, hy, hf, q⟩ := h
  cases o with
  | add =>
    cases d with
    | int i =>
      cases e with
      | int j =>
        cases hx.intV; cases hy.intV
        cases Option.some.inj hf
        exact iop_add pins s σ H _ _ v u Q I rx ry ⟨i, j, rfl, rfl, q _ _ (Got.same src (.int _))⟩
      | _ => simp [augD] at hf
    | tuple ds =>
      cases e with
      | tuple es =>
        obtain ⟨a, xs, rfl, ha, hz, ra⟩ := hx.tuple
        obtain ⟨b, ys, rfl, hb, hz2, rb⟩ := hy.tuple
        simp only [augD] at hf
        split at hf
        · rename_i hl
          have hl : ds.length + es.length ≤ sizeLine := of_decide_eq_true hl
          have e1 : r = .tuple (ds ++ es) := (Option.some.inj hf).symm
          subst e1
          refine op_icatF pins s σ H _ _ v u Q I rx ry ⟨a, b, xs, ys, rfl, rfl, ha.sq, hb.sq, by rw [ra.length, rb.length]; exact hl, fun z => ?_, fun _ z => ?_, fun _ _ p o hp ho => ?_⟩
          · have z' := ra.nil_iff.mp z
            subst z'
            exact q _ _ (Got.same src (.tup hb hz2 rb))
          · have z' := rb.nil_iff.mp z
            subst z'
            rw [List.append_nil] at q
            exact q _ _ (Got.same src (.tup ha hz ra))
          · exact q _ _ (Got.tup src hp ho (by rw [List.length_append, ra.length, rb.length]; exact hl) (ra.append rb))
        · cases hf
      | _ => simp [augD] at hf
    | _ => cases e <;> simp [augD] at hf
  | sub =>
    cases d <;> cases e <;> simp only [augD, reduceCtorEq] at hf
    rename_i i j
    cases hx.intV; cases hy.intV
    cases Option.some.inj hf
    exact iop_sub pins s σ H _ _ v u Q I rx ry ⟨i, j, rfl, rfl, q _ _ (Got.same src (.int _))⟩
  | _ => cases d <;> cases e <;> simp [augD] at hf
/-- xs.extend(a list or a tuple) -/
def rExtA (K : PySem.W.Frag) : V → List V → Hp → VK → Prop := fun x vs H Q => ∃ l b xs zs, x = .ref l ∧ vs = [.ref b] ∧ H l = some (.lst xs) ∧ (H b = some (.lst zs) ∨ SqT K H b zs) ∧ xs.length + zs.length ≤ sizeLine ∧ Q .non (upd H l (.lst (xs ++ zs)))
theorem mt_extendA : MtM X "list.extend" (rExtA X.K) := by
  intro pins s σ H x vs v us Q I rx rv h
  obtain ⟨l, b, xs, zs, rfl, rfl, hH, hB, hz, q⟩ := h
  rcases hB with hB | hB
  · exact mt_extend pins s σ H _ _ v us Q I rx rv ⟨l, b, xs, zs, rfl, rfl, hH, hB, hz, q⟩
  · cases rx
    obtain ⟨u, rfl, ru⟩ := rv.one
    cases ru
    obtain ⟨z, its, n, r, hl, e⟩ := I.lstM hH
    obtain ⟨its2, r2, ht, _⟩ := I.tuple hB
    obtain ⟨⟨cls2, dd2, data2, sl2⟩, e2, hc2, n2, hd2⟩ := id ht
    simp only at hc2 hd2
    subst hc2 hd2
    have hl2 := r2.length
    have hsz : its.toArray.size + its2.toArray.size ≤ sizeLine := by rw [List.size_toArray, List.size_toArray]; omega
    have hlong : ¬ (!its.toArray.isEmpty && Builtin.List.listTooLong (its.toArray.size + its2.toArray.size)) = true := by
      rw [notLongL hsz, Bool.and_false]
      exact Bool.false_ne_true
    refine call_meets F.slot_list_extend ⟨_, e, rfl⟩ F.entry_list_extend (F.args_list_extend_2 _ _)
      (list_extend_tup l its.toArray n b its2.toArray n2 dd2 sl2 hlong (by rw [List.size_toArray]; omega) (by omega)) ⟨e, e2, ?_⟩
    refine ⟨.non, _, I.lset (its' := its ++ its2) hH e (by simp) (r.append r2) ?_, rfl, q⟩
    rw [List.length_append]
    omega
end
/-! ### steps between frames -/
structure Stp (pc : Addr) (B : Addr → Prop) (H : Hp) (B' : Addr → Prop) (H' : Hp) : Prop where
  keep : Keep H H' B pc
  own : ∀ a o, H a = some o → B' a → B a
  trk : ∀ a o, H a = some o → ∃ o', H' a = some o'
section
variable {K : PySem.W.Frag} {pc ps : Addr} {H0 : Hp} {Bc B B1 B2 : Addr → Prop} {η : Dv.Env} {σ : Sg} {H H' H1 H2 : Hp} {S S' : Sc} {v : V} {d : D} {i j : Nat}
theorem Stp.refl : Stp pc B H B H := ⟨⟨fun _ _ _ _ e => e, fun _ _ _ e => e⟩, fun _ _ _ z => z, fun _ o e => ⟨o, e⟩⟩
theorem Stp.trans (a : Stp pc B H B1 H1) (b : Stp pc B1 H1 B2 H2) : Stp pc B H B2 H2 :=
  ⟨a.keep.trans b.keep a.own, fun c o e z => by
    obtain ⟨o', e'⟩ := a.trk c o e
    exact a.own c o e (b.own c o' e' z), fun c o e => by
    obtain ⟨o', e'⟩ := a.trk c o e
    exact b.trk c o' e'⟩
theorem Stp.sub (h : ∀ a, B1 a → B a) : Stp pc B H B1 H := ⟨⟨fun _ _ _ _ e => e, fun _ _ _ e => e⟩, fun a _ _ z => h a z, fun _ o e => ⟨o, e⟩⟩
theorem Stp.ext (x : Ext pc H H') (s : Src pc ps H S) (s' : Src pc ps H' S') : Stp pc B H B H' := ⟨x.keep s, fun _ _ _ z => z, fun a o e => by
  by_cases h : a = pc
  · subst h; exact ⟨_, s'.top⟩
  · exact ⟨o, x a o h e⟩⟩
theorem RpT.list_dict {p : Addr} (h : RpT K pc H B (.ref p) d) (hp : p ≠ pc) : d ≠ Dv.cel := fun z => by
  subst z
  have := h.celV
  injection this with e
  exact hp e
/-- a new object of one's own is bound -/
theorem Fr.setNew (F : Fr K pc ps H0 Bc η σ H S) (g : Got K pc ps (Own Bc η σ) H true d S' v H') (hi : i < η.length) : Fr K pc ps H0 Bc (η.set i (.own d)) (σ.set i (some v)) H' S' ∧ Stp pc (Own Bc η σ) H (Own Bc (η.set i (.own d)) (σ.set i (some v))) H' := by
  obtain ⟨p, rfl, hp, rp, ⟨op, ep⟩⟩ := g.new rfl
  have F2 := F.step g.ext g.src
  have h0 : H0 p = none := F.ext.none F.src hp
  have npc : p ≠ pc := F.src.nepc hp
  have iσ : i < σ.length := by rw [F.len]; exact hi
  have sub : ∀ a, Own Bc (η.set i (.own d)) (σ.set i (some (.ref p))) a → Own Bc η σ a ∨ a = p := fun a h => by
    rcases h with h | ⟨k, e, h1, h2⟩
    · exact .inl (.inl h)
    · rcases getset h1 with ⟨rfl, _⟩ | ⟨ne, h1⟩
      · rw [List.getElem?_set_self iσ] at h2
        cases h2; exact .inr rfl
      · rw [List.getElem?_set_ne ne] at h2
        exact .inl (.inr ⟨k, e, h1, h2⟩)
  have w : ∀ a o, H a = some o → Own Bc (η.set i (.own d)) (σ.set i (some (.ref p))) a → Own Bc η σ a := fun a o e h => by
    rcases sub a h with h | h
    · exact h
    · rw [h, hp] at e; cases e
  have k : Keep H H' (Own Bc η σ) pc := g.ext.keep F.src
  have st : Stp pc (Own Bc η σ) H (Own Bc η σ) H' := Stp.ext g.ext F.src g.src
  refine ⟨⟨F2.ext, F.src0, g.src, F2.bc, F.nps, F.npc, by rw [List.length_set, List.length_set]; exact F.len, fun k' e h => ?_, fun k' e h => ?_, fun a b e f q h1 h2 h3 h4 => ?_⟩, ⟨k, w, st.trk⟩⟩
  · rcases getset h with ⟨_, z⟩ | ⟨ne, h1⟩
    · cases z
    · obtain ⟨u, h2, h3⟩ := F.frz k' e h1
      exact ⟨u, by rw [List.getElem?_set_ne ne]; exact h2, h3.move k w⟩
  · rcases getset h with ⟨rfl, z⟩ | ⟨ne, h1⟩
    · cases z
      exact ⟨p, by rw [List.getElem?_set_self iσ], h0, rp.weak fun a _ _ z => sub a z, ⟨op, ep⟩, rp.list_dict npc⟩
    · obtain ⟨q, h2, h3, h4, h5, h6⟩ := F.own k' e h1
      obtain ⟨q', g2, _, _, g5, _⟩ := F2.own k' e h1
      rw [h2] at g2; cases g2
      exact ⟨q, by rw [List.getElem?_set_ne ne]; exact h2, h3, (h4.weak w).ext g.ext F.src, g5, h6⟩
  · rcases getset h1 with ⟨rfl, _⟩ | ⟨n1, h1⟩
    · rcases getset h2 with ⟨rfl, _⟩ | ⟨n2, h2⟩
      · rfl
      · rw [List.getElem?_set_self iσ] at h3
        cases h3
        rw [List.getElem?_set_ne n2] at h4
        obtain ⟨r, g1, _, _, ⟨o, g2⟩, _⟩ := F.own b f h2
        rw [h4] at g1; cases g1
        rw [hp] at g2; cases g2
    · rcases getset h2 with ⟨rfl, _⟩ | ⟨n2, h2⟩
      · rw [List.getElem?_set_self iσ] at h4
        cases h4
        rw [List.getElem?_set_ne n1] at h3
        obtain ⟨r, g1, _, _, ⟨o, g2⟩, _⟩ := F.own a e h1
        rw [h3] at g1; cases g1
        rw [hp] at g2; cases g2
      · rw [List.getElem?_set_ne n1] at h3
        rw [List.getElem?_set_ne n2] at h4
        exact F.inj a b e f q h1 h2 h3 h4
/-- an own object is written no more -/
theorem Fr.freeze (bc0 : ∀ a, Bc a → ∃ o, H0 a = some o) (F : Fr K pc ps H0 Bc η σ H S) (h : η[j]? = some (.own d)) : Fr K pc ps H0 Bc (η.set j (.frz d)) σ H S ∧ ∀ a, Own Bc (η.set j (.frz d)) σ a → Own Bc η σ a := by
  have hj : j < η.length := (List.getElem?_eq_some_iff.mp h).1
  have sub : ∀ a, Own Bc (η.set j (.frz d)) σ a → Own Bc η σ a := fun a q => by
    rcases q with q | ⟨k, e, h1, h2⟩
    · exact .inl q
    · rcases getset h1 with ⟨_, z⟩ | ⟨ne, h1⟩
      · cases z
      · exact .inr ⟨k, e, h1, h2⟩
  refine ⟨⟨F.ext, F.src0, F.src, F.bc, F.nps, F.npc, by rw [List.length_set]; exact F.len, fun k e q => ?_, fun k e q => ?_, fun a b e f p h1 h2 h3 h4 => ?_⟩, sub⟩
  · rcases getset q with ⟨rfl, z⟩ | ⟨ne, q⟩
    · cases z
      obtain ⟨p, h1, h2, h3, h4, h5⟩ := F.own _ _ h
      have np : ¬ Own Bc (η.set j (.frz d)) σ p := fun z => by
        rcases z with z | ⟨k, e, z1, z2⟩
        · obtain ⟨o, e⟩ := bc0 p z
          rw [h2] at e; cases e
        · rcases getset z1 with ⟨_, z⟩ | ⟨ne, z1⟩
          · cases z
          · exact ne (F.inj j k d e p h z1 h1 z2)
      refine ⟨_, h1, ?_⟩
      cases h3 with
      | of h3 => exact h3.weak fun a _ _ z => sub a z
      | lst g1 g2 g3 g4 => exact .lst g1 g2 np g3 (g4.weak fun a _ _ z => sub a z)
      | dic g1 g2 g3 g4 => exact .dic g1 g2 np g3 (g4.weak fun a _ _ z => sub a z)
    · obtain ⟨u, h2, h3⟩ := F.frz k e q
      exact ⟨u, h2, h3.weak fun a _ _ z => sub a z⟩
  · rcases getset q with ⟨_, z⟩ | ⟨ne, q⟩
    · cases z
    · obtain ⟨p, h1, h2, h3, h4⟩ := F.own k e q
      exact ⟨p, h1, h2, h3.weak fun a _ _ z => sub a z, h4⟩
  · rcases getset h1 with ⟨_, z⟩ | ⟨n1, h1⟩
    · cases z
    rcases getset h2 with ⟨_, z⟩ | ⟨n2, h2⟩
    · cases z
    exact F.inj a b e f p h1 h2 h3 h4
/-- an own list is written -/
theorem Fr.wr {p : Addr} {xs ys : List V} {ds es : List D} (F : Fr K pc ps H0 Bc η σ H S) (h : η[i]? = some (.own (.list ds))) (hp : σ[i]? = some (some (.ref p))) (e : H p = some (.lst xs)) (hz : ys.length ≤ sizeLine) (r : RpAll K pc H (Own Bc η σ) ys es) :
    Fr K pc ps H0 Bc (η.set i (.own (.list es))) σ (L2.upd H p (.lst ys)) S ∧ Stp pc (Own Bc η σ) H (Own Bc (η.set i (.own (.list es))) σ) (L2.upd H p (.lst ys)) := by
  have hi : i < η.length := (List.getElem?_eq_some_iff.mp h).1
  obtain ⟨p', q1, q2, q3, q4, q5⟩ := F.own _ _ h
  rw [hp] at q1
  cases q1
  have op : Own Bc η σ p := .inr ⟨i, _, h, hp⟩
  have npc : p ≠ pc := fun z => F.ownpc (z ▸ op)
  have nps : p ≠ ps := fun z => F.ownps (z ▸ op)
  have same : ∀ a, Own Bc (η.set i (.own (.list es))) σ a ↔ Own Bc η σ a := fun a => by
    constructor
    · intro q
      rcases q with q | ⟨k, e, h1, h2⟩
      · exact .inl q
      · rcases getset h1 with ⟨rfl, _⟩ | ⟨ne, h1⟩
        · exact .inr ⟨_, _, h, h2⟩
        · exact .inr ⟨k, e, h1, h2⟩
    · intro q
      rcases q with q | ⟨k, e, h1, h2⟩
      · exact .inl q
      · by_cases ki : i = k
        · subst ki; exact .inr ⟨i, _, List.getElem?_set_self hi, h2⟩
        · exact .inr ⟨k, e, by rw [List.getElem?_set_ne ki]; exact h1, h2⟩
  have k : Keep H (L2.upd H p (.lst ys)) (Own Bc η σ) pc := by
    refine ⟨fun a o _ nb q => ?_, fun a o zs q => ?_⟩
    · rw [upd_ne (show a ≠ p from fun z => nb (by rw [z]; exact op))]; exact q
    · rw [upd_ne (show a ≠ p from fun z => by rw [z, e] at q; cases q)]; exact q
  have src : Src pc ps (L2.upd H p (.lst ys)) S := ⟨F.src.ne, by rw [upd_ne (Ne.symm npc)]; exact F.src.top, by rw [upd_ne (Ne.symm nps)]; exact F.src.scr, F.src.four, F.src.line⟩
  have trk : ∀ a o, H a = some o → ∃ o', L2.upd H p (.lst ys) a = some o' := fun a o q => by
    by_cases z : a = p
    · subst z; exact ⟨_, upd_same⟩
    · rw [upd_ne z]; exact ⟨o, q⟩
  refine ⟨⟨fun a o n q => ?_, F.src0, src, fun a q => ?_, F.nps, F.npc, by rw [List.length_set]; exact F.len, fun k' f q => ?_, fun k' f q => ?_, fun a b f g q' h1 h2 h3 h4 => ?_⟩, k, fun a o _ z => (same a).mp z, trk⟩
  · rw [upd_ne (show a ≠ p from fun z => by rw [z, q2] at q; cases q)]
    exact F.ext a o n q
  · obtain ⟨o, q⟩ := F.bc a q
    exact trk a o q
  · rcases getset q with ⟨_, z⟩ | ⟨ne, q⟩
    · cases z
    · obtain ⟨u, h2, h3⟩ := F.frz k' f q
      exact ⟨u, h2, (h3.keep k).weak fun a _ _ z => (same a).mp z⟩
  · rcases getset q with ⟨rfl, z⟩ | ⟨ne, q⟩
    · cases z
      exact ⟨p, hp, q2, .lst upd_same npc hz ((r.keep k).weak fun a _ _ z => (same a).mp z), ⟨_, upd_same⟩, fun z => by simp [Dv.cel] at z⟩
    · obtain ⟨u, h2, h3, h4, ⟨o, h5⟩, h6⟩ := F.own k' f q
      have np : u ≠ p := fun z => ne (F.inj _ _ _ _ p h q hp (z ▸ h2))
      refine ⟨u, h2, h3, ?_, by rw [upd_ne np]; exact ⟨o, h5⟩, h6⟩
      have h4' := h4.weak (B' := Own Bc (η.set i (.own (.list es))) σ) fun a _ _ z => (same a).mp z
      have k2 : Keep H (L2.upd H p (.lst ys)) (Own Bc (η.set i (.own (.list es))) σ) pc := ⟨fun a o n nb e => k.kept a o n (fun z => nb ((same a).mpr z)) e, k.tups⟩
      generalize hv : V.ref u = v at h4'
      cases h4' with
      | of h => exact .of (h.keep k2)
      | lst g1 g2 g3 g4 => cases hv; exact .lst (by rw [upd_ne np]; exact g1) g2 g3 (g4.keep k2)
      | dic g1 g2 g3 g4 => cases hv; exact .dic (by rw [upd_ne np]; exact g1) g2 g3 (g4.keep k2)
  · have back : ∀ {k : Nat} {f : D}, (η.set i (.own (.list es)))[k]? = some (.own f) → ∃ f', η[k]? = some (.own f') := fun {k f} q => by
      rcases getset q with ⟨rfl, _⟩ | ⟨_, q⟩
      · exact ⟨_, h⟩
      · exact ⟨f, q⟩
    obtain ⟨f', h1⟩ := back h1
    obtain ⟨g', h2⟩ := back h2
    exact F.inj a b f' g' q' h1 h2 h3 h4
/-- a cell is written -/
theorem Fr.cell {k : Nat} {z : Int} (F : Fr K pc ps H0 Bc η σ H S) (hk : k < 4) :
    Fr K pc ps H0 Bc η σ (L2.upd H pc (.lst ((.ref ps :: S.cells.map .int).set (k + 1) (.int z)))) { S with cells := S.cells.set k z } ∧ Stp pc (Own Bc η σ) H (Own Bc η σ) (L2.upd H pc (.lst ((.ref ps :: S.cells.map .int).set (k + 1) (.int z)))) := by
  have kp : Keep H (L2.upd H pc (.lst ((.ref ps :: S.cells.map .int).set (k + 1) (.int z)))) (Own Bc η σ) pc := by
    refine ⟨fun a o n _ q => by rw [upd_ne n]; exact q, fun a o zs q => ?_⟩
    rw [upd_ne (show a ≠ pc from fun e => by rw [e, F.src.top] at q; cases q)]; exact q
  have trk : ∀ a o, H a = some o → ∃ o', L2.upd H pc (.lst ((.ref ps :: S.cells.map .int).set (k + 1) (.int z))) a = some o' := fun a o q => by
    by_cases e : a = pc
    · subst e; exact ⟨_, upd_same⟩
    · rw [upd_ne e]; exact ⟨o, q⟩
  refine ⟨⟨fun a o n q => by rw [upd_ne n]; exact F.ext a o n q, F.src0, ⟨F.src.ne, ?_, by rw [upd_ne F.src.ne]; exact F.src.scr, ?_, F.src.line⟩, fun a q => ?_, F.nps, F.npc, F.len, fun i d q => ?_, fun i d q => ?_, F.inj⟩, kp, fun _ _ _ z => z, trk⟩
  · rw [upd_same, List.set_cons_succ]
    show some (HO.lst (.ref ps :: (S.cells.map .int).set k (.int z))) = some (HO.lst (.ref ps :: (S.cells.set k z).map .int))
    rw [List.map_set]
  · show (S.cells.set k z).length = 4
    rw [List.length_set]; exact F.src.four
  · obtain ⟨o, q⟩ := F.bc a q
    exact trk a o q
  · obtain ⟨u, h2, h3⟩ := F.frz i d q
    exact ⟨u, h2, h3.keep kp⟩
  · obtain ⟨u, h2, h3, h4, ⟨o, h5⟩, h6⟩ := F.own i d q
    have np : u ≠ pc := fun e => F.ownpc (.inr ⟨i, d, q, by rw [h2, e]⟩)
    refine ⟨u, h2, h3, ?_, by rw [upd_ne np]; exact ⟨o, h5⟩, h6⟩
    generalize hv : V.ref u = v at h4
    cases h4 with
    | of h => exact .of (h.keep kp)
    | lst g1 g2 g3 g4 => cases hv; exact .lst (by rw [upd_ne np]; exact g1) g2 g3 (g4.keep kp)
    | dic g1 g2 g3 g4 => cases hv; exact .dic (by rw [upd_ne np]; exact g1) g2 g3 (g4.keep kp)
end
end Dv

/-! Dv26: the statements. -/
namespace Dv
open PySem PySem.Spec PyProof.Rows L2

/-- what is wanted behind a statement, by its answer -/
def After (K : PySem.W.Frag) (pc ps : Addr) (H0 : Hp) (Bc : Addr → Prop) (B : Addr → Prop) (H : Hp) (Dd : Ends) : Res → Prop
  | .nx η' S' => ∀ σ' H', Fr K pc ps H0 Bc η' σ' H' S' → Stp pc B H (Own Bc η' σ') H' → Dd.nx σ' H'
  | .ct η' S' => ∀ σ' H', Fr K pc ps H0 Bc η' σ' H' S' → Stp pc B H (Own Bc η' σ') H' → Dd.ct σ' H'
  | .bk η' S' => ∀ σ' H', Fr K pc ps H0 Bc η' σ' H' S' → Stp pc B H (Own Bc η' σ') H' → Dd.bk σ' H'
  | .rt d nw S' => ∀ v H', Ext pc H0 H' → Src pc ps H' S' → Rp K pc H' Bc v d → (nw = true → ∃ p, v = .ref p ∧ H0 p = none) → Dd.rt v H'
/-- a statement's reading -/
def tSt (K : PySem.W.Frag) (pc ps : Addr) (f : Dv.Env → Sc → Option Res) : TS := fun Dd σ H => ∃ H0 Bc η S r, (∀ a, Bc a → ∃ o, H0 a = some o) ∧ Fr K pc ps H0 Bc η σ H S ∧ f η S = some r ∧ After K pc ps H0 Bc (Own Bc η σ) H Dd r
section
variable {K : PySem.W.Frag} {pc ps : Addr} {H0 : Hp} {Bc B B1 : Addr → Prop} {H H1 : Hp} {Dd : Ends} {r : Res}
theorem After.mono (s : Stp pc B H B1 H1) (a : After K pc ps H0 Bc B H Dd r) : After K pc ps H0 Bc B1 H1 Dd r := by
  cases r with
  | nx η' S' => exact fun σ' H' F st => a σ' H' F (s.trans st)
  | ct η' S' => exact fun σ' H' F st => a σ' H' F (s.trans st)
  | bk η' S' => exact fun σ' H' F st => a σ' H' F (s.trans st)
  | rt d nw S' => exact a
end
section
variable {X : Cx} {pc ps : Addr} {Φ : Callee} {G : Str → Option D} {c : Sco} {fuel : Nat} {pos p : Pos}
theorem pss_of {sts : List Stmt} {ss : List Stm} (h : Paired (fun st s => PS X st (tSt X.K pc ps (denS Φ G fuel s))) sts ss) : PSs X sts (tSt X.K pc ps (denSs Φ G fuel ss)) := by
  induction h with
  | nil =>
    refine ⟨fun pins s σ H D I h => pss_nil.run pins s σ H D I ?_⟩
    obtain ⟨H0, Bc, η, S, r, bc0, F, hd, a⟩ := h
    simp only [denSs] at hd
    cases hd
    exact a σ H F Stp.refl
  | cons h1 _ ih =>
    refine (pss_cons h1 ih).imp fun D σ H h => ?_
    obtain ⟨H0, Bc, η, S, r, bc0, F, hd, a⟩ := h
    simp only [denSs] at hd
    split at hd
    · rename_i η' S' h1
      exact ⟨H0, Bc, η, S, _, bc0, F, h1, fun σ' H' F' st => ⟨H0, Bc, η', S', r, bc0, F', hd, a.mono st⟩⟩
    · rename_i hn
      refine ⟨H0, Bc, η, S, r, bc0, F, hd, ?_⟩
      cases r with
      | nx η' S' => exact absurd hd (hn η' S')
      | ct η' S' => exact a
      | bk η' S' => exact a
      | rt d nw S' => exact a
theorem ps_none {st : Stmt} {s : Stm} (h : ∀ η S, denS Φ G fuel s η S = none) : PS X st (tSt X.K pc ps (denS Φ G fuel s)) := ⟨fun _ _ _ _ _ _ q => by
  obtain ⟨H0, Bc, η, S, r, _, _, hd, _⟩ := q
  rw [h] at hd; cases hd⟩
/-! ### assignments -/
theorem own_frz {η : Dv.Env} {t : E} {d : D} (h : isNew t d = false) : mkSl t d = .frz d := by unfold mkSl; rw [h]; rfl
theorem own_own {η : Dv.Env} {t : E} {d : D} (h : isNew t d = true) : mkSl t d = .own d := by unfold mkSl; rw [h]; rfl
/-- behind a value that was just made -/
theorem bind_val {t : E} {i : Nat} {H0 : Hp} {Bc : Addr → Prop} {η : Dv.Env} {σ : Sg} {H H' : Hp} {S S' : Sc} {v : V} {d : D} (F : Fr X.K pc ps H0 Bc η σ H S) (hi : i < η.length) (g : Got X.K pc ps (Own Bc η σ) H (isNew t d) d S' v H') :
    Fr X.K pc ps H0 Bc (η.set i (mkSl t d)) (σ.set i (some v)) H' S' ∧ Stp pc (Own Bc η σ) H (Own Bc (η.set i (mkSl t d)) (σ.set i (some v))) H' := by
  cases hn : isNew t d with
  | true =>
    rw [hn] at g
    rw [own_own (η := η) hn]
    exact F.setNew g hi
  | false =>
    rw [own_frz (η := η) hn]
    have F1 := F.step g.ext g.src
    exact ⟨F1.set g.rp hi, (Stp.ext g.ext F.src g.src).trans (Stp.sub own_set)⟩
theorem set_step {t : E} {i : Nat} {D : Ends} {σ : Sg} {H : Hp} (q : tSt X.K pc ps (denS Φ G fuel (.set i t)) D σ H) : tAsg (tD X.K pc ps (den Φ G t) (isNew t)) (gName i) D σ H := by
  obtain ⟨H0, Bc, η, S, r, bc0, F, hd, a⟩ := q
  simp only [denS] at hd
  split at hd
  · rename_i d S1 h1
    split at hd
    · rename_i hi
      cases hd
      refine ⟨H0, Bc, η, S, d, S1, F, h1, fun v H1 g => ?_⟩
      obtain ⟨F2, st⟩ := bind_val F hi g
      exact a _ _ F2 st
    · cases hd
  · cases hd
theorem swaps_of {e : Expr} {tg : Option Expr} {l : Nat} {env : PySem.Env} (h : isComp e = false) : swapsWith e tg l env = pure false := by
  cases e <;> first | rfl | cases h
theorem sole_of {e tg : Expr} {l : Nat} {env : PySem.Env} (h : isComp e = false) : swapsWithSole [tg] e l env = pure false := swaps_of h
theorem ps_setE (g : Good X pc ps Φ G c) {x : Str} {px : Pos} {e : Expr} {t : E} {i : Nat} (hx : locB c x = true) (hc : isComp e = false) (hi : place X.N x = some i) (h : SE X pc ps Φ G e t) : PS X (.Assign [.Name x px] e pos) (tSt X.K pc ps (denS Φ G fuel (.set i t))) := by
  obtain ⟨l1, l2⟩ := loc_of g hx
  exact (ps_set g.nodup (place_at hi) l1 h.pe (swaps_of hc) l2).imp fun D σ H q => set_step q
theorem ps_alias (g : Good X pc ps Φ G c) {x y : Str} {px py : Pos} {i j : Nat} (hx : locB c x = true) (hi : place X.N x = some i) (hy : visB c.sc y = true) (hn : okName y = true) (hj : place X.N y = some j) : PS X (.Assign [.Name x px] (.Name y py) pos) (tSt X.K pc ps (denS Φ G fuel (.alis i j))) := by
  obtain ⟨l1, l2⟩ := loc_of g hx
  have pe : PE X (.Name y py) (tVar j) := pe_var (place_at hj) (vis_of (by rw [g.sc]; exact hy)) (ok1 hn) (ok2 hn)
  refine (ps_set g.nodup (place_at hi) l1 pe (by rfl) l2).imp fun D σ H q => ?_
  obtain ⟨H0, Bc, η, S, r, bc0, F, hd, a⟩ := q
  simp only [denS] at hd
  split at hd
  · rename_i d h1
    split at hd
    · rename_i hi'
      cases hd
      cases e : slot η j with
      | no => rw [e] at h1; cases h1
      | frz y =>
        rw [e] at h1
        cases h1
        have ej := slot_at e (by simp)
        obtain ⟨v, e1, rr⟩ := F.frz _ _ ej
        refine ⟨v, e1, ?_⟩
        have es : η.set j (.frz d) = η := by
          refine List.ext_getElem? fun k => ?_
          by_cases hk : j = k
          · subst hk
            rw [List.getElem?_set_self (List.getElem?_eq_some_iff.mp ej).1, ej]
          · rw [List.getElem?_set_ne hk]
        rw [es] at a
        exact a _ _ (F.set rr hi') (Stp.sub own_set)
      | own y =>
        rw [e] at h1
        cases h1
        have ej := slot_at e (by simp)
        obtain ⟨F1, sub⟩ := F.freeze bc0 ej
        have jl : j < η.length := (List.getElem?_eq_some_iff.mp ej).1
        obtain ⟨v, e1, rr⟩ := F1.frz j d (List.getElem?_set_self jl)
        refine ⟨v, e1, ?_⟩
        exact a _ _ (F1.set rr (by rw [List.length_set]; exact hi')) ((Stp.sub sub).trans (Stp.sub own_set))
    · cases hd
  · cases hd
theorem ps_unp (g : Good X pc ps Φ G c) {n : Nat} {ts : List Expr} {k : Nat} {pt : Pos} {e : Expr} {t : E} {gt : Tg} (hc : isComp e = false) (ht : isTup e = false) (hg : cTg X.N c n (.Tuple ts k pt) = some gt) (h : SE X pc ps Φ G e t) : PS X (.Assign [.Tuple ts k pt] e pos) (tSt X.K pc ps (denS Φ G fuel (.unp gt t))) := by
  refine (ps_asg h.pe (pg_tg g n _ _ hg) (sole_of hc) (by cases e <;> first | rfl | cases ht) (by rfl)).imp fun D σ H q => ?_
  obtain ⟨H0, Bc, η, S, r, bc0, F, hd, a⟩ := q
  simp only [denS] at hd
  split at hd
  · rename_i d S1 h1
    obtain ⟨η', h2, rfl⟩ := Option.map_eq_some_iff.mp hd
    refine ⟨H0, Bc, η, S, d, S1, F, h1, fun v H1 g1 => ?_⟩
    exact ⟨H0, Bc, η, S1, d, η', F.step g1.ext g1.src, .inl g1.rp, h2, fun σ' F' o' _ => a _ _ F' ((Stp.ext g1.ext F.src g1.src).trans (Stp.sub o'.own))⟩
  · cases hd
theorem ps_augE (g : Good X pc ps Φ G c) {x : Str} {px : Pos} {op : Operator} {o : BOp} {e : Expr} {t : E} {i : Nat} (hx : locB c x = true) (hi : place X.N x = some i) (ho : cOp op = some o) (h : SE X pc ps Φ G e t) : PS X (.AugAssign (.Name x px) op e pos) (tSt X.K pc ps (denS Φ G fuel (.aug i o t))) := by
  obtain ⟨l1, l2⟩ := loc_of g hx
  refine (ps_aug g.nodup (place_at hi) l1 h.pe (ip_data (pc := pc) (ps := ps) ho) l2).imp fun D σ H q => ?_
  obtain ⟨H0, Bc, η, S, r, bc0, F, hd, a⟩ := q
  simp only [denS] at hd
  split at hd
  · rename_i x h1
    split at hd
    · rename_i y S1 h2
      split at hd
      · rename_i z h3
        split at hd
        · rename_i hi'
          cases hd
          obtain ⟨u, e1, ru⟩ := F.frz _ _ (clean_at h1)
          refine ⟨u, e1, H0, Bc, η, S, y, S1, F, h2, fun v H1 g1 => ?_⟩
          have F1 := F.step g1.ext g1.src
          refine ⟨Own Bc η σ, x, y, z, S1, fun a h => F1.trk h, g1.src, .of (ru.keep (g1.ext.keep F.src)), .of g1.rp, h3, fun w H2 g2 => ?_⟩
          have F2 := F1.step g2.ext g2.src
          exact a _ _ (F2.set g2.rp hi') (((Stp.ext g1.ext F.src g1.src).trans (Stp.ext g2.ext g1.src g2.src)).trans (Stp.sub own_set))
        · cases hd
      · cases hd
    · cases hd
  · cases hd
theorem own_slot {η : Dv.Env} {i : Nat} {d : D} (h : slot η i = .own d) : η[i]? = some (.own d) := slot_at h (by simp)
theorem ps_setIx (g : Good X pc ps Φ G c) {x : Str} {px pt : Pos} {k e : Expr} {tk t : E} {i : Nat} (hx : visB c.sc x = true) (hn : okName x = true) (hi : place X.N x = some i) (hc : isComp e = false) (hk : SE X pc ps Φ G k tk) (h : SE X pc ps Φ G e t) (hp : plainIxB k = true) :
    PS X (.Assign [.Subscript (.Name x px) k pt] e pos) (tSt X.K pc ps (denS Φ G fuel (.setIx i tk t))) := by
  have pe : PE X (.Name x px) (tVar i) := pe_var (place_at hi) (vis_of (by rw [g.sc]; exact hx)) (ok1 hn) (ok2 hn)
  refine (ps_asg h.pe (pg_sub pe hk.pe set_list (by intro _; cases k <;> first | rfl | cases hp)) (sole_of hc) (by cases e <;> rfl) (by rfl)).imp fun D σ H q => ?_
  obtain ⟨H0, Bc, η, S, r, bc0, F, hd, a⟩ := q
  simp only [denS] at hd
  split at hd
  · rename_i d S1 h1
    split at hd
    · rename_i kk S2 h2
      split at hd
      · rename_i xs hs
        obtain ⟨j, h3, rfl⟩ := Option.map_eq_some_iff.mp hd
        refine ⟨H0, Bc, η, S, d, S1, F, h1, fun v H1 g1 => ?_⟩
        have F1 := F.step g1.ext g1.src
        obtain ⟨pp, e1, _⟩ := F1.own _ _ (own_slot hs)
        refine ⟨_, e1, H0, Bc, η, S1, _, S2, F1, h2, fun w H2 g2 => ?_⟩
        have F2 := F1.step g2.ext g2.src
        obtain ⟨p2, e2, _, rp, _⟩ := F2.own _ _ (own_slot hs)
        rw [e1] at e2
        cases e2
        obtain ⟨p3, ys, ep, hl, _, hz, ra⟩ := rp.list
        cases ep
        cases g2.rp.intV
        refine ⟨pp, ys, kk, j, rfl, rfl, hl, by rw [ra.length]; exact h3, ?_⟩
        obtain ⟨F3, st⟩ := F2.wr (own_slot hs) e1 hl (by rw [List.length_set]; exact hz) (ra.set (g1.rp.keep (g2.ext.keep g1.src)) j)
        exact a _ _ F3 (((Stp.ext g1.ext F.src g1.src).trans (Stp.ext g2.ext g1.src g2.src)).trans st)
      · rename_i hs
        split at hd
        · rename_i z
          split at hd
          · rename_i hk4
            cases hd
            have ei : η[i]? = some (.frz Dv.cel) := slot_at hs (by simp)
            refine ⟨H0, Bc, η, S, _, S1, F, h1, fun v H1 g1 => ?_⟩
            have F1 := F.step g1.ext g1.src
            obtain ⟨u, e1, ru⟩ := F1.frz _ _ ei
            cases ru.celV
            refine ⟨_, e1, H0, Bc, η, S1, _, S2, F1, h2, fun w H2 g2 => ?_⟩
            have F2 := F1.step g2.ext g2.src
            cases g2.rp.intV
            cases g1.rp.intV
            have e4 : (kk - 1).toNat + 1 < 5 := by omega
            refine ⟨pc, _, kk, (kk - 1).toNat + 1, rfl, rfl, F2.src.top, ?_, ?_⟩
            · rw [List.length_cons, List.length_map, F2.src.four]
              unfold ixN
              rw [if_pos (by omega), if_pos (by omega)]
              congr 1
              omega
            · obtain ⟨F3, st⟩ := F2.cell (k := (kk - 1).toNat) (z := z) (by omega)
              exact a _ _ F3 (((Stp.ext g1.ext F.src g1.src).trans (Stp.ext g2.ext g1.src g2.src)).trans st)
          · cases hd
        · cases hd
      · cases hd
    · cases hd
  · cases hd
theorem tyV_list {K : PySem.W.Frag} {p : Addr} {H : Hp} {xs : List V} (h : H p = some (.lst xs)) : tyV K "list" (.ref p) H := by
  unfold tyV
  first | exact .inl ⟨xs, SqL.of h⟩ | exact .inl ⟨rfl, xs, SqL.of h⟩ | exact .inl ⟨rfl, xs, .inl h⟩
end
end Dv

/-! Dv27: append, extend, if, for, while, return; all statements. -/
namespace Dv
open PySem PySem.Spec PyProof.Rows L2

section
variable {X : Cx} {pc ps : Addr} {Φ : Callee} {G : Str → Option D} {c : Sco} {fuel : Nat} {pos p : Pos}
theorem few_of {e : Expr} {cpos : Pos} (h : notStar e = true) : ((backTo cpos (starEach [e] X.env)).all (fun x => !x.1) && (backToKw cpos (keywordEach [] X.env)).all (fun x => x.1.isSome)
      && decide (([e] : List Expr).length + ([] : List Keyword).length + (if ([] : List Keyword).isEmpty then 0 else 1) < 30)) = true := by
  have s1 : starEach [e] X.env = [(false, eval e X.env)] := star_of h
  rw [s1]; rfl
theorem ps_app (g : Good X pc ps Φ G c) {x m : Str} {px ap cp : Pos} {e : Expr} {t : E} {i : Nat} (hx : visB c.sc x = true) (hn : okName x = true) (hs : notStar e = true) (hi : place X.N x = some i) (hm : isStr m "append" = true) (hl : (ap.endLine == cp.line) = true) (h : SE X pc ps Φ G e t) :
    PS X (.Expr (.Call (.Attribute (.Name x px) m ap) [e] [] cp) pos) (tSt X.K pc ps (denS Φ G fuel (.app i t))) := by
  have hm : m = "append" := of_decide_eq_true hm
  subst hm
  have pe : PE X (.Name x px) (tVar i) := pe_var (place_at hi) (vis_of (by rw [g.sc]; exact hx)) (ok1 hn) (ok2 hn)
  have he : starEach [e] X.env = (false, eval e X.env) :: starEach [] X.env := star_of hs
  refine (ps_expr (pe_bm PySem.F.plainAttrs_list F.slot_list_append F.type_list_append (show MtR X "list.append" rAppend from mt_append) pe (pa_cons h.pe pa_nil he) (by rfl) (few_of hs) hl he (by rfl)) (by rfl)).imp fun D σ H q => ?_
  obtain ⟨H0, Bc, η, S, r, bc0, F, hd, a⟩ := q
  simp only [denS] at hd
  split at hd
  · rename_i d S1 h1
    split at hd
    · rename_i xs hsl
      split at hd
      · rename_i hz'
        cases hd
        obtain ⟨pp, e1, _, rp0, _⟩ := F.own _ _ (own_slot hsl)
        obtain ⟨p0, ys0, ep0, hl0, _, _, _⟩ := rp0.list
        cases ep0
        refine ⟨_, e1, tyV_list hl0, H0, Bc, η, S, d, S1, F, h1, fun v H1 g1 => ?_⟩
        have F1 := F.step g1.ext g1.src
        obtain ⟨p2, e2, _, rp, _⟩ := F1.own _ _ (own_slot hsl)
        rw [e1] at e2
        cases e2
        obtain ⟨p3, ys, ep, hl1, _, hz, ra⟩ := rp.list
        cases ep
        have hz1 : xs.length + 1 ≤ sizeLine := of_decide_eq_true hz'
        refine ⟨pp, ys, v, rfl, rfl, hl1, by rw [ra.length]; omega, ?_⟩
        obtain ⟨F3, st⟩ := F1.wr (own_slot hsl) e1 hl1 (by rw [List.length_append, ra.length]; exact hz1) (ra.append (.cons g1.rp .nil))
        exact a _ _ F3 ((Stp.ext g1.ext F.src g1.src).trans st)
      · cases hd
    · cases hd
  · cases hd
theorem ps_ext (g : Good X pc ps Φ G c) {x m : Str} {px ap cp : Pos} {e : Expr} {t : E} {i : Nat} (hx : visB c.sc x = true) (hn : okName x = true) (hs : notStar e = true) (hi : place X.N x = some i) (hm : isStr m "extend" = true) (hl : (ap.endLine == cp.line) = true) (h : ST X pc ps Φ G e t) :
    PS X (.Expr (.Call (.Attribute (.Name x px) m ap) [e] [] cp) pos) (tSt X.K pc ps (denS Φ G fuel (.ext i t))) := by
  have hm : m = "extend" := of_decide_eq_true hm
  subst hm
  have pe : PE X (.Name x px) (tVar i) := pe_var (place_at hi) (vis_of (by rw [g.sc]; exact hx)) (ok1 hn) (ok2 hn)
  have he : starEach [e] X.env = (false, eval e X.env) :: starEach [] X.env := star_of hs
  refine (ps_expr (pe_bm PySem.F.plainAttrs_list F.slot_list_extend F.type_list_extend (show MtR X "list.extend" (rExtA X.K) from mt_extendA) pe (pa_cons h.pe pa_nil he) (by rfl) (few_of hs) hl he (by rfl)) (by rfl)).imp fun D σ H q => ?_
  obtain ⟨H0, Bc, η, S, r, bc0, F, hd, a⟩ := q
  simp only [denS] at hd
  split at hd
  · rename_i d S1 h1
    split at hd
    · rename_i xs hsl
      split at hd
      · rename_i ys' hit
        split at hd
        · rename_i hz'
          cases hd
          obtain ⟨pp, e1, _, rp0, _⟩ := F.own _ _ (own_slot hsl)
          obtain ⟨p0, ys0, ep0, hl0, _, _, _⟩ := rp0.list
          cases ep0
          refine ⟨_, e1, tyV_list hl0, H0, Bc, η, S, d, S1, F, h1, fun v H1 g1 => ?_⟩
          have F1 := F.step g1.ext g1.src
          obtain ⟨p2, e2, _, rp, _⟩ := F1.own _ _ (own_slot hsl)
          rw [e1] at e2
          cases e2
          obtain ⟨p3, ys, ep, hl1, _, hz, ra⟩ := rp.list
          cases ep
          have hz1 : xs.length + ys'.length ≤ sizeLine := of_decide_eq_true hz'
          have fin : ∀ {b : Addr} {zs : List V}, v = .ref b → (H1 b = some (.lst zs) ∨ SqT X.K H1 b zs) → RpAll X.K pc H1 (Own Bc η σ) zs ys' → rExtA X.K (.ref pp) [v] H1 fun _ H2 => D.nx σ H2 := fun {b zs} ev hb rz => by
            subst ev
            refine ⟨pp, b, ys, zs, rfl, rfl, hl1, hb, by rw [ra.length, rz.length]; exact hz1, ?_⟩
            obtain ⟨F3, st⟩ := F1.wr (own_slot hsl) e1 hl1 (by rw [List.length_append, ra.length, rz.length]; exact hz1) (ra.append rz)
            exact a _ _ F3 ((Stp.ext g1.ext F.src g1.src).trans st)
          cases d with
          | list ds =>
            cases hit
            obtain ⟨b, zs, ev, hb, _, _, rz⟩ := g1.rp.list
            exact fin ev (.inl hb) rz
          | tuple ds =>
            cases hit
            obtain ⟨b, zs, ev, hb, _, rz⟩ := g1.rp.tuple
            exact fin ev (.inr hb.sq) rz
          | _ => cases hit
        · cases hd
      · cases hd
    · cases hd
  · cases hd
theorem ps_ife {e : Expr} {t : E} {as bs : List Stmt} {ss tt : List Stm} (h : ST X pc ps Φ G e t) (ha : PSs X as (tSt X.K pc ps (denSs Φ G fuel ss))) (hb : PSs X bs (tSt X.K pc ps (denSs Φ G fuel tt))) : PS X (.If e as bs pos) (tSt X.K pc ps (denS Φ G fuel (.ife t ss tt))) := by
  refine (ps_if h.pt ha hb).imp fun D σ H q => ?_
  obtain ⟨H0, Bc, η, S, r, bc0, F, hd, a⟩ := q
  simp only [denS] at hd
  split at hd
  · rename_i x S1 h1
    split at hd
    · rename_i h2
      refine ⟨H0, Bc, η, S, x, S1, true, F, h1, h2, fun H1 x1 s1 => ?_⟩
      simp only [reduceIte]
      exact ⟨H0, Bc, η, S1, r, bc0, F.step x1 s1, hd, a.mono (Stp.ext x1 F.src s1)⟩
    · rename_i h2
      refine ⟨H0, Bc, η, S, x, S1, false, F, h1, h2, fun H1 x1 s1 => ?_⟩
      simp only [Bool.false_eq_true, reduceIte]
      exact ⟨H0, Bc, η, S1, r, bc0, F.step x1 s1, hd, a.mono (Stp.ext x1 F.src s1)⟩
    · cases hd
  · cases hd
theorem ps_retE {e : Expr} {t : E} (h : SE X pc ps Φ G e t) : PS X (.Return (some e) pos) (tSt X.K pc ps (denS Φ G fuel (.ret t))) := by
  refine (ps_ret h.pe).imp fun D σ H q => ?_
  obtain ⟨H0, Bc, η, S, r, bc0, F, hd, a⟩ := q
  simp only [denS] at hd
  obtain ⟨⟨d, S1⟩, h1, h2⟩ := Option.map_eq_some_iff.mp hd
  subst h2
  have e1 : denT Φ G t η S = den Φ G t η S := notOwn_top h.no η S _
  rw [e1] at h1
  refine ⟨H0, Bc, η, S, d, S1, F, h1, fun v H1 g1 => ?_⟩
  refine a v H1 (F.ext.trans g1.ext) g1.src (g1.rp.weak fun a _ _ z => .inl z) fun nw => ?_
  have hn : isNew t d = true := by
    cases d with
    | list xs => simpa [retNew, notOwn_owned h.no] using nw
    | _ => simp [retNew] at nw
  obtain ⟨p, ev, hp, _⟩ := g1.new hn
  exact ⟨p, ev, F.ext.none F.src hp⟩
theorem ps_retO (g : Good X pc ps Φ G c) {x : Str} {px : Pos} {i : Nat} (hx : visB c.sc x = true) (hn : okName x = true) (hi : place X.N x = some i) : PS X (.Return (some (.Name x px)) pos) (tSt X.K pc ps (denS Φ G fuel (.ret (.own i)))) := by
  have pe : PE X (.Name x px) (tVar i) := pe_var (place_at hi) (vis_of (by rw [g.sc]; exact hx)) (ok1 hn) (ok2 hn)
  refine (ps_ret pe).imp fun D σ H q => ?_
  obtain ⟨H0, Bc, η, S, r, bc0, F, hd, a⟩ := q
  simp only [denS] at hd
  obtain ⟨⟨d, S1⟩, h1, h2⟩ := Option.map_eq_some_iff.mp hd
  subst h2
  simp only [denT, topE] at h1
  obtain ⟨d', h3, h4⟩ := Option.map_eq_some_iff.mp h1
  cases h4
  cases e : slot η i with
  | no => rw [e] at h3; cases h3
  | frz y =>
    rw [e] at h3
    cases h3
    obtain ⟨v, e1, rr⟩ := F.frz _ _ (slot_at e (by simp))
    refine ⟨v, e1, a v H F.ext F.src (rr.weak fun a _ _ z => .inl z) fun nw => ?_⟩
    exfalso
    cases d <;> simp [retNew, isNew, ownedE, e, Sl.isOwn] at nw
  | own y =>
    rw [e] at h3
    cases h3
    have ei := slot_at e (by simp)
    obtain ⟨pp, e1, h0, rp, _⟩ := F.own _ _ ei
    have nb : ¬ Bc pp := fun z => by
      obtain ⟨o, q⟩ := bc0 pp z
      rw [h0] at q; cases q
    refine ⟨_, e1, a _ H F.ext F.src ?_ fun _ => ⟨pp, rfl, h0⟩⟩
    generalize hv : V.ref pp = v at rp
    cases rp with
    | of rr => exact rr.weak fun a _ _ z => .inl z
    | lst g1 g2 g3 g4 => cases hv; exact .lst g1 g2 nb g3 (g4.weak fun a _ _ z => .inl z)
    | dic g1 g2 g3 g4 => cases hv; exact .dic g1 g2 nb g3 (g4.weak fun a _ _ z => .inl z)
theorem frzAt_den {t : E} {η : Dv.Env} {S : Sc} (h : ∀ i, t ≠ .own i) : frzAt η t = η := by
  cases t <;> first | rfl | exact absurd rfl (h _)
/-- one turn of a for -/
def forT (Φ : Callee) (G : Str → Option D) (fuel : Nat) (g : Tg) (ss : List Stm) (x : D) (η : Dv.Env) (S : Sc) : Option Res := match bindT g x η with
  | some η2 => denSs Φ G fuel ss η2 S
  | none => none
theorem ps_forE' (g : Good X pc ps Φ G c) {tg it : Expr} {gt : Tg} {t : E} {body : List Stmt} {ss : List Stm} (hs : noSet it = true) (hg : PG X tg (gD X.K pc ps gt)) (hi : PI X tg it (iD X.K pc ps (denT Φ G t) (fun η => clE η t) gt)) (hb : PSs X body (tSt X.K pc ps (denSs Φ G fuel ss))) :
    PS X (.For tg it body [] pos) (tSt X.K pc ps (denS Φ G fuel (.for_ gt t ss))) := by
  have hp : PassesOwn (model X.prog X.w) X.A X.env X.xe := by rw [g.xe]; exact PassesOwn.never
  refine (ps_for hp g.calm hi hg hb (folded_of hs)).imp fun D σ H q => ?_
  obtain ⟨H0, Bc, η, S, r, bc0, F, hd, a⟩ := q
  simp only [denS] at hd
  split at hd
  · rename_i d S1 h1
    split at hd
    · rename_i xs hx
      split at hx
      · rename_i hcl
        -- the walked object is frozen
        have fz : Fr X.K pc ps H0 Bc (frzAt η t) σ H S ∧ (∀ a, Own Bc (frzAt η t) σ a → Own Bc η σ a) ∧ denT Φ G t (frzAt η t) S = some (d, S1) := by
          by_cases ho : ∃ i, t = .own i
          · obtain ⟨i, rfl⟩ := ho
            simp only [denT, topE] at h1 ⊢
            obtain ⟨d', h3, h4⟩ := Option.map_eq_some_iff.mp h1
            cases h4
            cases e : slot η i with
            | no => rw [e] at h3; cases h3
            | frz y =>
              rw [e] at h3
              cases h3
              have ei := slot_at e (by simp)
              have hi' := (List.getElem?_eq_some_iff.mp ei).1
              have es : frzAt η (.own i) = η := by
                show η.set i (slot η i).freeze = η
                rw [e]
                refine List.ext_getElem? fun k => ?_
                by_cases hk : i = k
                · subst hk
                  rw [List.getElem?_set_self hi', ei]; rfl
                · rw [List.getElem?_set_ne hk]
              rw [es]
              exact ⟨F, fun _ z => z, by rw [e]; rfl⟩
            | own y =>
              rw [e] at h3
              cases h3
              have ei := slot_at e (by simp)
              have hi' := (List.getElem?_eq_some_iff.mp ei).1
              obtain ⟨F1, sub⟩ := F.freeze bc0 ei
              have es : frzAt η (.own i) = η.set i (.frz d) := by
                show η.set i (slot η i).freeze = _
                rw [e]; rfl
              rw [es]
              refine ⟨F1, sub, ?_⟩
              have e2 : slot (η.set i (.frz d)) i = .frz d := by
                unfold slot
                rw [List.getD_eq_getElem?_getD, List.getElem?_set_self hi']; rfl
              rw [e2]; rfl
          · have es : frzAt η t = η := frzAt_den (S := S) fun i z => ho ⟨i, z⟩
            rw [es]
            exact ⟨F, fun _ z => z, h1⟩
        obtain ⟨Fz, sub, hz⟩ := fz
        refine ⟨H0, Bc, frzAt η t, S, d, xs, S1, Fz, hz, hx, fun J H1 x1 s1 w => ?_⟩
        obtain ⟨_, Gw, Y, wk, g0, _, gk, wy⟩ := w
        have gk := gk hcl
        have st0 : Stp pc (Own Bc η σ) H (Own Bc (frzAt η t) σ) H1 := (Stp.sub sub).trans (Stp.ext x1 F.src s1)
        have hd' : forF (forT Φ G fuel gt ss) xs (frzAt η t) S1 = some r := hd
        let Pv : Nat → L2.St → Hp → Prop := fun i σ' H' => ∃ η' S', Fr X.K pc ps H0 Bc η' σ' H' S' ∧ Stp pc (Own Bc (frzAt η t) σ) H1 (Own Bc η' σ') H' ∧ forF (forT Φ G fuel gt ss) (xs.drop i) η' S' = some r
        refine for_it wk Pv ⟨frzAt η t, S1, Fz.step x1 s1, Stp.refl, by simpa using hd'⟩ (fun i σ' H' _ p => ?_) (fun i x σ' H' H2 hlt p y => ?_) fun σ' H' p => ?_
        · obtain ⟨η', S', _, p2, _⟩ := p
          exact gk H' p2.keep
        · obtain ⟨η', S', p1, p2, p3⟩ := p
          obtain ⟨d0, y1, y2, y3⟩ := wy i H' x H2 y p2.keep
          rw [len_drop y1] at p3
          simp only [forF] at p3
          have xy : Ext pc H' H2 ∧ Src pc ps H2 S' := by
            rcases y2 with rfl | ⟨T, o, hT, rfl⟩
            · exact ⟨Ext.refl, p1.src⟩
            · exact ⟨Ext.new hT, p1.src.new hT⟩
          have F2 := p1.step xy.1 xy.2
          have turn : ∀ {r2 : Res}, forT Φ G fuel gt ss d0 η' S' = some r2 → ∀ D2 : Ends, (∀ σ2 η2, Fr X.K pc ps H0 Bc η2 σ2 H2 S' → Stp pc (Own Bc η' σ') H' (Own Bc η2 σ2) H2 → After X.K pc ps H0 Bc (Own Bc η2 σ2) H2 D2 r2) → gD X.K pc ps gt x σ' H2 fun σ2 H2 => tSt X.K pc ps (denSs Φ G fuel ss) D2 σ2 H2 := by
            intro r2 h2 D2 k
            unfold forT at h2
            split at h2
            · rename_i η2 b1
              refine ⟨H0, Bc, η', S', d0, η2, F2, y3 _ p2.own, b1, fun σ2 F3 o3 _ => ?_⟩
              exact ⟨H0, Bc, η2, S', r2, bc0, F3, h2, k σ2 η2 F3 ((Stp.ext xy.1 p1.src xy.2).trans (Stp.sub o3.own))⟩
            · cases h2
          split at p3
          · rename_i η3 S3 t1
            refine turn t1 _ fun σ2 η2 F3 st σ3 H3 F4 st4 => ⟨η3, S3, F4, p2.trans (st.trans st4), p3⟩
          · rename_i η3 S3 t1
            refine turn t1 _ fun σ2 η2 F3 st σ3 H3 F4 st4 => ⟨η3, S3, F4, p2.trans (st.trans st4), p3⟩
          · rename_i η3 S3 t1
            cases p3
            exact turn t1 _ fun σ2 η2 F3 st σ3 H3 F4 st4 => a σ3 H3 F4 (st0.trans (p2.trans (st.trans st4)))
          · rename_i n1 n2 n3
            refine turn p3 _ fun σ2 η2 F3 st => ?_
            cases r with
            | nx η3 S3 => exact absurd p3 (n1 η3 S3)
            | ct η3 S3 => exact absurd p3 (n2 η3 S3)
            | bk η3 S3 => exact absurd p3 (n3 η3 S3)
            | rt d2 nw S3 => exact a
        · obtain ⟨η', S', p1, p2, p3⟩ := p
          rw [List.drop_length] at p3
          simp only [forF] at p3
          cases p3
          exact a σ' H' p1 (st0.trans p2)
      · cases hx
    · cases hd
  · cases hd
end
end Dv

/-! DvP: a, b = x, y. -/
namespace Dv
open PySem PySem.Spec PyProof.Rows L2

/-- the values of several expressions, the new ones at Ps -/
inductive PN (K : PySem.W.Frag) (pc : Addr) (H : Hp) (B : Addr → Prop) : List E → List V → List D → List Addr → Prop
  | nil : PN K pc H B [] [] [] []
  | new {e : E} {es : List E} {p : Addr} {vs : List V} {d : D} {ds : List D} {Ps : List Addr} : isNew e d = true → RpT K pc H B (.ref p) d → PN K pc H B es vs ds Ps → p ∉ Ps → PN K pc H B (e :: es) (.ref p :: vs) (d :: ds) (p :: Ps)
  | old {e : E} {es : List E} {v : V} {vs : List V} {d : D} {ds : List D} {Ps : List Addr} : isNew e d = false → Rp K pc H B v d → PN K pc H B es vs ds Ps → PN K pc H B (e :: es) (v :: vs) (d :: ds) Ps
section
variable {K : PySem.W.Frag} {pc ps : Addr} {H0 : Hp} {Bc B B' : Addr → Prop} {η : Dv.Env} {σ : Sg} {H H' : Hp} {S S' : Sc}
theorem PN.weak (k : ∀ a, B' a → B a) : ∀ {es : List E} {vs : List V} {ds : List D} {Ps : List Addr}, PN K pc H B es vs ds Ps → PN K pc H B' es vs ds Ps
  | _, _, _, _, .nil => .nil
  | _, _, _, _, .new h r t n => .new h (r.weak fun a _ _ z => k a z) (PN.weak k t) n
  | _, _, _, _, .old h r t => .old h (r.weak fun a _ _ z => k a z) (PN.weak k t)
theorem PN.ext (x : Ext pc H H') (s : Src pc ps H S) : ∀ {es : List E} {vs : List V} {ds : List D} {Ps : List Addr}, PN K pc H B es vs ds Ps → PN K pc H' B es vs ds Ps
  | _, _, _, _, .nil => .nil
  | _, _, _, _, .new h r t n => .new h (r.ext x s) (PN.ext x s t) n
  | _, _, _, _, .old h r t => .old h (r.keep (x.keep s)) (PN.ext x s t)
theorem PN.len : ∀ {es : List E} {vs : List V} {ds : List D} {Ps : List Addr}, PN K pc H B es vs ds Ps → es.length = vs.length ∧ es.length = ds.length
  | _, _, _, _, .nil => ⟨rfl, rfl⟩
  | _, _, _, _, .new _ _ t _ => ⟨congrArg (· + 1) (PN.len t).1, congrArg (· + 1) (PN.len t).2⟩
  | _, _, _, _, .old _ _ t => ⟨congrArg (· + 1) (PN.len t).1, congrArg (· + 1) (PN.len t).2⟩
theorem Fr.congr (h : ∀ a, Bc a ↔ B a) (F : Fr K pc ps H0 Bc η σ H S) : Fr K pc ps H0 B η σ H S := by
  have e : Bc = B := funext fun a => propext (h a)
  rw [← e]; exact F
/-- an object of another's becomes a slot's own -/
theorem Fr.bindNew {i : Nat} {p : Addr} {d : D} (F : Fr K pc ps H0 (fun a => Bc a ∨ a = p) η σ H S) (np : ¬ Own Bc η σ p) (h0 : H0 p = none) (hi : i < η.length) (r : RpT K pc H (fun a => Own Bc η σ a ∨ a = p) (.ref p) d) :
    Fr K pc ps H0 Bc (η.set i (.own d)) (σ.set i (some (.ref p))) H S ∧ ∀ a, Own Bc (η.set i (.own d)) (σ.set i (some (.ref p))) a → Own Bc η σ a ∨ a = p := by
  have iσ : i < σ.length := by rw [F.len]; exact hi
  have sub : ∀ a, Own Bc (η.set i (.own d)) (σ.set i (some (.ref p))) a → Own Bc η σ a ∨ a = p := fun a h => by
    rcases h with h | ⟨k, e, h1, h2⟩
    · exact .inl (.inl h)
    · rcases getset h1 with ⟨rfl, _⟩ | ⟨ne, h1⟩
      · rw [List.getElem?_set_self iσ] at h2
        cases h2; exact .inr rfl
      · rw [List.getElem?_set_ne ne] at h2
        exact .inl (.inr ⟨k, e, h1, h2⟩)
  have w : ∀ a, Own Bc (η.set i (.own d)) (σ.set i (some (.ref p))) a → Own (fun a => Bc a ∨ a = p) η σ a := fun a h => by
    rcases sub a h with (h | h) | h
    · exact .inl (.inl h)
    · exact .inr h
    · exact .inl (.inr h)
  have npc : p ≠ pc := fun z => F.npc (.inr z.symm)
  refine ⟨⟨F.ext, F.src0, F.src, fun a h => F.bc a (.inl h), fun h => F.nps (.inl h), fun h => F.npc (.inl h), by rw [List.length_set, List.length_set]; exact F.len, fun k' e h => ?_, fun k' e h => ?_, fun a b e f q h1 h2 h3 h4 => ?_⟩, sub⟩
  · rcases getset h with ⟨_, z⟩ | ⟨ne, h1⟩
    · cases z
    · obtain ⟨u, h2, h3⟩ := F.frz k' e h1
      exact ⟨u, by rw [List.getElem?_set_ne ne]; exact h2, h3.weak fun a _ _ z => w a z⟩
  · rcases getset h with ⟨rfl, z⟩ | ⟨ne, h1⟩
    · cases z
      exact ⟨p, by rw [List.getElem?_set_self iσ], h0, r.weak fun a _ _ z => sub a z, F.bc p (.inr rfl), r.list_dict npc⟩
    · obtain ⟨q, h2, h3, h4, h5⟩ := F.own k' e h1
      exact ⟨q, by rw [List.getElem?_set_ne ne]; exact h2, h3, h4.weak fun a _ _ z => w a z, h5⟩
  · rcases getset h1 with ⟨rfl, _⟩ | ⟨n1, h1⟩
    · rcases getset h2 with ⟨rfl, _⟩ | ⟨n2, h2⟩
      · rfl
      · rw [List.getElem?_set_self iσ] at h3
        cases h3
        rw [List.getElem?_set_ne n2] at h4
        exact absurd (.inr ⟨b, f, h2, h4⟩) np
    · rcases getset h2 with ⟨rfl, _⟩ | ⟨n2, h2⟩
      · rw [List.getElem?_set_self iσ] at h4
        cases h4
        rw [List.getElem?_set_ne n1] at h3
        exact absurd (.inr ⟨a, e, h1, h3⟩) np
      · rw [List.getElem?_set_ne n1] at h3
        rw [List.getElem?_set_ne n2] at h4
        exact F.inj a b e f q h1 h2 h3 h4
/-- the slots, set one after another -/
def setV : List Nat → List V → Sg → Sg
  | i :: is, v :: vs, σ => setV is vs (σ.set i (some v))
  | _, _, σ => σ
theorem Fr.setAll : ∀ {is : List Nat} {es : List E} {vs : List V} {ds : List D} {Ps : List Addr} {η : Dv.Env} {σ : Sg}, is.length = es.length → (∀ i ∈ is, i < η.length) → Fr K pc ps H0 (fun a => Bc a ∨ a ∈ Ps) η σ H S → PN K pc H (fun a => Own Bc η σ a ∨ a ∈ Ps) es vs ds Ps → (∀ p ∈ Ps, H0 p = none ∧ ¬ Own Bc η σ p) →
    Fr K pc ps H0 Bc (Dv.setAll is es ds η) (setV is vs σ) H S ∧ ∀ a, Own Bc (Dv.setAll is es ds η) (setV is vs σ) a → Own Bc η σ a ∨ a ∈ Ps
  | [], [], _, _, _, η, σ, _, _, F, pn, _ => by
    cases pn
    have e : setV [] [] σ = σ := rfl
    have e2 : Dv.setAll [] [] [] η = η := rfl
    rw [e, e2]
    exact ⟨F.congr fun a => by simp, fun a z => .inl z⟩
  | i :: is, e :: es, _, _, Ps0, η, σ, hl, hi, F, pn, h0 => by
   cases pn with
   | @new _ _ p vs d ds Ps hn r t np =>
    have e1 : Dv.setAll (i :: is) (e :: es) (d :: ds) η = Dv.setAll is es ds (η.set i (mkSl e d)) := rfl
    have e2 : setV (i :: is) (V.ref p :: vs) σ = setV is vs (σ.set i (some (.ref p))) := rfl
    rw [e1, e2]
    rw [own_own (η := η) hn]
    have hp := h0 p List.mem_cons_self
    have F1 : Fr K pc ps H0 (fun a => (Bc a ∨ a ∈ Ps) ∨ a = p) η σ H S := F.congr fun a => by
      simp only [List.mem_cons]
      constructor
      · rintro (h | h | h) <;> simp [h]
      · rintro ((h | h) | h) <;> simp [h]
    have no : ¬ Own (fun a => Bc a ∨ a ∈ Ps) η σ p := fun z => by
      rcases z with (z | z) | z
      · exact hp.2 (.inl z)
      · exact np z
      · exact hp.2 (.inr z)
    obtain ⟨F2, sub⟩ := F1.bindNew no hp.1 (hi i List.mem_cons_self) (r.weak fun a _ _ z => by
      rcases z with ((z | z) | z) | z
      · exact .inl (.inl z)
      · exact .inr (List.mem_cons_of_mem _ z)
      · exact .inl (.inr z)
      · rw [z]; exact .inr List.mem_cons_self)
    have subB : ∀ a, Own Bc (η.set i (.own d)) (σ.set i (some (.ref p))) a → Own Bc η σ a ∨ a = p := fun a z => by
      rcases z with z | ⟨k, e', h1, h2⟩
      · exact .inl (.inl z)
      · rcases sub a (.inr ⟨k, e', h1, h2⟩) with ((z | z) | z) | z
        · exact .inl (.inl z)
        · exfalso
          -- a fresh one is no slot's
          rcases getset h1 with ⟨rfl, _⟩ | ⟨ne, h1⟩
          · rw [List.getElem?_set_self (by rw [F.len]; exact hi i List.mem_cons_self)] at h2
            cases h2
            exact np z
          · rw [List.getElem?_set_ne ne] at h2
            exact (h0 a (List.mem_cons_of_mem _ z)).2 (.inr ⟨k, e', h1, h2⟩)
        · exact .inl (.inr z)
        · exact .inr z
    obtain ⟨F3, sub3⟩ := Fr.setAll (by simpa using hl) (fun j hj => by rw [List.length_set]; exact hi j (List.mem_cons_of_mem _ hj)) F2 (t.weak fun a z => by
      rcases z with z | z
      · rcases subB a z with z | z
        · exact .inl z
        · rw [z]; exact .inr List.mem_cons_self
      · exact .inr (List.mem_cons_of_mem _ z)) (fun q hq => ⟨(h0 q (List.mem_cons_of_mem _ hq)).1, fun z => by
        rcases subB q z with z | z
        · exact (h0 q (List.mem_cons_of_mem _ hq)).2 z
        · exact np (z ▸ hq)⟩)
    refine ⟨F3, fun a z => ?_⟩
    rcases sub3 a z with z | z
    · rcases subB a z with z | z
      · exact .inl z
      · rw [z]; exact .inr List.mem_cons_self
    · exact .inr (List.mem_cons_of_mem _ z)
   | @old _ _ v vs d ds Ps hn r t =>
    have e1 : Dv.setAll (i :: is) (e :: es) (d :: ds) η = Dv.setAll is es ds (η.set i (mkSl e d)) := rfl
    have e2 : setV (i :: is) (v :: vs) σ = setV is vs (σ.set i (some v)) := rfl
    rw [e1, e2]
    rw [own_frz (η := η) hn]
    have F2 := F.set (r.weak fun a _ _ z => by
      rcases z with (z | z) | z
      · exact .inl (.inl z)
      · exact .inr z
      · exact .inl (.inr z)) (hi i List.mem_cons_self)
    obtain ⟨F3, sub3⟩ := Fr.setAll (by simpa using hl) (fun j hj => by rw [List.length_set]; exact hi j (List.mem_cons_of_mem _ hj)) F2 (t.weak fun a z => by
      rcases z with z | z
      · exact .inl (own_set a z)
      · exact .inr z) (fun q hq => ⟨(h0 q hq).1, fun z => (h0 q hq).2 (own_set q z)⟩)
    refine ⟨F3, fun a z => ?_⟩
    rcases sub3 a z with z | z
    · exact .inl (own_set a z)
    · exact .inr z
  | [], _ :: _, _, _, _, _, _, hl, _, _, _, _ => by cases hl
  | _ :: _, [], _, _, _, _, _, hl, _, _, _, _ => by cases hl
end
section
variable {X : Cx} {pc ps : Addr} {Φ : Callee} {G : Str → Option D} {c : Sco} {fuel : Nat} {pos p : Pos}
def tPN (K : PySem.W.Frag) (pc ps : Addr) (Φ : Callee) (G : Str → Option D) (ts : List E) : TA := fun σ H Q => ∃ H0 Bc η S ds S', Fr K pc ps H0 Bc η σ H S ∧ denL Φ G ts η S = some (ds, S') ∧
  ∀ vs H' Ps, Ext pc H H' → Fr K pc ps H0 (fun a => Bc a ∨ a ∈ Ps) η σ H' S' → PN K pc H' (fun a => Own Bc η σ a ∨ a ∈ Ps) ts vs ds Ps → (∀ p ∈ Ps, H p = none) → Q vs H'
theorem pa_pn : ∀ {es : List Expr} {ts : List E}, es.all notStar = true → Paired (SE X pc ps Φ G) es ts → PA X es (tPN X.K pc ps Φ G ts)
  | _, _, _, .nil => ⟨fun p pins s σ H Q I h => by
    obtain ⟨H0, Bc, η, S, ds, S', F, hd, q⟩ := h
    obtain ⟨rfl, rfl⟩ := denL_nil hd
    exact pa_nil.run p pins s σ H Q I (q [] H [] Ext.refl (F.congr fun a => by simp) .nil fun p hp => by cases hp)⟩
  | _, _, hs, .cons (b := t) h tl => by
    simp only [List.all_cons, Bool.and_eq_true] at hs
    refine (pa_cons h.pe (pa_pn hs.2 tl) (star_of hs.1)).imp fun σ H Q q => ?_
    obtain ⟨H0, Bc, η, S, ds, S', F, hd, q⟩ := q
    obtain ⟨x, S1, ys, h1, h2, rfl⟩ := denL_cons hd
    refine ⟨H0, Bc, η, S, x, S1, F, h1, fun v H1 g1 => ?_⟩
    cases hn : isNew t x with
    | true =>
      obtain ⟨p, rfl, hp, rp, ⟨op, ep⟩⟩ := g1.new hn
      have F1 : Fr X.K pc ps H0 (fun a => Bc a ∨ a = p) η σ H1 S1 := F.add hp g1.ext g1.src ep
      refine ⟨H0, _, η, S1, ys, S', F1, h2, fun vs H2 Ps x2 F2 pn hps => ?_⟩
      have ne : p ∉ Ps := fun z => by
        have := hps p z
        rw [ep] at this; cases this
      refine q (.ref p :: vs) H2 (p :: Ps) (g1.ext.trans x2) (F2.congr fun a => by
        simp only [List.mem_cons]
        constructor
        · rintro ((h | h) | h) <;> simp [h]
        · rintro (h | h | h) <;> simp [h]) (.new hn ?_ (pn.weak fun a z => ?_) ne) fun p' hp' => ?_
      · refine (rp.weak (B' := fun a => Own Bc η σ a ∨ a ∈ p :: Ps) fun a o e z => ?_).ext x2 g1.src
        rcases z with z | z
        · exact .inl z
        · rcases List.mem_cons.mp z with z | z
          · exact .inr z
          · rw [hps a z] at e; cases e
      · rcases z with z | z
        · rcases z with z | z
          · exact .inl (.inl (.inl z))
          · exact .inl (.inr z)
        · rcases List.mem_cons.mp z with z | z
          · exact .inl (.inl (.inr z))
          · exact .inr z
      · rcases List.mem_cons.mp hp' with z | z
        · rw [z]; exact hp
        · exact g1.ext.none g1.src (hps p' z)
    | false =>
      have F1 := F.step g1.ext g1.src
      refine ⟨H0, Bc, η, S1, ys, S', F1, h2, fun vs H2 Ps x2 F2 pn hps => ?_⟩
      refine q (v :: vs) H2 Ps (g1.ext.trans x2) F2 (.old hn ?_ pn) fun p' hp' => g1.ext.none g1.src (hps p' hp')
      refine (g1.rp.weak (B' := fun a => Own Bc η σ a ∨ a ∈ Ps) fun a o e z => ?_).keep (x2.keep g1.src)
      rcases z with z | z
      · exact z
      · rw [hps a z] at e; cases e
/-- behind the stores -/
theorem par_end {is : List Nat} {ts : List E} {D : Ends} {σ : Sg} {H H1 : Hp} {H0 : Hp} {Bc : Addr → Prop} {η : Dv.Env} {S S1 : Sc} {ds : List Dv.D} {r : Res} {vs : List V} {Ps : List Addr} (hl : is.length = ts.length) (hi : ∀ i ∈ is, i < η.length) (F : Fr X.K pc ps H0 Bc η σ H S)
    (a : After X.K pc ps H0 Bc (Own Bc η σ) H D (.nx (Dv.setAll is ts ds η) S1)) (x : Ext pc H H1) (F1 : Fr X.K pc ps H0 (fun a => Bc a ∨ a ∈ Ps) η σ H1 S1) (pn : PN X.K pc H1 (fun a => Own Bc η σ a ∨ a ∈ Ps) ts vs ds Ps) (hps : ∀ p ∈ Ps, H p = none) : D.nx (setV is vs σ) H1 := by
  have no : ∀ p ∈ Ps, H0 p = none ∧ ¬ Own Bc η σ p := fun p hp => ⟨F.ext.none F.src (hps p hp), fun z => by
    obtain ⟨o, e⟩ := F.trk z
    rw [hps p hp] at e; cases e⟩
  obtain ⟨F2, sub⟩ := Fr.setAll hl hi F1 pn no
  refine a _ _ F2 ⟨x.keep F.src, fun a o e z => ?_, (Stp.ext (B := Own Bc η σ) x F.src F1.src).trk⟩
  rcases sub a z with z | z
  · exact z
  · rw [hps a z] at e; cases e
theorem den_par {is : List Nat} {ts : List E} {η : Dv.Env} {S : Sc} {r : Res} (h : denS Φ G fuel (.par is ts) η S = some r) : ∃ ds S1, denL Φ G ts η S = some (ds, S1) ∧ is.length = ts.length ∧ is.Nodup ∧ (∀ i ∈ is, i < η.length) ∧ r = .nx (Dv.setAll is ts ds η) S1 := by
  simp only [denS] at h
  split at h
  · rename_i ds S1 h1
    split at h
    · rename_i h2
      cases h
      exact ⟨ds, S1, h1, h2.1, h2.2.1, h2.2.2, rfl⟩
    · cases h
  · cases h
theorem ps_parE2 (g : Good X pc ps Φ G c) {i j : Nat} {x y : Str} {a b : Expr} {ta tb : E} {px py pt pt2 : Pos} {kt k2 : Nat} (hi : X.N[i]? = some x) (hj : X.N[j]? = some y) (hij : i ≠ j) (hx : X.env.scope.names.lookup x = some .local) (hy : X.env.scope.names.lookup y = some .local)
    (hw : swappedStores [.Tuple [.Name x px, .Name y py] kt pt] (.Tuple [a, b] k2 pt2) X.env = pure (some [x, y])) (hs : [a, b].all notStar = true) (h : Paired (SE X pc ps Φ G) [a, b] [ta, tb]) :
    PS X (.Assign [.Tuple [.Name x px, .Name y py] kt pt] (.Tuple [a, b] k2 pt2) pos) (tSt X.K pc ps (denS Φ G fuel (.par [i, j] [ta, tb]))) := by
  refine (ps_par g.calm g.nodup hi hj hij hx hy (pa_pn hs h) hw).imp fun D σ H q => ?_
  obtain ⟨H0, Bc, η, S, r, bc0, F, hd, af⟩ := q
  obtain ⟨ds, S1, h1, h2, _, h4, rfl⟩ := den_par hd
  refine ⟨H0, Bc, η, S, ds, S1, F, h1, fun vs H1 Ps x1 F1 pn hps => ?_⟩
  have l := pn.len.1
  rcases vs with _ | ⟨v, _ | ⟨w, _ | ⟨_, _⟩⟩⟩
  · cases l
  · cases l
  · exact ⟨v, w, rfl, par_end (is := [i, j]) (r := .nx η S) h2 h4 F af x1 F1 pn hps⟩
  · simp at l
theorem ps_parE3 (g : Good X pc ps Φ G c) {i j l : Nat} {x y z : Str} {a b d : Expr} {ta tb td : E} {px py pz pt pt2 : Pos} {kt k2 : Nat} (hi : X.N[i]? = some x) (hj : X.N[j]? = some y) (hl : X.N[l]? = some z) (hij : i ≠ j) (hil : i ≠ l) (hjl : j ≠ l) (hx : X.env.scope.names.lookup x = some .local) (hy : X.env.scope.names.lookup y = some .local) (hz : X.env.scope.names.lookup z = some .local)
    (hw : swappedStores [.Tuple [.Name x px, .Name y py, .Name z pz] kt pt] (.Tuple [a, b, d] k2 pt2) X.env = pure (some [x, y, z])) (hs : [a, b, d].all notStar = true) (h : Paired (SE X pc ps Φ G) [a, b, d] [ta, tb, td]) :
    PS X (.Assign [.Tuple [.Name x px, .Name y py, .Name z pz] kt pt] (.Tuple [a, b, d] k2 pt2) pos) (tSt X.K pc ps (denS Φ G fuel (.par [i, j, l] [ta, tb, td]))) := by
  refine (ps_par3 g.calm g.nodup hi hj hl hij hil hjl hx hy hz (pa_pn hs h) hw).imp fun D σ H q => ?_
  obtain ⟨H0, Bc, η, S, r, bc0, F, hd, af⟩ := q
  obtain ⟨ds, S1, h1, h2, _, h4, rfl⟩ := den_par hd
  refine ⟨H0, Bc, η, S, ds, S1, F, h1, fun vs H1 Ps x1 F1 pn hps => ?_⟩
  have le := pn.len.1
  rcases vs with _ | ⟨u, _ | ⟨v, _ | ⟨w, _ | ⟨_, _⟩⟩⟩⟩
  · cases le
  · cases le
  · simp at le
  · exact ⟨u, v, w, rfl, par_end (is := [i, j, l]) (r := .nx η S) h2 h4 F af x1 F1 pn hps⟩
  · simp at le
/-- .. through the tuple itself -/
theorem ps_parN (g : Good X pc ps Φ G c) {is : List Nat} {ns es : List Expr} {ts : List E} {gt : TGs} {pt pt2 : Pos} {kt k2 : Nat} (hn : ns.all notStar = true) (hg : PGs X ns gt) (hgt : ∀ vs σ H Q, is.length = vs.length → Q (setV is vs σ) H → gt vs σ H Q)
    (hw : swappedStores [.Tuple ns kt pt] (.Tuple es k2 pt2) X.env = pure none) (hs : es.all notStar = true) (h : Paired (SE X pc ps Φ G) es ts) (hle : ns.length = es.length) (hz : es.length ≤ 1000) :
    PS X (.Assign [.Tuple ns kt pt] (.Tuple es k2 pt2) pos) (tSt X.K pc ps (denS Φ G fuel (.par is ts))) := by
  obtain ⟨z1, z2⟩ := asg_all (env := X.env) hn
  refine (ps_asg (pe_tupF (pa_pn hs h)) (pg_tup g.calm hg z2 z1) (by rfl) hw (by rfl)).imp fun D σ H q => ?_
  obtain ⟨H0, Bc, η, S, r, bc0, F, hd, af⟩ := q
  obtain ⟨ds, S1, h1, h2, _, h4, rfl⟩ := den_par hd
  refine ⟨H0, Bc, η, S, ds, S1, F, h1, fun vs H1 Ps x1 F1 pn hps => ?_⟩
  have le := pn.len.1
  have lt := Paired.length h
  refine ⟨by rw [sizeLine_eq]; omega, fun q o hq ho => ⟨q, vs, rfl, .inl (.inr ⟨o, upd_same⟩), by omega, hgt _ _ _ _ (by omega) ?_⟩⟩
  have x2 : Ext pc H1 (upd H1 q (.frz o (.tup vs))) := Ext.new hq
  have F2 := F1.step x2 (F1.src.new hq)
  exact par_end (r := .nx η S) h2 h4 F af (x1.trans x2) F2 (pn.ext x2 F1.src) hps
theorem sw_some2 {env : PySem.Env} {x y : Str} {px py pt pt2 : Pos} {kt k2 : Nat} {a b : Expr} (hk : env.scope.kind = .function) (hx : env.scope.names.lookup x = some .local) (hy : env.scope.names.lookup y = some .local) (hl : (py.line == px.line) = true) (hn : x ≠ y) (ha : notStar a = true) (hb : notStar b = true)
    (hf : [a, b].all (foldedForSure 8) = false) (hc : [a, b].all (constantsAlone 8) = false) : swappedStores [.Tuple [.Name x px, .Name y py] kt pt] (.Tuple [a, b] k2 pt2) env = pure (some [x, y]) := by
  have kx : env.kindOf x = some .local := hx
  have ky : env.kindOf y = some .local := hy
  have hbk : env.blockKind = .function := by unfold Env.blockKind; rw [hk]; rfl
  have hl' : py.line = px.line := by simpa using hl
  unfold swappedStores
  simp only [hbk, hf, hc, List.filterMap_cons, List.filterMap_nil, kx, ky, List.head?_cons, Option.map_some, Option.getD_some, Expr.pos, List.length_cons, List.length_nil, hl', beq_self_eq_true, Bool.and_self, if_true]
  have hed : [x, y].eraseDups = [x, y] := by
    simp [List.eraseDups_cons, Ne.symm hn]
  simp [hed]
  intro h
  exfalso
  rcases h with h | h
  · cases a <;> first | (cases ha; done) | cases h
  · cases b <;> first | (cases hb; done) | cases h
theorem sw_some3 {env : PySem.Env} {x y z : Str} {px py pz pt pt2 : Pos} {kt k2 : Nat} {a b d : Expr} (hk : env.scope.kind = .function) (hx : env.scope.names.lookup x = some .local) (hy : env.scope.names.lookup y = some .local) (hz : env.scope.names.lookup z = some .local) (hl : (py.line == px.line) = true) (hl2 : (pz.line == px.line) = true) (hn : x ≠ y) (hn2 : x ≠ z) (hn3 : y ≠ z) (ha : notStar a = true) (hb : notStar b = true) (hd : notStar d = true)
    (hf : [a, b, d].all (foldedForSure 8) = false) (hc : [a, b, d].all (constantsAlone 8) = false) : swappedStores [.Tuple [.Name x px, .Name y py, .Name z pz] kt pt] (.Tuple [a, b, d] k2 pt2) env = pure (some [x, y, z]) := by
  have kx : env.kindOf x = some .local := hx
  have ky : env.kindOf y = some .local := hy
  have kz : env.kindOf z = some .local := hz
  have hbk : env.blockKind = .function := by unfold Env.blockKind; rw [hk]; rfl
  have hl' : py.line = px.line := by simpa using hl
  have hl2' : pz.line = px.line := by simpa using hl2
  unfold swappedStores
  simp only [hbk, hf, hc, List.filterMap_cons, List.filterMap_nil, kx, ky, kz, List.head?_cons, Option.map_some, Option.getD_some, Expr.pos, List.length_cons, List.length_nil, hl', hl2', beq_self_eq_true, Bool.and_self, if_true]
  have hed : [x, y, z].eraseDups = [x, y, z] := by
    simp [List.eraseDups_cons, Ne.symm hn, Ne.symm hn2, Ne.symm hn3]
  simp [hed]
  intro h
  exfalso
  rcases h with h | h | h
  · cases a <;> first | (cases ha; done) | cases h
  · cases b <;> first | (cases hb; done) | cases h
  · cases d <;> first | (cases hd; done) | cases h
theorem sw_none {env : PySem.Env} {ns es : List Expr} {pt pt2 : Pos} {kt k2 : Nat} (hk : env.scope.kind = .function) (h : ∃ x p, Expr.Name x p ∈ ns ∧ env.scope.names.lookup x ≠ some .local) : swappedStores [.Tuple ns kt pt] (.Tuple es k2 pt2) env = pure none := by
  obtain ⟨x, p, hm, hx⟩ := h
  have hbk : env.blockKind = .function := by unfold Env.blockKind; rw [hk]; rfl
  have lt : ∀ (f : Expr → Option Str), f (.Name x p) = none → (ns.filterMap f).length ≠ ns.length := by
    intro f hf
    have : ∀ l : List Expr, Expr.Name x p ∈ l → (l.filterMap f).length < l.length := by
      intro l
      induction l with
      | nil => intro h; cases h
      | cons e l ih =>
        intro h
        have le := List.length_filterMap_le f l
        rcases List.mem_cons.mp h with h | h
        · rw [List.filterMap_cons, ← h, hf]
          simp only [List.length_cons]
          omega
        · have := ih h
          rw [List.filterMap_cons]
          split
          · simp only [List.length_cons]; omega
          · simp only [List.length_cons]; omega
    exact Nat.ne_of_lt (this ns hm)
  unfold swappedStores
  simp only [hbk]
  split
  · rfl
  split
  · rfl
  rw [if_pos]
  · have := lt (fun | .Name id pos => if env.kindOf id == some .local && pos.line == (ns.head?.map (·.pos.line)).getD 0 then some id else none | _ => none) (by
      have : (env.kindOf x == some .local) = false := by
        have e : env.kindOf x = env.scope.names.lookup x := rfl
        rw [e]
        simpa using hx
      simp [this])
    simp only [bne_iff_ne, ne_eq, Bool.or_eq_true]
    exact .inl this
end
end Dv

/-! Dv28: while; every compiled statement answers as it means. -/
namespace Dv
open PySem PySem.Spec PyProof.Rows L2

section
variable {X : Cx} {pc ps : Addr} {Φ : Callee} {G : Str → Option D} {c : Sco} {fuel : Nat} {pos p : Pos}
/-- a while's test -/
def whT (Φ : Callee) (G : Str → Option D) (t : E) (η : Dv.Env) (S : Sc) : Option (Bool × Sc) := match denT Φ G t η S with
  | some (x, S1) => (truD x).map (·, S1)
  | none => none
theorem ps_whileE' (g : Good X pc ps Φ G c) {e : Expr} {t : E} {body : List Stmt} {ss : List Stm} (h : ST X pc ps Φ G e t) (hb : PSs X body (tSt X.K pc ps (denSs Φ G fuel ss))) :
    PS X (.While e body [] pos) (tSt X.K pc ps (denS Φ G fuel (.while_ t ss))) := by
  have hp : PassesOwn (model X.prog X.w) X.A X.env X.xe := by rw [g.xe]; exact PassesOwn.never
  refine (ps_while hp h.pt hb).imp fun D σ H q => ?_
  obtain ⟨H0, Bc, η, S, r, bc0, F, hd, a⟩ := q
  have hd' : whileF (whT Φ G t) (denSs Φ G fuel ss) fuel η S = some r := hd
  let W : Nat → L2.St → Hp → Prop := fun m σ' H' => ∃ η' S', Fr X.K pc ps H0 Bc η' σ' H' S' ∧ Stp pc (Own Bc η σ) H (Own Bc η' σ') H' ∧ whileF (whT Φ G t) (denSs Φ G fuel ss) m η' S' = some r
  refine ⟨W, ⟨fuel, η, S, F, Stp.refl, hd'⟩, fun m σ' H' w => ?_⟩
  obtain ⟨η', S', p1, p2, p3⟩ := w
  cases m with
  | zero => cases p3
  | succ m =>
    simp only [whileF] at p3
    split at p3
    · rename_i S1 h1
      unfold whT at h1
      split at h1
      · rename_i x S2 h2
        obtain ⟨b, h3, h4⟩ := Option.map_eq_some_iff.mp h1
        cases h4
        cases p3
        refine ⟨H0, Bc, η', S', x, S1, false, p1, h2, h3, fun H1 x1 s1 => ?_⟩
        simp only [Bool.false_eq_true, reduceIte]
        exact a σ' H1 (p1.step x1 s1) (p2.trans (Stp.ext x1 p1.src s1))
      · cases h1
    · rename_i S1 h1
      unfold whT at h1
      split at h1
      · rename_i x S2 h2
        obtain ⟨b, h3, h4⟩ := Option.map_eq_some_iff.mp h1
        cases h4
        refine ⟨H0, Bc, η', S', x, S1, true, p1, h2, h3, fun H1 x1 s1 => ?_⟩
        simp only [reduceIte]
        refine ⟨W m, fun σ3 H3 w => ⟨m, Nat.lt_succ_self _, w⟩, ?_⟩
        have F1 := p1.step x1 s1
        have st1 := p2.trans (Stp.ext x1 p1.src s1)
        split at p3
        · rename_i η3 S3 t1
          exact ⟨H0, Bc, η', S1, _, bc0, F1, t1, fun σ3 H3 F4 st4 => ⟨η3, S3, F4, st1.trans st4, p3⟩⟩
        · rename_i η3 S3 t1
          exact ⟨H0, Bc, η', S1, _, bc0, F1, t1, fun σ3 H3 F4 st4 => ⟨η3, S3, F4, st1.trans st4, p3⟩⟩
        · rename_i η3 S3 t1
          cases p3
          exact ⟨H0, Bc, η', S1, _, bc0, F1, t1, fun σ3 H3 F4 st4 => a σ3 H3 F4 (st1.trans st4)⟩
        · rename_i n1 n2 n3
          refine ⟨H0, Bc, η', S1, r, bc0, F1, p3, ?_⟩
          cases r with
          | nx η3 S3 => exact absurd p3 (n1 η3 S3)
          | ct η3 S3 => exact absurd p3 (n2 η3 S3)
          | bk η3 S3 => exact absurd p3 (n3 η3 S3)
          | rt d2 nw S3 => exact a
      · cases h1
    · cases p3
theorem ps_cont : PS X (.Continue pos) (tSt X.K pc ps (denS Φ G fuel .cont)) := ps_continue.imp fun D σ H q => by
  obtain ⟨H0, Bc, η, S, r, bc0, F, hd, a⟩ := q
  simp only [denS] at hd
  cases hd
  exact a σ H F Stp.refl
theorem ps_brk : PS X (.Break pos) (tSt X.K pc ps (denS Φ G fuel .brk)) := ps_break.imp fun D σ H q => by
  obtain ⟨H0, Bc, η, S, r, bc0, F, hd, a⟩ := q
  simp only [denS] at hd
  cases hd
  exact a σ H F Stp.refl
theorem ps_pss : PS X (.Pass pos) (tSt X.K pc ps (denS Φ G fuel .pass)) := L2.ps_pass.imp fun D σ H q => by
  obtain ⟨H0, Bc, η, S, r, bc0, F, hd, a⟩ := q
  simp only [denS] at hd
  cases hd
  exact a σ H F Stp.refl
/-! ### all of them -/
theorem kind_of (g : Good X pc ps Φ G c) (h : kindF c = true) : X.env.scope.kind = .function := by
  rw [g.sc]
  unfold kindF at h
  split at h
  · assumption
  · cases h
theorem ne_place (g : Good X pc ps Φ G c) {x y : Str} {i j : Nat} (hi : place X.N x = some i) (hj : place X.N y = some j) (h : x ≠ y) : i ≠ j := fun z => by
  subst z
  have h1 := place_at hi
  have h2 := place_at hj
  rw [h1] at h2
  exact h (Option.some.inj h2)
theorem sound_par {n : Nat} (g : Good X pc ps Φ G c) {ns es : List Expr} {s : Stm} {pt pt2 : Pos} {kt k2 : Nat} (h : parC X.N n c ns es = some s) : PS X (.Assign [.Tuple ns kt pt] (.Tuple es k2 pt2) pos) (tSt X.K pc ps (denS Φ G fuel s)) := by
  have R : Rt pc ps Φ G X.N (cE X.N n) := sound_E X.N n
  have nm : ∀ {x : Str} {p : Pos}, notStar (.Name x p) = true := rfl
  unfold parC at h
  split at h
  · rename_i x px y py a b
    split at h
    · rename_i h0
      simp only [Bool.and_eq_true] at h0
      obtain ⟨⟨⟨hk, hx⟩, hy⟩, hs⟩ := h0
      obtain ⟨i, h1, h2⟩ := Option.bind_eq_some_iff.mp h
      obtain ⟨j, h3, h4⟩ := Option.bind_eq_some_iff.mp h2
      obtain ⟨ts, h5, h6⟩ := Option.bind_eq_some_iff.mp h4
      have hp := R.list g rfl h5
      have hk := kind_of g hk
      have hab : notStar a = true ∧ notStar b = true := by simpa using hs
      split at h6
      · rename_i hl
        simp only [Bool.and_eq_true, isLoc, decide_eq_true_eq] at hl
        split at h6
        · rename_i hc
          simp only [Bool.and_eq_true, decide_eq_true_eq, Bool.not_eq_true'] at hc
          cases h6
          obtain ⟨⟨⟨c1, c2⟩, c3⟩, c4⟩ := hc
          cases hp with
          | cons p1 hp => cases hp with
            | cons p2 hp =>
              cases hp
              exact ps_parE2 g (place_at h1) (place_at h3) (ne_place g h1 h3 c2) (by rw [g.sc]; exact hl.1) (by rw [g.sc]; exact hl.2) (sw_some2 hk (by rw [g.sc]; exact hl.1) (by rw [g.sc]; exact hl.2) c1 c2 hab.1 hab.2 c3 c4) hs (.cons p1 (.cons p2 .nil))
        · cases h6
      · rename_i hl
        cases h6
        obtain ⟨l1, l2⟩ := loc_of g hx
        obtain ⟨l3, l4⟩ := loc_of g hy
        have hw : ∃ z p, Expr.Name z p ∈ [Expr.Name x px, Expr.Name y py] ∧ X.env.scope.names.lookup z ≠ some .local := by
          by_cases e : c.sc.names.lookup x = some .local
          · refine ⟨y, py, by simp, fun e2 => hl ?_⟩
            rw [g.sc] at e2
            simp [isLoc, e, e2]
          · exact ⟨x, px, by simp, by rw [g.sc]; exact e⟩
        exact ps_parN (is := [i, j]) g (by rfl) (pgs_cons (pg_name g.nodup (place_at h1) l1 l2) (pgs_cons (pg_name g.nodup (place_at h3) l3 l4) pgs_nil)) (fun vs σ H Q hlen q => by
          rcases vs with _ | ⟨v, _ | ⟨w, _ | ⟨_, _⟩⟩⟩
          · cases hlen
          · cases hlen
          · exact ⟨v, [w], rfl, w, [], rfl, rfl, q⟩
          · simp at hlen) (sw_none hk hw) hs hp rfl (by simp)
    · cases h
  · rename_i x px y py z pz a b d
    split at h
    · rename_i h0
      simp only [Bool.and_eq_true] at h0
      obtain ⟨⟨⟨⟨hk, hx⟩, hy⟩, hz⟩, hs⟩ := h0
      obtain ⟨i, h1, h2⟩ := Option.bind_eq_some_iff.mp h
      obtain ⟨j, h3, h4⟩ := Option.bind_eq_some_iff.mp h2
      obtain ⟨l, h7, h8⟩ := Option.bind_eq_some_iff.mp h4
      obtain ⟨ts, h5, h6⟩ := Option.bind_eq_some_iff.mp h8
      have hp := R.list g rfl h5
      have hk := kind_of g hk
      have hab : notStar a = true ∧ notStar b = true ∧ notStar d = true := by simpa using hs
      split at h6
      · rename_i hl
        simp only [Bool.and_eq_true, isLoc, decide_eq_true_eq] at hl
        split at h6
        · rename_i hc
          simp only [Bool.and_eq_true, decide_eq_true_eq, Bool.not_eq_true'] at hc
          cases h6
          obtain ⟨⟨⟨⟨⟨⟨c1, c1'⟩, c2⟩, c2'⟩, c2''⟩, c3⟩, c4⟩ := hc
          cases hp with
          | cons p1 hp => cases hp with
            | cons p2 hp => cases hp with
              | cons p3 hp =>
                cases hp
                exact ps_parE3 g (place_at h1) (place_at h3) (place_at h7) (ne_place g h1 h3 c2) (ne_place g h1 h7 c2') (ne_place g h3 h7 c2'') (by rw [g.sc]; exact hl.1.1) (by rw [g.sc]; exact hl.1.2) (by rw [g.sc]; exact hl.2)
                  (sw_some3 hk (by rw [g.sc]; exact hl.1.1) (by rw [g.sc]; exact hl.1.2) (by rw [g.sc]; exact hl.2) c1 c1' c2 c2' c2'' hab.1 hab.2.1 hab.2.2 c3 c4) hs (.cons p1 (.cons p2 (.cons p3 .nil)))
        · cases h6
      · rename_i hl
        cases h6
        obtain ⟨l1, l2⟩ := loc_of g hx
        obtain ⟨l3, l4⟩ := loc_of g hy
        obtain ⟨l5, l6⟩ := loc_of g hz
        have hw : ∃ w p, Expr.Name w p ∈ [Expr.Name x px, Expr.Name y py, Expr.Name z pz] ∧ X.env.scope.names.lookup w ≠ some .local := by
          by_cases e : c.sc.names.lookup x = some .local
          · by_cases e2 : c.sc.names.lookup y = some .local
            · refine ⟨z, pz, by simp, fun e3 => hl ?_⟩
              rw [g.sc] at e3
              simp [isLoc, e, e2, e3]
            · exact ⟨y, py, by simp, by rw [g.sc]; exact e2⟩
          · exact ⟨x, px, by simp, by rw [g.sc]; exact e⟩
        exact ps_parN (is := [i, j, l]) g (by rfl) (pgs_cons (pg_name g.nodup (place_at h1) l1 l2) (pgs_cons (pg_name g.nodup (place_at h3) l3 l4) (pgs_cons (pg_name g.nodup (place_at h7) l5 l6) pgs_nil))) (fun vs σ H Q hlen q => by
          rcases vs with _ | ⟨u, _ | ⟨v, _ | ⟨w, _ | ⟨_, _⟩⟩⟩⟩
          · cases hlen
          · cases hlen
          · simp at hlen
          · exact ⟨u, [v, w], rfl, v, [w], rfl, w, [], rfl, rfl, q⟩
          · simp at hlen) (sw_none hk hw) hs hp rfl (by simp)
    · cases h
  · cases h
theorem sound_asg (N : List Str) {n : Nat} (g : Good X pc ps Φ G c) (hN : X.N = N) {tg e : Expr} {s : Stm} (h : asgC N n c tg e = some s) : PS X (.Assign [tg] e pos) (tSt X.K pc ps (denS Φ G fuel s)) := by
  subst hN
  have R : Rt pc ps Φ G X.N (cE X.N n) := sound_E X.N n
  unfold asgC at h
  split at h
  · rename_i x px
    split at h
    · rename_i h0
      simp only [Bool.and_eq_true] at h0
      obtain ⟨i, h1, h2⟩ := Option.bind_eq_some_iff.mp h
      have plain : ∀ {t : E}, cE X.N n c e = some t → s = .set i t → PS X (.Assign [.Name x px] e pos) (tSt X.K pc ps (denS Φ G fuel s)) := by
        intro t ht es
        subst es
        by_cases hc : isComp e = true
        · cases e with
          | ListComp elt gs scope lp =>
            have sc : SC X pc ps Φ G c (.ListComp elt gs scope lp) t := by
              cases n with
              | zero => cases ht
              | succ n =>
                rcases gs with _ | ⟨⟨tg, iter, ifs, a⟩, _ | ⟨⟨tg2, iter2, ifs2, b⟩, l⟩⟩
                · simp [cE] at ht
                · by_cases ha : a = 0
                  · subst ha
                    exact sound_lc (sound_E X.N n) g rfl (by simpa only [cE] using ht)
                  · exfalso
                    unfold cE at ht
                    split at ht <;> simp_all
                · by_cases ha : a = 0 ∧ b = 0 ∧ ifs = [] ∧ ifs2 = [] ∧ l = []
                  · obtain ⟨rfl, rfl, rfl, rfl, rfl⟩ := ha
                    exact sound_lc2 (sound_E X.N n) g rfl (by simpa only [cE] using ht)
                  · exfalso
                    unfold cE at ht
                    split at ht <;> simp_all
            have h02 := h0.2
            simp only [compOk, Bool.or_eq_true, Bool.not_eq_true', decide_eq_false_iff_not] at h02
            rcases h02 with h02 | h02
            · exact (sc.set i x px pos (place_at h1) h02).imp fun D σ H q => set_step q
            · obtain ⟨l1, l2⟩ := loc_of g h0.1
              refine (ps_set g.nodup (place_at h1) l1 sc.pe ?_ l2).imp fun D σ H q => set_step q
              have kx : (X.env.kindOf x == some .local) = false := by
                have e : X.env.kindOf x = c.sc.names.lookup x := by
                  show X.env.scope.names.lookup x = _
                  rw [g.sc]
                rw [e]
                simpa using h02
              unfold swapsWith
              simp only [kx, Bool.and_false, Bool.false_and]
          | SetComp _ _ _ _ => cases h0.2
          | DictComp _ _ _ _ _ => cases h0.2
          | _ => cases hc
        · exact ps_setE g h0.1 (by simpa using hc) h1 (R X c _ _ g rfl ht)
      split at h2
      · rename_i y py
        split at h2
        · rename_i hv
          simp only [Bool.and_eq_true] at hv
          obtain ⟨j, h3, rfl⟩ := Option.map_eq_some_iff.mp h2
          exact ps_alias g h0.1 h1 hv.1 hv.2 h3
        · obtain ⟨t, h3, h4⟩ := Option.map_eq_some_iff.mp h2
          exact plain h3 h4.symm
      · obtain ⟨t, h3, h4⟩ := Option.map_eq_some_iff.mp h2
        exact plain h3 h4.symm
    · cases h
  · rename_i x px k pt
    split at h
    · rename_i h0
      simp only [Bool.and_eq_true, Bool.not_eq_true'] at h0
      obtain ⟨i, h1, h2⟩ := Option.bind_eq_some_iff.mp h
      obtain ⟨tk, h3, h4⟩ := Option.bind_eq_some_iff.mp h2
      obtain ⟨t, h5, rfl⟩ := Option.map_eq_some_iff.mp h4
      exact ps_setIx g h0.1.1.1 h0.1.1.2 h1 h0.2 (R X c _ _ g rfl h3) (R X c _ _ g rfl h5) h0.1.2
    · cases h
  · rename_i ts k pt
    split at h
    · exact sound_par g h
    · split at h
      · cases h
      · rename_i h0
        simp only [Bool.or_eq_true, not_or, Bool.not_eq_true] at h0
        obtain ⟨gt, h1, h2⟩ := Option.bind_eq_some_iff.mp h
        obtain ⟨t, h3, rfl⟩ := Option.map_eq_some_iff.mp h2
        exact ps_unp g h0.1 h0.2 h1 (R X c _ _ g rfl h3)
  · cases h
theorem sound_S (N : List Str) : ∀ (n : Nat) (st : Stmt) (s : Stm), Good X pc ps Φ G c → X.N = N → cS N n c st = some s → PS X st (tSt X.K pc ps (denS Φ G fuel s))
  | 0, _, _, _, _, h => by cases h
  | n + 1, st, s, g, hN, h => by
    have R : Rt pc ps Φ G N (cE N n) := sound_E N n
    have L : ∀ {sts : List Stmt} {ss : List Stm}, sts.mapM (cS N n c) = some ss → PSs X sts (tSt X.K pc ps (denSs Φ G fuel ss)) := fun {sts ss} q => pss_of (L2.Paired.mapP (mapM_inv q) fun a b z => sound_S N n a b g hN z)
    unfold cS at h
    split at h
    · exact sound_asg N g hN h
    · rename_i x px op e p2
      split at h
      · rename_i h0
        obtain ⟨i, h1, h2⟩ := Option.bind_eq_some_iff.mp h
        obtain ⟨o, h3, h4⟩ := Option.bind_eq_some_iff.mp h2
        obtain ⟨t, h5, rfl⟩ := Option.map_eq_some_iff.mp h4
        exact ps_augE g h0 (by rw [hN]; exact h1) h3 (R X c _ _ g hN h5)
      · cases h
    · rename_i x px m ap e cp p2
      split at h
      · rename_i hl
        unfold exC at h
        split at h
        · rename_i h0
          simp only [Bool.and_eq_true] at h0
          obtain ⟨i, h1, h2⟩ := Option.bind_eq_some_iff.mp h
          split at h2
          · rename_i hm
            obtain ⟨t, h3, rfl⟩ := Option.map_eq_some_iff.mp h2
            exact ps_app g h0.1.1 h0.1.2 h0.2 (by rw [hN]; exact h1) hm hl (R X c _ _ g hN h3)
          · split at h2
            · rename_i hm
              obtain ⟨t, h3, rfl⟩ := Option.map_eq_some_iff.mp h2
              exact ps_ext g h0.1.1 h0.1.2 h0.2 (by rw [hN]; exact h1) hm hl (R.top g hN h3)
            · cases h2
        · cases h
      · cases h
    · obtain ⟨t, h1, h2⟩ := Option.bind_eq_some_iff.mp h
      obtain ⟨as, h3, h4⟩ := Option.bind_eq_some_iff.mp h2
      obtain ⟨bs, h5, rfl⟩ := Option.map_eq_some_iff.mp h4
      exact ps_ife (R.top g hN h1) (L h3) (L h5)
    · rename_i tg it body p2
      split at h
      · rename_i hs
        obtain ⟨gt, h1, h2⟩ := Option.bind_eq_some_iff.mp h
        obtain ⟨t, h3, h4⟩ := Option.bind_eq_some_iff.mp h2
        obtain ⟨ss, h5, rfl⟩ := Option.map_eq_some_iff.mp h4
        exact ps_forE' g hs (pg_tg g n tg gt (by rw [hN]; exact h1)) (sound_it R g hN (fun z => tg_tup h1 z) h3) (L h5)
      · cases h
    · obtain ⟨t, h1, h2⟩ := Option.bind_eq_some_iff.mp h
      obtain ⟨ss, h3, rfl⟩ := Option.map_eq_some_iff.mp h2
      exact ps_whileE' g (R.top g hN h1) (L h3)
    · rename_i e p2
      obtain ⟨t, h1, rfl⟩ := Option.map_eq_some_iff.mp h
      unfold topC at h1
      split at h1
      · rename_i x px
        split at h1
        · rename_i hx
          simp only [Bool.and_eq_true] at hx
          obtain ⟨i, h2, rfl⟩ := Option.map_eq_some_iff.mp h1
          exact ps_retO g hx.2 hx.1 (by rw [hN]; exact h2)
        · exact ps_retE (R X c _ _ g hN h1)
      · exact ps_retE (R X c _ _ g hN h1)
    · cases h; exact ps_cont
    · cases h; exact ps_brk
    · cases h; exact ps_pss
    · cases h; exact ps_none fun _ _ => by simp only [denS]
    · cases h
theorem sound_body (N : List Str) {n : Nat} {body : List Stmt} {ss : List Stm} (g : Good X pc ps Φ G c) (hN : X.N = N) (h : body.mapM (cS N n c) = some ss) : PSs X body (tSt X.K pc ps (denSs Φ G fuel ss)) :=
  pss_of (L2.Paired.mapP (mapM_inv h) fun a b z => sound_S N n a b g hN z)
end
end Dv

/-! Dv29: the program's defs keep their promises. -/
namespace Dv
open PySem PySem.Spec PyProof.Rows L2

/-- a def of the program: its slots' names, its parameters, its text, its compiled body -/
structure DI where
  nm : Str
  qual : Str
  N : List Str
  ps : List Str
  args : Arguments
  body : List Stmt
  scope : Scope
  code : List Stm
def DI.fd (d : DI) : FD := ⟨d.nm, d.ps.length, d.N.length, d.code⟩
/-- the checks of a def's text -/
structure DI.Ok (fns : List (Str × Nat)) (gcd : Bool) (d : DI) : Prop where
  sc : FnScope d.N d.ps d.scope
  code : d.body.mapM (cS d.N 40 ⟨d.scope, fun _ => true, fns, gcd⟩) = some d.code
/-- what is known of the module -/
structure Env1 (K : PySem.W.Frag) (mg : Str → Option Value) (pc : Addr) (G : Str → Option D) (fns : List (Str × Nat)) (gcd : Bool) (ds : List DI) : Prop where
  blt : ∀ x ∈ bltNames, mg x = none
  has : gcd = true → mg "gcd" = some (.builtin "math.gcd")
  glo : ∀ x d, G x = some d → ∃ v u, mg x = some u ∧ RelV v u ∧ ∀ H B, Rp K pc H B v d
  ok : ∀ d ∈ ds, d.Ok fns gcd
  fn : ∀ d ∈ ds, ∃ f fd, FunD K d.nm d.qual d.args d.body d.scope [] [] f fd ∧ mg d.nm = some (.ref f) ∧ Binds K fd d.ps []
  fns : ∀ f m, fns.lookup f = some m → ∃ d ∈ ds, d.nm = f ∧ d.ps.length = m
  find : ∀ d ∈ ds, (ds.map DI.fd).find? (fun fd => decide (fd.name = d.nm)) = some d.fd
section
variable {P : Program} {w : World} {K : PySem.W.Frag} {mg : Str → Option Value} {base : Heap} {pc ps : Addr} {G : Str → Option D} {fns : List (Str × Nat)} {gcd : Bool} {ds : List DI}
theorem Env1.good (e : Env1 K mg pc G fns gcd ds) {n : Nat} (ih : ∀ d ∈ ds, ∀ f fd, FunD K d.nm d.qual d.args d.body d.scope [] [] f fd → FnOk P w K mg base CX0 n f fd d.ps (spF K pc ps (run (ds.map DI.fd) G n) d.nm d.ps.length))
    {N : List Str} {qual : Str} {scope : Scope} {f : Addr} {cd : Value} {A : Around} {outer : List PySem.Env} {s : Shared} {H : Hp} {E : XK} (nd : N.Nodup) (hr : Room n (A.deeper (envOfC qual scope s.heap.objs.size f cd))) :
    Good (cxOf CX0 P w K mg base N qual scope f cd A outer s H E).nox pc ps (run (ds.map DI.fd) G n) G ⟨scope, fun _ => true, fns, gcd⟩ where
  calm := rfl
  nodup := nd
  sc := rfl
  fn := rfl
  units := by
    have h := hr.un
    show (A.deeper (envOfC qual scope s.heap.objs.size f cd)).units + 200 < cLine
    omega
  xe := rfl
  blt := e.blt
  gcd := e.has
  glo := e.glo
  fns := fun g m h => by
    obtain ⟨d, hd, rfl, rfl⟩ := e.fns g m h
    obtain ⟨a, fd, F, hm, hb⟩ := e.fn d hd
    exact ⟨n, a, fd, d.ps, ih d hd a fd F, hr, hm, F.kp, hb⟩
theorem start_fr {N : List Str} {Bc : Addr → Prop} {H : Hp} {S : Sc} {vs : List V} {es : List D} {fd : FD} (hs : fd.slots = N.length) (src : Src pc ps H S) (tr : ∀ a, Bc a → ∃ o, H a = some o) (h1 : ¬ Bc ps) (h2 : ¬ Bc pc) (r : RpAll K pc H Bc vs es) : Fr K pc ps H Bc (startE fd es) (L2.start N vs) H S := by
  have no : ∀ (i : Nat) (d : D), (startE fd es)[i]? ≠ some (.own d) := fun i d h => by
    unfold startE at h
    by_cases hi : i < (es.map Sl.frz).length
    · rw [List.getElem?_append_left hi, List.getElem?_map] at h
      obtain ⟨x, _, hx⟩ := Option.map_eq_some_iff.mp h
      cases hx
    · rw [List.getElem?_append_right (by omega)] at h
      have := List.mem_of_getElem? h
      rw [List.mem_replicate] at this
      cases this.2
  have ob : ∀ a, Own Bc (startE fd es) (L2.start N vs) a → Bc a := fun a h => by
    rcases h with h | ⟨i, d, h, _⟩
    · exact h
    · exact absurd h (no i d)
  refine ⟨Ext.refl, ⟨S, src⟩, src, tr, h1, h2, ?_, fun i d h => ?_, fun i d h => absurd h (no i d), fun i j d e p h => absurd h (no i d)⟩
  · unfold startE L2.start
    rw [List.length_append, List.length_append, List.length_map, List.length_map, List.length_replicate, List.length_replicate, hs, r.length]
  · unfold startE at h
    by_cases hi : i < (es.map Sl.frz).length
    · rw [List.getElem?_append_left hi, List.getElem?_map] at h
      obtain ⟨x, hx, hx2⟩ := Option.map_eq_some_iff.mp h
      cases hx2
      obtain ⟨v, hv, rv⟩ := r.get hx
      refine ⟨v, ?_, rv.weak fun a _ _ z => ob a z⟩
      unfold L2.start
      have hi' : i < (vs.map some).length := by
        rw [List.length_map, r.length]
        simpa using hi
      rw [List.getElem?_append_left hi', List.getElem?_map, hv]
      rfl
    · rw [List.getElem?_append_right (by omega)] at h
      have := List.mem_of_getElem? h
      rw [List.mem_replicate] at this
      cases this.2
/-- EVERY DEF KEEPS ITS PROMISE -/
theorem fns_ok (e : Env1 K mg pc G fns gcd ds) : ∀ n, ∀ d ∈ ds, ∀ f fd, FunD K d.nm d.qual d.args d.body d.scope [] [] f fd → FnOk P w K mg base CX0 n f fd d.ps (spF K pc ps (run (ds.map DI.fd) G n) d.nm d.ps.length)
  | 0 => fun d _ f fd F => ⟨fun vs H Q E h => by
      obtain ⟨_, _, _, _, _, _, h, _⟩ := h
      exact h, fun A outer s H args us vs Q E hr he hb hv h => by
      obtain ⟨_, _, _, _, _, _, _, _, _, _, _, _, h, _⟩ := h
      cases h⟩
  | n + 1 => fun d hd f fd F => by
    have ih := fns_ok e n
    have ok := e.ok d hd
    refine F.ok ok.sc (fun vs H Q E h => by
      obtain ⟨_, _, _, _, _, _, h, _⟩ := h
      exact h) fun cdv A outer s H vs Q E hr h => ⟨tSt K pc ps (denSs (run (ds.map DI.fd) G n) G whileMost d.code), PSs.nox (sound_body d.N (e.good ih ok.sc.nd hr) rfl ok.code), ?_⟩
    obtain ⟨Bc, S, es, r, nw, S', hl, src, tr, h1, h2, ra, hd', q⟩ := h
    have hfd := e.find d hd
    simp only [run] at hd'
    rw [hfd] at hd'
    simp only at hd'
    split at hd'
    · rename_i hlen
      have fr := start_fr (K := K) (N := d.N) (fd := d.fd) rfl src tr h1 h2 ra
      split at hd'
      · rename_i r' nw' S2 hden
        cases hd'
        exact ⟨H, Bc, _, S, _, tr, fr, hden, fun v H' x s2 rp hn => q v H' x s2 rp hn⟩
      · rename_i η' S2 hden
        cases hd'
        exact ⟨H, Bc, _, S, _, tr, fr, hden, fun σ' H' F' _ => q .non H' F'.ext F'.src .non fun z => nomatch z⟩
      · cases hd'
    · cases hd'
end
end Dv

/-! Dv30: the law's start. -/
namespace Dv
open PySem PySem.Spec PyProof.Rows L2

/-- the text of _law_start, its comprehension's scope -/
def startB (body : List Stmt) : Option Scope := match body with
  | [.Return (some (.List [.ListComp (.Call (.Name f _) [.Name x _] [] _) [⟨.Name y _, .Subscript (.Name z _) (.Slice none (some (.Constant (.int 63) _ _)) none _) _, [], 0⟩] sc _, .Constant (.int 0) _ _, .Constant (.int 0) _ _, .Constant (.int 0) _ _, .Constant (.int 20) _ _] _)) _] =>
    if f = "int" ∧ x = "cell" ∧ y = "cell" ∧ z = "script" then some sc else none
  | _ => none
/-- what is asked of the scopes -/
def startOk (scope sc : Scope) : Bool := decide (scope.names.lookup ("script" : Str) = some .local) && blkC ["script", "cell"] scope sc [("cell", 1)] && decide ((relS sc scope).names.lookup ("cell" : Str) = some .local) && decide ((relS sc scope).names.lookup ("int" : Str) = some .globalImplicit)
/-- _law_start's promise -/
def spStart (K : PySem.W.Frag) : Sp := fun vs H Q _ => ∃ (a : Addr) (ns : List Int), vs = [.ref a] ∧ SqL K H a (ns.map V.int) ∧ ns.length ≤ 63 ∧
  ∀ p q H', (∀ b o, H b = some o → H' b = some o) → H p = none → q ≠ p → H' p = some (.lst [.ref q, .int 0, .int 0, .int 0, .int 20]) → H' q = some (.lst (ns.map V.int)) → Q (.ref p) H'
theorem cut63 (xs : List V) (h : xs.length ≤ 63) : cutV xs none (some 63) = xs := by
  unfold cutV
  rw [HT.sIx_none]
  have e : HT.sIx xs.length xs.length (some 63) = xs.length := by
    have := HT.sIx_nat xs.length xs.length 63
    rw [show ((63 : Nat) : Int) = (63 : Int) from rfl] at this
    rw [this]
    exact Nat.min_eq_right h
  rw [e]
  simp
section
variable {P : Program} {w : World} {K : PySem.W.Frag} {mg : Str → Option Value} {base : Heap} {f : Addr} {fd : FuncData}
theorem start_ok {x qual : Str} {params : Arguments} {body : List Stmt} {scope sc : Scope} (F : FunD K x qual params body scope [] [] f fd) (S : FnScope ["script", "cell"] ["script"] scope) (hb : startB body = some sc) (ho : startOk scope sc = true) (hi : mg "int" = none) (n : Nat) :
    FnOk P w K mg base CX0 (n + 1) f fd ["script"] (spStart K) := by
  refine F.ok S (fun vs H Q E h => ?_) fun cdv A outer s H vs Q E hr h => ?_
  · obtain ⟨a, ns, rfl, _⟩ := h
    rfl
  unfold startB at hb
  split at hb
  · rename_i f1 p1 x1 p2 p3 y1 p4 z1 p5 k1 p6 p7 p8 sc' p9 k2 p10 k3 p11 k4 p12 k5 p13 p14 p15
    split at hb
    · rename_i he
      obtain ⟨rfl, rfl, rfl, rfl⟩ := he
      cases hb
      simp only [startOk, Bool.and_eq_true, decide_eq_true_eq] at ho
      obtain ⟨⟨⟨o1, o2⟩, o3⟩, o4⟩ := ho
      let X : Cx := (cxOf CX0 P w K mg base ["script", "cell"] qual scope f cdv A outer s H E).nox
      have hit : PE X (.Subscript (.Name "script" p5) (.Slice none (some (.Constant (.int 63) k1 p6)) none p7) p8) (tSl (rSlL K) (tVar 0) tNoPart (tPart (tC (.int 63)))) :=
        pe_slice sl_list (pe_var (X := X) (i := 0) (x := "script") rfl (.inl o1)) po_none (po_some pe_int)
      have lc : PE X (.ListComp (.Call (.Name "int" p1) [.Name "cell" p2] [] p3) [⟨.Name "cell" p4, .Subscript (.Name "script" p5) (.Slice none (some (.Constant (.int 63) k1 p6)) none p7) p8, [], 0⟩] sc p9) _ :=
        pe_lc (X := X) (own := [("cell", 1)]) rfl S.nd (pi_list hit) (blkOk_by o2)
          (fun s H C cl fp => pg_name (i := 1) S.nd rfl (.inl o3) (.inr o3))
          (fun s H C cl fp => pts_nil)
          (fun s H C cl fp => pe_callTy call_int1 (show Gl _ "int" from o4) hi boot_int (pa_cons (pe_var (i := 1) rfl (.inl o3)) pa_nil))
      refine ⟨_, PSs.nox (pss_one (ps_ret (pe_lst (pa_cons lc (pa_cons pe_int (pa_cons pe_int (pa_cons pe_int (pa_cons pe_int pa_nil)))))))), ?_⟩
      obtain ⟨a, ns, rfl, hS, hlen, hQ⟩ := h
      refine ⟨.ref a, rfl, 63, rfl, a, ns.map V.int, rfl, hS, fun p0 hp0 => ?_⟩
      have e63 : cutV (ns.map V.int) none (some 63) = ns.map V.int := cut63 _ (by simpa using hlen)
      refine ⟨p0, rfl, ⟨_, SqL.of upd_same⟩, fun D hD => ?_⟩
      rw [e63] at hD ⊢
      refine lc_list (xs := ns.map V.int) (fun i H' => (∀ b o, upd H p0 (.lst (ns.map V.int)) b = some o → H' b = some o) ∧ H' D = some (.lst ((ns.take i).map V.int))) ⟨fun b o e => ?_, upd_same⟩ (fun i H' _ p => SqL.of (p.1 _ _ upd_same)) (fun i x H' hx p => ?_) fun H' p => ?_
      · rw [upd_ne (ne_of_none e hD)]; exact e
      · rw [List.getElem?_map] at hx
        obtain ⟨m, hm, rfl⟩ := Option.map_eq_some_iff.mp hx
        refine ⟨rfl, ?_⟩
        unfold tYes
        simp only [reduceIte]
        refine ⟨.int m, rfl, .inl ⟨m, rfl, _, p.2, ?_, fun b o e => ?_, ?_⟩⟩
        · rw [List.length_map, List.length_take, sizeLine_eq]; omega
        · rw [upd_ne (ne_of_none e hD)]
          exact p.1 b o e
        · rw [upd_same, List.take_add_one, hm, List.map_append]
          rfl
      · have e2 : H' D = some (.lst (ns.map V.int)) := by
          have := p.2
          rw [List.length_map, List.take_length] at this
          exact this
        refine ⟨by show 5 ≤ sizeLine; decide, fun q hq => ?_⟩
        have k : ∀ b o, H b = some o → H' b = some o := fun b o e => p.1 b o (by rw [upd_ne (ne_of_none e hp0)]; exact e)
        have nq : D ≠ q := ne_of_none e2 hq
        refine hQ q D _ (fun b o e => by rw [upd_ne (ne_of_none (k b o e) hq)]; exact k b o e) ?_ nq upd_same (by rw [upd_ne nq]; exact e2)
        cases e : H q with
        | none => rfl
        | some o => rw [k q o e] at hq; cases hq
    · cases hb
  · cases hb
end
end Dv

/-! Dv31: the law. -/
namespace Dv
open PySem PySem.Spec PyProof.Rows L2

/-- c = _law_start(script) -/
def firstB (st : Stmt) : Bool := match st with
  | .Assign [.Name c _] (.Call (.Name f _) [.Name x _] [] _) _ => decide (c = "c") && decide (f = "_law_start") && decide (x = "script")
  | _ => false
def lawOk (scope : Scope) : Bool := decide (scope.names.lookup ("script" : Str) = some .local) && (decide (scope.names.lookup ("c" : Str) = some .local) || decide (scope.names.lookup ("c" : Str) = some .cell)) && decide (scope.names.lookup ("_law_start" : Str) = some .globalImplicit)
/-- the law's slots behind its first statement -/
def lawE (n : Nat) : Dv.Env := .no :: .frz cel :: List.replicate n .no
def spLaw (K : PySem.W.Frag) : Sp := fun vs H Q _ => ∃ (a : Addr) (ns : List Int), vs = [.ref a] ∧ SqL K H a (ns.map V.int) ∧ ns.length ≤ 63 ∧ ∀ H', Q (.bl true) H'
/-- what is to be proved of the law in plain Lean -/
def PureLaw (ds : List DI) (G : Str → Option D) (n m : Nat) (code : List Stm) : Prop := ∀ ns : List Int, ns.length ≤ 63 → ∃ nw S', denSs (run (ds.map DI.fd) G n) G whileMost code (lawE m) ⟨ns, [0, 0, 0, 20]⟩ = some (.rt (.bool true) nw S')
section
variable {P : Program} {w : World} {K : PySem.W.Frag} {mg : Str → Option Value} {base : Heap} {G : Str → Option D} {fns : List (Str × Nat)} {gcd : Bool} {ds : List DI} {f fs : Addr} {fd fds : FuncData}
theorem lawE_get {n i : Nat} {s : Sl} (h : (lawE n)[i]? = some s) : (i = 1 ∧ s = .frz cel) ∨ s = .no := by
  rcases i with _ | _ | i
  · cases h; exact .inr rfl
  · cases h; exact .inl ⟨rfl, rfl⟩
  · have h : (List.replicate n Sl.no)[i]? = some s := h
    have := List.mem_of_getElem? h
    rw [List.mem_replicate] at this
    exact .inr this.2
theorem law_ok (e : ∀ pc, Env1 K mg pc G fns gcd ds) {x qual : Str} {params : Arguments} {first : Stmt} {rest : List Stmt} {scope : Scope} {N' : List Str} {code : List Stm} {n : Nat} (F : FunD K x qual params (first :: rest) scope [] [] f fd) (S : FnScope ("script" :: "c" :: N') ["script"] scope)
    (hf : firstB first = true) (ho : lawOk scope = true) (hc : rest.mapM (cS ("script" :: "c" :: N') 40 ⟨scope, fun _ => true, fns, gcd⟩) = some code)
    (Fs : FnOk P w K mg base CX0 n fs fds ["script"] (spStart K)) (ms : mg "_law_start" = some (.ref fs)) (ks : PySem.W.keepIn K (.ref fs) = true) (bs : Binds K fds ["script"] []) (pure : PureLaw ds G n N'.length code) :
    FnOk P w K mg base CX0 (n + 1) f fd ["script"] (spLaw K) := by
  refine F.ok S (fun vs H Q E h => ?_) fun cdv A outer s H vs Q E hr h => ?_
  · obtain ⟨a, ns, rfl, _⟩ := h
    rfl
  unfold firstB at hf
  split at hf
  · rename_i cn p1 fn p2 xn p3 p4 p5
    simp only [Bool.and_eq_true, decide_eq_true_eq] at hf
    obtain ⟨⟨rfl, rfl⟩, rfl⟩ := hf
    simp only [lawOk, Bool.and_eq_true, Bool.or_eq_true, decide_eq_true_eq] at ho
    obtain ⟨⟨o1, o2⟩, o3⟩ := ho
    let X : Cx := (cxOf CX0 P w K mg base ("script" :: "c" :: N') qual scope f cdv A outer s H E).nox
    have hcall : PE X (.Call (.Name "_law_start" p2) [.Name "script" p3] [] p4) (tCall (spStart K) [] (fun _ _ _ => False) (tCons (tVar 0) tNil)) :=
      pe_call (X := X) Fs hr (show Gl X "_law_start" from o3) ms ks bs .nil (fun _ _ _ _ _ _ _ z => False.elim z) (pa_cons (pe_var (X := X) (i := 0) (x := "script") rfl (.inl o1)) pa_nil)
    have hset : PS X (.Assign [.Name "c" p1] (.Call (.Name "_law_start" p2) [.Name "script" p3] [] p4) p5) _ := ps_set (i := 1) S.nd rfl o2 hcall (by rfl) (.inl rfl)
    have hrest : PSs X rest (fun D σ H => ∃ pc ps, tSt K pc ps (denSs (run (ds.map DI.fd) G n) G whileMost code) D σ H) := ⟨fun pins s' σ H' D I q => by
      obtain ⟨pc, ps, q⟩ := q
      exact (sound_body (X := X) ("script" :: "c" :: N') ((e pc).good (ps := ps) (fns_ok (e pc) n) S.nd hr) rfl hc).run pins s' σ H' D I q⟩
    refine ⟨_, PSs.nox (pss_cons hset hrest), ?_⟩
    obtain ⟨a, ns, rfl, hS, hlen, hQ⟩ := h
    refine ⟨.ref a, rfl, a, ns, rfl, hS, hlen, fun p q H' hk hp hne hHp hHq => ?_⟩
    obtain ⟨nw, S', hd⟩ := pure ns hlen
    refine ⟨p, q, H', fun _ => False, lawE N'.length, ⟨ns, [0, 0, 0, 20]⟩, _, fun _ z => z.elim, ?_, hd, fun v H2 x2 s2 rp _ => ?_⟩
    · have src : Src p q H' ⟨ns, [0, 0, 0, 20]⟩ := ⟨hne, hHp, hHq, rfl, by show ns.length ≤ sizeLine; rw [sizeLine_eq]; omega⟩
      refine ⟨Ext.refl, ⟨_, src⟩, src, fun _ z => z.elim, fun z => z, fun z => z, ?_, fun i d h => ?_, fun i d h => ?_, fun i j d e p h => ?_⟩
      · simp [lawE, L2.start]
      · rcases lawE_get h with ⟨rfl, h⟩ | h
        · cases h
          exact ⟨.ref p, by simp [L2.start], .cel⟩
        · cases h
      · rcases lawE_get h with ⟨_, h⟩ | h <;> cases h
      · rcases lawE_get h with ⟨_, h⟩ | h <;> cases h
    · cases rp
      exact hQ H2
  · cases hf
end
end Dv

/-! Dv32: the head's hook, with facts of one's own. -/
namespace Dv
open PySem PySem.Spec PyProof.Rows L2

def DI.defD (d : DI) : He.DefD := ⟨(d.nm, none), d.nm, d.qual, d.args, d.body, d.scope, [], []⟩
def obsF (fa : PySem.W.Frag → Bool) (fn : List He.DefD) (K : PySem.W.Frag) : He.AlD := (fa K && fn.all fun d => d.ok K, fn.map fun d => He.fnW K d.at_)
def SaysF (fa : PySem.W.Frag → Bool) (fn : List He.DefD) (K : PySem.W.Frag) : Prop := obsF fa fn K = He.valD fn
def obsFG (n : Nat) (fa : PySem.W.Frag → Bool) (fn : List He.DefD) (g : Addr → Option Obj) : He.AlD := obsF fa fn (He.frG g (He.asD g n))
def hookF (n : Nat) (fa : PySem.W.Frag → Bool) (fn : List He.DefD) : PySem.W.Hook where
  α := He.AlD
  obs := fun s => obsFG n fa fn s.heap.get?
  val := fun _ => He.valD fn
  says := fun _ h => ∃ K : PySem.W.Frag, K.In h ∧ SaysF fa fn K
  of := fun _ _ e => ⟨_, He.frG_in, e⟩
  keeps := fun _ _ _ ⟨K, hK, c⟩ k => ⟨K, PySem.W.Frag.In.keeps hK k, c⟩
theorem obsFG_eq {n : Nat} {fa : PySem.W.Frag → Bool} {fn : List He.DefD} {g : Addr → Option Obj} {s : Shared} (h : ∀ a, g a = s.heap.get? a) : obsFG n fa fn g = (hookF n fa fn).obs s := by
  have e : g = s.heap.get? := funext h
  rw [e] <;> rfl
section
variable {fa : PySem.W.Frag → Bool} {fn : List He.DefD} {K : PySem.W.Frag}
theorem SaysF.fact (c : SaysF fa fn K) : fa K = true := (He.ba (show (fa K && fn.all fun d => d.ok K) = true from congrArg (fun z : He.AlD => z.1) c)).1
theorem SaysF.def_ (c : SaysF fa fn K) {d : He.DefD} (h : d ∈ fn) : ∃ fd, FunD K d.name d.qual d.params d.body d.scope (d.dvs K) (d.kws K) (He.fAd K d.at_) fd := by
  have c2 := (He.ba (show (fa K && fn.all fun d => d.ok K) = true from congrArg (fun z : He.AlD => z.1) c)).2
  have e : fn.map (fun d => He.fnW K d.at_) = fn.map He.DefD.val := congrArg (fun z : He.AlD => z.2) c
  refine He.DefD.funD ?_ (List.all_eq_true.mp c2 d h)
  obtain ⟨i, hi⟩ := List.getElem?_of_mem h
  have e2 := congrArg (fun l => l[i]?) e
  simp only [List.getElem?_map, hi, Option.map_some] at e2
  exact Option.some.inj e2
end
/-- facts: the defs' names, the built-ins' names free, gcd, the module's constants -/
def gloB (x : Str) (K : PySem.W.Frag) : Bool := He.eqO (PySem.W.nsIn K mainGlobals x) (some (some (.ref (He.ga K x))))
def freeB (x : Str) (K : PySem.W.Frag) : Bool := He.eqO (PySem.W.nsIn K mainGlobals x) (some none)
def gcdB (K : PySem.W.Frag) : Bool := He.eqO (PySem.W.nsIn K mainGlobals "gcd") (some (some (.builtin "math.gcd")))
def intB (x : Str) (n : Int) (K : PySem.W.Frag) : Bool := match PySem.W.nsIn K mainGlobals x with
  | some (some (.int m _)) => decide (m = n)
  | _ => false
/-- the module's whole numbers -/
def constG (cs : List (Str × Int)) (x : Str) : Option D := (cs.lookup x).map PyData.int
def factsB (gcd : Bool) (names : List Str) (cs : List (Str × Int)) (K : PySem.W.Frag) : Bool := (names.all (gloB · K) && bltNames.all (freeB · K) && (!gcd || gcdB K)) && cs.all fun p => intB p.1 p.2 K
section
variable {K : PySem.W.Frag} {h : Heap} {mg : Str → Option Value} {gcd : Bool} {names : List Str} {cs : List (Str × Int)}
theorem factsB.glo (X : K.In h) (N : h.Ns mainGlobals mg) (c : factsB gcd names cs K = true) : ∀ x ∈ names, mg x = some (.ref (He.ga K x)) := fun x hx => by
  simp only [factsB, Bool.and_eq_true, List.all_eq_true] at c
  exact PySem.W.mg_of X N (He.eqO_ok (c.1.1.1 x hx))
theorem factsB.int (X : K.In h) (N : h.Ns mainGlobals mg) (c : factsB gcd names cs K = true) (x : Str) (d : D) (e : constG cs x = some d) : ∃ v u, mg x = some u ∧ RelV v u ∧ ∀ pc H B, Rp K pc H B v d := by
  simp only [factsB, Bool.and_eq_true, List.all_eq_true] at c
  unfold constG at e
  cases hl : cs.lookup x with
  | none => rw [hl] at e; cases e
  | some n =>
    rw [hl] at e
    cases e
    have hm : (x, n) ∈ cs := by
      clear c
      induction cs with
      | nil => cases hl
      | cons p cs ih =>
        rw [List.lookup_cons] at hl
        split at hl
        · rename_i he
          cases hl
          rw [eq_of_beq he]
          exact List.mem_cons_self
        · exact List.mem_cons_of_mem _ (ih hl)
    have h1 := c.2 _ hm
    unfold intB at h1
    split at h1
    · rename_i m t he
      have : m = n := of_decide_eq_true h1
      subst this
      exact ⟨.int m, .int m t, PySem.W.mg_of X N he, ⟨t, rfl⟩, fun _ _ _ => .int m⟩
    · cases h1
theorem factsB.free (X : K.In h) (N : h.Ns mainGlobals mg) (c : factsB gcd names cs K = true) : ∀ x ∈ bltNames, mg x = none := fun x hx => by
  simp only [factsB, Bool.and_eq_true, List.all_eq_true] at c
  exact PySem.W.mg_none_of X N (He.eqO_ok (c.1.1.2 x hx))
theorem factsB.math (X : K.In h) (N : h.Ns mainGlobals mg) (c : factsB gcd names cs K = true) (g : gcd = true) : mg "gcd" = some (.builtin "math.gcd") := by
  simp only [factsB, Bool.and_eq_true, List.all_eq_true, g, Bool.not_true, Bool.false_or] at c
  exact PySem.W.mg_of X N (He.eqO_ok c.1.2)
end
/-- a def without defaults binds its parameters -/
def BindsA (d : DI) : Prop := ∀ (kV doc pm : Value) (an : Option Addr) (cdv ct : Value) (us : List Value), us.length = d.ps.length → bindArgs (PySem.W.fnOf d.nm d.qual d.args d.body d.scope .none kV doc pm an cdv ct) ⟨us, []⟩ = pure (d.ps.zip us)
theorem all_nil {α : Type} {p : α → Prop} : ∀ d ∈ ([] : List α), p d := fun _ h => nomatch h
theorem all_cons {α : Type} {p : α → Prop} {a : α} {l : List α} (h : p a) (t : ∀ d ∈ l, p d) : ∀ d ∈ a :: l, p d := fun d hd => (List.mem_cons.mp hd).elim (fun e => e ▸ h) (t d)
theorem fns_of : ∀ {ds : List DI} {f : Str} {m : Nat}, (ds.map fun d => (d.nm, d.ps.length)).lookup f = some m → ∃ d ∈ ds, d.nm = f ∧ d.ps.length = m
  | [], _, _, h => by cases h
  | d :: ds, f, m, h => by
    rw [List.map_cons, List.lookup_cons] at h
    split at h
    · rename_i e
      cases h
      exact ⟨d, List.mem_cons_self, (eq_of_beq e).symm, rfl⟩
    · obtain ⟨d', h1, h2⟩ := fns_of h
      exact ⟨d', List.mem_cons_of_mem _ h1, h2⟩
theorem find_of : ∀ {ds : List DI}, (ds.map (·.nm)).Nodup → ∀ d ∈ ds, (ds.map DI.fd).find? (fun fd => decide (fd.name = d.nm)) = some d.fd
  | [], _, _, h => by cases h
  | e :: ds, nd, d, h => by
    rw [List.map_cons, List.nodup_cons] at nd
    rw [List.map_cons, List.find?_cons]
    rcases List.mem_cons.mp h with h | h
    · subst h
      have : decide (d.fd.name = d.nm) = true := decide_eq_true rfl
      rw [this]
    · have ne : e.nm ≠ d.nm := fun z => nd.1 (z ▸ List.mem_map.mpr ⟨d, h, rfl⟩)
      have : decide (e.fd.name = d.nm) = false := decide_eq_false ne
      rw [this]
      exact find_of nd.2 d h
section
variable {K : PySem.W.Frag} {h : Heap} {mg : Str → Option Value} {gcd : Bool} {ds : List DI} {fns : List (Str × Nat)} {G : Str → Option D} {names : List Str} {cs : List (Str × Int)} {fn : List He.DefD}
/-- the module's facts, from the hook -/
theorem env_of (X : K.In h) (N : h.Ns mainGlobals mg) (c : SaysF (factsB gcd names cs) fn K) (hn : ∀ d ∈ ds, d.nm ∈ names) (hf : ∀ d ∈ ds, d.defD ∈ fn) (ok : ∀ d ∈ ds, d.Ok fns gcd) (hb : ∀ d ∈ ds, BindsA d) (hfn : fns = ds.map fun d => (d.nm, d.ps.length)) (nd : (ds.map (·.nm)).Nodup)
    (glo : ∀ x d, G x = some d → ∃ v u, mg x = some u ∧ RelV v u ∧ ∀ pc H B, Rp K pc H B v d) (pc : Addr) : Env1 K mg pc G fns gcd ds where
  blt := factsB.free X N c.fact
  has := factsB.math X N c.fact
  glo := fun x d hg => by
    obtain ⟨v, u, h1, h2, h3⟩ := glo x d hg
    exact ⟨v, u, h1, h2, h3 pc⟩
  ok := ok
  fn := fun d hd => by
    obtain ⟨fd, F⟩ := c.def_ (hf d hd)
    exact ⟨_, fd, F, factsB.glo X N c.fact _ (hn d hd), FunD.bindsN F (hb d hd)⟩
  fns := fun f m hl => fns_of (by rw [← hfn]; exact hl)
  find := find_of nd
end
end Dv

/-! Mr1: mirrors: what a text does, with typed data; rules. -/
namespace Mr
open PySem Dv
/-- what holds of all that may come out -/
abbrev ND (α : Type) := (α → Prop) → Prop
section
variable {α β γ σ ρ : Type}
def ret (x : α) : ND α := fun Q => Q x
def bnd (m : ND α) (f : α → ND β) : ND β := fun Q => m fun x => f x Q
def lft (o : Option α) : ND α := fun Q => ∃ x, o = some x ∧ Q x
/-- a draw -/
def draw (n : Int) : ND Int := fun Q => 0 < n ∧ ∀ d, 0 ≤ d → d < n → Q d
theorem ret_bnd (x : α) (f : α → ND β) : bnd (ret x) f = f x := by funext Q; rfl
theorem bnd_ret (m : ND α) : bnd m ret = m := by funext Q; rfl
theorem bnd_bnd (m : ND α) (f : α → ND β) (g : β → ND γ) : bnd (bnd m f) g = bnd m fun x => bnd (f x) g := by funext Q; rfl
theorem lft_some (x : α) : lft (some x) = ret x := by
  funext Q
  exact propext ⟨fun ⟨y, h, q⟩ => Option.some.inj h ▸ q, fun q => ⟨x, rfl, q⟩⟩
theorem ret_app (x : α) (Q : α → Prop) : ret x Q = Q x := rfl
theorem bnd_app (m : ND α) (f : α → ND β) (Q : β → Prop) : bnd m f Q = m fun x => f x Q := rfl
theorem bnd_ite {c : Prop} [Decidable c] (a b : ND α) (f : α → ND β) : bnd (if c then a else b) f = if c then bnd a f else bnd b f := by split <;> rfl
def mp (f : α → ND β) : List α → ND (List β)
  | [] => ret []
  | a :: l => bnd (f a) fun b => bnd (mp f l) fun bs => ret (b :: bs)
def fm (p : α → ND Bool) (f : α → ND β) : List α → ND (List β)
  | [] => ret []
  | a :: l => bnd (p a) fun c => if c then bnd (f a) fun b => bnd (fm p f l) fun bs => ret (b :: bs) else fm p f l
def fl (f : α → ND (List β)) : List α → ND (List β)
  | [] => ret []
  | a :: l => bnd (f a) fun b => bnd (fl f l) fun bs => ret (b ++ bs)
def fd (step : σ → α → ND σ) : σ → List α → ND σ
  | s, [] => ret s
  | s, a :: l => bnd (step s a) fun s' => fd step s' l
def fr (step : σ → α → ND (σ ⊕ ρ)) : σ → List α → ND (σ ⊕ ρ)
  | s, [] => ret (.inl s)
  | s, a :: l => bnd (step s a) fun o => match o with
    | .inl s' => fr step s' l
    | .inr r => ret (.inr r)
def wh (test : σ → ND Bool) (body : σ → ND (σ ⊕ ρ)) : Nat → σ → ND (σ ⊕ ρ)
  | 0, _ => fun _ => False
  | n + 1, s => bnd (test s) fun b => if b then bnd (body s) fun o => match o with
      | .inl s' => wh test body n s'
      | .inr r => ret (.inr r)
    else ret (.inl s)
/-- behind a loop that may return -/
def aft {τ : Type} (o : σ ⊕ ρ) (k : σ → ND τ) (kr : ρ → τ) : ND τ := match o with
  | .inl s => k s
  | .inr r => ret (kr r)
theorem aft_inl {τ : Type} (s : σ) (k : σ → ND τ) (kr : ρ → τ) : aft (.inl s : σ ⊕ ρ) k kr = k s := by funext Q; rfl
theorem aft_inr {τ : Type} (r : ρ) (k : σ → ND τ) (kr : ρ → τ) : aft (.inr r : σ ⊕ ρ) k kr = ret (kr r) := by funext Q; rfl
theorem mp_ret {f : α → ND β} {l : List α} {g : α → β} (h : ∀ a ∈ l, f a = ret (g a)) : mp f l = ret (l.map g) := by
  induction l with
  | nil => rfl
  | cons a l ih =>
    rw [mp, h a List.mem_cons_self, ih fun b hb => h b (List.mem_cons_of_mem _ hb)]
    rfl
theorem fm_ret {p : α → ND Bool} {f : α → ND β} {l : List α} {q : α → Bool} {g : α → β} (hp : ∀ a ∈ l, p a = ret (q a)) (h : ∀ a ∈ l, q a = true → f a = ret (g a)) : fm p f l = ret ((l.filter q).map g) := by
  induction l with
  | nil => rfl
  | cons a l ih =>
    rw [fm, hp a List.mem_cons_self, ih (fun b hb => hp b (List.mem_cons_of_mem _ hb)) fun b hb => h b (List.mem_cons_of_mem _ hb), ret_bnd, List.filter_cons]
    cases hq : q a with
    | true => rw [if_pos rfl, if_pos rfl, h a List.mem_cons_self hq]; rfl
    | false => rfl
theorem fl_ret {f : α → ND (List β)} {l : List α} {g : α → List β} (h : ∀ a ∈ l, f a = ret (g a)) : fl f l = ret (l.flatMap g) := by
  induction l with
  | nil => rfl
  | cons a l ih =>
    rw [fl, h a List.mem_cons_self, ih fun b hb => h b (List.mem_cons_of_mem _ hb)]
    rfl
theorem fd_ret {step : σ → α → ND σ} {l : List α} {g : σ → α → σ} : ∀ {s : σ}, (∀ s, ∀ a ∈ l, step s a = ret (g s a)) → fd step s l = ret (l.foldl g s) := by
  induction l with
  | nil => intro s h; rfl
  | cons a l ih =>
    intro s h
    rw [fd, h s a List.mem_cons_self, ret_bnd, ih fun s b hb => h s b (List.mem_cons_of_mem _ hb)]
    rfl
/-- .. with an invariant -/
theorem fd_inv {step : σ → α → ND σ} {g : List α → σ} (l : List α) (h : ∀ pre a post, l = pre ++ a :: post → step (g pre) a = ret (g (pre ++ [a]))) : fd step (g []) l = ret (g l) := by
  have main : ∀ (post pre : List α), l = pre ++ post → fd step (g pre) post = ret (g l) := by
    intro post
    induction post with
    | nil => intro pre e; rw [e, List.append_nil]; rfl
    | cons a post ih =>
      intro pre e
      rw [fd, h pre a post e, ret_bnd]
      exact ih (pre ++ [a]) (by rw [e]; simp)
  exact main l [] rfl
/-- a loop that may return, without a state -/
theorem fr_ret {step : σ → α → ND (σ ⊕ ρ)} {l : List α} {g : α → Option ρ} {s : σ} (h : ∀ a ∈ l, step s a = ret (match g a with | some r => .inr r | none => .inl s)) : fr step s l = ret (match l.findSome? g with | some r => .inr r | none => .inl s) := by
  induction l with
  | nil => rfl
  | cons a l ih =>
    rw [fr, h a List.mem_cons_self, List.findSome?_cons]
    cases g a with
    | some r => rfl
    | none => exact ih fun b hb => h b (List.mem_cons_of_mem _ hb)
/-! ### what may be weakened -/
def Mono (m : ND α) : Prop := ∀ Q Q' : α → Prop, (∀ x, Q x → Q' x) → m Q → m Q'
theorem mono_ret (x : α) : Mono (ret x) := fun _ _ h q => h _ q
theorem mono_lft (o : Option α) : Mono (lft o) := fun _ _ h ⟨x, e, q⟩ => ⟨x, e, h _ q⟩
theorem mono_draw (n : Int) : Mono (draw n) := fun _ _ h ⟨e, q⟩ => ⟨e, fun d h0 h1 => h _ (q d h0 h1)⟩
theorem mono_bnd {m : ND α} {f : α → ND β} (h : Mono m) (hf : ∀ x, Mono (f x)) : Mono (bnd m f) := fun _ _ k q => h _ _ (fun x => hf x _ _ k) q
theorem mono_ite {c : Prop} [Decidable c] {m m' : ND α} (h : Mono m) (h' : Mono m') : Mono (if c then m else m') := by split <;> assumption
theorem mono_mp {f : α → ND β} (h : ∀ x, Mono (f x)) : ∀ l, Mono (mp f l)
  | [] => mono_ret _
  | _ :: l => mono_bnd (h _) fun _ => mono_bnd (mono_mp h l) fun _ => mono_ret _
theorem mono_fm {p : α → ND Bool} {f : α → ND β} (hp : ∀ x, Mono (p x)) (h : ∀ x, Mono (f x)) : ∀ l, Mono (fm p f l)
  | [] => mono_ret _
  | _ :: l => mono_bnd (hp _) fun _ => mono_ite (mono_bnd (h _) fun _ => mono_bnd (mono_fm hp h l) fun _ => mono_ret _) (mono_fm hp h l)
theorem mono_fd {step : σ → α → ND σ} (h : ∀ s a, Mono (step s a)) : ∀ l s, Mono (fd step s l)
  | [], _ => mono_ret _
  | _ :: l, _ => mono_bnd (h _ _) fun _ => mono_fd h l _
theorem mono_aft {τ : Type} {o : σ ⊕ ρ} {k : σ → ND τ} {kr : ρ → τ} (h : ∀ s, Mono (k s)) : Mono (aft o k kr) := by
  cases o with
  | inl s => exact h s
  | inr r => exact mono_ret _
/-- a fold with draws -/
theorem fd_wp {step : σ → α → ND σ} (hm : ∀ s a, Mono (step s a)) (I : List α → σ → Prop) {l : List α} {s0 : σ} {Q : σ → Prop} (h0 : I [] s0) (hs : ∀ pre a post s, l = pre ++ a :: post → I pre s → step s a (I (pre ++ [a]))) (hQ : ∀ s, I l s → Q s) : fd step s0 l Q := by
  have main : ∀ (post pre : List α) (s : σ), l = pre ++ post → I pre s → fd step s post Q := by
    intro post
    induction post with
    | nil => intro pre s e h; exact hQ s (by rw [e, List.append_nil]; exact h)
    | cons a post ih =>
      intro pre s e h
      refine hm s a _ _ ?_ (hs pre a post s e h)
      exact fun s' h' => ih (pre ++ [a]) s' (by rw [e]; simp) h'
  exact main l [] s0 rfl h0
theorem mp_wp {f : α → ND β} (hm : ∀ a, Mono (f a)) (P : α → β → Prop) {l : List α} {Q : List β → Prop} (h : ∀ a ∈ l, f a (P a)) (hQ : ∀ bs, Paired P l bs → Q bs) : mp f l Q := by
  induction l generalizing Q with
  | nil => exact hQ [] .nil
  | cons a l ih =>
    refine hm a _ _ (fun b hb => ?_) (h a List.mem_cons_self)
    exact ih (fun c hc => h c (List.mem_cons_of_mem _ hc)) fun bs hbs => hQ (b :: bs) (.cons hb hbs)
end

/-! ### what stands for what -/
section
variable {α β γ δ ε ζ : Type}
def eN (_ : Unit) : D := .none
def eD (d : D) : D := d
def eL (e : α → D) (l : List α) : D := .list (l.map e)
def eT (e : α → D) (l : List α) : D := .tuple (l.map e)
def eO (e : α → D) : Option α → D
  | none => .none
  | some x => e x
def eP1 (a : α → D) (x : α) : D := .tuple [a x]
def eP2 (a : α → D) (b : β → D) (x : α × β) : D := .tuple [a x.1, b x.2]
def eP3 (a : α → D) (b : β → D) (c : γ → D) (x : α × β × γ) : D := .tuple [a x.1, b x.2.1, c x.2.2]
def eP4 (a : α → D) (b : β → D) (c : γ → D) (d : δ → D) (x : α × β × γ × δ) : D := .tuple [a x.1, b x.2.1, c x.2.2.1, d x.2.2.2]
def eP5 (a : α → D) (b : β → D) (c : γ → D) (d : δ → D) (e : ε → D) (x : α × β × γ × δ × ε) : D := .tuple [a x.1, b x.2.1, c x.2.2.1, d x.2.2.2.1, e x.2.2.2.2]
/-- a dict of pairs: what it says of a key, its entries -/
def look (m : List (Int × α)) (i : Int) : Option α := m.foldl (fun a p => if p.1 = i then some p.2 else a) none
def kvs (e : α → D) (m : List (Int × α)) : List (D × D) := m.foldl (fun acc p => putI acc p.1 (e p.2)) []
def eM (e : α → D) (m : List (Int × α)) : D := .dict (kvs e m)
end
/-- the cells: of the right number, none below 0 -/
def Ok (S : Sc) : Prop := S.cells.length = 4 ∧ 0 ≤ S.cells.getD 0 0 ∧ 0 ≤ S.cells.getD 1 0 ∧ 0 ≤ S.cells.getD 2 0

section
variable (Φ : Dv.Callee) (G : Str → Option D)
variable {α β γ δ : Type}
def RE (e : E) (η : Dv.Env) (m : ND α) (enc : α → D) : Prop := ∀ S Q, Ok S → m Q → ∃ x S', den Φ G e η S = some (enc x, S') ∧ Ok S' ∧ Q x
def RT (e : E) (η : Dv.Env) (m : ND α) (enc : α → D) : Prop := ∀ S Q, Ok S → m Q → ∃ x S', topE η S (den Φ G e η S) e = some (enc x, S') ∧ Ok S' ∧ Q x
/-- a test -/
def RCE (e : E) (η : Dv.Env) (m : ND Bool) : Prop := ∀ S Q, Ok S → m Q → ∃ b d S', den Φ G e η S = some (d, S') ∧ truD d = some b ∧ Ok S' ∧ Q b
def RC (e : E) (η : Dv.Env) (m : ND Bool) : Prop := ∀ S Q, Ok S → m Q → ∃ b d S', topE η S (den Φ G e η S) e = some (d, S') ∧ truD d = some b ∧ Ok S' ∧ Q b
/-- a list's, a call's items -/
def RL (es : List E) (η : Dv.Env) (m : ND (List α)) (enc : α → D) : Prop := ∀ S Q, Ok S → m Q → ∃ x S', denL Φ G es η S = some (x.map enc, S') ∧ Ok S' ∧ Q x
/-- .. as data -/
def RA (es : List E) (η : Dv.Env) (m : ND (List D)) : Prop := ∀ S Q, Ok S → m Q → ∃ x S', denA Φ G es η S = some (x, S') ∧ Ok S' ∧ Q x
def RLD (es : List E) (η : Dv.Env) (m : ND (List D)) : Prop := ∀ S Q, Ok S → m Q → ∃ x S', denL Φ G es η S = some (x, S') ∧ Ok S' ∧ Q x
/-- a def: its answer; is a list that it gives a new one? -/
def RF (f : Str) (ds : List D) (m : ND α) (enc : α → D) (nwb : Bool) : Prop := ∀ S Q, Ok S → m Q → ∃ x nw S', Φ f ds S = some (enc x, nw, S') ∧ (nwb = true → nw = true) ∧ Ok S' ∧ Q x
end
section
variable {Φ : Dv.Callee} {G : Str → Option D}
variable {α β γ δ ε ζ : Type} {η : Dv.Env} {ma : ND α} {mb : ND β} {mc : ND γ} {ea : α → D} {eb : β → D} {ec : γ → D} {ed : δ → D}
theorem RE_var {i : Nat} {x : α} (h : slot η i = .frz (ea x)) : RE Φ G (.var i) η (ret x) ea := fun S Q hS q => ⟨x, S, by simp only [den, h]; rfl, hS, q⟩
theorem RT_var {i : Nat} {x : α} (h : (slot η i).get = some (ea x)) : RT Φ G (.own i) η (ret x) ea := fun S Q hS q => ⟨x, S, by simp only [topE, h]; rfl, hS, q⟩
theorem RE_con {d : D} {x : α} (h : d = ea x) : RE Φ G (.con d) η (ret x) ea := fun S Q hS q => ⟨x, S, by simp only [den, h], hS, q⟩
theorem RE_glo {v : Str} {x : α} (h : G v = some (ea x)) : RE Φ G (.glo v) η (ret x) ea := fun S Q hS q => ⟨x, S, by simp only [den, h]; rfl, hS, q⟩
/-- not a bare name -/
def nOwn : E → Bool
  | .own _ => false
  | _ => true
theorem top_n {e : E} (h : nOwn e = true) (S : Sc) (r : R) : topE η S r e = r := by
  cases e <;> first | rfl | simp [nOwn] at h
theorem RT_of {a : E} (hn : nOwn a = true) (h : RE Φ G a η ma ea) : RT Φ G a η ma ea := fun S Q hS q => by
  obtain ⟨x, S', h1, h2⟩ := h S Q hS q
  exact ⟨x, S', by rw [top_n hn]; exact h1, h2⟩
theorem RE_map {a : E} (h : RE Φ G a η ma ea) (g : α → β) (he : ∀ x, ea x = eb (g x)) : RE Φ G a η (bnd ma fun x => ret (g x)) eb := fun S Q hS q => by
  obtain ⟨x, S', h1, h2, h3⟩ := h S _ hS q
  exact ⟨g x, S', by rw [h1, he], h2, h3⟩
theorem RT_map {a : E} (h : RT Φ G a η ma ea) (g : α → β) (he : ∀ x, ea x = eb (g x)) : RT Φ G a η (bnd ma fun x => ret (g x)) eb := fun S Q hS q => by
  obtain ⟨x, S', h1, h2, h3⟩ := h S _ hS q
  exact ⟨g x, S', by rw [h1, he], h2, h3⟩
theorem RT_mapO {a : E} (h : RT Φ G a η ma ea) (g : α → Option β) (he : ∀ x y, g x = some y → ea x = eb y) : RT Φ G a η (bnd ma fun x => lft (g x)) eb := fun S Q hS q => by
  obtain ⟨x, S', h1, h2, y, h3, h4⟩ := h S _ hS q
  exact ⟨y, S', by rw [h1, he x y h3], h2, h4⟩
theorem RE_mapO {a : E} (h : RE Φ G a η ma ea) (g : α → Option β) (he : ∀ x y, g x = some y → ea x = eb y) : RE Φ G a η (bnd ma fun x => lft (g x)) eb := fun S Q hS q => by
  obtain ⟨x, S', h1, h2, y, h3, h4⟩ := h S _ hS q
  exact ⟨y, S', by rw [h1, he x y h3], h2, h4⟩
theorem RE_bin {o : BOp} {a b : E} {f : α → β → Option γ} (ha : RT Φ G a η ma ea) (hb : RT Φ G b η mb eb) (hop : ∀ x y z, f x y = some z → binD o (ea x) (eb y) = some (ec z)) : RE Φ G (.bin o a b) η (bnd ma fun x => bnd mb fun y => lft (f x y)) ec := fun S Q hS q => by
  obtain ⟨x, S1, h1, hS1, q1⟩ := ha S _ hS q
  obtain ⟨y, S2, h2, hS2, z, hz, q2⟩ := hb S1 _ hS1 q1
  exact ⟨z, S2, by simp only [den, h1, h2, hop x y z hz, Option.map_some], hS2, q2⟩
theorem RE_cmp {o : COp} {a b : E} {f : α → β → Option Bool} (ha : RT Φ G a η ma ea) (hb : RT Φ G b η mb eb) (hop : ∀ x y z, f x y = some z → cmpD o (ea x) (eb y) = some z) : RE Φ G (.cmp o a b) η (bnd ma fun x => bnd mb fun y => lft (f x y)) PyData.bool := fun S Q hS q => by
  obtain ⟨x, S1, h1, hS1, q1⟩ := ha S _ hS q
  obtain ⟨y, S2, h2, hS2, z, hz, q2⟩ := hb S1 _ hS1 q1
  exact ⟨z, S2, by simp only [den, h1, h2, hop x y z hz, Option.map_some], hS2, q2⟩
theorem RE_chain {o p : COp} {a b c : E} {f : α → β → Option Bool} {g : β → γ → Option Bool} (ha : RE Φ G a η ma ea) (hb : RE Φ G b η mb eb) (hc : RE Φ G c η mc ec) (hop : ∀ x y z, f x y = some z → cmpD o (ea x) (eb y) = some z) (hop2 : ∀ x y z, g x y = some z → cmpD p (eb x) (ec y) = some z) :
    RE Φ G (.chain o p a b c) η (bnd ma fun x => bnd mb fun y => bnd (lft (f x y)) fun r => if r then bnd mc fun z => lft (g y z) else ret false) PyData.bool := fun S Q hS q => by
  obtain ⟨x, S1, h1, hS1, q1⟩ := ha S _ hS q
  obtain ⟨y, S2, h2, hS2, r, hr, q2⟩ := hb S1 _ hS1 q1
  cases r with
  | false => exact ⟨false, S2, by simp only [den, h1, h2, hop x y _ hr], hS2, q2⟩
  | true =>
    obtain ⟨z, S3, h3, hS3, w, hw, q3⟩ := hc S2 _ hS2 q2
    exact ⟨w, S3, by simp only [den, h1, h2, hop x y _ hr, h3, hop2 y z w hw, Option.map_some], hS3, q3⟩
/-! tests -/
theorem RCE_of {a : E} (h : RE Φ G a η ma ea) (t : α → Bool) (ht : ∀ x, truD (ea x) = some (t x)) : RCE Φ G a η (bnd ma fun x => ret (t x)) := fun S Q hS q => by
  obtain ⟨x, S', h1, h2, h3⟩ := h S _ hS q
  exact ⟨t x, ea x, S', h1, ht x, h2, h3⟩
theorem RCE_bool {a : E} {m : ND Bool} (h : RE Φ G a η m PyData.bool) : RCE Φ G a η m := fun S Q hS q => by
  obtain ⟨x, S', h1, h2, h3⟩ := h S _ hS q
  exact ⟨x, _, S', h1, rfl, h2, h3⟩
theorem RC_of {a : E} (h : RT Φ G a η ma ea) (t : α → Bool) (ht : ∀ x, truD (ea x) = some (t x)) : RC Φ G a η (bnd ma fun x => ret (t x)) := fun S Q hS q => by
  obtain ⟨x, S', h1, h2, h3⟩ := h S _ hS q
  exact ⟨t x, ea x, S', h1, ht x, h2, h3⟩
theorem RC_bool {a : E} {m : ND Bool} (h : RT Φ G a η m PyData.bool) : RC Φ G a η m := fun S Q hS q => by
  obtain ⟨x, S', h1, h2, h3⟩ := h S _ hS q
  exact ⟨x, _, S', h1, rfl, h2, h3⟩
theorem RC_ce {a : E} {m : ND Bool} (hn : nOwn a = true) (h : RCE Φ G a η m) : RC Φ G a η m := fun S Q hS q => by
  obtain ⟨b, d, S', h1, h2⟩ := h S Q hS q
  exact ⟨b, d, S', by rw [top_n hn]; exact h1, h2⟩
theorem RCE_and {a b : E} {m m' : ND Bool} (ho : ownedE η a = false) (ha : RC Φ G a η m) (hb : RCE Φ G b η m') : RCE Φ G (.and a b) η (bnd m fun x => if x then m' else ret false) := fun S Q hS q => by
  obtain ⟨x, d, S1, h1, hd, hS1, q1⟩ := ha S _ hS q
  cases x with
  | false => exact ⟨false, d, S1, by simp [den, h1, hd, ho], hd, hS1, q1⟩
  | true =>
    obtain ⟨y, d2, S2, h2, hd2, hS2, q2⟩ := hb S1 _ hS1 q1
    exact ⟨y, d2, S2, by simp only [den, h1, hd]; exact h2, hd2, hS2, q2⟩
theorem RCE_or {a b : E} {m m' : ND Bool} (ho : ownedE η a = false) (ha : RC Φ G a η m) (hb : RCE Φ G b η m') : RCE Φ G (.or a b) η (bnd m fun x => if x then ret true else m') := fun S Q hS q => by
  obtain ⟨x, d, S1, h1, hd, hS1, q1⟩ := ha S _ hS q
  cases x with
  | true => exact ⟨true, d, S1, by simp [den, h1, hd, ho], hd, hS1, q1⟩
  | false =>
    obtain ⟨y, d2, S2, h2, hd2, hS2, q2⟩ := hb S1 _ hS1 q1
    exact ⟨y, d2, S2, by simp only [den, h1, hd]; exact h2, hd2, hS2, q2⟩
theorem RE_and {a b : E} {m m' : ND Bool} (ho : ownedE η a = false) (ha : RT Φ G a η m PyData.bool) (hb : RE Φ G b η m' PyData.bool) : RE Φ G (.and a b) η (bnd m fun x => if x then m' else ret false) PyData.bool := fun S Q hS q => by
  obtain ⟨x, S1, h1, hS1, q1⟩ := ha S _ hS q
  cases x with
  | false => exact ⟨false, S1, by simp [den, h1, truD, ho], hS1, q1⟩
  | true =>
    obtain ⟨y, S2, h2, hS2, q2⟩ := hb S1 _ hS1 q1
    exact ⟨y, S2, by simp only [den, h1, truD]; exact h2, hS2, q2⟩
theorem RE_or {a b : E} {m m' : ND Bool} (ho : ownedE η a = false) (ha : RT Φ G a η m PyData.bool) (hb : RE Φ G b η m' PyData.bool) : RE Φ G (.or a b) η (bnd m fun x => if x then ret true else m') PyData.bool := fun S Q hS q => by
  obtain ⟨x, S1, h1, hS1, q1⟩ := ha S _ hS q
  cases x with
  | true => exact ⟨true, S1, by simp [den, h1, truD, ho], hS1, q1⟩
  | false =>
    obtain ⟨y, S2, h2, hS2, q2⟩ := hb S1 _ hS1 q1
    exact ⟨y, S2, by simp only [den, h1, truD]; exact h2, hS2, q2⟩
theorem RE_not {a : E} {m : ND Bool} (ha : RC Φ G a η m) : RE Φ G (.not a) η (bnd m fun b => ret (!b)) PyData.bool := fun S Q hS q => by
  obtain ⟨x, d, S1, h1, hd, hS1, q1⟩ := ha S _ hS q
  exact ⟨!x, S1, by simp only [den, h1, hd, Option.map_some], hS1, q1⟩
theorem RE_ite {t a b : E} {m : ND Bool} {m1 m2 : ND α} (ht : RC Φ G t η m) (ha : RE Φ G a η m1 ea) (hb : RE Φ G b η m2 ea) : RE Φ G (.ite t a b) η (bnd m fun c => if c then m1 else m2) ea := fun S Q hS q => by
  obtain ⟨x, d, S1, h1, hd, hS1, q1⟩ := ht S _ hS q
  cases x with
  | true =>
    obtain ⟨y, S2, h2, q2⟩ := ha S1 _ hS1 q1
    exact ⟨y, S2, by simp only [den, h1, hd]; exact h2, q2⟩
  | false =>
    obtain ⟨y, S2, h2, q2⟩ := hb S1 _ hS1 q1
    exact ⟨y, S2, by simp only [den, h1, hd]; exact h2, q2⟩
theorem RE_neg {a : E} {m : ND Int} (ha : RE Φ G a η m PyData.int) : RE Φ G (.neg a) η (bnd m fun i => ret (-i)) PyData.int := fun S Q hS q => by
  obtain ⟨x, S1, h1, hS1, q1⟩ := ha S _ hS q
  exact ⟨-x, S1, by simp only [den, h1], hS1, q1⟩
theorem RE_idx {a b : E} {f : α → β → Option γ} (ha : RT Φ G a η ma ea) (hb : RE Φ G b η mb eb) (hop : ∀ x y z, f x y = some z → ∀ S, idxD S (ea x) (eb y) = some (ec z)) : RE Φ G (.idx a b) η (bnd ma fun x => bnd mb fun y => lft (f x y)) ec := fun S Q hS q => by
  obtain ⟨x, S1, h1, hS1, q1⟩ := ha S _ hS q
  obtain ⟨y, S2, h2, hS2, z, hz, q2⟩ := hb S1 _ hS1 q1
  exact ⟨z, S2, by simp only [den, h1, h2, hop x y z hz, Option.map_some], hS2, q2⟩
/-- a place of a tuple -/
theorem RE_fst {a : E} {i : Int} {f : α → β} (ha : RT Φ G a η ma ea) (hop : ∀ x S, idxD S (ea x) (.int i) = some (eb (f x))) : RE Φ G (.idx a (.con (.int i))) η (bnd ma fun x => ret (f x)) eb := fun S Q hS q => by
  obtain ⟨x, S1, h1, hS1, q1⟩ := ha S _ hS q
  exact ⟨f x, S1, by simp only [den, h1, hop, Option.map_some], hS1, q1⟩
theorem RE_sl {a lo hi : E} {el : β → D} {eh : γ → D} {f : α → β → γ → Option δ} (ha : RT Φ G a η ma ea) (hl : RE Φ G lo η mb el) (hh : RE Φ G hi η mc eh) (ol : ∀ x, okPart lo (el x) = true) (oh : ∀ x, okPart hi (eh x) = true) (hop : ∀ x l h z, f x l h = some z → slD (ea x) (el l) (eh h) = some (ed z)) :
    RE Φ G (.sl a lo hi) η (bnd ma fun x => bnd mb fun l => bnd mc fun h => lft (f x l h)) ed := fun S Q hS q => by
  obtain ⟨x, S1, h1, hS1, q1⟩ := ha S _ hS q
  obtain ⟨y, S2, h2, hS2, q2⟩ := hl S1 _ hS1 q1
  obtain ⟨z, S3, h3, hS3, w, hw, q3⟩ := hh S2 _ hS2 q2
  exact ⟨w, S3, by simp only [den, h1, h2, h3, ol, oh, Bool.and_self, if_true, hop x y z w hw, Option.map_some], hS3, q3⟩
theorem RE_rev {a : E} {m : ND (List α)} (ha : RT Φ G a η m (eL ea)) : RE Φ G (.rev a) η (bnd m fun l => ret l.reverse) (eL ea) := fun S Q hS q => by
  obtain ⟨x, S1, h1, hS1, q1⟩ := ha S _ hS q
  exact ⟨x.reverse, S1, by simp only [den, h1, eL, List.map_reverse], hS1, q1⟩
/-! items -/
theorem RL_nil : RL Φ G [] η (ret []) ea := fun S Q hS q => ⟨[], S, by simp only [denL, List.map_nil], hS, q⟩
theorem RL_cons {e : E} {es : List E} {m : ND (List α)} (h : RE Φ G e η ma ea) (t : RL Φ G es η m ea) : RL Φ G (e :: es) η (bnd ma fun x => bnd m fun xs => ret (x :: xs)) ea := fun S Q hS q => by
  obtain ⟨x, S1, h1, hS1, q1⟩ := h S _ hS q
  obtain ⟨y, S2, h2, hS2, q2⟩ := t S1 _ hS1 q1
  exact ⟨x :: y, S2, by simp only [denL, h1, h2, List.map_cons], hS2, q2⟩
theorem RA_nil : RA Φ G [] η (ret []) := fun S Q hS q => ⟨[], S, by simp only [denA], hS, q⟩
theorem RA_cons {e : E} {es : List E} {m : ND (List D)} (h : RT Φ G e η ma ea) (t : RA Φ G es η m) : RA Φ G (e :: es) η (bnd ma fun x => bnd m fun xs => ret (ea x :: xs)) := fun S Q hS q => by
  obtain ⟨x, S1, h1, hS1, q1⟩ := h S _ hS q
  obtain ⟨y, S2, h2, hS2, q2⟩ := t S1 _ hS1 q1
  exact ⟨ea x :: y, S2, by simp only [denA, h1, h2], hS2, q2⟩
theorem RLD_nil : RLD Φ G [] η (ret []) := fun S Q hS q => ⟨[], S, by simp only [denL], hS, q⟩
theorem RLD_cons {e : E} {es : List E} {m : ND (List D)} (h : RE Φ G e η ma ea) (t : RLD Φ G es η m) : RLD Φ G (e :: es) η (bnd ma fun x => bnd m fun xs => ret (ea x :: xs)) := fun S Q hS q => by
  obtain ⟨x, S1, h1, hS1, q1⟩ := h S _ hS q
  obtain ⟨y, S2, h2, hS2, q2⟩ := t S1 _ hS1 q1
  exact ⟨ea x :: y, S2, by simp only [denL, h1, h2], hS2, q2⟩
theorem lineD_small {n : Nat} (h : n ≤ 1000) : lineD n = true := by
  simp only [lineD, sizeLine_eq, decide_eq_true_eq]
  omega
theorem RE_lst {es : List E} {m : ND (List α)} (hl : es.length ≤ 1000) (h : RL Φ G es η m ea) : RE Φ G (.lst es) η m (eL ea) := fun S Q hS q => by
  obtain ⟨x, S1, h1, hS1, q1⟩ := h S _ hS q
  have hx : ∀ (es : List E) (S : Sc) (y : List D) (S1 : Sc), denL Φ G es η S = some (y, S1) → y.length = es.length := by
    intro es
    induction es with
    | nil => intro S y S1 h; simp only [denL] at h; cases h; rfl
    | cons e es ih =>
      intro S y S1 h
      simp only [denL] at h
      split at h
      · split at h
        · cases h
          rw [List.length_cons, List.length_cons]
          rename_i h2
          rw [ih _ _ _ h2]
        · cases h
      · cases h
  exact ⟨x, S1, by simp only [den, h1]; rw [if_pos (lineD_small (by rw [hx _ _ _ _ h1]; exact hl))]; rfl, hS1, q1⟩
theorem RE_tupT {es : List E} {m : ND (List α)} (hl : es.length ≤ 1000) (h : RL Φ G es η m ea) : RE Φ G (.tup es) η m (eT ea) := fun S Q hS q => by
  obtain ⟨x, S1, h1, hS1, q1⟩ := h S _ hS q
  have hx : ∀ (es : List E) (S : Sc) (y : List D) (S1 : Sc), denL Φ G es η S = some (y, S1) → y.length = es.length := by
    intro es
    induction es with
    | nil => intro S y S1 h; simp only [denL] at h; cases h; rfl
    | cons e es ih =>
      intro S y S1 h
      simp only [denL] at h
      split at h
      · split at h
        · cases h
          rw [List.length_cons, List.length_cons]
          rename_i h2
          rw [ih _ _ _ h2]
        · cases h
      · cases h
  exact ⟨x, S1, by simp only [den, h1]; rw [if_pos (lineD_small (by rw [hx _ _ _ _ h1]; exact hl))]; rfl, hS1, q1⟩
theorem RE_tup1 {a : E} (ha : RE Φ G a η ma ea) : RE Φ G (.tup [a]) η ma (eP1 ea) := fun S Q hS q => by
  obtain ⟨x, S1, h1, hS1, q1⟩ := ha S _ hS q
  exact ⟨x, S1, by simp only [den, denL, h1]; rw [if_pos (lineD_small (by simp))]; rfl, hS1, q1⟩
theorem RE_tup2 {a b : E} (ha : RE Φ G a η ma ea) (hb : RE Φ G b η mb eb) : RE Φ G (.tup [a, b]) η (bnd ma fun x => bnd mb fun y => ret (x, y)) (eP2 ea eb) := fun S Q hS q => by
  obtain ⟨x, S1, h1, hS1, q1⟩ := ha S _ hS q
  obtain ⟨y, S2, h2, hS2, q2⟩ := hb S1 _ hS1 q1
  exact ⟨(x, y), S2, by simp only [den, denL, h1, h2]; rw [if_pos (lineD_small (by simp))]; rfl, hS2, q2⟩
theorem RE_tup3 {a b c : E} (ha : RE Φ G a η ma ea) (hb : RE Φ G b η mb eb) (hc : RE Φ G c η mc ec) : RE Φ G (.tup [a, b, c]) η (bnd ma fun x => bnd mb fun y => bnd mc fun z => ret (x, y, z)) (eP3 ea eb ec) := fun S Q hS q => by
  obtain ⟨x, S1, h1, hS1, q1⟩ := ha S _ hS q
  obtain ⟨y, S2, h2, hS2, q2⟩ := hb S1 _ hS1 q1
  obtain ⟨z, S3, h3, hS3, q3⟩ := hc S2 _ hS2 q2
  exact ⟨(x, y, z), S3, by simp only [den, denL, h1, h2, h3]; rw [if_pos (lineD_small (by simp))]; rfl, hS3, q3⟩
theorem RE_tup4 {a b c d : E} {md : ND δ} (ha : RE Φ G a η ma ea) (hb : RE Φ G b η mb eb) (hc : RE Φ G c η mc ec) (hd : RE Φ G d η md ed) : RE Φ G (.tup [a, b, c, d]) η (bnd ma fun x => bnd mb fun y => bnd mc fun z => bnd md fun w => ret (x, y, z, w)) (eP4 ea eb ec ed) := fun S Q hS q => by
  obtain ⟨x, S1, h1, hS1, q1⟩ := ha S _ hS q
  obtain ⟨y, S2, h2, hS2, q2⟩ := hb S1 _ hS1 q1
  obtain ⟨z, S3, h3, hS3, q3⟩ := hc S2 _ hS2 q2
  obtain ⟨w, S4, h4, hS4, q4⟩ := hd S3 _ hS3 q3
  exact ⟨(x, y, z, w), S4, by simp only [den, denL, h1, h2, h3, h4]; rw [if_pos (lineD_small (by simp))]; rfl, hS4, q4⟩
theorem RE_tup5 {a b c d e : E} {md : ND δ} {me : ND ε} {ee : ε → D} (ha : RE Φ G a η ma ea) (hb : RE Φ G b η mb eb) (hc : RE Φ G c η mc ec) (hd : RE Φ G d η md ed) (he : RE Φ G e η me ee) : RE Φ G (.tup [a, b, c, d, e]) η (bnd ma fun x => bnd mb fun y => bnd mc fun z => bnd md fun w => bnd me fun v => ret (x, y, z, w, v)) (eP5 ea eb ec ed ee) := fun S Q hS q => by
  obtain ⟨x, S1, h1, hS1, q1⟩ := ha S _ hS q
  obtain ⟨y, S2, h2, hS2, q2⟩ := hb S1 _ hS1 q1
  obtain ⟨z, S3, h3, hS3, q3⟩ := hc S2 _ hS2 q2
  obtain ⟨w, S4, h4, hS4, q4⟩ := hd S3 _ hS3 q3
  obtain ⟨v, S5, h5, hS5, q5⟩ := he S4 _ hS4 q4
  exact ⟨(x, y, z, w, v), S5, by simp only [den, denL, h1, h2, h3, h4, h5]; rw [if_pos (lineD_small (by simp))]; rfl, hS5, q5⟩
/-- a tuple as a datum -/
theorem RE_tupD {es : List E} {m : ND (List D)} (h : RLD Φ G es η m) : RE Φ G (.tup es) η (bnd m fun l => lft (if lineD l.length then some (PyData.tuple l) else none)) eD := fun S Q hS q => by
  obtain ⟨x, S1, h1, hS1, y, hy, q1⟩ := h S _ hS q
  split at hy
  · rename_i hl
    cases hy
    exact ⟨_, S1, by simp only [den, h1]; rw [if_pos hl]; rfl, hS1, q1⟩
  · cases hy
/-! calls -/
/-- no list within, or a new list of such -/
def Flat (e : α → D) (nwb : Bool) : Prop := ∀ x, (flatD (e x) || (nwb && flatL (e x))) = true
theorem RE_call {f : Str} {es : List E} {m : ND (List D)} {mf : List D → ND α} {nwb : Bool} (h : RA Φ G es η m) (hf : ∀ ds, RF Φ f ds (mf ds) ea nwb) (ho : es.any (ownedE η) = false ∨ Flat ea nwb) : RE Φ G (.call f es) η (bnd m mf) ea := fun S Q hS q => by
  obtain ⟨ds, S1, h1, hS1, q1⟩ := h S _ hS q
  obtain ⟨x, nw, S2, h2, hn, hS2, q2⟩ := hf ds S1 _ hS1 q1
  refine ⟨x, S2, ?_, hS2, q2⟩
  simp only [den, h1, h2]
  rw [if_neg]
  intro hc
  rw [Bool.and_eq_true, Bool.not_eq_true'] at hc
  rcases ho with ho | ho
  · rw [ho] at hc; exact absurd hc.1 (by simp)
  · have := ho x
    revert hc this
    cases nwb with
    | true => rw [hn rfl]; intro h1 h2; rw [h2] at h1; exact absurd h1.2 (by simp)
    | false => intro h1 h2; simp at h2; rw [h2] at h1; exact absurd h1.2 (by simp)
theorem call_ok {ho : Prop} {es : List E} {d : D} {nw nwb : Bool} (hn : nwb = true → nw = true) (ho : es.any (ownedE η) = false ∨ (flatD d || (nwb && flatL d)) = true) : (es.any (ownedE η) && !(flatD d || (nw && flatL d))) = false := by
  rcases ho with ho | ho
  · rw [ho]; rfl
  · cases nwb with
    | true => rw [hn rfl]; rw [Bool.true_and] at *; rw [ho]; simp
    | false => simp at ho; rw [ho]; simp
theorem RE_call1 {f : Str} {a : E} {mf : α → ND δ} {nwb : Bool} (ha : RT Φ G a η ma ea) (hf : ∀ x, RF Φ f [ea x] (mf x) ed nwb) (ho : [a].any (ownedE η) = false ∨ Flat ed nwb) : RE Φ G (.call f [a]) η (bnd ma mf) ed := fun S Q hS q => by
  obtain ⟨x, S1, h1, hS1, q1⟩ := ha S _ hS q
  obtain ⟨z, nw, S2, h2, hn, hS2, q2⟩ := hf x S1 _ hS1 q1
  exact ⟨z, S2, by simp only [den, denA, h1, h2]; rw [call_ok (ho := True) hn (ho.imp_right fun h => h z)]; rfl, hS2, q2⟩
theorem RE_call2 {f : Str} {a b : E} {mf : α → β → ND δ} {nwb : Bool} (ha : RT Φ G a η ma ea) (hb : RT Φ G b η mb eb) (hf : ∀ x y, RF Φ f [ea x, eb y] (mf x y) ed nwb) (ho : [a, b].any (ownedE η) = false ∨ Flat ed nwb) : RE Φ G (.call f [a, b]) η (bnd ma fun x => bnd mb fun y => mf x y) ed := fun S Q hS q => by
  obtain ⟨x, S1, h1, hS1, q1⟩ := ha S _ hS q
  obtain ⟨y, S2, h2, hS2, q2⟩ := hb S1 _ hS1 q1
  obtain ⟨z, nw, S3, h3, hn, hS3, q3⟩ := hf x y S2 _ hS2 q2
  exact ⟨z, S3, by simp only [den, denA, h1, h2, h3]; rw [call_ok (ho := True) hn (ho.imp_right fun h => h z)]; rfl, hS3, q3⟩
theorem RE_call3 {f : Str} {a b c : E} {mf : α → β → γ → ND δ} {nwb : Bool} (ha : RT Φ G a η ma ea) (hb : RT Φ G b η mb eb) (hc : RT Φ G c η mc ec) (hf : ∀ x y z, RF Φ f [ea x, eb y, ec z] (mf x y z) ed nwb) (ho : [a, b, c].any (ownedE η) = false ∨ Flat ed nwb) : RE Φ G (.call f [a, b, c]) η (bnd ma fun x => bnd mb fun y => bnd mc fun z => mf x y z) ed := fun S Q hS q => by
  obtain ⟨x, S1, h1, hS1, q1⟩ := ha S _ hS q
  obtain ⟨y, S2, h2, hS2, q2⟩ := hb S1 _ hS1 q1
  obtain ⟨z, S3, h3, hS3, q3⟩ := hc S2 _ hS2 q2
  obtain ⟨w, nw, S4, h4, hn, hS4, q4⟩ := hf x y z S3 _ hS3 q3
  exact ⟨w, S4, by simp only [den, denA, h1, h2, h3, h4]; rw [call_ok (ho := True) hn (ho.imp_right fun h => h w)]; rfl, hS4, q4⟩
theorem RE_call4 {f : Str} {a b c d : E} {md : ND δ} {mf : α → β → γ → δ → ND ε} {ee : ε → D} {nwb : Bool} (ha : RT Φ G a η ma ea) (hb : RT Φ G b η mb eb) (hc : RT Φ G c η mc ec) (hd : RT Φ G d η md ed) (hf : ∀ x y z w, RF Φ f [ea x, eb y, ec z, ed w] (mf x y z w) ee nwb) (ho : [a, b, c, d].any (ownedE η) = false ∨ Flat ee nwb) :
    RE Φ G (.call f [a, b, c, d]) η (bnd ma fun x => bnd mb fun y => bnd mc fun z => bnd md fun w => mf x y z w) ee := fun S Q hS q => by
  obtain ⟨x, S1, h1, hS1, q1⟩ := ha S _ hS q
  obtain ⟨y, S2, h2, hS2, q2⟩ := hb S1 _ hS1 q1
  obtain ⟨z, S3, h3, hS3, q3⟩ := hc S2 _ hS2 q2
  obtain ⟨w, S4, h4, hS4, q4⟩ := hd S3 _ hS3 q3
  obtain ⟨v, nw, S5, h5, hn, hS5, q5⟩ := hf x y z w S4 _ hS4 q4
  exact ⟨v, S5, by simp only [den, denA, h1, h2, h3, h4, h5]; rw [call_ok (ho := True) hn (ho.imp_right fun h => h v)]; rfl, hS5, q5⟩
theorem RE_call5 {f : Str} {a b c d e : E} {md : ND δ} {me : ND ε} {mf : α → β → γ → δ → ε → ND ζ} {ee : ε → D} {ef : ζ → D} {nwb : Bool} (ha : RT Φ G a η ma ea) (hb : RT Φ G b η mb eb) (hc : RT Φ G c η mc ec) (hd : RT Φ G d η md ed) (he : RT Φ G e η me ee) (hf : ∀ x y z w v, RF Φ f [ea x, eb y, ec z, ed w, ee v] (mf x y z w v) ef nwb) (ho : [a, b, c, d, e].any (ownedE η) = false ∨ Flat ef nwb) :
    RE Φ G (.call f [a, b, c, d, e]) η (bnd ma fun x => bnd mb fun y => bnd mc fun z => bnd md fun w => bnd me fun v => mf x y z w v) ef := fun S Q hS q => by
  obtain ⟨x, S1, h1, hS1, q1⟩ := ha S _ hS q
  obtain ⟨y, S2, h2, hS2, q2⟩ := hb S1 _ hS1 q1
  obtain ⟨z, S3, h3, hS3, q3⟩ := hc S2 _ hS2 q2
  obtain ⟨w, S4, h4, hS4, q4⟩ := hd S3 _ hS3 q3
  obtain ⟨v, S5, h5, hS5, q5⟩ := he S4 _ hS4 q4
  obtain ⟨u, nw, S6, h6, hn, hS6, q6⟩ := hf x y z w v S5 _ hS5 q5
  exact ⟨u, S6, by simp only [den, denA, h1, h2, h3, h4, h5, h6]; rw [call_ok (ho := True) hn (ho.imp_right fun h => h u)]; rfl, hS6, q6⟩
theorem RE_call6 {θ : Type} {f : Str} {a b c d e g : E} {md : ND δ} {me : ND ε} {mg : ND ζ} {mf : α → β → γ → δ → ε → ζ → ND θ} {ee : ε → D} {eg : ζ → D} {ef : θ → D} {nwb : Bool} (ha : RT Φ G a η ma ea) (hb : RT Φ G b η mb eb) (hc : RT Φ G c η mc ec) (hd : RT Φ G d η md ed) (he : RT Φ G e η me ee) (hg : RT Φ G g η mg eg) (hf : ∀ x y z w v u, RF Φ f [ea x, eb y, ec z, ed w, ee v, eg u] (mf x y z w v u) ef nwb) (ho : [a, b, c, d, e, g].any (ownedE η) = false ∨ Flat ef nwb) :
    RE Φ G (.call f [a, b, c, d, e, g]) η (bnd ma fun x => bnd mb fun y => bnd mc fun z => bnd md fun w => bnd me fun v => bnd mg fun u => mf x y z w v u) ef := fun S Q hS q => by
  obtain ⟨x, S1, h1, hS1, q1⟩ := ha S _ hS q
  obtain ⟨y, S2, h2, hS2, q2⟩ := hb S1 _ hS1 q1
  obtain ⟨z, S3, h3, hS3, q3⟩ := hc S2 _ hS2 q2
  obtain ⟨w, S4, h4, hS4, q4⟩ := hd S3 _ hS3 q3
  obtain ⟨v, S5, h5, hS5, q5⟩ := he S4 _ hS4 q4
  obtain ⟨u, S6, h6, hS6, q6⟩ := hg S5 _ hS5 q5
  obtain ⟨t, nw, S7, h7, hn, hS7, q7⟩ := hf x y z w v u S6 _ hS6 q6
  exact ⟨t, S7, by simp only [den, denA, h1, h2, h3, h4, h5, h6, h7]; rw [call_ok (ho := True) hn (ho.imp_right fun h => h t)]; rfl, hS7, q7⟩
theorem RE_blt1 {o : Blt} {a : E} {f : α → Option β} (ha : RT Φ G a η ma ea) (hop : ∀ x z, f x = some z → bltD o [ea x] = some (eb z)) : RE Φ G (.blt o [a]) η (bnd ma fun x => lft (f x)) eb := fun S Q hS q => by
  obtain ⟨x, S1, h1, hS1, z, hz, q1⟩ := ha S _ hS q
  exact ⟨z, S1, by simp only [den, denA, h1, hop x z hz, Option.map_some], hS1, q1⟩
theorem RE_blt2 {o : Blt} {a b : E} {f : α → β → Option γ} (ha : RT Φ G a η ma ea) (hb : RT Φ G b η mb eb) (hop : ∀ x y z, f x y = some z → bltD o [ea x, eb y] = some (ec z)) : RE Φ G (.blt o [a, b]) η (bnd ma fun x => bnd mb fun y => lft (f x y)) ec := fun S Q hS q => by
  obtain ⟨x, S1, h1, hS1, q1⟩ := ha S _ hS q
  obtain ⟨y, S2, h2, hS2, z, hz, q2⟩ := hb S1 _ hS1 q1
  exact ⟨z, S2, by simp only [den, denA, h1, h2, hop x y z hz, Option.map_some], hS2, q2⟩
end
end Mr

/-! Mr2: rules for comprehensions and statements. -/
namespace Mr
open PySem Dv
section
variable {Φ : Dv.Callee} {G : Str → Option D}
variable {α β γ δ ε ζ σ ρ τ : Type} {η : Dv.Env} {ma : ND α} {mb : ND β} {mc : ND γ} {ea : α → D} {eb : β → D} {ec : γ → D} {ed : δ → D}
/-! dicts' entries -/
theorem keyIsI_int (i j : Int) : keyIsI i (.int j) = decide (j = i) := rfl
theorem keyIsI_true {i : Int} {d : D} (h : keyIsI i d = true) : d = .int i := by
  cases d <;> simp [keyIsI] at h
  rw [h]
theorem lookI_putI (kvs : List (D × D)) (k : Int) (x : D) (i : Int) : lookI (putI kvs k x) i = if k = i then some x else lookI kvs i := by
  unfold lookI putI
  by_cases ha : (kvs.any fun kv => keyIsI k kv.1) = true
  · rw [if_pos ha]
    induction kvs with
    | nil => simp at ha
    | cons kv kvs ih =>
      simp only [List.map_cons, List.find?_cons]
      by_cases hk : keyIsI k kv.1 = true
      · rw [if_pos hk]
        simp only
        rw [keyIsI_true hk, keyIsI_int]
        by_cases hi : k = i
        · simp [hi]
        · rw [if_neg hi, decide_eq_false hi]
          simp only
          have hn : ∀ kvs : List (D × D), List.find? (fun kv => keyIsI i kv.1) (kvs.map fun kv => if keyIsI k kv.1 = true then (kv.1, x) else kv) = List.find? (fun kv => keyIsI i kv.1) kvs := by
            intro kvs
            induction kvs with
            | nil => rfl
            | cons kv kvs ih =>
              simp only [List.map_cons, List.find?_cons]
              by_cases hk : keyIsI k kv.1 = true
              · rw [if_pos hk, keyIsI_true hk, keyIsI_int, decide_eq_false hi]
                exact ih
              · rw [if_neg hk, ih]
          rw [hn]
      · rw [if_neg hk]
        cases hik : keyIsI i kv.1 with
        | true =>
          simp only
          have : k ≠ i := by
            rintro rfl
            exact hk hik
          rw [if_neg this]
        | false =>
          simp only
          refine ih ?_
          simp only [List.any_cons, Bool.or_eq_true] at ha
          exact ha.resolve_left hk
  · rw [if_neg ha]
    rw [List.find?_append]
    simp only [Bool.not_eq_true, List.any_eq_false] at ha
    by_cases hi : k = i
    · subst hi
      rw [List.find?_eq_none.2 (by simpa using ha)]
      simp [keyIsI]
    · rw [if_neg hi]
      cases List.find? (fun kv => keyIsI i kv.1) kvs with
      | none => simp [keyIsI, hi]
      | some y => rfl
theorem lookI_kvs (m : List (Int × α)) (i : Int) : lookI (kvs ea m) i = (look m i).map ea := by
  have main : ∀ (m : List (Int × α)) (acc : List (D × D)) (a : Option α), lookI acc i = a.map ea → lookI (m.foldl (fun acc p => putI acc p.1 (ea p.2)) acc) i = (m.foldl (fun a p => if p.1 = i then some p.2 else a) a).map ea := by
    intro m
    induction m with
    | nil => intro acc a h; exact h
    | cons p m ih =>
      intro acc a h
      simp only [List.foldl_cons]
      refine ih _ _ ?_
      rw [lookI_putI]
      by_cases hp : p.1 = i
      · rw [if_pos hp, if_pos hp]; rfl
      · rw [if_neg hp, if_neg hp]; exact h
  exact main m [] none rfl
theorem putI_keys {kvs : List (D × D)} {k : Int} {x : D} (h : ∀ kv ∈ kvs, ∃ i, kv.1 = PyData.int i) : ∀ kv ∈ putI kvs k x, ∃ i, kv.1 = PyData.int i := by
  intro kv hm
  unfold putI at hm
  split at hm
  · obtain ⟨kv0, h0, h1⟩ := List.mem_map.1 hm
    split at h1 <;> subst h1 <;> exact h kv0 h0
  · rcases List.mem_append.1 hm with h1 | h1
    · exact h kv h1
    · rw [List.mem_singleton.1 h1]; exact ⟨k, rfl⟩
theorem kvs_keys (m : List (Int × α)) : ∀ kv ∈ kvs ea m, ∃ i, kv.1 = PyData.int i := by
  have main : ∀ (m : List (Int × α)) (acc : List (D × D)), (∀ kv ∈ acc, ∃ i, kv.1 = PyData.int i) → ∀ kv ∈ m.foldl (fun acc p => putI acc p.1 (ea p.2)) acc, ∃ i, kv.1 = PyData.int i := by
    intro m
    induction m with
    | nil => intro acc h; exact h
    | cons p m ih => intro acc h; exact ih _ (putI_keys h)
  exact main m [] (by simp)
theorem tab_kvs (m : List (Int × α)) : tabD (eM ea m) = some (kvs ea m) := by
  have h := kvs_keys (ea := ea) m
  unfold eM
  generalize kvs ea m = kvs at h ⊢
  unfold tabD
  split
  · rename_i e
    cases e
    obtain ⟨i, hi⟩ := h _ List.mem_cons_self
    cases hi
  · rename_i e
    cases e
    rfl
  · rename_i e
    exact absurd rfl (e kvs)
theorem op_dict (l : List (Int × α)) : dictD (l.map (eP2 PyData.int ea)) [] = some (kvs ea l) := by
  have main : ∀ (m : List (Int × α)) (acc : List (D × D)), dictD (m.map (eP2 PyData.int ea)) acc = some (m.foldl (fun acc p => putI acc p.1 (ea p.2)) acc) := by
    intro m
    induction m with
    | nil => intro acc; rfl
    | cons p m ih => intro acc; simp only [List.map_cons, List.foldl_cons]; exact ih _
  exact main l []
theorem RE_get {o k : E} {m : ND (List (Int × α))} {mk : ND Int} (ho : RT Φ G o η m (eM ea)) (hk : RE Φ G k η mk PyData.int) : RE Φ G (.get o k) η (bnd m fun t => bnd mk fun i => ret (look t i)) (eO ea) := fun S Q hS q => by
  obtain ⟨x, S1, h1, hS1, q1⟩ := ho S _ hS q
  obtain ⟨y, S2, h2, hS2, q2⟩ := hk S1 _ hS1 q1
  refine ⟨look x y, S2, ?_, hS2, q2⟩
  simp only [den, h1, h2, tab_kvs, lookI_kvs]
  cases look x y <;> rfl
theorem RE_get2 {o k d : E} {m : ND (List (Int × α))} {mk : ND Int} (ho : RT Φ G o η m (eM ea)) (hk : RE Φ G k η mk PyData.int) (hd : RE Φ G d η ma ea) : RE Φ G (.get2 o k d) η (bnd m fun t => bnd mk fun i => bnd ma fun z => ret ((look t i).getD z)) ea := fun S Q hS q => by
  obtain ⟨x, S1, h1, hS1, q1⟩ := ho S _ hS q
  obtain ⟨y, S2, h2, hS2, q2⟩ := hk S1 _ hS1 q1
  obtain ⟨z, S3, h3, hS3, q3⟩ := hd S2 _ hS2 q2
  refine ⟨(look x y).getD z, S3, ?_, hS3, q3⟩
  simp only [den, h1, h2, h3, tab_kvs, lookI_kvs]
  cases look x y <;> rfl
/-! what is walked -/
def upto (n : Int) : List Int := (List.range n.toNat).map fun (k : Nat) => (k : Int)
def fromto (a b : Int) : List Int := (List.range (b - a).toNat).map fun (k : Nat) => a + (k : Int)
def rngO (n : Int) : Option (List Int) := if n ≤ 1000000 ∧ -1000000 ≤ n then some (upto n) else none
def rng2O (a b : Int) : Option (List Int) := if -1000000 ≤ a ∧ a ≤ 1000000 ∧ -1000000 ≤ b ∧ b ≤ 1000000 then some (fromto a b) else none
theorem rangeD_upto (n : Int) : rangeD 0 n.toNat = (upto n).map PyData.int := by
  unfold rangeD upto
  rw [List.map_map]
  refine List.map_congr_left fun k _ => ?_
  show PyData.int (0 + (k : Int)) = PyData.int (k : Int)
  rw [Int.zero_add]
theorem RE_rng1 {a : E} {m : ND Int} (ha : RE Φ G a η m PyData.int) : RE Φ G (.rng1 a) η (bnd m fun n => lft (rngO n)) (eL PyData.int) := fun S Q hS q => by
  obtain ⟨x, S1, h1, hS1, z, hz, q1⟩ := ha S _ hS q
  unfold rngO at hz
  split at hz
  · rename_i hc
    cases hz
    refine ⟨_, S1, ?_, hS1, q1⟩
    simp only [den, h1]
    rw [if_pos (by omega), rangeD_upto]
    rfl
  · cases hz
theorem RE_rng2 {a b : E} {m m' : ND Int} (ha : RE Φ G a η m PyData.int) (hb : RE Φ G b η m' PyData.int) : RE Φ G (.rng2 a b) η (bnd m fun x => bnd m' fun y => lft (rng2O x y)) (eL PyData.int) := fun S Q hS q => by
  obtain ⟨x, S1, h1, hS1, q1⟩ := ha S _ hS q
  obtain ⟨y, S2, h2, hS2, z, hz, q2⟩ := hb S1 _ hS1 q1
  unfold rng2O at hz
  split at hz
  · rename_i hc
    cases hz
    refine ⟨_, S2, ?_, hS2, q2⟩
    simp only [den, h1, h2]
    rw [if_pos hc]
    simp only [eL, fromto, rangeD, List.map_map]
    rfl
  · cases hz
theorem zip_enc (x : List α) (y : List β) : ((x.map ea).zip (y.map eb)).map (fun p => PyData.tuple [p.1, p.2]) = (x.zip y).map (eP2 ea eb) := by
  rw [List.zip_map, List.map_map]
  rfl
theorem RE_zipL {a b : E} {m : ND (List α)} {m' : ND (List β)} (ha : RT Φ G a η m (eL ea)) (hb : RT Φ G b η m' (eL eb)) : RE Φ G (.zip a b) η (bnd m fun x => bnd m' fun y => ret (x.zip y)) (eL (eP2 ea eb)) := fun S Q hS q => by
  obtain ⟨x, S1, h1, hS1, q1⟩ := ha S _ hS q
  obtain ⟨y, S2, h2, hS2, q2⟩ := hb S1 _ hS1 q1
  exact ⟨_, S2, by simp only [den, h1, h2, eL]; rw [← zip_enc], hS2, q2⟩
theorem RE_zipT {a b : E} {m : ND (List α)} {m' : ND (List β)} (ha : RT Φ G a η m (eT ea)) (hb : RT Φ G b η m' (eT eb)) : RE Φ G (.zip a b) η (bnd m fun x => bnd m' fun y => ret (x.zip y)) (eL (eP2 ea eb)) := fun S Q hS q => by
  obtain ⟨x, S1, h1, hS1, q1⟩ := ha S _ hS q
  obtain ⟨y, S2, h2, hS2, q2⟩ := hb S1 _ hS1 q1
  exact ⟨_, S2, by simp only [den, h1, h2, eL, eT]; rw [← zip_enc], hS2, q2⟩
def enumI (l : List α) : List (Int × α) := l.zipIdx.map fun p => ((p.2 : Int), p.1)
theorem enum_enc (l : List α) : ((l.map ea).zipIdx.map fun p => PyData.tuple [.int (p.2 : Nat), p.1]) = (enumI l).map (eP2 PyData.int ea) := by
  unfold enumI
  rw [List.zipIdx_map, List.map_map, List.map_map]
  rfl
/-- e reads as the items of a list or tuple -/
def Its (e : β → D) (its : β → List α) (ea : α → D) : Prop := ∀ x, itemsD (e x) = some ((its x).map ea)
theorem its_L : Its (eL ea) (fun l => l) ea := fun _ => rfl
theorem its_T : Its (eT ea) (fun l => l) ea := fun _ => rfl
theorem its_P1 : Its (eP1 ea) (fun l => [l]) ea := fun _ => rfl
theorem its_P2 : Its (eP2 ea ea) (fun l => [l.1, l.2]) ea := fun _ => rfl
theorem its_P3 : Its (eP3 ea ea ea) (fun l => [l.1, l.2.1, l.2.2]) ea := fun _ => rfl
theorem its_P4 : Its (eP4 ea ea ea ea) (fun l => [l.1, l.2.1, l.2.2.1, l.2.2.2]) ea := fun _ => rfl
theorem RE_enum {a : E} {its : β → List α} (ha : RT Φ G a η mb eb) (hi : Its eb its ea) : RE Φ G (.enum a) η (bnd mb fun x => ret (enumI (its x))) (eL (eP2 PyData.int ea)) := fun S Q hS q => by
  obtain ⟨x, S1, h1, hS1, q1⟩ := ha S _ hS q
  exact ⟨_, S1, by simp only [den, h1, hi x, Option.map_some]; rw [enum_enc]; rfl, hS1, q1⟩
/-! comprehensions -/
theorem lcF_gen {turn : D → Sc → Option (Option D × Sc)} {f : α → ND γ} (ht : ∀ a S Q, Ok S → f a Q → ∃ y S', turn (ea a) S = some (some (ec y), S') ∧ Ok S' ∧ Q y) : ∀ (l : List α) (S : Sc) (Q : List γ → Prop), Ok S → mp f l Q → ∃ ys S', lcF turn (l.map ea) S = some (ys.map ec, S') ∧ Ok S' ∧ Q ys := by
  intro l
  induction l with
  | nil => intro S Q hS q; exact ⟨[], S, by simp only [List.map_nil, lcF], hS, q⟩
  | cons a l ih =>
    intro S Q hS q
    obtain ⟨y, S2, h2, hS2, q2⟩ := ht a S _ hS q
    obtain ⟨ys, S3, h3, hS3, q3⟩ := ih S2 _ hS2 q2
    refine ⟨y :: ys, S3, ?_, hS3, q3⟩
    simp only [List.map_cons, lcF, h2, h3]
    rfl
theorem lcF_genf {turn : D → Sc → Option (Option D × Sc)} {p : α → ND Bool} {f : α → ND γ} (ht : ∀ a S (Q : Option γ → Prop), Ok S → p a (fun c => if c = true then f a (fun y => Q (some y)) else Q none) → ∃ y S', turn (ea a) S = some (y.map ec, S') ∧ Ok S' ∧ Q y) : ∀ (l : List α) (S : Sc) (Q : List γ → Prop), Ok S → fm p f l Q → ∃ ys S', lcF turn (l.map ea) S = some (ys.map ec, S') ∧ Ok S' ∧ Q ys := by
  intro l
  induction l with
  | nil => intro S Q hS q; exact ⟨[], S, by simp only [List.map_nil, lcF], hS, q⟩
  | cons a l ih =>
    intro S Q hS q
    obtain ⟨y, S2, h2, hS2, q2⟩ := ht a S (fun o => fm p f l fun ys => Q (o.toList ++ ys)) hS (by
      have e : fm p f (a :: l) Q = p a (fun c => if c = true then f a (fun y => fm p f l fun ys => Q (y :: ys)) else fm p f l Q) := by
        rw [fm, bnd_app]
        congr 1
        funext c
        cases c <;> rfl
      rw [e] at q
      exact q)
    obtain ⟨ys, S3, h3, hS3, q3⟩ := ih S2 _ hS2 q2
    refine ⟨y.toList ++ ys, S3, ?_, hS3, q3⟩
    simp only [List.map_cons, lcF, h2, h3]
    cases y <;> rfl
theorem lcF_end {turn : D → Sc → Option (Option D × Sc)} {l ys : List D} {S1 S2 : Sc} (h : lcF turn l S1 = some (ys, S2)) : (match lcF turn l S1 with
        | some (ys, S2) => some (PyData.list ys, S2)
        | none => none) = some (.list ys, S2) := by rw [h]
theorem RE_lc {g : Tg} {it e : E} {vs : List Nat} {its : β → List α} {f : α → ND γ} {ηf : α → Dv.Env} (hi : RT Φ G it η mb eb) (hs : Its eb its ea) (hb : ∀ a, bindT g (ea a) (wipeE η vs) = some (ηf a)) (he : ∀ a, RE Φ G e (ηf a) (f a) ec) :
    RE Φ G (.lc g it (.con (.bool true)) e vs) η (bnd mb fun x => mp f (its x)) (eL ec) := fun S Q hS q => by
  obtain ⟨x, S1, h1, hS1, q1⟩ := hi S _ hS q
  obtain ⟨ys, S2, h2, hS2, q2⟩ := lcF_gen (ea := ea) (ec := ec) (f := f) (turn := fun x S => match bindT g x (wipeE η vs) with
          | none => none
          | some η2 => match topE η2 S (den Φ G (.con (.bool true)) η2 S) (.con (.bool true)) with
            | none => none
            | some (b, S1) => match truD b with
              | none => none
              | some false => some (none, S1)
              | some true => match den Φ G e η2 S1 with
                | none => none
                | some (y, S2) => some (some y, S2)) (by
    intro a S Q hS q
    obtain ⟨y, S2, h2, hS2, q2⟩ := he a S _ hS q
    exact ⟨y, S2, by simp only [hb a, topE, den, truD, h2], hS2, q2⟩) _ S1 _ hS1 q1
  exact ⟨ys, S2, by rw [den]; simp only [h1, hs x]; exact lcF_end h2, hS2, q2⟩
theorem RE_lcf {g : Tg} {it t e : E} {vs : List Nat} {its : β → List α} {f : α → ND γ} {p : α → ND Bool} {ηf : α → Dv.Env} (hi : RT Φ G it η mb eb) (hs : Its eb its ea) (hb : ∀ a, bindT g (ea a) (wipeE η vs) = some (ηf a)) (ht : ∀ a, RC Φ G t (ηf a) (p a)) (he : ∀ a, RE Φ G e (ηf a) (f a) ec) :
    RE Φ G (.lc g it t e vs) η (bnd mb fun x => fm p f (its x)) (eL ec) := fun S Q hS q => by
  obtain ⟨x, S1, h1, hS1, q1⟩ := hi S _ hS q
  obtain ⟨ys, S2, h2, hS2, q2⟩ := lcF_genf (ea := ea) (ec := ec) (f := f) (p := p) (turn := fun x S => match bindT g x (wipeE η vs) with
          | none => none
          | some η2 => match topE η2 S (den Φ G t η2 S) t with
            | none => none
            | some (b, S1) => match truD b with
              | none => none
              | some false => some (none, S1)
              | some true => match den Φ G e η2 S1 with
                | none => none
                | some (y, S2) => some (some y, S2)) (by
    intro a S Q hS q
    obtain ⟨b, d, S2, h2, hd, hS2, q2⟩ := ht a S _ hS q
    cases b with
    | false => exact ⟨none, S2, by simp only [hb a, h2, hd]; rfl, hS2, by simpa using q2⟩
    | true =>
      obtain ⟨y, S3, h3, hS3, q3⟩ := he a S2 _ hS2 (by simpa using q2)
      exact ⟨some y, S3, by simp only [hb a, h2, hd, h3]; rfl, hS3, q3⟩) _ S1 _ hS1 q1
  exact ⟨ys, S2, by rw [den]; simp only [h1, hs x]; exact lcF_end h2, hS2, q2⟩
theorem lc2F_gen {turn : D → Sc → Option (List D × Sc)} {f : α → ND (List γ)} (ht : ∀ a S Q, Ok S → f a Q → ∃ y S', turn (ea a) S = some (y.map ec, S') ∧ Ok S' ∧ Q y) : ∀ (l : List α) (S : Sc) (Q : List γ → Prop), Ok S → fl f l Q → ∃ ys S', lc2F turn (l.map ea) S = some (ys.map ec, S') ∧ Ok S' ∧ Q ys := by
  intro l
  induction l with
  | nil => intro S Q hS q; exact ⟨[], S, by simp only [List.map_nil, lc2F], hS, q⟩
  | cons a l ih =>
    intro S Q hS q
    obtain ⟨y, S2, h2, hS2, q2⟩ := ht a S _ hS q
    obtain ⟨ys, S3, h3, hS3, q3⟩ := ih S2 _ hS2 q2
    refine ⟨y ++ ys, S3, ?_, hS3, q3⟩
    simp only [List.map_cons, lc2F, h2, h3, List.map_append]
theorem lc2F_end {turn : D → Sc → Option (List D × Sc)} {l ys : List D} {S1 S2 : Sc} (h : lc2F turn l S1 = some (ys, S2)) (hl : lineD ys.length = true) : (match lc2F turn l S1 with
        | some (ys, S2) => if lineD ys.length then some (PyData.list ys, S2) else none
        | none => none) = some (.list ys, S2) := by rw [h]; simp only; rw [if_pos hl]
/-- [e for a in it for b in ju] -/
theorem RE_lc2 {g h : Tg} {it ju e : E} {vs ws : List Nat} {its : β → List α} {mj : α → ND δ} {itj : δ → List ε} {ee : ε → D} {f : α → ε → ND γ} {ηf : α → Dv.Env} {ηg : α → ε → Dv.Env} (hi : RT Φ G it η mb eb) (hs : Its eb its ea) (hb : ∀ a, bindT g (ea a) (wipeE η vs) = some (ηf a))
    (hcl : ∀ a, clE (ηf a) ju = true) (hj : ∀ a, RT Φ G ju (ηf a) (mj a) ed) (hsj : Its ed itj ee) (hb2 : ∀ a b, bindT h (ee b) (wipeE (ηf a) ws) = some (ηg a b)) (he : ∀ a b, RE Φ G e (ηg a b) (f a b) ec) :
    RE Φ G (.lc2 g it h ju e vs ws) η (bnd mb fun x => bnd (fl (fun a => bnd (mj a) fun y => mp (f a) (itj y)) (its x)) fun l => lft (if lineD l.length then some l else none)) (eL ec) := fun S Q hS q => by
  obtain ⟨x, S1, h1, hS1, q1⟩ := hi S _ hS q
  obtain ⟨ys, S2, h2, hS2, z, hz, q2⟩ := lc2F_gen (ea := ea) (ec := ec) (f := fun a => bnd (mj a) fun y => mp (f a) (itj y)) (turn := fun x S => match bindT g x (wipeE η vs) with
          | none => none
          | some η2 => match topE η2 S (den Φ G ju η2 S) ju with
            | none => none
            | some (d2, S1) => match (if clE η2 ju then itemsD d2 else none) with
              | none => none
              | some zs => lcF (fun z S => match bindT h z (wipeE η2 ws) with
                | none => none
                | some η3 => match den Φ G e η3 S with
                  | none => none
                  | some (y, S2) => some (some y, S2)) zs S1) (by
    intro a S Q hS q
    obtain ⟨y, S2, h2, hS2, q2⟩ := hj a S _ hS q
    obtain ⟨zs, S3, h3, hS3, q3⟩ := lcF_gen (ea := ee) (ec := ec) (f := f a) (turn := fun z S => match bindT h z (wipeE (ηf a) ws) with
                | none => none
                | some η3 => match den Φ G e η3 S with
                  | none => none
                  | some (y, S2) => some (some y, S2)) (by
      intro b S Q hS q
      obtain ⟨y, S2, h2, hS2, q2⟩ := he a b S _ hS q
      exact ⟨y, S2, by simp only [hb2 a b, h2], hS2, q2⟩) _ S2 _ hS2 q2
    exact ⟨zs, S3, by simp only [hb a, h2, hcl a, if_true, hsj y]; exact h3, hS3, q3⟩) _ S1 _ hS1 q1
  split at hz
  · rename_i hl
    cases hz
    refine ⟨ys, S2, ?_, hS2, q2⟩
    rw [den]
    simp only [h1, hs x]
    exact lc2F_end h2 (by rw [List.length_map]; exact hl)
  · cases hz
end

/-! ### statements -/
section
variable (Φ : Dv.Callee) (G : Str → Option D)
/-- how a row of statements may end -/
def RS {o : Type} (ss : List Stm) (η : Dv.Env) (m : ND o) (Out : Res → o → Prop) : Prop := ∀ S Q, Ok S → m Q → ∃ r x, denSs Φ G whileMost ss η S = some r ∧ Out r x ∧ Q x
end
section
variable {Φ : Dv.Callee} {G : Str → Option D}
variable {α β γ δ ε ζ σ ρ o τ : Type} {η : Dv.Env} {ma : ND α} {mb : ND β} {mc : ND γ} {ea : α → D} {eb : β → D} {ec : γ → D} {ed : δ → D} {Out : Res → o → Prop} {ss : List Stm}
def OutM (I : σ → Dv.Env → Prop) : Res → σ → Prop := fun r s => ∃ η S, r = .nx η S ∧ Ok S ∧ I s η
def OutL (I : σ → Dv.Env → Prop) : Res → σ → Prop := fun r s => ∃ η S, (r = .nx η S ∨ r = .ct η S) ∧ Ok S ∧ I s η
def OutR (I : σ → Dv.Env → Prop) (er : ρ → D) (nwb : Bool) : Res → σ ⊕ ρ → Prop := fun r x => match x with
  | .inl s => ∃ η S, (r = .nx η S ∨ r = .ct η S) ∧ Ok S ∧ I s η
  | .inr y => ∃ nw S, r = .rt (er y) nw S ∧ Ok S ∧ (nwb = true → nw = true)
def OutD (er : ρ → D) (nwb : Bool) : Res → ρ → Prop := fun r y => ∃ nw S, r = .rt (er y) nw S ∧ Ok S ∧ (nwb = true → nw = true)
theorem RS_nil {x : o} (h : ∀ S, Ok S → Out (.nx η S) x) : RS Φ G [] η (ret x) Out := fun S Q hS q => ⟨_, x, by simp only [denSs], h S hS, q⟩
theorem RS_cont {x : o} (h : ∀ S, Ok S → Out (.ct η S) x) : RS Φ G (.cont :: ss) η (ret x) Out := fun S Q hS q => ⟨_, x, by simp only [denSs, denS], h S hS, q⟩
theorem RS_pass {m : ND o} (h : RS Φ G ss η m Out) : RS Φ G (.pass :: ss) η m Out := fun S Q hS q => by
  obtain ⟨r, x, h1, h2⟩ := h S Q hS q
  exact ⟨r, x, by simp only [denSs, denS]; exact h1, h2⟩
theorem RS_ret {e : E} {k : α → o} (h : RT Φ G e η ma ea) (ho : ∀ x S, Ok S → Out (.rt (ea x) (retNew η e (ea x)) S) (k x)) : RS Φ G (.ret e :: ss) η (bnd ma fun x => ret (k x)) Out := fun S Q hS q => by
  obtain ⟨x, S1, h1, hS1, q1⟩ := h S _ hS q
  have h1' : denT Φ G e η S = some (ea x, S1) := h1
  exact ⟨_, k x, by simp only [denSs, denS, h1', Option.map_some], ho x S1 hS1, q1⟩
theorem RS_set {i : Nat} {e : E} {k : α → ND o} {η' : α → Dv.Env} (h : RE Φ G e η ma ea) (hi : i < η.length) (hη : ∀ x, η.set i (mkSl e (ea x)) = η' x) (t : ∀ x, RS Φ G ss (η' x) (k x) Out) : RS Φ G (.set i e :: ss) η (bnd ma k) Out := fun S Q hS q => by
  obtain ⟨x, S1, h1, hS1, q1⟩ := h S _ hS q
  obtain ⟨r, y, h2, h3⟩ := t x S1 _ hS1 q1
  exact ⟨r, y, by simp only [denSs, denS, h1, if_pos hi, hη]; exact h2, h3⟩
theorem RS_alias {i j : Nat} {d : D} {m : ND o} {η' : Dv.Env} (h : (slot η j).get = some d) (hi : i < η.length) (hη : (η.set j (.frz d)).set i (.frz d) = η') (t : RS Φ G ss η' m Out) : RS Φ G (.alis i j :: ss) η m Out := fun S Q hS q => by
  obtain ⟨r, y, h2, h3⟩ := t S _ hS q
  exact ⟨r, y, by simp only [denSs, denS, h, if_pos hi, hη]; exact h2, h3⟩
theorem RS_unp {g : Tg} {e : E} {k : α → ND o} {η' : α → Dv.Env} (h : RE Φ G e η ma ea) (hη : ∀ x, bindT g (ea x) η = some (η' x)) (t : ∀ x, RS Φ G ss (η' x) (k x) Out) : RS Φ G (.unp g e :: ss) η (bnd ma k) Out := fun S Q hS q => by
  obtain ⟨x, S1, h1, hS1, q1⟩ := h S _ hS q
  obtain ⟨r, y, h2, h3⟩ := t x S1 _ hS1 q1
  exact ⟨r, y, by simp only [denSs, denS, h1, hη, Option.map_some]; exact h2, h3⟩
theorem RS_par2 {i j : Nat} {a b : E} {k : α → β → ND o} {η' : α → β → Dv.Env} (h : RE Φ G a η ma ea) (h' : RE Φ G b η mb eb) (hi : [i, j].Nodup ∧ ∀ k ∈ [i, j], k < η.length) (hη : ∀ x y, (η.set i (mkSl a (ea x))).set j (mkSl b (eb y)) = η' x y) (t : ∀ x y, RS Φ G ss (η' x y) (k x y) Out) : RS Φ G (.par [i, j] [a, b] :: ss) η (bnd ma fun x => bnd mb fun y => k x y) Out := fun S Q hS q => by
  obtain ⟨x, S1, h1, hS1, q1⟩ := h S _ hS q
  obtain ⟨y, S2, h2, hS2, q2⟩ := h' S1 _ hS1 q1
  obtain ⟨r, z, h3, h4⟩ := t x y S2 _ hS2 q2
  exact ⟨r, z, by simp only [denSs, denS, denL, h1, h2]; rw [if_pos ⟨rfl, hi⟩]; simp only [setAll, hη]; exact h3, h4⟩
theorem RS_par3 {i j l : Nat} {a b c : E} {k : α → β → γ → ND o} {η' : α → β → γ → Dv.Env} (h : RE Φ G a η ma ea) (h' : RE Φ G b η mb eb) (h'' : RE Φ G c η mc ec) (hi : [i, j, l].Nodup ∧ ∀ k ∈ [i, j, l], k < η.length) (hη : ∀ x y z, ((η.set i (mkSl a (ea x))).set j (mkSl b (eb y))).set l (mkSl c (ec z)) = η' x y z) (t : ∀ x y z, RS Φ G ss (η' x y z) (k x y z) Out) :
    RS Φ G (.par [i, j, l] [a, b, c] :: ss) η (bnd ma fun x => bnd mb fun y => bnd mc fun z => k x y z) Out := fun S Q hS q => by
  obtain ⟨x, S1, h1, hS1, q1⟩ := h S _ hS q
  obtain ⟨y, S2, h2, hS2, q2⟩ := h' S1 _ hS1 q1
  obtain ⟨w, S3, h3, hS3, q3⟩ := h'' S2 _ hS2 q2
  obtain ⟨r, z, h4, h5⟩ := t x y w S3 _ hS3 q3
  exact ⟨r, z, by simp only [denSs, denS, denL, h1, h2, h3]; rw [if_pos ⟨rfl, hi⟩]; simp only [setAll, hη]; exact h4, h5⟩
theorem RS_aug {i : Nat} {b : BOp} {e : E} {x : β} {f : β → α → Option γ} {k : γ → ND o} {η' : γ → Dv.Env} (hx : slot η i = .frz (eb x)) (h : RE Φ G e η ma ea) (hop : ∀ x y z, f x y = some z → augD b (eb x) (ea y) = some (ec z)) (hi : i < η.length) (hη : ∀ z, η.set i (.frz (ec z)) = η' z) (t : ∀ z, RS Φ G ss (η' z) (k z) Out) :
    RS Φ G (.aug i b e :: ss) η (bnd ma fun y => bnd (lft (f x y)) k) Out := fun S Q hS q => by
  obtain ⟨y, S1, h1, hS1, z, hz, q1⟩ := h S _ hS q
  obtain ⟨r, w, h2, h3⟩ := t z S1 _ hS1 q1
  exact ⟨r, w, by simp only [denSs, denS, hx, Sl.clean, h1, hop x y z hz, if_pos hi, hη]; exact h2, h3⟩
def setL (l : List α) (k : Int) (x : α) : Option (List α) := (L2.ixN l.length k).map fun j => l.set j x
theorem RS_setIx {i : Nat} {ek e : E} {l : List α} {mk : ND Int} {k : List α → ND o} {η' : List α → Dv.Env} (hs : slot η i = .own (eL ea l)) (h : RE Φ G e η ma ea) (hk : RE Φ G ek η mk PyData.int) (hη : ∀ l', η.set i (.own (eL ea l')) = η' l') (t : ∀ l', RS Φ G ss (η' l') (k l') Out) :
    RS Φ G (.setIx i ek e :: ss) η (bnd ma fun x => bnd mk fun j => bnd (lft (setL l j x)) k) Out := fun S Q hS q => by
  obtain ⟨x, S1, h1, hS1, q1⟩ := h S _ hS q
  obtain ⟨j, S2, h2, hS2, l', hl', q2⟩ := hk S1 _ hS1 q1
  obtain ⟨r, w, h3, h4⟩ := t l' S2 _ hS2 q2
  refine ⟨r, w, ?_, h4⟩
  unfold setL at hl'
  cases hj : L2.ixN l.length j with
  | none => rw [hj] at hl'; cases hl'
  | some n =>
    rw [hj] at hl'
    cases hl'
    have e1 : L2.ixN (l.map ea).length j = some n := by rw [List.length_map]; exact hj
    simp only [denSs, denS, h1, h2, hs, eL, e1, Option.map_some]
    rw [← List.map_set]
    have := hη (l.set n x)
    simp only [eL] at this
    rw [this]
    exact h3
theorem RS_app {i : Nat} {e : E} {l : List α} {k : List α → ND o} {η' : List α → Dv.Env} (hs : slot η i = .own (eL ea l)) (h : RE Φ G e η ma ea) (hη : ∀ l', η.set i (.own (eL ea l')) = η' l') (t : ∀ l', RS Φ G ss (η' l') (k l') Out) :
    RS Φ G (.app i e :: ss) η (bnd ma fun x => bnd (lft (if lineD (l.length + 1) then some (l ++ [x]) else none)) k) Out := fun S Q hS q => by
  obtain ⟨x, S1, h1, hS1, l', hl', q1⟩ := h S _ hS q
  obtain ⟨r, w, h3, h4⟩ := t l' S1 _ hS1 q1
  refine ⟨r, w, ?_, h4⟩
  split at hl'
  · rename_i hl
    cases hl'
    have := hη (l ++ [x])
    simp only [eL, List.map_append, List.map_cons, List.map_nil] at this
    simp only [denSs, denS, h1, hs, eL, List.length_map]
    rw [if_pos hl]
    simp only [this]
    exact h3
  · cases hl'
theorem RS_ext {i : Nat} {e : E} {l : List α} {its : β → List α} {k : List α → ND o} {η' : List α → Dv.Env} (hs : slot η i = .own (eL ea l)) (h : RT Φ G e η mb eb) (hit : Its eb its ea) (hη : ∀ l', η.set i (.own (eL ea l')) = η' l') (t : ∀ l', RS Φ G ss (η' l') (k l') Out) :
    RS Φ G (.ext i e :: ss) η (bnd mb fun x => bnd (lft (if lineD (l.length + (its x).length) then some (l ++ its x) else none)) k) Out := fun S Q hS q => by
  obtain ⟨x, S1, h1, hS1, l', hl', q1⟩ := h S _ hS q
  obtain ⟨r, w, h3, h4⟩ := t l' S1 _ hS1 q1
  refine ⟨r, w, ?_, h4⟩
  have h1' : denT Φ G e η S = some (eb x, S1) := h1
  split at hl'
  · rename_i hl
    cases hl'
    have := hη (l ++ its x)
    simp only [eL, List.map_append] at this
    simp only [denSs, denS, h1', hs, eL, hit x, List.length_map]
    rw [if_pos hl]
    simp only [this]
    exact h3
  · cases hl'
theorem denSs_app : ∀ (s t : List Stm) (η : Dv.Env) (S : Sc), denSs Φ G whileMost (s ++ t) η S = match denSs Φ G whileMost s η S with
    | some (.nx η' S') => denSs Φ G whileMost t η' S'
    | r => r
  | [], t, η, S => by simp only [List.nil_append, denSs]
  | a :: s, t, η, S => by
    simp only [List.cons_append, denSs]
    split
    · exact denSs_app s t _ _
    · rename_i h
      split
      · rename_i h2
        exact absurd h2 (h _ _)
      · rfl
/-- a test: each way with what follows -/
theorem RS_ife {c : E} {s t : List Stm} {m : ND Bool} {m1 m2 : ND o} (hc : RC Φ G c η m) (h1 : RS Φ G (s ++ ss) η m1 Out) (h2 : RS Φ G (t ++ ss) η m2 Out) : RS Φ G (.ife c s t :: ss) η (bnd m fun b => if b then m1 else m2) Out := fun S Q hS q => by
  obtain ⟨b, d, S1, h3, hd, hS1, q1⟩ := hc S _ hS q
  have h3' : denT Φ G c η S = some (d, S1) := h3
  cases b with
  | true =>
    obtain ⟨r, x, h4, h5⟩ := h1 S1 _ hS1 q1
    rw [denSs_app] at h4
    exact ⟨r, x, by simp only [denSs, denS, h3', hd]; exact h4, h5⟩
  | false =>
    obtain ⟨r, x, h4, h5⟩ := h2 S1 _ hS1 q1
    rw [denSs_app] at h4
    exact ⟨r, x, by simp only [denSs, denS, h3', hd]; exact h4, h5⟩
/-- a test: both ways meet -/
theorem RS_mrg {c : E} {s t : List Stm} {m : ND Bool} {m1 m2 : ND σ} {I : σ → Dv.Env → Prop} {k : σ → ND o} (hc : RC Φ G c η m) (h1 : RS Φ G s η m1 (OutM I)) (h2 : RS Φ G t η m2 (OutM I)) (h : ∀ x η', I x η' → RS Φ G ss η' (k x) Out) : RS Φ G (.ife c s t :: ss) η (bnd m fun b => bnd (if b then m1 else m2) k) Out := fun S Q hS q => by
  obtain ⟨b, d, S1, h3, hd, hS1, q1⟩ := hc S _ hS q
  have h3' : denT Φ G c η S = some (d, S1) := h3
  cases b with
  | true =>
    obtain ⟨_, x, h4, ⟨η', S2, rfl, hS2, hI⟩, q2⟩ := h1 S1 _ hS1 q1
    obtain ⟨r, y, h5, h6⟩ := h x η' hI S2 _ hS2 q2
    exact ⟨r, y, by simp only [denSs, denS, h3', hd, h4]; exact h5, h6⟩
  | false =>
    obtain ⟨_, x, h4, ⟨η', S2, rfl, hS2, hI⟩, q2⟩ := h2 S1 _ hS1 q1
    obtain ⟨r, y, h5, h6⟩ := h x η' hI S2 _ hS2 q2
    exact ⟨r, y, by simp only [denSs, denS, h3', hd, h4]; exact h5, h6⟩
theorem for_nx {turn : D → Dv.Env → Sc → Option Res} {l : List D} {η η2 : Dv.Env} {S S2 : Sc} {r : Res} (h : forF turn l η S = some (.nx η2 S2)) (h3 : denSs Φ G whileMost ss η2 S2 = some r) : (match forF turn l η S with
    | some (.nx η' S') => denSs Φ G whileMost ss η' S'
    | r => r) = some r := by rw [h]; exact h3
theorem for_rt {turn : D → Dv.Env → Sc → Option Res} {l : List D} {η : Dv.Env} {S S2 : Sc} {d : D} {nw : Bool} (h : forF turn l η S = some (.rt d nw S2)) : (match forF turn l η S with
    | some (.nx η' S') => denSs Φ G whileMost ss η' S'
    | r => r) = some (.rt d nw S2) := by rw [h]
theorem RS_for {g : Tg} {it : E} {s : List Stm} {its : β → List α} {step : σ → α → ND σ} {s0 : σ} {I : σ → Dv.Env → Prop} {k : σ → ND o} (hi : RT Φ G it η mb eb) (hs : Its eb its ea) (hcl : clE (frzAt η it) it = true) (h0 : I s0 (frzAt η it))
    (hb : ∀ x a η', I x η' → ∃ η2, bindT g (ea a) η' = some η2 ∧ RS Φ G s η2 (step x a) (OutL I)) (h : ∀ x η', I x η' → RS Φ G ss η' (k x) Out) : RS Φ G (.for_ g it s :: ss) η (bnd mb fun y => bnd (fd step s0 (its y)) k) Out := fun S Q hS q => by
  obtain ⟨y, S1, h1, hS1, q1⟩ := hi S _ hS q
  have h1' : denT Φ G it η S = some (eb y, S1) := h1
  have main : ∀ (l : List α) (x : σ) (η' : Dv.Env) (S : Sc) (Q : σ → Prop), I x η' → Ok S → fd step x l Q → ∃ η2 S2 x2, forF (fun x η S => match bindT g x η with
        | some η2 => denSs Φ G whileMost s η2 S
        | none => none) (l.map ea) η' S = some (.nx η2 S2) ∧ Ok S2 ∧ I x2 η2 ∧ Q x2 := by
    intro l
    induction l with
    | nil => intro x η' S Q hI hS q; exact ⟨η', S, x, by simp only [List.map_nil, forF], hS, hI, q⟩
    | cons a l ih =>
      intro x η' S Q hI hS q
      obtain ⟨η2, hη2, hbody⟩ := hb x a η' hI
      obtain ⟨r, x2, h2, ⟨η3, S3, hr, hS3, hI3⟩, q2⟩ := hbody S _ hS q
      obtain ⟨η4, S4, x4, h4, h5⟩ := ih x2 η3 S3 _ hI3 hS3 q2
      refine ⟨η4, S4, x4, ?_, h5⟩
      simp only [List.map_cons, forF, hη2, h2]
      rcases hr with rfl | rfl
      · exact h4
      · exact h4
  obtain ⟨η2, S2, x2, h2, hS2, hI2, q2⟩ := main _ s0 _ S1 _ h0 hS1 q1
  obtain ⟨r, z, h3, h4⟩ := h x2 η2 hI2 S2 _ hS2 q2
  exact ⟨r, z, by simp only [denSs, denS, h1', hcl, if_true, hs y]; exact for_nx h2 h3, h4⟩
theorem RS_forR {g : Tg} {it : E} {s : List Stm} {its : β → List α} {step : σ → α → ND (σ ⊕ ρ)} {s0 : σ} {I : σ → Dv.Env → Prop} {er : ρ → D} {nwb : Bool} {k : σ → ND o} {kr : ρ → o} (hi : RT Φ G it η mb eb) (hs : Its eb its ea) (hcl : clE (frzAt η it) it = true) (h0 : I s0 (frzAt η it))
    (hb : ∀ x a η', I x η' → ∃ η2, bindT g (ea a) η' = some η2 ∧ RS Φ G s η2 (step x a) (OutR I er nwb)) (h : ∀ x η', I x η' → RS Φ G ss η' (k x) Out) (hr : ∀ y nw S, Ok S → (nwb = true → nw = true) → Out (.rt (er y) nw S) (kr y)) :
    RS Φ G (.for_ g it s :: ss) η (bnd mb fun y => bnd (fr step s0 (its y)) fun w => aft w k kr) Out := fun S Q hS q => by
  obtain ⟨y, S1, h1, hS1, q1⟩ := hi S _ hS q
  have h1' : denT Φ G it η S = some (eb y, S1) := h1
  have main : ∀ (l : List α) (x : σ) (η' : Dv.Env) (S : Sc) (Q : σ ⊕ ρ → Prop), I x η' → Ok S → fr step x l Q → ∃ r w, forF (fun x η S => match bindT g x η with
        | some η2 => denSs Φ G whileMost s η2 S
        | none => none) (l.map ea) η' S = some r ∧ Q w ∧ (match w with
          | .inl x2 => ∃ η2 S2, r = .nx η2 S2 ∧ Ok S2 ∧ I x2 η2
          | .inr y => ∃ nw S2, r = .rt (er y) nw S2 ∧ Ok S2 ∧ (nwb = true → nw = true)) := by
    intro l
    induction l with
    | nil => intro x η' S Q hI hS q; exact ⟨_, .inl x, by simp only [List.map_nil, forF], q, η', S, rfl, hS, hI⟩
    | cons a l ih =>
      intro x η' S Q hI hS q
      obtain ⟨η2, hη2, hbody⟩ := hb x a η' hI
      obtain ⟨r, x2, h2, h3, q2⟩ := hbody S _ hS q
      cases x2 with
      | inl x2 =>
        obtain ⟨η3, S3, hr, hS3, hI3⟩ := h3
        obtain ⟨r4, x4, h4, h5⟩ := ih x2 η3 S3 _ hI3 hS3 q2
        refine ⟨r4, x4, ?_, h5⟩
        simp only [List.map_cons, forF, hη2, h2]
        rcases hr with rfl | rfl
        · exact h4
        · exact h4
      | inr y =>
        obtain ⟨nw, S3, rfl, hS3, hn⟩ := h3
        refine ⟨_, .inr y, ?_, q2, nw, S3, rfl, hS3, hn⟩
        simp only [List.map_cons, forF, hη2, h2]
  obtain ⟨r, w, h2, q2, h3⟩ := main _ s0 _ S1 _ h0 hS1 q1
  cases w with
  | inl x2 =>
    obtain ⟨η2, S2, rfl, hS2, hI2⟩ := h3
    obtain ⟨r, z, h4, h5⟩ := h x2 η2 hI2 S2 _ hS2 q2
    exact ⟨r, z, by simp only [denSs, denS, h1', hcl, if_true, hs y]; exact for_nx h2 h4, h5⟩
  | inr y2 =>
    obtain ⟨nw, S2, rfl, hS2, hn⟩ := h3
    exact ⟨_, kr y2, by simp only [denSs, denS, h1', hcl, if_true, hs y]; exact for_rt h2, hr y2 nw S2 hS2 hn, q2⟩
/-- a def -/
theorem RF_of {P : List FD} {f : Str} (fd : FD) {n : Nat} {as : List D} {m : ND ρ} {er : ρ → D} {nwb : Bool} {η : Dv.Env} (h : P.find? (fun fd => decide (fd.name = f)) = some fd) (hl : as.length = fd.params) (hη : startE fd as = η) (hb : RS (Dv.run P G n) G fd.body η m (OutD er nwb)) : RF (Dv.run P G (n + 1)) f as m er nwb := fun S Q hS q => by
  obtain ⟨r, x, h1, ⟨nw, S2, rfl, hS2, hn⟩, q2⟩ := hb S Q hS q
  refine ⟨x, nw, S2, ?_, hn, hS2, q2⟩
  simp only [Dv.run, h]
  rw [if_pos hl, hη, h1]
theorem RF_m {f : Str} {ds : List D} {m m' : ND ρ} {er : ρ → D} {nwb : Bool} (h : RF Φ f ds m er nwb) (e : ∀ Q, m' Q → m Q) : RF Φ f ds m' er nwb := fun S Q hS q => h S Q hS (e Q q)
theorem outM_mk {I : σ → Dv.Env → Prop} {s : σ} {S : Sc} (hS : Ok S) (h : I s η) : OutM I (.nx η S) s := ⟨η, S, rfl, hS, h⟩
theorem outL_nx {I : σ → Dv.Env → Prop} {s : σ} {S : Sc} (hS : Ok S) (h : I s η) : OutL I (.nx η S) s := ⟨η, S, .inl rfl, hS, h⟩
theorem outL_ct {I : σ → Dv.Env → Prop} {s : σ} {S : Sc} (hS : Ok S) (h : I s η) : OutL I (.ct η S) s := ⟨η, S, .inr rfl, hS, h⟩
theorem outR_nx {I : σ → Dv.Env → Prop} {er : ρ → D} {nwb : Bool} {s : σ} {S : Sc} (hS : Ok S) (h : I s η) : OutR I er nwb (.nx η S) (.inl s) := ⟨η, S, .inl rfl, hS, h⟩
theorem outR_ct {I : σ → Dv.Env → Prop} {er : ρ → D} {nwb : Bool} {s : σ} {S : Sc} (hS : Ok S) (h : I s η) : OutR I er nwb (.ct η S) (.inl s) := ⟨η, S, .inr rfl, hS, h⟩
theorem outR_rt {I : σ → Dv.Env → Prop} {er : ρ → D} {nwb nw : Bool} {y : ρ} {S : Sc} (hS : Ok S) (h : nwb = true → nw = true) : OutR I er nwb (.rt (er y) nw S) (.inr y) := ⟨nw, S, rfl, hS, h⟩
theorem outD_rt {er : ρ → D} {nwb nw : Bool} {y : ρ} {S : Sc} (hS : Ok S) (h : nwb = true → nw = true) : OutD er nwb (.rt (er y) nw S) y := ⟨nw, S, rfl, hS, h⟩
theorem freeze_get {s : Sl} {d : D} (h : s.get = some d) : s.freeze.get = some d := by cases s <;> simp [Sl.get] at h <;> subst h <;> rfl
theorem clE_own (η : Dv.Env) (i : Nat) : clE (frzAt η (.own i)) (.own i) = true := by
  simp only [clE, frzAt, ownedE, Bool.not_eq_true']
  unfold slot
  rw [List.getD_eq_getElem?_getD, List.getElem?_set_self']
  cases η[i]? with
  | none => rfl
  | some s =>
    show Sl.isOwn (Sl.freeze _) = false
    generalize (List.getD η i Sl.no) = t
    cases t <;> rfl
def eC (_ : Unit) : D := cel
end
end Mr

/-! Mr3: operators on typed data. -/
namespace Mr
open PySem Dv
section
variable {α β γ δ : Type} {ea : α → D} {eb : β → D} {ec : γ → D}
/-! properties of what stands for what -/
/-- never None -/
def NN (e : α → D) : Prop := ∀ x, e x ≠ .none
theorem nn_int : NN PyData.int := fun _ h => by cases h
theorem nn_bool : NN PyData.bool := fun _ h => by cases h
theorem nn_str : NN PyData.str := fun _ h => by cases h
theorem nn_L : NN (eL ea) := fun _ h => by cases h
theorem nn_T : NN (eT ea) := fun _ h => by cases h
theorem nn_P1 : NN (eP1 ea) := fun _ h => by cases h
theorem nn_P2 : NN (eP2 ea eb) := fun _ h => by cases h
theorem nn_P3 : NN (eP3 ea eb ec) := fun _ h => by cases h
theorem nn_P4 {ed : δ → D} : NN (eP4 ea eb ec ed) := fun _ h => by cases h
/-- no list within -/
def FlatD (e : α → D) : Prop := ∀ x, flatD (e x) = true
theorem fd_int : FlatD PyData.int := fun _ => rfl
theorem fd_bool : FlatD PyData.bool := fun _ => rfl
theorem fd_str : FlatD PyData.str := fun _ => rfl
theorem flatAll_map (h : FlatD ea) : ∀ l : List α, flatAll (l.map ea) = true
  | [] => rfl
  | a :: l => by simp only [List.map_cons, flatAll, h a, flatAll_map h l, Bool.and_self]
theorem fd_T (h : FlatD ea) : FlatD (eT ea) := fun l => by simp only [eT, flatD]; exact flatAll_map h l
theorem fd_P1 (h : FlatD ea) : FlatD (eP1 ea) := fun l => by simp only [eP1, flatD, flatAll, h l, Bool.and_self]
theorem fd_P2 (h : FlatD ea) (h' : FlatD eb) : FlatD (eP2 ea eb) := fun l => by simp only [eP2, flatD, flatAll, h _, h' _, Bool.and_self]
theorem fd_P3 (h : FlatD ea) (h' : FlatD eb) (h'' : FlatD ec) : FlatD (eP3 ea eb ec) := fun l => by simp only [eP3, flatD, flatAll, h _, h' _, h'' _, Bool.and_self]
theorem fd_P4 {ed : δ → D} (h : FlatD ea) (h' : FlatD eb) (h'' : FlatD ec) (h3 : FlatD ed) : FlatD (eP4 ea eb ec ed) := fun l => by simp only [eP4, flatD, flatAll, h _, h' _, h'' _, h3 _, Bool.and_self]
theorem fd_O (h : FlatD ea) : FlatD (eO ea) := fun l => by cases l <;> simp only [eO, flatD]; exact h _
theorem flat_of (h : FlatD ea) : Flat ea false := fun x => by rw [h x]; rfl
theorem flat_L (h : FlatD ea) : Flat (eL ea) true := fun x => by simp only [eL, flatL, flatAll_map h, Bool.true_and, Bool.or_true]
/-- comparable data of a depth -/
def Dat (e : α → D) (k : Nat) : Prop := ∀ x, (e x).canLay0 = true ∧ (e x).depth ≤ k
theorem dat_int : Dat PyData.int 0 := fun _ => ⟨rfl, Nat.le_refl 0⟩
theorem dat_bool : Dat PyData.bool 0 := fun _ => ⟨rfl, Nat.le_refl 0⟩
theorem dat_all {k : Nat} (h : Dat ea k) : ∀ l : List α, PyData.canLayAll0 (l.map ea) = true ∧ PyData.depthAll (l.map ea) ≤ k
  | [] => ⟨rfl, Nat.zero_le _⟩
  | a :: l => by
    have := dat_all h l
    have := h a
    simp only [List.map_cons, PyData.canLayAll0, PyData.depthAll, *, Bool.and_self, true_and]
    omega
theorem dat_L {k : Nat} (h : Dat ea k) : Dat (eL ea) (k + 1) := fun l => by
  have := dat_all h l
  simp only [eL, PyData.canLay0, PyData.depth, this, true_and]
  omega
theorem dat_T {k : Nat} (h : Dat ea k) : Dat (eT ea) (k + 1) := fun l => by
  have := dat_all h l
  simp only [eT, PyData.canLay0, PyData.depth, this, true_and]
  omega
theorem dat_P1 {k : Nat} (h : Dat ea k) : Dat (eP1 ea) (k + 1) := fun x => by
  have := h x
  simp only [eP1, PyData.canLay0, PyData.canLayAll0, PyData.depth, PyData.depthAll, *, Bool.and_self, true_and]
  omega
theorem dat_P2 {k k' : Nat} (h : Dat ea k) (h' : Dat eb k') : Dat (eP2 ea eb) (max k k' + 1) := fun x => by
  have := h x.1
  have := h' x.2
  simp only [eP2, PyData.canLay0, PyData.canLayAll0, PyData.depth, PyData.depthAll, *, Bool.and_self, true_and]
  omega
theorem dat_P3 {k k' k'' : Nat} (h : Dat ea k) (h' : Dat eb k') (h'' : Dat ec k'') : Dat (eP3 ea eb ec) (max k (max k' k'') + 1) := fun x => by
  have := h x.1
  have := h' x.2.1
  have := h'' x.2.2
  simp only [eP3, PyData.canLay0, PyData.canLayAll0, PyData.depth, PyData.depthAll, *, Bool.and_self, true_and]
  omega
theorem Dat.shaped {k : Nat} (h : Dat ea k) (hk : k ≤ 64) (x : α) : SeqAt.shaped (ea x) = true := by
  unfold SeqAt.shaped
  rw [(h x).1, decide_eq_true (Nat.le_trans (h x).2 hk)]
  rfl
/-- == is = -/
def Eqv [DecidableEq α] (e : α → D) : Prop := ∀ x y, PyData.eqv (e x) (e y) = decide (x = y)
theorem eqv_int : Eqv PyData.int := fun x y => by simp only [PyData.eqv]; rfl
theorem eqv_bool : Eqv PyData.bool := fun x y => by simp only [PyData.eqv]; cases x <;> cases y <;> rfl
theorem eqv_all [DecidableEq α] (h : Eqv ea) : ∀ x y : List α, PyData.eqvAll (x.map ea) (y.map ea) = decide (x = y)
  | [], [] => rfl
  | [], _ :: _ => rfl
  | _ :: _, [] => rfl
  | a :: x, b :: y => by
    simp only [List.map_cons, PyData.eqvAll, h a b, eqv_all h x y, List.cons.injEq, Bool.decide_and]
theorem eqv_L [DecidableEq α] (h : Eqv ea) : Eqv (eL ea) := fun x y => by simp only [eL, PyData.eqv, eqv_all h]
theorem eqv_T [DecidableEq α] (h : Eqv ea) : Eqv (eT ea) := fun x y => by simp only [eT, PyData.eqv, eqv_all h]
theorem eqv_P1 [DecidableEq α] (h : Eqv ea) : Eqv (eP1 ea) := fun x y => by simp only [eP1, PyData.eqv, PyData.eqvAll, h _ _, Bool.and_true]
theorem eqv_P2 [DecidableEq α] [DecidableEq β] (h : Eqv ea) (h' : Eqv eb) : Eqv (eP2 ea eb) := fun x y => by
  simp only [eP2, PyData.eqv, PyData.eqvAll, h _ _, h' _ _, Bool.and_true]
  rw [← Bool.decide_and]
  exact decide_eq_decide.2 Prod.ext_iff.symm
theorem eqv_P3 [DecidableEq α] [DecidableEq β] [DecidableEq γ] (h : Eqv ea) (h' : Eqv eb) (h'' : Eqv ec) : Eqv (eP3 ea eb ec) := fun x y => by
  simp only [eP3, PyData.eqv, PyData.eqvAll, h _ _, h' _ _, h'' _ _, Bool.and_true]
  rw [← Bool.decide_and, ← Bool.decide_and]
  refine decide_eq_decide.2 ?_
  rw [Prod.ext_iff, Prod.ext_iff]
/-- any two can be compared -/
def Alk (e : α → D) : Prop := ∀ x y, PySem.W.alike (e x) (e y) = true
theorem alk_int : Alk PyData.int := fun _ _ => rfl
theorem alk_bool : Alk PyData.bool := fun _ _ => rfl
theorem alk_str : Alk PyData.str := fun _ _ => rfl
theorem alk_all (h : Alk ea) : ∀ x y : List α, PySem.W.alikeAll (x.map ea) (y.map ea) = true
  | [], _ => by simp only [List.map_nil, PySem.W.alikeAll]
  | _ :: _, [] => by simp only [List.map_cons, List.map_nil, PySem.W.alikeAll]
  | a :: x, b :: y => by simp only [List.map_cons, PySem.W.alikeAll, h a b, alk_all h x y, Bool.and_self]
theorem alk_L (h : Alk ea) : Alk (eL ea) := fun x y => by simp only [eL, PySem.W.alike]; exact alk_all h x y
theorem alk_T (h : Alk ea) : Alk (eT ea) := fun x y => by simp only [eT, PySem.W.alike]; exact alk_all h x y
theorem alk_P1 (h : Alk ea) : Alk (eP1 ea) := fun x y => by simp only [eP1, PySem.W.alike, PySem.W.alikeAll, h _ _, Bool.and_self]
theorem alk_P2 (h : Alk ea) (h' : Alk eb) : Alk (eP2 ea eb) := fun x y => by simp only [eP2, PySem.W.alike, PySem.W.alikeAll, h _ _, h' _ _, Bool.and_self]
theorem alk_P3 (h : Alk ea) (h' : Alk eb) (h'' : Alk ec) : Alk (eP3 ea eb ec) := fun x y => by simp only [eP3, PySem.W.alike, PySem.W.alikeAll, h _ _, h' _ _, h'' _ _, Bool.and_self]
/-! binary operators -/
theorem op_add_i (x y z : Int) (h : (some (x + y)) = some z) : binD .add (.int x) (.int y) = some (.int z) := by cases h; rfl
theorem op_sub_i (x y z : Int) (h : (some (x - y)) = some z) : binD .sub (.int x) (.int y) = some (.int z) := by cases h; rfl
theorem op_mul_i (x y z : Int) (h : (if mulOk x y then some (x * y) else none) = some z) : binD .mul (.int x) (.int y) = some (.int z) := by
  simp only [binD]
  split at h <;> cases h
  rename_i e; rw [if_pos e]
theorem op_div_i (x y z : Int) (h : (if divOk y then some (x / y) else none) = some z) : binD .div (.int x) (.int y) = some (.int z) := by
  simp only [binD]
  split at h <;> cases h
  rename_i e; rw [if_pos e]
theorem op_mod_i (x y z : Int) (h : (if 0 < y then some (x % y) else none) = some z) : binD .mod (.int x) (.int y) = some (.int z) := by
  simp only [binD]
  split at h <;> cases h
  rename_i e; rw [if_pos e]
theorem op_addT (x y z : List α) (h : (if lineD (x.length + y.length) then some (x ++ y) else none) = some z) : binD .add (eT ea x) (eT ea y) = some (eT ea z) := by
  simp only [eT, binD, List.length_map]
  split at h <;> cases h
  rename_i e; rw [if_pos e, List.map_append]
theorem op_addL (x y z : List α) (h : (if lineD (x.length + y.length) then some (x ++ y) else none) = some z) : binD .add (eL ea x) (eL ea y) = some (eL ea z) := by
  simp only [eL, binD, List.length_map]
  split at h <;> cases h
  rename_i e; rw [if_pos e, List.map_append]
theorem op_binD (o : BOp) (x : α) (y : β) (z : D) (h : binD o (ea x) (eb y) = some z) : binD o (ea x) (eb y) = some (eD z) := h
theorem au_add_i (x y z : Int) (h : (some (x + y)) = some z) : augD .add (.int x) (.int y) = some (.int z) := by cases h; rfl
theorem au_sub_i (x y z : Int) (h : (some (x - y)) = some z) : augD .sub (.int x) (.int y) = some (.int z) := by cases h; rfl
theorem au_addT (x y z : List α) (h : (if lineD (x.length + y.length) then some (x ++ y) else none) = some z) : augD .add (eT ea x) (eT ea y) = some (eT ea z) := by
  simp only [eT, augD, List.length_map]
  split at h <;> cases h
  rename_i e; rw [if_pos e, List.map_append]
/-! comparisons -/
theorem op_eq_i (x y : Int) (z : Bool) (h : some (decide (x = y)) = some z) : cmpD .eq (.int x) (.int y) = some z := by
  cases h
  simp only [cmpD, eqD, dat_int.shaped (Nat.zero_le _), Bool.and_self, if_true, eqv_int x y]
theorem op_ne_i (x y : Int) (z : Bool) (h : some (decide (x ≠ y)) = some z) : cmpD .ne (.int x) (.int y) = some z := by
  cases h
  simp only [cmpD, eqD, dat_int.shaped (Nat.zero_le _), Bool.and_self, if_true, eqv_int x y, Option.map_some, decide_not]
theorem op_lt_i (x y : Int) (z : Bool) (h : some (decide (x < y)) = some z) : cmpD .lt (.int x) (.int y) = some z := h
theorem op_le_i (x y : Int) (z : Bool) (h : some (decide (x ≤ y)) = some z) : cmpD .le (.int x) (.int y) = some z := h
theorem op_gt_i (x y : Int) (z : Bool) (h : some (decide (y < x)) = some z) : cmpD .gt (.int x) (.int y) = some z := h
theorem op_ge_i (x y : Int) (z : Bool) (h : some (decide (y ≤ x)) = some z) : cmpD .ge (.int x) (.int y) = some z := h
theorem op_eq [DecidableEq α] {k : Nat} (d : Dat ea k) (hk : k ≤ 64) (e : Eqv ea) (x y : α) (z : Bool) (h : some (decide (x = y)) = some z) : cmpD .eq (ea x) (ea y) = some z := by
  cases h
  simp only [cmpD, eqD, d.shaped hk, Bool.and_self, if_true, e x y]
theorem op_ne [DecidableEq α] {k : Nat} (d : Dat ea k) (hk : k ≤ 64) (e : Eqv ea) (x y : α) (z : Bool) (h : some (decide (x ≠ y)) = some z) : cmpD .ne (ea x) (ea y) = some z := by
  cases h
  simp only [cmpD, eqD, d.shaped hk, Bool.and_self, if_true, e x y, Option.map_some, decide_not]
theorem any_eqv [DecidableEq α] (e : Eqv ea) (x : α) (l : List α) : ((l.map ea).any fun z => PyData.eqv z (ea x)) = decide (x ∈ l) := by
  induction l with
  | nil => rfl
  | cons a l ih =>
    simp only [List.map_cons, List.any_cons, ih, e a x, List.mem_cons, Bool.decide_or]
    congr 1
    exact decide_eq_decide.2 eq_comm
theorem op_inL [DecidableEq α] {k : Nat} (d : Dat ea k) (hk : k + 1 ≤ 64) (e : Eqv ea) (x : α) (l : List α) (z : Bool) (h : some (decide (x ∈ l)) = some z) : cmpD .isin (ea x) (eL ea l) = some z := by
  cases h
  have h2 : SeqAt.shaped (.list (l.map ea)) = true := (dat_L d).shaped hk l
  simp only [cmpD, isIn, eL, d.shaped (Nat.le_of_succ_le hk), h2, Bool.and_self, if_true, any_eqv e]
theorem op_inT [DecidableEq α] {k : Nat} (d : Dat ea k) (hk : k + 1 ≤ 64) (e : Eqv ea) (x : α) (l : List α) (z : Bool) (h : some (decide (x ∈ l)) = some z) : cmpD .isin (ea x) (eT ea l) = some z := by
  cases h
  have h2 : SeqAt.shaped (.tuple (l.map ea)) = true := (dat_T d).shaped hk l
  simp only [cmpD, isIn, eT, d.shaped (Nat.le_of_succ_le hk), h2, Bool.and_self, if_true, any_eqv e]
theorem op_ninL [DecidableEq α] {k : Nat} (d : Dat ea k) (hk : k + 1 ≤ 64) (e : Eqv ea) (x : α) (l : List α) (z : Bool) (h : some (decide (x ∉ l)) = some z) : cmpD .notin (ea x) (eL ea l) = some z := by
  cases h
  have h2 : SeqAt.shaped (.list (l.map ea)) = true := (dat_L d).shaped hk l
  simp only [cmpD, isIn, eL, d.shaped (Nat.le_of_succ_le hk), h2, Bool.and_self, if_true, any_eqv e, Option.map_some, decide_not]
theorem op_ninT [DecidableEq α] {k : Nat} (d : Dat ea k) (hk : k + 1 ≤ 64) (e : Eqv ea) (x : α) (l : List α) (z : Bool) (h : some (decide (x ∉ l)) = some z) : cmpD .notin (ea x) (eT ea l) = some z := by
  cases h
  have h2 : SeqAt.shaped (.tuple (l.map ea)) = true := (dat_T d).shaped hk l
  simp only [cmpD, isIn, eT, d.shaped (Nat.le_of_succ_le hk), h2, Bool.and_self, if_true, any_eqv e, Option.map_some, decide_not]
theorem op_inM (x : Int) (m : List (Int × α)) (z : Bool) (h : some (look m x).isSome = some z) : cmpD .isin (.int x) (eM ea m) = some z := by
  cases h
  have := tab_kvs (ea := ea) m
  unfold eM at this
  simp only [cmpD, isIn, eM, this, lookI_kvs, Option.isSome_map]
theorem op_ninM (x : Int) (m : List (Int × α)) (z : Bool) (h : some (look m x).isNone = some z) : cmpD .notin (.int x) (eM ea m) = some z := by
  cases h
  have := tab_kvs (ea := ea) m
  unfold eM at this
  simp only [cmpD, isIn, eM, this, lookI_kvs, Option.isSome_map, Option.map_some]
  cases look m x <;> rfl
theorem op_isN (n : NN ea) (x : Option α) (y : Unit) (z : Bool) (h : some x.isNone = some z) : cmpD .is_ (eO ea x) (eN y) = some z := by
  cases h
  cases x with
  | none => rfl
  | some x =>
    simp only [eO, eN, Option.isNone_some]
    have := n x
    revert this
    cases ea x <;> intro this <;> first | rfl | exact absurd rfl this
theorem op_isnN (n : NN ea) (x : Option α) (y : Unit) (z : Bool) (h : some x.isSome = some z) : cmpD .isnot (eO ea x) (eN y) = some z := by
  cases h
  cases x with
  | none => rfl
  | some x =>
    simp only [eO, eN, Option.isSome_some]
    have := n x
    revert this
    cases ea x <;> intro this <;> first | rfl | exact absurd rfl this
theorem op_cmpD (o : COp) (x : α) (y : β) (z : Bool) (h : cmpD o (ea x) (eb y) = some z) : cmpD o (ea x) (eb y) = some z := h
/-! places -/
theorem atI_map (l : List α) (i : Int) : L2.atI (l.map ea) i = (L2.atI l i).map ea := by
  unfold L2.atI L2.ixN
  simp only [List.length_map]
  split
  · split <;> simp
  · split <;> simp
theorem op_idxL (l : List α) (i : Int) (z : α) (h : L2.atI l i = some z) (S : Sc) : idxD S (eL ea l) (.int i) = some (ea z) := by
  simp only [idxD, eL, atI_map, h, Option.map_some]
theorem op_idxT (l : List α) (i : Int) (z : α) (h : L2.atI l i = some z) (S : Sc) : idxD S (eT ea l) (.int i) = some (ea z) := by
  simp only [idxD, eT, atI_map, h, Option.map_some]
theorem op_idxM (m : List (Int × α)) (i : Int) (z : α) (h : look m i = some z) (S : Sc) : idxD S (eM ea m) (.int i) = some (ea z) := by
  have := tab_kvs (ea := ea) m
  unfold eM at this
  simp only [idxD, eM, this, lookI_kvs, h, Option.map_some]
/-- a place, the cells left out -/
def idxV : D → D → Option D
  | .list xs, .int i => L2.atI xs i
  | .tuple xs, .int i => L2.atI xs i
  | _, _ => none
theorem op_idxD (x : α) (y : β) (z : D) (h : idxV (ea x) (eb y) = some z) (S : Sc) : idxD S (ea x) (eb y) = some (eD z) := by
  unfold idxV at h
  split at h
  · rename_i e1 e2; rw [e1, e2]; exact h
  · rename_i e1 e2; rw [e1, e2]; exact h
  · cases h
theorem some_id (x : Option α) (y : α) (h : x = some y) : eO ea x = ea y := by rw [h]; rfl
/-! slices -/
def cutG (xs : List α) (lo hi : Option Int) : List α := (xs.drop (HT.sIx xs.length 0 lo)).take (HT.sIx xs.length xs.length hi - HT.sIx xs.length 0 lo)
theorem cut_map (l : List α) (lo hi : Option Int) : cutD (l.map ea) lo hi = (cutG l lo hi).map ea := by
  simp only [cutD, cutG, List.length_map, List.map_take, List.map_drop]
def Prt (e : α → D) (p : α → Option Int) : Prop := ∀ x, partD (e x) = some (p x)
theorem prt_N : Prt eN fun _ => none := fun _ => rfl
theorem prt_I : Prt PyData.int some := fun _ => rfl
theorem op_slL {p : β → Option Int} {q : γ → Option Int} (hp : Prt eb p) (hq : Prt ec q) (x : List α) (l : β) (h : γ) (z : List α) (e : some (cutG x (p l) (q h)) = some z) : slD (eL ea x) (eb l) (ec h) = some (eL ea z) := by
  cases e
  simp only [slD, eL, hp l, hq h, Option.bind_some, Option.map_some, cut_map]
theorem op_slT {p : β → Option Int} {q : γ → Option Int} (hp : Prt eb p) (hq : Prt ec q) (x : List α) (l : β) (h : γ) (z : List α) (e : some (cutG x (p l) (q h)) = some z) : slD (eT ea x) (eb l) (ec h) = some (eT ea z) := by
  cases e
  simp only [slD, eT, hp l, hq h, Option.bind_some, Option.map_some, cut_map]
theorem op_slD (x : α) (l : β) (h : γ) (z : D) (e : slD (ea x) (eb l) (ec h) = some z) : slD (ea x) (eb l) (ec h) = some (eD z) := e
/-! built-ins -/
theorem op_lenL (l : List α) (z : Int) (h : some (l.length : Int) = some z) : bltD .len [eL ea l] = some (.int z) := by
  cases h; simp only [bltD, eL, List.length_map]
theorem op_lenT (l : List α) (z : Int) (h : some (l.length : Int) = some z) : bltD .len [eT ea l] = some (.int z) := by
  cases h; simp only [bltD, eT, List.length_map]
theorem op_tupL (l z : List α) (h : some l = some z) : bltD .tuple [eL ea l] = some (eT ea z) := by cases h; rfl
theorem op_tupT (l z : List α) (h : some l = some z) : bltD .tuple [eT ea l] = some (eT ea z) := by cases h; rfl
theorem op_lstL (l z : List α) (h : some l = some z) : bltD .list [eL ea l] = some (eL ea z) := by cases h; rfl
theorem op_lstT (l z : List α) (h : some l = some z) : bltD .list [eT ea l] = some (eL ea z) := by cases h; rfl
/-- sorted -/
def leE (e : α → D) (x y : α) : Bool := PySem.W.dataLe false id (e x) (e y)
def sortE (e : α → D) (l : List α) : List α := l.mergeSort (leE e)
theorem sort_map (l : List α) : sortD (l.map ea) = (sortE ea l).map ea := by
  unfold sortD sortE
  rw [List.map_mergeSort (s := PySem.W.dataLe false id)]
  intro a _ b _
  rfl
def scalE (d : D) : Bool := match d with
  | .int _ => true
  | .str _ => true
  | _ => false
def tupE (d : D) : Bool := match d with
  | .tuple _ => true
  | _ => false
/-- always in order to sort -/
def SrtOk (e : α → D) : Prop := ∀ l : List α, sortOk (l.map e) = true
theorem srt_int : SrtOk PyData.int := fun l => by
  unfold sortOk allAlike depthOk
  simp only [Bool.and_eq_true, Bool.or_eq_true, List.all_eq_true, List.mem_map]
  refine ⟨⟨?_, ?_⟩, .inl ?_⟩
  · rintro _ ⟨a, _, rfl⟩ _ ⟨b, _, rfl⟩; rfl
  · rintro _ ⟨a, _, rfl⟩; exact dat_int.shaped (Nat.zero_le _) a
  · rintro _ ⟨a, _, rfl⟩; rfl
theorem srt_of {k : Nat} (d : Dat ea k) (hk : k ≤ 64) (a : Alk ea) (t : ∀ x, tupE (ea x) = true) : SrtOk ea := fun l => by
  unfold sortOk allAlike depthOk
  simp only [Bool.and_eq_true, Bool.or_eq_true, List.all_eq_true, List.mem_map]
  refine ⟨⟨?_, ?_⟩, .inr ?_⟩
  · rintro _ ⟨x, _, rfl⟩ _ ⟨y, _, rfl⟩; exact a x y
  · rintro _ ⟨x, _, rfl⟩; exact d.shaped hk x
  · rintro _ ⟨x, _, rfl⟩
    have := t x
    revert this
    cases ea x <;> intro this <;> first | rfl | cases this
theorem op_srtL (s : SrtOk ea) (l z : List α) (h : some (sortE ea l) = some z) : bltD .sorted [eL ea l] = some (eL ea z) := by
  cases h; simp only [bltD, eL, s l, if_true, sort_map]
theorem op_srtT (s : SrtOk ea) (l z : List α) (h : some (sortE ea l) = some z) : bltD .sorted [eT ea l] = some (eL ea z) := by
  cases h; simp only [bltD, eL, eT, s l, if_true, sort_map]
/-- .. with a look -/
theorem op_srtLg (l z : List α) (h : (if sortOk (l.map ea) then some (sortE ea l) else none) = some z) : bltD .sorted [eL ea l] = some (eL ea z) := by
  split at h <;> cases h
  rename_i e
  simp only [bltD, eL, e, if_true, sort_map]
theorem op_srtTg (l z : List α) (h : (if sortOk (l.map ea) then some (sortE ea l) else none) = some z) : bltD .sorted [eT ea l] = some (eL ea z) := by
  split at h <;> cases h
  rename_i e
  simp only [bltD, eL, eT, e, if_true, sort_map]
theorem bools_map : ∀ l : List Bool, boolsD (l.map PyData.bool) = some l
  | [] => rfl
  | b :: l => by simp only [List.map_cons, boolsD, bools_map l, Option.map_some]
theorem ints_map : ∀ l : List Int, intsD (l.map PyData.int) = some l
  | [] => rfl
  | b :: l => by simp only [List.map_cons, intsD, ints_map l, Option.map_some]
theorem op_all (l : List Bool) (z : Bool) (h : some (l.all id) = some z) : bltD .all [eL PyData.bool l] = some (.bool z) := by
  cases h; simp only [bltD, eL, bools_map, Option.map_some]
theorem op_any (l : List Bool) (z : Bool) (h : some (l.any id) = some z) : bltD .any [eL PyData.bool l] = some (.bool z) := by
  cases h; simp only [bltD, eL, bools_map, Option.map_some]
theorem op_sum (l : List Int) (z : Int) (h : some l.sum = some z) : bltD .sum [eL PyData.int l] = some (.int z) := by
  cases h; simp only [bltD, eL, ints_map, Option.map_some]
theorem op_min (l : List Int) (z : Int) (h : l.min? = some z) : bltD .min [eL PyData.int l] = some (.int z) := by
  simp only [bltD, eL, ints_map, Option.bind_some, h, Option.map_some]
theorem op_max (l : List Int) (z : Int) (h : l.max? = some z) : bltD .max [eL PyData.int l] = some (.int z) := by
  simp only [bltD, eL, ints_map, Option.bind_some, h, Option.map_some]
theorem op_int_i (x z : Int) (h : some x = some z) : bltD .int [.int x] = some (.int z) := by cases h; rfl
theorem op_int_b (x : Bool) (z : Int) (h : some (if x then (1 : Int) else 0) = some z) : bltD .int [.bool x] = some (.int z) := by cases h; rfl
theorem op_abs (x z : Int) (h : some (if x < 0 then -x else x) = some z) : bltD .abs [.int x] = some (.int z) := by cases h; rfl
theorem op_gcd (x y z : Int) (h : some ((Nat.gcd x.natAbs y.natAbs : Nat) : Int) = some z) : bltD .gcd [.int x, .int y] = some (.int z) := by cases h; rfl
theorem op_max2 (x y z : Int) (h : some (if y > x then y else x) = some z) : bltD .max2 [.int x, .int y] = some (.int z) := by cases h; rfl
theorem op_min2 (x y z : Int) (h : some (if y < x then y else x) = some z) : bltD .min2 [.int x, .int y] = some (.int z) := by cases h; rfl
theorem op_dictL (l z : List (Int × α)) (h : some l = some z) : bltD .dict [eL (eP2 PyData.int ea) l] = some (eM ea z) := by
  cases h; simp only [bltD, eL, op_dict, Option.map_some, eM]
theorem op_dictT (l z : List (Int × α)) (h : some l = some z) : bltD .dict [eT (eP2 PyData.int ea) l] = some (eM ea z) := by
  cases h; simp only [bltD, eT, op_dict, Option.map_some, eM]
theorem op_sset (l z : List Int) (h : (if l.length < 64 then some (sortU l) else none) = some z) : bltD .sset [eL PyData.int l] = some (eL PyData.int z) := by
  split at h <;> cases h
  rename_i e
  simp only [bltD, eL, ints_map, Option.bind_some, if_pos e]
theorem op_tzip (x : List α) (y : List β) (z : List (α × β)) (h : some (x.zip y) = some z) : bltD .tzip [eT ea x, eT eb y] = some (eT (eP2 ea eb) z) := by
  cases h; simp only [bltD, eT]; rw [zip_enc]
theorem op_lrange (n : Int) (z : List Int) (h : rngO n = some z) : bltD .lrange [.int n] = some (eL PyData.int z) := by
  unfold rngO at h
  split at h <;> cases h
  rename_i e
  simp only [bltD, eL]
  rw [if_pos (by omega), rangeD_upto]
theorem op_trange (n : Int) (z : List Int) (h : rngO n = some z) : bltD .trange [.int n] = some (eT PyData.int z) := by
  unfold rngO at h
  split at h <;> cases h
  rename_i e
  simp only [bltD, eT]
  rw [if_pos (by omega), rangeD_upto]
theorem op_isi (ts : List String) (x : α) (z : Bool) (h : ((tyD (ea x)).map fun t => ts.any fun T => isiOne t T) = some z) : bltD (.isi ts) [ea x] = some (.bool z) := by
  simp only [bltD]
  cases ht : tyD (ea x) with
  | none => rw [ht] at h; cases h
  | some t => rw [ht] at h; cases h; rfl
theorem op_bltD1 (o : Blt) (x : α) (z : D) (h : bltD o [ea x] = some z) : bltD o [ea x] = some (eD z) := h
/-! truth -/
theorem tr_L (l : List α) : truD (eL ea l) = some (!l.isEmpty) := by cases l <;> rfl
theorem tr_T (l : List α) : truD (eT ea l) = some (!l.isEmpty) := by cases l <;> rfl
theorem tr_i (x : Int) : truD (.int x) = some (x != 0) := rfl
theorem tr_OT (l : Option (List α)) : truD (eO (eT ea) l) = some (l.any fun l => !l.isEmpty) := by
  cases l with
  | none => rfl
  | some l => cases l <;> rfl
theorem tr_OP2 (l : Option (α × β)) : truD (eO (eP2 ea eb) l) = some l.isSome := by cases l <;> rfl
theorem tr_OP3 (l : Option (α × β × γ)) : truD (eO (eP3 ea eb ec) l) = some l.isSome := by cases l <;> rfl
end
theorem nwf {b : Bool} : false = true → b = true := fun h => nomatch h
end Mr

/-! Mr4: the order of typed data. -/
namespace Mr
open PySem Dv PySem.W PyProof.Rows
section
variable {α β γ : Type} {ea : α → D} {eb : β → D} {ec : γ → D}
def ltE (e : α → D) (x y : α) : Bool := dataLt (e x) (e y)
theorem leE_eq (x y : α) : leE ea x y = !ltE ea y x := rfl
theorem leE_trans (x y z : α) (h1 : leE ea x y = true) (h2 : leE ea y z = true) : leE ea x z = true := (sortLe_total (listOrd itemOrd) false fun b : D => keyToks b).trans (ea x) (ea y) (ea z) h1 h2
theorem leE_total (x y : α) : (leE ea x y || leE ea y x) = true := by
  have := (sortLe_total (listOrd itemOrd) false fun b : D => keyToks b).total (ea x) (ea y)
  first | exact this | (rw [Bool.or_eq_true]; exact this)
theorem mem_sortE {x : α} {l : List α} : x ∈ sortE ea l ↔ x ∈ l := List.mem_mergeSort
theorem sortE_perm (l : List α) : (sortE ea l).Perm l := List.mergeSort_perm l _
theorem sortE_len (l : List α) : (sortE ea l).length = l.length := (sortE_perm l).length_eq
theorem sortE_pw (l : List α) : (sortE ea l).Pairwise (fun x y => leE ea x y = true) := List.pairwise_mergeSort leE_trans leE_total l
theorem sortE_of {l : List α} (h : l.Pairwise (fun x y => leE ea x y = true)) : sortE ea l = l := List.mergeSort_of_pairwise h
/-- no two data with one place -/
def Tot (e : α → D) : Prop := ∀ x y, ltE e x y = false → ltE e y x = false → x = y
theorem sortE_uniq (t : Tot ea) {l m : List α} (hp : l.Perm m) (h : m.Pairwise (fun x y => leE ea x y = true)) : sortE ea l = m := by
  refine List.Perm.eq_of_pairwise (le := fun x y => leE ea x y = true) ?_ (sortE_pw l) h ((sortE_perm l).trans hp)
  intro x y _ _ h1 h2
  rw [leE_eq, Bool.not_eq_true'] at h1 h2
  exact t x y h2 h1
theorem sortE_congr (t : Tot ea) {l m : List α} (hp : l.Perm m) : sortE ea l = sortE ea m := sortE_uniq t (hp.trans (sortE_perm m).symm) (sortE_pw m)
theorem ltE_int (x y : Int) : ltE PyData.int x y = decide (x < y) := dataLt_int x y
theorem leE_int (x y : Int) : leE PyData.int x y = decide (x ≤ y) := by
  rw [leE_eq, ltE_int, ← decide_not]
  exact decide_eq_decide.2 Int.not_lt
theorem tot_int : Tot PyData.int := fun x y h1 h2 => by
  rw [ltE_int, decide_eq_false_iff_not] at h1 h2
  omega
/-- rows -/
def ltAll [DecidableEq α] (e : α → D) : List α → List α → Bool
  | _, [] => false
  | [], _ :: _ => true
  | x :: xs, y :: ys => if x = y then ltAll e xs ys else ltE e x y
theorem ltAll_eq [DecidableEq α] (al : Alk ea) (eq : Eqv ea) : ∀ xs ys : List α, PyProof.Rows.lexLt itemOrd (keyToksAll (xs.map ea)) (keyToksAll (ys.map ea)) = ltAll ea xs ys
  | [], [] => by simp only [List.map_nil, ltAll]; exact lex_irrefl _
  | _ :: _, [] => by
    simp only [List.map_nil, List.map_cons, ltAll, toks_all_cons]
    rfl
  | [], _ :: _ => by
    simp only [List.map_nil, List.map_cons, ltAll, toks_all_cons]
    rfl
  | x :: xs, y :: ys => by
    simp only [List.map_cons, ltAll]
    rw [dataLt_cons (al x y), eq x y, ltAll_eq al eq xs ys]
    by_cases h : x = y
    · rw [if_pos h, decide_eq_true h, if_pos rfl]
    · rw [if_neg h, decide_eq_false h, if_neg (by simp)]
      rfl
theorem ltE_T [DecidableEq α] (al : Alk ea) (eq : Eqv ea) (x y : List α) : ltE (eT ea) x y = ltAll ea x y := by
  unfold ltE
  simp only [eT]
  rw [dataLt_tuple, ltAll_eq al eq]
theorem ltE_L [DecidableEq α] (al : Alk ea) (eq : Eqv ea) (x y : List α) : ltE (eL ea) x y = ltAll ea x y := by
  unfold ltE
  simp only [eL]
  rw [dataLt_list, ltAll_eq al eq]
theorem tot_all [DecidableEq α] (t : Tot ea) : ∀ x y : List α, ltAll ea x y = false → ltAll ea y x = false → x = y
  | [], [], _, _ => rfl
  | _ :: _, [], _, h => by simp [ltAll] at h
  | [], _ :: _, h, _ => by simp [ltAll] at h
  | x :: xs, y :: ys, h1, h2 => by
    simp only [ltAll] at h1 h2
    by_cases h : x = y
    · subst h
      rw [if_pos rfl] at h1 h2
      rw [tot_all t xs ys h1 h2]
    · rw [if_neg h] at h1
      rw [if_neg (Ne.symm h)] at h2
      exact absurd (t x y h1 h2) h
theorem tot_T [DecidableEq α] (al : Alk ea) (eq : Eqv ea) (t : Tot ea) : Tot (eT ea) := fun x y h1 h2 => by
  rw [ltE_T al eq] at h1 h2
  exact tot_all t x y h1 h2
theorem dl_one {x y : D} (h : alike x y = true) : PyProof.Rows.lexLt itemOrd (keyToksAll [x]) (keyToksAll [y]) = dataLt x y := by
  rw [dataLt_cons h]
  split
  · rename_i e
    have : dataLt x y = false := by
      unfold dataLt
      rw [(toks_eqv x y h).1 e]
      exact lex_irrefl _
    rw [this]
    exact lex_irrefl _
  · rfl
theorem ltE_P2 [DecidableEq α] (al : Alk ea) (eq : Eqv ea) (al2 : Alk eb) (x y : α × β) : ltE (eP2 ea eb) x y = if x.1 = y.1 then ltE eb x.2 y.2 else ltE ea x.1 y.1 := by
  unfold ltE
  simp only [eP2]
  rw [dataLt_tuple, dataLt_cons (al _ _), eq, dl_one (al2 _ _)]
  by_cases h : x.1 = y.1
  · rw [if_pos h, decide_eq_true h, if_pos rfl]
  · rw [if_neg h, decide_eq_false h, if_neg (by simp)]
theorem ltE_P3 [DecidableEq α] [DecidableEq β] (al : Alk ea) (eq : Eqv ea) (al2 : Alk eb) (eq2 : Eqv eb) (al3 : Alk ec) (x y : α × β × γ) : ltE (eP3 ea eb ec) x y = if x.1 = y.1 then (if x.2.1 = y.2.1 then ltE ec x.2.2 y.2.2 else ltE eb x.2.1 y.2.1) else ltE ea x.1 y.1 := by
  unfold ltE
  simp only [eP3]
  rw [dataLt_tuple, dataLt_cons (al _ _), eq, dataLt_cons (al2 _ _), eq2, dl_one (al3 _ _)]
  by_cases h : x.1 = y.1
  · rw [if_pos h, decide_eq_true h, if_pos rfl]
    by_cases h : x.2.1 = y.2.1
    · rw [if_pos h, decide_eq_true h, if_pos rfl]
    · rw [if_neg h, decide_eq_false h, if_neg (by simp)]
  · rw [if_neg h, decide_eq_false h, if_neg (by simp)]
theorem tot_P2 [DecidableEq α] (al : Alk ea) (eq : Eqv ea) (t : Tot ea) (al2 : Alk eb) (t2 : Tot eb) : Tot (eP2 ea eb) := fun x y h1 h2 => by
  rw [ltE_P2 al eq al2] at h1 h2
  by_cases h : x.1 = y.1
  · rw [if_pos h] at h1
    rw [if_pos h.symm] at h2
    exact Prod.ext h (t2 _ _ h1 h2)
  · rw [if_neg h] at h1
    rw [if_neg (Ne.symm h)] at h2
    exact absurd (t _ _ h1 h2) h
theorem tot_P3 [DecidableEq α] [DecidableEq β] (al : Alk ea) (eq : Eqv ea) (t : Tot ea) (al2 : Alk eb) (eq2 : Eqv eb) (t2 : Tot eb) (al3 : Alk ec) (t3 : Tot ec) : Tot (eP3 ea eb ec) := fun x y h1 h2 => by
  rw [ltE_P3 al eq al2 eq2 al3] at h1 h2
  by_cases h : x.1 = y.1
  · rw [if_pos h] at h1
    rw [if_pos h.symm] at h2
    by_cases h' : x.2.1 = y.2.1
    · rw [if_pos h'] at h1
      rw [if_pos h'.symm] at h2
      exact Prod.ext h (Prod.ext h' (t3 _ _ h1 h2))
    · rw [if_neg h'] at h1
      rw [if_neg (Ne.symm h')] at h2
      exact absurd (t2 _ _ h1 h2) h'
  · rw [if_neg h] at h1
    rw [if_neg (Ne.symm h)] at h2
    exact absurd (t _ _ h1 h2) h
theorem ltE_irr (x : α) : ltE ea x x = false := lex_irrefl _
theorem ltE_asym {x y : α} (h : ltE ea x y = true) : ltE ea y x = false := by
  cases h2 : ltE ea y x with
  | false => rfl
  | true =>
    have := lex_trans _ _ _ (show lexLt itemOrd (keyToks (ea x)) (keyToks (ea y)) = true from h) (show lexLt itemOrd (keyToks (ea y)) (keyToks (ea x)) = true from h2)
    rw [lex_irrefl] at this
    cases this
theorem leE_of_lt {x y : α} (h : ltE ea x y = true) : leE ea x y = true := by rw [leE_eq, ltE_asym h]; rfl
end
/-! ### the guards -/
theorem lineD_ok {n : Nat} (h : n ≤ 16000000) : lineD n = true := by
  simp only [lineD, sizeLine_eq, decide_eq_true_eq]
  omega
theorem lft_pos {α : Type} {c : Prop} [Decidable c] {x : Option α} {y : α} (h : c) (e : x = some y) : lft (if c then x else none) = ret y := by rw [if_pos h, e, lft_some]
theorem lft_ok {α : Type} {o : Option α} {x : α} (h : o = some x) : lft o = ret x := by rw [h, lft_some]
theorem lft_line {α : Type} {n : Nat} {x : α} (h : n ≤ 16000000) : lft (if lineD n = true then some x else none) = ret x := lft_pos (lineD_ok h) rfl
theorem rngO_ok {n : Int} (h0 : 0 ≤ n) (h1 : n ≤ 1000000) : rngO n = some (upto n) := if_pos (by omega)
theorem mem_upto {n x : Int} : x ∈ upto n ↔ 0 ≤ x ∧ x < n := by
  unfold upto
  rw [List.mem_map]
  constructor
  · rintro ⟨k, hk, rfl⟩
    rw [List.mem_range] at hk
    omega
  · rintro ⟨h0, h1⟩
    exact ⟨x.toNat, by rw [List.mem_range]; omega, by omega⟩
theorem upto_len (n : Int) : (upto n).length = n.toNat := by unfold upto; rw [List.length_map, List.length_range]
theorem upto_pw (n : Int) : (upto n).Pairwise (· < ·) := by
  unfold upto
  rw [List.pairwise_map]
  exact List.pairwise_lt_range.imp fun h => by omega
theorem mulOk_r {i j : Int} (h1 : -(2 ^ 64) < j) (h2 : j < 2 ^ 64) : mulOk i j = true := by
  unfold mulOk
  rw [decide_eq_true h1, decide_eq_true h2]
  simp
theorem mulOk_l {i j : Int} (h1 : -(2 ^ 64) < i) (h2 : i < 2 ^ 64) : mulOk i j = true := by
  unfold mulOk
  rw [decide_eq_true h1, decide_eq_true h2]
  simp
theorem divOk_of {j : Int} (h0 : 0 < j) (h1 : j < 2 ^ 200) : divOk j = true := by
  unfold divOk
  rw [decide_eq_true h0, Bool.true_and, decide_eq_true_eq]
  have : j.natAbs < 2 ^ 200 := by omega
  have := (Nat.log2_lt (by omega)).2 this
  omega
/-- the number at an index -/
def gI (l : List Int) (u : Int) : Int := l.getD u.toNat 0
theorem atI_some {α : Type} {l : List α} {u : Int} (a0 : α) (h0 : 0 ≤ u) (h1 : u < l.length) : L2.atI l u = some (l.getD u.toNat a0) := by
  unfold L2.atI L2.ixN
  have h2 : u.toNat < l.length := by omega
  rw [if_pos h0, if_pos h1]
  simp [List.getElem?_eq_getElem h2, List.getD_eq_getElem?_getD]
theorem atI_gI {l : List Int} {u : Int} (h0 : 0 ≤ u) (h1 : u < l.length) : L2.atI l u = some (gI l u) := atI_some 0 h0 h1
end Mr

/-! Mr5: draws. -/
namespace Mr
open PySem Dv
section
variable {α β γ σ ρ : Type}
/-- what the text may come to -/
def May (m : ND α) (P : α → Prop) : Prop := ∀ R : α → Prop, (∀ x, P x → R x) → m R
theorem may_ret {P : α → Prop} {x : α} (h : P x) : May (ret x) P := fun R hR => hR x h
theorem may_bnd {m : ND α} {f : α → ND β} {P : α → Prop} {P' : β → Prop} (h : May m P) (hf : ∀ x, P x → May (f x) P') : May (bnd m f) P' := fun R hR => h _ fun x hx => hf x hx R hR
theorem may_draw {n : Int} (h : 0 < n) : May (draw n) fun d => 0 ≤ d ∧ d < n := fun R hR => ⟨h, fun d h0 h1 => hR d ⟨h0, h1⟩⟩
theorem may_mono {m : ND α} {P P' : α → Prop} (h : May m P) (hp : ∀ x, P x → P' x) : May m P' := fun R hR => h R fun x hx => hR x (hp x hx)
theorem may_ite {c : Prop} [Decidable c] {m m' : ND α} {P : α → Prop} (h : c → May m P) (h' : ¬c → May m' P) : May (if c then m else m') P := by
  split
  · exact h ‹_›
  · exact h' ‹_›
theorem may_eq {m m' : ND α} {P : α → Prop} (e : m = m') (h : May m' P) : May m P := e ▸ h
theorem may_mp {f : α → ND β} {P : α → β → Prop} {l : List α} (h : ∀ a ∈ l, May (f a) (P a)) : May (mp f l) fun ys => ys.length = l.length ∧ ∀ i (h : i < l.length) (h' : i < ys.length), P l[i] ys[i] := by
  induction l with
  | nil => exact may_ret ⟨rfl, fun i h => by simp at h⟩
  | cons a l ih =>
    refine may_bnd (h a List.mem_cons_self) fun y hy => may_bnd (ih fun b hb => h b (List.mem_cons_of_mem _ hb)) fun ys hys => may_ret ⟨by simp [hys.1], ?_⟩
    intro i h1 h2
    cases i with
    | zero => exact hy
    | succ i => exact hys.2 i (by simpa using h1) (by simpa using h2)
theorem may_mp' {f : α → ND β} {P : β → Prop} {l : List α} (h : ∀ a ∈ l, May (f a) P) : May (mp f l) fun ys => ys.length = l.length ∧ ∀ y ∈ ys, P y := by
  refine may_mono (may_mp (P := fun _ => P) h) ?_
  rintro ys ⟨h1, h2⟩
  refine ⟨h1, fun y hy => ?_⟩
  obtain ⟨i, hi, rfl⟩ := List.mem_iff_getElem.1 hy
  exact h2 i (by omega) hi
theorem may_fm {p : α → ND Bool} {l : List α} (h : ∀ a ∈ l, May (p a) fun _ => True) : May (fm p (fun a => ret a) l) fun ys => ys.Sublist l := by
  induction l with
  | nil => exact may_ret (List.Sublist.refl _)
  | cons a l ih =>
    have ih' := ih fun b hb => h b (List.mem_cons_of_mem _ hb)
    refine may_bnd (h a List.mem_cons_self) fun c _ => may_ite (fun _ => ?_) (fun _ => ?_)
    · rw [ret_bnd]
      exact may_bnd ih' fun ys hys => may_ret (hys.cons_cons a)
    · exact may_mono ih' fun ys hys => hys.cons a
theorem may_fd {step : σ → α → ND σ} (I : List α → σ → Prop) {l : List α} {s0 : σ} (h0 : I [] s0) (hs : ∀ pre a post s, l = pre ++ a :: post → I pre s → May (step s a) (I (pre ++ [a]))) : May (fd step s0 l) (I l) := by
  have main : ∀ (post pre : List α) (s : σ), l = pre ++ post → I pre s → May (fd step s post) (I l) := by
    intro post
    induction post with
    | nil => intro pre s e h; exact may_ret (by rw [e, List.append_nil]; exact h)
    | cons a post ih =>
      intro pre s e h
      refine may_bnd (hs pre a post s e h) fun s' h' => ?_
      exact ih (pre ++ [a]) s' (by rw [e]; simp) h'
  exact main l [] s0 rfl h0
end
end Mr

/-! Mr6: from data to typed data. -/
namespace Mr
open PySem Dv
section
variable {α β γ δ : Type} {ea : α → D} {eb : β → D} {ec : γ → D} {da : D → Option α} {db : D → Option β} {dc : D → Option γ}
def Dec (e : α → D) (dec : D → Option α) : Prop := ∀ d x, dec d = some x → eD d = e x
def decI : D → Option Int
  | .int i => some i
  | _ => none
def decB : D → Option Bool
  | .bool i => some i
  | _ => none
def decS : D → Option Str
  | .str i => some i
  | _ => none
def decAll (da : D → Option α) : List D → Option (List α)
  | [] => some []
  | d :: ds => (da d).bind fun x => (decAll da ds).map fun xs => x :: xs
def decT (da : D → Option α) : D → Option (List α)
  | .tuple ds => decAll da ds
  | _ => none
def decL (da : D → Option α) : D → Option (List α)
  | .list ds => decAll da ds
  | _ => none
def decP2 (da : D → Option α) (db : D → Option β) : D → Option (α × β)
  | .tuple [x, y] => (da x).bind fun x => (db y).map fun y => (x, y)
  | _ => none
def decP3 (da : D → Option α) (db : D → Option β) (dc : D → Option γ) : D → Option (α × β × γ)
  | .tuple [x, y, z] => (da x).bind fun x => (db y).bind fun y => (dc z).map fun z => (x, y, z)
  | _ => none
theorem dec_I : Dec PyData.int decI := fun d x h => by
  cases d <;> simp [decI] at h
  rw [h]; rfl
theorem dec_B : Dec PyData.bool decB := fun d x h => by
  cases d <;> simp [decB] at h
  rw [h]; rfl
theorem dec_D : Dec eD some := fun d x h => by cases h; rfl
/-- data without a list -/
abbrev GD := { d : D // flatD d = true }
def eG (d : GD) : D := d.1
theorem fd_G : FlatD eG := fun x => x.2
def decG (d : D) : Option GD := if h : flatD d = true then some ⟨d, h⟩ else none
theorem dec_G : Dec eG decG := fun d x h => by
  unfold decG at h
  split at h <;> cases h
  rfl
theorem dec_S : Dec PyData.str decS := fun d x h => by
  cases d <;> simp [decS] at h
  rw [h]; rfl
theorem dec_all (h : Dec ea da) : ∀ (ds : List D) (xs : List α), decAll da ds = some xs → ds = xs.map ea
  | [], xs, e => by simp [decAll] at e; rw [e]; rfl
  | d :: ds, xs, e => by
    simp only [decAll] at e
    cases hd : da d with
    | none => rw [hd] at e; cases e
    | some x =>
      rw [hd] at e
      simp only [Option.bind_some] at e
      cases hs : decAll da ds with
      | none => rw [hs] at e; cases e
      | some ys =>
        rw [hs] at e
        cases e
        rw [List.map_cons, ← dec_all h ds ys hs, ← h d x hd]
        rfl
theorem dec_T (h : Dec ea da) : Dec (eT ea) (decT da) := fun d x e => by
  cases d <;> simp only [decT] at e <;> first | cases e | skip
  rw [dec_all h _ _ e]; rfl
theorem dec_L (h : Dec ea da) : Dec (eL ea) (decL da) := fun d x e => by
  cases d <;> simp only [decL] at e <;> first | cases e | skip
  rw [dec_all h _ _ e]; rfl
theorem dec_P2 (h : Dec ea da) (h' : Dec eb db) : Dec (eP2 ea eb) (decP2 da db) := fun d x e => by
  unfold decP2 at e
  split at e
  · rename_i a b
    cases ha : da a with
    | none => rw [ha] at e; cases e
    | some x1 =>
      cases hb : db b with
      | none => rw [ha, hb] at e; cases e
      | some x2 =>
        rw [ha, hb] at e
        cases e
        have h1 := h _ _ ha
        have h2 := h' _ _ hb
        unfold eD at h1 h2 ⊢
        rw [h1, h2]; rfl
  · cases e
theorem dec_P3 (h : Dec ea da) (h' : Dec eb db) (h'' : Dec ec dc) : Dec (eP3 ea eb ec) (decP3 da db dc) := fun d x e => by
  unfold decP3 at e
  split at e
  · rename_i a b c
    cases ha : da a with
    | none => rw [ha] at e; cases e
    | some x1 =>
      cases hb : db b with
      | none => rw [ha, hb] at e; cases e
      | some x2 =>
        cases hc : dc c with
        | none => rw [ha, hb, hc] at e; cases e
        | some x3 =>
          rw [ha, hb, hc] at e
          cases e
          have h1 := h _ _ ha
          have h2 := h' _ _ hb
          have h3 := h'' _ _ hc
          unfold eD at h1 h2 h3 ⊢
          rw [h1, h2, h3]; rfl
  · cases e
theorem decAll_enc (h : ∀ x, da (ea x) = some x) : ∀ l : List α, decAll da (l.map ea) = some l
  | [] => rfl
  | x :: l => by simp only [List.map_cons, decAll, h, decAll_enc h l, Option.bind_some, Option.map_some]
end
end Mr

/-! AL0: alike data. -/
namespace Mr
open PySem Dv
mutual
def alikeB : D → D → Bool
  | .tuple vs, .tuple ds => alikeAllB vs ds
  | .none, .none => true
  | .bool a, .bool b => a == b
  | .int i, .int j => i == j
  | .str x, .str y => x == y
  | _, _ => false
def alikeAllB : List D → List D → Bool
  | [], [] => true
  | v :: vs, d :: ds => alikeB v d && alikeAllB vs ds
  | _, _ => false
end
inductive AO : Nat → D → Prop
  | non (k : Nat) : AO k .none
  | bl (k : Nat) (b : Bool) : AO k (.bool b)
  | int (k : Nat) (i : Int) : AO k (.int i)
  | str (k : Nat) (x : Str) : SeqAt.shaped (.str x) = true → AO k (.str x)
  | lst (k : Nat) (xs : List D) : SeqAt.shaped (.list xs) = true → AO k (.list xs)
  | tup (k : Nat) (xs : List D) : xs.length ≤ 1000000 → (∀ x ∈ xs, AO k x) → AO (k + 1) (.tuple xs)
theorem alikeAllB_eq : ∀ vs ds : List D, alikeAllB vs ds = (decide (vs.length = ds.length) && ((vs.zip ds).all fun p => alikeB p.1 p.2))
  | [], [] => rfl
  | [], _ :: _ => rfl
  | _ :: _, [] => rfl
  | v :: vs, d :: ds => by
    simp only [alikeAllB, alikeAllB_eq vs ds, List.length_cons, List.zip_cons_cons, List.all_cons, Nat.add_right_cancel_iff]
    cases alikeB v d <;> cases decide (vs.length = ds.length) <;> rfl
/-- no list within -/
inductive AF : D → Prop
  | non : AF .none
  | bl (b : Bool) : AF (.bool b)
  | int (i : Int) : AF (.int i)
  | str (x : Str) : AF (.str x)
  | tup (xs : List D) : (∀ x ∈ xs, AF x) → AF (.tuple xs)
theorem alikeB_self {d : D} (h : AF d) : alikeB d d = true := by
  induction h with
  | non => rfl
  | bl b => simp [alikeB]
  | int i => simp [alikeB]
  | str x => simp [alikeB]
  | tup xs _ ih =>
    simp only [alikeB]
    have : ∀ l : List D, (∀ x ∈ l, alikeB x x = true) → alikeAllB l l = true := by
      intro l
      induction l with
      | nil => intro _; rfl
      | cons a l ihl =>
        intro h
        simp only [alikeAllB, h a List.mem_cons_self, ihl fun b hb => h b (List.mem_cons_of_mem _ hb), Bool.and_self]
    exact this xs ih
theorem shaped_tup {xs : List D} (h : SeqAt.shaped (.tuple xs) = true) : ∀ x ∈ xs, SeqAt.shaped x = true := by
  unfold SeqAt.shaped at h ⊢
  simp only [Bool.and_eq_true, decide_eq_true_eq] at h ⊢
  obtain ⟨h1, h2⟩ := h
  have h2 : PyData.depthAll xs + 1 ≤ 64 := by simpa only [PyData.depth] using h2
  have h1 : PyData.canLayAll0 xs = true := by simpa only [PyData.canLay0] using h1
  have : ∀ xs : List D, PyData.canLayAll0 xs = true → ∀ k, PyData.depthAll xs ≤ k → ∀ x ∈ xs, x.canLay0 = true ∧ x.depth ≤ k := by
    intro xs
    induction xs with
    | nil => intro _ _ _ x hx; cases hx
    | cons a l ih =>
      intro h k hk x hx
      simp only [PyData.canLayAll0, Bool.and_eq_true, PyData.depthAll] at h hk
      rcases List.mem_cons.1 hx with rfl | hx
      · exact ⟨h.1, by omega⟩
      · exact ih h.2 k (by omega) x hx
  intro x hx
  have := this xs h1 64 (by omega) x hx
  exact this
theorem idx_zip_all (f : D → D → Bool) (vs ds : List D) (h : vs.length = ds.length) : (upto (ds.length : Int)).map (fun i => f ((vs[i.toNat]?).getD .none) ((ds[i.toNat]?).getD .none)) = (vs.zip ds).map fun p => f p.1 p.2 := by
  unfold upto
  rw [List.map_map, Int.toNat_natCast]
  refine List.ext_getElem (by simp [h]) ?_
  intro k h1 h2
  simp only [List.length_map, List.length_range] at h1
  simp only [List.getElem_map, List.getElem_range, Function.comp, List.getElem_zip, Int.toNat_natCast]
  rw [List.getElem?_eq_getElem (by omega), List.getElem?_eq_getElem h1]
  rfl
section
variable {α β γ : Type} {ea : α → D} {eb : β → D} {ec : γ → D} {k : Nat}
theorem ao_T {l : List α} (hl : l.length ≤ 1000000) (h : ∀ x ∈ l, AO k (ea x)) : AO (k + 1) (eT ea l) := .tup k _ (by rw [List.length_map]; exact hl) fun x hx => by
  obtain ⟨a, ha, rfl⟩ := List.mem_map.1 hx
  exact h a ha
theorem ao_P2 {x : α × β} (h : AO k (ea x.1)) (h' : AO k (eb x.2)) : AO (k + 1) (eP2 ea eb x) := .tup k _ (by simp) fun y hy => by
  simp only [List.mem_cons, List.not_mem_nil, or_false] at hy
  rcases hy with rfl | rfl <;> assumption
theorem ao_P3 {x : α × β × γ} (h : AO k (ea x.1)) (h' : AO k (eb x.2.1)) (h'' : AO k (ec x.2.2)) : AO (k + 1) (eP3 ea eb ec x) := .tup k _ (by simp) fun y hy => by
  simp only [List.mem_cons, List.not_mem_nil, or_false] at hy
  rcases hy with rfl | rfl | rfl <;> assumption
theorem af_T {l : List α} (h : ∀ x, AF (ea x)) : AF (eT ea l) := .tup _ fun x hx => by
  obtain ⟨a, ha, rfl⟩ := List.mem_map.1 hx
  exact h a
theorem af_P2 {x : α × β} (h : ∀ x, AF (ea x)) (h' : ∀ x, AF (eb x)) : AF (eP2 ea eb x) := .tup _ fun y hy => by
  simp only [List.mem_cons, List.not_mem_nil, or_false] at hy
  rcases hy with rfl | rfl
  · exact h _
  · exact h' _
theorem af_P3 {x : α × β × γ} (h : ∀ x, AF (ea x)) (h' : ∀ x, AF (eb x)) (h'' : ∀ x, AF (ec x)) : AF (eP3 ea eb ec x) := .tup _ fun y hy => by
  simp only [List.mem_cons, List.not_mem_nil, or_false] at hy
  rcases hy with rfl | rfl | rfl
  · exact h _
  · exact h' _
  · exact h'' _
theorem alike_self (rec : D → D → ND Bool) : True := trivial
end
end Mr

/-! Fr1: fractions in lowest terms. -/
namespace Mr
open PySem Dv
/-- a fraction as a pair in lowest terms -/
def nf (q : Rat) : Int × Int := (q.num, (q.den : Int))
theorem nf_pos (q : Rat) : 0 < (nf q).2 := by
  have := q.den_nz
  unfold nf
  simp only
  omega
theorem nf_inj {q r : Rat} (h : nf q = nf r) : q = r := by
  unfold nf at h
  have h1 := congrArg Prod.fst h
  have h2 := congrArg Prod.snd h
  simp only at h1 h2
  exact Rat.ext h1 (by omega)
theorem frac_nf (a : Int) {b : Int} (hb : 0 < b) : (a / ((Nat.gcd a.natAbs b.natAbs : Nat) : Int), b / ((Nat.gcd a.natAbs b.natAbs : Nat) : Int)) = nf (Rat.divInt a b) := by
  unfold nf
  rw [Rat.num_divInt, Rat.den_divInt, if_neg (by omega), Int.sign_eq_one_of_pos hb, Int.one_mul]
  have e : Int.gcd b a = Nat.gcd a.natAbs b.natAbs := by unfold Int.gcd; exact Nat.gcd_comm _ _
  rw [e]
  congr 1
  have : (b : Int) = (b.natAbs : Nat) := by omega
  rw [this]
  simp
theorem gcd_bounds (a : Int) {b : Int} (hb : 0 < b) : 0 < ((Nat.gcd a.natAbs b.natAbs : Nat) : Int) ∧ ((Nat.gcd a.natAbs b.natAbs : Nat) : Int) ≤ b := by
  have h1 : 0 < Nat.gcd a.natAbs b.natAbs := Nat.gcd_pos_of_pos_right _ (by omega)
  have h2 : Nat.gcd a.natAbs b.natAbs ≤ b.natAbs := Nat.gcd_le_right _ (by omega)
  omega
theorem nf_plus (q r : Rat) : Rat.divInt ((nf q).1 * (nf r).2 + (nf r).1 * (nf q).2) ((nf q).2 * (nf r).2) = q + r := by
  have h1 := nf_pos q
  have h2 := nf_pos r
  rw [← Rat.divInt_add_divInt _ _ (by omega) (by omega)]
  unfold nf
  rw [Rat.num_divInt_den, Rat.num_divInt_den]
theorem nf_less (q r : Rat) : Rat.divInt ((nf q).1 * (nf r).2 - (nf r).1 * (nf q).2) ((nf q).2 * (nf r).2) = q - r := by
  have h1 := nf_pos q
  have h2 := nf_pos r
  rw [← Rat.divInt_sub_divInt _ _ (by omega) (by omega)]
  unfold nf
  rw [Rat.num_divInt_den, Rat.num_divInt_den]
theorem nf_times (q r : Rat) : Rat.divInt ((nf q).1 * (nf r).1) ((nf q).2 * (nf r).2) = q * r := by
  rw [← Rat.divInt_mul_divInt]
  unfold nf
  rw [Rat.num_divInt_den, Rat.num_divInt_den]
/-- what is below is no more -/
def Sm (k : Nat) (q : Rat) : Prop := q.den ≤ k
theorem den_divInt_le (a : Int) {b : Int} (hb : 0 < b) : ((Rat.divInt a b).den : Int) ≤ b := by
  rw [Rat.den_divInt, if_neg (by omega)]
  have := Nat.div_le_self b.natAbs (b.gcd a)
  omega
theorem nf_int (a : Int) : nf (a : Rat) = (a, 1) := by unfold nf; simp
theorem nf_zero : nf 0 = (0, 1) := rfl
theorem nf_one : nf 1 = (1, 1) := rfl
theorem divInt_nf (q : Rat) : Rat.divInt (nf q).1 (nf q).2 = q := by unfold nf; exact Rat.num_divInt_den q
theorem den_add_le {q r : Rat} {k l : Nat} (h : Sm k q) (h' : Sm l r) : Sm (k * l) (q + r) := by
  unfold Sm at *
  have h1 := nf_pos q
  have h2 := nf_pos r
  have h3 := den_divInt_le ((nf q).1 * (nf r).2 + (nf r).1 * (nf q).2) (b := (nf q).2 * (nf r).2) (Int.mul_pos h1 h2)
  rw [nf_plus] at h3
  have h4 : (nf q).2 * (nf r).2 = ((q.den * r.den : Nat) : Int) := by unfold nf; simp
  rw [h4] at h3
  have := Nat.mul_le_mul h h'
  omega
theorem den_mul_le {q r : Rat} {k l : Nat} (h : Sm k q) (h' : Sm l r) : Sm (k * l) (q * r) := by
  unfold Sm at *
  have h1 := nf_pos q
  have h2 := nf_pos r
  have h3 := den_divInt_le ((nf q).1 * (nf r).1) (b := (nf q).2 * (nf r).2) (Int.mul_pos h1 h2)
  rw [nf_times] at h3
  have h4 : (nf q).2 * (nf r).2 = ((q.den * r.den : Nat) : Int) := by unfold nf; simp
  rw [h4] at h3
  have := Nat.mul_le_mul h h'
  omega
theorem sm_mono {q : Rat} {k l : Nat} (h : Sm k q) (hl : k ≤ l) : Sm l q := Nat.le_trans h hl
end Mr

/-! Ac1: worlds of functions, in plain Lean. -/
namespace Ac
open PySem Dv Mr
abbrev Deed := List (Int × Int)
abbrev Rule := List Int × List Int
abbrev Fn := List Int × List Rule
def placeF (l : List (Int × Int)) : Int := l.foldl (fun a p => a * p.1 + p.2) 0
theorem placeF_lt (l : List (Int × Int)) (h : ∀ p ∈ l, 0 ≤ p.2 ∧ p.2 < p.1) : 0 ≤ placeF l ∧ placeF l < (l.map (·.1)).foldl (· * ·) 1 := by
  have main : ∀ (l : List (Int × Int)) (a P : Int), (∀ p ∈ l, 0 ≤ p.2 ∧ p.2 < p.1) → 0 ≤ a → a < P → 0 ≤ l.foldl (fun a p => a * p.1 + p.2) a ∧ l.foldl (fun a p => a * p.1 + p.2) a < (l.map (·.1)).foldl (· * ·) P := by
    intro l
    induction l with
    | nil => intro a P h h0 h1; exact ⟨h0, h1⟩
    | cons p l ih =>
      intro a P h h0 h1
      simp only [List.foldl_cons, List.map_cons]
      have hp := h p List.mem_cons_self
      refine ih _ _ (fun q hq => h q (List.mem_cons_of_mem _ hq)) ?_ ?_
      · have := Int.mul_nonneg h0 (show 0 ≤ p.1 by omega); omega
      · have h2 : a + 1 ≤ P := h1
        have h3 := Int.mul_le_mul_of_nonneg_right h2 (show 0 ≤ p.1 by omega)
        rw [Int.add_mul, Int.one_mul] at h3
        omega
  exact main l 0 1 h (by omega) (by omega)
theorem zip_fst {α β : Type} (f g : α → β) (l : List α) : ((l.map f).zip (l.map g)).map (·.1) = l.map f := by
  induction l with
  | nil => rfl
  | cons a l ih => simp [List.zip_cons_cons, ih]
/-- what a variable is -/
def nextV (sz : List Int) (deed : Deed) (row : List Int) (r : Rule) : Int := (look deed row.length).getD (gI r.2 (placeF ((r.1.map (gI sz)).zip (r.1.map (gI row)))))
def valsR (sz : List Int) (deed : Deed) (rs : List Rule) : List Int := rs.foldl (fun row r => row ++ [nextV sz deed row r]) []
def vals (F : Fn) (deed : Deed) : List Int := valsR F.1 deed F.2
theorem vals_snoc (sz : List Int) (deed : Deed) (rs : List Rule) (r : Rule) : valsR sz deed (rs ++ [r]) = valsR sz deed rs ++ [nextV sz deed (valsR sz deed rs) r] := by
  simp [valsR, List.foldl_append]
theorem valsR_len (sz : List Int) (deed : Deed) (rs : List Rule) : (valsR sz deed rs).length = rs.length := by
  unfold valsR
  have main : ∀ (rs : List Rule) (row : List Int), (rs.foldl (fun row r => row ++ [nextV sz deed row r]) row).length = row.length + rs.length := by
    intro rs
    induction rs with
    | nil => intro row; rfl
    | cons r rs ih => intro row; simp only [List.foldl_cons]; rw [ih]; simp; omega
  simpa using main rs []
structure WF (F : Fn) : Prop where
  n : F.1.length ≤ 4
  len : F.2.length = F.1.length
  size : ∀ s ∈ F.1, 2 ≤ s ∧ s ≤ 3
  rule : ∀ pre r post, F.2 = pre ++ r :: post → (∀ u ∈ r.1, 0 ≤ u ∧ u < (pre.length : Int)) ∧ ((r.2.length : Nat) : Int) = (r.1.map (gI F.1)).foldl (· * ·) 1 ∧ ∀ y ∈ r.2, 0 ≤ y ∧ y < gI F.1 pre.length
def InN (F : Fn) (v : Int) : Prop := 0 ≤ v ∧ v < (F.1.length : Int)
/-- what is told fits -/
def Fits (F : Fn) (deed : Deed) : Prop := ∀ p ∈ deed, InN F p.1 ∧ 0 ≤ p.2 ∧ p.2 < gI F.1 p.1
def InR (sz row : List Int) : Prop := ∀ k : Nat, k < row.length → 0 ≤ gI row k ∧ gI row k < gI sz k
theorem look_mem {α : Type} {m : List (Int × α)} {i : Int} {y : α} (h : look m i = some y) : (i, y) ∈ m := by
  have main : ∀ (m : List (Int × α)) (a : Option α), m.foldl (fun a p => if p.1 = i then some p.2 else a) a = some y → a = some y ∨ (i, y) ∈ m := by
    intro m
    induction m with
    | nil => intro a h; exact .inl h
    | cons p m ih =>
      intro a h
      rcases ih _ h with h | h
      · simp only at h
        by_cases hp : p.1 = i
        · rw [if_pos hp] at h
          cases h
          subst hp
          exact .inr List.mem_cons_self
        · rw [if_neg hp] at h
          exact .inl h
      · exact .inr (List.mem_cons_of_mem _ h)
  exact (main m none h).resolve_left (by simp)
theorem gI_mem {l : List Int} {u : Int} (h0 : 0 ≤ u) (h1 : u < l.length) : gI l u ∈ l := by
  unfold gI
  have : u.toNat < l.length := by omega
  rw [List.getD_eq_getElem?_getD, List.getElem?_eq_getElem this]
  exact List.getElem_mem this
theorem WF.sz {F : Fn} (W : WF F) {u : Int} (h : InN F u) : 2 ≤ gI F.1 u ∧ gI F.1 u ≤ 3 := W.size _ (gI_mem h.1 h.2)
theorem WF.lt {F : Fn} (W : WF F) {pre post : List Rule} {r : Rule} (e : F.2 = pre ++ r :: post) : pre.length < F.1.length := by
  rw [← W.len, e]; simp
theorem place_lt {sz row : List Int} {ps : List Int} (hr : InR sz row) (hp : ∀ u ∈ ps, 0 ≤ u ∧ u < row.length) : 0 ≤ placeF ((ps.map (gI sz)).zip (ps.map (gI row))) ∧ placeF ((ps.map (gI sz)).zip (ps.map (gI row))) < (ps.map (gI sz)).foldl (· * ·) 1 := by
  have := placeF_lt ((ps.map (gI sz)).zip (ps.map (gI row))) (by
    intro p hm
    rw [List.zip_map'] at hm
    obtain ⟨u, hu, rfl⟩ := List.mem_map.1 hm
    have h1 := hp u hu
    have h2 := hr u.toNat (by omega)
    rw [Int.toNat_of_nonneg h1.1] at h2
    exact h2)
  rw [zip_fst] at this
  exact this
theorem next_in {F : Fn} {pre post : List Rule} {r : Rule} {deed : Deed} (W : WF F) (hF : Fits F deed) (e : F.2 = pre ++ r :: post) (hr : InR F.1 (valsR F.1 deed pre)) : 0 ≤ nextV F.1 deed (valsR F.1 deed pre) r ∧ nextV F.1 deed (valsR F.1 deed pre) r < gI F.1 pre.length := by
  obtain ⟨h2, h3, h4⟩ := W.rule _ _ _ e
  unfold nextV
  rw [valsR_len]
  cases hk : look deed pre.length with
  | some y => exact (hF _ (look_mem hk)).2
  | none =>
    simp only [Option.getD_none]
    have h5 := place_lt (ps := r.1) hr (by rw [valsR_len]; exact h2)
    rw [← h3] at h5
    exact h4 _ (gI_mem h5.1 h5.2)
theorem gI_app_l {a b : List Int} {k : Int} (h0 : 0 ≤ k) (h : k < a.length) : gI (a ++ b) k = gI a k := by
  unfold gI
  rw [List.getD_eq_getElem?_getD, List.getElem?_append_left (by omega), ← List.getD_eq_getElem?_getD]
theorem gI_end (a : List Int) (y : Int) : gI (a ++ [y]) (a.length : Nat) = y := by
  unfold gI
  simp
theorem inR_snoc {sz row : List Int} {y : Int} (hr : InR sz row) (hy : 0 ≤ y ∧ y < gI sz row.length) : InR sz (row ++ [y]) := by
  intro k hk
  rw [List.length_append, List.length_singleton] at hk
  by_cases h : k < row.length
  · rw [gI_app_l (by omega) (by omega)]
    exact hr k h
  · have : k = row.length := by omega
    subst this
    rw [gI_end]
    exact hy
theorem snoc_ind {α : Type} {motive : List α → Prop} (nil : motive []) (snoc : ∀ l a, motive l → motive (l ++ [a])) (l : List α) : motive l := by
  have : ∀ l : List α, motive l.reverse := by
    intro l
    induction l with
    | nil => exact nil
    | cons a l ih => rw [List.reverse_cons]; exact snoc _ _ ih
  have h := this l.reverse
  rw [List.reverse_reverse] at h
  exact h
theorem vals_in {F : Fn} {deed : Deed} (W : WF F) (hF : Fits F deed) (pre post : List Rule) : F.2 = pre ++ post → InR F.1 (valsR F.1 deed pre) := by
  induction pre using snoc_ind generalizing post with
  | nil => intro _ k hk; simp [valsR] at hk
  | snoc pre r ih =>
    intro e
    have e' : F.2 = pre ++ r :: post := by rw [e]; simp
    have i := ih (r :: post) e'
    rw [vals_snoc]
    refine inR_snoc i ?_
    rw [valsR_len]
    exact next_in W hF e' i
theorem vals_len {F : Fn} (W : WF F) (deed : Deed) : (vals F deed).length = F.1.length := by
  unfold vals
  rw [valsR_len, W.len]
theorem vals_inR {F : Fn} {deed : Deed} (W : WF F) (hF : Fits F deed) : InR F.1 (vals F deed) := vals_in W hF F.2 [] (by simp)
theorem vals_at {F : Fn} {deed : Deed} (W : WF F) (hF : Fits F deed) {v : Int} (hv : InN F v) : 0 ≤ gI (vals F deed) v ∧ gI (vals F deed) v < gI F.1 v := by
  have := vals_inR W hF v.toNat (by rw [vals_len W]; have := hv.2; have := hv.1; omega)
  rw [Int.toNat_of_nonneg hv.1] at this
  exact this
theorem fits_nil (F : Fn) : Fits F [] := fun _ h => by cases h
def act (F : Fn) : List Int := vals F []
/-! ### events -/
def holdsB (row : List Int) (ev : Deed) : Bool := ev.all fun p => decide (gI row p.1 = p.2)
/-! ### rows, subsets -/
def rowsF (sz : List Int) : List (List Int) := sz.foldl (fun found s => found.flatMap fun row => (upto s).map fun x => row ++ [x]) [[]]
theorem rowsF_snoc (sz : List Int) (s : Int) : rowsF (sz ++ [s]) = (rowsF sz).flatMap fun row => (upto s).map fun x => row ++ [x] := by
  simp [rowsF, List.foldl_append]
theorem rowsF_row (sz : List Int) : ∀ row ∈ rowsF sz, row.length = sz.length := by
  induction sz using snoc_ind with
  | nil => intro row h; simp [rowsF] at h; rw [h]
  | snoc sz s ih =>
    intro row h
    rw [rowsF_snoc, List.mem_flatMap] at h
    obtain ⟨r, hr, h⟩ := h
    obtain ⟨x, _, rfl⟩ := List.mem_map.1 h
    simp [ih r hr]
theorem flat_len {α β : Type} (f : α → List β) (k : Nat) (l : List α) (h : ∀ a ∈ l, (f a).length ≤ k) : (l.flatMap f).length ≤ l.length * k := by
  induction l with
  | nil => simp
  | cons a l ih =>
    have := ih fun b hb => h b (List.mem_cons_of_mem _ hb)
    have := h a List.mem_cons_self
    simp only [List.flatMap_cons, List.length_append, List.length_cons, Nat.add_mul, Nat.one_mul]
    omega
theorem rowsF_len (sz : List Int) (h : ∀ s ∈ sz, s ≤ 3) : (rowsF sz).length ≤ 3 ^ sz.length := by
  induction sz using snoc_ind with
  | nil => simp [rowsF]
  | snoc sz s ih =>
    rw [rowsF_snoc]
    have h1 := flat_len (fun row => (upto s).map fun x => row ++ [x]) 3 (rowsF sz) (by
      intro a _
      simp only [List.length_map, upto_len]
      have := h s (by simp)
      omega)
    have h2 := ih fun x hx => h x (by simp [hx])
    rw [List.length_append, List.length_singleton, Nat.pow_succ]
    exact Nat.le_trans h1 (Nat.mul_le_mul_right 3 h2)
theorem rowsF_mem (sz : List Int) : ∀ row ∈ rowsF sz, ∀ k : Nat, k < row.length → 0 ≤ gI row k ∧ gI row k < gI sz k := by
  induction sz using snoc_ind with
  | nil => intro row h k hk; simp [rowsF] at h; subst h; simp at hk
  | snoc sz s ih =>
    intro row h k hk
    rw [rowsF_snoc, List.mem_flatMap] at h
    obtain ⟨r, hr, h⟩ := h
    obtain ⟨x, hx, rfl⟩ := List.mem_map.1 h
    rw [mem_upto] at hx
    have hl := rowsF_row sz r hr
    rw [List.length_append, List.length_singleton] at hk
    by_cases hk2 : k < r.length
    · rw [gI_app_l (by omega) (by omega), gI_app_l (by omega) (by omega)]
      exact ih r hr k hk2
    · have : k = r.length := by omega
      subst this
      rw [gI_end]
      have e : gI (sz ++ [s]) (r.length : Nat) = s := by rw [hl]; exact gI_end sz s
      rw [e]
      exact hx
def subsR {α : Type} (l : List α) : List (List α) := l.foldl (fun found a => found ++ found.map (· ++ [a])) [[]]
theorem subsR_snoc {α : Type} (l : List α) (a : α) : subsR (l ++ [a]) = subsR l ++ (subsR l).map (· ++ [a]) := by
  simp [subsR, List.foldl_append]
theorem subsR_len {α : Type} (l : List α) : (subsR l).length = 2 ^ l.length := by
  induction l using snoc_ind with
  | nil => rfl
  | snoc l a ih => rw [subsR_snoc]; simp [ih, Nat.pow_succ]; omega
theorem mem_subsR {α : Type} (l s : List α) : s ∈ subsR l ↔ s.Sublist l := by
  induction l using snoc_ind generalizing s with
  | nil => simp [subsR]
  | snoc l a ih =>
    rw [subsR_snoc, List.mem_append, List.mem_map, List.sublist_append_iff]
    constructor
    · rintro (h | ⟨t, h, rfl⟩)
      · exact ⟨s, [], by simp, (ih s).1 h, by simp⟩
      · exact ⟨t, [a], rfl, (ih t).1 h, List.Sublist.refl _⟩
    · rintro ⟨s1, s2, rfl, h1, h2⟩
      rcases List.sublist_cons_iff.1 h2 with h3 | ⟨t, rfl, h3⟩
      · rw [List.sublist_nil] at h3
        subst h3
        exact .inl (by rw [List.append_nil]; exact (ih s1).2 h1)
      · rw [List.sublist_nil] at h3
        subst h3
        exact .inr ⟨s1, (ih s1).2 h1, rfl⟩
/-- sorted -/
def subsF {α : Type} (e : α → D) (l : List α) : List (List α) := sortE (eT e) (subsR l)
theorem mem_subsF {α : Type} {e : α → D} (l s : List α) : s ∈ subsF e l ↔ s.Sublist l := by
  unfold subsF
  rw [mem_sortE, mem_subsR]
theorem subsF_len {α : Type} (e : α → D) (l : List α) : (subsF e l).length = 2 ^ l.length := by
  unfold subsF
  rw [sortE_len, subsR_len]
theorem look_nil {α : Type} (i : Int) : look ([] : List (Int × α)) i = none := rfl
end Ac

/-! Ac2: causes, in plain Lean. -/
namespace Ac
open PySem Dv Mr
abbrev eII : Int × Int → D := eP2 PyData.int PyData.int
abbrev eLD : Int × Deed → D := eP2 PyData.int (eT eII)
abbrev eLDR : Int × Deed × List Int → D := eP3 PyData.int (eT eII) (eT PyData.int)
theorem al_II : Alk eII := alk_P2 alk_int alk_int
theorem eq_II : Eqv eII := eqv_P2 eqv_int eqv_int
theorem tot_II : Tot eII := tot_P2 alk_int eqv_int tot_int alk_int tot_int
theorem tot_D : Tot (eT eII) := tot_T al_II eq_II tot_II
theorem tot_R : Tot (eT PyData.int) := tot_T alk_int eqv_int tot_int
theorem tot_LD : Tot eLD := tot_P2 alk_int eqv_int tot_int (alk_T al_II) tot_D
theorem tot_LDR : Tot eLDR := tot_P3 alk_int eqv_int tot_int (alk_T al_II) (eqv_T eq_II) tot_D (alk_T alk_int) tot_R
def othersF (F : Fn) (xs : List Int) : List Int := (upto F.1.length).filter fun v => decide (v ∉ xs)
def actOf (F : Fn) (vs : List Int) : Deed := vs.map fun v => (v, gI (act F) v)
/-- is the event so by the deed? -/
def so (F : Fn) (deed : Deed) (ev : Deed) : Bool := holdsB (vals F (sortE eII deed)) ev
def restF (F : Fn) (xs : List Int) (held : Deed) : Deed := actOf F ((othersF F xs).filter fun v => decide (v ∉ held.map (·.1)))
def whole (F : Fn) (xs : List Int) (ev held : Deed) : Bool := (subsF eII held).all fun some => (subsF eII (restF F xs held)).all fun more => so F (actOf F xs ++ some ++ more) ev
def wit (F : Fn) (b : Bool) (xs : List Int) (ev : Deed) (other : List Int) (held : Deed) : Bool := !so F (xs.zip other ++ held) ev && (b || whole F xs ev held)
/-- what may be held with names -/
def setts (F : Fn) (b : Bool) (names : List Int) : List Deed := if b then [actOf F names] else (rowsF (names.map (gI F.1))).map fun row => names.zip row
def rawH (F : Fn) (b : Bool) (xs : List Int) : List Deed := (subsF PyData.int (othersF F xs)).flatMap (setts F b)
def heldsP (F : Fn) (b : Bool) (xs : List Int) : List (Int × Deed) := sortE eLD ((rawH F b xs).map fun d => ((d.length : Int), d))
def heldsF (F : Fn) (b : Bool) (xs : List Int) : List Deed := (heldsP F b xs).map (·.2)
def rowsX (F : Fn) (xs : List Int) : List (List Int) := rowsF (xs.map (gI F.1))
def witsOf (F : Fn) (b : Bool) (xs : List Int) (ev : Deed) (held : Deed) : List (List Int × Deed) := ((rowsX F xs).filter fun o => wit F b xs ev o held).map fun o => (o, held)
/-- all witnesses, in order -/
def allW (F : Fn) (b : Bool) (xs : List Int) (ev : Deed) : List (List Int × Deed) := (heldsF F b xs).flatMap (witsOf F b xs ev)
def lawB (F : Fn) (b : Bool) (xs : List Int) (ev : Deed) : List (Int × Deed × List Int) := (subsF PyData.int (othersF F xs)).flatMap fun names => (setts F b names).flatMap fun held => ((rowsX F xs).filter fun o => wit F b xs ev o held).map fun o => ((held.length : Int), held, o)
/-! orders -/
theorem ltAll_app (l a b : List Int) : ltAll PyData.int (l ++ a) (l ++ b) = ltAll PyData.int a b := by
  induction l with
  | nil => rfl
  | cons x l ih => simp only [List.cons_append, ltAll, if_true, ih]
theorem ltAll_long : ∀ (r r' a b : List Int), r.length = r'.length → ltAll PyData.int r r' = true → ltAll PyData.int (r ++ a) (r' ++ b) = true
  | [], [], _, _, _, h => by simp [ltAll] at h
  | [], _ :: _, _, _, h, _ => by simp at h
  | _ :: _, [], _, _, h, _ => by simp at h
  | x :: r, y :: r', a, b, hl, h => by
    simp only [List.cons_append, ltAll] at h ⊢
    split
    · rename_i e
      rw [if_pos e] at h
      exact ltAll_long r r' a b (by simpa using hl) h
    · rename_i e
      rw [if_neg e] at h
      exact h
theorem rows_pw (sz : List Int) : (rowsF sz).Pairwise fun x y => ltE (eT PyData.int) x y = true := by
  induction sz using snoc_ind with
  | nil => simp [rowsF]
  | snoc sz s ih =>
    rw [rowsF_snoc, List.pairwise_flatMap]
    constructor
    · intro row _
      rw [List.pairwise_map]
      refine (upto_pw s).imp ?_
      intro a b hab
      rw [ltE_T alk_int eqv_int, ltAll_app]
      simp only [ltAll]
      rw [if_neg (by omega), ltE_int, decide_eq_true hab]
    · refine List.Pairwise.imp_of_mem ?_ ih
      intro r r' hr hr' h x hx y hy
      obtain ⟨a, _, rfl⟩ := List.mem_map.1 hx
      obtain ⟨b, _, rfl⟩ := List.mem_map.1 hy
      rw [ltE_T alk_int eqv_int] at h ⊢
      exact ltAll_long _ _ _ _ (by rw [rowsF_row _ _ hr, rowsF_row _ _ hr']) h
theorem rows_nodup (sz : List Int) : (rowsF sz).Nodup := (rows_pw sz).imp fun {x y} h e => by
  subst e
  rw [ltE_irr] at h
  cases h
theorem subsR_nodup {α : Type} {l : List α} (h : l.Nodup) : (subsR l).Nodup := by
  induction l using snoc_ind with
  | nil => simp [subsR]
  | snoc l a ih =>
    rw [List.nodup_append] at h
    obtain ⟨h1, h2, h3⟩ := h
    rw [subsR_snoc, List.nodup_append]
    refine ⟨ih h1, ?_, ?_⟩
    · have := ih h1
      unfold List.Nodup at this ⊢
      rw [List.pairwise_map]
      refine this.imp ?_
      intro x y hxy e
      exact hxy (List.append_cancel_right e)
    · intro s hs t ht e
      obtain ⟨u, hu, rfl⟩ := List.mem_map.1 ht
      have := ((mem_subsR _ _).1 hs).subset (show a ∈ s by rw [e]; simp)
      exact h3 a this a (by simp) rfl
theorem subsF_nodup {α : Type} {e : α → D} {l : List α} (h : l.Nodup) : (subsF e l).Nodup := (sortE_perm _).nodup_iff.2 (subsR_nodup h)
theorem upto_nodup (n : Int) : (upto n).Nodup := (upto_pw n).imp fun h => by omega
theorem others_nodup (F : Fn) (xs : List Int) : (othersF F xs).Nodup := (upto_nodup _).filter _
theorem zip_names {names row : List Int} (h : row.length = names.length) : (names.zip row).map (·.1) = names := by
  rw [List.map_fst_zip]; omega
theorem sett_names {F : Fn} {b : Bool} {names : List Int} {d : Deed} (h : d ∈ setts F b names) : d.map (·.1) = names := by
  unfold setts at h
  cases b with
  | true =>
    rw [if_pos rfl, List.mem_singleton] at h
    subst h
    unfold actOf
    rw [List.map_map]
    exact List.map_id' _
  | false =>
    rw [if_neg (by simp), List.mem_map] at h
    obtain ⟨row, hr, rfl⟩ := h
    exact zip_names (by rw [rowsF_row _ _ hr, List.length_map])
theorem setts_nodup (F : Fn) (b : Bool) (names : List Int) : (setts F b names).Nodup := by
  unfold setts
  cases b with
  | true => rw [if_pos rfl]; simp
  | false =>
    rw [if_neg (by simp)]
    unfold List.Nodup
    rw [List.pairwise_map]
    refine List.Pairwise.imp_of_mem ?_ (rows_nodup _)
    intro x y hx hy hxy e
    have hx := rowsF_row _ _ hx
    have hy := rowsF_row _ _ hy
    rw [List.length_map] at hx hy
    refine hxy ?_
    have e2 := congrArg (List.map Prod.snd) e
    rw [List.map_snd_zip (by omega), List.map_snd_zip (by omega)] at e2
    exact e2
theorem rawH_nodup (F : Fn) (b : Bool) (xs : List Int) : (rawH F b xs).Nodup := by
  unfold rawH List.Nodup
  rw [List.pairwise_flatMap]
  refine ⟨fun n _ => setts_nodup F b n, ?_⟩
  refine (subsF_nodup (others_nodup F xs)).imp ?_
  intro n m hnm x hx y hy e
  subst e
  exact hnm ((sett_names hx).symm.trans (sett_names hy))
theorem heldsP_nodup (F : Fn) (b : Bool) (xs : List Int) : (heldsP F b xs).Nodup := by
  unfold heldsP
  refine (sortE_perm _).nodup_iff.2 ?_
  unfold List.Nodup
  rw [List.pairwise_map]
  refine (rawH_nodup F b xs).imp ?_
  intro x y h e
  exact h (congrArg Prod.snd e)
theorem heldsP_pw (F : Fn) (b : Bool) (xs : List Int) : (heldsP F b xs).Pairwise fun x y => ltE eLD x y = true := by
  have h1 : (heldsP F b xs).Pairwise fun x y => leE eLD x y = true := sortE_pw _
  refine List.Pairwise.imp ?_ (h1.and (heldsP_nodup F b xs))
  rintro x y ⟨h2, h3⟩
  cases h : ltE eLD x y with
  | true => rfl
  | false =>
    rw [leE_eq, Bool.not_eq_true'] at h2
    exact absurd (tot_LD _ _ h h2) h3
theorem heldsP_fst {F : Fn} {b : Bool} {xs : List Int} {p : Int × Deed} (h : p ∈ heldsP F b xs) : p.1 = p.2.length ∧ p.2 ∈ rawH F b xs := by
  unfold heldsP at h
  rw [mem_sortE, List.mem_map] at h
  obtain ⟨d, hd, rfl⟩ := h
  exact ⟨rfl, hd⟩
theorem lawB_sorted (F : Fn) (b : Bool) (xs : List Int) (ev : Deed) : sortE eLDR (lawB F b xs ev) = (heldsP F b xs).flatMap fun p => ((rowsX F xs).filter fun o => wit F b xs ev o p.2).map fun o => (p.1, p.2, o) := by
  refine sortE_uniq tot_LDR ?_ ?_
  · have e : lawB F b xs ev = ((rawH F b xs).map fun d => ((d.length : Int), d)).flatMap fun p => ((rowsX F xs).filter fun o => wit F b xs ev o p.2).map fun o => (p.1, p.2, o) := by
      unfold lawB rawH
      rw [List.flatMap_map, List.flatMap_assoc]
    rw [e]
    exact List.Perm.flatMap_right _ (sortE_perm _).symm
  · rw [List.pairwise_flatMap]
    constructor
    · intro p _
      rw [List.pairwise_map]
      refine List.Pairwise.imp ?_ ((rows_pw _).filter _)
      intro x y h
      refine leE_of_lt ?_
      rw [ltE_P3 alk_int eqv_int (alk_T al_II) (eqv_T eq_II) (alk_T alk_int), if_pos rfl, if_pos rfl]
      exact h
    · refine (heldsP_pw F b xs).imp ?_
      intro p q h x hx y hy
      obtain ⟨o, _, rfl⟩ := List.mem_map.1 hx
      obtain ⟨o', _, rfl⟩ := List.mem_map.1 hy
      refine leE_of_lt ?_
      rw [ltE_P3 alk_int eqv_int (alk_T al_II) (eqv_T eq_II) (alk_T alk_int)]
      rw [ltE_P2 alk_int eqv_int (alk_T al_II)] at h
      simp only
      split
      · rename_i e1
        rw [if_pos e1] at h
        rw [if_neg]
        · exact h
        · intro e2
          rw [e2, ltE_irr] at h
          cases h
      · rename_i e1
        rw [if_neg e1] at h
        exact h
theorem lawW_eq (F : Fn) (b : Bool) (xs : List Int) (ev : Deed) : (sortE eLDR (lawB F b xs ev)).map (fun t => (t.2.2, t.2.1)) = allW F b xs ev := by
  rw [lawB_sorted]
  unfold allW heldsF witsOf
  rw [List.map_flatMap, List.flatMap_map]
  congr 1
  funext p
  rw [List.map_map]
  rfl
/-- the first -/
theorem first_head (F : Fn) (b : Bool) (xs : List Int) (ev : Deed) : ((heldsF F b xs).findSome? fun held => (rowsX F xs).findSome? fun o => if wit F b xs ev o held then some (o, held) else none) = (allW F b xs ev).head? := by
  have h1 : ∀ (rows : List (List Int)) (held : Deed), (rows.findSome? fun o => if wit F b xs ev o held = true then some (o, held) else none) = ((rows.filter fun o => wit F b xs ev o held).map fun o => (o, held)).head? := by
    intro rows held
    induction rows with
    | nil => rfl
    | cons o rows ih =>
      rw [List.findSome?_cons, List.filter_cons]
      split
      · rename_i h; split at h
        · rename_i hw; rw [if_pos hw]; cases h; rfl
        · cases h
      · rename_i h; split at h
        · cases h
        · rename_i hw; rw [if_neg hw, ih]
  unfold allW
  generalize heldsF F b xs = hs
  induction hs with
  | nil => rfl
  | cons d hs ih =>
    rw [List.findSome?_cons, h1, List.flatMap_cons, List.head?_append]
    unfold witsOf at ih ⊢
    cases hh : (List.map (fun o => (o, d)) (List.filter (fun o => wit F b xs ev o d) (rowsX F xs))).head? with
    | some x => rfl
    | none => exact ih
/-- the first is of the least held -/
theorem head_least {F : Fn} {b : Bool} {xs : List Int} {ev : Deed} {w : List Int × Deed} (h : (allW F b xs ev).head? = some w) : w ∈ allW F b xs ev ∧ ∀ e ∈ allW F b xs ev, w.2.length ≤ e.2.length := by
  have pw : (allW F b xs ev).Pairwise fun x y => x.2.length ≤ y.2.length := by
    unfold allW
    rw [List.pairwise_flatMap]
    constructor
    · intro held _
      unfold witsOf
      rw [List.pairwise_map]
      exact List.pairwise_of_forall fun _ _ => Nat.le_refl _
    · unfold heldsF
      rw [List.pairwise_map]
      refine List.Pairwise.imp_of_mem ?_ (heldsP_pw F b xs)
      intro p q hp hq h x hx y hy
      unfold witsOf at hx hy
      obtain ⟨o, _, rfl⟩ := List.mem_map.1 hx
      obtain ⟨o', _, rfl⟩ := List.mem_map.1 hy
      rw [ltE_P2 alk_int eqv_int (alk_T al_II)] at h
      have h1 := (heldsP_fst hp).1
      have h2 := (heldsP_fst hq).1
      simp only
      split at h
      · omega
      · rw [ltE_int, decide_eq_true_eq] at h
        omega
  generalize allW F b xs ev = l at h pw
  cases l with
  | nil => cases h
  | cons a l =>
    cases h
    refine ⟨List.mem_cons_self, fun e he => ?_⟩
    rcases List.mem_cons.1 he with rfl | he
    · exact Nat.le_refl _
    · exact (List.pairwise_cons.1 pw).1 e he
/-! parts, causes -/
def partsP (xs : List Int) : List (Int × List Int) := sortE (eP2 PyData.int (eT PyData.int)) (((subsF PyData.int xs).filter fun p => decide (0 < (p.length : Int)) && decide ((p.length : Int) < xs.length)).map fun p => ((p.length : Int), p))
def partsF (xs : List Int) : List (List Int) := (partsP xs).map (·.2)
def sD (s : String) : D := .str (Str.ofString s)
def causeP (F : Fn) (b : Bool) (xs : List Int) (ev : Deed) : D :=
  if so F [] ev then
    match (partsF xs).findSome? (fun p => (allW F b p ev).head?.map fun w => (p, w)) with
    | some (p, w) => .tuple [sD "less", eT PyData.int p, eT PyData.int w.1, eT eII w.2]
    | none => match (allW F b xs ev).head? with
      | some w => .tuple [sD "cause", eT PyData.int w.1, eT eII w.2]
      | none => .tuple [sD "no"]
  else .tuple [sD "false"]
def isCause (F : Fn) (b : Bool) (xs : List Int) (ev : Deed) : Bool := so F [] ev && ((partsF xs).findSome? (fun p => (allW F b p ev).head?.map fun w => (p, w))).isNone && (allW F b xs ev).head?.isSome
/-- what xs may be -/
def XOk (F : Fn) (xs : List Int) : Prop := (∀ v ∈ xs, InN F v) ∧ xs.length ≤ 4
theorem XOk.sub {F : Fn} {xs ys : List Int} (h : XOk F xs) (s : ys.Sublist xs) : XOk F ys := ⟨fun v hv => h.1 v (s.subset hv), Nat.le_trans s.length_le h.2⟩
theorem parts_sub {xs p : List Int} (h : p ∈ partsF xs) : p.Sublist xs := by
  unfold partsF partsP at h
  obtain ⟨q, hq, rfl⟩ := List.mem_map.1 h
  rw [mem_sortE, List.mem_map] at hq
  obtain ⟨r, hr, rfl⟩ := hq
  exact (mem_subsF _ _).1 (List.mem_filter.1 hr).1
theorem mem_others {F : Fn} {xs : List Int} {v : Int} : v ∈ othersF F xs ↔ InN F v ∧ v ∉ xs := by
  unfold othersF InN
  rw [List.mem_filter, mem_upto, decide_eq_true_eq]
theorem others_len (F : Fn) (xs : List Int) : (othersF F xs).length ≤ F.1.length := by
  unfold othersF
  refine Nat.le_trans (List.length_filter_le _ _) ?_
  rw [upto_len, Int.toNat_natCast]
  exact Nat.le_refl _
theorem others_ok {F : Fn} (W : WF F) (xs : List Int) : XOk F (othersF F xs) := ⟨fun _ h => (mem_others.1 h).1, Nat.le_trans (others_len F xs) W.n⟩
theorem fits_actOf {F : Fn} (W : WF F) {vs : List Int} (h : ∀ v ∈ vs, InN F v) : Fits F (actOf F vs) := by
  intro p hp
  unfold actOf at hp
  obtain ⟨v, hv, rfl⟩ := List.mem_map.1 hp
  exact ⟨h v hv, vals_at W (fits_nil F) (h v hv)⟩
theorem rowsX_row {F : Fn} {xs row : List Int} (h : row ∈ rowsX F xs) : row.length = xs.length := by
  have := rowsF_row _ _ h
  rwa [List.length_map] at this
theorem fits_zip {F : Fn} {xs row : List Int} (hx : ∀ v ∈ xs, InN F v) (h : row ∈ rowsX F xs) : Fits F (xs.zip row) := by
  intro p hp
  obtain ⟨k, hk, e⟩ := List.mem_iff_getElem.1 hp
  rw [List.length_zip] at hk
  have hl := rowsX_row h
  have h1 : p.1 = xs[k] := by rw [← e]; simp
  have h2 : p.2 = row[k] := by rw [← e]; simp
  have := rowsF_mem _ row h k (by omega)
  have e1 : gI row k = p.2 := by
    unfold gI
    rw [Int.toNat_natCast, List.getD_eq_getElem?_getD, List.getElem?_eq_getElem (by omega), h2]
    rfl
  have e2 : gI (xs.map (gI F.1)) k = gI F.1 p.1 := by
    unfold gI
    rw [Int.toNat_natCast, List.getD_eq_getElem?_getD, List.getElem?_map, List.getElem?_eq_getElem (by omega), h1]
    rfl
  rw [e1, e2] at this
  exact ⟨by rw [h1]; exact hx _ (List.getElem_mem _), this⟩
theorem fits_app {F : Fn} {a b : Deed} (ha : Fits F a) (hb : Fits F b) : Fits F (a ++ b) := fun p hp => (List.mem_append.1 hp).elim (ha p) (hb p)
theorem fits_sub {F : Fn} {a b : Deed} (ha : Fits F a) (s : b.Sublist a) : Fits F b := fun p hp => ha p (s.subset hp)
theorem fits_sort {F : Fn} {a : Deed} (ha : Fits F a) : Fits F (sortE eII a) := fun p hp => ha p (mem_sortE.1 hp)
theorem setts_fits {F : Fn} (W : WF F) {b : Bool} {names : List Int} (hn : ∀ v ∈ names, InN F v) {d : Deed} (h : d ∈ setts F b names) : Fits F d ∧ d.length = names.length := by
  constructor
  · unfold setts at h
    cases b with
    | true =>
      rw [if_pos rfl, List.mem_singleton] at h
      subst h
      exact fits_actOf W hn
    | false =>
      rw [if_neg (by simp), List.mem_map] at h
      obtain ⟨row, hr, rfl⟩ := h
      exact fits_zip hn hr
  · have := congrArg List.length (sett_names h)
    rw [List.length_map] at this
    exact this
theorem rawH_fits {F : Fn} (W : WF F) {b : Bool} {xs : List Int} {d : Deed} (h : d ∈ rawH F b xs) : Fits F d ∧ d.length ≤ 4 := by
  unfold rawH at h
  obtain ⟨names, h1, h2⟩ := List.mem_flatMap.1 h
  have hs := (mem_subsF _ _).1 h1
  have ho := (others_ok W xs).sub hs
  have := setts_fits W ho.1 h2
  exact ⟨this.1, by rw [this.2]; exact ho.2⟩
theorem held_fits {F : Fn} (W : WF F) {b : Bool} {xs : List Int} {d : Deed} (h : d ∈ heldsF F b xs) : Fits F d ∧ d.length ≤ 4 := by
  unfold heldsF at h
  obtain ⟨p, hp, rfl⟩ := List.mem_map.1 h
  exact rawH_fits W (heldsP_fst hp).2
theorem rowsX_len {F : Fn} (W : WF F) {xs : List Int} (h : XOk F xs) : (rowsX F xs).length ≤ 81 := by
  have h1 := rowsF_len (xs.map (gI F.1)) (by
    intro s hs
    obtain ⟨v, hv, rfl⟩ := List.mem_map.1 hs
    exact (W.sz (h.1 v hv)).2)
  rw [List.length_map] at h1
  have h2 : 3 ^ xs.length ≤ 3 ^ 4 := Nat.pow_le_pow_right (by omega) h.2
  unfold rowsX
  omega
theorem setts_len {F : Fn} (W : WF F) {b : Bool} {names : List Int} (h : XOk F names) : (setts F b names).length ≤ 81 := by
  unfold setts
  cases b with
  | true => rw [if_pos rfl]; simp
  | false =>
    rw [if_neg (by simp), List.length_map]
    exact rowsX_len W h
theorem rawH_len {F : Fn} (W : WF F) {b : Bool} {xs : List Int} : (rawH F b xs).length ≤ 16 * 81 := by
  unfold rawH
  have h1 := flat_len (setts F b) 81 (subsF PyData.int (othersF F xs)) (fun n hn => setts_len W ((others_ok W xs).sub ((mem_subsF _ _).1 hn)))
  rw [subsF_len] at h1
  have h2 : 2 ^ (othersF F xs).length ≤ 2 ^ 4 := Nat.pow_le_pow_right (by omega) (others_ok W xs).2
  have := Nat.mul_le_mul_right 81 h2
  omega
end Ac

namespace C68
open PySem PySem.Spec PyProof.Rows L2 Dv
def st (i : Nat) : Stmt := PySem.Challenge.pw_causeworth_k68_duty_and_blame.main.body.getD i (.Pass ⟨0, 0, 0, 0⟩)
def fns : List (Str × Nat) := [(Str.ofString "fraction", (2 : Nat)), (Str.ofString "plus", (2 : Nat)), (Str.ofString "times", (2 : Nat)), (Str.ofString "rows_of", (1 : Nat)), (Str.ofString "place_of", (2 : Nat)), (Str.ofString "values", (2 : Nat)), (Str.ofString "subsets", (1 : Nat)), (Str.ofString "holds", (2 : Nat)), (Str.ofString "setting", (2 : Nat)), (Str.ofString "together", (1 : Nat)), (Str.ofString "actual_of", (2 : Nat)), (Str.ofString "settings_of", (2 : Nat)), (Str.ofString "others_of", (2 : Nat)), (Str.ofString "stays_whole", (4 : Nat)), (Str.ofString "is_witness", (6 : Nat)), (Str.ofString "held_choices", (3 : Nat)), (Str.ofString "first_witness", (4 : Nat)), (Str.ofString "parts_of", (1 : Nat)), (Str.ofString "cause_paper", (4 : Nat)), (Str.ofString "is_cause", (4 : Nat)), (Str.ofString "least_change", (3 : Nat)), (Str.ofString "duty", (3 : Nat)), (Str.ofString "blame", (3 : Nat)), (Str.ofString "duties", (2 : Nat)), (Str.ofString "_law_fill", (1 : Nat)), (Str.ofString "_law_take", (2 : Nat)), (Str.ofString "_law_is_int", (1 : Nat)), (Str.ofString "_law_alike", (2 : Nat)), (Str.ofString "_law_spoilt", (2 : Nat)), (Str.ofString "_law_bent", (3 : Nat)), (Str.ofString "_law_functions", (2 : Nat)), (Str.ofString "_law_rows", (1 : Nat)), (Str.ofString "_law_values", (2 : Nat)), (Str.ofString "_law_sets", (1 : Nat)), (Str.ofString "_law_so", (3 : Nat)), (Str.ofString "_law_is_witness", (6 : Nat)), (Str.ofString "_law_witnesses", (4 : Nat)), (Str.ofString "_law_parts", (1 : Nat)), (Str.ofString "_law_cause", (4 : Nat)), (Str.ofString "_law_event", (2 : Nat)), (Str.ofString "_law_duty", (3 : Nat)), (Str.ofString "_law_divisor", (2 : Nat)), (Str.ofString "_law_ratio", (2 : Nat))]
def c_fraction : List Stm := [
  (.set 2 (.blt .gcd [(.own 0), (.own 1)])),
  (.ret (.tup [(.bin .div (.own 0) (.own 2)), (.bin .div (.own 1) (.own 2))]))]
def d_fraction : DI := ⟨"fraction", "fraction", [Str.ofString "above", Str.ofString "below", Str.ofString "g"], [Str.ofString "above", Str.ofString "below"], defArgs (st 2), defBody (st 2), defScope (st 2), c_fraction⟩
def c_plus : List Stm := [
  (.ret (.call (Str.ofString "fraction") [(.bin .add (.bin .mul (.idx (.own 0) (.con (.int (0)))) (.idx (.own 1) (.con (.int (1))))) (.bin .mul (.idx (.own 1) (.con (.int (0)))) (.idx (.own 0) (.con (.int (1)))))), (.bin .mul (.idx (.own 0) (.con (.int (1)))) (.idx (.own 1) (.con (.int (1)))))]))]
def d_plus : DI := ⟨"plus", "plus", [Str.ofString "a", Str.ofString "b"], [Str.ofString "a", Str.ofString "b"], defArgs (st 3), defBody (st 3), defScope (st 3), c_plus⟩
def c_times : List Stm := [
  (.ret (.call (Str.ofString "fraction") [(.bin .mul (.idx (.own 0) (.con (.int (0)))) (.idx (.own 1) (.con (.int (0))))), (.bin .mul (.idx (.own 0) (.con (.int (1)))) (.idx (.own 1) (.con (.int (1)))))]))]
def d_times : DI := ⟨"times", "times", [Str.ofString "a", Str.ofString "b"], [Str.ofString "a", Str.ofString "b"], defArgs (st 4), defBody (st 4), defScope (st 4), c_times⟩
def c_rows_of : List Stm := [
  (.set 1 (.lst [(.tup [])])),
  (.for_ (.name 2) (.own 0) [(.set 1 (.lc2 (.name 3) (.own 1) (.name 4) (.rng1 (.var 2)) (.bin .add (.own 3) (.tup [(.var 4)])) [3, 4] [4]))]),
  (.ret (.blt .tuple [(.own 1)]))]
def d_rows_of : DI := ⟨"rows_of", "rows_of", [Str.ofString "sizes", Str.ofString "found", Str.ofString "size", Str.ofString "row", Str.ofString "x"], [Str.ofString "sizes"], defArgs (st 5), defBody (st 5), defScope (st 5), c_rows_of⟩
def c_place_of : List Stm := [
  (.set 2 (.con (.int (0)))),
  (.for_ (.tup [(.name 3), (.name 4)]) (.zip (.own 0) (.own 1)) [(.set 2 (.bin .add (.bin .mul (.own 2) (.own 3)) (.own 4)))]),
  (.ret (.own 2))]
def d_place_of : DI := ⟨"place_of", "place_of", [Str.ofString "sizes", Str.ofString "row", Str.ofString "found", Str.ofString "size", Str.ofString "x"], [Str.ofString "sizes", Str.ofString "row"], defArgs (st 7), defBody (st 7), defScope (st 7), c_place_of⟩
def c_values : List Stm := [
  (.unp (.tup [(.name 2), (.name 3)]) (.var 0)),
  (.set 4 (.blt .dict [(.own 1)])),
  (.set 5 (.tup [])),
  (.for_ (.tup [(.name 6), (.tup [(.name 7), (.name 8)])]) (.enum (.own 3)) [(.ife (.cmp .isin (.own 6) (.own 4)) [(.aug 5 .add (.tup [(.idx (.own 4) (.var 6))]))] [(.aug 5 .add (.tup [(.idx (.own 8) (.call (Str.ofString "place_of") [(.lc (.name 9) (.own 7) (.con (.bool true)) (.idx (.own 2) (.var 9)) [9]), (.lc (.name 9) (.own 7) (.con (.bool true)) (.idx (.own 5) (.var 9)) [9])]))]))])]),
  (.ret (.own 5))]
def d_values : DI := ⟨"values", "values", [Str.ofString "functions", Str.ofString "deed", Str.ofString "sizes", Str.ofString "rules", Str.ofString "told", Str.ofString "row", Str.ofString "v", Str.ofString "parents", Str.ofString "table", Str.ofString "a"], [Str.ofString "functions", Str.ofString "deed"], defArgs (st 8), defBody (st 8), defScope (st 8), c_values⟩
def c_subsets : List Stm := [
  (.set 1 (.lst [(.tup [])])),
  (.for_ (.name 2) (.own 0) [(.set 1 (.bin .add (.own 1) (.lc (.name 3) (.own 1) (.con (.bool true)) (.bin .add (.own 3) (.tup [(.var 2)])) [3])))]),
  (.ret (.blt .sorted [(.own 1)]))]
def d_subsets : DI := ⟨"subsets", "subsets", [Str.ofString "nodes", Str.ofString "found", Str.ofString "a", Str.ofString "one"], [Str.ofString "nodes"], defArgs (st 10), defBody (st 10), defScope (st 10), c_subsets⟩
def c_holds : List Stm := [
  (.ret (.blt .all [(.lc (.tup [(.name 2), (.name 3)]) (.own 1) (.con (.bool true)) (.cmp .eq (.idx (.own 0) (.var 2)) (.own 3)) [2, 3])]))]
def d_holds : DI := ⟨"holds", "holds", [Str.ofString "row", Str.ofString "event", Str.ofString "v", Str.ofString "x"], [Str.ofString "row", Str.ofString "event"], defArgs (st 12), defBody (st 12), defScope (st 12), c_holds⟩
def c_setting : List Stm := [
  (.ret (.blt .tzip [(.own 0), (.own 1)]))]
def d_setting : DI := ⟨"setting", "setting", [Str.ofString "variables", Str.ofString "row"], [Str.ofString "variables", Str.ofString "row"], defArgs (st 13), defBody (st 13), defScope (st 13), c_setting⟩
def c_together : List Stm := [
  (.set 1 (.lst [])),
  (.for_ (.name 2) (.own 0) [(.ext 1 (.own 2))]),
  (.ret (.blt .tuple [(.blt .sorted [(.own 1)])]))]
def d_together : DI := ⟨"together", "together", [Str.ofString "settings", Str.ofString "found", Str.ofString "one"], [Str.ofString "settings"], defArgs (st 14), defBody (st 14), defScope (st 14), c_together⟩
def c_actual_of : List Stm := [
  (.set 2 (.call (Str.ofString "values") [(.own 0), (.tup [])])),
  (.ret (.blt .tuple [(.lc (.name 3) (.own 1) (.con (.bool true)) (.tup [(.var 3), (.idx (.own 2) (.var 3))]) [3])]))]
def d_actual_of : DI := ⟨"actual_of", "actual_of", [Str.ofString "functions", Str.ofString "variables", Str.ofString "row", Str.ofString "v"], [Str.ofString "functions", Str.ofString "variables"], defArgs (st 15), defBody (st 15), defScope (st 15), c_actual_of⟩
def c_settings_of : List Stm := [
  (.ret (.lc (.name 2) (.call (Str.ofString "rows_of") [(.blt .tuple [(.lc (.name 3) (.own 1) (.con (.bool true)) (.idx (.idx (.own 0) (.con (.int (0)))) (.var 3)) [3])])]) (.con (.bool true)) (.call (Str.ofString "setting") [(.own 1), (.own 2)]) [2]))]
def d_settings_of : DI := ⟨"settings_of", "settings_of", [Str.ofString "functions", Str.ofString "variables", Str.ofString "row", Str.ofString "v"], [Str.ofString "functions", Str.ofString "variables"], defArgs (st 16), defBody (st 16), defScope (st 16), c_settings_of⟩
def c_others_of : List Stm := [
  (.ret (.blt .tuple [(.lc (.name 2) (.rng1 (.blt .len [(.idx (.own 0) (.con (.int (0))))])) (.cmp .notin (.own 2) (.own 1)) (.var 2) [2])]))]
def d_others_of : DI := ⟨"others_of", "others_of", [Str.ofString "functions", Str.ofString "xs", Str.ofString "v"], [Str.ofString "functions", Str.ofString "xs"], defArgs (st 17), defBody (st 17), defScope (st 17), c_others_of⟩
def c_stays_whole : List Stm := [
  (.set 4 (.call (Str.ofString "actual_of") [(.own 0), (.own 1)])),
  (.set 5 (.lc (.tup [(.name 9), (.name 10)]) (.own 3) (.con (.bool true)) (.var 9) [9, 10])),
  (.set 6 (.call (Str.ofString "actual_of") [(.own 0), (.lc (.name 9) (.call (Str.ofString "others_of") [(.own 0), (.own 1)]) (.cmp .notin (.own 9) (.own 5)) (.var 9) [9])])),
  (.for_ (.name 7) (.call (Str.ofString "subsets") [(.own 3)]) [(.for_ (.name 8) (.call (Str.ofString "subsets") [(.own 6)]) [(.ife (.not (.call (Str.ofString "holds") [(.call (Str.ofString "values") [(.own 0), (.call (Str.ofString "together") [(.lst [(.var 4), (.var 7), (.var 8)])])]), (.own 2)])) [(.ret (.con (.bool false)))] [])])]),
  (.ret (.con (.bool true)))]
def d_stays_whole : DI := ⟨"stays_whole", "stays_whole", [Str.ofString "functions", Str.ofString "xs", Str.ofString "event", Str.ofString "held", Str.ofString "own", Str.ofString "inner", Str.ofString "rest", Str.ofString "some", Str.ofString "more", Str.ofString "v", Str.ofString "x"], [Str.ofString "functions", Str.ofString "xs", Str.ofString "event", Str.ofString "held"], defArgs (st 18), defBody (st 18), defScope (st 18), c_stays_whole⟩
def c_is_witness : List Stm := [
  (.ife (.call (Str.ofString "holds") [(.call (Str.ofString "values") [(.own 0), (.call (Str.ofString "together") [(.lst [(.call (Str.ofString "setting") [(.own 2), (.own 4)]), (.var 5)])])]), (.own 3)]) [(.ret (.con (.bool false)))] []),
  (.ret (.or (.cmp .eq (.own 1) (.con (.str (Str.ofString "mended")))) (.call (Str.ofString "stays_whole") [(.own 0), (.own 2), (.own 3), (.own 5)])))]
def d_is_witness : DI := ⟨"is_witness", "is_witness", [Str.ofString "functions", Str.ofString "kind", Str.ofString "xs", Str.ofString "event", Str.ofString "other", Str.ofString "held"], [Str.ofString "functions", Str.ofString "kind", Str.ofString "xs", Str.ofString "event", Str.ofString "other", Str.ofString "held"], defArgs (st 19), defBody (st 19), defScope (st 19), c_is_witness⟩
def c_held_choices : List Stm := [
  (.set 3 (.lst [])),
  (.for_ (.name 4) (.call (Str.ofString "subsets") [(.call (Str.ofString "others_of") [(.own 0), (.own 2)])]) [(.ife (.cmp .eq (.own 1) (.con (.str (Str.ofString "mended")))) [(.app 3 (.call (Str.ofString "actual_of") [(.own 0), (.own 4)]))] [(.ext 3 (.call (Str.ofString "settings_of") [(.own 0), (.own 4)]))])]),
  (.ret (.lc (.tup [(.name 5), (.name 6)]) (.blt .sorted [(.lc (.name 6) (.own 3) (.con (.bool true)) (.tup [(.blt .len [(.own 6)]), (.var 6)]) [6])]) (.con (.bool true)) (.var 6) [5, 6]))]
def d_held_choices : DI := ⟨"held_choices", "held_choices", [Str.ofString "functions", Str.ofString "kind", Str.ofString "xs", Str.ofString "found", Str.ofString "variables", Str.ofString "size", Str.ofString "one"], [Str.ofString "functions", Str.ofString "kind", Str.ofString "xs"], defArgs (st 20), defBody (st 20), defScope (st 20), c_held_choices⟩
def c_first_witness : List Stm := [
  (.set 4 (.call (Str.ofString "rows_of") [(.blt .tuple [(.lc (.name 7) (.own 2) (.con (.bool true)) (.idx (.idx (.own 0) (.con (.int (0)))) (.var 7)) [7])])])),
  (.for_ (.name 5) (.call (Str.ofString "held_choices") [(.own 0), (.own 1), (.own 2)]) [(.for_ (.name 6) (.own 4) [(.ife (.call (Str.ofString "is_witness") [(.own 0), (.own 1), (.own 2), (.own 3), (.own 6), (.own 5)]) [(.ret (.tup [(.var 6), (.var 5)]))] [])])]),
  (.ret (.con .none))]
def d_first_witness : DI := ⟨"first_witness", "first_witness", [Str.ofString "functions", Str.ofString "kind", Str.ofString "xs", Str.ofString "event", Str.ofString "rows", Str.ofString "held", Str.ofString "other", Str.ofString "v"], [Str.ofString "functions", Str.ofString "kind", Str.ofString "xs", Str.ofString "event"], defArgs (st 21), defBody (st 21), defScope (st 21), c_first_witness⟩
def c_parts_of : List Stm := [
  (.set 1 (.lc (.name 2) (.call (Str.ofString "subsets") [(.own 0)]) (.chain .lt .lt (.con (.int (0))) (.blt .len [(.own 2)]) (.blt .len [(.own 0)])) (.var 2) [2])),
  (.ret (.lc (.tup [(.name 3), (.name 4)]) (.blt .sorted [(.lc (.name 4) (.own 1) (.con (.bool true)) (.tup [(.blt .len [(.own 4)]), (.var 4)]) [4])]) (.con (.bool true)) (.var 4) [3, 4]))]
def d_parts_of : DI := ⟨"parts_of", "parts_of", [Str.ofString "xs", Str.ofString "found", Str.ofString "part", Str.ofString "size", Str.ofString "one"], [Str.ofString "xs"], defArgs (st 22), defBody (st 22), defScope (st 22), c_parts_of⟩
def c_cause_paper : List Stm := [
  (.ife (.not (.call (Str.ofString "holds") [(.call (Str.ofString "values") [(.own 0), (.tup [])]), (.own 3)])) [(.ret (.tup [(.con (.str (Str.ofString "false")))]))] []),
  (.for_ (.name 4) (.call (Str.ofString "parts_of") [(.own 2)]) [(.set 5 (.call (Str.ofString "first_witness") [(.own 0), (.own 1), (.own 4), (.own 3)])), (.ife (.cmp .isnot (.own 5) (.con .none)) [(.ret (.bin .add (.tup [(.con (.str (Str.ofString "less"))), (.var 4)]) (.own 5)))] [])]),
  (.set 5 (.call (Str.ofString "first_witness") [(.own 0), (.own 1), (.own 2), (.own 3)])),
  (.ret (.ite (.cmp .is_ (.own 5) (.con .none)) (.tup [(.con (.str (Str.ofString "no")))]) (.bin .add (.tup [(.con (.str (Str.ofString "cause")))]) (.own 5))))]
def d_cause_paper : DI := ⟨"cause_paper", "cause_paper", [Str.ofString "functions", Str.ofString "kind", Str.ofString "xs", Str.ofString "event", Str.ofString "part", Str.ofString "found"], [Str.ofString "functions", Str.ofString "kind", Str.ofString "xs", Str.ofString "event"], defArgs (st 23), defBody (st 23), defScope (st 23), c_cause_paper⟩
def c_is_cause : List Stm := [
  (.ret (.cmp .eq (.idx (.call (Str.ofString "cause_paper") [(.own 0), (.own 1), (.own 2), (.own 3)]) (.con (.int (0)))) (.con (.str (Str.ofString "cause")))))]
def d_is_cause : DI := ⟨"is_cause", "is_cause", [Str.ofString "functions", Str.ofString "kind", Str.ofString "xs", Str.ofString "event"], [Str.ofString "functions", Str.ofString "kind", Str.ofString "xs", Str.ofString "event"], defArgs (st 24), defBody (st 24), defScope (st 24), c_is_cause⟩
def c_least_change : List Stm := [
  (.set 3 (.blt .tuple [(.lc (.name 10) (.rng1 (.blt .len [(.idx (.own 0) (.con (.int (0))))])) (.cmp .ne (.own 10) (.own 1)) (.var 10) [10])])),
  (.set 4 (.con .none)),
  (.for_ (.name 5) (.call (Str.ofString "subsets") [(.own 3)]) [(.set 6 (.blt .tuple [(.blt .sorted [(.bin .add (.own 5) (.tup [(.var 1)]))])])), (.ife (.and (.or (.cmp .is_ (.own 4) (.con .none)) (.cmp .lt (.blt .len [(.own 6)]) (.idx (.own 4) (.con (.int (0)))))) (.call (Str.ofString "is_cause") [(.own 0), (.con (.str (Str.ofString "mended"))), (.own 6), (.own 2)])) [(.unp (.tup [(.name 7), (.name 8)]) (.call (Str.ofString "first_witness") [(.own 0), (.con (.str (Str.ofString "mended"))), (.own 6), (.own 2)])), (.set 9 (.tup [(.bin .add (.blt .len [(.own 6)]) (.blt .len [(.own 8)])), (.var 6), (.var 8)])), (.set 4 (.ite (.or (.cmp .is_ (.own 4) (.con .none)) (.cmp .lt (.own 9) (.own 4))) (.var 9) (.var 4)))] [])]),
  (.ret (.own 4))]
def d_least_change : DI := ⟨"least_change", "least_change", [Str.ofString "functions", Str.ofString "x", Str.ofString "event", Str.ofString "others", Str.ofString "best", Str.ofString "more", Str.ofString "xs", Str.ofString "other", Str.ofString "held", Str.ofString "rank", Str.ofString "v"], [Str.ofString "functions", Str.ofString "x", Str.ofString "event"], defArgs (st 26), defBody (st 26), defScope (st 26), c_least_change⟩
def c_duty : List Stm := [
  (.set 3 (.call (Str.ofString "least_change") [(.own 0), (.own 1), (.own 2)])),
  (.ret (.ite (.cmp .is_ (.own 3) (.con .none)) (.tup [(.con (.int (0))), (.con (.int (1)))]) (.tup [(.con (.int (1))), (.idx (.own 3) (.con (.int (0))))])))]
def d_duty : DI := ⟨"duty", "duty", [Str.ofString "functions", Str.ofString "x", Str.ofString "event", Str.ofString "best"], [Str.ofString "functions", Str.ofString "x", Str.ofString "event"], defArgs (st 27), defBody (st 27), defScope (st 27), c_duty⟩
def c_blame : List Stm := [
  (.set 3 (.tup [(.con (.int (0))), (.con (.int (1)))])),
  (.for_ (.tup [(.name 4), (.name 5)]) (.own 0) [(.set 3 (.call (Str.ofString "plus") [(.own 3), (.call (Str.ofString "times") [(.call (Str.ofString "duty") [(.own 4), (.own 1), (.own 2)]), (.own 5)])]))]),
  (.ret (.own 3))]
def d_blame : DI := ⟨"blame", "blame", [Str.ofString "contexts", Str.ofString "x", Str.ofString "event", Str.ofString "found", Str.ofString "functions", Str.ofString "weight"], [Str.ofString "contexts", Str.ofString "x", Str.ofString "event"], defArgs (st 28), defBody (st 28), defScope (st 28), c_blame⟩
def c_duties : List Stm := [
  (.ret (.blt .tuple [(.lc (.name 2) (.rng1 (.blt .len [(.idx (.own 0) (.con (.int (0))))])) (.con (.bool true)) (.call (Str.ofString "duty") [(.own 0), (.own 2), (.own 1)]) [2])]))]
def d_duties : DI := ⟨"duties", "duties", [Str.ofString "functions", Str.ofString "event", Str.ofString "x"], [Str.ofString "functions", Str.ofString "event"], defArgs (st 29), defBody (st 29), defScope (st 29), c_duties⟩
def c__law_fill : List Stm := [
  (.setIx 0 (.con (.int (3))) (.bin .add (.idx (.own 0) (.con (.int (3)))) (.con (.int (1))))),
  (.set 1 (.bin .add (.bin .mul (.idx (.own 0) (.con (.int (3)))) (.con (.int (69621)))) (.con (.int (12345))))),
  (.ife (.cmp .lt (.idx (.own 0) (.con (.int (1)))) (.blt .len [(.idx (.own 0) (.con (.int (0))))])) [(.set 1 (.idx (.idx (.own 0) (.con (.int (0)))) (.idx (.own 0) (.con (.int (1)))))), (.setIx 0 (.con (.int (1))) (.bin .add (.idx (.own 0) (.con (.int (1)))) (.con (.int (1))))), (.ife (.cmp .lt (.own 1) (.con (.int (0)))) [(.set 1 (.bin .sub (.bin .sub (.con (.int (0))) (.con (.int (1)))) (.own 1)))] []), (.ife (.cmp .ge (.own 1) (.bin .pow (.con (.int (10))) (.con (.int (18))))) [(.ret (.own 1))] [])] []),
  (.ife (.and (.idx (.own 0) (.con (.int (0)))) (.cmp .ge (.idx (.own 0) (.con (.int (1)))) (.blt .len [(.idx (.own 0) (.con (.int (0))))]))) [(.set 1 (.bin .add (.own 1) (.bin .mod (.blt .int [(.idx (.idx (.own 0) (.con (.int (0)))) (.neg (.con (.int (1)))))]) (.con (.int (1000003))))))] []),
  (.set 1 (.bin .mod (.blt .int [(.bin .add (.bin .mul (.own 1) (.con (.int (48271)))) (.bin .mul (.idx (.own 0) (.con (.int (3)))) (.con (.int (69621)))))]) (.con (.int (2147483647))))),
  (.ret (.bin .add (.bin .div (.blt .int [(.bin .add (.bin .add (.bin .mul (.own 1) (.own 1)) (.bin .mul (.idx (.own 0) (.con (.int (3)))) (.con (.int (7919))))) (.con (.int (11))))]) (.con (.int (64)))) (.con (.int (36028797018963968)))))]
def d__law_fill : DI := ⟨"_law_fill", "_law_fill", [Str.ofString "c", Str.ofString "number"], [Str.ofString "c"], defArgs (st 32), defBody (st 32), defScope (st 32), c__law_fill⟩
def c__law_take : List Stm := [
  (.ife (.cmp .lt (.idx (.own 0) (.con (.int (2)))) (.own 1)) [(.setIx 0 (.con (.int (2))) (.call (Str.ofString "_law_fill") [(.own 0)]))] []),
  (.set 2 (.bin .mod (.blt .int [(.idx (.own 0) (.con (.int (2))))]) (.own 1))),
  (.setIx 0 (.con (.int (2))) (.bin .div (.idx (.own 0) (.con (.int (2)))) (.own 1))),
  (.ret (.own 2))]
def d__law_take : DI := ⟨"_law_take", "_law_take", [Str.ofString "c", Str.ofString "many", Str.ofString "digit"], [Str.ofString "c", Str.ofString "many"], defArgs (st 33), defBody (st 33), defScope (st 33), c__law_take⟩
def c__law_is_int : List Stm := [
  (.ret (.and (.blt (.isi ["int"]) [(.own 0)]) (.not (.blt (.isi ["bool"]) [(.own 0)]))))]
def d__law_is_int : DI := ⟨"_law_is_int", "_law_is_int", [Str.ofString "value"], [Str.ofString "value"], defArgs (st 34), defBody (st 34), defScope (st 34), c__law_is_int⟩
def c__law_alike : List Stm := [
  (.ife (.blt (.isi ["tuple"]) [(.own 1)]) [(.ret (.and (.blt (.isi ["tuple"]) [(.own 0)]) (.and (.cmp .eq (.blt .len [(.own 0)]) (.blt .len [(.own 1)])) (.blt .all [(.lc (.name 2) (.rng1 (.blt .len [(.own 1)])) (.con (.bool true)) (.call (Str.ofString "_law_alike") [(.idx (.own 0) (.var 2)), (.idx (.own 1) (.var 2))]) [2])]))))] []),
  (.ife (.cmp .is_ (.own 1) (.con .none)) [(.ret (.cmp .is_ (.own 0) (.con .none)))] []),
  (.ife (.blt (.isi ["bool"]) [(.own 1)]) [(.ret (.and (.blt (.isi ["bool"]) [(.own 0)]) (.cmp .eq (.own 0) (.own 1))))] []),
  (.ife (.or (.blt (.isi ["bool"]) [(.own 0)]) (.cmp .ne (.blt (.isi ["str"]) [(.own 0)]) (.blt (.isi ["str"]) [(.own 1)]))) [(.ret (.con (.bool false)))] []),
  (.ret (.and (.blt (.isi ["int", "str"]) [(.own 0)]) (.cmp .eq (.own 0) (.own 1))))]
def d__law_alike : DI := ⟨"_law_alike", "_law_alike", [Str.ofString "value", Str.ofString "due", Str.ofString "k"], [Str.ofString "value", Str.ofString "due"], defArgs (st 35), defBody (st 35), defScope (st 35), c__law_alike⟩
def c__law_spoilt : List Stm := [
  (.ife (.blt (.isi ["str"]) [(.own 1)]) [(.ret (.idx (.lst [(.con (.str (Str.ofString ""))), (.con (.str (Str.ofString "derived"))), (.con (.str (Str.ofString "not"))), (.con (.str (Str.ofString "seen"))), (.con (.str (Str.ofString "summed"))), (.con (.str (Str.ofString "cause"))), (.con (.str (Str.ofString "less"))), (.con (.str (Str.ofString "hangs"))), (.con (.str (Str.ofString "duty"))), (.con (.str (Str.ofString "none")))]) (.call (Str.ofString "_law_take") [(.own 0), (.con (.int (10)))])))] []),
  (.ife (.not (.blt (.isi ["tuple"]) [(.own 1)])) [(.ret (.idx (.lst [(.con (.int (0))), (.con (.int (1))), (.con (.int (2))), (.neg (.con (.int (1)))), (.con (.bool true)), (.con .none), (.con (.int (3)))]) (.call (Str.ofString "_law_take") [(.own 0), (.con (.int (7)))])))] []),
  (.ife (.or (.not (.own 1)) (.cmp .eq (.call (Str.ofString "_law_take") [(.own 0), (.con (.int (5)))]) (.con (.int (0))))) [(.ret (.idx (.lst [(.sl (.own 1) (.con (.int (1))) (.con .none)), (.sl (.own 1) (.con .none) (.neg (.con (.int (1))))), (.bin .add (.own 1) (.sl (.own 1) (.neg (.con (.int (1)))) (.con .none))), (.rev (.own 1)), (.blt .list [(.own 1)]), (.bin .add (.own 1) (.tup [(.con (.int (0)))])), (.tup []), (.tup [(.con (.int (1))), (.con (.int (0)))])]) (.call (Str.ofString "_law_take") [(.own 0), (.con (.int (8)))])))] []),
  (.set 2 (.call (Str.ofString "_law_take") [(.own 0), (.blt .len [(.own 1)])])),
  (.ret (.bin .add (.bin .add (.sl (.own 1) (.con .none) (.var 2)) (.tup [(.call (Str.ofString "_law_spoilt") [(.own 0), (.idx (.own 1) (.var 2))])])) (.sl (.own 1) (.bin .add (.own 2) (.con (.int (1)))) (.con .none))))]
def d__law_spoilt : DI := ⟨"_law_spoilt", "_law_spoilt", [Str.ofString "c", Str.ofString "value", Str.ofString "k"], [Str.ofString "c", Str.ofString "value"], defArgs (st 36), defBody (st 36), defScope (st 36), c__law_spoilt⟩
def c__law_bent : List Stm := [
  (.for_ (.name 3) (.rng1 (.bin .mul (.blt .int [(.cmp .gt (.own 2) (.con (.int (0))))]) (.bin .add (.con (.int (1))) (.call (Str.ofString "_law_take") [(.own 0), (.con (.int (2)))])))) [(.set 1 (.call (Str.ofString "_law_spoilt") [(.own 0), (.own 1)]))]),
  (.ret (.own 1))]
def d__law_bent : DI := ⟨"_law_bent", "_law_bent", [Str.ofString "c", Str.ofString "value", Str.ofString "turn", Str.ofString "k"], [Str.ofString "c", Str.ofString "value", Str.ofString "turn"], defArgs (st 37), defBody (st 37), defScope (st 37), c__law_bent⟩
def c__law_functions : List Stm := [
  (.par [2, 3] [(.lst []), (.lst [])]),
  (.for_ (.name 4) (.rng1 (.bin .add (.con (.int (2))) (.call (Str.ofString "_law_take") [(.own 0), (.bin .sub (.own 1) (.con (.int (1))))]))) [(.app 2 (.bin .add (.con (.int (2))) (.blt .int [(.cmp .eq (.call (Str.ofString "_law_take") [(.own 0), (.con (.int (4)))]) (.con (.int (0))))]))), (.set 5 (.blt .tuple [(.lc (.name 7) (.rng1 (.var 4)) (.cmp .gt (.call (Str.ofString "_law_take") [(.own 0), (.con (.int (3)))]) (.con (.int (0)))) (.var 7) [7])])), (.set 6 (.call (Str.ofString "_law_rows") [(.lc (.name 7) (.own 5) (.con (.bool true)) (.idx (.own 2) (.var 7)) [7])])), (.app 3 (.tup [(.var 5), (.blt .tuple [(.lc (.name 8) (.own 6) (.con (.bool true)) (.call (Str.ofString "_law_take") [(.own 0), (.idx (.own 2) (.var 4))]) [8])])]))]),
  (.ret (.tup [(.blt .tuple [(.own 2)]), (.blt .tuple [(.own 3)])]))]
def d__law_functions : DI := ⟨"_law_functions", "_law_functions", [Str.ofString "c", Str.ofString "most", Str.ofString "sizes", Str.ofString "rules", Str.ofString "v", Str.ofString "parents", Str.ofString "rows", Str.ofString "u", Str.ofString "row"], [Str.ofString "c", Str.ofString "most"], defArgs (st 38), defBody (st 38), defScope (st 38), c__law_functions⟩
def c__law_rows : List Stm := [
  (.set 1 (.lst [(.tup [])])),
  (.for_ (.name 2) (.own 0) [(.set 3 (.lst [])), (.for_ (.name 4) (.own 1) [(.set 3 (.bin .add (.own 3) (.lc (.name 5) (.rng1 (.var 2)) (.con (.bool true)) (.bin .add (.own 4) (.tup [(.var 5)])) [5])))]), (.alis 1 3)]),
  (.ret (.own 1))]
def d__law_rows : DI := ⟨"_law_rows", "_law_rows", [Str.ofString "sizes", Str.ofString "found", Str.ofString "size", Str.ofString "longer", Str.ofString "row", Str.ofString "x"], [Str.ofString "sizes"], defArgs (st 39), defBody (st 39), defScope (st 39), c__law_rows⟩
def c__law_values : List Stm := [
  (.par [2, 3] [(.lst []), (.blt .dict [(.own 1)])]),
  (.for_ (.name 4) (.rng1 (.blt .len [(.idx (.own 0) (.con (.int (0))))])) [(.unp (.tup [(.name 5), (.name 6)]) (.idx (.idx (.own 0) (.con (.int (1)))) (.var 4))), (.set 7 (.con (.int (0)))), (.for_ (.name 8) (.own 5) [(.set 7 (.bin .add (.bin .mul (.own 7) (.idx (.idx (.own 0) (.con (.int (0)))) (.var 8))) (.idx (.own 2) (.var 8))))]), (.app 2 (.ite (.cmp .isin (.own 4) (.own 3)) (.idx (.own 3) (.var 4)) (.idx (.own 6) (.var 7))))]),
  (.ret (.blt .tuple [(.own 2)]))]
def d__law_values : DI := ⟨"_law_values", "_law_values", [Str.ofString "functions", Str.ofString "deed", Str.ofString "found", Str.ofString "told", Str.ofString "v", Str.ofString "parents", Str.ofString "table", Str.ofString "place", Str.ofString "u"], [Str.ofString "functions", Str.ofString "deed"], defArgs (st 40), defBody (st 40), defScope (st 40), c__law_values⟩
def c__law_sets : List Stm := [
  (.set 1 (.lst [(.tup [])])),
  (.for_ (.name 2) (.own 0) [(.set 1 (.bin .add (.own 1) (.lc (.name 3) (.own 1) (.con (.bool true)) (.bin .add (.own 3) (.tup [(.var 2)])) [3])))]),
  (.ret (.blt .sorted [(.own 1)]))]
def d__law_sets : DI := ⟨"_law_sets", "_law_sets", [Str.ofString "nodes", Str.ofString "found", Str.ofString "a", Str.ofString "one"], [Str.ofString "nodes"], defArgs (st 41), defBody (st 41), defScope (st 41), c__law_sets⟩
def c__law_so : List Stm := [
  (.set 3 (.call (Str.ofString "_law_values") [(.own 0), (.blt .tuple [(.blt .sorted [(.own 1)])])])),
  (.ret (.blt .all [(.lc (.tup [(.name 4), (.name 5)]) (.own 2) (.con (.bool true)) (.cmp .eq (.idx (.own 3) (.var 4)) (.own 5)) [4, 5])]))]
def d__law_so : DI := ⟨"_law_so", "_law_so", [Str.ofString "functions", Str.ofString "deed", Str.ofString "event", Str.ofString "row", Str.ofString "v", Str.ofString "x"], [Str.ofString "functions", Str.ofString "deed", Str.ofString "event"], defArgs (st 42), defBody (st 42), defScope (st 42), c__law_so⟩
def c__law_is_witness : List Stm := [
  (.set 6 (.call (Str.ofString "_law_values") [(.own 0), (.tup [])])),
  (.ife (.call (Str.ofString "_law_so") [(.own 0), (.bin .add (.lc (.name 11) (.rng1 (.blt .len [(.own 2)])) (.con (.bool true)) (.tup [(.idx (.own 2) (.var 11)), (.idx (.own 4) (.var 11))]) [11]) (.blt .list [(.own 5)])), (.own 3)]) [(.ret (.con (.bool false)))] []),
  (.ife (.cmp .eq (.own 1) (.con (.str (Str.ofString "mended")))) [(.ret (.con (.bool true)))] []),
  (.set 7 (.lc (.name 12) (.own 2) (.con (.bool true)) (.tup [(.var 12), (.idx (.own 6) (.var 12))]) [12])),
  (.set 8 (.lc (.name 12) (.rng1 (.blt .len [(.own 6)])) (.and (.cmp .notin (.own 12) (.own 2)) (.cmp .notin (.own 12) (.lc (.tup [(.name 13), (.name 14)]) (.own 5) (.con (.bool true)) (.var 13) [13, 14]))) (.tup [(.var 12), (.idx (.own 6) (.var 12))]) [12])),
  (.for_ (.name 9) (.call (Str.ofString "_law_sets") [(.own 5)]) [(.for_ (.name 10) (.call (Str.ofString "_law_sets") [(.own 8)]) [(.ife (.not (.call (Str.ofString "_law_so") [(.own 0), (.bin .add (.bin .add (.own 7) (.blt .list [(.own 9)])) (.blt .list [(.own 10)])), (.own 3)])) [(.ret (.con (.bool false)))] [])])]),
  (.ret (.con (.bool true)))]
def d__law_is_witness : DI := ⟨"_law_is_witness", "_law_is_witness", [Str.ofString "functions", Str.ofString "kind", Str.ofString "xs", Str.ofString "event", Str.ofString "other", Str.ofString "held", Str.ofString "actual", Str.ofString "own", Str.ofString "rest", Str.ofString "some", Str.ofString "more", Str.ofString "i", Str.ofString "v", Str.ofString "u", Str.ofString "y"], [Str.ofString "functions", Str.ofString "kind", Str.ofString "xs", Str.ofString "event", Str.ofString "other", Str.ofString "held"], defArgs (st 43), defBody (st 43), defScope (st 43), c__law_is_witness⟩
def c__law_witnesses : List Stm := [
  (.par [4, 5] [(.call (Str.ofString "_law_values") [(.own 0), (.tup [])]), (.lst [])]),
  (.set 6 (.lc (.name 12) (.rng1 (.blt .len [(.own 4)])) (.cmp .notin (.own 12) (.own 2)) (.var 12) [12])),
  (.for_ (.name 7) (.call (Str.ofString "_law_sets") [(.own 6)]) [(.set 8 (.ite (.cmp .eq (.own 1) (.con (.str (Str.ofString "mended")))) (.lst [(.blt .tuple [(.lc (.name 12) (.own 7) (.con (.bool true)) (.idx (.own 4) (.var 12)) [12])])]) (.call (Str.ofString "_law_rows") [(.lc (.name 12) (.own 7) (.con (.bool true)) (.idx (.idx (.own 0) (.con (.int (0)))) (.var 12)) [12])]))), (.for_ (.name 9) (.own 8) [(.set 10 (.blt .tuple [(.lc (.name 13) (.rng1 (.blt .len [(.own 7)])) (.con (.bool true)) (.tup [(.idx (.own 7) (.var 13)), (.idx (.own 9) (.var 13))]) [13])])), (.for_ (.name 11) (.call (Str.ofString "_law_rows") [(.lc (.name 12) (.own 2) (.con (.bool true)) (.idx (.idx (.own 0) (.con (.int (0)))) (.var 12)) [12])]) [(.ife (.call (Str.ofString "_law_is_witness") [(.own 0), (.own 1), (.own 2), (.own 3), (.own 11), (.own 10)]) [(.app 5 (.tup [(.blt .len [(.own 10)]), (.var 10), (.var 11)]))] [])])])]),
  (.ret (.lc (.tup [(.name 14), (.name 10), (.name 11)]) (.blt .sorted [(.own 5)]) (.con (.bool true)) (.tup [(.var 11), (.var 10)]) [14, 10, 11]))]
def d__law_witnesses : DI := ⟨"_law_witnesses", "_law_witnesses", [Str.ofString "functions", Str.ofString "kind", Str.ofString "xs", Str.ofString "event", Str.ofString "actual", Str.ofString "found", Str.ofString "others", Str.ofString "names", Str.ofString "rows", Str.ofString "row", Str.ofString "held", Str.ofString "other", Str.ofString "v", Str.ofString "i", Str.ofString "size"], [Str.ofString "functions", Str.ofString "kind", Str.ofString "xs", Str.ofString "event"], defArgs (st 44), defBody (st 44), defScope (st 44), c__law_witnesses⟩
def c__law_parts : List Stm := [
  (.ret (.blt .sorted [(.lc (.name 1) (.call (Str.ofString "_law_sets") [(.own 0)]) (.chain .lt .lt (.con (.int (0))) (.blt .len [(.own 1)]) (.blt .len [(.own 0)])) (.tup [(.blt .len [(.own 1)]), (.var 1)]) [1])]))]
def d__law_parts : DI := ⟨"_law_parts", "_law_parts", [Str.ofString "xs", Str.ofString "part"], [Str.ofString "xs"], defArgs (st 45), defBody (st 45), defScope (st 45), c__law_parts⟩
def c__law_cause : List Stm := [
  (.ife (.not (.call (Str.ofString "_law_so") [(.own 0), (.lst []), (.own 3)])) [(.ret (.tup [(.con (.str (Str.ofString "false")))]))] []),
  (.for_ (.tup [(.name 4), (.name 5)]) (.call (Str.ofString "_law_parts") [(.own 2)]) [(.set 6 (.call (Str.ofString "_law_witnesses") [(.own 0), (.own 1), (.own 5), (.own 3)])), (.ife (.own 6) [(.ret (.bin .add (.tup [(.con (.str (Str.ofString "less"))), (.var 5)]) (.idx (.own 6) (.con (.int (0))))))] [])]),
  (.set 6 (.call (Str.ofString "_law_witnesses") [(.own 0), (.own 1), (.own 2), (.own 3)])),
  (.ret (.ite (.own 6) (.bin .add (.tup [(.con (.str (Str.ofString "cause")))]) (.idx (.own 6) (.con (.int (0))))) (.tup [(.con (.str (Str.ofString "no")))])))]
def d__law_cause : DI := ⟨"_law_cause", "_law_cause", [Str.ofString "functions", Str.ofString "kind", Str.ofString "xs", Str.ofString "event", Str.ofString "size", Str.ofString "part", Str.ofString "found"], [Str.ofString "functions", Str.ofString "kind", Str.ofString "xs", Str.ofString "event"], defArgs (st 46), defBody (st 46), defScope (st 46), c__law_cause⟩
def c__law_event : List Stm := [
  (.par [2, 3] [(.call (Str.ofString "_law_values") [(.own 1), (.tup [])]), (.blt .len [(.idx (.own 1) (.con (.int (0))))])]),
  (.set 4 (.blt .sset [(.lc (.name 5) (.rng1 (.bin .add (.con (.int (1))) (.call (Str.ofString "_law_take") [(.own 0), (.con (.int (2)))]))) (.con (.bool true)) (.bin .sub (.bin .sub (.own 3) (.con (.int (1)))) (.call (Str.ofString "_law_take") [(.own 0), (.own 3)])) [5])])),
  (.ret (.blt .tuple [(.lc (.name 6) (.own 4) (.con (.bool true)) (.tup [(.var 6), (.ite (.cmp .gt (.call (Str.ofString "_law_take") [(.own 0), (.con (.int (8)))]) (.con (.int (0)))) (.idx (.own 2) (.var 6)) (.call (Str.ofString "_law_take") [(.own 0), (.idx (.idx (.own 1) (.con (.int (0)))) (.var 6))]))]) [6])]))]
def d__law_event : DI := ⟨"_law_event", "_law_event", [Str.ofString "c", Str.ofString "functions", Str.ofString "row", Str.ofString "n", Str.ofString "names", Str.ofString "turn", Str.ofString "v"], [Str.ofString "c", Str.ofString "functions"], defArgs (st 47), defBody (st 47), defScope (st 47), c__law_event⟩
def c__law_duty : List Stm := [
  (.set 3 (.lst [])),
  (.for_ (.name 4) (.call (Str.ofString "_law_sets") [(.blt .lrange [(.blt .len [(.idx (.own 0) (.con (.int (0))))])])]) [(.ife (.and (.cmp .isin (.own 1) (.own 4)) (.cmp .eq (.idx (.call (Str.ofString "_law_cause") [(.own 0), (.con (.str (Str.ofString "mended"))), (.own 4), (.own 2)]) (.con (.int (0)))) (.con (.str (Str.ofString "cause"))))) [(.set 3 (.bin .add (.own 3) (.lc (.tup [(.name 5), (.name 6)]) (.call (Str.ofString "_law_witnesses") [(.own 0), (.con (.str (Str.ofString "mended"))), (.own 4), (.own 2)]) (.con (.bool true)) (.bin .add (.blt .len [(.own 4)]) (.blt .len [(.own 6)])) [5, 6])))] [])]),
  (.ret (.ite (.own 3) (.tup [(.con (.int (1))), (.blt .min [(.own 3)])]) (.tup [(.con (.int (0))), (.con (.int (1)))])))]
def d__law_duty : DI := ⟨"_law_duty", "_law_duty", [Str.ofString "functions", Str.ofString "x", Str.ofString "event", Str.ofString "sizes", Str.ofString "xs", Str.ofString "other", Str.ofString "held"], [Str.ofString "functions", Str.ofString "x", Str.ofString "event"], defArgs (st 48), defBody (st 48), defScope (st 48), c__law_duty⟩
def c__law_divisor : List Stm := [
  (.for_ (.name 2) (.rng1 (.con (.int (20000)))) [(.ife (.cmp .eq (.own 1) (.con (.int (0)))) [(.ret (.blt .abs [(.own 0)]))] []), (.par [0, 1] [(.var 1), (.bin .mod (.own 0) (.own 1))])]),
  (.ret (.con (.int (1))))]
def d__law_divisor : DI := ⟨"_law_divisor", "_law_divisor", [Str.ofString "a", Str.ofString "b", Str.ofString "turn"], [Str.ofString "a", Str.ofString "b"], defArgs (st 49), defBody (st 49), defScope (st 49), c__law_divisor⟩
def c__law_ratio : List Stm := [
  (.set 2 (.call (Str.ofString "_law_divisor") [(.own 0), (.own 1)])),
  (.ret (.tup [(.bin .div (.own 0) (.own 2)), (.bin .div (.own 1) (.own 2))]))]
def d__law_ratio : DI := ⟨"_law_ratio", "_law_ratio", [Str.ofString "above", Str.ofString "below", Str.ofString "many"], [Str.ofString "above", Str.ofString "below"], defArgs (st 50), defBody (st 50), defScope (st 50), c__law_ratio⟩
def ds : List DI := [d_fraction, d_plus, d_times, d_rows_of, d_place_of, d_values, d_subsets, d_holds, d_setting, d_together, d_actual_of, d_settings_of, d_others_of, d_stays_whole, d_is_witness, d_held_choices, d_first_witness, d_parts_of, d_cause_paper, d_is_cause, d_least_change, d_duty, d_blame, d_duties, d__law_fill, d__law_take, d__law_is_int, d__law_alike, d__law_spoilt, d__law_bent, d__law_functions, d__law_rows, d__law_values, d__law_sets, d__law_so, d__law_is_witness, d__law_witnesses, d__law_parts, d__law_cause, d__law_event, d__law_duty, d__law_divisor, d__law_ratio]
theorem ok_fraction : d_fraction.Ok fns true := ⟨⟨rfl, rfl, rfl, by decide +kernel, rfl, by decide +kernel, by decide +kernel⟩, by kernel_rfl⟩
theorem b_fraction : BindsA d_fraction := fun _ _ _ _ _ _ us hl => match us, hl with | [_, _], _ => rfl
theorem ok_plus : d_plus.Ok fns true := ⟨⟨rfl, rfl, rfl, by decide +kernel, rfl, by decide +kernel, by decide +kernel⟩, by kernel_rfl⟩
theorem b_plus : BindsA d_plus := fun _ _ _ _ _ _ us hl => match us, hl with | [_, _], _ => rfl
theorem ok_times : d_times.Ok fns true := ⟨⟨rfl, rfl, rfl, by decide +kernel, rfl, by decide +kernel, by decide +kernel⟩, by kernel_rfl⟩
theorem b_times : BindsA d_times := fun _ _ _ _ _ _ us hl => match us, hl with | [_, _], _ => rfl
theorem ok_rows_of : d_rows_of.Ok fns true := ⟨⟨rfl, rfl, rfl, by decide +kernel, rfl, by decide +kernel, by decide +kernel⟩, by kernel_rfl⟩
theorem b_rows_of : BindsA d_rows_of := fun _ _ _ _ _ _ us hl => match us, hl with | [_], _ => rfl
theorem ok_place_of : d_place_of.Ok fns true := ⟨⟨rfl, rfl, rfl, by decide +kernel, rfl, by decide +kernel, by decide +kernel⟩, by kernel_rfl⟩
theorem b_place_of : BindsA d_place_of := fun _ _ _ _ _ _ us hl => match us, hl with | [_, _], _ => rfl
theorem ok_values : d_values.Ok fns true := ⟨⟨rfl, rfl, rfl, by decide +kernel, rfl, by decide +kernel, by decide +kernel⟩, by kernel_rfl⟩
theorem b_values : BindsA d_values := fun _ _ _ _ _ _ us hl => match us, hl with | [_, _], _ => rfl
theorem ok_subsets : d_subsets.Ok fns true := ⟨⟨rfl, rfl, rfl, by decide +kernel, rfl, by decide +kernel, by decide +kernel⟩, by kernel_rfl⟩
theorem b_subsets : BindsA d_subsets := fun _ _ _ _ _ _ us hl => match us, hl with | [_], _ => rfl
theorem ok_holds : d_holds.Ok fns true := ⟨⟨rfl, rfl, rfl, by decide +kernel, rfl, by decide +kernel, by decide +kernel⟩, by kernel_rfl⟩
theorem b_holds : BindsA d_holds := fun _ _ _ _ _ _ us hl => match us, hl with | [_, _], _ => rfl
theorem ok_setting : d_setting.Ok fns true := ⟨⟨rfl, rfl, rfl, by decide +kernel, rfl, by decide +kernel, by decide +kernel⟩, by kernel_rfl⟩
theorem b_setting : BindsA d_setting := fun _ _ _ _ _ _ us hl => match us, hl with | [_, _], _ => rfl
theorem ok_together : d_together.Ok fns true := ⟨⟨rfl, rfl, rfl, by decide +kernel, rfl, by decide +kernel, by decide +kernel⟩, by kernel_rfl⟩
theorem b_together : BindsA d_together := fun _ _ _ _ _ _ us hl => match us, hl with | [_], _ => rfl
theorem ok_actual_of : d_actual_of.Ok fns true := ⟨⟨rfl, rfl, rfl, by decide +kernel, rfl, by decide +kernel, by decide +kernel⟩, by kernel_rfl⟩
theorem b_actual_of : BindsA d_actual_of := fun _ _ _ _ _ _ us hl => match us, hl with | [_, _], _ => rfl
theorem ok_settings_of : d_settings_of.Ok fns true := ⟨⟨rfl, rfl, rfl, by decide +kernel, rfl, by decide +kernel, by decide +kernel⟩, by kernel_rfl⟩
theorem b_settings_of : BindsA d_settings_of := fun _ _ _ _ _ _ us hl => match us, hl with | [_, _], _ => rfl
theorem ok_others_of : d_others_of.Ok fns true := ⟨⟨rfl, rfl, rfl, by decide +kernel, rfl, by decide +kernel, by decide +kernel⟩, by kernel_rfl⟩
theorem b_others_of : BindsA d_others_of := fun _ _ _ _ _ _ us hl => match us, hl with | [_, _], _ => rfl
theorem ok_stays_whole : d_stays_whole.Ok fns true := ⟨⟨rfl, rfl, rfl, by decide +kernel, rfl, by decide +kernel, by decide +kernel⟩, by kernel_rfl⟩
theorem b_stays_whole : BindsA d_stays_whole := fun _ _ _ _ _ _ us hl => match us, hl with | [_, _, _, _], _ => rfl
theorem ok_is_witness : d_is_witness.Ok fns true := ⟨⟨rfl, rfl, rfl, by decide +kernel, rfl, by decide +kernel, by decide +kernel⟩, by kernel_rfl⟩
theorem b_is_witness : BindsA d_is_witness := fun _ _ _ _ _ _ us hl => match us, hl with | [_, _, _, _, _, _], _ => rfl
theorem ok_held_choices : d_held_choices.Ok fns true := ⟨⟨rfl, rfl, rfl, by decide +kernel, rfl, by decide +kernel, by decide +kernel⟩, by kernel_rfl⟩
theorem b_held_choices : BindsA d_held_choices := fun _ _ _ _ _ _ us hl => match us, hl with | [_, _, _], _ => rfl
theorem ok_first_witness : d_first_witness.Ok fns true := ⟨⟨rfl, rfl, rfl, by decide +kernel, rfl, by decide +kernel, by decide +kernel⟩, by kernel_rfl⟩
theorem b_first_witness : BindsA d_first_witness := fun _ _ _ _ _ _ us hl => match us, hl with | [_, _, _, _], _ => rfl
theorem ok_parts_of : d_parts_of.Ok fns true := ⟨⟨rfl, rfl, rfl, by decide +kernel, rfl, by decide +kernel, by decide +kernel⟩, by kernel_rfl⟩
theorem b_parts_of : BindsA d_parts_of := fun _ _ _ _ _ _ us hl => match us, hl with | [_], _ => rfl
theorem ok_cause_paper : d_cause_paper.Ok fns true := ⟨⟨rfl, rfl, rfl, by decide +kernel, rfl, by decide +kernel, by decide +kernel⟩, by kernel_rfl⟩
theorem b_cause_paper : BindsA d_cause_paper := fun _ _ _ _ _ _ us hl => match us, hl with | [_, _, _, _], _ => rfl
theorem ok_is_cause : d_is_cause.Ok fns true := ⟨⟨rfl, rfl, rfl, by decide +kernel, rfl, by decide +kernel, by decide +kernel⟩, by kernel_rfl⟩
theorem b_is_cause : BindsA d_is_cause := fun _ _ _ _ _ _ us hl => match us, hl with | [_, _, _, _], _ => rfl
theorem ok_least_change : d_least_change.Ok fns true := ⟨⟨rfl, rfl, rfl, by decide +kernel, rfl, by decide +kernel, by decide +kernel⟩, by kernel_rfl⟩
theorem b_least_change : BindsA d_least_change := fun _ _ _ _ _ _ us hl => match us, hl with | [_, _, _], _ => rfl
theorem ok_duty : d_duty.Ok fns true := ⟨⟨rfl, rfl, rfl, by decide +kernel, rfl, by decide +kernel, by decide +kernel⟩, by kernel_rfl⟩
theorem b_duty : BindsA d_duty := fun _ _ _ _ _ _ us hl => match us, hl with | [_, _, _], _ => rfl
theorem ok_blame : d_blame.Ok fns true := ⟨⟨rfl, rfl, rfl, by decide +kernel, rfl, by decide +kernel, by decide +kernel⟩, by kernel_rfl⟩
theorem b_blame : BindsA d_blame := fun _ _ _ _ _ _ us hl => match us, hl with | [_, _, _], _ => rfl
theorem ok_duties : d_duties.Ok fns true := ⟨⟨rfl, rfl, rfl, by decide +kernel, rfl, by decide +kernel, by decide +kernel⟩, by kernel_rfl⟩
theorem b_duties : BindsA d_duties := fun _ _ _ _ _ _ us hl => match us, hl with | [_, _], _ => rfl
theorem ok__law_fill : d__law_fill.Ok fns true := ⟨⟨rfl, rfl, rfl, by decide +kernel, rfl, by decide +kernel, by decide +kernel⟩, by kernel_rfl⟩
theorem b__law_fill : BindsA d__law_fill := fun _ _ _ _ _ _ us hl => match us, hl with | [_], _ => rfl
theorem ok__law_take : d__law_take.Ok fns true := ⟨⟨rfl, rfl, rfl, by decide +kernel, rfl, by decide +kernel, by decide +kernel⟩, by kernel_rfl⟩
theorem b__law_take : BindsA d__law_take := fun _ _ _ _ _ _ us hl => match us, hl with | [_, _], _ => rfl
theorem ok__law_is_int : d__law_is_int.Ok fns true := ⟨⟨rfl, rfl, rfl, by decide +kernel, rfl, by decide +kernel, by decide +kernel⟩, by kernel_rfl⟩
theorem b__law_is_int : BindsA d__law_is_int := fun _ _ _ _ _ _ us hl => match us, hl with | [_], _ => rfl
theorem ok__law_alike : d__law_alike.Ok fns true := ⟨⟨rfl, rfl, rfl, by decide +kernel, rfl, by decide +kernel, by decide +kernel⟩, by kernel_rfl⟩
theorem b__law_alike : BindsA d__law_alike := fun _ _ _ _ _ _ us hl => match us, hl with | [_, _], _ => rfl
theorem ok__law_spoilt : d__law_spoilt.Ok fns true := ⟨⟨rfl, rfl, rfl, by decide +kernel, rfl, by decide +kernel, by decide +kernel⟩, by kernel_rfl⟩
theorem b__law_spoilt : BindsA d__law_spoilt := fun _ _ _ _ _ _ us hl => match us, hl with | [_, _], _ => rfl
theorem ok__law_bent : d__law_bent.Ok fns true := ⟨⟨rfl, rfl, rfl, by decide +kernel, rfl, by decide +kernel, by decide +kernel⟩, by kernel_rfl⟩
theorem b__law_bent : BindsA d__law_bent := fun _ _ _ _ _ _ us hl => match us, hl with | [_, _, _], _ => rfl
theorem ok__law_functions : d__law_functions.Ok fns true := ⟨⟨rfl, rfl, rfl, by decide +kernel, rfl, by decide +kernel, by decide +kernel⟩, by kernel_rfl⟩
theorem b__law_functions : BindsA d__law_functions := fun _ _ _ _ _ _ us hl => match us, hl with | [_, _], _ => rfl
theorem ok__law_rows : d__law_rows.Ok fns true := ⟨⟨rfl, rfl, rfl, by decide +kernel, rfl, by decide +kernel, by decide +kernel⟩, by kernel_rfl⟩
theorem b__law_rows : BindsA d__law_rows := fun _ _ _ _ _ _ us hl => match us, hl with | [_], _ => rfl
theorem ok__law_values : d__law_values.Ok fns true := ⟨⟨rfl, rfl, rfl, by decide +kernel, rfl, by decide +kernel, by decide +kernel⟩, by kernel_rfl⟩
theorem b__law_values : BindsA d__law_values := fun _ _ _ _ _ _ us hl => match us, hl with | [_, _], _ => rfl
theorem ok__law_sets : d__law_sets.Ok fns true := ⟨⟨rfl, rfl, rfl, by decide +kernel, rfl, by decide +kernel, by decide +kernel⟩, by kernel_rfl⟩
theorem b__law_sets : BindsA d__law_sets := fun _ _ _ _ _ _ us hl => match us, hl with | [_], _ => rfl
theorem ok__law_so : d__law_so.Ok fns true := ⟨⟨rfl, rfl, rfl, by decide +kernel, rfl, by decide +kernel, by decide +kernel⟩, by kernel_rfl⟩
theorem b__law_so : BindsA d__law_so := fun _ _ _ _ _ _ us hl => match us, hl with | [_, _, _], _ => rfl
theorem ok__law_is_witness : d__law_is_witness.Ok fns true := ⟨⟨rfl, rfl, rfl, by decide +kernel, rfl, by decide +kernel, by decide +kernel⟩, by kernel_rfl⟩
theorem b__law_is_witness : BindsA d__law_is_witness := fun _ _ _ _ _ _ us hl => match us, hl with | [_, _, _, _, _, _], _ => rfl
theorem ok__law_witnesses : d__law_witnesses.Ok fns true := ⟨⟨rfl, rfl, rfl, by decide +kernel, rfl, by decide +kernel, by decide +kernel⟩, by kernel_rfl⟩
theorem b__law_witnesses : BindsA d__law_witnesses := fun _ _ _ _ _ _ us hl => match us, hl with | [_, _, _, _], _ => rfl
theorem ok__law_parts : d__law_parts.Ok fns true := ⟨⟨rfl, rfl, rfl, by decide +kernel, rfl, by decide +kernel, by decide +kernel⟩, by kernel_rfl⟩
theorem b__law_parts : BindsA d__law_parts := fun _ _ _ _ _ _ us hl => match us, hl with | [_], _ => rfl
theorem ok__law_cause : d__law_cause.Ok fns true := ⟨⟨rfl, rfl, rfl, by decide +kernel, rfl, by decide +kernel, by decide +kernel⟩, by kernel_rfl⟩
theorem b__law_cause : BindsA d__law_cause := fun _ _ _ _ _ _ us hl => match us, hl with | [_, _, _, _], _ => rfl
theorem ok__law_event : d__law_event.Ok fns true := ⟨⟨rfl, rfl, rfl, by decide +kernel, rfl, by decide +kernel, by decide +kernel⟩, by kernel_rfl⟩
theorem b__law_event : BindsA d__law_event := fun _ _ _ _ _ _ us hl => match us, hl with | [_, _], _ => rfl
theorem ok__law_duty : d__law_duty.Ok fns true := ⟨⟨rfl, rfl, rfl, by decide +kernel, rfl, by decide +kernel, by decide +kernel⟩, by kernel_rfl⟩
theorem b__law_duty : BindsA d__law_duty := fun _ _ _ _ _ _ us hl => match us, hl with | [_, _, _], _ => rfl
theorem ok__law_divisor : d__law_divisor.Ok fns true := ⟨⟨rfl, rfl, rfl, by decide +kernel, rfl, by decide +kernel, by decide +kernel⟩, by kernel_rfl⟩
theorem b__law_divisor : BindsA d__law_divisor := fun _ _ _ _ _ _ us hl => match us, hl with | [_, _], _ => rfl
theorem ok__law_ratio : d__law_ratio.Ok fns true := ⟨⟨rfl, rfl, rfl, by decide +kernel, rfl, by decide +kernel, by decide +kernel⟩, by kernel_rfl⟩
theorem b__law_ratio : BindsA d__law_ratio := fun _ _ _ _ _ _ us hl => match us, hl with | [_, _], _ => rfl
theorem ok_all : ∀ d ∈ ds, d.Ok fns true := all_cons ok_fraction (all_cons ok_plus (all_cons ok_times (all_cons ok_rows_of (all_cons ok_place_of (all_cons ok_values (all_cons ok_subsets (all_cons ok_holds (all_cons ok_setting (all_cons ok_together (all_cons ok_actual_of (all_cons ok_settings_of (all_cons ok_others_of (all_cons ok_stays_whole (all_cons ok_is_witness (all_cons ok_held_choices (all_cons ok_first_witness (all_cons ok_parts_of (all_cons ok_cause_paper (all_cons ok_is_cause (all_cons ok_least_change (all_cons ok_duty (all_cons ok_blame (all_cons ok_duties (all_cons ok__law_fill (all_cons ok__law_take (all_cons ok__law_is_int (all_cons ok__law_alike (all_cons ok__law_spoilt (all_cons ok__law_bent (all_cons ok__law_functions (all_cons ok__law_rows (all_cons ok__law_values (all_cons ok__law_sets (all_cons ok__law_so (all_cons ok__law_is_witness (all_cons ok__law_witnesses (all_cons ok__law_parts (all_cons ok__law_cause (all_cons ok__law_event (all_cons ok__law_duty (all_cons ok__law_divisor (all_cons ok__law_ratio (all_nil)))))))))))))))))))))))))))))))))))))))))))
theorem b_all : ∀ d ∈ ds, BindsA d := all_cons b_fraction (all_cons b_plus (all_cons b_times (all_cons b_rows_of (all_cons b_place_of (all_cons b_values (all_cons b_subsets (all_cons b_holds (all_cons b_setting (all_cons b_together (all_cons b_actual_of (all_cons b_settings_of (all_cons b_others_of (all_cons b_stays_whole (all_cons b_is_witness (all_cons b_held_choices (all_cons b_first_witness (all_cons b_parts_of (all_cons b_cause_paper (all_cons b_is_cause (all_cons b_least_change (all_cons b_duty (all_cons b_blame (all_cons b_duties (all_cons b__law_fill (all_cons b__law_take (all_cons b__law_is_int (all_cons b__law_alike (all_cons b__law_spoilt (all_cons b__law_bent (all_cons b__law_functions (all_cons b__law_rows (all_cons b__law_values (all_cons b__law_sets (all_cons b__law_so (all_cons b__law_is_witness (all_cons b__law_witnesses (all_cons b__law_parts (all_cons b__law_cause (all_cons b__law_event (all_cons b__law_duty (all_cons b__law_divisor (all_cons b__law_ratio (all_nil)))))))))))))))))))))))))))))))))))))))))))
def iStart : Nat := 31
def iLaw : Nat := 51
def NLaw : List Str := [Str.ofString "functions", Str.ofString "event", Str.ofString "x", Str.ofString "due", Str.ofString "weights", Str.ofString "contexts", Str.ofString "above", Str.ofString "below", Str.ofString "weight", Str.ofString "one", Str.ofString "rules", Str.ofString "other", Str.ofString "turn", Str.ofString "v", Str.ofString "parents", Str.ofString "table"]
def c_law : List Stm := [
  (.set 2 (.call (Str.ofString "_law_functions") [(.own 1), (.con (.int (4)))])),
  (.set 3 (.call (Str.ofString "_law_event") [(.own 1), (.own 2)])),
  (.set 5 (.blt .tuple [(.lc (.name 4) (.rng1 (.blt .len [(.idx (.own 2) (.con (.int (0))))])) (.con (.bool true)) (.call (Str.ofString "_law_duty") [(.own 2), (.own 4), (.own 3)]) [4])])),
  (.ife (.not (.call (Str.ofString "_law_alike") [(.call (Str.ofString "duties") [(.own 2), (.own 3)]), (.own 5)])) [(.ret (.con (.bool false)))] []),
  (.set 4 (.call (Str.ofString "_law_take") [(.own 1), (.blt .len [(.own 5)])])),
  (.ife (.not (.call (Str.ofString "_law_alike") [(.call (Str.ofString "duty") [(.own 2), (.own 4), (.own 3)]), (.idx (.own 5) (.var 4))])) [(.ret (.con (.bool false)))] []),
  (.set 6 (.lc (.name 14) (.rng1 (.bin .add (.con (.int (1))) (.call (Str.ofString "_law_take") [(.own 1), (.con (.int (3)))]))) (.con (.bool true)) (.bin .add (.con (.int (1))) (.call (Str.ofString "_law_take") [(.own 1), (.con (.int (5)))])) [14])),
  (.par [7, 8, 9] [(.lst []), (.con (.int (0))), (.con (.int (1)))]),
  (.for_ (.name 10) (.own 6) [(.set 12 (.blt .tuple [(.lc (.tup [(.name 15), (.tup [(.name 16), (.name 17)])]) (.enum (.idx (.own 2) (.con (.int (1))))) (.con (.bool true)) (.tup [(.var 16), (.blt .tuple [(.lc (.name 11) (.own 17) (.con (.bool true)) (.call (Str.ofString "_law_take") [(.own 1), (.idx (.idx (.own 2) (.con (.int (0)))) (.var 15))]) [11])])]) [15, 16, 17])])), (.set 13 (.ite (.own 7) (.tup [(.idx (.own 2) (.con (.int (0)))), (.var 12)]) (.var 2))), (.app 7 (.tup [(.var 13), (.call (Str.ofString "_law_ratio") [(.own 10), (.blt .sum [(.own 6)])])])), (.set 11 (.call (Str.ofString "_law_duty") [(.own 13), (.own 4), (.own 3)])), (.par [8, 9] [(.bin .add (.bin .mul (.bin .mul (.own 8) (.idx (.own 11) (.con (.int (1))))) (.blt .sum [(.own 6)])) (.bin .mul (.bin .mul (.own 10) (.idx (.own 11) (.con (.int (0))))) (.own 9))), (.bin .mul (.bin .mul (.own 9) (.idx (.own 11) (.con (.int (1))))) (.blt .sum [(.own 6)]))])]),
  (.ret (.call (Str.ofString "_law_alike") [(.call (Str.ofString "blame") [(.blt .tuple [(.own 7)]), (.own 4), (.own 3)]), (.call (Str.ofString "_law_ratio") [(.own 8), (.own 9)])]))]
def f_fraction : FD := ⟨Str.ofString "fraction", 2, 3, c_fraction⟩
def f_plus : FD := ⟨Str.ofString "plus", 2, 2, c_plus⟩
def f_times : FD := ⟨Str.ofString "times", 2, 2, c_times⟩
def f_rows_of : FD := ⟨Str.ofString "rows_of", 1, 5, c_rows_of⟩
def f_place_of : FD := ⟨Str.ofString "place_of", 2, 5, c_place_of⟩
def f_values : FD := ⟨Str.ofString "values", 2, 10, c_values⟩
def f_subsets : FD := ⟨Str.ofString "subsets", 1, 4, c_subsets⟩
def f_holds : FD := ⟨Str.ofString "holds", 2, 4, c_holds⟩
def f_setting : FD := ⟨Str.ofString "setting", 2, 2, c_setting⟩
def f_together : FD := ⟨Str.ofString "together", 1, 3, c_together⟩
def f_actual_of : FD := ⟨Str.ofString "actual_of", 2, 4, c_actual_of⟩
def f_settings_of : FD := ⟨Str.ofString "settings_of", 2, 4, c_settings_of⟩
def f_others_of : FD := ⟨Str.ofString "others_of", 2, 3, c_others_of⟩
def f_stays_whole : FD := ⟨Str.ofString "stays_whole", 4, 11, c_stays_whole⟩
def f_is_witness : FD := ⟨Str.ofString "is_witness", 6, 6, c_is_witness⟩
def f_held_choices : FD := ⟨Str.ofString "held_choices", 3, 7, c_held_choices⟩
def f_first_witness : FD := ⟨Str.ofString "first_witness", 4, 8, c_first_witness⟩
def f_parts_of : FD := ⟨Str.ofString "parts_of", 1, 5, c_parts_of⟩
def f_cause_paper : FD := ⟨Str.ofString "cause_paper", 4, 6, c_cause_paper⟩
def f_is_cause : FD := ⟨Str.ofString "is_cause", 4, 4, c_is_cause⟩
def f_least_change : FD := ⟨Str.ofString "least_change", 3, 11, c_least_change⟩
def f_duty : FD := ⟨Str.ofString "duty", 3, 4, c_duty⟩
def f_blame : FD := ⟨Str.ofString "blame", 3, 6, c_blame⟩
def f_duties : FD := ⟨Str.ofString "duties", 2, 3, c_duties⟩
def f__law_fill : FD := ⟨Str.ofString "_law_fill", 1, 2, c__law_fill⟩
def f__law_take : FD := ⟨Str.ofString "_law_take", 2, 3, c__law_take⟩
def f__law_is_int : FD := ⟨Str.ofString "_law_is_int", 1, 1, c__law_is_int⟩
def f__law_alike : FD := ⟨Str.ofString "_law_alike", 2, 3, c__law_alike⟩
def f__law_spoilt : FD := ⟨Str.ofString "_law_spoilt", 2, 3, c__law_spoilt⟩
def f__law_bent : FD := ⟨Str.ofString "_law_bent", 3, 4, c__law_bent⟩
def f__law_functions : FD := ⟨Str.ofString "_law_functions", 2, 9, c__law_functions⟩
def f__law_rows : FD := ⟨Str.ofString "_law_rows", 1, 6, c__law_rows⟩
def f__law_values : FD := ⟨Str.ofString "_law_values", 2, 9, c__law_values⟩
def f__law_sets : FD := ⟨Str.ofString "_law_sets", 1, 4, c__law_sets⟩
def f__law_so : FD := ⟨Str.ofString "_law_so", 3, 6, c__law_so⟩
def f__law_is_witness : FD := ⟨Str.ofString "_law_is_witness", 6, 15, c__law_is_witness⟩
def f__law_witnesses : FD := ⟨Str.ofString "_law_witnesses", 4, 15, c__law_witnesses⟩
def f__law_parts : FD := ⟨Str.ofString "_law_parts", 1, 2, c__law_parts⟩
def f__law_cause : FD := ⟨Str.ofString "_law_cause", 4, 7, c__law_cause⟩
def f__law_event : FD := ⟨Str.ofString "_law_event", 2, 7, c__law_event⟩
def f__law_duty : FD := ⟨Str.ofString "_law_duty", 3, 7, c__law_duty⟩
def f__law_divisor : FD := ⟨Str.ofString "_law_divisor", 2, 3, c__law_divisor⟩
def f__law_ratio : FD := ⟨Str.ofString "_law_ratio", 2, 3, c__law_ratio⟩
def Ps : List FD := [f_fraction, f_plus, f_times, f_rows_of, f_place_of, f_values, f_subsets, f_holds, f_setting, f_together, f_actual_of, f_settings_of, f_others_of, f_stays_whole, f_is_witness, f_held_choices, f_first_witness, f_parts_of, f_cause_paper, f_is_cause, f_least_change, f_duty, f_blame, f_duties, f__law_fill, f__law_take, f__law_is_int, f__law_alike, f__law_spoilt, f__law_bent, f__law_functions, f__law_rows, f__law_values, f__law_sets, f__law_so, f__law_is_witness, f__law_witnesses, f__law_parts, f__law_cause, f__law_event, f__law_duty, f__law_divisor, f__law_ratio]
def consts : List (Str × Int) := []
abbrev G0 : Str → Option PyData := constG consts
end C68

namespace C68
open PySem Dv Mr Ac
/-! the draws themselves -/
section
variable (sc : List Int) (a b c e : Int)
theorem cel0 : idxD ⟨sc, [a, b, c, e]⟩ cel (.int 0) = some (.list (sc.map .int)) := rfl
theorem cel1 : idxD ⟨sc, [a, b, c, e]⟩ cel (.int 1) = some (.int a) := rfl
theorem cel2 : idxD ⟨sc, [a, b, c, e]⟩ cel (.int 2) = some (.int b) := rfl
theorem cel3 : idxD ⟨sc, [a, b, c, e]⟩ cel (.int 3) = some (.int c) := rfl
theorem idx_list (S : Sc) (xs : List D) (i : Int) : idxD S (.list xs) (.int i) = L2.atI xs i := rfl
theorem cel_own : (.frz cel : Sl).isOwn = false := rfl
end
theorem setCel {Φ : Dv.Callee} {η : Dv.Env} {S S1 : Sc} {e : E} {k : Int} {z : Int} (h : den Φ G0 e η S = some (.int z, S1)) (hs : slot η 0 = .frz cel) (hk : 1 ≤ k ∧ k ≤ 4) : denS Φ G0 whileMost (.setIx 0 (.con (.int k)) e) η S = some (.nx η { S1 with cells := S1.cells.set (k - 1).toNat z }) := by
  simp only [denS, h, den, hs, cel]
  rw [if_pos hk]
theorem fill_run {Φ : Dv.Callee} (sc : List Int) (a b c e : Int) (ha : 0 ≤ a) (hb : 0 ≤ b) (hc : 0 ≤ c) : ∃ v S', denSs Φ G0 whileMost c__law_fill [.frz cel, .no] ⟨sc, [a, b, c, e]⟩ = some (.rt (.int v) false S') ∧ Ok S' ∧ 0 ≤ v := by
  -- the last three statements
  have last : ∀ (x a c : Int), 0 ≤ a → 0 ≤ c → ∃ v S', denSs Φ G0 whileMost (c__law_fill.drop 3) [.frz cel, .frz (.int x)] ⟨sc, [a, b, c, e]⟩ = some (.rt (.int v) false S') ∧ Ok S' ∧ 0 ≤ v := by
    intro x a c ha hc
    -- the last two
    have last2 : ∀ x : Int, ∃ v S', denSs Φ G0 whileMost (c__law_fill.drop 4) [.frz cel, .frz (.int x)] ⟨sc, [a, b, c, e]⟩ = some (.rt (.int v) false S') ∧ Ok S' ∧ 0 ≤ v := by
      intro x
      have h1 : den Φ G0 (.blt .int [(.bin .add (.bin .mul (.own 1) (.con (.int (48271)))) (.bin .mul (.idx (.own 0) (.con (.int (3)))) (.con (.int (69621)))))]) [.frz cel, .frz (.int x)] ⟨sc, [a, b, c, e]⟩ = some (.int (x * 48271 + c * 69621), ⟨sc, [a, b, c, e]⟩) := by
        have m1 : mulOk x 48271 = true := mulOk_r (by decide) (by decide)
        have m2 : mulOk c 69621 = true := mulOk_r (by decide) (by decide)
        simp [den, denA, denT, topE, slot, List.getD_cons_zero, List.getD_cons_succ, Sl.get, Sl.clean, cel0, cel1, cel2, cel3, binD, bltD, cmpD, ltD, Option.map_some, Option.bind_some, ownedE, cel_own, truD, m1, m2]
      generalize x * 48271 + c * 69621 = y at h1
      let q := y % 2147483647
      have hq0 : 0 ≤ q := Int.emod_nonneg _ (by decide)
      have hq1 : q < 2147483647 := Int.emod_lt_of_pos _ (by decide)
      have h2 : den Φ G0 (.bin .mod (.blt .int [(.bin .add (.bin .mul (.own 1) (.con (.int (48271)))) (.bin .mul (.idx (.own 0) (.con (.int (3)))) (.con (.int (69621)))))]) (.con (.int (2147483647)))) [.frz cel, .frz (.int x)] ⟨sc, [a, b, c, e]⟩ = some (.int q, ⟨sc, [a, b, c, e]⟩) := by
        rw [den]
        simp only [topE]
        rw [h1]
        rfl
      have h3 : denS Φ G0 whileMost (.set 1 (.bin .mod (.blt .int [(.bin .add (.bin .mul (.own 1) (.con (.int (48271)))) (.bin .mul (.idx (.own 0) (.con (.int (3)))) (.con (.int (69621)))))]) (.con (.int (2147483647))))) [.frz cel, .frz (.int x)] ⟨sc, [a, b, c, e]⟩ = some (.nx [.frz cel, .frz (.int q)] ⟨sc, [a, b, c, e]⟩) := by
        rw [denS, h2]
        rfl
      have h4 : denT Φ G0 (.bin .add (.bin .div (.blt .int [(.bin .add (.bin .add (.bin .mul (.own 1) (.own 1)) (.bin .mul (.idx (.own 0) (.con (.int (3)))) (.con (.int (7919))))) (.con (.int (11))))]) (.con (.int (64)))) (.con (.int (36028797018963968)))) [.frz cel, .frz (.int q)] ⟨sc, [a, b, c, e]⟩ = some (.int ((q * q + c * 7919 + 11) / 64 + 36028797018963968), ⟨sc, [a, b, c, e]⟩) := by
        have m1 : mulOk q q = true := mulOk_r (by omega) (by omega)
        have m2 : mulOk c 7919 = true := mulOk_r (by decide) (by decide)
        have m3 : divOk 64 = true := divOk_of (by decide) (by decide)
        simp [den, denA, denT, topE, slot, List.getD_cons_zero, List.getD_cons_succ, Sl.get, Sl.clean, cel0, cel1, cel2, cel3, binD, bltD, cmpD, ltD, Option.map_some, Option.bind_some, ownedE, cel_own, truD, m1, m2, m3]
      refine ⟨(q * q + c * 7919 + 11) / 64 + 36028797018963968, ⟨sc, [a, b, c, e]⟩, ?_, ⟨rfl, ha, hb, hc⟩, ?_⟩
      · show denSs Φ G0 whileMost [_, _] _ _ = some (.rt (.int ((q * q + c * 7919 + 11) / 64 + 36028797018963968)) _ _)
        rw [denSs, h3]
        simp only
        rw [denSs, denS, h4]
        rfl
      · have : 0 ≤ q * q := Int.mul_nonneg hq0 hq0
        have : 0 ≤ (q * q + c * 7919 + 11) / 64 := Int.ediv_nonneg (by omega) (by decide)
        omega
    have hstep : ∃ x', denS Φ G0 whileMost (.ife (.and (.idx (.own 0) (.con (.int (0)))) (.cmp .ge (.idx (.own 0) (.con (.int (1)))) (.blt .len [(.idx (.own 0) (.con (.int (0))))]))) [(.set 1 (.bin .add (.own 1) (.bin .mod (.blt .int [(.idx (.idx (.own 0) (.con (.int (0)))) (.neg (.con (.int (1)))))]) (.con (.int (1000003))))))] []) [.frz cel, .frz (.int x)] ⟨sc, [a, b, c, e]⟩ = some (.nx [.frz cel, .frz (.int x')] ⟨sc, [a, b, c, e]⟩) := by
      cases hsc : sc with
      | nil =>
        refine ⟨x, ?_⟩
        rw [denS]
        simp [den, denA, denT, topE, slot, List.getD_cons_zero, List.getD_cons_succ, Sl.get, Sl.clean, cel0, cel1, cel2, cel3, binD, bltD, cmpD, ltD, Option.map_some, Option.bind_some, ownedE, cel_own, truD, denSs]
      | cons y ys =>
        by_cases hge : a ≥ ((y :: ys).length : Int)
        · obtain ⟨z, hz⟩ : ∃ z, L2.atI ((y :: ys).map PyData.int) (-1) = some (.int z) := by
            rw [atI_map]
            unfold L2.atI L2.ixN
            rw [if_neg (by decide), if_pos (by simp; omega)]
            have : (-1 + ((y :: ys).length : Int)).toNat < (y :: ys).length := by simp; omega
            exact ⟨(y :: ys)[(-1 + ((y :: ys).length : Int)).toNat], by simp [List.getElem?_eq_getElem this]⟩
          refine ⟨x + z % 1000003, ?_⟩
          have h1 : den Φ G0 (.bin .add (.own 1) (.bin .mod (.blt .int [(.idx (.idx (.own 0) (.con (.int (0)))) (.neg (.con (.int (1)))))]) (.con (.int (1000003))))) [.frz cel, .frz (.int x)] ⟨y :: ys, [a, b, c, e]⟩ = some (.int (x + z % 1000003), ⟨y :: ys, [a, b, c, e]⟩) := by
            have hz' := hz
            rw [List.map_cons] at hz'
            simp [den, denA, denT, topE, slot, List.getD_cons_zero, List.getD_cons_succ, Sl.get, Sl.clean, cel0, cel1, cel2, cel3, binD, bltD, cmpD, ltD, Option.map_some, Option.bind_some, ownedE, cel_own, truD, idx_list, hz']
          have hge' : (ys.length : Int) + 1 ≤ a := by simpa using hge
          have h0 : denT Φ G0 (.and (.idx (.own 0) (.con (.int (0)))) (.cmp .ge (.idx (.own 0) (.con (.int (1)))) (.blt .len [(.idx (.own 0) (.con (.int (0))))]))) [.frz cel, .frz (.int x)] ⟨y :: ys, [a, b, c, e]⟩ = some (.bool true, ⟨y :: ys, [a, b, c, e]⟩) := by
            simp [den, denA, denT, topE, slot, List.getD_cons_zero, List.getD_cons_succ, Sl.get, Sl.clean, cel0, cel1, cel2, cel3, binD, bltD, cmpD, ltD, Option.map_some, Option.bind_some, ownedE, cel_own, truD, hge']
          rw [denS, h0]
          simp only [truD]
          rw [denSs, denS, h1]
          rfl
        · refine ⟨x, ?_⟩
          have hge' : ¬ ((ys.length : Int) + 1 ≤ a) := by simpa using hge
          rw [denS]
          simp [den, denA, denT, topE, slot, List.getD_cons_zero, List.getD_cons_succ, Sl.get, Sl.clean, cel0, cel1, cel2, cel3, binD, bltD, cmpD, ltD, Option.map_some, Option.bind_some, ownedE, cel_own, truD, hge', denSs]
    obtain ⟨x', hx'⟩ := hstep
    obtain ⟨v, S', h1, h2⟩ := last2 x'
    refine ⟨v, S', ?_, h2⟩
    show denSs Φ G0 whileMost (_ :: c__law_fill.drop 4) _ _ = _
    rw [denSs, hx']
    exact h1
  have s1 : denS Φ G0 whileMost (.setIx 0 (.con (.int (3))) (.bin .add (.idx (.own 0) (.con (.int (3)))) (.con (.int (1))))) [.frz cel, .no] ⟨sc, [a, b, c, e]⟩ = some (.nx [.frz cel, .no] ⟨sc, [a, b, c + 1, e]⟩) := by
    rw [setCel (z := c + 1) (S1 := ⟨sc, [a, b, c, e]⟩) (by simp [den, denA, denT, topE, slot, List.getD_cons_zero, List.getD_cons_succ, Sl.get, Sl.clean, cel0, cel1, cel2, cel3, binD, bltD, cmpD, ltD, Option.map_some, Option.bind_some, ownedE, cel_own, truD]) rfl (by decide)]
    rfl
  have s2 : denS Φ G0 whileMost (.set 1 (.bin .add (.bin .mul (.idx (.own 0) (.con (.int (3)))) (.con (.int (69621)))) (.con (.int (12345))))) [.frz cel, .no] ⟨sc, [a, b, c + 1, e]⟩ = some (.nx [.frz cel, .frz (.int ((c + 1) * 69621 + 12345))] ⟨sc, [a, b, c + 1, e]⟩) := by
    have m2 : mulOk (c + 1) 69621 = true := mulOk_r (by decide) (by decide)
    rw [denS]
    simp [den, denA, denT, topE, slot, List.getD_cons_zero, List.getD_cons_succ, Sl.get, Sl.clean, cel0, cel1, cel2, cel3, binD, bltD, cmpD, ltD, Option.map_some, Option.bind_some, ownedE, cel_own, truD, m2, mkSl, isNew]
  show ∃ v S', denSs Φ G0 whileMost (_ :: _ :: _ :: c__law_fill.drop 3) _ _ = _ ∧ _
  rw [denSs, s1]
  simp only
  rw [denSs, s2]
  simp only
  rw [denSs]
  generalize (c + 1) * 69621 + 12345 = x0
  -- the third
  by_cases hlt : a < (sc.length : Int)
  · obtain ⟨x, hx⟩ : ∃ x, L2.atI (sc.map PyData.int) a = some (.int x) := by
      rw [atI_map]
      exact ⟨gI sc a, by rw [atI_gI ha hlt]; rfl⟩
    have h1 : den Φ G0 (.idx (.idx (.own 0) (.con (.int (0)))) (.idx (.own 0) (.con (.int (1))))) [.frz cel, .frz (.int x0)] ⟨sc, [a, b, c + 1, e]⟩ = some (.int x, ⟨sc, [a, b, c + 1, e]⟩) := by
      simp [den, denA, denT, topE, slot, List.getD_cons_zero, List.getD_cons_succ, Sl.get, Sl.clean, cel0, cel1, cel2, cel3, binD, bltD, cmpD, ltD, Option.map_some, Option.bind_some, ownedE, cel_own, truD, idx_list, hx]
    have h1s : denS Φ G0 whileMost (.set 1 (.idx (.idx (.own 0) (.con (.int (0)))) (.idx (.own 0) (.con (.int (1)))))) [.frz cel, .frz (.int x0)] ⟨sc, [a, b, c + 1, e]⟩ = some (.nx [.frz cel, .frz (.int x)] ⟨sc, [a, b, c + 1, e]⟩) := by
      rw [denS, h1]
      rfl
    have h2 : denS Φ G0 whileMost (.setIx 0 (.con (.int (1))) (.bin .add (.idx (.own 0) (.con (.int (1)))) (.con (.int (1))))) [.frz cel, .frz (.int x)] ⟨sc, [a, b, c + 1, e]⟩ = some (.nx [.frz cel, .frz (.int x)] ⟨sc, [a + 1, b, c + 1, e]⟩) := by
      rw [setCel (z := a + 1) (S1 := ⟨sc, [a, b, c + 1, e]⟩) (by simp [den, denA, denT, topE, slot, List.getD_cons_zero, List.getD_cons_succ, Sl.get, Sl.clean, cel0, cel1, cel2, cel3, binD, bltD, cmpD, ltD, Option.map_some, Option.bind_some, ownedE, cel_own, truD]) rfl (by decide)]
      rfl
    have h3 : ∃ x', (0 ≤ x' ∧ denS Φ G0 whileMost (.ife (.cmp .lt (.own 1) (.con (.int (0)))) [(.set 1 (.bin .sub (.bin .sub (.con (.int (0))) (.con (.int (1)))) (.own 1)))] []) [.frz cel, .frz (.int x)] ⟨sc, [a + 1, b, c + 1, e]⟩ = some (.nx [.frz cel, .frz (.int x')] ⟨sc, [a + 1, b, c + 1, e]⟩)) := by
      by_cases hn : x < 0
      · refine ⟨-1 - x, by omega, ?_⟩
        rw [denS]
        simp [den, denA, denT, topE, slot, List.getD_cons_zero, List.getD_cons_succ, Sl.get, Sl.clean, cel0, cel1, cel2, cel3, binD, bltD, cmpD, ltD, Option.map_some, Option.bind_some, ownedE, cel_own, truD, hn, denSs, denS, mkSl, isNew]
      · refine ⟨x, by omega, ?_⟩
        rw [denS]
        simp [den, denA, denT, topE, slot, List.getD_cons_zero, List.getD_cons_succ, Sl.get, Sl.clean, cel0, cel1, cel2, cel3, binD, bltD, cmpD, ltD, Option.map_some, Option.bind_some, ownedE, cel_own, truD, hn, denSs, denS, mkSl, isNew]
    obtain ⟨x', hx0, hx'⟩ := h3
    have h0 : denT Φ G0 (.cmp .lt (.idx (.own 0) (.con (.int (1)))) (.blt .len [(.idx (.own 0) (.con (.int (0))))])) [.frz cel, .frz (.int x0)] ⟨sc, [a, b, c + 1, e]⟩ = some (.bool true, ⟨sc, [a, b, c + 1, e]⟩) := by
      simp [den, denA, denT, topE, slot, List.getD_cons_zero, List.getD_cons_succ, Sl.get, Sl.clean, cel0, cel1, cel2, cel3, binD, bltD, cmpD, ltD, Option.map_some, Option.bind_some, ownedE, cel_own, truD, hlt]
    have hcond : denT Φ G0 (.cmp .ge (.own 1) (.bin .pow (.con (.int (10))) (.con (.int (18))))) [.frz cel, .frz (.int x')] ⟨sc, [a + 1, b, c + 1, e]⟩ = some (.bool (decide (1000000000000000000 ≤ x')), ⟨sc, [a + 1, b, c + 1, e]⟩) := by
      simp [den, denA, denT, topE, slot, List.getD_cons_zero, List.getD_cons_succ, Sl.get, Sl.clean, cel0, cel1, cel2, cel3, binD, bltD, cmpD, ltD, Option.map_some, Option.bind_some, ownedE, cel_own, truD]
    by_cases hbig : (1000000000000000000 : Int) ≤ x'
    · refine ⟨x', ⟨sc, [a + 1, b, c + 1, e]⟩, ?_, ⟨rfl, by show 0 ≤ a + 1; omega, hb, by show 0 ≤ c + 1; omega⟩, by omega⟩
      rw [decide_eq_true hbig] at hcond
      rw [denS, h0]
      simp only [truD]
      rw [denSs, h1s]
      simp only
      rw [denSs, h2]
      simp only
      rw [denSs, hx']
      simp only
      rw [denSs, denS, hcond]
      simp only [truD]
      rw [denSs, denS]
      rfl
    · obtain ⟨v, S', g1, g2⟩ := last x' (a + 1) (c + 1) (by omega) (by omega)
      refine ⟨v, S', ?_, g2⟩
      rw [decide_eq_false hbig] at hcond
      rw [denS, h0]
      simp only [truD]
      rw [denSs, h1s]
      simp only
      rw [denSs, h2]
      simp only
      rw [denSs, hx']
      simp only
      rw [denSs, denS, hcond]
      simp only [truD]
      rw [denSs]
      simp only
      rw [denSs]
      exact g1
  · obtain ⟨v, S', g1, g2⟩ := last x0 a (c + 1) ha (by omega)
    refine ⟨v, S', ?_, g2⟩
    have h0 : denT Φ G0 (.cmp .lt (.idx (.own 0) (.con (.int (1)))) (.blt .len [(.idx (.own 0) (.con (.int (0))))])) [.frz cel, .frz (.int x0)] ⟨sc, [a, b, c + 1, e]⟩ = some (.bool false, ⟨sc, [a, b, c + 1, e]⟩) := by
      simp [den, denA, denT, topE, slot, List.getD_cons_zero, List.getD_cons_succ, Sl.get, Sl.clean, cel0, cel1, cel2, cel3, binD, bltD, cmpD, ltD, Option.map_some, Option.bind_some, ownedE, cel_own, truD, hlt]
    rw [denS, h0]
    simp only [truD]
    rw [denSs]
    exact g1
theorem cells4 {S : Sc} (h : Ok S) : ∃ a b c e, S = ⟨S.script, [a, b, c, e]⟩ ∧ 0 ≤ a ∧ 0 ≤ b ∧ 0 ≤ c := by
  obtain ⟨sc, cells⟩ := S
  obtain ⟨h1, h2, h3, h4⟩ := h
  match cells, h1, h2, h3, h4 with
  | [a, b, c, e], _, h2, h3, h4 => exact ⟨a, b, c, e, rfl, h2, h3, h4⟩
theorem take_run {Φ : Dv.Callee} (hf : ∀ S, Ok S → ∃ v S', Φ (Str.ofString "_law_fill") [cel] S = some (.int v, false, S') ∧ Ok S' ∧ 0 ≤ v) (many : Int) (hm : 0 < many) (S : Sc) (hS : Ok S) (hmb : divOk many = true) : ∃ v S', denSs Φ G0 whileMost c__law_take [.frz cel, .frz (.int many), .no] S = some (.rt (.int v) false S') ∧ Ok S' ∧ 0 ≤ v ∧ v < many := by
  have last : ∀ S, Ok S → ∃ v S', denSs Φ G0 whileMost (c__law_take.drop 1) [.frz cel, .frz (.int many), .no] S = some (.rt (.int v) false S') ∧ Ok S' ∧ 0 ≤ v ∧ v < many := by
    intro S hS
    obtain ⟨a, b, c, e, hSe, ha, hb, hc⟩ := cells4 hS
    generalize S.script = sc at hSe
    subst hSe
    refine ⟨b % many, ⟨sc, [a, b / many, c, e]⟩, ?_, ⟨rfl, ha, Int.ediv_nonneg hb (by omega), hc⟩, Int.emod_nonneg _ (by omega), Int.emod_lt_of_pos _ hm⟩
    have h1 : denS Φ G0 whileMost (.set 2 (.bin .mod (.blt .int [(.idx (.own 0) (.con (.int (2))))]) (.own 1))) [.frz cel, .frz (.int many), .no] ⟨sc, [a, b, c, e]⟩ = some (.nx [.frz cel, .frz (.int many), .frz (.int (b % many))] ⟨sc, [a, b, c, e]⟩) := by
      rw [denS]
      simp [den, denA, denT, topE, slot, List.getD_cons_zero, List.getD_cons_succ, Sl.get, Sl.clean, cel0, cel1, cel2, cel3, binD, bltD, cmpD, ltD, Option.map_some, Option.bind_some, ownedE, cel_own, truD, hm, mkSl, isNew]
    have h2 : denS Φ G0 whileMost (.setIx 0 (.con (.int (2))) (.bin .div (.idx (.own 0) (.con (.int (2)))) (.own 1))) [.frz cel, .frz (.int many), .frz (.int (b % many))] ⟨sc, [a, b, c, e]⟩ = some (.nx [.frz cel, .frz (.int many), .frz (.int (b % many))] ⟨sc, [a, b / many, c, e]⟩) := by
      rw [setCel (z := b / many) (S1 := ⟨sc, [a, b, c, e]⟩) (by simp [den, denA, denT, topE, slot, List.getD_cons_zero, List.getD_cons_succ, Sl.get, Sl.clean, cel0, cel1, cel2, cel3, binD, bltD, cmpD, ltD, Option.map_some, Option.bind_some, ownedE, cel_own, truD, hmb]) rfl (by decide)]
      rfl
    show denSs Φ G0 whileMost [_, _, _] _ _ = _
    rw [denSs, h1]
    simp only
    rw [denSs, h2]
    simp only
    rw [denSs, denS]
    rfl
  obtain ⟨a, b, c, e, hSe, ha, hb, hc⟩ := cells4 hS
  generalize S.script = sc at hSe
  subst hSe
  show ∃ v S', denSs Φ G0 whileMost (_ :: c__law_take.drop 1) _ _ = _ ∧ _
  by_cases hlt : b < many
  · have h0 : denT Φ G0 (.cmp .lt (.idx (.own 0) (.con (.int (2)))) (.own 1)) [.frz cel, .frz (.int many), .no] ⟨sc, [a, b, c, e]⟩ = some (.bool true, ⟨sc, [a, b, c, e]⟩) := by
      simp [den, denA, denT, topE, slot, List.getD_cons_zero, List.getD_cons_succ, Sl.get, Sl.clean, cel0, cel1, cel2, cel3, binD, bltD, cmpD, ltD, Option.map_some, Option.bind_some, ownedE, cel_own, truD, hlt]
    obtain ⟨v, S1, f1, f2, f3⟩ := hf ⟨sc, [a, b, c, e]⟩ hS
    obtain ⟨a1, b1, c1, e1, hSe, ha1, hb1, hc1⟩ := cells4 f2
    generalize S1.script = sc1 at hSe
    subst hSe
    have h1 : denS Φ G0 whileMost (.setIx 0 (.con (.int (2))) (.call (Str.ofString "_law_fill") [(.own 0)])) [.frz cel, .frz (.int many), .no] ⟨sc, [a, b, c, e]⟩ = some (.nx [.frz cel, .frz (.int many), .no] ⟨sc1, [a1, v, c1, e1]⟩) := by
      rw [setCel (z := v) (S1 := ⟨sc1, [a1, b1, c1, e1]⟩) (by simp [den, denA, denT, topE, slot, List.getD_cons_zero, List.getD_cons_succ, Sl.get, Sl.clean, cel0, cel1, cel2, cel3, binD, bltD, cmpD, ltD, Option.map_some, Option.bind_some, ownedE, cel_own, truD, f1]) rfl (by decide)]
      rfl
    obtain ⟨w, S2, g1, g2⟩ := last ⟨sc1, [a1, v, c1, e1]⟩ ⟨rfl, ha1, f3, hc1⟩
    refine ⟨w, S2, ?_, g2⟩
    rw [denSs, denS, h0]
    simp only [truD]
    rw [denSs, h1]
    simp only
    rw [denSs]
    exact g1
  · have h0 : denT Φ G0 (.cmp .lt (.idx (.own 0) (.con (.int (2)))) (.own 1)) [.frz cel, .frz (.int many), .no] ⟨sc, [a, b, c, e]⟩ = some (.bool false, ⟨sc, [a, b, c, e]⟩) := by
      simp [den, denA, denT, topE, slot, List.getD_cons_zero, List.getD_cons_succ, Sl.get, Sl.clean, cel0, cel1, cel2, cel3, binD, bltD, cmpD, ltD, Option.map_some, Option.bind_some, ownedE, cel_own, truD, hlt]
    obtain ⟨w, S2, g1, g2⟩ := last ⟨sc, [a, b, c, e]⟩ hS
    refine ⟨w, S2, ?_, g2⟩
    rw [denSs, denS, h0]
    simp only [truD]
    rw [denSs]
    exact g1
theorem run_rt {P : List FD} {f : Str} (fd : FD) {n : Nat} {as : List D} {η : Dv.Env} {S S' : Sc} {d : D} {nw : Bool} (h : P.find? (fun fd => decide (fd.name = f)) = some fd) (hl : as.length = fd.params) (hη : startE fd as = η) (hb : denSs (Dv.run P G0 n) G0 whileMost fd.body η S = some (.rt d nw S')) : Dv.run P G0 (n + 1) f as S = some (d, nw, S') := by
  simp only [Dv.run, h]
  rw [if_pos hl, hη, hb]
def m__law_take (_ : Unit) (n : Int) : ND Int := fun Q => divOk n = true ∧ draw n Q
theorem r__law_take (n : Nat) (hn : 2 ≤ n) (p0 : Unit) (p1 : Int) : RF (Dv.run Ps G0 n) (Str.ofString "_law_take") [eC p0, PyData.int p1] (m__law_take p0 p1) PyData.int false := by
  intro S Q hS q
  obtain ⟨n, rfl⟩ : ∃ j, n = j + 1 + 1 := ⟨n - 2, by omega⟩
  obtain ⟨q0, q1, q2⟩ := q
  obtain ⟨v, S', h1, h2, h3, h4⟩ := take_run (Φ := Dv.run Ps G0 (n + 1)) (by
    intro S hS
    obtain ⟨a, b, c, e, hSe, ha, hb, hc⟩ := cells4 hS
    generalize S.script = sc at hSe
    subst hSe
    obtain ⟨v, S', h1, h2⟩ := fill_run (Φ := Dv.run Ps G0 n) sc a b c e ha hb hc
    refine ⟨v, S', ?_, h2⟩
    exact run_rt f__law_fill (by rfl) rfl rfl h1) p1 q1 S hS q0
  exact ⟨v, false, S', run_rt f__law_take (by rfl) rfl rfl h1, nwf, h2, q2 v h3 h4⟩
end C68

namespace C68
open PySem Dv Mr
-- _law_alike(value, due)
def m__law_alike_step (rec : D → D → ND Bool) (p0 : D) (p1 : D) : ND Bool :=
  bnd (bnd (ret p1) fun x1 => lft ((tyD (eD x1)).map fun t => List.any ["tuple"] fun T => isiOne t T)) fun c2 => if c2 then bnd (bnd (bnd (ret p0) fun x3 => lft ((tyD (eD x3)).map fun t => List.any ["tuple"] fun T => isiOne t T)) fun c21 => if c21 then bnd (bnd (bnd (ret p0) fun x4 => lft (bltD .len [eD x4])) fun x6 => bnd (bnd (ret p1) fun x5 => lft (bltD .len [eD x5])) fun x7 => lft (cmpD .eq (eD x6) (eD x7))) fun c20 => if c20 then bnd (bnd (bnd (bnd (bnd (ret p1) fun x8 => lft (bltD .len [eD x8])) fun x9 => lft (decI x9)) fun x10 => lft (rngO x10)) fun x11 => mp (fun a12 => bnd (bnd (ret p0) fun x13 => bnd (ret a12) fun x14 => lft (idxV (eD x13) (PyData.int x14))) fun x17 => bnd (bnd (ret p1) fun x15 => bnd (ret a12) fun x16 => lft (idxV (eD x15) (PyData.int x16))) fun x18 => rec x17 x18) x11) fun x19 => lft (some (List.all x19 id)) else ret false else ret false) fun x22 => ret x22 else bnd (bnd (ret p1) fun x23 => bnd (ret ()) fun x24 => lft (cmpD .is_ (eD x23) (eN x24))) fun c25 => if c25 then bnd (bnd (ret p0) fun x26 => bnd (ret ()) fun x27 => lft (cmpD .is_ (eD x26) (eN x27))) fun x28 => ret x28 else bnd (bnd (ret p1) fun x29 => lft ((tyD (eD x29)).map fun t => List.any ["bool"] fun T => isiOne t T)) fun c30 => if c30 then bnd (bnd (bnd (ret p0) fun x31 => lft ((tyD (eD x31)).map fun t => List.any ["bool"] fun T => isiOne t T)) fun c34 => if c34 then bnd (ret p0) fun x32 => bnd (ret p1) fun x33 => lft (cmpD .eq (eD x32) (eD x33)) else ret false) fun x35 => ret x35 else bnd (bnd (bnd (ret p0) fun x36 => lft ((tyD (eD x36)).map fun t => List.any ["bool"] fun T => isiOne t T)) fun c41 => if c41 then ret true else bnd (bnd (ret p0) fun x37 => lft ((tyD (eD x37)).map fun t => List.any ["str"] fun T => isiOne t T)) fun x39 => bnd (bnd (ret p1) fun x38 => lft ((tyD (eD x38)).map fun t => List.any ["str"] fun T => isiOne t T)) fun x40 => lft (some (decide (x39 ≠ x40)))) fun c42 => if c42 then bnd (ret false) fun x43 => ret x43 else bnd (bnd (bnd (ret p0) fun x44 => lft ((tyD (eD x44)).map fun t => List.any ["int", "str"] fun T => isiOne t T)) fun c47 => if c47 then bnd (ret p0) fun x45 => bnd (ret p1) fun x46 => lft (cmpD .eq (eD x45) (eD x46)) else ret false) fun x48 => ret x48
def m__law_alike_k : Nat → D → D → ND Bool
  | 0 => fun _ _ => fun _ => False
  | k + 1 => m__law_alike_step (m__law_alike_k k)
theorem r__law_alike_step (n : Nat) (hn : 0 ≤ n) (rec : D → D → ND Bool) (hrec : ∀ p0 p1, RF (Dv.run Ps G0 n) (Str.ofString "_law_alike") [eD p0, eD p1] (rec p0 p1) PyData.bool false) (p0 : D) (p1 : D) : RF (Dv.run Ps G0 (n + 1)) (Str.ofString "_law_alike") [eD p0, eD p1] (m__law_alike_step rec p0 p1) PyData.bool false := by
  exact RF_of (η := ([.frz (eD p0), .frz (eD p1), .no] : Dv.Env)) f__law_alike (by rfl) rfl rfl (RS_ife (RC_ce rfl (RCE_bool (RE_blt1 (eb := PyData.bool) (RT_var (x := p1) (ea := eD) rfl) (op_isi ["tuple"])))) (RS_ret (RT_of rfl (RE_and rfl (RT_of rfl (RE_blt1 (eb := PyData.bool) (RT_var (x := p0) (ea := eD) rfl) (op_isi ["tuple"]))) (RE_and rfl (RT_of rfl (RE_cmp (RT_of rfl (RE_blt1 (eb := eD) (RT_var (x := p0) (ea := eD) rfl) (op_bltD1 .len))) (RT_of rfl (RE_blt1 (eb := eD) (RT_var (x := p1) (ea := eD) rfl) (op_bltD1 .len))) (op_cmpD .eq))) (RE_blt1 (eb := PyData.bool) (RT_of rfl (RE_lc (ηf := fun a12 => ([.frz (eD p0), .frz (eD p1), .frz (PyData.int a12)] : Dv.Env)) (RT_of rfl (RE_rng1 (RE_mapO (eb := PyData.int) (RE_blt1 (eb := eD) (RT_var (x := p1) (ea := eD) rfl) (op_bltD1 .len)) (fun x9 => decI x9) dec_I))) its_L (fun _ => rfl) (fun a12 => (RE_call2 (RT_of rfl (RE_idx (ec := eD) (RT_var (x := p0) (ea := eD) rfl) (RE_var (x := a12) (ea := PyData.int) rfl) op_idxD)) (RT_of rfl (RE_idx (ec := eD) (RT_var (x := p1) (ea := eD) rfl) (RE_var (x := a12) (ea := PyData.int) rfl) op_idxD)) (fun x17 x18 => hrec x17 x18) (.inl rfl))))) op_all)))) (fun _ _ hS => outD_rt hS nwf)) (RS_ife (RC_ce rfl (RCE_bool (RE_cmp (RT_var (x := p1) (ea := eD) rfl) (RT_of rfl (RE_con (x := ()) (ea := eN) rfl)) (op_cmpD .is_)))) (RS_ret (RT_of rfl (RE_cmp (RT_var (x := p0) (ea := eD) rfl) (RT_of rfl (RE_con (x := ()) (ea := eN) rfl)) (op_cmpD .is_))) (fun _ _ hS => outD_rt hS nwf)) (RS_ife (RC_ce rfl (RCE_bool (RE_blt1 (eb := PyData.bool) (RT_var (x := p1) (ea := eD) rfl) (op_isi ["bool"])))) (RS_ret (RT_of rfl (RE_and rfl (RT_of rfl (RE_blt1 (eb := PyData.bool) (RT_var (x := p0) (ea := eD) rfl) (op_isi ["bool"]))) (RE_cmp (RT_var (x := p0) (ea := eD) rfl) (RT_var (x := p1) (ea := eD) rfl) (op_cmpD .eq)))) (fun _ _ hS => outD_rt hS nwf)) (RS_ife (RC_ce rfl (RCE_or rfl (RC_ce rfl (RCE_bool (RE_blt1 (eb := PyData.bool) (RT_var (x := p0) (ea := eD) rfl) (op_isi ["bool"])))) (RCE_bool (RE_cmp (RT_of rfl (RE_blt1 (eb := PyData.bool) (RT_var (x := p0) (ea := eD) rfl) (op_isi ["str"]))) (RT_of rfl (RE_blt1 (eb := PyData.bool) (RT_var (x := p1) (ea := eD) rfl) (op_isi ["str"]))) (op_ne dat_bool (by decide) eqv_bool))))) (RS_ret (RT_of rfl (RE_con (x := false) (ea := PyData.bool) rfl)) (fun _ _ hS => outD_rt hS nwf)) (RS_ret (RT_of rfl (RE_and rfl (RT_of rfl (RE_blt1 (eb := PyData.bool) (RT_var (x := p0) (ea := eD) rfl) (op_isi ["int", "str"]))) (RE_cmp (RT_var (x := p0) (ea := eD) rfl) (RT_var (x := p1) (ea := eD) rfl) (op_cmpD .eq)))) (fun _ _ hS => outD_rt hS nwf))))))
theorem r__law_alike_k : ∀ (k n : Nat), k + 0 ≤ n → ∀ (p0 : D) (p1 : D), RF (Dv.run Ps G0 n) (Str.ofString "_law_alike") [eD p0, eD p1] (m__law_alike_k k p0 p1) PyData.bool false
  | 0, _, _, _, _ => fun _ _ _ q => False.elim q
  | k + 1, n, hn, p0, p1 => by
    obtain ⟨n, rfl⟩ : ∃ j, n = j + 1 := ⟨n - 1, by omega⟩
    exact r__law_alike_step n (by omega) _ (fun p0 p1 => r__law_alike_k k n (by omega) p0 p1) p0 p1
def m__law_alike (p0 : D) (p1 : D) : ND Bool := m__law_alike_k 20 p0 p1
theorem r__law_alike (n : Nat) (hn : 20 ≤ n) (p0 : D) (p1 : D) : RF (Dv.run Ps G0 n) (Str.ofString "_law_alike") [eD p0, eD p1] (m__law_alike p0 p1) PyData.bool false := r__law_alike_k 20 n (by omega) p0 p1
-- fraction(above, below)
def m_fraction (p0 : Int) (p1 : Int) : ND (Int × Int) :=
  bnd (bnd (ret p0) fun x1 => bnd (ret p1) fun x2 => lft (some ((Nat.gcd (Int.natAbs x1) (Int.natAbs x2) : Nat) : Int))) fun v3 => bnd (bnd (bnd (ret p0) fun x4 => bnd (ret v3) fun x5 => lft (if divOk x5 then some (x4 / x5) else none)) fun x8 => bnd (bnd (ret p1) fun x6 => bnd (ret v3) fun x7 => lft (if divOk x7 then some (x6 / x7) else none)) fun x9 => ret (x8, x9)) fun x10 => ret x10
theorem r_fraction (n : Nat) (hn : 1 ≤ n) (p0 : Int) (p1 : Int) : RF (Dv.run Ps G0 n) (Str.ofString "fraction") [PyData.int p0, PyData.int p1] (m_fraction p0 p1) (eP2 PyData.int PyData.int) false := by
  obtain ⟨n, rfl⟩ : ∃ j, n = j + 1 := ⟨n - 1, by omega⟩
  exact RF_of (η := ([.frz (PyData.int p0), .frz (PyData.int p1), .no] : Dv.Env)) f_fraction (by rfl) rfl rfl (RS_set (η' := fun v3 => ([.frz (PyData.int p0), .frz (PyData.int p1), .frz (PyData.int v3)] : Dv.Env)) (RE_blt2 (ec := PyData.int) (RT_var (x := p0) (ea := PyData.int) rfl) (RT_var (x := p1) (ea := PyData.int) rfl) op_gcd) (Nat.le_of_ble_eq_true rfl) (fun _ => rfl) (fun v3 => RS_ret (RT_of rfl (RE_tup2 (RE_bin (ec := PyData.int) (RT_var (x := p0) (ea := PyData.int) rfl) (RT_var (x := v3) (ea := PyData.int) rfl) op_div_i) (RE_bin (ec := PyData.int) (RT_var (x := p1) (ea := PyData.int) rfl) (RT_var (x := v3) (ea := PyData.int) rfl) op_div_i))) (fun _ _ hS => outD_rt hS nwf)))
-- plus(a, b)
def m_plus (p0 : (Int × Int)) (p1 : (Int × Int)) : ND (Int × Int) :=
  bnd (bnd (bnd (bnd (bnd (ret p0) fun x1 => ret x1.1) fun x3 => bnd (bnd (ret p1) fun x2 => ret x2.2) fun x4 => lft (if mulOk x3 x4 then some (x3 * x4) else none)) fun x9 => bnd (bnd (bnd (ret p1) fun x5 => ret x5.1) fun x7 => bnd (bnd (ret p0) fun x6 => ret x6.2) fun x8 => lft (if mulOk x7 x8 then some (x7 * x8) else none)) fun x10 => lft (some (x9 + x10))) fun x15 => bnd (bnd (bnd (ret p0) fun x11 => ret x11.2) fun x13 => bnd (bnd (ret p1) fun x12 => ret x12.2) fun x14 => lft (if mulOk x13 x14 then some (x13 * x14) else none)) fun x16 => m_fraction x15 x16) fun x17 => ret x17
theorem r_plus (n : Nat) (hn : 2 ≤ n) (p0 : (Int × Int)) (p1 : (Int × Int)) : RF (Dv.run Ps G0 n) (Str.ofString "plus") [(eP2 PyData.int PyData.int) p0, (eP2 PyData.int PyData.int) p1] (m_plus p0 p1) (eP2 PyData.int PyData.int) false := by
  obtain ⟨n, rfl⟩ : ∃ j, n = j + 1 := ⟨n - 1, by omega⟩
  exact RF_of (η := ([.frz ((eP2 PyData.int PyData.int) p0), .frz ((eP2 PyData.int PyData.int) p1)] : Dv.Env)) f_plus (by rfl) rfl rfl (RS_ret (RT_of rfl (RE_call2 (RT_of rfl (RE_bin (ec := PyData.int) (RT_of rfl (RE_bin (ec := PyData.int) (RT_of rfl (RE_fst (f := fun x1 => x1.1) (eb := PyData.int) (RT_var (x := p0) (ea := (eP2 PyData.int PyData.int)) rfl) (fun _ _ => rfl))) (RT_of rfl (RE_fst (f := fun x2 => x2.2) (eb := PyData.int) (RT_var (x := p1) (ea := (eP2 PyData.int PyData.int)) rfl) (fun _ _ => rfl))) op_mul_i)) (RT_of rfl (RE_bin (ec := PyData.int) (RT_of rfl (RE_fst (f := fun x5 => x5.1) (eb := PyData.int) (RT_var (x := p1) (ea := (eP2 PyData.int PyData.int)) rfl) (fun _ _ => rfl))) (RT_of rfl (RE_fst (f := fun x6 => x6.2) (eb := PyData.int) (RT_var (x := p0) (ea := (eP2 PyData.int PyData.int)) rfl) (fun _ _ => rfl))) op_mul_i)) op_add_i)) (RT_of rfl (RE_bin (ec := PyData.int) (RT_of rfl (RE_fst (f := fun x11 => x11.2) (eb := PyData.int) (RT_var (x := p0) (ea := (eP2 PyData.int PyData.int)) rfl) (fun _ _ => rfl))) (RT_of rfl (RE_fst (f := fun x12 => x12.2) (eb := PyData.int) (RT_var (x := p1) (ea := (eP2 PyData.int PyData.int)) rfl) (fun _ _ => rfl))) op_mul_i)) (fun x15 x16 => r_fraction n (by omega) x15 x16) (.inl rfl))) (fun _ _ hS => outD_rt hS nwf))
-- times(a, b)
def m_times (p0 : (Int × Int)) (p1 : (Int × Int)) : ND (Int × Int) :=
  bnd (bnd (bnd (bnd (ret p0) fun x1 => ret x1.1) fun x3 => bnd (bnd (ret p1) fun x2 => ret x2.1) fun x4 => lft (if mulOk x3 x4 then some (x3 * x4) else none)) fun x9 => bnd (bnd (bnd (ret p0) fun x5 => ret x5.2) fun x7 => bnd (bnd (ret p1) fun x6 => ret x6.2) fun x8 => lft (if mulOk x7 x8 then some (x7 * x8) else none)) fun x10 => m_fraction x9 x10) fun x11 => ret x11
theorem r_times (n : Nat) (hn : 2 ≤ n) (p0 : (Int × Int)) (p1 : (Int × Int)) : RF (Dv.run Ps G0 n) (Str.ofString "times") [(eP2 PyData.int PyData.int) p0, (eP2 PyData.int PyData.int) p1] (m_times p0 p1) (eP2 PyData.int PyData.int) false := by
  obtain ⟨n, rfl⟩ : ∃ j, n = j + 1 := ⟨n - 1, by omega⟩
  exact RF_of (η := ([.frz ((eP2 PyData.int PyData.int) p0), .frz ((eP2 PyData.int PyData.int) p1)] : Dv.Env)) f_times (by rfl) rfl rfl (RS_ret (RT_of rfl (RE_call2 (RT_of rfl (RE_bin (ec := PyData.int) (RT_of rfl (RE_fst (f := fun x1 => x1.1) (eb := PyData.int) (RT_var (x := p0) (ea := (eP2 PyData.int PyData.int)) rfl) (fun _ _ => rfl))) (RT_of rfl (RE_fst (f := fun x2 => x2.1) (eb := PyData.int) (RT_var (x := p1) (ea := (eP2 PyData.int PyData.int)) rfl) (fun _ _ => rfl))) op_mul_i)) (RT_of rfl (RE_bin (ec := PyData.int) (RT_of rfl (RE_fst (f := fun x5 => x5.2) (eb := PyData.int) (RT_var (x := p0) (ea := (eP2 PyData.int PyData.int)) rfl) (fun _ _ => rfl))) (RT_of rfl (RE_fst (f := fun x6 => x6.2) (eb := PyData.int) (RT_var (x := p1) (ea := (eP2 PyData.int PyData.int)) rfl) (fun _ _ => rfl))) op_mul_i)) (fun x9 x10 => r_fraction n (by omega) x9 x10) (.inl rfl))) (fun _ _ hS => outD_rt hS nwf))
-- rows_of(sizes)
def m_rows_of (p0 : (List Int)) : ND (List (List Int)) :=
  bnd (bnd (ret []) fun x1 => bnd (ret []) fun l2 => ret (x1 :: l2)) fun v3 => bnd (ret p0) fun x5 => bnd (fd (fun (s6 : (List (List Int))) (a4 : Int) => bnd (bnd (ret s6) fun x19 => bnd (fl (fun a20 => bnd (bnd (ret a4) fun x23 => lft (rngO x23)) fun x21 => mp (fun b22 => bnd (ret a20) fun x26 => bnd (bnd (ret b22) fun x24 => bnd (ret []) fun l25 => ret (x24 :: l25)) fun x27 => lft (if lineD (List.length x26 + List.length x27) then some (x26 ++ x27) else none)) x21) x19) fun l28 => lft (if lineD (List.length l28) then some l28 else none)) fun v29 => ret v29) v3 x5) fun (s30 : (List (List Int))) => bnd (bnd (ret s30) fun x32 => lft (some x32)) fun x33 => ret x33
theorem r_rows_of (n : Nat) (hn : 1 ≤ n) (p0 : (List Int)) : RF (Dv.run Ps G0 n) (Str.ofString "rows_of") [(eT PyData.int) p0] (m_rows_of p0) (eT (eT PyData.int)) false := by
  obtain ⟨n, rfl⟩ : ∃ j, n = j + 1 := ⟨n - 1, by omega⟩
  exact RF_of (η := ([.frz ((eT PyData.int) p0), .no, .no, .no, .no] : Dv.Env)) f_rows_of (by rfl) rfl rfl (RS_set (η' := fun v3 => ([.frz ((eT PyData.int) p0), .own ((eL (eT PyData.int)) v3), .no, .no, .no] : Dv.Env)) (RE_lst (by decide) (RL_cons (RE_tupT (by decide) (RL_nil (ea := PyData.int))) (RL_nil (ea := (eT PyData.int))))) (Nat.le_of_ble_eq_true rfl) (fun _ => rfl) (fun v3 => RS_for (I := fun (s6 : (List (List Int))) η => ∃ j7 : Sl, η = ([.frz ((eT PyData.int) p0), .own ((eL (eT PyData.int)) s6), j7, .no, .no] : Dv.Env)) (RT_var (x := p0) (ea := (eT PyData.int)) rfl) its_T (clE_own _ _) ⟨_, rfl⟩ (fun s6 a4 η' hI => by obtain ⟨j7, rfl⟩ := hI; exact ⟨([.frz ((eT PyData.int) p0), .own ((eL (eT PyData.int)) s6), .frz (PyData.int a4), .no, .no] : Dv.Env), rfl, RS_set (η' := fun v29 => ([.frz ((eT PyData.int) p0), .own ((eL (eT PyData.int)) v29), .frz (PyData.int a4), .no, .no] : Dv.Env)) (RE_lc2 (ηf := fun a20 => ([.frz ((eT PyData.int) p0), .own ((eL (eT PyData.int)) s6), .frz (PyData.int a4), .frz ((eT PyData.int) a20), .no] : Dv.Env)) (ηg := fun a20 b22 => ([.frz ((eT PyData.int) p0), .own ((eL (eT PyData.int)) s6), .frz (PyData.int a4), .frz ((eT PyData.int) a20), .frz (PyData.int b22)] : Dv.Env)) (RT_var (x := s6) (ea := (eL (eT PyData.int))) rfl) its_L (fun _ => rfl) (fun _ => rfl) (fun a20 => (RT_of rfl (RE_rng1 (RE_var (x := a4) (ea := PyData.int) rfl)))) its_L (fun _ _ => rfl) (fun a20 b22 => (RE_bin (ec := (eT PyData.int)) (RT_var (x := a20) (ea := (eT PyData.int)) rfl) (RT_of rfl (RE_tupT (by decide) (RL_cons (RE_var (x := b22) (ea := PyData.int) rfl) (RL_nil (ea := PyData.int))))) op_addT))) (Nat.le_of_ble_eq_true rfl) (fun _ => rfl) (fun v29 => RS_nil (fun _ hS => outL_nx hS ⟨_, rfl⟩))⟩) (fun s30 η' hI => by obtain ⟨j31, rfl⟩ := hI; exact (RS_ret (RT_of rfl (RE_blt1 (eb := (eT (eT PyData.int))) (RT_var (x := s30) (ea := (eL (eT PyData.int))) rfl) op_tupL)) (fun _ _ hS => outD_rt hS nwf)))))
-- place_of(sizes, row)
def m_place_of (p0 : (List Int)) (p1 : (List Int)) : ND Int :=
  bnd (ret (0 : Int)) fun v1 => bnd (bnd (ret p0) fun x2 => bnd (ret p1) fun x3 => ret (List.zip x2 x3)) fun x5 => bnd (fd (fun (s6 : Int) (a4 : (Int × Int)) => bnd (bnd (bnd (ret s6) fun x14 => bnd (ret a4.1) fun x15 => lft (if mulOk x14 x15 then some (x14 * x15) else none)) fun x16 => bnd (ret a4.2) fun x17 => lft (some (x16 + x17))) fun v18 => ret v18) v1 x5) fun (s19 : Int) => bnd (ret s19) fun x22 => ret x22
theorem r_place_of (n : Nat) (hn : 1 ≤ n) (p0 : (List Int)) (p1 : (List Int)) : RF (Dv.run Ps G0 n) (Str.ofString "place_of") [(eL PyData.int) p0, (eL PyData.int) p1] (m_place_of p0 p1) PyData.int false := by
  obtain ⟨n, rfl⟩ : ∃ j, n = j + 1 := ⟨n - 1, by omega⟩
  exact RF_of (η := ([.frz ((eL PyData.int) p0), .frz ((eL PyData.int) p1), .no, .no, .no] : Dv.Env)) f_place_of (by rfl) rfl rfl (RS_set (η' := fun v1 => ([.frz ((eL PyData.int) p0), .frz ((eL PyData.int) p1), .frz (PyData.int v1), .no, .no] : Dv.Env)) (RE_con (x := (0 : Int)) (ea := PyData.int) rfl) (Nat.le_of_ble_eq_true rfl) (fun _ => rfl) (fun v1 => RS_for (I := fun (s6 : Int) η => ∃ j7 j8 : Sl, η = ([.frz ((eL PyData.int) p0), .frz ((eL PyData.int) p1), .frz (PyData.int s6), j7, j8] : Dv.Env)) (RT_of rfl (RE_zipL (RT_var (x := p0) (ea := (eL PyData.int)) rfl) (RT_var (x := p1) (ea := (eL PyData.int)) rfl))) its_L rfl ⟨_, _, rfl⟩ (fun s6 a4 η' hI => by obtain ⟨j7, j8, rfl⟩ := hI; exact ⟨([.frz ((eL PyData.int) p0), .frz ((eL PyData.int) p1), .frz (PyData.int s6), .frz (PyData.int a4.1), .frz (PyData.int a4.2)] : Dv.Env), rfl, RS_set (η' := fun v18 => ([.frz ((eL PyData.int) p0), .frz ((eL PyData.int) p1), .frz (PyData.int v18), .frz (PyData.int a4.1), .frz (PyData.int a4.2)] : Dv.Env)) (RE_bin (ec := PyData.int) (RT_of rfl (RE_bin (ec := PyData.int) (RT_var (x := s6) (ea := PyData.int) rfl) (RT_var (x := a4.1) (ea := PyData.int) rfl) op_mul_i)) (RT_var (x := a4.2) (ea := PyData.int) rfl) op_add_i) (Nat.le_of_ble_eq_true rfl) (fun _ => rfl) (fun v18 => RS_nil (fun _ hS => outL_nx hS ⟨_, _, rfl⟩))⟩) (fun s19 η' hI => by obtain ⟨j20, j21, rfl⟩ := hI; exact (RS_ret (RT_var (x := s19) (ea := PyData.int) rfl) (fun _ _ hS => outD_rt hS nwf)))))
-- values(functions, deed)
def m_values (p0 : ((List Int) × (List ((List Int) × (List Int))))) (p1 : (List (Int × Int))) : ND (List Int) :=
  bnd (ret p0) fun v1 => bnd (bnd (ret p1) fun x2 => lft (some x2)) fun v3 => bnd (ret []) fun v4 => bnd (bnd (ret v1.2) fun x5 => ret (enumI x5)) fun x7 => bnd (fd (fun (s8 : (List Int)) (a6 : (Int × ((List Int) × (List Int)))) => bnd (bnd (ret a6.1) fun x39 => bnd (ret v3) fun x40 => lft (some (look x40 x39).isSome)) fun c41 => if c41 then bnd (bnd (bnd (ret v3) fun x42 => bnd (ret a6.1) fun x43 => lft (look x42 x43)) fun x44 => bnd (ret []) fun l45 => ret (x44 :: l45)) fun x46 => bnd (lft (if lineD (List.length s8 + List.length x46) then some (s8 ++ x46) else none)) fun v47 => ret v47 else bnd (bnd (bnd (ret a6.2.2) fun x59 => bnd (bnd (bnd (ret a6.2.1) fun x49 => mp (fun a50 => bnd (ret v1.1) fun x51 => bnd (ret a50) fun x52 => lft (L2.atI x51 x52)) x49) fun x57 => bnd (bnd (ret a6.2.1) fun x53 => mp (fun a54 => bnd (ret s8) fun x55 => bnd (ret a54) fun x56 => lft (L2.atI x55 x56)) x53) fun x58 => m_place_of x57 x58) fun x60 => lft (L2.atI x59 x60)) fun x61 => bnd (ret []) fun l62 => ret (x61 :: l62)) fun x63 => bnd (lft (if lineD (List.length s8 + List.length x63) then some (s8 ++ x63) else none)) fun v64 => ret v64) v4 x7) fun (s66 : (List Int)) => bnd (ret s66) fun x70 => ret x70
theorem r_values (n : Nat) (hn : 2 ≤ n) (p0 : ((List Int) × (List ((List Int) × (List Int))))) (p1 : (List (Int × Int))) : RF (Dv.run Ps G0 n) (Str.ofString "values") [(eP2 (eT PyData.int) (eT (eP2 (eT PyData.int) (eT PyData.int)))) p0, (eT (eP2 PyData.int PyData.int)) p1] (m_values p0 p1) (eT PyData.int) false := by
  obtain ⟨n, rfl⟩ : ∃ j, n = j + 1 := ⟨n - 1, by omega⟩
  exact RF_of (η := ([.frz ((eP2 (eT PyData.int) (eT (eP2 (eT PyData.int) (eT PyData.int)))) p0), .frz ((eT (eP2 PyData.int PyData.int)) p1), .no, .no, .no, .no, .no, .no, .no, .no] : Dv.Env)) f_values (by rfl) rfl rfl (RS_unp (η' := fun v1 => ([.frz ((eP2 (eT PyData.int) (eT (eP2 (eT PyData.int) (eT PyData.int)))) p0), .frz ((eT (eP2 PyData.int PyData.int)) p1), .frz ((eT PyData.int) v1.1), .frz ((eT (eP2 (eT PyData.int) (eT PyData.int))) v1.2), .no, .no, .no, .no, .no, .no] : Dv.Env)) (RE_var (x := p0) (ea := (eP2 (eT PyData.int) (eT (eP2 (eT PyData.int) (eT PyData.int))))) rfl) (fun _ => rfl) (fun v1 => RS_set (η' := fun v3 => ([.frz ((eP2 (eT PyData.int) (eT (eP2 (eT PyData.int) (eT PyData.int)))) p0), .frz ((eT (eP2 PyData.int PyData.int)) p1), .frz ((eT PyData.int) v1.1), .frz ((eT (eP2 (eT PyData.int) (eT PyData.int))) v1.2), .own ((eM PyData.int) v3), .no, .no, .no, .no, .no] : Dv.Env)) (RE_blt1 (eb := (eM PyData.int)) (RT_var (x := p1) (ea := (eT (eP2 PyData.int PyData.int))) rfl) op_dictT) (Nat.le_of_ble_eq_true rfl) (fun _ => rfl) (fun v3 => RS_set (η' := fun v4 => ([.frz ((eP2 (eT PyData.int) (eT (eP2 (eT PyData.int) (eT PyData.int)))) p0), .frz ((eT (eP2 PyData.int PyData.int)) p1), .frz ((eT PyData.int) v1.1), .frz ((eT (eP2 (eT PyData.int) (eT PyData.int))) v1.2), .own ((eM PyData.int) v3), .frz ((eT PyData.int) v4), .no, .no, .no, .no] : Dv.Env)) (RE_tupT (by decide) (RL_nil (ea := PyData.int))) (Nat.le_of_ble_eq_true rfl) (fun _ => rfl) (fun v4 => RS_for (I := fun (s8 : (List Int)) η => ∃ j9 j10 j11 : Sl, η = ([.frz ((eP2 (eT PyData.int) (eT (eP2 (eT PyData.int) (eT PyData.int)))) p0), .frz ((eT (eP2 PyData.int PyData.int)) p1), .frz ((eT PyData.int) v1.1), .frz ((eT (eP2 (eT PyData.int) (eT PyData.int))) v1.2), .own ((eM PyData.int) v3), .frz ((eT PyData.int) s8), j9, j10, j11, .no] : Dv.Env)) (RT_of rfl (RE_enum (RT_var (x := v1.2) (ea := (eT (eP2 (eT PyData.int) (eT PyData.int)))) rfl) its_T)) its_L rfl ⟨_, _, _, rfl⟩ (fun s8 a6 η' hI => by obtain ⟨j9, j10, j11, rfl⟩ := hI; exact ⟨([.frz ((eP2 (eT PyData.int) (eT (eP2 (eT PyData.int) (eT PyData.int)))) p0), .frz ((eT (eP2 PyData.int PyData.int)) p1), .frz ((eT PyData.int) v1.1), .frz ((eT (eP2 (eT PyData.int) (eT PyData.int))) v1.2), .own ((eM PyData.int) v3), .frz ((eT PyData.int) s8), .frz (PyData.int a6.1), .frz ((eT PyData.int) a6.2.1), .frz ((eT PyData.int) a6.2.2), .no] : Dv.Env), rfl, RS_ife (RC_ce rfl (RCE_bool (RE_cmp (RT_var (x := a6.1) (ea := PyData.int) rfl) (RT_var (x := v3) (ea := (eM PyData.int)) rfl) op_inM))) (RS_aug (x := s8) (eb := (eT PyData.int)) (ec := (eT PyData.int)) (f := fun w48 x46 => if lineD (List.length w48 + List.length x46) then some (w48 ++ x46) else none) (η' := fun v47 => ([.frz ((eP2 (eT PyData.int) (eT (eP2 (eT PyData.int) (eT PyData.int)))) p0), .frz ((eT (eP2 PyData.int PyData.int)) p1), .frz ((eT PyData.int) v1.1), .frz ((eT (eP2 (eT PyData.int) (eT PyData.int))) v1.2), .own ((eM PyData.int) v3), .frz ((eT PyData.int) v47), .frz (PyData.int a6.1), .frz ((eT PyData.int) a6.2.1), .frz ((eT PyData.int) a6.2.2), .no] : Dv.Env)) rfl (RE_tupT (by decide) (RL_cons (RE_idx (ec := PyData.int) (RT_var (x := v3) (ea := (eM PyData.int)) rfl) (RE_var (x := a6.1) (ea := PyData.int) rfl) op_idxM) (RL_nil (ea := PyData.int)))) au_addT (Nat.le_of_ble_eq_true rfl) (fun _ => rfl) (fun v47 => RS_nil (fun _ hS => outL_nx hS ⟨_, _, _, rfl⟩))) (RS_aug (x := s8) (eb := (eT PyData.int)) (ec := (eT PyData.int)) (f := fun w65 x63 => if lineD (List.length w65 + List.length x63) then some (w65 ++ x63) else none) (η' := fun v64 => ([.frz ((eP2 (eT PyData.int) (eT (eP2 (eT PyData.int) (eT PyData.int)))) p0), .frz ((eT (eP2 PyData.int PyData.int)) p1), .frz ((eT PyData.int) v1.1), .frz ((eT (eP2 (eT PyData.int) (eT PyData.int))) v1.2), .own ((eM PyData.int) v3), .frz ((eT PyData.int) v64), .frz (PyData.int a6.1), .frz ((eT PyData.int) a6.2.1), .frz ((eT PyData.int) a6.2.2), .no] : Dv.Env)) rfl (RE_tupT (by decide) (RL_cons (RE_idx (ec := PyData.int) (RT_var (x := a6.2.2) (ea := (eT PyData.int)) rfl) (RE_call2 (RT_of rfl (RE_lc (ηf := fun a50 => ([.frz ((eP2 (eT PyData.int) (eT (eP2 (eT PyData.int) (eT PyData.int)))) p0), .frz ((eT (eP2 PyData.int PyData.int)) p1), .frz ((eT PyData.int) v1.1), .frz ((eT (eP2 (eT PyData.int) (eT PyData.int))) v1.2), .own ((eM PyData.int) v3), .frz ((eT PyData.int) s8), .frz (PyData.int a6.1), .frz ((eT PyData.int) a6.2.1), .frz ((eT PyData.int) a6.2.2), .frz (PyData.int a50)] : Dv.Env)) (RT_var (x := a6.2.1) (ea := (eT PyData.int)) rfl) its_T (fun _ => rfl) (fun a50 => (RE_idx (ec := PyData.int) (RT_var (x := v1.1) (ea := (eT PyData.int)) rfl) (RE_var (x := a50) (ea := PyData.int) rfl) op_idxT)))) (RT_of rfl (RE_lc (ηf := fun a54 => ([.frz ((eP2 (eT PyData.int) (eT (eP2 (eT PyData.int) (eT PyData.int)))) p0), .frz ((eT (eP2 PyData.int PyData.int)) p1), .frz ((eT PyData.int) v1.1), .frz ((eT (eP2 (eT PyData.int) (eT PyData.int))) v1.2), .own ((eM PyData.int) v3), .frz ((eT PyData.int) s8), .frz (PyData.int a6.1), .frz ((eT PyData.int) a6.2.1), .frz ((eT PyData.int) a6.2.2), .frz (PyData.int a54)] : Dv.Env)) (RT_var (x := a6.2.1) (ea := (eT PyData.int)) rfl) its_T (fun _ => rfl) (fun a54 => (RE_idx (ec := PyData.int) (RT_var (x := s8) (ea := (eT PyData.int)) rfl) (RE_var (x := a54) (ea := PyData.int) rfl) op_idxT)))) (fun x57 x58 => r_place_of n (by omega) x57 x58) (.inl rfl)) op_idxT) (RL_nil (ea := PyData.int)))) au_addT (Nat.le_of_ble_eq_true rfl) (fun _ => rfl) (fun v64 => RS_nil (fun _ hS => outL_nx hS ⟨_, _, _, rfl⟩)))⟩) (fun s66 η' hI => by obtain ⟨j67, j68, j69, rfl⟩ := hI; exact (RS_ret (RT_var (x := s66) (ea := (eT PyData.int)) rfl) (fun _ _ hS => outD_rt hS nwf)))))))
-- subsets(nodes)
def m_subsets (p0 : (List Int)) : ND (List (List Int)) :=
  bnd (bnd (ret []) fun x1 => bnd (ret []) fun l2 => ret (x1 :: l2)) fun v3 => bnd (ret p0) fun x5 => bnd (fd (fun (s6 : (List (List Int))) (a4 : Int) => bnd (bnd (ret s6) fun x23 => bnd (bnd (ret s6) fun x17 => mp (fun a18 => bnd (ret a18) fun x21 => bnd (bnd (ret a4) fun x19 => bnd (ret []) fun l20 => ret (x19 :: l20)) fun x22 => lft (if lineD (List.length x21 + List.length x22) then some (x21 ++ x22) else none)) x17) fun x24 => lft (if lineD (List.length x23 + List.length x24) then some (x23 ++ x24) else none)) fun v25 => ret v25) v3 x5) fun (s26 : (List (List Int))) => bnd (bnd (ret s26) fun x28 => lft (some (sortE (eT PyData.int) x28))) fun x29 => ret x29
theorem r_subsets (n : Nat) (hn : 1 ≤ n) (p0 : (List Int)) : RF (Dv.run Ps G0 n) (Str.ofString "subsets") [(eT PyData.int) p0] (m_subsets p0) (eL (eT PyData.int)) true := by
  obtain ⟨n, rfl⟩ : ∃ j, n = j + 1 := ⟨n - 1, by omega⟩
  exact RF_of (η := ([.frz ((eT PyData.int) p0), .no, .no, .no] : Dv.Env)) f_subsets (by rfl) rfl rfl (RS_set (η' := fun v3 => ([.frz ((eT PyData.int) p0), .own ((eL (eT PyData.int)) v3), .no, .no] : Dv.Env)) (RE_lst (by decide) (RL_cons (RE_tupT (by decide) (RL_nil (ea := PyData.int))) (RL_nil (ea := (eT PyData.int))))) (Nat.le_of_ble_eq_true rfl) (fun _ => rfl) (fun v3 => RS_for (I := fun (s6 : (List (List Int))) η => ∃ j7 : Sl, η = ([.frz ((eT PyData.int) p0), .own ((eL (eT PyData.int)) s6), j7, .no] : Dv.Env)) (RT_var (x := p0) (ea := (eT PyData.int)) rfl) its_T (clE_own _ _) ⟨_, rfl⟩ (fun s6 a4 η' hI => by obtain ⟨j7, rfl⟩ := hI; exact ⟨([.frz ((eT PyData.int) p0), .own ((eL (eT PyData.int)) s6), .frz (PyData.int a4), .no] : Dv.Env), rfl, RS_set (η' := fun v25 => ([.frz ((eT PyData.int) p0), .own ((eL (eT PyData.int)) v25), .frz (PyData.int a4), .no] : Dv.Env)) (RE_bin (ec := (eL (eT PyData.int))) (RT_var (x := s6) (ea := (eL (eT PyData.int))) rfl) (RT_of rfl (RE_lc (ηf := fun a18 => ([.frz ((eT PyData.int) p0), .own ((eL (eT PyData.int)) s6), .frz (PyData.int a4), .frz ((eT PyData.int) a18)] : Dv.Env)) (RT_var (x := s6) (ea := (eL (eT PyData.int))) rfl) its_L (fun _ => rfl) (fun a18 => (RE_bin (ec := (eT PyData.int)) (RT_var (x := a18) (ea := (eT PyData.int)) rfl) (RT_of rfl (RE_tupT (by decide) (RL_cons (RE_var (x := a4) (ea := PyData.int) rfl) (RL_nil (ea := PyData.int))))) op_addT)))) op_addL) (Nat.le_of_ble_eq_true rfl) (fun _ => rfl) (fun v25 => RS_nil (fun _ hS => outL_nx hS ⟨_, rfl⟩))⟩) (fun s26 η' hI => by obtain ⟨j27, rfl⟩ := hI; exact (RS_ret (RT_of rfl (RE_blt1 (eb := (eL (eT PyData.int))) (RT_var (x := s26) (ea := (eL (eT PyData.int))) rfl) (op_srtL (srt_of (dat_T dat_int) (by decide) (alk_T alk_int) (fun _ => rfl))))) (fun _ _ hS => outD_rt hS (fun _ => rfl))))))
-- subsets@P(nodes)
def m_subsets_P (p0 : (List (Int × Int))) : ND (List (List (Int × Int))) :=
  bnd (bnd (ret []) fun x1 => bnd (ret []) fun l2 => ret (x1 :: l2)) fun v3 => bnd (ret p0) fun x5 => bnd (fd (fun (s6 : (List (List (Int × Int)))) (a4 : (Int × Int)) => bnd (bnd (ret s6) fun x23 => bnd (bnd (ret s6) fun x17 => mp (fun a18 => bnd (ret a18) fun x21 => bnd (bnd (ret a4) fun x19 => bnd (ret []) fun l20 => ret (x19 :: l20)) fun x22 => lft (if lineD (List.length x21 + List.length x22) then some (x21 ++ x22) else none)) x17) fun x24 => lft (if lineD (List.length x23 + List.length x24) then some (x23 ++ x24) else none)) fun v25 => ret v25) v3 x5) fun (s26 : (List (List (Int × Int)))) => bnd (bnd (ret s26) fun x28 => lft (some (sortE (eT (eP2 PyData.int PyData.int)) x28))) fun x29 => ret x29
theorem r_subsets_P (n : Nat) (hn : 1 ≤ n) (p0 : (List (Int × Int))) : RF (Dv.run Ps G0 n) (Str.ofString "subsets") [(eT (eP2 PyData.int PyData.int)) p0] (m_subsets_P p0) (eL (eT (eP2 PyData.int PyData.int))) true := by
  obtain ⟨n, rfl⟩ : ∃ j, n = j + 1 := ⟨n - 1, by omega⟩
  exact RF_of (η := ([.frz ((eT (eP2 PyData.int PyData.int)) p0), .no, .no, .no] : Dv.Env)) f_subsets (by rfl) rfl rfl (RS_set (η' := fun v3 => ([.frz ((eT (eP2 PyData.int PyData.int)) p0), .own ((eL (eT (eP2 PyData.int PyData.int))) v3), .no, .no] : Dv.Env)) (RE_lst (by decide) (RL_cons (RE_tupT (by decide) (RL_nil (ea := (eP2 PyData.int PyData.int)))) (RL_nil (ea := (eT (eP2 PyData.int PyData.int)))))) (Nat.le_of_ble_eq_true rfl) (fun _ => rfl) (fun v3 => RS_for (I := fun (s6 : (List (List (Int × Int)))) η => ∃ j7 : Sl, η = ([.frz ((eT (eP2 PyData.int PyData.int)) p0), .own ((eL (eT (eP2 PyData.int PyData.int))) s6), j7, .no] : Dv.Env)) (RT_var (x := p0) (ea := (eT (eP2 PyData.int PyData.int))) rfl) its_T (clE_own _ _) ⟨_, rfl⟩ (fun s6 a4 η' hI => by obtain ⟨j7, rfl⟩ := hI; exact ⟨([.frz ((eT (eP2 PyData.int PyData.int)) p0), .own ((eL (eT (eP2 PyData.int PyData.int))) s6), .frz ((eP2 PyData.int PyData.int) a4), .no] : Dv.Env), rfl, RS_set (η' := fun v25 => ([.frz ((eT (eP2 PyData.int PyData.int)) p0), .own ((eL (eT (eP2 PyData.int PyData.int))) v25), .frz ((eP2 PyData.int PyData.int) a4), .no] : Dv.Env)) (RE_bin (ec := (eL (eT (eP2 PyData.int PyData.int)))) (RT_var (x := s6) (ea := (eL (eT (eP2 PyData.int PyData.int)))) rfl) (RT_of rfl (RE_lc (ηf := fun a18 => ([.frz ((eT (eP2 PyData.int PyData.int)) p0), .own ((eL (eT (eP2 PyData.int PyData.int))) s6), .frz ((eP2 PyData.int PyData.int) a4), .frz ((eT (eP2 PyData.int PyData.int)) a18)] : Dv.Env)) (RT_var (x := s6) (ea := (eL (eT (eP2 PyData.int PyData.int)))) rfl) its_L (fun _ => rfl) (fun a18 => (RE_bin (ec := (eT (eP2 PyData.int PyData.int))) (RT_var (x := a18) (ea := (eT (eP2 PyData.int PyData.int))) rfl) (RT_of rfl (RE_tupT (by decide) (RL_cons (RE_var (x := a4) (ea := (eP2 PyData.int PyData.int)) rfl) (RL_nil (ea := (eP2 PyData.int PyData.int)))))) op_addT)))) op_addL) (Nat.le_of_ble_eq_true rfl) (fun _ => rfl) (fun v25 => RS_nil (fun _ hS => outL_nx hS ⟨_, rfl⟩))⟩) (fun s26 η' hI => by obtain ⟨j27, rfl⟩ := hI; exact (RS_ret (RT_of rfl (RE_blt1 (eb := (eL (eT (eP2 PyData.int PyData.int)))) (RT_var (x := s26) (ea := (eL (eT (eP2 PyData.int PyData.int)))) rfl) (op_srtL (srt_of (dat_T (dat_P2 dat_int dat_int)) (by decide) (alk_T (alk_P2 alk_int alk_int)) (fun _ => rfl))))) (fun _ _ hS => outD_rt hS (fun _ => rfl))))))
-- holds(row, event)
def m_holds (p0 : (List Int)) (p1 : (List (Int × Int))) : ND Bool :=
  bnd (bnd (bnd (ret p1) fun x1 => mp (fun a2 => bnd (bnd (ret p0) fun x3 => bnd (ret a2.1) fun x4 => lft (L2.atI x3 x4)) fun x5 => bnd (ret a2.2) fun x6 => lft (some (decide (x5 = x6)))) x1) fun x7 => lft (some (List.all x7 id))) fun x8 => ret x8
theorem r_holds (n : Nat) (hn : 1 ≤ n) (p0 : (List Int)) (p1 : (List (Int × Int))) : RF (Dv.run Ps G0 n) (Str.ofString "holds") [(eT PyData.int) p0, (eT (eP2 PyData.int PyData.int)) p1] (m_holds p0 p1) PyData.bool false := by
  obtain ⟨n, rfl⟩ : ∃ j, n = j + 1 := ⟨n - 1, by omega⟩
  exact RF_of (η := ([.frz ((eT PyData.int) p0), .frz ((eT (eP2 PyData.int PyData.int)) p1), .no, .no] : Dv.Env)) f_holds (by rfl) rfl rfl (RS_ret (RT_of rfl (RE_blt1 (eb := PyData.bool) (RT_of rfl (RE_lc (ηf := fun a2 => ([.frz ((eT PyData.int) p0), .frz ((eT (eP2 PyData.int PyData.int)) p1), .frz (PyData.int a2.1), .frz (PyData.int a2.2)] : Dv.Env)) (RT_var (x := p1) (ea := (eT (eP2 PyData.int PyData.int))) rfl) its_T (fun _ => rfl) (fun a2 => (RE_cmp (RT_of rfl (RE_idx (ec := PyData.int) (RT_var (x := p0) (ea := (eT PyData.int)) rfl) (RE_var (x := a2.1) (ea := PyData.int) rfl) op_idxT)) (RT_var (x := a2.2) (ea := PyData.int) rfl) op_eq_i)))) op_all)) (fun _ _ hS => outD_rt hS nwf))
-- setting(variables, row)
def m_setting (p0 : (List Int)) (p1 : (List Int)) : ND (List (Int × Int)) :=
  bnd (bnd (ret p0) fun x1 => bnd (ret p1) fun x2 => lft (some (List.zip x1 x2))) fun x3 => ret x3
theorem r_setting (n : Nat) (hn : 1 ≤ n) (p0 : (List Int)) (p1 : (List Int)) : RF (Dv.run Ps G0 n) (Str.ofString "setting") [(eT PyData.int) p0, (eT PyData.int) p1] (m_setting p0 p1) (eT (eP2 PyData.int PyData.int)) false := by
  obtain ⟨n, rfl⟩ : ∃ j, n = j + 1 := ⟨n - 1, by omega⟩
  exact RF_of (η := ([.frz ((eT PyData.int) p0), .frz ((eT PyData.int) p1)] : Dv.Env)) f_setting (by rfl) rfl rfl (RS_ret (RT_of rfl (RE_blt2 (ec := (eT (eP2 PyData.int PyData.int))) (RT_var (x := p0) (ea := (eT PyData.int)) rfl) (RT_var (x := p1) (ea := (eT PyData.int)) rfl) op_tzip)) (fun _ _ hS => outD_rt hS nwf))
-- together(settings)
def m_together (p0 : (List (List (Int × Int)))) : ND (List (Int × Int)) :=
  bnd (ret []) fun v1 => bnd (ret p0) fun x3 => bnd (fd (fun (s4 : (List (Int × Int))) (a2 : (List (Int × Int))) => bnd (ret a2) fun x8 => bnd (lft (if lineD (List.length s4 + List.length x8) then some (s4 ++ x8) else none)) fun v9 => ret v9) v1 x3) fun (s10 : (List (Int × Int))) => bnd (bnd (bnd (ret s10) fun x12 => lft (some (sortE (eP2 PyData.int PyData.int) x12))) fun x13 => lft (some x13)) fun x14 => ret x14
theorem r_together (n : Nat) (hn : 1 ≤ n) (p0 : (List (List (Int × Int)))) : RF (Dv.run Ps G0 n) (Str.ofString "together") [(eL (eT (eP2 PyData.int PyData.int))) p0] (m_together p0) (eT (eP2 PyData.int PyData.int)) false := by
  obtain ⟨n, rfl⟩ : ∃ j, n = j + 1 := ⟨n - 1, by omega⟩
  exact RF_of (η := ([.frz ((eL (eT (eP2 PyData.int PyData.int))) p0), .no, .no] : Dv.Env)) f_together (by rfl) rfl rfl (RS_set (η' := fun v1 => ([.frz ((eL (eT (eP2 PyData.int PyData.int))) p0), .own ((eL (eP2 PyData.int PyData.int)) v1), .no] : Dv.Env)) (RE_lst (by decide) (RL_nil (ea := (eP2 PyData.int PyData.int)))) (Nat.le_of_ble_eq_true rfl) (fun _ => rfl) (fun v1 => RS_for (I := fun (s4 : (List (Int × Int))) η => ∃ j5 : Sl, η = ([.frz ((eL (eT (eP2 PyData.int PyData.int))) p0), .own ((eL (eP2 PyData.int PyData.int)) s4), j5] : Dv.Env)) (RT_var (x := p0) (ea := (eL (eT (eP2 PyData.int PyData.int)))) rfl) its_L (clE_own _ _) ⟨_, rfl⟩ (fun s4 a2 η' hI => by obtain ⟨j5, rfl⟩ := hI; exact ⟨([.frz ((eL (eT (eP2 PyData.int PyData.int))) p0), .own ((eL (eP2 PyData.int PyData.int)) s4), .frz ((eT (eP2 PyData.int PyData.int)) a2)] : Dv.Env), rfl, RS_ext (l := s4) (ea := (eP2 PyData.int PyData.int)) (η' := fun v9 => ([.frz ((eL (eT (eP2 PyData.int PyData.int))) p0), .own ((eL (eP2 PyData.int PyData.int)) v9), .frz ((eT (eP2 PyData.int PyData.int)) a2)] : Dv.Env)) rfl (RT_var (x := a2) (ea := (eT (eP2 PyData.int PyData.int))) rfl) its_T (fun _ => rfl) (fun v9 => RS_nil (fun _ hS => outL_nx hS ⟨_, rfl⟩))⟩) (fun s10 η' hI => by obtain ⟨j11, rfl⟩ := hI; exact (RS_ret (RT_of rfl (RE_blt1 (eb := (eT (eP2 PyData.int PyData.int))) (RT_of rfl (RE_blt1 (eb := (eL (eP2 PyData.int PyData.int))) (RT_var (x := s10) (ea := (eL (eP2 PyData.int PyData.int))) rfl) (op_srtL (srt_of (dat_P2 dat_int dat_int) (by decide) (alk_P2 alk_int alk_int) (fun _ => rfl))))) op_tupL)) (fun _ _ hS => outD_rt hS nwf)))))
-- actual_of(functions, variables)
def m_actual_of (p0 : ((List Int) × (List ((List Int) × (List Int))))) (p1 : (List Int)) : ND (List (Int × Int)) :=
  bnd (bnd (ret p0) fun x1 => bnd (ret []) fun x2 => m_values x1 x2) fun v3 => bnd (bnd (bnd (ret p1) fun x4 => mp (fun a5 => bnd (ret a5) fun x8 => bnd (bnd (ret v3) fun x6 => bnd (ret a5) fun x7 => lft (L2.atI x6 x7)) fun x9 => ret (x8, x9)) x4) fun x10 => lft (some x10)) fun x11 => ret x11
theorem r_actual_of (n : Nat) (hn : 3 ≤ n) (p0 : ((List Int) × (List ((List Int) × (List Int))))) (p1 : (List Int)) : RF (Dv.run Ps G0 n) (Str.ofString "actual_of") [(eP2 (eT PyData.int) (eT (eP2 (eT PyData.int) (eT PyData.int)))) p0, (eT PyData.int) p1] (m_actual_of p0 p1) (eT (eP2 PyData.int PyData.int)) false := by
  obtain ⟨n, rfl⟩ : ∃ j, n = j + 1 := ⟨n - 1, by omega⟩
  exact RF_of (η := ([.frz ((eP2 (eT PyData.int) (eT (eP2 (eT PyData.int) (eT PyData.int)))) p0), .frz ((eT PyData.int) p1), .no, .no] : Dv.Env)) f_actual_of (by rfl) rfl rfl (RS_set (η' := fun v3 => ([.frz ((eP2 (eT PyData.int) (eT (eP2 (eT PyData.int) (eT PyData.int)))) p0), .frz ((eT PyData.int) p1), .frz ((eT PyData.int) v3), .no] : Dv.Env)) (RE_call2 (RT_var (x := p0) (ea := (eP2 (eT PyData.int) (eT (eP2 (eT PyData.int) (eT PyData.int))))) rfl) (RT_of rfl (RE_tupT (by decide) (RL_nil (ea := (eP2 PyData.int PyData.int))))) (fun x1 x2 => r_values n (by omega) x1 x2) (.inl rfl)) (Nat.le_of_ble_eq_true rfl) (fun _ => rfl) (fun v3 => RS_ret (RT_of rfl (RE_blt1 (eb := (eT (eP2 PyData.int PyData.int))) (RT_of rfl (RE_lc (ηf := fun a5 => ([.frz ((eP2 (eT PyData.int) (eT (eP2 (eT PyData.int) (eT PyData.int)))) p0), .frz ((eT PyData.int) p1), .frz ((eT PyData.int) v3), .frz (PyData.int a5)] : Dv.Env)) (RT_var (x := p1) (ea := (eT PyData.int)) rfl) its_T (fun _ => rfl) (fun a5 => (RE_tup2 (RE_var (x := a5) (ea := PyData.int) rfl) (RE_idx (ec := PyData.int) (RT_var (x := v3) (ea := (eT PyData.int)) rfl) (RE_var (x := a5) (ea := PyData.int) rfl) op_idxT))))) op_tupL)) (fun _ _ hS => outD_rt hS nwf)))
-- actual_of@L(functions, variables)
def m_actual_of_L (p0 : ((List Int) × (List ((List Int) × (List Int))))) (p1 : (List Int)) : ND (List (Int × Int)) :=
  bnd (bnd (ret p0) fun x1 => bnd (ret []) fun x2 => m_values x1 x2) fun v3 => bnd (bnd (bnd (ret p1) fun x4 => mp (fun a5 => bnd (ret a5) fun x8 => bnd (bnd (ret v3) fun x6 => bnd (ret a5) fun x7 => lft (L2.atI x6 x7)) fun x9 => ret (x8, x9)) x4) fun x10 => lft (some x10)) fun x11 => ret x11
theorem r_actual_of_L (n : Nat) (hn : 3 ≤ n) (p0 : ((List Int) × (List ((List Int) × (List Int))))) (p1 : (List Int)) : RF (Dv.run Ps G0 n) (Str.ofString "actual_of") [(eP2 (eT PyData.int) (eT (eP2 (eT PyData.int) (eT PyData.int)))) p0, (eL PyData.int) p1] (m_actual_of_L p0 p1) (eT (eP2 PyData.int PyData.int)) false := by
  obtain ⟨n, rfl⟩ : ∃ j, n = j + 1 := ⟨n - 1, by omega⟩
  exact RF_of (η := ([.frz ((eP2 (eT PyData.int) (eT (eP2 (eT PyData.int) (eT PyData.int)))) p0), .frz ((eL PyData.int) p1), .no, .no] : Dv.Env)) f_actual_of (by rfl) rfl rfl (RS_set (η' := fun v3 => ([.frz ((eP2 (eT PyData.int) (eT (eP2 (eT PyData.int) (eT PyData.int)))) p0), .frz ((eL PyData.int) p1), .frz ((eT PyData.int) v3), .no] : Dv.Env)) (RE_call2 (RT_var (x := p0) (ea := (eP2 (eT PyData.int) (eT (eP2 (eT PyData.int) (eT PyData.int))))) rfl) (RT_of rfl (RE_tupT (by decide) (RL_nil (ea := (eP2 PyData.int PyData.int))))) (fun x1 x2 => r_values n (by omega) x1 x2) (.inl rfl)) (Nat.le_of_ble_eq_true rfl) (fun _ => rfl) (fun v3 => RS_ret (RT_of rfl (RE_blt1 (eb := (eT (eP2 PyData.int PyData.int))) (RT_of rfl (RE_lc (ηf := fun a5 => ([.frz ((eP2 (eT PyData.int) (eT (eP2 (eT PyData.int) (eT PyData.int)))) p0), .frz ((eL PyData.int) p1), .frz ((eT PyData.int) v3), .frz (PyData.int a5)] : Dv.Env)) (RT_var (x := p1) (ea := (eL PyData.int)) rfl) its_L (fun _ => rfl) (fun a5 => (RE_tup2 (RE_var (x := a5) (ea := PyData.int) rfl) (RE_idx (ec := PyData.int) (RT_var (x := v3) (ea := (eT PyData.int)) rfl) (RE_var (x := a5) (ea := PyData.int) rfl) op_idxT))))) op_tupL)) (fun _ _ hS => outD_rt hS nwf)))
-- settings_of(functions, variables)
def m_settings_of (p0 : ((List Int) × (List ((List Int) × (List Int))))) (p1 : (List Int)) : ND (List (List (Int × Int))) :=
  bnd (bnd (bnd (bnd (bnd (ret p1) fun x1 => mp (fun a2 => bnd (bnd (ret p0) fun x3 => ret x3.1) fun x4 => bnd (ret a2) fun x5 => lft (L2.atI x4 x5)) x1) fun x6 => lft (some x6)) fun x7 => m_rows_of x7) fun x8 => mp (fun a9 => bnd (ret p1) fun x10 => bnd (ret a9) fun x11 => m_setting x10 x11) x8) fun x12 => ret x12
theorem r_settings_of (n : Nat) (hn : 2 ≤ n) (p0 : ((List Int) × (List ((List Int) × (List Int))))) (p1 : (List Int)) : RF (Dv.run Ps G0 n) (Str.ofString "settings_of") [(eP2 (eT PyData.int) (eT (eP2 (eT PyData.int) (eT PyData.int)))) p0, (eT PyData.int) p1] (m_settings_of p0 p1) (eL (eT (eP2 PyData.int PyData.int))) true := by
  obtain ⟨n, rfl⟩ : ∃ j, n = j + 1 := ⟨n - 1, by omega⟩
  exact RF_of (η := ([.frz ((eP2 (eT PyData.int) (eT (eP2 (eT PyData.int) (eT PyData.int)))) p0), .frz ((eT PyData.int) p1), .no, .no] : Dv.Env)) f_settings_of (by rfl) rfl rfl (RS_ret (RT_of rfl (RE_lc (ηf := fun a9 => ([.frz ((eP2 (eT PyData.int) (eT (eP2 (eT PyData.int) (eT PyData.int)))) p0), .frz ((eT PyData.int) p1), .frz ((eT PyData.int) a9), .no] : Dv.Env)) (RT_of rfl (RE_call1 (RT_of rfl (RE_blt1 (eb := (eT PyData.int)) (RT_of rfl (RE_lc (ηf := fun a2 => ([.frz ((eP2 (eT PyData.int) (eT (eP2 (eT PyData.int) (eT PyData.int)))) p0), .frz ((eT PyData.int) p1), .no, .frz (PyData.int a2)] : Dv.Env)) (RT_var (x := p1) (ea := (eT PyData.int)) rfl) its_T (fun _ => rfl) (fun a2 => (RE_idx (ec := PyData.int) (RT_of rfl (RE_fst (f := fun x3 => x3.1) (eb := (eT PyData.int)) (RT_var (x := p0) (ea := (eP2 (eT PyData.int) (eT (eP2 (eT PyData.int) (eT PyData.int))))) rfl) (fun _ _ => rfl))) (RE_var (x := a2) (ea := PyData.int) rfl) op_idxT)))) op_tupL)) (fun x7 => r_rows_of n (by omega) x7) (.inl rfl))) its_T (fun _ => rfl) (fun a9 => (RE_call2 (RT_var (x := p1) (ea := (eT PyData.int)) rfl) (RT_var (x := a9) (ea := (eT PyData.int)) rfl) (fun x10 x11 => r_setting n (by omega) x10 x11) (.inl rfl))))) (fun _ _ hS => outD_rt hS (fun _ => rfl)))
-- others_of(functions, xs)
def m_others_of (p0 : ((List Int) × (List ((List Int) × (List Int))))) (p1 : (List Int)) : ND (List Int) :=
  bnd (bnd (bnd (bnd (bnd (bnd (ret p0) fun x1 => ret x1.1) fun x2 => lft (some (List.length x2 : Int))) fun x3 => lft (rngO x3)) fun x4 => fm (fun a5 => bnd (ret a5) fun x6 => bnd (ret p1) fun x7 => lft (some (decide (x6 ∉ x7)))) (fun a5 => ret a5) x4) fun x8 => lft (some x8)) fun x9 => ret x9
theorem r_others_of (n : Nat) (hn : 1 ≤ n) (p0 : ((List Int) × (List ((List Int) × (List Int))))) (p1 : (List Int)) : RF (Dv.run Ps G0 n) (Str.ofString "others_of") [(eP2 (eT PyData.int) (eT (eP2 (eT PyData.int) (eT PyData.int)))) p0, (eT PyData.int) p1] (m_others_of p0 p1) (eT PyData.int) false := by
  obtain ⟨n, rfl⟩ : ∃ j, n = j + 1 := ⟨n - 1, by omega⟩
  exact RF_of (η := ([.frz ((eP2 (eT PyData.int) (eT (eP2 (eT PyData.int) (eT PyData.int)))) p0), .frz ((eT PyData.int) p1), .no] : Dv.Env)) f_others_of (by rfl) rfl rfl (RS_ret (RT_of rfl (RE_blt1 (eb := (eT PyData.int)) (RT_of rfl (RE_lcf (ηf := fun a5 => ([.frz ((eP2 (eT PyData.int) (eT (eP2 (eT PyData.int) (eT PyData.int)))) p0), .frz ((eT PyData.int) p1), .frz (PyData.int a5)] : Dv.Env)) (RT_of rfl (RE_rng1 (RE_blt1 (eb := PyData.int) (RT_of rfl (RE_fst (f := fun x1 => x1.1) (eb := (eT PyData.int)) (RT_var (x := p0) (ea := (eP2 (eT PyData.int) (eT (eP2 (eT PyData.int) (eT PyData.int))))) rfl) (fun _ _ => rfl))) op_lenT))) its_L (fun _ => rfl) (fun a5 => (RC_ce rfl (RCE_bool (RE_cmp (RT_var (x := a5) (ea := PyData.int) rfl) (RT_var (x := p1) (ea := (eT PyData.int)) rfl) (op_ninT dat_int (by decide) eqv_int))))) (fun a5 => (RE_var (x := a5) (ea := PyData.int) rfl)))) op_tupL)) (fun _ _ hS => outD_rt hS nwf))
-- stays_whole(functions, xs, event, held)
def m_stays_whole (p0 : ((List Int) × (List ((List Int) × (List Int))))) (p1 : (List Int)) (p2 : (List (Int × Int))) (p3 : (List (Int × Int))) : ND Bool :=
  bnd (bnd (ret p0) fun x1 => bnd (ret p1) fun x2 => m_actual_of x1 x2) fun v3 => bnd (bnd (ret p3) fun x4 => mp (fun a5 => ret a5.1) x4) fun v6 => bnd (bnd (ret p0) fun x31 => bnd (bnd (bnd (ret p0) fun x25 => bnd (ret p1) fun x26 => m_others_of x25 x26) fun x27 => fm (fun a28 => bnd (ret a28) fun x29 => bnd (ret v6) fun x30 => lft (some (decide (x29 ∉ x30)))) (fun a28 => ret a28) x27) fun x32 => m_actual_of_L x31 x32) fun v33 => bnd (bnd (ret p3) fun x34 => m_subsets_P x34) fun x36 => bnd (fr (ρ := Bool) (fun (s37 : Unit) (a35 : (List (Int × Int))) => bnd (bnd (ret v33) fun x77 => m_subsets_P x77) fun x79 => bnd (fr (ρ := Bool) (fun (s80 : Unit) (a78 : (List (Int × Int))) => bnd (bnd (bnd (bnd (ret p0) fun x103 => bnd (bnd (bnd (ret v3) fun x100 => bnd (bnd (ret a35) fun x98 => bnd (bnd (ret a78) fun x96 => bnd (ret []) fun l97 => ret (x96 :: l97)) fun l99 => ret (x98 :: l99)) fun l101 => ret (x100 :: l101)) fun x102 => m_together x102) fun x104 => m_values x103 x104) fun x105 => bnd (ret p2) fun x106 => m_holds x105 x106) fun c107 => ret (!c107)) fun c108 => if c108 then bnd (ret false) fun x109 => ret (.inr x109) else ret (.inl ())) () x79) fun w112 => aft w112 (fun (s110 : Unit) => ret (.inl ())) (fun y113 => (.inr y113))) () x36) fun w118 => aft w118 (fun (s114 : Unit) => bnd (ret true) fun x117 => ret x117) (fun y119 => y119)
theorem r_stays_whole (n : Nat) (hn : 4 ≤ n) (p0 : ((List Int) × (List ((List Int) × (List Int))))) (p1 : (List Int)) (p2 : (List (Int × Int))) (p3 : (List (Int × Int))) : RF (Dv.run Ps G0 n) (Str.ofString "stays_whole") [(eP2 (eT PyData.int) (eT (eP2 (eT PyData.int) (eT PyData.int)))) p0, (eT PyData.int) p1, (eT (eP2 PyData.int PyData.int)) p2, (eT (eP2 PyData.int PyData.int)) p3] (m_stays_whole p0 p1 p2 p3) PyData.bool false := by
  obtain ⟨n, rfl⟩ : ∃ j, n = j + 1 := ⟨n - 1, by omega⟩
  exact RF_of (η := ([.frz ((eP2 (eT PyData.int) (eT (eP2 (eT PyData.int) (eT PyData.int)))) p0), .frz ((eT PyData.int) p1), .frz ((eT (eP2 PyData.int PyData.int)) p2), .frz ((eT (eP2 PyData.int PyData.int)) p3), .no, .no, .no, .no, .no, .no, .no] : Dv.Env)) f_stays_whole (by rfl) rfl rfl (RS_set (η' := fun v3 => ([.frz ((eP2 (eT PyData.int) (eT (eP2 (eT PyData.int) (eT PyData.int)))) p0), .frz ((eT PyData.int) p1), .frz ((eT (eP2 PyData.int PyData.int)) p2), .frz ((eT (eP2 PyData.int PyData.int)) p3), .frz ((eT (eP2 PyData.int PyData.int)) v3), .no, .no, .no, .no, .no, .no] : Dv.Env)) (RE_call2 (RT_var (x := p0) (ea := (eP2 (eT PyData.int) (eT (eP2 (eT PyData.int) (eT PyData.int))))) rfl) (RT_var (x := p1) (ea := (eT PyData.int)) rfl) (fun x1 x2 => r_actual_of n (by omega) x1 x2) (.inl rfl)) (Nat.le_of_ble_eq_true rfl) (fun _ => rfl) (fun v3 => RS_set (η' := fun v6 => ([.frz ((eP2 (eT PyData.int) (eT (eP2 (eT PyData.int) (eT PyData.int)))) p0), .frz ((eT PyData.int) p1), .frz ((eT (eP2 PyData.int PyData.int)) p2), .frz ((eT (eP2 PyData.int PyData.int)) p3), .frz ((eT (eP2 PyData.int PyData.int)) v3), .own ((eL PyData.int) v6), .no, .no, .no, .no, .no] : Dv.Env)) (RE_lc (ηf := fun a5 => ([.frz ((eP2 (eT PyData.int) (eT (eP2 (eT PyData.int) (eT PyData.int)))) p0), .frz ((eT PyData.int) p1), .frz ((eT (eP2 PyData.int PyData.int)) p2), .frz ((eT (eP2 PyData.int PyData.int)) p3), .frz ((eT (eP2 PyData.int PyData.int)) v3), .no, .no, .no, .no, .frz (PyData.int a5.1), .frz (PyData.int a5.2)] : Dv.Env)) (RT_var (x := p3) (ea := (eT (eP2 PyData.int PyData.int))) rfl) its_T (fun _ => rfl) (fun a5 => (RE_var (x := a5.1) (ea := PyData.int) rfl))) (Nat.le_of_ble_eq_true rfl) (fun _ => rfl) (fun v6 => RS_set (η' := fun v33 => ([.frz ((eP2 (eT PyData.int) (eT (eP2 (eT PyData.int) (eT PyData.int)))) p0), .frz ((eT PyData.int) p1), .frz ((eT (eP2 PyData.int PyData.int)) p2), .frz ((eT (eP2 PyData.int PyData.int)) p3), .frz ((eT (eP2 PyData.int PyData.int)) v3), .own ((eL PyData.int) v6), .frz ((eT (eP2 PyData.int PyData.int)) v33), .no, .no, .no, .no] : Dv.Env)) (RE_call2 (RT_var (x := p0) (ea := (eP2 (eT PyData.int) (eT (eP2 (eT PyData.int) (eT PyData.int))))) rfl) (RT_of rfl (RE_lcf (ηf := fun a28 => ([.frz ((eP2 (eT PyData.int) (eT (eP2 (eT PyData.int) (eT PyData.int)))) p0), .frz ((eT PyData.int) p1), .frz ((eT (eP2 PyData.int PyData.int)) p2), .frz ((eT (eP2 PyData.int PyData.int)) p3), .frz ((eT (eP2 PyData.int PyData.int)) v3), .own ((eL PyData.int) v6), .no, .no, .no, .frz (PyData.int a28), .no] : Dv.Env)) (RT_of rfl (RE_call2 (RT_var (x := p0) (ea := (eP2 (eT PyData.int) (eT (eP2 (eT PyData.int) (eT PyData.int))))) rfl) (RT_var (x := p1) (ea := (eT PyData.int)) rfl) (fun x25 x26 => r_others_of n (by omega) x25 x26) (.inl rfl))) its_T (fun _ => rfl) (fun a28 => (RC_ce rfl (RCE_bool (RE_cmp (RT_var (x := a28) (ea := PyData.int) rfl) (RT_var (x := v6) (ea := (eL PyData.int)) rfl) (op_ninL dat_int (by decide) eqv_int))))) (fun a28 => (RE_var (x := a28) (ea := PyData.int) rfl)))) (fun x31 x32 => r_actual_of_L n (by omega) x31 x32) (.inl rfl)) (Nat.le_of_ble_eq_true rfl) (fun _ => rfl) (fun v33 => RS_forR (I := fun (s37 : Unit) η => ∃ j38 j39 : Sl, η = ([.frz ((eP2 (eT PyData.int) (eT (eP2 (eT PyData.int) (eT PyData.int)))) p0), .frz ((eT PyData.int) p1), .frz ((eT (eP2 PyData.int PyData.int)) p2), .frz ((eT (eP2 PyData.int PyData.int)) p3), .frz ((eT (eP2 PyData.int PyData.int)) v3), .own ((eL PyData.int) v6), .frz ((eT (eP2 PyData.int PyData.int)) v33), j38, j39, .no, .no] : Dv.Env)) (er := PyData.bool) (nwb := false) (RT_of rfl (RE_call1 (RT_var (x := p3) (ea := (eT (eP2 PyData.int PyData.int))) rfl) (fun x34 => r_subsets_P n (by omega) x34) (.inl rfl))) its_L rfl ⟨_, _, rfl⟩ (fun s37 a35 η' hI => by obtain ⟨j38, j39, rfl⟩ := hI; exact ⟨([.frz ((eP2 (eT PyData.int) (eT (eP2 (eT PyData.int) (eT PyData.int)))) p0), .frz ((eT PyData.int) p1), .frz ((eT (eP2 PyData.int PyData.int)) p2), .frz ((eT (eP2 PyData.int PyData.int)) p3), .frz ((eT (eP2 PyData.int PyData.int)) v3), .own ((eL PyData.int) v6), .frz ((eT (eP2 PyData.int PyData.int)) v33), .frz ((eT (eP2 PyData.int PyData.int)) a35), j39, .no, .no] : Dv.Env), rfl, RS_forR (I := fun (s80 : Unit) η => ∃ j81 : Sl, η = ([.frz ((eP2 (eT PyData.int) (eT (eP2 (eT PyData.int) (eT PyData.int)))) p0), .frz ((eT PyData.int) p1), .frz ((eT (eP2 PyData.int PyData.int)) p2), .frz ((eT (eP2 PyData.int PyData.int)) p3), .frz ((eT (eP2 PyData.int PyData.int)) v3), .own ((eL PyData.int) v6), .frz ((eT (eP2 PyData.int PyData.int)) v33), .frz ((eT (eP2 PyData.int PyData.int)) a35), j81, .no, .no] : Dv.Env)) (er := PyData.bool) (nwb := false) (RT_of rfl (RE_call1 (RT_var (x := v33) (ea := (eT (eP2 PyData.int PyData.int))) rfl) (fun x77 => r_subsets_P n (by omega) x77) (.inl rfl))) its_L rfl ⟨_, rfl⟩ (fun s80 a78 η' hI => by obtain ⟨j81, rfl⟩ := hI; exact ⟨([.frz ((eP2 (eT PyData.int) (eT (eP2 (eT PyData.int) (eT PyData.int)))) p0), .frz ((eT PyData.int) p1), .frz ((eT (eP2 PyData.int PyData.int)) p2), .frz ((eT (eP2 PyData.int PyData.int)) p3), .frz ((eT (eP2 PyData.int PyData.int)) v3), .own ((eL PyData.int) v6), .frz ((eT (eP2 PyData.int PyData.int)) v33), .frz ((eT (eP2 PyData.int PyData.int)) a35), .frz ((eT (eP2 PyData.int PyData.int)) a78), .no, .no] : Dv.Env), rfl, RS_ife (RC_ce rfl (RCE_bool (RE_not (RC_ce rfl (RCE_bool (RE_call2 (RT_of rfl (RE_call2 (RT_var (x := p0) (ea := (eP2 (eT PyData.int) (eT (eP2 (eT PyData.int) (eT PyData.int))))) rfl) (RT_of rfl (RE_call1 (RT_of rfl (RE_lst (by decide) (RL_cons (RE_var (x := v3) (ea := (eT (eP2 PyData.int PyData.int))) rfl) (RL_cons (RE_var (x := a35) (ea := (eT (eP2 PyData.int PyData.int))) rfl) (RL_cons (RE_var (x := a78) (ea := (eT (eP2 PyData.int PyData.int))) rfl) (RL_nil (ea := (eT (eP2 PyData.int PyData.int))))))))) (fun x102 => r_together n (by omega) x102) (.inl rfl))) (fun x103 x104 => r_values n (by omega) x103 x104) (.inl rfl))) (RT_var (x := p2) (ea := (eT (eP2 PyData.int PyData.int))) rfl) (fun x105 x106 => r_holds n (by omega) x105 x106) (.inl rfl))))))) (RS_ret (RT_of rfl (RE_con (x := false) (ea := PyData.bool) rfl)) (fun _ _ hS => outR_rt hS nwf)) (RS_nil (fun _ hS => outR_nx hS ⟨_, rfl⟩))⟩) (fun s110 η' hI => by obtain ⟨j111, rfl⟩ := hI; exact (RS_nil (fun _ hS => outR_nx hS ⟨_, _, rfl⟩))) (fun _ _ _ hS hn => outR_rt hS hn)⟩) (fun s114 η' hI => by obtain ⟨j115, j116, rfl⟩ := hI; exact (RS_ret (RT_of rfl (RE_con (x := true) (ea := PyData.bool) rfl)) (fun _ _ hS => outD_rt hS nwf))) (fun _ _ _ hS hn => outD_rt hS hn)))))
-- is_witness(functions, kind, xs, event, other, held)
def m_is_witness (p0 : ((List Int) × (List ((List Int) × (List Int))))) (p1 : Str) (p2 : (List Int)) (p3 : (List (Int × Int))) (p4 : (List Int)) (p5 : (List (Int × Int))) : ND Bool :=
  bnd (bnd (bnd (ret p0) fun x8 => bnd (bnd (bnd (bnd (ret p2) fun x1 => bnd (ret p4) fun x2 => m_setting x1 x2) fun x5 => bnd (bnd (ret p5) fun x3 => bnd (ret []) fun l4 => ret (x3 :: l4)) fun l6 => ret (x5 :: l6)) fun x7 => m_together x7) fun x9 => m_values x8 x9) fun x10 => bnd (ret p3) fun x11 => m_holds x10 x11) fun c12 => if c12 then bnd (ret false) fun x13 => ret x13 else bnd (bnd (bnd (ret p1) fun x14 => bnd (ret (Str.ofString "mended")) fun x15 => lft (cmpD .eq (PyData.str x14) (PyData.str x15))) fun c20 => if c20 then ret true else bnd (ret p0) fun x16 => bnd (ret p2) fun x17 => bnd (ret p3) fun x18 => bnd (ret p5) fun x19 => m_stays_whole x16 x17 x18 x19) fun x21 => ret x21
theorem r_is_witness (n : Nat) (hn : 5 ≤ n) (p0 : ((List Int) × (List ((List Int) × (List Int))))) (p1 : Str) (p2 : (List Int)) (p3 : (List (Int × Int))) (p4 : (List Int)) (p5 : (List (Int × Int))) : RF (Dv.run Ps G0 n) (Str.ofString "is_witness") [(eP2 (eT PyData.int) (eT (eP2 (eT PyData.int) (eT PyData.int)))) p0, PyData.str p1, (eT PyData.int) p2, (eT (eP2 PyData.int PyData.int)) p3, (eT PyData.int) p4, (eT (eP2 PyData.int PyData.int)) p5] (m_is_witness p0 p1 p2 p3 p4 p5) PyData.bool false := by
  obtain ⟨n, rfl⟩ : ∃ j, n = j + 1 := ⟨n - 1, by omega⟩
  exact RF_of (η := ([.frz ((eP2 (eT PyData.int) (eT (eP2 (eT PyData.int) (eT PyData.int)))) p0), .frz (PyData.str p1), .frz ((eT PyData.int) p2), .frz ((eT (eP2 PyData.int PyData.int)) p3), .frz ((eT PyData.int) p4), .frz ((eT (eP2 PyData.int PyData.int)) p5)] : Dv.Env)) f_is_witness (by rfl) rfl rfl (RS_ife (RC_ce rfl (RCE_bool (RE_call2 (RT_of rfl (RE_call2 (RT_var (x := p0) (ea := (eP2 (eT PyData.int) (eT (eP2 (eT PyData.int) (eT PyData.int))))) rfl) (RT_of rfl (RE_call1 (RT_of rfl (RE_lst (by decide) (RL_cons (RE_call2 (RT_var (x := p2) (ea := (eT PyData.int)) rfl) (RT_var (x := p4) (ea := (eT PyData.int)) rfl) (fun x1 x2 => r_setting n (by omega) x1 x2) (.inl rfl)) (RL_cons (RE_var (x := p5) (ea := (eT (eP2 PyData.int PyData.int))) rfl) (RL_nil (ea := (eT (eP2 PyData.int PyData.int)))))))) (fun x7 => r_together n (by omega) x7) (.inl rfl))) (fun x8 x9 => r_values n (by omega) x8 x9) (.inl rfl))) (RT_var (x := p3) (ea := (eT (eP2 PyData.int PyData.int))) rfl) (fun x10 x11 => r_holds n (by omega) x10 x11) (.inl rfl)))) (RS_ret (RT_of rfl (RE_con (x := false) (ea := PyData.bool) rfl)) (fun _ _ hS => outD_rt hS nwf)) (RS_ret (RT_of rfl (RE_or rfl (RT_of rfl (RE_cmp (RT_var (x := p1) (ea := PyData.str) rfl) (RT_of rfl (RE_con (x := (Str.ofString "mended")) (ea := PyData.str) rfl)) (op_cmpD .eq))) (RE_call4 (RT_var (x := p0) (ea := (eP2 (eT PyData.int) (eT (eP2 (eT PyData.int) (eT PyData.int))))) rfl) (RT_var (x := p2) (ea := (eT PyData.int)) rfl) (RT_var (x := p3) (ea := (eT (eP2 PyData.int PyData.int))) rfl) (RT_var (x := p5) (ea := (eT (eP2 PyData.int PyData.int))) rfl) (fun x16 x17 x18 x19 => r_stays_whole n (by omega) x16 x17 x18 x19) (.inl rfl)))) (fun _ _ hS => outD_rt hS nwf)))
-- held_choices(functions, kind, xs)
def m_held_choices (p0 : ((List Int) × (List ((List Int) × (List Int))))) (p1 : Str) (p2 : (List Int)) : ND (List (List (Int × Int))) :=
  bnd (ret []) fun v1 => bnd (bnd (bnd (ret p0) fun x8 => bnd (ret p2) fun x9 => m_others_of x8 x9) fun x10 => m_subsets x10) fun x12 => bnd (fd (fun (s13 : (List (List (Int × Int)))) (a11 : (List Int)) => bnd (bnd (ret p1) fun x26 => bnd (ret (Str.ofString "mended")) fun x27 => lft (cmpD .eq (PyData.str x26) (PyData.str x27))) fun c28 => if c28 then bnd (bnd (ret p0) fun x29 => bnd (ret a11) fun x30 => m_actual_of x29 x30) fun x31 => bnd (lft (if lineD (List.length s13 + 1) then some (s13 ++ [x31]) else none)) fun v32 => ret v32 else bnd (bnd (ret p0) fun x33 => bnd (ret a11) fun x34 => m_settings_of x33 x34) fun x35 => bnd (lft (if lineD (List.length s13 + List.length x35) then some (s13 ++ x35) else none)) fun v36 => ret v36) v1 x12) fun (s37 : (List (List (Int × Int)))) => bnd (bnd (bnd (bnd (ret s37) fun x39 => mp (fun a40 => bnd (bnd (ret a40) fun x41 => lft (some (List.length x41 : Int))) fun x42 => bnd (ret a40) fun x43 => ret (x42, x43)) x39) fun x44 => lft (some (sortE (eP2 PyData.int (eT (eP2 PyData.int PyData.int))) x44))) fun x45 => mp (fun a46 => ret a46.2) x45) fun x47 => ret x47
theorem r_held_choices (n : Nat) (hn : 4 ≤ n) (p0 : ((List Int) × (List ((List Int) × (List Int))))) (p1 : Str) (p2 : (List Int)) : RF (Dv.run Ps G0 n) (Str.ofString "held_choices") [(eP2 (eT PyData.int) (eT (eP2 (eT PyData.int) (eT PyData.int)))) p0, PyData.str p1, (eT PyData.int) p2] (m_held_choices p0 p1 p2) (eL (eT (eP2 PyData.int PyData.int))) true := by
  obtain ⟨n, rfl⟩ : ∃ j, n = j + 1 := ⟨n - 1, by omega⟩
  exact RF_of (η := ([.frz ((eP2 (eT PyData.int) (eT (eP2 (eT PyData.int) (eT PyData.int)))) p0), .frz (PyData.str p1), .frz ((eT PyData.int) p2), .no, .no, .no, .no] : Dv.Env)) f_held_choices (by rfl) rfl rfl (RS_set (η' := fun v1 => ([.frz ((eP2 (eT PyData.int) (eT (eP2 (eT PyData.int) (eT PyData.int)))) p0), .frz (PyData.str p1), .frz ((eT PyData.int) p2), .own ((eL (eT (eP2 PyData.int PyData.int))) v1), .no, .no, .no] : Dv.Env)) (RE_lst (by decide) (RL_nil (ea := (eT (eP2 PyData.int PyData.int))))) (Nat.le_of_ble_eq_true rfl) (fun _ => rfl) (fun v1 => RS_for (I := fun (s13 : (List (List (Int × Int)))) η => ∃ j14 : Sl, η = ([.frz ((eP2 (eT PyData.int) (eT (eP2 (eT PyData.int) (eT PyData.int)))) p0), .frz (PyData.str p1), .frz ((eT PyData.int) p2), .own ((eL (eT (eP2 PyData.int PyData.int))) s13), j14, .no, .no] : Dv.Env)) (RT_of rfl (RE_call1 (RT_of rfl (RE_call2 (RT_var (x := p0) (ea := (eP2 (eT PyData.int) (eT (eP2 (eT PyData.int) (eT PyData.int))))) rfl) (RT_var (x := p2) (ea := (eT PyData.int)) rfl) (fun x8 x9 => r_others_of n (by omega) x8 x9) (.inl rfl))) (fun x10 => r_subsets n (by omega) x10) (.inl rfl))) its_L rfl ⟨_, rfl⟩ (fun s13 a11 η' hI => by obtain ⟨j14, rfl⟩ := hI; exact ⟨([.frz ((eP2 (eT PyData.int) (eT (eP2 (eT PyData.int) (eT PyData.int)))) p0), .frz (PyData.str p1), .frz ((eT PyData.int) p2), .own ((eL (eT (eP2 PyData.int PyData.int))) s13), .frz ((eT PyData.int) a11), .no, .no] : Dv.Env), rfl, RS_ife (RC_ce rfl (RCE_bool (RE_cmp (RT_var (x := p1) (ea := PyData.str) rfl) (RT_of rfl (RE_con (x := (Str.ofString "mended")) (ea := PyData.str) rfl)) (op_cmpD .eq)))) (RS_app (l := s13) (ea := (eT (eP2 PyData.int PyData.int))) (η' := fun v32 => ([.frz ((eP2 (eT PyData.int) (eT (eP2 (eT PyData.int) (eT PyData.int)))) p0), .frz (PyData.str p1), .frz ((eT PyData.int) p2), .own ((eL (eT (eP2 PyData.int PyData.int))) v32), .frz ((eT PyData.int) a11), .no, .no] : Dv.Env)) rfl (RE_call2 (RT_var (x := p0) (ea := (eP2 (eT PyData.int) (eT (eP2 (eT PyData.int) (eT PyData.int))))) rfl) (RT_var (x := a11) (ea := (eT PyData.int)) rfl) (fun x29 x30 => r_actual_of n (by omega) x29 x30) (.inl rfl)) (fun _ => rfl) (fun v32 => RS_nil (fun _ hS => outL_nx hS ⟨_, rfl⟩))) (RS_ext (l := s13) (ea := (eT (eP2 PyData.int PyData.int))) (η' := fun v36 => ([.frz ((eP2 (eT PyData.int) (eT (eP2 (eT PyData.int) (eT PyData.int)))) p0), .frz (PyData.str p1), .frz ((eT PyData.int) p2), .own ((eL (eT (eP2 PyData.int PyData.int))) v36), .frz ((eT PyData.int) a11), .no, .no] : Dv.Env)) rfl (RT_of rfl (RE_call2 (RT_var (x := p0) (ea := (eP2 (eT PyData.int) (eT (eP2 (eT PyData.int) (eT PyData.int))))) rfl) (RT_var (x := a11) (ea := (eT PyData.int)) rfl) (fun x33 x34 => r_settings_of n (by omega) x33 x34) (.inl rfl))) its_L (fun _ => rfl) (fun v36 => RS_nil (fun _ hS => outL_nx hS ⟨_, rfl⟩)))⟩) (fun s37 η' hI => by obtain ⟨j38, rfl⟩ := hI; exact (RS_ret (RT_of rfl (RE_lc (ηf := fun a46 => ([.frz ((eP2 (eT PyData.int) (eT (eP2 (eT PyData.int) (eT PyData.int)))) p0), .frz (PyData.str p1), .frz ((eT PyData.int) p2), .own ((eL (eT (eP2 PyData.int PyData.int))) s37), j38, .frz (PyData.int a46.1), .frz ((eT (eP2 PyData.int PyData.int)) a46.2)] : Dv.Env)) (RT_of rfl (RE_blt1 (eb := (eL (eP2 PyData.int (eT (eP2 PyData.int PyData.int))))) (RT_of rfl (RE_lc (ηf := fun a40 => ([.frz ((eP2 (eT PyData.int) (eT (eP2 (eT PyData.int) (eT PyData.int)))) p0), .frz (PyData.str p1), .frz ((eT PyData.int) p2), .own ((eL (eT (eP2 PyData.int PyData.int))) s37), j38, .no, .frz ((eT (eP2 PyData.int PyData.int)) a40)] : Dv.Env)) (RT_var (x := s37) (ea := (eL (eT (eP2 PyData.int PyData.int)))) rfl) its_L (fun _ => rfl) (fun a40 => (RE_tup2 (RE_blt1 (eb := PyData.int) (RT_var (x := a40) (ea := (eT (eP2 PyData.int PyData.int))) rfl) op_lenT) (RE_var (x := a40) (ea := (eT (eP2 PyData.int PyData.int))) rfl))))) (op_srtL (srt_of (dat_P2 dat_int (dat_T (dat_P2 dat_int dat_int))) (by decide) (alk_P2 alk_int (alk_T (alk_P2 alk_int alk_int))) (fun _ => rfl))))) its_L (fun _ => rfl) (fun a46 => (RE_var (x := a46.2) (ea := (eT (eP2 PyData.int PyData.int))) rfl)))) (fun _ _ hS => outD_rt hS (fun _ => rfl))))))
-- first_witness(functions, kind, xs, event)
def m_first_witness (p0 : ((List Int) × (List ((List Int) × (List Int))))) (p1 : Str) (p2 : (List Int)) (p3 : (List (Int × Int))) : ND (Option ((List Int) × (List (Int × Int)))) :=
  bnd (bnd (bnd (bnd (ret p2) fun x1 => mp (fun a2 => bnd (bnd (ret p0) fun x3 => ret x3.1) fun x4 => bnd (ret a2) fun x5 => lft (L2.atI x4 x5)) x1) fun x6 => lft (some x6)) fun x7 => m_rows_of x7) fun v8 => bnd (bnd (ret p0) fun x9 => bnd (ret p1) fun x10 => bnd (ret p2) fun x11 => m_held_choices x9 x10 x11) fun x13 => bnd (fr (ρ := (Option ((List Int) × (List (Int × Int))))) (fun (s14 : Unit) (a12 : (List (Int × Int))) => bnd (ret v8) fun x48 => bnd (fr (ρ := (Option ((List Int) × (List (Int × Int))))) (fun (s49 : Unit) (a47 : (List Int)) => bnd (bnd (ret p0) fun x62 => bnd (ret p1) fun x63 => bnd (ret p2) fun x64 => bnd (ret p3) fun x65 => bnd (ret a47) fun x66 => bnd (ret a12) fun x67 => m_is_witness x62 x63 x64 x65 x66 x67) fun c68 => if c68 then bnd (bnd (bnd (ret a47) fun x69 => bnd (ret a12) fun x70 => ret (x69, x70)) fun x71 => ret (some x71)) fun x72 => ret (.inr x72) else ret (.inl ())) () x48) fun w75 => aft w75 (fun (s73 : Unit) => ret (.inl ())) (fun y76 => (.inr y76))) () x13) fun w82 => aft w82 (fun (s77 : Unit) => bnd (bnd (ret ()) fun x80 => ret none) fun x81 => ret x81) (fun y83 => y83)
theorem r_first_witness (n : Nat) (hn : 6 ≤ n) (p0 : ((List Int) × (List ((List Int) × (List Int))))) (p1 : Str) (p2 : (List Int)) (p3 : (List (Int × Int))) : RF (Dv.run Ps G0 n) (Str.ofString "first_witness") [(eP2 (eT PyData.int) (eT (eP2 (eT PyData.int) (eT PyData.int)))) p0, PyData.str p1, (eT PyData.int) p2, (eT (eP2 PyData.int PyData.int)) p3] (m_first_witness p0 p1 p2 p3) (eO (eP2 (eT PyData.int) (eT (eP2 PyData.int PyData.int)))) false := by
  obtain ⟨n, rfl⟩ : ∃ j, n = j + 1 := ⟨n - 1, by omega⟩
  exact RF_of (η := ([.frz ((eP2 (eT PyData.int) (eT (eP2 (eT PyData.int) (eT PyData.int)))) p0), .frz (PyData.str p1), .frz ((eT PyData.int) p2), .frz ((eT (eP2 PyData.int PyData.int)) p3), .no, .no, .no, .no] : Dv.Env)) f_first_witness (by rfl) rfl rfl (RS_set (η' := fun v8 => ([.frz ((eP2 (eT PyData.int) (eT (eP2 (eT PyData.int) (eT PyData.int)))) p0), .frz (PyData.str p1), .frz ((eT PyData.int) p2), .frz ((eT (eP2 PyData.int PyData.int)) p3), .frz ((eT (eT PyData.int)) v8), .no, .no, .no] : Dv.Env)) (RE_call1 (RT_of rfl (RE_blt1 (eb := (eT PyData.int)) (RT_of rfl (RE_lc (ηf := fun a2 => ([.frz ((eP2 (eT PyData.int) (eT (eP2 (eT PyData.int) (eT PyData.int)))) p0), .frz (PyData.str p1), .frz ((eT PyData.int) p2), .frz ((eT (eP2 PyData.int PyData.int)) p3), .no, .no, .no, .frz (PyData.int a2)] : Dv.Env)) (RT_var (x := p2) (ea := (eT PyData.int)) rfl) its_T (fun _ => rfl) (fun a2 => (RE_idx (ec := PyData.int) (RT_of rfl (RE_fst (f := fun x3 => x3.1) (eb := (eT PyData.int)) (RT_var (x := p0) (ea := (eP2 (eT PyData.int) (eT (eP2 (eT PyData.int) (eT PyData.int))))) rfl) (fun _ _ => rfl))) (RE_var (x := a2) (ea := PyData.int) rfl) op_idxT)))) op_tupL)) (fun x7 => r_rows_of n (by omega) x7) (.inl rfl)) (Nat.le_of_ble_eq_true rfl) (fun _ => rfl) (fun v8 => RS_forR (I := fun (s14 : Unit) η => ∃ j15 j16 : Sl, η = ([.frz ((eP2 (eT PyData.int) (eT (eP2 (eT PyData.int) (eT PyData.int)))) p0), .frz (PyData.str p1), .frz ((eT PyData.int) p2), .frz ((eT (eP2 PyData.int PyData.int)) p3), .frz ((eT (eT PyData.int)) v8), j15, j16, .no] : Dv.Env)) (er := (eO (eP2 (eT PyData.int) (eT (eP2 PyData.int PyData.int))))) (nwb := false) (RT_of rfl (RE_call3 (RT_var (x := p0) (ea := (eP2 (eT PyData.int) (eT (eP2 (eT PyData.int) (eT PyData.int))))) rfl) (RT_var (x := p1) (ea := PyData.str) rfl) (RT_var (x := p2) (ea := (eT PyData.int)) rfl) (fun x9 x10 x11 => r_held_choices n (by omega) x9 x10 x11) (.inl rfl))) its_L rfl ⟨_, _, rfl⟩ (fun s14 a12 η' hI => by obtain ⟨j15, j16, rfl⟩ := hI; exact ⟨([.frz ((eP2 (eT PyData.int) (eT (eP2 (eT PyData.int) (eT PyData.int)))) p0), .frz (PyData.str p1), .frz ((eT PyData.int) p2), .frz ((eT (eP2 PyData.int PyData.int)) p3), .frz ((eT (eT PyData.int)) v8), .frz ((eT (eP2 PyData.int PyData.int)) a12), j16, .no] : Dv.Env), rfl, RS_forR (I := fun (s49 : Unit) η => ∃ j50 : Sl, η = ([.frz ((eP2 (eT PyData.int) (eT (eP2 (eT PyData.int) (eT PyData.int)))) p0), .frz (PyData.str p1), .frz ((eT PyData.int) p2), .frz ((eT (eP2 PyData.int PyData.int)) p3), .frz ((eT (eT PyData.int)) v8), .frz ((eT (eP2 PyData.int PyData.int)) a12), j50, .no] : Dv.Env)) (er := (eO (eP2 (eT PyData.int) (eT (eP2 PyData.int PyData.int))))) (nwb := false) (RT_var (x := v8) (ea := (eT (eT PyData.int))) rfl) its_T (clE_own _ _) ⟨_, rfl⟩ (fun s49 a47 η' hI => by obtain ⟨j50, rfl⟩ := hI; exact ⟨([.frz ((eP2 (eT PyData.int) (eT (eP2 (eT PyData.int) (eT PyData.int)))) p0), .frz (PyData.str p1), .frz ((eT PyData.int) p2), .frz ((eT (eP2 PyData.int PyData.int)) p3), .frz ((eT (eT PyData.int)) v8), .frz ((eT (eP2 PyData.int PyData.int)) a12), .frz ((eT PyData.int) a47), .no] : Dv.Env), rfl, RS_ife (RC_ce rfl (RCE_bool (RE_call6 (RT_var (x := p0) (ea := (eP2 (eT PyData.int) (eT (eP2 (eT PyData.int) (eT PyData.int))))) rfl) (RT_var (x := p1) (ea := PyData.str) rfl) (RT_var (x := p2) (ea := (eT PyData.int)) rfl) (RT_var (x := p3) (ea := (eT (eP2 PyData.int PyData.int))) rfl) (RT_var (x := a47) (ea := (eT PyData.int)) rfl) (RT_var (x := a12) (ea := (eT (eP2 PyData.int PyData.int))) rfl) (fun x62 x63 x64 x65 x66 x67 => r_is_witness n (by omega) x62 x63 x64 x65 x66 x67) (.inl rfl)))) (RS_ret (RT_of rfl (RE_map (RE_tup2 (RE_var (x := a47) (ea := (eT PyData.int)) rfl) (RE_var (x := a12) (ea := (eT (eP2 PyData.int PyData.int))) rfl)) (fun x71 => (some x71)) (fun _ => rfl))) (fun _ _ hS => outR_rt hS nwf)) (RS_nil (fun _ hS => outR_nx hS ⟨_, rfl⟩))⟩) (fun s73 η' hI => by obtain ⟨j74, rfl⟩ := hI; exact (RS_nil (fun _ hS => outR_nx hS ⟨_, _, rfl⟩))) (fun _ _ _ hS hn => outR_rt hS hn)⟩) (fun s77 η' hI => by obtain ⟨j78, j79, rfl⟩ := hI; exact (RS_ret (RT_of rfl (RE_map (RE_con (x := ()) (ea := eN) rfl) (fun x80 => none) (fun _ => rfl))) (fun _ _ hS => outD_rt hS nwf))) (fun _ _ _ hS hn => outD_rt hS hn)))
-- parts_of(xs)
def m_parts_of (p0 : (List Int)) : ND (List (List Int)) :=
  bnd (bnd (bnd (ret p0) fun x1 => m_subsets x1) fun x2 => fm (fun a3 => bnd (ret (0 : Int)) fun x6 => bnd (bnd (ret a3) fun x4 => lft (some (List.length x4 : Int))) fun x7 => bnd (lft (some (decide (x6 < x7)))) fun c9 => if c9 then bnd (bnd (ret p0) fun x5 => lft (some (List.length x5 : Int))) fun x8 => lft (some (decide (x7 < x8))) else ret false) (fun a3 => ret a3) x2) fun v10 => bnd (bnd (bnd (bnd (ret v10) fun x11 => mp (fun a12 => bnd (bnd (ret a12) fun x13 => lft (some (List.length x13 : Int))) fun x14 => bnd (ret a12) fun x15 => ret (x14, x15)) x11) fun x16 => lft (some (sortE (eP2 PyData.int (eT PyData.int)) x16))) fun x17 => mp (fun a18 => ret a18.2) x17) fun x19 => ret x19
theorem r_parts_of (n : Nat) (hn : 2 ≤ n) (p0 : (List Int)) : RF (Dv.run Ps G0 n) (Str.ofString "parts_of") [(eT PyData.int) p0] (m_parts_of p0) (eL (eT PyData.int)) true := by
  obtain ⟨n, rfl⟩ : ∃ j, n = j + 1 := ⟨n - 1, by omega⟩
  exact RF_of (η := ([.frz ((eT PyData.int) p0), .no, .no, .no, .no] : Dv.Env)) f_parts_of (by rfl) rfl rfl (RS_set (η' := fun v10 => ([.frz ((eT PyData.int) p0), .own ((eL (eT PyData.int)) v10), .no, .no, .no] : Dv.Env)) (RE_lcf (ηf := fun a3 => ([.frz ((eT PyData.int) p0), .no, .frz ((eT PyData.int) a3), .no, .no] : Dv.Env)) (RT_of rfl (RE_call1 (RT_var (x := p0) (ea := (eT PyData.int)) rfl) (fun x1 => r_subsets n (by omega) x1) (.inl rfl))) its_L (fun _ => rfl) (fun a3 => (RC_ce rfl (RCE_bool (RE_chain (RE_con (x := (0 : Int)) (ea := PyData.int) rfl) (RE_blt1 (eb := PyData.int) (RT_var (x := a3) (ea := (eT PyData.int)) rfl) op_lenT) (RE_blt1 (eb := PyData.int) (RT_var (x := p0) (ea := (eT PyData.int)) rfl) op_lenT) op_lt_i op_lt_i)))) (fun a3 => (RE_var (x := a3) (ea := (eT PyData.int)) rfl))) (Nat.le_of_ble_eq_true rfl) (fun _ => rfl) (fun v10 => RS_ret (RT_of rfl (RE_lc (ηf := fun a18 => ([.frz ((eT PyData.int) p0), .own ((eL (eT PyData.int)) v10), .no, .frz (PyData.int a18.1), .frz ((eT PyData.int) a18.2)] : Dv.Env)) (RT_of rfl (RE_blt1 (eb := (eL (eP2 PyData.int (eT PyData.int)))) (RT_of rfl (RE_lc (ηf := fun a12 => ([.frz ((eT PyData.int) p0), .own ((eL (eT PyData.int)) v10), .no, .no, .frz ((eT PyData.int) a12)] : Dv.Env)) (RT_var (x := v10) (ea := (eL (eT PyData.int))) rfl) its_L (fun _ => rfl) (fun a12 => (RE_tup2 (RE_blt1 (eb := PyData.int) (RT_var (x := a12) (ea := (eT PyData.int)) rfl) op_lenT) (RE_var (x := a12) (ea := (eT PyData.int)) rfl))))) (op_srtL (srt_of (dat_P2 dat_int (dat_T dat_int)) (by decide) (alk_P2 alk_int (alk_T alk_int)) (fun _ => rfl))))) its_L (fun _ => rfl) (fun a18 => (RE_var (x := a18.2) (ea := (eT PyData.int)) rfl)))) (fun _ _ hS => outD_rt hS (fun _ => rfl))))
-- cause_paper(functions, kind, xs, event)
def m_cause_paper (p0 : ((List Int) × (List ((List Int) × (List Int))))) (p1 : Str) (p2 : (List Int)) (p3 : (List (Int × Int))) : ND D :=
  bnd (bnd (bnd (bnd (ret p0) fun x1 => bnd (ret []) fun x2 => m_values x1 x2) fun x3 => bnd (ret p3) fun x4 => m_holds x3 x4) fun c5 => ret (!c5)) fun c6 => if c6 then bnd (bnd (bnd (ret (Str.ofString "false")) fun x7 => bnd (ret []) fun l8 => ret (PyData.str x7 :: l8)) fun l9 => lft (if lineD l9.length then some (PyData.tuple l9) else none)) fun x10 => ret x10 else bnd (bnd (ret p2) fun x11 => m_parts_of x11) fun x13 => bnd (fr (ρ := D) (fun (s14 : Unit) (a12 : (List Int)) => bnd (bnd (ret p0) fun x33 => bnd (ret p1) fun x34 => bnd (ret a12) fun x35 => bnd (ret p3) fun x36 => m_first_witness x33 x34 x35 x36) fun v37 => bnd (bnd (ret v37) fun x38 => bnd (ret ()) fun x39 => lft (some (x38).isSome)) fun c40 => if c40 then bnd (bnd (bnd (bnd (ret (Str.ofString "less")) fun x43 => bnd (bnd (ret a12) fun x41 => bnd (ret []) fun l42 => ret ((eT PyData.int) x41 :: l42)) fun l44 => ret (PyData.str x43 :: l44)) fun l45 => lft (if lineD l45.length then some (PyData.tuple l45) else none)) fun x46 => bnd (ret v37) fun x47 => lft (binD .add (eD x46) ((eO (eP2 (eT PyData.int) (eT (eP2 PyData.int PyData.int)))) x47))) fun x48 => ret (.inr x48) else ret (.inl ())) () x13) fun w69 => aft w69 (fun (s49 : Unit) => bnd (bnd (ret p0) fun x52 => bnd (ret p1) fun x53 => bnd (ret p2) fun x54 => bnd (ret p3) fun x55 => m_first_witness x52 x53 x54 x55) fun v56 => bnd (bnd (bnd (ret v56) fun x57 => bnd (ret ()) fun x58 => lft (some (x57).isNone)) fun c59 => if c59 then bnd (bnd (ret (Str.ofString "no")) fun x60 => bnd (ret []) fun l61 => ret (PyData.str x60 :: l61)) fun l62 => lft (if lineD l62.length then some (PyData.tuple l62) else none) else bnd (bnd (bnd (ret (Str.ofString "cause")) fun x63 => bnd (ret []) fun l64 => ret (PyData.str x63 :: l64)) fun l65 => lft (if lineD l65.length then some (PyData.tuple l65) else none)) fun x66 => bnd (ret v56) fun x67 => lft (binD .add (eD x66) ((eO (eP2 (eT PyData.int) (eT (eP2 PyData.int PyData.int)))) x67))) fun x68 => ret x68) (fun y70 => y70)
theorem r_cause_paper (n : Nat) (hn : 7 ≤ n) (p0 : ((List Int) × (List ((List Int) × (List Int))))) (p1 : Str) (p2 : (List Int)) (p3 : (List (Int × Int))) : RF (Dv.run Ps G0 n) (Str.ofString "cause_paper") [(eP2 (eT PyData.int) (eT (eP2 (eT PyData.int) (eT PyData.int)))) p0, PyData.str p1, (eT PyData.int) p2, (eT (eP2 PyData.int PyData.int)) p3] (m_cause_paper p0 p1 p2 p3) eD false := by
  obtain ⟨n, rfl⟩ : ∃ j, n = j + 1 := ⟨n - 1, by omega⟩
  exact RF_of (η := ([.frz ((eP2 (eT PyData.int) (eT (eP2 (eT PyData.int) (eT PyData.int)))) p0), .frz (PyData.str p1), .frz ((eT PyData.int) p2), .frz ((eT (eP2 PyData.int PyData.int)) p3), .no, .no] : Dv.Env)) f_cause_paper (by rfl) rfl rfl (RS_ife (RC_ce rfl (RCE_bool (RE_not (RC_ce rfl (RCE_bool (RE_call2 (RT_of rfl (RE_call2 (RT_var (x := p0) (ea := (eP2 (eT PyData.int) (eT (eP2 (eT PyData.int) (eT PyData.int))))) rfl) (RT_of rfl (RE_tupT (by decide) (RL_nil (ea := (eP2 PyData.int PyData.int))))) (fun x1 x2 => r_values n (by omega) x1 x2) (.inl rfl))) (RT_var (x := p3) (ea := (eT (eP2 PyData.int PyData.int))) rfl) (fun x3 x4 => r_holds n (by omega) x3 x4) (.inl rfl))))))) (RS_ret (RT_of rfl (RE_tupD (RLD_cons (RE_con (x := (Str.ofString "false")) (ea := PyData.str) rfl) RLD_nil))) (fun _ _ hS => outD_rt hS nwf)) (RS_forR (I := fun (s14 : Unit) η => ∃ j15 j16 : Sl, η = ([.frz ((eP2 (eT PyData.int) (eT (eP2 (eT PyData.int) (eT PyData.int)))) p0), .frz (PyData.str p1), .frz ((eT PyData.int) p2), .frz ((eT (eP2 PyData.int PyData.int)) p3), j15, j16] : Dv.Env)) (er := eD) (nwb := false) (RT_of rfl (RE_call1 (RT_var (x := p2) (ea := (eT PyData.int)) rfl) (fun x11 => r_parts_of n (by omega) x11) (.inl rfl))) its_L rfl ⟨_, _, rfl⟩ (fun s14 a12 η' hI => by obtain ⟨j15, j16, rfl⟩ := hI; exact ⟨([.frz ((eP2 (eT PyData.int) (eT (eP2 (eT PyData.int) (eT PyData.int)))) p0), .frz (PyData.str p1), .frz ((eT PyData.int) p2), .frz ((eT (eP2 PyData.int PyData.int)) p3), .frz ((eT PyData.int) a12), j16] : Dv.Env), rfl, RS_set (η' := fun v37 => ([.frz ((eP2 (eT PyData.int) (eT (eP2 (eT PyData.int) (eT PyData.int)))) p0), .frz (PyData.str p1), .frz ((eT PyData.int) p2), .frz ((eT (eP2 PyData.int PyData.int)) p3), .frz ((eT PyData.int) a12), .frz ((eO (eP2 (eT PyData.int) (eT (eP2 PyData.int PyData.int)))) v37)] : Dv.Env)) (RE_call4 (RT_var (x := p0) (ea := (eP2 (eT PyData.int) (eT (eP2 (eT PyData.int) (eT PyData.int))))) rfl) (RT_var (x := p1) (ea := PyData.str) rfl) (RT_var (x := a12) (ea := (eT PyData.int)) rfl) (RT_var (x := p3) (ea := (eT (eP2 PyData.int PyData.int))) rfl) (fun x33 x34 x35 x36 => r_first_witness n (by omega) x33 x34 x35 x36) (.inl rfl)) (Nat.le_of_ble_eq_true rfl) (fun _ => rfl) (fun v37 => RS_ife (RC_ce rfl (RCE_bool (RE_cmp (RT_var (x := v37) (ea := (eO (eP2 (eT PyData.int) (eT (eP2 PyData.int PyData.int))))) rfl) (RT_of rfl (RE_con (x := ()) (ea := eN) rfl)) (op_isnN nn_P2)))) (RS_ret (RT_of rfl (RE_bin (ec := eD) (RT_of rfl (RE_tupD (RLD_cons (RE_con (x := (Str.ofString "less")) (ea := PyData.str) rfl) (RLD_cons (RE_var (x := a12) (ea := (eT PyData.int)) rfl) RLD_nil)))) (RT_var (x := v37) (ea := (eO (eP2 (eT PyData.int) (eT (eP2 PyData.int PyData.int))))) rfl) (op_binD .add))) (fun _ _ hS => outR_rt hS nwf)) (RS_nil (fun _ hS => outR_nx hS ⟨_, _, rfl⟩)))⟩) (fun s49 η' hI => by obtain ⟨j50, j51, rfl⟩ := hI; exact (RS_set (η' := fun v56 => ([.frz ((eP2 (eT PyData.int) (eT (eP2 (eT PyData.int) (eT PyData.int)))) p0), .frz (PyData.str p1), .frz ((eT PyData.int) p2), .frz ((eT (eP2 PyData.int PyData.int)) p3), j50, .frz ((eO (eP2 (eT PyData.int) (eT (eP2 PyData.int PyData.int)))) v56)] : Dv.Env)) (RE_call4 (RT_var (x := p0) (ea := (eP2 (eT PyData.int) (eT (eP2 (eT PyData.int) (eT PyData.int))))) rfl) (RT_var (x := p1) (ea := PyData.str) rfl) (RT_var (x := p2) (ea := (eT PyData.int)) rfl) (RT_var (x := p3) (ea := (eT (eP2 PyData.int PyData.int))) rfl) (fun x52 x53 x54 x55 => r_first_witness n (by omega) x52 x53 x54 x55) (.inl rfl)) (Nat.le_of_ble_eq_true rfl) (fun _ => rfl) (fun v56 => RS_ret (RT_of rfl (RE_ite (RC_ce rfl (RCE_bool (RE_cmp (RT_var (x := v56) (ea := (eO (eP2 (eT PyData.int) (eT (eP2 PyData.int PyData.int))))) rfl) (RT_of rfl (RE_con (x := ()) (ea := eN) rfl)) (op_isN nn_P2)))) (RE_tupD (RLD_cons (RE_con (x := (Str.ofString "no")) (ea := PyData.str) rfl) RLD_nil)) (RE_bin (ec := eD) (RT_of rfl (RE_tupD (RLD_cons (RE_con (x := (Str.ofString "cause")) (ea := PyData.str) rfl) RLD_nil))) (RT_var (x := v56) (ea := (eO (eP2 (eT PyData.int) (eT (eP2 PyData.int PyData.int))))) rfl) (op_binD .add)))) (fun _ _ hS => outD_rt hS nwf)))) (fun _ _ _ hS hn => outD_rt hS hn)))
-- is_cause(functions, kind, xs, event)
def m_is_cause (p0 : ((List Int) × (List ((List Int) × (List Int))))) (p1 : Str) (p2 : (List Int)) (p3 : (List (Int × Int))) : ND Bool :=
  bnd (bnd (bnd (bnd (ret p0) fun x1 => bnd (ret p1) fun x2 => bnd (ret p2) fun x3 => bnd (ret p3) fun x4 => m_cause_paper x1 x2 x3 x4) fun x5 => bnd (ret (0 : Int)) fun x6 => lft (idxV (eD x5) (PyData.int x6))) fun x7 => bnd (ret (Str.ofString "cause")) fun x8 => lft (cmpD .eq (eD x7) (PyData.str x8))) fun x9 => ret x9
theorem r_is_cause (n : Nat) (hn : 8 ≤ n) (p0 : ((List Int) × (List ((List Int) × (List Int))))) (p1 : Str) (p2 : (List Int)) (p3 : (List (Int × Int))) : RF (Dv.run Ps G0 n) (Str.ofString "is_cause") [(eP2 (eT PyData.int) (eT (eP2 (eT PyData.int) (eT PyData.int)))) p0, PyData.str p1, (eT PyData.int) p2, (eT (eP2 PyData.int PyData.int)) p3] (m_is_cause p0 p1 p2 p3) PyData.bool false := by
  obtain ⟨n, rfl⟩ : ∃ j, n = j + 1 := ⟨n - 1, by omega⟩
  exact RF_of (η := ([.frz ((eP2 (eT PyData.int) (eT (eP2 (eT PyData.int) (eT PyData.int)))) p0), .frz (PyData.str p1), .frz ((eT PyData.int) p2), .frz ((eT (eP2 PyData.int PyData.int)) p3)] : Dv.Env)) f_is_cause (by rfl) rfl rfl (RS_ret (RT_of rfl (RE_cmp (RT_of rfl (RE_idx (ec := eD) (RT_of rfl (RE_call4 (RT_var (x := p0) (ea := (eP2 (eT PyData.int) (eT (eP2 (eT PyData.int) (eT PyData.int))))) rfl) (RT_var (x := p1) (ea := PyData.str) rfl) (RT_var (x := p2) (ea := (eT PyData.int)) rfl) (RT_var (x := p3) (ea := (eT (eP2 PyData.int PyData.int))) rfl) (fun x1 x2 x3 x4 => r_cause_paper n (by omega) x1 x2 x3 x4) (.inl rfl))) (RE_con (x := (0 : Int)) (ea := PyData.int) rfl) op_idxD)) (RT_of rfl (RE_con (x := (Str.ofString "cause")) (ea := PyData.str) rfl)) (op_cmpD .eq))) (fun _ _ hS => outD_rt hS nwf))
-- least_change(functions, x, event)
def m_least_change (p0 : ((List Int) × (List ((List Int) × (List Int))))) (p1 : Int) (p2 : (List (Int × Int))) : ND (Option (Int × (List Int) × (List (Int × Int)))) :=
  bnd (bnd (bnd (bnd (bnd (bnd (ret p0) fun x1 => ret x1.1) fun x2 => lft (some (List.length x2 : Int))) fun x3 => lft (rngO x3)) fun x4 => fm (fun a5 => bnd (ret a5) fun x6 => bnd (ret p1) fun x7 => lft (some (decide (x6 ≠ x7)))) (fun a5 => ret a5) x4) fun x8 => lft (some x8)) fun v9 => bnd (bnd (ret ()) fun x10 => ret none) fun v11 => bnd (bnd (ret v9) fun x12 => m_subsets x12) fun x14 => bnd (fd (fun (s15 : (Option (Int × (List Int) × (List (Int × Int))))) (a13 : (List Int)) => bnd (bnd (bnd (bnd (ret a13) fun x66 => bnd (bnd (ret p1) fun x64 => bnd (ret []) fun l65 => ret (x64 :: l65)) fun x67 => lft (if lineD (List.length x66 + List.length x67) then some (x66 ++ x67) else none)) fun x68 => lft (some (sortE PyData.int x68))) fun x69 => lft (some x69)) fun v70 => bnd (bnd (bnd (bnd (ret s15) fun x71 => bnd (ret ()) fun x72 => lft (some (x71).isNone)) fun c78 => if c78 then ret true else bnd (bnd (ret v70) fun x73 => lft (some (List.length x73 : Int))) fun x76 => bnd (bnd (bnd (ret s15) fun x74 => lft x74) fun x75 => ret x75.1) fun x77 => lft (some (decide (x76 < x77)))) fun c83 => if c83 then bnd (ret p0) fun x79 => bnd (ret (Str.ofString "mended")) fun x80 => bnd (ret v70) fun x81 => bnd (ret p2) fun x82 => m_is_cause x79 x80 x81 x82 else ret false) fun c84 => if c84 then bnd (bnd (bnd (ret p0) fun x85 => bnd (ret (Str.ofString "mended")) fun x86 => bnd (ret v70) fun x87 => bnd (ret p2) fun x88 => m_first_witness x85 x86 x87 x88) fun x89 => lft x89) fun v90 => bnd (bnd (bnd (bnd (ret v70) fun x91 => lft (some (List.length x91 : Int))) fun x93 => bnd (bnd (ret v90.2) fun x92 => lft (some (List.length x92 : Int))) fun x94 => lft (some (x93 + x94))) fun x95 => bnd (ret v70) fun x96 => bnd (ret v90.2) fun x97 => ret (x95, x96, x97)) fun v98 => bnd (bnd (bnd (bnd (ret s15) fun x99 => bnd (ret ()) fun x100 => lft (some (x99).isNone)) fun c103 => if c103 then ret true else bnd (ret v98) fun x101 => bnd (ret s15) fun x102 => lft (cmpD .lt ((eP3 PyData.int (eT PyData.int) (eT (eP2 PyData.int PyData.int))) x101) ((eO (eP3 PyData.int (eT PyData.int) (eT (eP2 PyData.int PyData.int)))) x102))) fun c104 => if c104 then bnd (ret v98) fun x105 => ret (some x105) else ret s15) fun v106 => ret v106 else ret s15) v11 x14) fun (s107 : (Option (Int × (List Int) × (List (Int × Int))))) => bnd (ret s107) fun x113 => ret x113
theorem r_least_change (n : Nat) (hn : 9 ≤ n) (p0 : ((List Int) × (List ((List Int) × (List Int))))) (p1 : Int) (p2 : (List (Int × Int))) : RF (Dv.run Ps G0 n) (Str.ofString "least_change") [(eP2 (eT PyData.int) (eT (eP2 (eT PyData.int) (eT PyData.int)))) p0, PyData.int p1, (eT (eP2 PyData.int PyData.int)) p2] (m_least_change p0 p1 p2) (eO (eP3 PyData.int (eT PyData.int) (eT (eP2 PyData.int PyData.int)))) false := by
  obtain ⟨n, rfl⟩ : ∃ j, n = j + 1 := ⟨n - 1, by omega⟩
  exact RF_of (η := ([.frz ((eP2 (eT PyData.int) (eT (eP2 (eT PyData.int) (eT PyData.int)))) p0), .frz (PyData.int p1), .frz ((eT (eP2 PyData.int PyData.int)) p2), .no, .no, .no, .no, .no, .no, .no, .no] : Dv.Env)) f_least_change (by rfl) rfl rfl (RS_set (η' := fun v9 => ([.frz ((eP2 (eT PyData.int) (eT (eP2 (eT PyData.int) (eT PyData.int)))) p0), .frz (PyData.int p1), .frz ((eT (eP2 PyData.int PyData.int)) p2), .frz ((eT PyData.int) v9), .no, .no, .no, .no, .no, .no, .no] : Dv.Env)) (RE_blt1 (eb := (eT PyData.int)) (RT_of rfl (RE_lcf (ηf := fun a5 => ([.frz ((eP2 (eT PyData.int) (eT (eP2 (eT PyData.int) (eT PyData.int)))) p0), .frz (PyData.int p1), .frz ((eT (eP2 PyData.int PyData.int)) p2), .no, .no, .no, .no, .no, .no, .no, .frz (PyData.int a5)] : Dv.Env)) (RT_of rfl (RE_rng1 (RE_blt1 (eb := PyData.int) (RT_of rfl (RE_fst (f := fun x1 => x1.1) (eb := (eT PyData.int)) (RT_var (x := p0) (ea := (eP2 (eT PyData.int) (eT (eP2 (eT PyData.int) (eT PyData.int))))) rfl) (fun _ _ => rfl))) op_lenT))) its_L (fun _ => rfl) (fun a5 => (RC_ce rfl (RCE_bool (RE_cmp (RT_var (x := a5) (ea := PyData.int) rfl) (RT_var (x := p1) (ea := PyData.int) rfl) op_ne_i)))) (fun a5 => (RE_var (x := a5) (ea := PyData.int) rfl)))) op_tupL) (Nat.le_of_ble_eq_true rfl) (fun _ => rfl) (fun v9 => RS_set (η' := fun v11 => ([.frz ((eP2 (eT PyData.int) (eT (eP2 (eT PyData.int) (eT PyData.int)))) p0), .frz (PyData.int p1), .frz ((eT (eP2 PyData.int PyData.int)) p2), .frz ((eT PyData.int) v9), .frz ((eO (eP3 PyData.int (eT PyData.int) (eT (eP2 PyData.int PyData.int)))) v11), .no, .no, .no, .no, .no, .no] : Dv.Env)) (RE_map (RE_con (x := ()) (ea := eN) rfl) (fun x10 => none) (fun _ => rfl)) (Nat.le_of_ble_eq_true rfl) (fun _ => rfl) (fun v11 => RS_for (I := fun (s15 : (Option (Int × (List Int) × (List (Int × Int))))) η => ∃ j16 j17 j18 j19 j20 : Sl, η = ([.frz ((eP2 (eT PyData.int) (eT (eP2 (eT PyData.int) (eT PyData.int)))) p0), .frz (PyData.int p1), .frz ((eT (eP2 PyData.int PyData.int)) p2), .frz ((eT PyData.int) v9), .frz ((eO (eP3 PyData.int (eT PyData.int) (eT (eP2 PyData.int PyData.int)))) s15), j16, j17, j18, j19, j20, .no] : Dv.Env)) (RT_of rfl (RE_call1 (RT_var (x := v9) (ea := (eT PyData.int)) rfl) (fun x12 => r_subsets n (by omega) x12) (.inl rfl))) its_L rfl ⟨_, _, _, _, _, rfl⟩ (fun s15 a13 η' hI => by obtain ⟨j16, j17, j18, j19, j20, rfl⟩ := hI; exact ⟨([.frz ((eP2 (eT PyData.int) (eT (eP2 (eT PyData.int) (eT PyData.int)))) p0), .frz (PyData.int p1), .frz ((eT (eP2 PyData.int PyData.int)) p2), .frz ((eT PyData.int) v9), .frz ((eO (eP3 PyData.int (eT PyData.int) (eT (eP2 PyData.int PyData.int)))) s15), .frz ((eT PyData.int) a13), j17, j18, j19, j20, .no] : Dv.Env), rfl, RS_set (η' := fun v70 => ([.frz ((eP2 (eT PyData.int) (eT (eP2 (eT PyData.int) (eT PyData.int)))) p0), .frz (PyData.int p1), .frz ((eT (eP2 PyData.int PyData.int)) p2), .frz ((eT PyData.int) v9), .frz ((eO (eP3 PyData.int (eT PyData.int) (eT (eP2 PyData.int PyData.int)))) s15), .frz ((eT PyData.int) a13), .frz ((eT PyData.int) v70), j18, j19, j20, .no] : Dv.Env)) (RE_blt1 (eb := (eT PyData.int)) (RT_of rfl (RE_blt1 (eb := (eL PyData.int)) (RT_of rfl (RE_bin (ec := (eT PyData.int)) (RT_var (x := a13) (ea := (eT PyData.int)) rfl) (RT_of rfl (RE_tupT (by decide) (RL_cons (RE_var (x := p1) (ea := PyData.int) rfl) (RL_nil (ea := PyData.int))))) op_addT)) (op_srtT srt_int))) op_tupL) (Nat.le_of_ble_eq_true rfl) (fun _ => rfl) (fun v70 => RS_ife (RC_ce rfl (RCE_and rfl (RC_ce rfl (RCE_or rfl (RC_ce rfl (RCE_bool (RE_cmp (RT_var (x := s15) (ea := (eO (eP3 PyData.int (eT PyData.int) (eT (eP2 PyData.int PyData.int))))) rfl) (RT_of rfl (RE_con (x := ()) (ea := eN) rfl)) (op_isN nn_P3)))) (RCE_bool (RE_cmp (RT_of rfl (RE_blt1 (eb := PyData.int) (RT_var (x := v70) (ea := (eT PyData.int)) rfl) op_lenT)) (RT_of rfl (RE_fst (f := fun x75 => x75.1) (eb := PyData.int) (RT_mapO (RT_var (x := s15) (ea := (eO (eP3 PyData.int (eT PyData.int) (eT (eP2 PyData.int PyData.int))))) rfl) (fun x74 => x74) some_id) (fun _ _ => rfl))) op_lt_i)))) (RCE_bool (RE_call4 (RT_var (x := p0) (ea := (eP2 (eT PyData.int) (eT (eP2 (eT PyData.int) (eT PyData.int))))) rfl) (RT_of rfl (RE_con (x := (Str.ofString "mended")) (ea := PyData.str) rfl)) (RT_var (x := v70) (ea := (eT PyData.int)) rfl) (RT_var (x := p2) (ea := (eT (eP2 PyData.int PyData.int))) rfl) (fun x79 x80 x81 x82 => r_is_cause n (by omega) x79 x80 x81 x82) (.inl rfl))))) (RS_unp (η' := fun v90 => ([.frz ((eP2 (eT PyData.int) (eT (eP2 (eT PyData.int) (eT PyData.int)))) p0), .frz (PyData.int p1), .frz ((eT (eP2 PyData.int PyData.int)) p2), .frz ((eT PyData.int) v9), .frz ((eO (eP3 PyData.int (eT PyData.int) (eT (eP2 PyData.int PyData.int)))) s15), .frz ((eT PyData.int) a13), .frz ((eT PyData.int) v70), .frz ((eT PyData.int) v90.1), .frz ((eT (eP2 PyData.int PyData.int)) v90.2), j20, .no] : Dv.Env)) (RE_mapO (RE_call4 (RT_var (x := p0) (ea := (eP2 (eT PyData.int) (eT (eP2 (eT PyData.int) (eT PyData.int))))) rfl) (RT_of rfl (RE_con (x := (Str.ofString "mended")) (ea := PyData.str) rfl)) (RT_var (x := v70) (ea := (eT PyData.int)) rfl) (RT_var (x := p2) (ea := (eT (eP2 PyData.int PyData.int))) rfl) (fun x85 x86 x87 x88 => r_first_witness n (by omega) x85 x86 x87 x88) (.inl rfl)) (fun x89 => x89) some_id) (fun _ => rfl) (fun v90 => RS_set (η' := fun v98 => ([.frz ((eP2 (eT PyData.int) (eT (eP2 (eT PyData.int) (eT PyData.int)))) p0), .frz (PyData.int p1), .frz ((eT (eP2 PyData.int PyData.int)) p2), .frz ((eT PyData.int) v9), .frz ((eO (eP3 PyData.int (eT PyData.int) (eT (eP2 PyData.int PyData.int)))) s15), .frz ((eT PyData.int) a13), .frz ((eT PyData.int) v70), .frz ((eT PyData.int) v90.1), .frz ((eT (eP2 PyData.int PyData.int)) v90.2), .frz ((eP3 PyData.int (eT PyData.int) (eT (eP2 PyData.int PyData.int))) v98), .no] : Dv.Env)) (RE_tup3 (RE_bin (ec := PyData.int) (RT_of rfl (RE_blt1 (eb := PyData.int) (RT_var (x := v70) (ea := (eT PyData.int)) rfl) op_lenT)) (RT_of rfl (RE_blt1 (eb := PyData.int) (RT_var (x := v90.2) (ea := (eT (eP2 PyData.int PyData.int))) rfl) op_lenT)) op_add_i) (RE_var (x := v70) (ea := (eT PyData.int)) rfl) (RE_var (x := v90.2) (ea := (eT (eP2 PyData.int PyData.int))) rfl)) (Nat.le_of_ble_eq_true rfl) (fun _ => rfl) (fun v98 => RS_set (η' := fun v106 => ([.frz ((eP2 (eT PyData.int) (eT (eP2 (eT PyData.int) (eT PyData.int)))) p0), .frz (PyData.int p1), .frz ((eT (eP2 PyData.int PyData.int)) p2), .frz ((eT PyData.int) v9), .frz ((eO (eP3 PyData.int (eT PyData.int) (eT (eP2 PyData.int PyData.int)))) v106), .frz ((eT PyData.int) a13), .frz ((eT PyData.int) v70), .frz ((eT PyData.int) v90.1), .frz ((eT (eP2 PyData.int PyData.int)) v90.2), .frz ((eP3 PyData.int (eT PyData.int) (eT (eP2 PyData.int PyData.int))) v98), .no] : Dv.Env)) (RE_ite (RC_ce rfl (RCE_or rfl (RC_ce rfl (RCE_bool (RE_cmp (RT_var (x := s15) (ea := (eO (eP3 PyData.int (eT PyData.int) (eT (eP2 PyData.int PyData.int))))) rfl) (RT_of rfl (RE_con (x := ()) (ea := eN) rfl)) (op_isN nn_P3)))) (RCE_bool (RE_cmp (RT_var (x := v98) (ea := (eP3 PyData.int (eT PyData.int) (eT (eP2 PyData.int PyData.int)))) rfl) (RT_var (x := s15) (ea := (eO (eP3 PyData.int (eT PyData.int) (eT (eP2 PyData.int PyData.int))))) rfl) (op_cmpD .lt))))) (RE_map (RE_var (x := v98) (ea := (eP3 PyData.int (eT PyData.int) (eT (eP2 PyData.int PyData.int)))) rfl) (fun x105 => (some x105)) (fun _ => rfl)) (RE_var (x := s15) (ea := (eO (eP3 PyData.int (eT PyData.int) (eT (eP2 PyData.int PyData.int))))) rfl)) (Nat.le_of_ble_eq_true rfl) (fun _ => rfl) (fun v106 => RS_nil (fun _ hS => outL_nx hS ⟨_, _, _, _, _, rfl⟩))))) (RS_nil (fun _ hS => outL_nx hS ⟨_, _, _, _, _, rfl⟩)))⟩) (fun s107 η' hI => by obtain ⟨j108, j109, j110, j111, j112, rfl⟩ := hI; exact (RS_ret (RT_var (x := s107) (ea := (eO (eP3 PyData.int (eT PyData.int) (eT (eP2 PyData.int PyData.int))))) rfl) (fun _ _ hS => outD_rt hS nwf))))))
-- duty(functions, x, event)
def m_duty (p0 : ((List Int) × (List ((List Int) × (List Int))))) (p1 : Int) (p2 : (List (Int × Int))) : ND (Int × Int) :=
  bnd (bnd (ret p0) fun x1 => bnd (ret p1) fun x2 => bnd (ret p2) fun x3 => m_least_change x1 x2 x3) fun v4 => bnd (bnd (bnd (ret v4) fun x5 => bnd (ret ()) fun x6 => lft (some (x5).isNone)) fun c7 => if c7 then bnd (ret (0 : Int)) fun x8 => bnd (ret (1 : Int)) fun x9 => ret (x8, x9) else bnd (ret (1 : Int)) fun x12 => bnd (bnd (bnd (ret v4) fun x10 => lft x10) fun x11 => ret x11.1) fun x13 => ret (x12, x13)) fun x14 => ret x14
theorem r_duty (n : Nat) (hn : 10 ≤ n) (p0 : ((List Int) × (List ((List Int) × (List Int))))) (p1 : Int) (p2 : (List (Int × Int))) : RF (Dv.run Ps G0 n) (Str.ofString "duty") [(eP2 (eT PyData.int) (eT (eP2 (eT PyData.int) (eT PyData.int)))) p0, PyData.int p1, (eT (eP2 PyData.int PyData.int)) p2] (m_duty p0 p1 p2) (eP2 PyData.int PyData.int) false := by
  obtain ⟨n, rfl⟩ : ∃ j, n = j + 1 := ⟨n - 1, by omega⟩
  exact RF_of (η := ([.frz ((eP2 (eT PyData.int) (eT (eP2 (eT PyData.int) (eT PyData.int)))) p0), .frz (PyData.int p1), .frz ((eT (eP2 PyData.int PyData.int)) p2), .no] : Dv.Env)) f_duty (by rfl) rfl rfl (RS_set (η' := fun v4 => ([.frz ((eP2 (eT PyData.int) (eT (eP2 (eT PyData.int) (eT PyData.int)))) p0), .frz (PyData.int p1), .frz ((eT (eP2 PyData.int PyData.int)) p2), .frz ((eO (eP3 PyData.int (eT PyData.int) (eT (eP2 PyData.int PyData.int)))) v4)] : Dv.Env)) (RE_call3 (RT_var (x := p0) (ea := (eP2 (eT PyData.int) (eT (eP2 (eT PyData.int) (eT PyData.int))))) rfl) (RT_var (x := p1) (ea := PyData.int) rfl) (RT_var (x := p2) (ea := (eT (eP2 PyData.int PyData.int))) rfl) (fun x1 x2 x3 => r_least_change n (by omega) x1 x2 x3) (.inl rfl)) (Nat.le_of_ble_eq_true rfl) (fun _ => rfl) (fun v4 => RS_ret (RT_of rfl (RE_ite (RC_ce rfl (RCE_bool (RE_cmp (RT_var (x := v4) (ea := (eO (eP3 PyData.int (eT PyData.int) (eT (eP2 PyData.int PyData.int))))) rfl) (RT_of rfl (RE_con (x := ()) (ea := eN) rfl)) (op_isN nn_P3)))) (RE_tup2 (RE_con (x := (0 : Int)) (ea := PyData.int) rfl) (RE_con (x := (1 : Int)) (ea := PyData.int) rfl)) (RE_tup2 (RE_con (x := (1 : Int)) (ea := PyData.int) rfl) (RE_fst (f := fun x11 => x11.1) (eb := PyData.int) (RT_mapO (RT_var (x := v4) (ea := (eO (eP3 PyData.int (eT PyData.int) (eT (eP2 PyData.int PyData.int))))) rfl) (fun x10 => x10) some_id) (fun _ _ => rfl))))) (fun _ _ hS => outD_rt hS nwf)))
-- blame(contexts, x, event)
def m_blame (p0 : (List (((List Int) × (List ((List Int) × (List Int)))) × (Int × Int)))) (p1 : Int) (p2 : (List (Int × Int))) : ND (Int × Int) :=
  bnd (bnd (ret (0 : Int)) fun x1 => bnd (ret (1 : Int)) fun x2 => ret (x1, x2)) fun v3 => bnd (ret p0) fun x5 => bnd (fd (fun (s6 : (Int × Int)) (a4 : (((List Int) × (List ((List Int) × (List Int)))) × (Int × Int))) => bnd (bnd (ret s6) fun x22 => bnd (bnd (bnd (ret a4.1) fun x17 => bnd (ret p1) fun x18 => bnd (ret p2) fun x19 => m_duty x17 x18 x19) fun x20 => bnd (ret a4.2) fun x21 => m_times x20 x21) fun x23 => m_plus x22 x23) fun v24 => ret v24) v3 x5) fun (s25 : (Int × Int)) => bnd (ret s25) fun x28 => ret x28
theorem r_blame (n : Nat) (hn : 11 ≤ n) (p0 : (List (((List Int) × (List ((List Int) × (List Int)))) × (Int × Int)))) (p1 : Int) (p2 : (List (Int × Int))) : RF (Dv.run Ps G0 n) (Str.ofString "blame") [(eT (eP2 (eP2 (eT PyData.int) (eT (eP2 (eT PyData.int) (eT PyData.int)))) (eP2 PyData.int PyData.int))) p0, PyData.int p1, (eT (eP2 PyData.int PyData.int)) p2] (m_blame p0 p1 p2) (eP2 PyData.int PyData.int) false := by
  obtain ⟨n, rfl⟩ : ∃ j, n = j + 1 := ⟨n - 1, by omega⟩
  exact RF_of (η := ([.frz ((eT (eP2 (eP2 (eT PyData.int) (eT (eP2 (eT PyData.int) (eT PyData.int)))) (eP2 PyData.int PyData.int))) p0), .frz (PyData.int p1), .frz ((eT (eP2 PyData.int PyData.int)) p2), .no, .no, .no] : Dv.Env)) f_blame (by rfl) rfl rfl (RS_set (η' := fun v3 => ([.frz ((eT (eP2 (eP2 (eT PyData.int) (eT (eP2 (eT PyData.int) (eT PyData.int)))) (eP2 PyData.int PyData.int))) p0), .frz (PyData.int p1), .frz ((eT (eP2 PyData.int PyData.int)) p2), .frz ((eP2 PyData.int PyData.int) v3), .no, .no] : Dv.Env)) (RE_tup2 (RE_con (x := (0 : Int)) (ea := PyData.int) rfl) (RE_con (x := (1 : Int)) (ea := PyData.int) rfl)) (Nat.le_of_ble_eq_true rfl) (fun _ => rfl) (fun v3 => RS_for (I := fun (s6 : (Int × Int)) η => ∃ j7 j8 : Sl, η = ([.frz ((eT (eP2 (eP2 (eT PyData.int) (eT (eP2 (eT PyData.int) (eT PyData.int)))) (eP2 PyData.int PyData.int))) p0), .frz (PyData.int p1), .frz ((eT (eP2 PyData.int PyData.int)) p2), .frz ((eP2 PyData.int PyData.int) s6), j7, j8] : Dv.Env)) (RT_var (x := p0) (ea := (eT (eP2 (eP2 (eT PyData.int) (eT (eP2 (eT PyData.int) (eT PyData.int)))) (eP2 PyData.int PyData.int)))) rfl) its_T (clE_own _ _) ⟨_, _, rfl⟩ (fun s6 a4 η' hI => by obtain ⟨j7, j8, rfl⟩ := hI; exact ⟨([.frz ((eT (eP2 (eP2 (eT PyData.int) (eT (eP2 (eT PyData.int) (eT PyData.int)))) (eP2 PyData.int PyData.int))) p0), .frz (PyData.int p1), .frz ((eT (eP2 PyData.int PyData.int)) p2), .frz ((eP2 PyData.int PyData.int) s6), .frz ((eP2 (eT PyData.int) (eT (eP2 (eT PyData.int) (eT PyData.int)))) a4.1), .frz ((eP2 PyData.int PyData.int) a4.2)] : Dv.Env), rfl, RS_set (η' := fun v24 => ([.frz ((eT (eP2 (eP2 (eT PyData.int) (eT (eP2 (eT PyData.int) (eT PyData.int)))) (eP2 PyData.int PyData.int))) p0), .frz (PyData.int p1), .frz ((eT (eP2 PyData.int PyData.int)) p2), .frz ((eP2 PyData.int PyData.int) v24), .frz ((eP2 (eT PyData.int) (eT (eP2 (eT PyData.int) (eT PyData.int)))) a4.1), .frz ((eP2 PyData.int PyData.int) a4.2)] : Dv.Env)) (RE_call2 (RT_var (x := s6) (ea := (eP2 PyData.int PyData.int)) rfl) (RT_of rfl (RE_call2 (RT_of rfl (RE_call3 (RT_var (x := a4.1) (ea := (eP2 (eT PyData.int) (eT (eP2 (eT PyData.int) (eT PyData.int))))) rfl) (RT_var (x := p1) (ea := PyData.int) rfl) (RT_var (x := p2) (ea := (eT (eP2 PyData.int PyData.int))) rfl) (fun x17 x18 x19 => r_duty n (by omega) x17 x18 x19) (.inl rfl))) (RT_var (x := a4.2) (ea := (eP2 PyData.int PyData.int)) rfl) (fun x20 x21 => r_times n (by omega) x20 x21) (.inl rfl))) (fun x22 x23 => r_plus n (by omega) x22 x23) (.inl rfl)) (Nat.le_of_ble_eq_true rfl) (fun _ => rfl) (fun v24 => RS_nil (fun _ hS => outL_nx hS ⟨_, _, rfl⟩))⟩) (fun s25 η' hI => by obtain ⟨j26, j27, rfl⟩ := hI; exact (RS_ret (RT_var (x := s25) (ea := (eP2 PyData.int PyData.int)) rfl) (fun _ _ hS => outD_rt hS nwf)))))
-- duties(functions, event)
def m_duties (p0 : ((List Int) × (List ((List Int) × (List Int))))) (p1 : (List (Int × Int))) : ND (List (Int × Int)) :=
  bnd (bnd (bnd (bnd (bnd (bnd (ret p0) fun x1 => ret x1.1) fun x2 => lft (some (List.length x2 : Int))) fun x3 => lft (rngO x3)) fun x4 => mp (fun a5 => bnd (ret p0) fun x6 => bnd (ret a5) fun x7 => bnd (ret p1) fun x8 => m_duty x6 x7 x8) x4) fun x9 => lft (some x9)) fun x10 => ret x10
theorem r_duties (n : Nat) (hn : 11 ≤ n) (p0 : ((List Int) × (List ((List Int) × (List Int))))) (p1 : (List (Int × Int))) : RF (Dv.run Ps G0 n) (Str.ofString "duties") [(eP2 (eT PyData.int) (eT (eP2 (eT PyData.int) (eT PyData.int)))) p0, (eT (eP2 PyData.int PyData.int)) p1] (m_duties p0 p1) (eT (eP2 PyData.int PyData.int)) false := by
  obtain ⟨n, rfl⟩ : ∃ j, n = j + 1 := ⟨n - 1, by omega⟩
  exact RF_of (η := ([.frz ((eP2 (eT PyData.int) (eT (eP2 (eT PyData.int) (eT PyData.int)))) p0), .frz ((eT (eP2 PyData.int PyData.int)) p1), .no] : Dv.Env)) f_duties (by rfl) rfl rfl (RS_ret (RT_of rfl (RE_blt1 (eb := (eT (eP2 PyData.int PyData.int))) (RT_of rfl (RE_lc (ηf := fun a5 => ([.frz ((eP2 (eT PyData.int) (eT (eP2 (eT PyData.int) (eT PyData.int)))) p0), .frz ((eT (eP2 PyData.int PyData.int)) p1), .frz (PyData.int a5)] : Dv.Env)) (RT_of rfl (RE_rng1 (RE_blt1 (eb := PyData.int) (RT_of rfl (RE_fst (f := fun x1 => x1.1) (eb := (eT PyData.int)) (RT_var (x := p0) (ea := (eP2 (eT PyData.int) (eT (eP2 (eT PyData.int) (eT PyData.int))))) rfl) (fun _ _ => rfl))) op_lenT))) its_L (fun _ => rfl) (fun a5 => (RE_call3 (RT_var (x := p0) (ea := (eP2 (eT PyData.int) (eT (eP2 (eT PyData.int) (eT PyData.int))))) rfl) (RT_var (x := a5) (ea := PyData.int) rfl) (RT_var (x := p1) (ea := (eT (eP2 PyData.int PyData.int))) rfl) (fun x6 x7 x8 => r_duty n (by omega) x6 x7 x8) (.inl rfl))))) op_tupL)) (fun _ _ hS => outD_rt hS nwf))
-- _law_rows(sizes)
def m__law_rows (p0 : (List Int)) : ND (List (List Int)) :=
  bnd (bnd (ret []) fun x1 => bnd (ret []) fun l2 => ret (x1 :: l2)) fun v3 => bnd (ret p0) fun x5 => bnd (fd (fun (s37 : (List (List Int))) (a4 : Int) => bnd (ret []) fun v70 => bnd (ret s37) fun x72 => bnd (fd (fun (s73 : (List (List Int))) (a71 : (List Int)) => bnd (bnd (ret s73) fun x92 => bnd (bnd (bnd (ret a4) fun x85 => lft (rngO x85)) fun x86 => mp (fun a87 => bnd (ret a71) fun x90 => bnd (bnd (ret a87) fun x88 => bnd (ret []) fun l89 => ret (x88 :: l89)) fun x91 => lft (if lineD (List.length x90 + List.length x91) then some (x90 ++ x91) else none)) x86) fun x93 => lft (if lineD (List.length x92 + List.length x93) then some (x92 ++ x93) else none)) fun v94 => ret v94) v70 x72) fun (s95 : (List (List Int))) => ret s95) v3 x5) fun (s97 : (List (List Int))) => bnd (ret s97) fun x103 => ret x103
theorem r__law_rows (n : Nat) (hn : 1 ≤ n) (p0 : (List Int)) : RF (Dv.run Ps G0 n) (Str.ofString "_law_rows") [(eL PyData.int) p0] (m__law_rows p0) (eL (eT PyData.int)) false := by
  obtain ⟨n, rfl⟩ : ∃ j, n = j + 1 := ⟨n - 1, by omega⟩
  exact RF_of (η := ([.frz ((eL PyData.int) p0), .no, .no, .no, .no, .no] : Dv.Env)) f__law_rows (by rfl) rfl rfl (RS_set (η' := fun v3 => ([.frz ((eL PyData.int) p0), .own ((eL (eT PyData.int)) v3), .no, .no, .no, .no] : Dv.Env)) (RE_lst (by decide) (RL_cons (RE_tupT (by decide) (RL_nil (ea := PyData.int))) (RL_nil (ea := (eT PyData.int))))) (Nat.le_of_ble_eq_true rfl) (fun _ => rfl) (fun v3 => RS_for (I := fun (s37 : (List (List Int))) η => ∃ j38 j40 j41 j42 : Sl, η = ([.frz ((eL PyData.int) p0), j38, j40, j41, j42, .no] : Dv.Env) ∧ Sl.get j38 = some ((eL (eT PyData.int)) s37)) (RT_var (x := p0) (ea := (eL PyData.int)) rfl) its_L (clE_own _ _) ⟨_, _, _, _, rfl, rfl⟩ (fun s37 a4 η' hI => by obtain ⟨j38, j40, j41, j42, rfl, h39⟩ := hI; exact ⟨([.frz ((eL PyData.int) p0), j38, .frz (PyData.int a4), j41, j42, .no] : Dv.Env), rfl, RS_set (η' := fun v70 => ([.frz ((eL PyData.int) p0), j38, .frz (PyData.int a4), .own ((eL (eT PyData.int)) v70), j42, .no] : Dv.Env)) (RE_lst (by decide) (RL_nil (ea := (eT PyData.int)))) (Nat.le_of_ble_eq_true rfl) (fun _ => rfl) (fun v70 => RS_for (I := fun (s73 : (List (List Int))) η => ∃ j74 : Sl, η = ([.frz ((eL PyData.int) p0), (Sl.freeze j38), .frz (PyData.int a4), .own ((eL (eT PyData.int)) s73), j74, .no] : Dv.Env)) (RT_var (x := s37) (ea := (eL (eT PyData.int))) h39) its_L (clE_own _ _) ⟨_, rfl⟩ (fun s73 a71 η' hI => by obtain ⟨j74, rfl⟩ := hI; exact ⟨([.frz ((eL PyData.int) p0), (Sl.freeze j38), .frz (PyData.int a4), .own ((eL (eT PyData.int)) s73), .frz ((eT PyData.int) a71), .no] : Dv.Env), rfl, RS_set (η' := fun v94 => ([.frz ((eL PyData.int) p0), (Sl.freeze j38), .frz (PyData.int a4), .own ((eL (eT PyData.int)) v94), .frz ((eT PyData.int) a71), .no] : Dv.Env)) (RE_bin (ec := (eL (eT PyData.int))) (RT_var (x := s73) (ea := (eL (eT PyData.int))) rfl) (RT_of rfl (RE_lc (ηf := fun a87 => ([.frz ((eL PyData.int) p0), (Sl.freeze j38), .frz (PyData.int a4), .own ((eL (eT PyData.int)) s73), .frz ((eT PyData.int) a71), .frz (PyData.int a87)] : Dv.Env)) (RT_of rfl (RE_rng1 (RE_var (x := a4) (ea := PyData.int) rfl))) its_L (fun _ => rfl) (fun a87 => (RE_bin (ec := (eT PyData.int)) (RT_var (x := a71) (ea := (eT PyData.int)) rfl) (RT_of rfl (RE_tupT (by decide) (RL_cons (RE_var (x := a87) (ea := PyData.int) rfl) (RL_nil (ea := PyData.int))))) op_addT)))) op_addL) (Nat.le_of_ble_eq_true rfl) (fun _ => rfl) (fun v94 => RS_nil (fun _ hS => outL_nx hS ⟨_, rfl⟩))⟩) (fun s95 η' hI => by obtain ⟨j96, rfl⟩ := hI; exact (RS_alias (η' := ([.frz ((eL PyData.int) p0), .frz ((eL (eT PyData.int)) s95), .frz (PyData.int a4), .frz ((eL (eT PyData.int)) s95), j96, .no] : Dv.Env)) rfl (Nat.le_of_ble_eq_true rfl) rfl (RS_nil (fun _ hS => outL_nx hS ⟨_, _, _, _, rfl, rfl⟩)))))⟩) (fun s97 η' hI => by obtain ⟨j98, j100, j101, j102, rfl, h99⟩ := hI; exact (RS_ret (RT_var (x := s97) (ea := (eL (eT PyData.int))) h99) (fun _ _ hS => outD_rt hS nwf)))))
-- _law_functions(c, most)
def m__law_functions (p0 : Unit) (p1 : Int) : ND ((List Int) × (List ((List Int) × (List Int)))) :=
  bnd (ret []) fun v1 => bnd (ret []) fun v2 => bnd (bnd (bnd (ret (2 : Int)) fun x7 => bnd (bnd (ret p0) fun x5 => bnd (bnd (ret p1) fun x3 => bnd (ret (1 : Int)) fun x4 => lft (some (x3 - x4))) fun x6 => m__law_take x5 x6) fun x8 => lft (some (x7 + x8))) fun x9 => lft (rngO x9)) fun x11 => bnd (fd (fun (s12 : ((List Int) × (List ((List Int) × (List Int))))) (a10 : Int) => bnd (bnd (ret (2 : Int)) fun x56 => bnd (bnd (bnd (bnd (ret p0) fun x51 => bnd (ret (4 : Int)) fun x52 => m__law_take x51 x52) fun x53 => bnd (ret (0 : Int)) fun x54 => lft (some (decide (x53 = x54)))) fun x55 => lft (some (if x55 then (1 : Int) else 0))) fun x57 => lft (some (x56 + x57))) fun x58 => bnd (lft (if lineD (List.length s12.1 + 1) then some (s12.1 ++ [x58]) else none)) fun v59 => bnd (bnd (bnd (bnd (ret a10) fun x60 => lft (rngO x60)) fun x61 => fm (fun a62 => bnd (bnd (ret p0) fun x63 => bnd (ret (3 : Int)) fun x64 => m__law_take x63 x64) fun x65 => bnd (ret (0 : Int)) fun x66 => lft (some (decide (x66 < x65)))) (fun a62 => ret a62) x61) fun x67 => lft (some x67)) fun v68 => bnd (bnd (bnd (ret v68) fun x69 => mp (fun a70 => bnd (ret v59) fun x71 => bnd (ret a70) fun x72 => lft (L2.atI x71 x72)) x69) fun x73 => m__law_rows x73) fun v74 => bnd (bnd (ret v68) fun x82 => bnd (bnd (bnd (ret v74) fun x75 => mp (fun a76 => bnd (ret p0) fun x79 => bnd (bnd (ret v59) fun x77 => bnd (ret a10) fun x78 => lft (L2.atI x77 x78)) fun x80 => m__law_take x79 x80) x75) fun x81 => lft (some x81)) fun x83 => ret (x82, x83)) fun x84 => bnd (lft (if lineD (List.length s12.2 + 1) then some (s12.2 ++ [x84]) else none)) fun v85 => ret (v59, v85)) (v1, v2) x11) fun (s86 : ((List Int) × (List ((List Int) × (List Int))))) => bnd (bnd (bnd (ret s86.1) fun x90 => lft (some x90)) fun x92 => bnd (bnd (ret s86.2) fun x91 => lft (some x91)) fun x93 => ret (x92, x93)) fun x94 => ret x94
theorem r__law_functions (n : Nat) (hn : 3 ≤ n) (p0 : Unit) (p1 : Int) : RF (Dv.run Ps G0 n) (Str.ofString "_law_functions") [eC p0, PyData.int p1] (m__law_functions p0 p1) (eP2 (eT PyData.int) (eT (eP2 (eT PyData.int) (eT PyData.int)))) false := by
  obtain ⟨n, rfl⟩ : ∃ j, n = j + 1 := ⟨n - 1, by omega⟩
  exact RF_of (η := ([.frz (eC p0), .frz (PyData.int p1), .no, .no, .no, .no, .no, .no, .no] : Dv.Env)) f__law_functions (by rfl) rfl rfl (RS_par2 (η' := fun v1 v2 => ([.frz (eC p0), .frz (PyData.int p1), .own ((eL PyData.int) v1), .own ((eL (eP2 (eT PyData.int) (eT PyData.int))) v2), .no, .no, .no, .no, .no] : Dv.Env)) (RE_lst (by decide) (RL_nil (ea := PyData.int))) (RE_lst (by decide) (RL_nil (ea := (eP2 (eT PyData.int) (eT PyData.int))))) ⟨by decide, by simp⟩ (fun _ _ => rfl) (fun v1 v2 => RS_for (I := fun (s12 : ((List Int) × (List ((List Int) × (List Int))))) η => ∃ j13 j14 j15 : Sl, η = ([.frz (eC p0), .frz (PyData.int p1), .own ((eL PyData.int) s12.1), .own ((eL (eP2 (eT PyData.int) (eT PyData.int))) s12.2), j13, j14, j15, .no, .no] : Dv.Env)) (RT_of rfl (RE_rng1 (RE_bin (ec := PyData.int) (RT_of rfl (RE_con (x := (2 : Int)) (ea := PyData.int) rfl)) (RT_of rfl (RE_call2 (RT_var (x := p0) (ea := eC) rfl) (RT_of rfl (RE_bin (ec := PyData.int) (RT_var (x := p1) (ea := PyData.int) rfl) (RT_of rfl (RE_con (x := (1 : Int)) (ea := PyData.int) rfl)) op_sub_i)) (fun x5 x6 => r__law_take n (by omega) x5 x6) (.inl rfl))) op_add_i))) its_L rfl ⟨_, _, _, rfl⟩ (fun s12 a10 η' hI => by obtain ⟨j13, j14, j15, rfl⟩ := hI; exact ⟨([.frz (eC p0), .frz (PyData.int p1), .own ((eL PyData.int) s12.1), .own ((eL (eP2 (eT PyData.int) (eT PyData.int))) s12.2), .frz (PyData.int a10), j14, j15, .no, .no] : Dv.Env), rfl, RS_app (l := s12.1) (ea := PyData.int) (η' := fun v59 => ([.frz (eC p0), .frz (PyData.int p1), .own ((eL PyData.int) v59), .own ((eL (eP2 (eT PyData.int) (eT PyData.int))) s12.2), .frz (PyData.int a10), j14, j15, .no, .no] : Dv.Env)) rfl (RE_bin (ec := PyData.int) (RT_of rfl (RE_con (x := (2 : Int)) (ea := PyData.int) rfl)) (RT_of rfl (RE_blt1 (eb := PyData.int) (RT_of rfl (RE_cmp (RT_of rfl (RE_call2 (RT_var (x := p0) (ea := eC) rfl) (RT_of rfl (RE_con (x := (4 : Int)) (ea := PyData.int) rfl)) (fun x51 x52 => r__law_take n (by omega) x51 x52) (.inl rfl))) (RT_of rfl (RE_con (x := (0 : Int)) (ea := PyData.int) rfl)) op_eq_i)) op_int_b)) op_add_i) (fun _ => rfl) (fun v59 => RS_set (η' := fun v68 => ([.frz (eC p0), .frz (PyData.int p1), .own ((eL PyData.int) v59), .own ((eL (eP2 (eT PyData.int) (eT PyData.int))) s12.2), .frz (PyData.int a10), .frz ((eT PyData.int) v68), j15, .no, .no] : Dv.Env)) (RE_blt1 (eb := (eT PyData.int)) (RT_of rfl (RE_lcf (ηf := fun a62 => ([.frz (eC p0), .frz (PyData.int p1), .own ((eL PyData.int) v59), .own ((eL (eP2 (eT PyData.int) (eT PyData.int))) s12.2), .frz (PyData.int a10), j14, j15, .frz (PyData.int a62), .no] : Dv.Env)) (RT_of rfl (RE_rng1 (RE_var (x := a10) (ea := PyData.int) rfl))) its_L (fun _ => rfl) (fun a62 => (RC_ce rfl (RCE_bool (RE_cmp (RT_of rfl (RE_call2 (RT_var (x := p0) (ea := eC) rfl) (RT_of rfl (RE_con (x := (3 : Int)) (ea := PyData.int) rfl)) (fun x63 x64 => r__law_take n (by omega) x63 x64) (.inl rfl))) (RT_of rfl (RE_con (x := (0 : Int)) (ea := PyData.int) rfl)) op_gt_i)))) (fun a62 => (RE_var (x := a62) (ea := PyData.int) rfl)))) op_tupL) (Nat.le_of_ble_eq_true rfl) (fun _ => rfl) (fun v68 => RS_set (η' := fun v74 => ([.frz (eC p0), .frz (PyData.int p1), .own ((eL PyData.int) v59), .own ((eL (eP2 (eT PyData.int) (eT PyData.int))) s12.2), .frz (PyData.int a10), .frz ((eT PyData.int) v68), .frz ((eL (eT PyData.int)) v74), .no, .no] : Dv.Env)) (RE_call1 (RT_of rfl (RE_lc (ηf := fun a70 => ([.frz (eC p0), .frz (PyData.int p1), .own ((eL PyData.int) v59), .own ((eL (eP2 (eT PyData.int) (eT PyData.int))) s12.2), .frz (PyData.int a10), .frz ((eT PyData.int) v68), j15, .frz (PyData.int a70), .no] : Dv.Env)) (RT_var (x := v68) (ea := (eT PyData.int)) rfl) its_T (fun _ => rfl) (fun a70 => (RE_idx (ec := PyData.int) (RT_var (x := v59) (ea := (eL PyData.int)) rfl) (RE_var (x := a70) (ea := PyData.int) rfl) op_idxL)))) (fun x73 => r__law_rows n (by omega) x73) (.inl rfl)) (Nat.le_of_ble_eq_true rfl) (fun _ => rfl) (fun v74 => RS_app (l := s12.2) (ea := (eP2 (eT PyData.int) (eT PyData.int))) (η' := fun v85 => ([.frz (eC p0), .frz (PyData.int p1), .own ((eL PyData.int) v59), .own ((eL (eP2 (eT PyData.int) (eT PyData.int))) v85), .frz (PyData.int a10), .frz ((eT PyData.int) v68), .frz ((eL (eT PyData.int)) v74), .no, .no] : Dv.Env)) rfl (RE_tup2 (RE_var (x := v68) (ea := (eT PyData.int)) rfl) (RE_blt1 (eb := (eT PyData.int)) (RT_of rfl (RE_lc (ηf := fun a76 => ([.frz (eC p0), .frz (PyData.int p1), .own ((eL PyData.int) v59), .own ((eL (eP2 (eT PyData.int) (eT PyData.int))) s12.2), .frz (PyData.int a10), .frz ((eT PyData.int) v68), .frz ((eL (eT PyData.int)) v74), .no, .frz ((eT PyData.int) a76)] : Dv.Env)) (RT_var (x := v74) (ea := (eL (eT PyData.int))) rfl) its_L (fun _ => rfl) (fun a76 => (RE_call2 (RT_var (x := p0) (ea := eC) rfl) (RT_of rfl (RE_idx (ec := PyData.int) (RT_var (x := v59) (ea := (eL PyData.int)) rfl) (RE_var (x := a10) (ea := PyData.int) rfl) op_idxL)) (fun x79 x80 => r__law_take n (by omega) x79 x80) (.inl rfl))))) op_tupL)) (fun _ => rfl) (fun v85 => RS_nil (fun _ hS => outL_nx hS ⟨_, _, _, rfl⟩)))))⟩) (fun s86 η' hI => by obtain ⟨j87, j88, j89, rfl⟩ := hI; exact (RS_ret (RT_of rfl (RE_tup2 (RE_blt1 (eb := (eT PyData.int)) (RT_var (x := s86.1) (ea := (eL PyData.int)) rfl) op_tupL) (RE_blt1 (eb := (eT (eP2 (eT PyData.int) (eT PyData.int)))) (RT_var (x := s86.2) (ea := (eL (eP2 (eT PyData.int) (eT PyData.int)))) rfl) op_tupL))) (fun _ _ hS => outD_rt hS nwf)))))
-- _law_values(functions, deed)
def m__law_values (p0 : ((List Int) × (List ((List Int) × (List Int))))) (p1 : (List (Int × Int))) : ND (List Int) :=
  bnd (ret []) fun v1 => bnd (bnd (ret p1) fun x2 => lft (some x2)) fun v3 => bnd (bnd (bnd (bnd (ret p0) fun x4 => ret x4.1) fun x5 => lft (some (List.length x5 : Int))) fun x6 => lft (rngO x6)) fun x8 => bnd (fd (fun (s9 : (List Int)) (a7 : Int) => bnd (bnd (bnd (ret p0) fun x55 => ret x55.2) fun x56 => bnd (ret a7) fun x57 => lft (L2.atI x56 x57)) fun v58 => bnd (ret (0 : Int)) fun v59 => bnd (ret v58.1) fun x61 => bnd (fd (fun (s62 : Int) (a60 : Int) => bnd (bnd (bnd (ret s62) fun x77 => bnd (bnd (bnd (ret p0) fun x74 => ret x74.1) fun x75 => bnd (ret a60) fun x76 => lft (L2.atI x75 x76)) fun x78 => lft (if mulOk x77 x78 then some (x77 * x78) else none)) fun x81 => bnd (bnd (ret s9) fun x79 => bnd (ret a60) fun x80 => lft (L2.atI x79 x80)) fun x82 => lft (some (x81 + x82))) fun v83 => ret v83) v59 x61) fun (s84 : Int) => bnd (bnd (bnd (ret a7) fun x86 => bnd (ret v3) fun x87 => lft (some (look x87 x86).isSome)) fun c88 => if c88 then bnd (ret v3) fun x89 => bnd (ret a7) fun x90 => lft (look x89 x90) else bnd (ret v58.2) fun x91 => bnd (ret s84) fun x92 => lft (L2.atI x91 x92)) fun x93 => bnd (lft (if lineD (List.length s9 + 1) then some (s9 ++ [x93]) else none)) fun v94 => ret v94) v1 x8) fun (s95 : (List Int)) => bnd (bnd (ret s95) fun x101 => lft (some x101)) fun x102 => ret x102
theorem r__law_values (n : Nat) (hn : 1 ≤ n) (p0 : ((List Int) × (List ((List Int) × (List Int))))) (p1 : (List (Int × Int))) : RF (Dv.run Ps G0 n) (Str.ofString "_law_values") [(eP2 (eT PyData.int) (eT (eP2 (eT PyData.int) (eT PyData.int)))) p0, (eT (eP2 PyData.int PyData.int)) p1] (m__law_values p0 p1) (eT PyData.int) false := by
  obtain ⟨n, rfl⟩ : ∃ j, n = j + 1 := ⟨n - 1, by omega⟩
  exact RF_of (η := ([.frz ((eP2 (eT PyData.int) (eT (eP2 (eT PyData.int) (eT PyData.int)))) p0), .frz ((eT (eP2 PyData.int PyData.int)) p1), .no, .no, .no, .no, .no, .no, .no] : Dv.Env)) f__law_values (by rfl) rfl rfl (RS_par2 (η' := fun v1 v3 => ([.frz ((eP2 (eT PyData.int) (eT (eP2 (eT PyData.int) (eT PyData.int)))) p0), .frz ((eT (eP2 PyData.int PyData.int)) p1), .own ((eL PyData.int) v1), .own ((eM PyData.int) v3), .no, .no, .no, .no, .no] : Dv.Env)) (RE_lst (by decide) (RL_nil (ea := PyData.int))) (RE_blt1 (eb := (eM PyData.int)) (RT_var (x := p1) (ea := (eT (eP2 PyData.int PyData.int))) rfl) op_dictT) ⟨by decide, by simp⟩ (fun _ _ => rfl) (fun v1 v3 => RS_for (I := fun (s9 : (List Int)) η => ∃ j10 j11 j12 j13 j14 : Sl, η = ([.frz ((eP2 (eT PyData.int) (eT (eP2 (eT PyData.int) (eT PyData.int)))) p0), .frz ((eT (eP2 PyData.int PyData.int)) p1), .own ((eL PyData.int) s9), .own ((eM PyData.int) v3), j10, j11, j12, j13, j14] : Dv.Env)) (RT_of rfl (RE_rng1 (RE_blt1 (eb := PyData.int) (RT_of rfl (RE_fst (f := fun x4 => x4.1) (eb := (eT PyData.int)) (RT_var (x := p0) (ea := (eP2 (eT PyData.int) (eT (eP2 (eT PyData.int) (eT PyData.int))))) rfl) (fun _ _ => rfl))) op_lenT))) its_L rfl ⟨_, _, _, _, _, rfl⟩ (fun s9 a7 η' hI => by obtain ⟨j10, j11, j12, j13, j14, rfl⟩ := hI; exact ⟨([.frz ((eP2 (eT PyData.int) (eT (eP2 (eT PyData.int) (eT PyData.int)))) p0), .frz ((eT (eP2 PyData.int PyData.int)) p1), .own ((eL PyData.int) s9), .own ((eM PyData.int) v3), .frz (PyData.int a7), j11, j12, j13, j14] : Dv.Env), rfl, RS_unp (η' := fun v58 => ([.frz ((eP2 (eT PyData.int) (eT (eP2 (eT PyData.int) (eT PyData.int)))) p0), .frz ((eT (eP2 PyData.int PyData.int)) p1), .own ((eL PyData.int) s9), .own ((eM PyData.int) v3), .frz (PyData.int a7), .frz ((eT PyData.int) v58.1), .frz ((eT PyData.int) v58.2), j13, j14] : Dv.Env)) (RE_idx (ec := (eP2 (eT PyData.int) (eT PyData.int))) (RT_of rfl (RE_fst (f := fun x55 => x55.2) (eb := (eT (eP2 (eT PyData.int) (eT PyData.int)))) (RT_var (x := p0) (ea := (eP2 (eT PyData.int) (eT (eP2 (eT PyData.int) (eT PyData.int))))) rfl) (fun _ _ => rfl))) (RE_var (x := a7) (ea := PyData.int) rfl) op_idxT) (fun _ => rfl) (fun v58 => RS_set (η' := fun v59 => ([.frz ((eP2 (eT PyData.int) (eT (eP2 (eT PyData.int) (eT PyData.int)))) p0), .frz ((eT (eP2 PyData.int PyData.int)) p1), .own ((eL PyData.int) s9), .own ((eM PyData.int) v3), .frz (PyData.int a7), .frz ((eT PyData.int) v58.1), .frz ((eT PyData.int) v58.2), .frz (PyData.int v59), j14] : Dv.Env)) (RE_con (x := (0 : Int)) (ea := PyData.int) rfl) (Nat.le_of_ble_eq_true rfl) (fun _ => rfl) (fun v59 => RS_for (I := fun (s62 : Int) η => ∃ j63 : Sl, η = ([.frz ((eP2 (eT PyData.int) (eT (eP2 (eT PyData.int) (eT PyData.int)))) p0), .frz ((eT (eP2 PyData.int PyData.int)) p1), .own ((eL PyData.int) s9), .own ((eM PyData.int) v3), .frz (PyData.int a7), .frz ((eT PyData.int) v58.1), .frz ((eT PyData.int) v58.2), .frz (PyData.int s62), j63] : Dv.Env)) (RT_var (x := v58.1) (ea := (eT PyData.int)) rfl) its_T (clE_own _ _) ⟨_, rfl⟩ (fun s62 a60 η' hI => by obtain ⟨j63, rfl⟩ := hI; exact ⟨([.frz ((eP2 (eT PyData.int) (eT (eP2 (eT PyData.int) (eT PyData.int)))) p0), .frz ((eT (eP2 PyData.int PyData.int)) p1), .own ((eL PyData.int) s9), .own ((eM PyData.int) v3), .frz (PyData.int a7), .frz ((eT PyData.int) v58.1), .frz ((eT PyData.int) v58.2), .frz (PyData.int s62), .frz (PyData.int a60)] : Dv.Env), rfl, RS_set (η' := fun v83 => ([.frz ((eP2 (eT PyData.int) (eT (eP2 (eT PyData.int) (eT PyData.int)))) p0), .frz ((eT (eP2 PyData.int PyData.int)) p1), .own ((eL PyData.int) s9), .own ((eM PyData.int) v3), .frz (PyData.int a7), .frz ((eT PyData.int) v58.1), .frz ((eT PyData.int) v58.2), .frz (PyData.int v83), .frz (PyData.int a60)] : Dv.Env)) (RE_bin (ec := PyData.int) (RT_of rfl (RE_bin (ec := PyData.int) (RT_var (x := s62) (ea := PyData.int) rfl) (RT_of rfl (RE_idx (ec := PyData.int) (RT_of rfl (RE_fst (f := fun x74 => x74.1) (eb := (eT PyData.int)) (RT_var (x := p0) (ea := (eP2 (eT PyData.int) (eT (eP2 (eT PyData.int) (eT PyData.int))))) rfl) (fun _ _ => rfl))) (RE_var (x := a60) (ea := PyData.int) rfl) op_idxT)) op_mul_i)) (RT_of rfl (RE_idx (ec := PyData.int) (RT_var (x := s9) (ea := (eL PyData.int)) rfl) (RE_var (x := a60) (ea := PyData.int) rfl) op_idxL)) op_add_i) (Nat.le_of_ble_eq_true rfl) (fun _ => rfl) (fun v83 => RS_nil (fun _ hS => outL_nx hS ⟨_, rfl⟩))⟩) (fun s84 η' hI => by obtain ⟨j85, rfl⟩ := hI; exact (RS_app (l := s9) (ea := PyData.int) (η' := fun v94 => ([.frz ((eP2 (eT PyData.int) (eT (eP2 (eT PyData.int) (eT PyData.int)))) p0), .frz ((eT (eP2 PyData.int PyData.int)) p1), .own ((eL PyData.int) v94), .own ((eM PyData.int) v3), .frz (PyData.int a7), .frz ((eT PyData.int) v58.1), .frz ((eT PyData.int) v58.2), .frz (PyData.int s84), j85] : Dv.Env)) rfl (RE_ite (RC_ce rfl (RCE_bool (RE_cmp (RT_var (x := a7) (ea := PyData.int) rfl) (RT_var (x := v3) (ea := (eM PyData.int)) rfl) op_inM))) (RE_idx (ec := PyData.int) (RT_var (x := v3) (ea := (eM PyData.int)) rfl) (RE_var (x := a7) (ea := PyData.int) rfl) op_idxM) (RE_idx (ec := PyData.int) (RT_var (x := v58.2) (ea := (eT PyData.int)) rfl) (RE_var (x := s84) (ea := PyData.int) rfl) op_idxT)) (fun _ => rfl) (fun v94 => RS_nil (fun _ hS => outL_nx hS ⟨_, _, _, _, _, rfl⟩))))))⟩) (fun s95 η' hI => by obtain ⟨j96, j97, j98, j99, j100, rfl⟩ := hI; exact (RS_ret (RT_of rfl (RE_blt1 (eb := (eT PyData.int)) (RT_var (x := s95) (ea := (eL PyData.int)) rfl) op_tupL)) (fun _ _ hS => outD_rt hS nwf)))))
-- _law_sets(nodes)
def m__law_sets (p0 : (List Int)) : ND (List (List Int)) :=
  bnd (bnd (ret []) fun x1 => bnd (ret []) fun l2 => ret (x1 :: l2)) fun v3 => bnd (ret p0) fun x5 => bnd (fd (fun (s6 : (List (List Int))) (a4 : Int) => bnd (bnd (ret s6) fun x23 => bnd (bnd (ret s6) fun x17 => mp (fun a18 => bnd (ret a18) fun x21 => bnd (bnd (ret a4) fun x19 => bnd (ret []) fun l20 => ret (x19 :: l20)) fun x22 => lft (if lineD (List.length x21 + List.length x22) then some (x21 ++ x22) else none)) x17) fun x24 => lft (if lineD (List.length x23 + List.length x24) then some (x23 ++ x24) else none)) fun v25 => ret v25) v3 x5) fun (s26 : (List (List Int))) => bnd (bnd (ret s26) fun x28 => lft (some (sortE (eT PyData.int) x28))) fun x29 => ret x29
theorem r__law_sets (n : Nat) (hn : 1 ≤ n) (p0 : (List Int)) : RF (Dv.run Ps G0 n) (Str.ofString "_law_sets") [(eL PyData.int) p0] (m__law_sets p0) (eL (eT PyData.int)) true := by
  obtain ⟨n, rfl⟩ : ∃ j, n = j + 1 := ⟨n - 1, by omega⟩
  exact RF_of (η := ([.frz ((eL PyData.int) p0), .no, .no, .no] : Dv.Env)) f__law_sets (by rfl) rfl rfl (RS_set (η' := fun v3 => ([.frz ((eL PyData.int) p0), .own ((eL (eT PyData.int)) v3), .no, .no] : Dv.Env)) (RE_lst (by decide) (RL_cons (RE_tupT (by decide) (RL_nil (ea := PyData.int))) (RL_nil (ea := (eT PyData.int))))) (Nat.le_of_ble_eq_true rfl) (fun _ => rfl) (fun v3 => RS_for (I := fun (s6 : (List (List Int))) η => ∃ j7 : Sl, η = ([.frz ((eL PyData.int) p0), .own ((eL (eT PyData.int)) s6), j7, .no] : Dv.Env)) (RT_var (x := p0) (ea := (eL PyData.int)) rfl) its_L (clE_own _ _) ⟨_, rfl⟩ (fun s6 a4 η' hI => by obtain ⟨j7, rfl⟩ := hI; exact ⟨([.frz ((eL PyData.int) p0), .own ((eL (eT PyData.int)) s6), .frz (PyData.int a4), .no] : Dv.Env), rfl, RS_set (η' := fun v25 => ([.frz ((eL PyData.int) p0), .own ((eL (eT PyData.int)) v25), .frz (PyData.int a4), .no] : Dv.Env)) (RE_bin (ec := (eL (eT PyData.int))) (RT_var (x := s6) (ea := (eL (eT PyData.int))) rfl) (RT_of rfl (RE_lc (ηf := fun a18 => ([.frz ((eL PyData.int) p0), .own ((eL (eT PyData.int)) s6), .frz (PyData.int a4), .frz ((eT PyData.int) a18)] : Dv.Env)) (RT_var (x := s6) (ea := (eL (eT PyData.int))) rfl) its_L (fun _ => rfl) (fun a18 => (RE_bin (ec := (eT PyData.int)) (RT_var (x := a18) (ea := (eT PyData.int)) rfl) (RT_of rfl (RE_tupT (by decide) (RL_cons (RE_var (x := a4) (ea := PyData.int) rfl) (RL_nil (ea := PyData.int))))) op_addT)))) op_addL) (Nat.le_of_ble_eq_true rfl) (fun _ => rfl) (fun v25 => RS_nil (fun _ hS => outL_nx hS ⟨_, rfl⟩))⟩) (fun s26 η' hI => by obtain ⟨j27, rfl⟩ := hI; exact (RS_ret (RT_of rfl (RE_blt1 (eb := (eL (eT PyData.int))) (RT_var (x := s26) (ea := (eL (eT PyData.int))) rfl) (op_srtL (srt_of (dat_T dat_int) (by decide) (alk_T alk_int) (fun _ => rfl))))) (fun _ _ hS => outD_rt hS (fun _ => rfl))))))
-- _law_sets@T(nodes)
def m__law_sets_T (p0 : (List Int)) : ND (List (List Int)) :=
  bnd (bnd (ret []) fun x1 => bnd (ret []) fun l2 => ret (x1 :: l2)) fun v3 => bnd (ret p0) fun x5 => bnd (fd (fun (s6 : (List (List Int))) (a4 : Int) => bnd (bnd (ret s6) fun x23 => bnd (bnd (ret s6) fun x17 => mp (fun a18 => bnd (ret a18) fun x21 => bnd (bnd (ret a4) fun x19 => bnd (ret []) fun l20 => ret (x19 :: l20)) fun x22 => lft (if lineD (List.length x21 + List.length x22) then some (x21 ++ x22) else none)) x17) fun x24 => lft (if lineD (List.length x23 + List.length x24) then some (x23 ++ x24) else none)) fun v25 => ret v25) v3 x5) fun (s26 : (List (List Int))) => bnd (bnd (ret s26) fun x28 => lft (some (sortE (eT PyData.int) x28))) fun x29 => ret x29
theorem r__law_sets_T (n : Nat) (hn : 1 ≤ n) (p0 : (List Int)) : RF (Dv.run Ps G0 n) (Str.ofString "_law_sets") [(eT PyData.int) p0] (m__law_sets_T p0) (eL (eT PyData.int)) true := by
  obtain ⟨n, rfl⟩ : ∃ j, n = j + 1 := ⟨n - 1, by omega⟩
  exact RF_of (η := ([.frz ((eT PyData.int) p0), .no, .no, .no] : Dv.Env)) f__law_sets (by rfl) rfl rfl (RS_set (η' := fun v3 => ([.frz ((eT PyData.int) p0), .own ((eL (eT PyData.int)) v3), .no, .no] : Dv.Env)) (RE_lst (by decide) (RL_cons (RE_tupT (by decide) (RL_nil (ea := PyData.int))) (RL_nil (ea := (eT PyData.int))))) (Nat.le_of_ble_eq_true rfl) (fun _ => rfl) (fun v3 => RS_for (I := fun (s6 : (List (List Int))) η => ∃ j7 : Sl, η = ([.frz ((eT PyData.int) p0), .own ((eL (eT PyData.int)) s6), j7, .no] : Dv.Env)) (RT_var (x := p0) (ea := (eT PyData.int)) rfl) its_T (clE_own _ _) ⟨_, rfl⟩ (fun s6 a4 η' hI => by obtain ⟨j7, rfl⟩ := hI; exact ⟨([.frz ((eT PyData.int) p0), .own ((eL (eT PyData.int)) s6), .frz (PyData.int a4), .no] : Dv.Env), rfl, RS_set (η' := fun v25 => ([.frz ((eT PyData.int) p0), .own ((eL (eT PyData.int)) v25), .frz (PyData.int a4), .no] : Dv.Env)) (RE_bin (ec := (eL (eT PyData.int))) (RT_var (x := s6) (ea := (eL (eT PyData.int))) rfl) (RT_of rfl (RE_lc (ηf := fun a18 => ([.frz ((eT PyData.int) p0), .own ((eL (eT PyData.int)) s6), .frz (PyData.int a4), .frz ((eT PyData.int) a18)] : Dv.Env)) (RT_var (x := s6) (ea := (eL (eT PyData.int))) rfl) its_L (fun _ => rfl) (fun a18 => (RE_bin (ec := (eT PyData.int)) (RT_var (x := a18) (ea := (eT PyData.int)) rfl) (RT_of rfl (RE_tupT (by decide) (RL_cons (RE_var (x := a4) (ea := PyData.int) rfl) (RL_nil (ea := PyData.int))))) op_addT)))) op_addL) (Nat.le_of_ble_eq_true rfl) (fun _ => rfl) (fun v25 => RS_nil (fun _ hS => outL_nx hS ⟨_, rfl⟩))⟩) (fun s26 η' hI => by obtain ⟨j27, rfl⟩ := hI; exact (RS_ret (RT_of rfl (RE_blt1 (eb := (eL (eT PyData.int))) (RT_var (x := s26) (ea := (eL (eT PyData.int))) rfl) (op_srtL (srt_of (dat_T dat_int) (by decide) (alk_T alk_int) (fun _ => rfl))))) (fun _ _ hS => outD_rt hS (fun _ => rfl))))))
-- _law_sets@P(nodes)
def m__law_sets_P (p0 : (List (Int × Int))) : ND (List (List (Int × Int))) :=
  bnd (bnd (ret []) fun x1 => bnd (ret []) fun l2 => ret (x1 :: l2)) fun v3 => bnd (ret p0) fun x5 => bnd (fd (fun (s6 : (List (List (Int × Int)))) (a4 : (Int × Int)) => bnd (bnd (ret s6) fun x23 => bnd (bnd (ret s6) fun x17 => mp (fun a18 => bnd (ret a18) fun x21 => bnd (bnd (ret a4) fun x19 => bnd (ret []) fun l20 => ret (x19 :: l20)) fun x22 => lft (if lineD (List.length x21 + List.length x22) then some (x21 ++ x22) else none)) x17) fun x24 => lft (if lineD (List.length x23 + List.length x24) then some (x23 ++ x24) else none)) fun v25 => ret v25) v3 x5) fun (s26 : (List (List (Int × Int)))) => bnd (bnd (ret s26) fun x28 => lft (some (sortE (eT (eP2 PyData.int PyData.int)) x28))) fun x29 => ret x29
theorem r__law_sets_P (n : Nat) (hn : 1 ≤ n) (p0 : (List (Int × Int))) : RF (Dv.run Ps G0 n) (Str.ofString "_law_sets") [(eT (eP2 PyData.int PyData.int)) p0] (m__law_sets_P p0) (eL (eT (eP2 PyData.int PyData.int))) true := by
  obtain ⟨n, rfl⟩ : ∃ j, n = j + 1 := ⟨n - 1, by omega⟩
  exact RF_of (η := ([.frz ((eT (eP2 PyData.int PyData.int)) p0), .no, .no, .no] : Dv.Env)) f__law_sets (by rfl) rfl rfl (RS_set (η' := fun v3 => ([.frz ((eT (eP2 PyData.int PyData.int)) p0), .own ((eL (eT (eP2 PyData.int PyData.int))) v3), .no, .no] : Dv.Env)) (RE_lst (by decide) (RL_cons (RE_tupT (by decide) (RL_nil (ea := (eP2 PyData.int PyData.int)))) (RL_nil (ea := (eT (eP2 PyData.int PyData.int)))))) (Nat.le_of_ble_eq_true rfl) (fun _ => rfl) (fun v3 => RS_for (I := fun (s6 : (List (List (Int × Int)))) η => ∃ j7 : Sl, η = ([.frz ((eT (eP2 PyData.int PyData.int)) p0), .own ((eL (eT (eP2 PyData.int PyData.int))) s6), j7, .no] : Dv.Env)) (RT_var (x := p0) (ea := (eT (eP2 PyData.int PyData.int))) rfl) its_T (clE_own _ _) ⟨_, rfl⟩ (fun s6 a4 η' hI => by obtain ⟨j7, rfl⟩ := hI; exact ⟨([.frz ((eT (eP2 PyData.int PyData.int)) p0), .own ((eL (eT (eP2 PyData.int PyData.int))) s6), .frz ((eP2 PyData.int PyData.int) a4), .no] : Dv.Env), rfl, RS_set (η' := fun v25 => ([.frz ((eT (eP2 PyData.int PyData.int)) p0), .own ((eL (eT (eP2 PyData.int PyData.int))) v25), .frz ((eP2 PyData.int PyData.int) a4), .no] : Dv.Env)) (RE_bin (ec := (eL (eT (eP2 PyData.int PyData.int)))) (RT_var (x := s6) (ea := (eL (eT (eP2 PyData.int PyData.int)))) rfl) (RT_of rfl (RE_lc (ηf := fun a18 => ([.frz ((eT (eP2 PyData.int PyData.int)) p0), .own ((eL (eT (eP2 PyData.int PyData.int))) s6), .frz ((eP2 PyData.int PyData.int) a4), .frz ((eT (eP2 PyData.int PyData.int)) a18)] : Dv.Env)) (RT_var (x := s6) (ea := (eL (eT (eP2 PyData.int PyData.int)))) rfl) its_L (fun _ => rfl) (fun a18 => (RE_bin (ec := (eT (eP2 PyData.int PyData.int))) (RT_var (x := a18) (ea := (eT (eP2 PyData.int PyData.int))) rfl) (RT_of rfl (RE_tupT (by decide) (RL_cons (RE_var (x := a4) (ea := (eP2 PyData.int PyData.int)) rfl) (RL_nil (ea := (eP2 PyData.int PyData.int)))))) op_addT)))) op_addL) (Nat.le_of_ble_eq_true rfl) (fun _ => rfl) (fun v25 => RS_nil (fun _ hS => outL_nx hS ⟨_, rfl⟩))⟩) (fun s26 η' hI => by obtain ⟨j27, rfl⟩ := hI; exact (RS_ret (RT_of rfl (RE_blt1 (eb := (eL (eT (eP2 PyData.int PyData.int)))) (RT_var (x := s26) (ea := (eL (eT (eP2 PyData.int PyData.int)))) rfl) (op_srtL (srt_of (dat_T (dat_P2 dat_int dat_int)) (by decide) (alk_T (alk_P2 alk_int alk_int)) (fun _ => rfl))))) (fun _ _ hS => outD_rt hS (fun _ => rfl))))))
-- _law_sets@Q(nodes)
def m__law_sets_Q (p0 : (List (Int × Int))) : ND (List (List (Int × Int))) :=
  bnd (bnd (ret []) fun x1 => bnd (ret []) fun l2 => ret (x1 :: l2)) fun v3 => bnd (ret p0) fun x5 => bnd (fd (fun (s6 : (List (List (Int × Int)))) (a4 : (Int × Int)) => bnd (bnd (ret s6) fun x23 => bnd (bnd (ret s6) fun x17 => mp (fun a18 => bnd (ret a18) fun x21 => bnd (bnd (ret a4) fun x19 => bnd (ret []) fun l20 => ret (x19 :: l20)) fun x22 => lft (if lineD (List.length x21 + List.length x22) then some (x21 ++ x22) else none)) x17) fun x24 => lft (if lineD (List.length x23 + List.length x24) then some (x23 ++ x24) else none)) fun v25 => ret v25) v3 x5) fun (s26 : (List (List (Int × Int)))) => bnd (bnd (ret s26) fun x28 => lft (some (sortE (eT (eP2 PyData.int PyData.int)) x28))) fun x29 => ret x29
theorem r__law_sets_Q (n : Nat) (hn : 1 ≤ n) (p0 : (List (Int × Int))) : RF (Dv.run Ps G0 n) (Str.ofString "_law_sets") [(eL (eP2 PyData.int PyData.int)) p0] (m__law_sets_Q p0) (eL (eT (eP2 PyData.int PyData.int))) true := by
  obtain ⟨n, rfl⟩ : ∃ j, n = j + 1 := ⟨n - 1, by omega⟩
  exact RF_of (η := ([.frz ((eL (eP2 PyData.int PyData.int)) p0), .no, .no, .no] : Dv.Env)) f__law_sets (by rfl) rfl rfl (RS_set (η' := fun v3 => ([.frz ((eL (eP2 PyData.int PyData.int)) p0), .own ((eL (eT (eP2 PyData.int PyData.int))) v3), .no, .no] : Dv.Env)) (RE_lst (by decide) (RL_cons (RE_tupT (by decide) (RL_nil (ea := (eP2 PyData.int PyData.int)))) (RL_nil (ea := (eT (eP2 PyData.int PyData.int)))))) (Nat.le_of_ble_eq_true rfl) (fun _ => rfl) (fun v3 => RS_for (I := fun (s6 : (List (List (Int × Int)))) η => ∃ j7 : Sl, η = ([.frz ((eL (eP2 PyData.int PyData.int)) p0), .own ((eL (eT (eP2 PyData.int PyData.int))) s6), j7, .no] : Dv.Env)) (RT_var (x := p0) (ea := (eL (eP2 PyData.int PyData.int))) rfl) its_L (clE_own _ _) ⟨_, rfl⟩ (fun s6 a4 η' hI => by obtain ⟨j7, rfl⟩ := hI; exact ⟨([.frz ((eL (eP2 PyData.int PyData.int)) p0), .own ((eL (eT (eP2 PyData.int PyData.int))) s6), .frz ((eP2 PyData.int PyData.int) a4), .no] : Dv.Env), rfl, RS_set (η' := fun v25 => ([.frz ((eL (eP2 PyData.int PyData.int)) p0), .own ((eL (eT (eP2 PyData.int PyData.int))) v25), .frz ((eP2 PyData.int PyData.int) a4), .no] : Dv.Env)) (RE_bin (ec := (eL (eT (eP2 PyData.int PyData.int)))) (RT_var (x := s6) (ea := (eL (eT (eP2 PyData.int PyData.int)))) rfl) (RT_of rfl (RE_lc (ηf := fun a18 => ([.frz ((eL (eP2 PyData.int PyData.int)) p0), .own ((eL (eT (eP2 PyData.int PyData.int))) s6), .frz ((eP2 PyData.int PyData.int) a4), .frz ((eT (eP2 PyData.int PyData.int)) a18)] : Dv.Env)) (RT_var (x := s6) (ea := (eL (eT (eP2 PyData.int PyData.int)))) rfl) its_L (fun _ => rfl) (fun a18 => (RE_bin (ec := (eT (eP2 PyData.int PyData.int))) (RT_var (x := a18) (ea := (eT (eP2 PyData.int PyData.int))) rfl) (RT_of rfl (RE_tupT (by decide) (RL_cons (RE_var (x := a4) (ea := (eP2 PyData.int PyData.int)) rfl) (RL_nil (ea := (eP2 PyData.int PyData.int)))))) op_addT)))) op_addL) (Nat.le_of_ble_eq_true rfl) (fun _ => rfl) (fun v25 => RS_nil (fun _ hS => outL_nx hS ⟨_, rfl⟩))⟩) (fun s26 η' hI => by obtain ⟨j27, rfl⟩ := hI; exact (RS_ret (RT_of rfl (RE_blt1 (eb := (eL (eT (eP2 PyData.int PyData.int)))) (RT_var (x := s26) (ea := (eL (eT (eP2 PyData.int PyData.int)))) rfl) (op_srtL (srt_of (dat_T (dat_P2 dat_int dat_int)) (by decide) (alk_T (alk_P2 alk_int alk_int)) (fun _ => rfl))))) (fun _ _ hS => outD_rt hS (fun _ => rfl))))))
-- _law_so(functions, deed, event)
def m__law_so (p0 : ((List Int) × (List ((List Int) × (List Int))))) (p1 : (List (Int × Int))) (p2 : (List (Int × Int))) : ND Bool :=
  bnd (bnd (ret p0) fun x3 => bnd (bnd (bnd (ret p1) fun x1 => lft (some (sortE (eP2 PyData.int PyData.int) x1))) fun x2 => lft (some x2)) fun x4 => m__law_values x3 x4) fun v5 => bnd (bnd (bnd (ret p2) fun x6 => mp (fun a7 => bnd (bnd (ret v5) fun x8 => bnd (ret a7.1) fun x9 => lft (L2.atI x8 x9)) fun x10 => bnd (ret a7.2) fun x11 => lft (some (decide (x10 = x11)))) x6) fun x12 => lft (some (List.all x12 id))) fun x13 => ret x13
theorem r__law_so (n : Nat) (hn : 2 ≤ n) (p0 : ((List Int) × (List ((List Int) × (List Int))))) (p1 : (List (Int × Int))) (p2 : (List (Int × Int))) : RF (Dv.run Ps G0 n) (Str.ofString "_law_so") [(eP2 (eT PyData.int) (eT (eP2 (eT PyData.int) (eT PyData.int)))) p0, (eL (eP2 PyData.int PyData.int)) p1, (eT (eP2 PyData.int PyData.int)) p2] (m__law_so p0 p1 p2) PyData.bool false := by
  obtain ⟨n, rfl⟩ : ∃ j, n = j + 1 := ⟨n - 1, by omega⟩
  exact RF_of (η := ([.frz ((eP2 (eT PyData.int) (eT (eP2 (eT PyData.int) (eT PyData.int)))) p0), .frz ((eL (eP2 PyData.int PyData.int)) p1), .frz ((eT (eP2 PyData.int PyData.int)) p2), .no, .no, .no] : Dv.Env)) f__law_so (by rfl) rfl rfl (RS_set (η' := fun v5 => ([.frz ((eP2 (eT PyData.int) (eT (eP2 (eT PyData.int) (eT PyData.int)))) p0), .frz ((eL (eP2 PyData.int PyData.int)) p1), .frz ((eT (eP2 PyData.int PyData.int)) p2), .frz ((eT PyData.int) v5), .no, .no] : Dv.Env)) (RE_call2 (RT_var (x := p0) (ea := (eP2 (eT PyData.int) (eT (eP2 (eT PyData.int) (eT PyData.int))))) rfl) (RT_of rfl (RE_blt1 (eb := (eT (eP2 PyData.int PyData.int))) (RT_of rfl (RE_blt1 (eb := (eL (eP2 PyData.int PyData.int))) (RT_var (x := p1) (ea := (eL (eP2 PyData.int PyData.int))) rfl) (op_srtL (srt_of (dat_P2 dat_int dat_int) (by decide) (alk_P2 alk_int alk_int) (fun _ => rfl))))) op_tupL)) (fun x3 x4 => r__law_values n (by omega) x3 x4) (.inl rfl)) (Nat.le_of_ble_eq_true rfl) (fun _ => rfl) (fun v5 => RS_ret (RT_of rfl (RE_blt1 (eb := PyData.bool) (RT_of rfl (RE_lc (ηf := fun a7 => ([.frz ((eP2 (eT PyData.int) (eT (eP2 (eT PyData.int) (eT PyData.int)))) p0), .frz ((eL (eP2 PyData.int PyData.int)) p1), .frz ((eT (eP2 PyData.int PyData.int)) p2), .frz ((eT PyData.int) v5), .frz (PyData.int a7.1), .frz (PyData.int a7.2)] : Dv.Env)) (RT_var (x := p2) (ea := (eT (eP2 PyData.int PyData.int))) rfl) its_T (fun _ => rfl) (fun a7 => (RE_cmp (RT_of rfl (RE_idx (ec := PyData.int) (RT_var (x := v5) (ea := (eT PyData.int)) rfl) (RE_var (x := a7.1) (ea := PyData.int) rfl) op_idxT)) (RT_var (x := a7.2) (ea := PyData.int) rfl) op_eq_i)))) op_all)) (fun _ _ hS => outD_rt hS nwf)))
-- _law_is_witness(functions, kind, xs, event, other, held)
def m__law_is_witness (p0 : ((List Int) × (List ((List Int) × (List Int))))) (p1 : Str) (p2 : (List Int)) (p3 : (List (Int × Int))) (p4 : (List Int)) (p5 : (List (Int × Int))) : ND Bool :=
  bnd (bnd (ret p0) fun x1 => bnd (ret []) fun x2 => m__law_values x1 x2) fun v3 => bnd (bnd (ret p0) fun x17 => bnd (bnd (bnd (bnd (bnd (ret p2) fun x4 => lft (some (List.length x4 : Int))) fun x5 => lft (rngO x5)) fun x6 => mp (fun a7 => bnd (bnd (ret p2) fun x8 => bnd (ret a7) fun x9 => lft (L2.atI x8 x9)) fun x12 => bnd (bnd (ret p4) fun x10 => bnd (ret a7) fun x11 => lft (L2.atI x10 x11)) fun x13 => ret (x12, x13)) x6) fun x15 => bnd (bnd (ret p5) fun x14 => lft (some x14)) fun x16 => lft (if lineD (List.length x15 + List.length x16) then some (x15 ++ x16) else none)) fun x18 => bnd (ret p3) fun x19 => m__law_so x17 x18 x19) fun c20 => if c20 then bnd (ret false) fun x21 => ret x21 else bnd (bnd (ret p1) fun x22 => bnd (ret (Str.ofString "mended")) fun x23 => lft (cmpD .eq (PyData.str x22) (PyData.str x23))) fun c24 => if c24 then bnd (ret true) fun x25 => ret x25 else bnd (bnd (ret p2) fun x26 => mp (fun a27 => bnd (ret a27) fun x30 => bnd (bnd (ret v3) fun x28 => bnd (ret a27) fun x29 => lft (L2.atI x28 x29)) fun x31 => ret (x30, x31)) x26) fun v32 => bnd (bnd (bnd (bnd (ret v3) fun x33 => lft (some (List.length x33 : Int))) fun x34 => lft (rngO x34)) fun x35 => fm (fun a36 => bnd (bnd (ret a36) fun x41 => bnd (ret p2) fun x42 => lft (some (decide (x41 ∉ x42)))) fun c47 => if c47 then bnd (ret a36) fun x45 => bnd (bnd (ret p5) fun x43 => mp (fun a44 => ret a44.1) x43) fun x46 => lft (some (decide (x45 ∉ x46))) else ret false) (fun a36 => bnd (ret a36) fun x39 => bnd (bnd (ret v3) fun x37 => bnd (ret a36) fun x38 => lft (L2.atI x37 x38)) fun x40 => ret (x39, x40)) x35) fun v48 => bnd (bnd (ret p5) fun x49 => m__law_sets_P x49) fun x51 => bnd (fr (ρ := Bool) (fun (s52 : Unit) (a50 : (List (Int × Int))) => bnd (bnd (ret v48) fun x88 => m__law_sets_Q x88) fun x90 => bnd (fr (ρ := Bool) (fun (s91 : Unit) (a89 : (List (Int × Int))) => bnd (bnd (bnd (ret p0) fun x111 => bnd (bnd (bnd (ret v32) fun x106 => bnd (bnd (ret a50) fun x105 => lft (some x105)) fun x107 => lft (if lineD (List.length x106 + List.length x107) then some (x106 ++ x107) else none)) fun x109 => bnd (bnd (ret a89) fun x108 => lft (some x108)) fun x110 => lft (if lineD (List.length x109 + List.length x110) then some (x109 ++ x110) else none)) fun x112 => bnd (ret p3) fun x113 => m__law_so x111 x112 x113) fun c114 => ret (!c114)) fun c115 => if c115 then bnd (ret false) fun x116 => ret (.inr x116) else ret (.inl ())) () x90) fun w119 => aft w119 (fun (s117 : Unit) => ret (.inl ())) (fun y120 => (.inr y120))) () x51) fun w125 => aft w125 (fun (s121 : Unit) => bnd (ret true) fun x124 => ret x124) (fun y126 => y126)
theorem r__law_is_witness (n : Nat) (hn : 3 ≤ n) (p0 : ((List Int) × (List ((List Int) × (List Int))))) (p1 : Str) (p2 : (List Int)) (p3 : (List (Int × Int))) (p4 : (List Int)) (p5 : (List (Int × Int))) : RF (Dv.run Ps G0 n) (Str.ofString "_law_is_witness") [(eP2 (eT PyData.int) (eT (eP2 (eT PyData.int) (eT PyData.int)))) p0, PyData.str p1, (eT PyData.int) p2, (eT (eP2 PyData.int PyData.int)) p3, (eT PyData.int) p4, (eT (eP2 PyData.int PyData.int)) p5] (m__law_is_witness p0 p1 p2 p3 p4 p5) PyData.bool false := by
  obtain ⟨n, rfl⟩ : ∃ j, n = j + 1 := ⟨n - 1, by omega⟩
  exact RF_of (η := ([.frz ((eP2 (eT PyData.int) (eT (eP2 (eT PyData.int) (eT PyData.int)))) p0), .frz (PyData.str p1), .frz ((eT PyData.int) p2), .frz ((eT (eP2 PyData.int PyData.int)) p3), .frz ((eT PyData.int) p4), .frz ((eT (eP2 PyData.int PyData.int)) p5), .no, .no, .no, .no, .no, .no, .no, .no, .no] : Dv.Env)) f__law_is_witness (by rfl) rfl rfl (RS_set (η' := fun v3 => ([.frz ((eP2 (eT PyData.int) (eT (eP2 (eT PyData.int) (eT PyData.int)))) p0), .frz (PyData.str p1), .frz ((eT PyData.int) p2), .frz ((eT (eP2 PyData.int PyData.int)) p3), .frz ((eT PyData.int) p4), .frz ((eT (eP2 PyData.int PyData.int)) p5), .frz ((eT PyData.int) v3), .no, .no, .no, .no, .no, .no, .no, .no] : Dv.Env)) (RE_call2 (RT_var (x := p0) (ea := (eP2 (eT PyData.int) (eT (eP2 (eT PyData.int) (eT PyData.int))))) rfl) (RT_of rfl (RE_tupT (by decide) (RL_nil (ea := (eP2 PyData.int PyData.int))))) (fun x1 x2 => r__law_values n (by omega) x1 x2) (.inl rfl)) (Nat.le_of_ble_eq_true rfl) (fun _ => rfl) (fun v3 => RS_ife (RC_ce rfl (RCE_bool (RE_call3 (RT_var (x := p0) (ea := (eP2 (eT PyData.int) (eT (eP2 (eT PyData.int) (eT PyData.int))))) rfl) (RT_of rfl (RE_bin (ec := (eL (eP2 PyData.int PyData.int))) (RT_of rfl (RE_lc (ηf := fun a7 => ([.frz ((eP2 (eT PyData.int) (eT (eP2 (eT PyData.int) (eT PyData.int)))) p0), .frz (PyData.str p1), .frz ((eT PyData.int) p2), .frz ((eT (eP2 PyData.int PyData.int)) p3), .frz ((eT PyData.int) p4), .frz ((eT (eP2 PyData.int PyData.int)) p5), .frz ((eT PyData.int) v3), .no, .no, .no, .no, .frz (PyData.int a7), .no, .no, .no] : Dv.Env)) (RT_of rfl (RE_rng1 (RE_blt1 (eb := PyData.int) (RT_var (x := p2) (ea := (eT PyData.int)) rfl) op_lenT))) its_L (fun _ => rfl) (fun a7 => (RE_tup2 (RE_idx (ec := PyData.int) (RT_var (x := p2) (ea := (eT PyData.int)) rfl) (RE_var (x := a7) (ea := PyData.int) rfl) op_idxT) (RE_idx (ec := PyData.int) (RT_var (x := p4) (ea := (eT PyData.int)) rfl) (RE_var (x := a7) (ea := PyData.int) rfl) op_idxT))))) (RT_of rfl (RE_blt1 (eb := (eL (eP2 PyData.int PyData.int))) (RT_var (x := p5) (ea := (eT (eP2 PyData.int PyData.int))) rfl) op_lstT)) op_addL)) (RT_var (x := p3) (ea := (eT (eP2 PyData.int PyData.int))) rfl) (fun x17 x18 x19 => r__law_so n (by omega) x17 x18 x19) (.inl rfl)))) (RS_ret (RT_of rfl (RE_con (x := false) (ea := PyData.bool) rfl)) (fun _ _ hS => outD_rt hS nwf)) (RS_ife (RC_ce rfl (RCE_bool (RE_cmp (RT_var (x := p1) (ea := PyData.str) rfl) (RT_of rfl (RE_con (x := (Str.ofString "mended")) (ea := PyData.str) rfl)) (op_cmpD .eq)))) (RS_ret (RT_of rfl (RE_con (x := true) (ea := PyData.bool) rfl)) (fun _ _ hS => outD_rt hS nwf)) (RS_set (η' := fun v32 => ([.frz ((eP2 (eT PyData.int) (eT (eP2 (eT PyData.int) (eT PyData.int)))) p0), .frz (PyData.str p1), .frz ((eT PyData.int) p2), .frz ((eT (eP2 PyData.int PyData.int)) p3), .frz ((eT PyData.int) p4), .frz ((eT (eP2 PyData.int PyData.int)) p5), .frz ((eT PyData.int) v3), .own ((eL (eP2 PyData.int PyData.int)) v32), .no, .no, .no, .no, .no, .no, .no] : Dv.Env)) (RE_lc (ηf := fun a27 => ([.frz ((eP2 (eT PyData.int) (eT (eP2 (eT PyData.int) (eT PyData.int)))) p0), .frz (PyData.str p1), .frz ((eT PyData.int) p2), .frz ((eT (eP2 PyData.int PyData.int)) p3), .frz ((eT PyData.int) p4), .frz ((eT (eP2 PyData.int PyData.int)) p5), .frz ((eT PyData.int) v3), .no, .no, .no, .no, .no, .frz (PyData.int a27), .no, .no] : Dv.Env)) (RT_var (x := p2) (ea := (eT PyData.int)) rfl) its_T (fun _ => rfl) (fun a27 => (RE_tup2 (RE_var (x := a27) (ea := PyData.int) rfl) (RE_idx (ec := PyData.int) (RT_var (x := v3) (ea := (eT PyData.int)) rfl) (RE_var (x := a27) (ea := PyData.int) rfl) op_idxT)))) (Nat.le_of_ble_eq_true rfl) (fun _ => rfl) (fun v32 => RS_set (η' := fun v48 => ([.frz ((eP2 (eT PyData.int) (eT (eP2 (eT PyData.int) (eT PyData.int)))) p0), .frz (PyData.str p1), .frz ((eT PyData.int) p2), .frz ((eT (eP2 PyData.int PyData.int)) p3), .frz ((eT PyData.int) p4), .frz ((eT (eP2 PyData.int PyData.int)) p5), .frz ((eT PyData.int) v3), .own ((eL (eP2 PyData.int PyData.int)) v32), .own ((eL (eP2 PyData.int PyData.int)) v48), .no, .no, .no, .no, .no, .no] : Dv.Env)) (RE_lcf (ηf := fun a36 => ([.frz ((eP2 (eT PyData.int) (eT (eP2 (eT PyData.int) (eT PyData.int)))) p0), .frz (PyData.str p1), .frz ((eT PyData.int) p2), .frz ((eT (eP2 PyData.int PyData.int)) p3), .frz ((eT PyData.int) p4), .frz ((eT (eP2 PyData.int PyData.int)) p5), .frz ((eT PyData.int) v3), .own ((eL (eP2 PyData.int PyData.int)) v32), .no, .no, .no, .no, .frz (PyData.int a36), .no, .no] : Dv.Env)) (RT_of rfl (RE_rng1 (RE_blt1 (eb := PyData.int) (RT_var (x := v3) (ea := (eT PyData.int)) rfl) op_lenT))) its_L (fun _ => rfl) (fun a36 => (RC_ce rfl (RCE_and rfl (RC_ce rfl (RCE_bool (RE_cmp (RT_var (x := a36) (ea := PyData.int) rfl) (RT_var (x := p2) (ea := (eT PyData.int)) rfl) (op_ninT dat_int (by decide) eqv_int)))) (RCE_bool (RE_cmp (RT_var (x := a36) (ea := PyData.int) rfl) (RT_of rfl (RE_lc (ηf := fun a44 => ([.frz ((eP2 (eT PyData.int) (eT (eP2 (eT PyData.int) (eT PyData.int)))) p0), .frz (PyData.str p1), .frz ((eT PyData.int) p2), .frz ((eT (eP2 PyData.int PyData.int)) p3), .frz ((eT PyData.int) p4), .frz ((eT (eP2 PyData.int PyData.int)) p5), .frz ((eT PyData.int) v3), .own ((eL (eP2 PyData.int PyData.int)) v32), .no, .no, .no, .no, .frz (PyData.int a36), .frz (PyData.int a44.1), .frz (PyData.int a44.2)] : Dv.Env)) (RT_var (x := p5) (ea := (eT (eP2 PyData.int PyData.int))) rfl) its_T (fun _ => rfl) (fun a44 => (RE_var (x := a44.1) (ea := PyData.int) rfl)))) (op_ninL dat_int (by decide) eqv_int)))))) (fun a36 => (RE_tup2 (RE_var (x := a36) (ea := PyData.int) rfl) (RE_idx (ec := PyData.int) (RT_var (x := v3) (ea := (eT PyData.int)) rfl) (RE_var (x := a36) (ea := PyData.int) rfl) op_idxT)))) (Nat.le_of_ble_eq_true rfl) (fun _ => rfl) (fun v48 => RS_forR (I := fun (s52 : Unit) η => ∃ j53 j54 : Sl, η = ([.frz ((eP2 (eT PyData.int) (eT (eP2 (eT PyData.int) (eT PyData.int)))) p0), .frz (PyData.str p1), .frz ((eT PyData.int) p2), .frz ((eT (eP2 PyData.int PyData.int)) p3), .frz ((eT PyData.int) p4), .frz ((eT (eP2 PyData.int PyData.int)) p5), .frz ((eT PyData.int) v3), .own ((eL (eP2 PyData.int PyData.int)) v32), .own ((eL (eP2 PyData.int PyData.int)) v48), j53, j54, .no, .no, .no, .no] : Dv.Env)) (er := PyData.bool) (nwb := false) (RT_of rfl (RE_call1 (RT_var (x := p5) (ea := (eT (eP2 PyData.int PyData.int))) rfl) (fun x49 => r__law_sets_P n (by omega) x49) (.inl rfl))) its_L rfl ⟨_, _, rfl⟩ (fun s52 a50 η' hI => by obtain ⟨j53, j54, rfl⟩ := hI; exact ⟨([.frz ((eP2 (eT PyData.int) (eT (eP2 (eT PyData.int) (eT PyData.int)))) p0), .frz (PyData.str p1), .frz ((eT PyData.int) p2), .frz ((eT (eP2 PyData.int PyData.int)) p3), .frz ((eT PyData.int) p4), .frz ((eT (eP2 PyData.int PyData.int)) p5), .frz ((eT PyData.int) v3), .own ((eL (eP2 PyData.int PyData.int)) v32), .own ((eL (eP2 PyData.int PyData.int)) v48), .frz ((eT (eP2 PyData.int PyData.int)) a50), j54, .no, .no, .no, .no] : Dv.Env), rfl, RS_forR (I := fun (s91 : Unit) η => ∃ j92 : Sl, η = ([.frz ((eP2 (eT PyData.int) (eT (eP2 (eT PyData.int) (eT PyData.int)))) p0), .frz (PyData.str p1), .frz ((eT PyData.int) p2), .frz ((eT (eP2 PyData.int PyData.int)) p3), .frz ((eT PyData.int) p4), .frz ((eT (eP2 PyData.int PyData.int)) p5), .frz ((eT PyData.int) v3), .own ((eL (eP2 PyData.int PyData.int)) v32), .own ((eL (eP2 PyData.int PyData.int)) v48), .frz ((eT (eP2 PyData.int PyData.int)) a50), j92, .no, .no, .no, .no] : Dv.Env)) (er := PyData.bool) (nwb := false) (RT_of rfl (RE_call1 (RT_var (x := v48) (ea := (eL (eP2 PyData.int PyData.int))) rfl) (fun x88 => r__law_sets_Q n (by omega) x88) (.inr (flat_L (fd_T (fd_P2 fd_int fd_int)))))) its_L rfl ⟨_, rfl⟩ (fun s91 a89 η' hI => by obtain ⟨j92, rfl⟩ := hI; exact ⟨([.frz ((eP2 (eT PyData.int) (eT (eP2 (eT PyData.int) (eT PyData.int)))) p0), .frz (PyData.str p1), .frz ((eT PyData.int) p2), .frz ((eT (eP2 PyData.int PyData.int)) p3), .frz ((eT PyData.int) p4), .frz ((eT (eP2 PyData.int PyData.int)) p5), .frz ((eT PyData.int) v3), .own ((eL (eP2 PyData.int PyData.int)) v32), .own ((eL (eP2 PyData.int PyData.int)) v48), .frz ((eT (eP2 PyData.int PyData.int)) a50), .frz ((eT (eP2 PyData.int PyData.int)) a89), .no, .no, .no, .no] : Dv.Env), rfl, RS_ife (RC_ce rfl (RCE_bool (RE_not (RC_ce rfl (RCE_bool (RE_call3 (RT_var (x := p0) (ea := (eP2 (eT PyData.int) (eT (eP2 (eT PyData.int) (eT PyData.int))))) rfl) (RT_of rfl (RE_bin (ec := (eL (eP2 PyData.int PyData.int))) (RT_of rfl (RE_bin (ec := (eL (eP2 PyData.int PyData.int))) (RT_var (x := v32) (ea := (eL (eP2 PyData.int PyData.int))) rfl) (RT_of rfl (RE_blt1 (eb := (eL (eP2 PyData.int PyData.int))) (RT_var (x := a50) (ea := (eT (eP2 PyData.int PyData.int))) rfl) op_lstT)) op_addL)) (RT_of rfl (RE_blt1 (eb := (eL (eP2 PyData.int PyData.int))) (RT_var (x := a89) (ea := (eT (eP2 PyData.int PyData.int))) rfl) op_lstT)) op_addL)) (RT_var (x := p3) (ea := (eT (eP2 PyData.int PyData.int))) rfl) (fun x111 x112 x113 => r__law_so n (by omega) x111 x112 x113) (.inl rfl))))))) (RS_ret (RT_of rfl (RE_con (x := false) (ea := PyData.bool) rfl)) (fun _ _ hS => outR_rt hS nwf)) (RS_nil (fun _ hS => outR_nx hS ⟨_, rfl⟩))⟩) (fun s117 η' hI => by obtain ⟨j118, rfl⟩ := hI; exact (RS_nil (fun _ hS => outR_nx hS ⟨_, _, rfl⟩))) (fun _ _ _ hS hn => outR_rt hS hn)⟩) (fun s121 η' hI => by obtain ⟨j122, j123, rfl⟩ := hI; exact (RS_ret (RT_of rfl (RE_con (x := true) (ea := PyData.bool) rfl)) (fun _ _ hS => outD_rt hS nwf))) (fun _ _ _ hS hn => outD_rt hS hn)))))))
-- _law_witnesses(functions, kind, xs, event)
def m__law_witnesses (p0 : ((List Int) × (List ((List Int) × (List Int))))) (p1 : Str) (p2 : (List Int)) (p3 : (List (Int × Int))) : ND (List ((List Int) × (List (Int × Int)))) :=
  bnd (bnd (ret p0) fun x1 => bnd (ret []) fun x2 => m__law_values x1 x2) fun v3 => bnd (ret []) fun v4 => bnd (bnd (bnd (bnd (ret v3) fun x5 => lft (some (List.length x5 : Int))) fun x6 => lft (rngO x6)) fun x7 => fm (fun a8 => bnd (ret a8) fun x9 => bnd (ret p2) fun x10 => lft (some (decide (x9 ∉ x10)))) (fun a8 => ret a8) x7) fun v11 => bnd (bnd (ret v11) fun x12 => m__law_sets x12) fun x14 => bnd (fd (fun (s15 : (List (Int × (List (Int × Int)) × (List Int)))) (a13 : (List Int)) => bnd (bnd (bnd (ret p1) fun x166 => bnd (ret (Str.ofString "mended")) fun x167 => lft (cmpD .eq (PyData.str x166) (PyData.str x167))) fun c168 => if c168 then bnd (bnd (bnd (ret a13) fun x187 => mp (fun a188 => bnd (ret v3) fun x189 => bnd (ret a188) fun x190 => lft (L2.atI x189 x190)) x187) fun x191 => lft (some x191)) fun x192 => bnd (ret []) fun l193 => ret (x192 :: l193) else bnd (bnd (ret a13) fun x194 => mp (fun a195 => bnd (bnd (ret p0) fun x196 => ret x196.1) fun x197 => bnd (ret a195) fun x198 => lft (L2.atI x197 x198)) x194) fun x199 => m__law_rows x199) fun v200 => bnd (ret v200) fun x202 => bnd (fd (fun (s203 : (List (Int × (List (Int × Int)) × (List Int)))) (a201 : (List Int)) => bnd (bnd (bnd (bnd (bnd (ret a13) fun x257 => lft (some (List.length x257 : Int))) fun x258 => lft (rngO x258)) fun x259 => mp (fun a260 => bnd (bnd (ret a13) fun x261 => bnd (ret a260) fun x262 => lft (L2.atI x261 x262)) fun x265 => bnd (bnd (ret a201) fun x263 => bnd (ret a260) fun x264 => lft (L2.atI x263 x264)) fun x266 => ret (x265, x266)) x259) fun x267 => lft (some x267)) fun v268 => bnd (bnd (bnd (ret p2) fun x269 => mp (fun a270 => bnd (bnd (ret p0) fun x271 => ret x271.1) fun x272 => bnd (ret a270) fun x273 => lft (L2.atI x272 x273)) x269) fun x274 => m__law_rows x274) fun x276 => bnd (fd (fun (s277 : (List (Int × (List (Int × Int)) × (List Int)))) (a275 : (List Int)) => bnd (bnd (ret p0) fun x292 => bnd (ret p1) fun x293 => bnd (ret p2) fun x294 => bnd (ret p3) fun x295 => bnd (ret a275) fun x296 => bnd (ret v268) fun x297 => m__law_is_witness x292 x293 x294 x295 x296 x297) fun c298 => if c298 then bnd (bnd (bnd (ret v268) fun x299 => lft (some (List.length x299 : Int))) fun x300 => bnd (ret v268) fun x301 => bnd (ret a275) fun x302 => ret (x300, x301, x302)) fun x303 => bnd (lft (if lineD (List.length s277 + 1) then some (s277 ++ [x303]) else none)) fun v304 => ret v304 else ret s277) s203 x276) fun (s305 : (List (Int × (List (Int × Int)) × (List Int)))) => ret s305) s15 x202) fun (s307 : (List (Int × (List (Int × Int)) × (List Int)))) => ret s307) v4 x14) fun (s311 : (List (Int × (List (Int × Int)) × (List Int)))) => bnd (bnd (bnd (ret s311) fun x317 => lft (some (sortE (eP3 PyData.int (eT (eP2 PyData.int PyData.int)) (eT PyData.int)) x317))) fun x318 => mp (fun a319 => bnd (ret a319.2.2) fun x320 => bnd (ret a319.2.1) fun x321 => ret (x320, x321)) x318) fun x322 => ret x322
theorem r__law_witnesses (n : Nat) (hn : 4 ≤ n) (p0 : ((List Int) × (List ((List Int) × (List Int))))) (p1 : Str) (p2 : (List Int)) (p3 : (List (Int × Int))) : RF (Dv.run Ps G0 n) (Str.ofString "_law_witnesses") [(eP2 (eT PyData.int) (eT (eP2 (eT PyData.int) (eT PyData.int)))) p0, PyData.str p1, (eT PyData.int) p2, (eT (eP2 PyData.int PyData.int)) p3] (m__law_witnesses p0 p1 p2 p3) (eL (eP2 (eT PyData.int) (eT (eP2 PyData.int PyData.int)))) true := by
  obtain ⟨n, rfl⟩ : ∃ j, n = j + 1 := ⟨n - 1, by omega⟩
  exact RF_of (η := ([.frz ((eP2 (eT PyData.int) (eT (eP2 (eT PyData.int) (eT PyData.int)))) p0), .frz (PyData.str p1), .frz ((eT PyData.int) p2), .frz ((eT (eP2 PyData.int PyData.int)) p3), .no, .no, .no, .no, .no, .no, .no, .no, .no, .no, .no] : Dv.Env)) f__law_witnesses (by rfl) rfl rfl (RS_par2 (η' := fun v3 v4 => ([.frz ((eP2 (eT PyData.int) (eT (eP2 (eT PyData.int) (eT PyData.int)))) p0), .frz (PyData.str p1), .frz ((eT PyData.int) p2), .frz ((eT (eP2 PyData.int PyData.int)) p3), .frz ((eT PyData.int) v3), .own ((eL (eP3 PyData.int (eT (eP2 PyData.int PyData.int)) (eT PyData.int))) v4), .no, .no, .no, .no, .no, .no, .no, .no, .no] : Dv.Env)) (RE_call2 (RT_var (x := p0) (ea := (eP2 (eT PyData.int) (eT (eP2 (eT PyData.int) (eT PyData.int))))) rfl) (RT_of rfl (RE_tupT (by decide) (RL_nil (ea := (eP2 PyData.int PyData.int))))) (fun x1 x2 => r__law_values n (by omega) x1 x2) (.inl rfl)) (RE_lst (by decide) (RL_nil (ea := (eP3 PyData.int (eT (eP2 PyData.int PyData.int)) (eT PyData.int))))) ⟨by decide, by simp⟩ (fun _ _ => rfl) (fun v3 v4 => RS_set (η' := fun v11 => ([.frz ((eP2 (eT PyData.int) (eT (eP2 (eT PyData.int) (eT PyData.int)))) p0), .frz (PyData.str p1), .frz ((eT PyData.int) p2), .frz ((eT (eP2 PyData.int PyData.int)) p3), .frz ((eT PyData.int) v3), .own ((eL (eP3 PyData.int (eT (eP2 PyData.int PyData.int)) (eT PyData.int))) v4), .own ((eL PyData.int) v11), .no, .no, .no, .no, .no, .no, .no, .no] : Dv.Env)) (RE_lcf (ηf := fun a8 => ([.frz ((eP2 (eT PyData.int) (eT (eP2 (eT PyData.int) (eT PyData.int)))) p0), .frz (PyData.str p1), .frz ((eT PyData.int) p2), .frz ((eT (eP2 PyData.int PyData.int)) p3), .frz ((eT PyData.int) v3), .own ((eL (eP3 PyData.int (eT (eP2 PyData.int PyData.int)) (eT PyData.int))) v4), .no, .no, .no, .no, .no, .no, .frz (PyData.int a8), .no, .no] : Dv.Env)) (RT_of rfl (RE_rng1 (RE_blt1 (eb := PyData.int) (RT_var (x := v3) (ea := (eT PyData.int)) rfl) op_lenT))) its_L (fun _ => rfl) (fun a8 => (RC_ce rfl (RCE_bool (RE_cmp (RT_var (x := a8) (ea := PyData.int) rfl) (RT_var (x := p2) (ea := (eT PyData.int)) rfl) (op_ninT dat_int (by decide) eqv_int))))) (fun a8 => (RE_var (x := a8) (ea := PyData.int) rfl))) (Nat.le_of_ble_eq_true rfl) (fun _ => rfl) (fun v11 => RS_for (I := fun (s15 : (List (Int × (List (Int × Int)) × (List Int)))) η => ∃ j16 j17 j18 j19 j20 : Sl, η = ([.frz ((eP2 (eT PyData.int) (eT (eP2 (eT PyData.int) (eT PyData.int)))) p0), .frz (PyData.str p1), .frz ((eT PyData.int) p2), .frz ((eT (eP2 PyData.int PyData.int)) p3), .frz ((eT PyData.int) v3), .own ((eL (eP3 PyData.int (eT (eP2 PyData.int PyData.int)) (eT PyData.int))) s15), .own ((eL PyData.int) v11), j16, j17, j18, j19, j20, .no, .no, .no] : Dv.Env)) (RT_of rfl (RE_call1 (RT_var (x := v11) (ea := (eL PyData.int)) rfl) (fun x12 => r__law_sets n (by omega) x12) (.inr (flat_L (fd_T fd_int))))) its_L rfl ⟨_, _, _, _, _, rfl⟩ (fun s15 a13 η' hI => by obtain ⟨j16, j17, j18, j19, j20, rfl⟩ := hI; exact ⟨([.frz ((eP2 (eT PyData.int) (eT (eP2 (eT PyData.int) (eT PyData.int)))) p0), .frz (PyData.str p1), .frz ((eT PyData.int) p2), .frz ((eT (eP2 PyData.int PyData.int)) p3), .frz ((eT PyData.int) v3), .own ((eL (eP3 PyData.int (eT (eP2 PyData.int PyData.int)) (eT PyData.int))) s15), .own ((eL PyData.int) v11), .frz ((eT PyData.int) a13), j17, j18, j19, j20, .no, .no, .no] : Dv.Env), rfl, RS_set (η' := fun v200 => ([.frz ((eP2 (eT PyData.int) (eT (eP2 (eT PyData.int) (eT PyData.int)))) p0), .frz (PyData.str p1), .frz ((eT PyData.int) p2), .frz ((eT (eP2 PyData.int PyData.int)) p3), .frz ((eT PyData.int) v3), .own ((eL (eP3 PyData.int (eT (eP2 PyData.int PyData.int)) (eT PyData.int))) s15), .own ((eL PyData.int) v11), .frz ((eT PyData.int) a13), .frz ((eL (eT PyData.int)) v200), j18, j19, j20, .no, .no, .no] : Dv.Env)) (RE_ite (RC_ce rfl (RCE_bool (RE_cmp (RT_var (x := p1) (ea := PyData.str) rfl) (RT_of rfl (RE_con (x := (Str.ofString "mended")) (ea := PyData.str) rfl)) (op_cmpD .eq)))) (RE_lst (by decide) (RL_cons (RE_blt1 (eb := (eT PyData.int)) (RT_of rfl (RE_lc (ηf := fun a188 => ([.frz ((eP2 (eT PyData.int) (eT (eP2 (eT PyData.int) (eT PyData.int)))) p0), .frz (PyData.str p1), .frz ((eT PyData.int) p2), .frz ((eT (eP2 PyData.int PyData.int)) p3), .frz ((eT PyData.int) v3), .own ((eL (eP3 PyData.int (eT (eP2 PyData.int PyData.int)) (eT PyData.int))) s15), .own ((eL PyData.int) v11), .frz ((eT PyData.int) a13), j17, j18, j19, j20, .frz (PyData.int a188), .no, .no] : Dv.Env)) (RT_var (x := a13) (ea := (eT PyData.int)) rfl) its_T (fun _ => rfl) (fun a188 => (RE_idx (ec := PyData.int) (RT_var (x := v3) (ea := (eT PyData.int)) rfl) (RE_var (x := a188) (ea := PyData.int) rfl) op_idxT)))) op_tupL) (RL_nil (ea := (eT PyData.int))))) (RE_call1 (RT_of rfl (RE_lc (ηf := fun a195 => ([.frz ((eP2 (eT PyData.int) (eT (eP2 (eT PyData.int) (eT PyData.int)))) p0), .frz (PyData.str p1), .frz ((eT PyData.int) p2), .frz ((eT (eP2 PyData.int PyData.int)) p3), .frz ((eT PyData.int) v3), .own ((eL (eP3 PyData.int (eT (eP2 PyData.int PyData.int)) (eT PyData.int))) s15), .own ((eL PyData.int) v11), .frz ((eT PyData.int) a13), j17, j18, j19, j20, .frz (PyData.int a195), .no, .no] : Dv.Env)) (RT_var (x := a13) (ea := (eT PyData.int)) rfl) its_T (fun _ => rfl) (fun a195 => (RE_idx (ec := PyData.int) (RT_of rfl (RE_fst (f := fun x196 => x196.1) (eb := (eT PyData.int)) (RT_var (x := p0) (ea := (eP2 (eT PyData.int) (eT (eP2 (eT PyData.int) (eT PyData.int))))) rfl) (fun _ _ => rfl))) (RE_var (x := a195) (ea := PyData.int) rfl) op_idxT)))) (fun x199 => r__law_rows n (by omega) x199) (.inl rfl))) (Nat.le_of_ble_eq_true rfl) (fun _ => rfl) (fun v200 => RS_for (I := fun (s203 : (List (Int × (List (Int × Int)) × (List Int)))) η => ∃ j204 j205 j206 : Sl, η = ([.frz ((eP2 (eT PyData.int) (eT (eP2 (eT PyData.int) (eT PyData.int)))) p0), .frz (PyData.str p1), .frz ((eT PyData.int) p2), .frz ((eT (eP2 PyData.int PyData.int)) p3), .frz ((eT PyData.int) v3), .own ((eL (eP3 PyData.int (eT (eP2 PyData.int PyData.int)) (eT PyData.int))) s203), .own ((eL PyData.int) v11), .frz ((eT PyData.int) a13), .frz ((eL (eT PyData.int)) v200), j204, j205, j206, .no, .no, .no] : Dv.Env)) (RT_var (x := v200) (ea := (eL (eT PyData.int))) rfl) its_L (clE_own _ _) ⟨_, _, _, rfl⟩ (fun s203 a201 η' hI => by obtain ⟨j204, j205, j206, rfl⟩ := hI; exact ⟨([.frz ((eP2 (eT PyData.int) (eT (eP2 (eT PyData.int) (eT PyData.int)))) p0), .frz (PyData.str p1), .frz ((eT PyData.int) p2), .frz ((eT (eP2 PyData.int PyData.int)) p3), .frz ((eT PyData.int) v3), .own ((eL (eP3 PyData.int (eT (eP2 PyData.int PyData.int)) (eT PyData.int))) s203), .own ((eL PyData.int) v11), .frz ((eT PyData.int) a13), .frz ((eL (eT PyData.int)) v200), .frz ((eT PyData.int) a201), j205, j206, .no, .no, .no] : Dv.Env), rfl, RS_set (η' := fun v268 => ([.frz ((eP2 (eT PyData.int) (eT (eP2 (eT PyData.int) (eT PyData.int)))) p0), .frz (PyData.str p1), .frz ((eT PyData.int) p2), .frz ((eT (eP2 PyData.int PyData.int)) p3), .frz ((eT PyData.int) v3), .own ((eL (eP3 PyData.int (eT (eP2 PyData.int PyData.int)) (eT PyData.int))) s203), .own ((eL PyData.int) v11), .frz ((eT PyData.int) a13), .frz ((eL (eT PyData.int)) v200), .frz ((eT PyData.int) a201), .frz ((eT (eP2 PyData.int PyData.int)) v268), j206, .no, .no, .no] : Dv.Env)) (RE_blt1 (eb := (eT (eP2 PyData.int PyData.int))) (RT_of rfl (RE_lc (ηf := fun a260 => ([.frz ((eP2 (eT PyData.int) (eT (eP2 (eT PyData.int) (eT PyData.int)))) p0), .frz (PyData.str p1), .frz ((eT PyData.int) p2), .frz ((eT (eP2 PyData.int PyData.int)) p3), .frz ((eT PyData.int) v3), .own ((eL (eP3 PyData.int (eT (eP2 PyData.int PyData.int)) (eT PyData.int))) s203), .own ((eL PyData.int) v11), .frz ((eT PyData.int) a13), .frz ((eL (eT PyData.int)) v200), .frz ((eT PyData.int) a201), j205, j206, .no, .frz (PyData.int a260), .no] : Dv.Env)) (RT_of rfl (RE_rng1 (RE_blt1 (eb := PyData.int) (RT_var (x := a13) (ea := (eT PyData.int)) rfl) op_lenT))) its_L (fun _ => rfl) (fun a260 => (RE_tup2 (RE_idx (ec := PyData.int) (RT_var (x := a13) (ea := (eT PyData.int)) rfl) (RE_var (x := a260) (ea := PyData.int) rfl) op_idxT) (RE_idx (ec := PyData.int) (RT_var (x := a201) (ea := (eT PyData.int)) rfl) (RE_var (x := a260) (ea := PyData.int) rfl) op_idxT))))) op_tupL) (Nat.le_of_ble_eq_true rfl) (fun _ => rfl) (fun v268 => RS_for (I := fun (s277 : (List (Int × (List (Int × Int)) × (List Int)))) η => ∃ j278 : Sl, η = ([.frz ((eP2 (eT PyData.int) (eT (eP2 (eT PyData.int) (eT PyData.int)))) p0), .frz (PyData.str p1), .frz ((eT PyData.int) p2), .frz ((eT (eP2 PyData.int PyData.int)) p3), .frz ((eT PyData.int) v3), .own ((eL (eP3 PyData.int (eT (eP2 PyData.int PyData.int)) (eT PyData.int))) s277), .own ((eL PyData.int) v11), .frz ((eT PyData.int) a13), .frz ((eL (eT PyData.int)) v200), .frz ((eT PyData.int) a201), .frz ((eT (eP2 PyData.int PyData.int)) v268), j278, .no, .no, .no] : Dv.Env)) (RT_of rfl (RE_call1 (RT_of rfl (RE_lc (ηf := fun a270 => ([.frz ((eP2 (eT PyData.int) (eT (eP2 (eT PyData.int) (eT PyData.int)))) p0), .frz (PyData.str p1), .frz ((eT PyData.int) p2), .frz ((eT (eP2 PyData.int PyData.int)) p3), .frz ((eT PyData.int) v3), .own ((eL (eP3 PyData.int (eT (eP2 PyData.int PyData.int)) (eT PyData.int))) s203), .own ((eL PyData.int) v11), .frz ((eT PyData.int) a13), .frz ((eL (eT PyData.int)) v200), .frz ((eT PyData.int) a201), .frz ((eT (eP2 PyData.int PyData.int)) v268), j206, .frz (PyData.int a270), .no, .no] : Dv.Env)) (RT_var (x := p2) (ea := (eT PyData.int)) rfl) its_T (fun _ => rfl) (fun a270 => (RE_idx (ec := PyData.int) (RT_of rfl (RE_fst (f := fun x271 => x271.1) (eb := (eT PyData.int)) (RT_var (x := p0) (ea := (eP2 (eT PyData.int) (eT (eP2 (eT PyData.int) (eT PyData.int))))) rfl) (fun _ _ => rfl))) (RE_var (x := a270) (ea := PyData.int) rfl) op_idxT)))) (fun x274 => r__law_rows n (by omega) x274) (.inl rfl))) its_L rfl ⟨_, rfl⟩ (fun s277 a275 η' hI => by obtain ⟨j278, rfl⟩ := hI; exact ⟨([.frz ((eP2 (eT PyData.int) (eT (eP2 (eT PyData.int) (eT PyData.int)))) p0), .frz (PyData.str p1), .frz ((eT PyData.int) p2), .frz ((eT (eP2 PyData.int PyData.int)) p3), .frz ((eT PyData.int) v3), .own ((eL (eP3 PyData.int (eT (eP2 PyData.int PyData.int)) (eT PyData.int))) s277), .own ((eL PyData.int) v11), .frz ((eT PyData.int) a13), .frz ((eL (eT PyData.int)) v200), .frz ((eT PyData.int) a201), .frz ((eT (eP2 PyData.int PyData.int)) v268), .frz ((eT PyData.int) a275), .no, .no, .no] : Dv.Env), rfl, RS_ife (RC_ce rfl (RCE_bool (RE_call6 (RT_var (x := p0) (ea := (eP2 (eT PyData.int) (eT (eP2 (eT PyData.int) (eT PyData.int))))) rfl) (RT_var (x := p1) (ea := PyData.str) rfl) (RT_var (x := p2) (ea := (eT PyData.int)) rfl) (RT_var (x := p3) (ea := (eT (eP2 PyData.int PyData.int))) rfl) (RT_var (x := a275) (ea := (eT PyData.int)) rfl) (RT_var (x := v268) (ea := (eT (eP2 PyData.int PyData.int))) rfl) (fun x292 x293 x294 x295 x296 x297 => r__law_is_witness n (by omega) x292 x293 x294 x295 x296 x297) (.inl rfl)))) (RS_app (l := s277) (ea := (eP3 PyData.int (eT (eP2 PyData.int PyData.int)) (eT PyData.int))) (η' := fun v304 => ([.frz ((eP2 (eT PyData.int) (eT (eP2 (eT PyData.int) (eT PyData.int)))) p0), .frz (PyData.str p1), .frz ((eT PyData.int) p2), .frz ((eT (eP2 PyData.int PyData.int)) p3), .frz ((eT PyData.int) v3), .own ((eL (eP3 PyData.int (eT (eP2 PyData.int PyData.int)) (eT PyData.int))) v304), .own ((eL PyData.int) v11), .frz ((eT PyData.int) a13), .frz ((eL (eT PyData.int)) v200), .frz ((eT PyData.int) a201), .frz ((eT (eP2 PyData.int PyData.int)) v268), .frz ((eT PyData.int) a275), .no, .no, .no] : Dv.Env)) rfl (RE_tup3 (RE_blt1 (eb := PyData.int) (RT_var (x := v268) (ea := (eT (eP2 PyData.int PyData.int))) rfl) op_lenT) (RE_var (x := v268) (ea := (eT (eP2 PyData.int PyData.int))) rfl) (RE_var (x := a275) (ea := (eT PyData.int)) rfl)) (fun _ => rfl) (fun v304 => RS_nil (fun _ hS => outL_nx hS ⟨_, rfl⟩))) (RS_nil (fun _ hS => outL_nx hS ⟨_, rfl⟩))⟩) (fun s305 η' hI => by obtain ⟨j306, rfl⟩ := hI; exact (RS_nil (fun _ hS => outL_nx hS ⟨_, _, _, rfl⟩))))⟩) (fun s307 η' hI => by obtain ⟨j308, j309, j310, rfl⟩ := hI; exact (RS_nil (fun _ hS => outL_nx hS ⟨_, _, _, _, _, rfl⟩))))⟩) (fun s311 η' hI => by obtain ⟨j312, j313, j314, j315, j316, rfl⟩ := hI; exact (RS_ret (RT_of rfl (RE_lc (ηf := fun a319 => ([.frz ((eP2 (eT PyData.int) (eT (eP2 (eT PyData.int) (eT PyData.int)))) p0), .frz (PyData.str p1), .frz ((eT PyData.int) p2), .frz ((eT (eP2 PyData.int PyData.int)) p3), .frz ((eT PyData.int) v3), .own ((eL (eP3 PyData.int (eT (eP2 PyData.int PyData.int)) (eT PyData.int))) s311), .own ((eL PyData.int) v11), j312, j313, j314, .frz ((eT (eP2 PyData.int PyData.int)) a319.2.1), .frz ((eT PyData.int) a319.2.2), .no, .no, .frz (PyData.int a319.1)] : Dv.Env)) (RT_of rfl (RE_blt1 (eb := (eL (eP3 PyData.int (eT (eP2 PyData.int PyData.int)) (eT PyData.int)))) (RT_var (x := s311) (ea := (eL (eP3 PyData.int (eT (eP2 PyData.int PyData.int)) (eT PyData.int)))) rfl) (op_srtL (srt_of (dat_P3 dat_int (dat_T (dat_P2 dat_int dat_int)) (dat_T dat_int)) (by decide) (alk_P3 alk_int (alk_T (alk_P2 alk_int alk_int)) (alk_T alk_int)) (fun _ => rfl))))) its_L (fun _ => rfl) (fun a319 => (RE_tup2 (RE_var (x := a319.2.2) (ea := (eT PyData.int)) rfl) (RE_var (x := a319.2.1) (ea := (eT (eP2 PyData.int PyData.int))) rfl))))) (fun _ _ hS => outD_rt hS (fun _ => rfl)))))))
-- _law_parts(xs)
def m__law_parts (p0 : (List Int)) : ND (List (Int × (List Int))) :=
  bnd (bnd (bnd (bnd (ret p0) fun x1 => m__law_sets_T x1) fun x2 => fm (fun a3 => bnd (ret (0 : Int)) fun x9 => bnd (bnd (ret a3) fun x7 => lft (some (List.length x7 : Int))) fun x10 => bnd (lft (some (decide (x9 < x10)))) fun c12 => if c12 then bnd (bnd (ret p0) fun x8 => lft (some (List.length x8 : Int))) fun x11 => lft (some (decide (x10 < x11))) else ret false) (fun a3 => bnd (bnd (ret a3) fun x4 => lft (some (List.length x4 : Int))) fun x5 => bnd (ret a3) fun x6 => ret (x5, x6)) x2) fun x13 => lft (some (sortE (eP2 PyData.int (eT PyData.int)) x13))) fun x14 => ret x14
theorem r__law_parts (n : Nat) (hn : 2 ≤ n) (p0 : (List Int)) : RF (Dv.run Ps G0 n) (Str.ofString "_law_parts") [(eT PyData.int) p0] (m__law_parts p0) (eL (eP2 PyData.int (eT PyData.int))) true := by
  obtain ⟨n, rfl⟩ : ∃ j, n = j + 1 := ⟨n - 1, by omega⟩
  exact RF_of (η := ([.frz ((eT PyData.int) p0), .no] : Dv.Env)) f__law_parts (by rfl) rfl rfl (RS_ret (RT_of rfl (RE_blt1 (eb := (eL (eP2 PyData.int (eT PyData.int)))) (RT_of rfl (RE_lcf (ηf := fun a3 => ([.frz ((eT PyData.int) p0), .frz ((eT PyData.int) a3)] : Dv.Env)) (RT_of rfl (RE_call1 (RT_var (x := p0) (ea := (eT PyData.int)) rfl) (fun x1 => r__law_sets_T n (by omega) x1) (.inl rfl))) its_L (fun _ => rfl) (fun a3 => (RC_ce rfl (RCE_bool (RE_chain (RE_con (x := (0 : Int)) (ea := PyData.int) rfl) (RE_blt1 (eb := PyData.int) (RT_var (x := a3) (ea := (eT PyData.int)) rfl) op_lenT) (RE_blt1 (eb := PyData.int) (RT_var (x := p0) (ea := (eT PyData.int)) rfl) op_lenT) op_lt_i op_lt_i)))) (fun a3 => (RE_tup2 (RE_blt1 (eb := PyData.int) (RT_var (x := a3) (ea := (eT PyData.int)) rfl) op_lenT) (RE_var (x := a3) (ea := (eT PyData.int)) rfl))))) (op_srtL (srt_of (dat_P2 dat_int (dat_T dat_int)) (by decide) (alk_P2 alk_int (alk_T alk_int)) (fun _ => rfl))))) (fun _ _ hS => outD_rt hS (fun _ => rfl)))
-- _law_cause(functions, kind, xs, event)
def m__law_cause (p0 : ((List Int) × (List ((List Int) × (List Int))))) (p1 : Str) (p2 : (List Int)) (p3 : (List (Int × Int))) : ND D :=
  bnd (bnd (bnd (ret p0) fun x1 => bnd (ret []) fun x2 => bnd (ret p3) fun x3 => m__law_so x1 x2 x3) fun c4 => ret (!c4)) fun c5 => if c5 then bnd (bnd (bnd (ret (Str.ofString "false")) fun x6 => bnd (ret []) fun l7 => ret (PyData.str x6 :: l7)) fun l8 => lft (if lineD l8.length then some (PyData.tuple l8) else none)) fun x9 => ret x9 else bnd (bnd (ret p2) fun x10 => m__law_parts x10) fun x12 => bnd (fr (ρ := D) (fun (s13 : Unit) (a11 : (Int × (List Int))) => bnd (bnd (ret p0) fun x34 => bnd (ret p1) fun x35 => bnd (ret a11.2) fun x36 => bnd (ret p3) fun x37 => m__law_witnesses x34 x35 x36 x37) fun v38 => bnd (bnd (ret v38) fun x39 => ret (!(x39).isEmpty)) fun c40 => if c40 then bnd (bnd (bnd (bnd (ret (Str.ofString "less")) fun x45 => bnd (bnd (ret a11.2) fun x43 => bnd (ret []) fun l44 => ret ((eT PyData.int) x43 :: l44)) fun l46 => ret (PyData.str x45 :: l46)) fun l47 => lft (if lineD l47.length then some (PyData.tuple l47) else none)) fun x48 => bnd (bnd (ret v38) fun x41 => bnd (ret (0 : Int)) fun x42 => lft (L2.atI x41 x42)) fun x49 => lft (binD .add (eD x48) ((eP2 (eT PyData.int) (eT (eP2 PyData.int PyData.int))) x49))) fun x50 => ret (.inr x50) else ret (.inl ())) () x12) fun w73 => aft w73 (fun (s51 : Unit) => bnd (bnd (ret p0) fun x55 => bnd (ret p1) fun x56 => bnd (ret p2) fun x57 => bnd (ret p3) fun x58 => m__law_witnesses x55 x56 x57 x58) fun v59 => bnd (bnd (bnd (ret v59) fun x60 => ret (!(x60).isEmpty)) fun c61 => if c61 then bnd (bnd (bnd (ret (Str.ofString "cause")) fun x64 => bnd (ret []) fun l65 => ret (PyData.str x64 :: l65)) fun l66 => lft (if lineD l66.length then some (PyData.tuple l66) else none)) fun x67 => bnd (bnd (ret v59) fun x62 => bnd (ret (0 : Int)) fun x63 => lft (L2.atI x62 x63)) fun x68 => lft (binD .add (eD x67) ((eP2 (eT PyData.int) (eT (eP2 PyData.int PyData.int))) x68)) else bnd (bnd (ret (Str.ofString "no")) fun x69 => bnd (ret []) fun l70 => ret (PyData.str x69 :: l70)) fun l71 => lft (if lineD l71.length then some (PyData.tuple l71) else none)) fun x72 => ret x72) (fun y74 => y74)
theorem r__law_cause (n : Nat) (hn : 5 ≤ n) (p0 : ((List Int) × (List ((List Int) × (List Int))))) (p1 : Str) (p2 : (List Int)) (p3 : (List (Int × Int))) : RF (Dv.run Ps G0 n) (Str.ofString "_law_cause") [(eP2 (eT PyData.int) (eT (eP2 (eT PyData.int) (eT PyData.int)))) p0, PyData.str p1, (eT PyData.int) p2, (eT (eP2 PyData.int PyData.int)) p3] (m__law_cause p0 p1 p2 p3) eD false := by
  obtain ⟨n, rfl⟩ : ∃ j, n = j + 1 := ⟨n - 1, by omega⟩
  exact RF_of (η := ([.frz ((eP2 (eT PyData.int) (eT (eP2 (eT PyData.int) (eT PyData.int)))) p0), .frz (PyData.str p1), .frz ((eT PyData.int) p2), .frz ((eT (eP2 PyData.int PyData.int)) p3), .no, .no, .no] : Dv.Env)) f__law_cause (by rfl) rfl rfl (RS_ife (RC_ce rfl (RCE_bool (RE_not (RC_ce rfl (RCE_bool (RE_call3 (RT_var (x := p0) (ea := (eP2 (eT PyData.int) (eT (eP2 (eT PyData.int) (eT PyData.int))))) rfl) (RT_of rfl (RE_lst (by decide) (RL_nil (ea := (eP2 PyData.int PyData.int))))) (RT_var (x := p3) (ea := (eT (eP2 PyData.int PyData.int))) rfl) (fun x1 x2 x3 => r__law_so n (by omega) x1 x2 x3) (.inl rfl))))))) (RS_ret (RT_of rfl (RE_tupD (RLD_cons (RE_con (x := (Str.ofString "false")) (ea := PyData.str) rfl) RLD_nil))) (fun _ _ hS => outD_rt hS nwf)) (RS_forR (I := fun (s13 : Unit) η => ∃ j14 j15 j16 : Sl, η = ([.frz ((eP2 (eT PyData.int) (eT (eP2 (eT PyData.int) (eT PyData.int)))) p0), .frz (PyData.str p1), .frz ((eT PyData.int) p2), .frz ((eT (eP2 PyData.int PyData.int)) p3), j14, j15, j16] : Dv.Env)) (er := eD) (nwb := false) (RT_of rfl (RE_call1 (RT_var (x := p2) (ea := (eT PyData.int)) rfl) (fun x10 => r__law_parts n (by omega) x10) (.inl rfl))) its_L rfl ⟨_, _, _, rfl⟩ (fun s13 a11 η' hI => by obtain ⟨j14, j15, j16, rfl⟩ := hI; exact ⟨([.frz ((eP2 (eT PyData.int) (eT (eP2 (eT PyData.int) (eT PyData.int)))) p0), .frz (PyData.str p1), .frz ((eT PyData.int) p2), .frz ((eT (eP2 PyData.int PyData.int)) p3), .frz (PyData.int a11.1), .frz ((eT PyData.int) a11.2), j16] : Dv.Env), rfl, RS_set (η' := fun v38 => ([.frz ((eP2 (eT PyData.int) (eT (eP2 (eT PyData.int) (eT PyData.int)))) p0), .frz (PyData.str p1), .frz ((eT PyData.int) p2), .frz ((eT (eP2 PyData.int PyData.int)) p3), .frz (PyData.int a11.1), .frz ((eT PyData.int) a11.2), .frz ((eL (eP2 (eT PyData.int) (eT (eP2 PyData.int PyData.int)))) v38)] : Dv.Env)) (RE_call4 (RT_var (x := p0) (ea := (eP2 (eT PyData.int) (eT (eP2 (eT PyData.int) (eT PyData.int))))) rfl) (RT_var (x := p1) (ea := PyData.str) rfl) (RT_var (x := a11.2) (ea := (eT PyData.int)) rfl) (RT_var (x := p3) (ea := (eT (eP2 PyData.int PyData.int))) rfl) (fun x34 x35 x36 x37 => r__law_witnesses n (by omega) x34 x35 x36 x37) (.inl rfl)) (Nat.le_of_ble_eq_true rfl) (fun _ => rfl) (fun v38 => RS_ife (RC_of (RT_var (x := v38) (ea := (eL (eP2 (eT PyData.int) (eT (eP2 PyData.int PyData.int))))) rfl) (fun x39 => !(x39).isEmpty) tr_L) (RS_ret (RT_of rfl (RE_bin (ec := eD) (RT_of rfl (RE_tupD (RLD_cons (RE_con (x := (Str.ofString "less")) (ea := PyData.str) rfl) (RLD_cons (RE_var (x := a11.2) (ea := (eT PyData.int)) rfl) RLD_nil)))) (RT_of rfl (RE_idx (ec := (eP2 (eT PyData.int) (eT (eP2 PyData.int PyData.int)))) (RT_var (x := v38) (ea := (eL (eP2 (eT PyData.int) (eT (eP2 PyData.int PyData.int))))) rfl) (RE_con (x := (0 : Int)) (ea := PyData.int) rfl) op_idxL)) (op_binD .add))) (fun _ _ hS => outR_rt hS nwf)) (RS_nil (fun _ hS => outR_nx hS ⟨_, _, _, rfl⟩)))⟩) (fun s51 η' hI => by obtain ⟨j52, j53, j54, rfl⟩ := hI; exact (RS_set (η' := fun v59 => ([.frz ((eP2 (eT PyData.int) (eT (eP2 (eT PyData.int) (eT PyData.int)))) p0), .frz (PyData.str p1), .frz ((eT PyData.int) p2), .frz ((eT (eP2 PyData.int PyData.int)) p3), j52, j53, .frz ((eL (eP2 (eT PyData.int) (eT (eP2 PyData.int PyData.int)))) v59)] : Dv.Env)) (RE_call4 (RT_var (x := p0) (ea := (eP2 (eT PyData.int) (eT (eP2 (eT PyData.int) (eT PyData.int))))) rfl) (RT_var (x := p1) (ea := PyData.str) rfl) (RT_var (x := p2) (ea := (eT PyData.int)) rfl) (RT_var (x := p3) (ea := (eT (eP2 PyData.int PyData.int))) rfl) (fun x55 x56 x57 x58 => r__law_witnesses n (by omega) x55 x56 x57 x58) (.inl rfl)) (Nat.le_of_ble_eq_true rfl) (fun _ => rfl) (fun v59 => RS_ret (RT_of rfl (RE_ite (RC_of (RT_var (x := v59) (ea := (eL (eP2 (eT PyData.int) (eT (eP2 PyData.int PyData.int))))) rfl) (fun x60 => !(x60).isEmpty) tr_L) (RE_bin (ec := eD) (RT_of rfl (RE_tupD (RLD_cons (RE_con (x := (Str.ofString "cause")) (ea := PyData.str) rfl) RLD_nil))) (RT_of rfl (RE_idx (ec := (eP2 (eT PyData.int) (eT (eP2 PyData.int PyData.int)))) (RT_var (x := v59) (ea := (eL (eP2 (eT PyData.int) (eT (eP2 PyData.int PyData.int))))) rfl) (RE_con (x := (0 : Int)) (ea := PyData.int) rfl) op_idxL)) (op_binD .add)) (RE_tupD (RLD_cons (RE_con (x := (Str.ofString "no")) (ea := PyData.str) rfl) RLD_nil)))) (fun _ _ hS => outD_rt hS nwf)))) (fun _ _ _ hS hn => outD_rt hS hn)))
-- _law_event(c, functions)
def m__law_event (p0 : Unit) (p1 : ((List Int) × (List ((List Int) × (List Int))))) : ND (List (Int × Int)) :=
  bnd (bnd (ret p1) fun x1 => bnd (ret []) fun x2 => m__law_values x1 x2) fun v3 => bnd (bnd (bnd (ret p1) fun x4 => ret x4.1) fun x5 => lft (some (List.length x5 : Int))) fun v6 => bnd (bnd (bnd (bnd (bnd (ret (1 : Int)) fun x9 => bnd (bnd (ret p0) fun x7 => bnd (ret (2 : Int)) fun x8 => m__law_take x7 x8) fun x10 => lft (some (x9 + x10))) fun x11 => lft (rngO x11)) fun x12 => mp (fun a13 => bnd (bnd (ret v6) fun x14 => bnd (ret (1 : Int)) fun x15 => lft (some (x14 - x15))) fun x18 => bnd (bnd (ret p0) fun x16 => bnd (ret v6) fun x17 => m__law_take x16 x17) fun x19 => lft (some (x18 - x19))) x12) fun x20 => lft (if List.length x20 < 64 then some (sortU x20) else none)) fun v21 => bnd (bnd (bnd (ret v21) fun x22 => mp (fun a23 => bnd (ret a23) fun x36 => bnd (bnd (bnd (bnd (ret p0) fun x24 => bnd (ret (8 : Int)) fun x25 => m__law_take x24 x25) fun x26 => bnd (ret (0 : Int)) fun x27 => lft (some (decide (x27 < x26)))) fun c28 => if c28 then bnd (ret v3) fun x29 => bnd (ret a23) fun x30 => lft (L2.atI x29 x30) else bnd (ret p0) fun x34 => bnd (bnd (bnd (ret p1) fun x31 => ret x31.1) fun x32 => bnd (ret a23) fun x33 => lft (L2.atI x32 x33)) fun x35 => m__law_take x34 x35) fun x37 => ret (x36, x37)) x22) fun x38 => lft (some x38)) fun x39 => ret x39
theorem r__law_event (n : Nat) (hn : 3 ≤ n) (p0 : Unit) (p1 : ((List Int) × (List ((List Int) × (List Int))))) : RF (Dv.run Ps G0 n) (Str.ofString "_law_event") [eC p0, (eP2 (eT PyData.int) (eT (eP2 (eT PyData.int) (eT PyData.int)))) p1] (m__law_event p0 p1) (eT (eP2 PyData.int PyData.int)) false := by
  obtain ⟨n, rfl⟩ : ∃ j, n = j + 1 := ⟨n - 1, by omega⟩
  exact RF_of (η := ([.frz (eC p0), .frz ((eP2 (eT PyData.int) (eT (eP2 (eT PyData.int) (eT PyData.int)))) p1), .no, .no, .no, .no, .no] : Dv.Env)) f__law_event (by rfl) rfl rfl (RS_par2 (η' := fun v3 v6 => ([.frz (eC p0), .frz ((eP2 (eT PyData.int) (eT (eP2 (eT PyData.int) (eT PyData.int)))) p1), .frz ((eT PyData.int) v3), .frz (PyData.int v6), .no, .no, .no] : Dv.Env)) (RE_call2 (RT_var (x := p1) (ea := (eP2 (eT PyData.int) (eT (eP2 (eT PyData.int) (eT PyData.int))))) rfl) (RT_of rfl (RE_tupT (by decide) (RL_nil (ea := (eP2 PyData.int PyData.int))))) (fun x1 x2 => r__law_values n (by omega) x1 x2) (.inl rfl)) (RE_blt1 (eb := PyData.int) (RT_of rfl (RE_fst (f := fun x4 => x4.1) (eb := (eT PyData.int)) (RT_var (x := p1) (ea := (eP2 (eT PyData.int) (eT (eP2 (eT PyData.int) (eT PyData.int))))) rfl) (fun _ _ => rfl))) op_lenT) ⟨by decide, by simp⟩ (fun _ _ => rfl) (fun v3 v6 => RS_set (η' := fun v21 => ([.frz (eC p0), .frz ((eP2 (eT PyData.int) (eT (eP2 (eT PyData.int) (eT PyData.int)))) p1), .frz ((eT PyData.int) v3), .frz (PyData.int v6), .own ((eL PyData.int) v21), .no, .no] : Dv.Env)) (RE_blt1 (eb := (eL PyData.int)) (RT_of rfl (RE_lc (ηf := fun a13 => ([.frz (eC p0), .frz ((eP2 (eT PyData.int) (eT (eP2 (eT PyData.int) (eT PyData.int)))) p1), .frz ((eT PyData.int) v3), .frz (PyData.int v6), .no, .frz (PyData.int a13), .no] : Dv.Env)) (RT_of rfl (RE_rng1 (RE_bin (ec := PyData.int) (RT_of rfl (RE_con (x := (1 : Int)) (ea := PyData.int) rfl)) (RT_of rfl (RE_call2 (RT_var (x := p0) (ea := eC) rfl) (RT_of rfl (RE_con (x := (2 : Int)) (ea := PyData.int) rfl)) (fun x7 x8 => r__law_take n (by omega) x7 x8) (.inl rfl))) op_add_i))) its_L (fun _ => rfl) (fun a13 => (RE_bin (ec := PyData.int) (RT_of rfl (RE_bin (ec := PyData.int) (RT_var (x := v6) (ea := PyData.int) rfl) (RT_of rfl (RE_con (x := (1 : Int)) (ea := PyData.int) rfl)) op_sub_i)) (RT_of rfl (RE_call2 (RT_var (x := p0) (ea := eC) rfl) (RT_var (x := v6) (ea := PyData.int) rfl) (fun x16 x17 => r__law_take n (by omega) x16 x17) (.inl rfl))) op_sub_i)))) op_sset) (Nat.le_of_ble_eq_true rfl) (fun _ => rfl) (fun v21 => RS_ret (RT_of rfl (RE_blt1 (eb := (eT (eP2 PyData.int PyData.int))) (RT_of rfl (RE_lc (ηf := fun a23 => ([.frz (eC p0), .frz ((eP2 (eT PyData.int) (eT (eP2 (eT PyData.int) (eT PyData.int)))) p1), .frz ((eT PyData.int) v3), .frz (PyData.int v6), .own ((eL PyData.int) v21), .no, .frz (PyData.int a23)] : Dv.Env)) (RT_var (x := v21) (ea := (eL PyData.int)) rfl) its_L (fun _ => rfl) (fun a23 => (RE_tup2 (RE_var (x := a23) (ea := PyData.int) rfl) (RE_ite (RC_ce rfl (RCE_bool (RE_cmp (RT_of rfl (RE_call2 (RT_var (x := p0) (ea := eC) rfl) (RT_of rfl (RE_con (x := (8 : Int)) (ea := PyData.int) rfl)) (fun x24 x25 => r__law_take n (by omega) x24 x25) (.inl rfl))) (RT_of rfl (RE_con (x := (0 : Int)) (ea := PyData.int) rfl)) op_gt_i))) (RE_idx (ec := PyData.int) (RT_var (x := v3) (ea := (eT PyData.int)) rfl) (RE_var (x := a23) (ea := PyData.int) rfl) op_idxT) (RE_call2 (RT_var (x := p0) (ea := eC) rfl) (RT_of rfl (RE_idx (ec := PyData.int) (RT_of rfl (RE_fst (f := fun x31 => x31.1) (eb := (eT PyData.int)) (RT_var (x := p1) (ea := (eP2 (eT PyData.int) (eT (eP2 (eT PyData.int) (eT PyData.int))))) rfl) (fun _ _ => rfl))) (RE_var (x := a23) (ea := PyData.int) rfl) op_idxT)) (fun x34 x35 => r__law_take n (by omega) x34 x35) (.inl rfl))))))) op_tupL)) (fun _ _ hS => outD_rt hS nwf))))
-- _law_duty(functions, x, event)
def m__law_duty (p0 : ((List Int) × (List ((List Int) × (List Int))))) (p1 : Int) (p2 : (List (Int × Int))) : ND (Int × Int) :=
  bnd (ret []) fun v1 => bnd (bnd (bnd (bnd (bnd (ret p0) fun x17 => ret x17.1) fun x18 => lft (some (List.length x18 : Int))) fun x19 => lft (rngO x19)) fun x20 => m__law_sets x20) fun x22 => bnd (fd (fun (s23 : (List Int)) (a21 : (List Int)) => bnd (bnd (bnd (ret p1) fun x50 => bnd (ret a21) fun x51 => lft (some (decide (x50 ∈ x51)))) fun c60 => if c60 then bnd (bnd (bnd (ret p0) fun x52 => bnd (ret (Str.ofString "mended")) fun x53 => bnd (ret a21) fun x54 => bnd (ret p2) fun x55 => m__law_cause x52 x53 x54 x55) fun x56 => bnd (ret (0 : Int)) fun x57 => lft (idxV (eD x56) (PyData.int x57))) fun x58 => bnd (ret (Str.ofString "cause")) fun x59 => lft (cmpD .eq (eD x58) (PyData.str x59)) else ret false) fun c61 => if c61 then bnd (bnd (ret s23) fun x72 => bnd (bnd (bnd (ret p0) fun x62 => bnd (ret (Str.ofString "mended")) fun x63 => bnd (ret a21) fun x64 => bnd (ret p2) fun x65 => m__law_witnesses x62 x63 x64 x65) fun x66 => mp (fun a67 => bnd (bnd (ret a21) fun x68 => lft (some (List.length x68 : Int))) fun x70 => bnd (bnd (ret a67.2) fun x69 => lft (some (List.length x69 : Int))) fun x71 => lft (some (x70 + x71))) x66) fun x73 => lft (if lineD (List.length x72 + List.length x73) then some (x72 ++ x73) else none)) fun v74 => ret v74 else ret s23) v1 x22) fun (s75 : (List Int)) => bnd (bnd (bnd (ret s75) fun x77 => ret (!(x77).isEmpty)) fun c78 => if c78 then bnd (ret (1 : Int)) fun x80 => bnd (bnd (ret s75) fun x79 => lft (List.min? x79)) fun x81 => ret (x80, x81) else bnd (ret (0 : Int)) fun x82 => bnd (ret (1 : Int)) fun x83 => ret (x82, x83)) fun x84 => ret x84
theorem r__law_duty (n : Nat) (hn : 6 ≤ n) (p0 : ((List Int) × (List ((List Int) × (List Int))))) (p1 : Int) (p2 : (List (Int × Int))) : RF (Dv.run Ps G0 n) (Str.ofString "_law_duty") [(eP2 (eT PyData.int) (eT (eP2 (eT PyData.int) (eT PyData.int)))) p0, PyData.int p1, (eT (eP2 PyData.int PyData.int)) p2] (m__law_duty p0 p1 p2) (eP2 PyData.int PyData.int) false := by
  obtain ⟨n, rfl⟩ : ∃ j, n = j + 1 := ⟨n - 1, by omega⟩
  exact RF_of (η := ([.frz ((eP2 (eT PyData.int) (eT (eP2 (eT PyData.int) (eT PyData.int)))) p0), .frz (PyData.int p1), .frz ((eT (eP2 PyData.int PyData.int)) p2), .no, .no, .no, .no] : Dv.Env)) f__law_duty (by rfl) rfl rfl (RS_set (η' := fun v1 => ([.frz ((eP2 (eT PyData.int) (eT (eP2 (eT PyData.int) (eT PyData.int)))) p0), .frz (PyData.int p1), .frz ((eT (eP2 PyData.int PyData.int)) p2), .own ((eL PyData.int) v1), .no, .no, .no] : Dv.Env)) (RE_lst (by decide) (RL_nil (ea := PyData.int))) (Nat.le_of_ble_eq_true rfl) (fun _ => rfl) (fun v1 => RS_for (I := fun (s23 : (List Int)) η => ∃ j24 : Sl, η = ([.frz ((eP2 (eT PyData.int) (eT (eP2 (eT PyData.int) (eT PyData.int)))) p0), .frz (PyData.int p1), .frz ((eT (eP2 PyData.int PyData.int)) p2), .own ((eL PyData.int) s23), j24, .no, .no] : Dv.Env)) (RT_of rfl (RE_call1 (RT_of rfl (RE_blt1 (eb := (eL PyData.int)) (RT_of rfl (RE_blt1 (eb := PyData.int) (RT_of rfl (RE_fst (f := fun x17 => x17.1) (eb := (eT PyData.int)) (RT_var (x := p0) (ea := (eP2 (eT PyData.int) (eT (eP2 (eT PyData.int) (eT PyData.int))))) rfl) (fun _ _ => rfl))) op_lenT)) op_lrange)) (fun x20 => r__law_sets n (by omega) x20) (.inl rfl))) its_L rfl ⟨_, rfl⟩ (fun s23 a21 η' hI => by obtain ⟨j24, rfl⟩ := hI; exact ⟨([.frz ((eP2 (eT PyData.int) (eT (eP2 (eT PyData.int) (eT PyData.int)))) p0), .frz (PyData.int p1), .frz ((eT (eP2 PyData.int PyData.int)) p2), .own ((eL PyData.int) s23), .frz ((eT PyData.int) a21), .no, .no] : Dv.Env), rfl, RS_ife (RC_ce rfl (RCE_and rfl (RC_ce rfl (RCE_bool (RE_cmp (RT_var (x := p1) (ea := PyData.int) rfl) (RT_var (x := a21) (ea := (eT PyData.int)) rfl) (op_inT dat_int (by decide) eqv_int)))) (RCE_bool (RE_cmp (RT_of rfl (RE_idx (ec := eD) (RT_of rfl (RE_call4 (RT_var (x := p0) (ea := (eP2 (eT PyData.int) (eT (eP2 (eT PyData.int) (eT PyData.int))))) rfl) (RT_of rfl (RE_con (x := (Str.ofString "mended")) (ea := PyData.str) rfl)) (RT_var (x := a21) (ea := (eT PyData.int)) rfl) (RT_var (x := p2) (ea := (eT (eP2 PyData.int PyData.int))) rfl) (fun x52 x53 x54 x55 => r__law_cause n (by omega) x52 x53 x54 x55) (.inl rfl))) (RE_con (x := (0 : Int)) (ea := PyData.int) rfl) op_idxD)) (RT_of rfl (RE_con (x := (Str.ofString "cause")) (ea := PyData.str) rfl)) (op_cmpD .eq))))) (RS_set (η' := fun v74 => ([.frz ((eP2 (eT PyData.int) (eT (eP2 (eT PyData.int) (eT PyData.int)))) p0), .frz (PyData.int p1), .frz ((eT (eP2 PyData.int PyData.int)) p2), .own ((eL PyData.int) v74), .frz ((eT PyData.int) a21), .no, .no] : Dv.Env)) (RE_bin (ec := (eL PyData.int)) (RT_var (x := s23) (ea := (eL PyData.int)) rfl) (RT_of rfl (RE_lc (ηf := fun a67 => ([.frz ((eP2 (eT PyData.int) (eT (eP2 (eT PyData.int) (eT PyData.int)))) p0), .frz (PyData.int p1), .frz ((eT (eP2 PyData.int PyData.int)) p2), .own ((eL PyData.int) s23), .frz ((eT PyData.int) a21), .frz ((eT PyData.int) a67.1), .frz ((eT (eP2 PyData.int PyData.int)) a67.2)] : Dv.Env)) (RT_of rfl (RE_call4 (RT_var (x := p0) (ea := (eP2 (eT PyData.int) (eT (eP2 (eT PyData.int) (eT PyData.int))))) rfl) (RT_of rfl (RE_con (x := (Str.ofString "mended")) (ea := PyData.str) rfl)) (RT_var (x := a21) (ea := (eT PyData.int)) rfl) (RT_var (x := p2) (ea := (eT (eP2 PyData.int PyData.int))) rfl) (fun x62 x63 x64 x65 => r__law_witnesses n (by omega) x62 x63 x64 x65) (.inl rfl))) its_L (fun _ => rfl) (fun a67 => (RE_bin (ec := PyData.int) (RT_of rfl (RE_blt1 (eb := PyData.int) (RT_var (x := a21) (ea := (eT PyData.int)) rfl) op_lenT)) (RT_of rfl (RE_blt1 (eb := PyData.int) (RT_var (x := a67.2) (ea := (eT (eP2 PyData.int PyData.int))) rfl) op_lenT)) op_add_i)))) op_addL) (Nat.le_of_ble_eq_true rfl) (fun _ => rfl) (fun v74 => RS_nil (fun _ hS => outL_nx hS ⟨_, rfl⟩))) (RS_nil (fun _ hS => outL_nx hS ⟨_, rfl⟩))⟩) (fun s75 η' hI => by obtain ⟨j76, rfl⟩ := hI; exact (RS_ret (RT_of rfl (RE_ite (RC_of (RT_var (x := s75) (ea := (eL PyData.int)) rfl) (fun x77 => !(x77).isEmpty) tr_L) (RE_tup2 (RE_con (x := (1 : Int)) (ea := PyData.int) rfl) (RE_blt1 (eb := PyData.int) (RT_var (x := s75) (ea := (eL PyData.int)) rfl) op_min)) (RE_tup2 (RE_con (x := (0 : Int)) (ea := PyData.int) rfl) (RE_con (x := (1 : Int)) (ea := PyData.int) rfl)))) (fun _ _ hS => outD_rt hS nwf)))))
-- _law_divisor(a, b)
def m__law_divisor (p0 : Int) (p1 : Int) : ND Int :=
  bnd (bnd (ret (20000 : Int)) fun x1 => lft (rngO x1)) fun x3 => bnd (fr (ρ := Int) (fun (s4 : (Int × Int)) (a2 : Int) => bnd (bnd (ret s4.2) fun x15 => bnd (ret (0 : Int)) fun x16 => lft (some (decide (x15 = x16)))) fun c17 => if c17 then bnd (bnd (ret s4.1) fun x18 => lft (some (if x18 < 0 then -x18 else x18))) fun x19 => ret (.inr x19) else bnd (ret s4.2) fun v20 => bnd (bnd (ret s4.1) fun x21 => bnd (ret s4.2) fun x22 => lft (if 0 < x22 then some (x21 % x22) else none)) fun v23 => ret (.inl (v20, v23))) (p0, p1) x3) fun w27 => aft w27 (fun (s24 : (Int × Int)) => bnd (ret (1 : Int)) fun x26 => ret x26) (fun y28 => y28)
theorem r__law_divisor (n : Nat) (hn : 1 ≤ n) (p0 : Int) (p1 : Int) : RF (Dv.run Ps G0 n) (Str.ofString "_law_divisor") [PyData.int p0, PyData.int p1] (m__law_divisor p0 p1) PyData.int false := by
  obtain ⟨n, rfl⟩ : ∃ j, n = j + 1 := ⟨n - 1, by omega⟩
  exact RF_of (η := ([.frz (PyData.int p0), .frz (PyData.int p1), .no] : Dv.Env)) f__law_divisor (by rfl) rfl rfl (RS_forR (I := fun (s4 : (Int × Int)) η => ∃ j5 : Sl, η = ([.frz (PyData.int s4.1), .frz (PyData.int s4.2), j5] : Dv.Env)) (er := PyData.int) (nwb := false) (RT_of rfl (RE_rng1 (RE_con (x := (20000 : Int)) (ea := PyData.int) rfl))) its_L rfl ⟨_, rfl⟩ (fun s4 a2 η' hI => by obtain ⟨j5, rfl⟩ := hI; exact ⟨([.frz (PyData.int s4.1), .frz (PyData.int s4.2), .frz (PyData.int a2)] : Dv.Env), rfl, RS_ife (RC_ce rfl (RCE_bool (RE_cmp (RT_var (x := s4.2) (ea := PyData.int) rfl) (RT_of rfl (RE_con (x := (0 : Int)) (ea := PyData.int) rfl)) op_eq_i))) (RS_ret (RT_of rfl (RE_blt1 (eb := PyData.int) (RT_var (x := s4.1) (ea := PyData.int) rfl) op_abs)) (fun _ _ hS => outR_rt hS nwf)) (RS_par2 (η' := fun v20 v23 => ([.frz (PyData.int v20), .frz (PyData.int v23), .frz (PyData.int a2)] : Dv.Env)) (RE_var (x := s4.2) (ea := PyData.int) rfl) (RE_bin (ec := PyData.int) (RT_var (x := s4.1) (ea := PyData.int) rfl) (RT_var (x := s4.2) (ea := PyData.int) rfl) op_mod_i) ⟨by decide, by simp⟩ (fun _ _ => rfl) (fun v20 v23 => RS_nil (fun _ hS => outR_nx hS ⟨_, rfl⟩)))⟩) (fun s24 η' hI => by obtain ⟨j25, rfl⟩ := hI; exact (RS_ret (RT_of rfl (RE_con (x := (1 : Int)) (ea := PyData.int) rfl)) (fun _ _ hS => outD_rt hS nwf))) (fun _ _ _ hS hn => outD_rt hS hn))
-- _law_ratio(above, below)
def m__law_ratio (p0 : Int) (p1 : Int) : ND (Int × Int) :=
  bnd (bnd (ret p0) fun x1 => bnd (ret p1) fun x2 => m__law_divisor x1 x2) fun v3 => bnd (bnd (bnd (ret p0) fun x4 => bnd (ret v3) fun x5 => lft (if divOk x5 then some (x4 / x5) else none)) fun x8 => bnd (bnd (ret p1) fun x6 => bnd (ret v3) fun x7 => lft (if divOk x7 then some (x6 / x7) else none)) fun x9 => ret (x8, x9)) fun x10 => ret x10
theorem r__law_ratio (n : Nat) (hn : 2 ≤ n) (p0 : Int) (p1 : Int) : RF (Dv.run Ps G0 n) (Str.ofString "_law_ratio") [PyData.int p0, PyData.int p1] (m__law_ratio p0 p1) (eP2 PyData.int PyData.int) false := by
  obtain ⟨n, rfl⟩ : ∃ j, n = j + 1 := ⟨n - 1, by omega⟩
  exact RF_of (η := ([.frz (PyData.int p0), .frz (PyData.int p1), .no] : Dv.Env)) f__law_ratio (by rfl) rfl rfl (RS_set (η' := fun v3 => ([.frz (PyData.int p0), .frz (PyData.int p1), .frz (PyData.int v3)] : Dv.Env)) (RE_call2 (RT_var (x := p0) (ea := PyData.int) rfl) (RT_var (x := p1) (ea := PyData.int) rfl) (fun x1 x2 => r__law_divisor n (by omega) x1 x2) (.inl rfl)) (Nat.le_of_ble_eq_true rfl) (fun _ => rfl) (fun v3 => RS_ret (RT_of rfl (RE_tup2 (RE_bin (ec := PyData.int) (RT_var (x := p0) (ea := PyData.int) rfl) (RT_var (x := v3) (ea := PyData.int) rfl) op_div_i) (RE_bin (ec := PyData.int) (RT_var (x := p1) (ea := PyData.int) rfl) (RT_var (x := v3) (ea := PyData.int) rfl) op_div_i))) (fun _ _ hS => outD_rt hS nwf)))
-- the law
def m_law : ND Bool :=
  bnd (bnd (ret ()) fun x1 => bnd (ret (4 : Int)) fun x2 => m__law_functions x1 x2) fun v3 => bnd (bnd (ret ()) fun x4 => bnd (ret v3) fun x5 => m__law_event x4 x5) fun v6 => bnd (bnd (bnd (bnd (bnd (bnd (ret v3) fun x7 => ret x7.1) fun x8 => lft (some (List.length x8 : Int))) fun x9 => lft (rngO x9)) fun x10 => mp (fun a11 => bnd (ret v3) fun x12 => bnd (ret a11) fun x13 => bnd (ret v6) fun x14 => m__law_duty x12 x13 x14) x10) fun x15 => lft (some x15)) fun v16 => bnd (bnd (bnd (bnd (bnd (ret v3) fun x17 => bnd (ret v6) fun x18 => m_duties x17 x18) fun x19 => ret ((eT (eP2 PyData.int PyData.int)) x19)) fun x21 => bnd (bnd (ret v16) fun x20 => ret ((eT (eP2 PyData.int PyData.int)) x20)) fun x22 => m__law_alike x21 x22) fun c23 => ret (!c23)) fun c24 => if c24 then bnd (ret false) fun x25 => ret x25 else bnd (bnd (ret ()) fun x27 => bnd (bnd (ret v16) fun x26 => lft (some (List.length x26 : Int))) fun x28 => m__law_take x27 x28) fun v29 => bnd (bnd (bnd (bnd (bnd (ret v3) fun x30 => bnd (ret v29) fun x31 => bnd (ret v6) fun x32 => m_duty x30 x31 x32) fun x33 => ret ((eP2 PyData.int PyData.int) x33)) fun x37 => bnd (bnd (bnd (ret v16) fun x34 => bnd (ret v29) fun x35 => lft (L2.atI x34 x35)) fun x36 => ret ((eP2 PyData.int PyData.int) x36)) fun x38 => m__law_alike x37 x38) fun c39 => ret (!c39)) fun c40 => if c40 then bnd (ret false) fun x41 => ret x41 else bnd (bnd (bnd (bnd (ret (1 : Int)) fun x44 => bnd (bnd (ret ()) fun x42 => bnd (ret (3 : Int)) fun x43 => m__law_take x42 x43) fun x45 => lft (some (x44 + x45))) fun x46 => lft (rngO x46)) fun x47 => mp (fun a48 => bnd (ret (1 : Int)) fun x51 => bnd (bnd (ret ()) fun x49 => bnd (ret (5 : Int)) fun x50 => m__law_take x49 x50) fun x52 => lft (some (x51 + x52))) x47) fun v53 => bnd (ret []) fun v54 => bnd (ret (0 : Int)) fun v55 => bnd (ret (1 : Int)) fun v56 => bnd (ret v53) fun x58 => bnd (fd (fun (s59 : ((List (((List Int) × (List ((List Int) × (List Int)))) × (Int × Int))) × Int × Int)) (a57 : Int) => bnd (bnd (bnd (bnd (bnd (ret v3) fun x121 => ret x121.2) fun x122 => ret (enumI x122)) fun x123 => mp (fun a124 => bnd (ret a124.2.1) fun x133 => bnd (bnd (bnd (ret a124.2.2) fun x125 => mp (fun a126 => bnd (ret ()) fun x130 => bnd (bnd (bnd (ret v3) fun x127 => ret x127.1) fun x128 => bnd (ret a124.1) fun x129 => lft (L2.atI x128 x129)) fun x131 => m__law_take x130 x131) x125) fun x132 => lft (some x132)) fun x134 => ret (x133, x134)) x123) fun x135 => lft (some x135)) fun v136 => bnd (bnd (bnd (ret s59.1) fun x137 => ret (!(x137).isEmpty)) fun c138 => if c138 then bnd (bnd (ret v3) fun x142 => ret x142.1) fun x143 => bnd (ret v136) fun x144 => ret (x143, x144) else ret v3) fun v145 => bnd (bnd (ret v145) fun x149 => bnd (bnd (ret a57) fun x147 => bnd (bnd (ret v53) fun x146 => lft (some (List.sum x146))) fun x148 => m__law_ratio x147 x148) fun x150 => ret (x149, x150)) fun x151 => bnd (lft (if lineD (List.length s59.1 + 1) then some (s59.1 ++ [x151]) else none)) fun v152 => bnd (bnd (ret v145) fun x153 => bnd (ret v29) fun x154 => bnd (ret v6) fun x155 => m__law_duty x153 x154 x155) fun v156 => bnd (bnd (bnd (bnd (ret s59.2.1) fun x158 => bnd (bnd (ret v156) fun x157 => ret x157.2) fun x159 => lft (if mulOk x158 x159 then some (x158 * x159) else none)) fun x161 => bnd (bnd (ret v53) fun x160 => lft (some (List.sum x160))) fun x162 => lft (if mulOk x161 x162 then some (x161 * x162) else none)) fun x168 => bnd (bnd (bnd (ret a57) fun x164 => bnd (bnd (ret v156) fun x163 => ret x163.1) fun x165 => lft (if mulOk x164 x165 then some (x164 * x165) else none)) fun x166 => bnd (ret s59.2.2) fun x167 => lft (if mulOk x166 x167 then some (x166 * x167) else none)) fun x169 => lft (some (x168 + x169))) fun v170 => bnd (bnd (bnd (ret s59.2.2) fun x172 => bnd (bnd (ret v156) fun x171 => ret x171.2) fun x173 => lft (if mulOk x172 x173 then some (x172 * x173) else none)) fun x175 => bnd (bnd (ret v53) fun x174 => lft (some (List.sum x174))) fun x176 => lft (if mulOk x175 x176 then some (x175 * x176) else none)) fun v177 => ret (v152, v170, v177)) (v54, v55, v56) x58) fun (s178 : ((List (((List Int) × (List ((List Int) × (List Int)))) × (Int × Int))) × Int × Int)) => bnd (bnd (bnd (bnd (bnd (ret s178.1) fun x183 => lft (some x183)) fun x184 => bnd (ret v29) fun x185 => bnd (ret v6) fun x186 => m_blame x184 x185 x186) fun x187 => ret ((eP2 PyData.int PyData.int) x187)) fun x191 => bnd (bnd (bnd (ret s178.2.1) fun x188 => bnd (ret s178.2.2) fun x189 => m__law_ratio x188 x189) fun x190 => ret ((eP2 PyData.int PyData.int) x190)) fun x192 => m__law_alike x191 x192) fun x193 => ret x193
theorem r_law (n : Nat) (hn : 20 ≤ n) : RS (Dv.run Ps G0 n) G0 c_law ([.no, .frz (eC ()), .no, .no, .no, .no, .no, .no, .no, .no, .no, .no, .no, .no, .no, .no, .no, .no] : Dv.Env) m_law (OutD PyData.bool false) :=
  RS_set (η' := fun v3 => ([.no, .frz (eC ()), .frz ((eP2 (eT PyData.int) (eT (eP2 (eT PyData.int) (eT PyData.int)))) v3), .no, .no, .no, .no, .no, .no, .no, .no, .no, .no, .no, .no, .no, .no, .no] : Dv.Env)) (RE_call2 (RT_var (x := ()) (ea := eC) rfl) (RT_of rfl (RE_con (x := (4 : Int)) (ea := PyData.int) rfl)) (fun x1 x2 => r__law_functions n (by omega) x1 x2) (.inl rfl)) (Nat.le_of_ble_eq_true rfl) (fun _ => rfl) (fun v3 => RS_set (η' := fun v6 => ([.no, .frz (eC ()), .frz ((eP2 (eT PyData.int) (eT (eP2 (eT PyData.int) (eT PyData.int)))) v3), .frz ((eT (eP2 PyData.int PyData.int)) v6), .no, .no, .no, .no, .no, .no, .no, .no, .no, .no, .no, .no, .no, .no] : Dv.Env)) (RE_call2 (RT_var (x := ()) (ea := eC) rfl) (RT_var (x := v3) (ea := (eP2 (eT PyData.int) (eT (eP2 (eT PyData.int) (eT PyData.int))))) rfl) (fun x4 x5 => r__law_event n (by omega) x4 x5) (.inl rfl)) (Nat.le_of_ble_eq_true rfl) (fun _ => rfl) (fun v6 => RS_set (η' := fun v16 => ([.no, .frz (eC ()), .frz ((eP2 (eT PyData.int) (eT (eP2 (eT PyData.int) (eT PyData.int)))) v3), .frz ((eT (eP2 PyData.int PyData.int)) v6), .no, .frz ((eT (eP2 PyData.int PyData.int)) v16), .no, .no, .no, .no, .no, .no, .no, .no, .no, .no, .no, .no] : Dv.Env)) (RE_blt1 (eb := (eT (eP2 PyData.int PyData.int))) (RT_of rfl (RE_lc (ηf := fun a11 => ([.no, .frz (eC ()), .frz ((eP2 (eT PyData.int) (eT (eP2 (eT PyData.int) (eT PyData.int)))) v3), .frz ((eT (eP2 PyData.int PyData.int)) v6), .frz (PyData.int a11), .no, .no, .no, .no, .no, .no, .no, .no, .no, .no, .no, .no, .no] : Dv.Env)) (RT_of rfl (RE_rng1 (RE_blt1 (eb := PyData.int) (RT_of rfl (RE_fst (f := fun x7 => x7.1) (eb := (eT PyData.int)) (RT_var (x := v3) (ea := (eP2 (eT PyData.int) (eT (eP2 (eT PyData.int) (eT PyData.int))))) rfl) (fun _ _ => rfl))) op_lenT))) its_L (fun _ => rfl) (fun a11 => (RE_call3 (RT_var (x := v3) (ea := (eP2 (eT PyData.int) (eT (eP2 (eT PyData.int) (eT PyData.int))))) rfl) (RT_var (x := a11) (ea := PyData.int) rfl) (RT_var (x := v6) (ea := (eT (eP2 PyData.int PyData.int))) rfl) (fun x12 x13 x14 => r__law_duty n (by omega) x12 x13 x14) (.inl rfl))))) op_tupL) (Nat.le_of_ble_eq_true rfl) (fun _ => rfl) (fun v16 => RS_ife (RC_ce rfl (RCE_bool (RE_not (RC_ce rfl (RCE_bool (RE_call2 (RT_of rfl (RE_map (RE_call2 (RT_var (x := v3) (ea := (eP2 (eT PyData.int) (eT (eP2 (eT PyData.int) (eT PyData.int))))) rfl) (RT_var (x := v6) (ea := (eT (eP2 PyData.int PyData.int))) rfl) (fun x17 x18 => r_duties n (by omega) x17 x18) (.inl rfl)) (fun x19 => ((eT (eP2 PyData.int PyData.int)) x19)) (fun _ => rfl))) (RT_map (RT_var (x := v16) (ea := (eT (eP2 PyData.int PyData.int))) rfl) (fun x20 => ((eT (eP2 PyData.int PyData.int)) x20)) (fun _ => rfl)) (fun x21 x22 => r__law_alike n (by omega) x21 x22) (.inl rfl))))))) (RS_ret (RT_of rfl (RE_con (x := false) (ea := PyData.bool) rfl)) (fun _ _ hS => outD_rt hS nwf)) (RS_set (η' := fun v29 => ([.no, .frz (eC ()), .frz ((eP2 (eT PyData.int) (eT (eP2 (eT PyData.int) (eT PyData.int)))) v3), .frz ((eT (eP2 PyData.int PyData.int)) v6), .frz (PyData.int v29), .frz ((eT (eP2 PyData.int PyData.int)) v16), .no, .no, .no, .no, .no, .no, .no, .no, .no, .no, .no, .no] : Dv.Env)) (RE_call2 (RT_var (x := ()) (ea := eC) rfl) (RT_of rfl (RE_blt1 (eb := PyData.int) (RT_var (x := v16) (ea := (eT (eP2 PyData.int PyData.int))) rfl) op_lenT)) (fun x27 x28 => r__law_take n (by omega) x27 x28) (.inl rfl)) (Nat.le_of_ble_eq_true rfl) (fun _ => rfl) (fun v29 => RS_ife (RC_ce rfl (RCE_bool (RE_not (RC_ce rfl (RCE_bool (RE_call2 (RT_of rfl (RE_map (RE_call3 (RT_var (x := v3) (ea := (eP2 (eT PyData.int) (eT (eP2 (eT PyData.int) (eT PyData.int))))) rfl) (RT_var (x := v29) (ea := PyData.int) rfl) (RT_var (x := v6) (ea := (eT (eP2 PyData.int PyData.int))) rfl) (fun x30 x31 x32 => r_duty n (by omega) x30 x31 x32) (.inl rfl)) (fun x33 => ((eP2 PyData.int PyData.int) x33)) (fun _ => rfl))) (RT_of rfl (RE_map (RE_idx (ec := (eP2 PyData.int PyData.int)) (RT_var (x := v16) (ea := (eT (eP2 PyData.int PyData.int))) rfl) (RE_var (x := v29) (ea := PyData.int) rfl) op_idxT) (fun x36 => ((eP2 PyData.int PyData.int) x36)) (fun _ => rfl))) (fun x37 x38 => r__law_alike n (by omega) x37 x38) (.inl rfl))))))) (RS_ret (RT_of rfl (RE_con (x := false) (ea := PyData.bool) rfl)) (fun _ _ hS => outD_rt hS nwf)) (RS_set (η' := fun v53 => ([.no, .frz (eC ()), .frz ((eP2 (eT PyData.int) (eT (eP2 (eT PyData.int) (eT PyData.int)))) v3), .frz ((eT (eP2 PyData.int PyData.int)) v6), .frz (PyData.int v29), .frz ((eT (eP2 PyData.int PyData.int)) v16), .own ((eL PyData.int) v53), .no, .no, .no, .no, .no, .no, .no, .no, .no, .no, .no] : Dv.Env)) (RE_lc (ηf := fun a48 => ([.no, .frz (eC ()), .frz ((eP2 (eT PyData.int) (eT (eP2 (eT PyData.int) (eT PyData.int)))) v3), .frz ((eT (eP2 PyData.int PyData.int)) v6), .frz (PyData.int v29), .frz ((eT (eP2 PyData.int PyData.int)) v16), .no, .no, .no, .no, .no, .no, .no, .no, .frz (PyData.int a48), .no, .no, .no] : Dv.Env)) (RT_of rfl (RE_rng1 (RE_bin (ec := PyData.int) (RT_of rfl (RE_con (x := (1 : Int)) (ea := PyData.int) rfl)) (RT_of rfl (RE_call2 (RT_var (x := ()) (ea := eC) rfl) (RT_of rfl (RE_con (x := (3 : Int)) (ea := PyData.int) rfl)) (fun x42 x43 => r__law_take n (by omega) x42 x43) (.inl rfl))) op_add_i))) its_L (fun _ => rfl) (fun a48 => (RE_bin (ec := PyData.int) (RT_of rfl (RE_con (x := (1 : Int)) (ea := PyData.int) rfl)) (RT_of rfl (RE_call2 (RT_var (x := ()) (ea := eC) rfl) (RT_of rfl (RE_con (x := (5 : Int)) (ea := PyData.int) rfl)) (fun x49 x50 => r__law_take n (by omega) x49 x50) (.inl rfl))) op_add_i))) (Nat.le_of_ble_eq_true rfl) (fun _ => rfl) (fun v53 => RS_par3 (η' := fun v54 v55 v56 => ([.no, .frz (eC ()), .frz ((eP2 (eT PyData.int) (eT (eP2 (eT PyData.int) (eT PyData.int)))) v3), .frz ((eT (eP2 PyData.int PyData.int)) v6), .frz (PyData.int v29), .frz ((eT (eP2 PyData.int PyData.int)) v16), .own ((eL PyData.int) v53), .own ((eL (eP2 (eP2 (eT PyData.int) (eT (eP2 (eT PyData.int) (eT PyData.int)))) (eP2 PyData.int PyData.int))) v54), .frz (PyData.int v55), .frz (PyData.int v56), .no, .no, .no, .no, .no, .no, .no, .no] : Dv.Env)) (RE_lst (by decide) (RL_nil (ea := (eP2 (eP2 (eT PyData.int) (eT (eP2 (eT PyData.int) (eT PyData.int)))) (eP2 PyData.int PyData.int))))) (RE_con (x := (0 : Int)) (ea := PyData.int) rfl) (RE_con (x := (1 : Int)) (ea := PyData.int) rfl) ⟨by decide, by simp⟩ (fun _ _ _ => rfl) (fun v54 v55 v56 => RS_for (I := fun (s59 : ((List (((List Int) × (List ((List Int) × (List Int)))) × (Int × Int))) × Int × Int)) η => ∃ j60 j61 j62 j63 : Sl, η = ([.no, .frz (eC ()), .frz ((eP2 (eT PyData.int) (eT (eP2 (eT PyData.int) (eT PyData.int)))) v3), .frz ((eT (eP2 PyData.int PyData.int)) v6), .frz (PyData.int v29), .frz ((eT (eP2 PyData.int PyData.int)) v16), .frz ((eL PyData.int) v53), .own ((eL (eP2 (eP2 (eT PyData.int) (eT (eP2 (eT PyData.int) (eT PyData.int)))) (eP2 PyData.int PyData.int))) s59.1), .frz (PyData.int s59.2.1), .frz (PyData.int s59.2.2), j60, j61, j62, j63, .no, .no, .no, .no] : Dv.Env)) (RT_var (x := v53) (ea := (eL PyData.int)) rfl) its_L (clE_own _ _) ⟨_, _, _, _, rfl⟩ (fun s59 a57 η' hI => by obtain ⟨j60, j61, j62, j63, rfl⟩ := hI; exact ⟨([.no, .frz (eC ()), .frz ((eP2 (eT PyData.int) (eT (eP2 (eT PyData.int) (eT PyData.int)))) v3), .frz ((eT (eP2 PyData.int PyData.int)) v6), .frz (PyData.int v29), .frz ((eT (eP2 PyData.int PyData.int)) v16), .frz ((eL PyData.int) v53), .own ((eL (eP2 (eP2 (eT PyData.int) (eT (eP2 (eT PyData.int) (eT PyData.int)))) (eP2 PyData.int PyData.int))) s59.1), .frz (PyData.int s59.2.1), .frz (PyData.int s59.2.2), .frz (PyData.int a57), j61, j62, j63, .no, .no, .no, .no] : Dv.Env), rfl, RS_set (η' := fun v136 => ([.no, .frz (eC ()), .frz ((eP2 (eT PyData.int) (eT (eP2 (eT PyData.int) (eT PyData.int)))) v3), .frz ((eT (eP2 PyData.int PyData.int)) v6), .frz (PyData.int v29), .frz ((eT (eP2 PyData.int PyData.int)) v16), .frz ((eL PyData.int) v53), .own ((eL (eP2 (eP2 (eT PyData.int) (eT (eP2 (eT PyData.int) (eT PyData.int)))) (eP2 PyData.int PyData.int))) s59.1), .frz (PyData.int s59.2.1), .frz (PyData.int s59.2.2), .frz (PyData.int a57), j61, .frz ((eT (eP2 (eT PyData.int) (eT PyData.int))) v136), j63, .no, .no, .no, .no] : Dv.Env)) (RE_blt1 (eb := (eT (eP2 (eT PyData.int) (eT PyData.int)))) (RT_of rfl (RE_lc (ηf := fun a124 => ([.no, .frz (eC ()), .frz ((eP2 (eT PyData.int) (eT (eP2 (eT PyData.int) (eT PyData.int)))) v3), .frz ((eT (eP2 PyData.int PyData.int)) v6), .frz (PyData.int v29), .frz ((eT (eP2 PyData.int PyData.int)) v16), .frz ((eL PyData.int) v53), .own ((eL (eP2 (eP2 (eT PyData.int) (eT (eP2 (eT PyData.int) (eT PyData.int)))) (eP2 PyData.int PyData.int))) s59.1), .frz (PyData.int s59.2.1), .frz (PyData.int s59.2.2), .frz (PyData.int a57), j61, j62, j63, .no, .frz (PyData.int a124.1), .frz ((eT PyData.int) a124.2.1), .frz ((eT PyData.int) a124.2.2)] : Dv.Env)) (RT_of rfl (RE_enum (RT_of rfl (RE_fst (f := fun x121 => x121.2) (eb := (eT (eP2 (eT PyData.int) (eT PyData.int)))) (RT_var (x := v3) (ea := (eP2 (eT PyData.int) (eT (eP2 (eT PyData.int) (eT PyData.int))))) rfl) (fun _ _ => rfl))) its_T)) its_L (fun _ => rfl) (fun a124 => (RE_tup2 (RE_var (x := a124.2.1) (ea := (eT PyData.int)) rfl) (RE_blt1 (eb := (eT PyData.int)) (RT_of rfl (RE_lc (ηf := fun a126 => ([.no, .frz (eC ()), .frz ((eP2 (eT PyData.int) (eT (eP2 (eT PyData.int) (eT PyData.int)))) v3), .frz ((eT (eP2 PyData.int PyData.int)) v6), .frz (PyData.int v29), .frz ((eT (eP2 PyData.int PyData.int)) v16), .frz ((eL PyData.int) v53), .own ((eL (eP2 (eP2 (eT PyData.int) (eT (eP2 (eT PyData.int) (eT PyData.int)))) (eP2 PyData.int PyData.int))) s59.1), .frz (PyData.int s59.2.1), .frz (PyData.int s59.2.2), .frz (PyData.int a57), .frz (PyData.int a126), j62, j63, .no, .frz (PyData.int a124.1), .frz ((eT PyData.int) a124.2.1), .frz ((eT PyData.int) a124.2.2)] : Dv.Env)) (RT_var (x := a124.2.2) (ea := (eT PyData.int)) rfl) its_T (fun _ => rfl) (fun a126 => (RE_call2 (RT_var (x := ()) (ea := eC) rfl) (RT_of rfl (RE_idx (ec := PyData.int) (RT_of rfl (RE_fst (f := fun x127 => x127.1) (eb := (eT PyData.int)) (RT_var (x := v3) (ea := (eP2 (eT PyData.int) (eT (eP2 (eT PyData.int) (eT PyData.int))))) rfl) (fun _ _ => rfl))) (RE_var (x := a124.1) (ea := PyData.int) rfl) op_idxT)) (fun x130 x131 => r__law_take n (by omega) x130 x131) (.inl rfl))))) op_tupL))))) op_tupL) (Nat.le_of_ble_eq_true rfl) (fun _ => rfl) (fun v136 => RS_set (η' := fun v145 => ([.no, .frz (eC ()), .frz ((eP2 (eT PyData.int) (eT (eP2 (eT PyData.int) (eT PyData.int)))) v3), .frz ((eT (eP2 PyData.int PyData.int)) v6), .frz (PyData.int v29), .frz ((eT (eP2 PyData.int PyData.int)) v16), .frz ((eL PyData.int) v53), .own ((eL (eP2 (eP2 (eT PyData.int) (eT (eP2 (eT PyData.int) (eT PyData.int)))) (eP2 PyData.int PyData.int))) s59.1), .frz (PyData.int s59.2.1), .frz (PyData.int s59.2.2), .frz (PyData.int a57), j61, .frz ((eT (eP2 (eT PyData.int) (eT PyData.int))) v136), .frz ((eP2 (eT PyData.int) (eT (eP2 (eT PyData.int) (eT PyData.int)))) v145), .no, .no, .no, .no] : Dv.Env)) (RE_ite (RC_of (RT_var (x := s59.1) (ea := (eL (eP2 (eP2 (eT PyData.int) (eT (eP2 (eT PyData.int) (eT PyData.int)))) (eP2 PyData.int PyData.int)))) rfl) (fun x137 => !(x137).isEmpty) tr_L) (RE_tup2 (RE_fst (f := fun x142 => x142.1) (eb := (eT PyData.int)) (RT_var (x := v3) (ea := (eP2 (eT PyData.int) (eT (eP2 (eT PyData.int) (eT PyData.int))))) rfl) (fun _ _ => rfl)) (RE_var (x := v136) (ea := (eT (eP2 (eT PyData.int) (eT PyData.int)))) rfl)) (RE_var (x := v3) (ea := (eP2 (eT PyData.int) (eT (eP2 (eT PyData.int) (eT PyData.int))))) rfl)) (Nat.le_of_ble_eq_true rfl) (fun _ => rfl) (fun v145 => RS_app (l := s59.1) (ea := (eP2 (eP2 (eT PyData.int) (eT (eP2 (eT PyData.int) (eT PyData.int)))) (eP2 PyData.int PyData.int))) (η' := fun v152 => ([.no, .frz (eC ()), .frz ((eP2 (eT PyData.int) (eT (eP2 (eT PyData.int) (eT PyData.int)))) v3), .frz ((eT (eP2 PyData.int PyData.int)) v6), .frz (PyData.int v29), .frz ((eT (eP2 PyData.int PyData.int)) v16), .frz ((eL PyData.int) v53), .own ((eL (eP2 (eP2 (eT PyData.int) (eT (eP2 (eT PyData.int) (eT PyData.int)))) (eP2 PyData.int PyData.int))) v152), .frz (PyData.int s59.2.1), .frz (PyData.int s59.2.2), .frz (PyData.int a57), j61, .frz ((eT (eP2 (eT PyData.int) (eT PyData.int))) v136), .frz ((eP2 (eT PyData.int) (eT (eP2 (eT PyData.int) (eT PyData.int)))) v145), .no, .no, .no, .no] : Dv.Env)) rfl (RE_tup2 (RE_var (x := v145) (ea := (eP2 (eT PyData.int) (eT (eP2 (eT PyData.int) (eT PyData.int))))) rfl) (RE_call2 (RT_var (x := a57) (ea := PyData.int) rfl) (RT_of rfl (RE_blt1 (eb := PyData.int) (RT_var (x := v53) (ea := (eL PyData.int)) rfl) op_sum)) (fun x147 x148 => r__law_ratio n (by omega) x147 x148) (.inl rfl))) (fun _ => rfl) (fun v152 => RS_set (η' := fun v156 => ([.no, .frz (eC ()), .frz ((eP2 (eT PyData.int) (eT (eP2 (eT PyData.int) (eT PyData.int)))) v3), .frz ((eT (eP2 PyData.int PyData.int)) v6), .frz (PyData.int v29), .frz ((eT (eP2 PyData.int PyData.int)) v16), .frz ((eL PyData.int) v53), .own ((eL (eP2 (eP2 (eT PyData.int) (eT (eP2 (eT PyData.int) (eT PyData.int)))) (eP2 PyData.int PyData.int))) v152), .frz (PyData.int s59.2.1), .frz (PyData.int s59.2.2), .frz (PyData.int a57), .frz ((eP2 PyData.int PyData.int) v156), .frz ((eT (eP2 (eT PyData.int) (eT PyData.int))) v136), .frz ((eP2 (eT PyData.int) (eT (eP2 (eT PyData.int) (eT PyData.int)))) v145), .no, .no, .no, .no] : Dv.Env)) (RE_call3 (RT_var (x := v145) (ea := (eP2 (eT PyData.int) (eT (eP2 (eT PyData.int) (eT PyData.int))))) rfl) (RT_var (x := v29) (ea := PyData.int) rfl) (RT_var (x := v6) (ea := (eT (eP2 PyData.int PyData.int))) rfl) (fun x153 x154 x155 => r__law_duty n (by omega) x153 x154 x155) (.inl rfl)) (Nat.le_of_ble_eq_true rfl) (fun _ => rfl) (fun v156 => RS_par2 (η' := fun v170 v177 => ([.no, .frz (eC ()), .frz ((eP2 (eT PyData.int) (eT (eP2 (eT PyData.int) (eT PyData.int)))) v3), .frz ((eT (eP2 PyData.int PyData.int)) v6), .frz (PyData.int v29), .frz ((eT (eP2 PyData.int PyData.int)) v16), .frz ((eL PyData.int) v53), .own ((eL (eP2 (eP2 (eT PyData.int) (eT (eP2 (eT PyData.int) (eT PyData.int)))) (eP2 PyData.int PyData.int))) v152), .frz (PyData.int v170), .frz (PyData.int v177), .frz (PyData.int a57), .frz ((eP2 PyData.int PyData.int) v156), .frz ((eT (eP2 (eT PyData.int) (eT PyData.int))) v136), .frz ((eP2 (eT PyData.int) (eT (eP2 (eT PyData.int) (eT PyData.int)))) v145), .no, .no, .no, .no] : Dv.Env)) (RE_bin (ec := PyData.int) (RT_of rfl (RE_bin (ec := PyData.int) (RT_of rfl (RE_bin (ec := PyData.int) (RT_var (x := s59.2.1) (ea := PyData.int) rfl) (RT_of rfl (RE_fst (f := fun x157 => x157.2) (eb := PyData.int) (RT_var (x := v156) (ea := (eP2 PyData.int PyData.int)) rfl) (fun _ _ => rfl))) op_mul_i)) (RT_of rfl (RE_blt1 (eb := PyData.int) (RT_var (x := v53) (ea := (eL PyData.int)) rfl) op_sum)) op_mul_i)) (RT_of rfl (RE_bin (ec := PyData.int) (RT_of rfl (RE_bin (ec := PyData.int) (RT_var (x := a57) (ea := PyData.int) rfl) (RT_of rfl (RE_fst (f := fun x163 => x163.1) (eb := PyData.int) (RT_var (x := v156) (ea := (eP2 PyData.int PyData.int)) rfl) (fun _ _ => rfl))) op_mul_i)) (RT_var (x := s59.2.2) (ea := PyData.int) rfl) op_mul_i)) op_add_i) (RE_bin (ec := PyData.int) (RT_of rfl (RE_bin (ec := PyData.int) (RT_var (x := s59.2.2) (ea := PyData.int) rfl) (RT_of rfl (RE_fst (f := fun x171 => x171.2) (eb := PyData.int) (RT_var (x := v156) (ea := (eP2 PyData.int PyData.int)) rfl) (fun _ _ => rfl))) op_mul_i)) (RT_of rfl (RE_blt1 (eb := PyData.int) (RT_var (x := v53) (ea := (eL PyData.int)) rfl) op_sum)) op_mul_i) ⟨by decide, by simp⟩ (fun _ _ => rfl) (fun v170 v177 => RS_nil (fun _ hS => outL_nx hS ⟨_, _, _, _, rfl⟩))))))⟩) (fun s178 η' hI => by obtain ⟨j179, j180, j181, j182, rfl⟩ := hI; exact (RS_ret (RT_of rfl (RE_call2 (RT_of rfl (RE_map (RE_call3 (RT_of rfl (RE_blt1 (eb := (eT (eP2 (eP2 (eT PyData.int) (eT (eP2 (eT PyData.int) (eT PyData.int)))) (eP2 PyData.int PyData.int)))) (RT_var (x := s178.1) (ea := (eL (eP2 (eP2 (eT PyData.int) (eT (eP2 (eT PyData.int) (eT PyData.int)))) (eP2 PyData.int PyData.int)))) rfl) op_tupL)) (RT_var (x := v29) (ea := PyData.int) rfl) (RT_var (x := v6) (ea := (eT (eP2 PyData.int PyData.int))) rfl) (fun x184 x185 x186 => r_blame n (by omega) x184 x185 x186) (.inl rfl)) (fun x187 => ((eP2 PyData.int PyData.int) x187)) (fun _ => rfl))) (RT_of rfl (RE_map (RE_call2 (RT_var (x := s178.2.1) (ea := PyData.int) rfl) (RT_var (x := s178.2.2) (ea := PyData.int) rfl) (fun x188 x189 => r__law_ratio n (by omega) x188 x189) (.inl rfl)) (fun x190 => ((eP2 PyData.int PyData.int) x190)) (fun _ => rfl))) (fun x191 x192 => r__law_alike n (by omega) x191 x192) (.inl rfl))) (fun _ _ hS => outD_rt hS nwf)))))))))))
end C68

namespace C68
open PySem Dv Mr Ac
/-! alike -/
theorem alike_leaf (rec : D → D → ND Bool) (v d : D) (hv : SeqAt.shaped v = true) (hd : SeqAt.shaped d = true) (h : ∀ xs, d ≠ .tuple xs) : m__law_alike_step rec v d = Mr.ret (alikeB v d) := by
  unfold m__law_alike_step
  simp only [ret_bnd, lft_some, bnd_bnd, bnd_ret, aft_inl, aft_inr]
  cases d with
  | tuple xs => exact absurd rfl (h xs)
  | dict kvs => simp [SeqAt.shaped, PyData.canLay0] at hd
  | none => cases v <;> first | (simp [SeqAt.shaped, PyData.canLay0] at hv; done) | rfl | (simp [eD, eN, tyD, isiOne, cmpD, ret_bnd, lft_some, alikeB]; done)
  | bool b => cases v <;> first | (simp [SeqAt.shaped, PyData.canLay0] at hv; done) | (simp [eD, eN, tyD, isiOne, cmpD, ret_bnd, lft_some, alikeB, eqD, hv, hd, PyData.eqv]; done)
  | int b => cases v <;> first | (simp [SeqAt.shaped, PyData.canLay0] at hv; done) | (simp [eD, eN, tyD, isiOne, cmpD, ret_bnd, lft_some, alikeB, eqD, hv, hd, PyData.eqv]; done)
  | str b => cases v <;> first | (simp [eD, eN, tyD, isiOne, cmpD, ret_bnd, lft_some, alikeB, eqD, hv, hd, PyData.eqv]; done) | (simp [SeqAt.shaped, PyData.canLay0] at hv; done)
  | list b => cases v <;> first | (simp [eD, eN, tyD, isiOne, cmpD, ret_bnd, lft_some, alikeB, eqD, hv, hd, PyData.eqv]; done) | (simp [SeqAt.shaped, PyData.canLay0] at hv; done)
theorem alike_k {k : Nat} {d : D} (h : AO k d) : ∀ v, SeqAt.shaped v = true → m__law_alike_k (k + 1) v d = Mr.ret (alikeB v d) := by
  induction h with
  | non k => intro v hv; exact alike_leaf _ v _ hv rfl (fun _ h => by cases h)
  | bl k b => intro v hv; exact alike_leaf _ v _ hv rfl (fun _ h => by cases h)
  | int k b => intro v hv; exact alike_leaf _ v _ hv rfl (fun _ h => by cases h)
  | str k x hx => intro v hv; exact alike_leaf _ v _ hv hx (fun _ h => by cases h)
  | lst k x hx => intro v hv; exact alike_leaf _ v _ hv hx (fun _ h => by cases h)
  | tup k xs hl hx ih =>
    intro v hv
    show m__law_alike_step (m__law_alike_k (k + 1)) v (.tuple xs) = _
    unfold m__law_alike_step
    simp only [ret_bnd, lft_some, bnd_bnd, bnd_ret, aft_inl, aft_inr]
    have hty : ∀ v, SeqAt.shaped v = true → (∀ vs, v ≠ .tuple vs) → lft (Option.map (fun t => ["tuple"].any fun T => isiOne t T) (tyD (eD v))) = Mr.ret false := by
      intro v hv hn
      cases v with
      | tuple vs => exact absurd rfl (hn vs)
      | dict kvs => simp [SeqAt.shaped, PyData.canLay0] at hv
      | _ => exact lft_ok (by rfl)
    rw [lft_ok (x := true) (by rfl), ret_bnd, if_pos rfl]
    cases v with
    | tuple vs =>
      rw [lft_ok (x := true) (by rfl), ret_bnd, if_pos rfl, lft_ok (x := .int vs.length) (by rfl), ret_bnd, lft_ok (x := .int xs.length) (by rfl), ret_bnd]
      rw [show cmpD COp.eq (eD (PyData.int (vs.length : Int))) (eD (PyData.int (xs.length : Int))) = _ from op_eq_i (vs.length : Int) (xs.length : Int) _ rfl, lft_some, ret_bnd]
      show _ = Mr.ret (alikeAllB vs xs)
      rw [alikeAllB_eq]
      by_cases he : vs.length = xs.length
      · rw [if_pos (by simp [he]), ret_bnd, lft_ok (x := (xs.length : Int)) (by rfl), ret_bnd, rngO_ok (by omega) (by omega), lft_some, ret_bnd]
        rw [mp_ret (g := fun i => alikeB ((vs[i.toNat]?).getD .none) ((xs[i.toNat]?).getD .none))]
        · rw [ret_bnd, idx_zip_all alikeB vs xs he, List.all_map, decide_eq_true he]
          rfl
        · intro i hi
          rw [mem_upto] at hi
          have h1 : L2.atI vs i = some ((vs[i.toNat]?).getD .none) := by rw [atI_some .none hi.1 (by omega), List.getD_eq_getElem?_getD]
          have h2 : L2.atI xs i = some ((xs[i.toNat]?).getD .none) := by rw [atI_some .none hi.1 (by omega), List.getD_eq_getElem?_getD]
          rw [lft_ok (show idxV (eD (.tuple vs)) (PyData.int i) = _ from h1), ret_bnd, lft_ok (show idxV (eD (.tuple xs)) (PyData.int i) = _ from h2), ret_bnd]
          have hi2 : i.toNat < xs.length := by omega
          have e1 : (vs[i.toNat]?).getD .none ∈ vs := by rw [List.getElem?_eq_getElem (by omega)]; exact List.getElem_mem _
          have e2 : (xs[i.toNat]?).getD .none ∈ xs := by rw [List.getElem?_eq_getElem hi2]; exact List.getElem_mem _
          exact ih _ e2 _ (shaped_tup hv _ e1)
      · rw [if_neg (by simp; omega), decide_eq_false he]
        rfl
    | dict kvs => simp [SeqAt.shaped, PyData.canLay0] at hv
    | none => rw [hty _ hv (fun _ h => by cases h), ret_bnd]; rfl
    | bool b => rw [hty _ hv (fun _ h => by cases h), ret_bnd]; rfl
    | int b => rw [hty _ hv (fun _ h => by cases h), ret_bnd]; rfl
    | str b => rw [hty _ hv (fun _ h => by cases h), ret_bnd]; rfl
    | list b => rw [hty _ hv (fun _ h => by cases h), ret_bnd]; rfl
theorem AO.mono {k : Nat} {d : D} (h : AO k d) : ∀ j, k ≤ j → AO j d := by
  induction h with
  | non k => intro j _; exact .non j
  | bl k b => intro j _; exact .bl j b
  | int k b => intro j _; exact .int j b
  | str k x hx => intro j _; exact .str j x hx
  | lst k x hx => intro j _; exact .lst j x hx
  | tup k xs hl hx ih =>
    intro j hj
    obtain ⟨j, rfl⟩ : ∃ i, j = i + 1 := ⟨j - 1, by omega⟩
    exact .tup j xs hl fun x hx => ih x hx j (by omega)
theorem e__law_alike {v d : D} (h : AO 19 d) (hv : SeqAt.shaped v = true) : m__law_alike v d = Mr.ret (alikeB v d) := alike_k h v hv
end C68

namespace C68
open PySem Dv Mr Ac
/-! what the mirrors give: values, rows, subsets -/
theorem e_place_of (sz ro : List Int) (h : ∀ s ∈ sz, 0 ≤ s ∧ s ≤ 9) : m_place_of sz ro = Mr.ret (placeF (sz.zip ro)) := by
  unfold m_place_of
  simp only [ret_bnd, lft_some, bnd_bnd, bnd_ret, aft_inl, aft_inr]
  refine fd_inv (g := placeF) _ ?_
  intro pre a post e
  have ha : a.1 ∈ sz := (List.of_mem_zip (show (a.1, a.2) ∈ sz.zip ro by rw [e]; simp)).1
  have := h a.1 ha
  rw [lft_pos (mulOk_r (by omega) (by omega)) rfl]
  simp only [ret_bnd, lft_some, bnd_bnd, bnd_ret, aft_inl, aft_inr]
  simp [placeF]
theorem enumI_at {α : Type} {l : List α} {pre post : List (Int × α)} {a : Int × α} (e : enumI l = pre ++ a :: post) : l = pre.map (·.2) ++ a.2 :: post.map (·.2) ∧ a.1 = pre.length := by
  constructor
  · have := congrArg (List.map Prod.snd) e
    unfold enumI at this
    rw [List.map_map] at this
    have e2 : ((fun x : Int × α => x.2) ∘ fun p : α × Nat => ((p.2 : Int), p.1)) = Prod.fst := rfl
    rw [e2, List.zipIdx_map_fst] at this
    simpa using this
  · have h : (enumI l)[pre.length]? = some a := by rw [e]; simp
    unfold enumI at h
    rw [List.getElem?_map, List.getElem?_zipIdx] at h
    cases hx : l[pre.length]? with
    | none => rw [hx] at h; cases h
    | some x => rw [hx] at h; simp at h; rw [← h]
theorem enumI_snd {α : Type} (l : List α) : (enumI l).map (·.2) = l := by
  unfold enumI
  rw [List.map_map]
  exact List.zipIdx_map_fst 0 l
theorem mp_gI {l ps : List Int} (h : ∀ u ∈ ps, 0 ≤ u ∧ u < l.length) : mp (fun a => lft (L2.atI l a)) ps = Mr.ret (ps.map (gI l)) :=
  mp_ret fun a ha => lft_ok (atI_gI (h a ha).1 (h a ha).2)
theorem e_values {F : Fn} (W : WF F) {deed : Deed} (hF : Fits F deed) : m_values F deed = Mr.ret (vals F deed) := by
  unfold m_values
  simp only [ret_bnd, lft_some, bnd_bnd, bnd_ret, aft_inl, aft_inr]
  have key := fd_inv (step := fun (s8 : List Int) (a6 : Int × Rule) =>
      if (look deed a6.1).isSome = true then
        bnd (lft (look deed a6.1)) fun x => lft (if lineD (s8.length + [x].length) = true then some (s8 ++ [x]) else none)
      else
        bnd (mp (fun a => lft (L2.atI F.1 a)) a6.2.1) fun x =>
          bnd (mp (fun a => lft (L2.atI s8 a)) a6.2.1) fun y =>
            bnd (m_place_of x y) fun z =>
              bnd (lft (L2.atI a6.2.2 z)) fun w => lft (if lineD (s8.length + [w].length) = true then some (s8 ++ [w]) else none)) (g := fun pre => valsR F.1 deed (pre.map (·.2))) (enumI F.2) (by
    intro pre a post e
    obtain ⟨e1, e2⟩ := enumI_at e
    have hpl := W.lt e1
    have hn := W.n
    obtain ⟨h2, h3, h4⟩ := W.rule _ _ _ e1
    rw [List.length_map] at hpl h2 h4
    have hlen : (valsR F.1 deed (pre.map (·.2))).length = pre.length := by rw [valsR_len, List.length_map]
    have fin : valsR F.1 deed ((pre ++ [a]).map (·.2)) = valsR F.1 deed (pre.map (·.2)) ++ [nextV F.1 deed (valsR F.1 deed (pre.map (·.2))) a.2] := by
      rw [List.map_append, List.map_cons, List.map_nil, vals_snoc]
    rw [fin]
    have hnx : nextV F.1 deed (valsR F.1 deed (pre.map (·.2))) a.2 = (look deed a.1).getD (gI a.2.2 (placeF ((a.2.1.map (gI F.1)).zip (a.2.1.map (gI (valsR F.1 deed (pre.map (·.2)))))))) := by
      unfold nextV
      rw [hlen, e2]
    rw [hnx]
    cases hk : look deed a.1 with
    | some y =>
      rw [if_pos (show (some y).isSome = true from rfl), lft_some, ret_bnd]
      exact lft_line (by rw [hlen]; simp; omega)
    | none =>
      rw [if_neg (by simp)]
      have hin := vals_in W hF _ _ e1
      rw [mp_gI (fun u hu => by have := h2 u hu; omega), ret_bnd, mp_gI (fun u hu => by rw [hlen]; exact h2 u hu), ret_bnd, e_place_of _ _ (by
        intro s hs
        obtain ⟨u, hu, rfl⟩ := List.mem_map.1 hs
        have := h2 u hu
        have := W.sz (u := u) ⟨by omega, by omega⟩
        omega), ret_bnd]
      have q1 := place_lt (ps := a.2.1) hin (by rw [hlen]; exact h2)
      rw [← h3] at q1
      rw [lft_ok (atI_gI q1.1 q1.2), ret_bnd]
      exact lft_line (by rw [hlen]; simp; omega))
  rw [enumI_snd] at key
  exact key
theorem e__law_values {F : Fn} (W : WF F) {deed : Deed} (hF : Fits F deed) : m__law_values F deed = Mr.ret (vals F deed) := by
  unfold m__law_values
  simp only [ret_bnd, lft_some, bnd_bnd, bnd_ret, aft_inl, aft_inr]
  have hn := W.n
  rw [rngO_ok (by omega) (by omega), lft_some, ret_bnd]
  -- by places
  have key := fd_inv (step := fun (s9 : List Int) (a7 : Int) =>
        bnd (lft (L2.atI F.2 a7)) fun v58 =>
          bnd
            (fd
              (fun s62 a60 =>
                bnd (lft (L2.atI F.1 a60)) fun x =>
                  bnd (lft (if mulOk s62 x = true then some (s62 * x) else none)) fun x81 =>
                    bnd (lft (L2.atI s9 a60)) fun x82 => Mr.ret (x81 + x82))
              0 v58.1)
            fun s84 =>
            bnd (if (look deed a7).isSome = true then lft (look deed a7) else lft (L2.atI v58.2 s84))
              fun x93 => lft (if lineD (s9.length + 1) = true then some (s9 ++ [x93]) else none)) (g := fun pre => valsR F.1 deed (F.2.take pre.length)) (upto F.1.length) (by
    intro pre a post e
    have ha : a = pre.length ∧ pre.length < F.1.length := by
      have h1 : (upto F.1.length)[pre.length]? = some a := by rw [e]; simp
      unfold upto at h1
      rw [List.getElem?_map] at h1
      rw [Int.toNat_natCast] at h1
      cases hr : (List.range F.1.length)[pre.length]? with
      | none => rw [hr] at h1; cases h1
      | some k =>
        rw [hr] at h1
        have := List.getElem?_eq_some_iff.1 hr
        obtain ⟨hlt, hk⟩ := this
        rw [List.length_range] at hlt
        rw [List.getElem_range] at hk
        simp at h1
        exact ⟨by omega, hlt⟩
    obtain ⟨rfl, hlt⟩ := ha
    have hlt2 : pre.length < F.2.length := by rw [W.len]; exact hlt
    obtain ⟨r, hr⟩ : ∃ r, F.2[pre.length]? = some r := ⟨_, List.getElem?_eq_getElem hlt2⟩
    have e1 : F.2 = F.2.take pre.length ++ r :: F.2.drop (pre.length + 1) := by
      have : F.2.drop pre.length = r :: F.2.drop (pre.length + 1) := by
        rw [List.drop_eq_getElem_cons hlt2]
        rw [List.getElem?_eq_getElem hlt2] at hr
        cases hr; rfl
      rw [← this, List.take_append_drop]
    have hpl : (F.2.take pre.length).length = pre.length := by rw [List.length_take]; omega
    obtain ⟨h2, h3, h4⟩ := W.rule _ _ _ e1
    rw [hpl] at h2 h4
    have hat : L2.atI F.2 (pre.length : Int) = some r := by
      rw [atI_some r (by omega) (by omega), Int.toNat_natCast, List.getD_eq_getElem?_getD, hr]
      rfl
    rw [lft_ok hat, ret_bnd]
    have hlen : (valsR F.1 deed (F.2.take pre.length)).length = pre.length := by rw [valsR_len, hpl]
    have hin := vals_in W hF _ _ e1
    have hfd : fd (fun s62 a60 =>
                bnd (lft (L2.atI F.1 a60)) fun x =>
                  bnd (lft (if mulOk s62 x = true then some (s62 * x) else none)) fun x81 =>
                    bnd (lft (L2.atI (valsR F.1 deed (F.2.take pre.length)) a60)) fun x82 => Mr.ret (x81 + x82)) 0 r.1 = Mr.ret (placeF ((r.1.map (gI F.1)).zip (r.1.map (gI (valsR F.1 deed (F.2.take pre.length)))))) := by
      refine (fd_inv (g := fun ps => placeF ((ps.map (gI F.1)).zip (ps.map (gI (valsR F.1 deed (F.2.take pre.length)))))) r.1 ?_)
      intro ps u po eu
      have hu := h2 u (by rw [eu]; simp)
      have hs := W.sz (u := u) ⟨by omega, by omega⟩
      rw [lft_ok (atI_gI hu.1 (by omega)), ret_bnd, lft_pos (mulOk_r (by omega) (by omega)) rfl, ret_bnd, lft_ok (atI_gI hu.1 (by rw [hlen]; exact hu.2)), ret_bnd]
      congr 1
      rw [List.map_append, List.map_append, List.zip_append (by simp)]
      simp [placeF]
    rw [hfd, ret_bnd]
    have hg : valsR F.1 deed (F.2.take (pre ++ [(pre.length : Int)]).length) = valsR F.1 deed (F.2.take pre.length) ++ [nextV F.1 deed (valsR F.1 deed (F.2.take pre.length)) r] := by
      rw [List.length_append, List.length_singleton, List.take_add_one, hr, Option.toList_some, vals_snoc]
    rw [hg]
    unfold nextV
    rw [hlen]
    cases hk : look deed (pre.length : Int) with
    | some y =>
      rw [if_pos (show (some y).isSome = true from rfl), lft_some, ret_bnd]
      exact lft_line (by first | omega | (rw [hlen]; omega))
    | none =>
      rw [if_neg (by simp)]
      have q1 := place_lt (ps := r.1) hin (by rw [hlen]; exact h2)
      rw [← h3] at q1
      rw [lft_ok (atI_gI q1.1 q1.2), ret_bnd]
      exact lft_line (by first | omega | (rw [hlen]; omega)))
  have hz : (upto (F.1.length : Int)).length = F.1.length := by rw [upto_len, Int.toNat_natCast]
  simp only [hz] at key
  rw [← W.len, List.take_length] at key
  rw [← W.len]
  exact key
theorem e_rows_of (sz : List Int) (h : ∀ s ∈ sz, 0 ≤ s ∧ s ≤ 3) (hn : sz.length ≤ 8) : m_rows_of sz = Mr.ret (rowsF sz) := by
  unfold m_rows_of
  simp only [ret_bnd, lft_some, bnd_bnd, bnd_ret, aft_inl, aft_inr]
  refine fd_inv (g := rowsF) sz ?_
  intro pre s post e
  have hs := h s (by rw [e]; simp)
  have hp : ∀ x ∈ pre, x ≤ 3 := fun x hx => (h x (by rw [e]; simp [hx])).2
  have hl : pre.length + 1 ≤ 8 := by rw [e] at hn; simp at hn; omega
  rw [rngO_ok (by omega) (by omega), lft_some]
  simp only [ret_bnd]
  rw [fl_ret (g := fun row => (upto s).map fun x => row ++ [x]), ret_bnd, rowsF_snoc]
  · refine lft_line ?_
    have h1 := rowsF_len (pre ++ [s]) (by
      intro x hx
      rcases List.mem_append.1 hx with hx | hx
      · exact hp x hx
      · rw [List.mem_singleton.1 hx]; exact hs.2)
    rw [rowsF_snoc] at h1
    have h2 : 3 ^ (pre ++ [s]).length ≤ 3 ^ 8 := Nat.pow_le_pow_right (by omega) (by simp; omega)
    omega
  · intro row hrow
    refine mp_ret fun x hx => lft_line ?_
    rw [rowsF_row _ _ hrow]
    simp; omega
theorem e__law_rows (sz : List Int) (h : ∀ s ∈ sz, 0 ≤ s ∧ s ≤ 3) (hn : sz.length ≤ 8) : m__law_rows sz = Mr.ret (rowsF sz) := by
  unfold m__law_rows
  simp only [ret_bnd, lft_some, bnd_bnd, bnd_ret, aft_inl, aft_inr]
  refine fd_inv (g := rowsF) sz ?_
  intro pre s post e
  have hs := h s (by rw [e]; simp)
  have hp : ∀ x ∈ pre, x ≤ 3 := fun x hx => (h x (by rw [e]; simp [hx])).2
  have hl : pre.length + 1 ≤ 8 := by rw [e] at hn; simp at hn; omega
  rw [rowsF_snoc]
  have h1 := rowsF_len (pre ++ [s]) (by
      intro x hx
      rcases List.mem_append.1 hx with hx | hx
      · exact hp x hx
      · rw [List.mem_singleton.1 hx]; exact hs.2)
  rw [rowsF_snoc] at h1
  have h2 : 3 ^ (pre ++ [s]).length ≤ 3 ^ 8 := Nat.pow_le_pow_right (by omega) (by simp; omega)
  refine fd_inv (g := fun p => p.flatMap fun row => (upto s).map fun x => row ++ [x]) (rowsF pre) ?_
  intro p row q e2
  rw [rngO_ok (by omega) (by omega), lft_some]
  simp only [ret_bnd]
  have hrow : row ∈ rowsF pre := by rw [e2]; simp
  rw [mp_ret (g := fun x => row ++ [x]) (fun x hx => lft_line (by rw [rowsF_row _ _ hrow]; simp; omega)), ret_bnd]
  rw [List.flatMap_append]
  simp only [List.flatMap_cons, List.flatMap_nil, List.append_nil]
  refine lft_line ?_
  rw [e2] at h1
  simp only [List.flatMap_append, List.flatMap_cons, List.length_append] at h1
  simp only [List.length_append] at h2
  omega
theorem e_subs {α : Type} (e : α → D) (l : List α) (hn : l.length ≤ 12) : fd (fun (s : List (List α)) a => bnd (mp (fun x => lft (if lineD (x.length + [a].length) = true then some (x ++ [a]) else none)) s) fun y => lft (if lineD (s.length + y.length) = true then some (s ++ y) else none)) [[]] l = Mr.ret (subsR l) := by
  refine fd_inv (g := subsR) l ?_
  intro pre a post ep
  have hl : pre.length + 1 ≤ 12 := by rw [ep] at hn; simp at hn; omega
  rw [mp_ret (g := fun x => x ++ [a]), ret_bnd, subsR_snoc]
  · refine lft_line ?_
    rw [List.length_map, subsR_len]
    have : 2 ^ pre.length ≤ 2 ^ 12 := Nat.pow_le_pow_right (by omega) (by omega)
    omega
  · intro s hs
    refine lft_line ?_
    have := ((mem_subsR _ _).1 hs).length_le
    simp; omega
theorem e_subsets (l : List Int) (hn : l.length ≤ 12) : m_subsets l = Mr.ret (subsF PyData.int l) := by
  unfold m_subsets
  simp only [ret_bnd, lft_some, bnd_bnd, bnd_ret, aft_inl, aft_inr]
  rw [e_subs PyData.int l hn, ret_bnd]
  rfl
theorem e_subsets_P (l : Deed) (hn : l.length ≤ 12) : m_subsets_P l = Mr.ret (subsF (eP2 PyData.int PyData.int) l) := by
  unfold m_subsets_P
  simp only [ret_bnd, lft_some, bnd_bnd, bnd_ret, aft_inl, aft_inr]
  rw [e_subs (eP2 PyData.int PyData.int) l hn, ret_bnd]
  rfl
theorem e__law_sets (l : List Int) (hn : l.length ≤ 12) : m__law_sets l = Mr.ret (subsF PyData.int l) := by
  unfold m__law_sets
  simp only [ret_bnd, lft_some, bnd_bnd, bnd_ret, aft_inl, aft_inr]
  rw [e_subs PyData.int l hn, ret_bnd]
  rfl
theorem e__law_sets_T (l : List Int) (hn : l.length ≤ 12) : m__law_sets_T l = Mr.ret (subsF PyData.int l) := by
  unfold m__law_sets_T
  simp only [ret_bnd, lft_some, bnd_bnd, bnd_ret, aft_inl, aft_inr]
  rw [e_subs PyData.int l hn, ret_bnd]
  rfl
theorem e__law_sets_P (l : Deed) (hn : l.length ≤ 12) : m__law_sets_P l = Mr.ret (subsF (eP2 PyData.int PyData.int) l) := by
  unfold m__law_sets_P
  simp only [ret_bnd, lft_some, bnd_bnd, bnd_ret, aft_inl, aft_inr]
  rw [e_subs (eP2 PyData.int PyData.int) l hn, ret_bnd]
  rfl
theorem e__law_sets_Q (l : Deed) (hn : l.length ≤ 12) : m__law_sets_Q l = Mr.ret (subsF (eP2 PyData.int PyData.int) l) := by
  unfold m__law_sets_Q
  simp only [ret_bnd, lft_some, bnd_bnd, bnd_ret, aft_inl, aft_inr]
  rw [e_subs (eP2 PyData.int PyData.int) l hn, ret_bnd]
  rfl
end C68

namespace C68
open PySem Dv Mr Ac
/-! what the mirrors give: events, witnesses, causes -/
def kd (b : Bool) : Str := Str.ofString (if b then "mended" else "updated")
theorem kd_eq (b : Bool) : cmpD .eq (PyData.str (kd b)) (PyData.str (Str.ofString "mended")) = some b := by cases b <;> decide +kernel
theorem e_holds {row : List Int} {ev : Deed} (h : ∀ p ∈ ev, 0 ≤ p.1 ∧ p.1 < row.length) : m_holds row ev = Mr.ret (holdsB row ev) := by
  unfold m_holds
  simp only [ret_bnd, lft_some, bnd_bnd, bnd_ret, aft_inl, aft_inr]
  rw [mp_ret (g := fun p => decide (gI row p.1 = p.2)), ret_bnd]
  · unfold holdsB
    rw [List.all_map]
    rfl
  · intro p hp
    rw [lft_ok (atI_gI (h p hp).1 (h p hp).2), ret_bnd]
theorem e_setting (xs row : List Int) : m_setting xs row = Mr.ret (xs.zip row) := by
  unfold m_setting
  simp only [ret_bnd, lft_some, bnd_bnd, bnd_ret, aft_inl, aft_inr]
theorem ext_fold {α : Type} (l : List (List α)) (s : List α) (h : s.length + l.flatten.length ≤ 16000000) : fd (fun (s : List α) a => lft (if lineD (s.length + a.length) = true then some (s ++ a) else none)) s l = Mr.ret (s ++ l.flatten) := by
  induction l generalizing s with
  | nil => simp [fd]
  | cons a l ih =>
    rw [List.flatten_cons, List.length_append] at h
    rw [fd, lft_line (by omega), ret_bnd, ih _ (by rw [List.length_append]; omega)]
    rw [List.flatten_cons, List.append_assoc]
theorem e_together (l : List Deed) (h : l.flatten.length ≤ 16000000) : m_together l = Mr.ret (sortE eII l.flatten) := by
  unfold m_together
  simp only [ret_bnd, lft_some, bnd_bnd, bnd_ret, aft_inl, aft_inr]
  rw [ext_fold l [] (by simpa using h), ret_bnd]
  rfl
theorem e_others_of {F : Fn} (W : WF F) (xs : List Int) : m_others_of F xs = Mr.ret (othersF F xs) := by
  unfold m_others_of
  simp only [ret_bnd, lft_some, bnd_bnd, bnd_ret, aft_inl, aft_inr]
  have := W.n
  rw [rngO_ok (by omega) (by omega), lft_some, ret_bnd]
  rw [fm_ret (q := fun v => decide (v ∉ xs)) (g := fun v => v) (fun _ _ => rfl) (fun _ _ _ => rfl), List.map_id']
  rfl
theorem mp_act {F : Fn} (W : WF F) {vs : List Int} (h : ∀ v ∈ vs, InN F v) : mp (fun a5 => bnd (lft (L2.atI (act F) a5)) fun x9 => Mr.ret (a5, x9)) vs = Mr.ret (actOf F vs) := by
  refine mp_ret fun v hv => ?_
  rw [lft_ok (atI_gI (h v hv).1 (by show v < (vals F []).length; rw [vals_len W]; exact (h v hv).2)), ret_bnd]
theorem e_actual_of {F : Fn} (W : WF F) {vs : List Int} (h : ∀ v ∈ vs, InN F v) : m_actual_of F vs = Mr.ret (actOf F vs) := by
  unfold m_actual_of
  simp only [ret_bnd, lft_some, bnd_bnd, bnd_ret, aft_inl, aft_inr]
  rw [e_values W (fits_nil F), ret_bnd]
  exact mp_act W h
theorem e_actual_of_L {F : Fn} (W : WF F) {vs : List Int} (h : ∀ v ∈ vs, InN F v) : m_actual_of_L F vs = Mr.ret (actOf F vs) := by
  unfold m_actual_of_L
  simp only [ret_bnd, lft_some, bnd_bnd, bnd_ret, aft_inl, aft_inr]
  rw [e_values W (fits_nil F), ret_bnd]
  exact mp_act W h
/-- an event that may be asked -/
def EvOk (F : Fn) (ev : Deed) : Prop := ∀ p ∈ ev, InN F p.1
theorem e_so {F : Fn} (W : WF F) {ev deed : Deed} (he : EvOk F ev) (hd : Fits F deed) : (bnd (m_values F (sortE eII deed)) fun x => m_holds x ev) = Mr.ret (so F deed ev) := by
  rw [e_values W (fits_sort hd), ret_bnd, e_holds]
  · rfl
  · intro p hp
    rw [vals_len W]
    exact he p hp
theorem e__law_so {F : Fn} (W : WF F) {ev deed : Deed} (he : EvOk F ev) (hd : Fits F deed) : m__law_so F deed ev = Mr.ret (so F deed ev) := by
  have h1 := e_holds (row := vals F (sortE eII deed)) (ev := ev) (by
    intro p hp
    rw [vals_len W]
    exact he p hp)
  unfold m_holds at h1
  unfold m__law_so
  revert h1
  simp only [ret_bnd, lft_some, bnd_bnd, bnd_ret, aft_inl, aft_inr]
  intro h1
  rw [e__law_values W (fits_sort hd), ret_bnd]
  exact h1
theorem sort_nil : sortE eII ([] : Deed) = [] := List.mergeSort_nil
theorem fr_all {α : Type} (p : α → Bool) (l : List α) : fr (fun (_ : Unit) (a : α) => if (!p a) = true then Mr.ret (.inr false) else Mr.ret (.inl ())) () l = (Mr.ret (if l.all p then .inl () else .inr false) : ND (Unit ⊕ Bool)) := by
  induction l with
  | nil => rfl
  | cons a l ih =>
    rw [fr, List.all_cons]
    cases p a with
    | true => rw [if_neg (by simp), ret_bnd, Bool.true_and]; exact ih
    | false => rw [if_pos (show (!false) = true from rfl), ret_bnd]; rfl
theorem fr_congr {α σ ρ : Type} {f g : σ → α → ND (σ ⊕ ρ)} {l : List α} (h : ∀ s, ∀ a ∈ l, f s a = g s a) (s : σ) : fr f s l = fr g s l := by
  induction l generalizing s with
  | nil => rfl
  | cons a l ih =>
    rw [fr, fr, h s a List.mem_cons_self]
    congr 1
    funext o
    cases o with
    | inl s' => exact ih (fun s b hb => h s b (List.mem_cons_of_mem _ hb)) s'
    | inr r => rfl
theorem rest_fits {F : Fn} (W : WF F) (xs : List Int) (held : Deed) : Fits F (restF F xs held) ∧ (restF F xs held).length ≤ 4 := by
  unfold restF
  have h := (others_ok W xs).sub (List.filter_sublist (p := fun v => decide (v ∉ held.map (·.1))))
  refine ⟨fits_actOf W h.1, ?_⟩
  unfold actOf
  rw [List.length_map]
  exact h.2
theorem e_stays_whole {F : Fn} (W : WF F) {xs : List Int} {ev held : Deed} (hx : XOk F xs) (he : EvOk F ev) (hh : Fits F held) (hl : held.length ≤ 4) : m_stays_whole F xs ev held = Mr.ret (whole F xs ev held) := by
  unfold m_stays_whole
  simp only [ret_bnd, lft_some, bnd_bnd, bnd_ret, aft_inl, aft_inr]
  rw [e_actual_of W hx.1, ret_bnd, mp_ret (g := fun p : Int × Int => p.1) (fun _ _ => rfl), ret_bnd, e_others_of W, ret_bnd]
  rw [fm_ret (q := fun v => decide (v ∉ held.map (·.1))) (g := fun v => v) (fun _ _ => rfl) (fun _ _ _ => rfl), List.map_id', ret_bnd]
  have ho := (others_ok W xs).sub (List.filter_sublist (p := fun v => decide (v ∉ held.map (·.1))))
  rw [e_actual_of_L W ho.1, ret_bnd, e_subsets_P held (by omega), ret_bnd]
  have hr := rest_fits W xs held
  unfold restF at hr
  rw [fr_congr (g := fun (_ : Unit) (a : Deed) => if (!((subsF eII (restF F xs held)).all fun more => so F (actOf F xs ++ a ++ more) ev)) = true then Mr.ret (.inr false) else Mr.ret (.inl ()))]
  · rw [fr_all (fun a => (subsF eII (restF F xs held)).all fun more => so F (actOf F xs ++ a ++ more) ev), ret_bnd]
    unfold whole
    cases (subsF eII held).all fun a => (subsF eII (restF F xs held)).all fun more => so F (actOf F xs ++ a ++ more) ev <;> rfl
  · intro _ a ha
    have hsa := (mem_subsF _ _).1 ha
    rw [e_subsets_P _ (by omega), ret_bnd]
    rw [fr_congr (g := fun (_ : Unit) (more : Deed) => if (!(so F (actOf F xs ++ a ++ more) ev)) = true then Mr.ret (.inr false) else Mr.ret (.inl ()))]
    · rw [fr_all (fun more => so F (actOf F xs ++ a ++ more) ev), ret_bnd]
      show aft (if (subsF eII (restF F xs held)).all _ = true then _ else _) _ _ = _
      cases (subsF eII (restF F xs held)).all fun more => so F (actOf F xs ++ a ++ more) ev <;> rfl
    · intro _ more hm
      have hsm := (mem_subsF _ _).1 hm
      have hlen : (actOf F xs).length ≤ 4 := by unfold actOf; rw [List.length_map]; exact hx.2
      rw [e_together _ (by
        have := hsa.length_le
        have := hsm.length_le
        simp only [List.flatten_cons, List.flatten_nil, List.length_append, List.length_nil]
        omega), ret_bnd]
      have := e_so (F := F) W (ev := ev) (deed := [actOf F xs, a, more].flatten) he (by
        simp only [List.flatten_cons, List.flatten_nil, List.append_nil]
        exact fits_app (fits_actOf W hx.1) (fits_app (fits_sub hh hsa) (fits_sub hr.1 hsm)))
      have e3 : [actOf F xs, a, more].flatten = actOf F xs ++ a ++ more := by simp
      rw [e3] at this ⊢
      rw [← bnd_bnd, this, ret_bnd]
theorem e_is_witness {F : Fn} (W : WF F) {b : Bool} {xs other : List Int} {ev held : Deed} (hx : XOk F xs) (he : EvOk F ev) (ho : other ∈ rowsX F xs) (hh : Fits F held) (hl : held.length ≤ 4) : m_is_witness F (kd b) xs ev other held = Mr.ret (wit F b xs ev other held) := by
  unfold m_is_witness
  simp only [ret_bnd, lft_some, bnd_bnd, bnd_ret, aft_inl, aft_inr]
  have hz : Fits F (xs.zip other) := fits_zip hx.1 ho
  have e3 : [xs.zip other, held].flatten = xs.zip other ++ held := by simp
  rw [e_setting, ret_bnd, e_together _ (by
    have := hx.2
    rw [e3, List.length_append, List.length_zip]
    omega), ret_bnd, e3, ← bnd_bnd, e_so W he (fits_app hz hh), ret_bnd, kd_eq]
  unfold wit
  cases so F (xs.zip other ++ held) ev with
  | true => rfl
  | false =>
    rw [if_neg (by simp), lft_some, ret_bnd]
    cases b with
    | true => rfl
    | false =>
      rw [if_neg (by simp), e_stays_whole W hx he hh hl]
      rfl
theorem rest_law (F : Fn) (xs : List Int) (held : Deed) : ((upto F.1.length).filter fun v => decide (v ∉ xs) && decide (v ∉ held.map (·.1))).map (fun v => (v, gI (act F) v)) = restF F xs held := by
  unfold restF othersF actOf
  rw [List.filter_filter]
  congr 2
  funext v
  rw [Bool.and_comm]
theorem zip_upto (xs ys : List Int) (h : ys.length = xs.length) : (upto xs.length).map (fun i => (gI xs i, gI ys i)) = xs.zip ys := by
  unfold upto
  rw [List.map_map, Int.toNat_natCast]
  refine List.ext_getElem (by simp [h]) ?_
  intro k h1 h2
  simp only [List.length_map, List.length_range] at h1
  simp only [List.getElem_map, List.getElem_range, Function.comp, List.getElem_zip, gI, Int.toNat_natCast, List.getD_eq_getElem?_getD]
  rw [List.getElem?_eq_getElem h1, List.getElem?_eq_getElem (by omega)]
  rfl
theorem mp_zip {xs ys : List Int} (h : ys.length = xs.length) : mp (fun i => bnd (lft (L2.atI xs i)) fun x => bnd (lft (L2.atI ys i)) fun y => Mr.ret (x, y)) (upto xs.length) = Mr.ret (xs.zip ys) := by
  rw [← zip_upto xs ys h]
  refine mp_ret fun i hi => ?_
  rw [mem_upto] at hi
  rw [lft_ok (atI_gI hi.1 hi.2), ret_bnd, lft_ok (atI_gI hi.1 (by rw [h]; exact hi.2)), ret_bnd]
theorem e__law_is_witness {F : Fn} (W : WF F) {b : Bool} {xs other : List Int} {ev held : Deed} (hx : XOk F xs) (he : EvOk F ev) (ho : other ∈ rowsX F xs) (hh : Fits F held) (hl : held.length ≤ 4) : m__law_is_witness F (kd b) xs ev other held = Mr.ret (wit F b xs ev other held) := by
  unfold m__law_is_witness
  simp only [ret_bnd, lft_some, bnd_bnd, bnd_ret, aft_inl, aft_inr]
  have hz : Fits F (xs.zip other) := fits_zip hx.1 ho
  have hx4 := hx.2
  have hor := rowsX_row ho
  rw [e__law_values W (fits_nil F), ret_bnd, rngO_ok (by omega) (by omega), lft_some, ret_bnd]
  rw [mp_zip hor, ret_bnd, lft_line (by rw [List.length_zip]; omega), ret_bnd, e__law_so W he (fits_app hz hh), ret_bnd, kd_eq]
  unfold wit
  cases so F (xs.zip other ++ held) ev with
  | true => rfl
  | false =>
    rw [if_neg (by simp), lft_some, ret_bnd]
    cases b with
    | true => rfl
    | false =>
      rw [if_neg (by simp)]
      have hact : vals F [] = act F := rfl
      rw [hact, mp_act W hx.1, ret_bnd]
      have hal : (act F).length = F.1.length := vals_len W []
      have := W.n
      rw [hal, rngO_ok (by omega) (by omega), lft_some, ret_bnd]
      rw [fm_ret (q := fun v => decide (v ∉ xs) && decide (v ∉ held.map (·.1))) (g := fun v => (v, gI (act F) v)), ret_bnd, rest_law]
      · have hr := rest_fits W xs held
        rw [e__law_sets_P held (by omega), ret_bnd]
        rw [fr_congr (g := fun (_ : Unit) (a : Deed) => if (!((subsF eII (restF F xs held)).all fun more => so F (actOf F xs ++ a ++ more) ev)) = true then Mr.ret (.inr false) else Mr.ret (.inl ()))]
        · rw [fr_all (fun a => (subsF eII (restF F xs held)).all fun more => so F (actOf F xs ++ a ++ more) ev), ret_bnd]
          unfold whole
          cases (subsF eII held).all fun a => (subsF eII (restF F xs held)).all fun more => so F (actOf F xs ++ a ++ more) ev <;> rfl
        · intro _ a ha
          have hsa := (mem_subsF _ _).1 ha
          rw [e__law_sets_Q _ (by omega), ret_bnd]
          rw [fr_congr (g := fun (_ : Unit) (more : Deed) => if (!(so F (actOf F xs ++ a ++ more) ev)) = true then Mr.ret (.inr false) else Mr.ret (.inl ()))]
          · rw [fr_all (fun more => so F (actOf F xs ++ a ++ more) ev), ret_bnd]
            cases (subsF eII (restF F xs held)).all fun more => so F (actOf F xs ++ a ++ more) ev <;> rfl
          · intro _ more hm
            have hsm := (mem_subsF _ _).1 hm
            have hlen : (actOf F xs).length ≤ 4 := by unfold actOf; rw [List.length_map]; exact hx.2
            have := hsa.length_le
            have := hsm.length_le
            rw [lft_line (by omega), ret_bnd, lft_line (by rw [List.length_append]; omega), ret_bnd, e__law_so W he (fits_app (fits_app (fits_actOf W hx.1) (fits_sub hh hsa)) (fits_sub hr.1 hsm)), ret_bnd]
      · intro v _
        cases decide (v ∉ xs) with
        | true =>
          rw [if_pos rfl, mp_ret (g := fun p : Int × Int => p.1) (fun _ _ => rfl), ret_bnd, Bool.true_and]
        | false => rfl
      · intro v hv _
        rw [mem_upto] at hv
        rw [lft_ok (atI_gI hv.1 (by rw [hal]; exact hv.2)), ret_bnd]
end C68

namespace C68
open PySem Dv Mr Ac
/-! causes -/
theorem fd_snoc_if {α β : Type} {p : α → Bool} {f : α → β} {step : List β → α → ND (List β)} {l : List α} {s : List β} (hs : ∀ s, ∀ a ∈ l, step s a = if p a = true then lft (if lineD (s.length + 1) = true then some (s ++ [f a]) else none) else Mr.ret s) (h : s.length + l.length ≤ 16000000) : fd step s l = Mr.ret (s ++ (l.filter p).map f) := by
  induction l generalizing s with
  | nil => simp [fd]
  | cons a l ih =>
    rw [List.length_cons] at h
    rw [fd, hs s a List.mem_cons_self, List.filter_cons]
    cases p a with
    | true =>
      rw [if_pos rfl, if_pos rfl, lft_line (by omega), ret_bnd, ih (fun s b hb => hs s b (List.mem_cons_of_mem _ hb)) (by rw [List.length_append, List.length_singleton]; omega)]
      simp
    | false =>
      rw [if_neg (by simp), if_neg (by simp), ret_bnd]
      exact ih (fun s b hb => hs s b (List.mem_cons_of_mem _ hb)) (by omega)
theorem fd_flat {α β : Type} {g : α → List β} {K : Nat} {step : List β → α → ND (List β)} {l : List α} {s : List β} (hs : ∀ s, ∀ a ∈ l, s.length + K ≤ 16000000 → step s a = Mr.ret (s ++ g a)) (hg : ∀ a ∈ l, (g a).length ≤ K) (h : s.length + l.length * K ≤ 16000000) : fd step s l = Mr.ret (s ++ l.flatMap g) := by
  induction l generalizing s with
  | nil => simp [fd]
  | cons a l ih =>
    rw [List.length_cons, Nat.add_mul, Nat.one_mul] at h
    have := hg a List.mem_cons_self
    rw [fd, hs s a List.mem_cons_self (by omega), ret_bnd, ih (fun s b hb => hs s b (List.mem_cons_of_mem _ hb)) (fun b hb => hg b (List.mem_cons_of_mem _ hb)) (by rw [List.length_append]; omega)]
    simp
theorem e_settings_of {F : Fn} (W : WF F) {names : List Int} (h : XOk F names) : m_settings_of F names = Mr.ret (setts F false names) := by
  unfold m_settings_of
  simp only [ret_bnd, lft_some, bnd_bnd, bnd_ret, aft_inl, aft_inr]
  rw [mp_gI h.1, ret_bnd, e_rows_of _ (by
    intro s hs
    obtain ⟨v, hv, rfl⟩ := List.mem_map.1 hs
    have := W.sz (h.1 v hv)
    omega) (by rw [List.length_map]; have := h.2; omega), ret_bnd, mp_ret (g := fun row => names.zip row) (fun row _ => by rw [e_setting])]
  rfl
theorem e_held_choices {F : Fn} (W : WF F) {b : Bool} {xs : List Int} : m_held_choices F (kd b) xs = Mr.ret (heldsF F b xs) := by
  unfold m_held_choices
  simp only [ret_bnd, lft_some, bnd_bnd, bnd_ret, aft_inl, aft_inr]
  have ho := others_ok W xs
  rw [e_others_of W, ret_bnd, e_subsets _ (by have := ho.2; omega), ret_bnd]
  rw [fd_flat (g := setts F b) (K := 81), ret_bnd, mp_ret (g := fun d : Deed => ((d.length : Int), d)) (fun _ _ => rfl), ret_bnd, mp_ret (g := fun d : Int × Deed => d.2) (fun _ _ => rfl)]
  · rw [List.nil_append]; rfl
  · intro s names hn hsl
    have hok := ho.sub ((mem_subsF _ _).1 hn)
    rw [kd_eq, lft_some, ret_bnd]
    cases b with
    | true =>
      rw [if_pos rfl, e_actual_of W hok.1, ret_bnd, lft_line (by omega)]
      rfl
    | false =>
      rw [if_neg (by simp), e_settings_of W hok, ret_bnd]
      have := setts_len W hok (b := false)
      rw [lft_line (by omega)]
  · intro names hn
    exact setts_len W (ho.sub ((mem_subsF _ _).1 hn))
  · have h1 : (subsF PyData.int (othersF F xs)).length ≤ 2 ^ 4 := by rw [subsF_len]; exact Nat.pow_le_pow_right (by omega) ho.2
    simp only [List.length_nil]
    omega
theorem fr_find {α ρ : Type} (g : α → Option ρ) {step : Unit → α → ND (Unit ⊕ ρ)} {l : List α} (h : ∀ a ∈ l, step () a = Mr.ret (match g a with | some r => .inr r | none => .inl ())) : fr step () l = Mr.ret (match l.findSome? g with | some r => .inr r | none => .inl ()) := fr_ret h
theorem sizes_ok {F : Fn} (W : WF F) {xs : List Int} (h : XOk F xs) : (∀ s ∈ xs.map (gI F.1), 0 ≤ s ∧ s ≤ 3) ∧ (xs.map (gI F.1)).length ≤ 8 := by
  refine ⟨?_, by rw [List.length_map]; have := h.2; omega⟩
  intro s hs
  obtain ⟨v, hv, rfl⟩ := List.mem_map.1 hs
  have := W.sz (h.1 v hv)
  omega
theorem e_first_witness {F : Fn} (W : WF F) {b : Bool} {xs : List Int} {ev : Deed} (hx : XOk F xs) (he : EvOk F ev) : m_first_witness F (kd b) xs ev = Mr.ret (allW F b xs ev).head? := by
  unfold m_first_witness
  simp only [ret_bnd, lft_some, bnd_bnd, bnd_ret, aft_inl, aft_inr]
  rw [mp_gI hx.1, ret_bnd, e_rows_of _ (sizes_ok W hx).1 (sizes_ok W hx).2, ret_bnd, e_held_choices W, ret_bnd]
  rw [fr_find (g := fun held => ((rowsX F xs).findSome? fun o => if wit F b xs ev o held then some (o, held) else none).map some)]
  · rw [ret_bnd, ← first_head]
    have hm : ∀ (l : List Deed) (f : Deed → Option (List Int × Deed)), l.findSome? (fun h => (f h).map some) = (l.findSome? f).map some := by
      intro l f
      induction l with
      | nil => rfl
      | cons a l ih =>
        rw [List.findSome?_cons, List.findSome?_cons]
        cases f a with
        | some x => rfl
        | none => exact ih
    rw [hm]
    cases (heldsF F b xs).findSome? fun held => (rowsX F xs).findSome? fun o => if wit F b xs ev o held = true then some (o, held) else none <;> rfl
  · intro held hh
    have hf := held_fits W hh
    rw [fr_find (g := fun o => if wit F b xs ev o held then some (some (o, held)) else none)]
    · rw [ret_bnd]
      have hm : ∀ (l : List (List Int)), l.findSome? (fun o => if wit F b xs ev o held = true then some (some (o, held)) else none) = (l.findSome? fun o => if wit F b xs ev o held = true then some (o, held) else none).map some := by
        intro l
        induction l with
        | nil => rfl
        | cons a l ih =>
          rw [List.findSome?_cons, List.findSome?_cons]
          cases wit F b xs ev a held with
          | true => rfl
          | false => exact ih
      unfold rowsX
      rw [hm]
      cases (rowsF (xs.map (gI F.1))).findSome? fun o => if wit F b xs ev o held = true then some (o, held) else none <;> rfl
    · intro o ho
      rw [e_is_witness W hx he ho hf.1 hf.2, ret_bnd]
      cases wit F b xs ev o held <;> rfl
theorem e_parts_of {xs : List Int} (h : xs.length ≤ 4) : m_parts_of xs = Mr.ret (partsF xs) := by
  unfold m_parts_of
  simp only [ret_bnd, lft_some, bnd_bnd, bnd_ret, aft_inl, aft_inr]
  rw [e_subsets _ (by omega), ret_bnd, fm_ret (q := fun p : List Int => decide (0 < (p.length : Int)) && decide ((p.length : Int) < xs.length)) (g := fun p => p), List.map_id', ret_bnd, mp_ret (g := fun p : List Int => ((p.length : Int), p)) (fun _ _ => rfl), ret_bnd, mp_ret (g := fun p : Int × List Int => p.2) (fun _ _ => rfl)]
  · rfl
  · intro p _
    cases decide (0 < (p.length : Int)) <;> rfl
  · intro p _ _; rfl
theorem e__law_parts {xs : List Int} (h : xs.length ≤ 4) : m__law_parts xs = Mr.ret (partsP xs) := by
  unfold m__law_parts
  simp only [ret_bnd, lft_some, bnd_bnd, bnd_ret, aft_inl, aft_inr]
  rw [e__law_sets_T _ (by omega), ret_bnd, fm_ret (q := fun p : List Int => decide (0 < (p.length : Int)) && decide ((p.length : Int) < xs.length)) (g := fun p : List Int => ((p.length : Int), p)), ret_bnd]
  · rfl
  · intro p _
    cases decide (0 < (p.length : Int)) <;> rfl
  · intro p _ _; rfl
theorem so_nil {F : Fn} (ev : Deed) : so F [] ev = holdsB (act F) ev := by unfold so; rw [sort_nil]; rfl
theorem parts_ok {F : Fn} {xs p : List Int} (hx : XOk F xs) (h : p ∈ partsF xs) : XOk F p := hx.sub (parts_sub h)
theorem findSome?_map' {α β γ : Type} (f : α → Option β) (g : β → γ) (l : List α) : l.findSome? (fun a => (f a).map g) = (l.findSome? f).map g := by
  induction l with
  | nil => rfl
  | cons a l ih =>
    rw [List.findSome?_cons, List.findSome?_cons]
    cases f a with
    | some x => rfl
    | none => exact ih
theorem e_cause_paper {F : Fn} (W : WF F) {b : Bool} {xs : List Int} {ev : Deed} (hx : XOk F xs) (he : EvOk F ev) : m_cause_paper F (kd b) xs ev = Mr.ret (causeP F b xs ev) := by
  unfold m_cause_paper
  simp only [ret_bnd, lft_some, bnd_bnd, bnd_ret, aft_inl, aft_inr]
  have h0 := e_so W (ev := ev) (deed := []) he (fits_nil F)
  rw [sort_nil] at h0
  rw [← bnd_bnd, h0, ret_bnd]
  unfold causeP
  cases so F [] ev with
  | false => simp only [Bool.not_true, Bool.not_false, Option.isNone_none, Option.isSome_some, Option.isSome_none, Option.isNone_some, List.isEmpty_nil, List.isEmpty_cons, if_true, if_false, Bool.false_eq_true, reduceIte]; exact lft_line (by simp)
  | true =>
    rw [if_neg (by simp), if_pos rfl, e_parts_of hx.2, ret_bnd]
    rw [fr_find (g := fun p => ((allW F b p ev).head?.map fun w => (p, w)).map fun q : List Int × List Int × Deed => PyData.tuple [sD "less", eT PyData.int q.1, eT PyData.int q.2.1, eT eII q.2.2]), ret_bnd, findSome?_map']
    · cases (partsF xs).findSome? fun p => (allW F b p ev).head?.map fun w => (p, w) with
      | some q => rfl
      | none =>
        show aft _ _ _ = _
        simp only [Option.map_none]
        rw [aft_inl, e_first_witness W hx he, ret_bnd]
        cases (allW F b xs ev).head? with
        | none => simp only [Bool.not_true, Bool.not_false, Option.isNone_none, Option.isSome_some, Option.isSome_none, Option.isNone_some, List.isEmpty_nil, List.isEmpty_cons, if_true, if_false, Bool.false_eq_true, reduceIte]; exact lft_line (by simp)
        | some w =>
          simp only [Bool.not_true, Bool.not_false, Option.isNone_none, Option.isSome_some, Option.isSome_none, Option.isNone_some, List.isEmpty_nil, List.isEmpty_cons, if_true, if_false, Bool.false_eq_true, reduceIte]
          rw [lft_line (by simp), ret_bnd]
          exact lft_ok (by simp only [eO, eD, eP2, binD]; rw [if_pos (lineD_ok (by simp))]; rfl)
    · intro p hp
      rw [e_first_witness W (parts_ok hx hp) he, ret_bnd]
      cases (allW F b p ev).head? with
      | none => rfl
      | some w =>
        simp only [Bool.not_true, Bool.not_false, Option.isNone_none, Option.isSome_some, Option.isSome_none, Option.isNone_some, List.isEmpty_nil, List.isEmpty_cons, if_true, if_false, Bool.false_eq_true, reduceIte]
        rw [lft_line (by simp), ret_bnd, lft_ok (x := PyData.tuple [sD "less", eT PyData.int p, eT PyData.int w.1, eT eII w.2]) (by simp only [eO, eD, eP2, binD]; rw [if_pos (lineD_ok (by simp))]; rfl), ret_bnd]
        rfl
theorem idx_cause (F : Fn) (b : Bool) (xs : List Int) (ev : Deed) : (bnd (lft (idxV (eD (causeP F b xs ev)) (PyData.int 0))) fun x7 => lft (cmpD COp.eq (eD x7) (PyData.str (Str.ofString "cause")))) = Mr.ret (isCause F b xs ev) := by
  unfold causeP isCause
  cases so F [] ev with
  | false =>
    rw [if_neg (by simp), lft_ok (x := sD "false") (by rfl), ret_bnd, Bool.false_and, Bool.false_and]
    exact lft_ok (by decide +kernel)
  | true =>
    rw [if_pos rfl, Bool.true_and]
    cases (partsF xs).findSome? fun p => (allW F b p ev).head?.map fun w => (p, w) with
    | some q =>
      rw [lft_ok (x := sD "less") (by rfl), ret_bnd]
      exact lft_ok (by rw [show cmpD COp.eq (eD (sD "less")) (PyData.str (Str.ofString "cause")) = some false by decide +kernel]; rfl)
    | none =>
      cases (allW F b xs ev).head? with
      | none =>
        rw [lft_ok (x := sD "no") (by rfl), ret_bnd]
        exact lft_ok (by decide +kernel)
      | some w =>
        rw [lft_ok (x := sD "cause") (by rfl), ret_bnd]
        exact lft_ok (by rw [show cmpD COp.eq (eD (sD "cause")) (PyData.str (Str.ofString "cause")) = some true by decide +kernel]; rfl)
theorem e_is_cause {F : Fn} (W : WF F) {b : Bool} {xs : List Int} {ev : Deed} (hx : XOk F xs) (he : EvOk F ev) : m_is_cause F (kd b) xs ev = Mr.ret (isCause F b xs ev) := by
  unfold m_is_cause
  simp only [ret_bnd, lft_some, bnd_bnd, bnd_ret, aft_inl, aft_inr]
  rw [e_cause_paper W hx he, ret_bnd]
  exact idx_cause F b xs ev
theorem e__law_witnesses {F : Fn} (W : WF F) {b : Bool} {xs : List Int} {ev : Deed} (hx : XOk F xs) (he : EvOk F ev) : m__law_witnesses F (kd b) xs ev = Mr.ret (allW F b xs ev) := by
  unfold m__law_witnesses
  simp only [ret_bnd, lft_some, bnd_bnd, bnd_ret, aft_inl, aft_inr]
  have ho := others_ok W xs
  have hact : vals F [] = act F := rfl
  have hal : (act F).length = F.1.length := vals_len W []
  have hn := W.n
  have hro := rowsX_len W hx
  rw [e__law_values W (fits_nil F), ret_bnd, hact, hal, rngO_ok (by omega) (by omega), lft_some, ret_bnd]
  rw [fm_ret (q := fun v => decide (v ∉ xs)) (g := fun v => v) (fun _ _ => rfl) (fun _ _ _ => rfl), List.map_id', ret_bnd]
  show bnd (m__law_sets (othersF F xs)) _ = _
  rw [e__law_sets _ (by have := ho.2; omega), ret_bnd]
  have hlen : ∀ names, XOk F names → ((setts F b names).flatMap fun held => ((rowsX F xs).filter fun o => wit F b xs ev o held).map fun o => ((held.length : Int), held, o)).length ≤ 6561 := by
    intro names hok
    refine Nat.le_trans (flat_len _ 81 _ fun held _ => ?_) (Nat.le_trans (Nat.mul_le_mul_right 81 (setts_len W hok)) (by omega))
    rw [List.length_map]
    exact Nat.le_trans (List.length_filter_le _ _) hro
  rw [fd_flat (K := 6561) (g := fun names => (setts F b names).flatMap fun held => ((rowsX F xs).filter fun o => wit F b xs ev o held).map fun o => ((held.length : Int), held, o)), ret_bnd]
  · rw [mp_ret (g := fun t : Int × Deed × List Int => (t.2.2, t.2.1)) (fun _ _ => rfl)]
    rw [List.nil_append, ← lawW_eq]
    rfl
  · intro s names hn' hsl
    have hok := ho.sub ((mem_subsF _ _).1 hn')
    rw [kd_eq, lft_some, ret_bnd]
    -- the rows
    have hrows : ∃ rows : List (List Int), (if b = true then bnd (mp (fun a => lft (L2.atI (act F) a)) names) fun x => Mr.ret [x] else bnd (mp (fun a => lft (L2.atI F.1 a)) names) fun x => m__law_rows x) = Mr.ret rows ∧ (∀ row ∈ rows, row.length = names.length) ∧ rows.map (fun row => names.zip row) = setts F b names := by
      cases b with
      | true =>
        refine ⟨[names.map (gI (act F))], ?_, ?_, ?_⟩
        · rw [if_pos rfl, mp_gI (fun u hu => by rw [hal]; exact hok.1 u hu), ret_bnd]
        · intro row hr
          rw [List.mem_singleton.1 hr, List.length_map]
        · unfold setts actOf
          rw [if_pos rfl, List.map_cons, List.map_nil]
          congr 1
          rw [← List.map_prod_left_eq_zip]
      | false =>
        refine ⟨rowsX F names, ?_, ?_, ?_⟩
        · rw [if_neg (by simp), mp_gI hok.1, ret_bnd, e__law_rows _ (sizes_ok W hok).1 (sizes_ok W hok).2]
          rfl
        · intro row hr
          exact rowsX_row hr
        · unfold setts
          rw [if_neg (by simp)]
          rfl
    obtain ⟨rows, hr1, hr2, hr3⟩ := hrows
    rw [hr1, ret_bnd]
    have hrl : rows.length ≤ 81 := by
      have := setts_len W hok (b := b)
      rw [← hr3, List.length_map] at this
      exact this
    rw [← hr3, List.flatMap_map]
    refine fd_flat (K := 81) ?_ ?_ (by omega)
    · intro s row hrow hsl
      have hzf : Fits F (names.zip row) ∧ (names.zip row).length = names.length := setts_fits W hok.1 (b := b) (by rw [← hr3]; exact List.mem_map_of_mem hrow)
      have := hok.2
      rw [rngO_ok (by omega) (by omega), lft_some, ret_bnd, mp_zip (hr2 row hrow), ret_bnd, mp_gI hx.1, ret_bnd, e__law_rows _ (sizes_ok W hx).1 (sizes_ok W hx).2, ret_bnd]
      have hro' : (rowsF (xs.map (gI F.1))).length ≤ 81 := hro
      refine fd_snoc_if (p := fun o => wit F b xs ev o (names.zip row)) (f := fun o => (((names.zip row).length : Int), names.zip row, o)) ?_ (by omega)
      intro s o hoo
      rw [e__law_is_witness W hx he hoo hzf.1 (by omega), ret_bnd]
    · intro row _
      rw [List.length_map]
      exact Nat.le_trans (List.length_filter_le _ _) hro
  · intro names hn'
    exact hlen names (ho.sub ((mem_subsF _ _).1 hn'))
  · have h1 : (subsF PyData.int (othersF F xs)).length ≤ 2 ^ 4 := by rw [subsF_len]; exact Nat.pow_le_pow_right (by omega) ho.2
    simp only [List.length_nil]
    omega
theorem atI_zero {α : Type} (l : List α) : L2.atI l 0 = l.head? := by
  cases l with
  | nil => rfl
  | cons a l =>
    unfold L2.atI L2.ixN
    rw [if_pos (by omega), if_pos (by rw [List.length_cons]; omega)]
    rfl
theorem e__law_cause {F : Fn} (W : WF F) {b : Bool} {xs : List Int} {ev : Deed} (hx : XOk F xs) (he : EvOk F ev) : m__law_cause F (kd b) xs ev = Mr.ret (causeP F b xs ev) := by
  unfold m__law_cause
  simp only [ret_bnd, lft_some, bnd_bnd, bnd_ret, aft_inl, aft_inr]
  rw [e__law_so W he (fits_nil F), ret_bnd]
  unfold causeP
  cases so F [] ev with
  | false => simp only [Bool.not_true, Bool.not_false, Option.isNone_none, Option.isSome_some, Option.isSome_none, Option.isNone_some, List.isEmpty_nil, List.isEmpty_cons, if_true, if_false, Bool.false_eq_true, reduceIte]; exact lft_line (by simp)
  | true =>
    rw [if_neg (by simp), if_pos rfl, e__law_parts hx.2, ret_bnd]
    rw [fr_find (g := fun p : Int × List Int => ((allW F b p.2 ev).head?.map fun w => (p.2, w)).map fun q : List Int × List Int × Deed => PyData.tuple [sD "less", eT PyData.int q.1, eT PyData.int q.2.1, eT eII q.2.2]), ret_bnd, findSome?_map']
    · have hfs : (partsP xs).findSome? (fun p => (allW F b p.2 ev).head?.map fun w => (p.2, w)) = (partsF xs).findSome? (fun p => (allW F b p ev).head?.map fun w => (p, w)) := by
        unfold partsF
        rw [List.findSome?_map]
        rfl
      rw [hfs]
      cases (partsF xs).findSome? fun p => (allW F b p ev).head?.map fun w => (p, w) with
      | some q => rfl
      | none =>
        show aft _ _ _ = _
        simp only [Option.map_none]
        rw [aft_inl, e__law_witnesses W hx he, ret_bnd, atI_zero]
        cases allW F b xs ev with
        | nil => simp only [Bool.not_true, Bool.not_false, Option.isNone_none, Option.isSome_some, Option.isSome_none, Option.isNone_some, List.isEmpty_nil, List.isEmpty_cons, if_true, if_false, Bool.false_eq_true, reduceIte]; exact lft_line (by simp)
        | cons w l =>
          simp only [Bool.not_true, Bool.not_false, Option.isNone_none, Option.isSome_some, Option.isSome_none, Option.isNone_some, List.isEmpty_nil, List.isEmpty_cons, if_true, if_false, Bool.false_eq_true, reduceIte]
          rw [lft_line (by simp), ret_bnd, List.head?_cons, lft_some, ret_bnd]
          exact lft_ok (by simp only [eD, eP2, binD]; rw [if_pos (lineD_ok (by simp))]; rfl)
    · intro p hp
      rw [e__law_witnesses W (parts_ok hx (by unfold partsF; exact List.mem_map_of_mem hp)) he, ret_bnd, atI_zero]
      cases allW F b p.2 ev with
      | nil => rfl
      | cons w l =>
        simp only [Bool.not_true, Bool.not_false, Option.isNone_none, Option.isSome_some, Option.isSome_none, Option.isNone_some, List.isEmpty_nil, List.isEmpty_cons, if_true, if_false, Bool.false_eq_true, reduceIte]
        rw [lft_line (by simp), ret_bnd, List.head?_cons, lft_some, ret_bnd, lft_ok (x := PyData.tuple [sD "less", eT PyData.int p.2, eT PyData.int w.1, eT eII w.2]) (by simp only [eD, eP2, binD]; rw [if_pos (lineD_ok (by simp))]; rfl), ret_bnd]
        rfl
end C68

namespace C68
open PySem Dv Mr Ac
/-! draws: functions, events -/
theorem rowsF_prod (sz : List Int) (h : ∀ s ∈ sz, 0 ≤ s) : ((rowsF sz).length : Int) = sz.foldl (· * ·) 1 := by
  induction sz using snoc_ind with
  | nil => rfl
  | snoc sz s ih =>
    rw [rowsF_snoc, List.foldl_append, ← ih fun x hx => h x (by simp [hx])]
    have hl : ∀ l : List (List Int), (l.flatMap fun row => (upto s).map fun x => row ++ [x]).length = l.length * s.toNat := by
      intro l
      induction l with
      | nil => simp
      | cons a l ih => rw [List.flatMap_cons, List.length_append, ih, List.length_map, upto_len, List.length_cons, Nat.add_mul, Nat.one_mul, Nat.add_comm]
    rw [hl]
    have := h s (by simp)
    simp only [List.foldl_cons, List.foldl_nil]
    push_cast
    rw [Int.toNat_of_nonneg this]
structure WFp (sz : List Int) (rs : List Rule) : Prop where
  len : rs.length = sz.length
  size : ∀ s ∈ sz, 2 ≤ s ∧ s ≤ 3
  rule : ∀ pre r post, rs = pre ++ r :: post → (∀ u ∈ r.1, 0 ≤ u ∧ u < (pre.length : Int)) ∧ ((r.2.length : Nat) : Int) = (r.1.map (gI sz)).foldl (· * ·) 1 ∧ ∀ y ∈ r.2, 0 ≤ y ∧ y < gI sz pre.length
theorem WFp.wf {F : Fn} (h : WFp F.1 F.2) (hn : F.1.length ≤ 4) : WF F := ⟨hn, h.len, h.size, h.rule⟩
theorem snoc_split {α : Type} {l pre post : List α} {a r : α} (e : l ++ [a] = pre ++ r :: post) : (pre = l ∧ r = a ∧ post = []) ∨ ∃ post', l = pre ++ r :: post' ∧ post = post' ++ [a] := by
  rcases List.eq_nil_or_concat post with rfl | ⟨q, b, rfl⟩
  · have := List.append_inj' e (by simp)
    exact .inl ⟨this.1.symm, (List.cons.inj this.2).1.symm, rfl⟩
  · refine .inr ⟨q, ?_⟩
    rw [List.concat_eq_append] at e ⊢
    have e2 : l ++ [a] = (pre ++ r :: q) ++ [b] := by rw [e]; simp
    have := List.append_inj' e2 (by simp)
    exact ⟨this.1, by rw [(List.cons.inj this.2).1]⟩
theorem WFp.snoc {sz : List Int} {rs : List Rule} (h : WFp sz rs) {s : Int} {r : Rule} (hs : 2 ≤ s ∧ s ≤ 3) (h1 : ∀ u ∈ r.1, 0 ≤ u ∧ u < (rs.length : Int)) (h2 : ((r.2.length : Nat) : Int) = (r.1.map (gI (sz ++ [s]))).foldl (· * ·) 1) (h3 : ∀ y ∈ r.2, 0 ≤ y ∧ y < s) : WFp (sz ++ [s]) (rs ++ [r]) := by
  refine ⟨by simp [h.len], ?_, ?_⟩
  · intro x hx
    rcases List.mem_append.1 hx with hx | hx
    · exact h.size x hx
    · rw [List.mem_singleton.1 hx]; exact hs
  · intro pre q post e
    rcases snoc_split e with ⟨rfl, rfl, rfl⟩ | ⟨post', e', rfl⟩
    · refine ⟨h1, h2, ?_⟩
      rw [h.len, gI_end]
      exact h3
    · obtain ⟨g1, g2, g3⟩ := h.rule pre q post' e'
      have hl : pre.length < sz.length := by rw [← h.len, e']; simp
      refine ⟨g1, ?_, ?_⟩
      · rw [g2]
        congr 1
        refine List.map_congr_left fun u hu => ?_
        have := g1 u hu
        rw [gI_app_l (by omega) (by omega)]
      · rw [gI_app_l (by omega) (by omega)]
        exact g3
theorem upto_at {n : Int} {pre post : List Int} {a : Int} (e : upto n = pre ++ a :: post) : a = pre.length ∧ (pre.length : Int) < n := by
  have h1 : (upto n)[pre.length]? = some a := by rw [e]; simp
  unfold upto at h1
  rw [List.getElem?_map] at h1
  cases hr : (List.range n.toNat)[pre.length]? with
  | none => rw [hr] at h1; cases h1
  | some k =>
    rw [hr] at h1
    obtain ⟨hlt, hk⟩ := List.getElem?_eq_some_iff.1 hr
    rw [List.length_range] at hlt
    rw [List.getElem_range] at hk
    simp at h1
    omega
theorem may_take {n : Int} (h : 0 < n) (h' : n < 1000000) : May (m__law_take () n) fun d => 0 ≤ d ∧ d < n := fun R hR => ⟨divOk_of h (by omega), h, fun d h0 h1 => hR d ⟨h0, h1⟩⟩
theorem e__law_functions : May (m__law_functions () 4) fun F => WF F ∧ 2 ≤ F.1.length := by
  unfold m__law_functions
  simp only [ret_bnd, lft_some, bnd_bnd, bnd_ret, aft_inl, aft_inr]
  refine may_bnd (may_take (by omega) (by omega)) fun x hx => ?_
  rw [rngO_ok (by omega) (by omega), lft_some, ret_bnd]
  refine may_bnd (may_fd (fun pre s => WFp s.1 s.2 ∧ s.1.length = pre.length) ⟨⟨rfl, by simp, by simp⟩, rfl⟩ ?_) fun s hs => may_ret ?_
  · intro pre a post s e hI
    obtain ⟨hW, hl⟩ := hI
    obtain ⟨rfl, hlt⟩ := upto_at e
    have hpl : pre.length < 4 := by omega
    refine may_bnd (may_take (by omega) (by omega)) fun d hd => ?_
    rw [lft_line (by omega), ret_bnd]
    generalize hsz : (2 + if decide (d = 0) = true then (1 : Int) else 0) = sv
    have hsv : 2 ≤ sv ∧ sv ≤ 3 := by
      rw [← hsz]
      split <;> omega
    rw [rngO_ok (by omega) (by omega), lft_some, ret_bnd]
    refine may_bnd (may_fm fun a ha => may_bnd (may_take (by omega) (by omega)) fun _ _ => may_ret trivial) fun ps hps => ?_
    have hps' : ∀ u ∈ ps, 0 ≤ u ∧ u < (pre.length : Int) := fun u hu => mem_upto.1 (hps.subset hu)
    have hps3 : ps.length ≤ 3 := by
      have := hps.length_le
      rw [upto_len] at this
      omega
    rw [mp_gI (fun u hu => by have := hps' u hu; rw [List.length_append]; omega), ret_bnd]
    have hszs : ∀ s' ∈ ps.map (gI (s.1 ++ [sv])), 2 ≤ s' ∧ s' ≤ 3 := by
      intro s' hs'
      obtain ⟨u, hu, rfl⟩ := List.mem_map.1 hs'
      have := hps' u hu
      rw [gI_app_l (by omega) (by omega)]
      exact hW.size _ (gI_mem (by omega) (by omega))
    rw [e__law_rows _ (fun s' hs' => by have := hszs s' hs'; omega) (by rw [List.length_map]; omega), ret_bnd]
    have hat : L2.atI (s.1 ++ [sv]) (pre.length : Int) = some sv := by
      rw [atI_gI (by omega) (by rw [List.length_append, List.length_singleton]; omega), ← hl, gI_end]
    refine may_bnd (may_mp' (P := fun y => 0 ≤ y ∧ y < sv) fun a ha => ?_) fun tb htb => ?_
    · rw [lft_ok hat, ret_bnd]
      exact may_take (by omega) (by omega)
    · rw [lft_line (by have := hW.len; omega), ret_bnd]
      refine may_ret ⟨hW.snoc hsv (fun u hu => by have := hps' u hu; have := hW.len; omega) ?_ htb.2, by simp [hl]⟩
      show ((tb.length : Nat) : Int) = _
      rw [htb.1, rowsF_prod _ (fun s' hs' => by have := hszs s' hs'; omega)]
  · obtain ⟨hW, hl⟩ := hs
    rw [upto_len] at hl
    exact ⟨hW.wf (by omega), by show 2 ≤ s.1.length; omega⟩
theorem mem_insU {x y : Int} {l : List Int} : y ∈ insU x l ↔ y = x ∨ y ∈ l := by
  induction l with
  | nil => simp [insU]
  | cons z l ih =>
    unfold insU
    split
    · simp
    · split
      · rename_i h; subst h; simp
      · simp only [List.mem_cons, ih]
        constructor
        · rintro (h | h | h)
          · exact .inr (.inl h)
          · exact .inl h
          · exact .inr (.inr h)
        · rintro (h | h | h)
          · exact .inr (.inl h)
          · exact .inl h
          · exact .inr (.inr h)
theorem mem_sortU {y : Int} {l : List Int} : y ∈ sortU l ↔ y ∈ l := by
  unfold sortU
  induction l with
  | nil => simp
  | cons x l ih => rw [List.foldr_cons, mem_insU, ih, List.mem_cons]
theorem e__law_event {F : Fn} (W : WF F) (h2 : 2 ≤ F.1.length) : May (m__law_event () F) (EvOk F) := by
  unfold m__law_event
  simp only [ret_bnd, lft_some, bnd_bnd, bnd_ret, aft_inl, aft_inr]
  have hn := W.n
  rw [e__law_values W (fits_nil F), ret_bnd]
  refine may_bnd (may_take (by omega) (by omega)) fun x hx => ?_
  rw [rngO_ok (by omega) (by omega), lft_some, ret_bnd]
  refine may_bnd (may_mp' (P := fun y => InN F y) fun a ha => may_bnd (may_take (by omega) (by omega)) fun d hd => may_ret ⟨by omega, by omega⟩) fun l hl => ?_
  rw [lft_pos (by have := hl.1; rw [upto_len] at this; omega) rfl, ret_bnd]
  refine may_mono (may_mp' (P := fun p : Int × Int => InN F p.1) fun a ha => ?_) fun ys hys p hp => hys.2 p hp
  have haN : InN F a := hl.2 a (mem_sortU.1 ha)
  refine may_bnd (may_take (by omega) (by omega)) fun d _ => may_bnd (P := fun _ => True) (may_ite (fun _ => ?_) fun _ => ?_) fun y _ => may_ret haN
  · rw [lft_ok (atI_gI haN.1 (by rw [vals_len W]; exact haN.2))]
    exact may_ret trivial
  · rw [lft_ok (atI_gI haN.1 haN.2), ret_bnd]
    have := W.sz haN
    exact may_mono (may_take (by omega) (by omega)) fun _ _ => trivial
end C68

namespace C68
open PySem Dv Mr Ac
/-! fractions -/
theorem e_fraction (a : Int) {b : Int} (hb : 0 < b) (hl : b < 2 ^ 200) : m_fraction a b = Mr.ret (nf (Rat.divInt a b)) := by
  unfold m_fraction
  simp only [ret_bnd, lft_some, bnd_bnd, bnd_ret, aft_inl, aft_inr]
  have := gcd_bounds a hb
  rw [lft_pos (divOk_of this.1 (by omega)) rfl, ret_bnd, lft_pos (divOk_of this.1 (by omega)) rfl, ret_bnd, frac_nf a hb]
theorem mulOk_nf (a : Int) {q : Rat} (h : Sm (2 ^ 62) q) : mulOk a (nf q).2 = true := by
  have := nf_pos q
  unfold Sm at h
  refine mulOk_r (by omega) ?_
  show (q.den : Int) < 2 ^ 64
  omega
theorem den_mul {q r : Rat} (h : Sm (2 ^ 62) q) (h' : Sm (2 ^ 62) r) : 0 < (nf q).2 * (nf r).2 ∧ (nf q).2 * (nf r).2 < 2 ^ 200 := by
  have h1 := nf_pos q
  have h2 := nf_pos r
  refine ⟨Int.mul_pos h1 h2, ?_⟩
  have h3 : (nf q).2 ≤ 2 ^ 62 := by unfold Sm at h; show (q.den : Int) ≤ _; omega
  have h4 : (nf r).2 ≤ 2 ^ 62 := by unfold Sm at h'; show (r.den : Int) ≤ _; omega
  have h5 : (nf q).2 * (nf r).2 ≤ 2 ^ 62 * 2 ^ 62 := Int.mul_le_mul h3 h4 (by omega) (by omega)
  omega
theorem e_plus {q r : Rat} (h : Sm (2 ^ 62) q) (h' : Sm (2 ^ 62) r) : m_plus (nf q) (nf r) = Mr.ret (nf (q + r)) := by
  unfold m_plus
  simp only [ret_bnd, lft_some, bnd_bnd, bnd_ret, aft_inl, aft_inr]
  have := den_mul h h'
  rw [lft_pos (mulOk_nf _ h') rfl, ret_bnd, lft_pos (mulOk_nf _ h) rfl, ret_bnd, lft_pos (mulOk_nf _ h') rfl, ret_bnd, e_fraction _ this.1 this.2, nf_plus]
end C68

namespace C68
open PySem Dv Mr Ac
theorem e_times {q r : Rat} (h : Sm (2 ^ 62) q) (h' : Sm (2 ^ 62) r) (hm : mulOk (nf q).1 (nf r).1 = true) : m_times (nf q) (nf r) = Mr.ret (nf (q * r)) := by
  unfold m_times
  simp only [ret_bnd, lft_some, bnd_bnd, bnd_ret, aft_inl, aft_inr]
  have := den_mul h h'
  rw [lft_pos hm rfl, ret_bnd, lft_pos (mulOk_nf _ h') rfl, ret_bnd, e_fraction _ this.1 this.2, nf_times]
end C68

namespace C68
open PySem Dv Mr Ac
/-! k68: duties -/
theorem gcd_mod (a : Int) {b : Int} (hb : 0 < b) : Nat.gcd b.natAbs (a % b).natAbs = Nat.gcd a.natAbs b.natAbs := by
  have h : Int.gcd b (a % b) = Int.gcd b a := by
    have := Int.emod_add_mul_ediv a b
    conv => rhs; rw [← this]
    simp
  exact h.trans (Int.gcd_comm b a)
theorem e__law_divisor (a : Int) {b : Int} (h0 : 0 ≤ b) (hb : b < 2 ^ 200) : m__law_divisor a b = Mr.ret ((Nat.gcd a.natAbs b.natAbs : Nat) : Int) := by
  unfold m__law_divisor
  simp only [ret_bnd, lft_some, bnd_bnd, bnd_ret, aft_inl, aft_inr]
  rw [rngO_ok (by omega) (by omega), lft_some, ret_bnd]
  have main : ∀ (k : Nat) (l : List Int) (a b : Int), 2 * k + 1 ≤ l.length → 0 ≤ b → b < 2 ^ k → fr (fun (s4 : Int × Int) (a2 : Int) =>
          if decide (s4.2 = 0) = true then
            Mr.ret (Sum.inr (if s4.1 < 0 then -s4.1 else s4.1))
          else
            bnd (lft (if 0 < s4.2 then some (s4.1 % s4.2) else none)) fun v23 =>
              Mr.ret (Sum.inl (s4.2, v23))) (a, b) l = (Mr.ret (.inr ((Nat.gcd a.natAbs b.natAbs : Nat) : Int)) : ND (Int × Int ⊕ Int)) := by
    have zero : ∀ (l : List Int) (a : Int), 1 ≤ l.length → fr (fun (s4 : Int × Int) (a2 : Int) =>
          if decide (s4.2 = 0) = true then
            Mr.ret (Sum.inr (if s4.1 < 0 then -s4.1 else s4.1))
          else
            bnd (lft (if 0 < s4.2 then some (s4.1 % s4.2) else none)) fun v23 =>
              Mr.ret (Sum.inl (s4.2, v23))) (a, 0) l = (Mr.ret (.inr ((Nat.gcd a.natAbs 0 : Nat) : Int)) : ND (Int × Int ⊕ Int)) := by
      intro l a hl
      cases l with
      | nil => simp at hl
      | cons x l =>
        rw [fr, if_pos (by simp), ret_bnd]
        rw [Nat.gcd_zero_right]
        simp only
        congr 2
        split <;> omega
    intro k
    induction k with
    | zero =>
      intro l a b hl h0 h1
      have : b = 0 := by omega
      subst this
      exact zero l a hl
    | succ k ih =>
      intro l a b hl h0 h1
      by_cases hb0 : b = 0
      · subst hb0
        exact zero l a (by omega)
      · cases l with
        | nil => simp at hl
        | cons x l =>
          rw [fr, if_neg (by simpa using hb0), lft_pos (show 0 < (a, b).2 by show 0 < b; omega) rfl]
          rw [ret_bnd, ret_bnd]
          show fr _ (b, a % b) l = _
          have hr0 := Int.emod_nonneg a hb0
          have hr1 := Int.emod_lt_of_pos a (show 0 < b by omega)
          have hg := gcd_mod a (show 0 < b by omega)
          rw [← hg]
          generalize hr : a % b = r at hr0 hr1
          by_cases hz : r = 0
          · subst hz
            exact zero l b (by simp at hl; omega)
          · cases l with
            | nil => simp at hl
            | cons y l =>
              rw [fr, if_neg (by simpa using hz), lft_pos (show 0 < (b, r).2 by show 0 < r; omega) rfl]
              rw [ret_bnd, ret_bnd]
              show fr _ (r, b % r) l = _
              have hs0 := Int.emod_nonneg b hz
              have hs1 := Int.emod_lt_of_pos b (show 0 < r by omega)
              have hg2 := gcd_mod b (show 0 < r by omega)
              rw [← hg2]
              refine ih l r (b % r) (by simp at hl; omega) hs0 ?_
              -- the rest is below half
              have hd := Int.emod_add_mul_ediv b r
              have hq : 1 ≤ b / r := by
                have := Int.le_ediv_of_mul_le (show 0 < r by omega) (show 1 * r ≤ b by omega)
                exact this
              have : r * 1 ≤ r * (b / r) := Int.mul_le_mul_of_nonneg_left hq (by omega)
              have hp : (2 : Int) ^ (k + 1) = 2 ^ k * 2 := Int.pow_succ 2 k
              omega
  rw [main 200 (upto 20000) a b (by rw [upto_len]; decide) h0 hb, ret_bnd]
  rfl
theorem e__law_ratio (a : Int) {b : Int} (hb : 0 < b) (hl : b < 2 ^ 200) : m__law_ratio a b = Mr.ret (nf (Rat.divInt a b)) := by
  unfold m__law_ratio
  simp only [ret_bnd, lft_some, bnd_bnd, bnd_ret, aft_inl, aft_inr]
  have := gcd_bounds a hb
  rw [e__law_divisor a (by omega) hl, ret_bnd, lft_pos (divOk_of this.1 (by omega)) rfl, ret_bnd, lft_pos (divOk_of this.1 (by omega)) rfl, ret_bnd, frac_nf a hb]
/-- least -/
def IsLeast (X : List Int → Prop) (size : List Int → Int) (o : Option Int) : Prop := match o with
  | none => ∀ xs, ¬ X xs
  | some k => (∃ xs, X xs ∧ k = size xs) ∧ ∀ xs, X xs → k ≤ size xs
theorem IsLeast.uniq {X : List Int → Prop} {size : List Int → Int} {o o' : Option Int} (h : IsLeast X size o) (h' : IsLeast X size o') : o = o' := by
  cases o with
  | none => cases o' with
    | none => rfl
    | some k => obtain ⟨⟨xs, hx, _⟩, _⟩ := h'; exact absurd hx (h xs)
  | some k => cases o' with
    | none => obtain ⟨⟨xs, hx, _⟩, _⟩ := h; exact absurd hx (h' xs)
    | some k' =>
      obtain ⟨⟨xs, hx, e⟩, h2⟩ := h
      obtain ⟨⟨ys, hy, e'⟩, h2'⟩ := h'
      have := h2 ys hy
      have := h2' xs hx
      congr 1
      omega
theorem asc_sub {n : Int} {l : List Int} (h : l.Pairwise (· < ·)) (hl : ∀ v ∈ l, 0 ≤ v ∧ v < n) : l.Sublist (upto n) := by
  have e : l = (upto n).filter fun v => decide (v ∈ l) := by
    refine List.Perm.eq_of_pairwise (le := fun a b : Int => a ≤ b) (fun a b _ _ h1 h2 => Int.le_antisymm h1 h2) (h.imp fun h => Int.le_of_lt h) (((upto_pw n).filter _).imp fun h => Int.le_of_lt h) ?_
    refine (List.perm_ext_iff_of_nodup (h.imp fun h => by omega) ((upto_nodup n).filter _)).2 fun a => ?_
    rw [List.mem_filter, mem_upto, decide_eq_true_eq]
    exact ⟨fun h => ⟨hl a h, h⟩, fun h => h.2⟩
  rw [e]
  exact List.filter_sublist
theorem sub_asc {n : Int} {l : List Int} (h : l.Sublist (upto n)) : l.Pairwise (· < ·) ∧ ∀ v ∈ l, 0 ≤ v ∧ v < n := ⟨(upto_pw n).sublist h, fun v hv => mem_upto.1 (h.subset hv)⟩
theorem sort_asc {l : List Int} (h : l.Nodup) : (sortE PyData.int l).Pairwise (· < ·) := by
  have h1 := sortE_pw (ea := PyData.int) l
  have h2 : (sortE PyData.int l).Nodup := (sortE_perm l).nodup_iff.2 h
  refine List.Pairwise.imp ?_ (h1.and h2)
  rintro x y ⟨h3, h4⟩
  rw [leE_int, decide_eq_true_eq] at h3
  omega
section
variable {F : Fn} {x : Int} {ev : Deed}
/-- the causes with x -/
def Cz (F : Fn) (x : Int) (ev : Deed) (xs : List Int) : Prop := xs.Sublist (upto F.1.length) ∧ x ∈ xs ∧ isCause F true xs ev = true
def sizeOf' (F : Fn) (ev : Deed) (xs : List Int) : Int := xs.length + ((allW F true xs ev).head?.map fun w => (w.2.length : Int)).getD 0
theorem ok_sub (W : WF F) {xs : List Int} (h : xs.Sublist (upto F.1.length)) : XOk F xs := ⟨fun v hv => (sub_asc h).2 v hv, by have := h.length_le; rw [upto_len] at this; have := W.n; omega⟩
theorem more_sub {more : List Int} (hx : InN F x) (h : more.Sublist ((upto F.1.length).filter fun v => decide (v ≠ x))) : (sortE PyData.int (more ++ [x])).Sublist (upto F.1.length) ∧ x ∈ sortE PyData.int (more ++ [x]) := by
  have h1 := h.subset
  have hn : (more ++ [x]).Nodup := by
    rw [List.nodup_append]
    refine ⟨((upto_nodup _).filter _).sublist h, by simp, ?_⟩
    intro a ha b hb
    rw [List.mem_singleton.1 hb]
    have := (List.mem_filter.1 (h1 ha)).2
    simpa using this
  refine ⟨asc_sub (sort_asc hn) ?_, mem_sortE.2 (by simp)⟩
  intro v hv
  rw [mem_sortE, List.mem_append, List.mem_singleton] at hv
  rcases hv with hv | rfl
  · exact mem_upto.1 (List.mem_filter.1 (h1 hv)).1
  · exact hx
theorem sub_more {xs : List Int} (h : xs.Sublist (upto F.1.length)) (hx : x ∈ xs) : ∃ more, more.Sublist ((upto F.1.length).filter fun v => decide (v ≠ x)) ∧ sortE PyData.int (more ++ [x]) = xs := by
  refine ⟨xs.filter fun v => decide (v ≠ x), h.filter _, ?_⟩
  have ha := (sub_asc h).1
  have hnx : xs.Nodup := ha.imp fun h => by omega
  refine sortE_uniq tot_int ?_ (ha.imp fun h => by rw [leE_int, decide_eq_true_eq]; omega)
  refine (List.perm_ext_iff_of_nodup ?_ hnx).2 fun a => ?_
  · rw [List.nodup_append]
    refine ⟨hnx.filter _, by simp, ?_⟩
    intro a ha b hb
    rw [List.mem_singleton.1 hb]
    have := (List.mem_filter.1 ha).2
    simpa using this
  · rw [List.mem_append, List.mem_filter, List.mem_singleton, decide_eq_true_eq]
    constructor
    · rintro (h | rfl)
      · exact h.1
      · exact hx
    · intro h
      by_cases e : a = x
      · exact .inr e
      · exact .inl ⟨h, e⟩
theorem isCause_head {b : Bool} {xs : List Int} (h : isCause F b xs ev = true) : ∃ w, (allW F b xs ev).head? = some w := by
  unfold isCause at h
  simp only [Bool.and_eq_true] at h
  exact Option.isSome_iff_exists.1 h.2
theorem fd_ex {α σ : Type} {step : σ → α → ND σ} (I : List α → σ → Prop) {l : List α} {s0 : σ} (h0 : I [] s0) (hs : ∀ pre a post s, l = pre ++ a :: post → I pre s → ∃ s', step s a = Mr.ret s' ∧ I (pre ++ [a]) s') : ∃ s', fd step s0 l = Mr.ret s' ∧ I l s' := by
  have main : ∀ (post pre : List α) (s : σ), l = pre ++ post → I pre s → ∃ s', fd step s post = Mr.ret s' ∧ I l s' := by
    intro post
    induction post with
    | nil => intro pre s e h; exact ⟨s, rfl, by rw [e, List.append_nil]; exact h⟩
    | cons a post ih =>
      intro pre s e h
      obtain ⟨s1, h1, h2⟩ := hs pre a post s e h
      obtain ⟨s2, h3, h4⟩ := ih (pre ++ [a]) s1 (by rw [e]; simp) h2
      exact ⟨s2, by rw [fd, h1, ret_bnd, h3], h4⟩
  exact main l [] s0 rfl h0
abbrev eRank : Int × List Int × Deed → D := eP3 PyData.int (eT PyData.int) (eT eII)
theorem lt_rank (r t : Int × List Int × Deed) : cmpD .lt (eRank r) (eO eRank (some t)) = some (ltE eRank r t) := by
  have hs : ∀ t, SeqAt.shaped (eRank t) = true := fun t => (dat_P3 dat_int (dat_T dat_int) (dat_T (dat_P2 dat_int dat_int))).shaped (by decide) t
  have ha : PySem.W.alike (eRank r) (eRank t) = true := alk_P3 alk_int (alk_T alk_int) (alk_T al_II) r t
  have h1 := hs r
  have h2 := hs t
  show ltD (eRank r) (eRank t) = _
  unfold eRank eP3 at h1 h2 ha ⊢
  simp only [ltD, h1, h2, ha, Bool.and_self, if_true]
  rfl
theorem rank_le {r t : Int × List Int × Deed} : (ltE eRank r t = true → r.1 ≤ t.1) ∧ (ltE eRank r t = false → t.1 ≤ r.1) := by
  rw [ltE_P3 alk_int eqv_int (alk_T alk_int) (eqv_T eqv_int) (alk_T al_II), ltE_int]
  split
  · omega
  · constructor
    · intro h; rw [decide_eq_true_eq] at h; omega
    · intro h; rw [decide_eq_false_iff_not] at h; omega
theorem e_least_change (W : WF F) (hx : InN F x) (he : EvOk F ev) : ∃ o, m_least_change F x ev = Mr.ret o ∧ IsLeast (Cz F x ev) (sizeOf' F ev) (o.map (·.1)) := by
  unfold m_least_change
  simp only [ret_bnd, lft_some, bnd_bnd, bnd_ret, aft_inl, aft_inr]
  have hn := W.n
  rw [rngO_ok (by omega) (by omega), lft_some, ret_bnd]
  rw [fm_ret (q := fun v => decide (v ≠ x)) (g := fun v => v) (fun _ _ => rfl) (fun _ _ _ => rfl), List.map_id', ret_bnd]
  have hfl : ((upto (F.1.length : Int)).filter fun v => decide (v ≠ x)).length ≤ 4 := by
    refine Nat.le_trans (List.length_filter_le _ _) ?_
    rw [upto_len]; omega
  rw [e_subsets _ (by omega), ret_bnd]
  obtain ⟨o, h1, h2⟩ := fd_ex (step := fun (s15 : Option (Int × List Int × Deed)) (a13 : List Int) =>
            bnd (lft (if lineD (a13.length + [x].length) = true then some (a13 ++ [x]) else none)) fun y =>
              bnd
                (if s15.isNone = true then Mr.ret true
                else bnd (lft s15) fun x_1 => Mr.ret (decide (((sortE PyData.int y).length : Int) < x_1.1)))
                fun x_1 =>
                bnd (if x_1 = true then m_is_cause F (Str.ofString "mended") (sortE PyData.int y) ev else Mr.ret false)
                  fun c84 =>
                  if c84 = true then
                    bnd (m_first_witness F (Str.ofString "mended") (sortE PyData.int y) ev) fun x_2 =>
                      bnd (lft x_2) fun v90 =>
                        bnd
                          (if s15.isNone = true then Mr.ret true
                          else lft (cmpD COp.lt (eP3 PyData.int (eT PyData.int) (eT (eP2 PyData.int PyData.int)) (((sortE PyData.int y).length : Int) + (v90.2.length : Int), sortE PyData.int y, v90.2)) (eO (eP3 PyData.int (eT PyData.int) (eT (eP2 PyData.int PyData.int))) s15)))
                          fun c104 =>
                          if c104 = true then Mr.ret (some (((sortE PyData.int y).length : Int) + (v90.2.length : Int), sortE PyData.int y, v90.2))
                          else Mr.ret s15
                  else Mr.ret s15)
    (fun pre o => IsLeast (fun xs => ∃ more ∈ pre, xs = sortE PyData.int (more ++ [x]) ∧ isCause F true xs ev = true) (sizeOf' F ev) (o.map (·.1))) (l := subsF PyData.int ((upto (F.1.length : Int)).filter fun v => decide (v ≠ x))) (s0 := none) (by rintro xs ⟨m, hm, _⟩; cases hm) (by
    intro pre more post s e hI
    have hm := (mem_subsF _ _).1 (show more ∈ subsF PyData.int _ by rw [e]; simp)
    have hml := hm.length_le
    have hms := more_sub hx hm
    have hok := ok_sub W hms.1
    simp only [lft_line (show more.length + [x].length ≤ 16000000 by simp; omega), ret_bnd]
    generalize hy : sortE PyData.int (more ++ [x]) = y at hms hok
    have hk : Str.ofString "mended" = kd true := rfl
    rw [hk]
    -- what is known when more is added
    have noCause : isCause F true y ev = false → IsLeast (fun xs => ∃ m ∈ pre ++ [more], xs = sortE PyData.int (m ++ [x]) ∧ isCause F true xs ev = true) (sizeOf' F ev) (s.map (·.1)) := by
      intro hc
      have e1 : (fun xs => ∃ m ∈ pre ++ [more], xs = sortE PyData.int (m ++ [x]) ∧ isCause F true xs ev = true) = (fun xs => ∃ m ∈ pre, xs = sortE PyData.int (m ++ [x]) ∧ isCause F true xs ev = true) := by
        funext xs
        refine propext ⟨?_, ?_⟩
        · rintro ⟨m, hm, e, h⟩
          rcases List.mem_append.1 hm with hm | hm
          · exact ⟨m, hm, e, h⟩
          · rw [List.mem_singleton.1 hm, hy] at e
            rw [e, hc] at h
            cases h
        · rintro ⟨m, hm, e, h⟩
          exact ⟨m, List.mem_append.2 (.inl hm), e, h⟩
      rw [e1]
      exact hI
    have keep : ∀ t, s = some t → t.1 ≤ sizeOf' F ev y → IsLeast (fun xs => ∃ m ∈ pre ++ [more], xs = sortE PyData.int (m ++ [x]) ∧ isCause F true xs ev = true) (sizeOf' F ev) (s.map (·.1)) := by
      rintro t rfl ht
      obtain ⟨⟨zs, ⟨m, hm, e1, e2⟩, e3⟩, h2⟩ := hI
      refine ⟨⟨zs, ⟨m, List.mem_append.2 (.inl hm), e1, e2⟩, e3⟩, ?_⟩
      rintro ws ⟨m, hm, e, h⟩
      rcases List.mem_append.1 hm with hm | hm
      · exact h2 ws ⟨m, hm, e, h⟩
      · rw [List.mem_singleton.1 hm, hy] at e
        rw [e]
        exact ht
    cases hc : isCause F true y ev with
    | false =>
      refine ⟨s, ?_, noCause hc⟩
      have : (if s.isNone = true then Mr.ret true else bnd (lft s) fun x_1 => Mr.ret (decide ((y.length : Int) < x_1.1))) = Mr.ret (s.all fun t => decide ((y.length : Int) < t.1)) := by
        cases s with
        | none => rfl
        | some t => simp only [Bool.not_true, Bool.not_false, Option.isNone_none, Option.isSome_some, Option.isSome_none, Option.isNone_some, List.isEmpty_nil, List.isEmpty_cons, if_true, if_false, Bool.false_eq_true, reduceIte]; rw [lft_some, ret_bnd]; rfl
      rw [this, ret_bnd]
      split
      · rw [e_is_cause W hok he, hc, ret_bnd]; rfl
      · rw [ret_bnd]; rfl
    | true =>
      obtain ⟨w, hw⟩ := isCause_head hc
      have hsz : sizeOf' F ev y = (y.length : Int) + (w.2.length : Int) := by
        unfold sizeOf'
        rw [hw]; rfl
      have mine : ∃ m ∈ pre ++ [more], y = sortE PyData.int (m ++ [x]) ∧ isCause F true y ev = true := ⟨more, by simp, hy.symm, hc⟩
      cases s with
      | none =>
        refine ⟨some ((y.length : Int) + (w.2.length : Int), y, w.2), ?_, ?_⟩
        · simp only [Bool.not_true, Bool.not_false, Option.isNone_none, Option.isSome_some, Option.isSome_none, Option.isNone_some, List.isEmpty_nil, List.isEmpty_cons, if_true, if_false, Bool.false_eq_true, reduceIte]
          rw [ret_bnd]
          simp only [Bool.not_true, Bool.not_false, Option.isNone_none, Option.isSome_some, Option.isSome_none, Option.isNone_some, List.isEmpty_nil, List.isEmpty_cons, if_true, if_false, Bool.false_eq_true, reduceIte]
          rw [e_is_cause W hok he, hc, ret_bnd]
          simp only [Bool.not_true, Bool.not_false, Option.isNone_none, Option.isSome_some, Option.isSome_none, Option.isNone_some, List.isEmpty_nil, List.isEmpty_cons, if_true, if_false, Bool.false_eq_true, reduceIte]
          rw [e_first_witness W hok he, hw, ret_bnd, lft_some, ret_bnd, ret_bnd]
          simp only [Bool.not_true, Bool.not_false, Option.isNone_none, Option.isSome_some, Option.isSome_none, Option.isNone_some, List.isEmpty_nil, List.isEmpty_cons, if_true, if_false, Bool.false_eq_true, reduceIte]
        · refine ⟨⟨y, mine, hsz.symm⟩, ?_⟩
          rintro ws ⟨m, hm, e, h⟩
          rcases List.mem_append.1 hm with hm | hm
          · exact absurd ⟨m, hm, e, h⟩ (hI ws)
          · rw [List.mem_singleton.1 hm, hy] at e
            rw [e, hsz]
            exact Int.le_refl _
      | some t =>
        by_cases hlt : (y.length : Int) < t.1
        · have hgo : ∀ (k : Bool → ND (Option (Int × List Int × Deed))), (bnd (if (some t).isNone = true then Mr.ret true else bnd (lft (some t)) fun x_1 => Mr.ret (decide ((y.length : Int) < x_1.1))) fun c => bnd (if c = true then m_is_cause F (kd true) y ev else Mr.ret false) k) = k true := by
            intro k
            simp only [Bool.not_true, Bool.not_false, Option.isNone_none, Option.isSome_some, Option.isSome_none, Option.isNone_some, List.isEmpty_nil, List.isEmpty_cons, if_true, if_false, Bool.false_eq_true, reduceIte]
            rw [lft_some, ret_bnd, ret_bnd, decide_eq_true hlt]
            simp only [Bool.not_true, Bool.not_false, Option.isNone_none, Option.isSome_some, Option.isSome_none, Option.isNone_some, List.isEmpty_nil, List.isEmpty_cons, if_true, if_false, Bool.false_eq_true, reduceIte]
            rw [e_is_cause W hok he, hc, ret_bnd]
          rw [hgo]
          simp only [Bool.not_true, Bool.not_false, Option.isNone_none, Option.isSome_some, Option.isSome_none, Option.isNone_some, List.isEmpty_nil, List.isEmpty_cons, if_true, if_false, Bool.false_eq_true, reduceIte]
          rw [e_first_witness W hok he, hw, ret_bnd, lft_some, ret_bnd]
          have := lt_rank ((y.length : Int) + (w.2.length : Int), y, w.2) t
          rw [lft_ok this, ret_bnd]
          cases hr : ltE eRank ((y.length : Int) + (w.2.length : Int), y, w.2) t with
          | true =>
            refine ⟨_, rfl, ⟨y, mine, hsz.symm⟩, ?_⟩
            have hle := rank_le.1 hr
            rintro ws ⟨m, hm, e, h⟩
            rcases List.mem_append.1 hm with hm | hm
            · have : t.1 ≤ sizeOf' F ev ws := hI.2 ws ⟨m, hm, e, h⟩
              simp only at hle ⊢
              omega
            · rw [List.mem_singleton.1 hm, hy] at e
              rw [e, hsz]
              exact Int.le_refl _
          | false =>
            refine ⟨_, rfl, keep t rfl ?_⟩
            rw [hsz]
            exact rank_le.2 hr
        · refine ⟨some t, ?_, keep t rfl (by rw [hsz]; omega)⟩
          simp only [Bool.not_true, Bool.not_false, Option.isNone_none, Option.isSome_some, Option.isSome_none, Option.isNone_some, List.isEmpty_nil, List.isEmpty_cons, if_true, if_false, Bool.false_eq_true, reduceIte]
          rw [lft_some, ret_bnd, ret_bnd, decide_eq_false hlt]
          simp only [Bool.not_true, Bool.not_false, Option.isNone_none, Option.isSome_some, Option.isSome_none, Option.isNone_some, List.isEmpty_nil, List.isEmpty_cons, if_true, if_false, Bool.false_eq_true, reduceIte]
          rw [ret_bnd]
          simp only [Bool.not_true, Bool.not_false, Option.isNone_none, Option.isSome_some, Option.isSome_none, Option.isNone_some, List.isEmpty_nil, List.isEmpty_cons, if_true, if_false, Bool.false_eq_true, reduceIte])
  refine ⟨o, h1, ?_⟩
  have e : (fun xs => ∃ more ∈ subsF PyData.int ((upto (F.1.length : Int)).filter fun v => decide (v ≠ x)), xs = sortE PyData.int (more ++ [x]) ∧ isCause F true xs ev = true) = Cz F x ev := by
    funext xs
    refine propext ⟨?_, ?_⟩
    · rintro ⟨more, hm, rfl, hc⟩
      have := more_sub hx ((mem_subsF _ _).1 hm)
      exact ⟨this.1, this.2, hc⟩
    · rintro ⟨h1, h2, h3⟩
      obtain ⟨more, hm, rfl⟩ := sub_more h1 h2
      exact ⟨more, (mem_subsF _ _).2 hm, rfl, h3⟩
  rw [← e]
  exact h2
end
end C68

namespace C68
open PySem Dv Mr Ac
/-! k68: duties, blame, the law -/
section
variable {F : Fn} {x : Int} {ev : Deed}
def dutyV : Option Int → Int × Int
  | none => (0, 1)
  | some k => (1, k)
theorem e_duty' (W : WF F) (hx : InN F x) (he : EvOk F ev) : ∃ o, m_duty F x ev = Mr.ret (dutyV o) ∧ IsLeast (Cz F x ev) (sizeOf' F ev) o := by
  obtain ⟨o, h1, h2⟩ := e_least_change W hx he
  refine ⟨o.map (·.1), ?_, h2⟩
  unfold m_duty
  simp only [ret_bnd, lft_some, bnd_bnd, bnd_ret, aft_inl, aft_inr]
  rw [h1, ret_bnd]
  cases o with
  | none => rfl
  | some t =>
    simp only [Bool.not_true, Bool.not_false, Option.isNone_none, Option.isSome_some, Option.isSome_none, Option.isNone_some, List.isEmpty_nil, List.isEmpty_cons, if_true, if_false, Bool.false_eq_true, reduceIte]
    rw [lft_some, ret_bnd]
    rfl
/-- the least duty -/
noncomputable def dutyO (F : Fn) (x : Int) (ev : Deed) : Option Int := @Classical.epsilon (Option Int) ⟨none⟩ (IsLeast (Cz F x ev) (sizeOf' F ev))
theorem dutyO_eq {o : Option Int} (h : IsLeast (Cz F x ev) (sizeOf' F ev) o) : o = dutyO F x ev := h.uniq (Classical.epsilon_spec (p := IsLeast (Cz F x ev) (sizeOf' F ev)) ⟨o, h⟩)
theorem dutyO_spec (W : WF F) (hx : InN F x) (he : EvOk F ev) : IsLeast (Cz F x ev) (sizeOf' F ev) (dutyO F x ev) := by
  obtain ⟨o, _, h2⟩ := e_duty' W hx he
  rw [← dutyO_eq h2]
  exact h2
theorem e_duty (W : WF F) (hx : InN F x) (he : EvOk F ev) : m_duty F x ev = Mr.ret (dutyV (dutyO F x ev)) := by
  obtain ⟨o, h1, h2⟩ := e_duty' W hx he
  rw [h1, dutyO_eq h2]
theorem e_duties (W : WF F) (he : EvOk F ev) : m_duties F ev = Mr.ret ((upto F.1.length).map fun x => dutyV (dutyO F x ev)) := by
  unfold m_duties
  simp only [ret_bnd, lft_some, bnd_bnd, bnd_ret, aft_inl, aft_inr]
  have := W.n
  rw [rngO_ok (by omega) (by omega), lft_some, ret_bnd]
  exact mp_ret fun a ha => e_duty W (mem_upto.1 ha) he
theorem allW_len (W : WF F) {b : Bool} {xs : List Int} (hx : XOk F xs) : (allW F b xs ev).length ≤ 104976 := by
  unfold allW
  refine Nat.le_trans (flat_len _ 81 _ fun held _ => ?_) ?_
  · unfold witsOf
    rw [List.length_map]
    exact Nat.le_trans (List.length_filter_le _ _) (rowsX_len W hx)
  · have : (heldsF F b xs).length ≤ 16 * 81 := by
      unfold heldsF heldsP
      rw [List.length_map, sortE_len, List.length_map]
      exact rawH_len W
    have := Nat.mul_le_mul_right 81 this
    omega
theorem e__law_duty (W : WF F) (hx : InN F x) (he : EvOk F ev) : m__law_duty F x ev = Mr.ret (dutyV (dutyO F x ev)) := by
  unfold m__law_duty
  simp only [ret_bnd, lft_some, bnd_bnd, bnd_ret, aft_inl, aft_inr]
  have hn := W.n
  rw [rngO_ok (by omega) (by omega), lft_some, ret_bnd, e__law_sets _ (by rw [upto_len]; omega), ret_bnd]
  have hk : Str.ofString "mended" = kd true := rfl
  rw [hk]
  rw [fd_flat (K := 104976) (g := fun xs => if (decide (x ∈ xs) && isCause F true xs ev) = true then (allW F true xs ev).map fun w => (xs.length : Int) + (w.2.length : Int) else []), ret_bnd, List.nil_append]
  · generalize hl : (subsF PyData.int (upto F.1.length)).flatMap (fun xs => if (decide (x ∈ xs) && isCause F true xs ev) = true then (allW F true xs ev).map fun w => (xs.length : Int) + (w.2.length : Int) else []) = l
    have hmem : ∀ k, k ∈ l ↔ ∃ xs, Cz F x ev xs ∧ ∃ w ∈ allW F true xs ev, k = (xs.length : Int) + (w.2.length : Int) := by
      intro k
      rw [← hl, List.mem_flatMap]
      constructor
      · rintro ⟨xs, h1, h2⟩
        split at h2
        · rename_i hc
          rw [Bool.and_eq_true, decide_eq_true_eq] at hc
          obtain ⟨w, hw, rfl⟩ := List.mem_map.1 h2
          exact ⟨xs, ⟨(mem_subsF _ _).1 h1, hc.1, hc.2⟩, w, hw, rfl⟩
        · cases h2
      · rintro ⟨xs, ⟨h1, h2, h3⟩, w, hw, rfl⟩
        refine ⟨xs, (mem_subsF _ _).2 h1, ?_⟩
        rw [if_pos (by rw [h3, decide_eq_true h2]; rfl)]
        exact List.mem_map.2 ⟨w, hw, rfl⟩
    have hleast : IsLeast (Cz F x ev) (sizeOf' F ev) l.min? := by
      cases hm : l.min? with
      | none =>
        rw [List.min?_eq_none_iff] at hm
        intro xs hxs
        obtain ⟨w, hw⟩ := isCause_head hxs.2.2
        have := (hmem _).2 ⟨xs, hxs, w, (head_least hw).1, rfl⟩
        rw [hm] at this
        cases this
      | some k =>
        obtain ⟨h1, h2⟩ := List.min?_eq_some_iff.1 hm
        have hsz : ∀ xs, Cz F x ev xs → k ≤ sizeOf' F ev xs := by
          intro xs hxs
          obtain ⟨w, hw⟩ := isCause_head hxs.2.2
          have := h2 _ ((hmem _).2 ⟨xs, hxs, w, (head_least hw).1, rfl⟩)
          unfold sizeOf'
          rw [hw]
          exact this
        refine ⟨?_, hsz⟩
        obtain ⟨xs, hxs, w, hw, rfl⟩ := (hmem _).1 h1
        refine ⟨xs, hxs, ?_⟩
        have h3 := hsz xs hxs
        obtain ⟨w0, hw0⟩ := isCause_head hxs.2.2
        have h4 := (head_least hw0).2 w hw
        unfold sizeOf' at h3 ⊢
        rw [hw0] at h3 ⊢
        simp only [Option.map_some, Option.getD_some] at h3 ⊢
        omega
    rw [← dutyO_eq hleast]
    cases l with
    | nil => simp only [Bool.not_true, Bool.not_false, Option.isNone_none, Option.isSome_some, Option.isSome_none, Option.isNone_some, List.isEmpty_nil, List.isEmpty_cons, if_true, if_false, Bool.false_eq_true, reduceIte]; rfl
    | cons a l =>
      simp only [Bool.not_true, Bool.not_false, Option.isNone_none, Option.isSome_some, Option.isSome_none, Option.isNone_some, List.isEmpty_nil, List.isEmpty_cons, if_true, if_false, Bool.false_eq_true, reduceIte]
      rw [List.min?_cons, lft_some, ret_bnd]
      rfl
  · intro s xs hxs hsl
    have hok := ok_sub W ((mem_subsF _ _).1 hxs)
    cases hd : decide (x ∈ xs) with
    | false =>
      simp only [Bool.not_true, Bool.not_false, Option.isNone_none, Option.isSome_some, Option.isSome_none, Option.isNone_some, List.isEmpty_nil, List.isEmpty_cons, if_true, if_false, Bool.false_eq_true, reduceIte]
      rw [ret_bnd]
      simp only [Bool.not_true, Bool.not_false, Option.isNone_none, Option.isSome_some, Option.isSome_none, Option.isNone_some, List.isEmpty_nil, List.isEmpty_cons, if_true, if_false, Bool.false_eq_true, reduceIte]
      rw [Bool.false_and]
      simp only [Bool.not_true, Bool.not_false, Option.isNone_none, Option.isSome_some, Option.isSome_none, Option.isNone_some, List.isEmpty_nil, List.isEmpty_cons, if_true, if_false, Bool.false_eq_true, reduceIte]
      rw [List.append_nil]
    | true =>
      simp only [Bool.not_true, Bool.not_false, Option.isNone_none, Option.isSome_some, Option.isSome_none, Option.isNone_some, List.isEmpty_nil, List.isEmpty_cons, if_true, if_false, Bool.false_eq_true, reduceIte]
      have h1 := idx_cause F true xs ev
      rw [e__law_cause W hok he, ret_bnd, ← bnd_bnd, h1, ret_bnd, Bool.true_and]
      cases isCause F true xs ev with
      | false => simp only [Bool.not_true, Bool.not_false, Option.isNone_none, Option.isSome_some, Option.isSome_none, Option.isNone_some, List.isEmpty_nil, List.isEmpty_cons, if_true, if_false, Bool.false_eq_true, reduceIte]; rw [List.append_nil]
      | true =>
        simp only [Bool.not_true, Bool.not_false, Option.isNone_none, Option.isSome_some, Option.isSome_none, Option.isNone_some, List.isEmpty_nil, List.isEmpty_cons, if_true, if_false, Bool.false_eq_true, reduceIte]
        have hlen := allW_len (ev := ev) W hok (b := true)
        rw [e__law_witnesses W hok he, ret_bnd, mp_ret (g := fun w : List Int × Deed => (xs.length : Int) + (w.2.length : Int)) (fun _ _ => rfl), ret_bnd, lft_line (by rw [List.length_map]; omega)]
  · intro xs hxs
    split
    · rw [List.length_map]
      exact allW_len W (ok_sub W ((mem_subsF _ _).1 hxs))
    · simp
  · rw [subsF_len, upto_len]
    have : 2 ^ (F.1.length : Int).toNat ≤ 2 ^ 4 := Nat.pow_le_pow_right (by omega) (by omega)
    simp only [List.length_nil]
    omega
/-- a duty as a number -/
def dq : Option Int → Rat
  | none => 0
  | some k => Rat.divInt 1 k
theorem dutyV_nf {o : Option Int} (h : ∀ k, o = some k → 1 ≤ k) : dutyV o = nf (dq o) := by
  cases o with
  | none => rfl
  | some k =>
    have := h k rfl
    unfold dutyV dq
    rw [← frac_nf 1 (by omega)]
    simp
theorem duty_bounds (W : WF F) (hx : InN F x) (he : EvOk F ev) {k : Int} (h : dutyO F x ev = some k) : 1 ≤ k ∧ k ≤ 8 := by
  have hs := dutyO_spec W hx he
  rw [h] at hs
  obtain ⟨⟨xs, hxs, e⟩, _⟩ := hs
  obtain ⟨w, hw⟩ := isCause_head hxs.2.2
  have hmem := (head_least hw).1
  have hok := ok_sub W hxs.1
  unfold sizeOf' at e
  rw [hw] at e
  simp only [Option.map_some, Option.getD_some] at e
  have h1 : 0 < xs.length := List.length_pos_of_mem hxs.2.1
  have h2 := hok.2
  have h3 : w.2.length ≤ 4 := by
    unfold allW at hmem
    obtain ⟨held, hh, hm⟩ := List.mem_flatMap.1 hmem
    unfold witsOf at hm
    obtain ⟨o, _, rfl⟩ := List.mem_map.1 hm
    exact (held_fits W hh).2
  omega
theorem duty_nf (W : WF F) (hx : InN F x) (he : EvOk F ev) : dutyV (dutyO F x ev) = nf (dq (dutyO F x ev)) := dutyV_nf fun k h => (duty_bounds W hx he h).1
theorem dq_den (W : WF F) (hx : InN F x) (he : EvOk F ev) : Sm 8 (dq (dutyO F x ev)) := by
  unfold Sm
  cases h : dutyO F x ev with
  | none => show (0 : Rat).den ≤ 8; decide
  | some k =>
    have := duty_bounds W hx he h
    have := den_divInt_le 1 (b := k) (by omega)
    show (Rat.divInt 1 k).den ≤ 8
    omega
theorem dutyV_sm (W : WF F) (hx : InN F x) (he : EvOk F ev) : 0 ≤ (dutyV (dutyO F x ev)).1 ∧ (dutyV (dutyO F x ev)).1 ≤ 1 ∧ 1 ≤ (dutyV (dutyO F x ev)).2 ∧ (dutyV (dutyO F x ev)).2 ≤ 8 := by
  cases h : dutyO F x ev with
  | none => simp [dutyV]
  | some k =>
    have := duty_bounds W hx he h
    simp only [dutyV]
    omega
end
/-- a context: functions and weight -/
abbrev Ct := Fn × Rat
noncomputable def blameQ (x : Int) (ev : Deed) (cs : List Ct) : Rat := cs.foldl (fun s c => s + dq (dutyO c.1 x ev) * c.2) 0
theorem blameQ_snoc (x : Int) (ev : Deed) (cs : List Ct) (c : Ct) : blameQ x ev (cs ++ [c]) = blameQ x ev cs + dq (dutyO c.1 x ev) * c.2 := by
  unfold blameQ
  rw [List.foldl_append]
  rfl
def CtOk (n : Nat) (c : Ct) : Prop := WF c.1 ∧ c.1.1.length = n ∧ Sm 15 c.2 ∧ 0 ≤ c.2.num ∧ c.2.num ≤ 15
theorem evOk_len {F G : Fn} {ev : Deed} (h : F.1.length = G.1.length) (he : EvOk F ev) : EvOk G ev := fun p hp => by
  have := he p hp
  unfold InN at this ⊢
  rw [← h]
  exact this
theorem inN_len {F G : Fn} {x : Int} (h : F.1.length = G.1.length) (hx : InN F x) : InN G x := by
  unfold InN at hx ⊢
  rw [← h]
  exact hx
theorem e_blame {F : Fn} {x : Int} {ev : Deed} (hx : InN F x) (he : EvOk F ev) (cs : List Ct) (h : ∀ c ∈ cs, CtOk F.1.length c) (hl : cs.length ≤ 3) : m_blame (cs.map fun c => (c.1, nf c.2)) x ev = Mr.ret (nf (blameQ x ev cs)) := by
  unfold m_blame
  simp only [ret_bnd, lft_some, bnd_bnd, bnd_ret, aft_inl, aft_inr]
  have key := fd_inv (step := fun (s6 : Int × Int) (a4 : Fn × (Int × Int)) => bnd (m_duty a4.1 x ev) fun y => bnd (m_times y a4.2) fun x23 => m_plus s6 x23) (g := fun pre => nf (blameQ x ev (cs.take pre.length))) (cs.map fun c => (c.1, nf c.2)) (by
    intro pre a post e
    have hpl : pre.length < cs.length := by
      have := congrArg List.length e
      rw [List.length_map, List.length_append, List.length_cons] at this
      omega
    have ha : a = (cs[pre.length].1, nf cs[pre.length].2) := by
      have h1 : (cs.map fun c => (c.1, nf c.2))[pre.length]? = some a := by rw [e]; simp
      rw [List.getElem?_map, List.getElem?_eq_getElem hpl] at h1
      exact (Option.some.inj h1).symm
    generalize hc : cs[pre.length] = c at ha
    have hok := h c (by rw [← hc]; exact List.getElem_mem _)
    subst ha
    obtain ⟨W, hlen, hsm, hn0, hn1⟩ := hok
    have hx' := inN_len hlen.symm hx
    have he' := evOk_len hlen.symm he
    rw [e_duty W hx' he', ret_bnd, duty_nf W hx' he']
    have hd := dq_den W hx' he'
    have hm : mulOk (nf (dq (dutyO c.1 x ev))).1 (nf c.2).1 = true := mulOk_r (by show _ < c.2.num; omega) (by show c.2.num < _; omega)
    rw [e_times (sm_mono hd (by decide)) (sm_mono hsm (by decide)) hm, ret_bnd]
    have hs : ∀ k ≤ cs.length, Sm (120 ^ k) (blameQ x ev (cs.take k)) := by
      intro k
      induction k with
      | zero => intro _; rw [List.take_zero]; show (0 : Rat).den ≤ 1; decide
      | succ k ih =>
        intro hk
        rw [List.take_add_one, List.getElem?_eq_getElem (by omega), Option.toList_some, blameQ_snoc, Nat.pow_succ]
        have hok := h cs[k] (List.getElem_mem _)
        exact den_add_le (ih (by omega)) (sm_mono (den_mul_le (dq_den hok.1 (inN_len hok.2.1.symm hx) (evOk_len hok.2.1.symm he)) hok.2.2.1) (by decide))
    have h1 := hs pre.length (by omega)
    have h2 : 120 ^ pre.length ≤ 120 ^ 3 := Nat.pow_le_pow_right (by omega) (by omega)
    rw [e_plus (sm_mono h1 (by omega)) (sm_mono (den_mul_le hd hsm) (by decide))]
    rw [List.length_append, List.length_singleton, List.take_add_one, List.getElem?_eq_getElem hpl, hc, Option.toList_some, blameQ_snoc])
  rw [List.length_map, List.take_length] at key
  exact key
end C68

namespace C68
open PySem Dv Mr Ac
/-! k68: the law -/
theorem alike_II (l : List (Int × Int)) (h : l.length ≤ 1000) : m__law_alike (eT (eP2 PyData.int PyData.int) l) (eT (eP2 PyData.int PyData.int) l) = Mr.ret true := by
  rw [e__law_alike (AO.mono (ao_T (k := 1) (by omega) fun x _ => ao_P2 (.int 0 _) (.int 0 _)) 19 (by decide)) ((dat_T (dat_P2 dat_int dat_int)).shaped (by decide) l), alikeB_self (af_T fun x => af_P2 (fun _ => .int _) (fun _ => .int _))]
theorem alike_P (p : Int × Int) : m__law_alike (eP2 PyData.int PyData.int p) (eP2 PyData.int PyData.int p) = Mr.ret true := by
  rw [e__law_alike (AO.mono (ao_P2 (k := 0) (.int 0 _) (.int 0 _)) 19 (by decide)) ((dat_P2 dat_int dat_int).shaped (by decide) p), alikeB_self (af_P2 (fun _ => .int _) (fun _ => .int _))]
theorem sum_bounds {l : List Int} (h : ∀ w ∈ l, 1 ≤ w ∧ w ≤ 5) (h3 : l.length ≤ 3) (h1 : 1 ≤ l.length) : 1 ≤ l.sum ∧ l.sum ≤ 15 ∧ ∀ w ∈ l, w ≤ l.sum := by
  match l, h, h3, h1 with
  | [a], h, _, _ => have := h a (by simp); simp; omega
  | [a, b], h, _, _ => have := h a (by simp); have := h b (by simp); simp; omega
  | [a, b, c], h, _, _ => have := h a (by simp); have := h b (by simp); have := h c (by simp); simp; omega
theorem may_law : May m_law fun b => b = true := by
  unfold m_law
  simp only [ret_bnd, lft_some, bnd_bnd, bnd_ret, aft_inl, aft_inr]
  refine may_bnd e__law_functions fun F hF => ?_
  obtain ⟨W, h2⟩ := hF
  refine may_bnd (e__law_event W h2) fun ev he => ?_
  have hn := W.n
  rw [rngO_ok (by omega) (by omega), lft_some, ret_bnd]
  rw [mp_ret (g := fun x => dutyV (dutyO F x ev)) (fun x hx => e__law_duty W (mem_upto.1 hx) he), ret_bnd, e_duties W he, ret_bnd]
  rw [alike_II _ (by rw [List.length_map, upto_len]; omega), ret_bnd]
  simp only [Bool.not_true, Bool.not_false, Option.isNone_none, Option.isSome_some, Option.isSome_none, Option.isNone_some, List.isEmpty_nil, List.isEmpty_cons, if_true, if_false, Bool.false_eq_true, reduceIte]
  rw [List.length_map, upto_len]
  refine may_bnd (may_take (by omega) (by omega)) fun x hx => ?_
  have hxN : InN F x := ⟨hx.1, by omega⟩
  rw [e_duty W hxN he, ret_bnd]
  have hat : L2.atI ((upto F.1.length).map fun x => dutyV (dutyO F x ev)) x = some (dutyV (dutyO F x ev)) := by
    rw [atI_some (0, 0) hx.1 (by rw [List.length_map, upto_len]; omega), List.getD_eq_getElem?_getD, List.getElem?_map]
    have : (upto (F.1.length : Int))[x.toNat]? = some x := by
      unfold upto
      rw [List.getElem?_map, List.getElem?_range (by omega)]
      simp
      omega
    rw [this]
    rfl
  rw [lft_ok hat, ret_bnd, alike_P, ret_bnd]
  simp only [Bool.not_true, Bool.not_false, Option.isNone_none, Option.isSome_some, Option.isSome_none, Option.isNone_some, List.isEmpty_nil, List.isEmpty_cons, if_true, if_false, Bool.false_eq_true, reduceIte]
  refine may_bnd (may_take (by omega) (by omega)) fun t ht => ?_
  rw [rngO_ok (by omega) (by omega), lft_some, ret_bnd]
  refine may_bnd (may_mp' (P := fun w => 1 ≤ w ∧ w ≤ 5) fun a ha => may_bnd (may_take (by omega) (by omega)) fun d hd => may_ret (by omega)) fun ws hws => ?_
  obtain ⟨hwl, hw⟩ := hws
  rw [upto_len] at hwl
  obtain ⟨hs1, hs2, hs3⟩ := sum_bounds hw (by omega) (by omega)
  generalize hsum : ws.sum = s at hs1 hs2 hs3
  refine may_bnd (may_fd (fun pre st => ∃ cs : List Ct, st.1 = cs.map (fun c => (c.1, nf c.2)) ∧ (∀ c ∈ cs, CtOk F.1.length c) ∧ cs.length = pre.length ∧ 0 < st.2.2 ∧ st.2.2 ≤ 120 ^ pre.length ∧ Rat.divInt st.2.1 st.2.2 = blameQ x ev cs) ?h0 ?hs) fun st hst => ?hend
  case h0 => exact ⟨[], rfl, by simp, rfl, by decide, by decide, rfl⟩
  case hend =>
    obtain ⟨cs, e1, e2, e3, e4, e5, e6⟩ := hst
    have hl3 : ws.length ≤ 3 := by omega
    have hp : 120 ^ ws.length ≤ 120 ^ 3 := Nat.pow_le_pow_right (by omega) hl3
    have hp' : (120 : Int) ^ ws.length ≤ 120 ^ 3 := by exact_mod_cast hp
    rw [e1, e_blame hxN he cs e2 (by omega), ret_bnd, e__law_ratio _ e4 (by omega), ret_bnd, e6, alike_P]
    exact may_ret rfl
  case hs =>
    intro pre w post st e hst
    obtain ⟨cs, e1, e2, e3, e4, e5, e6⟩ := hst
    have hww := hw w (by rw [e]; simp)
    have hws' := hs3 w (by rw [e]; simp)
    have hpl : pre.length < 3 := by
      have := congrArg List.length e
      rw [List.length_append, List.length_cons] at this
      omega
    refine may_bnd (may_mp (P := fun a y => y.1 = a.2.1 ∧ y.2.length = a.2.2.length ∧ ∀ z ∈ y.2, 0 ≤ z ∧ z < gI F.1 a.1) fun a ha => ?_) fun ys hys => ?_
    · obtain ⟨p, q, epq⟩ := List.append_of_mem ha
      obtain ⟨f1, f2⟩ := enumI_at epq
      have hlt := W.lt f1
      rw [List.length_map] at hlt
      have haN : InN F a.1 := ⟨by omega, by omega⟩
      have hsz := W.sz haN
      refine may_bnd (may_mp' (P := fun z => 0 ≤ z ∧ z < gI F.1 a.1) fun _ _ => ?_) fun zs hzs => may_ret ⟨rfl, hzs.1, hzs.2⟩
      rw [lft_ok (atI_gI haN.1 haN.2), ret_bnd]
      exact may_take (by omega) (by omega)
    · obtain ⟨hyl, hyP⟩ := hys
      have hel : (enumI F.2).length = F.2.length := by unfold enumI; simp
      have W' : WF (F.1, ys) := by
        refine ⟨W.n, by show ys.length = F.1.length; rw [hyl, hel, W.len], W.size, ?_⟩
        intro p r q epq
        have epq : ys = p ++ r :: q := epq
        have hpy : p.length < ys.length := by rw [epq]; simp
        have hpe : p.length < (enumI F.2).length := by omega
        have hP := hyP p.length hpe hpy
        have hr : ys[p.length] = r := by simp [epq]
        rw [hr] at hP
        have hsplit : enumI F.2 = (enumI F.2).take p.length ++ (enumI F.2)[p.length] :: (enumI F.2).drop (p.length + 1) := by
          rw [← List.drop_eq_getElem_cons hpe, List.take_append_drop]
        obtain ⟨f1, f2⟩ := enumI_at hsplit
        have hk : ((enumI F.2).take p.length).length = p.length := by rw [List.length_take]; omega
        obtain ⟨g1, g2, g3⟩ := W.rule _ _ _ f1
        rw [List.length_map, hk] at g1 g3
        rw [hk] at f2
        obtain ⟨q1, q2, q3⟩ := hP
        refine ⟨by rw [q1]; exact g1, by rw [q1, q2]; exact g2, ?_⟩
        rw [f2] at q3
        exact q3
      have hG : ∃ G : Fn, WF G ∧ G.1 = F.1 ∧ (if (!st.1.isEmpty) = true then Mr.ret (F.1, ys) else Mr.ret F) = Mr.ret G := by
        split
        · exact ⟨(F.1, ys), W', rfl, rfl⟩
        · exact ⟨F, W, rfl, rfl⟩
      obtain ⟨G, WG, hGF, hGe⟩ := hG
      have hGl : F.1.length = G.1.length := by rw [hGF]
      have hxG := inN_len hGl hxN
      have heG := evOk_len hGl he
      have hstl : st.1.length = pre.length := by rw [e1, List.length_map, e3]
      rw [hGe, ret_bnd, e__law_ratio w (by omega) (by omega), ret_bnd, lft_line (by omega), ret_bnd, e__law_duty WG hxG heG, ret_bnd]
      obtain ⟨b1, b2, b3, b4⟩ := dutyV_sm WG hxG heG
      have hdq : dq (dutyO G x ev) = Rat.divInt (dutyV (dutyO G x ev)).1 (dutyV (dutyO G x ev)).2 := by
        conv => lhs; rw [← divInt_nf (dq (dutyO G x ev))]
        rw [← duty_nf WG hxG heG]
      generalize dutyV (dutyO G x ev) = dv at b1 b2 b3 b4 hdq
      have hwd : 0 ≤ w * dv.1 ∧ w * dv.1 ≤ 5 := by
        rcases (show dv.1 = 0 ∨ dv.1 = 1 by omega) with h | h <;> rw [h] <;> omega
      rw [lft_pos (mulOk_r (by omega) (by omega)) rfl, ret_bnd, lft_pos (mulOk_r (by omega) (by omega)) rfl, ret_bnd, lft_pos (mulOk_r (by omega) (by omega)) rfl, ret_bnd, lft_pos (mulOk_l (by omega) (by omega)) rfl, ret_bnd, lft_pos (mulOk_r (by omega) (by omega)) rfl, ret_bnd, lft_pos (mulOk_r (by omega) (by omega)) rfl, ret_bnd]
      refine may_ret ⟨cs ++ [(G, Rat.divInt w s)], ?_, ?_, ?_, ?_, ?_, ?_⟩
      · rw [e1, List.map_append]; rfl
      · intro c hc
        rcases List.mem_append.1 hc with hc | hc
        · exact e2 c hc
        · rw [List.mem_singleton.1 hc]
          have hf := frac_nf w (b := s) (by omega)
          have hnum : (Rat.divInt w s).num = w / ((Nat.gcd w.natAbs s.natAbs : Nat) : Int) := (congrArg Prod.fst hf).symm
          have hg := gcd_bounds w (b := s) (by omega)
          refine ⟨WG, by rw [hGF], ?_, ?_, ?_⟩
          · have := den_divInt_le w (b := s) (by omega)
            show (Rat.divInt w s).den ≤ 15
            omega
          · show 0 ≤ (Rat.divInt w s).num
            rw [hnum]
            exact Int.ediv_nonneg (by omega) (by omega)
          · show (Rat.divInt w s).num ≤ 15
            rw [hnum]
            have := Int.ediv_le_self (((Nat.gcd w.natAbs s.natAbs : Nat) : Int)) (show 0 ≤ w by omega)
            omega
      · simp [e3]
      · exact Int.mul_pos (Int.mul_pos e4 (by omega)) (by omega)
      · show st.2.2 * dv.2 * s ≤ 120 ^ (pre ++ [w]).length
        rw [List.length_append, List.length_singleton, Int.pow_succ]
        have h1 : dv.2 * s ≤ 8 * 15 := Int.mul_le_mul b4 hs2 (by omega) (by omega)
        have h0 : 0 ≤ dv.2 * s := Int.mul_nonneg (by omega) (by omega)
        rw [Int.mul_assoc]
        exact Int.mul_le_mul e5 h1 h0 (Int.le_of_lt (Int.pow_pos (by decide)))
      · show Rat.divInt (st.2.1 * dv.2 * s + w * dv.1 * st.2.2) (st.2.2 * dv.2 * s) = _
        rw [blameQ_snoc, ← e6]
        show _ = _ + dq (dutyO G x ev) * Rat.divInt w s
        rw [hdq, Rat.divInt_mul_divInt, Rat.divInt_add_divInt _ _ (by omega) (by
          have := Int.mul_pos (show 0 < dv.2 by omega) (show 0 < s by omega)
          omega)]
        congr 1
        · rw [Int.mul_assoc, Int.mul_comm w dv.1]
        · rw [Int.mul_assoc]
theorem law_true : m_law fun b => b = true := may_law _ fun _ h => h
end C68

namespace C68
open PySem PySem.Spec PyProof.Rows L2 Dv
theorem pure : PureLaw ds G0 100 NLaw.length c_law := by
  intro ns _
  have hP : ds.map DI.fd = Ps := by kernel_rfl
  obtain ⟨r, x, h1, ⟨nw, S', h2, _⟩, h3⟩ := r_law 100 (by decide) ⟨ns, [0, 0, 0, 20]⟩ (fun b => b = true) ⟨rfl, Int.le_refl 0, Int.le_refl 0, Int.le_refl 0⟩ law_true
  subst h2 h3
  exact ⟨nw, S', by rw [hP]; exact h1⟩
def names : List Str := "_law_start" :: "law" :: ds.map (·.nm)
def dStart : He.DefD := ⟨("_law_start", none), "_law_start", "_law_start", defArgs (st iStart), defBody (st iStart), defScope (st iStart), [], []⟩
def dLaw : He.DefD := ⟨("law", none), "law", "law", defArgs (st iLaw), defBody (st iLaw), defScope (st iLaw), [], []⟩
def fn : List He.DefD := dStart :: dLaw :: ds.map DI.defD
abbrev R : PySem.W.OpenRow := PySem.W.OpenLaw.row PySem.Challenge.rw_causeworth_k68_duty_and_blame
abbrev hk : PySem.W.Hook := hookF 4 (factsB true names consts) fn
def ob (s : PySem.W.SharedT) : He.AlD := obsFG 4 (factsB true names consts) fn (HandSHeadRun.getT s)
theorem ob_eq (s : PySem.W.SharedT) : ob s = hk.obs s.abs := obsFG_eq (HandSHeadRun.getT_eq s)
theorem scStart : FnScope ["script", "cell"] ["script"] (defScope (st iStart)) := ⟨rfl, rfl, rfl, by decide +kernel, rfl, by decide +kernel, by decide +kernel⟩
theorem scLaw : FnScope ("script" :: "c" :: NLaw) ["script"] (defScope (st iLaw)) := ⟨rfl, rfl, rfl, by decide +kernel, rfl, by decide +kernel, by decide +kernel⟩
def scComp : Scope := (startB (defBody (st iStart))).getD (defScope (st iStart))
theorem hStart : startB (defBody (st iStart)) = some scComp := by kernel_rfl
theorem hStart2 : startOk (defScope (st iStart)) scComp = true := by kernel_rfl
theorem bStart (kV doc pm : Value) (an : Option Addr) (cdv ct : Value) (us : List Value) (hl : us.length = (["script"] : List Str).length) : bindArgs (PySem.W.fnOf "_law_start" "_law_start" (defArgs (st iStart)) (defBody (st iStart)) (defScope (st iStart)) .none kV doc pm an cdv ct) ⟨us, []⟩ = Pure.pure ((["script"] : List Str).zip us) :=
  match us, hl with | [_], _ => rfl
theorem bLaw (kV doc pm : Value) (an : Option Addr) (cdv ct : Value) (us : List Value) (hl : us.length = (["script"] : List Str).length) : bindArgs (PySem.W.fnOf "law" "law" (defArgs (st iLaw)) (defBody (st iLaw)) (defScope (st iLaw)) .none kV doc pm an cdv ct) ⟨us, []⟩ = Pure.pure ((["script"] : List Str).zip us) :=
  match us, hl with | [_], _ => rfl
def lawFirst : Stmt := (defBody (st iLaw)).headD (.Pass ⟨0, 0, 0, 0⟩)
def lawRest : List Stmt := (defBody (st iLaw)).tail
theorem hBody : defBody (st iLaw) = lawFirst :: lawRest := by kernel_rfl
theorem hFirst : firstB lawFirst = true := by kernel_rfl
theorem hLawOk : lawOk (defScope (st iLaw)) = true := by kernel_rfl
theorem hCode : lawRest.mapM (cS ("script" :: "c" :: NLaw) 40 ⟨defScope (st iLaw), fun _ => true, fns, true⟩) = some c_law := by kernel_rfl
theorem facts {P : Program} {w : World} {K : PySem.W.Frag} {h : Heap} {mg : Str → Option Value} {f : Addr} (X : K.In h) (N : h.Ns mainGlobals mg) (hfa : mg ("law" : Str) = some (.ref f)) (c : SaysF (factsB true names consts) fn K) :
    ∃ fd : FuncData, (∀ (s : Shared) (v : Value), BindsTo s fd ⟨[v], []⟩ [("script", v)]) ∧ ∀ base : Heap, K.In base → base.Ns mainGlobals mg → FnOk P w K mg base CX0 101 f fd ["script"] (spLaw K) := by
  have e : ∀ pc, Env1 K mg pc G0 fns true ds := env_of X N c (fun d hd => List.mem_cons_of_mem _ (List.mem_cons_of_mem _ (List.mem_map.mpr ⟨d, hd, rfl⟩))) (fun d hd => List.mem_cons_of_mem _ (List.mem_cons_of_mem _ (List.mem_map.mpr ⟨d, hd, rfl⟩))) ok_all b_all (by kernel_rfl) (by decide +kernel) (factsB.int X N c.fact)
  obtain ⟨fds, Fs⟩ := c.def_ (d := dStart) List.mem_cons_self
  obtain ⟨fd, F⟩ := c.def_ (d := dLaw) (List.mem_cons_of_mem _ List.mem_cons_self)
  have ms := factsB.glo X N c.fact "_law_start" List.mem_cons_self
  have ml := factsB.glo X N c.fact "law" (List.mem_cons_of_mem _ List.mem_cons_self)
  rw [hfa] at ml
  cases ml
  have F : FunD K "law" "law" (defArgs (st iLaw)) (defBody (st iLaw)) (defScope (st iLaw)) [] [] _ fd := F
  have Fs : FunD K "_law_start" "_law_start" (defArgs (st iStart)) (defBody (st iStart)) (defScope (st iStart)) [] [] _ fds := Fs
  have b := FunD.bindsA (ps := ["script"]) F bLaw
  have bs := FunD.bindsN (ps := ["script"]) Fs bStart
  refine ⟨fd, fun s v => b s [v] rfl, fun base _ _ => ?_⟩
  have hi := (e 0).blt "int" (by decide)
  have F2 := F
  rw [hBody] at F2
  exact law_ok e F2 scLaw hFirst hLawOk hCode (start_ok Fs scStart hStart hStart2 hi 99) ms Fs.kp bs pure
def loose : List Str := "__name__" :: "_law_start" :: ds.map (·.nm)
theorem run (w : World) : HandSHeadRun.RunEqI R (PySem.W.view R.prog [0, iLaw]) hk ob 4000 loose w := by
  unfold HandSHeadRun.RunEqI
  kernel_rfl
end C68
open PySem PySem.W PySem.Calls PyProof.Rows
theorem PySem.Challenge.cw_causeworth_k68_duty_and_blame_holds : PySem.Challenge.rw_causeworth_k68_duty_and_blame.Holds := by
  w_on; o_law
  refine HandSHeadRun.head_imp (r := OpenLaw.row PySem.Challenge.rw_causeworth_k68_duty_and_blame) (q := view (OpenLaw.row PySem.Challenge.rw_causeworth_k68_duty_and_blame).prog [0, C68.iLaw]) (H := C68.hk) (ob := C68.ob) (M := 4000) (loose := C68.loose) (d := HandSHeadRun.topDef (OpenLaw.row PySem.Challenge.rw_causeworth_k68_duty_and_blame).prog C68.iLaw) (kwd := []) C68.ob_eq
    C68.run (by kernel_rfl) (by kernel_rfl) (by kernel_rfl) (by rfl) (by first | assumption | decide +kernel) (by decide +kernel) ⟨rfl, rfl, rfl, rfl, rfl, by decide +kernel⟩ ?hw ?hc
  case hw => w_witness2
  case hc =>
    refine L2.walk_ofE (l := PySem.Challenge.rw_causeworth_k68_duty_and_blame) (n := 63) (k := 101) (x := "script") (CX := L2.CX0) rfl (by decide) (by kernel_rfl) ⟨rfl, by decide, by decide⟩ ?F (fun _ _ _ _ z => z)
    intro w mg fa h Y G hmg0
    obtain ⟨K, KX, c⟩ := Y
    have hmg : mg ("law" : PySem.Str) = some (.ref fa) := by
      have e : (HandSHeadRun.topDef (OpenLaw.row PySem.Challenge.rw_causeworth_k68_duty_and_blame).prog C68.iLaw).name = ("law" : PySem.Str) := by kernel_rfl
      rw [← e]
      exact hmg0
    obtain ⟨fd, hb, hF⟩ := C68.facts (P := (PySem.Challenge.rw_causeworth_k68_duty_and_blame).prog) (w := w) KX G hmg c
    exact ⟨K, fd, Dv.spLaw K, KX, hb, fun H a ns hl _ hS => ⟨a, ns, rfl, hS, hl, fun _ => rfl⟩, hF⟩
